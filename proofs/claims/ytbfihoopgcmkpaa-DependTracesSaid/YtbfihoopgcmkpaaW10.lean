/- A part of the proof: walks through the program's functions, and what they compute. -/
import Derived.Test.YtbfihoopgcmkpaaTryTab
import Derived.Test.YtbfihoopgcmkpaaMdl
import Derived.Test.YtbfihoopgcmkpaaEngT
import Derived.Test.YtbfihoopgcmkpaaW9
namespace Go.Eng.Try
open Go.RowKit Go.Eng
set_option linter.unusedSimpArgs false
set_option linter.unusedVariables false

def lex (a b : Access) : Prop := a.kind < b.kind ∨ a.kind = b.kind ∧ a.num < b.num
theorem countP_one {p : Access → Bool} : ∀ {l : List Access}, l.Pairwise (fun a b => ¬ (p a = true ∧ p b = true)) → l.countP p = if l.any p then 1 else 0
  | [], _ => rfl
  | a :: l, h => by
    rw [List.pairwise_cons] at h
    have ih := countP_one h.2
    rw [List.countP_cons, ih, List.any_cons]
    cases ha : p a with
    | false => simp
    | true =>
      have : l.any p = false := by
        rw [List.any_eq_false]
        intro b hb hpb
        exact h.1 b hb ⟨ha, hpb⟩
      simp [this]
theorem right_chain {e : Event} (h : right e = true) : ∀ (j : Nat), (j : Int) < e.touches → ∀ i, i < j → lex (e.touch.getD i default) (e.touch.getD j default) := by
  simp only [right, Bool.and_eq_true, decide_eq_true_eq] at h
  obtain ⟨⟨⟨⟨h1, h2⟩, h3⟩, h4⟩, h5, _⟩ := h
  intro j
  induction j with
  | zero => intro _ i hi; omega
  | succ j ih =>
    intro hj i hi
    have hp := List.all_eq_true.1 h5 (j + 1) (List.mem_range.2 (by omega))
    simp only [placeOk, show ¬ e.touches ≤ ((j + 1 : Nat) : Int) by omega, if_false, Bool.and_eq_true, Bool.or_eq_true, decide_eq_true_eq, cmp_neg] at hp
    have hadj : lex (e.touch.getD j default) (e.touch.getD (j + 1) default) := by
      rcases hp.2 with h | h
      · omega
      · exact h
    by_cases hij : i = j
    · subst hij; exact hadj
    · have h0 := ih (by omega) i (by omega)
      unfold lex at *
      omega
theorem countP_right {e : Event} (he : e.touch.length = 6) (h : right e = true) (k u : Int) : e.of.countP (isAt k u) = if hits e k u then 1 else 0 := by
  refine countP_one ?_
  rw [List.pairwise_iff_getElem]
  intro i j hi hj hij
  have hm : e.of.length ≤ 6 := e.of_len he
  have hlen : e.of.length = min (max 0 (min 6 e.touches)).toNat 6 := by simp [Event.of, he]
  have hlex := right_chain h j (by omega) i hij
  have g : ∀ x (hx : x < e.of.length), e.of[x] = e.touch.getD x default := by
    intro x hx
    simp only [Event.of, List.getElem_take, List.getD_eq_getElem?_getD, List.getElem?_eq_getElem (show x < e.touch.length by omega), Option.getD_some]
  rw [g i hi, g j hj]
  unfold lex at hlex
  simp only [isAt, Bool.and_eq_true, decide_eq_true_eq]
  omega
theorem refTo_users {t : List Event} (h6 : ∀ e ∈ t, e.touch.length = 6) (hr : t.all right = true) (k u : Int) : ∀ i, i ≤ t.length → refTo t k u i = usersTo t k u i
  | 0, _ => rfl
  | i + 1, h => by
    have hm := getD_mem t (show i < t.length by omega)
    rw [refTo_succ, refTo_users h6 hr k u i (by omega), countP_right (h6 _ hm) (List.all_eq_true.1 hr _ hm)]
    cases hh : hits (t.getD i default) k u with
    | true => rw [usersTo_hit hh]; rfl
    | false => rw [usersTo_miss hh]; simp
theorem check_right {t : List Event} (h : check t = 0) : t.all right = true := by
  unfold check at h
  split at h
  · cases h
  · cases hr : t.all right with
    | true => rfl
    | false => rw [hr] at h; cases h
theorem users_ref {t : List Event} (h6 : ∀ e ∈ t, e.touch.length = 6) (h : check t = 0) (k u : Int) : users t k u = refTo t k u t.length := by
  rw [refTo_users h6 (check_right h) k u _ (Nat.le_refl _)]
  simp [users, h]
theorem users_len (t : List Event) (k u : Int) : (users t k u).length ≤ t.length := by
  unfold users; split
  · exact usersTo_len _ _ _ _
  · simp

attribute [local go_sem] Option.getD_some St.keep List.filterMap_cons List.filterMap_nil Option.map_some Option.map_none opG opQ opB newEs outE CallStepB guardA putK putE pureA evalO evalL constE pickA loadA fieldAddrA indexAddrA indexA sliceA evalOptI builtinA binA plainA shiftA eqA arith shifts effA storeA appendA St.kill Tm.kill E.kill E.killL Obj.kill elemsOf evalVs buildA okAt toV fromV zeroE V.get V.put V.sub V.setSub fromVs args0 CallStep CallStepQ i64min i64max u64min u64max u32min u32max u8min u8max Nat.zero_add List.length_map List.lookup_cons List.lookup_nil List.getElem?_cons_zero List.getElem?_cons_succ List.getElem?_toArray List.getElem?_nil Option.bind_some Option.bind_none List.size_toArray List.length_cons List.length_nil List.nil_append List.append_nil List.cons_append List.getD_cons_zero List.getD_cons_succ List.map_cons List.map_nil List.set_cons_zero List.set_cons_succ true_and and_true forall_const true_implies Bool.true_and Bool.and_true Bool.not_true Bool.not_false Bool.false_and Bool.and_false beq_self_eq_true Bool.true_beq Bool.false_beq beq_true beq_false eq_self false_implies V.toInt_int V.toBool_bool V.toList_list V.toList_agg V.toStr_str V.deref_ref if_true if_false Bool.false_eq_true Option.isSome_none Option.isSome_some Bool.false_or Bool.true_or Bool.or_false Bool.or_true cond_true cond_false implies_true and_self imp_self ty33 ty32 ty34 ty3 ty4 ty22 ty27 ty28 ty30 ty25 ty2 concat_at zero27 z27 z3 z4 Int.toNat_natCast Int.natCast_zero Event.v0 Event.v7 Event.v8 Access.v0 Access.v1 Access.v2 beq_acc
-- scarab/scarablaw10.DependUses
theorem dependUses_ctr (t : List Event) (k u : Int) (ht : t.length ≤ maxLen) (h6 : ∀ e ∈ t, e.touch.length = 6) : Ctr Go.Proofs.Try.prog tab 5 [32, 3, 3] [4] [.list (t.map Event.v), .int k, .int u] [.bool true] := by
  have hu : (users t k u).length ≤ maxLen := Nat.le_trans (users_len t k u) ht
  refine Ctr.body ok Go.Proofs.Try.func5 rfl rfl 37 rfl [.tmp 6] rfl (by simp [fromVs]) ?_
  simp only [fromVs, fromV, args0, V.toList_list, V.toInt_int, V.toBool_bool, Nat.zero_add, Nat.reduceAdd, ty3, ty32]
  refine SA.seq ?_
  refine SA.region ok (by kernel_rfl) [0, 1, 2] ?_
  intro R hR
  simp only [go_sem, strip]
  iterate 1 (refine opsA_cons fun R1 hR1 => ?_; simp only [go_sem, Nat.reduceBEq, Nat.reduceLT, Nat.reduceEqDiff, Nat.reduceAdd, Int.reduceLE, Int.reduceLT, Int.reduceNeg, Int.reduceEq, Int.reduceToNat, reduceCtorEq]; (repeat' with_reducible refine And.intro ?_ ?_); all_goals first | (refine hR1 _ ?_; clear hR1 R1) | omega | rfl | decide | assumption | (intro _; omega) | (simp; done) | (simp; omega) | (simp [roomFor, maxLen, by27, by3] <;> omega))
  refine opsA_nil (hR _ ?_)
  clear hR R
  try simp only [go_sem, Nat.reduceBEq]
  refine thenK.normal ?_
  refine SA.seq ?_
  refine SA.region ok (by kernel_rfl) [0, 1, 2, 7, 8] ?_
  intro R hR
  simp only [go_sem, strip]
  iterate 3 (refine opsA_cons fun R1 hR1 => ?_; simp only [go_sem, Nat.reduceBEq, Nat.reduceLT, Nat.reduceEqDiff, Nat.reduceAdd, Int.reduceLE, Int.reduceLT, Int.reduceNeg, Int.reduceEq, Int.reduceToNat, reduceCtorEq]; (repeat' with_reducible refine And.intro ?_ ?_); all_goals first | (refine hR1 _ ?_; clear hR1 R1) | omega | rfl | decide | assumption | (intro _; omega) | (simp; done) | (simp; omega) | (simp [roomFor, maxLen, by27, by3] <;> omega))
  refine opsA_cons fun R1 hR1 => ?_
  simp only [go_sem, Nat.reduceBEq, Nat.reduceLT, Nat.reduceEqDiff, Nat.reduceAdd, Int.reduceLE, Int.reduceLT, Int.reduceNeg, Int.reduceEq, Int.reduceToNat, reduceCtorEq]
  repeat' with_reducible refine And.intro ?_ ?_
  all_goals try (first | omega | assumption | (intro _; omega))
  first | refine ⟨_, _, rfl, .inr (CallE.ctr ok (users_ctr t k u ht h6) (by first | rfl | (simp [argsV, contentV, toV, ty33, ty32, ty34, ty3, ty4, ty22, ty27, ty28, ty30, ty25, ty2, List.length_map, List.take_of_length_le])) ?_)⟩ | refine ⟨_, _, rfl, .inr ⟨fun _ => CallE.ctr ok (users_ctr t k u ht h6) (by first | rfl | (simp [argsV, contentV, toV, ty33, ty32, ty34, ty3, ty4, ty22, ty27, ty28, ty30, ty25, ty2, List.length_map, List.take_of_length_le])) ?_, ?_⟩⟩
  simp only [go_sem, Nat.reduceBEq, Nat.reduceLT, Nat.reduceEqDiff, Nat.reduceAdd, Int.reduceLE, Int.reduceLT, Int.reduceNeg, Int.reduceEq, Int.reduceToNat, reduceCtorEq]
  repeat' with_reducible refine And.intro ?_ ?_
  all_goals first | (refine hR1 _ ?_; clear hR1 R1) | omega | rfl | decide | assumption | (intro _; omega) | (simp; done) | (simp; omega) | (simp [roomFor, maxLen, by27, by3] <;> omega)
  iterate 5 (refine opsA_cons fun R1 hR1 => ?_; simp only [go_sem, Nat.reduceBEq, Nat.reduceLT, Nat.reduceEqDiff, Nat.reduceAdd, Int.reduceLE, Int.reduceLT, Int.reduceNeg, Int.reduceEq, Int.reduceToNat, reduceCtorEq]; (repeat' with_reducible refine And.intro ?_ ?_); all_goals first | (refine hR1 _ ?_; clear hR1 R1) | omega | rfl | decide | assumption | (intro _; omega) | (simp; done) | (simp; omega) | (simp [roomFor, maxLen, by27, by3] <;> omega))
  refine opsA_nil (hR _ ?_)
  clear hR R
  try simp only [go_sem, Nat.reduceBEq]
  refine thenK.normal ?_
  refine SA.seq ?_
  refine SA.region ok (by kernel_rfl) [0, 1, 2, 7, 8, 9] ?_
  intro R hR
  simp only [go_sem, strip]
  iterate 1 (refine opsA_cons fun R1 hR1 => ?_; simp only [go_sem, Nat.reduceBEq, Nat.reduceLT, Nat.reduceEqDiff, Nat.reduceAdd, Int.reduceLE, Int.reduceLT, Int.reduceNeg, Int.reduceEq, Int.reduceToNat, reduceCtorEq]; (repeat' with_reducible refine And.intro ?_ ?_); all_goals first | (refine hR1 _ ?_; clear hR1 R1) | omega | rfl | decide | assumption | (intro _; omega) | (simp; done) | (simp; omega) | (simp [roomFor, maxLen, by27, by3] <;> omega))
  refine opsA_cons fun R1 hR1 => ?_
  simp only [go_sem, Nat.reduceBEq, Nat.reduceLT, Nat.reduceEqDiff, Nat.reduceAdd, Int.reduceLE, Int.reduceLT, Int.reduceNeg, Int.reduceEq, Int.reduceToNat, reduceCtorEq]
  repeat' with_reducible refine And.intro ?_ ?_
  all_goals try (first | omega | assumption | (intro _; omega))
  first | refine ⟨_, _, rfl, .inl ⟨_, CallQ.ctr ok (refCheck_ctr t ht h6) (by first | rfl | (simp [argsV, contentV, toV, ty33, ty32, ty34, ty3, ty4, ty22, ty27, ty28, ty30, ty25, ty2, List.length_map, List.take_of_length_le])) rfl, ?_⟩⟩ | refine ⟨_, _, rfl, .inl ⟨_, fun hg => CallQ.ctr ok (refCheck_ctr t ht h6) (by first | rfl | (simp [argsV, contentV, toV, ty33, ty32, ty34, ty3, ty4, ty22, ty27, ty28, ty30, ty25, ty2, List.length_map, List.take_of_length_le])) rfl, ?_⟩⟩
  simp only [go_sem, Nat.reduceBEq, Nat.reduceLT, Nat.reduceEqDiff, Nat.reduceAdd, Int.reduceLE, Int.reduceLT, Int.reduceNeg, Int.reduceEq, Int.reduceToNat, reduceCtorEq]
  repeat' with_reducible refine And.intro ?_ ?_
  all_goals first | (refine hR1 _ ?_; clear hR1 R1) | omega | rfl | decide | assumption | (intro _; omega) | (simp; done) | (simp; omega) | (simp [roomFor, maxLen, by27, by3] <;> omega)
  iterate 1 (refine opsA_cons fun R1 hR1 => ?_; simp only [go_sem, Nat.reduceBEq, Nat.reduceLT, Nat.reduceEqDiff, Nat.reduceAdd, Int.reduceLE, Int.reduceLT, Int.reduceNeg, Int.reduceEq, Int.reduceToNat, reduceCtorEq]; (repeat' with_reducible refine And.intro ?_ ?_); all_goals first | (refine hR1 _ ?_; clear hR1 R1) | omega | rfl | decide | assumption | (intro _; omega) | (simp; done) | (simp; omega) | (simp [roomFor, maxLen, by27, by3] <;> omega))
  refine opsA_nil (hR _ ?_)
  clear hR R
  try simp only [go_sem, Nat.reduceBEq]
  refine thenK.normal ?_
  refine SA.seq ?_
  refine SA.seq ?_
  refine SA.region ok (by kernel_rfl) [0, 1, 2, 7, 9, 25] ?_
  intro R hR
  simp only [go_sem, strip]
  iterate 4 (refine opsA_cons fun R1 hR1 => ?_; simp only [go_sem, Nat.reduceBEq, Nat.reduceLT, Nat.reduceEqDiff, Nat.reduceAdd, Int.reduceLE, Int.reduceLT, Int.reduceNeg, Int.reduceEq, Int.reduceToNat, reduceCtorEq]; (repeat' with_reducible refine And.intro ?_ ?_); all_goals first | (refine hR1 _ ?_; clear hR1 R1) | omega | rfl | decide | assumption | (intro _; omega) | (simp; done) | (simp; omega) | (simp [roomFor, maxLen, by27, by3] <;> omega))
  refine opsA_cons fun R1 hR1 => ?_
  simp only [go_sem, Nat.reduceBEq, Nat.reduceLT, Nat.reduceEqDiff, Nat.reduceAdd, Int.reduceLE, Int.reduceLT, Int.reduceNeg, Int.reduceEq, Int.reduceToNat, reduceCtorEq]
  repeat' with_reducible refine And.intro ?_ ?_
  all_goals try (first | omega | assumption | (intro _; omega))
  first | refine ⟨_, _, rfl, .inl ⟨_, CallQ.ctr ok (speaks_ctr) (by first | rfl | (simp [argsV, contentV, toV, ty33, ty32, ty34, ty3, ty4, ty22, ty27, ty28, ty30, ty25, ty2, List.length_map, List.take_of_length_le])) rfl, ?_⟩⟩ | refine ⟨_, _, rfl, .inl ⟨_, fun hg => CallQ.ctr ok (speaks_ctr) (by first | rfl | (simp [argsV, contentV, toV, ty33, ty32, ty34, ty3, ty4, ty22, ty27, ty28, ty30, ty25, ty2, List.length_map, List.take_of_length_le])) rfl, ?_⟩⟩
  simp only [go_sem, Nat.reduceBEq, Nat.reduceLT, Nat.reduceEqDiff, Nat.reduceAdd, Int.reduceLE, Int.reduceLT, Int.reduceNeg, Int.reduceEq, Int.reduceToNat, reduceCtorEq]
  repeat' with_reducible refine And.intro ?_ ?_
  all_goals first | (refine hR1 _ ?_; clear hR1 R1) | omega | rfl | decide | assumption | (intro _; omega) | (simp; done) | (simp; omega) | (simp [roomFor, maxLen, by27, by3] <;> omega)
  iterate 2 (refine opsA_cons fun R1 hR1 => ?_; simp only [go_sem, Nat.reduceBEq, Nat.reduceLT, Nat.reduceEqDiff, Nat.reduceAdd, Int.reduceLE, Int.reduceLT, Int.reduceNeg, Int.reduceEq, Int.reduceToNat, reduceCtorEq]; (repeat' with_reducible refine And.intro ?_ ?_); all_goals first | (refine hR1 _ ?_; clear hR1 R1) | omega | rfl | decide | assumption | (intro _; omega) | (simp; done) | (simp; omega) | (simp [roomFor, maxLen, by27, by3] <;> omega))
  refine opsA_nil (hR _ ?_)
  clear hR R
  try simp only [go_sem, Nat.reduceBEq]
  refine thenK.normal ?_
  refine SA.cond rfl ?_ ?_
  · intro hb1
    skip
    simp at hb1
  · intro hb1
    try simp at hb1
    refine SA.skip ?_
    refine thenK.normal ?_
    refine SA.seq ?_
    refine SA.seq ?_
    refine SA.region ok (by kernel_rfl) [0, 1, 2, 7, 27] ?_
    intro R hR
    simp only [go_sem, strip]
    iterate 2 (refine opsA_cons fun R1 hR1 => ?_; simp only [go_sem, Nat.reduceBEq, Nat.reduceLT, Nat.reduceEqDiff, Nat.reduceAdd, Int.reduceLE, Int.reduceLT, Int.reduceNeg, Int.reduceEq, Int.reduceToNat, reduceCtorEq]; (repeat' with_reducible refine And.intro ?_ ?_); all_goals first | (refine hR1 _ ?_; clear hR1 R1) | omega | rfl | decide | assumption | (intro _; omega) | (simp; done) | (simp; omega) | (simp [roomFor, maxLen, by27, by3] <;> omega))
    refine opsA_nil (hR _ ?_)
    clear hR R
    try simp only [go_sem, Nat.reduceBEq]
    refine thenK.normal ?_
    refine SA.cond rfl ?_ ?_
    · intro hb2
      try simp at hb2
      refine SA.seq ?_
      refine SA.region ok (by kernel_rfl) [6] ?_
      intro R hR
      simp only [go_sem, strip]
      iterate 4 (refine opsA_cons fun R1 hR1 => ?_; simp only [go_sem, Nat.reduceBEq, Nat.reduceLT, Nat.reduceEqDiff, Nat.reduceAdd, Int.reduceLE, Int.reduceLT, Int.reduceNeg, Int.reduceEq, Int.reduceToNat, reduceCtorEq]; (repeat' with_reducible refine And.intro ?_ ?_); all_goals first | (refine hR1 _ ?_; clear hR1 R1) | omega | rfl | decide | assumption | (intro _; omega) | (simp; done) | (simp; omega) | (simp [roomFor, maxLen, by27, by3] <;> omega))
      refine opsA_nil (hR _ ?_)
      clear hR R
      try simp only [go_sem, Nat.reduceBEq]
      refine thenK.normal ?_
      refine SA.ret ?_
      refine thenK.ret ?_
      refine ctrK.ret ?_
      simp only [resA, evalO, resV, backK, outE, toV, ty4, ty3, List.lookup_cons, List.lookup_nil, beq_self_eq_true, forall_const, true_and, and_true]
      refine ⟨rfl, ?_⟩
      simp [users, hb2]
    · intro hb2
      try simp at hb2
      refine SA.skip ?_
      refine thenK.normal ?_
      refine SA.seq ?_
      refine SA.region ok (by kernel_rfl) [6] ?_
      intro R hR
      simp only [go_sem, strip]
      iterate 4 (refine opsA_cons fun R1 hR1 => ?_; simp only [go_sem, Nat.reduceBEq, Nat.reduceLT, Nat.reduceEqDiff, Nat.reduceAdd, Int.reduceLE, Int.reduceLT, Int.reduceNeg, Int.reduceEq, Int.reduceToNat, reduceCtorEq]; (repeat' with_reducible refine And.intro ?_ ?_); all_goals first | (refine hR1 _ ?_; clear hR1 R1) | omega | rfl | decide | assumption | (intro _; omega) | (simp; done) | (simp; omega) | (simp [roomFor, maxLen, by27, by3] <;> omega))
      refine opsA_cons fun R1 hR1 => ?_
      simp only [go_sem, Nat.reduceBEq, Nat.reduceLT, Nat.reduceEqDiff, Nat.reduceAdd, Int.reduceLE, Int.reduceLT, Int.reduceNeg, Int.reduceEq, Int.reduceToNat, reduceCtorEq]
      repeat' with_reducible refine And.intro ?_ ?_
      all_goals try (first | omega | assumption | (intro _; omega))
      first | refine ⟨_, _, rfl, .inr (CallE.ctr ok (refUsers_ctr t k u (check_len hb2) h6) (by first | rfl | (simp [argsV, contentV, toV, ty33, ty32, ty34, ty3, ty4, ty22, ty27, ty28, ty30, ty25, ty2, List.length_map, List.take_of_length_le])) ?_)⟩ | refine ⟨_, _, rfl, .inr ⟨fun _ => CallE.ctr ok (refUsers_ctr t k u (check_len hb2) h6) (by first | rfl | (simp [argsV, contentV, toV, ty33, ty32, ty34, ty3, ty4, ty22, ty27, ty28, ty30, ty25, ty2, List.length_map, List.take_of_length_le])) ?_, ?_⟩⟩
      simp only [go_sem, Nat.reduceBEq, Nat.reduceLT, Nat.reduceEqDiff, Nat.reduceAdd, Int.reduceLE, Int.reduceLT, Int.reduceNeg, Int.reduceEq, Int.reduceToNat, reduceCtorEq]
      repeat' with_reducible refine And.intro ?_ ?_
      all_goals first | (refine hR1 _ ?_; clear hR1 R1) | omega | rfl | decide | assumption | (intro _; omega) | (simp; done) | (simp; omega) | (simp [roomFor, maxLen, by27, by3] <;> omega)
      refine opsA_cons fun R1 hR1 => ?_
      simp only [go_sem, Nat.reduceBEq, Nat.reduceLT, Nat.reduceEqDiff, Nat.reduceAdd, Int.reduceLE, Int.reduceLT, Int.reduceNeg, Int.reduceEq, Int.reduceToNat, reduceCtorEq]
      repeat' with_reducible refine And.intro ?_ ?_
      all_goals try (first | omega | assumption | (intro _; omega))
      first | refine ⟨_, _, rfl, .inl ⟨_, CallQ.ctr ok (sameInts_ctr (users t k u) (refTo t k u t.length) hu (by have := refTo_len t k u h6 _ (Nat.le_refl _); have := check_len hb2; unfold maxLen; omega)) (by first | rfl | (simp [argsV, contentV, toV, ty33, ty32, ty34, ty3, ty4, ty22, ty27, ty28, ty30, ty25, ty2, List.length_map, List.take_of_length_le])) rfl, ?_⟩⟩ | refine ⟨_, _, rfl, .inl ⟨_, fun hg => CallQ.ctr ok (sameInts_ctr (users t k u) (refTo t k u t.length) hu (by have := refTo_len t k u h6 _ (Nat.le_refl _); have := check_len hb2; unfold maxLen; omega)) (by first | rfl | (simp [argsV, contentV, toV, ty33, ty32, ty34, ty3, ty4, ty22, ty27, ty28, ty30, ty25, ty2, List.length_map, List.take_of_length_le])) rfl, ?_⟩⟩
      simp only [go_sem, Nat.reduceBEq, Nat.reduceLT, Nat.reduceEqDiff, Nat.reduceAdd, Int.reduceLE, Int.reduceLT, Int.reduceNeg, Int.reduceEq, Int.reduceToNat, reduceCtorEq]
      repeat' with_reducible refine And.intro ?_ ?_
      all_goals first | (refine hR1 _ ?_; clear hR1 R1) | omega | rfl | decide | assumption | (intro _; omega) | (simp; done) | (simp; omega) | (simp [roomFor, maxLen, by27, by3] <;> omega)
      iterate 1 (refine opsA_cons fun R1 hR1 => ?_; simp only [go_sem, Nat.reduceBEq, Nat.reduceLT, Nat.reduceEqDiff, Nat.reduceAdd, Int.reduceLE, Int.reduceLT, Int.reduceNeg, Int.reduceEq, Int.reduceToNat, reduceCtorEq]; (repeat' with_reducible refine And.intro ?_ ?_); all_goals first | (refine hR1 _ ?_; clear hR1 R1) | omega | rfl | decide | assumption | (intro _; omega) | (simp; done) | (simp; omega) | (simp [roomFor, maxLen, by27, by3] <;> omega))
      refine opsA_nil (hR _ ?_)
      clear hR R
      try simp only [go_sem, Nat.reduceBEq]
      refine thenK.normal ?_
      refine SA.ret ?_
      refine ctrK.ret ?_
      simp only [resA, evalO, resV, backK, outE, toV, ty4, ty3, List.lookup_cons, List.lookup_nil, beq_self_eq_true, forall_const, true_and, and_true]
      refine ⟨rfl, ?_⟩
      simp [users_ref h6 hb2]

end Go.Eng.Try
