/- A part of the proof: walks through the program's functions, and what they compute. -/
import Derived.Test.YtbfihoopgcmkpaaTryTab
import Derived.Test.YtbfihoopgcmkpaaMdl
import Derived.Test.YtbfihoopgcmkpaaEngT
import Derived.Test.YtbfihoopgcmkpaaW13
import Derived.Test.YtbfihoopgcmkpaaEngV
namespace Go.Eng.Try
open Go.RowKit Go.Eng
set_option linter.unusedSimpArgs false
set_option linter.unusedVariables false

/-- Is an object written, by the events at these places? -/
def wrAt (t : List Event) (k u : Int) (l : List Int) : Bool := l.any fun p => (t.getD p.toNat default).of.any fun a => isAt k u a && a.write
def objOf (t : List Event) (k u : Int) : List Access := if (usersTo t k u t.length).length = 0 then [] else [⟨k, u, wrAt t k u (usersTo t k u t.length)⟩]
def numsTo (t : List Event) (k : Int) (n : Nat) : List Access := (List.range n).flatMap fun (u : Nat) => objOf t k (u : Int)
def kindsTo (t : List Event) (m : Nat) : List Access := (List.range m).flatMap fun j => numsTo t (j + 1 : Nat) (most (j + 1 : Nat)).toNat
theorem numsTo_succ (t : List Event) (k : Int) (n : Nat) : numsTo t k (n + 1) = numsTo t k n ++ objOf t k n := by simp [numsTo, List.range_succ]
theorem kindsTo_succ (t : List Event) (m : Nat) : kindsTo t (m + 1) = kindsTo t m ++ numsTo t (m + 1 : Nat) (most (m + 1 : Nat)).toNat := by simp [kindsTo, List.range_succ]
theorem numsTo_len (t : List Event) (k : Int) (n : Nat) : (numsTo t k n).length ≤ n := by
  induction n with
  | zero => simp [numsTo]
  | succ n ih =>
    rw [numsTo_succ, List.length_append]
    have : (objOf t k n).length ≤ 1 := by unfold objOf; split <;> simp
    omega
theorem most_le (k : Int) : 0 ≤ most k ∧ most k ≤ 8 := by unfold most; repeat' split <;> omega

theorem kindsTo_len (t : List Event) (m : Nat) : (kindsTo t m).length ≤ 8 * m := by
  induction m with
  | zero => simp [kindsTo]
  | succ m ih =>
    rw [kindsTo_succ, List.length_append]
    have h1 := numsTo_len t (m + 1 : Nat) (most (m + 1 : Nat)).toNat
    have h2 := most_le (m + 1 : Nat)
    omega
theorem usersTo_at {t : List Event} {k n : Int} {i p : Nat} (hp : p < (usersTo t k n i).length) : ∃ x : Nat, (usersTo t k n i).getD p default = x ∧ x < i := by
  have h := getD_mem (usersTo t k n i) hp
  simp only [usersTo, List.mem_map, List.mem_filter, List.mem_range] at h
  obtain ⟨x, ⟨hx, _⟩, he⟩ := h
  exact ⟨x, he.symm, hx⟩
theorem refUsers_ctr' (t : List Event) (k u : Int) (ht : t.length ≤ 256) (h6 : ∀ e ∈ t, e.touch.length = 6) (hr : t.all right = true) : Ctr Go.Proofs.Try.prog tab 15 [32, 3, 3] [33] [.list (t.map Event.v), .int k, .int u] [.list ((usersTo t k u t.length).map V.int)] :=
  refTo_users h6 hr k u t.length (Nat.le_refl _) ▸ refUsers_ctr t k u ht h6
theorem wrAt_take {t : List Event} {k u : Int} {l : List Int} {p x : Nat} (hp : p < l.length) (hx : l.getD p default = x) : wrAt t k u (l.take (p + 1)) = (wrAt t k u (l.take p) || (t.getD x default).of.any fun a => isAt k u a && a.write) := by
  unfold wrAt
  rw [any_take _ l hp, hx]; rfl

attribute [local go_sem] argsV contentV fromVs Option.getD_some St.keep List.filterMap_cons List.filterMap_nil Option.map_some Option.map_none opG opQ opB newEs outE CallStepB guardA putK putE pureA evalO evalL constE pickA loadA fieldAddrA indexAddrA indexA sliceA evalOptI builtinA binA plainA shiftA eqA arith shifts effA storeA appendA St.kill Tm.kill E.kill E.killL Obj.kill elemsOf evalVs buildA okAt toV fromV zeroE V.get V.put V.sub V.setSub args0 CallStep CallStepQ i64min i64max u64min u64max u32min u32max u8min u8max Nat.zero_add List.length_map List.lookup_cons List.lookup_nil List.getElem?_cons_zero List.getElem?_cons_succ List.getElem?_toArray List.getElem?_nil Option.bind_some Option.bind_none List.size_toArray List.length_cons List.length_nil List.nil_append List.append_nil List.cons_append List.getD_cons_zero List.getD_cons_succ List.map_cons List.map_nil List.set_cons_zero List.set_cons_succ true_and and_true forall_const true_implies Bool.true_and Bool.and_true Bool.not_true Bool.not_false Bool.false_and Bool.and_false beq_self_eq_true Bool.true_beq Bool.false_beq beq_true beq_false eq_self false_implies V.toInt_int V.toBool_bool V.toList_list V.toList_agg V.toStr_str V.deref_ref if_true if_false Bool.false_eq_true Option.isSome_none Option.isSome_some Bool.false_or Bool.true_or Bool.or_false Bool.or_true cond_true cond_false implies_true and_self imp_self ty60 ty65 ty42 ty49 ty33 ty32 ty34 ty3 ty4 ty22 ty27 ty28 ty30 ty25 ty2 beq_v concat_at zero27 z27 z3 z4 Int.toNat_natCast Int.natCast_zero Event.v0 Event.v7 Event.v8 Access.v0 Access.v1 Access.v2 beq_acc
-- scarab/scarabref10.Objects
theorem refObjects_ctr (t : List Event) (ht : t.length ≤ 256) (h6 : ∀ e ∈ t, e.touch.length = 6) (hr : t.all right = true) : Ctr Go.Proofs.Try.prog tab 21 [32] [22] [.list (t.map Event.v)] [.list ((kindsTo t 6).map Access.v)] := by
  have hm : t.length ≤ maxLen := Nat.le_trans ht (by decide)
  refine Ctr.body ok Go.Proofs.Try.func21 rfl rfl 82 rfl [.tmp 2] rfl (by simp [fromVs]) ?_
  simp only [fromVs, fromV, args0, V.toList_list, V.toInt_int, V.toBool_bool, Nat.zero_add, Nat.reduceAdd, ty32]
  refine SA.seq ?_
  refine SA.region ok (by kernel_rfl) [0] ?_
  intro R hR
  simp only [go_sem, strip]
  iterate 1 (refine opsA_cons fun R1 hR1 => ?_; simp only [go_sem, Nat.reduceBEq, Nat.reduceLT, Nat.reduceEqDiff, Nat.reduceAdd, Int.reduceLE, Int.reduceLT, Int.reduceNeg, Int.reduceEq, Int.reduceToNat, reduceCtorEq]; (repeat' with_reducible refine And.intro ?_ ?_); all_goals first | (refine hR1 _ ?_; clear hR1 R1) | omega | rfl | decide | assumption | (simp [roomFor, maxLen, by49, by4, by27, by3] <;> omega))
  refine opsA_nil (hR _ ?_)
  clear hR R
  try simp only [go_sem, Nat.reduceBEq]
  refine thenK.normal ?_
  refine SA.seq ?_
  refine SA.region ok (by kernel_rfl) [0, 3] ?_
  intro R hR
  simp only [go_sem, strip]
  iterate 1 (refine opsA_cons fun R1 hR1 => ?_; simp only [go_sem, Nat.reduceBEq, Nat.reduceLT, Nat.reduceEqDiff, Nat.reduceAdd, Int.reduceLE, Int.reduceLT, Int.reduceNeg, Int.reduceEq, Int.reduceToNat, reduceCtorEq]; (repeat' with_reducible refine And.intro ?_ ?_); all_goals first | (refine hR1 _ ?_; clear hR1 R1) | omega | rfl | decide | assumption | (simp [roomFor, maxLen, by49, by4, by27, by3] <;> omega))
  refine opsA_nil (hR _ ?_)
  clear hR R
  try simp only [go_sem, Nat.reduceBEq]
  refine thenK.normal ?_
  refine SA.seq ?_
  refine SA.seq ?_
  refine SA.region ok (by kernel_rfl) [0, 3, 4] ?_
  intro R hR
  simp only [go_sem, strip]
  iterate 1 (refine opsA_cons fun R1 hR1 => ?_; simp only [go_sem, Nat.reduceBEq, Nat.reduceLT, Nat.reduceEqDiff, Nat.reduceAdd, Int.reduceLE, Int.reduceLT, Int.reduceNeg, Int.reduceEq, Int.reduceToNat, reduceCtorEq]; (repeat' with_reducible refine And.intro ?_ ?_); all_goals first | (refine hR1 _ ?_; clear hR1 R1) | omega | rfl | decide | assumption | (simp [roomFor, maxLen, by49, by4, by27, by3] <;> omega))
  refine opsA_nil (hR _ ?_)
  clear hR R
  try simp only [go_sem, Nat.reduceBEq]
  refine thenK.normal ?_
  refine SA.block ?_
  refine SA.weaken ((St.le.own (t := 3) 27 rfl).trans ((St.le.keep [0, 3, 4]).trans (St.le.of_eq (by first | rfl | simp)))) (SA.loop (fun n τ => ∃ (m : Nat), n = 6 - m ∧ (m ≤ 6) ∧ τ = { tm := [(0, true, .fs 30 (t.map Event.v) false), (3, true, .sl 0 27 0 (kindsTo t m).length false), (4, true, .int .i64 (m + 1 : Nat))], ob := [.row 27 ((kindsTo t m).map Access.v)], out := [], nt := 82 }) (6) ⟨0, rfl, by omega, rfl⟩ ?_)
  rintro n τ ⟨m, hn, hm6, rfl⟩
  refine SA.seq ?_
  refine SA.seq ?_
  refine SA.region ok (by kernel_rfl) [0, 3, 4, 12] ?_
  intro R hR
  simp only [go_sem, strip]
  iterate 2 (refine opsA_cons fun R1 hR1 => ?_; simp only [go_sem, Nat.reduceBEq, Nat.reduceLT, Nat.reduceEqDiff, Nat.reduceAdd, Int.reduceLE, Int.reduceLT, Int.reduceNeg, Int.reduceEq, Int.reduceToNat, reduceCtorEq]; (repeat' with_reducible refine And.intro ?_ ?_); all_goals first | (refine hR1 _ ?_; clear hR1 R1) | omega | rfl | decide | assumption | (simp [roomFor, maxLen, by49, by4, by27, by3] <;> omega))
  refine opsA_nil (hR _ ?_)
  clear hR R
  try simp only [go_sem, Nat.reduceBEq]
  refine thenK.normal ?_
  refine SA.cond rfl ?_ ?_
  · intro hb1
    simp only [decide_eq_true_eq, decide_eq_false_iff_not, Int.not_lt, Int.not_le] at hb1
    refine SA.skip ?_
    refine thenK.normal ?_
    refine SA.seq ?_
    refine SA.block ?_
    refine SA.seq ?_
    refine SA.region ok (by kernel_rfl) [0, 3, 4, 5] ?_
    intro R hR
    simp only [go_sem, strip]
    iterate 1 (refine opsA_cons fun R1 hR1 => ?_; simp only [go_sem, Nat.reduceBEq, Nat.reduceLT, Nat.reduceEqDiff, Nat.reduceAdd, Int.reduceLE, Int.reduceLT, Int.reduceNeg, Int.reduceEq, Int.reduceToNat, reduceCtorEq]; (repeat' with_reducible refine And.intro ?_ ?_); all_goals first | (refine hR1 _ ?_; clear hR1 R1) | omega | rfl | decide | assumption | (simp [roomFor, maxLen, by49, by4, by27, by3] <;> omega))
    refine opsA_nil (hR _ ?_)
    clear hR R
    try simp only [go_sem, Nat.reduceBEq]
    refine thenK.normal ?_
    refine SA.block ?_
    refine SA.weaken (St.le.of_eq (by simp [numsTo])) (SA.loop (fun n τ => ∃ (u : Nat), n = (most (m + 1 : Nat)).toNat - u ∧ (u ≤ (most (m + 1 : Nat)).toNat) ∧ τ = { tm := [(0, true, .fs 30 (t.map Event.v) false), (3, true, .sl 0 27 0 (kindsTo t m ++ numsTo t (m + 1 : Nat) u).length false), (4, true, .int .i64 (m + 1 : Nat)), (5, true, .int .i64 u)], ob := [.row 27 ((kindsTo t m ++ numsTo t (m + 1 : Nat) u).map Access.v)], out := [], nt := 82 }) ((most (m + 1 : Nat)).toNat) ⟨0, rfl, Nat.zero_le _, rfl⟩ ?_)
    rintro n τ ⟨u, hn, hu, rfl⟩
    refine SA.seq ?_
    refine SA.seq ?_
    refine SA.region ok (by kernel_rfl) [0, 3, 4, 5, 18] ?_
    intro R hR
    simp only [go_sem, strip]
    iterate 2 (refine opsA_cons fun R1 hR1 => ?_; simp only [go_sem, Nat.reduceBEq, Nat.reduceLT, Nat.reduceEqDiff, Nat.reduceAdd, Int.reduceLE, Int.reduceLT, Int.reduceNeg, Int.reduceEq, Int.reduceToNat, reduceCtorEq]; (repeat' with_reducible refine And.intro ?_ ?_); all_goals first | (refine hR1 _ ?_; clear hR1 R1) | omega | rfl | decide | assumption | (simp [roomFor, maxLen, by49, by4, by27, by3] <;> omega))
    refine opsA_cons fun R1 hR1 => ?_
    simp only [go_sem, Nat.reduceBEq, Nat.reduceLT, Nat.reduceEqDiff, Nat.reduceAdd, Int.reduceLE, Int.reduceLT, Int.reduceNeg, Int.reduceEq, Int.reduceToNat, reduceCtorEq]
    repeat' with_reducible refine And.intro ?_ ?_
    all_goals try (first | omega | assumption | (intro _; omega))
    first | refine ⟨_, _, rfl, .inl ⟨_, CallQ.ctr ok (few_ctr _) (by first | rfl | (simp [argsV, toVs, contentV, toV, ty60, ty65, ty42, ty49, ty33, ty32, ty34, ty3, ty4, ty22, ty27, ty28, ty30, ty25, ty2, List.length_map, List.take_of_length_le])) rfl, ?_⟩⟩ | refine ⟨_, _, rfl, .inl ⟨_, fun hg => CallQ.ctr ok (few_ctr _) (by first | rfl | (simp [argsV, toVs, contentV, toV, ty60, ty65, ty42, ty49, ty33, ty32, ty34, ty3, ty4, ty22, ty27, ty28, ty30, ty25, ty2, List.length_map, List.take_of_length_le])) rfl, ?_⟩⟩
    simp only [go_sem, Nat.reduceBEq, Nat.reduceLT, Nat.reduceEqDiff, Nat.reduceAdd, Int.reduceLE, Int.reduceLT, Int.reduceNeg, Int.reduceEq, Int.reduceToNat, reduceCtorEq]
    repeat' with_reducible refine And.intro ?_ ?_
    all_goals first | (refine hR1 _ ?_; clear hR1 R1) | omega | rfl | decide | assumption | (simp [roomFor, maxLen, by49, by4, by27, by3] <;> omega)
    iterate 1 (refine opsA_cons fun R1 hR1 => ?_; simp only [go_sem, Nat.reduceBEq, Nat.reduceLT, Nat.reduceEqDiff, Nat.reduceAdd, Int.reduceLE, Int.reduceLT, Int.reduceNeg, Int.reduceEq, Int.reduceToNat, reduceCtorEq]; (repeat' with_reducible refine And.intro ?_ ?_); all_goals first | (refine hR1 _ ?_; clear hR1 R1) | omega | rfl | decide | assumption | (simp [roomFor, maxLen, by49, by4, by27, by3] <;> omega))
    refine opsA_nil (hR _ ?_)
    clear hR R
    try simp only [go_sem, Nat.reduceBEq]
    refine thenK.normal ?_
    refine SA.cond rfl ?_ ?_
    · intro hb2
      simp only [decide_eq_true_eq, decide_eq_false_iff_not, Int.not_lt, Int.not_le] at hb2
      refine SA.skip ?_
      refine thenK.normal ?_
      refine SA.seq ?_
      refine SA.block ?_
      refine SA.seq ?_
      have hmm := most_le (m + 1 : Nat)
      have hul := usersTo_len t (m + 1 : Nat) u t.length
      refine SA.region ok (by kernel_rfl) [0, 3, 4, 5, 6] ?_
      intro R hR
      simp only [go_sem, strip]
      iterate 3 (refine opsA_cons fun R1 hR1 => ?_; simp only [go_sem, Nat.reduceBEq, Nat.reduceLT, Nat.reduceEqDiff, Nat.reduceAdd, Int.reduceLE, Int.reduceLT, Int.reduceNeg, Int.reduceEq, Int.reduceToNat, reduceCtorEq]; (repeat' with_reducible refine And.intro ?_ ?_); all_goals first | (refine hR1 _ ?_; clear hR1 R1) | omega | rfl | decide | assumption | (simp [roomFor, maxLen, by49, by4, by27, by3] <;> omega))
      refine opsA_cons fun R1 hR1 => ?_
      simp only [go_sem, Nat.reduceBEq, Nat.reduceLT, Nat.reduceEqDiff, Nat.reduceAdd, Int.reduceLE, Int.reduceLT, Int.reduceNeg, Int.reduceEq, Int.reduceToNat, reduceCtorEq]
      repeat' with_reducible refine And.intro ?_ ?_
      all_goals try (first | omega | assumption | (intro _; omega))
      first | refine ⟨_, _, rfl, .inr (CallE.ctr ok (refUsers_ctr' t _ _ ht h6 hr) (by first | rfl | (simp [argsV, toVs, contentV, toV, ty60, ty65, ty42, ty49, ty33, ty32, ty34, ty3, ty4, ty22, ty27, ty28, ty30, ty25, ty2, List.length_map, List.take_of_length_le])) ?_)⟩ | refine ⟨_, _, rfl, .inr ⟨fun _ => CallE.ctr ok (refUsers_ctr' t _ _ ht h6 hr) (by first | rfl | (simp [argsV, toVs, contentV, toV, ty60, ty65, ty42, ty49, ty33, ty32, ty34, ty3, ty4, ty22, ty27, ty28, ty30, ty25, ty2, List.length_map, List.take_of_length_le])) ?_, ?_⟩⟩
      simp only [go_sem, Nat.reduceBEq, Nat.reduceLT, Nat.reduceEqDiff, Nat.reduceAdd, Int.reduceLE, Int.reduceLT, Int.reduceNeg, Int.reduceEq, Int.reduceToNat, reduceCtorEq]
      repeat' with_reducible refine And.intro ?_ ?_
      all_goals first | (refine hR1 _ ?_; clear hR1 R1) | omega | rfl | decide | assumption | (simp [roomFor, maxLen, by49, by4, by27, by3] <;> omega)
      iterate 1 (refine opsA_cons fun R1 hR1 => ?_; simp only [go_sem, Nat.reduceBEq, Nat.reduceLT, Nat.reduceEqDiff, Nat.reduceAdd, Int.reduceLE, Int.reduceLT, Int.reduceNeg, Int.reduceEq, Int.reduceToNat, reduceCtorEq]; (repeat' with_reducible refine And.intro ?_ ?_); all_goals first | (refine hR1 _ ?_; clear hR1 R1) | omega | rfl | decide | assumption | (simp [roomFor, maxLen, by49, by4, by27, by3] <;> omega))
      refine opsA_nil (hR _ ?_)
      clear hR R
      try simp only [go_sem, Nat.reduceBEq]
      refine thenK.normal ?_
      refine SA.seq ?_
      refine SA.seq ?_
      refine SA.region ok (by kernel_rfl) [0, 3, 4, 5, 6, 27] ?_
      intro R hR
      simp only [go_sem, strip]
      iterate 3 (refine opsA_cons fun R1 hR1 => ?_; simp only [go_sem, Nat.reduceBEq, Nat.reduceLT, Nat.reduceEqDiff, Nat.reduceAdd, Int.reduceLE, Int.reduceLT, Int.reduceNeg, Int.reduceEq, Int.reduceToNat, reduceCtorEq]; (repeat' with_reducible refine And.intro ?_ ?_); all_goals first | (refine hR1 _ ?_; clear hR1 R1) | omega | rfl | decide | assumption | (simp [roomFor, maxLen, by49, by4, by27, by3] <;> omega))
      refine opsA_nil (hR _ ?_)
      clear hR R
      try simp only [go_sem, Nat.reduceBEq]
      refine thenK.normal ?_
      refine SA.cond rfl ?_ ?_
      · intro hb3
        simp only [decide_eq_true_eq, decide_eq_false_iff_not, Int.not_lt, Int.not_le] at hb3
        refine SA.exit ?_
        refine thenK.exit ?_
        refine blockK.hit ?_
        refine thenK.normal ?_
        refine SA.region ok (by kernel_rfl) [0, 3, 4, 5] ?_
        intro R hR
        simp only [go_sem, strip]
        iterate 3 (refine opsA_cons fun R1 hR1 => ?_; simp only [go_sem, Nat.reduceBEq, Nat.reduceLT, Nat.reduceEqDiff, Nat.reduceAdd, Int.reduceLE, Int.reduceLT, Int.reduceNeg, Int.reduceEq, Int.reduceToNat, reduceCtorEq]; (repeat' with_reducible refine And.intro ?_ ?_); all_goals first | (refine hR1 _ ?_; clear hR1 R1) | omega | rfl | decide | assumption | (simp [roomFor, maxLen, by49, by4, by27, by3] <;> omega))
        refine opsA_nil (hR _ ?_)
        clear hR R
        try simp only [go_sem, Nat.reduceBEq]
        have hlt : u < (most (m + 1 : Nat)).toNat := by omega
        have e0 : (usersTo t (m + 1 : Nat) u t.length).length = 0 := by omega
        have e1 : numsTo t (m + 1 : Nat) (u + 1) = numsTo t (m + 1 : Nat) u := by rw [numsTo_succ]; simp only [objOf, e0, if_true, List.append_nil]
        refine loopK.normal ((most (m + 1 : Nat)).toNat - (u + 1)) _ (by omega) ((St.le.cut 1 rfl).trans (St.le.of_eq (by rw [e1, wrap_succ hlt (by unfold maxLen; omega)]; rfl))) ⟨u + 1, rfl, hlt, rfl⟩
      · intro hb3
        simp only [decide_eq_true_eq, decide_eq_false_iff_not, Int.not_lt, Int.not_le] at hb3
        refine SA.skip ?_
        refine thenK.normal ?_
        refine SA.seq ?_
        refine SA.region ok (by kernel_rfl) [0, 3, 4, 5, 6, 7] ?_
        intro R hR
        simp only [go_sem, strip]
        iterate 1 (refine opsA_cons fun R1 hR1 => ?_; simp only [go_sem, Nat.reduceBEq, Nat.reduceLT, Nat.reduceEqDiff, Nat.reduceAdd, Int.reduceLE, Int.reduceLT, Int.reduceNeg, Int.reduceEq, Int.reduceToNat, reduceCtorEq]; (repeat' with_reducible refine And.intro ?_ ?_); all_goals first | (refine hR1 _ ?_; clear hR1 R1) | omega | rfl | decide | assumption | (simp [roomFor, maxLen, by49, by4, by27, by3] <;> omega))
        refine opsA_nil (hR _ ?_)
        clear hR R
        try simp only [go_sem, Nat.reduceBEq]
        refine thenK.normal ?_
        refine SA.seq ?_
        refine SA.seq ?_
        refine SA.region ok (by kernel_rfl) [0, 3, 4, 5, 6, 7, 8] ?_
        intro R hR
        simp only [go_sem, strip]
        iterate 1 (refine opsA_cons fun R1 hR1 => ?_; simp only [go_sem, Nat.reduceBEq, Nat.reduceLT, Nat.reduceEqDiff, Nat.reduceAdd, Int.reduceLE, Int.reduceLT, Int.reduceNeg, Int.reduceEq, Int.reduceToNat, reduceCtorEq]; (repeat' with_reducible refine And.intro ?_ ?_); all_goals first | (refine hR1 _ ?_; clear hR1 R1) | omega | rfl | decide | assumption | (simp [roomFor, maxLen, by49, by4, by27, by3] <;> omega))
        refine opsA_nil (hR _ ?_)
        clear hR R
        try simp only [go_sem, Nat.reduceBEq]
        refine thenK.normal ?_
        refine SA.block ?_
        refine SA.weaken (St.le.of_eq (by simp [wrAt])) (SA.loop (fun n τ => ∃ (p : Nat), n = (usersTo t (m + 1 : Nat) u t.length).length - p ∧ (p ≤ (usersTo t (m + 1 : Nat) u t.length).length) ∧ τ = { tm := [(0, true, .fs 30 (t.map Event.v) false), (3, true, .sl 0 27 0 (kindsTo t m ++ numsTo t (m + 1 : Nat) u).length false), (4, true, .int .i64 (m + 1 : Nat)), (5, true, .int .i64 u), (6, true, .sl 1 3 0 (usersTo t (m + 1 : Nat) u t.length).length false), (7, true, .bool (wrAt t (m + 1 : Nat) u ((usersTo t (m + 1 : Nat) u t.length).take p))), (8, true, .int .i64 p)], ob := [.row 27 ((kindsTo t m ++ numsTo t (m + 1 : Nat) u).map Access.v), .row 3 ((usersTo t (m + 1 : Nat) u t.length).map V.int)], out := [], nt := 82 }) ((usersTo t (m + 1 : Nat) u t.length).length) ⟨0, rfl, Nat.zero_le _, rfl⟩ ?_)
        rintro n τ ⟨p, hn, hp, rfl⟩
        refine SA.seq ?_
        refine SA.seq ?_
        refine SA.region ok (by kernel_rfl) [0, 3, 4, 5, 6, 7, 8, 31] ?_
        intro R hR
        simp only [go_sem, strip]
        iterate 4 (refine opsA_cons fun R1 hR1 => ?_; simp only [go_sem, Nat.reduceBEq, Nat.reduceLT, Nat.reduceEqDiff, Nat.reduceAdd, Int.reduceLE, Int.reduceLT, Int.reduceNeg, Int.reduceEq, Int.reduceToNat, reduceCtorEq]; (repeat' with_reducible refine And.intro ?_ ?_); all_goals first | (refine hR1 _ ?_; clear hR1 R1) | omega | rfl | decide | assumption | (simp [roomFor, maxLen, by49, by4, by27, by3] <;> omega))
        refine opsA_nil (hR _ ?_)
        clear hR R
        try simp only [go_sem, Nat.reduceBEq]
        refine thenK.normal ?_
        refine SA.cond rfl ?_ ?_
        · intro hb4
          simp only [decide_eq_true_eq, decide_eq_false_iff_not, Int.not_lt, Int.not_le] at hb4
          refine SA.skip ?_
          refine thenK.normal ?_
          refine SA.seq ?_
          refine SA.block ?_
          refine SA.seq ?_
          have hpl : p < (usersTo t (m + 1 : Nat) u t.length).length := by omega
          obtain ⟨x, hpx, hx⟩ := usersTo_at hpl
          have hol := Event.of_len _ (h6 _ (getD_mem t hx))
          have holm : (t.getD x default).of.length ≤ maxLen := by unfold maxLen; omega
          refine SA.region ok (by kernel_rfl) [0, 3, 4, 5, 6, 7, 8, 9] ?_
          intro R hR
          simp only [go_sem, strip]
          iterate 4 (refine opsA_cons fun R1 hR1 => ?_; simp only [go_sem, Nat.reduceBEq, Nat.reduceLT, Nat.reduceEqDiff, Nat.reduceAdd, Int.reduceLE, Int.reduceLT, Int.reduceNeg, Int.reduceEq, Int.reduceToNat, reduceCtorEq]; (repeat' with_reducible refine And.intro ?_ ?_); all_goals first | (refine hR1 _ ?_; clear hR1 R1) | omega | rfl | decide | assumption | (simp [roomFor, maxLen, by49, by4, by27, by3] <;> omega))
          refine opsA_cons fun R1 hR1 => ?_
          simp only [go_sem, Nat.reduceBEq, Nat.reduceLT, Nat.reduceEqDiff, Nat.reduceAdd, Int.reduceLE, Int.reduceLT, Int.reduceNeg, Int.reduceEq, Int.reduceToNat, reduceCtorEq]
          repeat' with_reducible refine And.intro ?_ ?_
          all_goals first | (refine hR1 _ ?_; clear hR1 R1) | omega | rfl | decide | assumption | (simp [roomFor, maxLen, by49, by4, by27, by3] <;> omega)
          rw [getD_map V.int _ hpl, hpx]
          iterate 1 (refine opsA_cons fun R1 hR1 => ?_; simp only [go_sem, Nat.reduceBEq, Nat.reduceLT, Nat.reduceEqDiff, Nat.reduceAdd, Int.reduceLE, Int.reduceLT, Int.reduceNeg, Int.reduceEq, Int.reduceToNat, reduceCtorEq]; (repeat' with_reducible refine And.intro ?_ ?_); all_goals first | (refine hR1 _ ?_; clear hR1 R1) | omega | rfl | decide | assumption | (simp [roomFor, maxLen, by49, by4, by27, by3] <;> omega))
          refine opsA_cons fun R1 hR1 => ?_
          simp only [go_sem, Nat.reduceBEq, Nat.reduceLT, Nat.reduceEqDiff, Nat.reduceAdd, Int.reduceLE, Int.reduceLT, Int.reduceNeg, Int.reduceEq, Int.reduceToNat, reduceCtorEq]
          repeat' with_reducible refine And.intro ?_ ?_
          all_goals first | (refine hR1 _ ?_; clear hR1 R1) | omega | rfl | decide | assumption | (simp [roomFor, maxLen, by49, by4, by27, by3] <;> omega)
          rw [getD_map Event.v t hx]
          refine opsA_cons fun R1 hR1 => ?_
          simp only [go_sem, Nat.reduceBEq, Nat.reduceLT, Nat.reduceEqDiff, Nat.reduceAdd, Int.reduceLE, Int.reduceLT, Int.reduceNeg, Int.reduceEq, Int.reduceToNat, reduceCtorEq]
          repeat' with_reducible refine And.intro ?_ ?_
          all_goals try (first | omega | assumption | (intro _; omega))
          first | refine ⟨_, _, rfl, .inr (CallE.ctr ok (of_ctr _ (h6 _ (getD_mem t hx))) (by first | rfl | (simp [argsV, toVs, contentV, toV, ty60, ty65, ty42, ty49, ty33, ty32, ty34, ty3, ty4, ty22, ty27, ty28, ty30, ty25, ty2, List.length_map, List.take_of_length_le])) ?_)⟩ | refine ⟨_, _, rfl, .inr ⟨fun _ => CallE.ctr ok (of_ctr _ (h6 _ (getD_mem t hx))) (by first | rfl | (simp [argsV, toVs, contentV, toV, ty60, ty65, ty42, ty49, ty33, ty32, ty34, ty3, ty4, ty22, ty27, ty28, ty30, ty25, ty2, List.length_map, List.take_of_length_le])) ?_, ?_⟩⟩
          simp only [go_sem, Nat.reduceBEq, Nat.reduceLT, Nat.reduceEqDiff, Nat.reduceAdd, Int.reduceLE, Int.reduceLT, Int.reduceNeg, Int.reduceEq, Int.reduceToNat, reduceCtorEq]
          repeat' with_reducible refine And.intro ?_ ?_
          all_goals first | (refine hR1 _ ?_; clear hR1 R1) | omega | rfl | decide | assumption | (simp [roomFor, maxLen, by49, by4, by27, by3] <;> omega)
          iterate 1 (refine opsA_cons fun R1 hR1 => ?_; simp only [go_sem, Nat.reduceBEq, Nat.reduceLT, Nat.reduceEqDiff, Nat.reduceAdd, Int.reduceLE, Int.reduceLT, Int.reduceNeg, Int.reduceEq, Int.reduceToNat, reduceCtorEq]; (repeat' with_reducible refine And.intro ?_ ?_); all_goals first | (refine hR1 _ ?_; clear hR1 R1) | omega | rfl | decide | assumption | (simp [roomFor, maxLen, by49, by4, by27, by3] <;> omega))
          refine opsA_nil (hR _ ?_)
          clear hR R
          try simp only [go_sem, Nat.reduceBEq]
          refine thenK.normal ?_
          refine SA.seq ?_
          refine SA.region ok (by kernel_rfl) [0, 3, 4, 5, 6, 7, 8, 9, 10] ?_
          intro R hR
          simp only [go_sem, strip]
          iterate 1 (refine opsA_cons fun R1 hR1 => ?_; simp only [go_sem, Nat.reduceBEq, Nat.reduceLT, Nat.reduceEqDiff, Nat.reduceAdd, Int.reduceLE, Int.reduceLT, Int.reduceNeg, Int.reduceEq, Int.reduceToNat, reduceCtorEq]; (repeat' with_reducible refine And.intro ?_ ?_); all_goals first | (refine hR1 _ ?_; clear hR1 R1) | omega | rfl | decide | assumption | (simp [roomFor, maxLen, by49, by4, by27, by3] <;> omega))
          refine opsA_nil (hR _ ?_)
          clear hR R
          try simp only [go_sem, Nat.reduceBEq]
          refine thenK.normal ?_
          refine SA.block ?_
          refine SA.weaken (St.le.of_eq (by simp)) (SA.loop (fun n τ => ∃ (q : Nat), n = (t.getD x default).of.length - q ∧ (q ≤ (t.getD x default).of.length) ∧ τ = { tm := [(0, true, .fs 30 (t.map Event.v) false), (3, true, .sl 0 27 0 (kindsTo t m ++ numsTo t (m + 1 : Nat) u).length false), (4, true, .int .i64 (m + 1 : Nat)), (5, true, .int .i64 u), (6, true, .sl 1 3 0 (usersTo t (m + 1 : Nat) u t.length).length false), (7, true, .bool (wrAt t (m + 1 : Nat) u ((usersTo t (m + 1 : Nat) u t.length).take p) || ((t.getD x default).of.take q).any fun a => isAt (m + 1 : Nat) u a && a.write)), (8, true, .int .i64 p), (9, true, .sl 2 27 0 (t.getD x default).of.length false), (10, true, .int .i64 q)], ob := [.row 27 ((kindsTo t m ++ numsTo t (m + 1 : Nat) u).map Access.v), .row 3 ((usersTo t (m + 1 : Nat) u t.length).map V.int), .row 27 ((t.getD x default).of.map Access.v)], out := [], nt := 82 }) ((t.getD x default).of.length) ⟨0, rfl, Nat.zero_le _, rfl⟩ ?_)
          rintro n τ ⟨q, hn, hq, rfl⟩
          refine SA.seq ?_
          refine SA.seq ?_
          refine SA.region ok (by kernel_rfl) [0, 3, 4, 5, 6, 7, 8, 9, 10, 45] ?_
          intro R hR
          simp only [go_sem, strip]
          iterate 4 (refine opsA_cons fun R1 hR1 => ?_; simp only [go_sem, Nat.reduceBEq, Nat.reduceLT, Nat.reduceEqDiff, Nat.reduceAdd, Int.reduceLE, Int.reduceLT, Int.reduceNeg, Int.reduceEq, Int.reduceToNat, reduceCtorEq]; (repeat' with_reducible refine And.intro ?_ ?_); all_goals first | (refine hR1 _ ?_; clear hR1 R1) | omega | rfl | decide | assumption | (simp [roomFor, maxLen, by49, by4, by27, by3] <;> omega))
          refine opsA_nil (hR _ ?_)
          clear hR R
          try simp only [go_sem, Nat.reduceBEq]
          refine thenK.normal ?_
          refine SA.cond rfl ?_ ?_
          · intro hb5
            simp only [decide_eq_true_eq, decide_eq_false_iff_not, Int.not_lt, Int.not_le] at hb5
            refine SA.skip ?_
            refine thenK.normal ?_
            refine SA.seq ?_
            refine SA.block ?_
            refine SA.region ok (by kernel_rfl) [0, 3, 4, 5, 6, 7, 8, 9, 10] ?_
            intro R hR
            simp only [go_sem, strip]
            iterate 27 (refine opsA_cons fun R1 hR1 => ?_; simp only [go_sem, Nat.reduceBEq, Nat.reduceLT, Nat.reduceEqDiff, Nat.reduceAdd, Int.reduceLE, Int.reduceLT, Int.reduceNeg, Int.reduceEq, Int.reduceToNat, reduceCtorEq]; (repeat' with_reducible refine And.intro ?_ ?_); all_goals first | (refine hR1 _ ?_; clear hR1 R1) | omega | rfl | decide | assumption | (simp [roomFor, maxLen, by49, by4, by27, by3] <;> omega))
            refine opsA_nil (hR _ ?_)
            clear hR R
            try simp only [go_sem, Nat.reduceBEq]
            refine blockK.normal ?_
            refine thenK.normal ?_
            refine SA.region ok (by kernel_rfl) [0, 3, 4, 5, 6, 7, 8, 9, 10] ?_
            intro R hR
            simp only [go_sem, strip]
            iterate 3 (refine opsA_cons fun R1 hR1 => ?_; simp only [go_sem, Nat.reduceBEq, Nat.reduceLT, Nat.reduceEqDiff, Nat.reduceAdd, Int.reduceLE, Int.reduceLT, Int.reduceNeg, Int.reduceEq, Int.reduceToNat, reduceCtorEq]; (repeat' with_reducible refine And.intro ?_ ?_); all_goals first | (refine hR1 _ ?_; clear hR1 R1) | omega | rfl | decide | assumption | (simp [roomFor, maxLen, by49, by4, by27, by3] <;> omega))
            refine opsA_nil (hR _ ?_)
            clear hR R
            try simp only [go_sem, Nat.reduceBEq]
            have hql : q < (t.getD x default).of.length := by omega
            have e1 : ∀ b : Bool, (bif b || (List.take q (t.getD x default).of).any fun a => isAt (m + 1 : Nat) u a && a.write then true else bif bif decide (((t.getD x default).of.getD q default).kind = (m + 1 : Nat)) then decide (((t.getD x default).of.getD q default).num = u) else false then ((t.getD x default).of.getD q default).write else false) = (b || (List.take (q + 1) (t.getD x default).of).any fun a => isAt (m + 1 : Nat) u a && a.write) := by
              intro b
              rw [any_take _ _ hql]
              generalize (t.getD x default).of.getD q default = y
              simp only [isAt, Bool.cond_eq_ite, Bool.or_assoc]
              cases b <;> cases ((List.take q (t.getD x default).of).any fun a => decide (a.kind = (m + 1 : Nat)) && decide (a.num = u) && a.write) <;> cases decide (y.kind = (m + 1 : Nat)) <;> cases decide (y.num = u) <;> cases y.write <;> rfl
            refine loopK.normal ((t.getD x default).of.length - (q + 1)) _ (by omega) (St.le.of_eq (by simp only [getD_map Access.v _ hql, Access.v0, Access.v1, Access.v2, V.toInt_int, V.toBool_bool, e1]; rw [wrap_succ hql (by omega)])) ⟨q + 1, rfl, hql, rfl⟩
          · intro hb5
            simp only [decide_eq_true_eq, decide_eq_false_iff_not, Int.not_lt, Int.not_le] at hb5
            refine SA.exit ?_
            refine thenK.exit ?_
            refine loopK.exit ?_
            refine blockK.hit ?_
            refine blockK.normal ?_
            refine thenK.normal ?_
            refine SA.region ok (by kernel_rfl) [0, 3, 4, 5, 6, 7, 8] ?_
            intro R hR
            simp only [go_sem, strip]
            iterate 3 (refine opsA_cons fun R1 hR1 => ?_; simp only [go_sem, Nat.reduceBEq, Nat.reduceLT, Nat.reduceEqDiff, Nat.reduceAdd, Int.reduceLE, Int.reduceLT, Int.reduceNeg, Int.reduceEq, Int.reduceToNat, reduceCtorEq]; (repeat' with_reducible refine And.intro ?_ ?_); all_goals first | (refine hR1 _ ?_; clear hR1 R1) | omega | rfl | decide | assumption | (simp [roomFor, maxLen, by49, by4, by27, by3] <;> omega))
            refine opsA_nil (hR _ ?_)
            clear hR R
            try simp only [go_sem, Nat.reduceBEq]
            have hqq : q = (t.getD x default).of.length := by omega
            have e1 := wrAt_take (t := t) (k := (m + 1 : Nat)) (u := u) hpl hpx
            rw [hqq, List.take_length, ← e1]
            refine loopK.normal ((usersTo t (m + 1 : Nat) u t.length).length - (p + 1)) _ (by omega) ((St.le.cut 2 rfl).trans (St.le.of_eq (by rw [wrap_succ hpl (by omega)]; rfl))) ⟨p + 1, rfl, hpl, rfl⟩
        · intro hb4
          simp only [decide_eq_true_eq, decide_eq_false_iff_not, Int.not_lt, Int.not_le] at hb4
          refine SA.exit ?_
          refine thenK.exit ?_
          refine loopK.exit ?_
          refine blockK.hit ?_
          refine thenK.normal ?_
          refine SA.region ok (by kernel_rfl) [0, 3, 4, 5] ?_
          intro R hR
          simp only [go_sem, strip]
          iterate 6 (refine opsA_cons fun R1 hR1 => ?_; simp only [go_sem, Nat.reduceBEq, Nat.reduceLT, Nat.reduceEqDiff, Nat.reduceAdd, Int.reduceLE, Int.reduceLT, Int.reduceNeg, Int.reduceEq, Int.reduceToNat, reduceCtorEq]; (repeat' with_reducible refine And.intro ?_ ?_); all_goals first | (refine hR1 _ ?_; clear hR1 R1) | omega | rfl | decide | assumption | (simp [roomFor, maxLen, by49, by4, by27, by3] <;> omega))
          refine opsA_cons fun R1 hR1 => ?_
          simp only [go_sem, Nat.reduceBEq, Nat.reduceLT, Nat.reduceEqDiff, Nat.reduceAdd, Int.reduceLE, Int.reduceLT, Int.reduceNeg, Int.reduceEq, Int.reduceToNat, reduceCtorEq]
          repeat' with_reducible refine And.intro ?_ ?_
          all_goals first | (refine hR1 _ ?_; clear hR1 R1) | omega | rfl | decide | assumption | (have h1 := kindsTo_len t m; have h2 := numsTo_len t (m + 1 : Nat) u; have h3 : u ≤ 8 := (by omega); simp only [roomFor, maxLen, by49, by4, by27, by3, List.length_append, List.length_take, List.drop_zero, List.length_cons, List.length_nil]; omega)
          iterate 1 (refine opsA_cons fun R1 hR1 => ?_; simp only [go_sem, Nat.reduceBEq, Nat.reduceLT, Nat.reduceEqDiff, Nat.reduceAdd, Int.reduceLE, Int.reduceLT, Int.reduceNeg, Int.reduceEq, Int.reduceToNat, reduceCtorEq]; (repeat' with_reducible refine And.intro ?_ ?_); all_goals first | (refine hR1 _ ?_; clear hR1 R1) | omega | rfl | decide | assumption | (simp [roomFor, maxLen, by49, by4, by27, by3] <;> omega))
          refine opsA_nil (hR _ ?_)
          clear hR R
          try simp only [go_sem, Nat.reduceBEq]
          refine blockK.normal ?_
          refine thenK.normal ?_
          refine SA.region ok (by kernel_rfl) [0, 3, 4, 5] ?_
          intro R hR
          simp only [go_sem, strip]
          iterate 3 (refine opsA_cons fun R1 hR1 => ?_; simp only [go_sem, Nat.reduceBEq, Nat.reduceLT, Nat.reduceEqDiff, Nat.reduceAdd, Int.reduceLE, Int.reduceLT, Int.reduceNeg, Int.reduceEq, Int.reduceToNat, reduceCtorEq]; (repeat' with_reducible refine And.intro ?_ ?_); all_goals first | (refine hR1 _ ?_; clear hR1 R1) | omega | rfl | decide | assumption | (simp [roomFor, maxLen, by49, by4, by27, by3] <;> omega))
          refine opsA_nil (hR _ ?_)
          clear hR R
          try simp only [go_sem, Nat.reduceBEq]
          have hlt : u < (most (m + 1 : Nat)).toNat := by omega
          have e0 : ¬ (usersTo t (m + 1 : Nat) u t.length).length = 0 := by omega
          have hpp : p = (usersTo t (m + 1 : Nat) u t.length).length := by omega
          have e1 : numsTo t (m + 1 : Nat) (u + 1) = numsTo t (m + 1 : Nat) u ++ [⟨(m + 1 : Nat), u, wrAt t (m + 1 : Nat) u ((usersTo t (m + 1 : Nat) u t.length).take p)⟩] := by
            rw [numsTo_succ]; simp only [objOf, e0, if_false, hpp, List.take_length]
          have e2 : (kindsTo t m ++ numsTo t (m + 1 : Nat) (u + 1)).length = (kindsTo t m ++ numsTo t (m + 1 : Nat) u).length + 1 := by rw [e1]; simp; omega
          have e3 : List.take (kindsTo t m ++ numsTo t (m + 1 : Nat) u).length (List.map Access.v (kindsTo t m ++ numsTo t (m + 1 : Nat) u)) ++ List.take 1 (List.drop 0 [V.agg [V.int (m + 1 : Nat), V.int u, V.bool (wrAt t (m + 1 : Nat) u (List.take p (usersTo t (m + 1 : Nat) u t.length)))]]) = (kindsTo t m ++ numsTo t (m + 1 : Nat) (u + 1)).map Access.v := by
            rw [e1, List.take_of_length_le (by simp)]; simp [Access.v]
          refine loopK.normal ((most (m + 1 : Nat)).toNat - (u + 1)) _ (by omega) ((St.le.cut 1 rfl).trans (St.le.of_eq (by rw [e3, e2, wrap_succ hlt (by unfold maxLen; omega)]; rfl))) ⟨u + 1, rfl, hlt, rfl⟩
    · intro hb2
      simp only [decide_eq_true_eq, decide_eq_false_iff_not, Int.not_lt, Int.not_le] at hb2
      refine SA.exit ?_
      refine thenK.exit ?_
      refine loopK.exit ?_
      refine blockK.hit ?_
      refine blockK.normal ?_
      refine thenK.normal ?_
      refine SA.region ok (by kernel_rfl) [0, 3, 4] ?_
      intro R hR
      simp only [go_sem, strip]
      iterate 3 (refine opsA_cons fun R1 hR1 => ?_; simp only [go_sem, Nat.reduceBEq, Nat.reduceLT, Nat.reduceEqDiff, Nat.reduceAdd, Int.reduceLE, Int.reduceLT, Int.reduceNeg, Int.reduceEq, Int.reduceToNat, reduceCtorEq]; (repeat' with_reducible refine And.intro ?_ ?_); all_goals first | (refine hR1 _ ?_; clear hR1 R1) | omega | rfl | decide | assumption | (simp [roomFor, maxLen, by49, by4, by27, by3] <;> omega))
      refine opsA_nil (hR _ ?_)
      clear hR R
      try simp only [go_sem, Nat.reduceBEq]
      have hmm := most_le (m + 1 : Nat)
      have hu' : u = (most (m + 1 : Nat)).toNat := by omega
      subst hu'
      refine loopK.normal (6 - (m + 1)) _ (by omega) (St.le.of_eq (by rw [← kindsTo_succ, wrap_succ (show m + 1 < 8 by omega) (by decide)])) ⟨m + 1, rfl, by omega, rfl⟩
  · intro hb1
    simp only [decide_eq_true_eq, decide_eq_false_iff_not, Int.not_lt, Int.not_le] at hb1
    refine SA.exit ?_
    refine thenK.exit ?_
    refine loopK.exit ?_
    refine blockK.hit ?_
    refine thenK.normal ?_
    refine SA.seq ?_
    refine SA.region ok (by kernel_rfl) [2] ?_
    intro R hR
    simp only [go_sem, strip]
    iterate 2 (refine opsA_cons fun R1 hR1 => ?_; simp only [go_sem, Nat.reduceBEq, Nat.reduceLT, Nat.reduceEqDiff, Nat.reduceAdd, Int.reduceLE, Int.reduceLT, Int.reduceNeg, Int.reduceEq, Int.reduceToNat, reduceCtorEq]; (repeat' with_reducible refine And.intro ?_ ?_); all_goals first | (refine hR1 _ ?_; clear hR1 R1) | omega | rfl | decide | assumption | (simp [roomFor, maxLen, by49, by4, by27, by3] <;> omega))
    refine opsA_nil (hR _ ?_)
    clear hR R
    try simp only [go_sem, Nat.reduceBEq]
    refine thenK.normal ?_
    refine SA.ret ?_
    refine ctrK.ret ?_
    simp only [resA, evalO, resV, backK, outE, toV, ty4, ty3, List.lookup_cons, List.lookup_nil, beq_self_eq_true, forall_const, true_and, and_true]
    simp only [go_sem, Nat.reduceBEq, Nat.reduceLT, Nat.reduceEqDiff, Nat.reduceAdd, Int.reduceLE, Int.reduceLT, Int.reduceNeg, Int.reduceEq, Int.reduceToNat, reduceCtorEq]
    have hmm : m = 6 := by omega
    subst hmm
    exact ⟨rfl, by simp [List.take_of_length_le]⟩

end Go.Eng.Try
