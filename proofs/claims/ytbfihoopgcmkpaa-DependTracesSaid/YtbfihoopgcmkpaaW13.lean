/- A part of the proof: walks through the program's functions, and what they compute. -/
import Derived.Test.YtbfihoopgcmkpaaTryTab
import Derived.Test.YtbfihoopgcmkpaaMdl
import Derived.Test.YtbfihoopgcmkpaaEngT
import Derived.Test.YtbfihoopgcmkpaaW12
import Derived.Test.YtbfihoopgcmkpaaEngV
namespace Go.Eng.Try
open Go.RowKit Go.Eng
set_option linter.unusedSimpArgs false
set_option linter.unusedVariables false

theorem mid {i j n : Nat} (hi : i ≤ j) (hj : j ≤ n) (hn : n ≤ maxLen) : IntKind.i64.wrap ((IntKind.u64.wrap (IntKind.i64.wrap (↑i + ↑j))).fdiv (2 ^ min 1 64)) = (((i + j) / 2 : Nat) : Int) := by
  unfold maxLen at hn
  have h1 : IntKind.u64.wrap (IntKind.i64.wrap ((i : Int) + j)) = (i : Int) + j := by
    simp [IntKind.wrap, IntKind.signed, IntKind.bits]
    omega
  rw [h1, Int.fdiv_eq_ediv_of_nonneg _ (by decide)]
  rw [show ((2 : Int) ^ min 1 64) = 2 from rfl, wrap64_ok (by omega) (by omega)]
  omega

theorem lex_cmp (a b : Access) : cmp a b < 0 ↔ lex a b := cmp_neg a b
theorem count_pos : ∀ {l : List Access} {p : Access → Bool} {i : Nat}, i ≤ l.length → (∀ k, k < i → p (l.getD k default) = true) → (∀ k, i ≤ k → k < l.length → p (l.getD k default) = false) → l.countP p = i
  | [], _, i, h, _, _ => by simp at h; simp [h]
  | x :: l, p, 0, _, _, h2 => by
    have h0 := h2 0 (Nat.le_refl _) (by simp)
    simp only [List.getD_cons_zero] at h0
    rw [List.countP_cons_of_neg (by simp [h0])]
    exact count_pos (i := 0) (Nat.zero_le _) (fun k hk => by omega) (fun k _ hk => by simpa using h2 (k + 1) (Nat.zero_le _) (by simpa using hk))
  | x :: l, p, i + 1, h, h1, h2 => by
    have h0 := h1 0 (by omega)
    simp only [List.getD_cons_zero] at h0
    rw [List.countP_cons_of_pos h0, count_pos (i := i) (by simpa using h) (fun k hk => by simpa using h1 (k + 1) (by omega)) (fun k hk hk' => by simpa using h2 (k + 1) (by omega) (by simpa using hk'))]
theorem sorted_lt {l : List Access} (hs : l.Pairwise lex) {i j : Nat} (hij : i < j) (hj : j < l.length) : lex (l.getD i default) (l.getD j default) := by
  have := List.pairwise_iff_getElem.1 hs i j (by omega) hj hij
  simpa [List.getD_eq_getElem?_getD, hj, show i < l.length by omega] using this

attribute [local go_sem] argsV contentV fromVs Option.getD_some St.keep List.filterMap_cons List.filterMap_nil Option.map_some Option.map_none opG opQ opB newEs outE CallStepB guardA putK putE pureA evalO evalL constE pickA loadA fieldAddrA indexAddrA indexA sliceA evalOptI builtinA binA plainA shiftA eqA arith shifts effA storeA appendA St.kill Tm.kill E.kill E.killL Obj.kill elemsOf evalVs buildA okAt toV fromV zeroE V.get V.put V.sub V.setSub args0 CallStep CallStepQ i64min i64max u64min u64max u32min u32max u8min u8max Nat.zero_add List.length_map List.lookup_cons List.lookup_nil List.getElem?_cons_zero List.getElem?_cons_succ List.getElem?_toArray List.getElem?_nil Option.bind_some Option.bind_none List.size_toArray List.length_cons List.length_nil List.nil_append List.append_nil List.cons_append List.getD_cons_zero List.getD_cons_succ List.map_cons List.map_nil List.set_cons_zero List.set_cons_succ true_and and_true forall_const true_implies Bool.true_and Bool.and_true Bool.not_true Bool.not_false Bool.false_and Bool.and_false beq_self_eq_true Bool.true_beq Bool.false_beq beq_true beq_false eq_self false_implies V.toInt_int V.toBool_bool V.toList_list V.toList_agg V.toStr_str V.deref_ref if_true if_false Bool.false_eq_true Option.isSome_none Option.isSome_some Bool.false_or Bool.true_or Bool.or_false Bool.or_true cond_true cond_false implies_true and_self imp_self ty60 ty65 ty42 ty49 ty33 ty32 ty34 ty3 ty4 ty22 ty27 ty28 ty30 ty25 ty2 beq_v concat_at zero27 z27 z3 z4 Int.toNat_natCast Int.natCast_zero Event.v0 Event.v7 Event.v8 Access.v0 Access.v1 Access.v2 beq_acc
-- slices.BinarySearchFunc[[]scarab/api.Access,scarab/api.Access,scarab/api.Access]
theorem search_ctr (l : List Access) (a : Access) (hl : l.length ≤ maxLen) (hs : l.Pairwise lex) : Ctr Go.Proofs.Try.prog tab 30 [22, 27, 60] [3, 4] [.list (l.map Access.v), a.v, .fnv 31] [.int (l.countP fun x => decide (cmp x a < 0) : Nat), .bool (l.any fun x => decide (cmp x a = 0))] := by
  refine Ctr.body ok Go.Proofs.Try.func30 rfl rfl 49 rfl [.tmp 6, .tmp 7] rfl (by simp [fromVs]) ?_
  simp only [fromVs, fromV, args0, V.toList_list, V.toInt_int, V.toBool_bool, Nat.zero_add, Nat.reduceAdd, ty22, ty27, ty60]
  refine SA.seq ?_
  refine SA.region ok (by kernel_rfl) [0, 2, 4] ?_
  intro R hR
  simp only [go_sem, strip]
  iterate 3 (refine opsA_cons fun R1 hR1 => ?_; simp only [go_sem, Nat.reduceBEq, Nat.reduceLT, Nat.reduceEqDiff, Nat.reduceAdd, Int.reduceLE, Int.reduceLT, Int.reduceNeg, Int.reduceEq, Int.reduceToNat, reduceCtorEq]; (repeat' with_reducible refine And.intro ?_ ?_); all_goals first | (refine hR1 _ ?_; clear hR1 R1) | omega | rfl | decide | assumption | (intro _; omega) | (simp; done) | (simp; omega) | (simp [roomFor, maxLen, by49, by4, by27, by3] <;> omega))
  refine opsA_nil (hR _ ?_)
  clear hR R
  try simp only [go_sem, Nat.reduceBEq]
  refine thenK.normal ?_
  refine SA.seq ?_
  refine SA.region ok (by kernel_rfl) [0, 2, 4, 8] ?_
  intro R hR
  simp only [go_sem, strip]
  iterate 3 (refine opsA_cons fun R1 hR1 => ?_; simp only [go_sem, Nat.reduceBEq, Nat.reduceLT, Nat.reduceEqDiff, Nat.reduceAdd, Int.reduceLE, Int.reduceLT, Int.reduceNeg, Int.reduceEq, Int.reduceToNat, reduceCtorEq]; (repeat' with_reducible refine And.intro ?_ ?_); all_goals first | (refine hR1 _ ?_; clear hR1 R1) | omega | rfl | decide | assumption | (intro _; omega) | (simp; done) | (simp; omega) | (simp [roomFor, maxLen, by49, by4, by27, by3] <;> omega))
  refine opsA_nil (hR _ ?_)
  clear hR R
  try simp only [go_sem, Nat.reduceBEq]
  refine thenK.normal ?_
  refine SA.seq ?_
  refine SA.region ok (by kernel_rfl) [0, 2, 4, 8, 9, 10] ?_
  intro R hR
  simp only [go_sem, strip]
  iterate 3 (refine opsA_cons fun R1 hR1 => ?_; simp only [go_sem, Nat.reduceBEq, Nat.reduceLT, Nat.reduceEqDiff, Nat.reduceAdd, Int.reduceLE, Int.reduceLT, Int.reduceNeg, Int.reduceEq, Int.reduceToNat, reduceCtorEq]; (repeat' with_reducible refine And.intro ?_ ?_); all_goals first | (refine hR1 _ ?_; clear hR1 R1) | omega | rfl | decide | assumption | (intro _; omega) | (simp; done) | (simp; omega) | (simp [roomFor, maxLen, by49, by4, by27, by3] <;> omega))
  refine opsA_nil (hR _ ?_)
  clear hR R
  try simp only [go_sem, Nat.reduceBEq]
  refine thenK.normal ?_
  refine SA.seq ?_
  refine SA.block ?_
  refine SA.weaken (St.le.of_eq (by first | rfl | simp)) (SA.loop (fun n τ => ∃ (i : Nat) (j : Nat), n = j - i ∧ (i ≤ j ∧ j ≤ l.length ∧ (∀ k, k < i → cmp (l.getD k default) a < 0) ∧ (∀ k, j ≤ k → k < l.length → 0 ≤ cmp (l.getD k default) a)) ∧ τ = { tm := [(0, true, .fs 27 (l.map Access.v) false), (2, true, .fn 31 []), (4, true, .ptr 0 [] 27), (8, true, .int .i64 l.length), (9, true, .int .i64 i), (10, true, .int .i64 j)], ob := [.var 27 (.data 27 a.v)], out := [], nt := 49 }) (l.length) ⟨0, l.length, rfl, ⟨Nat.zero_le _, Nat.le_refl _, by omega, by omega⟩, rfl⟩ ?_)
  rintro n τ ⟨i, j, hn, ⟨hij, hj, hlo, hhi⟩, rfl⟩
  refine SA.seq ?_
  refine SA.seq ?_
  refine SA.region ok (by kernel_rfl) [0, 2, 4, 8, 9, 10, 17] ?_
  intro R hR
  simp only [go_sem, strip]
  iterate 3 (refine opsA_cons fun R1 hR1 => ?_; simp only [go_sem, Nat.reduceBEq, Nat.reduceLT, Nat.reduceEqDiff, Nat.reduceAdd, Int.reduceLE, Int.reduceLT, Int.reduceNeg, Int.reduceEq, Int.reduceToNat, reduceCtorEq]; (repeat' with_reducible refine And.intro ?_ ?_); all_goals first | (refine hR1 _ ?_; clear hR1 R1) | omega | rfl | decide | assumption | (intro _; omega) | (simp; done) | (simp; omega) | (simp [roomFor, maxLen, by49, by4, by27, by3] <;> omega))
  refine opsA_nil (hR _ ?_)
  clear hR R
  try simp only [go_sem, Nat.reduceBEq]
  refine thenK.normal ?_
  refine SA.cond rfl ?_ ?_
  · intro hb1
    simp at hb1
    refine SA.skip ?_
    refine thenK.normal ?_
    refine SA.block ?_
    refine SA.seq ?_
    refine SA.region ok (by kernel_rfl) [0, 2, 4, 8, 9, 10, 11] ?_
    intro R hR
    simp only [go_sem, strip]
    iterate 5 (refine opsA_cons fun R1 hR1 => ?_; simp only [go_sem, Nat.reduceBEq, Nat.reduceLT, Nat.reduceEqDiff, Nat.reduceAdd, Int.reduceLE, Int.reduceLT, Int.reduceNeg, Int.reduceEq, Int.reduceToNat, reduceCtorEq]; (repeat' with_reducible refine And.intro ?_ ?_); all_goals first | (refine hR1 _ ?_; clear hR1 R1) | omega | rfl | decide | assumption | (intro _; omega) | (simp; done) | (simp; omega) | (simp [roomFor, maxLen, by49, by4, by27, by3] <;> omega))
    refine opsA_cons fun R1 hR1 => ?_
    simp only [go_sem, Nat.reduceBEq, Nat.reduceLT, Nat.reduceEqDiff, Nat.reduceAdd, Int.reduceLE, Int.reduceLT, Int.reduceNeg, Int.reduceEq, Int.reduceToNat, reduceCtorEq]
    repeat' with_reducible refine And.intro ?_ ?_
    all_goals first | (refine hR1 _ ?_; clear hR1 R1) | omega | rfl | decide | assumption | (intro _; omega) | (simp; done) | (simp; omega) | (simp [roomFor, maxLen, by49, by4, by27, by3] <;> omega)
    have hlt : (i + j) / 2 < l.length := by omega
    rw [mid hij hj hl]
    iterate 1 (refine opsA_cons fun R1 hR1 => ?_; simp only [go_sem, Nat.reduceBEq, Nat.reduceLT, Nat.reduceEqDiff, Nat.reduceAdd, Int.reduceLE, Int.reduceLT, Int.reduceNeg, Int.reduceEq, Int.reduceToNat, reduceCtorEq]; (repeat' with_reducible refine And.intro ?_ ?_); all_goals first | (refine hR1 _ ?_; clear hR1 R1) | omega | rfl | decide | assumption | (intro _; omega) | (simp; done) | (simp; omega) | (simp [roomFor, maxLen, by49, by4, by27, by3] <;> omega))
    refine opsA_nil (hR _ ?_)
    clear hR R
    try simp only [go_sem, Nat.reduceBEq]
    refine thenK.normal ?_
    refine SA.seq ?_
    refine SA.regionQ ok mixed (by kernel_rfl) (by kernel_rfl) [0, 2, 4, 8, 9, 10, 11, 31] ?_
    intro R hR
    simp only [go_sem, strip]
    iterate 4 (refine opsQ_cons fun R1 hR1 => ?_; simp only [go_sem, Nat.reduceBEq, Nat.reduceLT, Nat.reduceEqDiff, Nat.reduceAdd, Int.reduceLE, Int.reduceLT, Int.reduceNeg, Int.reduceEq, Int.reduceToNat, reduceCtorEq]; (repeat' with_reducible refine And.intro ?_ ?_); all_goals first | (refine hR1 _ ?_; clear hR1 R1) | omega | rfl | decide | assumption | (intro _; omega) | (simp; done) | (simp; omega) | (simp [roomFor, maxLen, by49, by4, by27, by3] <;> omega))
    refine opsQ_cons fun R1 hR1 => ?_
    simp only [go_sem, Nat.reduceBEq, Nat.reduceLT, Nat.reduceEqDiff, Nat.reduceAdd, Int.reduceLE, Int.reduceLT, Int.reduceNeg, Int.reduceEq, Int.reduceToNat, reduceCtorEq]
    repeat' with_reducible refine And.intro ?_ ?_
    all_goals first | (refine hR1 _ ?_; clear hR1 R1) | omega | rfl | decide | assumption | (intro _; omega) | (simp; done) | (simp; omega) | (simp [roomFor, maxLen, by49, by4, by27, by3] <;> omega)
    rw [getD_map Access.v l hlt]
    iterate 1 (refine opsQ_cons fun R1 hR1 => ?_; simp only [go_sem, Nat.reduceBEq, Nat.reduceLT, Nat.reduceEqDiff, Nat.reduceAdd, Int.reduceLE, Int.reduceLT, Int.reduceNeg, Int.reduceEq, Int.reduceToNat, reduceCtorEq]; (repeat' with_reducible refine And.intro ?_ ?_); all_goals first | (refine hR1 _ ?_; clear hR1 R1) | omega | rfl | decide | assumption | (intro _; omega) | (simp; done) | (simp; omega) | (simp [roomFor, maxLen, by49, by4, by27, by3] <;> omega))
    refine opsQ_cons fun R1 hR1 => ?_
    simp only [go_sem, Nat.reduceBEq, Nat.reduceLT, Nat.reduceEqDiff, Nat.reduceAdd, Int.reduceLE, Int.reduceLT, Int.reduceNeg, Int.reduceEq, Int.reduceToNat, reduceCtorEq]
    repeat' with_reducible refine And.intro ?_ ?_
    all_goals try (first | omega | assumption | (intro _; omega))
    first | refine ⟨_, _, rfl, _, CallQ.ctr ok (compare_ctr (l.getD ((i + j) / 2) default) a) (by first | rfl | (simp [argsV, toVs, contentV, toV, ty60, ty65, ty42, ty49, ty33, ty32, ty34, ty3, ty4, ty22, ty27, ty28, ty30, ty25, ty2, List.length_map, List.take_of_length_le])) rfl, ?_⟩ | refine ⟨_, _, rfl, _, fun hg => CallQ.ctr ok (compare_ctr (l.getD ((i + j) / 2) default) a) (by first | rfl | (simp [argsV, toVs, contentV, toV, ty60, ty65, ty42, ty49, ty33, ty32, ty34, ty3, ty4, ty22, ty27, ty28, ty30, ty25, ty2, List.length_map, List.take_of_length_le])) rfl, ?_⟩
    simp only [go_sem, Nat.reduceBEq, Nat.reduceLT, Nat.reduceEqDiff, Nat.reduceAdd, Int.reduceLE, Int.reduceLT, Int.reduceNeg, Int.reduceEq, Int.reduceToNat, reduceCtorEq]
    repeat' with_reducible refine And.intro ?_ ?_
    all_goals first | (refine hR1 _ ?_; clear hR1 R1) | omega | rfl | decide | assumption | (intro _; omega) | (simp; done) | (simp; omega) | (simp [roomFor, maxLen, by49, by4, by27, by3] <;> omega)
    iterate 1 (refine opsQ_cons fun R1 hR1 => ?_; simp only [go_sem, Nat.reduceBEq, Nat.reduceLT, Nat.reduceEqDiff, Nat.reduceAdd, Int.reduceLE, Int.reduceLT, Int.reduceNeg, Int.reduceEq, Int.reduceToNat, reduceCtorEq]; (repeat' with_reducible refine And.intro ?_ ?_); all_goals first | (refine hR1 _ ?_; clear hR1 R1) | omega | rfl | decide | assumption | (intro _; omega) | (simp; done) | (simp; omega) | (simp [roomFor, maxLen, by49, by4, by27, by3] <;> omega))
    refine opsQ_nil (hR _ ?_)
    clear hR R
    try simp only [go_sem, Nat.reduceBEq]
    refine thenK.normal ?_
    refine SA.cond rfl ?_ ?_
    · intro hb2
      simp only [decide_eq_true_eq] at hb2
      refine SA.region ok (by kernel_rfl) [0, 2, 4, 8, 9, 10] ?_
      intro R hR
      simp only [go_sem, strip]
      iterate 3 (refine opsA_cons fun R1 hR1 => ?_; simp only [go_sem, Nat.reduceBEq, Nat.reduceLT, Nat.reduceEqDiff, Nat.reduceAdd, Int.reduceLE, Int.reduceLT, Int.reduceNeg, Int.reduceEq, Int.reduceToNat, reduceCtorEq]; (repeat' with_reducible refine And.intro ?_ ?_); all_goals first | (refine hR1 _ ?_; clear hR1 R1) | omega | rfl | decide | assumption | (intro _; omega) | (simp; done) | (simp; omega) | (simp [roomFor, maxLen, by49, by4, by27, by3] <;> omega))
      refine opsA_nil (hR _ ?_)
      clear hR R
      try simp only [go_sem, Nat.reduceBEq]
      refine blockK.normal ?_
      refine loopK.normal (j - ((i + j) / 2 + 1)) _ (by omega) (St.le.of_eq (by rw [wrap_succ hlt hl])) ⟨(i + j) / 2 + 1, j, rfl, ⟨by omega, hj, ?_, hhi⟩, rfl⟩
      intro k hk
      by_cases hkm : k = (i + j) / 2
      · subst hkm; exact hb2
      · have h1 := sorted_lt hs (show k < (i + j) / 2 by omega) hlt
        rw [cmp_neg] at hb2 ⊢
        unfold lex at h1
        omega
    · intro hb2
      simp only [decide_eq_false_iff_not, Int.not_lt] at hb2
      refine SA.region ok (by kernel_rfl) [0, 2, 4, 8, 9, 10] ?_
      intro R hR
      simp only [go_sem, strip]
      iterate 2 (refine opsA_cons fun R1 hR1 => ?_; simp only [go_sem, Nat.reduceBEq, Nat.reduceLT, Nat.reduceEqDiff, Nat.reduceAdd, Int.reduceLE, Int.reduceLT, Int.reduceNeg, Int.reduceEq, Int.reduceToNat, reduceCtorEq]; (repeat' with_reducible refine And.intro ?_ ?_); all_goals first | (refine hR1 _ ?_; clear hR1 R1) | omega | rfl | decide | assumption | (intro _; omega) | (simp; done) | (simp; omega) | (simp [roomFor, maxLen, by49, by4, by27, by3] <;> omega))
      refine opsA_nil (hR _ ?_)
      clear hR R
      try simp only [go_sem, Nat.reduceBEq]
      refine blockK.normal ?_
      refine loopK.normal ((i + j) / 2 - i) _ (by omega) (St.le.of_eq rfl) ⟨i, (i + j) / 2, rfl, ⟨by omega, by omega, hlo, ?_⟩, rfl⟩
      intro k hk hkl
      by_cases hkm : k = (i + j) / 2
      · subst hkm; exact hb2
      · have h1 := sorted_lt hs (show (i + j) / 2 < k by omega) hkl
        have h2 : ¬ cmp (l.getD ((i + j) / 2) default) a < 0 := by omega
        apply Classical.byContradiction
        intro h3
        have h3 : cmp (l.getD k default) a < 0 := by omega
        rw [cmp_neg] at h2 h3
        unfold lex at h1
        omega
  · intro hb1
    simp at hb1
    refine SA.exit ?_
    refine thenK.exit ?_
    refine loopK.exit ?_
    refine blockK.hit ?_
    refine thenK.normal ?_
    refine SA.seq ?_
    refine SA.regionQ ok mixed (by kernel_rfl) (by kernel_rfl) [6, 7] ?_
    intro R hR
    simp only [go_sem, strip]
    iterate 11 (refine opsQ_cons fun R1 hR1 => ?_; simp only [go_sem, Nat.reduceBEq, Nat.reduceLT, Nat.reduceEqDiff, Nat.reduceAdd, Int.reduceLE, Int.reduceLT, Int.reduceNeg, Int.reduceEq, Int.reduceToNat, reduceCtorEq]; (repeat' with_reducible refine And.intro ?_ ?_); all_goals first | (refine hR1 _ ?_; clear hR1 R1) | omega | rfl | decide | assumption | (intro _; omega) | (simp; done) | (simp; omega) | (simp [roomFor, maxLen, by49, by4, by27, by3] <;> omega))
    refine opsQ_cons fun R1 hR1 => ?_
    simp only [go_sem, Nat.reduceBEq, Nat.reduceLT, Nat.reduceEqDiff, Nat.reduceAdd, Int.reduceLE, Int.reduceLT, Int.reduceNeg, Int.reduceEq, Int.reduceToNat, reduceCtorEq]
    repeat' with_reducible refine And.intro ?_ ?_
    all_goals try (first | omega | assumption | (intro _; omega))
    refine ⟨_, _, rfl, _, fun hg => CallQ.ctr ok (compare_ctr (l.getD i default) a) (by have hlt : i < l.length := (by simpa using hg); rw [getD_map Access.v l hlt]; rfl) rfl, ?_⟩
    simp only [go_sem, Nat.reduceBEq, Nat.reduceLT, Nat.reduceEqDiff, Nat.reduceAdd, Int.reduceLE, Int.reduceLT, Int.reduceNeg, Int.reduceEq, Int.reduceToNat, reduceCtorEq]
    repeat' with_reducible refine And.intro ?_ ?_
    all_goals first | (refine hR1 _ ?_; clear hR1 R1) | omega | rfl | decide | assumption | (intro _; omega) | (simp; done) | (simp; omega) | (simp [roomFor, maxLen, by49, by4, by27, by3] <;> omega)
    iterate 4 (refine opsQ_cons fun R1 hR1 => ?_; simp only [go_sem, Nat.reduceBEq, Nat.reduceLT, Nat.reduceEqDiff, Nat.reduceAdd, Int.reduceLE, Int.reduceLT, Int.reduceNeg, Int.reduceEq, Int.reduceToNat, reduceCtorEq]; (repeat' with_reducible refine And.intro ?_ ?_); all_goals first | (refine hR1 _ ?_; clear hR1 R1) | omega | rfl | decide | assumption | (intro _; omega) | (simp; done) | (simp; omega) | (simp [roomFor, maxLen, by49, by4, by27, by3] <;> omega))
    refine opsQ_nil (hR _ ?_)
    clear hR R
    try simp only [go_sem, Nat.reduceBEq]
    refine thenK.normal ?_
    refine SA.ret ?_
    refine ctrK.ret ?_
    simp only [resA, evalO, resV, backK, outE, toV, ty4, ty3, List.lookup_cons, List.lookup_nil, beq_self_eq_true, forall_const, true_and, and_true]
    simp only [go_sem, Nat.reduceBEq, Nat.reduceLT, Nat.reduceEqDiff, Nat.reduceAdd, Int.reduceLE, Int.reduceLT, Int.reduceNeg, Int.reduceEq, Int.reduceToNat, reduceCtorEq]
    have hji : j = i := by omega
    subst hji
    have hc : l.countP (fun x => decide (cmp x a < 0)) = j := count_pos hj (fun k hk => by simpa using hlo k hk) (fun k hk hkl => by have := hhi k hk hkl; simp only [decide_eq_false_iff_not]; omega)
    have hf : (bif decide ((j : Int) < l.length) then decide (cmp (l.getD j default) a = 0) else false) = (l.any fun x => decide (cmp x a = 0)) := by
      rw [Bool.eq_iff_iff]
      constructor
      · intro h
        simp only [Bool.cond_false_right, Bool.and_eq_true, decide_eq_true_eq] at h
        have h7 : j < l.length := by omega
        exact List.any_eq_true.2 ⟨l.getD j default, getD_mem l h7, decide_eq_true h.2⟩
      · intro h
        obtain ⟨x, hx, h0⟩ := List.any_eq_true.1 h
        obtain ⟨k, hk, rfl⟩ := List.mem_iff_getElem.1 hx
        have hk' : l.getD k default = l[k] := by simp [List.getD_eq_getElem?_getD, hk]
        rw [← hk'] at h0
        simp only [decide_eq_true_eq] at h0
        have hjk : j = k := by
          rcases Nat.lt_trichotomy j k with h | h | h
          · have h1 := sorted_lt hs h hk
            have h2 := hhi j (Nat.le_refl _) (by omega)
            have h3 : ¬ cmp (l.getD j default) a < 0 := by omega
            have h4 : cmp (l.getD k default) a = 0 := h0
            exfalso
            apply h3
            rw [cmp_neg]
            unfold lex at h1
            unfold cmp at h4
            split at h4
            · cases h4
            · split at h4
              · omega
              · cases h4
          · exact h
          · have h5 := hlo k h
            rw [h0] at h5
            exact absurd h5 (by decide)
        subst hjk
        have hd : decide ((j : Int) < l.length) = true := by simpa using hk
        rw [hd, h0]; rfl
    rw [hc, hf]
    exact ⟨⟨rfl, rfl⟩, rfl, rfl⟩

end Go.Eng.Try
