/- A part of the proof: walks through the program's functions, and what they compute. -/
import Derived.Test.YtbfihoopgcmkpaaTryTab
import Derived.Test.YtbfihoopgcmkpaaMdl
import Derived.Test.YtbfihoopgcmkpaaEngT
namespace Go.Eng.Try
open Go.RowKit Go.Eng
set_option linter.unusedSimpArgs false
set_option linter.unusedVariables false


attribute [local go_sem] Option.getD_some St.keep List.filterMap_cons List.filterMap_nil Option.map_some Option.map_none opG opQ opB newEs outE CallStepB guardA putK putE pureA evalO evalL constE pickA loadA fieldAddrA indexAddrA indexA sliceA evalOptI builtinA binA plainA shiftA eqA arith shifts effA storeA appendA St.kill Tm.kill E.kill E.killL Obj.kill elemsOf evalVs buildA okAt toV fromV zeroE V.get V.put V.sub V.setSub fromVs args0 CallStep CallStepQ i64min i64max u64min u64max u32min u32max u8min u8max Nat.zero_add List.length_map List.lookup_cons List.lookup_nil List.getElem?_cons_zero List.getElem?_cons_succ List.getElem?_toArray List.getElem?_nil Option.bind_some Option.bind_none List.size_toArray List.length_cons List.length_nil List.nil_append List.append_nil List.cons_append List.getD_cons_zero List.getD_cons_succ List.map_cons List.map_nil List.set_cons_zero List.set_cons_succ true_and and_true forall_const true_implies Bool.true_and Bool.and_true Bool.not_true Bool.not_false Bool.false_and Bool.and_false beq_self_eq_true Bool.true_beq Bool.false_beq beq_true beq_false eq_self false_implies V.toInt_int V.toBool_bool V.toList_list V.toList_agg V.toStr_str V.deref_ref if_true if_false Bool.false_eq_true Option.isSome_none Option.isSome_some Bool.false_or Bool.true_or Bool.or_false Bool.or_true cond_true cond_false implies_true and_self imp_self ty3 ty4 ty22 ty27 ty28 ty30 ty25 ty2 zero27 z27 z3 z4 Int.toNat_natCast Access.v Int.natCast_zero
-- scarab/depend.Clash
theorem clash_ctr (a b : List Access) (ha : a.length ≤ maxLen) (hb : b.length ≤ maxLen) : Ctr Go.Proofs.Try.prog tab 7 [22, 22] [4] [.list (a.map Access.v), .list (b.map Access.v)] [.bool (clash a b)] := by
  refine Ctr.body ok Go.Proofs.Try.func7 rfl rfl 43 rfl [.tmp 4] rfl (by simp [fromVs]) ?_
  simp only [fromVs, fromV, args0, V.toList_list, V.toInt_int, V.toBool_bool, Nat.zero_add, Nat.reduceAdd, ty22]
  refine SA.seq ?_
  refine SA.region ok (by kernel_rfl) [0, 1] ?_
  intro R hR
  simp only [go_sem, strip]
  iterate 1 (refine opsA_cons fun R1 hR1 => ?_; simp only [go_sem, Nat.reduceBEq, Nat.reduceLT, Nat.reduceEqDiff, Nat.reduceAdd, Int.reduceLE, Int.reduceLT, Int.reduceNeg, Int.reduceEq, Int.reduceToNat, reduceCtorEq]; (repeat' with_reducible refine And.intro ?_ ?_); all_goals first | (refine hR1 _ ?_; clear hR1 R1) | omega | rfl | decide | assumption | (intro _; omega) | (simp; done) | (simp; omega) | (simp [roomFor, maxLen, by27, by3] <;> omega))
  refine opsA_nil (hR _ ?_)
  clear hR R
  try simp only [go_sem, Nat.reduceBEq]
  refine thenK.normal ?_
  refine SA.seq ?_
  refine SA.seq ?_
  refine SA.region ok (by kernel_rfl) [1, 9, 10, 11] ?_
  intro R hR
  simp only [go_sem, strip]
  iterate 3 (refine opsA_cons fun R1 hR1 => ?_; simp only [go_sem, Nat.reduceBEq, Nat.reduceLT, Nat.reduceEqDiff, Nat.reduceAdd, Int.reduceLE, Int.reduceLT, Int.reduceNeg, Int.reduceEq, Int.reduceToNat, reduceCtorEq]; (repeat' with_reducible refine And.intro ?_ ?_); all_goals first | (refine hR1 _ ?_; clear hR1 R1) | omega | rfl | decide | assumption | (intro _; omega) | (simp; done) | (simp; omega) | (simp [roomFor, maxLen, by27, by3] <;> omega))
  refine opsA_nil (hR _ ?_)
  clear hR R
  try simp only [go_sem, Nat.reduceBEq]
  refine thenK.normal ?_
  refine SA.block ?_
  refine SA.weaken (St.le.of_eq (by first | rfl | simp)) (SA.loop (fun n τ => ∃ (i : Nat), n = a.length - i ∧ (i ≤ a.length ∧ clash (a.take i) b = false) ∧ τ = { tm := [(1, true, .fs 27 (b.map Access.v) false), (9, true, .fs 27 (a.map Access.v) false), (10, true, .int .i64 a.length), (11, true, .int .i64 i)], ob := [], out := [], nt := 43 }) (a.length) ⟨0, rfl, ⟨Nat.zero_le _, rfl⟩, rfl⟩ ?_)
  rintro n τ ⟨i, hn, ⟨hi, hc⟩, rfl⟩
  refine SA.seq ?_
  refine SA.region ok (by kernel_rfl) [1, 9, 10, 11, 12] ?_
  intro R hR
  simp only [go_sem, strip]
  iterate 1 (refine opsA_cons fun R1 hR1 => ?_; simp only [go_sem, Nat.reduceBEq, Nat.reduceLT, Nat.reduceEqDiff, Nat.reduceAdd, Int.reduceLE, Int.reduceLT, Int.reduceNeg, Int.reduceEq, Int.reduceToNat, reduceCtorEq]; (repeat' with_reducible refine And.intro ?_ ?_); all_goals first | (refine hR1 _ ?_; clear hR1 R1) | omega | rfl | decide | assumption | (intro _; omega) | (simp; done) | (simp; omega) | (simp [roomFor, maxLen, by27, by3] <;> omega))
  refine opsA_nil (hR _ ?_)
  clear hR R
  try simp only [go_sem, Nat.reduceBEq]
  refine thenK.normal ?_
  refine SA.seq ?_
  refine SA.cond rfl ?_ ?_
  · intro hb1
    try simp only [decide_eq_true_eq, decide_eq_false_iff_not] at hb1
    refine SA.skip ?_
    refine thenK.normal ?_
    refine SA.seq ?_
    refine SA.block ?_
    refine SA.seq ?_
    refine SA.region ok (by kernel_rfl) [1, 6, 9, 10, 11] ?_
    intro R hR
    simp only [go_sem, strip]
    iterate 4 (refine opsA_cons fun R1 hR1 => ?_; simp only [go_sem, Nat.reduceBEq, Nat.reduceLT, Nat.reduceEqDiff, Nat.reduceAdd, Int.reduceLE, Int.reduceLT, Int.reduceNeg, Int.reduceEq, Int.reduceToNat, reduceCtorEq]; (repeat' with_reducible refine And.intro ?_ ?_); all_goals first | (refine hR1 _ ?_; clear hR1 R1) | omega | rfl | decide | assumption | (intro _; omega) | (simp; done) | (simp; omega) | (simp [roomFor, maxLen, by27, by3] <;> omega))
    refine opsA_nil (hR _ ?_)
    clear hR R
    try simp only [go_sem, Nat.reduceBEq]
    have hlt : i < a.length := by omega
    rw [getD_map Access.v a hlt]
    refine thenK.normal ?_
    refine SA.seq ?_
    refine SA.region ok (by kernel_rfl) [1, 6, 9, 10, 11, 15, 16, 17] ?_
    intro R hR
    simp only [go_sem, strip]
    iterate 3 (refine opsA_cons fun R1 hR1 => ?_; simp only [go_sem, Nat.reduceBEq, Nat.reduceLT, Nat.reduceEqDiff, Nat.reduceAdd, Int.reduceLE, Int.reduceLT, Int.reduceNeg, Int.reduceEq, Int.reduceToNat, reduceCtorEq]; (repeat' with_reducible refine And.intro ?_ ?_); all_goals first | (refine hR1 _ ?_; clear hR1 R1) | omega | rfl | decide | assumption | (intro _; omega) | (simp; done) | (simp; omega) | (simp [roomFor, maxLen, by27, by3] <;> omega))
    refine opsA_nil (hR _ ?_)
    clear hR R
    try simp only [go_sem, Nat.reduceBEq]
    refine thenK.normal ?_
    refine SA.block ?_
    refine SA.weaken (St.le.of_eq (by first | rfl | simp)) (SA.loop (fun n τ => ∃ (j : Nat), n = b.length - j ∧ (j ≤ b.length ∧ ((b.take j).any fun y => clash2 (a.getD i default) y) = false) ∧ τ = { tm := [(1, true, .fs 27 (b.map Access.v) false), (6, true, .ptr 0 [] 27), (9, true, .fs 27 (a.map Access.v) false), (10, true, .int .i64 a.length), (11, true, .int .i64 i), (15, true, .fs 27 (b.map Access.v) false), (16, true, .int .i64 b.length), (17, true, .int .i64 j)], ob := [.var 27 (.data 27 (a.getD i default).v)], out := [], nt := 43 }) (b.length) ⟨0, rfl, ⟨Nat.zero_le _, rfl⟩, rfl⟩ ?_)
    rintro n τ ⟨j, hn, ⟨hj, hd⟩, rfl⟩
    refine SA.seq ?_
    refine SA.region ok (by kernel_rfl) [1, 6, 9, 10, 11, 15, 16, 17, 18] ?_
    intro R hR
    simp only [go_sem, strip]
    iterate 1 (refine opsA_cons fun R1 hR1 => ?_; simp only [go_sem, Nat.reduceBEq, Nat.reduceLT, Nat.reduceEqDiff, Nat.reduceAdd, Int.reduceLE, Int.reduceLT, Int.reduceNeg, Int.reduceEq, Int.reduceToNat, reduceCtorEq]; (repeat' with_reducible refine And.intro ?_ ?_); all_goals first | (refine hR1 _ ?_; clear hR1 R1) | omega | rfl | decide | assumption | (intro _; omega) | (simp; done) | (simp; omega) | (simp [roomFor, maxLen, by27, by3] <;> omega))
    refine opsA_nil (hR _ ?_)
    clear hR R
    try simp only [go_sem, Nat.reduceBEq]
    refine thenK.normal ?_
    refine SA.seq ?_
    refine SA.cond rfl ?_ ?_
    · intro hb2
      try simp only [decide_eq_true_eq, decide_eq_false_iff_not] at hb2
      refine SA.skip ?_
      refine thenK.normal ?_
      refine SA.seq ?_
      refine SA.block ?_
      refine SA.seq ?_
      refine SA.region ok (by kernel_rfl) [1, 6, 8, 9, 10, 11, 15, 16, 17] ?_
      intro R hR
      simp only [go_sem, strip]
      iterate 4 (refine opsA_cons fun R1 hR1 => ?_; simp only [go_sem, Nat.reduceBEq, Nat.reduceLT, Nat.reduceEqDiff, Nat.reduceAdd, Int.reduceLE, Int.reduceLT, Int.reduceNeg, Int.reduceEq, Int.reduceToNat, reduceCtorEq]; (repeat' with_reducible refine And.intro ?_ ?_); all_goals first | (refine hR1 _ ?_; clear hR1 R1) | omega | rfl | decide | assumption | (intro _; omega) | (simp; done) | (simp; omega) | (simp [roomFor, maxLen, by27, by3] <;> omega))
      refine opsA_nil (hR _ ?_)
      clear hR R
      try simp only [go_sem, Nat.reduceBEq]
      have hjl : j < b.length := by omega
      rw [getD_map Access.v b hjl]
      refine thenK.normal ?_
      refine SA.seq ?_
      refine SA.region ok (by kernel_rfl) [1, 6, 9, 10, 11, 15, 16, 17, 40] ?_
      intro R hR
      simp only [go_sem, strip]
      iterate 20 (refine opsA_cons fun R1 hR1 => ?_; simp only [go_sem, Nat.reduceBEq, Nat.reduceLT, Nat.reduceEqDiff, Nat.reduceAdd, Int.reduceLE, Int.reduceLT, Int.reduceNeg, Int.reduceEq, Int.reduceToNat, reduceCtorEq]; (repeat' with_reducible refine And.intro ?_ ?_); all_goals first | (refine hR1 _ ?_; clear hR1 R1) | omega | rfl | decide | assumption | (intro _; omega) | (simp; done) | (simp; omega) | (simp [roomFor, maxLen, by27, by3] <;> omega))
      refine opsA_nil (hR _ ?_)
      clear hR R
      try simp only [go_sem, Nat.reduceBEq]
      refine thenK.normal ?_
      refine SA.cond rfl ?_ ?_
      · intro hb3
        try simp only [decide_eq_true_eq, decide_eq_false_iff_not] at hb3
        refine SA.seq ?_
        refine SA.region ok (by kernel_rfl) [4] ?_
        intro R hR
        simp only [go_sem, strip]
        iterate 1 (refine opsA_cons fun R1 hR1 => ?_; simp only [go_sem, Nat.reduceBEq, Nat.reduceLT, Nat.reduceEqDiff, Nat.reduceAdd, Int.reduceLE, Int.reduceLT, Int.reduceNeg, Int.reduceEq, Int.reduceToNat, reduceCtorEq]; (repeat' with_reducible refine And.intro ?_ ?_); all_goals first | (refine hR1 _ ?_; clear hR1 R1) | omega | rfl | decide | assumption | (intro _; omega) | (simp; done) | (simp; omega) | (simp [roomFor, maxLen, by27, by3] <;> omega))
        refine opsA_nil (hR _ ?_)
        clear hR R
        try simp only [go_sem, Nat.reduceBEq]
        refine thenK.normal ?_
        refine SA.ret ?_
        refine blockK.ret ?_
        refine thenK.ret ?_
        refine loopK.ret ?_
        refine blockK.ret ?_
        refine blockK.ret ?_
        refine thenK.ret ?_
        refine loopK.ret ?_
        refine blockK.ret ?_
        refine thenK.ret ?_
        refine ctrK.ret ?_
        simp only [resA, evalO, resV, backK, outE, toV, ty4, ty3, List.lookup_cons, List.lookup_nil, beq_self_eq_true, forall_const, true_and, and_true]
        refine ⟨rfl, ?_⟩
        have h3 : clash2 (a.getD i default) (b.getD j default) = true := by simpa [clash2] using hb3
        have h4 : clash a b = true := List.any_eq_true.2 ⟨_, getD_mem a hlt, List.any_eq_true.2 ⟨_, getD_mem b hjl, h3⟩⟩
        rw [h4]; rfl
      · intro hb3
        try simp only [decide_eq_true_eq, decide_eq_false_iff_not] at hb3
        refine SA.skip ?_
        refine blockK.normal ?_
        refine thenK.normal ?_
        refine SA.region ok (by kernel_rfl) [1, 6, 9, 10, 11, 15, 16, 17] ?_
        intro R hR
        simp only [go_sem, strip]
        iterate 2 (refine opsA_cons fun R1 hR1 => ?_; simp only [go_sem, Nat.reduceBEq, Nat.reduceLT, Nat.reduceEqDiff, Nat.reduceAdd, Int.reduceLE, Int.reduceLT, Int.reduceNeg, Int.reduceEq, Int.reduceToNat, reduceCtorEq]; (repeat' with_reducible refine And.intro ?_ ?_); all_goals first | (refine hR1 _ ?_; clear hR1 R1) | omega | rfl | decide | assumption | (intro _; omega) | (simp; done) | (simp; omega) | (simp [roomFor, maxLen, by27, by3] <;> omega))
        refine opsA_nil (hR _ ?_)
        clear hR R
        try simp only [go_sem, Nat.reduceBEq]
        refine loopK.normal (b.length - (j + 1)) _ (by omega) ((St.le.cut 1 rfl).trans (St.le.of_eq (by simp only [wrap_succ hjl hb, List.take_succ_cons, List.take_zero] <;> rfl))) ⟨j + 1, rfl, ⟨hjl, ?_⟩, rfl⟩
        rw [any_take _ b hjl, hd, Bool.false_or]
        simpa [clash2] using hb3
    · intro hb2
      try simp only [decide_eq_true_eq, decide_eq_false_iff_not] at hb2
      refine SA.exit ?_
      refine thenK.exit ?_
      refine loopK.exit ?_
      refine blockK.hit ?_
      refine blockK.normal ?_
      refine thenK.normal ?_
      refine SA.region ok (by kernel_rfl) [1, 9, 10, 11] ?_
      intro R hR
      simp only [go_sem, strip]
      iterate 2 (refine opsA_cons fun R1 hR1 => ?_; simp only [go_sem, Nat.reduceBEq, Nat.reduceLT, Nat.reduceEqDiff, Nat.reduceAdd, Int.reduceLE, Int.reduceLT, Int.reduceNeg, Int.reduceEq, Int.reduceToNat, reduceCtorEq]; (repeat' with_reducible refine And.intro ?_ ?_); all_goals first | (refine hR1 _ ?_; clear hR1 R1) | omega | rfl | decide | assumption | (intro _; omega) | (simp; done) | (simp; omega) | (simp [roomFor, maxLen, by27, by3] <;> omega))
      refine opsA_nil (hR _ ?_)
      clear hR R
      try simp only [go_sem, Nat.reduceBEq]
      have hlt : i < a.length := by omega
      refine loopK.normal (a.length - (i + 1)) _ (by omega) ((St.le.cut 0 rfl).trans (St.le.of_eq (by simp only [wrap_succ hlt ha, List.take_zero]))) ⟨i + 1, rfl, ⟨hlt, ?_⟩, rfl⟩
      rw [clash_take a b hlt, hc, Bool.false_or]
      have : j = b.length := by omega
      subst this
      simpa using hd
  · intro hb1
    try simp only [decide_eq_true_eq, decide_eq_false_iff_not] at hb1
    refine SA.exit ?_
    refine thenK.exit ?_
    refine loopK.exit ?_
    refine blockK.hit ?_
    refine thenK.normal ?_
    refine SA.seq ?_
    refine SA.region ok (by kernel_rfl) [4] ?_
    intro R hR
    simp only [go_sem, strip]
    iterate 1 (refine opsA_cons fun R1 hR1 => ?_; simp only [go_sem, Nat.reduceBEq, Nat.reduceLT, Nat.reduceEqDiff, Nat.reduceAdd, Int.reduceLE, Int.reduceLT, Int.reduceNeg, Int.reduceEq, Int.reduceToNat, reduceCtorEq]; (repeat' with_reducible refine And.intro ?_ ?_); all_goals first | (refine hR1 _ ?_; clear hR1 R1) | omega | rfl | decide | assumption | (intro _; omega) | (simp; done) | (simp; omega) | (simp [roomFor, maxLen, by27, by3] <;> omega))
    refine opsA_nil (hR _ ?_)
    clear hR R
    try simp only [go_sem, Nat.reduceBEq]
    refine thenK.normal ?_
    refine SA.ret ?_
    refine ctrK.ret ?_
    simp only [resA, evalO, resV, backK, outE, toV, ty4, ty3, List.lookup_cons, List.lookup_nil, beq_self_eq_true, forall_const, true_and, and_true]
    refine ⟨rfl, ?_⟩
    have : i = a.length := by omega
    subst this
    rw [List.take_length] at hc
    rw [hc]; rfl

-- scarab/depend.touched
theorem touched_call (e : Event) (he : e.touch.length = 6) {σ : St} {K : St → E → Prop} (h : ∀ c, K σ (.fs 27 (e.of.map Access.v) c)) : CallE Go.Proofs.Try.prog tab σ 22 [.fptr 30 e.v] K := by
  refine CallE.body ok Go.Proofs.Try.func22 rfl rfl 13 rfl [.tmp 2] rfl (by simp) ?_
  simp only [enter, args0, Nat.zero_add, Nat.reduceAdd]
  refine SA.seq ?_
  refine SA.region ok (by kernel_rfl) [0] ?_
  intro R hR
  simp only [go_sem, strip]
  iterate 1 (refine opsA_cons fun R1 hR1 => ?_; simp only [go_sem, Nat.reduceBEq, Nat.reduceLT, Nat.reduceEqDiff, Nat.reduceAdd, Int.reduceLE, Int.reduceLT, Int.reduceNeg, Int.reduceEq, Int.reduceToNat, reduceCtorEq]; (repeat' with_reducible refine And.intro ?_ ?_); all_goals first | (refine hR1 _ ?_; clear hR1 R1) | omega | rfl | decide | assumption | (intro _; omega) | (simp; done) | (simp; omega) | (simp [roomFor, maxLen, by27, by3] <;> omega))
  refine opsA_nil (hR _ ?_)
  clear hR R
  try simp only [go_sem, Nat.reduceBEq]
  refine thenK.normal ?_
  refine SA.seq ?_
  refine SA.regionQ ok mixed (by kernel_rfl) (by kernel_rfl) [2] ?_
  intro R hR
  simp only [go_sem, strip]
  iterate 11 (refine opsQ_cons fun R1 hR1 => ?_; simp only [go_sem, Nat.reduceBEq, Nat.reduceLT, Nat.reduceEqDiff, Nat.reduceAdd, Int.reduceLE, Int.reduceLT, Int.reduceNeg, Int.reduceEq, Int.reduceToNat, reduceCtorEq]; (repeat' with_reducible refine And.intro ?_ ?_); all_goals first | (refine hR1 _ ?_; clear hR1 R1) | omega | rfl | decide | assumption | (intro _; omega) | (simp; done) | (simp; omega) | (simp [roomFor, maxLen, by27, by3] <;> omega))
  refine opsQ_nil (hR _ ?_)
  clear hR R
  try simp only [go_sem, Nat.reduceBEq]
  refine thenK.normal ?_
  refine SA.ret ?_
  refine bodyK.ret ?_
  simp only [resA, evalO, resV, backK, outE, toV, ty4, ty3, List.lookup_cons, List.lookup_nil, beq_self_eq_true, forall_const, true_and, and_true]
  simpa [Event.v, Event.of, List.map_take] using h (decide (max 0 (min 6 e.touches) = 6))

-- scarab/depend.Dependent
theorem dependent_ctr (a b : Event) (ha : a.touch.length = 6) (hb : b.touch.length = 6) : Ctr Go.Proofs.Try.prog tab 10 [30, 30] [4] [a.v, b.v] [.bool (dependent a b)] := by
  refine Ctr.body ok Go.Proofs.Try.func10 rfl rfl 8 rfl [.tmp 4] rfl (by simp [fromVs]) ?_
  simp only [fromVs, fromV, args0, V.toList_list, V.toInt_int, V.toBool_bool, Nat.zero_add, Nat.reduceAdd, ty30]
  refine SA.seq ?_
  refine SA.region ok (by kernel_rfl) [2, 3] ?_
  intro R hR
  simp only [go_sem, strip]
  iterate 3 (refine opsA_cons fun R1 hR1 => ?_; simp only [go_sem, Nat.reduceBEq, Nat.reduceLT, Nat.reduceEqDiff, Nat.reduceAdd, Int.reduceLE, Int.reduceLT, Int.reduceNeg, Int.reduceEq, Int.reduceToNat, reduceCtorEq]; (repeat' with_reducible refine And.intro ?_ ?_); all_goals first | (refine hR1 _ ?_; clear hR1 R1) | omega | rfl | decide | assumption | (intro _; omega) | (simp; done) | (simp; omega) | (simp [roomFor, maxLen, by27, by3] <;> omega))
  refine opsA_nil (hR _ ?_)
  clear hR R
  try simp only [go_sem, Nat.reduceBEq]
  refine thenK.normal ?_
  refine SA.seq ?_
  refine SA.weaken ((St.le.frz ok.sized 0 rfl).trans (St.le.frz ok.sized 1 rfl)) ?_
  simp only [St.frz, Tm.frz, E.frz, E.frzL, Obj.frz, List.map_cons, List.map_nil, List.set_cons_zero, List.set_cons_succ, Nat.reduceBEq, Nat.beq_refl, if_true, if_false, Nat.beq_eq_true_eq, reduceCtorEq, Bool.false_eq_true, V.get, Nat.reduceEqDiff]
  refine SA.region ok (by kernel_rfl) [4] ?_
  intro R hR
  simp only [go_sem, strip]
  refine opsA_cons fun R1 hR1 => ?_
  simp only [go_sem, Nat.reduceBEq, Nat.reduceLT, Nat.reduceEqDiff, Nat.reduceAdd, Int.reduceLE, Int.reduceLT, Int.reduceNeg, Int.reduceEq, Int.reduceToNat, reduceCtorEq]
  repeat' with_reducible refine And.intro ?_ ?_
  all_goals try (first | omega | assumption | (intro _; omega))
  refine ⟨_, _, rfl, .inr (touched_call a ha fun c1 => ?_)⟩
  simp only [go_sem, Nat.reduceBEq, Nat.reduceLT, Nat.reduceEqDiff, Nat.reduceAdd, Int.reduceLE, Int.reduceLT, Int.reduceNeg, Int.reduceEq, Int.reduceToNat, reduceCtorEq]
  repeat' with_reducible refine And.intro ?_ ?_
  all_goals first | (refine hR1 _ ?_; clear hR1 R1) | omega | rfl | decide | assumption | (intro _; omega) | (simp; done) | (simp; omega) | (simp [roomFor, maxLen, by27, by3] <;> omega)
  refine opsA_cons fun R1 hR1 => ?_
  simp only [go_sem, Nat.reduceBEq, Nat.reduceLT, Nat.reduceEqDiff, Nat.reduceAdd, Int.reduceLE, Int.reduceLT, Int.reduceNeg, Int.reduceEq, Int.reduceToNat, reduceCtorEq]
  repeat' with_reducible refine And.intro ?_ ?_
  all_goals try (first | omega | assumption | (intro _; omega))
  refine ⟨_, _, rfl, .inr (touched_call b hb fun c2 => ?_)⟩
  simp only [go_sem, Nat.reduceBEq, Nat.reduceLT, Nat.reduceEqDiff, Nat.reduceAdd, Int.reduceLE, Int.reduceLT, Int.reduceNeg, Int.reduceEq, Int.reduceToNat, reduceCtorEq]
  repeat' with_reducible refine And.intro ?_ ?_
  all_goals first | (refine hR1 _ ?_; clear hR1 R1) | omega | rfl | decide | assumption | (intro _; omega) | (simp; done) | (simp; omega) | (simp [roomFor, maxLen, by27, by3] <;> omega)
  refine opsA_cons fun R1 hR1 => ?_
  simp only [go_sem, Nat.reduceBEq, Nat.reduceLT, Nat.reduceEqDiff, Nat.reduceAdd, Int.reduceLE, Int.reduceLT, Int.reduceNeg, Int.reduceEq, Int.reduceToNat, reduceCtorEq]
  repeat' with_reducible refine And.intro ?_ ?_
  all_goals try (first | omega | assumption | (intro _; omega))
  first | refine ⟨_, _, rfl, .inl ⟨_, CallQ.ctr ok (clash_ctr a.of b.of (by have := a.of_len ha; unfold maxLen; omega) (by have := b.of_len hb; unfold maxLen; omega)) (by first | rfl | (simp [argsV, contentV, toV, ty3, ty4, ty22, ty27, ty28, ty30, ty25, ty2, List.length_map, List.take_of_length_le])) rfl, ?_⟩⟩ | refine ⟨_, _, rfl, .inl ⟨_, fun hg => CallQ.ctr ok (clash_ctr a.of b.of (by have := a.of_len ha; unfold maxLen; omega) (by have := b.of_len hb; unfold maxLen; omega)) (by first | rfl | (simp [argsV, contentV, toV, ty3, ty4, ty22, ty27, ty28, ty30, ty25, ty2, List.length_map, List.take_of_length_le])) rfl, ?_⟩⟩
  simp only [go_sem, Nat.reduceBEq, Nat.reduceLT, Nat.reduceEqDiff, Nat.reduceAdd, Int.reduceLE, Int.reduceLT, Int.reduceNeg, Int.reduceEq, Int.reduceToNat, reduceCtorEq]
  repeat' with_reducible refine And.intro ?_ ?_
  all_goals first | (refine hR1 _ ?_; clear hR1 R1) | omega | rfl | decide | assumption | (intro _; omega) | (simp; done) | (simp; omega) | (simp [roomFor, maxLen, by27, by3] <;> omega)
  iterate 1 (refine opsA_cons fun R1 hR1 => ?_; simp only [go_sem, Nat.reduceBEq, Nat.reduceLT, Nat.reduceEqDiff, Nat.reduceAdd, Int.reduceLE, Int.reduceLT, Int.reduceNeg, Int.reduceEq, Int.reduceToNat, reduceCtorEq]; (repeat' with_reducible refine And.intro ?_ ?_); all_goals first | (refine hR1 _ ?_; clear hR1 R1) | omega | rfl | decide | assumption | (intro _; omega) | (simp; done) | (simp; omega) | (simp [roomFor, maxLen, by27, by3] <;> omega))
  refine opsA_nil (hR _ ?_)
  clear hR R
  try simp only [go_sem, Nat.reduceBEq]
  refine thenK.normal ?_
  refine SA.ret ?_
  refine ctrK.ret ?_
  simp only [resA, evalO, resV, backK, outE, toV, ty4, ty3, List.lookup_cons, List.lookup_nil, beq_self_eq_true, forall_const, true_and, and_true]
  exact ⟨rfl, rfl⟩

-- scarab/scarabref10.Clash
theorem refClash_ctr (a b : List Access) (ha : a.length ≤ maxLen) (hb : b.length ≤ maxLen) : Ctr Go.Proofs.Try.prog tab 8 [22, 22] [4] [.list (a.map Access.v), .list (b.map Access.v)] [.bool (clash a b)] := by
  refine Ctr.body ok Go.Proofs.Try.func8 rfl rfl 57 rfl [.tmp 4] rfl (by simp [fromVs]) ?_
  simp only [fromVs, fromV, args0, V.toList_list, V.toInt_int, V.toBool_bool, Nat.zero_add, Nat.reduceAdd, ty22]
  refine SA.seq ?_
  refine SA.region ok (by kernel_rfl) [0, 1] ?_
  intro R hR
  simp only [go_sem, strip]
  iterate 1 (refine opsA_cons fun R1 hR1 => ?_; simp only [go_sem, Nat.reduceBEq, Nat.reduceLT, Nat.reduceEqDiff, Nat.reduceAdd, Int.reduceLE, Int.reduceLT, Int.reduceNeg, Int.reduceEq, Int.reduceToNat, reduceCtorEq]; (repeat' with_reducible refine And.intro ?_ ?_); all_goals first | (refine hR1 _ ?_; clear hR1 R1) | omega | rfl | decide | assumption | (intro _; omega) | (simp; done) | (simp; omega) | (simp [roomFor, maxLen, by27, by3] <;> omega))
  refine opsA_nil (hR _ ?_)
  clear hR R
  try simp only [go_sem, Nat.reduceBEq]
  refine thenK.normal ?_
  refine SA.seq ?_
  refine SA.seq ?_
  refine SA.region ok (by kernel_rfl) [0, 1, 5] ?_
  intro R hR
  simp only [go_sem, strip]
  iterate 1 (refine opsA_cons fun R1 hR1 => ?_; simp only [go_sem, Nat.reduceBEq, Nat.reduceLT, Nat.reduceEqDiff, Nat.reduceAdd, Int.reduceLE, Int.reduceLT, Int.reduceNeg, Int.reduceEq, Int.reduceToNat, reduceCtorEq]; (repeat' with_reducible refine And.intro ?_ ?_); all_goals first | (refine hR1 _ ?_; clear hR1 R1) | omega | rfl | decide | assumption | (intro _; omega) | (simp; done) | (simp; omega) | (simp [roomFor, maxLen, by27, by3] <;> omega))
  refine opsA_nil (hR _ ?_)
  clear hR R
  try simp only [go_sem, Nat.reduceBEq]
  refine thenK.normal ?_
  refine SA.block ?_
  refine SA.weaken (St.le.of_eq (by first | rfl | simp)) (SA.loop (fun n τ => ∃ (i : Nat), n = a.length - i ∧ (i ≤ a.length ∧ clash (a.take i) b = false) ∧ τ = { tm := [(0, true, .fs 27 (a.map Access.v) false), (1, true, .fs 27 (b.map Access.v) false), (5, true, .int .i64 i)], ob := [], out := [], nt := 57 }) (a.length) ⟨0, rfl, ⟨Nat.zero_le _, rfl⟩, rfl⟩ ?_)
  rintro n τ ⟨i, hn, ⟨hi, hc⟩, rfl⟩
  refine SA.seq ?_
  refine SA.seq ?_
  refine SA.region ok (by kernel_rfl) [0, 1, 5, 10] ?_
  intro R hR
  simp only [go_sem, strip]
  iterate 4 (refine opsA_cons fun R1 hR1 => ?_; simp only [go_sem, Nat.reduceBEq, Nat.reduceLT, Nat.reduceEqDiff, Nat.reduceAdd, Int.reduceLE, Int.reduceLT, Int.reduceNeg, Int.reduceEq, Int.reduceToNat, reduceCtorEq]; (repeat' with_reducible refine And.intro ?_ ?_); all_goals first | (refine hR1 _ ?_; clear hR1 R1) | omega | rfl | decide | assumption | (intro _; omega) | (simp; done) | (simp; omega) | (simp [roomFor, maxLen, by27, by3] <;> omega))
  refine opsA_nil (hR _ ?_)
  clear hR R
  try simp only [go_sem, Nat.reduceBEq]
  refine thenK.normal ?_
  refine SA.cond rfl ?_ ?_
  · intro hb1
    try simp only [decide_eq_true_eq, decide_eq_false_iff_not] at hb1
    refine SA.skip ?_
    refine thenK.normal ?_
    refine SA.seq ?_
    refine SA.block ?_
    refine SA.seq ?_
    refine SA.region ok (by kernel_rfl) [0, 1, 5, 6] ?_
    intro R hR
    simp only [go_sem, strip]
    iterate 1 (refine opsA_cons fun R1 hR1 => ?_; simp only [go_sem, Nat.reduceBEq, Nat.reduceLT, Nat.reduceEqDiff, Nat.reduceAdd, Int.reduceLE, Int.reduceLT, Int.reduceNeg, Int.reduceEq, Int.reduceToNat, reduceCtorEq]; (repeat' with_reducible refine And.intro ?_ ?_); all_goals first | (refine hR1 _ ?_; clear hR1 R1) | omega | rfl | decide | assumption | (intro _; omega) | (simp; done) | (simp; omega) | (simp [roomFor, maxLen, by27, by3] <;> omega))
    refine opsA_nil (hR _ ?_)
    clear hR R
    try simp only [go_sem, Nat.reduceBEq]
    refine thenK.normal ?_
    refine SA.block ?_
    refine SA.weaken (St.le.of_eq (by first | rfl | simp)) (SA.loop (fun n τ => ∃ (j : Nat), n = b.length - j ∧ (j ≤ b.length ∧ ((b.take j).any fun y => clash2 (a.getD i default) y) = false) ∧ τ = { tm := [(0, true, .fs 27 (a.map Access.v) false), (1, true, .fs 27 (b.map Access.v) false), (5, true, .int .i64 i), (6, true, .int .i64 j)], ob := [], out := [], nt := 57 }) (b.length) ⟨0, rfl, ⟨Nat.zero_le _, rfl⟩, rfl⟩ ?_)
    rintro n τ ⟨j, hn, ⟨hj, hd⟩, rfl⟩
    refine SA.seq ?_
    refine SA.seq ?_
    refine SA.region ok (by kernel_rfl) [0, 1, 5, 6, 16] ?_
    intro R hR
    simp only [go_sem, strip]
    iterate 4 (refine opsA_cons fun R1 hR1 => ?_; simp only [go_sem, Nat.reduceBEq, Nat.reduceLT, Nat.reduceEqDiff, Nat.reduceAdd, Int.reduceLE, Int.reduceLT, Int.reduceNeg, Int.reduceEq, Int.reduceToNat, reduceCtorEq]; (repeat' with_reducible refine And.intro ?_ ?_); all_goals first | (refine hR1 _ ?_; clear hR1 R1) | omega | rfl | decide | assumption | (intro _; omega) | (simp; done) | (simp; omega) | (simp [roomFor, maxLen, by27, by3] <;> omega))
    refine opsA_nil (hR _ ?_)
    clear hR R
    try simp only [go_sem, Nat.reduceBEq]
    refine thenK.normal ?_
    refine SA.cond rfl ?_ ?_
    · intro hb2
      try simp only [decide_eq_true_eq, decide_eq_false_iff_not] at hb2
      refine SA.skip ?_
      refine thenK.normal ?_
      refine SA.seq ?_
      refine SA.block ?_
      refine SA.seq ?_
      have hlt : i < a.length := by omega
      have hjl : j < b.length := by omega
      refine SA.regionQ ok mixed (by kernel_rfl) (by kernel_rfl) [0, 1, 5, 6, 56] ?_
      intro R hR
      simp only [go_sem, strip]
      iterate 38 (refine opsQ_cons fun R1 hR1 => ?_; simp only [go_sem, Nat.reduceBEq, Nat.reduceLT, Nat.reduceEqDiff, Nat.reduceAdd, Int.reduceLE, Int.reduceLT, Int.reduceNeg, Int.reduceEq, Int.reduceToNat, reduceCtorEq]; (repeat' with_reducible refine And.intro ?_ ?_); all_goals first | (refine hR1 _ ?_; clear hR1 R1) | omega | rfl | decide | assumption | (intro _; omega) | (simp; done) | (simp; omega) | (simp [roomFor, maxLen, by27, by3] <;> omega))
      refine opsQ_nil (hR _ ?_)
      clear hR R
      try simp only [go_sem, Nat.reduceBEq]
      refine thenK.normal ?_
      refine SA.cond rfl ?_ ?_
      · intro hb3
        try simp only [decide_eq_true_eq, decide_eq_false_iff_not] at hb3
        refine SA.seq ?_
        refine SA.region ok (by kernel_rfl) [4] ?_
        intro R hR
        simp only [go_sem, strip]
        iterate 1 (refine opsA_cons fun R1 hR1 => ?_; simp only [go_sem, Nat.reduceBEq, Nat.reduceLT, Nat.reduceEqDiff, Nat.reduceAdd, Int.reduceLE, Int.reduceLT, Int.reduceNeg, Int.reduceEq, Int.reduceToNat, reduceCtorEq]; (repeat' with_reducible refine And.intro ?_ ?_); all_goals first | (refine hR1 _ ?_; clear hR1 R1) | omega | rfl | decide | assumption | (intro _; omega) | (simp; done) | (simp; omega) | (simp [roomFor, maxLen, by27, by3] <;> omega))
        refine opsA_nil (hR _ ?_)
        clear hR R
        try simp only [go_sem, Nat.reduceBEq]
        refine thenK.normal ?_
        refine SA.ret ?_
        refine blockK.ret ?_
        refine thenK.ret ?_
        refine loopK.ret ?_
        refine blockK.ret ?_
        refine blockK.ret ?_
        refine thenK.ret ?_
        refine loopK.ret ?_
        refine blockK.ret ?_
        refine thenK.ret ?_
        refine ctrK.ret ?_
        simp only [resA, evalO, resV, backK, outE, toV, ty4, ty3, List.lookup_cons, List.lookup_nil, beq_self_eq_true, forall_const, true_and, and_true]
        refine ⟨rfl, ?_⟩
        have hlt : i < a.length := by omega
        have hjl : j < b.length := by omega
        simp only [getD_map Access.v a hlt, getD_map Access.v b hjl] at hb3
        have h3 : clash2 (a.getD i default) (b.getD j default) = true := by simpa [clash2, Access.v] using hb3
        have h4 : clash a b = true := List.any_eq_true.2 ⟨_, getD_mem a hlt, List.any_eq_true.2 ⟨_, getD_mem b hjl, h3⟩⟩
        rw [h4]; rfl
      · intro hb3
        try simp only [decide_eq_true_eq, decide_eq_false_iff_not] at hb3
        refine SA.skip ?_
        refine blockK.normal ?_
        refine thenK.normal ?_
        refine SA.region ok (by kernel_rfl) [0, 1, 5, 6] ?_
        intro R hR
        simp only [go_sem, strip]
        iterate 3 (refine opsA_cons fun R1 hR1 => ?_; simp only [go_sem, Nat.reduceBEq, Nat.reduceLT, Nat.reduceEqDiff, Nat.reduceAdd, Int.reduceLE, Int.reduceLT, Int.reduceNeg, Int.reduceEq, Int.reduceToNat, reduceCtorEq]; (repeat' with_reducible refine And.intro ?_ ?_); all_goals first | (refine hR1 _ ?_; clear hR1 R1) | omega | rfl | decide | assumption | (intro _; omega) | (simp; done) | (simp; omega) | (simp [roomFor, maxLen, by27, by3] <;> omega))
        refine opsA_nil (hR _ ?_)
        clear hR R
        try simp only [go_sem, Nat.reduceBEq]
        have hjl : j < b.length := by omega
        refine loopK.normal (b.length - (j + 1)) _ (by omega) (St.le.of_eq (by simp only [wrap_succ hjl hb])) ⟨j + 1, rfl, ⟨hjl, ?_⟩, rfl⟩
        rw [any_take _ b hjl, hd, Bool.false_or]
        simp only [getD_map Access.v a hlt, getD_map Access.v b hjl] at hb3
        simpa [clash2, Access.v] using hb3
    · intro hb2
      try simp only [decide_eq_true_eq, decide_eq_false_iff_not] at hb2
      refine SA.exit ?_
      refine thenK.exit ?_
      refine loopK.exit ?_
      refine blockK.hit ?_
      refine blockK.normal ?_
      refine thenK.normal ?_
      refine SA.region ok (by kernel_rfl) [0, 1, 5] ?_
      intro R hR
      simp only [go_sem, strip]
      iterate 3 (refine opsA_cons fun R1 hR1 => ?_; simp only [go_sem, Nat.reduceBEq, Nat.reduceLT, Nat.reduceEqDiff, Nat.reduceAdd, Int.reduceLE, Int.reduceLT, Int.reduceNeg, Int.reduceEq, Int.reduceToNat, reduceCtorEq]; (repeat' with_reducible refine And.intro ?_ ?_); all_goals first | (refine hR1 _ ?_; clear hR1 R1) | omega | rfl | decide | assumption | (intro _; omega) | (simp; done) | (simp; omega) | (simp [roomFor, maxLen, by27, by3] <;> omega))
      refine opsA_nil (hR _ ?_)
      clear hR R
      try simp only [go_sem, Nat.reduceBEq]
      have hlt : i < a.length := by omega
      refine loopK.normal (a.length - (i + 1)) _ (by omega) (St.le.of_eq (by simp only [wrap_succ hlt ha])) ⟨i + 1, rfl, ⟨hlt, ?_⟩, rfl⟩
      rw [clash_take a b hlt, hc, Bool.false_or]
      have : j = b.length := by omega
      subst this
      simpa using hd
  · intro hb1
    try simp only [decide_eq_true_eq, decide_eq_false_iff_not] at hb1
    refine SA.exit ?_
    refine thenK.exit ?_
    refine loopK.exit ?_
    refine blockK.hit ?_
    refine thenK.normal ?_
    refine SA.seq ?_
    refine SA.region ok (by kernel_rfl) [4] ?_
    intro R hR
    simp only [go_sem, strip]
    iterate 1 (refine opsA_cons fun R1 hR1 => ?_; simp only [go_sem, Nat.reduceBEq, Nat.reduceLT, Nat.reduceEqDiff, Nat.reduceAdd, Int.reduceLE, Int.reduceLT, Int.reduceNeg, Int.reduceEq, Int.reduceToNat, reduceCtorEq]; (repeat' with_reducible refine And.intro ?_ ?_); all_goals first | (refine hR1 _ ?_; clear hR1 R1) | omega | rfl | decide | assumption | (intro _; omega) | (simp; done) | (simp; omega) | (simp [roomFor, maxLen, by27, by3] <;> omega))
    refine opsA_nil (hR _ ?_)
    clear hR R
    try simp only [go_sem, Nat.reduceBEq]
    refine thenK.normal ?_
    refine SA.ret ?_
    refine ctrK.ret ?_
    simp only [resA, evalO, resV, backK, outE, toV, ty4, ty3, List.lookup_cons, List.lookup_nil, beq_self_eq_true, forall_const, true_and, and_true]
    refine ⟨rfl, ?_⟩
    have : i = a.length := by omega
    subst this
    rw [List.take_length] at hc
    rw [hc]; rfl

-- scarab/scarabref10.Of
theorem of_ctr (e : Event) (he : e.touch.length = 6) : Ctr Go.Proofs.Try.prog tab 23 [30] [22] [e.v] [.list (e.of.map Access.v)] := by
  refine Ctr.body ok Go.Proofs.Try.func23 rfl rfl 23 rfl [.tmp 2] rfl (by simp [fromVs]) ?_
  simp only [fromVs, fromV, args0, V.toList_list, V.toInt_int, V.toBool_bool, Nat.zero_add, Nat.reduceAdd, ty30]
  refine SA.seq ?_
  refine SA.region ok (by kernel_rfl) [1] ?_
  intro R hR
  simp only [go_sem, strip]
  iterate 2 (refine opsA_cons fun R1 hR1 => ?_; simp only [go_sem, Nat.reduceBEq, Nat.reduceLT, Nat.reduceEqDiff, Nat.reduceAdd, Int.reduceLE, Int.reduceLT, Int.reduceNeg, Int.reduceEq, Int.reduceToNat, reduceCtorEq]; (repeat' with_reducible refine And.intro ?_ ?_); all_goals first | (refine hR1 _ ?_; clear hR1 R1) | omega | rfl | decide | assumption | (intro _; omega) | (simp; done) | (simp; omega) | (simp [roomFor, maxLen, by27, by3] <;> omega))
  refine opsA_nil (hR _ ?_)
  clear hR R
  try simp only [go_sem, Nat.reduceBEq]
  refine thenK.normal ?_
  refine SA.seq ?_
  refine SA.region ok (by kernel_rfl) [1, 3] ?_
  intro R hR
  simp only [go_sem, strip]
  iterate 1 (refine opsA_cons fun R1 hR1 => ?_; simp only [go_sem, Nat.reduceBEq, Nat.reduceLT, Nat.reduceEqDiff, Nat.reduceAdd, Int.reduceLE, Int.reduceLT, Int.reduceNeg, Int.reduceEq, Int.reduceToNat, reduceCtorEq]; (repeat' with_reducible refine And.intro ?_ ?_); all_goals first | (refine hR1 _ ?_; clear hR1 R1) | omega | rfl | decide | assumption | (intro _; omega) | (simp; done) | (simp; omega) | (simp [roomFor, maxLen, by27, by3] <;> omega))
  refine opsA_nil (hR _ ?_)
  clear hR R
  try simp only [go_sem, Nat.reduceBEq]
  refine thenK.normal ?_
  refine SA.seq ?_
  refine SA.seq ?_
  refine SA.region ok (by kernel_rfl) [1, 3, 4] ?_
  intro R hR
  simp only [go_sem, strip]
  iterate 1 (refine opsA_cons fun R1 hR1 => ?_; simp only [go_sem, Nat.reduceBEq, Nat.reduceLT, Nat.reduceEqDiff, Nat.reduceAdd, Int.reduceLE, Int.reduceLT, Int.reduceNeg, Int.reduceEq, Int.reduceToNat, reduceCtorEq]; (repeat' with_reducible refine And.intro ?_ ?_); all_goals first | (refine hR1 _ ?_; clear hR1 R1) | omega | rfl | decide | assumption | (intro _; omega) | (simp; done) | (simp; omega) | (simp [roomFor, maxLen, by27, by3] <;> omega))
  refine opsA_nil (hR _ ?_)
  clear hR R
  try simp only [go_sem, Nat.reduceBEq]
  refine thenK.normal ?_
  refine SA.block ?_
  refine SA.weaken ((St.le.own (t := 3) 27 rfl).trans ((St.le.keep [1, 3, 4]).trans (St.le.of_eq (by first | rfl | simp)))) (SA.loop (fun n τ => ∃ (i : Nat), n = 6 - i ∧ (i ≤ 6 ∧ (i : Int) ≤ max 0 e.touches) ∧ τ = { tm := [(1, true, .ptr 0 [] 30), (3, true, .sl 1 27 0 i false), (4, true, .int .i64 i)], ob := [.var 30 (.data 30 e.v), .row 27 ((e.touch.take i).map Access.v)], out := [], nt := 23 }) (6) ⟨0, rfl, ⟨by omega, by omega⟩, rfl⟩ ?_)
  rintro n τ ⟨i, hn, ⟨hi, hc⟩, rfl⟩
  refine SA.seq ?_
  refine SA.seq ?_
  refine SA.region ok (by kernel_rfl) [1, 3, 4, 12] ?_
  intro R hR
  simp only [go_sem, strip]
  iterate 8 (refine opsA_cons fun R1 hR1 => ?_; simp only [go_sem, Nat.reduceBEq, Nat.reduceLT, Nat.reduceEqDiff, Nat.reduceAdd, Int.reduceLE, Int.reduceLT, Int.reduceNeg, Int.reduceEq, Int.reduceToNat, reduceCtorEq]; (repeat' with_reducible refine And.intro ?_ ?_); all_goals first | (refine hR1 _ ?_; clear hR1 R1) | omega | rfl | decide | assumption | (intro _; omega) | (simp; done) | (simp; omega) | (simp [roomFor, maxLen, by27, by3] <;> omega))
  refine opsA_nil (hR _ ?_)
  clear hR R
  try simp only [go_sem, Nat.reduceBEq]
  refine thenK.normal ?_
  refine SA.cond rfl ?_ ?_
  · intro hb1
    simp [Event.v] at hb1
    refine SA.skip ?_
    refine thenK.normal ?_
    refine SA.seq ?_
    refine SA.block ?_
    refine SA.region ok (by kernel_rfl) [1, 3, 4] ?_
    intro R hR
    simp only [go_sem, strip]
    iterate 8 (refine opsA_cons fun R1 hR1 => ?_; simp only [go_sem, Nat.reduceBEq, Nat.reduceLT, Nat.reduceEqDiff, Nat.reduceAdd, Int.reduceLE, Int.reduceLT, Int.reduceNeg, Int.reduceEq, Int.reduceToNat, reduceCtorEq]; (repeat' with_reducible refine And.intro ?_ ?_); all_goals first | (refine hR1 _ ?_; clear hR1 R1) | omega | rfl | decide | assumption | (intro _; omega) | (simp; done) | (simp; omega) | (simp [roomFor, maxLen, by27, by3] <;> omega))
    refine opsA_nil (hR _ ?_)
    clear hR R
    try simp only [go_sem, Nat.reduceBEq]
    refine blockK.normal ?_
    refine thenK.normal ?_
    refine SA.region ok (by kernel_rfl) [1, 3, 4] ?_
    intro R hR
    simp only [go_sem, strip]
    iterate 3 (refine opsA_cons fun R1 hR1 => ?_; simp only [go_sem, Nat.reduceBEq, Nat.reduceLT, Nat.reduceEqDiff, Nat.reduceAdd, Int.reduceLE, Int.reduceLT, Int.reduceNeg, Int.reduceEq, Int.reduceToNat, reduceCtorEq]; (repeat' with_reducible refine And.intro ?_ ?_); all_goals first | (refine hR1 _ ?_; clear hR1 R1) | omega | rfl | decide | assumption | (intro _; omega) | (simp; done) | (simp; omega) | (simp [roomFor, maxLen, by27, by3] <;> omega))
    refine opsA_nil (hR _ ?_)
    clear hR R
    try simp only [go_sem, Nat.reduceBEq]
    have e1 : List.take i (List.map Access.v (List.take i e.touch)) ++ List.take 1 (List.drop 0 [(e.v.toList.getD 7 default).toList.getD i default]) = List.map Access.v (List.take (i + 1) e.touch) := by
      have hl : i < e.touch.length := by omega
      have hl' : i < (e.touch.map Access.v).length := by simp; omega
      simp only [List.map_take, List.take_take, Nat.min_self, List.drop_zero, List.take_succ_cons, List.take_zero]
      rw [List.take_succ_eq_append_getElem hl']
      simp [Event.v, hl]
    have e2 := wrap_succ (n := i) (m := 6) (by omega) (by unfold maxLen; omega)
    refine loopK.normal (6 - (i + 1)) _ (by omega) ((St.le.cut 2 rfl).trans (St.le.of_eq (by rw [e1, e2]; rfl))) ⟨i + 1, rfl, ⟨by omega, by omega⟩, rfl⟩
  · intro hb1
    simp [Event.v] at hb1
    refine SA.exit ?_
    refine thenK.exit ?_
    refine loopK.exit ?_
    refine blockK.hit ?_
    refine thenK.normal ?_
    refine SA.seq ?_
    refine SA.region ok (by kernel_rfl) [2] ?_
    intro R hR
    simp only [go_sem, strip]
    iterate 2 (refine opsA_cons fun R1 hR1 => ?_; simp only [go_sem, Nat.reduceBEq, Nat.reduceLT, Nat.reduceEqDiff, Nat.reduceAdd, Int.reduceLE, Int.reduceLT, Int.reduceNeg, Int.reduceEq, Int.reduceToNat, reduceCtorEq]; (repeat' with_reducible refine And.intro ?_ ?_); all_goals first | (refine hR1 _ ?_; clear hR1 R1) | omega | rfl | decide | assumption | (intro _; omega) | (simp; done) | (simp; omega) | (simp [roomFor, maxLen, by27, by3] <;> omega))
    refine opsA_nil (hR _ ?_)
    clear hR R
    try simp only [go_sem, Nat.reduceBEq]
    refine thenK.normal ?_
    refine SA.ret ?_
    refine ctrK.ret ?_
    simp only [resA, evalO, resV, backK, outE, toV, ty4, ty3, List.lookup_cons, List.lookup_nil, beq_self_eq_true, forall_const, true_and, and_true]
    refine ⟨rfl, rfl, ?_, by simp⟩
    have : (max 0 (min 6 e.touches)).toNat = i := by omega
    simp [Event.of, this, List.take_take]

-- scarab/scarabref10.Dependent
theorem refDependent_ctr (a b : Event) (ha : a.touch.length = 6) (hb : b.touch.length = 6) : Ctr Go.Proofs.Try.prog tab 11 [30, 30] [4] [a.v, b.v] [.bool (dependent a b)] := by
  refine Ctr.body ok Go.Proofs.Try.func11 rfl rfl 10 rfl [.tmp 4] rfl (by simp [fromVs]) ?_
  simp only [fromVs, fromV, args0, V.toList_list, V.toInt_int, V.toBool_bool, Nat.zero_add, Nat.reduceAdd, ty30]
  refine SA.seq ?_
  refine SA.region ok (by kernel_rfl) [2, 3] ?_
  intro R hR
  simp only [go_sem, strip]
  iterate 3 (refine opsA_cons fun R1 hR1 => ?_; simp only [go_sem, Nat.reduceBEq, Nat.reduceLT, Nat.reduceEqDiff, Nat.reduceAdd, Int.reduceLE, Int.reduceLT, Int.reduceNeg, Int.reduceEq, Int.reduceToNat, reduceCtorEq]; (repeat' with_reducible refine And.intro ?_ ?_); all_goals first | (refine hR1 _ ?_; clear hR1 R1) | omega | rfl | decide | assumption | (intro _; omega) | (simp; done) | (simp; omega) | (simp [roomFor, maxLen, by27, by3] <;> omega))
  refine opsA_nil (hR _ ?_)
  clear hR R
  try simp only [go_sem, Nat.reduceBEq]
  refine thenK.normal ?_
  refine SA.seq ?_
  -- region 1: 1 paths
  refine SA.regionAny mixed 6 (by kernel_rfl) #[false, false, false, false, false, false] (by kernel_rfl) [] [4] ?_
  intro R hR
  refine AnyA.take ok 0 ⟨some 5, (Go.Op.load 30 (Go.Operand.tmp 2)), none⟩ (by kernel_rfl) (by kernel_rfl) (by kernel_rfl) (by kernel_rfl) (by kernel_rfl) #[true, false, false, false, false, false] (by kernel_rfl) fun R1 hR1 => ?_
  simp only [go_sem, Nat.reduceBEq, Nat.reduceLT, Nat.reduceEqDiff, Nat.reduceAdd, Int.reduceLE, Int.reduceLT, Int.reduceNeg, Int.reduceEq, Int.reduceToNat, reduceCtorEq]
  repeat' with_reducible refine And.intro ?_ ?_
  all_goals first | (refine hR1 _ ?_; clear hR1 R1) | omega | rfl | decide | assumption | (intro _; omega) | (simp; done) | (simp; omega) | (simp [roomFor, maxLen, by27, by3] <;> omega)
  refine AnyA.take ok 2 ⟨some 7, (Go.Op.load 30 (Go.Operand.tmp 3)), none⟩ (by kernel_rfl) (by kernel_rfl) (by kernel_rfl) (by kernel_rfl) (by kernel_rfl) #[true, false, true, false, false, false] (by kernel_rfl) fun R1 hR1 => ?_
  simp only [go_sem, Nat.reduceBEq, Nat.reduceLT, Nat.reduceEqDiff, Nat.reduceAdd, Int.reduceLE, Int.reduceLT, Int.reduceNeg, Int.reduceEq, Int.reduceToNat, reduceCtorEq]
  repeat' with_reducible refine And.intro ?_ ?_
  all_goals first | (refine hR1 _ ?_; clear hR1 R1) | omega | rfl | decide | assumption | (intro _; omega) | (simp; done) | (simp; omega) | (simp [roomFor, maxLen, by27, by3] <;> omega)
  refine AnyA.all (rs := [1]) ok (by kernel_rfl) (by kernel_rfl) rfl ?_
  refine Branches.keep (i := 1) ⟨some 6, (Go.Op.call (Go.Call.mk (Go.Callee.value (Go.Operand.func 23)) #[(Go.Operand.tmp 5)] #[30])), none⟩ (by kernel_rfl) rfl #[true, true, true, false, false, false] (by kernel_rfl) (fun R1 hR1 => ?_) ?_
  rotate_left
  exact Branches.nil
  simp only [go_sem, Nat.reduceBEq, Nat.reduceLT, Nat.reduceEqDiff, Nat.reduceAdd, Int.reduceLE, Int.reduceLT, Int.reduceNeg, Int.reduceEq, Int.reduceToNat, reduceCtorEq]
  repeat' with_reducible refine And.intro ?_ ?_
  all_goals try (first | omega | assumption | (intro _; omega))
  first | refine ⟨_, _, rfl, .inr (CallB.ctr ok (of_ctr a ha) (by first | rfl | (simp [argsV, contentV, toV, ty3, ty4, ty22, ty27, ty28, ty30, ty25, ty2, List.length_map, List.take_of_length_le])) ?_)⟩ | refine ⟨_, _, rfl, .inr ⟨fun _ => CallB.ctr ok (of_ctr a ha) (by first | rfl | (simp [argsV, contentV, toV, ty3, ty4, ty22, ty27, ty28, ty30, ty25, ty2, List.length_map, List.take_of_length_le])) ?_, ?_⟩⟩
  simp only [go_sem, Nat.reduceBEq, Nat.reduceLT, Nat.reduceEqDiff, Nat.reduceAdd, Int.reduceLE, Int.reduceLT, Int.reduceNeg, Int.reduceEq, Int.reduceToNat, reduceCtorEq]
  repeat' with_reducible refine And.intro ?_ ?_
  all_goals first | (refine hR1 _ ?_; clear hR1 R1) | omega | rfl | decide | assumption | (intro _; omega) | (simp; done) | (simp; omega) | (simp [roomFor, maxLen, by27, by3] <;> omega)
  refine AnyA.all (rs := [3]) ok (by kernel_rfl) (by kernel_rfl) rfl ?_
  refine Branches.keep (i := 3) ⟨some 8, (Go.Op.call (Go.Call.mk (Go.Callee.value (Go.Operand.func 23)) #[(Go.Operand.tmp 7)] #[30])), none⟩ (by kernel_rfl) rfl #[true, true, true, true, false, false] (by kernel_rfl) (fun R1 hR1 => ?_) ?_
  rotate_left
  exact Branches.nil
  simp only [go_sem, Nat.reduceBEq, Nat.reduceLT, Nat.reduceEqDiff, Nat.reduceAdd, Int.reduceLE, Int.reduceLT, Int.reduceNeg, Int.reduceEq, Int.reduceToNat, reduceCtorEq]
  repeat' with_reducible refine And.intro ?_ ?_
  all_goals try (first | omega | assumption | (intro _; omega))
  first | refine ⟨_, _, rfl, .inr (CallB.ctr ok (of_ctr b hb) (by first | rfl | (simp [argsV, contentV, toV, ty3, ty4, ty22, ty27, ty28, ty30, ty25, ty2, List.length_map, List.take_of_length_le])) ?_)⟩ | refine ⟨_, _, rfl, .inr ⟨fun _ => CallB.ctr ok (of_ctr b hb) (by first | rfl | (simp [argsV, contentV, toV, ty3, ty4, ty22, ty27, ty28, ty30, ty25, ty2, List.length_map, List.take_of_length_le])) ?_, ?_⟩⟩
  simp only [go_sem, Nat.reduceBEq, Nat.reduceLT, Nat.reduceEqDiff, Nat.reduceAdd, Int.reduceLE, Int.reduceLT, Int.reduceNeg, Int.reduceEq, Int.reduceToNat, reduceCtorEq]
  repeat' with_reducible refine And.intro ?_ ?_
  all_goals first | (refine hR1 _ ?_; clear hR1 R1) | omega | rfl | decide | assumption | (intro _; omega) | (simp; done) | (simp; omega) | (simp [roomFor, maxLen, by27, by3] <;> omega)
  refine AnyA.all (rs := [4]) ok (by kernel_rfl) (by kernel_rfl) rfl ?_
  refine Branches.keep (i := 4) ⟨some 9, (Go.Op.call (Go.Call.mk (Go.Callee.value (Go.Operand.func 8)) #[(Go.Operand.tmp 6), (Go.Operand.tmp 8)] #[22, 22])), none⟩ (by kernel_rfl) rfl #[true, true, true, true, true, false] (by kernel_rfl) (fun R1 hR1 => ?_) ?_
  rotate_left
  exact Branches.nil
  simp only [go_sem, Nat.reduceBEq, Nat.reduceLT, Nat.reduceEqDiff, Nat.reduceAdd, Int.reduceLE, Int.reduceLT, Int.reduceNeg, Int.reduceEq, Int.reduceToNat, reduceCtorEq]
  repeat' with_reducible refine And.intro ?_ ?_
  all_goals try (first | omega | assumption | (intro _; omega))
  first | refine ⟨_, _, rfl, .inl ⟨_, CallQ.ctr ok (refClash_ctr a.of b.of (by have := a.of_len ha; unfold maxLen; omega) (by have := b.of_len hb; unfold maxLen; omega)) (by first | rfl | (simp [argsV, contentV, toV, ty3, ty4, ty22, ty27, ty28, ty30, ty25, ty2, List.length_map, List.take_of_length_le])) rfl, ?_⟩⟩ | refine ⟨_, _, rfl, .inl ⟨_, fun hg => CallQ.ctr ok (refClash_ctr a.of b.of (by have := a.of_len ha; unfold maxLen; omega) (by have := b.of_len hb; unfold maxLen; omega)) (by first | rfl | (simp [argsV, contentV, toV, ty3, ty4, ty22, ty27, ty28, ty30, ty25, ty2, List.length_map, List.take_of_length_le])) rfl, ?_⟩⟩
  simp only [go_sem, Nat.reduceBEq, Nat.reduceLT, Nat.reduceEqDiff, Nat.reduceAdd, Int.reduceLE, Int.reduceLT, Int.reduceNeg, Int.reduceEq, Int.reduceToNat, reduceCtorEq]
  repeat' with_reducible refine And.intro ?_ ?_
  all_goals first | (refine hR1 _ ?_; clear hR1 R1) | omega | rfl | decide | assumption | (intro _; omega) | (simp; done) | (simp; omega) | (simp [roomFor, maxLen, by27, by3] <;> omega)
  refine AnyA.take ok 5 ⟨some 4, (Go.Op.assign (Go.Operand.tmp 9)), none⟩ (by kernel_rfl) (by kernel_rfl) (by kernel_rfl) (by kernel_rfl) (by kernel_rfl) #[true, true, true, true, true, true] (by kernel_rfl) fun R1 hR1 => ?_
  simp only [go_sem, Nat.reduceBEq, Nat.reduceLT, Nat.reduceEqDiff, Nat.reduceAdd, Int.reduceLE, Int.reduceLT, Int.reduceNeg, Int.reduceEq, Int.reduceToNat, reduceCtorEq]
  repeat' with_reducible refine And.intro ?_ ?_
  all_goals first | (refine hR1 _ ?_; clear hR1 R1) | omega | rfl | decide | assumption | (intro _; omega) | (simp; done) | (simp; omega) | (simp [roomFor, maxLen, by27, by3] <;> omega)
  refine AnyA.done (by kernel_rfl) (hR _ ?_)
  clear hR R
  try simp only [go_sem, Nat.reduceBEq]
  refine thenK.normal ?_
  refine SA.ret ?_
  refine ctrK.ret ?_
  simp only [resA, evalO, resV, backK, outE, toV, ty4, ty3, List.lookup_cons, List.lookup_nil, beq_self_eq_true, forall_const, true_and, and_true]
  exact ⟨rfl, rfl⟩

end Go.Eng.Try
