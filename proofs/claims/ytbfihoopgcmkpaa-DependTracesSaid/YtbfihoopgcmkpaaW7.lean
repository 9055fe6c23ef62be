/- A part of the proof: walks through the program's functions, and what they compute. -/
import Derived.Test.YtbfihoopgcmkpaaTryTab
import Derived.Test.YtbfihoopgcmkpaaMdl
import Derived.Test.YtbfihoopgcmkpaaEngT
import Derived.Test.YtbfihoopgcmkpaaW5
namespace Go.Eng.Try
open Go.RowKit Go.Eng
set_option linter.unusedSimpArgs false
set_option linter.unusedVariables false

attribute [local go_sem] Option.getD_some St.keep List.filterMap_cons List.filterMap_nil Option.map_some Option.map_none opG opQ opB newEs outE CallStepB guardA putK putE pureA evalO evalL constE pickA loadA fieldAddrA indexAddrA indexA sliceA evalOptI builtinA binA plainA shiftA eqA arith shifts effA storeA appendA St.kill Tm.kill E.kill E.killL Obj.kill elemsOf evalVs buildA okAt toV fromV zeroE V.get V.put V.sub V.setSub fromVs args0 CallStep CallStepQ i64min i64max u64min u64max u32min u32max u8min u8max Nat.zero_add List.length_map List.lookup_cons List.lookup_nil List.getElem?_cons_zero List.getElem?_cons_succ List.getElem?_toArray List.getElem?_nil Option.bind_some Option.bind_none List.size_toArray List.length_cons List.length_nil List.nil_append List.append_nil List.cons_append List.getD_cons_zero List.getD_cons_succ List.map_cons List.map_nil List.set_cons_zero List.set_cons_succ true_and and_true forall_const true_implies Bool.true_and Bool.and_true Bool.not_true Bool.not_false Bool.false_and Bool.and_false beq_self_eq_true Bool.true_beq Bool.false_beq beq_true beq_false eq_self false_implies V.toInt_int V.toBool_bool V.toList_list V.toList_agg V.toStr_str V.deref_ref if_true if_false Bool.false_eq_true Option.isSome_none Option.isSome_some Bool.false_or Bool.true_or Bool.or_false Bool.or_true cond_true cond_false implies_true and_self imp_self ty33 ty32 ty34 ty3 ty4 ty22 ty27 ty28 ty30 ty25 ty2 concat_at zero27 z27 z3 z4 Int.toNat_natCast Int.natCast_zero Event.v0 Event.v7 Event.v8 Access.v0 Access.v1 Access.v2 beq_acc
-- scarab/depend.Users$1
theorem users1_call (a : Access) (k n : Int) {σ : St} {K : St → E → Prop} (h : ∀ xs, K { σ with ob := σ.ob ++ xs } (.bool (isAt k n a))) : CallE Go.Proofs.Try.prog tab σ 25 [.data 27 a.v, .fptr 3 (.int k), .fptr 3 (.int n)] K := by
  refine CallE.body ok Go.Proofs.Try.func25 rfl rfl 15 rfl [.tmp 4] rfl (by simp) ?_
  simp only [enter, args0, Nat.zero_add, Nat.reduceAdd]
  refine SA.seq ?_
  refine SA.region ok (by kernel_rfl) [1, 2, 3] ?_
  intro R hR
  simp only [go_sem, strip]
  iterate 2 (refine opsA_cons fun R1 hR1 => ?_; simp only [go_sem, Nat.reduceBEq, Nat.reduceLT, Nat.reduceEqDiff, Nat.reduceAdd, Int.reduceLE, Int.reduceLT, Int.reduceNeg, Int.reduceEq, Int.reduceToNat, reduceCtorEq]; (repeat' with_reducible refine And.intro ?_ ?_); all_goals first | (refine hR1 _ ?_; clear hR1 R1) | omega | rfl | decide | assumption | (intro _; omega) | (simp; done) | (simp; omega) | (simp [roomFor, maxLen, by27, by3] <;> omega))
  refine opsA_nil (hR _ ?_)
  clear hR R
  try simp only [go_sem, Nat.reduceBEq]
  refine thenK.normal ?_
  refine SA.seq ?_
  refine SA.region ok (by kernel_rfl) [4] ?_
  intro R hR
  simp only [go_sem, strip]
  iterate 11 (refine opsA_cons fun R1 hR1 => ?_; simp only [go_sem, Nat.reduceBEq, Nat.reduceLT, Nat.reduceEqDiff, Nat.reduceAdd, Int.reduceLE, Int.reduceLT, Int.reduceNeg, Int.reduceEq, Int.reduceToNat, reduceCtorEq]; (repeat' with_reducible refine And.intro ?_ ?_); all_goals first | (refine hR1 _ ?_; clear hR1 R1) | omega | rfl | decide | assumption | (intro _; omega) | (simp; done) | (simp; omega) | (simp [roomFor, maxLen, by27, by3] <;> omega))
  refine opsA_nil (hR _ ?_)
  clear hR R
  try simp only [go_sem, Nat.reduceBEq]
  refine thenK.normal ?_
  refine SA.ret ?_
  refine bodyK.ret ?_
  simp only [resA, evalO, resV, backK, outE, toV, ty4, ty3, List.lookup_cons, List.lookup_nil, beq_self_eq_true, forall_const, true_and, and_true]
  simpa [isAt] using h [.var 27 (.data 27 a.v)]

-- slices.IndexFunc[[]scarab/api.Access,scarab/api.Access]
theorem indexAccess_call {f : FuncId} {caps : List E} {p : Access → Bool} (l : List Access) (c : Bool) (hl : l.length ≤ maxLen) (hf : ∀ a ∈ l, ∀ (σ : St) (K : St → E → Prop), (∀ xs, K { σ with ob := σ.ob ++ xs } (.bool (p a))) → CallE Go.Proofs.Try.prog tab σ f (.data 27 a.v :: caps) K) {σ : St} {K : St → E → Prop} (h : ∀ xs, K { σ with ob := σ.ob ++ xs } (.int .i64 (findA p l))) : CallE Go.Proofs.Try.prog tab σ 34 [.fs 27 (l.map Access.v) c, .fn f caps] K := by
  refine CallE.body ok Go.Proofs.Try.func34 rfl rfl 19 rfl [.tmp 4] rfl (by simp) ?_
  simp only [enter, args0, Nat.zero_add, Nat.reduceAdd]
  refine SA.seq ?_
  refine SA.region ok (by kernel_rfl) [0, 1] ?_
  intro R hR
  simp only [go_sem, strip]
  iterate 1 (refine opsA_cons fun R1 hR1 => ?_; simp only [go_sem, Nat.reduceBEq, Nat.reduceLT, Nat.reduceEqDiff, Nat.reduceAdd, Int.reduceLE, Int.reduceLT, Int.reduceNeg, Int.reduceEq, Int.reduceToNat, reduceCtorEq]; (repeat' with_reducible refine And.intro ?_ ?_); all_goals first | (refine hR1 _ ?_; clear hR1 R1) | omega | rfl | decide | assumption | (intro _; omega) | (simp; done) | (simp; omega) | (simp [roomFor, maxLen, by27, by3] <;> omega))
  refine opsA_nil (hR _ ?_)
  clear hR R
  try simp only [go_sem, Nat.reduceBEq]
  refine thenK.normal ?_
  refine SA.seq ?_
  refine SA.seq ?_
  refine SA.region ok (by kernel_rfl) [0, 1, 7, 8] ?_
  intro R hR
  simp only [go_sem, strip]
  iterate 3 (refine opsA_cons fun R1 hR1 => ?_; simp only [go_sem, Nat.reduceBEq, Nat.reduceLT, Nat.reduceEqDiff, Nat.reduceAdd, Int.reduceLE, Int.reduceLT, Int.reduceNeg, Int.reduceEq, Int.reduceToNat, reduceCtorEq]; (repeat' with_reducible refine And.intro ?_ ?_); all_goals first | (refine hR1 _ ?_; clear hR1 R1) | omega | rfl | decide | assumption | (intro _; omega) | (simp; done) | (simp; omega) | (simp [roomFor, maxLen, by27, by3] <;> omega))
  refine opsA_nil (hR _ ?_)
  clear hR R
  try simp only [go_sem, Nat.reduceBEq]
  refine thenK.normal ?_
  refine SA.block ?_
  refine SA.weaken (St.le.of_eq (by first | rfl | simp)) (SA.loop (fun n τ => ∃ (i : Nat) (xs : List Obj), n = l.length - i ∧ (i ≤ l.length ∧ (l.take i).any p = false) ∧ τ = { tm := [(0, true, .fs 27 (l.map Access.v) c), (1, true, .fn f caps), (7, true, .int .i64 l.length), (8, true, .int .i64 i)], ob := σ.ob ++ xs, out := σ.tm :: σ.out, nt := 19 }) (l.length) ⟨0, [], rfl, ⟨Nat.zero_le _, rfl⟩, rfl⟩ ?_)
  rintro n τ ⟨i, xs, hn, ⟨hi, hc⟩, rfl⟩
  refine SA.seq ?_
  refine SA.region ok (by kernel_rfl) [0, 1, 7, 8, 9] ?_
  intro R hR
  simp only [go_sem, strip]
  iterate 1 (refine opsA_cons fun R1 hR1 => ?_; simp only [go_sem, Nat.reduceBEq, Nat.reduceLT, Nat.reduceEqDiff, Nat.reduceAdd, Int.reduceLE, Int.reduceLT, Int.reduceNeg, Int.reduceEq, Int.reduceToNat, reduceCtorEq]; (repeat' with_reducible refine And.intro ?_ ?_); all_goals first | (refine hR1 _ ?_; clear hR1 R1) | omega | rfl | decide | assumption | (intro _; omega) | (simp; done) | (simp; omega) | (simp [roomFor, maxLen, by27, by3] <;> omega))
  refine opsA_nil (hR _ ?_)
  clear hR R
  try simp only [go_sem, Nat.reduceBEq]
  refine thenK.normal ?_
  refine SA.seq ?_
  refine SA.cond rfl ?_ ?_
  · intro hb1
    try simp only [decide_eq_true_eq, decide_eq_false_iff_not] at hb1
    refine SA.skip ?_
    refine thenK.normal ?_
    refine SA.seq ?_
    refine SA.block ?_
    refine SA.seq ?_
    refine SA.region ok (by kernel_rfl) [0, 1, 5, 7, 8] ?_
    intro R hR
    simp only [go_sem, strip]
    iterate 2 (refine opsA_cons fun R1 hR1 => ?_; simp only [go_sem, Nat.reduceBEq, Nat.reduceLT, Nat.reduceEqDiff, Nat.reduceAdd, Int.reduceLE, Int.reduceLT, Int.reduceNeg, Int.reduceEq, Int.reduceToNat, reduceCtorEq]; (repeat' with_reducible refine And.intro ?_ ?_); all_goals first | (refine hR1 _ ?_; clear hR1 R1) | omega | rfl | decide | assumption | (intro _; omega) | (simp; done) | (simp; omega) | (simp [roomFor, maxLen, by27, by3] <;> omega))
    refine opsA_nil (hR _ ?_)
    clear hR R
    try simp only [go_sem, Nat.reduceBEq]
    refine thenK.normal ?_
    refine SA.seq ?_
    refine SA.region ok (by kernel_rfl) [0, 1, 5, 7, 8, 16] ?_
    intro R hR
    simp only [go_sem, strip]
    iterate 4 (refine opsA_cons fun R1 hR1 => ?_; simp only [go_sem, Nat.reduceBEq, Nat.reduceLT, Nat.reduceEqDiff, Nat.reduceAdd, Int.reduceLE, Int.reduceLT, Int.reduceNeg, Int.reduceEq, Int.reduceToNat, reduceCtorEq]; (repeat' with_reducible refine And.intro ?_ ?_); all_goals first | (refine hR1 _ ?_; clear hR1 R1) | omega | rfl | decide | assumption | (intro _; omega) | (simp; done) | (simp; omega) | (simp [roomFor, maxLen, by27, by3] <;> omega))
    refine opsA_cons fun R1 hR1 => ?_
    simp only [go_sem, Nat.reduceBEq, Nat.reduceLT, Nat.reduceEqDiff, Nat.reduceAdd, Int.reduceLE, Int.reduceLT, Int.reduceNeg, Int.reduceEq, Int.reduceToNat, reduceCtorEq]
    repeat' with_reducible refine And.intro ?_ ?_
    all_goals first | (refine hR1 _ ?_; clear hR1 R1) | omega | rfl | decide | assumption | (intro _; omega) | (simp; done) | (simp; omega) | (simp [roomFor, maxLen, by27, by3] <;> omega)
    have hlt : i < l.length := by omega
    rw [getD_map Access.v l hlt]
    refine opsA_cons fun R1 hR1 => ?_
    simp only [go_sem, Nat.reduceBEq, Nat.reduceLT, Nat.reduceEqDiff, Nat.reduceAdd, Int.reduceLE, Int.reduceLT, Int.reduceNeg, Int.reduceEq, Int.reduceToNat, reduceCtorEq]
    repeat' with_reducible refine And.intro ?_ ?_
    all_goals try (first | omega | assumption | (intro _; omega))
    refine ⟨_, _, rfl, .inr (hf _ (getD_mem l hlt) _ _ fun ys => ?_)⟩
    simp only [go_sem, Nat.reduceBEq, Nat.reduceLT, Nat.reduceEqDiff, Nat.reduceAdd, Int.reduceLE, Int.reduceLT, Int.reduceNeg, Int.reduceEq, Int.reduceToNat, reduceCtorEq]
    repeat' with_reducible refine And.intro ?_ ?_
    all_goals first | (refine hR1 _ ?_; clear hR1 R1) | omega | rfl | decide | assumption | (intro _; omega) | (simp; done) | (simp; omega) | (simp [roomFor, maxLen, by27, by3] <;> omega)
    refine opsA_nil (hR _ ?_)
    clear hR R
    try simp only [go_sem, Nat.reduceBEq]
    refine thenK.normal ?_
    refine SA.cond rfl ?_ ?_
    · intro hb2
      try simp only [decide_eq_true_eq, decide_eq_false_iff_not] at hb2
      refine SA.seq ?_
      refine SA.region ok (by kernel_rfl) [4] ?_
      intro R hR
      simp only [go_sem, strip]
      iterate 2 (refine opsA_cons fun R1 hR1 => ?_; simp only [go_sem, Nat.reduceBEq, Nat.reduceLT, Nat.reduceEqDiff, Nat.reduceAdd, Int.reduceLE, Int.reduceLT, Int.reduceNeg, Int.reduceEq, Int.reduceToNat, reduceCtorEq]; (repeat' with_reducible refine And.intro ?_ ?_); all_goals first | (refine hR1 _ ?_; clear hR1 R1) | omega | rfl | decide | assumption | (intro _; omega) | (simp; done) | (simp; omega) | (simp [roomFor, maxLen, by27, by3] <;> omega))
      refine opsA_nil (hR _ ?_)
      clear hR R
      try simp only [go_sem, Nat.reduceBEq]
      refine thenK.normal ?_
      refine SA.ret ?_
      refine blockK.ret ?_
      refine thenK.ret ?_
      refine loopK.ret ?_
      refine blockK.ret ?_
      refine thenK.ret ?_
      refine bodyK.ret ?_
      simp only [resA, evalO, resV, backK, outE, toV, ty4, ty3, List.lookup_cons, List.lookup_nil, beq_self_eq_true, forall_const, true_and, and_true]
      have hlt : i < l.length := by omega
      rw [findA_hit hlt hc hb2] at h
      simpa using h (xs ++ ys)
    · intro hb2
      try simp only [decide_eq_true_eq, decide_eq_false_iff_not] at hb2
      refine SA.skip ?_
      refine blockK.normal ?_
      refine thenK.normal ?_
      refine SA.region ok (by kernel_rfl) [0, 1, 7, 8] ?_
      intro R hR
      simp only [go_sem, strip]
      iterate 2 (refine opsA_cons fun R1 hR1 => ?_; simp only [go_sem, Nat.reduceBEq, Nat.reduceLT, Nat.reduceEqDiff, Nat.reduceAdd, Int.reduceLE, Int.reduceLT, Int.reduceNeg, Int.reduceEq, Int.reduceToNat, reduceCtorEq]; (repeat' with_reducible refine And.intro ?_ ?_); all_goals first | (refine hR1 _ ?_; clear hR1 R1) | omega | rfl | decide | assumption | (intro _; omega) | (simp; done) | (simp; omega) | (simp [roomFor, maxLen, by27, by3] <;> omega))
      refine opsA_nil (hR _ ?_)
      clear hR R
      try simp only [go_sem, Nat.reduceBEq]
      have hlt : i < l.length := by omega
      refine loopK.normal (l.length - (i + 1)) _ (by omega) (St.le.of_eq (by simp only [wrap_succ hlt hl, List.append_assoc])) ⟨i + 1, xs ++ ys, rfl, ⟨hlt, ?_⟩, rfl⟩
      rw [any_take _ l hlt, hc, hb2]; rfl
  · intro hb1
    try simp only [decide_eq_true_eq, decide_eq_false_iff_not] at hb1
    refine SA.exit ?_
    refine thenK.exit ?_
    refine loopK.exit ?_
    refine blockK.hit ?_
    refine thenK.normal ?_
    refine SA.seq ?_
    refine SA.region ok (by kernel_rfl) [4] ?_
    intro R hR
    simp only [go_sem, strip]
    iterate 1 (refine opsA_cons fun R1 hR1 => ?_; simp only [go_sem, Nat.reduceBEq, Nat.reduceLT, Nat.reduceEqDiff, Nat.reduceAdd, Int.reduceLE, Int.reduceLT, Int.reduceNeg, Int.reduceEq, Int.reduceToNat, reduceCtorEq]; (repeat' with_reducible refine And.intro ?_ ?_); all_goals first | (refine hR1 _ ?_; clear hR1 R1) | omega | rfl | decide | assumption | (intro _; omega) | (simp; done) | (simp; omega) | (simp [roomFor, maxLen, by27, by3] <;> omega))
    refine opsA_nil (hR _ ?_)
    clear hR R
    try simp only [go_sem, Nat.reduceBEq]
    refine thenK.normal ?_
    refine SA.ret ?_
    refine bodyK.ret ?_
    simp only [resA, evalO, resV, backK, outE, toV, ty4, ty3, List.lookup_cons, List.lookup_nil, beq_self_eq_true, forall_const, true_and, and_true]
    have : i = l.length := by omega
    subst this
    rw [List.take_length] at hc
    rw [findA_miss hc] at h
    simpa using h xs

-- slices.ContainsFunc[[]scarab/api.Access,scarab/api.Access]
theorem containsAccess_call {f : FuncId} {caps : List E} {p : Access → Bool} (l : List Access) (c : Bool) (hl : l.length ≤ maxLen) (hf : ∀ a ∈ l, ∀ (σ : St) (K : St → E → Prop), (∀ xs, K { σ with ob := σ.ob ++ xs } (.bool (p a))) → CallE Go.Proofs.Try.prog tab σ f (.data 27 a.v :: caps) K) {σ : St} {K : St → E → Prop} (h : ∀ xs, K { σ with ob := σ.ob ++ xs } (.bool (l.any p))) : CallE Go.Proofs.Try.prog tab σ 24 [.fs 27 (l.map Access.v) c, .fn f caps] K := by
  refine CallE.body ok Go.Proofs.Try.func24 rfl rfl 9 rfl [.tmp 4] rfl (by simp) ?_
  simp only [enter, args0, Nat.zero_add, Nat.reduceAdd]
  refine SA.seq ?_
  refine SA.region ok (by kernel_rfl) [0, 1] ?_
  intro R hR
  simp only [go_sem, strip]
  iterate 1 (refine opsA_cons fun R1 hR1 => ?_; simp only [go_sem, Nat.reduceBEq, Nat.reduceLT, Nat.reduceEqDiff, Nat.reduceAdd, Int.reduceLE, Int.reduceLT, Int.reduceNeg, Int.reduceEq, Int.reduceToNat, reduceCtorEq]; (repeat' with_reducible refine And.intro ?_ ?_); all_goals first | (refine hR1 _ ?_; clear hR1 R1) | omega | rfl | decide | assumption | (intro _; omega) | (simp; done) | (simp; omega) | (simp [roomFor, maxLen, by27, by3] <;> omega))
  refine opsA_nil (hR _ ?_)
  clear hR R
  try simp only [go_sem, Nat.reduceBEq]
  refine thenK.normal ?_
  refine SA.seq ?_
  refine SA.region ok (by kernel_rfl) [4] ?_
  intro R hR
  simp only [go_sem, strip]
  iterate 2 (refine opsA_cons fun R1 hR1 => ?_; simp only [go_sem, Nat.reduceBEq, Nat.reduceLT, Nat.reduceEqDiff, Nat.reduceAdd, Int.reduceLE, Int.reduceLT, Int.reduceNeg, Int.reduceEq, Int.reduceToNat, reduceCtorEq]; (repeat' with_reducible refine And.intro ?_ ?_); all_goals first | (refine hR1 _ ?_; clear hR1 R1) | omega | rfl | decide | assumption | (intro _; omega) | (simp; done) | (simp; omega) | (simp [roomFor, maxLen, by27, by3] <;> omega))
  refine opsA_cons fun R1 hR1 => ?_
  simp only [go_sem, Nat.reduceBEq, Nat.reduceLT, Nat.reduceEqDiff, Nat.reduceAdd, Int.reduceLE, Int.reduceLT, Int.reduceNeg, Int.reduceEq, Int.reduceToNat, reduceCtorEq]
  repeat' with_reducible refine And.intro ?_ ?_
  all_goals try (first | omega | assumption | (intro _; omega))
  refine ⟨_, _, rfl, .inr (indexAccess_call l c hl hf fun xs => ?_)⟩
  simp only [go_sem, Nat.reduceBEq, Nat.reduceLT, Nat.reduceEqDiff, Nat.reduceAdd, Int.reduceLE, Int.reduceLT, Int.reduceNeg, Int.reduceEq, Int.reduceToNat, reduceCtorEq]
  repeat' with_reducible refine And.intro ?_ ?_
  all_goals first | (refine hR1 _ ?_; clear hR1 R1) | omega | rfl | decide | assumption | (intro _; omega) | (simp; done) | (simp; omega) | (simp [roomFor, maxLen, by27, by3] <;> omega)
  iterate 2 (refine opsA_cons fun R1 hR1 => ?_; simp only [go_sem, Nat.reduceBEq, Nat.reduceLT, Nat.reduceEqDiff, Nat.reduceAdd, Int.reduceLE, Int.reduceLT, Int.reduceNeg, Int.reduceEq, Int.reduceToNat, reduceCtorEq]; (repeat' with_reducible refine And.intro ?_ ?_); all_goals first | (refine hR1 _ ?_; clear hR1 R1) | omega | rfl | decide | assumption | (intro _; omega) | (simp; done) | (simp; omega) | (simp [roomFor, maxLen, by27, by3] <;> omega))
  refine opsA_nil (hR _ ?_)
  clear hR R
  try simp only [go_sem, Nat.reduceBEq]
  refine thenK.normal ?_
  refine SA.ret ?_
  refine bodyK.ret ?_
  simp only [resA, evalO, resV, backK, outE, toV, ty4, ty3, List.lookup_cons, List.lookup_nil, beq_self_eq_true, forall_const, true_and, and_true]
  rw [findA_ge]
  exact h xs

-- scarab/depend.Users
theorem users_ctr (t : List Event) (k u : Int) (ht : t.length ≤ maxLen) (h6 : ∀ e ∈ t, e.touch.length = 6) : Ctr Go.Proofs.Try.prog tab 12 [32, 3, 3] [33, 34] [.list (t.map Event.v), .int k, .int u] [.list ((users t k u).map V.int), .int (check t)] := by
  refine Ctr.body ok Go.Proofs.Try.func12 rfl rfl 33 rfl [.tmp 6, .tmp 7] rfl (by simp [fromVs]) ?_
  simp only [fromVs, fromV, args0, V.toList_list, V.toInt_int, V.toBool_bool, Nat.zero_add, Nat.reduceAdd, ty3, ty32]
  refine SA.seq ?_
  refine SA.region ok (by kernel_rfl) [0, 4, 5] ?_
  intro R hR
  simp only [go_sem, strip]
  iterate 4 (refine opsA_cons fun R1 hR1 => ?_; simp only [go_sem, Nat.reduceBEq, Nat.reduceLT, Nat.reduceEqDiff, Nat.reduceAdd, Int.reduceLE, Int.reduceLT, Int.reduceNeg, Int.reduceEq, Int.reduceToNat, reduceCtorEq]; (repeat' with_reducible refine And.intro ?_ ?_); all_goals first | (refine hR1 _ ?_; clear hR1 R1) | omega | rfl | decide | assumption | (intro _; omega) | (simp; done) | (simp; omega) | (simp [roomFor, maxLen, by27, by3] <;> omega))
  refine opsA_nil (hR _ ?_)
  clear hR R
  try simp only [go_sem, Nat.reduceBEq]
  refine thenK.normal ?_
  refine SA.seq ?_
  refine SA.seq ?_
  refine SA.weaken ((St.le.frzVal ok.sized 0 rfl rfl).trans (St.le.frzVal ok.sized 1 rfl rfl)) ?_
  simp only [St.frz, Tm.frz, E.frz, E.frzL, Obj.frz, List.map_cons, List.map_nil, List.set_cons_zero, List.set_cons_succ, Nat.reduceBEq, Nat.beq_refl, if_true, if_false, Nat.beq_eq_true_eq, reduceCtorEq, Bool.false_eq_true, V.get, Nat.reduceEqDiff]
  refine SA.region ok (by kernel_rfl) [0, 4, 5, 8] ?_
  intro R hR
  simp only [go_sem, strip]
  iterate 1 (refine opsA_cons fun R1 hR1 => ?_; simp only [go_sem, Nat.reduceBEq, Nat.reduceLT, Nat.reduceEqDiff, Nat.reduceAdd, Int.reduceLE, Int.reduceLT, Int.reduceNeg, Int.reduceEq, Int.reduceToNat, reduceCtorEq]; (repeat' with_reducible refine And.intro ?_ ?_); all_goals first | (refine hR1 _ ?_; clear hR1 R1) | omega | rfl | decide | assumption | (intro _; omega) | (simp; done) | (simp; omega) | (simp [roomFor, maxLen, by27, by3] <;> omega))
  refine opsA_cons fun R1 hR1 => ?_
  simp only [go_sem, Nat.reduceBEq, Nat.reduceLT, Nat.reduceEqDiff, Nat.reduceAdd, Int.reduceLE, Int.reduceLT, Int.reduceNeg, Int.reduceEq, Int.reduceToNat, reduceCtorEq]
  repeat' with_reducible refine And.intro ?_ ?_
  all_goals try (first | omega | assumption | (intro _; omega))
  first | refine ⟨_, _, rfl, .inl ⟨_, CallQ.ctr ok (check_ctr t ht h6) (by first | rfl | (simp [argsV, contentV, toV, ty33, ty32, ty34, ty3, ty4, ty22, ty27, ty28, ty30, ty25, ty2, List.length_map, List.take_of_length_le])) rfl, ?_⟩⟩ | refine ⟨_, _, rfl, .inl ⟨_, fun hg => CallQ.ctr ok (check_ctr t ht h6) (by first | rfl | (simp [argsV, contentV, toV, ty33, ty32, ty34, ty3, ty4, ty22, ty27, ty28, ty30, ty25, ty2, List.length_map, List.take_of_length_le])) rfl, ?_⟩⟩
  simp only [go_sem, Nat.reduceBEq, Nat.reduceLT, Nat.reduceEqDiff, Nat.reduceAdd, Int.reduceLE, Int.reduceLT, Int.reduceNeg, Int.reduceEq, Int.reduceToNat, reduceCtorEq]
  repeat' with_reducible refine And.intro ?_ ?_
  all_goals first | (refine hR1 _ ?_; clear hR1 R1) | omega | rfl | decide | assumption | (intro _; omega) | (simp; done) | (simp; omega) | (simp [roomFor, maxLen, by27, by3] <;> omega)
  iterate 1 (refine opsA_cons fun R1 hR1 => ?_; simp only [go_sem, Nat.reduceBEq, Nat.reduceLT, Nat.reduceEqDiff, Nat.reduceAdd, Int.reduceLE, Int.reduceLT, Int.reduceNeg, Int.reduceEq, Int.reduceToNat, reduceCtorEq]; (repeat' with_reducible refine And.intro ?_ ?_); all_goals first | (refine hR1 _ ?_; clear hR1 R1) | omega | rfl | decide | assumption | (intro _; omega) | (simp; done) | (simp; omega) | (simp [roomFor, maxLen, by27, by3] <;> omega))
  refine opsA_nil (hR _ ?_)
  clear hR R
  try simp only [go_sem, Nat.reduceBEq]
  refine thenK.normal ?_
  refine SA.seq ?_
  refine SA.region ok (by kernel_rfl) [0, 4, 5, 8, 14] ?_
  intro R hR
  simp only [go_sem, strip]
  iterate 2 (refine opsA_cons fun R1 hR1 => ?_; simp only [go_sem, Nat.reduceBEq, Nat.reduceLT, Nat.reduceEqDiff, Nat.reduceAdd, Int.reduceLE, Int.reduceLT, Int.reduceNeg, Int.reduceEq, Int.reduceToNat, reduceCtorEq]; (repeat' with_reducible refine And.intro ?_ ?_); all_goals first | (refine hR1 _ ?_; clear hR1 R1) | omega | rfl | decide | assumption | (intro _; omega) | (simp; done) | (simp; omega) | (simp [roomFor, maxLen, by27, by3] <;> omega))
  refine opsA_nil (hR _ ?_)
  clear hR R
  try simp only [go_sem, Nat.reduceBEq]
  refine thenK.normal ?_
  refine SA.cond rfl ?_ ?_
  · intro hb1
    simp at hb1
    refine SA.seq ?_
    refine SA.region ok (by kernel_rfl) [6, 7] ?_
    intro R hR
    simp only [go_sem, strip]
    iterate 3 (refine opsA_cons fun R1 hR1 => ?_; simp only [go_sem, Nat.reduceBEq, Nat.reduceLT, Nat.reduceEqDiff, Nat.reduceAdd, Int.reduceLE, Int.reduceLT, Int.reduceNeg, Int.reduceEq, Int.reduceToNat, reduceCtorEq]; (repeat' with_reducible refine And.intro ?_ ?_); all_goals first | (refine hR1 _ ?_; clear hR1 R1) | omega | rfl | decide | assumption | (intro _; omega) | (simp; done) | (simp; omega) | (simp [roomFor, maxLen, by27, by3] <;> omega))
    refine opsA_nil (hR _ ?_)
    clear hR R
    try simp only [go_sem, Nat.reduceBEq]
    refine thenK.normal ?_
    refine SA.ret ?_
    refine thenK.ret ?_
    refine ctrK.ret ?_
    simp only [resA, evalO, resV, backK, outE, toV, ty4, ty3, List.lookup_cons, List.lookup_nil, beq_self_eq_true, forall_const, true_and, and_true]
    simp only [go_sem, Nat.reduceBEq, Nat.reduceLT, Nat.reduceEqDiff, Nat.reduceAdd, Int.reduceLE, Int.reduceLT, Int.reduceNeg, Int.reduceEq, Int.reduceToNat, reduceCtorEq]
    exact ⟨⟨rfl, by simp [users, hb1]⟩, rfl⟩
  · intro hb1
    simp at hb1
    refine SA.skip ?_
    refine thenK.normal ?_
    refine SA.seq ?_
    refine SA.region ok (by kernel_rfl) [0, 4, 5, 9] ?_
    intro R hR
    simp only [go_sem, strip]
    iterate 1 (refine opsA_cons fun R1 hR1 => ?_; simp only [go_sem, Nat.reduceBEq, Nat.reduceLT, Nat.reduceEqDiff, Nat.reduceAdd, Int.reduceLE, Int.reduceLT, Int.reduceNeg, Int.reduceEq, Int.reduceToNat, reduceCtorEq]; (repeat' with_reducible refine And.intro ?_ ?_); all_goals first | (refine hR1 _ ?_; clear hR1 R1) | omega | rfl | decide | assumption | (intro _; omega) | (simp; done) | (simp; omega) | (simp [roomFor, maxLen, by27, by3] <;> omega))
    refine opsA_nil (hR _ ?_)
    clear hR R
    try simp only [go_sem, Nat.reduceBEq]
    refine thenK.normal ?_
    refine SA.seq ?_
    refine SA.seq ?_
    refine SA.region ok (by kernel_rfl) [0, 4, 5, 9, 17, 18] ?_
    intro R hR
    simp only [go_sem, strip]
    iterate 3 (refine opsA_cons fun R1 hR1 => ?_; simp only [go_sem, Nat.reduceBEq, Nat.reduceLT, Nat.reduceEqDiff, Nat.reduceAdd, Int.reduceLE, Int.reduceLT, Int.reduceNeg, Int.reduceEq, Int.reduceToNat, reduceCtorEq]; (repeat' with_reducible refine And.intro ?_ ?_); all_goals first | (refine hR1 _ ?_; clear hR1 R1) | omega | rfl | decide | assumption | (intro _; omega) | (simp; done) | (simp; omega) | (simp [roomFor, maxLen, by27, by3] <;> omega))
    refine opsA_nil (hR _ ?_)
    clear hR R
    try simp only [go_sem, Nat.reduceBEq]
    refine thenK.normal ?_
    refine SA.block ?_
    refine SA.weaken ((St.le.own (t := 9) 3 rfl).trans ((St.le.keep [0, 4, 5, 9, 17, 18]).trans (St.le.of_eq (by first | rfl | simp)))) (SA.loop (fun n τ => ∃ (i : Nat), n = t.length - i ∧ (i ≤ t.length ∧ t.length ≤ 256) ∧ τ = { tm := [(0, true, .fs 30 (t.map Event.v) false), (4, true, .fptr 3 (.int k)), (5, true, .fptr 3 (.int u)), (9, true, .sl 2 3 0 (usersTo t k u i).length false), (17, true, .int .i64 t.length), (18, true, .int .i64 i)], ob := [.dead, .dead, .row 3 ((usersTo t k u i).map V.int)], out := [], nt := 33 }) (t.length) ⟨0, rfl, ⟨Nat.zero_le _, check_len hb1⟩, rfl⟩ ?_)
    rintro n τ ⟨i, hn, ⟨hi, h256⟩, rfl⟩
    refine SA.seq ?_
    refine SA.region ok (by kernel_rfl) [0, 4, 5, 9, 17, 18, 19] ?_
    intro R hR
    simp only [go_sem, strip]
    iterate 1 (refine opsA_cons fun R1 hR1 => ?_; simp only [go_sem, Nat.reduceBEq, Nat.reduceLT, Nat.reduceEqDiff, Nat.reduceAdd, Int.reduceLE, Int.reduceLT, Int.reduceNeg, Int.reduceEq, Int.reduceToNat, reduceCtorEq]; (repeat' with_reducible refine And.intro ?_ ?_); all_goals first | (refine hR1 _ ?_; clear hR1 R1) | omega | rfl | decide | assumption | (intro _; omega) | (simp; done) | (simp; omega) | (simp [roomFor, maxLen, by27, by3] <;> omega))
    refine opsA_nil (hR _ ?_)
    clear hR R
    try simp only [go_sem, Nat.reduceBEq]
    refine thenK.normal ?_
    refine SA.seq ?_
    refine SA.cond rfl ?_ ?_
    · intro hb2
      simp at hb2
      refine SA.skip ?_
      refine thenK.normal ?_
      refine SA.seq ?_
      refine SA.block ?_
      refine SA.seq ?_
      refine SA.region ok (by kernel_rfl) [0, 4, 5, 9, 10, 17, 18] ?_
      intro R hR
      simp only [go_sem, strip]
      iterate 2 (refine opsA_cons fun R1 hR1 => ?_; simp only [go_sem, Nat.reduceBEq, Nat.reduceLT, Nat.reduceEqDiff, Nat.reduceAdd, Int.reduceLE, Int.reduceLT, Int.reduceNeg, Int.reduceEq, Int.reduceToNat, reduceCtorEq]; (repeat' with_reducible refine And.intro ?_ ?_); all_goals first | (refine hR1 _ ?_; clear hR1 R1) | omega | rfl | decide | assumption | (intro _; omega) | (simp; done) | (simp; omega) | (simp [roomFor, maxLen, by27, by3] <;> omega))
      refine opsA_nil (hR _ ?_)
      clear hR R
      try simp only [go_sem, Nat.reduceBEq]
      refine thenK.normal ?_
      refine SA.seq ?_
      refine SA.region ok (by kernel_rfl) [0, 4, 5, 9, 10, 17, 18, 26] ?_
      intro R hR
      simp only [go_sem, strip]
      iterate 2 (refine opsA_cons fun R1 hR1 => ?_; simp only [go_sem, Nat.reduceBEq, Nat.reduceLT, Nat.reduceEqDiff, Nat.reduceAdd, Int.reduceLE, Int.reduceLT, Int.reduceNeg, Int.reduceEq, Int.reduceToNat, reduceCtorEq]; (repeat' with_reducible refine And.intro ?_ ?_); all_goals first | (refine hR1 _ ?_; clear hR1 R1) | omega | rfl | decide | assumption | (intro _; omega) | (simp; done) | (simp; omega) | (simp [roomFor, maxLen, by27, by3] <;> omega))
      refine opsA_cons fun R1 hR1 => ?_
      simp only [go_sem, Nat.reduceBEq, Nat.reduceLT, Nat.reduceEqDiff, Nat.reduceAdd, Int.reduceLE, Int.reduceLT, Int.reduceNeg, Int.reduceEq, Int.reduceToNat, reduceCtorEq]
      repeat' with_reducible refine And.intro ?_ ?_
      all_goals first | (refine hR1 _ ?_; clear hR1 R1) | omega | rfl | decide | assumption | (intro _; omega) | (simp; done) | (simp; omega) | (simp [roomFor, maxLen, by27, by3] <;> omega)
      have hlt : i < t.length := by omega
      rw [getD_map Event.v t hlt]
      refine opsA_cons fun R1 hR1 => ?_
      simp only [go_sem, Nat.reduceBEq, Nat.reduceLT, Nat.reduceEqDiff, Nat.reduceAdd, Int.reduceLE, Int.reduceLT, Int.reduceNeg, Int.reduceEq, Int.reduceToNat, reduceCtorEq]
      repeat' with_reducible refine And.intro ?_ ?_
      all_goals try (first | omega | assumption | (intro _; omega))
      refine ⟨_, _, rfl, .inr (touched_call _ (h6 _ (getD_mem t hlt)) fun c1 => ?_)⟩
      simp only [go_sem, Nat.reduceBEq, Nat.reduceLT, Nat.reduceEqDiff, Nat.reduceAdd, Int.reduceLE, Int.reduceLT, Int.reduceNeg, Int.reduceEq, Int.reduceToNat, reduceCtorEq]
      repeat' with_reducible refine And.intro ?_ ?_
      all_goals first | (refine hR1 _ ?_; clear hR1 R1) | omega | rfl | decide | assumption | (intro _; omega) | (simp; done) | (simp; omega) | (simp [roomFor, maxLen, by27, by3] <;> omega)
      iterate 1 (refine opsA_cons fun R1 hR1 => ?_; simp only [go_sem, Nat.reduceBEq, Nat.reduceLT, Nat.reduceEqDiff, Nat.reduceAdd, Int.reduceLE, Int.reduceLT, Int.reduceNeg, Int.reduceEq, Int.reduceToNat, reduceCtorEq]; (repeat' with_reducible refine And.intro ?_ ?_); all_goals first | (refine hR1 _ ?_; clear hR1 R1) | omega | rfl | decide | assumption | (intro _; omega) | (simp; done) | (simp; omega) | (simp [roomFor, maxLen, by27, by3] <;> omega))
      refine opsA_cons fun R1 hR1 => ?_
      simp only [go_sem, Nat.reduceBEq, Nat.reduceLT, Nat.reduceEqDiff, Nat.reduceAdd, Int.reduceLE, Int.reduceLT, Int.reduceNeg, Int.reduceEq, Int.reduceToNat, reduceCtorEq]
      repeat' with_reducible refine And.intro ?_ ?_
      all_goals try (first | omega | assumption | (intro _; omega))
      refine ⟨_, _, rfl, .inr (containsAccess_call (p := isAt k u) _ c1 (Nat.le_trans (Event.of_len _ (h6 _ (getD_mem t hlt))) (by decide)) (fun a _ σ K h => users1_call a k u h) fun xs => ?_)⟩
      simp only [go_sem, Nat.reduceBEq, Nat.reduceLT, Nat.reduceEqDiff, Nat.reduceAdd, Int.reduceLE, Int.reduceLT, Int.reduceNeg, Int.reduceEq, Int.reduceToNat, reduceCtorEq]
      repeat' with_reducible refine And.intro ?_ ?_
      all_goals first | (refine hR1 _ ?_; clear hR1 R1) | omega | rfl | decide | assumption | (intro _; omega) | (simp; done) | (simp; omega) | (simp [roomFor, maxLen, by27, by3] <;> omega)
      refine opsA_nil (hR _ ?_)
      clear hR R
      try simp only [go_sem, Nat.reduceBEq]
      refine thenK.normal ?_
      refine SA.cond rfl ?_ ?_
      · intro hb3
        simp at hb3
        refine SA.weaken (St.le.cut 3 rfl) ?_
        simp only [List.take_succ_cons, List.take_zero, List.cons_append, List.nil_append]
        refine SA.region ok (by kernel_rfl) [0, 4, 5, 9, 17, 18] ?_
        intro R hR
        simp only [go_sem, strip]
        iterate 3 (refine opsA_cons fun R1 hR1 => ?_; simp only [go_sem, Nat.reduceBEq, Nat.reduceLT, Nat.reduceEqDiff, Nat.reduceAdd, Int.reduceLE, Int.reduceLT, Int.reduceNeg, Int.reduceEq, Int.reduceToNat, reduceCtorEq]; (repeat' with_reducible refine And.intro ?_ ?_); all_goals first | (refine hR1 _ ?_; clear hR1 R1) | omega | rfl | decide | assumption | (intro _; omega) | (simp; done) | (simp; omega) | (simp [roomFor, maxLen, by27, by3] <;> omega))
        refine opsA_cons fun R1 hR1 => ?_
        simp only [go_sem, Nat.reduceBEq, Nat.reduceLT, Nat.reduceEqDiff, Nat.reduceAdd, Int.reduceLE, Int.reduceLT, Int.reduceNeg, Int.reduceEq, Int.reduceToNat, reduceCtorEq]
        repeat' with_reducible refine And.intro ?_ ?_
        all_goals first | (refine hR1 _ ?_; clear hR1 R1) | omega | rfl | decide | assumption | (have := usersTo_len t k u i; simp [roomFor, maxLen, by3] <;> omega)
        iterate 1 (refine opsA_cons fun R1 hR1 => ?_; simp only [go_sem, Nat.reduceBEq, Nat.reduceLT, Nat.reduceEqDiff, Nat.reduceAdd, Int.reduceLE, Int.reduceLT, Int.reduceNeg, Int.reduceEq, Int.reduceToNat, reduceCtorEq]; (repeat' with_reducible refine And.intro ?_ ?_); all_goals first | (refine hR1 _ ?_; clear hR1 R1) | omega | rfl | decide | assumption | (intro _; omega) | (simp; done) | (simp; omega) | (simp [roomFor, maxLen, by27, by3] <;> omega))
        refine opsA_nil (hR _ ?_)
        clear hR R
        try simp only [go_sem, Nat.reduceBEq]
        refine blockK.normal ?_
        refine thenK.normal ?_
        refine SA.region ok (by kernel_rfl) [0, 4, 5, 9, 17, 18] ?_
        intro R hR
        simp only [go_sem, strip]
        iterate 2 (refine opsA_cons fun R1 hR1 => ?_; simp only [go_sem, Nat.reduceBEq, Nat.reduceLT, Nat.reduceEqDiff, Nat.reduceAdd, Int.reduceLE, Int.reduceLT, Int.reduceNeg, Int.reduceEq, Int.reduceToNat, reduceCtorEq]; (repeat' with_reducible refine And.intro ?_ ?_); all_goals first | (refine hR1 _ ?_; clear hR1 R1) | omega | rfl | decide | assumption | (intro _; omega) | (simp; done) | (simp; omega) | (simp [roomFor, maxLen, by27, by3] <;> omega))
        refine opsA_nil (hR _ ?_)
        clear hR R
        try simp only [go_sem, Nat.reduceBEq]
        have hlt : i < t.length := by omega
        have hm : hits (t.getD i default) k u = true := by simpa [hits] using hb3
        have e1 : List.take (usersTo t k u i).length (List.map V.int (usersTo t k u i)) ++ List.take 1 (List.drop 0 [V.int i]) = List.map V.int (usersTo t k u (i + 1)) := by
          rw [usersTo_hit hm]; simp [List.take_of_length_le]
        have e3 : (usersTo t k u (i + 1)).length = (usersTo t k u i).length + 1 := by rw [usersTo_hit hm]; simp
        refine loopK.normal (t.length - (i + 1)) _ (by omega) ((St.le.cut 3 rfl).trans (St.le.of_eq (by rw [e1, e3, wrap_succ hlt ht]; rfl))) ⟨i + 1, rfl, ⟨hlt, h256⟩, rfl⟩
      · intro hb3
        simp at hb3
        refine SA.skip ?_
        refine blockK.normal ?_
        refine thenK.normal ?_
        refine SA.region ok (by kernel_rfl) [0, 4, 5, 9, 17, 18] ?_
        intro R hR
        simp only [go_sem, strip]
        iterate 2 (refine opsA_cons fun R1 hR1 => ?_; simp only [go_sem, Nat.reduceBEq, Nat.reduceLT, Nat.reduceEqDiff, Nat.reduceAdd, Int.reduceLE, Int.reduceLT, Int.reduceNeg, Int.reduceEq, Int.reduceToNat, reduceCtorEq]; (repeat' with_reducible refine And.intro ?_ ?_); all_goals first | (refine hR1 _ ?_; clear hR1 R1) | omega | rfl | decide | assumption | (intro _; omega) | (simp; done) | (simp; omega) | (simp [roomFor, maxLen, by27, by3] <;> omega))
        refine opsA_nil (hR _ ?_)
        clear hR R
        try simp only [go_sem, Nat.reduceBEq]
        have hlt : i < t.length := by omega
        have hm : hits (t.getD i default) k u = false := by simpa [hits] using hb3
        refine loopK.normal (t.length - (i + 1)) _ (by omega) ((St.le.cut 3 rfl).trans (St.le.of_eq (by simp only [wrap_succ hlt ht, usersTo_miss hm, List.take_succ_cons, List.take_zero, List.cons_append, List.nil_append]))) ⟨i + 1, rfl, ⟨hlt, h256⟩, rfl⟩
    · intro hb2
      simp at hb2
      refine SA.exit ?_
      refine thenK.exit ?_
      refine loopK.exit ?_
      refine blockK.hit ?_
      refine thenK.normal ?_
      refine SA.seq ?_
      refine SA.region ok (by kernel_rfl) [6, 7] ?_
      intro R hR
      simp only [go_sem, strip]
      iterate 3 (refine opsA_cons fun R1 hR1 => ?_; simp only [go_sem, Nat.reduceBEq, Nat.reduceLT, Nat.reduceEqDiff, Nat.reduceAdd, Int.reduceLE, Int.reduceLT, Int.reduceNeg, Int.reduceEq, Int.reduceToNat, reduceCtorEq]; (repeat' with_reducible refine And.intro ?_ ?_); all_goals first | (refine hR1 _ ?_; clear hR1 R1) | omega | rfl | decide | assumption | (intro _; omega) | (simp; done) | (simp; omega) | (simp [roomFor, maxLen, by27, by3] <;> omega))
      refine opsA_nil (hR _ ?_)
      clear hR R
      try simp only [go_sem, Nat.reduceBEq]
      refine thenK.normal ?_
      refine SA.ret ?_
      refine ctrK.ret ?_
      simp only [resA, evalO, resV, backK, outE, toV, ty4, ty3, List.lookup_cons, List.lookup_nil, beq_self_eq_true, forall_const, true_and, and_true]
      simp only [go_sem, Nat.reduceBEq, Nat.reduceLT, Nat.reduceEqDiff, Nat.reduceAdd, Int.reduceLE, Int.reduceLT, Int.reduceNeg, Int.reduceEq, Int.reduceToNat, reduceCtorEq]
      have : i = t.length := by omega
      subst this
      refine ⟨⟨rfl, ?_, by simp⟩, rfl, by rw [hb1]⟩
      simp [users, hb1, List.take_of_length_le]

end Go.Eng.Try
