/- A part of the proof: walks through the program's functions, and what they compute. -/
import Derived.Test.YtbfihoopgcmkpaaTryTab
import Derived.Test.YtbfihoopgcmkpaaMdl
import Derived.Test.YtbfihoopgcmkpaaEngT
import Derived.Test.YtbfihoopgcmkpaaW10
import Derived.Test.YtbfihoopgcmkpaaEngV
namespace Go.Eng.Try
open Go.RowKit Go.Eng
set_option linter.unusedSimpArgs false
set_option linter.unusedVariables false

def rowOf (t : List Event) (a : Event) : List V := t.map fun b => V.bool (dependent a b)
def tableV (t : List Event) (i : Nat) : List V := (t.take i).map fun a => V.list (rowOf t a)
theorem tableV_succ (t : List Event) {i : Nat} (h : i < t.length) : tableV t (i + 1) = tableV t i ++ [V.list (rowOf t (t.getD i default))] := by
  unfold tableV
  rw [List.take_succ_eq_append_getElem h, List.map_append]
  simp [List.getD_eq_getElem?_getD, h]
theorem rowOf_take (t : List Event) (a : Event) {j : Nat} (h : j < t.length) : (rowOf t a).take (j + 1) = (rowOf t a).take j ++ [V.bool (dependent a (t.getD j default))] := by
  rw [List.take_succ_eq_append_getElem (by simpa [rowOf] using h)]
  simp [rowOf, List.getD_eq_getElem?_getD, h]

attribute [local go_sem] argsV contentV fromVs Option.getD_some St.keep List.filterMap_cons List.filterMap_nil Option.map_some Option.map_none opG opQ opB newEs outE CallStepB guardA putK putE pureA evalO evalL constE pickA loadA fieldAddrA indexAddrA indexA sliceA evalOptI builtinA binA plainA shiftA eqA arith shifts effA storeA appendA St.kill Tm.kill E.kill E.killL Obj.kill elemsOf evalVs buildA okAt toV fromV zeroE V.get V.put V.sub V.setSub args0 CallStep CallStepQ i64min i64max u64min u64max u32min u32max u8min u8max Nat.zero_add List.length_map List.lookup_cons List.lookup_nil List.getElem?_cons_zero List.getElem?_cons_succ List.getElem?_toArray List.getElem?_nil Option.bind_some Option.bind_none List.size_toArray List.length_cons List.length_nil List.nil_append List.append_nil List.cons_append List.getD_cons_zero List.getD_cons_succ List.map_cons List.map_nil List.set_cons_zero List.set_cons_succ true_and and_true forall_const true_implies Bool.true_and Bool.and_true Bool.not_true Bool.not_false Bool.false_and Bool.and_false beq_self_eq_true Bool.true_beq Bool.false_beq beq_true beq_false eq_self false_implies V.toInt_int V.toBool_bool V.toList_list V.toList_agg V.toStr_str V.deref_ref if_true if_false Bool.false_eq_true Option.isSome_none Option.isSome_some Bool.false_or Bool.true_or Bool.or_false Bool.or_true cond_true cond_false implies_true and_self imp_self ty42 ty49 ty33 ty32 ty34 ty3 ty4 ty22 ty27 ty28 ty30 ty25 ty2 concat_at zero27 z27 z3 z4 Int.toNat_natCast Int.natCast_zero Event.v0 Event.v7 Event.v8 Access.v0 Access.v1 Access.v2 beq_acc
-- scarab/scarabref10.Table
theorem refTable_ctr (t : List Event) (ht : t.length ≤ 256) (h6 : ∀ e ∈ t, e.touch.length = 6) : CtrZ Go.Proofs.Try.prog tab 19 [32] [42] [.list (t.map Event.v)] [.list (tableV t t.length)] := by
  have hm : t.length ≤ maxLen := Nat.le_trans ht (by decide)
  refine CtrZ.body ok Go.Proofs.Try.func19 rfl rfl 36 rfl [.tmp 2] rfl (by simp [fromVs]) ?_
  simp only [fromVs, fromV, args0, V.toList_list, V.toInt_int, V.toBool_bool, Nat.zero_add, Nat.reduceAdd, ty32]
  refine SA.seq ?_
  refine SA.region ok (by kernel_rfl) [0] ?_
  intro R hR
  simp only [go_sem, strip]
  iterate 1 (refine opsA_cons fun R1 hR1 => ?_; simp only [go_sem, Nat.reduceBEq, Nat.reduceLT, Nat.reduceEqDiff, Nat.reduceAdd, Int.reduceLE, Int.reduceLT, Int.reduceNeg, Int.reduceEq, Int.reduceToNat, reduceCtorEq]; (repeat' with_reducible refine And.intro ?_ ?_); all_goals first | (refine hR1 _ ?_; clear hR1 R1) | omega | rfl | decide | assumption | (simp [tableV, rowOf, roomFor, maxLen, by49, by4, by27, by3] <;> omega))
  refine opsA_nil (hR _ ?_)
  clear hR R
  try simp only [go_sem, Nat.reduceBEq]
  refine thenK.normal ?_
  refine SA.seq ?_
  refine SA.region ok (by kernel_rfl) [0, 3] ?_
  intro R hR
  simp only [go_sem, strip]
  iterate 1 (refine opsA_cons fun R1 hR1 => ?_; simp only [go_sem, Nat.reduceBEq, Nat.reduceLT, Nat.reduceEqDiff, Nat.reduceAdd, Int.reduceLE, Int.reduceLT, Int.reduceNeg, Int.reduceEq, Int.reduceToNat, reduceCtorEq]; (repeat' with_reducible refine And.intro ?_ ?_); all_goals first | (refine hR1 _ ?_; clear hR1 R1) | omega | rfl | decide | assumption | (simp [tableV, rowOf, roomFor, maxLen, by49, by4, by27, by3] <;> omega))
  refine opsA_nil (hR _ ?_)
  clear hR R
  try simp only [go_sem, Nat.reduceBEq]
  refine thenK.normal ?_
  refine SA.seq ?_
  refine SA.seq ?_
  refine SA.region ok (by kernel_rfl) [0, 3, 4] ?_
  intro R hR
  simp only [go_sem, strip]
  iterate 1 (refine opsA_cons fun R1 hR1 => ?_; simp only [go_sem, Nat.reduceBEq, Nat.reduceLT, Nat.reduceEqDiff, Nat.reduceAdd, Int.reduceLE, Int.reduceLT, Int.reduceNeg, Int.reduceEq, Int.reduceToNat, reduceCtorEq]; (repeat' with_reducible refine And.intro ?_ ?_); all_goals first | (refine hR1 _ ?_; clear hR1 R1) | omega | rfl | decide | assumption | (simp [tableV, rowOf, roomFor, maxLen, by49, by4, by27, by3] <;> omega))
  refine opsA_nil (hR _ ?_)
  clear hR R
  try simp only [go_sem, Nat.reduceBEq]
  refine thenK.normal ?_
  refine SA.block ?_
  refine SA.weaken ((St.le.own (t := 3) 49 rfl).trans ((St.le.keep [0, 3, 4]).trans (St.le.of_eq (by first | rfl | simp)))) (SA.loop (fun n τ => ∃ (i : Nat), n = t.length - i ∧ (i ≤ t.length) ∧ τ = { tm := [(0, true, .fs 30 (t.map Event.v) false), (3, true, .sl 0 49 0 i false), (4, true, .int .i64 i)], ob := [.row 49 (tableV t i)], out := [], nt := 36 }) (t.length) ⟨0, rfl, Nat.zero_le _, rfl⟩ ?_)
  rintro n τ ⟨i, hn, hi, rfl⟩
  refine SA.seq ?_
  refine SA.seq ?_
  refine SA.region ok (by kernel_rfl) [0, 3, 4, 10] ?_
  intro R hR
  simp only [go_sem, strip]
  iterate 4 (refine opsA_cons fun R1 hR1 => ?_; simp only [go_sem, Nat.reduceBEq, Nat.reduceLT, Nat.reduceEqDiff, Nat.reduceAdd, Int.reduceLE, Int.reduceLT, Int.reduceNeg, Int.reduceEq, Int.reduceToNat, reduceCtorEq]; (repeat' with_reducible refine And.intro ?_ ?_); all_goals first | (refine hR1 _ ?_; clear hR1 R1) | omega | rfl | decide | assumption | (simp [tableV, rowOf, roomFor, maxLen, by49, by4, by27, by3] <;> omega))
  refine opsA_nil (hR _ ?_)
  clear hR R
  try simp only [go_sem, Nat.reduceBEq]
  refine thenK.normal ?_
  refine SA.cond rfl ?_ ?_
  · intro hb1
    simp at hb1
    refine SA.skip ?_
    refine thenK.normal ?_
    refine SA.seq ?_
    refine SA.block ?_
    refine SA.seq ?_
    refine SA.region ok (by kernel_rfl) [0, 3, 4, 5] ?_
    intro R hR
    simp only [go_sem, strip]
    iterate 1 (refine opsA_cons fun R1 hR1 => ?_; simp only [go_sem, Nat.reduceBEq, Nat.reduceLT, Nat.reduceEqDiff, Nat.reduceAdd, Int.reduceLE, Int.reduceLT, Int.reduceNeg, Int.reduceEq, Int.reduceToNat, reduceCtorEq]; (repeat' with_reducible refine And.intro ?_ ?_); all_goals first | (refine hR1 _ ?_; clear hR1 R1) | omega | rfl | decide | assumption | (simp [tableV, rowOf, roomFor, maxLen, by49, by4, by27, by3] <;> omega))
    refine opsA_nil (hR _ ?_)
    clear hR R
    try simp only [go_sem, Nat.reduceBEq]
    refine thenK.normal ?_
    refine SA.seq ?_
    refine SA.seq ?_
    refine SA.region ok (by kernel_rfl) [0, 3, 4, 5, 6] ?_
    intro R hR
    simp only [go_sem, strip]
    iterate 1 (refine opsA_cons fun R1 hR1 => ?_; simp only [go_sem, Nat.reduceBEq, Nat.reduceLT, Nat.reduceEqDiff, Nat.reduceAdd, Int.reduceLE, Int.reduceLT, Int.reduceNeg, Int.reduceEq, Int.reduceToNat, reduceCtorEq]; (repeat' with_reducible refine And.intro ?_ ?_); all_goals first | (refine hR1 _ ?_; clear hR1 R1) | omega | rfl | decide | assumption | (simp [tableV, rowOf, roomFor, maxLen, by49, by4, by27, by3] <;> omega))
    refine opsA_nil (hR _ ?_)
    clear hR R
    try simp only [go_sem, Nat.reduceBEq]
    refine thenK.normal ?_
    refine SA.block ?_
    refine SA.weaken ((St.le.own (t := 5) 4 rfl).trans ((St.le.keep [0, 3, 4, 5, 6]).trans (St.le.of_eq (by first | rfl | simp)))) (SA.loop (fun n τ => ∃ (j : Nat), n = t.length - j ∧ (j ≤ t.length) ∧ τ = { tm := [(0, true, .fs 30 (t.map Event.v) false), (3, true, .sl 0 49 0 i false), (4, true, .int .i64 i), (5, true, .sl 1 4 0 j false), (6, true, .int .i64 j)], ob := [.row 49 (tableV t i), .row 4 ((rowOf t (t.getD i default)).take j)], out := [], nt := 36 }) (t.length) ⟨0, rfl, Nat.zero_le _, rfl⟩ ?_)
    rintro n τ ⟨j, hn, hj, rfl⟩
    refine SA.seq ?_
    refine SA.seq ?_
    refine SA.region ok (by kernel_rfl) [0, 3, 4, 5, 6, 16] ?_
    intro R hR
    simp only [go_sem, strip]
    iterate 4 (refine opsA_cons fun R1 hR1 => ?_; simp only [go_sem, Nat.reduceBEq, Nat.reduceLT, Nat.reduceEqDiff, Nat.reduceAdd, Int.reduceLE, Int.reduceLT, Int.reduceNeg, Int.reduceEq, Int.reduceToNat, reduceCtorEq]; (repeat' with_reducible refine And.intro ?_ ?_); all_goals first | (refine hR1 _ ?_; clear hR1 R1) | omega | rfl | decide | assumption | (simp [tableV, rowOf, roomFor, maxLen, by49, by4, by27, by3] <;> omega))
    refine opsA_nil (hR _ ?_)
    clear hR R
    try simp only [go_sem, Nat.reduceBEq]
    refine thenK.normal ?_
    refine SA.cond rfl ?_ ?_
    · intro hb2
      simp at hb2
      refine SA.skip ?_
      refine thenK.normal ?_
      refine SA.seq ?_
      refine SA.block ?_
      have hlt : i < t.length := by omega
      have hjl : j < t.length := by omega
      -- region 9: 1 paths
      refine SA.regionAny mixed 13 (by kernel_rfl) #[false, false, false, false, false, false, false, false, false, false, false, false, false] (by kernel_rfl) [11] [0, 3, 4, 5, 6] ?_
      intro R hR
      refine AnyA.take ok 0 ⟨some 19, (Go.Op.move (Go.Operand.tmp 5)), none⟩ (by kernel_rfl) (by kernel_rfl) (by kernel_rfl) (by kernel_rfl) (by kernel_rfl) #[true, false, false, false, false, false, false, false, false, false, false, false, false] (by kernel_rfl) fun R1 hR1 => ?_
      simp only [go_sem, Nat.reduceBEq, Nat.reduceLT, Nat.reduceEqDiff, Nat.reduceAdd, Int.reduceLE, Int.reduceLT, Int.reduceNeg, Int.reduceEq, Int.reduceToNat, reduceCtorEq]
      repeat' with_reducible refine And.intro ?_ ?_
      all_goals first | (refine hR1 _ ?_; clear hR1 R1) | omega | rfl | decide | assumption | (simp [tableV, rowOf, roomFor, maxLen, by49, by4, by27, by3] <;> omega)
      refine AnyA.take ok 1 ⟨some 20, (Go.Op.move (Go.Operand.tmp 0)), none⟩ (by kernel_rfl) (by kernel_rfl) (by kernel_rfl) (by kernel_rfl) (by kernel_rfl) #[true, true, false, false, false, false, false, false, false, false, false, false, false] (by kernel_rfl) fun R1 hR1 => ?_
      simp only [go_sem, Nat.reduceBEq, Nat.reduceLT, Nat.reduceEqDiff, Nat.reduceAdd, Int.reduceLE, Int.reduceLT, Int.reduceNeg, Int.reduceEq, Int.reduceToNat, reduceCtorEq]
      repeat' with_reducible refine And.intro ?_ ?_
      all_goals first | (refine hR1 _ ?_; clear hR1 R1) | omega | rfl | decide | assumption | (simp [tableV, rowOf, roomFor, maxLen, by49, by4, by27, by3] <;> omega)
      refine AnyA.take ok 2 ⟨some 21, (Go.Op.move (Go.Operand.tmp 4)), none⟩ (by kernel_rfl) (by kernel_rfl) (by kernel_rfl) (by kernel_rfl) (by kernel_rfl) #[true, true, true, false, false, false, false, false, false, false, false, false, false] (by kernel_rfl) fun R1 hR1 => ?_
      simp only [go_sem, Nat.reduceBEq, Nat.reduceLT, Nat.reduceEqDiff, Nat.reduceAdd, Int.reduceLE, Int.reduceLT, Int.reduceNeg, Int.reduceEq, Int.reduceToNat, reduceCtorEq]
      repeat' with_reducible refine And.intro ?_ ?_
      all_goals first | (refine hR1 _ ?_; clear hR1 R1) | omega | rfl | decide | assumption | (simp [tableV, rowOf, roomFor, maxLen, by49, by4, by27, by3] <;> omega)
      refine AnyA.take ok 3 ⟨some 22, (Go.Op.indexAddr 32 (Go.Operand.tmp 20) (Go.Operand.tmp 21)), none⟩ (by kernel_rfl) (by kernel_rfl) (by kernel_rfl) (by kernel_rfl) (by kernel_rfl) #[true, true, true, true, false, false, false, false, false, false, false, false, false] (by kernel_rfl) fun R1 hR1 => ?_
      simp only [go_sem, Nat.reduceBEq, Nat.reduceLT, Nat.reduceEqDiff, Nat.reduceAdd, Int.reduceLE, Int.reduceLT, Int.reduceNeg, Int.reduceEq, Int.reduceToNat, reduceCtorEq]
      repeat' with_reducible refine And.intro ?_ ?_
      all_goals first | (refine hR1 _ ?_; clear hR1 R1) | omega | rfl | decide | assumption | (simp [tableV, rowOf, roomFor, maxLen, by49, by4, by27, by3] <;> omega)
      refine AnyA.take ok 4 ⟨some 23, (Go.Op.load 30 (Go.Operand.tmp 22)), none⟩ (by kernel_rfl) (by kernel_rfl) (by kernel_rfl) (by kernel_rfl) (by kernel_rfl) #[true, true, true, true, true, false, false, false, false, false, false, false, false] (by kernel_rfl) fun R1 hR1 => ?_
      simp only [go_sem, Nat.reduceBEq, Nat.reduceLT, Nat.reduceEqDiff, Nat.reduceAdd, Int.reduceLE, Int.reduceLT, Int.reduceNeg, Int.reduceEq, Int.reduceToNat, reduceCtorEq]
      repeat' with_reducible refine And.intro ?_ ?_
      all_goals first | (refine hR1 _ ?_; clear hR1 R1) | omega | rfl | decide | assumption | (simp [tableV, rowOf, roomFor, maxLen, by49, by4, by27, by3] <;> omega)
      rw [getD_map Event.v t hlt]
      refine AnyA.take ok 5 ⟨some 24, (Go.Op.move (Go.Operand.tmp 0)), none⟩ (by kernel_rfl) (by kernel_rfl) (by kernel_rfl) (by kernel_rfl) (by kernel_rfl) #[true, true, true, true, true, true, false, false, false, false, false, false, false] (by kernel_rfl) fun R1 hR1 => ?_
      simp only [go_sem, Nat.reduceBEq, Nat.reduceLT, Nat.reduceEqDiff, Nat.reduceAdd, Int.reduceLE, Int.reduceLT, Int.reduceNeg, Int.reduceEq, Int.reduceToNat, reduceCtorEq]
      repeat' with_reducible refine And.intro ?_ ?_
      all_goals first | (refine hR1 _ ?_; clear hR1 R1) | omega | rfl | decide | assumption | (simp [tableV, rowOf, roomFor, maxLen, by49, by4, by27, by3] <;> omega)
      refine AnyA.take ok 6 ⟨some 25, (Go.Op.move (Go.Operand.tmp 6)), none⟩ (by kernel_rfl) (by kernel_rfl) (by kernel_rfl) (by kernel_rfl) (by kernel_rfl) #[true, true, true, true, true, true, true, false, false, false, false, false, false] (by kernel_rfl) fun R1 hR1 => ?_
      simp only [go_sem, Nat.reduceBEq, Nat.reduceLT, Nat.reduceEqDiff, Nat.reduceAdd, Int.reduceLE, Int.reduceLT, Int.reduceNeg, Int.reduceEq, Int.reduceToNat, reduceCtorEq]
      repeat' with_reducible refine And.intro ?_ ?_
      all_goals first | (refine hR1 _ ?_; clear hR1 R1) | omega | rfl | decide | assumption | (simp [tableV, rowOf, roomFor, maxLen, by49, by4, by27, by3] <;> omega)
      refine AnyA.take ok 7 ⟨some 26, (Go.Op.indexAddr 32 (Go.Operand.tmp 24) (Go.Operand.tmp 25)), none⟩ (by kernel_rfl) (by kernel_rfl) (by kernel_rfl) (by kernel_rfl) (by kernel_rfl) #[true, true, true, true, true, true, true, true, false, false, false, false, false] (by kernel_rfl) fun R1 hR1 => ?_
      simp only [go_sem, Nat.reduceBEq, Nat.reduceLT, Nat.reduceEqDiff, Nat.reduceAdd, Int.reduceLE, Int.reduceLT, Int.reduceNeg, Int.reduceEq, Int.reduceToNat, reduceCtorEq]
      repeat' with_reducible refine And.intro ?_ ?_
      all_goals first | (refine hR1 _ ?_; clear hR1 R1) | omega | rfl | decide | assumption | (simp [tableV, rowOf, roomFor, maxLen, by49, by4, by27, by3] <;> omega)
      refine AnyA.take ok 8 ⟨some 27, (Go.Op.load 30 (Go.Operand.tmp 26)), none⟩ (by kernel_rfl) (by kernel_rfl) (by kernel_rfl) (by kernel_rfl) (by kernel_rfl) #[true, true, true, true, true, true, true, true, true, false, false, false, false] (by kernel_rfl) fun R1 hR1 => ?_
      simp only [go_sem, Nat.reduceBEq, Nat.reduceLT, Nat.reduceEqDiff, Nat.reduceAdd, Int.reduceLE, Int.reduceLT, Int.reduceNeg, Int.reduceEq, Int.reduceToNat, reduceCtorEq]
      repeat' with_reducible refine And.intro ?_ ?_
      all_goals first | (refine hR1 _ ?_; clear hR1 R1) | omega | rfl | decide | assumption | (simp [tableV, rowOf, roomFor, maxLen, by49, by4, by27, by3] <;> omega)
      rw [getD_map Event.v t hjl]
      refine AnyA.all (rs := [9]) ok (by kernel_rfl) (by kernel_rfl) rfl ?_
      refine Branches.keep (i := 9) ⟨some 28, (Go.Op.call (Go.Call.mk (Go.Callee.value (Go.Operand.func 11)) #[(Go.Operand.tmp 23), (Go.Operand.tmp 27)] #[30, 30])), none⟩ (by kernel_rfl) rfl #[true, true, true, true, true, true, true, true, true, true, false, false, false] (by kernel_rfl) (fun R1 hR1 => ?_) ?_
      rotate_left
      exact Branches.nil
      simp only [go_sem, Nat.reduceBEq, Nat.reduceLT, Nat.reduceEqDiff, Nat.reduceAdd, Int.reduceLE, Int.reduceLT, Int.reduceNeg, Int.reduceEq, Int.reduceToNat, reduceCtorEq]
      repeat' with_reducible refine And.intro ?_ ?_
      all_goals try (first | omega | assumption | (intro _; omega))
      first | refine ⟨_, _, rfl, .inl ⟨_, CallQ.ctr ok (refDependent_ctr _ _ (h6 _ (getD_mem t hlt)) (h6 _ (getD_mem t hjl))) (by first | rfl | (simp [argsV, toVs, contentV, toV, ty42, ty49, ty33, ty32, ty34, ty3, ty4, ty22, ty27, ty28, ty30, ty25, ty2, List.length_map, List.take_of_length_le])) rfl, ?_⟩⟩ | refine ⟨_, _, rfl, .inl ⟨_, fun hg => CallQ.ctr ok (refDependent_ctr _ _ (h6 _ (getD_mem t hlt)) (h6 _ (getD_mem t hjl))) (by first | rfl | (simp [argsV, toVs, contentV, toV, ty42, ty49, ty33, ty32, ty34, ty3, ty4, ty22, ty27, ty28, ty30, ty25, ty2, List.length_map, List.take_of_length_le])) rfl, ?_⟩⟩
      simp only [go_sem, Nat.reduceBEq, Nat.reduceLT, Nat.reduceEqDiff, Nat.reduceAdd, Int.reduceLE, Int.reduceLT, Int.reduceNeg, Int.reduceEq, Int.reduceToNat, reduceCtorEq]
      repeat' with_reducible refine And.intro ?_ ?_
      all_goals first | (refine hR1 _ ?_; clear hR1 R1) | omega | rfl | decide | assumption | (simp [tableV, rowOf, roomFor, maxLen, by49, by4, by27, by3] <;> omega)
      refine AnyA.all (rs := [10]) ok (by kernel_rfl) (by kernel_rfl) rfl ?_
      refine Branches.keep (i := 10) ⟨some 29, (Go.Op.buildSlice 49 1 #[(0, (Go.Operand.tmp 28))]), none⟩ (by kernel_rfl) rfl #[true, true, true, true, true, true, true, true, true, true, true, false, false] (by kernel_rfl) (fun R1 hR1 => ?_) ?_
      rotate_left
      exact Branches.nil
      simp only [go_sem, Nat.reduceBEq, Nat.reduceLT, Nat.reduceEqDiff, Nat.reduceAdd, Int.reduceLE, Int.reduceLT, Int.reduceNeg, Int.reduceEq, Int.reduceToNat, reduceCtorEq]
      repeat' with_reducible refine And.intro ?_ ?_
      all_goals first | (refine hR1 _ ?_; clear hR1 R1) | omega | rfl | decide | assumption | (simp [tableV, rowOf, roomFor, maxLen, by49, by4, by27, by3] <;> omega)
      refine AnyA.all (rs := [11]) ok (by kernel_rfl) (by kernel_rfl) rfl ?_
      refine Branches.any (i := 11) ⟨some 30, (Go.Op.call (Go.Call.mk (Go.Callee.builtin Go.Builtin.append) #[(Go.Operand.tmp 19), (Go.Operand.tmp 29)] #[49, 49])), none⟩ (by kernel_rfl) rfl #[true, true, true, true, true, true, true, true, true, true, true, true, false] (by kernel_rfl) (fun R1 hR1 => ?_) ?_
      rotate_left
      exact Branches.nil
      simp only [go_sem, Nat.reduceBEq, Nat.reduceLT, Nat.reduceEqDiff, Nat.reduceAdd, Int.reduceLE, Int.reduceLT, Int.reduceNeg, Int.reduceEq, Int.reduceToNat, reduceCtorEq]
      repeat' with_reducible refine And.intro ?_ ?_
      all_goals first | (refine hR1 _ ?_; clear hR1 R1) | omega | rfl | decide | assumption | (simp [tableV, rowOf, roomFor, maxLen, by49, by4, by27, by3] <;> omega)
      refine AnyA.take ok 12 ⟨some 5, (Go.Op.assign (Go.Operand.tmp 30)), none⟩ (by kernel_rfl) (by kernel_rfl) (by kernel_rfl) (by kernel_rfl) (by kernel_rfl) #[true, true, true, true, true, true, true, true, true, true, true, true, true] (by kernel_rfl) fun R1 hR1 => ?_
      simp only [go_sem, Nat.reduceBEq, Nat.reduceLT, Nat.reduceEqDiff, Nat.reduceAdd, Int.reduceLE, Int.reduceLT, Int.reduceNeg, Int.reduceEq, Int.reduceToNat, reduceCtorEq]
      repeat' with_reducible refine And.intro ?_ ?_
      all_goals first | (refine hR1 _ ?_; clear hR1 R1) | omega | rfl | decide | assumption | (simp [tableV, rowOf, roomFor, maxLen, by49, by4, by27, by3] <;> omega)
      refine AnyA.done (by kernel_rfl) (hR _ ?_)
      clear hR R
      try simp only [go_sem, Nat.reduceBEq]
      refine blockK.normal ?_
      refine thenK.normal ?_
      refine SA.region ok (by kernel_rfl) [0, 3, 4, 5, 6] ?_
      intro R hR
      simp only [go_sem, strip]
      iterate 3 (refine opsA_cons fun R1 hR1 => ?_; simp only [go_sem, Nat.reduceBEq, Nat.reduceLT, Nat.reduceEqDiff, Nat.reduceAdd, Int.reduceLE, Int.reduceLT, Int.reduceNeg, Int.reduceEq, Int.reduceToNat, reduceCtorEq]; (repeat' with_reducible refine And.intro ?_ ?_); all_goals first | (refine hR1 _ ?_; clear hR1 R1) | omega | rfl | decide | assumption | (simp [tableV, rowOf, roomFor, maxLen, by49, by4, by27, by3] <;> omega))
      refine opsA_nil (hR _ ?_)
      clear hR R
      try simp only [go_sem, Nat.reduceBEq]
      have e1 : List.take j (List.take j (rowOf t (t.getD i default))) ++ List.take 1 (List.drop 0 [V.bool (dependent (t.getD i default) (t.getD j default))]) = (rowOf t (t.getD i default)).take (j + 1) := by
        rw [rowOf_take t _ hjl]; simp [List.take_take]
      refine loopK.normal (t.length - (j + 1)) _ (by omega) ((St.le.cut 2 rfl).trans (St.le.of_eq (by rw [e1, wrap_succ hjl hm]; rfl))) ⟨j + 1, rfl, hjl, rfl⟩
    · intro hb2
      simp at hb2
      refine SA.exit ?_
      refine thenK.exit ?_
      refine loopK.exit ?_
      refine blockK.hit ?_
      refine thenK.normal ?_
      refine SA.weaken (St.le.frzRow ok.sized 1 rfl) ?_
      simp only [St.frz, Tm.frz, E.frz, E.frzL, Obj.frz, List.map_cons, List.map_nil, List.set_cons_zero, List.set_cons_succ, Nat.reduceBEq, Nat.beq_refl, if_true, if_false, Nat.beq_eq_true_eq, reduceCtorEq, Bool.false_eq_true, V.get, Nat.reduceEqDiff]
      refine SA.region ok (by kernel_rfl) [0, 3, 4] ?_
      intro R hR
      simp only [go_sem, strip]
      iterate 5 (refine opsA_cons fun R1 hR1 => ?_; simp only [go_sem, Nat.reduceBEq, Nat.reduceLT, Nat.reduceEqDiff, Nat.reduceAdd, Int.reduceLE, Int.reduceLT, Int.reduceNeg, Int.reduceEq, Int.reduceToNat, reduceCtorEq]; (repeat' with_reducible refine And.intro ?_ ?_); all_goals first | (refine hR1 _ ?_; clear hR1 R1) | omega | rfl | decide | assumption | (simp [tableV, rowOf, roomFor, maxLen, by49, by4, by27, by3] <;> omega))
      refine opsA_nil (hR _ ?_)
      clear hR R
      try simp only [go_sem, Nat.reduceBEq]
      refine blockK.normal ?_
      refine thenK.normal ?_
      refine SA.region ok (by kernel_rfl) [0, 3, 4] ?_
      intro R hR
      simp only [go_sem, strip]
      iterate 3 (refine opsA_cons fun R1 hR1 => ?_; simp only [go_sem, Nat.reduceBEq, Nat.reduceLT, Nat.reduceEqDiff, Nat.reduceAdd, Int.reduceLE, Int.reduceLT, Int.reduceNeg, Int.reduceEq, Int.reduceToNat, reduceCtorEq]; (repeat' with_reducible refine And.intro ?_ ?_); all_goals first | (refine hR1 _ ?_; clear hR1 R1) | omega | rfl | decide | assumption | (simp [tableV, rowOf, roomFor, maxLen, by49, by4, by27, by3] <;> omega))
      refine opsA_nil (hR _ ?_)
      clear hR R
      try simp only [go_sem, Nat.reduceBEq]
      have hlt : i < t.length := by omega
      have hj : j = t.length := by omega
      subst hj
      have hr : (rowOf t (t.getD i default)).length = t.length := by simp [rowOf]
      have hl : (tableV t i).length = i := by simp [tableV]; omega
      have e0 : List.take t.length (List.drop 0 (List.take t.length (rowOf t (t.getD i default)))) = rowOf t (t.getD i default) := by
        rw [List.drop_zero, List.take_take, Nat.min_self]; exact List.take_of_length_le (by omega)
      have e1 : List.take i (tableV t i) ++ List.take 1 (List.drop 0 [V.list (List.take t.length (List.drop 0 (List.take t.length (rowOf t (t.getD i default)))))]) = tableV t (i + 1) := by
        rw [e0, tableV_succ t hlt]; simp [List.take_of_length_le, hl]
      refine loopK.normal (t.length - (i + 1)) _ (by omega) ((St.le.cut 1 rfl).trans (St.le.of_eq (by rw [e1, wrap_succ hlt hm]; rfl))) ⟨i + 1, rfl, hlt, rfl⟩
  · intro hb1
    simp at hb1
    refine SA.exit ?_
    refine thenK.exit ?_
    refine loopK.exit ?_
    refine blockK.hit ?_
    refine thenK.normal ?_
    refine SA.seq ?_
    refine SA.region ok (by kernel_rfl) [2] ?_
    intro R hR
    simp only [go_sem, strip]
    iterate 2 (refine opsA_cons fun R1 hR1 => ?_; simp only [go_sem, Nat.reduceBEq, Nat.reduceLT, Nat.reduceEqDiff, Nat.reduceAdd, Int.reduceLE, Int.reduceLT, Int.reduceNeg, Int.reduceEq, Int.reduceToNat, reduceCtorEq]; (repeat' with_reducible refine And.intro ?_ ?_); all_goals first | (refine hR1 _ ?_; clear hR1 R1) | omega | rfl | decide | assumption | (simp [tableV, rowOf, roomFor, maxLen, by49, by4, by27, by3] <;> omega))
    refine opsA_nil (hR _ ?_)
    clear hR R
    try simp only [go_sem, Nat.reduceBEq]
    refine thenK.normal ?_
    refine SA.ret ?_
    refine ctrZK.ret ?_
    simp only [resA, evalO, resV, backK, outE, toV, ty4, ty3, List.lookup_cons, List.lookup_nil, beq_self_eq_true, forall_const, true_and, and_true]
    simp only [go_sem, Nat.reduceBEq, Nat.reduceLT, Nat.reduceEqDiff, Nat.reduceAdd, Int.reduceLE, Int.reduceLT, Int.reduceNeg, Int.reduceEq, Int.reduceToNat, reduceCtorEq]
    have : i = t.length := by omega
    subst this
    have hl : (tableV t t.length).length = t.length := by simp [tableV]
    simp [List.take_of_length_le, hl]

end Go.Eng.Try
