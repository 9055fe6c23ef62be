/- A part of the proof: walks through the program's functions, and what they compute. -/
import Derived.Test.YtbfihoopgcmkpaaTryTab
import Derived.Test.YtbfihoopgcmkpaaMdl
import Derived.Test.YtbfihoopgcmkpaaEngT
import Derived.Test.YtbfihoopgcmkpaaW16
import Derived.Test.YtbfihoopgcmkpaaEngV
namespace Go.Eng.Try
open Go.RowKit Go.Eng
set_option linter.unusedSimpArgs false
set_option linter.unusedVariables false

theorem tableV_len (t : List Event) : (tableV t t.length).length = t.length := by simp [tableV]
theorem rowOf_len (t : List Event) (a : Event) : (rowOf t a).length = t.length := by simp [rowOf]
theorem tableV_at {t : List Event} {i : Nat} (h : i < t.length) (d : V) : (tableV t t.length).getD i d = V.list (rowOf t (t.getD i default)) := by
  simp [tableV, List.getD_eq_getElem?_getD, h]
theorem rowOf_at {t : List Event} {j : Nat} (h : j < t.length) (a : Event) (d : V) : (rowOf t a).getD j d = V.bool (dependent a (t.getD j default)) := by
  simp [rowOf, List.getD_eq_getElem?_getD, h]
theorem kindsTo_len' (t : List Event) : (kindsTo t 6).length ≤ maxLen := Nat.le_trans (kindsTo_len t 6) (by decide)

attribute [local go_sem] argsV contentV fromVs Option.getD_some St.keep List.filterMap_cons List.filterMap_nil Option.map_some Option.map_none opG opQ opB newEs outE CallStepB guardA putK putE pureA evalO evalL constE pickA loadA fieldAddrA indexAddrA indexA sliceA evalOptI builtinA binA plainA shiftA eqA arith shifts effA storeA appendA St.kill Tm.kill E.kill E.killL Obj.kill elemsOf evalVs buildA okAt toV fromV zeroE V.get V.put V.sub V.setSub args0 CallStep CallStepQ i64min i64max u64min u64max u32min u32max u8min u8max Nat.zero_add List.length_map List.lookup_cons List.lookup_nil List.getElem?_cons_zero List.getElem?_cons_succ List.getElem?_toArray List.getElem?_nil Option.bind_some Option.bind_none List.size_toArray List.length_cons List.length_nil List.nil_append List.append_nil List.cons_append List.getD_cons_zero List.getD_cons_succ List.map_cons List.map_nil List.set_cons_zero List.set_cons_succ true_and and_true forall_const true_implies Bool.true_and Bool.and_true Bool.not_true Bool.not_false Bool.false_and Bool.and_false beq_self_eq_true Bool.true_beq Bool.false_beq beq_true beq_false eq_self false_implies V.toInt_int V.toBool_bool V.toList_list V.toList_agg V.toStr_str V.deref_ref if_true if_false Bool.false_eq_true Option.isSome_none Option.isSome_some Bool.false_or Bool.true_or Bool.or_false Bool.or_true cond_true cond_false implies_true and_self imp_self ty60 ty65 ty42 ty49 ty33 ty32 ty34 ty3 ty4 ty22 ty27 ty28 ty30 ty25 ty2 tableV_len rowOf_len beq_v concat_at zero27 z27 z3 z4 Int.toNat_natCast Int.natCast_zero Event.v0 Event.v7 Event.v8 Access.v0 Access.v1 Access.v2 beq_acc
-- scarab/scarablaw10.DependTraces
theorem dependTraces_ctr (t : List Event) (ht : t.length ≤ maxLen) (h6 : ∀ e ∈ t, e.touch.length = 6) : Ctr Go.Proofs.Try.prog tab 6 [32] [4] [.list (t.map Event.v)] [.bool true] := by
  refine Ctr.body ok Go.Proofs.Try.func6 rfl rfl 108 rfl [.tmp 2] rfl (by simp [fromVs]) ?_
  simp only [fromVs, fromV, args0, V.toList_list, V.toInt_int, V.toBool_bool, Nat.zero_add, Nat.reduceAdd, ty32]
  refine SA.seq ?_
  refine SA.region ok (by kernel_rfl) [0] ?_
  intro R hR
  simp only [go_sem, strip]
  iterate 1 (refine opsA_cons fun R1 hR1 => ?_; simp only [go_sem, Nat.reduceBEq, Nat.reduceLT, Nat.reduceEqDiff, Nat.reduceAdd, Int.reduceLE, Int.reduceLT, Int.reduceNeg, Int.reduceEq, Int.reduceToNat, reduceCtorEq]; (repeat' with_reducible refine And.intro ?_ ?_); all_goals first | (refine hR1 _ ?_; clear hR1 R1) | omega | rfl | decide | assumption | (split <;> first | (rw [tableV_len]; assumption) | decide) | (intro _; split <;> first | (simp [tableV, objs, hb2] at *; done) | (simp <;> omega)) | (simp [roomFor, maxLen, by49, by4, by27, by3] <;> omega))
  refine opsA_nil (hR _ ?_)
  clear hR R
  try simp only [go_sem, Nat.reduceBEq]
  refine thenK.normal ?_
  refine SA.seq ?_
  refine SA.region ok (by kernel_rfl) [0, 3] ?_
  intro R hR
  simp only [go_sem, strip]
  iterate 1 (refine opsA_cons fun R1 hR1 => ?_; simp only [go_sem, Nat.reduceBEq, Nat.reduceLT, Nat.reduceEqDiff, Nat.reduceAdd, Int.reduceLE, Int.reduceLT, Int.reduceNeg, Int.reduceEq, Int.reduceToNat, reduceCtorEq]; (repeat' with_reducible refine And.intro ?_ ?_); all_goals first | (refine hR1 _ ?_; clear hR1 R1) | omega | rfl | decide | assumption | (split <;> first | (rw [tableV_len]; assumption) | decide) | (intro _; split <;> first | (simp [tableV, objs, hb2] at *; done) | (simp <;> omega)) | (simp [roomFor, maxLen, by49, by4, by27, by3] <;> omega))
  refine opsA_cons fun R1 hR1 => ?_
  simp only [go_sem, Nat.reduceBEq, Nat.reduceLT, Nat.reduceEqDiff, Nat.reduceAdd, Int.reduceLE, Int.reduceLT, Int.reduceNeg, Int.reduceEq, Int.reduceToNat, reduceCtorEq]
  repeat' with_reducible refine And.intro ?_ ?_
  all_goals try (first | omega | assumption | (intro _; omega))
  first | refine ⟨_, _, rfl, .inl ⟨_, CallQ.ctr ok (check_ctr t ht h6) (by first | rfl | (simp [argsV, toVs, contentV, toV, ty60, ty65, ty42, ty49, ty33, ty32, ty34, ty3, ty4, ty22, ty27, ty28, ty30, ty25, ty2, List.length_map, List.take_of_length_le])) rfl, ?_⟩⟩ | refine ⟨_, _, rfl, .inl ⟨_, fun hg => CallQ.ctr ok (check_ctr t ht h6) (by first | rfl | (simp [argsV, toVs, contentV, toV, ty60, ty65, ty42, ty49, ty33, ty32, ty34, ty3, ty4, ty22, ty27, ty28, ty30, ty25, ty2, List.length_map, List.take_of_length_le])) rfl, ?_⟩⟩
  simp only [go_sem, Nat.reduceBEq, Nat.reduceLT, Nat.reduceEqDiff, Nat.reduceAdd, Int.reduceLE, Int.reduceLT, Int.reduceNeg, Int.reduceEq, Int.reduceToNat, reduceCtorEq]
  repeat' with_reducible refine And.intro ?_ ?_
  all_goals first | (refine hR1 _ ?_; clear hR1 R1) | omega | rfl | decide | assumption | (split <;> first | (rw [tableV_len]; assumption) | decide) | (intro _; split <;> first | (simp [tableV, objs, hb2] at *; done) | (simp <;> omega)) | (simp [roomFor, maxLen, by49, by4, by27, by3] <;> omega)
  iterate 1 (refine opsA_cons fun R1 hR1 => ?_; simp only [go_sem, Nat.reduceBEq, Nat.reduceLT, Nat.reduceEqDiff, Nat.reduceAdd, Int.reduceLE, Int.reduceLT, Int.reduceNeg, Int.reduceEq, Int.reduceToNat, reduceCtorEq]; (repeat' with_reducible refine And.intro ?_ ?_); all_goals first | (refine hR1 _ ?_; clear hR1 R1) | omega | rfl | decide | assumption | (split <;> first | (rw [tableV_len]; assumption) | decide) | (intro _; split <;> first | (simp [tableV, objs, hb2] at *; done) | (simp <;> omega)) | (simp [roomFor, maxLen, by49, by4, by27, by3] <;> omega))
  refine opsA_nil (hR _ ?_)
  clear hR R
  try simp only [go_sem, Nat.reduceBEq]
  refine thenK.normal ?_
  refine SA.seq ?_
  refine SA.region ok (by kernel_rfl) [0, 3, 4, 5] ?_
  intro R hR
  simp only [go_sem, strip]
  iterate 1 (refine opsA_cons fun R1 hR1 => ?_; simp only [go_sem, Nat.reduceBEq, Nat.reduceLT, Nat.reduceEqDiff, Nat.reduceAdd, Int.reduceLE, Int.reduceLT, Int.reduceNeg, Int.reduceEq, Int.reduceToNat, reduceCtorEq]; (repeat' with_reducible refine And.intro ?_ ?_); all_goals first | (refine hR1 _ ?_; clear hR1 R1) | omega | rfl | decide | assumption | (split <;> first | (rw [tableV_len]; assumption) | decide) | (intro _; split <;> first | (simp [tableV, objs, hb2] at *; done) | (simp <;> omega)) | (simp [roomFor, maxLen, by49, by4, by27, by3] <;> omega))
  refine opsA_cons fun R1 hR1 => ?_
  simp only [go_sem, Nat.reduceBEq, Nat.reduceLT, Nat.reduceEqDiff, Nat.reduceAdd, Int.reduceLE, Int.reduceLT, Int.reduceNeg, Int.reduceEq, Int.reduceToNat, reduceCtorEq]
  repeat' with_reducible refine And.intro ?_ ?_
  all_goals try (first | omega | assumption | (intro _; omega))
  first | refine ⟨_, _, rfl, .inr (CallE.ctrZ (table_ctr t ht h6) (by first | rfl | (simp [argsV, toVs, contentV, toV, ty60, ty65, ty42, ty49, ty33, ty32, ty34, ty3, ty4, ty22, ty27, ty28, ty30, ty25, ty2, List.length_map, List.take_of_length_le])) ?_)⟩ | refine ⟨_, _, rfl, .inr ⟨fun _ => CallE.ctrZ (table_ctr t ht h6) (by first | rfl | (simp [argsV, toVs, contentV, toV, ty60, ty65, ty42, ty49, ty33, ty32, ty34, ty3, ty4, ty22, ty27, ty28, ty30, ty25, ty2, List.length_map, List.take_of_length_le])) ?_, ?_⟩⟩
  simp only [go_sem, Nat.reduceBEq, Nat.reduceLT, Nat.reduceEqDiff, Nat.reduceAdd, Int.reduceLE, Int.reduceLT, Int.reduceNeg, Int.reduceEq, Int.reduceToNat, reduceCtorEq]
  repeat' with_reducible refine And.intro ?_ ?_
  all_goals first | (refine hR1 _ ?_; clear hR1 R1) | omega | rfl | decide | assumption | (split <;> first | (rw [tableV_len]; assumption) | decide) | (intro _; split <;> first | (simp [tableV, objs, hb2] at *; done) | (simp <;> omega)) | (simp [roomFor, maxLen, by49, by4, by27, by3] <;> omega)
  iterate 5 (refine opsA_cons fun R1 hR1 => ?_; simp only [go_sem, Nat.reduceBEq, Nat.reduceLT, Nat.reduceEqDiff, Nat.reduceAdd, Int.reduceLE, Int.reduceLT, Int.reduceNeg, Int.reduceEq, Int.reduceToNat, reduceCtorEq]; (repeat' with_reducible refine And.intro ?_ ?_); all_goals first | (refine hR1 _ ?_; clear hR1 R1) | omega | rfl | decide | assumption | (split <;> first | (rw [tableV_len]; assumption) | decide) | (intro _; split <;> first | (simp [tableV, objs, hb2] at *; done) | (simp <;> omega)) | (simp [roomFor, maxLen, by49, by4, by27, by3] <;> omega))
  refine opsA_nil (hR _ ?_)
  clear hR R
  try simp only [go_sem, Nat.reduceBEq]
  refine thenK.normal ?_
  refine SA.seq ?_
  refine SA.region ok (by kernel_rfl) [0, 3, 4, 5, 6, 7] ?_
  intro R hR
  simp only [go_sem, strip]
  iterate 1 (refine opsA_cons fun R1 hR1 => ?_; simp only [go_sem, Nat.reduceBEq, Nat.reduceLT, Nat.reduceEqDiff, Nat.reduceAdd, Int.reduceLE, Int.reduceLT, Int.reduceNeg, Int.reduceEq, Int.reduceToNat, reduceCtorEq]; (repeat' with_reducible refine And.intro ?_ ?_); all_goals first | (refine hR1 _ ?_; clear hR1 R1) | omega | rfl | decide | assumption | (split <;> first | (rw [tableV_len]; assumption) | decide) | (intro _; split <;> first | (simp [tableV, objs, hb2] at *; done) | (simp <;> omega)) | (simp [roomFor, maxLen, by49, by4, by27, by3] <;> omega))
  refine opsA_cons fun R1 hR1 => ?_
  simp only [go_sem, Nat.reduceBEq, Nat.reduceLT, Nat.reduceEqDiff, Nat.reduceAdd, Int.reduceLE, Int.reduceLT, Int.reduceNeg, Int.reduceEq, Int.reduceToNat, reduceCtorEq]
  repeat' with_reducible refine And.intro ?_ ?_
  all_goals try (first | omega | assumption | (intro _; omega))
  first | refine ⟨_, _, rfl, .inr (CallE.ctr ok (objects_ctr t ht h6) (by first | rfl | (simp [argsV, toVs, contentV, toV, ty60, ty65, ty42, ty49, ty33, ty32, ty34, ty3, ty4, ty22, ty27, ty28, ty30, ty25, ty2, List.length_map, List.take_of_length_le])) ?_)⟩ | refine ⟨_, _, rfl, .inr ⟨fun _ => CallE.ctr ok (objects_ctr t ht h6) (by first | rfl | (simp [argsV, toVs, contentV, toV, ty60, ty65, ty42, ty49, ty33, ty32, ty34, ty3, ty4, ty22, ty27, ty28, ty30, ty25, ty2, List.length_map, List.take_of_length_le])) ?_, ?_⟩⟩
  simp only [go_sem, Nat.reduceBEq, Nat.reduceLT, Nat.reduceEqDiff, Nat.reduceAdd, Int.reduceLE, Int.reduceLT, Int.reduceNeg, Int.reduceEq, Int.reduceToNat, reduceCtorEq]
  repeat' with_reducible refine And.intro ?_ ?_
  all_goals first | (refine hR1 _ ?_; clear hR1 R1) | omega | rfl | decide | assumption | (split <;> first | (rw [tableV_len]; assumption) | decide) | (intro _; split <;> first | (simp [tableV, objs, hb2] at *; done) | (simp <;> omega)) | (simp [roomFor, maxLen, by49, by4, by27, by3] <;> omega)
  iterate 5 (refine opsA_cons fun R1 hR1 => ?_; simp only [go_sem, Nat.reduceBEq, Nat.reduceLT, Nat.reduceEqDiff, Nat.reduceAdd, Int.reduceLE, Int.reduceLT, Int.reduceNeg, Int.reduceEq, Int.reduceToNat, reduceCtorEq]; (repeat' with_reducible refine And.intro ?_ ?_); all_goals first | (refine hR1 _ ?_; clear hR1 R1) | omega | rfl | decide | assumption | (split <;> first | (rw [tableV_len]; assumption) | decide) | (intro _; split <;> first | (simp [tableV, objs, hb2] at *; done) | (simp <;> omega)) | (simp [roomFor, maxLen, by49, by4, by27, by3] <;> omega))
  refine opsA_nil (hR _ ?_)
  clear hR R
  try simp only [go_sem, Nat.reduceBEq]
  refine thenK.normal ?_
  refine SA.seq ?_
  refine SA.region ok (by kernel_rfl) [0, 3, 4, 5, 6, 7, 8] ?_
  intro R hR
  simp only [go_sem, strip]
  iterate 1 (refine opsA_cons fun R1 hR1 => ?_; simp only [go_sem, Nat.reduceBEq, Nat.reduceLT, Nat.reduceEqDiff, Nat.reduceAdd, Int.reduceLE, Int.reduceLT, Int.reduceNeg, Int.reduceEq, Int.reduceToNat, reduceCtorEq]; (repeat' with_reducible refine And.intro ?_ ?_); all_goals first | (refine hR1 _ ?_; clear hR1 R1) | omega | rfl | decide | assumption | (split <;> first | (rw [tableV_len]; assumption) | decide) | (intro _; split <;> first | (simp [tableV, objs, hb2] at *; done) | (simp <;> omega)) | (simp [roomFor, maxLen, by49, by4, by27, by3] <;> omega))
  refine opsA_cons fun R1 hR1 => ?_
  simp only [go_sem, Nat.reduceBEq, Nat.reduceLT, Nat.reduceEqDiff, Nat.reduceAdd, Int.reduceLE, Int.reduceLT, Int.reduceNeg, Int.reduceEq, Int.reduceToNat, reduceCtorEq]
  repeat' with_reducible refine And.intro ?_ ?_
  all_goals try (first | omega | assumption | (intro _; omega))
  first | refine ⟨_, _, rfl, .inl ⟨_, CallQ.ctr ok (refCheck_ctr t ht h6) (by first | rfl | (simp [argsV, toVs, contentV, toV, ty60, ty65, ty42, ty49, ty33, ty32, ty34, ty3, ty4, ty22, ty27, ty28, ty30, ty25, ty2, List.length_map, List.take_of_length_le])) rfl, ?_⟩⟩ | refine ⟨_, _, rfl, .inl ⟨_, fun hg => CallQ.ctr ok (refCheck_ctr t ht h6) (by first | rfl | (simp [argsV, toVs, contentV, toV, ty60, ty65, ty42, ty49, ty33, ty32, ty34, ty3, ty4, ty22, ty27, ty28, ty30, ty25, ty2, List.length_map, List.take_of_length_le])) rfl, ?_⟩⟩
  simp only [go_sem, Nat.reduceBEq, Nat.reduceLT, Nat.reduceEqDiff, Nat.reduceAdd, Int.reduceLE, Int.reduceLT, Int.reduceNeg, Int.reduceEq, Int.reduceToNat, reduceCtorEq]
  repeat' with_reducible refine And.intro ?_ ?_
  all_goals first | (refine hR1 _ ?_; clear hR1 R1) | omega | rfl | decide | assumption | (split <;> first | (rw [tableV_len]; assumption) | decide) | (intro _; split <;> first | (simp [tableV, objs, hb2] at *; done) | (simp <;> omega)) | (simp [roomFor, maxLen, by49, by4, by27, by3] <;> omega)
  iterate 1 (refine opsA_cons fun R1 hR1 => ?_; simp only [go_sem, Nat.reduceBEq, Nat.reduceLT, Nat.reduceEqDiff, Nat.reduceAdd, Int.reduceLE, Int.reduceLT, Int.reduceNeg, Int.reduceEq, Int.reduceToNat, reduceCtorEq]; (repeat' with_reducible refine And.intro ?_ ?_); all_goals first | (refine hR1 _ ?_; clear hR1 R1) | omega | rfl | decide | assumption | (split <;> first | (rw [tableV_len]; assumption) | decide) | (intro _; split <;> first | (simp [tableV, objs, hb2] at *; done) | (simp <;> omega)) | (simp [roomFor, maxLen, by49, by4, by27, by3] <;> omega))
  refine opsA_nil (hR _ ?_)
  clear hR R
  try simp only [go_sem, Nat.reduceBEq]
  refine thenK.normal ?_
  refine SA.seq ?_
  refine SA.seq ?_
  refine SA.region ok (by kernel_rfl) [0, 4, 6, 8, 42] ?_
  intro R hR
  simp only [go_sem, strip]
  iterate 14 (refine opsA_cons fun R1 hR1 => ?_; simp only [go_sem, Nat.reduceBEq, Nat.reduceLT, Nat.reduceEqDiff, Nat.reduceAdd, Int.reduceLE, Int.reduceLT, Int.reduceNeg, Int.reduceEq, Int.reduceToNat, reduceCtorEq]; (repeat' with_reducible refine And.intro ?_ ?_); all_goals first | (refine hR1 _ ?_; clear hR1 R1) | omega | rfl | decide | assumption | (split <;> first | (rw [tableV_len]; assumption) | decide) | (intro _; split <;> first | (simp [tableV, objs, hb2] at *; done) | (simp <;> omega)) | (simp [roomFor, maxLen, by49, by4, by27, by3] <;> omega))
  refine opsA_cons fun R1 hR1 => ?_
  simp only [go_sem, Nat.reduceBEq, Nat.reduceLT, Nat.reduceEqDiff, Nat.reduceAdd, Int.reduceLE, Int.reduceLT, Int.reduceNeg, Int.reduceEq, Int.reduceToNat, reduceCtorEq]
  repeat' with_reducible refine And.intro ?_ ?_
  all_goals try (first | omega | assumption | (intro _; omega))
  first | refine ⟨_, _, rfl, .inl ⟨_, CallQ.ctr ok (speaks_ctr) (by first | rfl | (simp [argsV, toVs, contentV, toV, ty60, ty65, ty42, ty49, ty33, ty32, ty34, ty3, ty4, ty22, ty27, ty28, ty30, ty25, ty2, List.length_map, List.take_of_length_le])) rfl, ?_⟩⟩ | refine ⟨_, _, rfl, .inl ⟨_, fun hg => CallQ.ctr ok (speaks_ctr) (by first | rfl | (simp [argsV, toVs, contentV, toV, ty60, ty65, ty42, ty49, ty33, ty32, ty34, ty3, ty4, ty22, ty27, ty28, ty30, ty25, ty2, List.length_map, List.take_of_length_le])) rfl, ?_⟩⟩
  simp only [go_sem, Nat.reduceBEq, Nat.reduceLT, Nat.reduceEqDiff, Nat.reduceAdd, Int.reduceLE, Int.reduceLT, Int.reduceNeg, Int.reduceEq, Int.reduceToNat, reduceCtorEq]
  repeat' with_reducible refine And.intro ?_ ?_
  all_goals first | (refine hR1 _ ?_; clear hR1 R1) | omega | rfl | decide | assumption | (split <;> first | (rw [tableV_len]; assumption) | decide) | (intro _; split <;> first | (simp [tableV, objs, hb2] at *; done) | (simp <;> omega)) | (simp [roomFor, maxLen, by49, by4, by27, by3] <;> omega)
  iterate 2 (refine opsA_cons fun R1 hR1 => ?_; simp only [go_sem, Nat.reduceBEq, Nat.reduceLT, Nat.reduceEqDiff, Nat.reduceAdd, Int.reduceLE, Int.reduceLT, Int.reduceNeg, Int.reduceEq, Int.reduceToNat, reduceCtorEq]; (repeat' with_reducible refine And.intro ?_ ?_); all_goals first | (refine hR1 _ ?_; clear hR1 R1) | omega | rfl | decide | assumption | (split <;> first | (rw [tableV_len]; assumption) | decide) | (intro _; split <;> first | (simp [tableV, objs, hb2] at *; done) | (simp <;> omega)) | (simp [roomFor, maxLen, by49, by4, by27, by3] <;> omega))
  refine opsA_nil (hR _ ?_)
  clear hR R
  try simp only [go_sem, Nat.reduceBEq]
  refine thenK.normal ?_
  refine SA.cond rfl ?_ ?_
  · intro hb1
    skip
    simp at hb1
  · intro hb1
    skip
    refine SA.skip ?_
    refine thenK.normal ?_
    refine SA.seq ?_
    refine SA.seq ?_
    refine SA.region ok (by kernel_rfl) [0, 4, 6, 44] ?_
    intro R hR
    simp only [go_sem, strip]
    iterate 2 (refine opsA_cons fun R1 hR1 => ?_; simp only [go_sem, Nat.reduceBEq, Nat.reduceLT, Nat.reduceEqDiff, Nat.reduceAdd, Int.reduceLE, Int.reduceLT, Int.reduceNeg, Int.reduceEq, Int.reduceToNat, reduceCtorEq]; (repeat' with_reducible refine And.intro ?_ ?_); all_goals first | (refine hR1 _ ?_; clear hR1 R1) | omega | rfl | decide | assumption | (split <;> first | (rw [tableV_len]; assumption) | decide) | (intro _; split <;> first | (simp [tableV, objs, hb2] at *; done) | (simp <;> omega)) | (simp [roomFor, maxLen, by49, by4, by27, by3] <;> omega))
    refine opsA_nil (hR _ ?_)
    clear hR R
    try simp only [go_sem, Nat.reduceBEq]
    refine thenK.normal ?_
    refine SA.cond rfl ?_ ?_
    · intro hb2
      simp at hb2
      refine SA.seq ?_
      refine SA.region ok (by kernel_rfl) [2] ?_
      intro R hR
      simp only [go_sem, strip]
      iterate 9 (refine opsA_cons fun R1 hR1 => ?_; simp only [go_sem, Nat.reduceBEq, Nat.reduceLT, Nat.reduceEqDiff, Nat.reduceAdd, Int.reduceLE, Int.reduceLT, Int.reduceNeg, Int.reduceEq, Int.reduceToNat, reduceCtorEq]; (repeat' with_reducible refine And.intro ?_ ?_); all_goals first | (refine hR1 _ ?_; clear hR1 R1) | omega | rfl | decide | assumption | (split <;> first | (rw [tableV_len]; assumption) | decide) | (intro _; split <;> first | (simp [tableV, objs, hb2] at *; done) | (simp <;> omega)) | (simp [roomFor, maxLen, by49, by4, by27, by3] <;> omega))
      refine opsA_nil (hR _ ?_)
      clear hR R
      try simp only [go_sem, Nat.reduceBEq]
      refine thenK.normal ?_
      refine SA.ret ?_
      refine thenK.ret ?_
      refine ctrK.ret ?_
      simp only [resA, evalO, resV, backK, outE, toV, ty4, ty3, List.lookup_cons, List.lookup_nil, beq_self_eq_true, forall_const, true_and, and_true]
      simp [hb2, flatTy, ty4]
    · intro hb2
      simp at hb2
      refine SA.skip ?_
      refine thenK.normal ?_
      refine SA.seq ?_
      have h256 := check_len hb2
      have hr := check_right hb2
      simp only [hb2, if_true, objs_kinds h6 hr]
      refine SA.region ok (by kernel_rfl) [0, 4, 6, 9] ?_
      intro R hR
      simp only [go_sem, strip]
      iterate 1 (refine opsA_cons fun R1 hR1 => ?_; simp only [go_sem, Nat.reduceBEq, Nat.reduceLT, Nat.reduceEqDiff, Nat.reduceAdd, Int.reduceLE, Int.reduceLT, Int.reduceNeg, Int.reduceEq, Int.reduceToNat, reduceCtorEq]; (repeat' with_reducible refine And.intro ?_ ?_); all_goals first | (refine hR1 _ ?_; clear hR1 R1) | omega | rfl | decide | assumption | (split <;> first | (rw [tableV_len]; assumption) | decide) | (intro _; split <;> first | (simp [tableV, objs, hb2] at *; done) | (simp <;> omega)) | (simp [roomFor, maxLen, by49, by4, by27, by3] <;> omega))
      refine opsA_cons fun R1 hR1 => ?_
      simp only [go_sem, Nat.reduceBEq, Nat.reduceLT, Nat.reduceEqDiff, Nat.reduceAdd, Int.reduceLE, Int.reduceLT, Int.reduceNeg, Int.reduceEq, Int.reduceToNat, reduceCtorEq]
      repeat' with_reducible refine And.intro ?_ ?_
      all_goals try (first | omega | assumption | (intro _; omega))
      first | refine ⟨_, _, rfl, .inr (CallE.ctrZ (refTable_ctr t h256 h6) (by first | rfl | (simp [argsV, toVs, contentV, toV, ty60, ty65, ty42, ty49, ty33, ty32, ty34, ty3, ty4, ty22, ty27, ty28, ty30, ty25, ty2, List.length_map, List.take_of_length_le])) ?_)⟩ | refine ⟨_, _, rfl, .inr ⟨fun _ => CallE.ctrZ (refTable_ctr t h256 h6) (by first | rfl | (simp [argsV, toVs, contentV, toV, ty60, ty65, ty42, ty49, ty33, ty32, ty34, ty3, ty4, ty22, ty27, ty28, ty30, ty25, ty2, List.length_map, List.take_of_length_le])) ?_, ?_⟩⟩
      simp only [go_sem, Nat.reduceBEq, Nat.reduceLT, Nat.reduceEqDiff, Nat.reduceAdd, Int.reduceLE, Int.reduceLT, Int.reduceNeg, Int.reduceEq, Int.reduceToNat, reduceCtorEq]
      repeat' with_reducible refine And.intro ?_ ?_
      all_goals first | (refine hR1 _ ?_; clear hR1 R1) | omega | rfl | decide | assumption | (split <;> first | (rw [tableV_len]; assumption) | decide) | (intro _; split <;> first | (simp [tableV, objs, hb2] at *; done) | (simp <;> omega)) | (simp [roomFor, maxLen, by49, by4, by27, by3] <;> omega)
      iterate 1 (refine opsA_cons fun R1 hR1 => ?_; simp only [go_sem, Nat.reduceBEq, Nat.reduceLT, Nat.reduceEqDiff, Nat.reduceAdd, Int.reduceLE, Int.reduceLT, Int.reduceNeg, Int.reduceEq, Int.reduceToNat, reduceCtorEq]; (repeat' with_reducible refine And.intro ?_ ?_); all_goals first | (refine hR1 _ ?_; clear hR1 R1) | omega | rfl | decide | assumption | (split <;> first | (rw [tableV_len]; assumption) | decide) | (intro _; split <;> first | (simp [tableV, objs, hb2] at *; done) | (simp <;> omega)) | (simp [roomFor, maxLen, by49, by4, by27, by3] <;> omega))
      refine opsA_nil (hR _ ?_)
      clear hR R
      try simp only [go_sem, Nat.reduceBEq]
      refine thenK.normal ?_
      refine SA.seq ?_
      refine SA.seq ?_
      refine SA.region ok (by kernel_rfl) [4, 9, 66] ?_
      intro R hR
      simp only [go_sem, strip]
      iterate 8 (refine opsA_cons fun R1 hR1 => ?_; simp only [go_sem, Nat.reduceBEq, Nat.reduceLT, Nat.reduceEqDiff, Nat.reduceAdd, Int.reduceLE, Int.reduceLT, Int.reduceNeg, Int.reduceEq, Int.reduceToNat, reduceCtorEq]; (repeat' with_reducible refine And.intro ?_ ?_); all_goals first | (refine hR1 _ ?_; clear hR1 R1) | omega | rfl | decide | assumption | (split <;> first | (rw [tableV_len]; assumption) | decide) | (intro _; split <;> first | (simp [tableV, objs, hb2] at *; done) | (simp <;> omega)) | (simp [roomFor, maxLen, by49, by4, by27, by3] <;> omega))
      refine opsA_cons fun R1 hR1 => ?_
      simp only [go_sem, Nat.reduceBEq, Nat.reduceLT, Nat.reduceEqDiff, Nat.reduceAdd, Int.reduceLE, Int.reduceLT, Int.reduceNeg, Int.reduceEq, Int.reduceToNat, reduceCtorEq]
      repeat' with_reducible refine And.intro ?_ ?_
      all_goals try (first | omega | assumption | (intro _; omega))
      first | refine ⟨_, _, rfl, .inr (CallE.ctr ok (refObjects_ctr t h256 h6 hr) (by first | rfl | (simp [argsV, toVs, contentV, toV, ty60, ty65, ty42, ty49, ty33, ty32, ty34, ty3, ty4, ty22, ty27, ty28, ty30, ty25, ty2, List.length_map, List.take_of_length_le])) ?_)⟩ | refine ⟨_, _, rfl, .inr ⟨fun _ => CallE.ctr ok (refObjects_ctr t h256 h6 hr) (by first | rfl | (simp [argsV, toVs, contentV, toV, ty60, ty65, ty42, ty49, ty33, ty32, ty34, ty3, ty4, ty22, ty27, ty28, ty30, ty25, ty2, List.length_map, List.take_of_length_le])) ?_, ?_⟩⟩
      simp only [go_sem, Nat.reduceBEq, Nat.reduceLT, Nat.reduceEqDiff, Nat.reduceAdd, Int.reduceLE, Int.reduceLT, Int.reduceNeg, Int.reduceEq, Int.reduceToNat, reduceCtorEq]
      repeat' with_reducible refine And.intro ?_ ?_
      all_goals first | (refine hR1 _ ?_; clear hR1 R1) | omega | rfl | decide | assumption | (split <;> first | (rw [tableV_len]; assumption) | decide) | (intro _; split <;> first | (simp [tableV, objs, hb2] at *; done) | (simp <;> omega)) | (simp [roomFor, maxLen, by49, by4, by27, by3] <;> omega)
      refine opsA_cons fun R1 hR1 => ?_
      simp only [go_sem, Nat.reduceBEq, Nat.reduceLT, Nat.reduceEqDiff, Nat.reduceAdd, Int.reduceLE, Int.reduceLT, Int.reduceNeg, Int.reduceEq, Int.reduceToNat, reduceCtorEq]
      repeat' with_reducible refine And.intro ?_ ?_
      all_goals try (first | omega | assumption | (intro _; omega))
      first | refine ⟨_, _, rfl, .inl ⟨_, CallQ.ctr ok (sameAccesses_ctr (kindsTo t 6) (kindsTo t 6) (kindsTo_len' t) (kindsTo_len' t)) (by first | rfl | (simp [argsV, toVs, contentV, toV, ty60, ty65, ty42, ty49, ty33, ty32, ty34, ty3, ty4, ty22, ty27, ty28, ty30, ty25, ty2, List.length_map, List.take_of_length_le])) rfl, ?_⟩⟩ | refine ⟨_, _, rfl, .inl ⟨_, fun hg => CallQ.ctr ok (sameAccesses_ctr (kindsTo t 6) (kindsTo t 6) (kindsTo_len' t) (kindsTo_len' t)) (by first | rfl | (simp [argsV, toVs, contentV, toV, ty60, ty65, ty42, ty49, ty33, ty32, ty34, ty3, ty4, ty22, ty27, ty28, ty30, ty25, ty2, List.length_map, List.take_of_length_le])) rfl, ?_⟩⟩
      simp only [go_sem, Nat.reduceBEq, Nat.reduceLT, Nat.reduceEqDiff, Nat.reduceAdd, Int.reduceLE, Int.reduceLT, Int.reduceNeg, Int.reduceEq, Int.reduceToNat, reduceCtorEq]
      repeat' with_reducible refine And.intro ?_ ?_
      all_goals first | (refine hR1 _ ?_; clear hR1 R1) | omega | rfl | decide | assumption | (split <;> first | (rw [tableV_len]; assumption) | decide) | (intro _; split <;> first | (simp [tableV, objs, hb2] at *; done) | (simp <;> omega)) | (simp [roomFor, maxLen, by49, by4, by27, by3] <;> omega)
      iterate 2 (refine opsA_cons fun R1 hR1 => ?_; simp only [go_sem, Nat.reduceBEq, Nat.reduceLT, Nat.reduceEqDiff, Nat.reduceAdd, Int.reduceLE, Int.reduceLT, Int.reduceNeg, Int.reduceEq, Int.reduceToNat, reduceCtorEq]; (repeat' with_reducible refine And.intro ?_ ?_); all_goals first | (refine hR1 _ ?_; clear hR1 R1) | omega | rfl | decide | assumption | (split <;> first | (rw [tableV_len]; assumption) | decide) | (intro _; split <;> first | (simp [tableV, objs, hb2] at *; done) | (simp <;> omega)) | (simp [roomFor, maxLen, by49, by4, by27, by3] <;> omega))
      refine opsA_nil (hR _ ?_)
      clear hR R
      try simp only [go_sem, Nat.reduceBEq]
      refine thenK.normal ?_
      refine SA.cond rfl ?_ ?_
      · intro hb3
        skip
        simp at hb3
      · intro hb3
        skip
        refine SA.skip ?_
        refine thenK.normal ?_
        refine SA.seq ?_
        refine SA.seq ?_
        refine SA.region ok (by kernel_rfl) [4, 9, 10] ?_
        intro R hR
        simp only [go_sem, strip]
        iterate 1 (refine opsA_cons fun R1 hR1 => ?_; simp only [go_sem, Nat.reduceBEq, Nat.reduceLT, Nat.reduceEqDiff, Nat.reduceAdd, Int.reduceLE, Int.reduceLT, Int.reduceNeg, Int.reduceEq, Int.reduceToNat, reduceCtorEq]; (repeat' with_reducible refine And.intro ?_ ?_); all_goals first | (refine hR1 _ ?_; clear hR1 R1) | omega | rfl | decide | assumption | (split <;> first | (rw [tableV_len]; assumption) | decide) | (intro _; split <;> first | (simp [tableV, objs, hb2] at *; done) | (simp <;> omega)) | (simp [roomFor, maxLen, by49, by4, by27, by3] <;> omega))
        refine opsA_nil (hR _ ?_)
        clear hR R
        try simp only [go_sem, Nat.reduceBEq]
        refine thenK.normal ?_
        refine SA.block ?_
        refine SA.weaken ((St.le.cut 0 rfl).trans (St.le.of_eq (by first | rfl | simp))) (SA.loop (fun n τ => ∃ (i : Nat), n = t.length - i ∧ (i ≤ t.length) ∧ τ = { tm := [(4, true, .fs 49 (tableV t t.length) false), (9, true, .fs 49 (tableV t t.length) false), (10, true, .int .i64 i)], ob := [], out := [], nt := 108 }) (t.length) ⟨0, rfl, Nat.zero_le _, rfl⟩ ?_)
        rintro n τ ⟨i, hn, hi, rfl⟩
        refine SA.seq ?_
        refine SA.seq ?_
        refine SA.region ok (by kernel_rfl) [4, 9, 10, 70] ?_
        intro R hR
        simp only [go_sem, strip]
        iterate 4 (refine opsA_cons fun R1 hR1 => ?_; simp only [go_sem, Nat.reduceBEq, Nat.reduceLT, Nat.reduceEqDiff, Nat.reduceAdd, Int.reduceLE, Int.reduceLT, Int.reduceNeg, Int.reduceEq, Int.reduceToNat, reduceCtorEq]; (repeat' with_reducible refine And.intro ?_ ?_); all_goals first | (refine hR1 _ ?_; clear hR1 R1) | omega | rfl | decide | assumption | (split <;> first | (rw [tableV_len]; assumption) | decide) | (intro _; split <;> first | (simp [tableV, objs, hb2] at *; done) | (simp <;> omega)) | (simp [roomFor, maxLen, by49, by4, by27, by3] <;> omega))
        refine opsA_nil (hR _ ?_)
        clear hR R
        try simp only [go_sem, Nat.reduceBEq]
        refine thenK.normal ?_
        refine SA.cond rfl ?_ ?_
        · intro hb4
          simp only [decide_eq_true_eq, decide_eq_false_iff_not, Int.not_lt, Int.not_le] at hb4
          refine SA.skip ?_
          refine thenK.normal ?_
          refine SA.seq ?_
          refine SA.block ?_
          refine SA.seq ?_
          refine SA.seq ?_
          have hin : i < t.length := by omega
          refine SA.regionQ ok mixed (by kernel_rfl) (by kernel_rfl) [4, 9, 10, 83] ?_
          intro R hR
          simp only [go_sem, strip]
          iterate 11 (refine opsQ_cons fun R1 hR1 => ?_; simp only [go_sem, Nat.reduceBEq, Nat.reduceLT, Nat.reduceEqDiff, Nat.reduceAdd, Int.reduceLE, Int.reduceLT, Int.reduceNeg, Int.reduceEq, Int.reduceToNat, reduceCtorEq, tableV_at hin, V.toList_list]; (repeat' with_reducible refine And.intro ?_ ?_); all_goals first | (refine hR1 _ ?_; clear hR1 R1) | omega | rfl | decide | assumption | (split <;> first | (rw [tableV_len]; assumption) | decide) | (intro _; split <;> first | (simp [tableV, objs, hb2] at *; done) | (simp <;> omega)) | (simp [roomFor, maxLen, by49, by4, by27, by3] <;> omega))
          refine opsQ_nil (hR _ ?_)
          clear hR R
          try simp only [go_sem, Nat.reduceBEq]
          refine thenK.normal ?_
          refine SA.cond rfl ?_ ?_
          · intro hb5
            skip
            simp at hb5
          · intro hb5
            skip
            refine SA.skip ?_
            refine thenK.normal ?_
            refine SA.seq ?_
            refine SA.region ok (by kernel_rfl) [4, 9, 10, 11] ?_
            intro R hR
            simp only [go_sem, strip]
            iterate 1 (refine opsA_cons fun R1 hR1 => ?_; simp only [go_sem, Nat.reduceBEq, Nat.reduceLT, Nat.reduceEqDiff, Nat.reduceAdd, Int.reduceLE, Int.reduceLT, Int.reduceNeg, Int.reduceEq, Int.reduceToNat, reduceCtorEq]; (repeat' with_reducible refine And.intro ?_ ?_); all_goals first | (refine hR1 _ ?_; clear hR1 R1) | omega | rfl | decide | assumption | (split <;> first | (rw [tableV_len]; assumption) | decide) | (intro _; split <;> first | (simp [tableV, objs, hb2] at *; done) | (simp <;> omega)) | (simp [roomFor, maxLen, by49, by4, by27, by3] <;> omega))
            refine opsA_nil (hR _ ?_)
            clear hR R
            try simp only [go_sem, Nat.reduceBEq]
            refine thenK.normal ?_
            refine SA.block ?_
            refine SA.weaken (St.le.of_eq (by first | rfl | simp)) (SA.loop (fun n τ => ∃ (j : Nat), n = t.length - j ∧ (j ≤ t.length) ∧ τ = { tm := [(4, true, .fs 49 (tableV t t.length) false), (9, true, .fs 49 (tableV t t.length) false), (10, true, .int .i64 i), (11, true, .int .i64 j)], ob := [], out := [], nt := 108 }) (t.length) ⟨0, rfl, Nat.zero_le _, rfl⟩ ?_)
            rintro n τ ⟨j, hn, hj, rfl⟩
            refine SA.seq ?_
            refine SA.seq ?_
            refine SA.region ok (by kernel_rfl) [4, 9, 10, 11, 90] ?_
            intro R hR
            simp only [go_sem, strip]
            iterate 7 (refine opsA_cons fun R1 hR1 => ?_; simp only [go_sem, Nat.reduceBEq, Nat.reduceLT, Nat.reduceEqDiff, Nat.reduceAdd, Int.reduceLE, Int.reduceLT, Int.reduceNeg, Int.reduceEq, Int.reduceToNat, reduceCtorEq, tableV_at hin, V.toList_list]; (repeat' with_reducible refine And.intro ?_ ?_); all_goals first | (refine hR1 _ ?_; clear hR1 R1) | omega | rfl | decide | assumption | (split <;> first | (rw [tableV_len]; assumption) | decide) | (intro _; split <;> first | (simp [tableV, objs, hb2] at *; done) | (simp <;> omega)) | (simp [roomFor, maxLen, by49, by4, by27, by3] <;> omega))
            refine opsA_nil (hR _ ?_)
            clear hR R
            try simp only [go_sem, Nat.reduceBEq]
            refine thenK.normal ?_
            refine SA.cond rfl ?_ ?_
            · intro hb6
              simp only [decide_eq_true_eq, decide_eq_false_iff_not, Int.not_lt, Int.not_le] at hb6
              refine SA.skip ?_
              refine thenK.normal ?_
              refine SA.seq ?_
              refine SA.block ?_
              refine SA.seq ?_
              have hjn : j < t.length := by omega
              refine SA.regionQ ok mixed (by kernel_rfl) (by kernel_rfl) [4, 9, 10, 11, 107] ?_
              intro R hR
              simp only [go_sem, strip]
              iterate 15 (refine opsQ_cons fun R1 hR1 => ?_; simp only [go_sem, Nat.reduceBEq, Nat.reduceLT, Nat.reduceEqDiff, Nat.reduceAdd, Int.reduceLE, Int.reduceLT, Int.reduceNeg, Int.reduceEq, Int.reduceToNat, reduceCtorEq, tableV_at hin, rowOf_at hjn, V.toList_list, V.toBool_bool]; (repeat' with_reducible refine And.intro ?_ ?_); all_goals first | (refine hR1 _ ?_; clear hR1 R1) | omega | rfl | decide | assumption | (split <;> first | (rw [tableV_len]; assumption) | decide) | (intro _; split <;> first | (simp [tableV, objs, hb2] at *; done) | (simp <;> omega)) | (simp [roomFor, maxLen, by49, by4, by27, by3] <;> omega))
              refine opsQ_nil (hR _ ?_)
              clear hR R
              try simp only [go_sem, Nat.reduceBEq]
              refine thenK.normal ?_
              refine SA.cond rfl ?_ ?_
              · intro hb7
                skip
                simp at hb7
              · intro hb7
                skip
                refine SA.skip ?_
                refine blockK.normal ?_
                refine thenK.normal ?_
                refine SA.region ok (by kernel_rfl) [4, 9, 10, 11] ?_
                intro R hR
                simp only [go_sem, strip]
                iterate 3 (refine opsA_cons fun R1 hR1 => ?_; simp only [go_sem, Nat.reduceBEq, Nat.reduceLT, Nat.reduceEqDiff, Nat.reduceAdd, Int.reduceLE, Int.reduceLT, Int.reduceNeg, Int.reduceEq, Int.reduceToNat, reduceCtorEq]; (repeat' with_reducible refine And.intro ?_ ?_); all_goals first | (refine hR1 _ ?_; clear hR1 R1) | omega | rfl | decide | assumption | (split <;> first | (rw [tableV_len]; assumption) | decide) | (intro _; split <;> first | (simp [tableV, objs, hb2] at *; done) | (simp <;> omega)) | (simp [roomFor, maxLen, by49, by4, by27, by3] <;> omega))
                refine opsA_nil (hR _ ?_)
                clear hR R
                try simp only [go_sem, Nat.reduceBEq]
                have hjn : j < t.length := by omega
                refine loopK.normal (t.length - (j + 1)) _ (by omega) (St.le.of_eq (by rw [wrap_succ hjn ht])) ⟨j + 1, rfl, hjn, rfl⟩
            · intro hb6
              simp only [decide_eq_true_eq, decide_eq_false_iff_not, Int.not_lt, Int.not_le] at hb6
              refine SA.exit ?_
              refine thenK.exit ?_
              refine loopK.exit ?_
              refine blockK.hit ?_
              refine blockK.normal ?_
              refine thenK.normal ?_
              refine SA.region ok (by kernel_rfl) [4, 9, 10] ?_
              intro R hR
              simp only [go_sem, strip]
              iterate 3 (refine opsA_cons fun R1 hR1 => ?_; simp only [go_sem, Nat.reduceBEq, Nat.reduceLT, Nat.reduceEqDiff, Nat.reduceAdd, Int.reduceLE, Int.reduceLT, Int.reduceNeg, Int.reduceEq, Int.reduceToNat, reduceCtorEq]; (repeat' with_reducible refine And.intro ?_ ?_); all_goals first | (refine hR1 _ ?_; clear hR1 R1) | omega | rfl | decide | assumption | (split <;> first | (rw [tableV_len]; assumption) | decide) | (intro _; split <;> first | (simp [tableV, objs, hb2] at *; done) | (simp <;> omega)) | (simp [roomFor, maxLen, by49, by4, by27, by3] <;> omega))
              refine opsA_nil (hR _ ?_)
              clear hR R
              try simp only [go_sem, Nat.reduceBEq]
              have hin : i < t.length := by omega
              refine loopK.normal (t.length - (i + 1)) _ (by omega) (St.le.of_eq (by rw [wrap_succ hin ht])) ⟨i + 1, rfl, hin, rfl⟩
        · intro hb4
          simp only [decide_eq_true_eq, decide_eq_false_iff_not, Int.not_lt, Int.not_le] at hb4
          refine SA.exit ?_
          refine thenK.exit ?_
          refine loopK.exit ?_
          refine blockK.hit ?_
          refine thenK.normal ?_
          refine SA.seq ?_
          refine SA.region ok (by kernel_rfl) [2] ?_
          intro R hR
          simp only [go_sem, strip]
          iterate 1 (refine opsA_cons fun R1 hR1 => ?_; simp only [go_sem, Nat.reduceBEq, Nat.reduceLT, Nat.reduceEqDiff, Nat.reduceAdd, Int.reduceLE, Int.reduceLT, Int.reduceNeg, Int.reduceEq, Int.reduceToNat, reduceCtorEq]; (repeat' with_reducible refine And.intro ?_ ?_); all_goals first | (refine hR1 _ ?_; clear hR1 R1) | omega | rfl | decide | assumption | (split <;> first | (rw [tableV_len]; assumption) | decide) | (intro _; split <;> first | (simp [tableV, objs, hb2] at *; done) | (simp <;> omega)) | (simp [roomFor, maxLen, by49, by4, by27, by3] <;> omega))
          refine opsA_nil (hR _ ?_)
          clear hR R
          try simp only [go_sem, Nat.reduceBEq]
          refine thenK.normal ?_
          refine SA.ret ?_
          refine ctrK.ret ?_
          simp only [resA, evalO, resV, backK, outE, toV, ty4, ty3, List.lookup_cons, List.lookup_nil, beq_self_eq_true, forall_const, true_and, and_true]
          simp [hb2, flatTy, ty4]

end Go.Eng.Try
