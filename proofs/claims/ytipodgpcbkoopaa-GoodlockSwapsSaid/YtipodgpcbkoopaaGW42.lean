/- A part of the proof: walks through the program's functions, and what they compute. -/
import Derived.Test.YtipodgpcbkoopaaE3
import Derived.Test.YtipodgpcbkoopaaM1
import Derived.Test.YtipodgpcbkoopaaE4
import Derived.Test.YtipodgpcbkoopaaGPlE
import Derived.Test.YtipodgpcbkoopaaGW39
import Derived.Test.YtipodgpcbkoopaaGW1
namespace Go.Eng.Try
open Go.RowKit Go.Eng
set_option linter.unusedSimpArgs false
set_option linter.unusedVariables false

def idx (pick : Int) (n : Nat) : Nat := ((IntKind.u64.wrap pick).tmod ((n : Int) - 1)).toNat
theorem idx_facts {pick : Int} {n : Nat} (h2 : 2 ≤ n) (hn : n ≤ 256) : IntKind.i64.wrap ((n : Int) - 1) = (n : Int) - 1 ∧ IntKind.u64.wrap ((n : Int) - 1) = (n : Int) - 1 ∧ IntKind.i64.wrap ((IntKind.u64.wrap pick).tmod ((n : Int) - 1)) = (idx pick n : Int) ∧ idx pick n + 1 < n := by
  have h0 : 0 ≤ IntKind.u64.wrap pick := by
    simp only [IntKind.wrap, IntKind.signed, IntKind.bits]
    simp
    omega
  have h1 : 0 ≤ (IntKind.u64.wrap pick).tmod ((n : Int) - 1) := Int.tmod_nonneg _ h0
  have h3 : (IntKind.u64.wrap pick).tmod ((n : Int) - 1) < (n : Int) - 1 := Int.tmod_lt_of_pos _ (by omega)
  have hi : (idx pick n : Int) = (IntKind.u64.wrap pick).tmod ((n : Int) - 1) := by unfold idx; omega
  refine ⟨wrap64_ok (by omega) (by omega), ?_, ?_, by omega⟩
  · simp [IntKind.wrap, IntKind.signed, IntKind.bits]; omega
  · rw [hi]; exact wrap64_ok (by omega) (by omega)
theorem take_all {l : List V} {n : Nat} (h : n = l.length) : List.take n l = l := by rw [h]; exact List.take_length

attribute [local go_sem] argsV contentV fromVs Option.getD_some St.keep List.filterMap_cons List.filterMap_nil Option.map_some Option.map_none opG opQ opB newEs outE CallStepB guardA putK putE pureA evalO evalL constE pickA capsE capsV loadA fieldAddrA indexAddrA indexA sliceA evalOptI builtinA binA plainA shiftA eqA nilA arith shifts effA storeA appendA appB freshA St.kill Tm.kill E.kill E.killL Obj.kill elemsOf evalVs buildA okAt toV fromV zeroE V.get V.put V.sub V.setSub args0 CallStep CallStepQ i64min i64max u64min u64max u32min u32max u8min u8max Nat.zero_add List.length_map List.lookup_cons List.lookup_nil List.getElem?_cons_zero List.getElem?_cons_succ List.getElem?_toArray List.getElem?_nil Option.bind_some Option.bind_none List.size_toArray List.length_cons List.length_nil List.nil_append List.append_nil List.cons_append List.getD_cons_zero List.getD_cons_succ List.map_cons List.map_nil List.set_cons_zero List.set_cons_succ true_and and_true forall_const true_implies Bool.true_and Bool.and_true Bool.not_true Bool.not_false Bool.false_and Bool.and_false beq_self_eq_true Bool.true_beq Bool.false_beq beq_true beq_false eq_self false_implies V.toInt_int V.toBool_bool V.toList_list V.toList_agg V.toStr_str V.deref_ref if_true if_false Bool.false_eq_true Option.isSome_none Option.isSome_some Bool.false_or Bool.true_or Bool.or_false Bool.or_true cond_true cond_false implies_true and_self imp_self ty22 ty25 ty3 ty4 ty81 ty39 ty40 ty42 ty37 ty2 ty23 ty24 ty46 ty68 ty65 ty70 ty69 ty90 ty77 ty59 ty100 ty75 ty98 ty71 ty93 ty64 ty85 concat_at List.length_range zero39 z39 z3 z4 z70 z68 z42 z40 z37 z2 zero40 z69 z90 zero70 zero69 zero90 zero68 zero42 Int.toNat_natCast Int.natCast_zero Event.v0 Event.v3 Event.v5 Event.v7 Event.v8 Access.v0 Access.v1 Access.v2 beq_acc Edge.v0 Edge.v1 Edge.v2 Edge.v3 heldOf_len locksTo_len heldsTo_len nowL_len ringsV_len Kind.v0 Kind.v1 Kind.v2 Kind.v3 beq_kind z100 zero100 z77 zero77
theorem lawSwaps_ctr (t : List Event) (pick : Int) (ht : t.length ≤ maxLen) (h6 : ∀ e ∈ t, e.touch.length = 6) : Ctr Go.Proofs.Try.prog tab 7 [22, 3] [4] [.list (t.map Event.v), .int pick] [.bool true] := by
  refine Ctr.body ok Go.Proofs.Try.func7 rfl rfl 130 rfl [.tmp 4] rfl (by simp [fromVs]) ?_
  simp only [fromVs, fromV, args0, V.toList_list, V.toInt_int, V.toBool_bool, Nat.zero_add, Nat.reduceAdd, ty3, ty22]
  refine SA.seq ?_
  refine SA.region ok (by kernel_rfl) [0, 1] ?_
  intro R r
  simp only [go_sem, strip]
  iterate 1 (refine opsA_cons fun Z q1 => ?_; simp only [go_sem, seval, -List.reduceReplicate]; (repeat' with_reducible refine And.intro ?_ ?_); all_goals first | (refine q1 _ ?_; clear q1 Z) | omega | rfl | decide | assumption | (intro _; omega) | (simp; done) | (simp; omega))
  refine opsA_nil (r _ ?_)
  clear r R
  try simp only [go_sem, Nat.reduceBEq]
  refine thenK.normal (SA.seq ?_)
  refine SA.seq ?_
  refine SA.region ok (by kernel_rfl) [0, 1, 28] ?_
  intro R r
  simp only [go_sem, strip]
  iterate 1 (refine opsA_cons fun Z q1 => ?_; simp only [go_sem, seval, -List.reduceReplicate]; (repeat' with_reducible refine And.intro ?_ ?_); all_goals first | (refine q1 _ ?_; clear q1 Z) | omega | rfl | decide | assumption | (intro _; omega) | (simp; done) | (simp; omega) | (simp [roomFor, maxLen, by39, by3, by68, by70, by23, by100] <;> omega))
  refine opsA_cons fun Z q1 => ?_
  simp only [go_sem, seval, -List.reduceReplicate]
  repeat' with_reducible refine And.intro ?_ ?_
  all_goals try (first | omega | assumption | (intro _; omega))
  first | refine ⟨_, _, rfl, .inl ⟨_, CallQ.ctr ok (refCheck_ctr t ht h6) (by first | rfl | (simp [argsV, toVs, contentV, toV, capsV, capsE, ty22, ty25, ty3, ty4, ty81, ty39, ty40, ty42, ty37, ty2, ty23, ty24, ty46, ty68, ty65, ty70, ty69, ty90, ty77, ty59, ty100, ty75, ty98, ty71, ty93, ty64, ty85, List.length_map, List.take_of_length_le])) rfl, ?_⟩⟩ | refine ⟨_, _, rfl, .inl ⟨_, fun hg => CallQ.ctr ok (refCheck_ctr t ht h6) (by first | rfl | (simp [argsV, toVs, contentV, toV, capsV, capsE, ty22, ty25, ty3, ty4, ty81, ty39, ty40, ty42, ty37, ty2, ty23, ty24, ty46, ty68, ty65, ty70, ty69, ty90, ty77, ty59, ty100, ty75, ty98, ty71, ty93, ty64, ty85, List.length_map, List.take_of_length_le])) rfl, ?_⟩⟩
  simp only [go_sem, seval, -List.reduceReplicate]
  repeat' with_reducible refine And.intro ?_ ?_
  all_goals first | (refine q1 _ ?_; clear q1 Z) | omega | rfl | decide | assumption | (intro _; omega) | (simp; done) | (simp; omega) | (simp [roomFor, maxLen, by39, by3, by68, by70, by23, by100] <;> omega)
  iterate 6 (refine opsA_cons fun Z q1 => ?_; simp only [go_sem, seval, -List.reduceReplicate]; (repeat' with_reducible refine And.intro ?_ ?_); all_goals first | (refine q1 _ ?_; clear q1 Z) | omega | rfl | decide | assumption | (intro _; omega) | (simp; done) | (simp; omega) | (simp [roomFor, maxLen, by39, by3, by68, by70, by23, by100] <;> omega))
  refine opsA_nil (r _ ?_)
  clear r R
  try simp only [go_sem, Nat.reduceBEq]
  refine thenK.normal ?_
  refine SA.cond rfl ?_ ?_
  · intro hb1
    skip
    refine SA.seq ?_
    refine SA.region ok (by kernel_rfl) [4] ?_
    intro R r
    simp only [go_sem, strip]
    refine opsA_cons fun Z q1 => ?_
    simp only [go_sem, seval, -List.reduceReplicate]
    repeat' with_reducible refine And.intro ?_ ?_
    all_goals try (first | omega | assumption | (intro _; omega))
    first | refine ⟨_, _, rfl, .inl ⟨_, CallQ.ctr ok (small_ctr) (by first | rfl | (simp [argsV, toVs, contentV, toV, capsV, capsE, ty22, ty25, ty3, ty4, ty81, ty39, ty40, ty42, ty37, ty2, ty23, ty24, ty46, ty68, ty65, ty70, ty69, ty90, ty77, ty59, ty100, ty75, ty98, ty71, ty93, ty64, ty85, List.length_map, List.take_of_length_le])) rfl, ?_⟩⟩ | refine ⟨_, _, rfl, .inl ⟨_, fun hg => CallQ.ctr ok (small_ctr) (by first | rfl | (simp [argsV, toVs, contentV, toV, capsV, capsE, ty22, ty25, ty3, ty4, ty81, ty39, ty40, ty42, ty37, ty2, ty23, ty24, ty46, ty68, ty65, ty70, ty69, ty90, ty77, ty59, ty100, ty75, ty98, ty71, ty93, ty64, ty85, List.length_map, List.take_of_length_le])) rfl, ?_⟩⟩
    simp only [go_sem, seval, -List.reduceReplicate]
    repeat' with_reducible refine And.intro ?_ ?_
    all_goals first | (refine q1 _ ?_; clear q1 Z) | omega | rfl | decide | assumption | (intro _; omega) | (simp; done) | (simp; omega) | (simp [roomFor, maxLen, by39, by3, by68, by70, by23, by100] <;> omega)
    iterate 1 (refine opsA_cons fun Z q1 => ?_; simp only [go_sem, seval, -List.reduceReplicate]; (repeat' with_reducible refine And.intro ?_ ?_); all_goals first | (refine q1 _ ?_; clear q1 Z) | omega | rfl | decide | assumption | (intro _; omega) | (simp; done) | (simp; omega) | (simp [roomFor, maxLen, by39, by3, by68, by70, by23, by100] <;> omega))
    refine opsA_nil (r _ ?_)
    clear r R
    try simp only [go_sem, Nat.reduceBEq]
    refine thenK.normal (SA.ret ?_)
    refine thenK.ret ?_
    refine ctrK.ret ?_
    simp only [resA, evalO, resV, backK, outE, toV, ty4, ty3, List.lookup_cons, List.lookup_nil, beq_self_eq_true, forall_const, true_and, and_true]
    simp [flatTy, ty4]
  · intro hb1
    have hc : check t = 0 ∧ 2 ≤ t.length := by
      by_cases hc : check t = 0
      · simp [hc] at hb1; exact ⟨hc, by omega⟩
      · simp [hc] at hb1
    obtain ⟨hc, h2⟩ := hc
    have hr := check_right hc
    have h256 := check_len hc
    refine SA.skip ?_
    refine thenK.normal (SA.seq ?_)
    obtain ⟨w1, w2, w3, hj⟩ := idx_facts (pick := pick) h2 h256
    refine SA.region ok (by kernel_rfl) [0, 5] ?_
    intro R r
    simp only [go_sem, strip]
    iterate 9 (refine opsA_cons fun Z q1 => ?_; simp only [go_sem, seval, -List.reduceReplicate, w1, w2, w3]; (repeat' with_reducible refine And.intro ?_ ?_); all_goals first | (refine q1 _ ?_; clear q1 Z) | omega | rfl | decide | assumption | (intro _; omega) | (simp; done) | (simp; omega) | (simp [roomFor, maxLen, by39, by3, by68, by70, by23, by100] <;> omega))
    refine opsA_nil (r _ ?_)
    clear r R
    try simp only [go_sem, Nat.reduceBEq]
    refine thenK.normal (SA.seq ?_)
    refine SA.seq ?_
    obtain ⟨j, hje⟩ : ∃ j, j = idx pick t.length := ⟨_, rfl⟩
    rw [← hje] at hj ⊢
    clear hje w3
    have hj0 : j < t.length := by omega
    have hw : IntKind.i64.wrap ((j : Int) + 1) = ((j + 1 : Nat) : Int) := wrap_succ hj0 ht
    have h61 := h6 _ (getD_mem t hj0)
    have h62 := h6 _ (getD_mem t hj)
    refine SA.regionAny mixed 10 (by kernel_rfl) #[false, false, false, false, false, false, false, false, false, false] (by kernel_rfl) [] [0, 5, 47] ?_
    intro R r
    refine AnyA.take ok 0 ⟨some 38, (Go.Op.move (Go.Operand.tmp 0)), none⟩ (by kernel_rfl) (by kernel_rfl) (by kernel_rfl) (by kernel_rfl) (by kernel_rfl) #[true, false, false, false, false, false, false, false, false, false] (by kernel_rfl) fun Z q1 => ?_
    simp only [go_sem, seval, -List.reduceReplicate, hw, getD_map Event.v t hj0, getD_map Event.v t hj]
    repeat' with_reducible refine And.intro ?_ ?_
    all_goals first | (refine q1 _ ?_; clear q1 Z) | omega | rfl | decide | assumption | (intro _; omega) | (simp; done) | (simp; omega) | (simp [roomFor, maxLen, by39, by3, by68, by70, by23, by100] <;> omega)
    refine AnyA.take ok 1 ⟨some 39, (Go.Op.move (Go.Operand.tmp 5)), none⟩ (by kernel_rfl) (by kernel_rfl) (by kernel_rfl) (by kernel_rfl) (by kernel_rfl) #[true, true, false, false, false, false, false, false, false, false] (by kernel_rfl) fun Z q1 => ?_
    simp only [go_sem, seval, -List.reduceReplicate, hw, getD_map Event.v t hj0, getD_map Event.v t hj]
    repeat' with_reducible refine And.intro ?_ ?_
    all_goals first | (refine q1 _ ?_; clear q1 Z) | omega | rfl | decide | assumption | (intro _; omega) | (simp; done) | (simp; omega) | (simp [roomFor, maxLen, by39, by3, by68, by70, by23, by100] <;> omega)
    refine AnyA.take ok 2 ⟨some 40, (Go.Op.indexAddr 22 (Go.Operand.tmp 38) (Go.Operand.tmp 39)), none⟩ (by kernel_rfl) (by kernel_rfl) (by kernel_rfl) (by kernel_rfl) (by kernel_rfl) #[true, true, true, false, false, false, false, false, false, false] (by kernel_rfl) fun Z q1 => ?_
    simp only [go_sem, seval, -List.reduceReplicate, hw, getD_map Event.v t hj0, getD_map Event.v t hj]
    repeat' with_reducible refine And.intro ?_ ?_
    all_goals first | (refine q1 _ ?_; clear q1 Z) | omega | rfl | decide | assumption | (intro _; omega) | (simp; done) | (simp; omega) | (simp [roomFor, maxLen, by39, by3, by68, by70, by23, by100] <;> omega)
    refine AnyA.take ok 3 ⟨some 41, (Go.Op.load 42 (Go.Operand.tmp 40)), none⟩ (by kernel_rfl) (by kernel_rfl) (by kernel_rfl) (by kernel_rfl) (by kernel_rfl) #[true, true, true, true, false, false, false, false, false, false] (by kernel_rfl) fun Z q1 => ?_
    simp only [go_sem, seval, -List.reduceReplicate, hw, getD_map Event.v t hj0, getD_map Event.v t hj]
    repeat' with_reducible refine And.intro ?_ ?_
    all_goals first | (refine q1 _ ?_; clear q1 Z) | omega | rfl | decide | assumption | (intro _; omega) | (simp; done) | (simp; omega) | (simp [roomFor, maxLen, by39, by3, by68, by70, by23, by100] <;> omega)
    refine AnyA.take ok 4 ⟨some 42, (Go.Op.move (Go.Operand.tmp 0)), none⟩ (by kernel_rfl) (by kernel_rfl) (by kernel_rfl) (by kernel_rfl) (by kernel_rfl) #[true, true, true, true, true, false, false, false, false, false] (by kernel_rfl) fun Z q1 => ?_
    simp only [go_sem, seval, -List.reduceReplicate, hw, getD_map Event.v t hj0, getD_map Event.v t hj]
    repeat' with_reducible refine And.intro ?_ ?_
    all_goals first | (refine q1 _ ?_; clear q1 Z) | omega | rfl | decide | assumption | (intro _; omega) | (simp; done) | (simp; omega) | (simp [roomFor, maxLen, by39, by3, by68, by70, by23, by100] <;> omega)
    refine AnyA.take ok 5 ⟨some 43, (Go.Op.move (Go.Operand.tmp 5)), none⟩ (by kernel_rfl) (by kernel_rfl) (by kernel_rfl) (by kernel_rfl) (by kernel_rfl) #[true, true, true, true, true, true, false, false, false, false] (by kernel_rfl) fun Z q1 => ?_
    simp only [go_sem, seval, -List.reduceReplicate, hw, getD_map Event.v t hj0, getD_map Event.v t hj]
    repeat' with_reducible refine And.intro ?_ ?_
    all_goals first | (refine q1 _ ?_; clear q1 Z) | omega | rfl | decide | assumption | (intro _; omega) | (simp; done) | (simp; omega) | (simp [roomFor, maxLen, by39, by3, by68, by70, by23, by100] <;> omega)
    refine AnyA.take ok 6 ⟨some 44, (Go.Op.binOp Go.BinOp.add 3 (Go.Operand.tmp 43) (Go.Operand.const (Go.Value.int Go.IntKind.i64 1)) 3), none⟩ (by kernel_rfl) (by kernel_rfl) (by kernel_rfl) (by kernel_rfl) (by kernel_rfl) #[true, true, true, true, true, true, true, false, false, false] (by kernel_rfl) fun Z q1 => ?_
    simp only [go_sem, seval, -List.reduceReplicate, hw, getD_map Event.v t hj0, getD_map Event.v t hj]
    repeat' with_reducible refine And.intro ?_ ?_
    all_goals first | (refine q1 _ ?_; clear q1 Z) | omega | rfl | decide | assumption | (intro _; omega) | (simp; done) | (simp; omega) | (simp [roomFor, maxLen, by39, by3, by68, by70, by23, by100] <;> omega)
    refine AnyA.take ok 7 ⟨some 45, (Go.Op.indexAddr 22 (Go.Operand.tmp 42) (Go.Operand.tmp 44)), none⟩ (by kernel_rfl) (by kernel_rfl) (by kernel_rfl) (by kernel_rfl) (by kernel_rfl) #[true, true, true, true, true, true, true, true, false, false] (by kernel_rfl) fun Z q1 => ?_
    simp only [go_sem, seval, -List.reduceReplicate, hw, getD_map Event.v t hj0, getD_map Event.v t hj]
    repeat' with_reducible refine And.intro ?_ ?_
    all_goals first | (refine q1 _ ?_; clear q1 Z) | omega | rfl | decide | assumption | (intro _; omega) | (simp; done) | (simp; omega) | (simp [roomFor, maxLen, by39, by3, by68, by70, by23, by100] <;> omega)
    refine AnyA.take ok 8 ⟨some 46, (Go.Op.load 42 (Go.Operand.tmp 45)), none⟩ (by kernel_rfl) (by kernel_rfl) (by kernel_rfl) (by kernel_rfl) (by kernel_rfl) #[true, true, true, true, true, true, true, true, true, false] (by kernel_rfl) fun Z q1 => ?_
    simp only [go_sem, seval, -List.reduceReplicate, hw, getD_map Event.v t hj0, getD_map Event.v t hj]
    repeat' with_reducible refine And.intro ?_ ?_
    all_goals first | (refine q1 _ ?_; clear q1 Z) | omega | rfl | decide | assumption | (intro _; omega) | (simp; done) | (simp; omega) | (simp [roomFor, maxLen, by39, by3, by68, by70, by23, by100] <;> omega)
    refine AnyA.all (rs := [9]) ok (by kernel_rfl) (by kernel_rfl) rfl ?_
    refine Branches.keep (i := 9) ⟨some 47, (Go.Op.call (Go.Call.mk (Go.Callee.value (Go.Operand.func 23)) #[(Go.Operand.tmp 41), (Go.Operand.tmp 46)] #[42, 42])), none⟩ (by kernel_rfl) rfl #[true, true, true, true, true, true, true, true, true, true] (by kernel_rfl) (fun Z q1 => ?_) ?_
    rotate_left
    exact Branches.nil
    simp only [go_sem, seval, -List.reduceReplicate, hw, getD_map Event.v t hj0, getD_map Event.v t hj]
    repeat' with_reducible refine And.intro ?_ ?_
    all_goals try (first | omega | assumption | (intro _; omega))
    first | refine ⟨_, _, rfl, .inl ⟨_, CallQ.ctr ok (dependent_ctr _ _ h61 h62) (by first | rfl | (simp [argsV, toVs, contentV, toV, capsV, capsE, ty22, ty25, ty3, ty4, ty81, ty39, ty40, ty42, ty37, ty2, ty23, ty24, ty46, ty68, ty65, ty70, ty69, ty90, ty77, ty59, ty100, ty75, ty98, ty71, ty93, ty64, ty85, List.length_map, List.take_of_length_le])) rfl, ?_⟩⟩ | refine ⟨_, _, rfl, .inl ⟨_, fun hg => CallQ.ctr ok (dependent_ctr _ _ h61 h62) (by first | rfl | (simp [argsV, toVs, contentV, toV, capsV, capsE, ty22, ty25, ty3, ty4, ty81, ty39, ty40, ty42, ty37, ty2, ty23, ty24, ty46, ty68, ty65, ty70, ty69, ty90, ty77, ty59, ty100, ty75, ty98, ty71, ty93, ty64, ty85, List.length_map, List.take_of_length_le])) rfl, ?_⟩⟩
    simp only [go_sem, seval, -List.reduceReplicate, hw, getD_map Event.v t hj0, getD_map Event.v t hj]
    repeat' with_reducible refine And.intro ?_ ?_
    all_goals first | (refine q1 _ ?_; clear q1 Z) | omega | rfl | decide | assumption | (intro _; omega) | (simp; done) | (simp; omega) | (simp [roomFor, maxLen, by39, by3, by68, by70, by23, by100] <;> omega)
    refine AnyA.done (by kernel_rfl) (r _ ?_)
    clear r R
    try simp only [go_sem, Nat.reduceBEq]
    refine thenK.normal ?_
    refine SA.cond rfl ?_ ?_
    · intro hb2
      skip
      refine SA.seq ?_
      refine SA.region ok (by kernel_rfl) [4] ?_
      intro R r
      simp only [go_sem, strip]
      refine opsA_cons fun Z q1 => ?_
      simp only [go_sem, seval, -List.reduceReplicate]
      repeat' with_reducible refine And.intro ?_ ?_
      all_goals try (first | omega | assumption | (intro _; omega))
      first | refine ⟨_, _, rfl, .inl ⟨_, CallQ.ctr ok (small_ctr) (by first | rfl | (simp [argsV, toVs, contentV, toV, capsV, capsE, ty22, ty25, ty3, ty4, ty81, ty39, ty40, ty42, ty37, ty2, ty23, ty24, ty46, ty68, ty65, ty70, ty69, ty90, ty77, ty59, ty100, ty75, ty98, ty71, ty93, ty64, ty85, List.length_map, List.take_of_length_le])) rfl, ?_⟩⟩ | refine ⟨_, _, rfl, .inl ⟨_, fun hg => CallQ.ctr ok (small_ctr) (by first | rfl | (simp [argsV, toVs, contentV, toV, capsV, capsE, ty22, ty25, ty3, ty4, ty81, ty39, ty40, ty42, ty37, ty2, ty23, ty24, ty46, ty68, ty65, ty70, ty69, ty90, ty77, ty59, ty100, ty75, ty98, ty71, ty93, ty64, ty85, List.length_map, List.take_of_length_le])) rfl, ?_⟩⟩
      simp only [go_sem, seval, -List.reduceReplicate]
      repeat' with_reducible refine And.intro ?_ ?_
      all_goals first | (refine q1 _ ?_; clear q1 Z) | omega | rfl | decide | assumption | (intro _; omega) | (simp; done) | (simp; omega) | (simp [roomFor, maxLen, by39, by3, by68, by70, by23, by100] <;> omega)
      iterate 1 (refine opsA_cons fun Z q1 => ?_; simp only [go_sem, seval, -List.reduceReplicate]; (repeat' with_reducible refine And.intro ?_ ?_); all_goals first | (refine q1 _ ?_; clear q1 Z) | omega | rfl | decide | assumption | (intro _; omega) | (simp; done) | (simp; omega) | (simp [roomFor, maxLen, by39, by3, by68, by70, by23, by100] <;> omega))
      refine opsA_nil (r _ ?_)
      clear r R
      try simp only [go_sem, Nat.reduceBEq]
      refine thenK.normal (SA.ret ?_)
      refine thenK.ret ?_
      refine ctrK.ret ?_
      simp only [resA, evalO, resV, backK, outE, toV, ty4, ty3, List.lookup_cons, List.lookup_nil, beq_self_eq_true, forall_const, true_and, and_true]
      simp [flatTy, ty4]
    · intro hb2
      skip
      refine SA.skip ?_
      refine thenK.normal (SA.seq ?_)
      have hg := apart_go (List.all_eq_true.1 hr _ (getD_mem t hj0)) (List.all_eq_true.1 hr _ (getD_mem t hj)) h61 h62 (by simpa using hb2)
      refine SA.region ok (by kernel_rfl) [0, 5, 6] ?_
      intro R r
      simp only [go_sem, strip]
      iterate 1 (refine opsA_cons fun Z q1 => ?_; simp only [go_sem, seval, -List.reduceReplicate]; (repeat' with_reducible refine And.intro ?_ ?_); all_goals first | (refine q1 _ ?_; clear q1 Z) | omega | rfl | decide | assumption | (intro _; omega) | (simp; done) | (simp; omega))
      refine opsA_nil (r _ ?_)
      clear r R
      try simp only [go_sem, Nat.reduceBEq]
      refine thenK.normal (SA.seq ?_)
      refine SA.region ok (by kernel_rfl) [0, 5, 6] ?_
      intro R r
      simp only [go_sem, strip]
      iterate 2 (refine opsA_cons fun Z q1 => ?_; simp only [go_sem, seval, -List.reduceReplicate]; (repeat' with_reducible refine And.intro ?_ ?_); all_goals first | (refine q1 _ ?_; clear q1 Z) | omega | rfl | decide | assumption | (intro _; omega) | (simp; done) | (simp; omega) | (simp [roomFor, maxLen, by39, by3, by68, by70, by23, by100] <;> omega))
      refine opsA_cons fun Z q1 => ?_
      simp only [go_sem, seval, -List.reduceReplicate]
      repeat' with_reducible refine And.intro ?_ ?_
      all_goals first | (refine q1 _ ?_; clear q1 Z) | omega | rfl | (simp; done) | exact ⟨ht, by rw [by42]; omega⟩
      iterate 1 (refine opsA_cons fun Z q1 => ?_; simp only [go_sem, seval, -List.reduceReplicate]; (repeat' with_reducible refine And.intro ?_ ?_); all_goals first | (refine q1 _ ?_; clear q1 Z) | omega | rfl | decide | assumption | (intro _; omega) | (simp; done) | (simp; omega) | (simp [roomFor, maxLen, by39, by3, by68, by70, by23, by100] <;> omega))
      refine opsA_nil (r _ ?_)
      clear r R
      try simp only [go_sem, Nat.reduceBEq]
      refine thenK.normal (SA.seq ?_)
      refine SA.region ok (by kernel_rfl) [0, 5, 6] ?_
      intro R r
      simp only [go_sem, strip]
      iterate 9 (refine opsA_cons fun Z q1 => ?_; simp only [go_sem, seval, -List.reduceReplicate, hw, getD_map Event.v t hj]; (repeat' with_reducible refine And.intro ?_ ?_); all_goals first | (refine q1 _ ?_; clear q1 Z) | omega | rfl | decide | assumption | (intro _; omega) | (simp; done) | (simp; omega))
      refine opsA_nil (r _ ?_)
      clear r R
      try simp only [go_sem, Nat.reduceBEq]
      refine thenK.normal (SA.seq ?_)
      refine SA.region ok (by kernel_rfl) [0, 6] ?_
      intro R r
      simp only [go_sem, strip]
      iterate 9 (refine opsA_cons fun Z q1 => ?_; simp only [go_sem, seval, -List.reduceReplicate, hw, getD_map Event.v t hj0]; (repeat' with_reducible refine And.intro ?_ ?_); all_goals first | (refine q1 _ ?_; clear q1 Z) | omega | rfl | decide | assumption | (intro _; omega) | (simp; done) | (simp; omega))
      refine opsA_nil (r _ ?_)
      clear r R
      try simp only [go_sem, Nat.reduceBEq]
      refine thenK.normal (SA.seq ?_)
      have hset : ((List.map Event.v t).set j (t.getD (j + 1) default).v).set (j + 1) (t.getD j default).v = (swapped t j).map Event.v := by
        unfold swapped
        rw [List.map_set, List.map_set]
      rw [hset]
      refine SA.weaken (St.le.frzRow ok.sized 0 rfl) ?_
      simp only [St.frz, Tm.frz, E.frz, E.frzL, Obj.frz, List.map_cons, List.map_nil, List.set_cons_zero, List.set_cons_succ, Nat.reduceBEq, Nat.beq_refl, if_true, if_false, Nat.beq_eq_true_eq, reduceCtorEq, Bool.false_eq_true, V.get, Nat.reduceEqDiff]
      rw [List.drop_zero, take_all (show t.length = ((swapped t j).map Event.v).length by rw [List.length_map, swapped_len])]
      have hul : (swapped t j).length ≤ maxLen := by rw [swapped_len]; exact ht
      have hu6 := swapped_6 hj h6
      have huc := swapped_check hj hc
      have hur := swapped_rings hj hg hc
      have hrb := ringsD_bound t
      have hel := edgesD_len t
      have hue : (edgesD (swapped t j)).length = (edgesD t).length := by
        unfold edgesD
        rw [if_pos hc, if_pos huc]
        exact edges_swapped_len hj hg
      refine SA.region ok (by kernel_rfl) [0, 6, 7, 8] ?_
      intro R r
      simp only [go_sem, strip]
      iterate 1 (refine opsA_cons fun Z q1 => ?_; simp only [go_sem, seval, -List.reduceReplicate]; (repeat' with_reducible refine And.intro ?_ ?_); all_goals first | (refine q1 _ ?_; clear q1 Z) | omega | rfl | decide | assumption | (intro _; omega) | (simp; done) | (simp; omega) | (simp [roomFor, maxLen, by39, by3, by68, by70, by23, by100] <;> omega))
      refine opsA_cons fun Z q1 => ?_
      simp only [go_sem, seval, -List.reduceReplicate]
      repeat' with_reducible refine And.intro ?_ ?_
      all_goals try (first | omega | assumption | (intro _; omega))
      first | refine ⟨_, _, rfl, .inr (CallE.ctrZ (ringsP t ht h6) (by first | rfl | (simp [argsV, toVs, contentV, toV, capsV, capsE, ty22, ty25, ty3, ty4, ty81, ty39, ty40, ty42, ty37, ty2, ty23, ty24, ty46, ty68, ty65, ty70, ty69, ty90, ty77, ty59, ty100, ty75, ty98, ty71, ty93, ty64, ty85, List.length_map, List.take_of_length_le])) ?_)⟩ | refine ⟨_, _, rfl, .inr ⟨fun _ => CallE.ctrZ (ringsP t ht h6) (by first | rfl | (simp [argsV, toVs, contentV, toV, capsV, capsE, ty22, ty25, ty3, ty4, ty81, ty39, ty40, ty42, ty37, ty2, ty23, ty24, ty46, ty68, ty65, ty70, ty69, ty90, ty77, ty59, ty100, ty75, ty98, ty71, ty93, ty64, ty85, List.length_map, List.take_of_length_le])) ?_, ?_⟩⟩
      simp only [go_sem, seval, -List.reduceReplicate]
      repeat' with_reducible refine And.intro ?_ ?_
      all_goals first | (refine q1 _ ?_; clear q1 Z) | omega | rfl | decide | assumption | (intro _; omega) | (simp; done) | (simp; omega) | (simp [roomFor, maxLen, by39, by3, by68, by70, by23, by100] <;> omega)
      iterate 5 (refine opsA_cons fun Z q1 => ?_; simp only [go_sem, seval, -List.reduceReplicate]; (repeat' with_reducible refine And.intro ?_ ?_); all_goals first | (refine q1 _ ?_; clear q1 Z) | omega | rfl | decide | assumption | (intro _; omega) | (simp; done) | (simp; omega) | (simp [roomFor, maxLen, by39, by3, by68, by70, by23, by100] <;> omega))
      refine opsA_nil (r _ ?_)
      clear r R
      try simp only [go_sem, Nat.reduceBEq]
      refine thenK.normal (SA.seq ?_)
      refine SA.region ok (by kernel_rfl) [0, 6, 7, 8, 9, 10] ?_
      intro R r
      simp only [go_sem, strip]
      iterate 1 (refine opsA_cons fun Z q1 => ?_; simp only [go_sem, seval, -List.reduceReplicate, hur, huc]; (repeat' with_reducible refine And.intro ?_ ?_); all_goals first | (refine q1 _ ?_; clear q1 Z) | omega | rfl | decide | assumption | (intro _; omega) | (simp; done) | (simp; omega) | (simp [roomFor, maxLen, by39, by3, by68, by70, by23, by100] <;> omega))
      refine opsA_cons fun Z q1 => ?_
      simp only [go_sem, seval, -List.reduceReplicate, hur, huc]
      repeat' with_reducible refine And.intro ?_ ?_
      all_goals try (first | omega | assumption | (intro _; omega))
      first | refine ⟨_, _, rfl, .inr (CallE.ctrZ (ringsP (swapped t j) hul hu6) (by first | rfl | (simp [argsV, toVs, contentV, toV, capsV, capsE, ty22, ty25, ty3, ty4, ty81, ty39, ty40, ty42, ty37, ty2, ty23, ty24, ty46, ty68, ty65, ty70, ty69, ty90, ty77, ty59, ty100, ty75, ty98, ty71, ty93, ty64, ty85, List.length_map, List.take_of_length_le])) ?_)⟩ | refine ⟨_, _, rfl, .inr ⟨fun _ => CallE.ctrZ (ringsP (swapped t j) hul hu6) (by first | rfl | (simp [argsV, toVs, contentV, toV, capsV, capsE, ty22, ty25, ty3, ty4, ty81, ty39, ty40, ty42, ty37, ty2, ty23, ty24, ty46, ty68, ty65, ty70, ty69, ty90, ty77, ty59, ty100, ty75, ty98, ty71, ty93, ty64, ty85, List.length_map, List.take_of_length_le])) ?_, ?_⟩⟩
      simp only [go_sem, seval, -List.reduceReplicate, hur, huc]
      repeat' with_reducible refine And.intro ?_ ?_
      all_goals first | (refine q1 _ ?_; clear q1 Z) | omega | rfl | decide | assumption | (intro _; omega) | (simp; done) | (simp; omega) | (simp [roomFor, maxLen, by39, by3, by68, by70, by23, by100] <;> omega)
      iterate 5 (refine opsA_cons fun Z q1 => ?_; simp only [go_sem, seval, -List.reduceReplicate, hur, huc]; (repeat' with_reducible refine And.intro ?_ ?_); all_goals first | (refine q1 _ ?_; clear q1 Z) | omega | rfl | decide | assumption | (intro _; omega) | (simp; done) | (simp; omega) | (simp [roomFor, maxLen, by39, by3, by68, by70, by23, by100] <;> omega))
      refine opsA_nil (r _ ?_)
      clear r R
      try simp only [go_sem, Nat.reduceBEq]
      refine thenK.normal (SA.seq ?_)
      refine SA.region ok (by kernel_rfl) [0, 6, 7, 8, 9, 10, 11] ?_
      intro R r
      simp only [go_sem, strip]
      iterate 1 (refine opsA_cons fun Z q1 => ?_; simp only [go_sem, seval, -List.reduceReplicate]; (repeat' with_reducible refine And.intro ?_ ?_); all_goals first | (refine q1 _ ?_; clear q1 Z) | omega | rfl | decide | assumption | (intro _; omega) | (simp; done) | (simp; omega) | (simp [roomFor, maxLen, by39, by3, by68, by70, by23, by100] <;> omega))
      refine opsA_cons fun Z q1 => ?_
      simp only [go_sem, seval, -List.reduceReplicate]
      repeat' with_reducible refine And.intro ?_ ?_
      all_goals try (first | omega | assumption | (intro _; omega))
      first | refine ⟨_, _, rfl, .inr (CallE.ctrZ (edgesP t ht h6) (by first | rfl | (simp [argsV, toVs, contentV, toV, capsV, capsE, ty22, ty25, ty3, ty4, ty81, ty39, ty40, ty42, ty37, ty2, ty23, ty24, ty46, ty68, ty65, ty70, ty69, ty90, ty77, ty59, ty100, ty75, ty98, ty71, ty93, ty64, ty85, List.length_map, List.take_of_length_le])) ?_)⟩ | refine ⟨_, _, rfl, .inr ⟨fun _ => CallE.ctrZ (edgesP t ht h6) (by first | rfl | (simp [argsV, toVs, contentV, toV, capsV, capsE, ty22, ty25, ty3, ty4, ty81, ty39, ty40, ty42, ty37, ty2, ty23, ty24, ty46, ty68, ty65, ty70, ty69, ty90, ty77, ty59, ty100, ty75, ty98, ty71, ty93, ty64, ty85, List.length_map, List.take_of_length_le])) ?_, ?_⟩⟩
      simp only [go_sem, seval, -List.reduceReplicate]
      repeat' with_reducible refine And.intro ?_ ?_
      all_goals first | (refine q1 _ ?_; clear q1 Z) | omega | rfl | decide | assumption | (intro _; omega) | (simp; done) | (simp; omega) | (simp [roomFor, maxLen, by39, by3, by68, by70, by23, by100] <;> omega)
      iterate 5 (refine opsA_cons fun Z q1 => ?_; simp only [go_sem, seval, -List.reduceReplicate]; (repeat' with_reducible refine And.intro ?_ ?_); all_goals first | (refine q1 _ ?_; clear q1 Z) | omega | rfl | decide | assumption | (intro _; omega) | (simp; done) | (simp; omega) | (simp [roomFor, maxLen, by39, by3, by68, by70, by23, by100] <;> omega))
      refine opsA_nil (r _ ?_)
      clear r R
      try simp only [go_sem, Nat.reduceBEq]
      refine thenK.normal (SA.seq ?_)
      refine SA.region ok (by kernel_rfl) [0, 6, 7, 8, 9, 10, 11, 13] ?_
      intro R r
      simp only [go_sem, strip]
      iterate 1 (refine opsA_cons fun Z q1 => ?_; simp only [go_sem, seval, -List.reduceReplicate]; (repeat' with_reducible refine And.intro ?_ ?_); all_goals first | (refine q1 _ ?_; clear q1 Z) | omega | rfl | decide | assumption | (intro _; omega) | (simp; done) | (simp; omega) | (simp [roomFor, maxLen, by39, by3, by68, by70, by23, by100] <;> omega))
      refine opsA_cons fun Z q1 => ?_
      simp only [go_sem, seval, -List.reduceReplicate]
      repeat' with_reducible refine And.intro ?_ ?_
      all_goals try (first | omega | assumption | (intro _; omega))
      first | refine ⟨_, _, rfl, .inr (CallE.ctrZ (edgesP (swapped t j) hul hu6) (by first | rfl | (simp [argsV, toVs, contentV, toV, capsV, capsE, ty22, ty25, ty3, ty4, ty81, ty39, ty40, ty42, ty37, ty2, ty23, ty24, ty46, ty68, ty65, ty70, ty69, ty90, ty77, ty59, ty100, ty75, ty98, ty71, ty93, ty64, ty85, List.length_map, List.take_of_length_le])) ?_)⟩ | refine ⟨_, _, rfl, .inr ⟨fun _ => CallE.ctrZ (edgesP (swapped t j) hul hu6) (by first | rfl | (simp [argsV, toVs, contentV, toV, capsV, capsE, ty22, ty25, ty3, ty4, ty81, ty39, ty40, ty42, ty37, ty2, ty23, ty24, ty46, ty68, ty65, ty70, ty69, ty90, ty77, ty59, ty100, ty75, ty98, ty71, ty93, ty64, ty85, List.length_map, List.take_of_length_le])) ?_, ?_⟩⟩
      simp only [go_sem, seval, -List.reduceReplicate]
      repeat' with_reducible refine And.intro ?_ ?_
      all_goals first | (refine q1 _ ?_; clear q1 Z) | omega | rfl | decide | assumption | (intro _; omega) | (simp; done) | (simp; omega) | (simp [roomFor, maxLen, by39, by3, by68, by70, by23, by100] <;> omega)
      iterate 5 (refine opsA_cons fun Z q1 => ?_; simp only [go_sem, seval, -List.reduceReplicate]; (repeat' with_reducible refine And.intro ?_ ?_); all_goals first | (refine q1 _ ?_; clear q1 Z) | omega | rfl | decide | assumption | (intro _; omega) | (simp; done) | (simp; omega) | (simp [roomFor, maxLen, by39, by3, by68, by70, by23, by100] <;> omega))
      refine opsA_nil (r _ ?_)
      clear r R
      try simp only [go_sem, Nat.reduceBEq]
      refine thenK.normal (SA.seq ?_)
      refine SA.seq ?_
      refine SA.region ok (by kernel_rfl) [0, 6, 7, 106] ?_
      intro R r
      simp only [go_sem, strip]
      iterate 9 (refine opsA_cons fun Z q1 => ?_; simp only [go_sem, seval, -List.reduceReplicate, hc, huc, hue, hur, decide_true, ne_eq, not_true, decide_false, not_false_eq_true]; (repeat' with_reducible refine And.intro ?_ ?_); all_goals first | (refine q1 _ ?_; clear q1 Z) | omega | rfl | decide | assumption | (intro _; omega) | (simp; done) | (simp; omega) | (simp [roomFor, maxLen, by39, by3, by68, by70, by23, by100] <;> omega))
      refine opsA_cons fun Z q1 => ?_
      simp only [go_sem, seval, -List.reduceReplicate, hc, huc, hue, hur, decide_true, ne_eq, not_true, decide_false, not_false_eq_true]
      repeat' with_reducible refine And.intro ?_ ?_
      all_goals try (first | omega | assumption | (intro _; omega))
      first | refine ⟨_, _, rfl, .inl ⟨_, CallQ.ctr ok (sameRows_ctr _ _ hrb hrb (fun r h => le4_max (ringsD_len h)) (fun r h => le4_max (ringsD_len h))) (by first | rfl | (simp [argsV, toVs, contentV, toV, capsV, capsE, ty22, ty25, ty3, ty4, ty81, ty39, ty40, ty42, ty37, ty2, ty23, ty24, ty46, ty68, ty65, ty70, ty69, ty90, ty77, ty59, ty100, ty75, ty98, ty71, ty93, ty64, ty85, List.length_map, List.take_of_length_le])) rfl, ?_⟩⟩ | refine ⟨_, _, rfl, .inl ⟨_, fun hg => CallQ.ctr ok (sameRows_ctr _ _ hrb hrb (fun r h => le4_max (ringsD_len h)) (fun r h => le4_max (ringsD_len h))) (by first | rfl | (simp [argsV, toVs, contentV, toV, capsV, capsE, ty22, ty25, ty3, ty4, ty81, ty39, ty40, ty42, ty37, ty2, ty23, ty24, ty46, ty68, ty65, ty70, ty69, ty90, ty77, ty59, ty100, ty75, ty98, ty71, ty93, ty64, ty85, List.length_map, List.take_of_length_le])) rfl, ?_⟩⟩
      simp only [go_sem, seval, -List.reduceReplicate, hc, huc, hue, hur, decide_true, ne_eq, not_true, decide_false, not_false_eq_true]
      repeat' with_reducible refine And.intro ?_ ?_
      all_goals first | (refine q1 _ ?_; clear q1 Z) | omega | rfl | decide | assumption | (intro _; omega) | (simp; done) | (simp; omega) | (simp [roomFor, maxLen, by39, by3, by68, by70, by23, by100] <;> omega)
      iterate 9 (refine opsA_cons fun Z q1 => ?_; simp only [go_sem, seval, -List.reduceReplicate, hc, huc, hue, hur, decide_true, ne_eq, not_true, decide_false, not_false_eq_true]; (repeat' with_reducible refine And.intro ?_ ?_); all_goals first | (refine q1 _ ?_; clear q1 Z) | omega | rfl | decide | assumption | (intro _; omega) | (simp; done) | (simp; omega) | (simp [roomFor, maxLen, by39, by3, by68, by70, by23, by100] <;> omega))
      refine opsA_nil (r _ ?_)
      clear r R
      try simp only [go_sem, Nat.reduceBEq]
      refine thenK.normal ?_
      refine SA.cond rfl ?_ ?_
      · intro hb3
        skip
        simp at hb3
      · intro hb3
        skip
        refine SA.skip ?_
        refine thenK.normal (SA.seq ?_)
        refine SA.seq ?_
        refine SA.region ok (by kernel_rfl) [0, 6, 107, 108, 109] ?_
        intro R r
        simp only [go_sem, strip]
        iterate 3 (refine opsA_cons fun Z q1 => ?_; simp only [go_sem, seval, -List.reduceReplicate]; (repeat' with_reducible refine And.intro ?_ ?_); all_goals first | (refine q1 _ ?_; clear q1 Z) | omega | rfl | decide | assumption | (intro _; omega) | (simp; done) | (simp; omega) | (simp [roomFor, maxLen, by39, by3, by68, by70, by23, by100] <;> omega))
        refine opsA_nil (r _ ?_)
        clear r R
        try simp only [go_sem, Nat.reduceBEq]
        refine thenK.normal (SA.block ?_)
        refine SA.weaken ((St.le.cut 0 rfl).trans (St.le.of_eq (by first | rfl | simp))) (SA.loop (fun n τ => ∃ (m : Nat), n = (ringsD t).length - m ∧ (m ≤ (ringsD t).length) ∧ τ = { tm := [(0, true, .fs 42 (t.map Event.v) false), (6, true, .fs 42 ((swapped t j).map Event.v) false), (107, true, .fs 23 (ringsV (ringsD t)) false), (108, true, .int .i64 (ringsD t).length), (109, true, .int .i64 m)], ob := [], out := [], nt := 130 }) ((ringsD t).length) ⟨0, rfl, Nat.zero_le _, rfl⟩ ?_)
        rintro n τ ⟨m, hn, hm, rfl⟩
        refine SA.seq ?_
        refine SA.region ok (by kernel_rfl) [0, 6, 107, 108, 109, 110] ?_
        intro R r
        simp only [go_sem, strip]
        iterate 1 (refine opsA_cons fun Z q1 => ?_; simp only [go_sem, seval, -List.reduceReplicate]; (repeat' with_reducible refine And.intro ?_ ?_); all_goals first | (refine q1 _ ?_; clear q1 Z) | omega | rfl | decide | assumption | (intro _; omega) | (simp; done) | (simp; omega))
        refine opsA_nil (r _ ?_)
        clear r R
        try simp only [go_sem, Nat.reduceBEq]
        refine thenK.normal (SA.seq ?_)
        refine SA.cond rfl ?_ ?_
        · intro hb4
          try simp only [decide_eq_true_eq, decide_eq_false_iff_not] at hb4
          refine SA.skip ?_
          refine thenK.normal (SA.seq ?_)
          refine SA.block ?_
          refine SA.seq ?_
          have hmt : m < (ringsD t).length := by omega
          have hmm := getD_mem (ringsD t) hmt
          have hx := le4_max (ringsD_len hmm)
          have hug := swapped_guard hj hg hc ((ringsD t).getD m default)
          refine SA.region ok (by kernel_rfl) [0, 6, 16, 107, 108, 109] ?_
          intro R r
          simp only [go_sem, strip]
          iterate 3 (refine opsA_cons fun Z q1 => ?_; simp only [go_sem, seval, -List.reduceReplicate, ringsV_at hmt]; (repeat' with_reducible refine And.intro ?_ ?_); all_goals first | (refine q1 _ ?_; clear q1 Z) | omega | rfl | decide | assumption | (intro _; omega) | (simp; done) | (simp; omega))
          refine opsA_nil (r _ ?_)
          clear r R
          try simp only [go_sem, Nat.reduceBEq]
          refine thenK.normal (SA.seq ?_)
          refine SA.region ok (by kernel_rfl) [0, 6, 16, 17, 107, 108, 109] ?_
          intro R r
          simp only [go_sem, strip]
          iterate 2 (refine opsA_cons fun Z q1 => ?_; simp only [go_sem, seval, -List.reduceReplicate]; (repeat' with_reducible refine And.intro ?_ ?_); all_goals first | (refine q1 _ ?_; clear q1 Z) | omega | rfl | decide | assumption | (intro _; omega) | (simp; done) | (simp; omega) | (simp [roomFor, maxLen, by39, by3, by68, by70, by23, by100] <;> omega))
          refine opsA_cons fun Z q1 => ?_
          simp only [go_sem, seval, -List.reduceReplicate]
          repeat' with_reducible refine And.intro ?_ ?_
          all_goals try (first | omega | assumption | (intro _; omega))
          first | refine ⟨_, _, rfl, .inr (CallE.ctr ok (guardP t _ ht hx h6) (by first | rfl | (simp [argsV, toVs, contentV, toV, capsV, capsE, ty22, ty25, ty3, ty4, ty81, ty39, ty40, ty42, ty37, ty2, ty23, ty24, ty46, ty68, ty65, ty70, ty69, ty90, ty77, ty59, ty100, ty75, ty98, ty71, ty93, ty64, ty85, List.length_map, List.take_of_length_le])) ?_)⟩ | refine ⟨_, _, rfl, .inr ⟨fun _ => CallE.ctr ok (guardP t _ ht hx h6) (by first | rfl | (simp [argsV, toVs, contentV, toV, capsV, capsE, ty22, ty25, ty3, ty4, ty81, ty39, ty40, ty42, ty37, ty2, ty23, ty24, ty46, ty68, ty65, ty70, ty69, ty90, ty77, ty59, ty100, ty75, ty98, ty71, ty93, ty64, ty85, List.length_map, List.take_of_length_le])) ?_, ?_⟩⟩
          simp only [go_sem, seval, -List.reduceReplicate]
          repeat' with_reducible refine And.intro ?_ ?_
          all_goals first | (refine q1 _ ?_; clear q1 Z) | omega | rfl | decide | assumption | (intro _; omega) | (simp; done) | (simp; omega) | (simp [roomFor, maxLen, by39, by3, by68, by70, by23, by100] <;> omega)
          iterate 5 (refine opsA_cons fun Z q1 => ?_; simp only [go_sem, seval, -List.reduceReplicate]; (repeat' with_reducible refine And.intro ?_ ?_); all_goals first | (refine q1 _ ?_; clear q1 Z) | omega | rfl | decide | assumption | (intro _; omega) | (simp; done) | (simp; omega) | (simp [roomFor, maxLen, by39, by3, by68, by70, by23, by100] <;> omega))
          refine opsA_nil (r _ ?_)
          clear r R
          try simp only [go_sem, Nat.reduceBEq]
          refine thenK.normal (SA.seq ?_)
          refine SA.region ok (by kernel_rfl) [0, 6, 17, 19, 107, 108, 109] ?_
          intro R r
          simp only [go_sem, strip]
          iterate 2 (refine opsA_cons fun Z q1 => ?_; simp only [go_sem, seval, -List.reduceReplicate]; (repeat' with_reducible refine And.intro ?_ ?_); all_goals first | (refine q1 _ ?_; clear q1 Z) | omega | rfl | decide | assumption | (intro _; omega) | (simp; done) | (simp; omega) | (simp [roomFor, maxLen, by39, by3, by68, by70, by23, by100] <;> omega))
          refine opsA_cons fun Z q1 => ?_
          simp only [go_sem, seval, -List.reduceReplicate]
          repeat' with_reducible refine And.intro ?_ ?_
          all_goals try (first | omega | assumption | (intro _; omega))
          first | refine ⟨_, _, rfl, .inr (CallE.ctr ok (guardP (swapped t j) _ hul hx hu6) (by first | rfl | (simp [argsV, toVs, contentV, toV, capsV, capsE, ty22, ty25, ty3, ty4, ty81, ty39, ty40, ty42, ty37, ty2, ty23, ty24, ty46, ty68, ty65, ty70, ty69, ty90, ty77, ty59, ty100, ty75, ty98, ty71, ty93, ty64, ty85, List.length_map, List.take_of_length_le])) ?_)⟩ | refine ⟨_, _, rfl, .inr ⟨fun _ => CallE.ctr ok (guardP (swapped t j) _ hul hx hu6) (by first | rfl | (simp [argsV, toVs, contentV, toV, capsV, capsE, ty22, ty25, ty3, ty4, ty81, ty39, ty40, ty42, ty37, ty2, ty23, ty24, ty46, ty68, ty65, ty70, ty69, ty90, ty77, ty59, ty100, ty75, ty98, ty71, ty93, ty64, ty85, List.length_map, List.take_of_length_le])) ?_, ?_⟩⟩
          simp only [go_sem, seval, -List.reduceReplicate]
          repeat' with_reducible refine And.intro ?_ ?_
          all_goals first | (refine q1 _ ?_; clear q1 Z) | omega | rfl | decide | assumption | (intro _; omega) | (simp; done) | (simp; omega) | (simp [roomFor, maxLen, by39, by3, by68, by70, by23, by100] <;> omega)
          iterate 5 (refine opsA_cons fun Z q1 => ?_; simp only [go_sem, seval, -List.reduceReplicate]; (repeat' with_reducible refine And.intro ?_ ?_); all_goals first | (refine q1 _ ?_; clear q1 Z) | omega | rfl | decide | assumption | (intro _; omega) | (simp; done) | (simp; omega) | (simp [roomFor, maxLen, by39, by3, by68, by70, by23, by100] <;> omega))
          refine opsA_nil (r _ ?_)
          clear r R
          try simp only [go_sem, Nat.reduceBEq]
          refine thenK.normal (SA.seq ?_)
          refine SA.region ok (by kernel_rfl) [0, 6, 107, 108, 109, 127] ?_
          intro R r
          simp only [go_sem, strip]
          iterate 3 (refine opsA_cons fun Z q1 => ?_; simp only [go_sem, seval, -List.reduceReplicate, hug, decide_true, ne_eq, not_true, decide_false, not_false_eq_true]; (repeat' with_reducible refine And.intro ?_ ?_); all_goals first | (refine q1 _ ?_; clear q1 Z) | omega | rfl | decide | assumption | (intro _; omega) | (simp; done) | (simp; omega))
          refine opsA_nil (r _ ?_)
          clear r R
          try simp only [go_sem, Nat.reduceBEq]
          refine thenK.normal ?_
          refine SA.cond rfl ?_ ?_
          · intro hb5
            skip
            simp at hb5
          · intro hb5
            skip
            refine SA.skip ?_
            refine blockK.normal (thenK.normal ?_)
            refine SA.region ok (by kernel_rfl) [0, 6, 107, 108, 109] ?_
            intro R r
            simp only [go_sem, strip]
            iterate 2 (refine opsA_cons fun Z q1 => ?_; simp only [go_sem, seval, -List.reduceReplicate]; (repeat' with_reducible refine And.intro ?_ ?_); all_goals first | (refine q1 _ ?_; clear q1 Z) | omega | rfl | decide | assumption | (intro _; omega) | (simp; done) | (simp; omega))
            refine opsA_nil (r _ ?_)
            clear r R
            try simp only [go_sem, Nat.reduceBEq]
            refine loopK.normal ((ringsD t).length - (m + 1)) _ (by omega) (St.le.of_eq (by rw [wrap_succ hmt hrb])) ⟨m + 1, rfl, hmt, rfl⟩
        · intro hb4
          try simp only [decide_eq_true_eq, decide_eq_false_iff_not] at hb4
          refine SA.exit ?_
          refine thenK.exit ?_
          refine loopK.exit ?_
          refine blockK.hit ?_
          refine thenK.normal (SA.seq ?_)
          refine SA.region ok (by kernel_rfl) [4] ?_
          intro R r
          simp only [go_sem, strip]
          refine opsA_cons fun Z q1 => ?_
          simp only [go_sem, seval, -List.reduceReplicate]
          repeat' with_reducible refine And.intro ?_ ?_
          all_goals try (first | omega | assumption | (intro _; omega))
          first | refine ⟨_, _, rfl, .inl ⟨_, CallQ.ctr ok (small_ctr) (by first | rfl | (simp [argsV, toVs, contentV, toV, capsV, capsE, ty22, ty25, ty3, ty4, ty81, ty39, ty40, ty42, ty37, ty2, ty23, ty24, ty46, ty68, ty65, ty70, ty69, ty90, ty77, ty59, ty100, ty75, ty98, ty71, ty93, ty64, ty85, List.length_map, List.take_of_length_le])) rfl, ?_⟩⟩ | refine ⟨_, _, rfl, .inl ⟨_, fun hg => CallQ.ctr ok (small_ctr) (by first | rfl | (simp [argsV, toVs, contentV, toV, capsV, capsE, ty22, ty25, ty3, ty4, ty81, ty39, ty40, ty42, ty37, ty2, ty23, ty24, ty46, ty68, ty65, ty70, ty69, ty90, ty77, ty59, ty100, ty75, ty98, ty71, ty93, ty64, ty85, List.length_map, List.take_of_length_le])) rfl, ?_⟩⟩
          simp only [go_sem, seval, -List.reduceReplicate]
          repeat' with_reducible refine And.intro ?_ ?_
          all_goals first | (refine q1 _ ?_; clear q1 Z) | omega | rfl | decide | assumption | (intro _; omega) | (simp; done) | (simp; omega) | (simp [roomFor, maxLen, by39, by3, by68, by70, by23, by100] <;> omega)
          iterate 1 (refine opsA_cons fun Z q1 => ?_; simp only [go_sem, seval, -List.reduceReplicate]; (repeat' with_reducible refine And.intro ?_ ?_); all_goals first | (refine q1 _ ?_; clear q1 Z) | omega | rfl | decide | assumption | (intro _; omega) | (simp; done) | (simp; omega) | (simp [roomFor, maxLen, by39, by3, by68, by70, by23, by100] <;> omega))
          refine opsA_nil (r _ ?_)
          clear r R
          try simp only [go_sem, Nat.reduceBEq]
          refine thenK.normal (SA.ret ?_)
          refine ctrK.ret ?_
          simp only [resA, evalO, resV, backK, outE, toV, ty4, ty3, List.lookup_cons, List.lookup_nil, beq_self_eq_true, forall_const, true_and, and_true]
          simp [flatTy, ty4]

end Go.Eng.Try
