/- A part of the proof: walks through the program's functions, and what they compute. -/
import Derived.Test.YtipodgpcbkoopaaE3
import Derived.Test.YtipodgpcbkoopaaM1
import Derived.Test.YtipodgpcbkoopaaE4
import Derived.Test.YtipodgpcbkoopaaGW31
namespace Go.Eng.Try
open Go.RowKit Go.Eng
set_option linter.unusedSimpArgs false
set_option linter.unusedVariables false

theorem refHeld_at (t : List Event) (x : Int) (h0 : 0 ≤ x) (h1 : x < t.length) (ht : t.length ≤ 257) (h6 : ∀ e ∈ t, e.touch.length = 6) (hr : t.all right = true) : Ctr Go.Proofs.Try.prog tab 39 [22, 3] [69] [.list (t.map Event.v), .int x] [boolsV (heldOf t x.toNat)] := by
  have h := refHeld_ctr t x.toNat (by omega) ht h6 hr
  rwa [show ((x.toNat : Nat) : Int) = x by omega] at h
theorem addKind_hit {l : List Kind} {k : Kind} (h : (l.any fun x => decide (x = k)) = true) : addKind l k = l := by unfold addKind; rw [if_pos h]
theorem addKind_miss {l : List Kind} {k : Kind} (h : (l.any fun x => decide (x = k)) = false) : addKind l k = l ++ [k] := by unfold addKind; rw [if_neg (by rw [h]; decide)]

attribute [local go_sem] argsV contentV fromVs Option.getD_some St.keep List.filterMap_cons List.filterMap_nil Option.map_some Option.map_none opG opQ opB newEs outE CallStepB guardA putK putE pureA evalO evalL constE pickA capsE capsV loadA fieldAddrA indexAddrA indexA sliceA evalOptI builtinA binA plainA shiftA eqA nilA arith shifts effA storeA appendA appB freshA St.kill Tm.kill E.kill E.killL Obj.kill elemsOf evalVs buildA okAt toV fromV zeroE V.get V.put V.sub V.setSub args0 CallStep CallStepQ i64min i64max u64min u64max u32min u32max u8min u8max Nat.zero_add List.length_map List.lookup_cons List.lookup_nil List.getElem?_cons_zero List.getElem?_cons_succ List.getElem?_toArray List.getElem?_nil Option.bind_some Option.bind_none List.size_toArray List.length_cons List.length_nil List.nil_append List.append_nil List.cons_append List.getD_cons_zero List.getD_cons_succ List.map_cons List.map_nil List.set_cons_zero List.set_cons_succ true_and and_true forall_const true_implies Bool.true_and Bool.and_true Bool.not_true Bool.not_false Bool.false_and Bool.and_false beq_self_eq_true Bool.true_beq Bool.false_beq beq_true beq_false eq_self false_implies V.toInt_int V.toBool_bool V.toList_list V.toList_agg V.toStr_str V.deref_ref if_true if_false Bool.false_eq_true Option.isSome_none Option.isSome_some Bool.false_or Bool.true_or Bool.or_false Bool.or_true cond_true cond_false implies_true and_self imp_self ty22 ty25 ty3 ty4 ty81 ty39 ty40 ty42 ty37 ty2 ty23 ty24 ty46 ty68 ty65 ty70 ty69 ty90 ty77 ty59 ty100 ty75 ty98 ty71 ty93 ty64 ty85 concat_at List.length_range zero39 z39 z3 z4 z70 z68 z42 z40 z37 z2 zero40 z69 z90 zero70 zero69 zero90 zero68 zero42 Int.toNat_natCast Int.natCast_zero Event.v0 Event.v3 Event.v5 Event.v7 Event.v8 Access.v0 Access.v1 Access.v2 beq_acc Edge.v0 Edge.v1 Edge.v2 Edge.v3 heldOf_len locksTo_len heldsTo_len nowL_len ringsV_len Kind.v0 Kind.v1 Kind.v2 Kind.v3 beq_kind z100 zero100
theorem refEdgesOf_ctr (t : List Event) (ht : t.length ≤ maxLen) (h6 : ∀ e ∈ t, e.touch.length = 6) : Ctr Go.Proofs.Try.prog tab 17 [22] [46, 3] [.list (t.map Event.v)] [.list ((if check t = 0 then edges t else []).map Edge.v), .int (check t)] := by
  refine Ctr.body ok Go.Proofs.Try.func17 rfl rfl 12 rfl [.tmp 2, .tmp 3] rfl (by simp [fromVs]) ?_
  simp only [fromVs, fromV, args0, V.toList_list, V.toInt_int, V.toBool_bool, Nat.zero_add, Nat.reduceAdd, ty22]
  refine SA.seq ?_
  refine SA.region ok (by kernel_rfl) [0] ?_
  intro R r
  simp only [go_sem, strip]
  iterate 2 (refine opsA_cons fun Z q1 => ?_; simp only [go_sem, seval, -List.reduceReplicate]; (repeat' with_reducible refine And.intro ?_ ?_); all_goals first | (refine q1 _ ?_; clear q1 Z) | omega | rfl | decide | assumption | (intro _; omega) | (simp; done) | (simp; omega))
  refine opsA_nil (r _ ?_)
  clear r R
  try simp only [go_sem, Nat.reduceBEq]
  refine thenK.normal (SA.seq ?_)
  refine SA.region ok (by kernel_rfl) [0, 4] ?_
  intro R r
  simp only [go_sem, strip]
  iterate 1 (refine opsA_cons fun Z q1 => ?_; simp only [go_sem, seval, -List.reduceReplicate]; (repeat' with_reducible refine And.intro ?_ ?_); all_goals first | (refine q1 _ ?_; clear q1 Z) | omega | rfl | decide | assumption | (intro _; omega) | (simp; done) | (simp; omega) | (simp [roomFor, maxLen, by39, by3, by68, by70, by23, by100] <;> omega))
  refine opsA_cons fun Z q1 => ?_
  simp only [go_sem, seval, -List.reduceReplicate]
  repeat' with_reducible refine And.intro ?_ ?_
  all_goals try (first | omega | assumption | (intro _; omega))
  first | refine ⟨_, _, rfl, .inl ⟨_, CallQ.ctr ok (refCheck_ctr t ht h6) (by first | rfl | (simp [argsV, toVs, contentV, toV, capsV, capsE, ty22, ty25, ty3, ty4, ty81, ty39, ty40, ty42, ty37, ty2, ty23, ty24, ty46, ty68, ty65, ty70, ty69, ty90, ty77, ty59, ty100, ty75, ty98, ty71, ty93, ty64, ty85, List.length_map, List.take_of_length_le])) rfl, ?_⟩⟩ | refine ⟨_, _, rfl, .inl ⟨_, fun hg => CallQ.ctr ok (refCheck_ctr t ht h6) (by first | rfl | (simp [argsV, toVs, contentV, toV, capsV, capsE, ty22, ty25, ty3, ty4, ty81, ty39, ty40, ty42, ty37, ty2, ty23, ty24, ty46, ty68, ty65, ty70, ty69, ty90, ty77, ty59, ty100, ty75, ty98, ty71, ty93, ty64, ty85, List.length_map, List.take_of_length_le])) rfl, ?_⟩⟩
  simp only [go_sem, seval, -List.reduceReplicate]
  repeat' with_reducible refine And.intro ?_ ?_
  all_goals first | (refine q1 _ ?_; clear q1 Z) | omega | rfl | decide | assumption | (intro _; omega) | (simp; done) | (simp; omega) | (simp [roomFor, maxLen, by39, by3, by68, by70, by23, by100] <;> omega)
  iterate 1 (refine opsA_cons fun Z q1 => ?_; simp only [go_sem, seval, -List.reduceReplicate]; (repeat' with_reducible refine And.intro ?_ ?_); all_goals first | (refine q1 _ ?_; clear q1 Z) | omega | rfl | decide | assumption | (intro _; omega) | (simp; done) | (simp; omega) | (simp [roomFor, maxLen, by39, by3, by68, by70, by23, by100] <;> omega))
  refine opsA_nil (r _ ?_)
  clear r R
  try simp only [go_sem, Nat.reduceBEq]
  refine thenK.normal (SA.seq ?_)
  refine SA.seq ?_
  refine SA.region ok (by kernel_rfl) [0, 4, 8] ?_
  intro R r
  simp only [go_sem, strip]
  iterate 2 (refine opsA_cons fun Z q1 => ?_; simp only [go_sem, seval, -List.reduceReplicate]; (repeat' with_reducible refine And.intro ?_ ?_); all_goals first | (refine q1 _ ?_; clear q1 Z) | omega | rfl | decide | assumption | (intro _; omega) | (simp; done) | (simp; omega))
  refine opsA_nil (r _ ?_)
  clear r R
  try simp only [go_sem, Nat.reduceBEq]
  refine thenK.normal ?_
  refine SA.cond rfl ?_ ?_
  · intro hb1
    simp at hb1
    refine SA.seq ?_
    refine SA.region ok (by kernel_rfl) [2, 3] ?_
    intro R r
    simp only [go_sem, strip]
    iterate 3 (refine opsA_cons fun Z q1 => ?_; simp only [go_sem, seval, -List.reduceReplicate]; (repeat' with_reducible refine And.intro ?_ ?_); all_goals first | (refine q1 _ ?_; clear q1 Z) | omega | rfl | decide | assumption | (intro _; omega) | (simp; done) | (simp; omega))
    refine opsA_nil (r _ ?_)
    clear r R
    try simp only [go_sem, Nat.reduceBEq]
    refine thenK.normal (SA.ret ?_)
    refine thenK.ret ?_
    refine ctrK.ret ?_
    simp only [resA, evalO, resV, backK, outE, toV, ty4, ty3, List.lookup_cons, List.lookup_nil, beq_self_eq_true, forall_const, true_and, and_true]
    simp only [go_sem, seval, -List.reduceReplicate]
    exact ⟨⟨rfl, by simp [hb1]⟩, rfl⟩
  · intro hb1
    simp at hb1
    have h256 := check_len hb1
    have hr := check_right hb1
    refine SA.skip ?_
    refine thenK.normal (SA.seq ?_)
    refine SA.region ok (by kernel_rfl) [2, 3] ?_
    intro R r
    simp only [go_sem, strip]
    iterate 1 (refine opsA_cons fun Z q1 => ?_; simp only [go_sem, seval, -List.reduceReplicate]; (repeat' with_reducible refine And.intro ?_ ?_); all_goals first | (refine q1 _ ?_; clear q1 Z) | omega | rfl | decide | assumption | (intro _; omega) | (simp; done) | (simp; omega) | (simp [roomFor, maxLen, by39, by3, by68, by70, by23, by100] <;> omega))
    refine opsA_cons fun Z q1 => ?_
    simp only [go_sem, seval, -List.reduceReplicate]
    repeat' with_reducible refine And.intro ?_ ?_
    all_goals try (first | omega | assumption | (intro _; omega))
    first | refine ⟨_, _, rfl, .inr (CallE.ctr ok (refEdges_ctr t (by omega) h6 hr) (by first | rfl | (simp [argsV, toVs, contentV, toV, capsV, capsE, ty22, ty25, ty3, ty4, ty81, ty39, ty40, ty42, ty37, ty2, ty23, ty24, ty46, ty68, ty65, ty70, ty69, ty90, ty77, ty59, ty100, ty75, ty98, ty71, ty93, ty64, ty85, List.length_map, List.take_of_length_le])) ?_)⟩ | refine ⟨_, _, rfl, .inr ⟨fun _ => CallE.ctr ok (refEdges_ctr t (by omega) h6 hr) (by first | rfl | (simp [argsV, toVs, contentV, toV, capsV, capsE, ty22, ty25, ty3, ty4, ty81, ty39, ty40, ty42, ty37, ty2, ty23, ty24, ty46, ty68, ty65, ty70, ty69, ty90, ty77, ty59, ty100, ty75, ty98, ty71, ty93, ty64, ty85, List.length_map, List.take_of_length_le])) ?_, ?_⟩⟩
    simp only [go_sem, seval, -List.reduceReplicate]
    repeat' with_reducible refine And.intro ?_ ?_
    all_goals first | (refine q1 _ ?_; clear q1 Z) | omega | rfl | decide | assumption | (intro _; omega) | (simp; done) | (simp; omega) | (simp [roomFor, maxLen, by39, by3, by68, by70, by23, by100] <;> omega)
    iterate 2 (refine opsA_cons fun Z q1 => ?_; simp only [go_sem, seval, -List.reduceReplicate]; (repeat' with_reducible refine And.intro ?_ ?_); all_goals first | (refine q1 _ ?_; clear q1 Z) | omega | rfl | decide | assumption | (intro _; omega) | (simp; done) | (simp; omega) | (simp [roomFor, maxLen, by39, by3, by68, by70, by23, by100] <;> omega))
    refine opsA_nil (r _ ?_)
    clear r R
    try simp only [go_sem, Nat.reduceBEq]
    refine thenK.normal (SA.ret ?_)
    refine ctrK.ret ?_
    simp only [resA, evalO, resV, backK, outE, toV, ty4, ty3, List.lookup_cons, List.lookup_nil, beq_self_eq_true, forall_const, true_and, and_true]
    simp only [go_sem, seval, -List.reduceReplicate]
    exact ⟨⟨rfl, by simp [hb1, take_map_len], by simp⟩, rfl, by rw [hb1]⟩

theorem refHeldOf_ctr (t : List Event) (i : Int) (ht : t.length ≤ maxLen) (h6 : ∀ e ∈ t, e.touch.length = 6) : Ctr Go.Proofs.Try.prog tab 19 [22, 3] [23, 3] [.list (t.map Event.v), .int i] [.list ((heldRes t i).map V.int), .int (heldErr t i)] := by
  refine Ctr.body ok Go.Proofs.Try.func19 rfl rfl 37 rfl [.tmp 4, .tmp 5] rfl (by simp [fromVs]) ?_
  simp only [fromVs, fromV, args0, V.toList_list, V.toInt_int, V.toBool_bool, Nat.zero_add, Nat.reduceAdd, ty3, ty22]
  refine SA.seq ?_
  refine SA.region ok (by kernel_rfl) [0, 1] ?_
  intro R r
  simp only [go_sem, strip]
  iterate 2 (refine opsA_cons fun Z q1 => ?_; simp only [go_sem, seval, -List.reduceReplicate]; (repeat' with_reducible refine And.intro ?_ ?_); all_goals first | (refine q1 _ ?_; clear q1 Z) | omega | rfl | decide | assumption | (intro _; omega) | (simp [roomFor, maxLen, by39, by3, by68, by70, by23, by100] <;> omega))
  refine opsA_nil (r _ ?_)
  clear r R
  try simp only [go_sem, Nat.reduceBEq]
  refine thenK.normal (SA.seq ?_)
  refine SA.region ok (by kernel_rfl) [0, 1, 6] ?_
  intro R r
  simp only [go_sem, strip]
  iterate 1 (refine opsA_cons fun Z q1 => ?_; simp only [go_sem, seval, -List.reduceReplicate]; (repeat' with_reducible refine And.intro ?_ ?_); all_goals first | (refine q1 _ ?_; clear q1 Z) | omega | rfl | decide | assumption | (intro _; omega) | (simp [roomFor, maxLen, by39, by3, by68, by70, by23, by100] <;> omega))
  refine opsA_cons fun Z q1 => ?_
  simp only [go_sem, seval, -List.reduceReplicate]
  repeat' with_reducible refine And.intro ?_ ?_
  all_goals try (first | omega | assumption | (intro _; omega))
  first | refine ⟨_, _, rfl, .inl ⟨_, CallQ.ctr ok (refCheck_ctr t ht h6) (by first | rfl | (simp [argsV, toVs, contentV, toV, capsV, capsE, ty22, ty25, ty3, ty4, ty81, ty39, ty40, ty42, ty37, ty2, ty23, ty24, ty46, ty68, ty65, ty70, ty69, ty90, ty77, ty59, ty100, ty75, ty98, ty71, ty93, ty64, ty85, List.length_map, List.take_of_length_le])) rfl, ?_⟩⟩ | refine ⟨_, _, rfl, .inl ⟨_, fun hg => CallQ.ctr ok (refCheck_ctr t ht h6) (by first | rfl | (simp [argsV, toVs, contentV, toV, capsV, capsE, ty22, ty25, ty3, ty4, ty81, ty39, ty40, ty42, ty37, ty2, ty23, ty24, ty46, ty68, ty65, ty70, ty69, ty90, ty77, ty59, ty100, ty75, ty98, ty71, ty93, ty64, ty85, List.length_map, List.take_of_length_le])) rfl, ?_⟩⟩
  simp only [go_sem, seval, -List.reduceReplicate]
  repeat' with_reducible refine And.intro ?_ ?_
  all_goals first | (refine q1 _ ?_; clear q1 Z) | omega | rfl | decide | assumption | (intro _; omega) | (simp [roomFor, maxLen, by39, by3, by68, by70, by23, by100] <;> omega)
  iterate 1 (refine opsA_cons fun Z q1 => ?_; simp only [go_sem, seval, -List.reduceReplicate]; (repeat' with_reducible refine And.intro ?_ ?_); all_goals first | (refine q1 _ ?_; clear q1 Z) | omega | rfl | decide | assumption | (intro _; omega) | (simp [roomFor, maxLen, by39, by3, by68, by70, by23, by100] <;> omega))
  refine opsA_nil (r _ ?_)
  clear r R
  try simp only [go_sem, Nat.reduceBEq]
  refine thenK.normal (SA.seq ?_)
  refine SA.seq ?_
  refine SA.region ok (by kernel_rfl) [0, 1, 6, 13] ?_
  intro R r
  simp only [go_sem, strip]
  iterate 2 (refine opsA_cons fun Z q1 => ?_; simp only [go_sem, seval, -List.reduceReplicate]; (repeat' with_reducible refine And.intro ?_ ?_); all_goals first | (refine q1 _ ?_; clear q1 Z) | omega | rfl | decide | assumption | (intro _; omega) | (simp [roomFor, maxLen, by39, by3, by68, by70, by23, by100] <;> omega))
  refine opsA_nil (r _ ?_)
  clear r R
  try simp only [go_sem, Nat.reduceBEq]
  refine thenK.normal ?_
  refine SA.cond rfl ?_ ?_
  · intro hb1
    simp at hb1
    refine SA.seq ?_
    refine SA.region ok (by kernel_rfl) [4, 5] ?_
    intro R r
    simp only [go_sem, strip]
    iterate 3 (refine opsA_cons fun Z q1 => ?_; simp only [go_sem, seval, -List.reduceReplicate]; (repeat' with_reducible refine And.intro ?_ ?_); all_goals first | (refine q1 _ ?_; clear q1 Z) | omega | rfl | decide | assumption | (intro _; omega) | (simp [roomFor, maxLen, by39, by3, by68, by70, by23, by100] <;> omega))
    refine opsA_nil (r _ ?_)
    clear r R
    try simp only [go_sem, Nat.reduceBEq]
    refine thenK.normal (SA.ret ?_)
    refine thenK.ret ?_
    refine ctrK.ret ?_
    simp only [resA, evalO, resV, backK, outE, toV, ty4, ty3, List.lookup_cons, List.lookup_nil, beq_self_eq_true, forall_const, true_and, and_true]
    simp only [go_sem, seval, -List.reduceReplicate]
    simp [flatTy, ty3, ty4, ty25, heldRes, heldErr, hb1]
  · intro hb1
    simp at hb1
    have h256 := check_len hb1
    have hr := check_right hb1
    refine SA.skip ?_
    refine thenK.normal (SA.seq ?_)
    refine SA.seq ?_
    refine SA.region ok (by kernel_rfl) [0, 1, 22] ?_
    intro R r
    simp only [go_sem, strip]
    iterate 8 (refine opsA_cons fun Z q1 => ?_; simp only [go_sem, seval, -List.reduceReplicate]; (repeat' with_reducible refine And.intro ?_ ?_); all_goals first | (refine q1 _ ?_; clear q1 Z) | omega | rfl | decide | assumption | (intro _; omega) | (simp [roomFor, maxLen, by39, by3, by68, by70, by23, by100] <;> omega))
    refine opsA_nil (r _ ?_)
    clear r R
    try simp only [go_sem, Nat.reduceBEq]
    refine thenK.normal ?_
    refine SA.cond rfl ?_ ?_
    · intro hb2
      have hout : i < 0 ∨ (t.length : Int) ≤ i := by
        cases h1 : decide (i < 0) with
        | true => exact .inl (of_decide_eq_true h1)
        | false => rw [h1] at hb2; exact .inr (of_decide_eq_true hb2)
      refine SA.seq ?_
      refine SA.region ok (by kernel_rfl) [4, 5] ?_
      intro R r
      simp only [go_sem, strip]
      iterate 2 (refine opsA_cons fun Z q1 => ?_; simp only [go_sem, seval, -List.reduceReplicate]; (repeat' with_reducible refine And.intro ?_ ?_); all_goals first | (refine q1 _ ?_; clear q1 Z) | omega | rfl | decide | assumption | (intro _; omega) | (simp [roomFor, maxLen, by39, by3, by68, by70, by23, by100] <;> omega))
      refine opsA_nil (r _ ?_)
      clear r R
      try simp only [go_sem, Nat.reduceBEq]
      refine thenK.normal (SA.ret ?_)
      refine thenK.ret ?_
      refine ctrK.ret ?_
      simp only [resA, evalO, resV, backK, outE, toV, ty4, ty3, List.lookup_cons, List.lookup_nil, beq_self_eq_true, forall_const, true_and, and_true]
      simp only [go_sem, seval, -List.reduceReplicate]
      simp [flatTy, ty3, ty4, ty25, heldRes, heldErr, hb1, hout]
    · intro hb2
      have hin : ¬ (i < 0 ∨ (t.length : Int) ≤ i) := by
        rintro (h | h)
        · rw [decide_eq_true h] at hb2; cases hb2
        · cases h1 : decide (i < 0) <;> rw [h1] at hb2
          · rw [show (false : Bool) = false from rfl] at hb2; exact absurd h (of_decide_eq_false hb2)
          · cases hb2
      obtain ⟨k, rfl⟩ : ∃ k : Nat, i = (k : Int) := ⟨i.toNat, by omega⟩
      have hkt : k < t.length := by omega
      refine SA.skip ?_
      refine thenK.normal (SA.seq ?_)
      refine SA.region ok (by kernel_rfl) [0, 1, 7] ?_
      intro R r
      simp only [go_sem, strip]
      iterate 1 (refine opsA_cons fun Z q1 => ?_; simp only [go_sem, seval, -List.reduceReplicate]; (repeat' with_reducible refine And.intro ?_ ?_); all_goals first | (refine q1 _ ?_; clear q1 Z) | omega | rfl | decide | assumption | (intro _; omega) | (simp [roomFor, maxLen, by39, by3, by68, by70, by23, by100] <;> omega))
      refine opsA_nil (r _ ?_)
      clear r R
      try simp only [go_sem, Nat.reduceBEq]
      refine thenK.normal (SA.seq ?_)
      refine SA.seq ?_
      refine SA.region ok (by kernel_rfl) [7, 25, 26] ?_
      intro R r
      simp only [go_sem, strip]
      iterate 2 (refine opsA_cons fun Z q1 => ?_; simp only [go_sem, seval, -List.reduceReplicate]; (repeat' with_reducible refine And.intro ?_ ?_); all_goals first | (refine q1 _ ?_; clear q1 Z) | omega | rfl | decide | assumption | (intro _; omega) | (simp [roomFor, maxLen, by39, by3, by68, by70, by23, by100] <;> omega))
      refine opsA_cons fun Z q1 => ?_
      simp only [go_sem, seval, -List.reduceReplicate]
      repeat' with_reducible refine And.intro ?_ ?_
      all_goals try (first | omega | assumption | (intro _; omega))
      first | refine ⟨_, _, rfl, .inl ⟨_, CallQ.ctr ok (refHeld_ctr t k hkt (by omega) h6 hr) (by first | rfl | (simp [argsV, toVs, contentV, toV, capsV, capsE, ty22, ty25, ty3, ty4, ty81, ty39, ty40, ty42, ty37, ty2, ty23, ty24, ty46, ty68, ty65, ty70, ty69, ty90, ty77, ty59, ty100, ty75, ty98, ty71, ty93, ty64, ty85, List.length_map, List.take_of_length_le])) rfl, ?_⟩⟩ | refine ⟨_, _, rfl, .inl ⟨_, fun hg => CallQ.ctr ok (refHeld_ctr t k hkt (by omega) h6 hr) (by first | rfl | (simp [argsV, toVs, contentV, toV, capsV, capsE, ty22, ty25, ty3, ty4, ty81, ty39, ty40, ty42, ty37, ty2, ty23, ty24, ty46, ty68, ty65, ty70, ty69, ty90, ty77, ty59, ty100, ty75, ty98, ty71, ty93, ty64, ty85, List.length_map, List.take_of_length_le])) rfl, ?_⟩⟩
      simp only [go_sem, seval, -List.reduceReplicate]
      repeat' with_reducible refine And.intro ?_ ?_
      all_goals first | (refine q1 _ ?_; clear q1 Z) | omega | rfl | decide | assumption | (intro _; omega) | (simp [roomFor, maxLen, by39, by3, by68, by70, by23, by100] <;> omega)
      iterate 1 (refine opsA_cons fun Z q1 => ?_; simp only [go_sem, seval, -List.reduceReplicate]; (repeat' with_reducible refine And.intro ?_ ?_); all_goals first | (refine q1 _ ?_; clear q1 Z) | omega | rfl | decide | assumption | (intro _; omega) | (simp [roomFor, maxLen, by39, by3, by68, by70, by23, by100] <;> omega))
      refine opsA_nil (r _ ?_)
      clear r R
      try simp only [go_sem, Nat.reduceBEq]
      refine thenK.normal (SA.block ?_)
      refine SA.weaken ((St.le.own (t := 7) 3 rfl).trans ((St.le.keep [7, 25, 26]).trans (St.le.of_eq (by first | rfl | simp)))) (SA.loop (fun n τ => ∃ (q : Nat), n = 4 - q ∧ (q ≤ 4) ∧ τ = { tm := [(7, true, .sl 0 3 0 (numsOf (heldOf t k) q).length false), (25, true, .data 69 (.agg ((heldOf t k).map V.bool))), (26, true, .int .i64 q)], ob := [.row 3 ((numsOf (heldOf t k) q).map V.int)], out := [], nt := 37 }) (4) ⟨0, rfl, by omega, rfl⟩ ?_)
      rintro n τ ⟨q, hn, hq4, rfl⟩
      refine SA.seq ?_
      refine SA.region ok (by kernel_rfl) [7, 25, 26, 27] ?_
      intro R r
      simp only [go_sem, strip]
      iterate 1 (refine opsA_cons fun Z q1 => ?_; simp only [go_sem, seval, -List.reduceReplicate]; (repeat' with_reducible refine And.intro ?_ ?_); all_goals first | (refine q1 _ ?_; clear q1 Z) | omega | rfl | decide | assumption | (intro _; omega) | (simp [roomFor, maxLen, by39, by3, by68, by70, by23, by100] <;> omega))
      refine opsA_nil (r _ ?_)
      clear r R
      try simp only [go_sem, Nat.reduceBEq]
      refine thenK.normal (SA.seq ?_)
      refine SA.cond rfl ?_ ?_
      · intro hb3
        simp only [decide_eq_true_eq, decide_eq_false_iff_not, Int.not_lt, Int.not_le] at hb3
        refine SA.skip ?_
        refine thenK.normal (SA.seq ?_)
        refine SA.block ?_
        refine SA.seq ?_
        have hqk : q < (heldOf t k).length := by rw [heldOf_len]; omega
        refine SA.region ok (by kernel_rfl) [7, 8, 9, 25, 26] ?_
        intro R r
        simp only [go_sem, strip]
        iterate 4 (refine opsA_cons fun Z q1 => ?_; simp only [go_sem, seval, -List.reduceReplicate, getD_map V.bool (heldOf t k) hqk]; (repeat' with_reducible refine And.intro ?_ ?_); all_goals first | (refine q1 _ ?_; clear q1 Z) | omega | rfl | decide | assumption | (intro _; omega) | (simp [roomFor, maxLen, by39, by3, by68, by70, by23, by100] <;> omega))
        refine opsA_nil (r _ ?_)
        clear r R
        try simp only [go_sem, Nat.reduceBEq]
        refine thenK.normal (SA.seq ?_)
        refine SA.region ok (by kernel_rfl) [7, 8, 25, 26, 30] ?_
        intro R r
        simp only [go_sem, strip]
        iterate 1 (refine opsA_cons fun Z q1 => ?_; simp only [go_sem, seval, -List.reduceReplicate]; (repeat' with_reducible refine And.intro ?_ ?_); all_goals first | (refine q1 _ ?_; clear q1 Z) | omega | rfl | decide | assumption | (intro _; omega) | (simp [roomFor, maxLen, by39, by3, by68, by70, by23, by100] <;> omega))
        refine opsA_nil (r _ ?_)
        clear r R
        try simp only [go_sem, Nat.reduceBEq]
        refine thenK.normal ?_
        refine SA.cond rfl ?_ ?_
        · intro hb4
          skip
          refine SA.region ok (by kernel_rfl) [7, 25, 26] ?_
          intro R r
          simp only [go_sem, strip]
          iterate 3 (refine opsA_cons fun Z q1 => ?_; simp only [go_sem, seval, -List.reduceReplicate]; (repeat' with_reducible refine And.intro ?_ ?_); all_goals first | (refine q1 _ ?_; clear q1 Z) | omega | rfl | decide | assumption | (intro _; omega) | (simp [roomFor, maxLen, by39, by3, by68, by70, by23, by100] <;> omega))
          refine opsA_cons fun Z q1 => ?_
          simp only [go_sem, seval, -List.reduceReplicate]
          repeat' with_reducible refine And.intro ?_ ?_
          all_goals first | (refine q1 _ ?_; clear q1 Z) | omega | rfl | decide | assumption | (have h1 := numsOf_len (heldOf t k) q; simp [roomFor, maxLen, by39, by3, by68, by70, by23, by100] <;> omega)
          iterate 1 (refine opsA_cons fun Z q1 => ?_; simp only [go_sem, seval, -List.reduceReplicate]; (repeat' with_reducible refine And.intro ?_ ?_); all_goals first | (refine q1 _ ?_; clear q1 Z) | omega | rfl | decide | assumption | (intro _; omega) | (simp [roomFor, maxLen, by39, by3, by68, by70, by23, by100] <;> omega))
          refine opsA_nil (r _ ?_)
          clear r R
          try simp only [go_sem, Nat.reduceBEq]
          refine blockK.normal (thenK.normal ?_)
          refine SA.region ok (by kernel_rfl) [7, 25, 26] ?_
          intro R r
          simp only [go_sem, strip]
          iterate 2 (refine opsA_cons fun Z q1 => ?_; simp only [go_sem, seval, -List.reduceReplicate]; (repeat' with_reducible refine And.intro ?_ ?_); all_goals first | (refine q1 _ ?_; clear q1 Z) | omega | rfl | decide | assumption | (intro _; omega) | (simp [roomFor, maxLen, by39, by3, by68, by70, by23, by100] <;> omega))
          refine opsA_nil (r _ ?_)
          clear r R
          try simp only [go_sem, Nat.reduceBEq]
          have e0 : numsOf (heldOf t k) (q + 1) = numsOf (heldOf t k) q ++ [(q : Int)] := by rw [numsOf_succ, show (heldOf t k).getD q false = true from hb4]; rfl
          have e2 : (numsOf (heldOf t k) (q + 1)).length = (numsOf (heldOf t k) q).length + 1 := by rw [e0]; simp
          have e3 : List.take (numsOf (heldOf t k) q).length (List.map V.int (numsOf (heldOf t k) q)) ++ List.take 1 (List.drop 0 [V.int (q : Int)]) = (numsOf (heldOf t k) (q + 1)).map V.int := by rw [e0, take_map_len, List.map_append]; rfl
          refine loopK.normal (4 - (q + 1)) _ (by omega) ((St.le.cut 1 rfl).trans (St.le.of_eq (by rw [e3, e2, wrap_succ (show q < 4 by omega) (by decide)]; rfl))) ⟨q + 1, rfl, by omega, rfl⟩
        · intro hb4
          skip
          refine SA.skip ?_
          refine blockK.normal (thenK.normal ?_)
          refine SA.region ok (by kernel_rfl) [7, 25, 26] ?_
          intro R r
          simp only [go_sem, strip]
          iterate 2 (refine opsA_cons fun Z q1 => ?_; simp only [go_sem, seval, -List.reduceReplicate]; (repeat' with_reducible refine And.intro ?_ ?_); all_goals first | (refine q1 _ ?_; clear q1 Z) | omega | rfl | decide | assumption | (intro _; omega) | (simp [roomFor, maxLen, by39, by3, by68, by70, by23, by100] <;> omega))
          refine opsA_nil (r _ ?_)
          clear r R
          try simp only [go_sem, Nat.reduceBEq]
          have e0 : numsOf (heldOf t k) (q + 1) = numsOf (heldOf t k) q := by rw [numsOf_succ, show (heldOf t k).getD q false = false from hb4]; simp
          refine loopK.normal (4 - (q + 1)) _ (by omega) (St.le.of_eq (by rw [e0, wrap_succ (show q < 4 by omega) (by decide)])) ⟨q + 1, rfl, by omega, rfl⟩
      · intro hb3
        simp only [decide_eq_true_eq, decide_eq_false_iff_not, Int.not_lt, Int.not_le] at hb3
        refine SA.exit ?_
        refine thenK.exit ?_
        refine loopK.exit ?_
        refine blockK.hit ?_
        refine thenK.normal (SA.seq ?_)
        refine SA.region ok (by kernel_rfl) [4, 5] ?_
        intro R r
        simp only [go_sem, strip]
        iterate 3 (refine opsA_cons fun Z q1 => ?_; simp only [go_sem, seval, -List.reduceReplicate]; (repeat' with_reducible refine And.intro ?_ ?_); all_goals first | (refine q1 _ ?_; clear q1 Z) | omega | rfl | decide | assumption | (intro _; omega) | (simp [roomFor, maxLen, by39, by3, by68, by70, by23, by100] <;> omega))
        refine opsA_nil (r _ ?_)
        clear r R
        try simp only [go_sem, Nat.reduceBEq]
        refine thenK.normal (SA.ret ?_)
        refine ctrK.ret ?_
        simp only [resA, evalO, resV, backK, outE, toV, ty4, ty3, List.lookup_cons, List.lookup_nil, beq_self_eq_true, forall_const, true_and, and_true]
        simp only [go_sem, seval, -List.reduceReplicate]
        have hq : q = 4 := by omega
        subst hq
        simp [flatTy, ty3, ty4, ty25, heldRes, heldErr, hb1, hkt, take_map_len]

theorem kinds_ctr (t : List Event) (ht : t.length ≤ 257) (h6 : ∀ e ∈ t, e.touch.length = 6) (hr : t.all right = true) : Ctr Go.Proofs.Try.prog tab 35 [22] [75] [.list (t.map Event.v)] [.list ((kinds t).map Kind.v)] := by
  have hal : (edges t).length ≤ 1028 := Nat.le_trans (edgesTo_len t _) (by omega)
  have ham : (edges t).length ≤ maxLen := Nat.le_trans hal (by decide)
  refine Ctr.body ok Go.Proofs.Try.func35 rfl rfl 49 rfl [.tmp 2] rfl (by simp [fromVs]) ?_
  simp only [fromVs, fromV, args0, V.toList_list, V.toInt_int, V.toBool_bool, Nat.zero_add, Nat.reduceAdd, ty22]
  refine SA.seq ?_
  refine SA.region ok (by kernel_rfl) [0] ?_
  intro R r
  simp only [go_sem, strip]
  iterate 1 (refine opsA_cons fun Z q1 => ?_; simp only [go_sem, seval, -List.reduceReplicate]; (repeat' with_reducible refine And.intro ?_ ?_); all_goals first | (refine q1 _ ?_; clear q1 Z) | omega | rfl | decide | assumption | (intro _; omega) | (simp [roomFor, maxLen, by39, by3, by68, by70, by23, by100] <;> omega))
  refine opsA_nil (r _ ?_)
  clear r R
  try simp only [go_sem, Nat.reduceBEq]
  refine thenK.normal (SA.seq ?_)
  refine SA.region ok (by kernel_rfl) [0, 3] ?_
  intro R r
  simp only [go_sem, strip]
  iterate 1 (refine opsA_cons fun Z q1 => ?_; simp only [go_sem, seval, -List.reduceReplicate]; (repeat' with_reducible refine And.intro ?_ ?_); all_goals first | (refine q1 _ ?_; clear q1 Z) | omega | rfl | decide | assumption | (intro _; omega) | (simp [roomFor, maxLen, by39, by3, by68, by70, by23, by100] <;> omega))
  refine opsA_nil (r _ ?_)
  clear r R
  try simp only [go_sem, Nat.reduceBEq]
  refine thenK.normal (SA.seq ?_)
  refine SA.seq ?_
  refine SA.region ok (by kernel_rfl) [0, 3, 11, 12, 13] ?_
  intro R r
  simp only [go_sem, strip]
  iterate 1 (refine opsA_cons fun Z q1 => ?_; simp only [go_sem, seval, -List.reduceReplicate]; (repeat' with_reducible refine And.intro ?_ ?_); all_goals first | (refine q1 _ ?_; clear q1 Z) | omega | rfl | decide | assumption | (intro _; omega) | (simp [roomFor, maxLen, by39, by3, by68, by70, by23, by100] <;> omega))
  refine opsA_cons fun Z q1 => ?_
  simp only [go_sem, seval, -List.reduceReplicate]
  repeat' with_reducible refine And.intro ?_ ?_
  all_goals try (first | omega | assumption | (intro _; omega))
  first | refine ⟨_, _, rfl, .inr (CallE.ctr ok (refEdges_ctr t ht h6 hr) (by first | rfl | (simp [argsV, toVs, contentV, toV, capsV, capsE, ty22, ty25, ty3, ty4, ty81, ty39, ty40, ty42, ty37, ty2, ty23, ty24, ty46, ty68, ty65, ty70, ty69, ty90, ty77, ty59, ty100, ty75, ty98, ty71, ty93, ty64, ty85, List.length_map, List.take_of_length_le])) ?_)⟩ | refine ⟨_, _, rfl, .inr ⟨fun _ => CallE.ctr ok (refEdges_ctr t ht h6 hr) (by first | rfl | (simp [argsV, toVs, contentV, toV, capsV, capsE, ty22, ty25, ty3, ty4, ty81, ty39, ty40, ty42, ty37, ty2, ty23, ty24, ty46, ty68, ty65, ty70, ty69, ty90, ty77, ty59, ty100, ty75, ty98, ty71, ty93, ty64, ty85, List.length_map, List.take_of_length_le])) ?_, ?_⟩⟩
  simp only [go_sem, seval, -List.reduceReplicate]
  repeat' with_reducible refine And.intro ?_ ?_
  all_goals first | (refine q1 _ ?_; clear q1 Z) | omega | rfl | decide | assumption | (intro _; omega) | (simp [roomFor, maxLen, by39, by3, by68, by70, by23, by100] <;> omega)
  iterate 2 (refine opsA_cons fun Z q1 => ?_; simp only [go_sem, seval, -List.reduceReplicate]; (repeat' with_reducible refine And.intro ?_ ?_); all_goals first | (refine q1 _ ?_; clear q1 Z) | omega | rfl | decide | assumption | (intro _; omega) | (simp [roomFor, maxLen, by39, by3, by68, by70, by23, by100] <;> omega))
  refine opsA_nil (r _ ?_)
  clear r R
  try simp only [go_sem, Nat.reduceBEq]
  refine thenK.normal (SA.block ?_)
  refine SA.weaken ((St.le.own (t := 3) 100 rfl).trans ((St.le.keep [0, 3, 11, 12, 13]).trans (St.le.of_eq (by first | rfl | simp)))) (SA.loop (fun n τ => ∃ (i : Nat), n = (edges t).length - i ∧ (i ≤ (edges t).length) ∧ τ = { tm := [(0, true, .fs 42 (t.map Event.v) false), (3, true, .sl 1 100 0 (kindsTo t i).length false), (11, true, .sl 0 68 0 (edges t).length false), (12, true, .int .i64 (edges t).length), (13, true, .int .i64 i)], ob := [.row 68 ((edges t).map Edge.v), .row 100 ((kindsTo t i).map Kind.v)], out := [], nt := 49 }) ((edges t).length) ⟨0, rfl, Nat.zero_le _, rfl⟩ ?_)
  rintro n τ ⟨i, hn, hi, rfl⟩
  refine SA.seq ?_
  refine SA.region ok (by kernel_rfl) [0, 3, 11, 12, 13, 14] ?_
  intro R r
  simp only [go_sem, strip]
  iterate 1 (refine opsA_cons fun Z q1 => ?_; simp only [go_sem, seval, -List.reduceReplicate]; (repeat' with_reducible refine And.intro ?_ ?_); all_goals first | (refine q1 _ ?_; clear q1 Z) | omega | rfl | decide | assumption | (intro _; omega) | (simp [roomFor, maxLen, by39, by3, by68, by70, by23, by100] <;> omega))
  refine opsA_nil (r _ ?_)
  clear r R
  try simp only [go_sem, Nat.reduceBEq]
  refine thenK.normal (SA.seq ?_)
  refine SA.cond rfl ?_ ?_
  · intro hb1
    simp only [decide_eq_true_eq, decide_eq_false_iff_not, Int.not_lt, Int.not_le] at hb1
    refine SA.skip ?_
    refine thenK.normal (SA.seq ?_)
    refine SA.block ?_
    refine SA.seq ?_
    have hlt : i < (edges t).length := by omega
    have he := edges_in (getD_mem (edges t) hlt)
    have hev : (((edges t).getD i default).event.toNat : Int) = ((edges t).getD i default).event := by omega
    have hkl := kindsTo_len t i (by omega)
    have hkm : (kindsTo t i).length ≤ maxLen := by unfold maxLen; omega
    refine SA.region ok (by kernel_rfl) [0, 3, 5, 11, 12, 13] ?_
    intro R r
    simp only [go_sem, strip]
    iterate 4 (refine opsA_cons fun Z q1 => ?_; simp only [go_sem, seval, -List.reduceReplicate, getD_map Edge.v (edges t) hlt]; (repeat' with_reducible refine And.intro ?_ ?_); all_goals first | (refine q1 _ ?_; clear q1 Z) | omega | rfl | decide | assumption | (intro _; omega) | (simp [roomFor, maxLen, by39, by3, by68, by70, by23, by100] <;> omega))
    refine opsA_nil (r _ ?_)
    clear r R
    try simp only [go_sem, Nat.reduceBEq]
    refine thenK.normal (SA.seq ?_)
    refine SA.regionAnyPost mixed 13 (by kernel_rfl) #[false, false, false, false, false, false, false, false, false, false, false, false, false] (by kernel_rfl) [12] [0, 3, 6, 11, 12, 13] ({ tm := [(0, true, .fs 42 (t.map Event.v) false), (3, true, .sl 1 100 0 (kindsTo t i).length false), (6, true, .ptr 3 [] 100), (11, true, .sl 0 68 0 (edges t).length false), (12, true, .int .i64 (edges t).length), (13, true, .int .i64 i)], ob := [.row 68 ((edges t).map Edge.v), .row 100 ((kindsTo t i).map Kind.v), .var 68 (.data 68 ((edges t).getD i default).v), .var 100 (.data 100 (kindOf t ((edges t).getD i default)).v)], out := [], nt := 49 }) ?_ ?_
    · intro R r
      refine AnyA.take ok 0 ⟨some 17, (Go.Op.fieldAddr 68 (Go.Operand.tmp 5) 0), none⟩ (by kernel_rfl) (by kernel_rfl) (by kernel_rfl) (by kernel_rfl) (by kernel_rfl) #[true, false, false, false, false, false, false, false, false, false, false, false, false] (by kernel_rfl) fun Z q1 => ?_
      simp only [go_sem, seval, -List.reduceReplicate]
      repeat' with_reducible refine And.intro ?_ ?_
      all_goals first | (refine q1 _ ?_; clear q1 Z) | omega | rfl | decide | assumption | (intro _; omega) | (simp [roomFor, maxLen, by39, by3, by68, by70, by23, by100] <;> omega)
      refine AnyA.take ok 1 ⟨some 18, (Go.Op.load 3 (Go.Operand.tmp 17)), none⟩ (by kernel_rfl) (by kernel_rfl) (by kernel_rfl) (by kernel_rfl) (by kernel_rfl) #[true, true, false, false, false, false, false, false, false, false, false, false, false] (by kernel_rfl) fun Z q1 => ?_
      simp only [go_sem, seval, -List.reduceReplicate]
      repeat' with_reducible refine And.intro ?_ ?_
      all_goals first | (refine q1 _ ?_; clear q1 Z) | omega | rfl | decide | assumption | (intro _; omega) | (simp [roomFor, maxLen, by39, by3, by68, by70, by23, by100] <;> omega)
      refine AnyA.take ok 2 ⟨some 19, (Go.Op.fieldAddr 68 (Go.Operand.tmp 5) 1), none⟩ (by kernel_rfl) (by kernel_rfl) (by kernel_rfl) (by kernel_rfl) (by kernel_rfl) #[true, true, true, false, false, false, false, false, false, false, false, false, false] (by kernel_rfl) fun Z q1 => ?_
      simp only [go_sem, seval, -List.reduceReplicate]
      repeat' with_reducible refine And.intro ?_ ?_
      all_goals first | (refine q1 _ ?_; clear q1 Z) | omega | rfl | decide | assumption | (intro _; omega) | (simp [roomFor, maxLen, by39, by3, by68, by70, by23, by100] <;> omega)
      refine AnyA.take ok 3 ⟨some 20, (Go.Op.load 3 (Go.Operand.tmp 19)), none⟩ (by kernel_rfl) (by kernel_rfl) (by kernel_rfl) (by kernel_rfl) (by kernel_rfl) #[true, true, true, true, false, false, false, false, false, false, false, false, false] (by kernel_rfl) fun Z q1 => ?_
      simp only [go_sem, seval, -List.reduceReplicate]
      repeat' with_reducible refine And.intro ?_ ?_
      all_goals first | (refine q1 _ ?_; clear q1 Z) | omega | rfl | decide | assumption | (intro _; omega) | (simp [roomFor, maxLen, by39, by3, by68, by70, by23, by100] <;> omega)
      refine AnyA.take ok 4 ⟨some 21, (Go.Op.fieldAddr 68 (Go.Operand.tmp 5) 2), none⟩ (by kernel_rfl) (by kernel_rfl) (by kernel_rfl) (by kernel_rfl) (by kernel_rfl) #[true, true, true, true, true, false, false, false, false, false, false, false, false] (by kernel_rfl) fun Z q1 => ?_
      simp only [go_sem, seval, -List.reduceReplicate]
      repeat' with_reducible refine And.intro ?_ ?_
      all_goals first | (refine q1 _ ?_; clear q1 Z) | omega | rfl | decide | assumption | (intro _; omega) | (simp [roomFor, maxLen, by39, by3, by68, by70, by23, by100] <;> omega)
      refine AnyA.take ok 5 ⟨some 22, (Go.Op.load 3 (Go.Operand.tmp 21)), none⟩ (by kernel_rfl) (by kernel_rfl) (by kernel_rfl) (by kernel_rfl) (by kernel_rfl) #[true, true, true, true, true, true, false, false, false, false, false, false, false] (by kernel_rfl) fun Z q1 => ?_
      simp only [go_sem, seval, -List.reduceReplicate]
      repeat' with_reducible refine And.intro ?_ ?_
      all_goals first | (refine q1 _ ?_; clear q1 Z) | omega | rfl | decide | assumption | (intro _; omega) | (simp [roomFor, maxLen, by39, by3, by68, by70, by23, by100] <;> omega)
      refine AnyA.take ok 6 ⟨some 23, (Go.Op.move (Go.Operand.tmp 0)), none⟩ (by kernel_rfl) (by kernel_rfl) (by kernel_rfl) (by kernel_rfl) (by kernel_rfl) #[true, true, true, true, true, true, true, false, false, false, false, false, false] (by kernel_rfl) fun Z q1 => ?_
      simp only [go_sem, seval, -List.reduceReplicate]
      repeat' with_reducible refine And.intro ?_ ?_
      all_goals first | (refine q1 _ ?_; clear q1 Z) | omega | rfl | decide | assumption | (intro _; omega) | (simp [roomFor, maxLen, by39, by3, by68, by70, by23, by100] <;> omega)
      refine AnyA.take ok 7 ⟨some 24, (Go.Op.fieldAddr 68 (Go.Operand.tmp 5) 3), none⟩ (by kernel_rfl) (by kernel_rfl) (by kernel_rfl) (by kernel_rfl) (by kernel_rfl) #[true, true, true, true, true, true, true, true, false, false, false, false, false] (by kernel_rfl) fun Z q1 => ?_
      simp only [go_sem, seval, -List.reduceReplicate]
      repeat' with_reducible refine And.intro ?_ ?_
      all_goals first | (refine q1 _ ?_; clear q1 Z) | omega | rfl | decide | assumption | (intro _; omega) | (simp [roomFor, maxLen, by39, by3, by68, by70, by23, by100] <;> omega)
      refine AnyA.take ok 8 ⟨some 25, (Go.Op.load 3 (Go.Operand.tmp 24)), none⟩ (by kernel_rfl) (by kernel_rfl) (by kernel_rfl) (by kernel_rfl) (by kernel_rfl) #[true, true, true, true, true, true, true, true, true, false, false, false, false] (by kernel_rfl) fun Z q1 => ?_
      simp only [go_sem, seval, -List.reduceReplicate]
      repeat' with_reducible refine And.intro ?_ ?_
      all_goals first | (refine q1 _ ?_; clear q1 Z) | omega | rfl | decide | assumption | (intro _; omega) | (simp [roomFor, maxLen, by39, by3, by68, by70, by23, by100] <;> omega)
      refine AnyA.all (rs := [9, 11]) ok (by kernel_rfl) (by kernel_rfl) rfl ?_
      refine Branches.keep (i := 9) ⟨some 26, (Go.Op.call (Go.Call.mk (Go.Callee.value (Go.Operand.func 39)) #[(Go.Operand.tmp 23), (Go.Operand.tmp 25)] #[22, 3])), none⟩ (by kernel_rfl) rfl #[true, true, true, true, true, true, true, true, true, true, false, false, false] (by kernel_rfl) (fun Z q1 => ?_) ?_
      · skip
        simp only [go_sem, seval, -List.reduceReplicate]
        repeat' with_reducible refine And.intro ?_ ?_
        all_goals try (first | omega | assumption | (intro _; omega))
        first | refine ⟨_, _, rfl, .inl ⟨_, CallQ.ctr ok (refHeld_at t ((edges t).getD i default).event he.1 he.2.2 ht h6 hr) (by first | rfl | (simp [argsV, toVs, contentV, toV, capsV, capsE, ty22, ty25, ty3, ty4, ty81, ty39, ty40, ty42, ty37, ty2, ty23, ty24, ty46, ty68, ty65, ty70, ty69, ty90, ty77, ty59, ty100, ty75, ty98, ty71, ty93, ty64, ty85, List.length_map, List.take_of_length_le])) rfl, ?_⟩⟩ | refine ⟨_, _, rfl, .inl ⟨_, fun hg => CallQ.ctr ok (refHeld_at t ((edges t).getD i default).event he.1 he.2.2 ht h6 hr) (by first | rfl | (simp [argsV, toVs, contentV, toV, capsV, capsE, ty22, ty25, ty3, ty4, ty81, ty39, ty40, ty42, ty37, ty2, ty23, ty24, ty46, ty68, ty65, ty70, ty69, ty90, ty77, ty59, ty100, ty75, ty98, ty71, ty93, ty64, ty85, List.length_map, List.take_of_length_le])) rfl, ?_⟩⟩
        simp only [go_sem, seval, -List.reduceReplicate]
        repeat' with_reducible refine And.intro ?_ ?_
        all_goals first | (refine q1 _ ?_; clear q1 Z) | omega | rfl | decide | assumption | (intro _; omega) | (simp [roomFor, maxLen, by39, by3, by68, by70, by23, by100] <;> omega)
        refine AnyA.take ok 10 ⟨some 27, (Go.Op.build 100 #[(0, (Go.Operand.tmp 18)), (1, (Go.Operand.tmp 20)), (2, (Go.Operand.tmp 22)), (3, (Go.Operand.tmp 26))]), none⟩ (by kernel_rfl) (by kernel_rfl) (by kernel_rfl) (by kernel_rfl) (by kernel_rfl) #[true, true, true, true, true, true, true, true, true, true, true, false, false] (by kernel_rfl) fun Z q1 => ?_
        simp only [go_sem, seval, -List.reduceReplicate]
        repeat' with_reducible refine And.intro ?_ ?_
        all_goals first | (refine q1 _ ?_; clear q1 Z) | omega | rfl | decide | assumption | (intro _; omega) | (simp [roomFor, maxLen, by39, by3, by68, by70, by23, by100] <;> omega)
        refine AnyA.all (rs := [11]) ok (by kernel_rfl) (by kernel_rfl) rfl ?_
        refine Branches.keep (i := 11) ⟨some 6, (Go.Op.alloc 100), none⟩ (by kernel_rfl) rfl #[true, true, true, true, true, true, true, true, true, true, true, true, false] (by kernel_rfl) (fun Z q1 => ?_) ?_
        rotate_left
        exact Branches.nil
        simp only [go_sem, seval, -List.reduceReplicate]
        repeat' with_reducible refine And.intro ?_ ?_
        all_goals first | (refine q1 _ ?_; clear q1 Z) | omega | rfl | decide | assumption | (intro _; omega) | (simp [roomFor, maxLen, by39, by3, by68, by70, by23, by100] <;> omega)
        refine AnyA.all (rs := [12]) ok (by kernel_rfl) (by kernel_rfl) rfl ?_
        refine Branches.any (i := 12) ⟨none, (Go.Op.store 100 (Go.Operand.tmp 6) (Go.Operand.tmp 27)), none⟩ (by kernel_rfl) rfl #[true, true, true, true, true, true, true, true, true, true, true, true, true] (by kernel_rfl) (fun Z q1 => ?_) ?_
        rotate_left
        exact Branches.nil
        simp only [go_sem, seval, -List.reduceReplicate]
        repeat' with_reducible refine And.intro ?_ ?_
        all_goals first | (refine q1 _ ?_; clear q1 Z) | omega | rfl | decide | assumption | (intro _; omega) | (simp [roomFor, maxLen, by39, by3, by68, by70, by23, by100] <;> omega)
        refine AnyA.done (by kernel_rfl) (r _ ?_)
        clear r R
        exact St.le.of_eq rfl
      refine Branches.keep (i := 11) ⟨some 6, (Go.Op.alloc 100), none⟩ (by kernel_rfl) rfl #[true, true, true, true, true, true, true, true, true, false, false, true, false] (by kernel_rfl) (fun Z q1 => ?_) ?_
      · skip
        simp only [go_sem, seval, -List.reduceReplicate]
        repeat' with_reducible refine And.intro ?_ ?_
        all_goals first | (refine q1 _ ?_; clear q1 Z) | omega | rfl | decide | assumption | (intro _; omega) | (simp [roomFor, maxLen, by39, by3, by68, by70, by23, by100] <;> omega)
        refine AnyA.all (rs := [9]) ok (by kernel_rfl) (by kernel_rfl) rfl ?_
        refine Branches.keep (i := 9) ⟨some 26, (Go.Op.call (Go.Call.mk (Go.Callee.value (Go.Operand.func 39)) #[(Go.Operand.tmp 23), (Go.Operand.tmp 25)] #[22, 3])), none⟩ (by kernel_rfl) rfl #[true, true, true, true, true, true, true, true, true, true, false, true, false] (by kernel_rfl) (fun Z q1 => ?_) ?_
        rotate_left
        exact Branches.nil
        simp only [go_sem, seval, -List.reduceReplicate]
        repeat' with_reducible refine And.intro ?_ ?_
        all_goals try (first | omega | assumption | (intro _; omega))
        first | refine ⟨_, _, rfl, .inl ⟨_, CallQ.ctr ok (refHeld_at t ((edges t).getD i default).event he.1 he.2.2 ht h6 hr) (by first | rfl | (simp [argsV, toVs, contentV, toV, capsV, capsE, ty22, ty25, ty3, ty4, ty81, ty39, ty40, ty42, ty37, ty2, ty23, ty24, ty46, ty68, ty65, ty70, ty69, ty90, ty77, ty59, ty100, ty75, ty98, ty71, ty93, ty64, ty85, List.length_map, List.take_of_length_le])) rfl, ?_⟩⟩ | refine ⟨_, _, rfl, .inl ⟨_, fun hg => CallQ.ctr ok (refHeld_at t ((edges t).getD i default).event he.1 he.2.2 ht h6 hr) (by first | rfl | (simp [argsV, toVs, contentV, toV, capsV, capsE, ty22, ty25, ty3, ty4, ty81, ty39, ty40, ty42, ty37, ty2, ty23, ty24, ty46, ty68, ty65, ty70, ty69, ty90, ty77, ty59, ty100, ty75, ty98, ty71, ty93, ty64, ty85, List.length_map, List.take_of_length_le])) rfl, ?_⟩⟩
        simp only [go_sem, seval, -List.reduceReplicate]
        repeat' with_reducible refine And.intro ?_ ?_
        all_goals first | (refine q1 _ ?_; clear q1 Z) | omega | rfl | decide | assumption | (intro _; omega) | (simp [roomFor, maxLen, by39, by3, by68, by70, by23, by100] <;> omega)
        refine AnyA.take ok 10 ⟨some 27, (Go.Op.build 100 #[(0, (Go.Operand.tmp 18)), (1, (Go.Operand.tmp 20)), (2, (Go.Operand.tmp 22)), (3, (Go.Operand.tmp 26))]), none⟩ (by kernel_rfl) (by kernel_rfl) (by kernel_rfl) (by kernel_rfl) (by kernel_rfl) #[true, true, true, true, true, true, true, true, true, true, true, true, false] (by kernel_rfl) fun Z q1 => ?_
        simp only [go_sem, seval, -List.reduceReplicate]
        repeat' with_reducible refine And.intro ?_ ?_
        all_goals first | (refine q1 _ ?_; clear q1 Z) | omega | rfl | decide | assumption | (intro _; omega) | (simp [roomFor, maxLen, by39, by3, by68, by70, by23, by100] <;> omega)
        refine AnyA.all (rs := [12]) ok (by kernel_rfl) (by kernel_rfl) rfl ?_
        refine Branches.any (i := 12) ⟨none, (Go.Op.store 100 (Go.Operand.tmp 6) (Go.Operand.tmp 27)), none⟩ (by kernel_rfl) rfl #[true, true, true, true, true, true, true, true, true, true, true, true, true] (by kernel_rfl) (fun Z q1 => ?_) ?_
        rotate_left
        exact Branches.nil
        simp only [go_sem, seval, -List.reduceReplicate]
        repeat' with_reducible refine And.intro ?_ ?_
        all_goals first | (refine q1 _ ?_; clear q1 Z) | omega | rfl | decide | assumption | (intro _; omega) | (simp [roomFor, maxLen, by39, by3, by68, by70, by23, by100] <;> omega)
        refine AnyA.done (by kernel_rfl) (r _ ?_)
        clear r R
        exact St.le.of_eq rfl
      exact Branches.nil
    refine thenK.normal (SA.seq ?_)
    refine SA.region ok (by kernel_rfl) [0, 3, 6, 7, 11, 12, 13] ?_
    intro R r
    simp only [go_sem, strip]
    iterate 1 (refine opsA_cons fun Z q1 => ?_; simp only [go_sem, seval, -List.reduceReplicate]; (repeat' with_reducible refine And.intro ?_ ?_); all_goals first | (refine q1 _ ?_; clear q1 Z) | omega | rfl | decide | assumption | (intro _; omega) | (simp [roomFor, maxLen, by39, by3, by68, by70, by23, by100] <;> omega))
    refine opsA_nil (r _ ?_)
    clear r R
    try simp only [go_sem, Nat.reduceBEq]
    refine thenK.normal (SA.seq ?_)
    refine SA.seq ?_
    refine SA.region ok (by kernel_rfl) [0, 3, 6, 7, 11, 12, 13, 28, 29, 30] ?_
    intro R r
    simp only [go_sem, strip]
    iterate 3 (refine opsA_cons fun Z q1 => ?_; simp only [go_sem, seval, -List.reduceReplicate]; (repeat' with_reducible refine And.intro ?_ ?_); all_goals first | (refine q1 _ ?_; clear q1 Z) | omega | rfl | decide | assumption | (intro _; omega) | (simp [roomFor, maxLen, by39, by3, by68, by70, by23, by100] <;> omega))
    refine opsA_nil (r _ ?_)
    clear r R
    try simp only [go_sem, Nat.reduceBEq]
    refine thenK.normal (SA.block ?_)
    refine SA.weaken (St.le.of_eq (by first | rfl | simp)) (SA.loop (fun n τ => ∃ (j : Nat), n = (kindsTo t i).length - j ∧ (j ≤ (kindsTo t i).length) ∧ τ = { tm := [(0, true, .fs 42 (t.map Event.v) false), (3, true, .sl 1 100 0 (kindsTo t i).length false), (6, true, .ptr 3 [] 100), (7, true, .bool (((kindsTo t i).take j).any fun x => decide (x = kindOf t ((edges t).getD i default)))), (11, true, .sl 0 68 0 (edges t).length false), (12, true, .int .i64 (edges t).length), (13, true, .int .i64 i), (28, true, .sl 1 100 0 (kindsTo t i).length false), (29, true, .int .i64 (kindsTo t i).length), (30, true, .int .i64 j)], ob := [.row 68 ((edges t).map Edge.v), .row 100 ((kindsTo t i).map Kind.v), .var 68 (.data 68 ((edges t).getD i default).v), .var 100 (.data 100 (kindOf t ((edges t).getD i default)).v)], out := [], nt := 49 }) ((kindsTo t i).length) ⟨0, rfl, Nat.zero_le _, rfl⟩ ?_)
    rintro n τ ⟨j, hn, hj, rfl⟩
    refine SA.seq ?_
    refine SA.region ok (by kernel_rfl) [0, 3, 6, 7, 11, 12, 13, 28, 29, 30, 31] ?_
    intro R r
    simp only [go_sem, strip]
    iterate 1 (refine opsA_cons fun Z q1 => ?_; simp only [go_sem, seval, -List.reduceReplicate]; (repeat' with_reducible refine And.intro ?_ ?_); all_goals first | (refine q1 _ ?_; clear q1 Z) | omega | rfl | decide | assumption | (intro _; omega) | (simp [roomFor, maxLen, by39, by3, by68, by70, by23, by100] <;> omega))
    refine opsA_nil (r _ ?_)
    clear r R
    try simp only [go_sem, Nat.reduceBEq]
    refine thenK.normal (SA.seq ?_)
    refine SA.cond rfl ?_ ?_
    · intro hb2
      simp only [decide_eq_true_eq, decide_eq_false_iff_not, Int.not_lt, Int.not_le] at hb2
      refine SA.skip ?_
      refine thenK.normal (SA.seq ?_)
      refine SA.block ?_
      refine SA.seq ?_
      have hjl : j < (kindsTo t i).length := by omega
      refine SA.region ok (by kernel_rfl) [0, 3, 6, 7, 9, 11, 12, 13, 28, 29, 30] ?_
      intro R r
      simp only [go_sem, strip]
      iterate 4 (refine opsA_cons fun Z q1 => ?_; simp only [go_sem, seval, -List.reduceReplicate, getD_map Kind.v (kindsTo t i) hjl]; (repeat' with_reducible refine And.intro ?_ ?_); all_goals first | (refine q1 _ ?_; clear q1 Z) | omega | rfl | decide | assumption | (intro _; omega) | (simp [roomFor, maxLen, by39, by3, by68, by70, by23, by100] <;> omega))
      refine opsA_nil (r _ ?_)
      clear r R
      try simp only [go_sem, Nat.reduceBEq]
      refine thenK.normal ?_
      refine SA.region ok (by kernel_rfl) [0, 3, 6, 7, 11, 12, 13, 28, 29, 30] ?_
      intro R r
      simp only [go_sem, strip]
      iterate 7 (refine opsA_cons fun Z q1 => ?_; simp only [go_sem, seval, -List.reduceReplicate]; (repeat' with_reducible refine And.intro ?_ ?_); all_goals first | (refine q1 _ ?_; clear q1 Z) | omega | rfl | decide | assumption | (intro _; omega) | (simp [roomFor, maxLen, by39, by3, by68, by70, by23, by100] <;> omega))
      refine opsA_nil (r _ ?_)
      clear r R
      try simp only [go_sem, Nat.reduceBEq]
      refine blockK.normal (thenK.normal ?_)
      refine SA.region ok (by kernel_rfl) [0, 3, 6, 7, 11, 12, 13, 28, 29, 30] ?_
      intro R r
      simp only [go_sem, strip]
      iterate 2 (refine opsA_cons fun Z q1 => ?_; simp only [go_sem, seval, -List.reduceReplicate]; (repeat' with_reducible refine And.intro ?_ ?_); all_goals first | (refine q1 _ ?_; clear q1 Z) | omega | rfl | decide | assumption | (intro _; omega) | (simp [roomFor, maxLen, by39, by3, by68, by70, by23, by100] <;> omega))
      refine opsA_nil (r _ ?_)
      clear r R
      try simp only [go_sem, Nat.reduceBEq]
      have e0 := any_take (fun x => decide (x = kindOf t ((edges t).getD i default))) (kindsTo t i) hjl
      refine loopK.normal ((kindsTo t i).length - (j + 1)) _ (by omega) ((St.le.cut 4 rfl).trans (St.le.of_eq (by rw [e0, wrap_succ hjl hkm, Bool.cond_true_left]; rfl))) ⟨j + 1, rfl, hjl, rfl⟩
    · intro hb2
      simp only [decide_eq_true_eq, decide_eq_false_iff_not, Int.not_lt, Int.not_le] at hb2
      refine SA.exit ?_
      refine thenK.exit ?_
      refine loopK.exit ?_
      refine blockK.hit ?_
      refine thenK.normal (SA.seq ?_)
      refine SA.region ok (by kernel_rfl) [0, 3, 6, 11, 12, 13, 42] ?_
      intro R r
      simp only [go_sem, strip]
      iterate 2 (refine opsA_cons fun Z q1 => ?_; simp only [go_sem, seval, -List.reduceReplicate]; (repeat' with_reducible refine And.intro ?_ ?_); all_goals first | (refine q1 _ ?_; clear q1 Z) | omega | rfl | decide | assumption | (intro _; omega) | (simp [roomFor, maxLen, by39, by3, by68, by70, by23, by100] <;> omega))
      refine opsA_nil (r _ ?_)
      clear r R
      try simp only [go_sem, Nat.reduceBEq]
      refine thenK.normal ?_
      refine SA.cond rfl ?_ ?_
      · intro hb3
        skip
        refine SA.region ok (by kernel_rfl) [0, 3, 11, 12, 13] ?_
        intro R r
        simp only [go_sem, strip]
        iterate 3 (refine opsA_cons fun Z q1 => ?_; simp only [go_sem, seval, -List.reduceReplicate]; (repeat' with_reducible refine And.intro ?_ ?_); all_goals first | (refine q1 _ ?_; clear q1 Z) | omega | rfl | decide | assumption | (intro _; omega) | (simp [roomFor, maxLen, by39, by3, by68, by70, by23, by100] <;> omega))
        refine opsA_cons fun Z q1 => ?_
        simp only [go_sem, seval, -List.reduceReplicate]
        repeat' with_reducible refine And.intro ?_ ?_
        all_goals first | (refine q1 _ ?_; clear q1 Z) | omega | rfl | decide | assumption | (have h1 := kindsTo_len t i (by omega); simp [roomFor, maxLen, by39, by3, by68, by70, by23, by100] <;> omega)
        iterate 1 (refine opsA_cons fun Z q1 => ?_; simp only [go_sem, seval, -List.reduceReplicate]; (repeat' with_reducible refine And.intro ?_ ?_); all_goals first | (refine q1 _ ?_; clear q1 Z) | omega | rfl | decide | assumption | (intro _; omega) | (simp [roomFor, maxLen, by39, by3, by68, by70, by23, by100] <;> omega))
        refine opsA_nil (r _ ?_)
        clear r R
        try simp only [go_sem, Nat.reduceBEq]
        refine blockK.normal (thenK.normal ?_)
        refine SA.region ok (by kernel_rfl) [0, 3, 11, 12, 13] ?_
        intro R r
        simp only [go_sem, strip]
        iterate 2 (refine opsA_cons fun Z q1 => ?_; simp only [go_sem, seval, -List.reduceReplicate]; (repeat' with_reducible refine And.intro ?_ ?_); all_goals first | (refine q1 _ ?_; clear q1 Z) | omega | rfl | decide | assumption | (intro _; omega) | (simp [roomFor, maxLen, by39, by3, by68, by70, by23, by100] <;> omega))
        refine opsA_nil (r _ ?_)
        clear r R
        try simp only [go_sem, Nat.reduceBEq]
        have hjj : j = (kindsTo t i).length := by omega
        have hcm : ((kindsTo t i).any fun x => decide (x = kindOf t ((edges t).getD i default))) = false := by rw [hjj, List.take_length] at hb3; simpa using hb3
        have e0 : kindsTo t (i + 1) = kindsTo t i ++ [kindOf t ((edges t).getD i default)] := by rw [kindsTo_succ t hlt, addKind_miss hcm]
        have e2 : (kindsTo t (i + 1)).length = (kindsTo t i).length + 1 := by rw [e0]; simp
        have e3 : List.take (kindsTo t i).length (List.map Kind.v (kindsTo t i)) ++ List.take 1 (List.drop 0 [(kindOf t ((edges t).getD i default)).v]) = (kindsTo t (i + 1)).map Kind.v := by rw [e0, take_map_len, List.map_append]; rfl
        refine loopK.normal ((edges t).length - (i + 1)) _ (by omega) ((St.le.cut 2 rfl).trans (St.le.of_eq (by rw [e3, e2, wrap_succ hlt ham]; rfl))) ⟨i + 1, rfl, hlt, rfl⟩
      · intro hb3
        skip
        refine SA.skip ?_
        refine blockK.normal (thenK.normal ?_)
        refine SA.region ok (by kernel_rfl) [0, 3, 11, 12, 13] ?_
        intro R r
        simp only [go_sem, strip]
        iterate 2 (refine opsA_cons fun Z q1 => ?_; simp only [go_sem, seval, -List.reduceReplicate]; (repeat' with_reducible refine And.intro ?_ ?_); all_goals first | (refine q1 _ ?_; clear q1 Z) | omega | rfl | decide | assumption | (intro _; omega) | (simp [roomFor, maxLen, by39, by3, by68, by70, by23, by100] <;> omega))
        refine opsA_nil (r _ ?_)
        clear r R
        try simp only [go_sem, Nat.reduceBEq]
        have hjj : j = (kindsTo t i).length := by omega
        have hcm : ((kindsTo t i).any fun x => decide (x = kindOf t ((edges t).getD i default))) = true := by rw [hjj, List.take_length] at hb3; simpa using hb3
        have e0 : kindsTo t (i + 1) = kindsTo t i := by rw [kindsTo_succ t hlt, addKind_hit hcm]
        refine loopK.normal ((edges t).length - (i + 1)) _ (by omega) ((St.le.cut 2 rfl).trans (St.le.of_eq (by rw [e0, wrap_succ hlt ham]; rfl))) ⟨i + 1, rfl, hlt, rfl⟩
  · intro hb1
    simp only [decide_eq_true_eq, decide_eq_false_iff_not, Int.not_lt, Int.not_le] at hb1
    refine SA.exit ?_
    refine thenK.exit ?_
    refine loopK.exit ?_
    refine blockK.hit ?_
    refine thenK.normal (SA.seq ?_)
    refine SA.region ok (by kernel_rfl) [2] ?_
    intro R r
    simp only [go_sem, strip]
    iterate 2 (refine opsA_cons fun Z q1 => ?_; simp only [go_sem, seval, -List.reduceReplicate]; (repeat' with_reducible refine And.intro ?_ ?_); all_goals first | (refine q1 _ ?_; clear q1 Z) | omega | rfl | decide | assumption | (intro _; omega) | (simp [roomFor, maxLen, by39, by3, by68, by70, by23, by100] <;> omega))
    refine opsA_nil (r _ ?_)
    clear r R
    try simp only [go_sem, Nat.reduceBEq]
    refine thenK.normal (SA.ret ?_)
    refine ctrK.ret ?_
    simp only [resA, evalO, resV, backK, outE, toV, ty4, ty3, List.lookup_cons, List.lookup_nil, beq_self_eq_true, forall_const, true_and, and_true]
    simp only [go_sem, seval, -List.reduceReplicate]
    have hii : i = (edges t).length := by omega
    subst hii
    exact ⟨rfl, by rw [take_map_len]; rfl, by simp⟩

end Go.Eng.Try
