/- A part of the proof: walks through the program's functions, and what they compute. -/
import Derived.Test.YtedceinkpkoncaaGreatSAttr
import Derived.Test.YtedceinkpkoncaaGreatM1
import Derived.Test.YtedceinkpkoncaaGreatE4
import Derived.Test.YtedceinkpkoncaaGreatOW36
import Derived.Test.YtedceinkpkoncaaGreatOW31
namespace Go.Eng.Tryz.O
set_option maxHeartbeats 0
set_option maxRecDepth 20000
open Go.RowKit Go.Eng
set_option linter.unusedSimpArgs false
set_option linter.unusedVariables false

def smallT : List Event := [takingE 1 0, takingE 1 1, givingE 1 1, givingE 1 0, takingE 2 1, takingE 2 0]
theorem smallT_6 : ∀ e ∈ smallT, e.touch.length = 6 := by decide
theorem smallT_len : smallT.length ≤ maxLen := by decide
theorem small_check : check smallT = 0 := by kernel_rfl
theorem small_rings : ringsV (if check smallT = 0 then ringsOf (edges smallT) else []) = [.list [.int 0, .int 1]] := by kernel_rfl
theorem small_res : guardRes smallT [0, 1] = false := by kernel_rfl
theorem small_err : guardErr smallT [0, 1] = 0 := by kernel_rfl
theorem small_held : (heldRes smallT 5).map V.int = [.int 1] := by kernel_rfl
theorem small_heldErr : heldErr smallT 5 = 0 := by kernel_rfl
theorem smallV : [(takingE 1 0).v, (takingE 1 1).v, (givingE 1 1).v, (givingE 1 0).v, (takingE 2 1).v, (takingE 2 0).v] = smallT.map Event.v := rfl
theorem smallRings : CtrZ Go.Proofs.Tryz.prog tab 13 [30] [67, 58] [.list (smallT.map Event.v)] [.list [.list [.int 0, .int 1]], .int 0] := by
  have h := Rings_ctr smallT smallT_len smallT_6
  rwa [small_rings, small_check] at h
theorem smallGuarded : Ctr Go.Proofs.Tryz.prog tab 14 [30, 23] [4, 58] [.list (smallT.map Event.v), .list [.int 0, .int 1]] [.bool false, .int 0] := by
  have h := Guarded_ctr smallT [0, 1] smallT_len (by decide) smallT_6
  rwa [small_res, small_err] at h
theorem smallHeld : Ctr Go.Proofs.Tryz.prog tab 8 [30, 3] [23, 58] [.list (smallT.map Event.v), .int 5] [.list [.int 1], .int 0] := by
  have h := Held_ctr smallT 5 smallT_len smallT_6
  rwa [small_held, small_heldErr] at h
theorem smallRows : Ctr Go.Proofs.Tryz.prog tab 15 [67, 67] [4] [.list [.list [.int 0, .int 1]], .list [.list [.int 0, .int 1]]] [.bool true] :=
  sameRows_ctr [[0, 1]] [[0, 1]] (by decide) (by decide) (by decide) (by decide)
theorem smallInts : Ctr Go.Proofs.Tryz.prog tab 9 [23, 23] [4] [.list [.int 1], .list [.int 1]] [.bool true] :=
  sameInts_ctr [1] [1] (by decide) (by decide)

attribute [local go_sem] concat_at List.length_map List.length_range zero52 z52 z3 z4 z79 z89 z55 z53 z50 z2 zero53 z78 z117 zero79 zero78 zero117 zero89 zero55 Int.toNat_natCast Int.natCast_zero Event.v0 Event.v3 Event.v5 Event.v7 Event.v8 Access.v0 Access.v1 Access.v2 beq_acc Edge.v0 Edge.v1 Edge.v2 Edge.v3 heldOf_len locksTo_len heldsTo_len nowL_len ringsV_len Kind.v0 Kind.v1 Kind.v2 Kind.v3 beq_kind beq_edge beq_event
def lv5 : List (Nat × List Nat) := [(0, []), (1, [1]), (2, [1, 2, 3]), (3, [1, 2, 3, 4, 5]), (4, [2, 3, 4, 5, 6, 7]), (5, [0])]
-- scarab/scarablaw25.small
theorem small_ctr : Ctr Go.Proofs.Tryz.prog tab 5 [] [4] [] [.bool true] := by
  refine Ctr.body ok Go.Proofs.Tryz.func5 rfl rfl 56 rfl [.tmp 0] rfl (by simp [fromVs]) ?_
  simp only [fromVs, fromV, args0, V.toList_list, V.toInt_int, V.toBool_bool, Nat.zero_add, Nat.reduceAdd, ]
  repeat' first
    | ((with_reducible refine SARW.told 5 17 ?_)
       refine SARW.weak (St.le.frzRow ok.sized 3 rfl) ?_
       simp only [St.frz, Tm.frz, E.frz, E.frzL, Obj.frz, List.map_cons, List.map_nil, List.set_cons_zero, List.set_cons_succ, Nat.reduceBEq, Nat.beq_refl, if_true, if_false, Nat.beq_eq_true_eq, reduceCtorEq, Bool.false_eq_true, V.get, Nat.reduceEqDiff])
    | ((with_reducible refine SARW.told 5 18 ?_)
       refine SARW.weak (St.le.frzRow ok.sized 4 rfl) ?_
       simp only [St.frz, Tm.frz, E.frz, E.frzL, Obj.frz, List.map_cons, List.map_nil, List.set_cons_zero, List.set_cons_succ, Nat.reduceBEq, Nat.beq_refl, if_true, if_false, Nat.beq_eq_true_eq, reduceCtorEq, Bool.false_eq_true, V.get, Nat.reduceEqDiff])
    | ((with_reducible refine SARW.told 5 21 ?_)
       refine SARW.weak (St.le.frzRow ok.sized 2 rfl) ?_
       simp only [St.frz, Tm.frz, E.frz, E.frzL, Obj.frz, List.map_cons, List.map_nil, List.set_cons_zero, List.set_cons_succ, Nat.reduceBEq, Nat.beq_refl, if_true, if_false, Nat.beq_eq_true_eq, reduceCtorEq, Bool.false_eq_true, V.get, Nat.reduceEqDiff])
    | ((with_reducible refine SARW.told 5 23 ?_)
       refine SARW.weak (St.le.frzRow ok.sized 5 rfl) ?_
       simp only [St.frz, Tm.frz, E.frz, E.frzL, Obj.frz, List.map_cons, List.map_nil, List.set_cons_zero, List.set_cons_succ, Nat.reduceBEq, Nat.beq_refl, if_true, if_false, Nat.beq_eq_true_eq, reduceCtorEq, Bool.false_eq_true, V.get, Nat.reduceEqDiff])
    | ((with_reducible refine SARW.told 5 _ ?_); try simp only [decide_true, List.drop_zero, List.take_succ_cons, List.take_zero])
    | ((with_reducible first | refine SARA.do fun R1 hR1 => ?_ | refine SARW.do fun R1 hR1 => ?_); (simp only [go_sem, seval, -List.reduceReplicate]); (repeat' with_reducible refine And.intro ?_ ?_); all_goals first | (refine hR1 _ ?_; clear hR1 R1) | ((first | refine ⟨_, _, rfl, .inl ⟨_, CallQ.ctr ok (taking_ctr 1 0) (by first | rfl | (simp [go_sem, List.length_map, List.take_of_length_le]; done) | fail) rfl, ?_⟩⟩ | refine ⟨_, _, rfl, .inl ⟨_, fun hg => CallQ.ctr ok (taking_ctr 1 0) (by first | rfl | (simp [go_sem, List.length_map, List.take_of_length_le]; done) | fail) rfl, ?_⟩⟩ | refine ⟨_, _, rfl, .inl ⟨_, CallQ.ctr ok (taking_ctr 1 1) (by first | rfl | (simp [go_sem, List.length_map, List.take_of_length_le]; done) | fail) rfl, ?_⟩⟩ | refine ⟨_, _, rfl, .inl ⟨_, fun hg => CallQ.ctr ok (taking_ctr 1 1) (by first | rfl | (simp [go_sem, List.length_map, List.take_of_length_le]; done) | fail) rfl, ?_⟩⟩ | refine ⟨_, _, rfl, .inl ⟨_, CallQ.ctr ok (giving_ctr 1 1) (by first | rfl | (simp [go_sem, List.length_map, List.take_of_length_le]; done) | fail) rfl, ?_⟩⟩ | refine ⟨_, _, rfl, .inl ⟨_, fun hg => CallQ.ctr ok (giving_ctr 1 1) (by first | rfl | (simp [go_sem, List.length_map, List.take_of_length_le]; done) | fail) rfl, ?_⟩⟩ | refine ⟨_, _, rfl, .inl ⟨_, CallQ.ctr ok (giving_ctr 1 0) (by first | rfl | (simp [go_sem, List.length_map, List.take_of_length_le]; done) | fail) rfl, ?_⟩⟩ | refine ⟨_, _, rfl, .inl ⟨_, fun hg => CallQ.ctr ok (giving_ctr 1 0) (by first | rfl | (simp [go_sem, List.length_map, List.take_of_length_le]; done) | fail) rfl, ?_⟩⟩ | refine ⟨_, _, rfl, .inl ⟨_, CallQ.ctr ok (taking_ctr 2 1) (by first | rfl | (simp [go_sem, List.length_map, List.take_of_length_le]; done) | fail) rfl, ?_⟩⟩ | refine ⟨_, _, rfl, .inl ⟨_, fun hg => CallQ.ctr ok (taking_ctr 2 1) (by first | rfl | (simp [go_sem, List.length_map, List.take_of_length_le]; done) | fail) rfl, ?_⟩⟩ | refine ⟨_, _, rfl, .inl ⟨_, CallQ.ctr ok (taking_ctr 2 0) (by first | rfl | (simp [go_sem, List.length_map, List.take_of_length_le]; done) | fail) rfl, ?_⟩⟩ | refine ⟨_, _, rfl, .inl ⟨_, fun hg => CallQ.ctr ok (taking_ctr 2 0) (by first | rfl | (simp [go_sem, List.length_map, List.take_of_length_le]; done) | fail) rfl, ?_⟩⟩ | refine ⟨_, _, rfl, .inr (CallE.ctrZ (smallRings) (by first | rfl | (simp [go_sem, List.length_map, List.take_of_length_le]; done) | fail) ?_)⟩ | refine ⟨_, _, rfl, .inr ⟨fun _ => CallE.ctrZ (smallRings) (by first | rfl | (simp [go_sem, List.length_map, List.take_of_length_le]; done) | fail) ?_, ?_⟩⟩ | ((refine ⟨_, _, rfl, .inr (CallE.frzRow (i := 1) ok.sized rfl ?_)⟩); (simp only [St.frz, Tm.frz, E.frz, E.frzL, Obj.frz, List.map_cons, List.map_nil, List.set_cons_zero, List.set_cons_succ, Nat.reduceBEq, Nat.beq_refl, if_true, if_false, Nat.beq_eq_true_eq, reduceCtorEq, Bool.false_eq_true, V.get, Nat.reduceEqDiff]); (refine CallE.ctr ok smallGuarded (by simp [argsV, contentV, toVs, toV, ty23, ty30]) ?_)) | refine ⟨_, _, rfl, .inr (CallE.ctr ok (smallHeld) (by first | rfl | (simp [go_sem, List.length_map, List.take_of_length_le]; done) | fail) ?_)⟩ | refine ⟨_, _, rfl, .inr ⟨fun _ => CallE.ctr ok (smallHeld) (by first | rfl | (simp [go_sem, List.length_map, List.take_of_length_le]; done) | fail) ?_, ?_⟩⟩ | refine ⟨_, _, rfl, .inl ⟨_, CallQ.ctr ok (smallRows) (by first | rfl | (simp [go_sem, List.length_map, List.take_of_length_le]; done) | fail) rfl, ?_⟩⟩ | refine ⟨_, _, rfl, .inl ⟨_, fun hg => CallQ.ctr ok (smallRows) (by first | rfl | (simp [go_sem, List.length_map, List.take_of_length_le]; done) | fail) rfl, ?_⟩⟩ | refine ⟨_, _, rfl, .inl ⟨_, CallQ.ctr ok (smallInts) (by first | rfl | (simp [go_sem, List.length_map, List.take_of_length_le]; done) | fail) rfl, ?_⟩⟩ | refine ⟨_, _, rfl, .inl ⟨_, fun hg => CallQ.ctr ok (smallInts) (by first | rfl | (simp [go_sem, List.length_map, List.take_of_length_le]; done) | fail) rfl, ?_⟩⟩); all_goals ((try simp only [go_sem, seval, -List.reduceReplicate]); (repeat' with_reducible refine And.intro ?_ ?_); all_goals first | (refine hR1 _ ?_; clear hR1 R1) | omega | rfl | decide | assumption | (intro _; omega) | (simp; done) | (simp; omega) | (simp [roomFor, maxLen, by52, by3, by89, by79, by23] <;> omega))) | omega | rfl | decide | assumption | (intro _; omega) | (simp; done) | (simp; omega) | (simp [roomFor, maxLen, by52, by3, by89, by79, by23] <;> omega))
    | ((with_reducible refine SARA.nil ?_); refine hR _ ?_; clear hR R; try simp only [go_sem, lv5, lvOf, Nat.reduceBEq, Option.getD_some])
    | ((with_reducible refine SARW.nil ?_); refine hR _ ?_; clear hR R; try simp only [go_sem, lv5, lvOf, Nat.reduceBEq, Option.getD_some])
    | (with_reducible first | refine thenK.normal ?_ | refine SA.seq ?_ | refine SA.skip ?_ | refine SA.block ?_ | refine blockK.normal ?_ | refine SA.exit ?_ | refine blockK.hit ?_ | refine blockK.miss (by decide) ?_ | refine thenK.exit ?_ | refine loopK.exit ?_ | refine SA.ret ?_ | refine thenK.ret ?_ | refine blockK.ret ?_ | refine loopK.ret ?_ | refine SA.scope ?_ | refine scopeK.normal ?_ | refine scopeK.exit ?_ | refine scopeK.ret ?_ | refine SA.label ?_)
    | ((with_reducible refine SA.at 2 ?_)
       refine SA.weaken (St.le.frzRow ok.sized 0 rfl) ?_
       simp only [St.frz, Tm.frz, E.frz, E.frzL, Obj.frz, List.map_cons, List.map_nil, List.set_cons_zero, List.set_cons_succ, Nat.reduceBEq, Nat.beq_refl, if_true, if_false, Nat.beq_eq_true_eq, reduceCtorEq, Bool.false_eq_true, V.get, Nat.reduceEqDiff]
       simp only [smallV, List.drop_zero, List.take_of_length_le, List.length_map]
       rw [show List.take 6 (List.map Event.v smallT) = List.map Event.v smallT from rfl]
       (with_reducible refine SA.regionN ok (by kernel_rfl) lv5 ?_); intro R hR; simp only [go_sem, strip])
    | ((with_reducible refine SA.at 5 ?_)
       skip
       (with_reducible refine SA.regionWN ok (by kernel_rfl) lv5 ?_); intro R hR; simp only [go_sem, strip])
    | ((with_reducible refine SA.regionN ok (by kernel_rfl) lv5 ?_); intro R hR; simp only [go_sem, strip])
    | ((with_reducible first | refine ctrK.normal ?_ | refine ctrK.ret ?_)
       simp only [resA, evalO, resV, backK, outE, toV, ty4, ty3, List.lookup_cons, List.lookup_nil, beq_self_eq_true, forall_const, true_and, and_true]
       simp [flatTy, ty4])

end Go.Eng.Tryz.O
