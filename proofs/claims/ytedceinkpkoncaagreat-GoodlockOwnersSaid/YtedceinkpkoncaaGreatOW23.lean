/- A part of the proof: walks through the program's functions, and what they compute. -/
import Derived.Test.YtedceinkpkoncaaGreatSAttr
import Derived.Test.YtedceinkpkoncaaGreatM1
import Derived.Test.YtedceinkpkoncaaGreatE4
import Derived.Test.YtedceinkpkoncaaGreatOW24
namespace Go.Eng.Tryz.O
set_option maxHeartbeats 0
set_option maxRecDepth 20000
open Go.RowKit Go.Eng
set_option linter.unusedSimpArgs false
set_option linter.unusedVariables false


attribute [local go_sem] concat_at List.length_map List.length_range zero52 z52 z3 z4 z79 z89 z55 z53 z50 z2 zero53 z78 z117 zero79 zero78 zero117 zero89 zero55 Int.toNat_natCast Int.natCast_zero Event.v0 Event.v3 Event.v5 Event.v7 Event.v8 Access.v0 Access.v1 Access.v2 beq_acc Edge.v0 Edge.v1 Edge.v2 Edge.v3 heldOf_len boolsV locksTo_len heldsTo_len nowL_len
def lv29 : List (Nat × List Nat) := [(0, [0]), (1, [0, 3]), (2, [0, 3, 10, 11, 12]), (3, [0, 3, 10, 11, 12, 13]), (4, [0, 3, 4, 5, 10, 11, 12]), (5, [0, 3, 4, 5, 6, 10, 11, 12]), (6, [0, 3, 4, 5, 6, 10, 11, 12, 31]), (7, [0, 3, 4, 6, 10, 11, 12, 32, 33]), (8, [0, 3, 4, 6, 10, 11, 12, 32, 33, 34]), (9, [0, 3, 4, 6, 7, 8, 10, 11, 12, 32, 33]), (10, [0, 3, 4, 6, 7, 10, 11, 12, 32, 33, 42]), (11, [0, 3, 4, 6, 10, 11, 12, 32, 33]), (12, [0, 3, 4, 6, 10, 11, 12, 32, 33]), (13, [0, 3, 10, 11, 12]), (14, [3]), (15, [2])]
-- scarab/goodlock.edges
theorem edges_ctr (t : List Event) (ht : t.length ≤ 257) (h6 : ∀ e ∈ t, e.touch.length = 6) (hr : t.all right = true) : CtrZ Go.Proofs.Tryz.prog tab 29 [30] [92] [.list (t.map Event.v)] [.list ((edges t).map Edge.v)] := by
  have hm : t.length ≤ maxLen := Nat.le_trans ht (by decide)
  refine CtrZ.body ok Go.Proofs.Tryz.func29 rfl rfl 60 rfl [.tmp 2] rfl (by simp [fromVs]) ?_
  simp only [fromVs, fromV, args0, V.toList_list, V.toInt_int, V.toBool_bool, Nat.zero_add, Nat.reduceAdd, ty30]
  repeat' first
    | ((with_reducible refine SARA.at 11 11 ?_)
       (with_reducible refine SARA.do fun R1 hR1 => ?_); (simp only [go_sem, seval, -List.reduceReplicate]); (repeat' with_reducible refine And.intro ?_ ?_); all_goals first | (refine hR1 _ ?_; clear hR1 R1) | ((first | refine ⟨_, _, rfl, .inr (CallE.ctr ok (held_ctr t ht h6 hr) (by first | rfl | (simp [go_sem, List.length_map, List.take_of_length_le]; done) | fail) ?_)⟩ | refine ⟨_, _, rfl, .inl ⟨_, CallQ.ctr ok (of_ctr _ (h6 _ hmem) (by omega) hf.2.2.2.1) (by first | rfl | (simp [go_sem, List.length_map, List.take_of_length_le]; done) | fail) rfl, ?_⟩⟩ | refine ⟨_, _, rfl, .inr (CallE.ctr ok (sort_ctr (edgesTo t t.length) (Nat.le_trans (edgesTo_len t _) (by omega)) (edgesTo_sorted t _)) (by first | rfl | (simp [go_sem, List.length_map, List.take_of_length_le]; done) | fail) ?_)⟩); all_goals ((try simp only [go_sem, seval, -List.reduceReplicate]); (repeat' with_reducible refine And.intro ?_ ?_); all_goals first | (refine hR1 _ ?_; clear hR1 R1) | omega | rfl | decide | assumption | (have h1 := edgesTo_len t i; have h2 := edgesAt_len t i f; simp only [roomFor, maxLen, by52, by3, by89, by79, by23, List.length_append, List.length_take, List.drop_zero, List.length_cons, List.length_nil]; omega))) | omega | rfl | decide | assumption | (have h1 := edgesTo_len t i; have h2 := edgesAt_len t i f; simp only [roomFor, maxLen, by52, by3, by89, by79, by23, List.length_append, List.length_take, List.drop_zero, List.length_cons, List.length_nil]; omega))
    | ((with_reducible refine SARA.told 4 _ ?_); try simp only [heldsTo_at hlt])
    | ((with_reducible refine SARA.told 5 _ ?_); try simp only [getD_map Event.v t hlt])
    | ((with_reducible refine SARA.told 6 _ ?_); try simp only [getD_map Event.v t hlt])
    | ((with_reducible refine SARA.told 9 _ ?_); try simp only [getD_map V.bool (heldOf t i) hf4])
    | ((with_reducible refine SARA.told 11 _ ?_); try simp only [getD_map Event.v t hlt])
    | ((with_reducible refine SARA.do fun R1 hR1 => ?_); (simp only [go_sem, seval, -List.reduceReplicate]); (repeat' with_reducible refine And.intro ?_ ?_); all_goals first | (refine hR1 _ ?_; clear hR1 R1) | ((first | refine ⟨_, _, rfl, .inr (CallE.ctr ok (held_ctr t ht h6 hr) (by first | rfl | (simp [go_sem, List.length_map, List.take_of_length_le]; done) | fail) ?_)⟩ | refine ⟨_, _, rfl, .inl ⟨_, CallQ.ctr ok (of_ctr _ (h6 _ hmem) (by omega) hf.2.2.2.1) (by first | rfl | (simp [go_sem, List.length_map, List.take_of_length_le]; done) | fail) rfl, ?_⟩⟩ | refine ⟨_, _, rfl, .inr (CallE.ctr ok (sort_ctr (edgesTo t t.length) (Nat.le_trans (edgesTo_len t _) (by omega)) (edgesTo_sorted t _)) (by first | rfl | (simp [go_sem, List.length_map, List.take_of_length_le]; done) | fail) ?_)⟩); all_goals ((try simp only [go_sem, seval, -List.reduceReplicate]); (repeat' with_reducible refine And.intro ?_ ?_); all_goals first | (refine hR1 _ ?_; clear hR1 R1) | omega | rfl | decide | assumption | (simp [roomFor, maxLen, by52, by3, by89, by79, by23] <;> omega))) | omega | rfl | decide | assumption | (simp [roomFor, maxLen, by52, by3, by89, by79, by23] <;> omega))
    | ((with_reducible refine SARA.nil ?_); refine hR _ ?_; clear hR R; try simp only [go_sem, lv29, lvOf, Nat.reduceBEq, Option.getD_some])
    | (with_reducible first | refine thenK.normal ?_ | refine SA.seq ?_ | refine SA.skip ?_ | refine SA.block ?_ | refine blockK.normal ?_ | refine SA.exit ?_ | refine blockK.hit ?_ | refine blockK.miss (by decide) ?_ | refine thenK.exit ?_ | refine loopK.exit ?_ | refine SA.ret ?_ | refine thenK.ret ?_ | refine blockK.ret ?_ | refine loopK.ret ?_ | refine SA.scope ?_ | refine scopeK.normal ?_ | refine scopeK.exit ?_ | refine scopeK.ret ?_ | refine SA.label ?_)
    | ((with_reducible refine SA.at 14 ?_)
       have hit : i = t.length := by omega
       subst hit
       refine SA.weaken (St.le.frzRow ok.sized 1 rfl) ?_
       simp only [St.frz, Tm.frz, E.frz, E.frzL, Obj.frz, List.map_cons, List.map_nil, List.set_cons_zero, List.set_cons_succ, Nat.reduceBEq, Nat.beq_refl, if_true, if_false, Nat.beq_eq_true_eq, reduceCtorEq, Bool.false_eq_true, V.get, Nat.reduceEqDiff]
       (with_reducible refine SA.regionN ok (by kernel_rfl) lv29 ?_); intro R hR; simp only [go_sem, strip])
    | ((with_reducible refine SA.at 4 ?_)
       have hlt : i < t.length := by omega
       have hmem := getD_mem t hlt
       have hf := right_facts (h6 _ hmem) (List.all_eq_true.1 hr _ hmem)
       (with_reducible refine SA.regionN ok (by kernel_rfl) lv29 ?_); intro R hR; simp only [go_sem, strip])
    | ((with_reducible refine SA.at 9 ?_)
       have hf4 : f < (heldOf t i).length := by rw [heldOf_len]; omega
       (with_reducible refine SA.regionN ok (by kernel_rfl) lv29 ?_); intro R hR; simp only [go_sem, strip])
    | ((with_reducible refine SA.regionN ok (by kernel_rfl) lv29 ?_); intro R hR; simp only [go_sem, strip])
    | ((with_reducible refine SA.condAt 13 rfl (fun hb13 => ?_) (fun hf13 => ?_))
       all_goals
         try
           (simp only [decide_eq_true_eq, decide_eq_false_iff_not, Int.not_lt, Int.not_le] at hb13)
         try
           (simp only [decide_eq_true_eq, decide_eq_false_iff_not, Int.not_lt, Int.not_le] at hf13))
    | ((with_reducible refine SA.condAt 31 rfl (fun hb31 => ?_) (fun hf31 => ?_)))
    | ((with_reducible refine SA.condAt 34 rfl (fun hb34 => ?_) (fun hf34 => ?_))
       all_goals
         try
           (simp only [decide_eq_true_eq, decide_eq_false_iff_not, Int.not_lt, Int.not_le] at hb34)
         try
           (simp only [decide_eq_true_eq, decide_eq_false_iff_not, Int.not_lt, Int.not_le] at hf34))
    | ((with_reducible refine SA.condAt 42 rfl (fun hb42 => ?_) (fun hf42 => ?_)))
    | ((with_reducible refine SA.atLoop ?_)
       refine SA.weaken ((St.le.own (t := 3) 89 rfl).trans ((St.le.keep [0, 3, 10, 11, 12]).trans (St.le.of_eq (by first | rfl | (simp; done) | fail)))) (SA.loop (fun n τ => ∃ (i : Nat), n = t.length - i ∧ (i ≤ t.length) ∧ τ = { tm := [(0, true, .fs 55 (t.map Event.v) false), (3, true, .sl 1 89 0 (edgesTo t i).length false), (10, true, .sl 0 79 0 t.length false), (11, true, .int .i64 t.length), (12, true, .int .i64 i)], ob := [.row 79 (heldsTo t t.length), .row 89 ((edgesTo t i).map Edge.v)], out := [], nt := 60 }) (t.length) ⟨0, rfl, Nat.zero_le _, rfl⟩ ?_)
       rintro n τ ⟨i, hn, hi, rfl⟩)
    | ((with_reducible refine SA.atLoop ?_)
       refine SA.weaken ((St.le.cut 2 rfl).trans (St.le.of_eq (by simp [edgesAt_zero]))) (SA.loop (fun n τ => ∃ (f : Nat), n = 4 - f ∧ (f ≤ 4) ∧ τ = { tm := [(0, true, .fs 55 (t.map Event.v) false), (3, true, .sl 1 89 0 (edgesTo t i ++ edgesAt t i f).length false), (4, true, .int .i64 i), (6, true, .int .i64 (lockOf (t.getD i default))), (10, true, .sl 0 79 0 t.length false), (11, true, .int .i64 t.length), (12, true, .int .i64 i), (32, true, .data 79 (.agg ((heldOf t i).map V.bool))), (33, true, .int .i64 f)], ob := [.row 79 (heldsTo t t.length), .row 89 ((edgesTo t i ++ edgesAt t i f).map Edge.v)], out := [], nt := 60 }) (4) ⟨0, rfl, Nat.zero_le _, rfl⟩ ?_)
       rintro n τ ⟨f, hn, hf0, rfl⟩)
    | ((with_reducible refine loopK.round ?_)
       first
         | (have _ := hb13
            have _ := hb31
            have e0 : edgesTo t (i + 1) = edgesTo t i := by rw [edgesTo_succ, if_neg (by unfold takes; rw [takes_no hb31]; decide), List.append_nil]
            refine loopK.normal (t.length - (i + 1)) _ (by omega) ((St.le.cut 2 rfl).trans (St.le.of_eq (by rw [e0, wrap_succ hlt hm]; rfl))) ⟨i + 1, rfl, hlt, rfl⟩)
         | (have _ := hb13
            have _ := hf31
            have _ := hf34
            have hff : f = 4 := by omega
            have e0 : edgesTo t i ++ edgesAt t i f = edgesTo t (i + 1) := by rw [edgesTo_succ, if_pos (by unfold takes; exact takes_yes hf31), hff]
            refine loopK.normal (t.length - (i + 1)) _ (by omega) ((St.le.cut 2 rfl).trans (St.le.of_eq (by rw [e0, wrap_succ hlt hm]; rfl))) ⟨i + 1, rfl, hlt, rfl⟩)
         | (have _ := hb13
            have _ := hf31
            have _ := hb34
            have _ := hb42
            have e0 := edgesAt_hit hb42
            have e2 : (edgesTo t i ++ edgesAt t i (f + 1)).length = (edgesTo t i ++ edgesAt t i f).length + 1 := by rw [e0]; simp only [List.length_append, List.length_cons, List.length_nil]; omega
            have e3 : List.take (edgesTo t i ++ edgesAt t i f).length (List.map Edge.v (edgesTo t i ++ edgesAt t i f)) ++ List.take 1 (List.drop 0 [V.agg [V.int f, V.int (lockOf (t.getD i default)), V.int (t.getD i default).go, V.int i]]) = (edgesTo t i ++ edgesAt t i (f + 1)).map Edge.v := by
              rw [e0, take_map_len, List.map_append, List.map_append, List.map_append]; simp [Edge.v]
            refine loopK.normal (4 - (f + 1)) _ (by omega) ((St.le.cut 2 rfl).trans (St.le.of_eq (by rw [e3, e2, wrap_succ (show f < 4 by omega) (by decide)]; rfl))) ⟨f + 1, rfl, by omega, rfl⟩)
         | (have _ := hb13
            have _ := hf31
            have _ := hb34
            have _ := hf42
            have e0 := edgesAt_miss hf42
            refine loopK.normal (4 - (f + 1)) _ (by omega) (St.le.of_eq (by rw [e0, wrap_succ (show f < 4 by omega) (by decide)])) ⟨f + 1, rfl, by omega, rfl⟩))
    | ((with_reducible first | refine ctrZK.normal ?_ | refine ctrZK.ret ?_)
       simp only [resA, evalO, resV, backK, outE, toV, ty4, ty3, List.lookup_cons, List.lookup_nil, beq_self_eq_true, forall_const, true_and, and_true]
       simp only [go_sem, seval, -List.reduceReplicate]
       simp [edges, List.take_of_length_le])

end Go.Eng.Tryz.O
