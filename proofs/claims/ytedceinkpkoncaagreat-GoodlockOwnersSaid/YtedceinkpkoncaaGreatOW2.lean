/- A part of the proof: walks through the program's functions, and what they compute. -/
import Derived.Test.YtedceinkpkoncaaGreatSAttr
import Derived.Test.YtedceinkpkoncaaGreatE3
import Derived.Test.YtedceinkpkoncaaGreatE4
namespace Go.Eng.Tryz.O
set_option maxHeartbeats 0
set_option maxRecDepth 20000
open Go.RowKit Go.Eng
set_option linter.unusedSimpArgs false
set_option linter.unusedVariables false

attribute [local go_sem] List.length_map zero52 z52 z3 z4 Int.toNat_natCast Int.natCast_zero Event.v0 Event.v7 Event.v8 Access.v0 Access.v1 Access.v2 beq_acc
def lv70 : List (Nat × List Nat) := [(0, [0]), (1, [3]), (2, [3, 4]), (3, [2]), (4, [3, 6]), (5, [2]), (6, [3, 8]), (7, [2]), (8, [3, 10]), (9, [3, 10]), (10, [2]), (11, [13]), (12, [2]), (13, [2])]
-- scarab/depend.most
theorem most_ctr (k : Int) : Ctr Go.Proofs.Tryz.prog tab 70 [3] [3] [.int k] [.int (most k)] := by
  refine Ctr.body ok Go.Proofs.Tryz.func70 rfl rfl 15 rfl [.tmp 2] rfl (by simp [fromVs]) ?_
  simp only [fromVs, fromV, args0, V.toList_list, V.toInt_int, V.toBool_bool, Nat.zero_add, Nat.reduceAdd, ty3]
  repeat' first
    | ((with_reducible refine SARA.do fun R1 hR1 => ?_); (simp only [go_sem, seval, -List.reduceReplicate]); (repeat' with_reducible refine And.intro ?_ ?_); all_goals first | (refine hR1 _ ?_; clear hR1 R1) | omega | rfl | decide | assumption | (intro _; omega) | (simp; done) | (simp; omega))
    | ((with_reducible refine SARA.nil ?_); refine hR _ ?_; clear hR R; try simp only [go_sem, lv70, lvOf, Nat.reduceBEq, Option.getD_some])
    | (with_reducible first | refine thenK.normal ?_ | refine SA.seq ?_ | refine SA.skip ?_ | refine SA.block ?_ | refine blockK.normal ?_ | refine SA.exit ?_ | refine blockK.hit ?_ | refine blockK.miss (by decide) ?_ | refine thenK.exit ?_ | refine loopK.exit ?_ | refine SA.ret ?_ | refine thenK.ret ?_ | refine blockK.ret ?_ | refine loopK.ret ?_ | refine SA.scope ?_ | refine scopeK.normal ?_ | refine scopeK.exit ?_ | refine scopeK.ret ?_ | refine SA.label ?_)
    | ((with_reducible refine SA.regionN ok (by kernel_rfl) lv70 ?_); intro R hR; simp only [go_sem, strip])
    | ((with_reducible refine SA.condAt 4 rfl (fun hb4 => ?_) (fun hf4 => ?_))
       all_goals
         try
           (try simp only [decide_eq_true_eq, decide_eq_false_iff_not] at hb4)
         try
           (try simp only [decide_eq_true_eq, decide_eq_false_iff_not] at hf4))
    | ((with_reducible refine SA.condAt 6 rfl (fun hb6 => ?_) (fun hf6 => ?_))
       all_goals
         try
           (try simp only [decide_eq_true_eq, decide_eq_false_iff_not] at hb6)
         try
           (try simp only [decide_eq_true_eq, decide_eq_false_iff_not] at hf6))
    | ((with_reducible refine SA.condAt 8 rfl (fun hb8 => ?_) (fun hf8 => ?_))
       all_goals
         try
           (try simp only [decide_eq_true_eq, decide_eq_false_iff_not] at hb8)
         try
           (try simp only [decide_eq_true_eq, decide_eq_false_iff_not] at hf8))
    | ((with_reducible refine SA.condAt 10 rfl (fun hb10 => ?_) (fun hf10 => ?_))
       all_goals
         try
           (try simp only [decide_eq_true_eq, decide_eq_false_iff_not] at hb10)
         try
           (try simp only [decide_eq_true_eq, decide_eq_false_iff_not] at hf10))
    | ((with_reducible refine SA.condAt 13 rfl (fun hb13 => ?_) (fun hf13 => ?_))
       all_goals
         try
           (try simp only [decide_eq_true_eq, decide_eq_false_iff_not] at hb13)
         try
           (try simp only [decide_eq_true_eq, decide_eq_false_iff_not] at hf13))
    | ((with_reducible first | refine ctrK.normal ?_ | refine ctrK.ret ?_)
       simp only [resA, evalO, resV, backK, outE, toV, ty4, ty3, List.lookup_cons, List.lookup_nil, beq_self_eq_true, forall_const, true_and, and_true]
       refine ⟨rfl, ?_⟩
       first | (simp [most, *]; done) | (exfalso; omega))

def lv71 : List (Nat × List Nat) := [(0, [2, 3]), (1, [2, 3, 5]), (2, [4]), (3, [32]), (4, [4]), (5, [4])]
-- scarab/depend.compare
theorem compare_ctr (x y : Access) : Ctr Go.Proofs.Tryz.prog tab 71 [52, 52] [3] [x.v, y.v] [.int (cmp x y)] := by
  refine Ctr.body ok Go.Proofs.Tryz.func71 rfl rfl 45 rfl [.tmp 4] rfl (by simp [fromVs]) ?_
  simp only [fromVs, fromV, args0, V.toList_list, V.toInt_int, V.toBool_bool, Nat.zero_add, Nat.reduceAdd, ty52]
  repeat' first
    | ((with_reducible refine SARA.do fun R1 hR1 => ?_); (simp only [go_sem, seval, -List.reduceReplicate]); (repeat' with_reducible refine And.intro ?_ ?_); all_goals first | (refine hR1 _ ?_; clear hR1 R1) | omega | rfl | decide | assumption | (intro _; omega) | (simp; done) | (simp; omega) | (simp [roomFor, maxLen, by52, by3] <;> omega))
    | ((with_reducible refine SARA.nil ?_); refine hR _ ?_; clear hR R; try simp only [go_sem, lv71, lvOf, Nat.reduceBEq, Option.getD_some])
    | (with_reducible first | refine thenK.normal ?_ | refine SA.seq ?_ | refine SA.skip ?_ | refine SA.block ?_ | refine blockK.normal ?_ | refine SA.exit ?_ | refine blockK.hit ?_ | refine blockK.miss (by decide) ?_ | refine thenK.exit ?_ | refine loopK.exit ?_ | refine SA.ret ?_ | refine thenK.ret ?_ | refine blockK.ret ?_ | refine loopK.ret ?_ | refine SA.scope ?_ | refine scopeK.normal ?_ | refine scopeK.exit ?_ | refine scopeK.ret ?_ | refine SA.label ?_)
    | ((with_reducible refine SA.regionN ok (by kernel_rfl) lv71 ?_); intro R hR; simp only [go_sem, strip])
    | ((with_reducible refine SA.condAt 5 rfl (fun hb5 => ?_) (fun hf5 => ?_))
       all_goals
         try
           (simp at hb5)
         try
           (simp at hf5))
    | ((with_reducible refine SA.condAt 32 rfl (fun hb32 => ?_) (fun hf32 => ?_))
       all_goals
         try
           (simp at hb32)
         try
           (simp at hf32))
    | ((with_reducible first | refine ctrK.normal ?_ | refine ctrK.ret ?_)
       simp only [resA, evalO, resV, backK, outE, toV, ty4, ty3, List.lookup_cons, List.lookup_nil, beq_self_eq_true, forall_const, true_and, and_true]
       refine ⟨rfl, ?_⟩
       first | (simp [cmp, *]; done) | (simp only [if_true, Option.some.injEq, V.int.injEq]; unfold cmp; rw [if_neg (by omega), if_neg (by omega)]))

def lv41 : List (Nat × List Nat) := [(0, [1]), (1, [1, 23]), (2, [2]), (3, [1, 3]), (4, [1, 3, 25, 26]), (5, [1, 3, 25, 26, 27]), (6, [1, 3, 4, 5, 25, 26]), (7, [1, 3, 4, 5, 25, 26, 33]), (8, [1, 3, 25, 26, 36]), (9, [2]), (10, [1, 3, 5, 25, 26, 61]), (11, [2]), (12, [1, 3, 25, 26]), (13, [1, 3, 25, 26]), (14, [2])]
-- scarab/depend.right
theorem right_ctr (e : Event) (he : e.touch.length = 6) : Ctr Go.Proofs.Tryz.prog tab 41 [55] [4] [e.v] [.bool (right e)] := by
  refine Ctr.body ok Go.Proofs.Tryz.func41 rfl rfl 72 rfl [.tmp 2] rfl (by simp [fromVs]) ?_
  simp only [fromVs, fromV, args0, V.toList_list, V.toInt_int, V.toBool_bool, Nat.zero_add, Nat.reduceAdd, ty55]
  repeat' first
    | ((with_reducible refine SARQ.told 10 17 ?_)
       rw [wrap64_ok (n := (i : Int) - 1) (by omega) (by omega)])
    | ((with_reducible refine SARQ.told 10 20 ?_)
       have hk : ((i : Int) - 1).toNat = i - 1 := by omega
       rw [hk, getD_map Access.v e.touch (by omega : i - 1 < e.touch.length)])
    | ((with_reducible first | refine SARA.do fun R1 hR1 => ?_ | refine SARQ.do fun R1 hR1 => ?_); (simp only [go_sem, seval, -List.reduceReplicate]); (repeat' with_reducible refine And.intro ?_ ?_); all_goals first | (refine hR1 _ ?_; clear hR1 R1) | ((first | refine ⟨_, _, rfl, _, CallQ.ctr ok (most_ctr (e.touch.getD i default).kind) (by first | rfl | (simp [go_sem, List.length_map, List.take_of_length_le]; done) | fail) rfl, ?_⟩ | refine ⟨_, _, rfl, _, fun hg => CallQ.ctr ok (most_ctr (e.touch.getD i default).kind) (by first | rfl | (simp [go_sem, List.length_map, List.take_of_length_le]; done) | fail) rfl, ?_⟩ | refine ⟨_, _, rfl, .inl ⟨_, CallQ.ctr ok (most_ctr (e.touch.getD i default).kind) (by first | rfl | (simp [go_sem, List.length_map, List.take_of_length_le]; done) | fail) rfl, ?_⟩⟩ | refine ⟨_, _, rfl, .inl ⟨_, fun hg => CallQ.ctr ok (most_ctr (e.touch.getD i default).kind) (by first | rfl | (simp [go_sem, List.length_map, List.take_of_length_le]; done) | fail) rfl, ?_⟩⟩ | refine ⟨_, _, rfl, _, CallQ.ctr ok (compare_ctr (e.touch.getD (i - 1) default) (e.touch.getD i default)) (by first | rfl | (simp [go_sem, List.length_map, List.take_of_length_le]; done) | fail) rfl, ?_⟩ | refine ⟨_, _, rfl, _, fun hg => CallQ.ctr ok (compare_ctr (e.touch.getD (i - 1) default) (e.touch.getD i default)) (by first | rfl | (simp [go_sem, List.length_map, List.take_of_length_le]; done) | fail) rfl, ?_⟩ | refine ⟨_, _, rfl, .inl ⟨_, CallQ.ctr ok (compare_ctr (e.touch.getD (i - 1) default) (e.touch.getD i default)) (by first | rfl | (simp [go_sem, List.length_map, List.take_of_length_le]; done) | fail) rfl, ?_⟩⟩ | refine ⟨_, _, rfl, .inl ⟨_, fun hg => CallQ.ctr ok (compare_ctr (e.touch.getD (i - 1) default) (e.touch.getD i default)) (by first | rfl | (simp [go_sem, List.length_map, List.take_of_length_le]; done) | fail) rfl, ?_⟩⟩); all_goals ((try simp only [go_sem, seval, -List.reduceReplicate]); (repeat' with_reducible refine And.intro ?_ ?_); all_goals first | (refine hR1 _ ?_; clear hR1 R1) | omega | rfl | decide | assumption | (intro _; omega) | (simp; done) | (simp; omega) | (simp [roomFor, maxLen, by52, by3] <;> omega))) | omega | rfl | decide | assumption | (intro _; omega) | (simp; done) | (simp; omega) | (simp [roomFor, maxLen, by52, by3] <;> omega))
    | ((with_reducible refine SARA.nilAt 6 ?_); refine hR _ ?_; clear hR R; try simp only [go_sem, lv41, lvOf, Nat.reduceBEq, Option.getD_some]
       have hl : i < e.touch.length := by omega
       rw [getD_map Access.v e.touch hl])
    | ((with_reducible refine SARA.nil ?_); refine hR _ ?_; clear hR R; try simp only [go_sem, lv41, lvOf, Nat.reduceBEq, Option.getD_some])
    | ((with_reducible refine SARQ.nil ?_); refine hR _ ?_; clear hR R; try simp only [go_sem, lv41, lvOf, Nat.reduceBEq, Option.getD_some])
    | (with_reducible first | refine thenK.normal ?_ | refine SA.seq ?_ | refine SA.skip ?_ | refine SA.block ?_ | refine blockK.normal ?_ | refine SA.exit ?_ | refine blockK.hit ?_ | refine blockK.miss (by decide) ?_ | refine thenK.exit ?_ | refine loopK.exit ?_ | refine SA.ret ?_ | refine thenK.ret ?_ | refine blockK.ret ?_ | refine loopK.ret ?_ | refine SA.scope ?_ | refine scopeK.normal ?_ | refine scopeK.exit ?_ | refine scopeK.ret ?_ | refine SA.label ?_)
    | ((with_reducible refine SA.regionN ok (by kernel_rfl) lv41 ?_); intro R hR; simp only [go_sem, strip])
    | ((with_reducible refine SA.regionD ok mixed (by kernel_rfl) (by kernel_rfl) lv41 ?_); intro R hR; simp only [go_sem, strip])
    | ((with_reducible refine SA.condAt 23 rfl (fun hb23 => ?_) (fun hf23 => ?_))
       all_goals
         try
           (simp at hb23)
         try
           (simp at hf23))
    | ((with_reducible refine SA.condAt 27 rfl (fun hb27 => ?_) (fun hf27 => ?_))
       all_goals
         try
           (simp at hb27)
         try
           (simp at hf27))
    | ((with_reducible refine SA.condAt 33 rfl (fun hb33 => ?_) (fun hf33 => ?_))
       all_goals
         try
           (simp at hb33)
         try
           (simp at hf33))
    | ((with_reducible refine SA.condAt 36 rfl (fun hb36 => ?_) (fun hf36 => ?_))
       all_goals
         try
           (simp at hb36)
         try
           (simp at hf36))
    | ((with_reducible refine SA.condAt 61 rfl (fun hb61 => ?_) (fun hf61 => ?_))
       all_goals
         try
           (simp at hb61)
         try
           (simp at hf61))
    | ((with_reducible refine SA.atLoop ?_)
       refine SA.weaken (St.le.of_eq (by first | rfl | (simp; done) | fail)) (SA.loop (fun n τ => ∃ (i : Nat), n = 6 - i ∧ (i ≤ 6 ∧ (0 ≤ e.go ∧ e.go < 6 ∧ 1 ≤ e.touches ∧ e.touches ≤ 6) ∧ (List.range i).all (placeOk e) = true) ∧ τ = { tm := [(1, true, .ptr 0 [] 55), (3, true, .bool ((List.range i).any (ownAt e))), (25, true, .data 53 (.agg (e.touch.map Access.v))), (26, true, .int .i64 i)], ob := [.var 55 (.data 55 e.v)], out := [], nt := 72 }) (6) ⟨0, rfl, ⟨by omega, by omega, rfl⟩, rfl⟩ ?_)
       rintro n τ ⟨i, hn, ⟨hi, hc, hd⟩, rfl⟩)
    | ((with_reducible refine loopK.round ?_)
       first
         | (have _ := hf23
            have _ := hb27
            have _ := hb33
            have _ := hf36
            have hlt : i < 6 := by omega
            have hp : placeOk e i = true := by simp [placeOk, hb33, hf36]
            have ho : ownAt e i = false := by simp [ownAt]; omega
            refine loopK.normal (6 - (i + 1)) _ (by omega) ((St.le.cut 1 rfl).trans (St.le.of_eq (by simp only [wrap_succ hlt (by decide : 6 ≤ maxLen), any_range_succ, ho, Bool.or_false, List.take_succ_cons, List.take_zero]))) ⟨i + 1, rfl, ⟨hlt, hc, ?_⟩, rfl⟩
            rw [all_range_succ, hd, hp]; rfl)
         | (have _ := hf23
            have _ := hb27
            have _ := hf33
            have _ := hf61
            have hlt : i < 6 := by omega
            have hp : placeOk e i = true := by
              simp [placeOk, show ¬ e.touches ≤ i by omega]
              omega
            have ho : (bif (List.range i).any (ownAt e) then true else decide (e.touch.getD i default = { kind := 5, num := e.go, write := true })) = (List.range (i + 1)).any (ownAt e) := by
              rw [any_range_succ]
              have : decide ((i : Int) < e.touches) = true := by simpa using hf33
              simp only [ownAt, this, Bool.true_and]
              cases (List.range i).any (ownAt e) <;> rfl
            refine loopK.normal (6 - (i + 1)) _ (by omega) ((St.le.cut 1 rfl).trans (St.le.of_eq (by simp only [wrap_succ hlt (by decide : 6 ≤ maxLen), ho, List.take_succ_cons, List.take_zero]))) ⟨i + 1, rfl, ⟨hlt, hc, ?_⟩, rfl⟩
            rw [all_range_succ, hd, hp]; rfl))
    | ((with_reducible first | refine ctrK.normal ?_ | refine ctrK.ret ?_)
       simp only [resA, evalO, resV, backK, outE, toV, ty4, ty3, List.lookup_cons, List.lookup_nil, beq_self_eq_true, forall_const, true_and, and_true]
       first
         | (have _ := hb23
            refine ⟨rfl, ?_⟩
            have : right e = false := Bool.eq_false_iff.2 fun h => by simp [right] at h; omega
            rw [this]; rfl)
         | (have _ := hf23
            have _ := hb27
            have _ := hb33
            have _ := hb36
            refine ⟨rfl, ?_⟩
            have hp : placeOk e i = false := by simp [placeOk, hb33, hb36]
            have : right e = false := by simp [right, all_range_false (show i < 6 by omega) hp]
            rw [this]; rfl)
         | (have _ := hf23
            have _ := hb27
            have _ := hf33
            have _ := hb61
            refine ⟨rfl, ?_⟩
            have hp : placeOk e i = false := by
              rw [Bool.eq_false_iff]; intro h
              simp [placeOk, show ¬ e.touches ≤ i by omega] at h
              omega
            have : right e = false := by simp [right, all_range_false (show i < 6 by omega) hp]
            rw [this]; rfl)
         | (have _ := hf23
            have _ := hf27
            refine ⟨rfl, ?_⟩
            have h6 : i = 6 := by omega
            subst h6
            have : right e = (List.range 6).any (ownAt e) := by
              simp only [right, hd, Bool.true_and, decide_eq_true hc.1, decide_eq_true hc.2.1, decide_eq_true hc.2.2.1, decide_eq_true hc.2.2.2]
            rw [this]; rfl))

end Go.Eng.Tryz.O
