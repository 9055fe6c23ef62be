/- A part of the proof: walks through the program's functions, and what they compute. -/
import Derived.Test.YtedceinkpkoncaaGreatSAttr
import Derived.Test.YtedceinkpkoncaaGreatM2
namespace Go.Eng.Tryz
open Go.RowKit Go.Eng
set_option linter.unusedSimpArgs false
set_option linter.unusedVariables false
set_option maxHeartbeats 0
set_option maxRecDepth 20000

def lv100 : List (Nat × List Nat) := [(0, [0, 1, 2]), (1, [6])]
-- scarab/scarabref02.put
theorem put_ctr (x k y : Int) : Ctr Go.Proofs.Tryz.prog tab 100 [2, 3, 2] [2] [.int x, .int k, .int y] [.int (putW x k y)] := by
  refine Ctr.body ok Go.Proofs.Tryz.func100 rfl rfl 16 rfl [.tmp 6] rfl (by simp [fromVs]) ?_
  simp only [fromVs, fromV, args0, V.toList_list, V.toInt_int, V.toBool_bool, Nat.zero_add, Nat.reduceAdd, ty2, ty3]
  repeat' first
    | ((with_reducible refine SARA.do fun R1 hR1 => ?_); (simp only [go_sem, seval, -List.reduceReplicate]); (repeat' with_reducible refine And.intro ?_ ?_); all_goals first | (refine hR1 _ ?_; clear hR1 R1) | omega | rfl | decide | assumption | (intro _; omega) | (simp; done) | (simp; omega))
    | ((with_reducible refine SARA.nil ?_); refine hR _ ?_; clear hR R; try simp only [go_sem, lv100, lvOf, Nat.reduceBEq, Option.getD_some])
    | (with_reducible first | refine thenK.normal ?_ | refine SA.seq ?_ | refine SA.skip ?_ | refine SA.block ?_ | refine blockK.normal ?_ | refine SA.exit ?_ | refine blockK.hit ?_ | refine blockK.miss (by decide) ?_ | refine thenK.exit ?_ | refine loopK.exit ?_ | refine SA.ret ?_ | refine thenK.ret ?_ | refine blockK.ret ?_ | refine loopK.ret ?_ | refine SA.scope ?_ | refine scopeK.normal ?_ | refine scopeK.exit ?_ | refine scopeK.ret ?_ | refine SA.label ?_)
    | ((with_reducible refine SA.regionN ok (by kernel_rfl) lv100 ?_); intro R hR; simp only [go_sem, strip])
    | ((with_reducible first | refine ctrK.normal ?_ | refine ctrK.ret ?_)
       simp only [go_sem, resA, resV, backK, seval]
       exact ⟨rfl, rfl⟩)

def lv99 : List (Nat × List Nat) := [(0, [0, 1]), (1, [4])]
-- scarab/scarabref02.bit
theorem bit_ctr (x k : Int) : Ctr Go.Proofs.Tryz.prog tab 99 [2, 3] [2] [.int x, .int k] [.int (bitW x k)] := by
  refine Ctr.body ok Go.Proofs.Tryz.func99 rfl rfl 12 rfl [.tmp 4] rfl (by simp [fromVs]) ?_
  simp only [fromVs, fromV, args0, V.toList_list, V.toInt_int, V.toBool_bool, Nat.zero_add, Nat.reduceAdd, ty2, ty3]
  repeat' first
    | ((with_reducible refine SARA.do fun R1 hR1 => ?_); (simp only [go_sem, seval, -List.reduceReplicate]); (repeat' with_reducible refine And.intro ?_ ?_); all_goals first | (refine hR1 _ ?_; clear hR1 R1) | omega | rfl | decide | assumption | (intro _; omega) | (simp; done) | (simp; omega))
    | ((with_reducible refine SARA.nil ?_); refine hR _ ?_; clear hR R; try simp only [go_sem, lv99, lvOf, Nat.reduceBEq, Option.getD_some])
    | (with_reducible first | refine thenK.normal ?_ | refine SA.seq ?_ | refine SA.skip ?_ | refine SA.block ?_ | refine blockK.normal ?_ | refine SA.exit ?_ | refine blockK.hit ?_ | refine blockK.miss (by decide) ?_ | refine thenK.exit ?_ | refine loopK.exit ?_ | refine SA.ret ?_ | refine thenK.ret ?_ | refine blockK.ret ?_ | refine loopK.ret ?_ | refine SA.scope ?_ | refine scopeK.normal ?_ | refine scopeK.exit ?_ | refine scopeK.ret ?_ | refine SA.label ?_)
    | ((with_reducible refine SA.regionN ok (by kernel_rfl) lv99 ?_); intro R hR; simp only [go_sem, strip])
    | ((with_reducible first | refine ctrK.normal ?_ | refine ctrK.ret ?_)
       simp only [go_sem, resA, resV, backK, seval]
       exact ⟨rfl, rfl⟩)

def lv101 : List (Nat × List Nat) := [(0, [0]), (1, [3]), (2, [2]), (3, [2])]
-- scarab/scarabref02.yes
theorem yes2_ctr (b : Bool) : Ctr Go.Proofs.Tryz.prog tab 101 [4] [2] [.bool b] [.int (yes b)] := by
  refine Ctr.body ok Go.Proofs.Tryz.func101 rfl rfl 4 rfl [.tmp 2] rfl (by simp [fromVs]) ?_
  simp only [fromVs, fromV, args0, V.toList_list, V.toInt_int, V.toBool_bool, Nat.zero_add, Nat.reduceAdd, ty4]
  repeat' first
    | ((with_reducible refine SARA.do fun R1 hR1 => ?_); (simp only [go_sem, seval, -List.reduceReplicate]); (repeat' with_reducible refine And.intro ?_ ?_); all_goals first | (refine hR1 _ ?_; clear hR1 R1) | omega | rfl | decide | assumption | (intro _; omega) | (simp; done) | (simp; omega))
    | ((with_reducible refine SARA.nil ?_); refine hR _ ?_; clear hR R; try simp only [go_sem, lv101, lvOf, Nat.reduceBEq, Option.getD_some])
    | (with_reducible first | refine thenK.normal ?_ | refine SA.seq ?_ | refine SA.skip ?_ | refine SA.block ?_ | refine blockK.normal ?_ | refine SA.exit ?_ | refine blockK.hit ?_ | refine blockK.miss (by decide) ?_ | refine thenK.exit ?_ | refine loopK.exit ?_ | refine SA.ret ?_ | refine thenK.ret ?_ | refine blockK.ret ?_ | refine loopK.ret ?_ | refine SA.scope ?_ | refine scopeK.normal ?_ | refine scopeK.exit ?_ | refine scopeK.ret ?_ | refine SA.label ?_)
    | ((with_reducible refine SA.regionN ok (by kernel_rfl) lv101 ?_); intro R hR; simp only [go_sem, strip])
    | ((with_reducible refine SA.cond rfl ?_ ?_)
       all_goals
         intro hb
         try simp only [decide_eq_true_eq, decide_eq_false_iff_not] at hb)
    | ((with_reducible first | refine ctrK.normal ?_ | refine ctrK.ret ?_)
       simp only [go_sem, resA, resV, backK, seval]
       subst hb
       exact ⟨rfl, rfl⟩)

def lv106 : List (Nat × List Nat) := [(0, [0]), (1, [0, 4]), (2, [2]), (3, [2])]
-- scarab/scarabref02.few
theorem few2_ctr (x : Int) : Ctr Go.Proofs.Tryz.prog tab 106 [2] [2] [.int x] [.int (fewW x)] := by
  refine Ctr.body ok Go.Proofs.Tryz.func106 rfl rfl 6 rfl [.tmp 2] rfl (by simp [fromVs]) ?_
  simp only [fromVs, fromV, args0, V.toList_list, V.toInt_int, V.toBool_bool, Nat.zero_add, Nat.reduceAdd, ty2]
  repeat' first
    | ((with_reducible refine SARA.do fun R1 hR1 => ?_); (simp only [go_sem, seval, -List.reduceReplicate]); (repeat' with_reducible refine And.intro ?_ ?_); all_goals first | (refine hR1 _ ?_; clear hR1 R1) | omega | rfl | decide | assumption | (intro _; omega) | (simp; done) | (simp; omega))
    | ((with_reducible refine SARA.nil ?_); refine hR _ ?_; clear hR R; try simp only [go_sem, lv106, lvOf, Nat.reduceBEq, Option.getD_some])
    | (with_reducible first | refine thenK.normal ?_ | refine SA.seq ?_ | refine SA.skip ?_ | refine SA.block ?_ | refine blockK.normal ?_ | refine SA.exit ?_ | refine blockK.hit ?_ | refine blockK.miss (by decide) ?_ | refine thenK.exit ?_ | refine loopK.exit ?_ | refine SA.ret ?_ | refine thenK.ret ?_ | refine blockK.ret ?_ | refine loopK.ret ?_ | refine SA.scope ?_ | refine scopeK.normal ?_ | refine scopeK.exit ?_ | refine scopeK.ret ?_ | refine SA.label ?_)
    | ((with_reducible refine SA.regionN ok (by kernel_rfl) lv106 ?_); intro R hR; simp only [go_sem, strip])
    | ((with_reducible refine SA.cond rfl ?_ ?_)
       all_goals
         intro hb
         try simp at hb)
    | ((with_reducible first | refine ctrK.normal ?_ | refine ctrK.ret ?_)
       simp only [go_sem, resA, resV, backK, seval]
       (repeat' with_reducible refine And.intro ?_ ?_)
       all_goals first | rfl | (simp only [fewW]; (repeat' split) <;> first | rfl | omega | (exfalso; omega)) | (simp [fewW, *]; done) | (simp [fewW, *]; omega))

def lv91 : List (Nat × List Nat) := [(0, [0]), (1, [0, 8]), (2, [2]), (3, [10]), (4, [2]), (5, [2])]
-- scarab/scarabref02.Arity
theorem arity_ctr (x : Int) : Ctr Go.Proofs.Tryz.prog tab 91 [3] [3] [.int x] [.int (arityW x)] := by
  refine Ctr.body ok Go.Proofs.Tryz.func91 rfl rfl 11 rfl [.tmp 2] rfl (by simp [fromVs]) ?_
  simp only [fromVs, fromV, args0, V.toList_list, V.toInt_int, V.toBool_bool, Nat.zero_add, Nat.reduceAdd, ty3]
  repeat' first
    | ((with_reducible refine SARA.do fun R1 hR1 => ?_); (simp only [go_sem, seval, -List.reduceReplicate]); (repeat' with_reducible refine And.intro ?_ ?_); all_goals first | (refine hR1 _ ?_; clear hR1 R1) | omega | rfl | decide | assumption | (intro _; omega) | (simp; done) | (simp; omega))
    | ((with_reducible refine SARA.nil ?_); refine hR _ ?_; clear hR R; try simp only [go_sem, lv91, lvOf, Nat.reduceBEq, Option.getD_some])
    | (with_reducible first | refine thenK.normal ?_ | refine SA.seq ?_ | refine SA.skip ?_ | refine SA.block ?_ | refine blockK.normal ?_ | refine SA.exit ?_ | refine blockK.hit ?_ | refine blockK.miss (by decide) ?_ | refine thenK.exit ?_ | refine loopK.exit ?_ | refine SA.ret ?_ | refine thenK.ret ?_ | refine blockK.ret ?_ | refine loopK.ret ?_ | refine SA.scope ?_ | refine scopeK.normal ?_ | refine scopeK.exit ?_ | refine scopeK.ret ?_ | refine SA.label ?_)
    | ((with_reducible refine SA.regionN ok (by kernel_rfl) lv91 ?_); intro R hR; simp only [go_sem, strip])
    | ((with_reducible refine SA.cond rfl ?_ ?_)
       all_goals
         intro hb
         try simp at hb)
    | ((with_reducible first | refine ctrK.normal ?_ | refine ctrK.ret ?_)
       simp only [go_sem, resA, resV, backK, seval]
       (repeat' with_reducible refine And.intro ?_ ?_)
       all_goals first | rfl | (simp only [arityW]; (repeat' split) <;> first | rfl | omega | (exfalso; omega)) | (simp [arityW, *]; done) | (simp [arityW, *]; omega))

def lv102 : List (Nat × List Nat) := [(0, [0, 1, 2]), (1, [0, 1, 2, 7]), (2, [0, 1, 2, 7, 8]), (3, [0, 1, 2, 7, 8, 11]), (4, [0, 1, 2, 7, 8]), (5, [0, 1, 2, 7, 8, 9]), (6, [0, 1, 2, 7, 8, 9, 16]), (7, [0, 1, 2, 7, 8, 9]), (8, [0, 1, 2, 7, 8, 9, 20]), (9, [0, 1, 2, 7, 8, 9]), (10, [0, 1, 2, 7, 8]), (11, [6])]
-- scarab/scarabref02.converted
theorem conv_ctr (a m : Int) (sign : Bool) : Ctr Go.Proofs.Tryz.prog tab 102 [2, 3, 4] [2] [.int a, .int m, .bool sign] [.int (convW a m sign)] := by
  refine Ctr.body ok Go.Proofs.Tryz.func102 rfl rfl 30 rfl [.tmp 6] rfl (by simp [fromVs]) ?_
  simp only [fromVs, fromV, args0, V.toList_list, V.toInt_int, V.toBool_bool, Nat.zero_add, Nat.reduceAdd, ty2, ty3, ty4]
  repeat' first
    | ((with_reducible refine SARA.do fun R1 hR1 => ?_); (simp only [go_sem, seval, -List.reduceReplicate]); (repeat' with_reducible refine And.intro ?_ ?_); all_goals first | (refine hR1 _ ?_; clear hR1 R1) | ((first | refine ⟨_, _, rfl, .inl ⟨_, CallQ.ctr ok (bit_ctr _ _) (by first | rfl | (simp [go_sem]; done) | fail) rfl, ?_⟩⟩ | refine ⟨_, _, rfl, .inl ⟨_, CallQ.ctr ok (put_ctr _ _ _) (by first | rfl | (simp [go_sem]; done) | fail) rfl, ?_⟩⟩); all_goals ((try simp only [go_sem, seval, -List.reduceReplicate]); (repeat' with_reducible refine And.intro ?_ ?_); all_goals first | (refine hR1 _ ?_; clear hR1 R1) | omega | rfl | decide | assumption | (intro _; omega) | (simp; done) | (simp; omega) | (simp [roomFor, maxLen] <;> omega))) | omega | rfl | decide | assumption | (intro _; omega) | (simp; done) | (simp; omega) | (simp [roomFor, maxLen] <;> omega))
    | ((with_reducible refine SARA.nil ?_); refine hR _ ?_; clear hR R; try simp only [go_sem, lv102, lvOf, Nat.reduceBEq, Option.getD_some])
    | (with_reducible first | refine thenK.normal ?_ | refine SA.seq ?_ | refine SA.skip ?_ | refine SA.block ?_ | refine blockK.normal ?_ | refine SA.exit ?_ | refine blockK.hit ?_ | refine blockK.miss (by decide) ?_ | refine thenK.exit ?_ | refine loopK.exit ?_ | refine SA.ret ?_ | refine thenK.ret ?_ | refine blockK.ret ?_ | refine loopK.ret ?_ | refine SA.scope ?_ | refine scopeK.normal ?_ | refine scopeK.exit ?_ | refine scopeK.ret ?_ | refine SA.label ?_)
    | ((with_reducible refine SA.regionN ok (by kernel_rfl) lv102 ?_); intro R hR; simp only [go_sem, strip])
    | ((with_reducible refine SA.condAt 16 rfl (fun hb16 => ?_) (fun hb16 => ?_))
       all_goals
         try simp at hb16)
    | ((with_reducible refine SA.condAt 20 rfl (fun hb20 => ?_) (fun hb20 => ?_))
       all_goals
         try simp at hb20)
    | ((with_reducible refine SA.cond rfl ?_ ?_)
       all_goals
         intro hb
         try simp at hb)
    | ((with_reducible refine SA.atLoop ?_)
       refine SA.weaken (St.le.of_eq (by first | rfl | (simp [upto]; done))) (SA.loop (fun n τ => ∃ (k : Nat), n = 64 - k ∧ (k ≤ 64) ∧ τ = { tm := [(0, true, .int .i64 a), (1, true, .int .i64 m), (2, true, .bool sign), (7, true, .int .i64 (upto (convR a m sign) 0 k)), (8, true, .int .i64 k)], ob := [], out := [], nt := 30 }) (64) ⟨0, rfl, by omega, rfl⟩ ?_)
       rintro n τ ⟨k, hn, hk, rfl⟩)
    | ((with_reducible refine loopK.round ?_)
       first
         | (have hk : k < 64 := by omega
            have hw : IntKind.i64.wrap ((k : Int) + 1) = ((k + 1 : Nat) : Int) := wrap_succ hk (by decide)
            refine loopK.normal (64 - (k + 1)) _ (by omega) (St.le.of_eq (by simp only [hw, upto]; first | rfl | (simp [convR, *]; done) | (simp only [convR, *]; (repeat' split) <;> first | rfl | omega | (exfalso; omega) | (simp_all; done)))) ⟨k + 1, rfl, by omega, rfl⟩))
    | ((with_reducible first | refine ctrK.normal ?_ | refine ctrK.ret ?_)
       simp only [go_sem, resA, resV, backK, seval]
       have hk64 : k = 64 := by omega
       subst hk64
       exact ⟨rfl, rfl⟩)

def lv104 : List (Nat × List Nat) := [(0, [0, 1, 2]), (1, [0, 1, 2, 7]), (2, [0, 1, 2, 7, 8]), (3, [0, 1, 2, 7, 8, 13]), (4, [0, 1, 2, 7, 8]), (5, [0, 1, 2, 7, 8, 9, 10]), (6, [0, 1, 2, 7, 8, 9, 10, 11]), (7, [0, 1, 2, 7, 8, 9, 10, 11, 22]), (8, [0, 1, 2, 7, 8, 9, 10, 11, 22, 23]), (9, [0, 1, 2, 7, 8, 11]), (10, [0, 1, 2, 7, 8, 9, 10, 11, 22, 29]), (11, [0, 1, 2, 7, 8, 11]), (12, [0, 1, 2, 7, 8, 9, 10, 11, 22, 35]), (13, [0, 1, 2, 7, 8, 11]), (14, [0, 1, 2, 7, 8, 9, 10, 11, 41]), (15, [0, 1, 2, 7, 8, 11]), (16, [0, 1, 2, 7, 8]), (17, [6])]
-- scarab/scarabref02.bits
theorem bits_ctr (op a b : Int) : Ctr Go.Proofs.Tryz.prog tab 104 [3, 2, 2] [2] [.int op, .int a, .int b] [.int (bitsW op a b)] := by
  refine Ctr.body ok Go.Proofs.Tryz.func104 rfl rfl 55 rfl [.tmp 6] rfl (by simp [fromVs]) ?_
  simp only [fromVs, fromV, args0, V.toList_list, V.toInt_int, V.toBool_bool, Nat.zero_add, Nat.reduceAdd, ty2, ty3]
  repeat' first
    | ((with_reducible refine SARA.do fun R1 hR1 => ?_); (simp only [go_sem, seval, -List.reduceReplicate]); (repeat' with_reducible refine And.intro ?_ ?_); all_goals first | (refine hR1 _ ?_; clear hR1 R1) | ((first | refine ⟨_, _, rfl, .inl ⟨_, CallQ.ctr ok (bit_ctr _ _) (by first | rfl | (simp [go_sem]; done) | fail) rfl, ?_⟩⟩ | refine ⟨_, _, rfl, .inl ⟨_, CallQ.ctr ok (put_ctr _ _ _) (by first | rfl | (simp [go_sem]; done) | fail) rfl, ?_⟩⟩ | refine ⟨_, _, rfl, .inl ⟨_, CallQ.ctr ok (yes2_ctr _) (by first | rfl | (simp [go_sem]; done) | fail) rfl, ?_⟩⟩); all_goals ((try simp only [go_sem, seval, -List.reduceReplicate]); (repeat' with_reducible refine And.intro ?_ ?_); all_goals first | (refine hR1 _ ?_; clear hR1 R1) | omega | rfl | decide | assumption | (intro _; omega) | (simp; done) | (simp; omega) | (simp [roomFor, maxLen] <;> omega))) | omega | rfl | decide | assumption | (intro _; omega) | (simp; done) | (simp; omega) | (simp [roomFor, maxLen] <;> omega))
    | ((with_reducible refine SARA.nil ?_); refine hR _ ?_; clear hR R; try simp only [go_sem, lv104, lvOf, Nat.reduceBEq, Option.getD_some])
    | (with_reducible first | refine thenK.normal ?_ | refine SA.seq ?_ | refine SA.skip ?_ | refine SA.block ?_ | refine blockK.normal ?_ | refine SA.exit ?_ | refine blockK.hit ?_ | refine blockK.miss (by decide) ?_ | refine thenK.exit ?_ | refine loopK.exit ?_ | refine SA.ret ?_ | refine thenK.ret ?_ | refine blockK.ret ?_ | refine loopK.ret ?_ | refine SA.scope ?_ | refine scopeK.normal ?_ | refine scopeK.exit ?_ | refine scopeK.ret ?_ | refine SA.label ?_)
    | ((with_reducible refine SA.regionN ok (by kernel_rfl) lv104 ?_); intro R hR; simp only [go_sem, strip])
    | ((with_reducible refine SA.condAt 23 rfl (fun hb23 => ?_) (fun hb23 => ?_))
       all_goals
         try simp at hb23)
    | ((with_reducible refine SA.condAt 29 rfl (fun hb29 => ?_) (fun hb29 => ?_))
       all_goals
         try simp at hb29)
    | ((with_reducible refine SA.condAt 35 rfl (fun hb35 => ?_) (fun hb35 => ?_))
       all_goals
         try simp at hb35)
    | ((with_reducible refine SA.condAt 41 rfl (fun hb41 => ?_) (fun hb41 => ?_))
       all_goals
         try simp at hb41)
    | ((with_reducible refine SA.cond rfl ?_ ?_)
       all_goals
         intro hb
         try simp at hb)
    | ((with_reducible refine SA.atLoop ?_)
       refine SA.weaken (St.le.of_eq (by first | rfl | (simp [upto]; done))) (SA.loop (fun n τ => ∃ (k : Nat), n = 64 - k ∧ (k ≤ 64) ∧ τ = { tm := [(0, true, .int .i64 op), (1, true, .int .i64 a), (2, true, .int .i64 b), (7, true, .int .i64 (upto (bitsR op a b) 0 k)), (8, true, .int .i64 k)], ob := [], out := [], nt := 55 }) (64) ⟨0, rfl, by omega, rfl⟩ ?_)
       rintro n τ ⟨k, hn, hk, rfl⟩)
    | ((with_reducible refine loopK.round ?_)
       first
         | (have hk : k < 64 := by omega
            have hw : IntKind.i64.wrap ((k : Int) + 1) = ((k + 1 : Nat) : Int) := wrap_succ hk (by decide)
            refine loopK.normal (64 - (k + 1)) _ (by omega) (St.le.of_eq (by simp only [hw, upto]; first | rfl | (simp [bitsR, bitOp, *]; done) | (simp only [bitsR, bitOp, *]; (repeat' split) <;> first | rfl | omega | (exfalso; omega) | (simp_all; done)))) ⟨k + 1, rfl, by omega, rfl⟩))
    | ((with_reducible first | refine ctrK.normal ?_ | refine ctrK.ret ?_)
       simp only [go_sem, resA, resV, backK, seval]
       have hk64 : k = 64 := by omega
       subst hk64
       exact ⟨rfl, rfl⟩)

def lv105 : List (Nat × List Nat) := [(0, [0, 1, 2]), (1, [0, 1, 2, 7]), (2, [0, 1, 2, 7, 8]), (3, [0, 1, 2, 7, 8, 11]), (4, [0, 1, 2, 7, 8]), (5, [0, 1, 2, 7, 8, 9]), (6, [0, 1, 2, 7, 8, 9, 24]), (7, [0, 1, 2, 7, 8, 9]), (8, [0, 1, 2, 7, 8]), (9, [6])]
-- scarab/scarabref02.shifted
theorem shift_ctr (a b c : Int) : Ctr Go.Proofs.Tryz.prog tab 105 [2, 2, 2] [2] [.int a, .int b, .int c] [.int (shiftW a b c)] := by
  refine Ctr.body ok Go.Proofs.Tryz.func105 rfl rfl 35 rfl [.tmp 6] rfl (by simp [fromVs]) ?_
  simp only [fromVs, fromV, args0, V.toList_list, V.toInt_int, V.toBool_bool, Nat.zero_add, Nat.reduceAdd, ty2]
  repeat' first
    | ((with_reducible refine SARA.do fun R1 hR1 => ?_); (simp only [go_sem, seval, -List.reduceReplicate]); (repeat' with_reducible refine And.intro ?_ ?_); all_goals first | (refine hR1 _ ?_; clear hR1 R1) | ((first | refine ⟨_, _, rfl, .inl ⟨_, CallQ.ctr ok (bit_ctr _ _) (by first | rfl | (simp [go_sem]; done) | fail) rfl, ?_⟩⟩ | refine ⟨_, _, rfl, .inl ⟨_, CallQ.ctr ok (put_ctr _ _ _) (by first | rfl | (simp [go_sem]; done) | fail) rfl, ?_⟩⟩); all_goals ((try simp only [go_sem, seval, -List.reduceReplicate]); (repeat' with_reducible refine And.intro ?_ ?_); all_goals first | (refine hR1 _ ?_; clear hR1 R1) | omega | rfl | decide | assumption | (intro _; omega) | (simp; done) | (simp; omega) | (simp [roomFor, maxLen] <;> omega))) | omega | rfl | decide | assumption | (intro _; omega) | (simp; done) | (simp; omega) | (simp [roomFor, maxLen] <;> omega))
    | ((with_reducible refine SARA.nil ?_); refine hR _ ?_; clear hR R; try simp only [go_sem, lv105, lvOf, Nat.reduceBEq, Option.getD_some])
    | (with_reducible first | refine thenK.normal ?_ | refine SA.seq ?_ | refine SA.skip ?_ | refine SA.block ?_ | refine blockK.normal ?_ | refine SA.exit ?_ | refine blockK.hit ?_ | refine blockK.miss (by decide) ?_ | refine thenK.exit ?_ | refine loopK.exit ?_ | refine SA.ret ?_ | refine thenK.ret ?_ | refine blockK.ret ?_ | refine loopK.ret ?_ | refine SA.scope ?_ | refine scopeK.normal ?_ | refine scopeK.exit ?_ | refine scopeK.ret ?_ | refine SA.label ?_)
    | ((with_reducible refine SA.regionN ok (by kernel_rfl) lv105 ?_); intro R hR; simp only [go_sem, strip])
    | ((with_reducible refine SA.condAt 24 rfl (fun hb24 => ?_) (fun hb24 => ?_))
       all_goals
         try simp at hb24)
    | ((with_reducible refine SA.cond rfl ?_ ?_)
       all_goals
         intro hb
         try simp at hb)
    | ((with_reducible refine SA.atLoop ?_)
       refine SA.weaken (St.le.of_eq (by first | rfl | (simp [upto]; done))) (SA.loop (fun n τ => ∃ (k : Nat), n = 64 - k ∧ (k ≤ 64) ∧ τ = { tm := [(0, true, .int .i64 a), (1, true, .int .i64 b), (2, true, .int .i64 c), (7, true, .int .i64 (upto (shiftR a b c) 0 k)), (8, true, .int .i64 k)], ob := [], out := [], nt := 35 }) (64) ⟨0, rfl, by omega, rfl⟩ ?_)
       rintro n τ ⟨k, hn, hk, rfl⟩)
    | ((with_reducible refine loopK.round ?_)
       first
         | (have hk : k < 64 := by omega
            have hw : IntKind.i64.wrap ((k : Int) + 1) = ((k + 1 : Nat) : Int) := wrap_succ hk (by decide)
            refine loopK.normal (64 - (k + 1)) _ (by omega) (St.le.of_eq (by simp only [hw, upto]; first | rfl | (simp [shiftR, *]; done) | (simp only [shiftR, *]; (repeat' split) <;> first | rfl | omega | (exfalso; omega) | (simp_all; done)))) ⟨k + 1, rfl, by omega, rfl⟩))
    | ((with_reducible first | refine ctrK.normal ?_ | refine ctrK.ret ?_)
       simp only [go_sem, resA, resV, backK, seval]
       have hk64 : k = 64 := by omega
       subst hk64
       exact ⟨rfl, rfl⟩)

def lv103 : List (Nat × List Nat) := [(0, [0, 1]), (1, [0, 1, 6]), (2, [0, 1, 6, 7]), (3, [0, 1, 6, 7, 8]), (4, [0, 1, 6, 7, 8, 12]), (5, [0, 1, 6, 7, 8]), (6, [0, 1, 6, 7, 8]), (7, [0, 1, 6, 7, 8]), (8, [0, 1, 6, 7, 8, 26]), (9, [0, 1, 6, 7, 8, 28]), (10, [0, 1, 6, 7, 8, 9]), (11, [0, 1, 6, 7, 8, 9]), (12, [0, 1, 6, 7, 8, 9]), (13, [0, 1, 6, 7, 8, 41]), (14, [0, 1, 6, 7, 8]), (15, [0, 1, 6, 7, 8, 10]), (16, [0, 1, 6, 7, 8, 10]), (17, [0, 1, 6, 7, 8, 10]), (18, [0, 1, 6, 7, 8, 55]), (19, [0, 1, 6, 7, 8]), (20, [4, 5])]
-- scarab/scarabref02.Wide
theorem wide_ctr (a b : Int) : Ctr Go.Proofs.Tryz.prog tab 103 [2, 2] [2, 179] [.int a, .int b] [.int (wideW a b).1, .int (wideW a b).2] := by
  refine Ctr.body ok Go.Proofs.Tryz.func103 rfl rfl 60 rfl [.tmp 4, .tmp 5] rfl (by simp [fromVs]) ?_
  simp only [fromVs, fromV, args0, V.toList_list, V.toInt_int, V.toBool_bool, Nat.zero_add, Nat.reduceAdd, ty2]
  repeat' first
    | ((with_reducible refine SARA.do fun R1 hR1 => ?_); (simp only [go_sem, seval, -List.reduceReplicate]); (repeat' with_reducible refine And.intro ?_ ?_); all_goals first | (refine hR1 _ ?_; clear hR1 R1) | ((first | refine ⟨_, _, rfl, .inl ⟨_, CallQ.ctr ok (bit_ctr _ _) (by first | rfl | (simp [go_sem]; done) | fail) rfl, ?_⟩⟩); all_goals ((try simp only [go_sem, seval, -List.reduceReplicate]); (repeat' with_reducible refine And.intro ?_ ?_); all_goals first | (refine hR1 _ ?_; clear hR1 R1) | omega | rfl | decide | assumption | (intro _; omega) | (simp; done) | (simp; omega) | (simp [roomFor, maxLen] <;> omega))) | omega | rfl | decide | assumption | (intro _; omega) | (simp; done) | (simp; omega) | (simp [roomFor, maxLen] <;> omega))
    | ((with_reducible refine SARA.nil ?_); refine hR _ ?_; clear hR R; try simp only [go_sem, lv103, lvOf, Nat.reduceBEq, Option.getD_some])
    | (with_reducible first | refine thenK.normal ?_ | refine SA.seq ?_ | refine SA.skip ?_ | refine SA.block ?_ | refine blockK.normal ?_ | refine SA.exit ?_ | refine blockK.hit ?_ | refine blockK.miss (by decide) ?_ | refine thenK.exit ?_ | refine loopK.exit ?_ | refine SA.ret ?_ | refine thenK.ret ?_ | refine blockK.ret ?_ | refine loopK.ret ?_ | refine SA.scope ?_ | refine scopeK.normal ?_ | refine scopeK.exit ?_ | refine scopeK.ret ?_ | refine SA.label ?_)
    | ((with_reducible refine SA.regionN ok (by kernel_rfl) lv103 ?_); intro R hR; simp only [go_sem, strip])
    | ((with_reducible refine SA.condAt 26 rfl (fun hb26 => ?_) (fun hb26 => ?_))
       all_goals
         try simp at hb26)
    | ((with_reducible refine SA.condAt 28 rfl (fun hb28 => ?_) (fun hb28 => ?_))
       all_goals
         try simp at hb28)
    | ((with_reducible refine SA.condAt 41 rfl (fun hb41 => ?_) (fun hb41 => ?_))
       all_goals
         try simp at hb41)
    | ((with_reducible refine SA.condAt 55 rfl (fun hb55 => ?_) (fun hb55 => ?_))
       all_goals
         try simp at hb55)
    | ((with_reducible refine SA.cond rfl ?_ ?_)
       all_goals
         intro hb
         try simp at hb)
    | ((with_reducible refine SA.atLoop ?_)
       refine SA.weaken (St.le.of_eq (by first | rfl | (simp [upto]; done))) (SA.loop (fun n τ => ∃ (k : Nat), n = 64 - k ∧ (k ≤ 64) ∧ τ = { tm := [(0, true, .int .i64 a), (1, true, .int .i64 b), (6, true, .int .i64 (upto (wideR a b) (0, 0) k).1), (7, true, .int .u64 (upto (wideR a b) (0, 0) k).2), (8, true, .int .i64 (63 - (k : Int)))], ob := [], out := [], nt := 60 }) (64) ⟨0, rfl, by omega, rfl⟩ ?_)
       rintro n τ ⟨k, hn, hk, rfl⟩)
    | ((with_reducible refine loopK.round ?_)
       first
         | (have hk : k < 64 := by omega
            have hw : IntKind.i64.wrap (63 - (k : Int) - 1) = 63 - ((k + 1 : Nat) : Int) := by rw [wrap64_ok (by omega) (by omega)]; omega
            refine loopK.normal (64 - (k + 1)) _ (by omega) (St.le.of_eq (by simp only [hw, upto, wideR]; (repeat' split) <;> first | rfl | omega | (exfalso; omega) | (simp_all; done))) ⟨k + 1, rfl, by omega, rfl⟩))
    | ((with_reducible first | refine ctrK.normal ?_ | refine ctrK.ret ?_)
       simp only [go_sem, resA, resV, backK, seval]
       have hk64 : k = 64 := by omega
       subst hk64
       exact ⟨⟨rfl, rfl⟩, ⟨rfl, rfl⟩⟩)

end Go.Eng.Tryz
