/- A part of the proof: walks through the program's functions, and what they compute. -/
import Derived.Test.YtedceinkpkoncaaGreatSW2
namespace Go.Eng.Tryz
open Go.RowKit Go.Eng
set_option linter.unusedSimpArgs false
set_option linter.unusedVariables false
set_option maxHeartbeats 0
set_option maxRecDepth 20000

def lv92 : List (Nat × List Nat) := [(0, [0, 1]), (1, [1, 13]), (2, [1, 13, 14]), (3, [4]), (4, [1, 13, 18]), (5, [4]), (6, [1, 13, 22]), (7, [1, 25]), (8, [4]), (9, [4]), (10, [1, 13, 29]), (11, [1, 5]), (12, [1, 5, 6]), (13, [1, 5, 6, 32]), (14, [1, 5, 6]), (15, [1, 5, 6]), (16, [4]), (17, [1, 13, 41]), (18, [1, 7]), (19, [1, 7, 8]), (20, [1, 7, 8, 50]), (21, [1, 7, 8]), (22, [1, 7, 8]), (23, [4]), (24, [1, 13, 56]), (25, [1, 9]), (26, [1, 9, 10]), (27, [1, 9, 10, 65]), (28, [1, 9, 10]), (29, [1, 9, 10]), (30, [4]), (31, [1, 13, 71]), (32, [1, 11]), (33, [1, 11, 12]), (34, [1, 11, 12, 74]), (35, [1, 11, 12]), (36, [1, 11, 12]), (37, [4]), (38, [1, 13, 85]), (39, [4]), (40, [1, 13, 90]), (41, [4]), (42, [1, 13, 95]), (43, [4]), (44, [1, 13, 99]), (45, [4]), (46, [1, 13, 103]), (47, [4]), (48, [1, 13, 107]), (49, [4]), (50, [1, 111]), (51, [4]), (52, [4])]
-- scarab/scarabref02.one
theorem one_ctr (op a : Int) : Ctr Go.Proofs.Tryz.prog tab 92 [3, 2] [2] [.int op, .int a] [.int (oneW op a)] := by
  refine Ctr.body ok Go.Proofs.Tryz.func92 rfl rfl 117 rfl [.tmp 4] rfl (by simp [fromVs]) ?_
  simp only [fromVs, fromV, args0, V.toList_list, V.toInt_int, V.toBool_bool, Nat.zero_add, Nat.reduceAdd, ty2, ty3]
  repeat' first
    | ((with_reducible refine SARA.do fun R1 hR1 => ?_); (simp only [go_sem, seval, -List.reduceReplicate]); (repeat' with_reducible refine And.intro ?_ ?_); all_goals first | (refine hR1 _ ?_; clear hR1 R1) | ((first | refine ⟨_, _, rfl, .inl ⟨_, CallQ.ctr ok (bit_ctr _ _) (by first | rfl | (simp [go_sem]; done) | fail) rfl, ?_⟩⟩ | refine ⟨_, _, rfl, .inl ⟨_, fun hg => CallQ.ctr ok (bit_ctr _ _) (by first | rfl | (simp [go_sem]; done) | fail) rfl, ?_⟩⟩ | refine ⟨_, _, rfl, .inl ⟨_, CallQ.ctr ok (put_ctr _ _ _) (by first | rfl | (simp [go_sem]; done) | fail) rfl, ?_⟩⟩ | refine ⟨_, _, rfl, .inl ⟨_, fun hg => CallQ.ctr ok (put_ctr _ _ _) (by first | rfl | (simp [go_sem]; done) | fail) rfl, ?_⟩⟩ | refine ⟨_, _, rfl, .inl ⟨_, CallQ.ctr ok (yes2_ctr _) (by first | rfl | (simp [go_sem]; done) | fail) rfl, ?_⟩⟩ | refine ⟨_, _, rfl, .inl ⟨_, fun hg => CallQ.ctr ok (yes2_ctr _) (by first | rfl | (simp [go_sem]; done) | fail) rfl, ?_⟩⟩ | refine ⟨_, _, rfl, .inl ⟨_, CallQ.ctr ok (conv_ctr _ _ _) (by first | rfl | (simp [go_sem]; done) | fail) rfl, ?_⟩⟩ | refine ⟨_, _, rfl, .inl ⟨_, fun hg => CallQ.ctr ok (conv_ctr _ _ _) (by first | rfl | (simp [go_sem]; done) | fail) rfl, ?_⟩⟩); all_goals ((try simp only [go_sem, seval, -List.reduceReplicate]); (repeat' with_reducible refine And.intro ?_ ?_); all_goals first | (refine hR1 _ ?_; clear hR1 R1) | omega | rfl | decide | assumption | (intro _; omega) | (simp; done) | (simp; omega) | (simp [roomFor, maxLen] <;> omega))) | omega | rfl | decide | assumption | (intro _; omega) | (simp; done) | (simp; omega) | (simp [roomFor, maxLen] <;> omega))
    | ((with_reducible refine SARA.nil ?_); refine hR _ ?_; clear hR R; try simp only [go_sem, lv92, lvOf, Nat.reduceBEq, Option.getD_some])
    | (with_reducible first | refine thenK.normal ?_ | refine SA.seq ?_ | refine SA.skip ?_ | refine SA.block ?_ | refine blockK.normal ?_ | refine SA.exit ?_ | refine blockK.hit ?_ | refine blockK.miss (by decide) ?_ | refine thenK.exit ?_ | refine loopK.exit ?_ | refine SA.ret ?_ | refine thenK.ret ?_ | refine blockK.ret ?_ | refine loopK.ret ?_ | refine SA.scope ?_ | refine scopeK.normal ?_ | refine scopeK.exit ?_ | refine scopeK.ret ?_ | refine SA.label ?_)
    | ((with_reducible refine SA.regionN ok (by kernel_rfl) lv92 ?_); intro R hR; simp only [go_sem, strip])
    | ((with_reducible refine SA.condAt 14 rfl (fun hb14 => ?_) (fun hb14 => ?_))
       all_goals
         try simp at hb14)
    | ((with_reducible refine SA.condAt 18 rfl (fun hb18 => ?_) (fun hb18 => ?_))
       all_goals
         try simp at hb18)
    | ((with_reducible refine SA.condAt 22 rfl (fun hb22 => ?_) (fun hb22 => ?_))
       all_goals
         try simp at hb22)
    | ((with_reducible refine SA.condAt 25 rfl (fun hb25 => ?_) (fun hb25 => ?_))
       all_goals
         try simp at hb25)
    | ((with_reducible refine SA.condAt 29 rfl (fun hb29 => ?_) (fun hb29 => ?_))
       all_goals
         try simp at hb29)
    | ((with_reducible refine SA.condAt 41 rfl (fun hb41 => ?_) (fun hb41 => ?_))
       all_goals
         try simp at hb41)
    | ((with_reducible refine SA.condAt 50 rfl (fun hb50 => ?_) (fun hb50 => ?_))
       all_goals
         skip)
    | ((with_reducible refine SA.condAt 56 rfl (fun hb56 => ?_) (fun hb56 => ?_))
       all_goals
         try simp at hb56)
    | ((with_reducible refine SA.condAt 65 rfl (fun hb65 => ?_) (fun hb65 => ?_))
       all_goals
         skip)
    | ((with_reducible refine SA.condAt 71 rfl (fun hb71 => ?_) (fun hb71 => ?_))
       all_goals
         try simp at hb71)
    | ((with_reducible refine SA.condAt 85 rfl (fun hb85 => ?_) (fun hb85 => ?_))
       all_goals
         try simp at hb85)
    | ((with_reducible refine SA.condAt 90 rfl (fun hb90 => ?_) (fun hb90 => ?_))
       all_goals
         try simp at hb90)
    | ((with_reducible refine SA.condAt 95 rfl (fun hb95 => ?_) (fun hb95 => ?_))
       all_goals
         try simp at hb95)
    | ((with_reducible refine SA.condAt 99 rfl (fun hb99 => ?_) (fun hb99 => ?_))
       all_goals
         try simp at hb99)
    | ((with_reducible refine SA.condAt 103 rfl (fun hb103 => ?_) (fun hb103 => ?_))
       all_goals
         try simp at hb103)
    | ((with_reducible refine SA.condAt 107 rfl (fun hb107 => ?_) (fun hb107 => ?_))
       all_goals
         try simp at hb107)
    | ((with_reducible refine SA.condAt 111 rfl (fun hb111 => ?_) (fun hb111 => ?_))
       all_goals
         try simp at hb111)
    | ((with_reducible refine SA.cond rfl ?_ ?_)
       all_goals
         intro hb
         try simp at hb)
    | ((with_reducible refine SA.atLoop ?_)
       refine SA.weaken (St.le.of_eq (by first | rfl | (simp [upto]; done) | fail)) (SA.loop (fun n τ => ∃ (k : Nat), n = 64 - k ∧ (k ≤ 64) ∧ τ = { tm := [(1, true, .int .i64 a), (5, true, .int .i64 (upto (onesR a) 0 k)), (6, true, .int .i64 k)], ob := [], out := [], nt := 117 }) (64) ⟨0, rfl, by omega, rfl⟩ ?_)
       rintro n τ ⟨k, hn, hk, rfl⟩)
    | ((with_reducible refine SA.atLoop ?_)
       refine SA.weaken (St.le.of_eq (by first | rfl | (simp [upto]; done) | fail)) (SA.loop (fun n τ => ∃ (k : Nat), n = 64 - k ∧ (k ≤ 64 ∧ ∀ j : Nat, j < k → bitW a (63 - (j : Int)) = 0) ∧ τ = { tm := [(1, true, .int .i64 a), (7, true, .int .i64 k), (8, true, .int .i64 (63 - (k : Int)))], ob := [], out := [], nt := 117 }) (64) ⟨0, rfl, ⟨by omega, fun j hj => by omega⟩, rfl⟩ ?_)
       rintro n τ ⟨k, hn, ⟨hk, hz⟩, rfl⟩)
    | ((with_reducible refine SA.atLoop ?_)
       refine SA.weaken (St.le.of_eq (by first | rfl | (simp [upto]; done) | fail)) (SA.loop (fun n τ => ∃ (k : Nat), n = 64 - k ∧ (k ≤ 64 ∧ ∀ j : Nat, j < k → bitW a j = 0) ∧ τ = { tm := [(1, true, .int .i64 a), (9, true, .int .i64 k), (10, true, .int .i64 k)], ob := [], out := [], nt := 117 }) (64) ⟨0, rfl, ⟨by omega, fun j hj => by omega⟩, rfl⟩ ?_)
       rintro n τ ⟨k, hn, ⟨hk, hz⟩, rfl⟩)
    | ((with_reducible refine SA.atLoop ?_)
       refine SA.weaken (St.le.of_eq (by first | rfl | (simp [upto]; done) | fail)) (SA.loop (fun n τ => ∃ (k : Nat), n = 64 - k ∧ (k ≤ 64) ∧ τ = { tm := [(1, true, .int .i64 a), (11, true, .int .i64 (upto (flipR a) 0 k)), (12, true, .int .i64 k)], ob := [], out := [], nt := 117 }) (64) ⟨0, rfl, by omega, rfl⟩ ?_)
       rintro n τ ⟨k, hn, hk, rfl⟩)
    | ((with_reducible refine loopK.round ?_)
       first
         | (have hk : k < 64 := by omega
            have hw : IntKind.i64.wrap ((k : Int) + 1) = ((k + 1 : Nat) : Int) := wrap_succ hk (by decide)
            refine loopK.normal (64 - (k + 1)) _ (by omega) (St.le.of_eq (by simp only [hw, upto]; first | rfl | (simp [onesR, *]; done) | (simp only [onesR, *]; (repeat' split) <;> first | rfl | omega | (exfalso; omega) | (simp_all; done) | fail) | fail)) ⟨k + 1, rfl, by omega, rfl⟩)
         | (simp at hb50
            have hk : k < 64 := by omega
            have hw : IntKind.i64.wrap ((k : Int) + 1) = ((k + 1 : Nat) : Int) := wrap_succ hk (by decide)
            have hv : IntKind.i64.wrap (63 - (k : Int) - 1) = 63 - ((k + 1 : Nat) : Int) := by rw [wrap64_ok (by omega) (by omega)]; omega
            refine loopK.normal (64 - (k + 1)) _ (by omega) (St.le.of_eq (by simp only [hw, hv])) ⟨k + 1, rfl, ⟨by omega, fun j hj => ?_⟩, rfl⟩
            rcases Nat.lt_or_ge j k with h | h
            · exact hz j h
            · have : j = k := by omega
              subst this; exact hb50.2)
         | (simp at hb65
            have hk : k < 64 := by omega
            have hw : IntKind.i64.wrap ((k : Int) + 1) = ((k + 1 : Nat) : Int) := wrap_succ hk (by decide)
            refine loopK.normal (64 - (k + 1)) _ (by omega) (St.le.of_eq (by simp only [hw])) ⟨k + 1, rfl, ⟨by omega, fun j hj => ?_⟩, rfl⟩
            rcases Nat.lt_or_ge j k with h | h
            · exact hz j h
            · have : j = k := by omega
              subst this; exact hb65.2)
         | (have hk : k < 64 := by omega
            have hw : IntKind.i64.wrap ((k : Int) + 1) = ((k + 1 : Nat) : Int) := wrap_succ hk (by decide)
            refine loopK.normal (64 - (k + 1)) _ (by omega) (St.le.of_eq (by simp only [hw, upto]; first | rfl | (simp [flipR, *]; done) | (simp only [flipR, *]; (repeat' split) <;> first | rfl | omega | (exfalso; omega) | (simp_all; done) | fail) | fail)) ⟨k + 1, rfl, by omega, rfl⟩))
    | ((with_reducible first | refine ctrK.normal ?_ | refine ctrK.ret ?_)
       simp only [go_sem, resA, resV, backK, seval]
       first
         | ((repeat' with_reducible refine And.intro ?_ ?_)
            all_goals first | rfl | (subst_vars; rfl) | (simp only [oneW]; simp [*]; done) | (simp only [oneW]; (repeat' split) <;> first | rfl | omega | (exfalso; omega)))
         | (have hk64 : k = 64 := by omega
            subst hk64
            (repeat' with_reducible refine And.intro ?_ ?_)
            all_goals first | rfl | (simp only [oneW]; simp [*]; done))
         | (simp at hb50
            have e : leadW a = k := findIdx_range hk (fun j hj => by simp [hz j hj]) (by rcases Nat.lt_or_ge k 64 with h | h; exact .inr (by simpa using hb50 (by omega)); exact .inl (by omega))
            (repeat' with_reducible refine And.intro ?_ ?_)
            all_goals first | rfl | (simp [oneW, *]; done))
         | (simp at hb65
            have e : trailW a = k := findIdx_range hk (fun j hj => by simp [hz j hj]) (by rcases Nat.lt_or_ge k 64 with h | h; exact .inr (by simpa using hb65 (by omega)); exact .inl (by omega))
            (repeat' with_reducible refine And.intro ?_ ?_)
            all_goals first | rfl | (simp [oneW, *]; done)))

def lv107 : List (Nat × List Nat) := [(0, [0, 1, 2]), (1, [1, 2, 9]), (2, [1, 2, 9, 10]), (3, [6]), (4, [1, 2, 9, 16]), (5, [6]), (6, [1, 2, 9, 22]), (7, [6]), (8, [1, 2, 9, 28]), (9, [6]), (10, [1, 2, 9, 34]), (11, [6]), (12, [1, 2, 9, 42]), (13, [1, 2, 46]), (14, [6]), (15, [6]), (16, [1, 2, 49]), (17, [1, 2, 53]), (18, [6]), (19, [6]), (20, [7]), (21, [6])]
-- scarab/scarabref02.held
theorem held_ctr (op a b : Int) : Ctr Go.Proofs.Tryz.prog tab 107 [3, 2, 2] [2] [.int op, .int a, .int b] [.int (heldW op a b)] := by
  refine Ctr.body ok Go.Proofs.Tryz.func107 rfl rfl 63 rfl [.tmp 6] rfl (by simp [fromVs]) ?_
  simp only [fromVs, fromV, args0, V.toList_list, V.toInt_int, V.toBool_bool, Nat.zero_add, Nat.reduceAdd, ty2, ty3]
  repeat' first
    | ((with_reducible refine SARA.do fun R1 hR1 => ?_); (simp only [go_sem, seval, -List.reduceReplicate]); (repeat' with_reducible refine And.intro ?_ ?_); all_goals first | (refine hR1 _ ?_; clear hR1 R1) | ((first | refine ⟨_, _, rfl, .inl ⟨_, CallQ.ctr ok (bit_ctr _ _) (by first | rfl | (simp [go_sem]; done) | fail) rfl, ?_⟩⟩ | refine ⟨_, _, rfl, .inl ⟨_, CallQ.ctr ok (yes2_ctr _) (by first | rfl | (simp [go_sem]; done) | fail) rfl, ?_⟩⟩ | refine ⟨_, _, rfl, .inr (CallE.ctr ok (wide_ctr _ _) (by first | rfl | (simp [go_sem]; done) | fail) ?_)⟩); all_goals ((try simp only [go_sem, seval, -List.reduceReplicate]); (repeat' with_reducible refine And.intro ?_ ?_); all_goals first | (refine hR1 _ ?_; clear hR1 R1) | omega | rfl | decide | assumption | (intro _; omega) | (simp; done) | (simp; omega) | (simp [roomFor, maxLen] <;> omega))) | omega | rfl | decide | assumption | (intro _; omega) | (simp; done) | (simp; omega) | (simp [roomFor, maxLen] <;> omega))
    | ((with_reducible refine SARA.nil ?_); refine hR _ ?_; clear hR R; try simp only [go_sem, lv107, lvOf, Nat.reduceBEq, Option.getD_some])
    | (with_reducible first | refine thenK.normal ?_ | refine SA.seq ?_ | refine SA.skip ?_ | refine SA.block ?_ | refine blockK.normal ?_ | refine SA.exit ?_ | refine blockK.hit ?_ | refine blockK.miss (by decide) ?_ | refine thenK.exit ?_ | refine loopK.exit ?_ | refine SA.ret ?_ | refine thenK.ret ?_ | refine blockK.ret ?_ | refine loopK.ret ?_ | refine SA.scope ?_ | refine scopeK.normal ?_ | refine scopeK.exit ?_ | refine scopeK.ret ?_ | refine SA.label ?_)
    | ((with_reducible refine SA.regionN ok (by kernel_rfl) lv107 ?_); intro R hR; simp only [go_sem, strip])
    | ((with_reducible refine SA.condAt 10 rfl (fun hb10 => ?_) (fun hb10 => ?_))
       all_goals
         try simp at hb10)
    | ((with_reducible refine SA.condAt 16 rfl (fun hb16 => ?_) (fun hb16 => ?_))
       all_goals
         try simp at hb16)
    | ((with_reducible refine SA.condAt 22 rfl (fun hb22 => ?_) (fun hb22 => ?_))
       all_goals
         try simp at hb22)
    | ((with_reducible refine SA.condAt 28 rfl (fun hb28 => ?_) (fun hb28 => ?_))
       all_goals
         try simp at hb28)
    | ((with_reducible refine SA.condAt 34 rfl (fun hb34 => ?_) (fun hb34 => ?_))
       all_goals
         try simp at hb34)
    | ((with_reducible refine SA.condAt 42 rfl (fun hb42 => ?_) (fun hb42 => ?_))
       all_goals
         try simp at hb42)
    | ((with_reducible refine SA.condAt 46 rfl (fun hb46 => ?_) (fun hb46 => ?_))
       all_goals
         try simp at hb46)
    | ((with_reducible refine SA.condAt 49 rfl (fun hb49 => ?_) (fun hb49 => ?_))
       all_goals
         try simp at hb49)
    | ((with_reducible refine SA.condAt 53 rfl (fun hb53 => ?_) (fun hb53 => ?_))
       all_goals
         try simp at hb53)
    | ((with_reducible first | refine ctrK.normal ?_ | refine ctrK.ret ?_)
       simp only [go_sem, resA, resV, backK, seval]
       (repeat' with_reducible refine And.intro ?_ ?_)
       all_goals first | rfl | (simp only [heldW]; (repeat' split) <;> first | rfl | omega | (exfalso; omega) | (simp_all; done) | (simp_all; omega)) | (simp [heldW, *]; done) | (simp [heldW, *]; omega))

def lv93 : List (Nat × List Nat) := [(0, [0, 1, 2]), (1, [0, 1, 2, 12]), (2, [0, 1, 2, 12, 13]), (3, [6, 7]), (4, [0, 1, 2, 12, 18]), (5, [6, 7]), (6, [0, 1, 2, 12, 23]), (7, [9]), (8, [6, 7]), (9, [0, 1, 2, 12, 33]), (10, [0, 1, 2, 12, 33]), (11, [0, 1, 2, 37]), (12, [6, 7]), (13, [0, 1, 2, 39]), (14, [1, 41]), (15, [6, 7]), (16, [6, 7]), (17, [1, 2, 45]), (18, [6, 7]), (19, [6, 7]), (20, [0, 1, 2, 12, 56]), (21, [0, 1, 2, 12, 56]), (22, [0, 1, 2, 12, 56]), (23, [0, 1, 2, 12, 56]), (24, [6, 7]), (25, [0, 1, 2, 12, 65]), (26, [0, 1, 2, 12, 65]), (27, [0, 1, 2, 12, 65]), (28, [0, 1, 2, 70]), (29, [6, 7]), (30, [0, 1, 2, 72]), (31, [6, 7]), (32, [1, 2, 78]), (33, [6, 7]), (34, [6, 7]), (35, [0, 1, 2, 91]), (36, [1, 2, 10]), (37, [1, 2, 10, 11]), (38, [1, 2, 10, 11, 94]), (39, [1, 2, 10, 11]), (40, [1, 2, 10, 11]), (41, [6, 7]), (42, [6, 7])]
-- scarab/scarabref02.two
theorem two_ctr (op a b : Int) : Ctr Go.Proofs.Tryz.prog tab 93 [3, 2, 2] [2, 3] [.int op, .int a, .int b] [.int (twoW op a b).1, .int (twoW op a b).2] := by
  refine Ctr.body ok Go.Proofs.Tryz.func93 rfl rfl 114 rfl [.tmp 6, .tmp 7] rfl (by simp [fromVs]) ?_
  simp only [fromVs, fromV, args0, V.toList_list, V.toInt_int, V.toBool_bool, Nat.zero_add, Nat.reduceAdd, ty2, ty3]
  repeat' first
    | ((with_reducible refine SARA.do fun R1 hR1 => ?_); (simp only [go_sem, seval, -List.reduceReplicate]); (repeat' with_reducible refine And.intro ?_ ?_); all_goals first | (refine hR1 _ ?_; clear hR1 R1) | ((first | refine ⟨_, _, rfl, .inl ⟨_, CallQ.ctr ok (bit_ctr _ _) (by first | rfl | (simp [go_sem]; done) | fail) rfl, ?_⟩⟩ | refine ⟨_, _, rfl, .inl ⟨_, CallQ.ctr ok (put_ctr _ _ _) (by first | rfl | (simp [go_sem]; done) | fail) rfl, ?_⟩⟩ | refine ⟨_, _, rfl, .inl ⟨_, CallQ.ctr ok (few2_ctr _) (by first | rfl | (simp [go_sem]; done) | fail) rfl, ?_⟩⟩ | refine ⟨_, _, rfl, .inl ⟨_, CallQ.ctr ok (bits_ctr _ _ _) (by first | rfl | (simp [go_sem]; done) | fail) rfl, ?_⟩⟩ | refine ⟨_, _, rfl, .inl ⟨_, CallQ.ctr ok (shift_ctr _ _ _) (by first | rfl | (simp [go_sem]; done) | fail) rfl, ?_⟩⟩ | refine ⟨_, _, rfl, .inl ⟨_, CallQ.ctr ok (held_ctr _ _ _) (by first | rfl | (simp [go_sem]; done) | fail) rfl, ?_⟩⟩ | refine ⟨_, _, rfl, .inr (CallE.ctr ok (wide_ctr _ _) (by first | rfl | (simp [go_sem]; done) | fail) ?_)⟩); all_goals ((try simp only [go_sem, seval, -List.reduceReplicate]); (repeat' with_reducible refine And.intro ?_ ?_); all_goals first | (refine hR1 _ ?_; clear hR1 R1) | omega | rfl | decide | assumption | (intro _; omega) | (simp; done) | (simp; omega) | (simp [roomFor, maxLen] <;> omega))) | omega | rfl | decide | assumption | (intro _; omega) | (simp; done) | (simp; omega) | (simp [roomFor, maxLen] <;> omega))
    | ((with_reducible refine SARA.nil ?_); refine hR _ ?_; clear hR R; try simp only [go_sem, lv93, lvOf, Nat.reduceBEq, Option.getD_some])
    | (with_reducible first | refine thenK.normal ?_ | refine SA.seq ?_ | refine SA.skip ?_ | refine SA.block ?_ | refine blockK.normal ?_ | refine SA.exit ?_ | refine blockK.hit ?_ | refine blockK.miss (by decide) ?_ | refine thenK.exit ?_ | refine loopK.exit ?_ | refine SA.ret ?_ | refine thenK.ret ?_ | refine blockK.ret ?_ | refine loopK.ret ?_ | refine SA.scope ?_ | refine scopeK.normal ?_ | refine scopeK.exit ?_ | refine scopeK.ret ?_ | refine SA.label ?_)
    | ((with_reducible refine SA.regionN ok (by kernel_rfl) lv93 ?_); intro R hR; simp only [go_sem, strip])
    | ((with_reducible refine SA.condAt 13 rfl (fun hb13 => ?_) (fun hb13 => ?_))
       all_goals
         try simp only [decide_eq_true_eq, decide_eq_false_iff_not] at hb13
         try (exfalso; omega))
    | ((with_reducible refine SA.condAt 18 rfl (fun hb18 => ?_) (fun hb18 => ?_))
       all_goals
         try simp only [decide_eq_true_eq, decide_eq_false_iff_not] at hb18
         try (exfalso; omega))
    | ((with_reducible refine SA.condAt 23 rfl (fun hb23 => ?_) (fun hb23 => ?_))
       all_goals
         try simp only [decide_eq_true_eq, decide_eq_false_iff_not] at hb23
         try (exfalso; omega))
    | ((with_reducible refine SA.condAt 33 rfl (fun hb33 => ?_) (fun hb33 => ?_))
       all_goals
         try simp only [decide_eq_true_eq, decide_eq_false_iff_not] at hb33
         try (exfalso; omega))
    | ((with_reducible refine SA.condAt 37 rfl (fun hb37 => ?_) (fun hb37 => ?_))
       all_goals
         try simp only [decide_eq_true_eq, decide_eq_false_iff_not] at hb37
         try (exfalso; omega))
    | ((with_reducible refine SA.condAt 39 rfl (fun hb39 => ?_) (fun hb39 => ?_))
       all_goals
         try simp only [decide_eq_true_eq, decide_eq_false_iff_not] at hb39
         try (exfalso; omega))
    | ((with_reducible refine SA.condAt 41 rfl (fun hb41 => ?_) (fun hb41 => ?_))
       all_goals
         try simp only [decide_eq_true_eq, decide_eq_false_iff_not] at hb41
         try (exfalso; omega))
    | ((with_reducible refine SA.condAt 45 rfl (fun hb45 => ?_) (fun hb45 => ?_))
       all_goals
         try simp only [decide_eq_true_eq, decide_eq_false_iff_not] at hb45
         try (exfalso; omega))
    | ((with_reducible refine SA.condAt 56 rfl (fun hb56 => ?_) (fun hb56 => ?_))
       all_goals
         try simp only [decide_eq_true_eq, decide_eq_false_iff_not] at hb56
         try (exfalso; omega))
    | ((with_reducible refine SA.condAt 65 rfl (fun hb65 => ?_) (fun hb65 => ?_))
       all_goals
         try simp only [decide_eq_true_eq, decide_eq_false_iff_not] at hb65
         try (exfalso; omega))
    | ((with_reducible refine SA.condAt 70 rfl (fun hb70 => ?_) (fun hb70 => ?_))
       all_goals
         try simp only [decide_eq_true_eq, decide_eq_false_iff_not] at hb70
         try (exfalso; omega))
    | ((with_reducible refine SA.condAt 72 rfl (fun hb72 => ?_) (fun hb72 => ?_))
       all_goals
         try simp only [decide_eq_true_eq, decide_eq_false_iff_not] at hb72
         try (exfalso; omega))
    | ((with_reducible refine SA.condAt 78 rfl (fun hb78 => ?_) (fun hb78 => ?_))
       all_goals
         try simp only [decide_eq_true_eq, decide_eq_false_iff_not] at hb78
         try (exfalso; omega))
    | ((with_reducible refine SA.condAt 91 rfl (fun hb91 => ?_) (fun hb91 => ?_))
       all_goals
         try simp only [decide_eq_true_eq, decide_eq_false_iff_not] at hb91
         try (exfalso; omega))
    | ((with_reducible refine SA.cond rfl ?_ ?_)
       all_goals
         intro hb
         try simp only [decide_eq_true_eq, decide_eq_false_iff_not] at hb
         try (exfalso; omega))
    | ((with_reducible refine SA.atLoop ?_)
       refine SA.weaken (St.le.of_eq (by first | rfl | (simp [upto]; done) | fail)) (SA.loop (fun n τ => ∃ (k : Nat), n = 64 - k ∧ (k ≤ 64) ∧ τ = { tm := [(1, true, .int .i64 a), (2, true, .int .i64 b), (10, true, .int .i64 (upto (rotR a b) 0 k)), (11, true, .int .i64 k)], ob := [], out := [], nt := 114 }) (64) ⟨0, rfl, by omega, rfl⟩ ?_)
       rintro n τ ⟨k, hn, hk, rfl⟩)
    | ((with_reducible refine loopK.round ?_)
       first
         | (have hk : k < 64 := by omega
            have hw : IntKind.i64.wrap ((k : Int) + 1) = ((k + 1 : Nat) : Int) := wrap_succ hk (by decide)
            refine loopK.normal (64 - (k + 1)) _ (by omega) (St.le.of_eq (by simp only [hw, upto]; first | rfl | (simp [rotR, *]; done) | (simp only [rotR, *]; (repeat' split) <;> first | rfl | omega | (exfalso; omega) | (simp_all; done) | fail) | fail)) ⟨k + 1, rfl, by omega, rfl⟩))
    | ((with_reducible first | refine ctrK.normal ?_ | refine ctrK.ret ?_)
       simp only [go_sem, resA, resV, backK, seval]
       first
         | ((repeat' with_reducible refine And.intro ?_ ?_)
            all_goals first | rfl | (simp [twoW, *]; done) | (simp [twoW, *]; omega))
         | (have hk64 : k = 64 := by omega
            subst hk64
            (repeat' with_reducible refine And.intro ?_ ?_)
            all_goals first | rfl | (simp [twoW, rotW, *]; done) | (simp [twoW, rotW, *]; omega)))

def lv83 : List (Nat × List Nat) := [(0, [0, 1, 2]), (1, [0, 1, 2, 9]), (2, [0, 1, 2, 9, 10]), (3, [6, 7]), (4, [0, 1, 2, 12]), (5, [6, 7]), (6, [6, 7])]
-- scarab/scarabref02.Apply
theorem apply_ctr (op a b : Int) : Ctr Go.Proofs.Tryz.prog tab 83 [3, 2, 2] [2, 3] [.int op, .int a, .int b] [.int (applyW op a b).1, .int (applyW op a b).2] := by
  refine Ctr.body ok Go.Proofs.Tryz.func83 rfl rfl 23 rfl [.tmp 6, .tmp 7] rfl (by simp [fromVs]) ?_
  simp only [fromVs, fromV, args0, V.toList_list, V.toInt_int, V.toBool_bool, Nat.zero_add, Nat.reduceAdd, ty2, ty3]
  repeat' first
    | ((with_reducible refine SARA.do fun R1 hR1 => ?_); (simp only [go_sem, seval, -List.reduceReplicate]); (repeat' with_reducible refine And.intro ?_ ?_); all_goals first | (refine hR1 _ ?_; clear hR1 R1) | ((first | refine ⟨_, _, rfl, .inl ⟨_, CallQ.ctr ok (arity_ctr _) (by first | rfl | (simp [go_sem]; done) | fail) rfl, ?_⟩⟩ | refine ⟨_, _, rfl, .inl ⟨_, CallQ.ctr ok (one_ctr _ _) (by first | rfl | (simp [go_sem]; done) | fail) rfl, ?_⟩⟩ | refine ⟨_, _, rfl, .inr (CallE.ctr ok (two_ctr _ _ _) (by first | rfl | (simp [go_sem]; done) | fail) ?_)⟩); all_goals ((try simp only [go_sem, seval, -List.reduceReplicate]); (repeat' with_reducible refine And.intro ?_ ?_); all_goals first | (refine hR1 _ ?_; clear hR1 R1) | omega | rfl | decide | assumption | (intro _; omega) | (simp; done) | (simp; omega) | (simp [roomFor, maxLen] <;> omega))) | omega | rfl | decide | assumption | (intro _; omega) | (simp; done) | (simp; omega) | (simp [roomFor, maxLen] <;> omega))
    | ((with_reducible refine SARA.nil ?_); refine hR _ ?_; clear hR R; try simp only [go_sem, lv83, lvOf, Nat.reduceBEq, Option.getD_some])
    | (with_reducible first | refine thenK.normal ?_ | refine SA.seq ?_ | refine SA.skip ?_ | refine SA.block ?_ | refine blockK.normal ?_ | refine SA.exit ?_ | refine blockK.hit ?_ | refine blockK.miss (by decide) ?_ | refine thenK.exit ?_ | refine loopK.exit ?_ | refine SA.ret ?_ | refine thenK.ret ?_ | refine blockK.ret ?_ | refine loopK.ret ?_ | refine SA.scope ?_ | refine scopeK.normal ?_ | refine scopeK.exit ?_ | refine scopeK.ret ?_ | refine SA.label ?_)
    | ((with_reducible refine SA.regionN ok (by kernel_rfl) lv83 ?_); intro R hR; simp only [go_sem, strip])
    | ((with_reducible refine SA.condAt 10 rfl (fun hb10 => ?_) (fun hb10 => ?_))
       all_goals
         try simp at hb10)
    | ((with_reducible refine SA.condAt 12 rfl (fun hb12 => ?_) (fun hb12 => ?_))
       all_goals
         try simp at hb12)
    | ((with_reducible first | refine ctrK.normal ?_ | refine ctrK.ret ?_)
       simp only [go_sem, resA, resV, backK, seval]
       (repeat' with_reducible refine And.intro ?_ ?_)
       all_goals first | rfl | (simp only [applyW]; (repeat' split) <;> first | rfl | omega | (exfalso; omega) | (simp_all; done) | (simp_all; omega)) | (simp [applyW, *]; done) | (simp [applyW, *]; omega))

end Go.Eng.Tryz
