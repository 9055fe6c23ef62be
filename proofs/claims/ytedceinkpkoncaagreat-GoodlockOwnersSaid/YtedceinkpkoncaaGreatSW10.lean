/- A part of the proof: walks through the program's functions, and what they compute. -/
import Derived.Test.YtedceinkpkoncaaGreatSW9
import Derived.Test.YtedceinkpkoncaaGreatSW3
import Derived.Test.YtedceinkpkoncaaGreatM2
namespace Go.Eng.Tryz
open Go.RowKit Go.Eng
set_option linter.unusedSimpArgs false
set_option linter.unusedVariables false
set_option maxHeartbeats 0
set_option maxRecDepth 20000

def lv84 : List (Nat × List Nat) := [(0, [1, 2, 3, 6]), (1, [6])]
-- scarab/scarabref07.ended
theorem ended_ctr (g : Gor) (status why : Int) : Ctr Go.Proofs.Tryz.prog tab 84 [38, 3, 3] [38] [g.v, .int status, .int why] [(ended g status why).v] := by
  refine Ctr.body ok Go.Proofs.Tryz.func84 rfl rfl 14 rfl [.cell 6 38] rfl (by simp [fromVs]) ?_
  simp only [fromVs, fromV, args0, V.toList_list, V.toInt_int, V.toBool_bool, Nat.zero_add, Nat.reduceAdd, ty3, ty38]
  repeat' first
    | ((with_reducible refine SARA.do fun R1 hR1 => ?_); (simp only [go_sem, seval, -List.reduceReplicate, zeroGo_at]); (repeat' with_reducible refine And.intro ?_ ?_); all_goals first | (refine hR1 _ ?_; clear hR1 R1) | omega | rfl | decide | assumption | (intro _; omega) | (simp; done) | (simp; omega) | (simp [roomFor, maxLen] <;> omega))
    | ((with_reducible refine SARA.nil ?_); refine hR _ ?_; clear hR R; try simp only [go_sem, lv84, lvOf, Nat.reduceBEq, Option.getD_some])
    | (with_reducible first | refine thenK.normal ?_ | refine SA.seq ?_ | refine SA.skip ?_ | refine SA.block ?_ | refine blockK.normal ?_ | refine SA.exit ?_ | refine blockK.hit ?_ | refine blockK.miss (by decide) ?_ | refine thenK.exit ?_ | refine loopK.exit ?_ | refine SA.ret ?_ | refine thenK.ret ?_ | refine blockK.ret ?_ | refine loopK.ret ?_ | refine SA.scope ?_ | refine scopeK.normal ?_ | refine scopeK.exit ?_ | refine scopeK.ret ?_ | refine SA.label ?_)
    | ((with_reducible refine SA.regionN ok (by kernel_rfl) lv84 ?_); intro R hR; simp only [go_sem, strip])
    | ((with_reducible first | refine ctrK.normal ?_ | refine ctrK.ret ?_)
       simp only [go_sem, resA, resV, backK, seval]
       exact ⟨rfl, rfl⟩)

def lv68 : List (Nat × List Nat) := [(0, [2, 3, 4, 6]), (1, [2, 3, 4, 6]), (2, [2, 3, 4, 6, 7]), (3, [2, 3, 4, 6, 7, 27]), (4, [6]), (5, [2, 3, 4, 6, 7, 30]), (6, [4, 6]), (7, [6]), (8, [2, 3, 4, 6, 7]), (9, [6]), (10, [2, 3, 4, 6, 7, 37]), (11, [2, 3, 4, 6, 7, 8]), (12, [2, 3, 4, 6]), (13, [2, 3, 4, 6, 7, 57]), (14, [2, 3, 4, 6, 7, 10, 11]), (15, [2, 3, 4, 6, 7, 10, 11, 78]), (16, [6]), (17, [2, 3, 4, 6, 7, 10, 82]), (18, [6]), (19, [2, 3, 4, 6]), (20, [2, 3, 4, 6, 7, 90]), (21, [2, 3, 4, 6]), (22, [2, 3, 4, 6, 7, 100]), (23, [2, 3, 4, 6]), (24, [2, 3, 4, 6, 7, 113]), (25, [2, 3, 4, 6]), (26, [2, 3, 4, 6, 7, 120]), (27, [2, 3, 4, 6, 7, 129]), (28, [2, 3, 4, 6]), (29, [2, 3, 4, 6, 7, 133]), (30, [2, 3, 4, 6, 142]), (31, [6]), (32, [2, 3, 4, 6])]
-- scarab/scarabref07.Settled
theorem settled_ctr (p : Prg) (g : Gor) (m0 : Nat) (hp : p.Fit) (hr : rightP p = true) (hg : gorIn p g) (hm0 : m0 ≤ 4096) : Ctr Go.Proofs.Tryz.prog tab 68 [26, 38, 3] [38] [p.v, g.v, .int m0] [(settled applyW p g m0).v] := by
  have hfit := hp
  have hcode := p.code_len hp
  have hsl := p.sels_len hp
  obtain ⟨hp1, hp2, hp3, hp4⟩ := hp
  have hok := Prg.ok hr
  refine Ctr.body ok Go.Proofs.Tryz.func68 rfl rfl 149 rfl [.cell 6 38] rfl (by simp [fromVs]) ?_
  simp only [fromVs, fromV, args0, V.toList_list, V.toInt_int, V.toBool_bool, Nat.zero_add, Nat.reduceAdd, ty3, ty26, ty38]
  repeat' first
    | ((with_reducible refine SART.told 2 10 ?_)
       rw [getD_instrs (by omega)])
    | ((with_reducible refine SARA.told 32 3 ?_)
       rw [wrap64_ok (n := h.pc + 1) (by omega) (by omega)])
    | ((with_reducible first | refine SARA.do fun R1 hR1 => ?_ | refine SART.do fun R1 hR1 => ?_ | refine SARB.keep fun R1 hR1 => ?_ | refine SARB.any fun R1 hR1 => ?_); (simp only [go_sem, seval, -List.reduceReplicate, zeroGo_at]); (repeat' with_reducible refine And.intro ?_ ?_); all_goals first | (refine hR1 _ ?_; clear hR1 R1) | ((first | refine ⟨_, _, rfl, .inl ⟨_, CallQ.ctr ok (local_ctr _) (by first | rfl | (simp [go_sem]; done) | fail) rfl, ?_⟩⟩ | refine ⟨_, _, rfl, .inl ⟨_, CallQ.ctr ok (ended_ctr _ _ _) (by first | rfl | (simp [go_sem]; done) | fail) rfl, ?_⟩⟩ | refine ⟨_, _, rfl, .inr (CallE.ctr ok (apply_ctr _ _ _) (by first | rfl | (simp [go_sem]; done) | fail) ?_)⟩ | refine ⟨_, _, rfl, .inr (CallB.ctr ok (apply_ctr _ _ _) (by first | rfl | (simp [go_sem]; done) | fail) ?_)⟩); all_goals ((try simp only [go_sem, seval, -List.reduceReplicate, zeroGo_at]); (repeat' with_reducible refine And.intro ?_ ?_); all_goals first | (refine hR1 _ ?_; clear hR1 R1) | omega | rfl | decide | assumption | (intro _; omega) | (simp; done) | (simp [-List.getD_eq_getElem?_getD]; omega) | exact hcode _ | (intro _; exact hcode _) | exact hsl _ | (intro _; exact hsl _))) | omega | rfl | decide | assumption | (intro _; omega) | (simp; done) | (simp [-List.getD_eq_getElem?_getD]; omega) | exact hcode _ | (intro _; exact hcode _) | exact hsl _ | (intro _; exact hsl _))
    | ((with_reducible refine SART.done ?_); refine hR _ ?_; clear hR R; try simp only [go_sem, lv68, lvOf, Nat.reduceBEq, Option.getD_some])
    | (with_reducible first | refine SART.br ?_ ?_ | exact SARL.nil | refine SARL.cons ?_ ?_)
    | ((with_reducible refine SARA.nil ?_); refine hR _ ?_; clear hR R; try simp only [go_sem, lv68, lvOf, Nat.reduceBEq, Option.getD_some])
    | (with_reducible first | refine thenK.normal ?_ | refine SA.seq ?_ | refine SA.skip ?_ | refine SA.block ?_ | refine blockK.normal ?_ | refine SA.exit ?_ | refine blockK.hit ?_ | refine blockK.miss (by decide) ?_ | refine thenK.exit ?_ | refine loopK.exit ?_ | refine SA.ret ?_ | refine thenK.ret ?_ | refine blockK.ret ?_ | refine loopK.ret ?_ | refine SA.scope ?_ | refine scopeK.normal ?_ | refine scopeK.exit ?_ | refine scopeK.ret ?_ | refine SA.label ?_)
    | ((with_reducible refine SA.at 10 ?_)
       have hlr := local_range hb27
       (with_reducible refine SA.regionN ok (by kernel_rfl) lv68 ?_); intro R hR; simp only [go_sem, strip])
    | ((with_reducible refine SA.at 21 ?_)
       have hI := loc40 hin hb90
       (with_reducible refine SA.regionN ok (by kernel_rfl) lv68 ?_); intro R hR; simp only [go_sem, strip])
    | ((with_reducible refine SA.at 27 ?_)
       have hI := loc43 hin hb120
       (with_reducible refine SA.regionN ok (by kernel_rfl) lv68 ?_); intro R hR; simp only [go_sem, strip])
    | ((with_reducible refine SA.at 30 ?_)
       have hI := loc44 hin hb133
       (with_reducible refine SA.regionN ok (by kernel_rfl) lv68 ?_); intro R hR; simp only [go_sem, strip])
    | ((with_reducible refine SA.at 2 ?_)
       obtain ⟨hf0, hf1, hpc0, hpc1, h8⟩ := hgi
       have hgi : gorIn p h := ⟨hf0, hf1, hpc0, hpc1, h8⟩
       have hcl := hok.code h.func.toNat (by omega)
       have hrg := hok.regs h.func.toNat
       have hin := instr_right hok hgi
       simp only [Prg.instr] at hin
       refine SA.regionT ok mixed (.take 0 (.take 1 (.take 2 (.take 3 (.take 4 (.take 5 (.take 6 (.take 7 (.take 8 (.take 9 (.take 10 (.br 11 (.br 12 .done .nil) .nil)))))))))))) [12] lv68 (by kernel_rfl) (fun R hR => ?_); simp only [go_sem, strip])
    | ((with_reducible refine SA.at 11 ?_)
       have hI := loc1 hin (by omega) (by omega)
       refine SA.regionT ok mixed (.take 0 (.take 1 (.take 2 (.take 3 (.take 4 (.take 5 (.take 6 (.br 7 (.take 8 (.take 9 (.take 10 (.take 11 (.take 12 .done))))) .nil)))))))) [] lv68 (by kernel_rfl) (fun R hR => ?_); simp only [go_sem, strip])
    | ((with_reducible refine SA.at 14 ?_)
       have hI := loc2 hin (by omega) (by omega)
       refine SA.regionT ok mixed (.take 0 (.take 1 (.take 2 (.take 3 (.take 4 (.take 5 (.take 6 (.take 7 (.take 8 (.take 9 (.take 10 (.take 11 (.br 12 (.take 13 (.take 14 (.take 15 (.take 16 (.take 17 .done))))) .nil))))))))))))) [] lv68 (by kernel_rfl) (fun R hR => ?_); simp only [go_sem, strip])
    | ((with_reducible refine SA.at 23 ?_)
       have hI := loc41 hin hb100
       refine SA.regionT ok mixed (.take 0 (.take 1 (.take 2 (.take 3 (.take 4 (.take 5 (.take 6 (.take 7 (.take 8 (.br 9 .done .nil)))))))))) [9] lv68 (by kernel_rfl) (fun R hR => ?_); simp only [go_sem, strip])
    | ((with_reducible refine SA.regionN ok (by kernel_rfl) lv68 ?_); intro R hR; simp only [go_sem, strip])
    | ((with_reducible refine SA.condAt 27 rfl (fun hb27 => ?_) (fun hb27 => ?_))
       all_goals
         try simp only [Bool.not_eq_true', decide_eq_true_eq, decide_eq_false_iff_not, Bool.not_eq_eq_eq_not, Bool.not_true, Bool.not_false, decide_not, Bool.not_eq_true] at hb27
         try (exfalso; omega))
    | ((with_reducible refine SA.condAt 30 rfl (fun hb30 => ?_) (fun hb30 => ?_))
       all_goals
         try simp only [Bool.not_eq_true', decide_eq_true_eq, decide_eq_false_iff_not, Bool.not_eq_eq_eq_not, Bool.not_true, Bool.not_false, decide_not, Bool.not_eq_true] at hb30
         try (exfalso; omega))
    | ((with_reducible refine SA.condAt 37 rfl (fun hb37 => ?_) (fun hb37 => ?_))
       all_goals
         try simp only [Bool.not_eq_true', decide_eq_true_eq, decide_eq_false_iff_not, Bool.not_eq_eq_eq_not, Bool.not_true, Bool.not_false, decide_not, Bool.not_eq_true] at hb37
         try (exfalso; omega))
    | ((with_reducible refine SA.condAt 57 rfl (fun hb57 => ?_) (fun hb57 => ?_))
       all_goals
         try simp only [Bool.not_eq_true', decide_eq_true_eq, decide_eq_false_iff_not, Bool.not_eq_eq_eq_not, Bool.not_true, Bool.not_false, decide_not, Bool.not_eq_true] at hb57
         try (exfalso; omega))
    | ((with_reducible refine SA.condAt 78 rfl (fun hb78 => ?_) (fun hb78 => ?_))
       all_goals
         try simp only [Bool.not_eq_true', decide_eq_true_eq, decide_eq_false_iff_not, Bool.not_eq_eq_eq_not, Bool.not_true, Bool.not_false, decide_not, Bool.not_eq_true] at hb78
         try (exfalso; omega))
    | ((with_reducible refine SA.condAt 82 rfl (fun hb82 => ?_) (fun hb82 => ?_))
       all_goals
         try simp only [Bool.not_eq_true', decide_eq_true_eq, decide_eq_false_iff_not, Bool.not_eq_eq_eq_not, Bool.not_true, Bool.not_false, decide_not, Bool.not_eq_true] at hb82
         try (exfalso; omega))
    | ((with_reducible refine SA.condAt 90 rfl (fun hb90 => ?_) (fun hb90 => ?_))
       all_goals
         try simp only [Bool.not_eq_true', decide_eq_true_eq, decide_eq_false_iff_not, Bool.not_eq_eq_eq_not, Bool.not_true, Bool.not_false, decide_not, Bool.not_eq_true] at hb90
         try (exfalso; omega))
    | ((with_reducible refine SA.condAt 100 rfl (fun hb100 => ?_) (fun hb100 => ?_))
       all_goals
         try simp only [Bool.not_eq_true', decide_eq_true_eq, decide_eq_false_iff_not, Bool.not_eq_eq_eq_not, Bool.not_true, Bool.not_false, decide_not, Bool.not_eq_true] at hb100
         try (exfalso; omega))
    | ((with_reducible refine SA.condAt 113 rfl (fun hb113 => ?_) (fun hb113 => ?_))
       all_goals
         try simp only [Bool.not_eq_true', decide_eq_true_eq, decide_eq_false_iff_not, Bool.not_eq_eq_eq_not, Bool.not_true, Bool.not_false, decide_not, Bool.not_eq_true] at hb113
         try (exfalso; omega))
    | ((with_reducible refine SA.condAt 120 rfl (fun hb120 => ?_) (fun hb120 => ?_))
       all_goals
         try simp only [Bool.not_eq_true', decide_eq_true_eq, decide_eq_false_iff_not, Bool.not_eq_eq_eq_not, Bool.not_true, Bool.not_false, decide_not, Bool.not_eq_true] at hb120
         try (exfalso; omega))
    | ((with_reducible refine SA.condAt 129 rfl (fun hb129 => ?_) (fun hb129 => ?_))
       all_goals
         try simp only [Bool.not_eq_true', decide_eq_true_eq, decide_eq_false_iff_not, Bool.not_eq_eq_eq_not, Bool.not_true, Bool.not_false, decide_not, Bool.not_eq_true] at hb129
         try (exfalso; omega))
    | ((with_reducible refine SA.condAt 133 rfl (fun hb133 => ?_) (fun hb133 => ?_))
       all_goals
         try simp only [Bool.not_eq_true', decide_eq_true_eq, decide_eq_false_iff_not, Bool.not_eq_eq_eq_not, Bool.not_true, Bool.not_false, decide_not, Bool.not_eq_true] at hb133
         try (exfalso; omega))
    | ((with_reducible refine SA.condAt 142 rfl (fun hb142 => ?_) (fun hb142 => ?_))
       all_goals
         try simp only [Bool.not_eq_true', decide_eq_true_eq, decide_eq_false_iff_not, Bool.not_eq_eq_eq_not, Bool.not_true, Bool.not_false, decide_not, Bool.not_eq_true] at hb142
         try (exfalso; omega))
    | ((with_reducible refine SA.atLoop ?_)
       refine SA.weaken (St.le.of_eq (by first | rfl | (simp; done) | fail)) (SA.loop (fun n τ => ∃ (m : Nat) (h : Gor), n = m ∧ (m ≤ 4096 ∧ gorIn p h ∧ settledN applyW p m h = settled applyW p g m0) ∧ τ = { tm := [(2, true, .int .i64 m), (3, true, .ptr 0 [] 26), (4, true, .ptr 1 [] 38), (6, true, .ptr 2 [] 38)], ob := [.var 26 (.data 26 p.v), .var 38 (.data 38 h.v), .var 38 (.data 38 zeroGor.v)], out := [], nt := 149 }) (m0) ⟨m0, ⟨1, g.func, g.pc, g.why, g.regs⟩, rfl, ⟨hm0, ⟨hg.f0, hg.f1, hg.p0, hg.p1, hg.regs⟩, rfl⟩, rfl⟩ ?_)
       rintro n τ ⟨m, h, hn, ⟨hm, hgi, hset⟩, rfl⟩)
    | ((with_reducible refine loopK.round ?_)
       first
         | (have hl := ls1 applyW hb37
            obtain ⟨m', rfl⟩ : ∃ m', m = m' + 1 := ⟨m - 1, by omega⟩
            have hw : IntKind.i64.wrap (((m' + 1 : Nat) : Int) - 1) = (m' : Int) := by rw [wrap64_ok (by omega) (by omega)]; omega
            have hin' := localStep_in applyW hok hgi hb27
            have hset' := hset
            rw [settledN_succ applyW hb27, hl, if_pos rfl] at hset'
            rw [hl] at hin'
            refine loopK.normal m' _ (by omega) ((St.le.cut 3 rfl).trans (St.le.of_eq (by simp only [hw, List.take_succ_cons, List.take_zero]))) ⟨m', _, rfl, ⟨by omega, hin', hset'⟩, rfl⟩)
         | (have hl := ls2 applyW hb37 hb57 hb78 hb82
            obtain ⟨m', rfl⟩ : ∃ m', m = m' + 1 := ⟨m - 1, by omega⟩
            have hw : IntKind.i64.wrap (((m' + 1 : Nat) : Int) - 1) = (m' : Int) := by rw [wrap64_ok (by omega) (by omega)]; omega
            have hin' := localStep_in applyW hok hgi hb27
            have hset' := hset
            rw [settledN_succ applyW hb27, hl, if_pos rfl] at hset'
            rw [hl] at hin'
            refine loopK.normal m' _ (by omega) ((St.le.cut 3 rfl).trans (St.le.of_eq (by simp only [hw, List.take_succ_cons, List.take_zero]))) ⟨m', _, rfl, ⟨by omega, hin', hset'⟩, rfl⟩)
         | (have hl := ls40 applyW hb37 hb57 hb90
            obtain ⟨m', rfl⟩ : ∃ m', m = m' + 1 := ⟨m - 1, by omega⟩
            have hw : IntKind.i64.wrap (((m' + 1 : Nat) : Int) - 1) = (m' : Int) := by rw [wrap64_ok (by omega) (by omega)]; omega
            have hin' := localStep_in applyW hok hgi hb27
            have hset' := hset
            rw [settledN_succ applyW hb27, hl, if_pos rfl] at hset'
            rw [hl] at hin'
            refine loopK.normal m' _ (by omega) ((St.le.cut 3 rfl).trans (St.le.of_eq (by simp only [hw, List.take_succ_cons, List.take_zero]))) ⟨m', _, rfl, ⟨by omega, hin', hset'⟩, rfl⟩)
         | (have hl := ls41 applyW hb37 hb57 hb90 hb100
            obtain ⟨m', rfl⟩ : ∃ m', m = m' + 1 := ⟨m - 1, by omega⟩
            have hw : IntKind.i64.wrap (((m' + 1 : Nat) : Int) - 1) = (m' : Int) := by rw [wrap64_ok (by omega) (by omega)]; omega
            have hin' := localStep_in applyW hok hgi hb27
            have hset' := hset
            rw [settledN_succ applyW hb27, hl, if_pos rfl] at hset'
            rw [hl] at hin'
            refine loopK.normal m' _ (by omega) ((St.le.cut 3 rfl).trans (St.le.of_eq (by simp only [hw, List.take_succ_cons, List.take_zero]))) ⟨m', _, rfl, ⟨by omega, hin', hset'⟩, rfl⟩)
         | (have hl := ls42 applyW hb37 hb57 hb90 hb100 hb113
            obtain ⟨m', rfl⟩ : ∃ m', m = m' + 1 := ⟨m - 1, by omega⟩
            have hw : IntKind.i64.wrap (((m' + 1 : Nat) : Int) - 1) = (m' : Int) := by rw [wrap64_ok (by omega) (by omega)]; omega
            have hin' := localStep_in applyW hok hgi hb27
            have hset' := hset
            rw [settledN_succ applyW hb27, hl, if_pos rfl] at hset'
            rw [hl] at hin'
            refine loopK.normal m' _ (by omega) ((St.le.cut 3 rfl).trans (St.le.of_eq (by simp only [hw, List.take_succ_cons, List.take_zero]))) ⟨m', _, rfl, ⟨by omega, hin', hset'⟩, rfl⟩)
         | (have hl := ls43 applyW hb37 hb57 hb90 hb100 hb113 hb120 hb129
            obtain ⟨m', rfl⟩ : ∃ m', m = m' + 1 := ⟨m - 1, by omega⟩
            have hw : IntKind.i64.wrap (((m' + 1 : Nat) : Int) - 1) = (m' : Int) := by rw [wrap64_ok (by omega) (by omega)]; omega
            have hin' := localStep_in applyW hok hgi hb27
            have hset' := hset
            rw [settledN_succ applyW hb27, hl, if_pos rfl] at hset'
            rw [hl] at hin'
            refine loopK.normal m' _ (by omega) ((St.le.cut 3 rfl).trans (St.le.of_eq (by simp only [hw, List.take_succ_cons, List.take_zero]))) ⟨m', _, rfl, ⟨by omega, hin', hset'⟩, rfl⟩)
         | (have hl := ls43f applyW hb37 hb57 hb90 hb100 hb113 hb120 hb129
            obtain ⟨m', rfl⟩ : ∃ m', m = m' + 1 := ⟨m - 1, by omega⟩
            have hw : IntKind.i64.wrap (((m' + 1 : Nat) : Int) - 1) = (m' : Int) := by rw [wrap64_ok (by omega) (by omega)]; omega
            have hin' := localStep_in applyW hok hgi hb27
            have hset' := hset
            rw [settledN_succ applyW hb27, hl, if_pos rfl] at hset'
            rw [hl] at hin'
            refine loopK.normal m' _ (by omega) ((St.le.cut 3 rfl).trans (St.le.of_eq (by simp only [hw, List.take_succ_cons, List.take_zero]))) ⟨m', _, rfl, ⟨by omega, hin', hset'⟩, rfl⟩)
         | (have hl := ls44 applyW hb37 hb57 hb90 hb100 hb113 hb120 hb133 hb142
            obtain ⟨m', rfl⟩ : ∃ m', m = m' + 1 := ⟨m - 1, by omega⟩
            have hw : IntKind.i64.wrap (((m' + 1 : Nat) : Int) - 1) = (m' : Int) := by rw [wrap64_ok (by omega) (by omega)]; omega
            have hin' := localStep_in applyW hok hgi hb27
            have hset' := hset
            rw [settledN_succ applyW hb27, hl, if_pos rfl] at hset'
            rw [hl] at hin'
            refine loopK.normal m' _ (by omega) ((St.le.cut 3 rfl).trans (St.le.of_eq (by simp only [hw, List.take_succ_cons, List.take_zero]))) ⟨m', _, rfl, ⟨by omega, hin', hset'⟩, rfl⟩))
    | ((with_reducible first | refine ctrK.normal ?_ | refine ctrK.ret ?_)
       simp only [go_sem, resA, resV, backK, seval]
       first
         | (have hl := ls2z applyW hb37 hb57 hb78
            obtain ⟨m', rfl⟩ : ∃ m', m = m' + 1 := ⟨m - 1, by omega⟩
            have hset' := hset
            rw [settledN_succ applyW hb27, hl, if_neg (by simp)] at hset'
            refine ⟨rfl, ?_⟩
            exact congrArg (fun g : Gor => some g.v) hset')
         | (have hl := ls2s applyW hb37 hb57 hb78 hb82
            obtain ⟨m', rfl⟩ : ∃ m', m = m' + 1 := ⟨m - 1, by omega⟩
            have hset' := hset
            rw [settledN_succ applyW hb27, hl, if_neg (by simp)] at hset'
            refine ⟨rfl, ?_⟩
            exact congrArg (fun g : Gor => some g.v) hset')
         | (have hl := ls44z applyW hb37 hb57 hb90 hb100 hb113 hb120 hb133 hb142
            obtain ⟨m', rfl⟩ : ∃ m', m = m' + 1 := ⟨m - 1, by omega⟩
            have hset' := hset
            rw [settledN_succ applyW hb27, hl, if_neg (by simp)] at hset'
            refine ⟨rfl, ?_⟩
            exact congrArg (fun g : Gor => some g.v) hset')
         | (have hl := ls45 applyW hb37 hb57 hb90 hb100 hb113 hb120 hb133
            obtain ⟨m', rfl⟩ : ∃ m', m = m' + 1 := ⟨m - 1, by omega⟩
            have hset' := hset
            rw [settledN_succ applyW hb27, hl, if_neg (by simp)] at hset'
            refine ⟨rfl, ?_⟩
            exact congrArg (fun g : Gor => some g.v) hset')
         | (refine ⟨rfl, ?_⟩
            rw [settledN_stop applyW hb27] at hset
            exact congrArg (fun g : Gor => some g.v) hset)
         | (have hm1 : m = 0 := by omega
            subst hm1
            refine ⟨rfl, ?_⟩
            rw [settledN_zero applyW hb27] at hset
            exact congrArg (fun g : Gor => some g.v) hset))

end Go.Eng.Tryz
