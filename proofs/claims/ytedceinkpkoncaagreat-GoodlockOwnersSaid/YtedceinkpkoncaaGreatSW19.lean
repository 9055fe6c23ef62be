/- A part of the proof: walks through the program's functions, and what they compute. -/
import Derived.Test.YtedceinkpkoncaaGreatV2
import Derived.Test.YtedceinkpkoncaaGreatM2
namespace Go.Eng.Tryz
open Go.RowKit Go.Eng
set_option linter.unusedSimpArgs false
set_option linter.unusedVariables false
set_option maxHeartbeats 0
set_option maxRecDepth 20000

theorem zeroDid_at : tab.zero 110 = Did.v ⟨zeroStt, 0, 0, 0⟩ := rfl

def lv36 : List (Nat × List Nat) := [(0, [2, 3, 4, 5, 8]), (1, [2, 3, 4, 5, 8, 9]), (2, [2, 3, 4, 5, 8, 9, 10]), (3, [2, 3, 4, 5, 8, 9, 10, 11]), (4, [2, 3, 4, 5, 8, 9, 10, 11, 35]), (5, [2, 3, 4, 5, 8, 9, 10, 11, 35, 36]), (6, [8]), (7, [2, 3, 4, 5, 8, 9, 10, 11, 35, 43]), (8, [8]), (9, [2, 3, 4, 5, 8, 9, 10, 11, 35, 55]), (10, [8]), (11, [2, 3, 4, 5, 8, 9, 10, 11, 35, 66]), (12, [8]), (13, [2, 3, 4, 5, 8, 9, 10, 11, 35, 72]), (14, [8]), (15, [2, 3, 4, 5, 8, 9, 10, 11, 35, 79]), (16, [2, 5, 8, 10, 12]), (17, [8, 10, 12, 97]), (18, [8, 10]), (19, [8]), (20, [8, 10]), (21, [8]), (22, [2, 3, 4, 5, 8, 9, 10, 11, 35, 103]), (23, [8, 10]), (24, [8]), (25, [2, 3, 4, 5, 8, 9, 10, 11, 111]), (26, [2, 3, 4, 8, 10, 11, 13]), (27, [2, 3, 4, 8, 10, 11, 13, 131]), (28, [8, 10]), (29, [8]), (30, [2, 4, 8, 10, 11, 14]), (31, [2, 4, 8, 10, 11, 14]), (32, [2, 4, 8, 10, 11, 14, 145]), (33, [8]), (34, [8]), (35, [8])]
-- scarab/scarabref08.visible
theorem visible_ctr8 (p : Prg) (s : Stt) (g alt : Int) (hp : p.Fit) (hr : rightP p = true) (hw : Wf p s) (hg : 0 ≤ g ∧ g < s.count) (ha : alt ∈ alts p s g) : Ctr Go.Proofs.Tryz.prog tab 36 [26, 41, 3, 3] [110] [p.v, s.v, .int g, .int alt] [(visible p s g alt).v] := by
  have hpp := hp
  have hok := Prg.ok hr
  have hs := hw.shape
  have hcnt := hw.count
  have hcode := p.code_len hp
  have hsl := p.sels_len hp
  obtain ⟨hp1, hp2, hp3, hp4⟩ := hp
  have hs1 := hs.vars
  have hs2 := hs.owner
  have hs3 := hs.chans
  have hs5 := hs.gos
  have hsz := hok.sizes
  unfold Sizes at hsz
  have hmx : 256 ≤ maxLen := by decide
  have hg6 : 0 ≤ g ∧ g < 6 := by omega
  have hgi := hw.gos g hg.1 hg.2
  obtain ⟨hf0, hf1, hpc0, hpc1, h8⟩ := hgi
  have hgi := hw.gos g hg.1 hg.2
  have hrt : instrErr p (p.funcs.getD (s.gos.getD g.toNat default).func.toNat default) (instrAt p s g) = 0 := hw.right hok hg.1 hg.2
  have hrg := hok.regs (s.gos.getD g.toNat default).func.toNat
  have hcl := hok.code (s.gos.getD g.toNat default).func.toNat (by omega)
  have hch : ∀ c : Nat, 0 ≤ (s.chans.getD c default).len ∧ (s.chans.getD c default).len ≤ 4 := fun c => ⟨(hw.chans c).1, by have := (hw.chans c).2; have := (hok.caps c).2; omega⟩
  refine Ctr.body ok Go.Proofs.Tryz.func36 rfl rfl 167 rfl [.cell 8 110] rfl (by simp [fromVs]) ?_
  simp only [fromVs, fromV, args0, V.toList_list, V.toInt_int, V.toBool_bool, Nat.zero_add, Nat.reduceAdd, ty3, ty26, ty41]
  repeat' first
    | ((with_reducible refine SART.told 2 6 ?_)
       rw [wrap64_ok (n := (s.gos.getD g.toNat default).pc + 1) (by omega) (by omega)])
    | ((with_reducible refine SART.told 26 13 ?_)
       rw [getD_sels (by omega)])
    | ((with_reducible refine SARA.told 30 5 ?_)
       rw [getD_cass (by omega)])
    | ((with_reducible first | refine SARA.do fun R1 hR1 => ?_ | refine SART.do fun R1 hR1 => ?_ | refine SARB.keep fun R1 hR1 => ?_ | refine SARB.any fun R1 hR1 => ?_); (simp only [go_sem, seval, -List.reduceReplicate, zeroDid_at]); (repeat' with_reducible refine And.intro ?_ ?_); all_goals first | (refine hR1 _ ?_; clear hR1 R1) | ((first | refine ⟨_, _, rfl, .inl ⟨_, CallQ.ctr ok (instr8_ctr p s g hpp hs hg6 hgi) (by first | rfl | (simp [go_sem]; done) | fail) rfl, ?_⟩⟩ | refine ⟨_, _, rfl, .inl ⟨_, CallQ.ctr ok (at_ctr p s g hpp hs hg6 hgi) (by first | rfl | (simp [go_sem]; done) | fail) rfl, ?_⟩⟩ | refine ⟨_, _, rfl, .inl ⟨_, CallQ.ctr ok (taken_ctr _ g _ hs hg6 hc) (by first | rfl | (simp [go_sem]; done) | fail) rfl, ?_⟩⟩ | refine ⟨_, _, rfl, .inl ⟨_, CallQ.ctr ok (recv_ctr _ g _ _ _ hs hg6 hc hr8 hk8 hl) (by first | rfl | (simp [go_sem]; done) | fail) rfl, ?_⟩⟩ | refine ⟨_, _, rfl, .inl ⟨_, CallQ.ctr ok (closes_ctr _ _ hs hc) (by first | rfl | (simp [go_sem]; done) | fail) rfl, ?_⟩⟩ | refine ⟨_, _, rfl, .inl ⟨_, CallQ.ctr ok (spawn_ctr p _ g _ hs hg6 hcnt.1 (by omega) hI.2.1 (by omega) hx) (by first | rfl | (simp [go_sem]; done) | fail) rfl, ?_⟩⟩ | refine ⟨_, _, rfl, .inl ⟨_, CallQ.ctr ok (variables_ctr p _ _ g _ hs hg6 hrt hrg.2 (by omega)) (by first | rfl | (simp [go_sem]; done) | fail) rfl, ?_⟩⟩ | refine ⟨_, _, rfl, .inl ⟨_, CallQ.ctr ok (recv_ctr _ g _ _ (-1) hs hg6 hc4 hr8 (by decide) (hch _)) (by first | rfl | (simp [go_sem]; done) | fail) rfl, ?_⟩⟩ | ((first | refine ⟨_, _, rfl, .inl ⟨_, CallQ.ctr ok (send_ctr p _ g _ _ hpp hs hg6 hc hl) (by first | rfl | (simp [go_sem]; done) | fail) rfl, ?_⟩⟩ | refine ⟨_, _, rfl, .inl ⟨_, CallQ.ctr ok (send_ctr p _ g _ _ hpp hs hg6 ?_ ?_) (by first | rfl | (simp [go_sem]; done) | fail) rfl, ?_⟩⟩))); all_goals ((try simp only [go_sem, seval, -List.reduceReplicate, zeroDid_at]); (repeat' with_reducible refine And.intro ?_ ?_); all_goals first | (refine hR1 _ ?_; clear hR1 R1) | omega | rfl | decide | assumption | (intro _; omega) | (simp; done) | (simp [-List.getD_eq_getElem?_getD]; omega) | exact hcode _ | (intro _; exact hcode _) | exact hsl _ | (intro _; exact hsl _) | (simp [-List.getD_eq_getElem?_getD, roomFor, maxLen, by3, by49, by52, by55, by41]; omega) | (simp [-List.getD_eq_getElem?_getD, roomFor, maxLen, by3, by49, by52, by55, by41]; done))) | omega | rfl | decide | assumption | (intro _; omega) | (simp; done) | (simp [-List.getD_eq_getElem?_getD]; omega) | exact hcode _ | (intro _; exact hcode _) | exact hsl _ | (intro _; exact hsl _) | (simp [-List.getD_eq_getElem?_getD, roomFor, maxLen, by3, by49, by52, by55, by41]; omega) | (simp [-List.getD_eq_getElem?_getD, roomFor, maxLen, by3, by49, by52, by55, by41]; done))
    | ((with_reducible refine SART.done ?_); refine hR _ ?_; clear hR R; try simp only [go_sem, lv36, lvOf, Nat.reduceBEq, Option.getD_some])
    | (with_reducible first | refine SART.br ?_ ?_ | exact SARL.nil | refine SARL.cons ?_ ?_)
    | ((with_reducible refine SARA.nil ?_); refine hR _ ?_; clear hR R; try simp only [go_sem, lv36, lvOf, Nat.reduceBEq, Option.getD_some])
    | (with_reducible first | refine thenK.normal ?_ | refine SA.seq ?_ | refine SA.skip ?_ | refine SA.block ?_ | refine blockK.normal ?_ | refine SA.exit ?_ | refine blockK.hit ?_ | refine blockK.miss (by decide) ?_ | refine thenK.exit ?_ | refine loopK.exit ?_ | refine SA.ret ?_ | refine thenK.ret ?_ | refine blockK.ret ?_ | refine loopK.ret ?_ | refine SA.scope ?_ | refine scopeK.normal ?_ | refine scopeK.exit ?_ | refine scopeK.ret ?_ | refine SA.label ?_)
    | ((with_reducible refine SA.at 6 ?_)
       have hI := vis58 hrt (hw.op66 hok hg.1 hg.2 hb36)
       have hc : 0 ≤ (instrAt p s g).a ∧ (instrAt p s g).a < 4 := by omega
       (with_reducible refine SA.regionN ok (by kernel_rfl) lv36 ?_); intro R hR; simp only [go_sem, strip])
    | ((with_reducible refine SA.at 10 ?_)
       have hI := vis59 hrt (hw.op_at hok hg.1 hg.2 hb55 (by decide))
       have hc : 0 ≤ (instrAt p s g).b ∧ (instrAt p s g).b < 4 := by omega
       have hr8 : (instrAt p s g).a < 8 := by omega
       have hk8 : (instrAt p s g).c < 8 := by omega
       have hl := hch (instrAt p s g).b.toNat
       (with_reducible refine SA.regionN ok (by kernel_rfl) lv36 ?_); intro R hR; simp only [go_sem, strip])
    | ((with_reducible refine SA.at 12 ?_)
       have hI := vis60 hrt (hw.op_at hok hg.1 hg.2 hb66 (by decide))
       have hc : 0 ≤ (instrAt p s g).a ∧ (instrAt p s g).a < 4 := by omega
       (with_reducible refine SA.regionN ok (by kernel_rfl) lv36 ?_); intro R hR; simp only [go_sem, strip])
    | ((with_reducible refine SA.at 14 ?_)
       have hI := vis62 hrt (hw.op_at hok hg.1 hg.2 hb72 (by decide))
       have hpm := hok.params (instrAt p s g).b.toNat
       have hpr := hok.regs (instrAt p s g).b.toNat
       have hx : 0 < (p.funcs.getD (instrAt p s g).b.toNat default).params → 0 ≤ (instrAt p s g).c ∧ (instrAt p s g).c + (p.funcs.getD (instrAt p s g).b.toNat default).params ≤ 8 := by
         intro q
         have h1 := hI.2.2.2 q
         have h2 : w64 ((p.funcs.getD (s.gos.getD g.toNat default).func.toNat default).regs - (p.fn (instrAt p s g).b).params) = (p.funcs.getD (s.gos.getD g.toNat default).func.toNat default).regs - (p.funcs.getD (instrAt p s g).b.toNat default).params := wrap64_ok (n := (p.funcs.getD (s.gos.getD g.toNat default).func.toNat default).regs - (p.funcs.getD (instrAt p s g).b.toNat default).params) (by omega) (by omega)
         rw [h2] at h1
         omega
       (with_reducible refine SA.regionN ok (by kernel_rfl) lv36 ?_); intro R hR; simp only [go_sem, strip])
    | ((with_reducible refine SA.at 16 ?_)
       have hI := vis63 hrt (.inl (hw.op_at hok hg.1 hg.2 hb79 (by decide)))
       (with_reducible refine SA.regionN ok (by kernel_rfl) lv36 ?_); intro R hR; simp only [go_sem, strip])
    | ((with_reducible refine SA.at 23 ?_)
       have hI := vis63 hrt (.inr (hw.op_at hok hg.1 hg.2 hb103 (by decide)))
       (with_reducible refine SA.regionN ok (by kernel_rfl) lv36 ?_); intro R hR; simp only [go_sem, strip])
    | ((with_reducible refine SA.at 30 ?_)
       obtain ⟨k, rfl, hk, hco⟩ := has.resolve_left hb131
       have hC := case_ok hok (i := (s.gos.getD g.toNat default).func.toNat) (j := (instrAt p s g).a.toNat) (k := k) (by omega) (by omega) hk
       have hreg := hC.reg
       have hcc := hC.chan
       (with_reducible refine SA.regionN ok (by kernel_rfl) lv36 ?_); intro R hR; simp only [go_sem, strip])
    | ((with_reducible refine SA.at 34 ?_)
       have hc4 : 0 ≤ (((p.funcs.getD (s.gos.getD g.toNat default).func.toNat default).sels.getD (instrAt p s g).a.toNat default).cases.getD k default).chan ∧ (((p.funcs.getD (s.gos.getD g.toNat default).func.toNat default).sels.getD (instrAt p s g).a.toNat default).cases.getD k default).chan < 4 := by omega
       have hr8 : (((p.funcs.getD (s.gos.getD g.toNat default).func.toNat default).sels.getD (instrAt p s g).a.toNat default).cases.getD k default).reg < 8 := by omega
       (with_reducible refine SA.regionN ok (by kernel_rfl) lv36 ?_); intro R hR; simp only [go_sem, strip])
    | ((with_reducible refine SA.at 2 ?_)
       refine SA.regionT ok mixed (.take 0 (.take 1 (.take 2 (.take 3 (.take 4 (.take 5 (.take 6 (.take 7 (.br 8 (.br 9 .done .nil) .nil))))))))) [9] lv36 (by kernel_rfl) (fun R hR => ?_); simp only [go_sem, strip])
    | ((with_reducible refine SA.at 8 ?_)
       have hI := vis58 hrt (hw.op_at hok hg.1 hg.2 hb43 (by decide))
       have hc : 0 ≤ (instrAt p s g).a ∧ (instrAt p s g).a < p.chans.length ∧ (instrAt p s g).a < 4 := by omega
       have hl := sends_room hok hw ((plain_send hb43).symm.trans (alts_plain ha (by omega)).1)
       refine SA.regionT ok mixed (.take 0 (.take 1 (.take 2 (.take 3 (.take 4 (.take 5 (.take 6 (.take 7 (.take 8 (.br 9 (.br 10 .done .nil) .nil)))))))))) [10] lv36 (by kernel_rfl) (fun R hR => ?_); simp only [go_sem, strip])
    | ((with_reducible refine SA.at 26 ?_)
       have hI : 0 ≤ (instrAt p s g).a ∧ (instrAt p s g).a < ((p.funcs.getD (s.gos.getD g.toNat default).func.toNat default).sels.length : Int) := vis61 hrt (hw.op_at hok hg.1 hg.2 hb111 (by decide))
       have hsh := hok.short (s.gos.getD g.toNat default).func.toNat (instrAt p s g).a.toNat (by omega)
       have has : alt = (((p.funcs.getD (s.gos.getD g.toNat default).func.toNat default).sels.getD (instrAt p s g).a.toNat default).cases.length : Int) ∨ ∃ k : Nat, alt = k ∧ k < ((p.funcs.getD (s.gos.getD g.toNat default).func.toNat default).sels.getD (instrAt p s g).a.toNat default).cases.length ∧ caseOk p s (((p.funcs.getD (s.gos.getD g.toNat default).func.toNat default).sels.getD (instrAt p s g).a.toNat default).cases.getD k default) = true := alts_sel ha hb111
       refine SA.regionT ok mixed (.take 0 (.take 1 (.take 2 (.take 3 (.take 4 (.take 5 (.take 6 (.take 7 (.take 8 (.take 9 (.take 10 (.take 11 (.take 12 (.take 13 (.br 14 (.br 15 .done .nil) .nil))))))))))))))) [15] lv36 (by kernel_rfl) (fun R hR => ?_); simp only [go_sem, strip])
    | ((with_reducible refine SA.at 33 ?_)
       have hr0 : 0 ≤ (((p.funcs.getD (s.gos.getD g.toNat default).func.toNat default).sels.getD (instrAt p s g).a.toNat default).cases.getD k default).reg ∧ (((p.funcs.getD (s.gos.getD g.toNat default).func.toNat default).sels.getD (instrAt p s g).a.toNat default).cases.getD k default).reg < (p.funcs.getD (s.gos.getD g.toNat default).func.toNat default).regs := hreg.resolve_right (fun q => Bool.noConfusion (q.1.symm.trans hb145))
       have hsn : sends p s (((p.funcs.getD (s.gos.getD g.toNat default).func.toNat default).sels.getD (instrAt p s g).a.toNat default).cases.getD k default).chan = true := by
         unfold caseOk at hco
         rw [if_pos hb145] at hco
         exact hco
       have hl := sends_room hok hw hsn
       have hc : 0 ≤ (((p.funcs.getD (s.gos.getD g.toNat default).func.toNat default).sels.getD (instrAt p s g).a.toNat default).cases.getD k default).chan ∧ (((p.funcs.getD (s.gos.getD g.toNat default).func.toNat default).sels.getD (instrAt p s g).a.toNat default).cases.getD k default).chan < p.chans.length ∧ (((p.funcs.getD (s.gos.getD g.toNat default).func.toNat default).sels.getD (instrAt p s g).a.toNat default).cases.getD k default).chan < 4 := by omega
       refine SA.regionT ok mixed (.take 0 (.take 1 (.take 2 (.take 3 (.take 4 (.take 5 (.take 6 (.take 7 (.take 8 (.br 9 (.br 10 .done .nil) .nil)))))))))) [10] lv36 (by kernel_rfl) (fun R hR => ?_); simp only [go_sem, strip])
    | ((with_reducible refine SA.regionN ok (by kernel_rfl) lv36 ?_); intro R hR; simp only [go_sem, strip])
    | ((with_reducible refine SA.condAt 36 rfl (fun hb36 => ?_) (fun hb36 => ?_))
       all_goals
         try simp only [decide_eq_true_eq, decide_eq_false_iff_not] at hb36)
    | ((with_reducible refine SA.condAt 43 rfl (fun hb43 => ?_) (fun hb43 => ?_))
       all_goals
         try simp only [decide_eq_true_eq, decide_eq_false_iff_not] at hb43)
    | ((with_reducible refine SA.condAt 55 rfl (fun hb55 => ?_) (fun hb55 => ?_))
       all_goals
         try simp only [decide_eq_true_eq, decide_eq_false_iff_not] at hb55)
    | ((with_reducible refine SA.condAt 66 rfl (fun hb66 => ?_) (fun hb66 => ?_))
       all_goals
         try simp only [decide_eq_true_eq, decide_eq_false_iff_not] at hb66)
    | ((with_reducible refine SA.condAt 72 rfl (fun hb72 => ?_) (fun hb72 => ?_))
       all_goals
         try simp only [decide_eq_true_eq, decide_eq_false_iff_not] at hb72)
    | ((with_reducible refine SA.condAt 79 rfl (fun hb79 => ?_) (fun hb79 => ?_))
       all_goals
         try simp only [decide_eq_true_eq, decide_eq_false_iff_not] at hb79)
    | ((with_reducible refine SA.condAt 97 rfl (fun hb97 => ?_) (fun hb97 => ?_))
       all_goals
         simp at hb97)
    | ((with_reducible refine SA.condAt 103 rfl (fun hb103 => ?_) (fun hb103 => ?_))
       all_goals
         try simp only [decide_eq_true_eq, decide_eq_false_iff_not] at hb103)
    | ((with_reducible refine SA.condAt 111 rfl (fun hb111 => ?_) (fun hb111 => ?_))
       all_goals
         try simp only [decide_eq_true_eq, decide_eq_false_iff_not] at hb111)
    | ((with_reducible refine SA.condAt 131 rfl (fun hb131 => ?_) (fun hb131 => ?_))
       all_goals
         try simp only [decide_eq_true_eq, decide_eq_false_iff_not] at hb131)
    | ((with_reducible refine SA.condAt 145 rfl (fun hb145 => ?_) (fun hb145 => ?_))
       all_goals
         try simp only [decide_eq_true_eq, decide_eq_false_iff_not] at hb145)
    | ((with_reducible first | refine ctrK.normal ?_ | refine ctrK.ret ?_)
       simp only [go_sem, resA, resV, backK, seval]
       first
         | (have q : _ = true := hb145
            exact ⟨rfl, congrArg (fun d : Did => some d.v) (show _ = visible p s g _ from Eq.symm ((if_neg hb36).trans ((if_neg hb43).trans ((if_neg hb55).trans ((if_neg hb66).trans ((if_neg hb72).trans ((if_neg hb79).trans ((if_neg hb103).trans ((if_pos hb111).trans ((if_neg hb131).trans (if_pos hb145)))))))))))⟩)
         | (have q : _ = false := hb145
            exact ⟨rfl, congrArg (fun d : Did => some d.v) (show _ = visible p s g _ from Eq.symm ((if_neg hb36).trans ((if_neg hb43).trans ((if_neg hb55).trans ((if_neg hb66).trans ((if_neg hb72).trans ((if_neg hb79).trans ((if_neg hb103).trans ((if_pos hb111).trans ((if_neg hb131).trans (if_neg (fun q => Bool.noConfusion (hb145.symm.trans q)))))))))))))⟩)
         | (have q : _ = _ := hb131
            exact ⟨rfl, congrArg (fun d : Did => some d.v) (show _ = visible p s g _ from Eq.symm ((if_neg hb36).trans ((if_neg hb43).trans ((if_neg hb55).trans ((if_neg hb66).trans ((if_neg hb72).trans ((if_neg hb79).trans ((if_neg hb103).trans ((if_pos hb111).trans (if_pos hb131))))))))))⟩)
         | (have q : (_ ∨ _) ∨ _ := hb97
            exact ⟨rfl, congrArg (fun d : Did => some d.v) (show _ = visible p s g _ from Eq.symm ((if_neg hb36).trans ((if_neg hb43).trans ((if_neg hb55).trans ((if_neg hb66).trans ((if_neg hb72).trans ((if_pos hb79).trans (if_pos (or_assoc.1 hb97)))))))))⟩)
         | (have q : _ ∧ _ := hb97
            exact ⟨rfl, congrArg (fun d : Did => some d.v) (show _ = visible p s g _ from Eq.symm ((if_neg hb36).trans ((if_neg hb43).trans ((if_neg hb55).trans ((if_neg hb66).trans ((if_neg hb72).trans ((if_pos hb79).trans (if_neg (fun q => q.elim (fun q => absurd q (Int.not_lt.2 hb97.1.1)) (fun q => q.elim (fun q => absurd hb97.1.2 (Int.not_lt.2 q)) hb97.2))))))))))⟩)
         | (exact ⟨rfl, congrArg (fun d : Did => some d.v) (show _ = visible p s g _ from Eq.symm (if_pos hb36))⟩)
         | (exact ⟨rfl, congrArg (fun d : Did => some d.v) (show _ = visible p s g _ from Eq.symm ((if_neg hb36).trans (if_pos hb43)))⟩)
         | (exact ⟨rfl, congrArg (fun d : Did => some d.v) (show _ = visible p s g _ from Eq.symm ((if_neg hb36).trans ((if_neg hb43).trans (if_pos hb55))))⟩)
         | (exact ⟨rfl, congrArg (fun d : Did => some d.v) (show _ = visible p s g _ from Eq.symm ((if_neg hb36).trans ((if_neg hb43).trans ((if_neg hb55).trans (if_pos hb66)))))⟩)
         | (exact ⟨rfl, congrArg (fun d : Did => some d.v) (show _ = visible p s g _ from Eq.symm ((if_neg hb36).trans ((if_neg hb43).trans ((if_neg hb55).trans ((if_neg hb66).trans (if_pos hb72))))))⟩)
         | (exact ⟨rfl, congrArg (fun d : Did => some d.v) (show _ = visible p s g _ from Eq.symm ((if_neg hb36).trans ((if_neg hb43).trans ((if_neg hb55).trans ((if_neg hb66).trans ((if_neg hb72).trans ((if_neg hb79).trans (if_pos hb103))))))))⟩)
         | (exact ⟨rfl, congrArg (fun d : Did => some d.v) (show _ = visible p s g _ from Eq.symm ((if_neg hb36).trans ((if_neg hb43).trans ((if_neg hb55).trans ((if_neg hb66).trans ((if_neg hb72).trans ((if_neg hb79).trans ((if_neg hb103).trans ((if_neg hb111).trans (rfl))))))))))⟩))

end Go.Eng.Tryz
