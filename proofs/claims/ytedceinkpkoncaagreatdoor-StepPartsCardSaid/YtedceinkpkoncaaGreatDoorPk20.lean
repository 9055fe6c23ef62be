/- A part of the proof: walks through the program's functions, and what they compute. -/
import Derived.Test.YtedceinkpkoncaaGreatDoorPk18
import Derived.Test.YtedceinkpkoncaaGreatDoorPk19
import Derived.Test.YtedceinkpkoncaaGreatDoorPk15
namespace Go.Eng.Tryz
open Go.RowKit Go.Eng
set_option linter.unusedSimpArgs false
set_option linter.unusedVariables false
set_option maxHeartbeats 0
set_option maxRecDepth 20000

def lv131 : List (Nat × List Nat) := [(0, [0, 1]), (1, [1, 5]), (2, [1, 5, 6]), (3, [4]), (4, [1, 5, 10]), (5, [4]), (6, [1, 5, 18]), (7, [4]), (8, [1, 5, 26]), (9, [4]), (10, [1, 5, 34]), (11, [4]), (12, [1, 5, 38]), (13, [4]), (14, [1, 5, 42]), (15, [4]), (16, [1, 46]), (17, [4]), (18, [4])]
-- scarab/state.may
theorem may_ctr (why op : Int) : Ctr Go.Proofs.Tryz.prog tab 131 [3, 43] [4] [.int why, .int op] [.bool (failing op why)] := by
  refine Ctr.body ok Go.Proofs.Tryz.func131 rfl rfl 50 rfl [.tmp 4] rfl (by simp [fromVs]) ?_
  simp only [fromVs, fromV, args0, V.toList_list, V.toInt_int, V.toBool_bool, Nat.zero_add, Nat.reduceAdd, ty3, ty43]
  repeat' first
    | ((with_reducible refine SARA.do fun R1 hR1 => ?_); (simp only [go_sem, seval, -List.reduceReplicate, Bool.cond_false_right, Bool.cond_true_left]); (repeat' with_reducible refine And.intro ?_ ?_); all_goals first | (refine hR1 _ ?_; clear hR1 R1) | omega | rfl | decide | assumption | (intro _; omega) | (simp; done) | (simp; omega))
    | ((with_reducible refine SARA.nil ?_); refine hR _ ?_; clear hR R; try simp only [go_sem, lv131, lvOf, Nat.reduceBEq, Option.getD_some])
    | (with_reducible first | refine thenK.normal ?_ | refine SA.seq ?_ | refine SA.skip ?_ | refine SA.block ?_ | refine blockK.normal ?_ | refine SA.exit ?_ | refine blockK.hit ?_ | refine blockK.miss (by decide) ?_ | refine thenK.exit ?_ | refine loopK.exit ?_ | refine SA.ret ?_ | refine thenK.ret ?_ | refine blockK.ret ?_ | refine loopK.ret ?_ | refine SA.scope ?_ | refine scopeK.normal ?_ | refine scopeK.exit ?_ | refine scopeK.ret ?_ | refine SA.label ?_)
    | ((with_reducible refine SA.regionN ok (by kernel_rfl) lv131 ?_); intro R hR; simp only [go_sem, strip])
    | ((with_reducible refine SA.cond rfl ?_ ?_)
       all_goals
         intro hb
         try simp [-List.getD_eq_getElem?_getD] at hb
         try (exfalso; omega))
    | ((with_reducible first | refine ctrK.normal ?_ | refine ctrK.ret ?_)
       simp only [go_sem, resA, resV, backK, seval]
       refine ⟨rfl, ?_⟩
       first | (subst_vars; rfl) | (subst_vars; simp [failing]; done) | (simp_all [failing]; done))

def lv76 : List (Nat × List Nat) := [(0, [2, 3]), (1, [2, 3, 30]), (2, [4]), (3, [3, 5]), (4, [3, 5, 47]), (5, [4]), (6, [3, 5, 6]), (7, [3, 5, 6, 57, 58]), (8, [3, 5, 6, 57, 58, 59]), (9, [3, 5, 6, 7, 8, 57, 58]), (10, [3, 5, 6, 57, 58, 72]), (11, [4]), (12, [3, 5, 6, 57, 58]), (13, [3, 9]), (14, [3, 9, 82]), (15, [3, 9, 82, 83]), (16, [4]), (17, [3, 9, 82, 89]), (18, [4]), (19, [3, 9, 98]), (20, [4]), (21, [4])]
-- scarab/state.fits
theorem fits_ctr (p : Prg) (g : Gor) (hp : p.Fit) (h8 : g.regs.length = 8) : Ctr Go.Proofs.Tryz.prog tab 76 [26, 34] [4] [p.v, g.v] [.bool (gorOk p g)] := by
  have hfit := hp
  have hcode := p.code_len hp
  have hsl := p.sels_len hp
  obtain ⟨hp1, hp2, hp3, hp4⟩ := hp
  refine Ctr.body ok Go.Proofs.Tryz.func76 rfl rfl 110 rfl [.tmp 4] rfl (by simp [fromVs]) ?_
  simp only [fromVs, fromV, args0, V.toList_list, V.toInt_int, V.toBool_bool, Nat.zero_add, Nat.reduceAdd, ty26, ty34]
  repeat' first
    | ((with_reducible refine SARA.told 3 5 ?_)
       rw [getD_fncs (by omega)])
    | ((with_reducible refine SARA.told 13 5 ?_)
       rw [getD_instrs (by omega)])
    | ((with_reducible refine SARA.do fun R1 hR1 => ?_); (simp only [go_sem, seval, -List.reduceReplicate, Bool.cond_false_right, Bool.cond_true_left]); (repeat' with_reducible refine And.intro ?_ ?_); all_goals first | (refine hR1 _ ?_; clear hR1 R1) | ((first | refine ⟨_, _, rfl, .inl ⟨_, CallQ.ctr ok (may_ctr _ _) (by first | rfl | (simp [go_sem]; done) | fail) rfl, ?_⟩⟩ | refine ⟨_, _, rfl, .inl ⟨_, fun hg => CallQ.ctr ok (may_ctr _ _) (by first | rfl | (simp [go_sem]; done) | fail) rfl, ?_⟩⟩ | refine ⟨_, _, rfl, .inl ⟨_, CallQ.ctr ok (plocal_ctr _) (by first | rfl | (simp [go_sem]; done) | fail) rfl, ?_⟩⟩ | refine ⟨_, _, rfl, .inl ⟨_, fun hg => CallQ.ctr ok (plocal_ctr _) (by first | rfl | (simp [go_sem]; done) | fail) rfl, ?_⟩⟩); all_goals ((try simp only [go_sem, seval, -List.reduceReplicate, Bool.cond_false_right, Bool.cond_true_left]); (repeat' with_reducible refine And.intro ?_ ?_); all_goals first | (refine hR1 _ ?_; clear hR1 R1) | omega | rfl | decide | assumption | (intro _; omega) | (simp; done) | (simp [-List.getD_eq_getElem?_getD]; omega) | exact hcode _ | (intro _; exact hcode _) | exact hsl _ | (intro _; exact hsl _))) | omega | rfl | decide | assumption | (intro _; omega) | (simp; done) | (simp [-List.getD_eq_getElem?_getD]; omega) | exact hcode _ | (intro _; exact hcode _) | exact hsl _ | (intro _; exact hsl _))
    | ((with_reducible refine SARA.nil ?_); refine hR _ ?_; clear hR R; try simp only [go_sem, lv76, lvOf, Nat.reduceBEq, Option.getD_some])
    | (with_reducible first | refine thenK.normal ?_ | refine SA.seq ?_ | refine SA.skip ?_ | refine SA.block ?_ | refine blockK.normal ?_ | refine SA.exit ?_ | refine blockK.hit ?_ | refine blockK.miss (by decide) ?_ | refine thenK.exit ?_ | refine loopK.exit ?_ | refine SA.ret ?_ | refine thenK.ret ?_ | refine blockK.ret ?_ | refine loopK.ret ?_ | refine SA.scope ?_ | refine scopeK.normal ?_ | refine scopeK.exit ?_ | refine scopeK.ret ?_ | refine SA.label ?_)
    | ((with_reducible refine SA.regionN ok (by kernel_rfl) lv76 ?_); intro R hR; simp only [go_sem, strip])
    | ((with_reducible refine SA.condAt 30 rfl (fun hb30 => ?_) (fun hb30 => ?_))
       all_goals
         try simp [-List.getD_eq_getElem?_getD] at hb30
         try (exfalso; omega))
    | ((with_reducible refine SA.condAt 47 rfl (fun hb47 => ?_) (fun hb47 => ?_))
       all_goals
         try simp [-List.getD_eq_getElem?_getD] at hb47
         try (exfalso; omega))
    | ((with_reducible refine SA.condAt 59 rfl (fun hb59 => ?_) (fun hb59 => ?_))
       all_goals
         try simp [-List.getD_eq_getElem?_getD] at hb59
         try (exfalso; omega))
    | ((with_reducible refine SA.condAt 72 rfl (fun hb72 => ?_) (fun hb72 => ?_))
       all_goals
         try simp [-List.getD_eq_getElem?_getD] at hb72
         try (exfalso; omega))
    | ((with_reducible refine SA.condAt 83 rfl (fun hb83 => ?_) (fun hb83 => ?_))
       all_goals
         try simp [-List.getD_eq_getElem?_getD] at hb83
         try (exfalso; omega))
    | ((with_reducible refine SA.condAt 89 rfl (fun hb89 => ?_) (fun hb89 => ?_))
       all_goals
         try simp [-List.getD_eq_getElem?_getD] at hb89
         try (exfalso; omega))
    | ((with_reducible refine SA.condAt 98 rfl (fun hb98 => ?_) (fun hb98 => ?_))
       all_goals
         try simp [-List.getD_eq_getElem?_getD] at hb98
         try (exfalso; omega))
    | ((with_reducible refine SA.atLoop ?_)
       refine SA.weaken (St.le.of_eq (by first | rfl | (simp; done) | fail)) (SA.loop (fun n τ => ∃ (j : Nat), n = 8 - j ∧ (j ≤ 8 ∧ ∀ k : Nat, k < j → gorM p g ≤ (k : Int) → g.regs.getD k 0 = 0) ∧ τ = { tm := [(3, true, .ptr 1 [] 34), (5, true, .ptr 2 [] 121), (6, true, .bool (decide (g.status = 3) || decide (g.status = 4))), (57, true, .data 27 (.agg (g.regs.map V.int))), (58, true, .int .i64 j)], ob := [.var 26 (.data 26 p.v), .var 34 (.data 34 g.v), .var 121 (.data 121 (p.funcs.getD g.func.toNat default).v)], out := [], nt := 110 }) (8) ⟨0, rfl, ⟨by omega, fun k h => by omega⟩, rfl⟩ ?_)
       rintro n τ ⟨j, hn, ⟨hj, hz⟩, rfl⟩)
    | ((with_reducible refine loopK.round ?_)
       first
         | (have hlt : j < 8 := by omega
            have hw := wrap_succ (n := j) (m := 8) hlt (by decide)
            refine loopK.normal (8 - (j + 1)) _ (by omega) (St.le.of_eq (by simp only [hw])) ⟨j + 1, rfl, ⟨hlt, fun k h1 h2 => ?_⟩, rfl⟩
            by_cases h3 : k < j
            · exact hz k h3 h2
            · have h4 : k = j := by omega
              subst h4
              rw [gorM_eq] at h2
              by_cases q : g.regs.getD k 0 = 0
              · exact q
              · have := hb72 q
                split at h2 <;> omega))
    | ((with_reducible first | refine ctrK.normal ?_ | refine ctrK.ret ?_)
       simp only [go_sem, resA, resV, backK, seval]
       first
         | (have q : ((_ ∨ _) ∨ _) ∨ _ := hb30
            refine ⟨rfl, ?_⟩
            rw [gorOk_range (by unfold gorR; omega)])
         | (have q : _ ∨ _ := hb47
            refine ⟨rfl, ?_⟩
            rw [gorOk_range (by unfold gorR; omega)])
         | (have q : _ ∧ _ := hb72
            refine ⟨rfl, ?_⟩
            rw [gorOk_in (by unfold gorR; omega), regs_bad (i := (j : Int)) (by rw [gorM_eq]; split <;> omega) (by omega) (by omega) (by simpa using hb72.1), if_pos rfl])
         | (have hj8 : j = 8 := by omega
            subst hj8
            refine ⟨rfl, ?_⟩
            rw [gorOk_in (by unfold gorR; omega), regs_good (fun k q1 q2 => hz k (by omega) q1), if_neg (by simp)]
            rw [if_pos hb83])
         | (have hj8 : j = 8 := by omega
            subst hj8
            refine ⟨rfl, ?_⟩
            rw [gorOk_in (by unfold gorR; omega), regs_good (fun k q1 q2 => hz k (by omega) q1), if_neg (by simp)]
            rw [if_neg hb83]
            first | (simp [-List.getD_eq_getElem?_getD, hb89]; done) | (simp [-List.getD_eq_getElem?_getD, hb89, hb98]; done)))

def lv133 : List (Nat × List Nat) := [(0, [2, 3, 4, 5]), (1, [2, 3, 4, 5, 25]), (2, [8]), (3, [3, 9]), (4, [8])]
-- scarab/state.waits
theorem waits_ctr (p : Prg) (s : Stt) (g c : Int) (hp : p.Fit) (hs : s.Shape) (hcnt : s.count ≤ 6) (hgs : gorsOk p s 6 = true) : Ctr Go.Proofs.Tryz.prog tab 133 [26, 37, 3, 3] [4] [p.v, s.v, .int g, .int c] [.bool (waitsB p s g c)] := by
  have hfit := hp
  have hcode := p.code_len hp
  have hsl := p.sels_len hp
  obtain ⟨hp1, hp2, hp3, hp4⟩ := hp
  have hs5 := hs.gos
  refine Ctr.body ok Go.Proofs.Tryz.func133 rfl rfl 52 rfl [.tmp 8] rfl (by simp [fromVs]) ?_
  simp only [fromVs, fromV, args0, V.toList_list, V.toInt_int, V.toBool_bool, Nat.zero_add, Nat.reduceAdd, ty3, ty26, ty37]
  repeat' first
    | ((with_reducible refine SART.told 3 16 ?_)
       rw [getD_instrs (by omega)])
    | ((with_reducible first | refine SARA.do fun R1 hR1 => ?_ | refine SART.do fun R1 hR1 => ?_ | refine SARB.keep fun R1 hR1 => ?_ | refine SARB.any fun R1 hR1 => ?_); (simp only [go_sem, seval, -List.reduceReplicate, Bool.cond_false_right, Bool.cond_true_left]); (repeat' with_reducible refine And.intro ?_ ?_); all_goals first | (refine hR1 _ ?_; clear hR1 R1) | (intro hgf; simp only [hgf]; refine hR1 _ ?_; clear hR1 R1) | omega | rfl | decide | assumption | (intro _; omega) | (simp; done) | (simp [-List.getD_eq_getElem?_getD]; omega) | exact hcode _ | (intro _; exact hcode _) | exact hsl _ | (intro _; exact hsl _))
    | ((with_reducible refine SART.done ?_); refine hR _ ?_; clear hR R; try simp only [go_sem, lv133, lvOf, Nat.reduceBEq, Option.getD_some])
    | (with_reducible first | refine SART.br ?_ ?_ | exact SARL.nil | refine SARL.cons ?_ ?_)
    | ((with_reducible refine SARA.nil ?_); refine hR _ ?_; clear hR R; try simp only [go_sem, lv133, lvOf, Nat.reduceBEq, Option.getD_some])
    | (with_reducible first | refine thenK.normal ?_ | refine SA.seq ?_ | refine SA.skip ?_ | refine SA.block ?_ | refine blockK.normal ?_ | refine SA.exit ?_ | refine blockK.hit ?_ | refine blockK.miss (by decide) ?_ | refine thenK.exit ?_ | refine loopK.exit ?_ | refine SA.ret ?_ | refine thenK.ret ?_ | refine blockK.ret ?_ | refine loopK.ret ?_ | refine SA.scope ?_ | refine scopeK.normal ?_ | refine scopeK.exit ?_ | refine scopeK.ret ?_ | refine SA.label ?_)
    | ((with_reducible refine SA.at 3 ?_)
       have hG := gorOk_R (gorsOk_at hgs (i := g) (by omega) (by omega) (by omega))
       unfold gorR at hG
       refine SA.regionT ok mixed (.take 0 (.take 1 (.take 2 (.take 3 (.take 4 (.take 5 (.take 6 (.take 7 (.take 8 (.take 9 (.take 10 (.take 11 (.take 12 (.take 13 (.take 14 (.take 15 (.take 16 (.br 17 (.br 18 .done .nil) .nil)))))))))))))))))) [18] lv133 (by kernel_rfl) (fun R hR => ?_); simp only [go_sem, strip])
    | ((with_reducible refine SA.regionN ok (by kernel_rfl) lv133 ?_); intro R hR; simp only [go_sem, strip])
    | ((with_reducible refine SA.condAt 25 rfl (fun hb25 => ?_) (fun hb25 => ?_))
       all_goals
         try simp [-List.getD_eq_getElem?_getD] at hb25
         try (exfalso; omega))
    | ((with_reducible first | refine ctrK.normal ?_ | refine ctrK.ret ?_)
       simp only [go_sem, resA, resV, backK, seval]
       first
         | (have q : _ ∨ _ := hb25
            refine ⟨rfl, ?_⟩
            unfold waitsB
            rw [if_pos (or_assoc.1 hb25)])
         | (refine ⟨rfl, ?_⟩
            unfold waitsB
            rw [if_neg (by omega)]))

def lv77 : List (Nat × List Nat) := [(0, [2, 3, 4]), (1, [2, 3, 4, 7]), (2, [2, 3, 4, 7, 49]), (3, [6]), (4, [2, 3, 4, 7, 53, 54, 55]), (5, [2, 3, 4, 7, 53, 54, 55, 56]), (6, [2, 3, 4, 7, 9, 53, 54, 55]), (7, [2, 3, 4, 7, 53, 54, 55, 60]), (8, [6]), (9, [2, 3, 4, 7, 53, 54, 55]), (10, [2, 3, 4, 7, 63]), (11, [2, 3, 4, 7, 63, 64]), (12, [6]), (13, [2, 3, 4, 7, 63, 74]), (14, [6]), (15, [2, 3, 4, 7, 87]), (16, [6]), (17, [6])]
-- scarab/state.channel
theorem pchannel_ctr (p : Prg) (s : Stt) (m : Int) (hp : p.Fit) (hr : rightP p = true) (hm : 0 ≤ m ∧ m < p.chans.length) (hs : s.Shape) (hcnt : s.count ≤ 6) (hgs : gorsOk p s 6 = true) : Ctr Go.Proofs.Tryz.prog tab 77 [26, 37, 3] [4] [p.v, s.v, .int m] [.bool (chanOk p s m)] := by
  have hpp := hp
  have hfit := hp
  have hcode := p.code_len hp
  have hsl := p.sels_len hp
  obtain ⟨hp1, hp2, hp3, hp4⟩ := hp
  have hok := Prg.ok hr
  have hcap := hok.caps m.toNat
  have h4 : p.chans.length ≤ 4 := by
    have := hok.sizes
    unfold Sizes at this
    omega
  have hs3 := hs.chans
  have hb4 : (s.chans.getD m.toNat default).buf.length = 4 := hs.bufs _ (getD_mem _ (by omega))
  refine Ctr.body ok Go.Proofs.Tryz.func77 rfl rfl 115 rfl [.tmp 6] rfl (by simp [fromVs]) ?_
  simp only [fromVs, fromV, args0, V.toList_list, V.toInt_int, V.toBool_bool, Nat.zero_add, Nat.reduceAdd, ty3, ty26, ty37]
  repeat' first
    | ((with_reducible refine SARA.told 1 4 ?_)
       rw [getD_chns (by omega)])
    | ((with_reducible refine SARA.told 4 4 ?_)
       rw [buf_tail _ hb4]
       have hdl : ((s.chans.getD m.toNat default).buf.drop (s.chans.getD m.toNat default).len.toNat).length ≤ maxLen := by rw [List.length_drop, hb4]; unfold maxLen; omega
       have hd4 : ((s.chans.getD m.toNat default).buf.drop (s.chans.getD m.toNat default).len.toNat).length = 4 - (s.chans.getD m.toNat default).len.toNat := by rw [List.length_drop, hb4])
    | ((with_reducible first | refine SARA.do fun R1 hR1 => ?_ | refine SARQ.do fun R1 hR1 => ?_); (simp only [go_sem, seval, -List.reduceReplicate, Bool.cond_false_right, Bool.cond_true_left]); (repeat' with_reducible refine And.intro ?_ ?_); all_goals first | (refine hR1 _ ?_; clear hR1 R1) | (intro hgf; simp only [hgf]; refine hR1 _ ?_; clear hR1 R1) | ((first | refine ⟨_, _, rfl, _, CallQ.ctr ok (waits_ctr p s _ _ hpp hs hcnt hgs) (by first | rfl | (simp [go_sem]; done) | fail) rfl, ?_⟩ | refine ⟨_, _, rfl, _, fun hg => CallQ.ctr ok (waits_ctr p s _ _ hpp hs hcnt hgs) (by first | rfl | (simp [go_sem]; done) | fail) rfl, ?_⟩ | refine ⟨_, _, rfl, .inl ⟨_, CallQ.ctr ok (waits_ctr p s _ _ hpp hs hcnt hgs) (by first | rfl | (simp [go_sem]; done) | fail) rfl, ?_⟩⟩ | refine ⟨_, _, rfl, .inl ⟨_, fun hg => CallQ.ctr ok (waits_ctr p s _ _ hpp hs hcnt hgs) (by first | rfl | (simp [go_sem]; done) | fail) rfl, ?_⟩⟩); all_goals ((try simp only [go_sem, seval, -List.reduceReplicate, Bool.cond_false_right, Bool.cond_true_left]); (repeat' with_reducible refine And.intro ?_ ?_); all_goals first | (refine hR1 _ ?_; clear hR1 R1) | (intro hgf; simp only [hgf]; refine hR1 _ ?_; clear hR1 R1) | omega | rfl | decide | assumption | (intro _; omega) | (simp; done) | (simp [-List.getD_eq_getElem?_getD]; omega) | exact hcode _ | (intro _; exact hcode _) | exact hsl _ | (intro _; exact hsl _))) | omega | rfl | decide | assumption | (intro _; omega) | (simp; done) | (simp [-List.getD_eq_getElem?_getD]; omega) | exact hcode _ | (intro _; exact hcode _) | exact hsl _ | (intro _; exact hsl _))
    | ((with_reducible refine SARA.nil ?_); refine hR _ ?_; clear hR R; try simp only [go_sem, lv77, lvOf, Nat.reduceBEq, Option.getD_some])
    | ((with_reducible refine SARQ.nil ?_); refine hR _ ?_; clear hR R; try simp only [go_sem, lv77, lvOf, Nat.reduceBEq, Option.getD_some])
    | (with_reducible first | refine thenK.normal ?_ | refine SA.seq ?_ | refine SA.skip ?_ | refine SA.block ?_ | refine blockK.normal ?_ | refine SA.exit ?_ | refine blockK.hit ?_ | refine blockK.miss (by decide) ?_ | refine thenK.exit ?_ | refine loopK.exit ?_ | refine SA.ret ?_ | refine thenK.ret ?_ | refine blockK.ret ?_ | refine loopK.ret ?_ | refine SA.scope ?_ | refine scopeK.normal ?_ | refine scopeK.exit ?_ | refine scopeK.ret ?_ | refine SA.label ?_)
    | ((with_reducible refine SA.at 4 ?_)
       refine SA.weaken (St.le.frz ok.sized 2 rfl) ?_
       simp only [St.frz, Tm.frz, E.frz, E.frzL, Obj.frz, List.map_cons, List.map_nil, List.set_cons_zero, List.set_cons_succ, Nat.reduceBEq, Nat.beq_refl, if_true, if_false, Nat.beq_eq_true_eq, reduceCtorEq, Bool.false_eq_true, V.get, Nat.reduceEqDiff]
       (with_reducible refine SA.regionN ok (by kernel_rfl) lv77 ?_); intro R hR; simp only [go_sem, strip])
    | ((with_reducible refine SA.regionN ok (by kernel_rfl) lv77 ?_); intro R hR; simp only [go_sem, strip])
    | ((with_reducible refine SA.regionD ok mixed (by kernel_rfl) (by kernel_rfl) lv77 ?_); intro R hR; simp only [go_sem, strip])
    | ((with_reducible refine SA.condAt 49 rfl (fun hb49 => ?_) (fun hb49 => ?_))
       all_goals
         try simp [-List.getD_eq_getElem?_getD] at hb49
         try (exfalso; omega))
    | ((with_reducible refine SA.condAt 56 rfl (fun hb56 => ?_) (fun hb56 => ?_))
       all_goals
         try simp [-List.getD_eq_getElem?_getD] at hb56
         try (exfalso; omega))
    | ((with_reducible refine SA.condAt 60 rfl (fun hb60 => ?_) (fun hb60 => ?_))
       all_goals
         try simp [-List.getD_eq_getElem?_getD] at hb60
         try (exfalso; omega))
    | ((with_reducible refine SA.condAt 64 rfl (fun hb64 => ?_) (fun hb64 => ?_))
       all_goals
         try simp [-List.getD_eq_getElem?_getD] at hb64
         try (exfalso; omega))
    | ((with_reducible refine SA.condAt 74 rfl (fun hb74 => ?_) (fun hb74 => ?_))
       all_goals
         try simp [-List.getD_eq_getElem?_getD] at hb74
         try (exfalso; omega))
    | ((with_reducible refine SA.condAt 87 rfl (fun hb87 => ?_) (fun hb87 => ?_))
       all_goals
         try simp [-List.getD_eq_getElem?_getD] at hb87
         try (exfalso; omega))
    | ((with_reducible refine SA.atLoop ?_)
       refine SA.weaken (St.le.of_eq (by first | rfl | (simp; done))) (SA.loop (fun n τ => ∃ (j : Nat), n = ((s.chans.getD m.toNat default).buf.drop (s.chans.getD m.toNat default).len.toNat).length - j ∧ (j ≤ ((s.chans.getD m.toNat default).buf.drop (s.chans.getD m.toNat default).len.toNat).length ∧ ∀ k : Nat, k < j → ((s.chans.getD m.toNat default).buf.drop (s.chans.getD m.toNat default).len.toNat).getD k 0 = 0) ∧ τ = { tm := [(2, true, .int .i64 m), (3, true, .ptr 0 [] 26), (4, true, .ptr 1 [] 37), (7, true, .fptr 31 (s.chans.getD m.toNat default).v), (53, true, .fs 2 (((s.chans.getD m.toNat default).buf.drop (s.chans.getD m.toNat default).len.toNat).map V.int) true), (54, true, .int .i64 ((s.chans.getD m.toNat default).buf.drop (s.chans.getD m.toNat default).len.toNat).length), (55, true, .int .i64 j)], ob := [.var 26 (.data 26 p.v), .var 37 (.data 37 s.v), .dead], out := [], nt := 115 }) (((s.chans.getD m.toNat default).buf.drop (s.chans.getD m.toNat default).len.toNat).length) ⟨0, rfl, ⟨by omega, fun k h => by omega⟩, rfl⟩ ?_)
       rintro n τ ⟨j, hn, ⟨hj, hz⟩, rfl⟩)
    | ((with_reducible refine loopK.round ?_)
       first
         | (have hlt : j < ((s.chans.getD m.toNat default).buf.drop (s.chans.getD m.toNat default).len.toNat).length := by omega
            have hw := wrap_succ (n := j) (m := 256) (by omega) (by decide)
            refine loopK.normal (((s.chans.getD m.toNat default).buf.drop (s.chans.getD m.toNat default).len.toNat).length - (j + 1)) _ (by omega) (St.le.of_eq (by simp only [hw])) ⟨j + 1, rfl, ⟨hlt, fun k h1 => ?_⟩, rfl⟩
            by_cases h3 : k < j
            · exact hz k h3
            · have h4 : k = j := by omega
              rw [h4]; exact hb60))
    | ((with_reducible first | refine ctrK.normal ?_ | refine ctrK.ret ?_)
       simp only [go_sem, resA, resV, backK, seval]
       first
         | (have q : (((_ ∨ _) ∨ _) ∨ _) ∨ _ := hb49
            refine ⟨rfl, ?_⟩
            rw [chanOk_eq, if_pos (by omega)])
         | (have q : ¬_ := hb60
            refine ⟨rfl, ?_⟩
            rw [drop_at] at hb60
            rw [chanOk_eq, if_neg (by omega), buf_bad (i := (((s.chans.getD m.toNat default).len.toNat + j : Nat) : Int)) (by omega) (by omega) (by omega) (by rw [Int.toNat_natCast]; exact hb60), if_pos rfl])
         | (have hj4 : ((s.chans.getD m.toNat default).buf.drop (s.chans.getD m.toNat default).len.toNat).length = j := by omega
            refine ⟨rfl, ?_⟩
            rw [chan_tail (by omega) (buf_good (fun k q1 q2 => by
              have := hz (k - (s.chans.getD m.toNat default).len.toNat) (by omega)
              rw [drop_at, show (s.chans.getD m.toNat default).len.toNat + (k - (s.chans.getD m.toNat default).len.toNat) = k by omega] at this
              exact this))]
            rw [if_pos hb64])
         | (have hj4 : ((s.chans.getD m.toNat default).buf.drop (s.chans.getD m.toNat default).len.toNat).length = j := by omega
            refine ⟨rfl, ?_⟩
            rw [chan_tail (by omega) (buf_good (fun k q1 q2 => by
              have := hz (k - (s.chans.getD m.toNat default).len.toNat) (by omega)
              rw [drop_at, show (s.chans.getD m.toNat default).len.toNat + (k - (s.chans.getD m.toNat default).len.toNat) = k by omega] at this
              exact this))]
            rw [if_neg hb64, if_pos hb74])
         | (have hj4 : ((s.chans.getD m.toNat default).buf.drop (s.chans.getD m.toNat default).len.toNat).length = j := by omega
            refine ⟨rfl, ?_⟩
            rw [chan_tail (by omega) (buf_good (fun k q1 q2 => by
              have := hz (k - (s.chans.getD m.toNat default).len.toNat) (by omega)
              rw [drop_at, show (s.chans.getD m.toNat default).len.toNat + (k - (s.chans.getD m.toNat default).len.toNat) = k by omega] at this
              exact this))]
            rw [if_neg hb64, if_neg hb74, if_pos hb87])
         | (have hj4 : ((s.chans.getD m.toNat default).buf.drop (s.chans.getD m.toNat default).len.toNat).length = j := by omega
            refine ⟨rfl, ?_⟩
            rw [chan_tail (by omega) (buf_good (fun k q1 q2 => by
              have := hz (k - (s.chans.getD m.toNat default).len.toNat) (by omega)
              rw [drop_at, show (s.chans.getD m.toNat default).len.toNat + (k - (s.chans.getD m.toNat default).len.toNat) = k by omega] at this
              exact this))]
            rw [if_neg hb64, if_neg hb74, if_neg hb87]))

end Go.Eng.Tryz
namespace Go.Eng.Tryz
open Go.RowKit Go.Eng
set_option linter.unusedSimpArgs false
set_option linter.unusedVariables false
set_option maxHeartbeats 0
set_option maxRecDepth 20000

def lv147 : List (Nat × List Nat) := [(0, [0, 1]), (1, [4])]
-- scarab/scarabref03.within
theorem within_ctr (x n : Int) : Ctr Go.Proofs.Tryz.prog tab 147 [2, 3] [4] [.int x, .int n] [.bool (within x n)] := by
  refine Ctr.body ok Go.Proofs.Tryz.func147 rfl rfl 12 rfl [.tmp 4] rfl (by simp [fromVs]) ?_
  simp only [fromVs, fromV, args0, V.toList_list, V.toInt_int, V.toBool_bool, Nat.zero_add, Nat.reduceAdd, ty2, ty3]
  repeat' first
    | ((with_reducible refine SARA.do fun R1 hR1 => ?_); (simp only [go_sem, seval, -List.reduceReplicate]); (repeat' with_reducible refine And.intro ?_ ?_); all_goals first | (refine hR1 _ ?_; clear hR1 R1) | omega | rfl | decide | assumption | (intro _; omega) | (simp; done) | (simp; omega))
    | ((with_reducible refine SARA.nil ?_); refine hR _ ?_; clear hR R; try simp only [go_sem, lv147, lvOf, Nat.reduceBEq, Option.getD_some])
    | (with_reducible first | refine thenK.normal ?_ | refine SA.seq ?_ | refine SA.skip ?_ | refine SA.block ?_ | refine blockK.normal ?_ | refine SA.exit ?_ | refine blockK.hit ?_ | refine blockK.miss (by decide) ?_ | refine thenK.exit ?_ | refine loopK.exit ?_ | refine SA.ret ?_ | refine thenK.ret ?_ | refine blockK.ret ?_ | refine loopK.ret ?_ | refine SA.scope ?_ | refine scopeK.normal ?_ | refine scopeK.exit ?_ | refine scopeK.ret ?_ | refine SA.label ?_)
    | ((with_reducible refine SA.regionN ok (by kernel_rfl) lv147 ?_); intro R hR; simp only [go_sem, strip])
    | ((with_reducible first | refine ctrK.normal ?_ | refine ctrK.ret ?_)
       simp only [go_sem, resA, resV, backK, seval]
       refine ⟨rfl, ?_⟩
       simp only [within]
       cases decide (0 ≤ x) <;> rfl)

def lv127 : List (Nat × List Nat) := [(0, [0]), (1, [2])]
-- scarab/scarabref03.Local
theorem local_ctr (x : Int) : Ctr Go.Proofs.Tryz.prog tab 127 [43] [4] [.int x] [.bool (isLocal x)] := by
  refine Ctr.body ok Go.Proofs.Tryz.func127 rfl rfl 17 rfl [.tmp 2] rfl (by simp [fromVs]) ?_
  simp only [fromVs, fromV, args0, V.toList_list, V.toInt_int, V.toBool_bool, Nat.zero_add, Nat.reduceAdd, ty43]
  repeat' first
    | ((with_reducible refine SARA.do fun R1 hR1 => ?_); (simp only [go_sem, seval, -List.reduceReplicate]); (repeat' with_reducible refine And.intro ?_ ?_); all_goals first | (refine hR1 _ ?_; clear hR1 R1) | omega | rfl | decide | assumption | (intro _; omega) | (simp; done) | (simp; omega))
    | ((with_reducible refine SARA.nil ?_); refine hR _ ?_; clear hR R; try simp only [go_sem, lv127, lvOf, Nat.reduceBEq, Option.getD_some])
    | (with_reducible first | refine thenK.normal ?_ | refine SA.seq ?_ | refine SA.skip ?_ | refine SA.block ?_ | refine blockK.normal ?_ | refine SA.exit ?_ | refine blockK.hit ?_ | refine blockK.miss (by decide) ?_ | refine thenK.exit ?_ | refine loopK.exit ?_ | refine SA.ret ?_ | refine thenK.ret ?_ | refine blockK.ret ?_ | refine loopK.ret ?_ | refine SA.scope ?_ | refine scopeK.normal ?_ | refine scopeK.exit ?_ | refine scopeK.ret ?_ | refine SA.label ?_)
    | ((with_reducible refine SA.regionN ok (by kernel_rfl) lv127 ?_); intro R hR; simp only [go_sem, strip])
    | ((with_reducible first | refine ctrK.normal ?_ | refine ctrK.ret ?_)
       simp only [go_sem, resA, resV, backK, seval]
       refine ⟨rfl, ?_⟩
       simp only [isLocal]
       cases decide (1 ≤ x) <;> cases decide (x ≤ 36) <;> cases decide (40 ≤ x) <;> rfl)

def lv148 : List (Nat × List Nat) := [(0, [0]), (1, [2])]
-- scarab/scarabref03.Visible
theorem visible_ctr (x : Int) : Ctr Go.Proofs.Tryz.prog tab 148 [43] [4] [.int x] [.bool (isVisible x)] := by
  refine Ctr.body ok Go.Proofs.Tryz.func148 rfl rfl 9 rfl [.tmp 2] rfl (by simp [fromVs]) ?_
  simp only [fromVs, fromV, args0, V.toList_list, V.toInt_int, V.toBool_bool, Nat.zero_add, Nat.reduceAdd, ty43]
  repeat' first
    | ((with_reducible refine SARA.do fun R1 hR1 => ?_); (simp only [go_sem, seval, -List.reduceReplicate]); (repeat' with_reducible refine And.intro ?_ ?_); all_goals first | (refine hR1 _ ?_; clear hR1 R1) | omega | rfl | decide | assumption | (intro _; omega) | (simp; done) | (simp; omega))
    | ((with_reducible refine SARA.nil ?_); refine hR _ ?_; clear hR R; try simp only [go_sem, lv148, lvOf, Nat.reduceBEq, Option.getD_some])
    | (with_reducible first | refine thenK.normal ?_ | refine SA.seq ?_ | refine SA.skip ?_ | refine SA.block ?_ | refine blockK.normal ?_ | refine SA.exit ?_ | refine blockK.hit ?_ | refine blockK.miss (by decide) ?_ | refine thenK.exit ?_ | refine loopK.exit ?_ | refine SA.ret ?_ | refine thenK.ret ?_ | refine blockK.ret ?_ | refine loopK.ret ?_ | refine SA.scope ?_ | refine scopeK.normal ?_ | refine scopeK.exit ?_ | refine scopeK.ret ?_ | refine SA.label ?_)
    | ((with_reducible refine SA.regionN ok (by kernel_rfl) lv148 ?_); intro R hR; simp only [go_sem, strip])
    | ((with_reducible first | refine ctrK.normal ?_ | refine ctrK.ret ?_)
       simp only [go_sem, resA, resV, backK, seval]
       refine ⟨rfl, ?_⟩
       simp only [isVisible]
       cases decide (50 ≤ x) <;> rfl)

def lv149 : List (Nat × List Nat) := [(0, [0]), (1, [0, 8]), (2, [2]), (3, [0, 14]), (4, [2]), (5, [15]), (6, [15, 16]), (7, [2]), (8, [15, 18]), (9, [2]), (10, [15, 20]), (11, [2]), (12, [15, 22]), (13, [2]), (14, [15, 24]), (15, [2]), (16, [15, 26]), (17, [2]), (18, [15, 28]), (19, [2]), (20, [15, 30]), (21, [2]), (22, [15, 32]), (23, [2]), (24, [15, 34]), (25, [2]), (26, [15, 36]), (27, [2]), (28, [15, 38]), (29, [15, 38]), (30, [2]), (31, [15, 41]), (32, [2]), (33, [15, 43]), (34, [2]), (35, [15, 45]), (36, [2]), (37, [15, 47]), (38, [2]), (39, [15, 49]), (40, [2]), (41, [15, 51]), (42, [2]), (43, [15, 53]), (44, [2]), (45, [15, 55]), (46, [2]), (47, [57]), (48, [2]), (49, [2])]
-- scarab/scarabref03.Form
theorem form_ctr (op : Int) : Ctr Go.Proofs.Tryz.prog tab 149 [43] [9] [.int op] [.str (formB op)] := by
  refine Ctr.body ok Go.Proofs.Tryz.func149 rfl rfl 59 rfl [.tmp 2] rfl (by simp [fromVs]) ?_
  simp only [fromVs, fromV, args0, V.toList_list, V.toInt_int, V.toBool_bool, Nat.zero_add, Nat.reduceAdd, ty43]
  repeat' first
    | ((with_reducible refine SARA.do fun R1 hR1 => ?_); (simp only [go_sem, seval, -List.reduceReplicate]); (repeat' with_reducible refine And.intro ?_ ?_); all_goals first | (refine hR1 _ ?_; clear hR1 R1) | omega | rfl | decide | assumption | (intro _; omega) | (simp; done) | (simp; omega))
    | ((with_reducible refine SARA.nil ?_); refine hR _ ?_; clear hR R; try simp only [go_sem, lv149, lvOf, Nat.reduceBEq, Option.getD_some])
    | (with_reducible first | refine thenK.normal ?_ | refine SA.seq ?_ | refine SA.skip ?_ | refine SA.block ?_ | refine blockK.normal ?_ | refine SA.exit ?_ | refine blockK.hit ?_ | refine blockK.miss (by decide) ?_ | refine thenK.exit ?_ | refine loopK.exit ?_ | refine SA.ret ?_ | refine thenK.ret ?_ | refine blockK.ret ?_ | refine loopK.ret ?_ | refine SA.scope ?_ | refine scopeK.normal ?_ | refine scopeK.exit ?_ | refine scopeK.ret ?_ | refine SA.label ?_)
    | ((with_reducible refine SA.regionN ok (by kernel_rfl) lv149 ?_); intro R hR; simp only [go_sem, strip])
    | ((with_reducible refine SA.condAt 8 rfl (fun hb8 => ?_) (fun hb8 => ?_))
       all_goals
         try simp at hb8
         try (exfalso; omega))
    | ((with_reducible refine SA.condAt 14 rfl (fun hb14 => ?_) (fun hb14 => ?_))
       all_goals
         try simp at hb14
         try (exfalso; omega))
    | ((with_reducible refine SA.condAt 16 rfl (fun hb16 => ?_) (fun hb16 => ?_))
       all_goals
         try simp at hb16
         try (exfalso; omega))
    | ((with_reducible refine SA.condAt 18 rfl (fun hb18 => ?_) (fun hb18 => ?_))
       all_goals
         try simp at hb18
         try (exfalso; omega))
    | ((with_reducible refine SA.condAt 20 rfl (fun hb20 => ?_) (fun hb20 => ?_))
       all_goals
         try simp at hb20
         try (exfalso; omega))
    | ((with_reducible refine SA.cond rfl ?_ ?_)
       all_goals
         intro hb
         try simp at hb
         try (exfalso; omega))
    | ((with_reducible first | refine ctrK.normal ?_ | refine ctrK.ret ?_)
       simp only [go_sem, resA, resV, backK, seval]
       refine ⟨rfl, ?_⟩
       first | (subst_vars; rfl) | (unfold formB formL; (repeat (rw [if_neg (by omega)])); (try rw [if_pos (by omega)]); rfl))

def lv150 : List (Nat × List Nat) := [(0, [2, 3, 5, 6, 9]), (1, [3, 5, 6, 9, 12]), (2, [3, 5, 6, 9, 12, 13]), (3, [3, 5, 6, 9, 12, 13]), (4, [20]), (5, [10]), (6, [3, 5, 6, 9, 12, 21]), (7, [31]), (8, [10]), (9, [3, 5, 6, 9, 12, 32]), (10, [3, 6, 11]), (11, [62]), (12, [10]), (13, [3, 5, 6, 12, 63]), (14, [70]), (15, [10]), (16, [3, 5, 6, 12, 71]), (17, [3, 5, 78]), (18, [10]), (19, [85]), (20, [10]), (21, [3, 5, 6, 12, 86]), (22, [92]), (23, [10]), (24, [3, 5, 6, 12, 93]), (25, [100]), (26, [10]), (27, [3, 5, 6, 12, 101]), (28, [108]), (29, [10]), (30, [3, 5, 6, 12, 109]), (31, [116]), (32, [10]), (33, [3, 6, 117]), (34, [124]), (35, [10]), (36, [10])]
-- scarab/scarabref03.operand
theorem operand_ctr (p : Prg) (f : Fnc) (letter x : Int) (i : Instr) (hp : p.Fit) (hf : f.Fit) (h112 : letter = 112 → 0 ≤ i.b ∧ i.b < p.funcs.length) : Ctr Go.Proofs.Tryz.prog tab 150 [26, 121, 5, 2, 129] [3] [p.v, f.v, .int letter, .int x, i.v] [.int (operandErr p f letter x i)] := by
  obtain ⟨hp1, hp2, hp3, hp4⟩ := hp
  obtain ⟨hf1, hf2, hf3⟩ := hf
  refine Ctr.body ok Go.Proofs.Tryz.func150 rfl rfl 125 rfl [.tmp 10] rfl (by simp [fromVs]) ?_
  simp only [fromVs, fromV, args0, V.toList_list, V.toInt_int, V.toBool_bool, Nat.zero_add, Nat.reduceAdd, ty2, ty5, ty26, ty121, ty129]
  repeat' first
    | ((with_reducible refine SARA.told 19 4 ?_)
       rw [getD_vrs (by omega)])
    | ((with_reducible refine SARA.told 10 5 ?_)
       rw [getD_fncs (by omega)])
    | ((with_reducible refine SARA.do fun R1 hR1 => ?_); (simp only [go_sem, seval, -List.reduceReplicate]); (repeat' with_reducible refine And.intro ?_ ?_); all_goals first | (refine hR1 _ ?_; clear hR1 R1) | ((first | refine ⟨_, _, rfl, .inl ⟨_, CallQ.ctr ok (within_ctr _ _) (by first | rfl | (simp [go_sem]; done) | fail) rfl, ?_⟩⟩ | refine ⟨_, _, rfl, .inl ⟨_, fun hg => CallQ.ctr ok (within_ctr _ _) (by first | rfl | (simp [go_sem]; done) | fail) rfl, ?_⟩⟩); all_goals ((try simp only [go_sem, seval, -List.reduceReplicate]); (repeat' with_reducible refine And.intro ?_ ?_); all_goals first | (refine hR1 _ ?_; clear hR1 R1) | omega | rfl | decide | assumption | (intro _; omega) | (simp; done) | (simp; omega) | (simp [roomFor, maxLen] <;> omega))) | omega | rfl | decide | assumption | (intro _; omega) | (simp; done) | (simp; omega) | (simp [roomFor, maxLen] <;> omega))
    | ((with_reducible refine SARA.nil ?_); refine hR _ ?_; clear hR R; try simp only [go_sem, lv150, lvOf, Nat.reduceBEq, Option.getD_some])
    | (with_reducible first | refine thenK.normal ?_ | refine SA.seq ?_ | refine SA.skip ?_ | refine SA.block ?_ | refine blockK.normal ?_ | refine SA.exit ?_ | refine blockK.hit ?_ | refine blockK.miss (by decide) ?_ | refine thenK.exit ?_ | refine loopK.exit ?_ | refine SA.ret ?_ | refine thenK.ret ?_ | refine blockK.ret ?_ | refine loopK.ret ?_ | refine SA.scope ?_ | refine scopeK.normal ?_ | refine scopeK.exit ?_ | refine scopeK.ret ?_ | refine SA.label ?_)
    | ((with_reducible refine SA.regionN ok (by kernel_rfl) lv150 ?_); intro R hR; simp only [go_sem, strip])
    | ((with_reducible refine SA.condAt 13 rfl (fun hb13 => ?_) (fun hb13 => ?_))
       all_goals
         try simp [within] at hb13
         try (exfalso; omega))
    | ((with_reducible refine SA.condAt 20 rfl (fun hb20 => ?_) (fun hb20 => ?_))
       all_goals
         try simp [within] at hb20
         try (exfalso; omega))
    | ((with_reducible refine SA.condAt 21 rfl (fun hb21 => ?_) (fun hb21 => ?_))
       all_goals
         try simp [within] at hb21
         try (exfalso; omega))
    | ((with_reducible refine SA.condAt 31 rfl (fun hb31 => ?_) (fun hb31 => ?_))
       all_goals
         try simp [within] at hb31
         try (exfalso; omega))
    | ((with_reducible refine SA.condAt 32 rfl (fun hb32 => ?_) (fun hb32 => ?_))
       all_goals
         try simp [within] at hb32
         try (exfalso; omega))
    | ((with_reducible refine SA.condAt 62 rfl (fun hb62 => ?_) (fun hb62 => ?_))
       all_goals
         try simp [within] at hb62
         try (exfalso; omega))
    | ((with_reducible refine SA.condAt 63 rfl (fun hb63 => ?_) (fun hb63 => ?_))
       all_goals
         try simp [within] at hb63
         try (exfalso; omega))
    | ((with_reducible refine SA.condAt 70 rfl (fun hb70 => ?_) (fun hb70 => ?_))
       all_goals
         try simp [within] at hb70
         try (exfalso; omega))
    | ((with_reducible refine SA.condAt 71 rfl (fun hb71 => ?_) (fun hb71 => ?_))
       all_goals
         try simp [within] at hb71
         try (exfalso; omega))
    | ((with_reducible refine SA.condAt 78 rfl (fun hb78 => ?_) (fun hb78 => ?_))
       all_goals
         try simp [within] at hb78
         try (exfalso; omega))
    | ((with_reducible refine SA.condAt 85 rfl (fun hb85 => ?_) (fun hb85 => ?_))
       all_goals
         try simp [within] at hb85
         try (exfalso; omega))
    | ((with_reducible refine SA.condAt 86 rfl (fun hb86 => ?_) (fun hb86 => ?_))
       all_goals
         try simp [within] at hb86
         try (exfalso; omega))
    | ((with_reducible refine SA.condAt 92 rfl (fun hb92 => ?_) (fun hb92 => ?_))
       all_goals
         try simp [within] at hb92
         try (exfalso; omega))
    | ((with_reducible refine SA.condAt 93 rfl (fun hb93 => ?_) (fun hb93 => ?_))
       all_goals
         try simp [within] at hb93
         try (exfalso; omega))
    | ((with_reducible refine SA.condAt 100 rfl (fun hb100 => ?_) (fun hb100 => ?_))
       all_goals
         try simp [within] at hb100
         try (exfalso; omega))
    | ((with_reducible refine SA.condAt 101 rfl (fun hb101 => ?_) (fun hb101 => ?_))
       all_goals
         try simp [within] at hb101
         try (exfalso; omega))
    | ((with_reducible refine SA.condAt 108 rfl (fun hb108 => ?_) (fun hb108 => ?_))
       all_goals
         try simp [within] at hb108
         try (exfalso; omega))
    | ((with_reducible refine SA.condAt 109 rfl (fun hb109 => ?_) (fun hb109 => ?_))
       all_goals
         try simp [within] at hb109
         try (exfalso; omega))
    | ((with_reducible refine SA.condAt 116 rfl (fun hb116 => ?_) (fun hb116 => ?_))
       all_goals
         try simp [within] at hb116
         try (exfalso; omega))
    | ((with_reducible refine SA.condAt 117 rfl (fun hb117 => ?_) (fun hb117 => ?_))
       all_goals
         try simp [within] at hb117
         try (exfalso; omega))
    | ((with_reducible refine SA.condAt 124 rfl (fun hb124 => ?_) (fun hb124 => ?_))
       all_goals
         try simp [within] at hb124
         try (exfalso; omega))
    | ((with_reducible first | refine ctrK.normal ?_ | refine ctrK.ret ?_)
       simp only [go_sem, resA, resV, backK, seval]
       refine ⟨rfl, ?_⟩
       first | (subst_vars; simp [operandErr, within, Prg.fn, w64, *]; done) | (simp only [operandErr, within, Prg.fn, w64]; simp [*]; done) | (simp only [operandErr, within, Prg.fn, w64]; simp [*]; omega) | (simp_all [operandErr, within]; done))

end Go.Eng.Tryz
