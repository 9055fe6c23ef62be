/- A part of the proof: walks through the program's functions, and what they compute. -/
import Derived.Test.YtedceinkpkoncaaGreatSW8
namespace Go.Eng.Tryz
open Go.RowKit Go.Eng
set_option linter.unusedSimpArgs false
set_option linter.unusedVariables false
set_option maxHeartbeats 0
set_option maxRecDepth 20000

theorem zeroGo_at : tab.zero 38 = zeroGor.v := rfl
theorem zeroChan_at : tab.zero 35 = zeroChn.v := rfl
theorem zeroState_at : tab.zero 41 = zeroStt.v := rfl

def lv67 : List (Nat × List Nat) := [(0, [2, 3]), (1, [2, 3, 24]), (2, [4]), (3, [2, 3, 25]), (4, [2, 3, 25, 26]), (5, [2, 3, 5, 25]), (6, [2, 3, 25, 54]), (7, [4]), (8, [2, 3, 25]), (9, [2, 3, 6]), (10, [2, 3, 6, 60]), (11, [2, 3, 6]), (12, [2, 3, 6, 67]), (13, [4]), (14, [2, 3, 68]), (15, [2, 3, 68, 69]), (16, [2, 3, 7, 68]), (17, [2, 3, 68, 97]), (18, [4]), (19, [2, 3, 68]), (20, [2, 3, 99]), (21, [2, 3, 99, 100]), (22, [2, 3, 8, 99]), (23, [2, 3, 99, 128]), (24, [4]), (25, [2, 3, 99]), (26, [3, 9]), (27, [3, 9, 133]), (28, [3, 9]), (29, [3, 9, 10]), (30, [3, 9, 10, 136]), (31, [3, 9, 10, 136, 137]), (32, [3, 9, 10, 11, 136]), (33, [3, 9, 10, 136, 153]), (34, [3, 9, 10, 136]), (35, [3, 9, 10, 136]), (36, [3, 9, 166]), (37, [4]), (38, [4])]
-- scarab/scarabref07.Valid
theorem valid_ctr (p : Prg) (s : Stt) (hp : p.Fit) (hs : s.Shape) : Ctr Go.Proofs.Tryz.prog tab 67 [26, 41] [4] [p.v, s.v] [.bool (validP p s)] := by
  have hfit := hp
  have hcode := p.code_len hp
  have hsl := p.sels_len hp
  obtain ⟨hp1, hp2, hp3, hp4⟩ := hp
  obtain ⟨hs1, hs2, hs3, hs4, hs5, hs6⟩ := hs
  refine Ctr.body ok Go.Proofs.Tryz.func67 rfl rfl 167 rfl [.tmp 4] rfl (by simp [fromVs]) ?_
  simp only [fromVs, fromV, args0, V.toList_list, V.toInt_int, V.toBool_bool, Nat.zero_add, Nat.reduceAdd, ty26, ty41]
  repeat' first
    | ((with_reducible refine SARQ.told 6 10 ?_)
       rw [getD_gors (by omega)])
    | ((with_reducible refine SARQ.told 6 23 ?_)
       rw [getD_gors (by omega)])
    | ((with_reducible refine SARA.told 23 10 ?_)
       rw [getD_chns (by omega)])
    | ((with_reducible first | refine SARA.do fun R1 hR1 => ?_ | refine SARQ.do fun R1 hR1 => ?_); (simp only [go_sem, seval, -List.reduceReplicate, zeroGo_at, zeroChan_at, beq_gor, beq_chn]); (repeat' with_reducible refine And.intro ?_ ?_); all_goals first | (refine hR1 _ ?_; clear hR1 R1) | ((first | refine ⟨_, _, rfl, _, CallQ.ctr ok (right_ctr p hfit) (by first | rfl | (simp [go_sem]; done) | fail) rfl, ?_⟩ | refine ⟨_, _, rfl, _, fun hg => CallQ.ctr ok (right_ctr p hfit) (by first | rfl | (simp [go_sem]; done) | fail) rfl, ?_⟩ | refine ⟨_, _, rfl, .inl ⟨_, CallQ.ctr ok (right_ctr p hfit) (by first | rfl | (simp [go_sem]; done) | fail) rfl, ?_⟩⟩ | refine ⟨_, _, rfl, .inl ⟨_, fun hg => CallQ.ctr ok (right_ctr p hfit) (by first | rfl | (simp [go_sem]; done) | fail) rfl, ?_⟩⟩ | refine ⟨_, _, rfl, _, CallQ.ctr ok (goroutine_ctr p _ hfit hr (hs6 _ (getD_mem (i := i) _ (by omega)))) (by first | rfl | (simp [go_sem]; done) | fail) rfl, ?_⟩ | refine ⟨_, _, rfl, _, fun hg => CallQ.ctr ok (goroutine_ctr p _ hfit hr (hs6 _ (getD_mem (i := i) _ (by omega)))) (by first | rfl | (simp [go_sem]; done) | fail) rfl, ?_⟩ | refine ⟨_, _, rfl, .inl ⟨_, CallQ.ctr ok (goroutine_ctr p _ hfit hr (hs6 _ (getD_mem (i := i) _ (by omega)))) (by first | rfl | (simp [go_sem]; done) | fail) rfl, ?_⟩⟩ | refine ⟨_, _, rfl, .inl ⟨_, fun hg => CallQ.ctr ok (goroutine_ctr p _ hfit hr (hs6 _ (getD_mem (i := i) _ (by omega)))) (by first | rfl | (simp [go_sem]; done) | fail) rfl, ?_⟩⟩ | refine ⟨_, _, rfl, _, CallQ.ctr ok (channel_ctr p s (i : Int) hfit hr (by simp at hg; omega) hs3 hc2 hgs) (by first | rfl | (simp [go_sem]; done) | fail) rfl, ?_⟩ | refine ⟨_, _, rfl, _, fun hg => CallQ.ctr ok (channel_ctr p s (i : Int) hfit hr (by simp at hg; omega) hs3 hc2 hgs) (by first | rfl | (simp [go_sem]; done) | fail) rfl, ?_⟩ | refine ⟨_, _, rfl, .inl ⟨_, CallQ.ctr ok (channel_ctr p s (i : Int) hfit hr (by simp at hg; omega) hs3 hc2 hgs) (by first | rfl | (simp [go_sem]; done) | fail) rfl, ?_⟩⟩ | refine ⟨_, _, rfl, .inl ⟨_, fun hg => CallQ.ctr ok (channel_ctr p s (i : Int) hfit hr (by simp at hg; omega) hs3 hc2 hgs) (by first | rfl | (simp [go_sem]; done) | fail) rfl, ?_⟩⟩); all_goals ((try simp only [go_sem, seval, -List.reduceReplicate, zeroGo_at, zeroChan_at, beq_gor, beq_chn]); (repeat' with_reducible refine And.intro ?_ ?_); all_goals first | (refine hR1 _ ?_; clear hR1 R1) | omega | rfl | decide | assumption | (intro _; omega) | (simp; done) | (simp [-List.getD_eq_getElem?_getD]; omega) | exact hcode _ | (intro _; exact hcode _) | exact hsl _ | (intro _; exact hsl _))) | omega | rfl | decide | assumption | (intro _; omega) | (simp; done) | (simp [-List.getD_eq_getElem?_getD]; omega) | exact hcode _ | (intro _; exact hcode _) | exact hsl _ | (intro _; exact hsl _))
    | ((with_reducible refine SARA.nil ?_); refine hR _ ?_; clear hR R; try simp only [go_sem, lv67, lvOf, Nat.reduceBEq, Option.getD_some])
    | ((with_reducible refine SARQ.nil ?_); refine hR _ ?_; clear hR R; try simp only [go_sem, lv67, lvOf, Nat.reduceBEq, Option.getD_some])
    | (with_reducible first | refine thenK.normal ?_ | refine SA.seq ?_ | refine SA.skip ?_ | refine SA.block ?_ | refine blockK.normal ?_ | refine SA.exit ?_ | refine blockK.hit ?_ | refine blockK.miss (by decide) ?_ | refine thenK.exit ?_ | refine loopK.exit ?_ | refine SA.ret ?_ | refine thenK.ret ?_ | refine blockK.ret ?_ | refine loopK.ret ?_ | refine SA.scope ?_ | refine scopeK.normal ?_ | refine scopeK.exit ?_ | refine scopeK.ret ?_ | refine SA.label ?_)
    | ((with_reducible refine SA.at 3 ?_)
       obtain ⟨⟨hr, hc1⟩, hc2⟩ := hb24
       have hok := Prg.ok hr
       have hsz := hok.sizes
       unfold Sizes at hsz
       (with_reducible refine SA.regionN ok (by kernel_rfl) lv67 ?_); intro R hR; simp only [go_sem, strip])
    | ((with_reducible refine SA.at 9 ?_)
       have hgs : gorsOk p s 6 = true := (show i = 6 by omega) ▸ hz
       (with_reducible refine SA.regionN ok (by kernel_rfl) lv67 ?_); intro R hR; simp only [go_sem, strip])
    | ((with_reducible refine SA.at 14 ?_)
       have hvs : varsOk p s 8 = true := vars_good (fun k h1 h2 => hz k h1 (by omega))
       (with_reducible refine SA.regionN ok (by kernel_rfl) lv67 ?_); intro R hR; simp only [go_sem, strip])
    | ((with_reducible refine SA.at 20 ?_)
       have hos : ownersOk p s 4 = true := (show i = 4 by omega) ▸ hz
       (with_reducible refine SA.regionN ok (by kernel_rfl) lv67 ?_); intro R hR; simp only [go_sem, strip])
    | ((with_reducible refine SA.at 26 ?_)
       have hcs : chansOk p s 4 = true := (show i = 4 by omega) ▸ hz
       (with_reducible refine SA.regionN ok (by kernel_rfl) lv67 ?_); intro R hR; simp only [go_sem, strip])
    | ((with_reducible refine SA.regionN ok (by kernel_rfl) lv67 ?_); intro R hR; simp only [go_sem, strip])
    | ((with_reducible refine SA.regionD ok mixed (by kernel_rfl) (by kernel_rfl) lv67 ?_); intro R hR; simp only [go_sem, strip])
    | ((with_reducible refine SA.condAt 24 rfl (fun hb24 => ?_) (fun hb24 => ?_))
       all_goals
         try simp [-List.getD_eq_getElem?_getD] at hb24
         try (exfalso; omega))
    | ((with_reducible refine SA.condAt 26 rfl (fun hb26 => ?_) (fun hb26 => ?_))
       all_goals
         try simp [-List.getD_eq_getElem?_getD] at hb26
         try (exfalso; omega))
    | ((with_reducible refine SA.condAt 54 rfl (fun hb54 => ?_) (fun hb54 => ?_))
       all_goals
         try simp [-List.getD_eq_getElem?_getD] at hb54
         try (exfalso; omega))
    | ((with_reducible refine SA.condAt 60 rfl (fun hb60 => ?_) (fun hb60 => ?_))
       all_goals
         try simp [-List.getD_eq_getElem?_getD] at hb60
         try (exfalso; omega))
    | ((with_reducible refine SA.condAt 67 rfl (fun hb67 => ?_) (fun hb67 => ?_))
       all_goals
         try simp [-List.getD_eq_getElem?_getD] at hb67
         try (exfalso; omega))
    | ((with_reducible refine SA.condAt 69 rfl (fun hb69 => ?_) (fun hb69 => ?_))
       all_goals
         try simp [-List.getD_eq_getElem?_getD] at hb69
         try (exfalso; omega))
    | ((with_reducible refine SA.condAt 97 rfl (fun hb97 => ?_) (fun hb97 => ?_))
       all_goals
         try simp [-List.getD_eq_getElem?_getD] at hb97
         try (exfalso; omega))
    | ((with_reducible refine SA.condAt 100 rfl (fun hb100 => ?_) (fun hb100 => ?_))
       all_goals
         try simp [-List.getD_eq_getElem?_getD] at hb100
         try (exfalso; omega))
    | ((with_reducible refine SA.condAt 128 rfl (fun hb128 => ?_) (fun hb128 => ?_))
       all_goals
         try simp [-List.getD_eq_getElem?_getD] at hb128
         try (exfalso; omega))
    | ((with_reducible refine SA.condAt 133 rfl (fun hb133 => ?_) (fun hb133 => ?_))
       all_goals
         try simp [-List.getD_eq_getElem?_getD] at hb133
         try (exfalso; omega))
    | ((with_reducible refine SA.condAt 137 rfl (fun hb137 => ?_) (fun hb137 => ?_))
       all_goals
         try simp [-List.getD_eq_getElem?_getD] at hb137
         try (exfalso; omega))
    | ((with_reducible refine SA.condAt 153 rfl (fun hb153 => ?_) (fun hb153 => ?_))
       all_goals
         try simp [-List.getD_eq_getElem?_getD] at hb153
         try (exfalso; omega))
    | ((with_reducible refine SA.condAt 166 rfl (fun hb166 => ?_) (fun hb166 => ?_))
       all_goals
         try simp [-List.getD_eq_getElem?_getD] at hb166
         try (exfalso; omega))
    | ((with_reducible refine SA.atLoop ?_)
       refine SA.weaken (St.le.of_eq (by first | rfl | (simp; done) | fail)) (SA.loop (fun n τ => ∃ (i : Nat), n = 6 - i ∧ (i ≤ 6 ∧ gorsOk p s i = true) ∧ τ = { tm := [(2, true, .ptr 0 [] 26), (3, true, .ptr 1 [] 41), (25, true, .int .i64 i)], ob := [.var 26 (.data 26 p.v), .var 41 (.data 41 s.v)], out := [], nt := 167 }) (6) ⟨0, rfl, ⟨by omega, rfl⟩, rfl⟩ ?_)
       rintro n τ ⟨i, hn, ⟨hi, hz⟩, rfl⟩)
    | ((with_reducible refine SA.atLoop ?_)
       refine SA.weaken (St.le.of_eq (by first | rfl | (simp; done) | fail)) (SA.loop (fun n τ => ∃ (i : Nat), n = 8 - i ∧ (p.vars.length ≤ i ∧ i ≤ 8 ∧ ∀ k : Nat, p.vars.length ≤ k → k < i → s.vars.getD k 0 = 0) ∧ τ = { tm := [(2, true, .ptr 0 [] 26), (3, true, .ptr 1 [] 41), (6, true, .int .i64 i)], ob := [.var 26 (.data 26 p.v), .var 41 (.data 41 s.v)], out := [], nt := 167 }) (8 - p.vars.length) ⟨p.vars.length, rfl, ⟨Nat.le_refl _, by omega, fun k h1 h2 => by omega⟩, rfl⟩ ?_)
       rintro n τ ⟨i, hn, ⟨hi0, hi, hz⟩, rfl⟩)
    | ((with_reducible refine SA.atLoop ?_)
       refine SA.weaken (St.le.of_eq (by first | rfl | (simp; done) | fail)) (SA.loop (fun n τ => ∃ (i : Nat), n = 4 - i ∧ (i ≤ 4 ∧ ownersOk p s i = true) ∧ τ = { tm := [(2, true, .ptr 0 [] 26), (3, true, .ptr 1 [] 41), (68, true, .int .i64 i)], ob := [.var 26 (.data 26 p.v), .var 41 (.data 41 s.v)], out := [], nt := 167 }) (4) ⟨0, rfl, ⟨by omega, rfl⟩, rfl⟩ ?_)
       rintro n τ ⟨i, hn, ⟨hi, hz⟩, rfl⟩)
    | ((with_reducible refine SA.atLoop ?_)
       refine SA.weaken (St.le.of_eq (by first | rfl | (simp; done) | fail)) (SA.loop (fun n τ => ∃ (i : Nat), n = 4 - i ∧ (i ≤ 4 ∧ chansOk p s i = true) ∧ τ = { tm := [(2, true, .ptr 0 [] 26), (3, true, .ptr 1 [] 41), (99, true, .int .i64 i)], ob := [.var 26 (.data 26 p.v), .var 41 (.data 41 s.v)], out := [], nt := 167 }) (4) ⟨0, rfl, ⟨by omega, rfl⟩, rfl⟩ ?_)
       rintro n τ ⟨i, hn, ⟨hi, hz⟩, rfl⟩)
    | ((with_reducible refine SA.atLoop ?_)
       refine SA.weaken (St.le.of_eq (by first | rfl | (simp; done) | fail)) (SA.loop (fun n τ => ∃ (i : Nat), n = s.count.toNat - i ∧ (i ≤ s.count.toNat ∧ waitsOk s i = true) ∧ τ = { tm := [(3, true, .ptr 1 [] 41), (9, true, .int .i64 i)], ob := [.var 26 (.data 26 p.v), .var 41 (.data 41 s.v)], out := [], nt := 167 }) (s.count.toNat) ⟨0, rfl, ⟨by omega, rfl⟩, rfl⟩ ?_)
       rintro n τ ⟨i, hn, ⟨hi, hz⟩, rfl⟩)
    | ((with_reducible refine SA.atLoop ?_)
       refine SA.weaken (St.le.of_eq (by first | rfl | (simp; done) | fail)) (SA.loop (fun n τ => ∃ (j : Nat), n = 4 - j ∧ (j ≤ 4) ∧ τ = { tm := [(3, true, .ptr 1 [] 41), (9, true, .int .i64 i), (10, true, .int .i64 (offersTo s i j)), (136, true, .int .i64 j)], ob := [.var 26 (.data 26 p.v), .var 41 (.data 41 s.v)], out := [], nt := 167 }) (4) ⟨0, rfl, by omega, rfl⟩ ?_)
       rintro n τ ⟨j, hn, hj, rfl⟩)
    | ((with_reducible refine loopK.round ?_)
       first
         | (have hlt : i < 6 := by omega
            refine loopK.normal (6 - (i + 1)) _ (by omega) (St.le.of_eq (by simp only [wrap_succ hlt (by decide : 6 ≤ maxLen)])) ⟨i + 1, rfl, ⟨hlt, gors_succ hz hb54⟩, rfl⟩)
         | (have hlt : i < 8 := by omega
            refine loopK.normal (8 - (i + 1)) _ (by omega) (St.le.of_eq (by simp only [wrap_succ hlt (by decide : 8 ≤ maxLen)])) ⟨i + 1, rfl, ⟨by omega, hlt, fun k h1 h2 => ?_⟩, rfl⟩
            by_cases h3 : k < i
            · exact hz k h1 h3
            · have h4 : k = i := by omega
              rw [h4]; exact hb67)
         | (have hlt : i < 4 := by omega
            refine loopK.normal (4 - (i + 1)) _ (by omega) (St.le.of_eq (by simp only [wrap_succ hlt (by decide : 4 ≤ maxLen)])) ⟨i + 1, rfl, ⟨hlt, own_succ hz hb97⟩, rfl⟩)
         | (have hlt : i < 4 := by omega
            refine loopK.normal (4 - (i + 1)) _ (by omega) (St.le.of_eq (by simp only [wrap_succ hlt (by decide : 4 ≤ maxLen)])) ⟨i + 1, rfl, ⟨hlt, chans_succ hz hb128⟩, rfl⟩)
         | (have hlt : i < s.count.toNat := by omega
            refine loopK.normal (s.count.toNat - (i + 1)) _ (by omega) (St.le.of_eq (by simp only [wrap_succ (n := i) (m := 6) (by omega) (by decide)])) ⟨i + 1, rfl, ⟨hlt, waits_succ hz ?_⟩, rfl⟩
            rw [show (4 : Nat) = j by omega]; exact hb166)
         | (have hlt : j < 4 := by omega
            have ho := offers_le s i j
            first
              | have q : _ ∧ _ := hb153
                refine loopK.normal (4 - (j + 1)) _ (by omega) (St.le.of_eq (by simp only [wrap_succ (n := j) (m := 4) hlt (by decide), wrap_succ (n := offersTo s i j) (m := 4) (by omega) (by decide), offers_hit hb153])) ⟨j + 1, rfl, hlt, rfl⟩
              | refine loopK.normal (4 - (j + 1)) _ (by omega) (St.le.of_eq (by simp only [wrap_succ (n := j) (m := 4) hlt (by decide), offers_miss hb153])) ⟨j + 1, rfl, hlt, rfl⟩))
    | ((with_reducible first | refine ctrK.normal ?_ | refine ctrK.ret ?_)
       simp only [go_sem, resA, resV, backK, seval]
       first
         | (have q := hb166.2
            refine ⟨rfl, ?_⟩
            rw [show j = 4 by omega] at hb166
            rw [validP, waits_bad (n := s.count.toNat) (i := i) (by omega) hb166, Bool.and_false])
         | (have q : _ ∨ _ := hb128
            refine ⟨rfl, ?_⟩
            rw [validP, chans_bad (by omega) hb128, Bool.and_false, Bool.false_and])
         | (have q : _ ∨ _ := hb97
            refine ⟨rfl, ?_⟩
            rw [validP, own_bad (by omega) hb97, Bool.and_false, Bool.false_and, Bool.false_and])
         | (have q : ¬_ := hb67
            refine ⟨rfl, ?_⟩
            rw [validP, vars_bad hi0 (by omega) hb67, Bool.and_false, Bool.false_and, Bool.false_and, Bool.false_and])
         | (have q : _ ∨ _ := hb54
            refine ⟨rfl, ?_⟩
            rw [validP, gors_bad (by omega) hb54, Bool.and_false, Bool.false_and, Bool.false_and, Bool.false_and, Bool.false_and])
         | (have q := hb133
            refine ⟨rfl, ?_⟩
            have hw : waitsOk s s.count.toNat = true := (show i = s.count.toNat by omega) ▸ hz
            simp only [validP, hr, hgs, hvs, hos, hcs, decide_eq_true hc1, decide_eq_true hc2, hw, Bool.and_self])
         | (have q : (_ ∨ _) ∨ _ := hb24
            refine ⟨rfl, ?_⟩
            rcases hb24 with (h | h) | h
            · rw [validP, h]; rfl
            · rw [validP, decide_eq_false (show ¬1 ≤ s.count by omega)]; cases rightP p <;> rfl
            · rw [validP, decide_eq_false (show ¬s.count ≤ 6 by omega)]; cases rightP p <;> cases decide (1 ≤ s.count) <;> rfl))

end Go.Eng.Tryz
