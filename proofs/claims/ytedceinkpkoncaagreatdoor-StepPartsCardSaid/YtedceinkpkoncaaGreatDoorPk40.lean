/- A part of the proof: walks through the program's functions, and what they compute. -/
import Derived.Test.YtedceinkpkoncaaGreatDoorPk39
import Derived.Test.YtedceinkpkoncaaGreatDoorPk22
import Derived.Test.YtedceinkpkoncaaGreatDoorPk10
import Derived.Test.YtedceinkpkoncaaGreatDoorPk14
import Derived.Test.YtedceinkpkoncaaGreatDoorRows
import Derived.Test.YtedceinkpkoncaaGreatDoorCards
import Derived.Test.YtedceinkpkoncaaGreatDoorTie
import Derived.ProofKit
import Derived.LaidMore
import Derived.SevenTiedAt
import Derived.OpenShut
namespace Go.Eng.Tryz
open Go.RowKit Go.Eng
set_option linter.unusedSimpArgs false
set_option linter.unusedVariables false
set_option maxHeartbeats 0
set_option maxRecDepth 20000

theorem pAlts_ok (p : Prg) (s : Stt) (g : Int) (hp : p.Fit) (hs : s.Shape) (h0 : oneErr p s g = 0) : Ctr Go.Proofs.Tryz.prog tab 29 [26, 37, 3] [23, 49] [p.v, s.v, .int g] [.list ((alts p s g).map V.int), .int 0] := by
  have h := pAlts_ctr p s g hp hs
  rw [if_pos h0, h0] at h
  exact h
theorem pBlame_ok (p : Prg) (s : Stt) (g : Int) (hp : p.Fit) (hs : s.Shape) (h0 : oneErr p s g = 0) : Ctr Go.Proofs.Tryz.prog tab 40 [26, 37, 3] [23, 49] [p.v, s.v, .int g] [.list ((blameV p s g).map V.int), .int 0] := by
  have h := pBlame_ctr p s g hp hs
  rw [if_pos h0, h0] at h
  exact h
theorem ask_bad {p : Prg} {s : Stt} (h : rightP p = false ∨ validP p s = false) : ¬askErr p s = 0 := by
  intro q
  have := ask_zero q
  rcases h with h | h
  · rw [this.1] at h; cases h
  · rw [this.2] at h; cases h
theorem ask_good {p : Prg} {s : Stt} (h1 : rightP p = true) (h2 : validP p s = true) : askErr p s = 0 := by
  unfold askErr
  rw [h1, h2]
  decide

def lv8 : List (Nat × List Nat) := [(0, [2, 3]), (1, [2, 3, 5, 6]), (2, [2, 3, 5, 6, 7, 8]), (3, [2, 3, 5, 6, 7, 8, 39]), (4, [4]), (5, [2, 3, 5, 6, 7, 8, 9]), (6, [2, 3, 5, 6, 7, 8, 9, 10, 11]), (7, [2, 3, 5, 6, 7, 8, 9, 10, 11, 12]), (8, [2, 3, 5, 6, 7, 8, 9, 10, 11, 12, 54]), (9, [2, 3, 5, 6, 7, 8, 9, 10, 11, 12]), (10, [2, 3, 5, 6, 7, 8, 9, 10, 11, 12, 13]), (11, [2, 3, 5, 6, 7, 8, 9, 10, 11, 12, 13, 14, 15]), (12, [2, 3, 5, 6, 7, 8, 9, 10, 11, 12, 13, 14, 69]), (13, [4]), (14, [2, 3, 5, 6, 7, 8, 9, 10, 11, 12, 13, 14, 16]), (15, [2, 3, 5, 6, 7, 8, 9, 10, 11, 12, 13, 14, 16, 73]), (16, [2, 3, 5, 6, 7, 8, 9, 10, 11, 12, 13, 14, 16]), (17, [2, 3, 5, 6, 7, 8, 9, 10, 11, 12, 13, 14, 16, 100]), (18, [4]), (19, [2, 3, 5, 6, 7, 8, 9, 10, 11, 12, 13, 14, 16]), (20, [2, 3, 5, 6, 7, 8, 9, 10, 11, 12, 13, 14, 17, 18]), (21, [2, 3, 5, 6, 7, 8, 9, 10, 11, 12, 13, 14, 121]), (22, [4]), (23, [2, 3, 5, 6, 7, 8, 9, 10, 11, 12, 13, 124]), (24, [2, 3, 5, 6, 7, 8, 9, 10, 11, 12, 136]), (25, [4]), (26, [2, 3, 5, 6, 7, 8, 9, 10, 11, 12]), (27, [4])]
-- scarab/scarablaw08.StepParts
theorem stepParts_ctr (p : Prg) (s : Stt) (hp : p.Fit) (hs : s.Shape) : Ctr Go.Proofs.Tryz.prog tab 8 [26, 37] [4] [p.v, s.v] [.bool true] := by
  have hpp := hp
  have hfit := hp
  have hcode := p.code_len hp
  have hsl := p.sels_len hp
  obtain ⟨hp1, hp2, hp3, hp4⟩ := hp
  have hmx : 256 ≤ maxLen := by decide
  refine Ctr.body ok Go.Proofs.Tryz.func8 rfl rfl 160 rfl [.tmp 4] rfl (by simp [fromVs]) ?_
  simp only [fromVs, fromV, args0, V.toList_list, V.toInt_int, V.toBool_bool, Nat.zero_add, Nat.reduceAdd, ty26, ty37]
  repeat' first
    | ((with_reducible refine SARQ.told 17 10 ?_)
       first | rw [hrd] | rw [getD_pcks (by omega), hrd])
    | ((with_reducible refine SARQ.told 17 19 ?_)
       first | rw [hrd] | rw [getD_pcks (by omega), hrd])
    | ((with_reducible refine SARA.told 24 9 ?_)
       rw [hst])
    | ((with_reducible first | refine SARA.do fun R1 hR1 => ?_ | refine SARQ.do fun R1 hR1 => ?_); (simp only [go_sem, seval, -List.reduceReplicate, Bool.cond_false_right, Bool.cond_true_left]); (repeat' with_reducible refine And.intro ?_ ?_); all_goals first | (refine hR1 _ ?_; clear hR1 R1) | (intro hgf; simp only [hgf]; refine hR1 _ ?_; clear hR1 R1) | ((first | refine ⟨_, _, rfl, .inr (CallE.ctr ok (pReady_ctr p s hpp hs) (by first | rfl | (simp [go_sem, List.length_map, List.take_of_length_le]; done) | fail) ?_)⟩ | refine ⟨_, _, rfl, .inr ⟨fun _ => CallE.ctr ok (pReady_ctr p s hpp hs) (by first | rfl | (simp [go_sem, List.length_map, List.take_of_length_le]; done) | fail) ?_, ?_⟩⟩ | refine ⟨_, _, rfl, .inr (CallE.ctr ok (pWaiting_ctr p s hpp hs) (by first | rfl | (simp [go_sem, List.length_map, List.take_of_length_le]; done) | fail) ?_)⟩ | refine ⟨_, _, rfl, .inr ⟨fun _ => CallE.ctr ok (pWaiting_ctr p s hpp hs) (by first | rfl | (simp [go_sem, List.length_map, List.take_of_length_le]; done) | fail) ?_, ?_⟩⟩ | refine ⟨_, _, rfl, _, CallQ.ctr ok (right_ctr p hpp) (by first | rfl | (simp [go_sem, List.length_map, List.take_of_length_le]; done) | fail) rfl, ?_⟩ | refine ⟨_, _, rfl, _, fun hg => CallQ.ctr ok (right_ctr p hpp) (by first | rfl | (simp [go_sem, List.length_map, List.take_of_length_le]; done) | fail) rfl, ?_⟩ | refine ⟨_, _, rfl, .inl ⟨_, CallQ.ctr ok (right_ctr p hpp) (by first | rfl | (simp [go_sem, List.length_map, List.take_of_length_le]; done) | fail) rfl, ?_⟩⟩ | refine ⟨_, _, rfl, .inl ⟨_, fun hg => CallQ.ctr ok (right_ctr p hpp) (by first | rfl | (simp [go_sem, List.length_map, List.take_of_length_le]; done) | fail) rfl, ?_⟩⟩ | refine ⟨_, _, rfl, _, CallQ.ctr ok (valid_ctr p s hpp hs) (by first | rfl | (simp [go_sem, List.length_map, List.take_of_length_le]; done) | fail) rfl, ?_⟩ | refine ⟨_, _, rfl, _, fun hg => CallQ.ctr ok (valid_ctr p s hpp hs) (by first | rfl | (simp [go_sem, List.length_map, List.take_of_length_le]; done) | fail) rfl, ?_⟩ | refine ⟨_, _, rfl, .inl ⟨_, CallQ.ctr ok (valid_ctr p s hpp hs) (by first | rfl | (simp [go_sem, List.length_map, List.take_of_length_le]; done) | fail) rfl, ?_⟩⟩ | refine ⟨_, _, rfl, .inl ⟨_, fun hg => CallQ.ctr ok (valid_ctr p s hpp hs) (by first | rfl | (simp [go_sem, List.length_map, List.take_of_length_le]; done) | fail) rfl, ?_⟩⟩ | refine ⟨_, _, rfl, .inr (CallE.ctr ok (plive_ctr s hs) (by first | rfl | (simp [go_sem, List.length_map, List.take_of_length_le]; done) | fail) ?_)⟩ | refine ⟨_, _, rfl, .inr ⟨fun _ => CallE.ctr ok (plive_ctr s hs) (by first | rfl | (simp [go_sem, List.length_map, List.take_of_length_le]; done) | fail) ?_, ?_⟩⟩ | refine ⟨_, _, rfl, .inr (CallE.ctr ok (pAlts_ok p s ((liveTo s 6).getD i 0) hpp hs ho) (by first | rfl | (simp [go_sem, List.length_map, List.take_of_length_le]; done) | fail) ?_)⟩ | refine ⟨_, _, rfl, .inr ⟨fun _ => CallE.ctr ok (pAlts_ok p s ((liveTo s 6).getD i 0) hpp hs ho) (by first | rfl | (simp [go_sem, List.length_map, List.take_of_length_le]; done) | fail) ?_, ?_⟩⟩ | refine ⟨_, _, rfl, .inr (CallE.ctr ok (pBlame_ok p s ((liveTo s 6).getD i 0) hpp hs ho) (by first | rfl | (simp [go_sem, List.length_map, List.take_of_length_le]; done) | fail) ?_)⟩ | refine ⟨_, _, rfl, .inr ⟨fun _ => CallE.ctr ok (pBlame_ok p s ((liveTo s 6).getD i 0) hpp hs ho) (by first | rfl | (simp [go_sem, List.length_map, List.take_of_length_le]; done) | fail) ?_, ?_⟩⟩ | refine ⟨_, _, rfl, _, CallQ.ctr ok (speaks_ctr) (by first | rfl | (simp [go_sem, List.length_map, List.take_of_length_le]; done) | fail) rfl, ?_⟩ | refine ⟨_, _, rfl, _, fun hg => CallQ.ctr ok (speaks_ctr) (by first | rfl | (simp [go_sem, List.length_map, List.take_of_length_le]; done) | fail) rfl, ?_⟩ | refine ⟨_, _, rfl, .inl ⟨_, CallQ.ctr ok (speaks_ctr) (by first | rfl | (simp [go_sem, List.length_map, List.take_of_length_le]; done) | fail) rfl, ?_⟩⟩ | refine ⟨_, _, rfl, .inl ⟨_, fun hg => CallQ.ctr ok (speaks_ctr) (by first | rfl | (simp [go_sem, List.length_map, List.take_of_length_le]; done) | fail) rfl, ?_⟩⟩); all_goals ((try simp only [go_sem, seval, -List.reduceReplicate, Bool.cond_false_right, Bool.cond_true_left]); (repeat' with_reducible refine And.intro ?_ ?_); all_goals first | (refine hR1 _ ?_; clear hR1 R1) | (intro hgf; simp only [hgf]; refine hR1 _ ?_; clear hR1 R1) | omega | rfl | decide | assumption | (intro _; omega) | (simp; done) | (simp [-List.getD_eq_getElem?_getD]; omega) | exact hcode _ | (intro _; exact hcode _) | exact hsl _ | (intro _; exact hsl _) | (simp [-List.getD_eq_getElem?_getD, roomFor, maxLen, by3, by39, by45, by48, by37]; omega) | (simp [-List.getD_eq_getElem?_getD, roomFor, maxLen, by3, by39, by45, by48, by37]; done))) | omega | rfl | decide | assumption | (intro _; omega) | (simp; done) | (simp [-List.getD_eq_getElem?_getD]; omega) | exact hcode _ | (intro _; exact hcode _) | exact hsl _ | (intro _; exact hsl _) | (simp [-List.getD_eq_getElem?_getD, roomFor, maxLen, by3, by39, by45, by48, by37]; omega) | (simp [-List.getD_eq_getElem?_getD, roomFor, maxLen, by3, by39, by45, by48, by37]; done))
    | ((with_reducible refine SARA.nil ?_); refine hR _ ?_; clear hR R; try simp only [go_sem, lv8, lvOf, Nat.reduceBEq, Option.getD_some])
    | ((with_reducible refine SARQ.nil ?_); refine hR _ ?_; clear hR R; try simp only [go_sem, lv8, lvOf, Nat.reduceBEq, Option.getD_some])
    | (with_reducible first | refine thenK.normal ?_ | refine SA.seq ?_ | refine SA.skip ?_ | refine SA.block ?_ | refine blockK.normal ?_ | refine SA.exit ?_ | refine blockK.hit ?_ | refine blockK.miss (by decide) ?_ | refine thenK.exit ?_ | refine loopK.exit ?_ | refine SA.ret ?_ | refine thenK.ret ?_ | refine blockK.ret ?_ | refine loopK.ret ?_ | refine SA.scope ?_ | refine scopeK.normal ?_ | refine scopeK.exit ?_ | refine scopeK.ret ?_ | refine SA.label ?_)
    | ((with_reducible refine SA.at 4 ?_)
       have hz := ask_bad hb39
       (with_reducible refine SA.regionN ok (by kernel_rfl) lv8 ?_); intro R hR; simp only [go_sem, strip])
    | ((with_reducible refine SA.at 5 ?_)
       have hz := ask_good hb39.1 hb39.2
       have hok := Prg.ok hb39.1
       have hv := Vld.of hok hs hb39.2
       have hw := hv.wf hok hb39.1
       simp only [hz, if_true]
       have hll := liveTo_len s 6
       have hrl := rdyL_live hv
       have hsl2 := stuckL_live hv
       have hr30 := rdyL_len hok hw (liveTo s 6)
       rw [hrl] at hr30
       have hs6 : (waitsTo p s s.count.toNat).length ≤ 6 := by
         have := stuck_le (p := p) (s := s) (L := liveTo s 6)
         rw [hsl2] at this
         omega
       (with_reducible refine SA.regionN ok (by kernel_rfl) lv8 ?_); intro R hR; simp only [go_sem, strip])
    | ((with_reducible refine SA.at 11 ?_)
       have hlt : i < (liveTo s 6).length := by omega
       have ho := one_live hz hv hlt
       have hal := pAlts_short hok hw ((liveTo s 6).getD i 0)
       have hbl : 0 < (alts p s ((liveTo s 6).getD i 0)).length → (blameV p s ((liveTo s 6).getD i 0)).length = 0 := fun h => blame_none h
       have hrs := rd_succ (p := p) (s := s) hlt
       (with_reducible refine SA.regionN ok (by kernel_rfl) lv8 ?_); intro R hR; simp only [go_sem, strip])
    | ((with_reducible refine SA.at 17 ?_)
       have hkl : k < (alts p s ((liveTo s 6).getD i 0)).length := by omega
       obtain ⟨hat, hrd⟩ := rd_at hrl hlt hkl
       (with_reducible refine SA.regionD ok mixed (by kernel_rfl) (by kernel_rfl) lv8 ?_); intro R hR; simp only [go_sem, strip])
    | ((with_reducible refine SA.at 24 ?_)
       have h0 : (alts p s ((liveTo s 6).getD i 0)).length = 0 := by rw [hb124]; rfl
       obtain ⟨hwt, hst, hws⟩ := st_at hsl2 hlt h0
       (with_reducible refine SA.regionN ok (by kernel_rfl) lv8 ?_); intro R hR; simp only [go_sem, strip])
    | ((with_reducible refine SA.regionN ok (by kernel_rfl) lv8 ?_); intro R hR; simp only [go_sem, strip])
    | ((with_reducible refine SA.regionD ok mixed (by kernel_rfl) (by kernel_rfl) lv8 ?_); intro R hR; simp only [go_sem, strip])
    | ((with_reducible refine SA.condAt 39 rfl (fun hb39 => ?_) (fun hb39 => ?_))
       all_goals
         try simp [-List.getD_eq_getElem?_getD] at hb39
         try (exfalso; omega))
    | ((with_reducible refine SA.condAt 54 rfl (fun hb54 => ?_) (fun hb54 => ?_))
       all_goals
         try simp [-List.getD_eq_getElem?_getD] at hb54
         try (exfalso; omega))
    | ((with_reducible refine SA.condAt 69 rfl (fun hb69 => ?_) (fun hb69 => ?_))
       all_goals
         try simp [-List.getD_eq_getElem?_getD] at hb69
         try (exfalso; omega))
    | ((with_reducible refine SA.condAt 73 rfl (fun hb73 => ?_) (fun hb73 => ?_))
       all_goals
         try simp [-List.getD_eq_getElem?_getD] at hb73
         try (exfalso; omega))
    | ((with_reducible refine SA.condAt 100 rfl (fun hb100 => ?_) (fun hb100 => ?_))
       all_goals
         try simp [-List.getD_eq_getElem?_getD] at hb100
         try (exfalso; omega))
    | ((with_reducible refine SA.condAt 121 rfl (fun hb121 => ?_) (fun hb121 => ?_))
       all_goals
         try simp [-List.getD_eq_getElem?_getD] at hb121
         try (exfalso; omega))
    | ((with_reducible refine SA.condAt 124 rfl (fun hb124 => ?_) (fun hb124 => ?_))
       all_goals
         try simp [-List.getD_eq_getElem?_getD] at hb124
         try (exfalso; omega))
    | ((with_reducible refine SA.condAt 136 rfl (fun hb136 => ?_) (fun hb136 => ?_))
       all_goals
         try simp [-List.getD_eq_getElem?_getD] at hb136
         try (exfalso; omega))
    | ((with_reducible refine SA.atLoop ?_)
       refine SA.weaken (St.le.of_eq (by rfl)) (SA.loop (fun n τ => ∃ (i : Nat), n = (liveTo s 6).length - i ∧ (i ≤ (liveTo s 6).length) ∧ τ = { tm := [(2, true, .ptr 0 [] 26), (3, true, .ptr 1 [] 37), (5, true, .sl 2 39 0 (ready p s).length false), (6, true, .int .i64 0), (7, true, .sl 3 3 0 (waitsTo p s s.count.toNat).length false), (8, true, .int .i64 0), (9, true, .sl 4 3 0 (liveTo s 6).length false), (10, true, .int .i64 ((rdyL p s ((liveTo s 6).take i)).length : Int)), (11, true, .int .i64 ((stuckL p s ((liveTo s 6).take i)).length : Int)), (12, true, .int .i64 i)], ob := [.var 26 (.data 26 p.v), .var 37 (.data 37 s.v), .row 39 ((ready p s).map Pck.v), .row 3 ((waitsTo p s s.count.toNat).map V.int), .row 3 ((liveTo s 6).map V.int)], out := [], nt := 160 }) ((liveTo s 6).length) ⟨0, rfl, by omega, rfl⟩ ?_)
       rintro n τ ⟨i, hn, hi, rfl⟩)
    | ((with_reducible refine SA.atLoop ?_)
       refine SA.weaken (St.le.of_eq (by rfl)) (SA.loop (fun n τ => ∃ (k : Nat), n = (alts p s ((liveTo s 6).getD i 0)).length - k ∧ (k ≤ (alts p s ((liveTo s 6).getD i 0)).length) ∧ τ = { tm := [(2, true, .ptr 0 [] 26), (3, true, .ptr 1 [] 37), (5, true, .sl 2 39 0 (ready p s).length false), (6, true, .int .i64 0), (7, true, .sl 3 3 0 (waitsTo p s s.count.toNat).length false), (8, true, .int .i64 0), (9, true, .sl 4 3 0 (liveTo s 6).length false), (10, true, .int .i64 (((rdyL p s ((liveTo s 6).take i)).length + k : Nat) : Int)), (11, true, .int .i64 ((stuckL p s ((liveTo s 6).take i)).length : Int)), (12, true, .int .i64 i), (13, true, .int .i64 ((liveTo s 6).getD i 0)), (14, true, .sl 5 3 0 (alts p s ((liveTo s 6).getD i 0)).length false), (16, true, .int .i64 k)], ob := [.var 26 (.data 26 p.v), .var 37 (.data 37 s.v), .row 39 ((ready p s).map Pck.v), .row 3 ((waitsTo p s s.count.toNat).map V.int), .row 3 ((liveTo s 6).map V.int), .row 3 ((alts p s ((liveTo s 6).getD i 0)).map V.int)], out := [], nt := 160 }) ((alts p s ((liveTo s 6).getD i 0)).length) ⟨0, rfl, by omega, rfl⟩ ?_)
       rintro n τ ⟨k, hn, hk, rfl⟩)
    | ((with_reducible refine loopK.round ?_)
       first
         | (have q : _ = [] := hb124
            have h0 : (alts p s ((liveTo s 6).getD i 0)).length = 0 := by rw [hb124]; rfl
            have hk' : (alts p s ((liveTo s 6).getD i 0)).length = k := by omega
            have hwi := wrap_succ (n := i) (m := 256) (by omega) (by decide)
            obtain ⟨hwt, hst, hws⟩ := st_at hsl2 hlt h0
            have hww := wrap_succ (n := (stuckL p s ((liveTo s 6).take i)).length) (m := 256) (by omega) (by decide)
            refine loopK.normal ((liveTo s 6).length - (i + 1)) _ (by omega) ((St.le.cut 5 rfl).trans (St.le.of_eq (by rw [hrs, hk', hws]; simp only [hwi, hww, List.take_succ_cons, List.take_zero]))) ⟨i + 1, rfl, by omega, rfl⟩)
         | (have q : ¬_ := hb124
            have h0 : ¬(alts p s ((liveTo s 6).getD i 0)).length = 0 := fun h => hb124 (List.length_eq_zero_iff.1 h)
            have hk' : (alts p s ((liveTo s 6).getD i 0)).length = k := by omega
            have hwi := wrap_succ (n := i) (m := 256) (by omega) (by decide)
            have hws := st_skip hlt h0
            refine loopK.normal ((liveTo s 6).length - (i + 1)) _ (by omega) ((St.le.cut 5 rfl).trans (St.le.of_eq (by rw [hrs, hk', hws]; simp only [hwi, List.take_succ_cons, List.take_zero]))) ⟨i + 1, rfl, by omega, rfl⟩)
         | (have hkl : k < (alts p s ((liveTo s 6).getD i 0)).length := by omega
            obtain ⟨hat, hrd⟩ := rd_at hrl hlt hkl
            have hwk := wrap_succ (n := k) (m := 256) (by omega) (by decide)
            have hwa := wrap_succ (n := (rdyL p s ((liveTo s 6).take i)).length + k) (m := 256) (by omega) (by decide)
            refine loopK.normal ((alts p s ((liveTo s 6).getD i 0)).length - (k + 1)) _ (by omega) (St.le.of_eq (by first | (simp only [hwk, hwa]; done) | (simp only [hwk, hwa]; rfl))) ⟨k + 1, rfl, by omega, rfl⟩))
    | ((with_reducible first | refine ctrK.normal ?_ | refine ctrK.ret ?_)
       simp only [go_sem, resA, resV, backK, seval]
       first
         | (have q : _ ∨ _ := hb39
            rw [decide_eq_false hz]
            exact ⟨rfl, rfl⟩)
         | (have e : i = (liveTo s 6).length := by omega
            subst e
            rw [List.take_length, hrl, hsl2]
            refine ⟨rfl, ?_⟩
            simp))

end Go.Eng.Tryz
/- What the machine's arguments read as, at the seat's own types. -/
namespace Go.Eng.Tryz
set_option linter.unusedSimpArgs false
set_option linter.unusedVariables false
open Go.RowKit Go.Eng
variable {w : World} {F : Nat → Prop}

theorem slice_of {α : Type} {f : α → V} {t e : TypeId} (ht : tab.ty t = .slice e) (hf : ∀ v cs, Fits tab w F e v cs → ∃ a, v = f a) {v : V} {cs : List Value} (h : Fits tab w F t v cs) : ∃ m : List α, v = .list (m.map f) := by
  rcases h.inv' ht with ⟨h, _⟩ | ⟨b, off, n, cap, l', ds, h, _, _, _, _, hf', _⟩
  · exact ⟨[], h⟩
  · obtain ⟨m, rfl⟩ := fits_list hf hf'
    exact ⟨m, h⟩
theorem array_of {α : Type} {f : α → V} {q : α → Prop} {t e : TypeId} {n : Nat} (ht : tab.ty t = .arr n e) (hf : ∀ v cs, Fits tab w F e v cs → ∃ a, q a ∧ v = f a) {v : V} {cs : List Value} (h : Fits tab w F t v cs) : ∃ m : List α, m.length = n ∧ (∀ a ∈ m, q a) ∧ v = .agg (m.map f) := by
  obtain ⟨l, hl, hf'⟩ := h.inv' ht
  obtain ⟨m, hm, rfl⟩ := fits_list' hf hf'
  have := hf'.lens
  simp at this
  exact ⟨m, this, hm, hl⟩
theorem fits_int {t : TypeId} {k : IntKind} (ht : tab.ty t = .int k) (v : V) (cs : List Value) (h : Fits tab w F t v cs) : ∃ n : Int, k.has n ∧ v = .int n := by
  obtain ⟨n, h1, h2, _⟩ := h.inv' ht
  exact ⟨n, h2, h1⟩
theorem fits_bool {t : TypeId} (ht : tab.ty t = .bool) (v : V) (cs : List Value) (h : Fits tab w F t v cs) : ∃ n : Bool, v = .bool n := by
  obtain ⟨n, h1, _⟩ := h.inv' ht
  exact ⟨n, h1⟩
theorem fits_instr (v : V) (cs : List Value) (h : Fits tab w F 129 v cs) : ∃ a : Instr, v = a.v := by
  obtain ⟨l, rfl, hl⟩ := h.inv' ty129
  cases hl with | cons h1 hl => cases hl with | cons h2 hl => cases hl with | cons h3 hl => cases hl with | cons h4 hl => cases hl with | cons h5 hl => cases hl with | nil =>
    obtain ⟨a1, _, rfl⟩ := fits_int ty43 _ _ h1
    obtain ⟨a2, _, rfl⟩ := fits_int ty3 _ _ h2
    obtain ⟨a3, _, rfl⟩ := fits_int ty3 _ _ h3
    obtain ⟨a4, _, rfl⟩ := fits_int ty3 _ _ h4
    obtain ⟨a5, _, rfl⟩ := fits_int ty2 _ _ h5
    exact ⟨⟨a1, a2, a3, a4, a5⟩, rfl⟩
theorem fits_case (v : V) (cs : List Value) (h : Fits tab w F 156 v cs) : ∃ a : Cas, v = a.v := by
  obtain ⟨l, rfl, hl⟩ := h.inv' ty156
  cases hl with | cons h1 hl => cases hl with | cons h2 hl => cases hl with | cons h3 hl => cases hl with | cons h4 hl => cases hl with | nil =>
    obtain ⟨a1, rfl⟩ := fits_bool ty4 _ _ h1
    obtain ⟨a2, _, rfl⟩ := fits_int ty3 _ _ h2
    obtain ⟨a3, _, rfl⟩ := fits_int ty3 _ _ h3
    obtain ⟨a4, _, rfl⟩ := fits_int ty3 _ _ h4
    exact ⟨⟨a1, a2, a3, a4⟩, rfl⟩
theorem fits_sel (v : V) (cs : List Value) (h : Fits tab w F 124 v cs) : ∃ a : Sel, v = a.v := by
  obtain ⟨l, rfl, hl⟩ := h.inv' ty124
  cases hl with | cons h1 hl => cases hl with | cons h2 hl => cases hl with | nil =>
    obtain ⟨a1, rfl⟩ := slice_of ty122 fits_case h1
    obtain ⟨a2, _, rfl⟩ := fits_int ty3 _ _ h2
    exact ⟨⟨a1, a2⟩, rfl⟩
theorem fits_fnc (v : V) (cs : List Value) (h : Fits tab w F 121 v cs) : ∃ a : Fnc, v = a.v := by
  obtain ⟨l, rfl, hl⟩ := h.inv' ty121
  cases hl with | cons h1 hl => cases hl with | cons h2 hl => cases hl with | cons h3 hl => cases hl with | cons h4 hl => cases hl with | nil =>
    obtain ⟨a1, _, rfl⟩ := fits_int ty3 _ _ h1
    obtain ⟨a2, _, rfl⟩ := fits_int ty3 _ _ h2
    obtain ⟨a3, rfl⟩ := slice_of ty118 fits_instr h3
    obtain ⟨a4, rfl⟩ := slice_of ty119 fits_sel h4
    exact ⟨⟨a1, a2, a3, a4⟩, rfl⟩
theorem fits_vr (v : V) (cs : List Value) (h : Fits tab w F 139 v cs) : ∃ a : Vr, v = a.v := by
  obtain ⟨l, rfl, hl⟩ := h.inv' ty139
  cases hl with | cons h1 hl => cases hl with | cons h2 hl => cases hl with | nil =>
    obtain ⟨a1, rfl⟩ := fits_bool ty4 _ _ h1
    obtain ⟨a2, _, rfl⟩ := fits_int ty2 _ _ h2
    exact ⟨⟨a1, a2⟩, rfl⟩
theorem fits_prog (v : V) (cs : List Value) (h : Fits tab w F 26 v cs) : ∃ a : Prg, v = a.v := by
  obtain ⟨l, rfl, hl⟩ := h.inv' ty26
  cases hl with | cons h1 hl => cases hl with | cons h2 hl => cases hl with | cons h3 hl => cases hl with | cons h4 hl => cases hl with | nil =>
    obtain ⟨a1, rfl⟩ := slice_of ty22 fits_vr h1
    obtain ⟨a2, _, rfl⟩ := fits_int ty3 _ _ h2
    obtain ⟨a3, rfl⟩ := slice_of ty23 (f := V.int) (fun v cs h => let ⟨n, _, e⟩ := fits_int ty3 v cs h; ⟨n, e⟩) h3
    obtain ⟨a4, rfl⟩ := slice_of ty24 fits_fnc h4
    exact ⟨⟨a1, a2, a3, a4⟩, rfl⟩
theorem Prg.fit_of {p : Prg} (h : V.Lens p.v) : p.Fit := by
  have a := V.Lens.of_agg h
  have h1 := (V.Lens.of_list (a (.list (p.vars.map Vr.v)) (by simp))).1
  have h3 := (V.Lens.of_list (a (.list (p.chans.map V.int)) (by simp))).1
  have h4 := V.Lens.of_list (a (.list (p.funcs.map Fnc.v)) (by simp))
  rw [List.length_map] at h1 h3
  refine ⟨h1, h3, by simpa using h4.1, fun f hf => ?_⟩
  have b := V.Lens.of_agg (h4.2 f.v (List.mem_map.2 ⟨f, hf, rfl⟩))
  have c1 := (V.Lens.of_list (b (.list (f.code.map Instr.v)) (by simp))).1
  have c2 := V.Lens.of_list (b (.list (f.sels.map Sel.v)) (by simp))
  rw [List.length_map] at c1
  refine ⟨c1, by simpa using c2.1, fun s hs => ?_⟩
  have d := V.Lens.of_agg (c2.2 s.v (List.mem_map.2 ⟨s, hs, rfl⟩))
  simpa using (V.Lens.of_list (d (.list (s.cases.map Cas.v)) (by simp))).1
theorem fits_gor (v : V) (cs : List Value) (h : Fits tab w F 34 v cs) : ∃ a : Gor, a.regs.length = 8 ∧ v = a.v := by
  obtain ⟨l, rfl, hl⟩ := h.inv' ty34
  cases hl with | cons h1 hl => cases hl with | cons h2 hl => cases hl with | cons h3 hl => cases hl with | cons h4 hl => cases hl with | cons h5 hl => cases hl with | nil =>
    obtain ⟨a1, _, rfl⟩ := fits_int ty3 _ _ h1
    obtain ⟨a2, _, rfl⟩ := fits_int ty3 _ _ h2
    obtain ⟨a3, _, rfl⟩ := fits_int ty3 _ _ h3
    obtain ⟨a4, _, rfl⟩ := fits_int ty3 _ _ h4
    obtain ⟨a5, hl5, _, rfl⟩ := array_of ty27 (fits_int ty2) h5
    exact ⟨⟨a1, a2, a3, a4, a5⟩, hl5, rfl⟩
theorem fits_chn (v : V) (cs : List Value) (h : Fits tab w F 31 v cs) : ∃ a : Chn, a.buf.length = 4 ∧ v = a.v := by
  obtain ⟨l, rfl, hl⟩ := h.inv' ty31
  cases hl with | cons h1 hl => cases hl with | cons h2 hl => cases hl with | cons h3 hl => cases hl with | cons h4 hl => cases hl with | cons h5 hl => cases hl with | cons h6 hl => cases hl with | nil =>
    obtain ⟨a1, hl1, _, rfl⟩ := array_of ty29 (fits_int ty2) h1
    obtain ⟨a2, _, rfl⟩ := fits_int ty3 _ _ h2
    obtain ⟨a3, rfl⟩ := fits_bool ty4 _ _ h3
    obtain ⟨a4, _, rfl⟩ := fits_int ty3 _ _ h4
    obtain ⟨a5, _, rfl⟩ := fits_int ty3 _ _ h5
    obtain ⟨a6, _, rfl⟩ := fits_int ty2 _ _ h6
    exact ⟨⟨a1, a2, a3, a4, a5, a6⟩, hl1, rfl⟩
theorem fits_state (v : V) (cs : List Value) (h : Fits tab w F 37 v cs) : ∃ a : Stt, a.Shape ∧ v = a.v := by
  obtain ⟨l, rfl, hl⟩ := h.inv' ty37
  cases hl with | cons h1 hl => cases hl with | cons h2 hl => cases hl with | cons h3 hl => cases hl with | cons h4 hl => cases hl with | cons h5 hl => cases hl with | nil =>
    obtain ⟨a1, l1, _, rfl⟩ := array_of ty27 (fits_int ty2) h1
    obtain ⟨a2, l2, _, rfl⟩ := array_of ty28 (fits_int ty3) h2
    obtain ⟨a3, l3, q3, rfl⟩ := array_of ty32 fits_chn h3
    obtain ⟨a4, l4, q4, rfl⟩ := array_of ty35 fits_gor h4
    obtain ⟨a5, _, rfl⟩ := fits_int ty3 _ _ h5
    exact ⟨⟨a1, a2, a3, a4, a5⟩, ⟨l1, l2, l3, q3, l4, q4⟩, rfl⟩
end Go.Eng.Tryz
/- The one variable that the rows list: what it holds when a call begins. -/
namespace Go.Proofs.YtedceinkpkoncaaGreatDoor
set_option linter.unusedSimpArgs false
set_option linter.unusedVariables false
open Go.ChangeShapes Go.WideShapes Go.ChangeAt Go.RowKit
def laid1 {H : Type} : List (String × DataW H) := [("math/bits.deBruijn64tab", Rows.laid_math_bits_deBruijn64tab)]
theorem gTab : Tryz.prog.globalNamed "math/bits.deBruijn64tab" = some 0 := by kernel_rfl
theorem tTab : (Tryz.prog.globals[0]?).map (·.type) = some 267 := by kernel_rfl
theorem of_laid {W : World} (h : laidMetH Tryz.prog laid1 W) : Go.Eng.Tryz.glob W := by
  rw [MakeChecks.laidMetH_plain _ _ _ (by kernel_rfl)] at h
  obtain ⟨ps, ⟨g0, t0, cs0, f0, p0, q0, hg0, ht0, hv0, hd0, _, _⟩, _, _⟩ := h
  obtain rfl := Option.some.inj (gTab.symm.trans hg0)
  obtain rfl := Option.some.inj (tTab.symm.trans ht0)
  obtain ⟨xs, m1, rfl, hx1, hlen, hn3, hel⟩ := DataW.trod_array Tryz.underlying267 hd0
  intro j hj
  have h64 : Lib.deBruijn64tab.length = 64 := rfl
  have hj' : j < xs.length := by omega
  have hd := (Prod.mk.inj hx1).1
  have hl : Lib.deBruijn64tab.map (fun n : Nat => (DataW.lit (.int .u8 (n : Int)) : DataW _)) = xs.map (·.1) := DataW.agg.inj hd
  have h1 := hel j (by omega)
  rw [List.getElem?_eq_getElem hj'] at h1
  obtain ⟨k, e1, e2, _⟩ := DataW.trod_int Tryz.underlying5 h1
  have hk := congrArg (fun l => l[j]?) hl
  simp only [List.getElem?_map, List.getElem?_eq_getElem hj, List.getElem?_eq_getElem hj', Option.map_some, e2] at hk
  have hk' : k = (Lib.deBruijn64tab[j] : Int) := by
    generalize Lib.deBruijn64tab[j] = n at hk ⊢
    cases hk
    rfl
  have c1 : Tryz.prog.cellsOf 5 = 1 := by kernel_rfl
  rw [c1, Nat.mul_one] at e1
  have hc := World.var?_cell hg0 hv0 j
  have e3 : cs0[j]? = some (.int .u8 k) := by
    have h := congrArg (fun l : List Value => l[0]?) e1
    simp at h
    simpa using h
  rw [hc, e3, hk', List.getD_eq_getElem?_getD, List.getElem?_eq_getElem hj]
  rfl
/-- The door's own heap meets the condition: three closed facts. -/
theorem door_met (os : Os) (args : Array Value) : laidMetH Tryz.prog laid1 ((World.doorLaid Tryz.prog 400 os).forCall (fun _ _ => 0) ⟨#[], args, []⟩).memory :=
  laidMetH_of_parts3 (fuel := 8) (laidMet_of_run' 8 (by kernel_rfl) (by kernel_rfl)) (by kernel_rfl) (by kernel_rfl)
end Go.Proofs.YtedceinkpkoncaaGreatDoor
