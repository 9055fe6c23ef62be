/- A part of the proof: walks through the program's functions, and what they compute. -/
import Derived.Test.YtedceinkpkoncaaGreatDoorPk28
import Derived.Test.YtedceinkpkoncaaGreatDoorPk19
namespace Go.Eng.Tryz
open Go.RowKit Go.Eng
set_option linter.unusedSimpArgs false
set_option linter.unusedVariables false
set_option maxHeartbeats 0
set_option maxRecDepth 20000

theorem ssettled_ctr' (p : Prg) (g : Gor) (fuel : Int) (hp : p.Fit) (hr : rightP p = true) (hg : gorIn p g) (hf : 0 ≤ fuel ∧ fuel ≤ 4096) (h1 : g.status = 1) : Ctr Go.Proofs.Tryz.prog tab 100 [26, 34, 3] [34] [p.v, g.v, .int fuel] [(settledN applyW p fuel.toNat g).v] := by
  obtain ⟨m, rfl⟩ := Int.eq_ofNat_of_zero_le hf.1
  exact ssettled_ctr p g m hp hr hg (by omega) h1

def lv122 : List (Nat × List Nat) := [(0, [2, 3, 4, 5, 8]), (1, [2, 3, 4, 5, 8, 13]), (2, [8, 9]), (3, [2, 3, 4, 5, 8, 18]), (4, [8, 9]), (5, [2, 3, 4, 5, 8, 30]), (6, [8, 9]), (7, [2, 3, 4, 5, 8, 35]), (8, [8, 9]), (9, [2, 3, 4, 5, 8, 10]), (10, [2, 3, 4, 5, 8, 10, 48]), (11, [2, 3, 4, 5, 8, 10]), (12, [5, 8]), (13, [8, 9])]
-- scarab/state.Settle
theorem psettle_ctr (p : Prg) (s : Stt) (g fuel : Int) (hp : p.Fit) (hs : s.Shape) : Ctr Go.Proofs.Tryz.prog tab 122 [26, 37, 3, 3] [37, 49] [p.v, s.v, .int g, .int fuel] [(settle applyW p s g fuel).1.v, .int (settle applyW p s g fuel).2] := by
  have hpp := hp
  have hfit := hp
  have hcode := p.code_len hp
  have hsl := p.sels_len hp
  obtain ⟨hp1, hp2, hp3, hp4⟩ := hp
  have hs5 := hs.gos
  refine Ctr.body ok Go.Proofs.Tryz.func122 rfl rfl 58 rfl [.cell 8 37, .tmp 9] rfl (by simp [fromVs]) ?_
  simp only [fromVs, fromV, args0, V.toList_list, V.toInt_int, V.toBool_bool, Nat.zero_add, Nat.reduceAdd, ty3, ty26, ty37]
  repeat' first
    | ((with_reducible refine SARA.told 9 4 ?_)
       rw [getD_gors (by omega)])
    | ((with_reducible refine SARA.do fun R1 hR1 => ?_); (simp only [go_sem, seval, -List.reduceReplicate, zeroGo_at, zeroState_at, Bool.cond_false_right, Bool.cond_true_left, Gor.put0, Gor.put2, Gor.put3, Gor.put4, set_ints]); (repeat' with_reducible refine And.intro ?_ ?_); all_goals first | (refine hR1 _ ?_; clear hR1 R1) | (intro hgf; simp only [hgf]; refine hR1 _ ?_; clear hR1 R1) | ((first | refine ⟨_, _, rfl, .inl ⟨_, CallQ.ctr ok (sright_ctr p hpp) (by first | rfl | (simp [go_sem]; done) | fail) rfl, ?_⟩⟩ | refine ⟨_, _, rfl, .inl ⟨_, fun hg => CallQ.ctr ok (sright_ctr p hpp) (by first | rfl | (simp [go_sem]; done) | fail) rfl, ?_⟩⟩ | refine ⟨_, _, rfl, .inl ⟨_, CallQ.ctr ok (pvalid_ctr p s hpp hs) (by first | rfl | (simp [go_sem]; done) | fail) rfl, ?_⟩⟩ | refine ⟨_, _, rfl, .inl ⟨_, fun hg => CallQ.ctr ok (pvalid_ctr p s hpp hs) (by first | rfl | (simp [go_sem]; done) | fail) rfl, ?_⟩⟩ | refine ⟨_, _, rfl, .inl ⟨_, CallQ.ctr ok (fuelled_ctr _) (by first | rfl | (simp [go_sem]; done) | fail) rfl, ?_⟩⟩ | refine ⟨_, _, rfl, .inl ⟨_, fun hg => CallQ.ctr ok (fuelled_ctr _) (by first | rfl | (simp [go_sem]; done) | fail) rfl, ?_⟩⟩ | refine ⟨_, _, rfl, .inl ⟨_, CallQ.ctr ok (ssettled_ctr' p ⟨1, (s.gos.getD g.toNat default).func, (s.gos.getD g.toNat default).pc, (s.gos.getD g.toNat default).why, (s.gos.getD g.toNat default).regs⟩ fuel hpp hb13 hgi1 hf rfl) (by first | rfl | (simp [go_sem]; done) | fail) rfl, ?_⟩⟩ | refine ⟨_, _, rfl, .inl ⟨_, fun hg => CallQ.ctr ok (ssettled_ctr' p ⟨1, (s.gos.getD g.toNat default).func, (s.gos.getD g.toNat default).pc, (s.gos.getD g.toNat default).why, (s.gos.getD g.toNat default).regs⟩ fuel hpp hb13 hgi1 hf rfl) (by first | rfl | (simp [go_sem]; done) | fail) rfl, ?_⟩⟩); all_goals ((try simp only [go_sem, seval, -List.reduceReplicate, zeroGo_at, zeroState_at, Bool.cond_false_right, Bool.cond_true_left, Gor.put0, Gor.put2, Gor.put3, Gor.put4, set_ints]); (repeat' with_reducible refine And.intro ?_ ?_); all_goals first | (refine hR1 _ ?_; clear hR1 R1) | (intro hgf; simp only [hgf]; refine hR1 _ ?_; clear hR1 R1) | omega | rfl | decide | assumption | (intro _; omega) | (simp; done) | (simp [-List.getD_eq_getElem?_getD]; omega) | exact hcode _ | (intro _; exact hcode _) | exact hsl _ | (intro _; exact hsl _))) | omega | rfl | decide | assumption | (intro _; omega) | (simp; done) | (simp [-List.getD_eq_getElem?_getD]; omega) | exact hcode _ | (intro _; exact hcode _) | exact hsl _ | (intro _; exact hsl _))
    | ((with_reducible refine SARA.nil ?_); refine hR _ ?_; clear hR R; try simp only [go_sem, lv122, lvOf, Nat.reduceBEq, Option.getD_some])
    | (with_reducible first | refine thenK.normal ?_ | refine SA.seq ?_ | refine SA.skip ?_ | refine SA.block ?_ | refine blockK.normal ?_ | refine SA.exit ?_ | refine blockK.hit ?_ | refine blockK.miss (by decide) ?_ | refine thenK.exit ?_ | refine loopK.exit ?_ | refine SA.ret ?_ | refine thenK.ret ?_ | refine blockK.ret ?_ | refine loopK.ret ?_ | refine SA.scope ?_ | refine scopeK.normal ?_ | refine scopeK.exit ?_ | refine scopeK.ret ?_ | refine SA.label ?_)
    | ((with_reducible refine SA.at 5 ?_)
       obtain ⟨hv1, hv2, hv3, hv4⟩ := valid_parts hb18
       (with_reducible refine SA.regionN ok (by kernel_rfl) lv122 ?_); intro R hR; simp only [go_sem, strip])
    | ((with_reducible refine SA.at 9 ?_)
       have hgi := gor_in hs hv3 (g := g) (by omega) (by omega) (by omega)
       have hf : 0 ≤ fuel ∧ fuel ≤ 4096 := by omega
       have hgi1 : gorIn p ⟨1, (s.gos.getD g.toNat default).func, (s.gos.getD g.toNat default).pc, (s.gos.getD g.toNat default).why, (s.gos.getD g.toNat default).regs⟩ := ⟨hgi.f0, hgi.f1, hgi.p0, hgi.p1, hgi.regs⟩
       (with_reducible refine SA.regionN ok (by kernel_rfl) lv122 ?_); intro R hR; simp only [go_sem, strip])
    | ((with_reducible refine SA.regionN ok (by kernel_rfl) lv122 ?_); intro R hR; simp only [go_sem, strip])
    | ((with_reducible refine SA.condAt 13 rfl (fun hb13 => ?_) (fun hb13 => ?_))
       all_goals
         try simp [-List.getD_eq_getElem?_getD] at hb13
         try (exfalso; omega))
    | ((with_reducible refine SA.condAt 18 rfl (fun hb18 => ?_) (fun hb18 => ?_))
       all_goals
         try simp [-List.getD_eq_getElem?_getD] at hb18
         try (exfalso; omega))
    | ((with_reducible refine SA.condAt 30 rfl (fun hb30 => ?_) (fun hb30 => ?_))
       all_goals
         try simp [-List.getD_eq_getElem?_getD] at hb30
         try (exfalso; omega))
    | ((with_reducible refine SA.condAt 35 rfl (fun hb35 => ?_) (fun hb35 => ?_))
       all_goals
         try simp [-List.getD_eq_getElem?_getD] at hb35
         try (exfalso; omega))
    | ((with_reducible refine SA.condAt 48 rfl (fun hb48 => ?_) (fun hb48 => ?_))
       all_goals
         try simp [-List.getD_eq_getElem?_getD] at hb48
         try (exfalso; omega))
    | ((with_reducible first | refine ctrK.normal ?_ | refine ctrK.ret ?_)
       simp only [go_sem, resA, resV, backK, seval]
       first
         | (have q : _ ∨ _ := hb48
            have e : settle applyW p s g fuel = (⟨s.vars, s.owner, s.chans, s.gos.set g.toNat (settled applyW p (s.gor g) fuel), s.count⟩, 0) := (if_neg (by rw [hb13]; simp)).trans ((if_neg (by rw [hb18]; simp)).trans ((if_neg (by omega)).trans ((if_neg (by omega)).trans (if_pos hb48))))
            rw [e]
            exact ⟨⟨rfl, rfl⟩, ⟨rfl, rfl⟩⟩)
         | (have q : _ ∧ _ := hb48
            have e : settle applyW p s g fuel = (s, 0) := (if_neg (by rw [hb13]; simp)).trans ((if_neg (by rw [hb18]; simp)).trans ((if_neg (by omega)).trans ((if_neg (by omega)).trans (if_neg (fun q => q.elim hb48.1 hb48.2)))))
            rw [e]
            exact ⟨⟨rfl, rfl⟩, ⟨rfl, rfl⟩⟩)
         | (have q := hb35
            have e : settle applyW p s g fuel = (zeroStt, 9) := (if_neg (by rw [hb13]; simp)).trans ((if_neg (by rw [hb18]; simp)).trans ((if_neg (by omega)).trans (if_pos hb35)))
            rw [e]
            exact ⟨⟨rfl, rfl⟩, ⟨rfl, rfl⟩⟩)
         | (have q := hb30
            have e : settle applyW p s g fuel = (zeroStt, 1) := (if_neg (by rw [hb13]; simp)).trans ((if_neg (by rw [hb18]; simp)).trans (if_pos (by omega)))
            rw [e]
            exact ⟨⟨rfl, rfl⟩, ⟨rfl, rfl⟩⟩)
         | (have q := hb18
            have e : settle applyW p s g fuel = (zeroStt, 4) := (if_neg (by rw [hb13]; simp)).trans (if_pos hb18)
            rw [e]
            exact ⟨⟨rfl, rfl⟩, ⟨rfl, rfl⟩⟩)
         | (have e : settle applyW p s g fuel = (zeroStt, 3) := if_pos hb13
            rw [e]
            exact ⟨⟨rfl, rfl⟩, ⟨rfl, rfl⟩⟩))

end Go.Eng.Tryz
/- What the program's step asks of a state. -/
namespace Go.Eng
set_option linter.unusedSimpArgs false
set_option linter.unusedVariables false
set_option linter.unusedVariables false
def askErr (p : Prg) (s : Stt) : Int := if rightP p = false then 3 else if validP p s = false then 4 else 0
def liveB (s : Stt) (g : Int) : Bool := decide ((s.gos.getD g.toNat default).status = 1) || decide ((s.gos.getD g.toNat default).status = 2)
def oneErr (p : Prg) (s : Stt) (g : Int) : Int := if askErr p s ≠ 0 then askErr p s else if g < 0 ∨ 6 ≤ g then 1 else if liveB s g = false then 9 else 0
def atI (p : Prg) (s : Stt) (g : Int) : Instr := { instrAt p s g with op := opAt p s g }
def thereB (s : Stt) (g k : Int) : Bool := decide (0 ≤ k) && decide (k < s.count) && !decide (k = g)
def liveTo (s : Stt) (n : Nat) : List Int := ((List.range n).filter fun (g : Nat) => liveB s (g : Int)).map fun (g : Nat) => (g : Int)
theorem ask_zero {p : Prg} {s : Stt} (h : askErr p s = 0) : rightP p = true ∧ validP p s = true := by
  unfold askErr at h
  split at h; · cases h
  rename_i h1
  split at h; · cases h
  rename_i h2
  exact ⟨by simpa using h1, by simpa using h2⟩
theorem one_zero {p : Prg} {s : Stt} {g : Int} (h : oneErr p s g = 0) : askErr p s = 0 ∧ (0 ≤ g ∧ g < 6) ∧ liveB s g = true := by
  unfold oneErr at h
  split at h
  · rename_i h1; exact absurd h h1
  · rename_i h1
    split at h; · cases h
    rename_i h2
    split at h; · cases h
    rename_i h3
    exact ⟨Decidable.not_not.1 h1, by omega, by simpa using h3⟩
theorem liveB_count {p : Prg} {s : Stt} (hv : Vld p s) {g : Int} (h0 : 0 ≤ g) (h6 : g < 6) (h : liveB s g = true) : g < s.count := by
  by_cases hc : g < s.count
  · exact hc
  · have := hv.rest g.toNat (by omega) (by omega)
    unfold liveB at h
    rw [this] at h
    exact absurd h (by decide)
theorem isLive_in {s : Stt} {g : Int} (h0 : 0 ≤ g) (hc : g < s.count) : isLive s g = liveB s g := by
  unfold isLive liveB
  rw [decide_eq_true h0, decide_eq_true hc]; rfl
theorem liveB_live {p : Prg} {s : Stt} (hv : Vld p s) {g : Int} (h0 : 0 ≤ g) (h6 : g < 6) : isLive s g = liveB s g := by
  by_cases hc : g < s.count
  · exact isLive_in h0 hc
  · cases h : liveB s g
    · unfold isLive; rw [decide_eq_false hc]; simp
    · exact absurd (liveB_count hv h0 h6 h) hc
theorem liveTo_succ (s : Stt) (n : Nat) : liveTo s (n + 1) = liveTo s n ++ if liveB s (n : Int) = true then [(n : Int)] else [] := by
  unfold liveTo
  rw [List.range_succ, List.filter_append, List.map_append]
  congr 1
  simp only [List.filter_cons, List.filter_nil]
  split <;> rfl
theorem liveTo_len (s : Stt) (n : Nat) : (liveTo s n).length ≤ n := by
  unfold liveTo
  rw [List.length_map]
  exact Nat.le_trans (List.length_filter_le _ _) (by simp)
theorem sends_eq {p : Prg} {s : Stt} {c : Int} (h : 0 ≤ p.chans.getD c.toNat 0) : sends p s c = ((s.chans.getD c.toNat default).closed || (decide (0 < p.chans.getD c.toNat 0) && decide ((s.chans.getD c.toNat default).len < p.chans.getD c.toNat 0)) || (decide (p.chans.getD c.toNat 0 = 0) && decide ((s.chans.getD c.toNat default).offer = 0))) := by
  show (if (s.chans.getD c.toNat default).closed = true then true else if 0 < p.chans.getD c.toNat 0 then decide ((s.chans.getD c.toNat default).len < p.chans.getD c.toNat 0) else decide ((s.chans.getD c.toNat default).offer = 0)) = _
  cases (s.chans.getD c.toNat default).closed
  · rw [if_neg (by simp)]
    by_cases h2 : 0 < p.chans.getD c.toNat 0
    · rw [if_pos h2, decide_eq_true h2, decide_eq_false (show ¬p.chans.getD c.toNat 0 = 0 by omega)]; simp
    · rw [if_neg h2, decide_eq_false h2, decide_eq_true (show p.chans.getD c.toNat 0 = 0 by omega)]; simp
  · rw [if_pos rfl]; simp
section
variable {p : Prg} {s : Stt} {g : Int}
theorem plain54 (h : opAt p s g = 54) : plain p s g = decide (s.vars.getD (instrAt p s g).a.toNat 0 = (s.gos.getD g.toNat default).regs.getD (instrAt p s g).b.toNat 0) := if_pos h
theorem plain55 (h : opAt p s g = 55) : plain p s g = decide (s.owner.getD (instrAt p s g).a.toNat 0 = 0) := (if_neg (by omega)).trans (if_pos h)
theorem plain58 (h : opAt p s g = 58) : plain p s g = sends p s (instrAt p s g).a := (if_neg (by omega)).trans ((if_neg (by omega)).trans (if_pos h))
theorem plain59 (h : opAt p s g = 59) : plain p s g = receives s (instrAt p s g).b := (if_neg (by omega)).trans ((if_neg (by omega)).trans ((if_neg (by omega)).trans (if_pos h)))
theorem plain66 (h : opAt p s g = 66) : plain p s g = (decide ((s.chans.getD (instrAt p s g).a.toNat default).offer = 2) || decide ((s.chans.getD (instrAt p s g).a.toNat default).offer = 3)) := (if_neg (by omega)).trans ((if_neg (by omega)).trans ((if_neg (by omega)).trans ((if_neg (by omega)).trans (if_pos h))))
theorem plain63 (h : opAt p s g = 63) : plain p s g = (!thereB s g ((s.gos.getD g.toNat default).regs.getD (instrAt p s g).a.toNat 0) || !liveB s ((s.gos.getD g.toNat default).regs.getD (instrAt p s g).a.toNat 0)) := by
  have e : plain p s g = (decide ((s.gos.getD g.toNat default).regs.getD (instrAt p s g).a.toNat 0 < 0) || decide (s.count ≤ (s.gos.getD g.toNat default).regs.getD (instrAt p s g).a.toNat 0) || decide ((s.gos.getD g.toNat default).regs.getD (instrAt p s g).a.toNat 0 = g) || !isLive s ((s.gos.getD g.toNat default).regs.getD (instrAt p s g).a.toNat 0)) :=
    (if_neg (by omega)).trans ((if_neg (by omega)).trans ((if_neg (by omega)).trans ((if_neg (by omega)).trans ((if_neg (by omega)).trans (if_pos h)))))
  rw [e]
  generalize (s.gos.getD g.toNat default).regs.getD (instrAt p s g).a.toNat 0 = k
  unfold thereB
  by_cases h0 : 0 ≤ k
  · by_cases h1 : k < s.count
    · rw [decide_eq_false (show ¬k < 0 by omega), decide_eq_false (show ¬s.count ≤ k by omega), decide_eq_true h0, decide_eq_true h1, isLive_in h0 h1]; cases decide (k = g) <;> rfl
    · rw [decide_eq_true (show s.count ≤ k by omega), decide_eq_false h1]; simp
  · rw [decide_eq_true (show k < 0 by omega), decide_eq_false h0]; simp
theorem plain_else (h : opAt p s g ≠ 54 ∧ opAt p s g ≠ 55 ∧ opAt p s g ≠ 58 ∧ opAt p s g ≠ 59 ∧ opAt p s g ≠ 66 ∧ opAt p s g ≠ 63) : plain p s g = decide (50 ≤ opAt p s g) :=
  (if_neg h.1).trans ((if_neg h.2.1).trans ((if_neg h.2.2.1).trans ((if_neg h.2.2.2.1).trans ((if_neg h.2.2.2.2.1).trans (if_neg h.2.2.2.2.2)))))
end
end Go.Eng
namespace Go.Eng.Tryz
open Go.RowKit Go.Eng
set_option linter.unusedSimpArgs false
set_option linter.unusedVariables false
set_option maxHeartbeats 0
set_option maxRecDepth 20000

-- scarab/state.Start
def lv39 : List (Nat × List Nat) := [(0, [1]), (1, [1, 3]), (2, [3, 7, 8]), (3, [3, 7, 8, 9]), (4, [3, 4, 5, 7, 8]), (5, [3, 4, 7, 8, 19]), (6, [3, 7, 8]), (7, [3, 7, 8]), (8, [2])]
-- scarab/state.Live
theorem plive_ctr (s : Stt) (hs : s.Shape) : Ctr Go.Proofs.Tryz.prog tab 39 [37] [23] [s.v] [.list ((liveTo s 6).map V.int)] := by
  have hcode : True → True := id
  have hsl : True → True := id
  have hs5 := hs.gos
  refine Ctr.body ok Go.Proofs.Tryz.func39 rfl rfl 26 rfl [.tmp 2] rfl (by simp [fromVs]) ?_
  simp only [fromVs, fromV, args0, V.toList_list, V.toInt_int, V.toBool_bool, Nat.zero_add, Nat.reduceAdd, ty37]
  repeat' first
    | ((with_reducible refine SARA.told 4 2 ?_)
       rw [getD_gors (by omega)])
    | ((with_reducible refine SARA.do fun R1 hR1 => ?_); (simp only [go_sem, seval, -List.reduceReplicate, zeroGo_at, zeroState_at, zero142, z142, z3, Bool.cond_false_right, Bool.cond_true_left]); (repeat' with_reducible refine And.intro ?_ ?_); all_goals first | (refine hR1 _ ?_; clear hR1 R1) | omega | rfl | decide | assumption | (intro _; omega) | (simp; done) | (simp [-List.getD_eq_getElem?_getD]; omega) | exact hcode _ | (intro _; exact hcode _) | exact hsl _ | (intro _; exact hsl _) | (simp [-List.getD_eq_getElem?_getD, roomFor, maxLen, by3, by39, by45, by48, by37]; omega) | (simp [-List.getD_eq_getElem?_getD, roomFor, maxLen, by3, by39, by45, by48, by37]; done))
    | ((with_reducible refine SARA.nil ?_); refine hR _ ?_; clear hR R; try simp only [go_sem, lv39, lvOf, Nat.reduceBEq, Option.getD_some])
    | (with_reducible first | refine thenK.normal ?_ | refine SA.seq ?_ | refine SA.skip ?_ | refine SA.block ?_ | refine blockK.normal ?_ | refine SA.exit ?_ | refine blockK.hit ?_ | refine blockK.miss (by decide) ?_ | refine thenK.exit ?_ | refine loopK.exit ?_ | refine SA.ret ?_ | refine thenK.ret ?_ | refine blockK.ret ?_ | refine loopK.ret ?_ | refine SA.scope ?_ | refine scopeK.normal ?_ | refine scopeK.exit ?_ | refine scopeK.ret ?_ | refine SA.label ?_)
    | ((with_reducible refine SA.at 6 ?_)
       have hll := liveTo_len s i
       (with_reducible refine SA.regionN ok (by kernel_rfl) lv39 ?_); intro R hR; simp only [go_sem, strip])
    | ((with_reducible refine SA.regionN ok (by kernel_rfl) lv39 ?_); intro R hR; simp only [go_sem, strip])
    | ((with_reducible refine SA.condAt 9 rfl (fun hb9 => ?_) (fun hb9 => ?_))
       all_goals
         try simp [-List.getD_eq_getElem?_getD] at hb9
         try (exfalso; omega))
    | ((with_reducible refine SA.condAt 19 rfl (fun hb19 => ?_) (fun hb19 => ?_))
       all_goals
         try simp [-List.getD_eq_getElem?_getD] at hb19
         try (exfalso; omega))
    | ((with_reducible refine SA.atLoop ?_)
       refine SA.weaken ((St.le.own (t := 3) 3 rfl).trans ((St.le.keep [3, 7, 8]).trans (St.le.of_eq (by first | rfl | (simp [liveTo]; done))))) (SA.loop (fun n τ => ∃ (i : Nat), n = 6 - i ∧ (i ≤ 6) ∧ τ = { tm := [(3, true, .sl 1 3 0 (liveTo s i).length false), (7, true, .data 35 (.agg (s.gos.map Gor.v))), (8, true, .int .i64 i)], ob := [.var 37 (.data 37 s.v), .row 3 ((liveTo s i).map V.int)], out := [], nt := 26 }) (6) ⟨0, rfl, by omega, rfl⟩ ?_)
       rintro n τ ⟨i, hn, hi, rfl⟩)
    | ((with_reducible refine loopK.round ?_)
       first
         | (have q : _ ∨ _ := hb19
            have hlt : i < 6 := by omega
            have hw := wrap_succ (n := i) (m := 256) (by omega) (by decide)
            have e := liveTo_succ s i
            rw [if_pos (by unfold liveB; simpa using hb19)] at e
            refine loopK.normal (6 - (i + 1)) _ (by omega) ((St.le.cut 2 rfl).trans (St.le.of_eq (by simp [-List.getD_eq_getElem?_getD, hw, e, List.take_of_length_le]))) ⟨i + 1, rfl, hlt, rfl⟩)
         | (have q : _ ∧ _ := hb19
            have hlt : i < 6 := by omega
            have hw := wrap_succ (n := i) (m := 256) (by omega) (by decide)
            have e := liveTo_succ s i
            rw [if_neg (by unfold liveB; simpa using hb19), List.append_nil] at e
            refine loopK.normal (6 - (i + 1)) _ (by omega) ((St.le.cut 2 rfl).trans (St.le.of_eq (by simp [-List.getD_eq_getElem?_getD, hw, e, List.take_of_length_le]))) ⟨i + 1, rfl, hlt, rfl⟩))
    | ((with_reducible first | refine ctrK.normal ?_ | refine ctrK.ret ?_)
       simp only [go_sem, resA, resV, backK, seval]
       have e : i = 6 := by omega
       subst e
       refine ⟨rfl, ?_⟩
       simp [List.take_of_length_le])

def lv60 : List (Nat × List Nat) := [(0, [2, 3]), (1, [2, 3, 5]), (2, [2, 3, 13]), (3, [4]), (4, [17]), (5, [4]), (6, [4])]
-- scarab/step.asked
theorem pasked_ctr (p : Prg) (s : Stt) (hp : p.Fit) (hs : s.Shape) : Ctr Go.Proofs.Tryz.prog tab 60 [26, 37] [49] [p.v, s.v] [.int (askErr p s)] := by
  have hpp := hp
  have hfit := hp
  have hcode := p.code_len hp
  have hsl := p.sels_len hp
  obtain ⟨hp1, hp2, hp3, hp4⟩ := hp
  refine Ctr.body ok Go.Proofs.Tryz.func60 rfl rfl 18 rfl [.tmp 4] rfl (by simp [fromVs]) ?_
  simp only [fromVs, fromV, args0, V.toList_list, V.toInt_int, V.toBool_bool, Nat.zero_add, Nat.reduceAdd, ty26, ty37]
  repeat' first
    | ((with_reducible refine SARA.do fun R1 hR1 => ?_); (simp only [go_sem, seval, -List.reduceReplicate, zeroGo_at, zeroState_at, zero142, z142, z3, Bool.cond_false_right, Bool.cond_true_left]); (repeat' with_reducible refine And.intro ?_ ?_); all_goals first | (refine hR1 _ ?_; clear hR1 R1) | ((first | refine ⟨_, _, rfl, .inr (CallE.ctr ok (pcheck_ctr p hpp) (by first | rfl | (simp [go_sem]; done) | fail) ?_)⟩ | refine ⟨_, _, rfl, .inl ⟨_, CallQ.ctr ok (pvalid_ctr p s hpp hs) (by first | rfl | (simp [go_sem]; done) | fail) rfl, ?_⟩⟩); all_goals ((try simp only [go_sem, seval, -List.reduceReplicate, zeroGo_at, zeroState_at, zero142, z142, z3, Bool.cond_false_right, Bool.cond_true_left]); (repeat' with_reducible refine And.intro ?_ ?_); all_goals first | (refine hR1 _ ?_; clear hR1 R1) | omega | rfl | decide | assumption | (intro _; omega) | (simp; done) | (simp [-List.getD_eq_getElem?_getD]; omega) | exact hcode _ | (intro _; exact hcode _) | exact hsl _ | (intro _; exact hsl _))) | omega | rfl | decide | assumption | (intro _; omega) | (simp; done) | (simp [-List.getD_eq_getElem?_getD]; omega) | exact hcode _ | (intro _; exact hcode _) | exact hsl _ | (intro _; exact hsl _))
    | ((with_reducible refine SARA.nil ?_); refine hR _ ?_; clear hR R; try simp only [go_sem, lv60, lvOf, Nat.reduceBEq, Option.getD_some])
    | (with_reducible first | refine thenK.normal ?_ | refine SA.seq ?_ | refine SA.skip ?_ | refine SA.block ?_ | refine blockK.normal ?_ | refine SA.exit ?_ | refine blockK.hit ?_ | refine blockK.miss (by decide) ?_ | refine thenK.exit ?_ | refine loopK.exit ?_ | refine SA.ret ?_ | refine thenK.ret ?_ | refine blockK.ret ?_ | refine loopK.ret ?_ | refine SA.scope ?_ | refine scopeK.normal ?_ | refine scopeK.exit ?_ | refine scopeK.ret ?_ | refine SA.label ?_)
    | ((with_reducible refine SA.regionN ok (by kernel_rfl) lv60 ?_); intro R hR; simp only [go_sem, strip])
    | ((with_reducible refine SA.condAt 13 rfl (fun hb13 => ?_) (fun hb13 => ?_))
       all_goals
         try simp [-List.getD_eq_getElem?_getD] at hb13
         try (exfalso; omega))
    | ((with_reducible refine SA.condAt 17 rfl (fun hb17 => ?_) (fun hb17 => ?_))
       all_goals
         try simp [-List.getD_eq_getElem?_getD] at hb17
         try (exfalso; omega))
    | ((with_reducible first | refine ctrK.normal ?_ | refine ctrK.ret ?_)
       simp only [go_sem, resA, resV, backK, seval]
       first
         | (have q := hb17
            exact ⟨rfl, congrArg (fun e => some (V.int e)) (Eq.symm ((if_neg (by unfold rightP; simp [hb13])).trans (if_pos hb17)))⟩)
         | (have q := hb17
            exact ⟨rfl, congrArg (fun e => some (V.int e)) (Eq.symm ((if_neg (by unfold rightP; simp [hb13])).trans (if_neg (by simp [hb17]))))⟩)
         | (exact ⟨rfl, congrArg (fun e => some (V.int e)) (Eq.symm (if_pos (by unfold rightP; simp [hb13])))⟩))

def lv61 : List (Nat × List Nat) := [(0, [1, 2]), (1, [4])]
-- scarab/step.live
theorem steplive_ctr (s : Stt) (g : Int) (hs : s.Shape) (hg : 0 ≤ g ∧ g < 6) : Ctr Go.Proofs.Tryz.prog tab 61 [37, 3] [4] [s.v, .int g] [.bool (liveB s g)] := by
  have hcode : True → True := id
  have hsl : True → True := id
  have hs5 := hs.gos
  refine Ctr.body ok Go.Proofs.Tryz.func61 rfl rfl 19 rfl [.tmp 4] rfl (by simp [fromVs]) ?_
  simp only [fromVs, fromV, args0, V.toList_list, V.toInt_int, V.toBool_bool, Nat.zero_add, Nat.reduceAdd, ty3, ty37]
  repeat' first
    | ((with_reducible refine SARA.do fun R1 hR1 => ?_); (simp only [go_sem, seval, -List.reduceReplicate, zeroGo_at, zeroState_at, zero142, z142, z3, Bool.cond_false_right, Bool.cond_true_left]); (repeat' with_reducible refine And.intro ?_ ?_); all_goals first | (refine hR1 _ ?_; clear hR1 R1) | omega | rfl | decide | assumption | (intro _; omega) | (simp; done) | (simp [-List.getD_eq_getElem?_getD]; omega) | exact hcode _ | (intro _; exact hcode _) | exact hsl _ | (intro _; exact hsl _))
    | ((with_reducible refine SARA.nil ?_); refine hR _ ?_; clear hR R; try simp only [go_sem, lv61, lvOf, Nat.reduceBEq, Option.getD_some])
    | (with_reducible first | refine thenK.normal ?_ | refine SA.seq ?_ | refine SA.skip ?_ | refine SA.block ?_ | refine blockK.normal ?_ | refine SA.exit ?_ | refine blockK.hit ?_ | refine blockK.miss (by decide) ?_ | refine thenK.exit ?_ | refine loopK.exit ?_ | refine SA.ret ?_ | refine thenK.ret ?_ | refine blockK.ret ?_ | refine loopK.ret ?_ | refine SA.scope ?_ | refine scopeK.normal ?_ | refine scopeK.exit ?_ | refine scopeK.ret ?_ | refine SA.label ?_)
    | ((with_reducible refine SA.regionN ok (by kernel_rfl) lv61 ?_); intro R hR; simp only [go_sem, strip])
    | ((with_reducible first | refine ctrK.normal ?_ | refine ctrK.ret ?_)
       simp only [go_sem, resA, resV, backK, seval]
       exact ⟨rfl, rfl⟩)

def lv74 : List (Nat × List Nat) := [(0, [2, 3, 4]), (1, [2, 4, 7]), (2, [2, 4, 7, 11]), (3, [6]), (4, [2, 4, 15]), (5, [6]), (6, [22]), (7, [6]), (8, [6])]
-- scarab/step.one
theorem pone_ctr (p : Prg) (s : Stt) (g : Int) (hp : p.Fit) (hs : s.Shape) : Ctr Go.Proofs.Tryz.prog tab 74 [26, 37, 3] [49] [p.v, s.v, .int g] [.int (oneErr p s g)] := by
  have hpp := hp
  have hfit := hp
  have hcode := p.code_len hp
  have hsl := p.sels_len hp
  obtain ⟨hp1, hp2, hp3, hp4⟩ := hp
  refine Ctr.body ok Go.Proofs.Tryz.func74 rfl rfl 27 rfl [.tmp 6] rfl (by simp [fromVs]) ?_
  simp only [fromVs, fromV, args0, V.toList_list, V.toInt_int, V.toBool_bool, Nat.zero_add, Nat.reduceAdd, ty3, ty26, ty37]
  repeat' first
    | ((with_reducible refine SARA.do fun R1 hR1 => ?_); (simp only [go_sem, seval, -List.reduceReplicate, zeroGo_at, zeroState_at, zero142, z142, z3, Bool.cond_false_right, Bool.cond_true_left]); (repeat' with_reducible refine And.intro ?_ ?_); all_goals first | (refine hR1 _ ?_; clear hR1 R1) | ((first | refine ⟨_, _, rfl, .inl ⟨_, CallQ.ctr ok (pasked_ctr p s hpp hs) (by first | rfl | (simp [go_sem]; done) | fail) rfl, ?_⟩⟩ | refine ⟨_, _, rfl, .inl ⟨_, CallQ.ctr ok (steplive_ctr s g hs (by omega)) (by first | rfl | (simp [go_sem]; done) | fail) rfl, ?_⟩⟩); all_goals ((try simp only [go_sem, seval, -List.reduceReplicate, zeroGo_at, zeroState_at, zero142, z142, z3, Bool.cond_false_right, Bool.cond_true_left]); (repeat' with_reducible refine And.intro ?_ ?_); all_goals first | (refine hR1 _ ?_; clear hR1 R1) | omega | rfl | decide | assumption | (intro _; omega) | (simp; done) | (simp [-List.getD_eq_getElem?_getD]; omega) | exact hcode _ | (intro _; exact hcode _) | exact hsl _ | (intro _; exact hsl _))) | omega | rfl | decide | assumption | (intro _; omega) | (simp; done) | (simp [-List.getD_eq_getElem?_getD]; omega) | exact hcode _ | (intro _; exact hcode _) | exact hsl _ | (intro _; exact hsl _))
    | ((with_reducible refine SARA.nil ?_); refine hR _ ?_; clear hR R; try simp only [go_sem, lv74, lvOf, Nat.reduceBEq, Option.getD_some])
    | (with_reducible first | refine thenK.normal ?_ | refine SA.seq ?_ | refine SA.skip ?_ | refine SA.block ?_ | refine blockK.normal ?_ | refine SA.exit ?_ | refine blockK.hit ?_ | refine blockK.miss (by decide) ?_ | refine thenK.exit ?_ | refine loopK.exit ?_ | refine SA.ret ?_ | refine thenK.ret ?_ | refine blockK.ret ?_ | refine loopK.ret ?_ | refine SA.scope ?_ | refine scopeK.normal ?_ | refine scopeK.exit ?_ | refine scopeK.ret ?_ | refine SA.label ?_)
    | ((with_reducible refine SA.regionN ok (by kernel_rfl) lv74 ?_); intro R hR; simp only [go_sem, strip])
    | ((with_reducible refine SA.condAt 11 rfl (fun hb11 => ?_) (fun hb11 => ?_))
       all_goals
         try simp [-List.getD_eq_getElem?_getD] at hb11
         try (exfalso; omega))
    | ((with_reducible refine SA.condAt 15 rfl (fun hb15 => ?_) (fun hb15 => ?_))
       all_goals
         try simp [-List.getD_eq_getElem?_getD] at hb15
         try (exfalso; omega))
    | ((with_reducible refine SA.condAt 22 rfl (fun hb22 => ?_) (fun hb22 => ?_))
       all_goals
         try simp [-List.getD_eq_getElem?_getD] at hb22
         try (exfalso; omega))
    | ((with_reducible first | refine ctrK.normal ?_ | refine ctrK.ret ?_)
       simp only [go_sem, resA, resV, backK, seval]
       first
         | (have q : _ = false := hb22
            exact ⟨rfl, congrArg (fun e => some (V.int e)) (Eq.symm ((if_neg (fun h => h hb11)).trans ((if_neg (by omega)).trans (if_pos hb22))))⟩)
         | (have q := hb22
            exact ⟨rfl, congrArg (fun e => some (V.int e)) (Eq.symm ((if_neg (fun h => h hb11)).trans ((if_neg (by omega)).trans (if_neg (by simp [hb22])))))⟩)
         | (have q := hb15
            exact ⟨rfl, congrArg (fun e => some (V.int e)) (Eq.symm ((if_neg (fun h => h hb11)).trans (if_pos (by omega))))⟩)
         | (exact ⟨rfl, congrArg (fun e => some (V.int e)) (Eq.symm (if_pos hb11))⟩))

end Go.Eng.Tryz
