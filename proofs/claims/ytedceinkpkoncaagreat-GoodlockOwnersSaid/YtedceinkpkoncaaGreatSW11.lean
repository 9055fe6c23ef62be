/- A part of the proof: walks through the program's functions, and what they compute. -/
import Derived.Test.YtedceinkpkoncaaGreatSW10
namespace Go.Eng.Tryz
open Go.RowKit Go.Eng
set_option linter.unusedSimpArgs false
set_option linter.unusedVariables false
set_option maxHeartbeats 0
set_option maxRecDepth 20000

theorem settled_ctr' (p : Prg) (g : Gor) (fuel : Int) (hp : p.Fit) (hr : rightP p = true) (hg : gorIn p g) (hf : 0 ≤ fuel ∧ fuel ≤ 4096) : Ctr Go.Proofs.Tryz.prog tab 68 [26, 38, 3] [38] [p.v, g.v, .int fuel] [(settled applyW p g fuel).v] := by
  obtain ⟨m, rfl⟩ := Int.eq_ofNat_of_zero_le hf.1
  exact settled_ctr p g m hp hr hg (by omega)

def lv45 : List (Nat × List Nat) := [(0, [1, 2, 4]), (1, [1, 2, 4, 11]), (2, [4, 5]), (3, [1, 2, 4, 18]), (4, [4, 5]), (5, [1, 2, 4, 6]), (6, [1, 2, 4, 6, 22, 23, 24]), (7, [1, 2, 4, 6, 22, 23, 24, 25]), (8, [1, 2, 4, 6, 7, 8, 22, 23, 24]), (9, [1, 2, 4, 6, 22, 23, 24]), (10, [1, 2, 4, 6, 22, 23, 24]), (11, [4, 6]), (12, [4, 5])]
-- scarab/scarabref07.Start
theorem start_ctr (p : Prg) (fuel : Int) (hp : p.Fit) : Ctr Go.Proofs.Tryz.prog tab 45 [26, 3] [41, 3] [p.v, .int fuel] [(start applyW p fuel).1.v, .int (start applyW p fuel).2] := by
  have hfit := hp
  have hcode := p.code_len hp
  have hsl := p.sels_len hp
  obtain ⟨hp1, hp2, hp3, hp4⟩ := hp
  refine Ctr.body ok Go.Proofs.Tryz.func45 rfl rfl 42 rfl [.cell 4 41, .tmp 5] rfl (by simp [fromVs]) ?_
  simp only [fromVs, fromV, args0, V.toList_list, V.toInt_int, V.toBool_bool, Nat.zero_add, Nat.reduceAdd, ty3, ty26]
  repeat' first
    | ((with_reducible refine SARA.told 8 3 ?_)
       rw [getD_vrs (by omega)])
    | ((with_reducible refine SARA.do fun R1 hR1 => ?_); (simp only [go_sem, seval, -List.reduceReplicate, zeroGo_at, zeroState_at]); (repeat' with_reducible refine And.intro ?_ ?_); all_goals first | (refine hR1 _ ?_; clear hR1 R1) | ((first | refine ⟨_, _, rfl, .inl ⟨_, CallQ.ctr ok (right_ctr p hfit) (by first | rfl | (simp [go_sem]; done) | fail) rfl, ?_⟩⟩ | refine ⟨_, _, rfl, .inl ⟨_, CallQ.ctr ok (settled_ctr' p _ _ hfit hr (start_in hok) hf) (by first | rfl | (simp [go_sem]; done) | fail) rfl, ?_⟩⟩); all_goals ((try simp only [go_sem, seval, -List.reduceReplicate, zeroGo_at, zeroState_at]); (repeat' with_reducible refine And.intro ?_ ?_); all_goals first | (refine hR1 _ ?_; clear hR1 R1) | omega | rfl | decide | assumption | (intro _; omega) | (simp; done) | (simp [-List.getD_eq_getElem?_getD]; omega) | exact hcode _ | (intro _; exact hcode _) | exact hsl _ | (intro _; exact hsl _))) | omega | rfl | decide | assumption | (intro _; omega) | (simp; done) | (simp [-List.getD_eq_getElem?_getD]; omega) | exact hcode _ | (intro _; exact hcode _) | exact hsl _ | (intro _; exact hsl _))
    | ((with_reducible refine SARA.nil ?_); refine hR _ ?_; clear hR R; try simp only [go_sem, lv45, lvOf, Nat.reduceBEq, Option.getD_some])
    | (with_reducible first | refine thenK.normal ?_ | refine SA.seq ?_ | refine SA.skip ?_ | refine SA.block ?_ | refine blockK.normal ?_ | refine SA.exit ?_ | refine blockK.hit ?_ | refine blockK.miss (by decide) ?_ | refine thenK.exit ?_ | refine loopK.exit ?_ | refine SA.ret ?_ | refine thenK.ret ?_ | refine blockK.ret ?_ | refine loopK.ret ?_ | refine SA.scope ?_ | refine scopeK.normal ?_ | refine scopeK.exit ?_ | refine scopeK.ret ?_ | refine SA.label ?_)
    | ((with_reducible refine SA.at 5 ?_)
       have hr : rightP p = true := hb11
       have hok := Prg.ok hr
       have hsz := hok.sizes
       unfold Sizes at hsz
       have hf : 0 ≤ fuel ∧ fuel ≤ 4096 := by omega
       (with_reducible refine SA.regionN ok (by kernel_rfl) lv45 ?_); intro R hR; simp only [go_sem, strip])
    | ((with_reducible refine SA.regionN ok (by kernel_rfl) lv45 ?_); intro R hR; simp only [go_sem, strip])
    | ((with_reducible refine SA.condAt 11 rfl (fun hb11 => ?_) (fun hb11 => ?_))
       all_goals
         try simp [-List.getD_eq_getElem?_getD] at hb11
         try (exfalso; omega))
    | ((with_reducible refine SA.condAt 18 rfl (fun hb18 => ?_) (fun hb18 => ?_))
       all_goals
         try simp [-List.getD_eq_getElem?_getD] at hb18
         try (exfalso; omega))
    | ((with_reducible refine SA.condAt 25 rfl (fun hb25 => ?_) (fun hb25 => ?_))
       all_goals
         try simp [-List.getD_eq_getElem?_getD] at hb25
         try (exfalso; omega))
    | ((with_reducible refine SA.atLoop ?_)
       refine SA.weaken (St.le.of_eq (by (simp only [startVars_zero]; rfl))) (SA.loop (fun n τ => ∃ (i : Nat), n = p.vars.length - i ∧ (i ≤ p.vars.length) ∧ τ = { tm := [(1, true, .int .i64 fuel), (2, true, .ptr 0 [] 26), (4, true, .ptr 1 [] 41), (6, true, .ptr 2 [] 41), (22, true, .fs 152 (p.vars.map Vr.v) false), (23, true, .int .i64 p.vars.length), (24, true, .int .i64 i)], ob := [.var 26 (.data 26 p.v), .var 41 (.data 41 zeroStt.v), .var 41 (.data 41 (Stt.v ⟨startVars p i, zeroStt.owner, zeroStt.chans, zeroStt.gos, 1⟩))], out := [], nt := 42 }) (p.vars.length) ⟨0, rfl, by omega, rfl⟩ ?_)
       rintro n τ ⟨i, hn, hi, rfl⟩)
    | ((with_reducible refine loopK.round ?_)
       first
         | (have hlt : i < p.vars.length := by omega
            refine loopK.normal (p.vars.length - (i + 1)) _ (by omega) ((St.le.cut 3 rfl).trans (St.le.of_eq (by simp only [wrap_succ hlt hp1, startVars_succ p (show i < 8 by omega), List.take_succ_cons, List.take_zero]))) ⟨i + 1, rfl, hlt, rfl⟩))
    | ((with_reducible first | refine ctrK.normal ?_ | refine ctrK.ret ?_)
       simp only [go_sem, resA, resV, backK, seval]
       first
         | (have hi' : i = p.vars.length := by omega
            subst hi'
            have e : start applyW p fuel = (⟨startVars p p.vars.length, zeroStt.owner, zeroStt.chans, zeroStt.gos.set 0 (settled applyW p zeroGor fuel), 1⟩, 0) := (if_neg (by rw [hr]; simp)).trans (if_neg (by omega))
            rw [e]
            exact ⟨⟨rfl, rfl⟩, ⟨rfl, rfl⟩⟩)
         | (have q : _ ∨ _ := hb18
            have e : start applyW p fuel = (zeroStt, 1) := (if_neg (by rw [hb11]; simp)).trans (if_pos hb18)
            rw [e]
            exact ⟨⟨rfl, rfl⟩, ⟨rfl, rfl⟩⟩)
         | (have e : start applyW p fuel = (zeroStt, 3) := if_pos hb11
            rw [e]
            exact ⟨⟨rfl, rfl⟩, ⟨rfl, rfl⟩⟩))

def lv38 : List (Nat × List Nat) := [(0, [2, 3, 4, 5, 8]), (1, [2, 3, 4, 5, 8, 12]), (2, [8, 9]), (3, [2, 3, 4, 5, 8, 17]), (4, [8, 9]), (5, [2, 3, 4, 5, 8, 32]), (6, [8, 9]), (7, [2, 3, 4, 5, 8, 37]), (8, [8, 9]), (9, [2, 3, 4, 5, 8, 52]), (10, [5, 8]), (11, [8, 9])]
-- scarab/scarabref07.Settle
theorem settle_ctr (p : Prg) (s : Stt) (g fuel : Int) (hp : p.Fit) (hs : s.Shape) : Ctr Go.Proofs.Tryz.prog tab 38 [26, 41, 3, 3] [41, 3] [p.v, s.v, .int g, .int fuel] [(settle applyW p s g fuel).1.v, .int (settle applyW p s g fuel).2] := by
  have hfit := hp
  have hcode := p.code_len hp
  have hsl := p.sels_len hp
  obtain ⟨hp1, hp2, hp3, hp4⟩ := hp
  have hs5 := hs.gos
  refine Ctr.body ok Go.Proofs.Tryz.func38 rfl rfl 64 rfl [.cell 8 41, .tmp 9] rfl (by simp [fromVs]) ?_
  simp only [fromVs, fromV, args0, V.toList_list, V.toInt_int, V.toBool_bool, Nat.zero_add, Nat.reduceAdd, ty3, ty26, ty41]
  repeat' first
    | ((with_reducible refine SART.told 10 5 ?_)
       rw [getD_gors (by omega)])
    | ((with_reducible first | refine SARA.do fun R1 hR1 => ?_ | refine SART.do fun R1 hR1 => ?_ | refine SARB.keep fun R1 hR1 => ?_ | refine SARB.any fun R1 hR1 => ?_); (simp only [go_sem, seval, -List.reduceReplicate, zeroGo_at, zeroState_at]); (repeat' with_reducible refine And.intro ?_ ?_); all_goals first | (refine hR1 _ ?_; clear hR1 R1) | ((first | refine ⟨_, _, rfl, .inl ⟨_, CallQ.ctr ok (right_ctr p hfit) (by first | rfl | (simp [go_sem]; done) | fail) rfl, ?_⟩⟩ | refine ⟨_, _, rfl, .inl ⟨_, CallQ.ctr ok (valid_ctr p s hfit hs) (by first | rfl | (simp [go_sem]; done) | fail) rfl, ?_⟩⟩ | refine ⟨_, _, rfl, .inl ⟨_, CallQ.ctr ok (settled_ctr' p _ _ hfit hb12 hgi hf) (by first | rfl | (simp [go_sem]; done) | fail) rfl, ?_⟩⟩); all_goals ((try simp only [go_sem, seval, -List.reduceReplicate, zeroGo_at, zeroState_at]); (repeat' with_reducible refine And.intro ?_ ?_); all_goals first | (refine hR1 _ ?_; clear hR1 R1) | omega | rfl | decide | assumption | (intro _; omega) | (simp; done) | (simp [-List.getD_eq_getElem?_getD]; omega) | exact hcode _ | (intro _; exact hcode _) | exact hsl _ | (intro _; exact hsl _))) | omega | rfl | decide | assumption | (intro _; omega) | (simp; done) | (simp [-List.getD_eq_getElem?_getD]; omega) | exact hcode _ | (intro _; exact hcode _) | exact hsl _ | (intro _; exact hsl _))
    | ((with_reducible refine SART.done ?_); refine hR _ ?_; clear hR R; try simp only [go_sem, lv38, lvOf, Nat.reduceBEq, Option.getD_some])
    | (with_reducible first | refine SART.br ?_ ?_ | exact SARL.nil | refine SARL.cons ?_ ?_)
    | ((with_reducible refine SARA.nil ?_); refine hR _ ?_; clear hR R; try simp only [go_sem, lv38, lvOf, Nat.reduceBEq, Option.getD_some])
    | (with_reducible first | refine thenK.normal ?_ | refine SA.seq ?_ | refine SA.skip ?_ | refine SA.block ?_ | refine blockK.normal ?_ | refine SA.exit ?_ | refine blockK.hit ?_ | refine blockK.miss (by decide) ?_ | refine thenK.exit ?_ | refine loopK.exit ?_ | refine SA.ret ?_ | refine thenK.ret ?_ | refine blockK.ret ?_ | refine loopK.ret ?_ | refine SA.scope ?_ | refine scopeK.normal ?_ | refine scopeK.exit ?_ | refine scopeK.ret ?_ | refine SA.label ?_)
    | ((with_reducible refine SA.at 5 ?_)
       obtain ⟨hv1, hv2, hv3, hv4⟩ := valid_parts hb17
       (with_reducible refine SA.regionN ok (by kernel_rfl) lv38 ?_); intro R hR; simp only [go_sem, strip])
    | ((with_reducible refine SA.at 10 ?_)
       have hgi := gor_in hs hv3 (g := g) (by omega) (by omega) (by omega)
       have hf : 0 ≤ fuel ∧ fuel ≤ 4096 := by omega
       refine SA.regionT ok mixed (.take 0 (.take 1 (.take 2 (.take 3 (.take 4 (.take 5 (.take 6 (.take 8 (.br 7 (.take 9 (.br 10 .done .nil)) .nil))))))))) [10] lv38 (by kernel_rfl) (fun R hR => ?_); simp only [go_sem, strip])
    | ((with_reducible refine SA.regionN ok (by kernel_rfl) lv38 ?_); intro R hR; simp only [go_sem, strip])
    | ((with_reducible refine SA.condAt 12 rfl (fun hb12 => ?_) (fun hb12 => ?_))
       all_goals
         try simp [-List.getD_eq_getElem?_getD] at hb12
         try (exfalso; omega))
    | ((with_reducible refine SA.condAt 17 rfl (fun hb17 => ?_) (fun hb17 => ?_))
       all_goals
         try simp [-List.getD_eq_getElem?_getD] at hb17
         try (exfalso; omega))
    | ((with_reducible refine SA.condAt 32 rfl (fun hb32 => ?_) (fun hb32 => ?_))
       all_goals
         try simp [-List.getD_eq_getElem?_getD] at hb32
         try (exfalso; omega))
    | ((with_reducible refine SA.condAt 37 rfl (fun hb37 => ?_) (fun hb37 => ?_))
       all_goals
         try simp [-List.getD_eq_getElem?_getD] at hb37
         try (exfalso; omega))
    | ((with_reducible refine SA.condAt 52 rfl (fun hb52 => ?_) (fun hb52 => ?_))
       all_goals
         try simp [-List.getD_eq_getElem?_getD] at hb52
         try (exfalso; omega))
    | ((with_reducible first | refine ctrK.normal ?_ | refine ctrK.ret ?_)
       simp only [go_sem, resA, resV, backK, seval]
       first
         | (have q : _ ∨ _ := hb52
            have e : settle applyW p s g fuel = (⟨s.vars, s.owner, s.chans, s.gos.set g.toNat (settled applyW p (s.gor g) fuel), s.count⟩, 0) := (if_neg (by rw [hb12]; simp)).trans ((if_neg (by rw [hb17]; simp)).trans ((if_neg (by omega)).trans ((if_neg (by omega)).trans (if_pos hb52))))
            rw [e]
            exact ⟨⟨rfl, rfl⟩, ⟨rfl, rfl⟩⟩)
         | (have q : _ ∧ _ := hb52
            have e : settle applyW p s g fuel = (s, 0) := (if_neg (by rw [hb12]; simp)).trans ((if_neg (by rw [hb17]; simp)).trans ((if_neg (by omega)).trans ((if_neg (by omega)).trans (if_neg (fun q => q.elim hb52.1 hb52.2)))))
            rw [e]
            exact ⟨⟨rfl, rfl⟩, ⟨rfl, rfl⟩⟩)
         | (have q := hb37
            have e : settle applyW p s g fuel = (zeroStt, 9) := (if_neg (by rw [hb12]; simp)).trans ((if_neg (by rw [hb17]; simp)).trans ((if_neg (by omega)).trans (if_pos hb37)))
            rw [e]
            exact ⟨⟨rfl, rfl⟩, ⟨rfl, rfl⟩⟩)
         | (have q := hb32
            have e : settle applyW p s g fuel = (zeroStt, 1) := (if_neg (by rw [hb12]; simp)).trans ((if_neg (by rw [hb17]; simp)).trans (if_pos (by omega)))
            rw [e]
            exact ⟨⟨rfl, rfl⟩, ⟨rfl, rfl⟩⟩)
         | (have q := hb17
            have e : settle applyW p s g fuel = (zeroStt, 4) := (if_neg (by rw [hb12]; simp)).trans (if_pos hb17)
            rw [e]
            exact ⟨⟨rfl, rfl⟩, ⟨rfl, rfl⟩⟩)
         | (have e : settle applyW p s g fuel = (zeroStt, 3) := if_pos hb12
            rw [e]
            exact ⟨⟨rfl, rfl⟩, ⟨rfl, rfl⟩⟩))

end Go.Eng.Tryz
