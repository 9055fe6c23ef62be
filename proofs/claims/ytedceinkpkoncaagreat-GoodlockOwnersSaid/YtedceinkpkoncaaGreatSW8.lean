/- A part of the proof: walks through the program's functions, and what they compute. -/
import Derived.Test.YtedceinkpkoncaaGreatSW7
namespace Go.Eng.Tryz
open Go.RowKit Go.Eng
set_option linter.unusedSimpArgs false
set_option linter.unusedVariables false
set_option maxHeartbeats 0
set_option maxRecDepth 20000

def lv81 : List (Nat × List Nat) := [(0, [2, 3, 4]), (1, [2, 3, 4, 7]), (2, [2, 3, 4, 7, 49]), (3, [6]), (4, [2, 3, 4, 7, 8]), (5, [2, 3, 4, 7, 8, 53]), (6, [2, 3, 4, 7, 8]), (7, [2, 3, 4, 7, 8, 60]), (8, [6]), (9, [2, 3, 4, 7, 63]), (10, [6]), (11, [2, 3, 4, 7, 98]), (12, [6]), (13, [2, 3, 4, 7, 117]), (14, [6]), (15, [2, 9]), (16, [6])]
-- scarab/scarabref07.channel
theorem channel_ctr (p : Prg) (s : Stt) (m : Int) (hp : p.Fit) (hr : rightP p = true) (hm : 0 ≤ m ∧ m < p.chans.length) (hc4 : s.chans.length = 4) (hcnt : s.count ≤ 6) (hgs : gorsOk p s 6 = true) : Ctr Go.Proofs.Tryz.prog tab 81 [26, 41, 3] [4] [p.v, s.v, .int m] [.bool (chanOk p s m)] := by
  have hfit := hp
  have hcode := p.code_len hp
  have hsl := p.sels_len hp
  obtain ⟨hp1, hp2, hp3, hp4⟩ := hp
  have hok := Prg.ok hr
  have hcap := hok.caps m.toNat
  have hsz := hok.sizes
  unfold Sizes at hsz
  refine Ctr.body ok Go.Proofs.Tryz.func81 rfl rfl 146 rfl [.tmp 6] rfl (by simp [fromVs]) ?_
  simp only [fromVs, fromV, args0, V.toList_list, V.toInt_int, V.toBool_bool, Nat.zero_add, Nat.reduceAdd, ty3, ty26, ty41]
  repeat' first
    | ((with_reducible refine SARA.told 1 4 ?_)
       rw [getD_chns (by omega)])
    | ((with_reducible refine SART.told 15 18 ?_)
       rw [getD_instrs (by omega)])
    | ((with_reducible first | refine SARA.do fun R1 hR1 => ?_ | refine SARQ.do fun R1 hR1 => ?_ | refine SART.do fun R1 hR1 => ?_ | refine SARB.keep fun R1 hR1 => ?_ | refine SARB.any fun R1 hR1 => ?_); (simp only [go_sem, seval, -List.reduceReplicate]); (repeat' with_reducible refine And.intro ?_ ?_); all_goals first | (refine hR1 _ ?_; clear hR1 R1) | omega | rfl | decide | assumption | (intro _; omega) | (simp; done) | (simp [-List.getD_eq_getElem?_getD]; omega) | exact hcode _ | (intro _; exact hcode _) | exact hsl _ | (intro _; exact hsl _))
    | ((with_reducible refine SART.done ?_); refine hR _ ?_; clear hR R; try simp only [go_sem, lv81, lvOf, Nat.reduceBEq, Option.getD_some])
    | (with_reducible first | refine SART.br ?_ ?_ | exact SARL.nil | refine SARL.cons ?_ ?_)
    | ((with_reducible refine SARA.nil ?_); refine hR _ ?_; clear hR R; try simp only [go_sem, lv81, lvOf, Nat.reduceBEq, Option.getD_some])
    | ((with_reducible refine SARQ.nil ?_); refine hR _ ?_; clear hR R; try simp only [go_sem, lv81, lvOf, Nat.reduceBEq, Option.getD_some])
    | (with_reducible first | refine thenK.normal ?_ | refine SA.seq ?_ | refine SA.skip ?_ | refine SA.block ?_ | refine blockK.normal ?_ | refine SA.exit ?_ | refine blockK.hit ?_ | refine blockK.miss (by decide) ?_ | refine thenK.exit ?_ | refine loopK.exit ?_ | refine SA.ret ?_ | refine thenK.ret ?_ | refine blockK.ret ?_ | refine loopK.ret ?_ | refine SA.scope ?_ | refine scopeK.normal ?_ | refine scopeK.exit ?_ | refine scopeK.ret ?_ | refine SA.label ?_)
    | ((with_reducible refine SA.at 15 ?_)
       have hG := gorOk_R (gorsOk_at hgs (i := (s.chans.getD m.toNat default).from_) (by omega) (by omega) (by omega))
       unfold gorR at hG
       refine SA.regionT ok mixed (.take 0 (.take 1 (.take 2 (.take 3 (.take 4 (.take 5 (.take 6 (.take 7 (.take 8 (.take 9 (.take 10 (.take 11 (.take 12 (.take 13 (.take 14 (.take 15 (.take 16 (.take 17 (.take 18 (.br 19 (.br 20 .done .nil) .nil)))))))))))))))))))) [20] lv81 (by kernel_rfl) (fun R hR => ?_); simp only [go_sem, strip])
    | ((with_reducible refine SA.regionN ok (by kernel_rfl) lv81 ?_); intro R hR; simp only [go_sem, strip])
    | ((with_reducible refine SA.regionD ok mixed (by kernel_rfl) (by kernel_rfl) lv81 ?_); intro R hR; simp only [go_sem, strip])
    | ((with_reducible refine SA.condAt 49 rfl (fun hb49 => ?_) (fun hb49 => ?_))
       all_goals
         try simp [-List.getD_eq_getElem?_getD] at hb49
         try (exfalso; omega))
    | ((with_reducible refine SA.condAt 53 rfl (fun hb53 => ?_) (fun hb53 => ?_))
       all_goals
         try simp [-List.getD_eq_getElem?_getD] at hb53
         try (exfalso; omega))
    | ((with_reducible refine SA.condAt 60 rfl (fun hb60 => ?_) (fun hb60 => ?_))
       all_goals
         try simp [-List.getD_eq_getElem?_getD] at hb60
         try (exfalso; omega))
    | ((with_reducible refine SA.condAt 63 rfl (fun hb63 => ?_) (fun hb63 => ?_))
       all_goals
         try simp [-List.getD_eq_getElem?_getD] at hb63
         try (exfalso; omega))
    | ((with_reducible refine SA.condAt 98 rfl (fun hb98 => ?_) (fun hb98 => ?_))
       all_goals
         try simp [-List.getD_eq_getElem?_getD] at hb98
         try (exfalso; omega))
    | ((with_reducible refine SA.condAt 117 rfl (fun hb117 => ?_) (fun hb117 => ?_))
       all_goals
         try simp [-List.getD_eq_getElem?_getD] at hb117
         try (exfalso; omega))
    | ((with_reducible refine SA.atLoop ?_)
       refine SA.weaken (St.le.of_eq (by first | rfl | (simp; done) | fail)) (SA.loop (fun n τ => ∃ (i : Int), n = (4 - i).toNat ∧ ((s.chans.getD m.toNat default).len ≤ i ∧ ∀ k : Nat, (s.chans.getD m.toNat default).len ≤ k → (k : Int) < i → (s.chans.getD m.toNat default).buf.getD k 0 = 0) ∧ τ = { tm := [(2, true, .int .i64 m), (3, true, .ptr 0 [] 26), (4, true, .ptr 1 [] 41), (7, true, .ptr 2 [] 35), (8, true, .int .i64 i)], ob := [.var 26 (.data 26 p.v), .var 41 (.data 41 s.v), .var 35 (.data 35 (s.chans.getD m.toNat default).v)], out := [], nt := 146 }) (_) ⟨_, rfl, ⟨Int.le_refl _, fun k h1 h2 => by omega⟩, rfl⟩ ?_)
       rintro n τ ⟨i, hn, ⟨hi, hz⟩, rfl⟩)
    | ((with_reducible refine loopK.round ?_)
       first
         | (have hw : IntKind.i64.wrap (i + 1) = i + 1 := wrap64_ok (by omega) (by omega)
            refine loopK.normal (4 - (i + 1)).toNat _ (by omega) (St.le.of_eq (by rw [hw])) ⟨i + 1, rfl, ⟨by omega, fun k h1 h2 => ?_⟩, rfl⟩
            by_cases h3 : (k : Int) < i
            · exact hz k h1 h3
            · have : k = i.toNat := by omega
              rw [this]; exact hb60))
    | ((with_reducible first | refine ctrK.normal ?_ | refine ctrK.ret ?_)
       simp only [go_sem, resA, resV, backK, seval]
       first
         | (have q : (_ ∧ _) ∧ _ := hb117
            refine ⟨rfl, ?_⟩
            rw [chanOk_eq, if_neg (by omega), buf_good (fun k h1 h2 => hz k h1 (by omega)), if_neg (by simp), if_neg hb63, if_neg (by rintro (⟨q1, q2⟩ | ⟨q1, q2⟩ | ⟨q1, q2⟩) <;> first | exact q2 (hb98.1.1 q1) | (rw [hb98.1.2 q1] at q2; cases q2) | (rw [hb98.2 q1] at q2; cases q2)), if_neg (by omega)]
            first | rfl | (simp; done))
         | (have q : (_ ∨ _) ∨ _ := hb117
            refine ⟨rfl, ?_⟩
            rw [chanOk_eq, if_neg (by omega), buf_good (fun k h1 h2 => hz k h1 (by omega)), if_neg (by simp), if_neg hb63, if_neg (by rintro (⟨q1, q2⟩ | ⟨q1, q2⟩ | ⟨q1, q2⟩) <;> first | exact q2 (hb98.1.1 q1) | (rw [hb98.1.2 q1] at q2; cases q2) | (rw [hb98.2 q1] at q2; cases q2)), if_pos (by omega)])
         | (have q : (_ ∨ _) ∨ _ := hb98
            refine ⟨rfl, ?_⟩
            rw [chanOk_eq, if_neg (by omega), buf_good (fun k h1 h2 => hz k h1 (by omega)), if_neg (by simp), if_neg hb63, if_pos (or_assoc.1 hb98)])
         | (have q : _ = _ := hb63
            refine ⟨rfl, ?_⟩
            rw [chanOk_eq, if_neg (by omega), buf_good (fun k h1 h2 => hz k h1 (by omega)), if_neg (by simp), if_pos hb63]
            first | rfl | (simp; done))
         | (have q : ¬ _ := hb60
            refine ⟨rfl, ?_⟩
            rw [chanOk_eq, if_neg (by omega), buf_bad hi (by omega) (by omega) hb60, if_pos rfl])
         | (have q : _ ∨ _ := hb49
            refine ⟨rfl, ?_⟩
            rw [chanOk_eq, if_pos (by omega)]))

end Go.Eng.Tryz
