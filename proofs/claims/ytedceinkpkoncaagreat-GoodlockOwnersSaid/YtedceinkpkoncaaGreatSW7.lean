/- A part of the proof: walks through the program's functions, and what they compute. -/
import Derived.Test.YtedceinkpkoncaaGreatSW6
import Derived.Test.YtedceinkpkoncaaGreatM2
namespace Go.Eng.Tryz
open Go.RowKit Go.Eng
set_option linter.unusedSimpArgs false
set_option linter.unusedVariables false
set_option maxHeartbeats 0
set_option maxRecDepth 20000

def lv90 : List (Nat × List Nat) := [(0, [0, 1]), (1, [0, 5]), (2, [0, 5, 6]), (3, [4]), (4, [0, 5, 10]), (5, [4]), (6, [0, 5, 18]), (7, [4]), (8, [0, 5, 26]), (9, [4]), (10, [0, 5, 34]), (11, [4]), (12, [0, 5, 38]), (13, [4]), (14, [0, 5, 42]), (15, [4]), (16, [0, 46]), (17, [4]), (18, [4])]
-- scarab/scarabref07.failing
theorem failing_ctr (op why : Int) : Ctr Go.Proofs.Tryz.prog tab 90 [3, 3] [4] [.int op, .int why] [.bool (failing op why)] := by
  refine Ctr.body ok Go.Proofs.Tryz.func90 rfl rfl 50 rfl [.tmp 4] rfl (by simp [fromVs]) ?_
  simp only [fromVs, fromV, args0, V.toList_list, V.toInt_int, V.toBool_bool, Nat.zero_add, Nat.reduceAdd, ty3]
  repeat' first
    | ((with_reducible refine SARA.do fun R1 hR1 => ?_); (simp only [go_sem, seval, -List.reduceReplicate]); (repeat' with_reducible refine And.intro ?_ ?_); all_goals first | (refine hR1 _ ?_; clear hR1 R1) | omega | rfl | decide | assumption | (intro _; omega) | (simp; done) | (simp; omega))
    | ((with_reducible refine SARA.nil ?_); refine hR _ ?_; clear hR R; try simp only [go_sem, lv90, lvOf, Nat.reduceBEq, Option.getD_some])
    | (with_reducible first | refine thenK.normal ?_ | refine SA.seq ?_ | refine SA.skip ?_ | refine SA.block ?_ | refine blockK.normal ?_ | refine SA.exit ?_ | refine blockK.hit ?_ | refine blockK.miss (by decide) ?_ | refine thenK.exit ?_ | refine loopK.exit ?_ | refine SA.ret ?_ | refine thenK.ret ?_ | refine blockK.ret ?_ | refine loopK.ret ?_ | refine SA.scope ?_ | refine scopeK.normal ?_ | refine scopeK.exit ?_ | refine scopeK.ret ?_ | refine SA.label ?_)
    | ((with_reducible refine SA.regionN ok (by kernel_rfl) lv90 ?_); intro R hR; simp only [go_sem, strip])
    | ((with_reducible refine SA.condAt 6 rfl (fun hb6 => ?_) (fun hb6 => ?_))
       all_goals
         try simp only [decide_eq_true_eq, decide_eq_false_iff_not] at hb6)
    | ((with_reducible refine SA.condAt 10 rfl (fun hb10 => ?_) (fun hb10 => ?_))
       all_goals
         try simp only [decide_eq_true_eq, decide_eq_false_iff_not] at hb10)
    | ((with_reducible refine SA.condAt 18 rfl (fun hb18 => ?_) (fun hb18 => ?_))
       all_goals
         try simp only [decide_eq_true_eq, decide_eq_false_iff_not] at hb18)
    | ((with_reducible refine SA.condAt 26 rfl (fun hb26 => ?_) (fun hb26 => ?_))
       all_goals
         try simp only [decide_eq_true_eq, decide_eq_false_iff_not] at hb26)
    | ((with_reducible refine SA.condAt 34 rfl (fun hb34 => ?_) (fun hb34 => ?_))
       all_goals
         try simp only [decide_eq_true_eq, decide_eq_false_iff_not] at hb34)
    | ((with_reducible refine SA.condAt 38 rfl (fun hb38 => ?_) (fun hb38 => ?_))
       all_goals
         try simp only [decide_eq_true_eq, decide_eq_false_iff_not] at hb38)
    | ((with_reducible refine SA.condAt 42 rfl (fun hb42 => ?_) (fun hb42 => ?_))
       all_goals
         try simp only [decide_eq_true_eq, decide_eq_false_iff_not] at hb42)
    | ((with_reducible refine SA.condAt 46 rfl (fun hb46 => ?_) (fun hb46 => ?_))
       all_goals
         try simp only [decide_eq_true_eq, decide_eq_false_iff_not] at hb46)
    | ((with_reducible first | refine ctrK.normal ?_ | refine ctrK.ret ?_)
       simp only [go_sem, resA, resV, backK, seval]
       refine ⟨rfl, ?_⟩
       first | rfl | (simp [failing, *]; done) | (simp only [failing, *]; simp; cases decide (op = 19) <;> rfl))

def lv80 : List (Nat × List Nat) := [(0, [2, 3]), (1, [2, 3, 46]), (2, [4]), (3, [2, 3, 5]), (4, [2, 3, 5, 61]), (5, [2, 3, 5]), (6, [2, 3, 6]), (7, [2, 3, 6, 64]), (8, [2, 3, 6]), (9, [2, 3, 6, 71]), (10, [4]), (11, [3, 7]), (12, [3, 7, 86]), (13, [4]), (14, [4])]
-- scarab/scarabref07.goroutine
theorem goroutine_ctr (p : Prg) (g : Gor) (hp : p.Fit) (hr : rightP p = true) (hg : g.regs.length = 8) : Ctr Go.Proofs.Tryz.prog tab 80 [26, 38] [4] [p.v, g.v] [.bool (gorOk p g)] := by
  have hfit := hp
  have hcode := p.code_len hp
  have hsl := p.sels_len hp
  obtain ⟨hp1, hp2, hp3, hp4⟩ := hp
  have hok := Prg.ok hr
  have hM0 : 0 ≤ gorM p g := by
    unfold gorM
    split
    · exact Int.le_refl _
    · exact (hok.regs _).1
  refine Ctr.body ok Go.Proofs.Tryz.func80 rfl rfl 112 rfl [.tmp 4] rfl (by simp [fromVs]) ?_
  simp only [fromVs, fromV, args0, V.toList_list, V.toInt_int, V.toBool_bool, Nat.zero_add, Nat.reduceAdd, ty26, ty38]
  repeat' first
    | ((with_reducible first | refine SARA.do fun R1 hR1 => ?_ | refine SARQ.do fun R1 hR1 => ?_); (simp only [go_sem, seval, -List.reduceReplicate]); (repeat' with_reducible refine And.intro ?_ ?_); all_goals first | (refine hR1 _ ?_; clear hR1 R1) | ((first | refine ⟨_, _, rfl, _, CallQ.ctr ok (failing_ctr _ _) (by first | rfl | (simp [go_sem]; done) | fail) rfl, ?_⟩ | refine ⟨_, _, rfl, _, fun hg => CallQ.ctr ok (failing_ctr _ _) (by first | rfl | (simp [go_sem]; done) | fail) rfl, ?_⟩ | refine ⟨_, _, rfl, .inl ⟨_, CallQ.ctr ok (failing_ctr _ _) (by first | rfl | (simp [go_sem]; done) | fail) rfl, ?_⟩⟩ | refine ⟨_, _, rfl, .inl ⟨_, fun hg => CallQ.ctr ok (failing_ctr _ _) (by first | rfl | (simp [go_sem]; done) | fail) rfl, ?_⟩⟩ | refine ⟨_, _, rfl, _, CallQ.ctr ok (local_ctr _) (by first | rfl | (simp [go_sem]; done) | fail) rfl, ?_⟩ | refine ⟨_, _, rfl, _, fun hg => CallQ.ctr ok (local_ctr _) (by first | rfl | (simp [go_sem]; done) | fail) rfl, ?_⟩ | refine ⟨_, _, rfl, .inl ⟨_, CallQ.ctr ok (local_ctr _) (by first | rfl | (simp [go_sem]; done) | fail) rfl, ?_⟩⟩ | refine ⟨_, _, rfl, .inl ⟨_, fun hg => CallQ.ctr ok (local_ctr _) (by first | rfl | (simp [go_sem]; done) | fail) rfl, ?_⟩⟩); all_goals ((try simp only [go_sem, seval, -List.reduceReplicate]); (repeat' with_reducible refine And.intro ?_ ?_); all_goals first | (refine hR1 _ ?_; clear hR1 R1) | omega | rfl | decide | assumption | (intro _; omega) | (simp; done) | (simp [-List.getD_eq_getElem?_getD]; omega) | exact hcode _ | (intro _; exact hcode _) | exact hsl _ | (intro _; exact hsl _))) | omega | rfl | decide | assumption | (intro _; omega) | (simp; done) | (simp [-List.getD_eq_getElem?_getD]; omega) | exact hcode _ | (intro _; exact hcode _) | exact hsl _ | (intro _; exact hsl _))
    | ((with_reducible refine SARA.nil ?_); refine hR _ ?_; clear hR R; try simp only [go_sem, lv80, lvOf, Nat.reduceBEq, Option.getD_some])
    | ((with_reducible refine SARQ.nil ?_); refine hR _ ?_; clear hR R; try simp only [go_sem, lv80, lvOf, Nat.reduceBEq, Option.getD_some])
    | (with_reducible first | refine thenK.normal ?_ | refine SA.seq ?_ | refine SA.skip ?_ | refine SA.block ?_ | refine blockK.normal ?_ | refine SA.exit ?_ | refine blockK.hit ?_ | refine blockK.miss (by decide) ?_ | refine thenK.exit ?_ | refine loopK.exit ?_ | refine SA.ret ?_ | refine thenK.ret ?_ | refine blockK.ret ?_ | refine loopK.ret ?_ | refine SA.scope ?_ | refine scopeK.normal ?_ | refine scopeK.exit ?_ | refine scopeK.ret ?_ | refine SA.label ?_)
    | ((with_reducible refine SA.at 6 ?_)
       first | have hM : gorM p g = 0 := if_pos hb61 | have hM : gorM p g = (p.funcs.getD g.func.toNat default).regs := if_neg (by omega)
       (with_reducible refine SA.regionN ok (by kernel_rfl) lv80 ?_); intro R hR; simp only [go_sem, strip])
    | ((with_reducible refine SA.regionN ok (by kernel_rfl) lv80 ?_); intro R hR; simp only [go_sem, strip])
    | ((with_reducible refine SA.regionD ok mixed (by kernel_rfl) (by kernel_rfl) lv80 ?_); intro R hR; simp only [go_sem, strip])
    | ((with_reducible refine SA.condAt 46 rfl (fun hb46 => ?_) (fun hb46 => ?_))
       all_goals
         try simp [-List.getD_eq_getElem?_getD] at hb46
         try (exfalso; omega))
    | ((with_reducible refine SA.condAt 61 rfl (fun hb61 => ?_) (fun hb61 => ?_))
       all_goals
         try simp [-List.getD_eq_getElem?_getD] at hb61
         try (exfalso; omega))
    | ((with_reducible refine SA.condAt 64 rfl (fun hb64 => ?_) (fun hb64 => ?_))
       all_goals
         try simp [-List.getD_eq_getElem?_getD] at hb64
         try (exfalso; omega))
    | ((with_reducible refine SA.condAt 71 rfl (fun hb71 => ?_) (fun hb71 => ?_))
       all_goals
         try simp [-List.getD_eq_getElem?_getD] at hb71
         try (exfalso; omega))
    | ((with_reducible refine SA.condAt 86 rfl (fun hb86 => ?_) (fun hb86 => ?_))
       all_goals
         try simp [-List.getD_eq_getElem?_getD] at hb86
         try (exfalso; omega))
    | ((with_reducible refine SA.atLoop ?_)
       refine SA.weaken (St.le.of_eq (by first | rfl | (simp; done) | fail)) (SA.loop (fun n τ => ∃ (i : Int), n = (8 - i).toNat ∧ (gorM p g ≤ i ∧ ∀ k : Nat, gorM p g ≤ k → (k : Int) < i → g.regs.getD k 0 = 0) ∧ τ = { tm := [(2, true, .ptr 0 [] 26), (3, true, .ptr 1 [] 38), (6, true, .int .i64 i)], ob := [.var 26 (.data 26 p.v), .var 38 (.data 38 g.v)], out := [], nt := 112 }) (_) ⟨_, rfl, ⟨by rw [hM]; exact Int.le_refl _, fun k h1 h2 => by rw [hM] at h1; omega⟩, rfl⟩ ?_)
       rintro n τ ⟨i, hn, ⟨hi, hz⟩, rfl⟩)
    | ((with_reducible refine loopK.round ?_)
       first
         | (have hw : IntKind.i64.wrap (i + 1) = i + 1 := wrap64_ok (by omega) (by omega)
            refine loopK.normal (8 - (i + 1)).toNat _ (by omega) (St.le.of_eq (by rw [hw])) ⟨i + 1, rfl, ⟨by omega, fun k h1 h2 => ?_⟩, rfl⟩
            by_cases h3 : (k : Int) < i
            · exact hz k h1 h3
            · have : k = i.toNat := by omega
              rw [this]; exact hb71))
    | ((with_reducible first | refine ctrK.normal ?_ | refine ctrK.ret ?_)
       simp only [go_sem, resA, resV, backK, seval]
       first
         | (refine ⟨rfl, ?_⟩
            rw [gorOk_in hb46, regs_bad hi (by omega) hb64 hb71]
            rfl)
         | (refine ⟨rfl, ?_⟩
            rw [gorOk_in hb46, regs_good (fun k h1 h2 => hz k h1 (by omega)), if_neg (by simp), if_pos hb86])
         | (refine ⟨rfl, ?_⟩
            rw [gorOk_in hb46, regs_good (fun k h1 h2 => hz k h1 (by omega)), if_neg (by simp), if_neg hb86]
            cases decide (g.why = 0) <;> by_cases h3 : g.status = 3 <;> by_cases h5 : g.status = 5 <;> simp [-List.getD_eq_getElem?_getD, h3, h5])
         | (refine ⟨rfl, ?_⟩
            rw [gorOk_range (by unfold gorR; omega)]))

end Go.Eng.Tryz
