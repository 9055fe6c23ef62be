/- A part of the proof: walks through the program's functions, and what they compute. -/
import Derived.Test.YtedceinkpkoncaaGreatSW5
namespace Go.Eng.Tryz
open Go.RowKit Go.Eng
set_option linter.unusedSimpArgs false
set_option linter.unusedVariables false
set_option maxHeartbeats 0
set_option maxRecDepth 20000

def lv72 : List (Nat × List Nat) := [(0, [1, 3]), (1, [1, 3, 43]), (2, [2, 3]), (3, [1, 3, 46, 47, 48]), (4, [1, 3, 46, 47, 48, 49]), (5, [1, 3, 5, 46, 47, 48]), (6, [1, 3, 46, 47, 48, 57]), (7, [2, 3]), (8, [1, 3, 46, 47, 48]), (9, [1, 3, 61, 62, 63]), (10, [1, 3, 61, 62, 63, 64]), (11, [1, 3, 6, 7, 61, 62, 63]), (12, [1, 3, 6, 7, 61, 62, 63, 71]), (13, [2, 3]), (14, [1, 3, 6, 7, 8, 61, 62, 63]), (15, [1, 3, 6, 7, 8, 61, 62, 63, 78]), (16, [2, 3]), (17, [1, 3, 6, 7, 61, 62, 63, 83, 84, 85]), (18, [1, 3, 6, 7, 61, 62, 63, 83, 84, 85, 86]), (19, [1, 3, 6, 7, 9, 10, 61, 62, 63, 83, 84, 85]), (20, [1, 3, 6, 7, 8, 9, 61, 62, 63, 83, 84, 85]), (21, [1, 3, 6, 7, 8, 9, 61, 62, 63, 83, 84, 85, 95]), (22, [2, 3]), (23, [1, 3, 6, 7, 61, 62, 63, 83, 84, 85]), (24, [1, 3, 6, 7, 11, 61, 62, 63]), (25, [1, 3, 6, 7, 61, 62, 63, 119]), (26, [2, 3]), (27, [1, 3, 61, 62, 63]), (28, [2, 3])]
-- scarab/scarabref03.Check
theorem check_ctr (p : Prg) (hp : p.Fit) : Ctr Go.Proofs.Tryz.prog tab 72 [26] [3, 148] [p.v] [.int (checkP p), .agg [.int (spotP p).1, .int (spotP p).2]] := by
  have hpf := hp
  obtain ⟨hp1, hp2, hp3, hp4⟩ := hp
  refine Ctr.body ok Go.Proofs.Tryz.func72 rfl rfl 128 rfl [.tmp 2, .cell 3 148] rfl (by simp [fromVs]) ?_
  simp only [fromVs, fromV, args0, V.toList_list, V.toInt_int, V.toBool_bool, Nat.zero_add, Nat.reduceAdd, ty26]
  repeat' first
    | ((with_reducible refine SARA.told 11 2 ?_)
       rw [getD_fncs (by omega)])
    | ((with_reducible refine SARA.told 19 2 ?_)
       rw [getD_instrs (by omega)])
    | ((with_reducible refine SARA.told 24 6 ?_)
       have e1 : IntKind.i64.wrap (((p.funcs.getD i default).code.length : Int) - 1) = (((p.funcs.getD i default).code.length - 1 : Nat) : Int) := by rw [wrap64_ok (by unfold maxLen at hcl; omega) (by unfold maxLen at hcl; omega)]; omega
       rw [e1])
    | ((with_reducible refine SARA.told 24 7 ?_)
       rw [getD_instrs (by omega)])
    | ((with_reducible refine SART.told 26 4 ?_)
       have e1 : IntKind.i64.wrap (((p.funcs.getD i default).code.length : Int) - 1) = ((p.funcs.getD i default).code.length : Int) - 1 := wrap64_ok (by unfold maxLen at hcl; omega) (by unfold maxLen at hcl; omega)
       rw [e1])
    | ((with_reducible first | refine SARA.do fun R1 hR1 => ?_ | refine SART.do fun R1 hR1 => ?_ | refine SARB.keep fun R1 hR1 => ?_ | refine SARB.any fun R1 hR1 => ?_); (simp only [go_sem, seval, -List.reduceReplicate, zero148, z148, z3, zero148, z148, z3]); (repeat' with_reducible refine And.intro ?_ ?_); all_goals first | (refine hR1 _ ?_; clear hR1 R1) | ((first | refine ⟨_, _, rfl, .inl ⟨_, CallQ.ctr ok (formed_ctr _ _ hfi) (by first | rfl | (simp [go_sem]; done) | fail) rfl, ?_⟩⟩ | refine ⟨_, _, rfl, .inl ⟨_, CallQ.ctr ok (selects_ctr p _ hpf hfi) (by first | rfl | (simp [go_sem]; done) | fail) rfl, ?_⟩⟩ | refine ⟨_, _, rfl, .inl ⟨_, CallQ.ctr ok (instr_ctr p _ _ hpf hfi) (by first | rfl | (simp [go_sem]; done) | fail) rfl, ?_⟩⟩); all_goals ((try simp only [go_sem, seval, -List.reduceReplicate, zero148, z148, z3, zero148, z148, z3]); (repeat' with_reducible refine And.intro ?_ ?_); all_goals first | (refine hR1 _ ?_; clear hR1 R1) | omega | rfl | decide | assumption | (intro _; omega) | (simp; done) | (simp; omega) | (simp [roomFor, maxLen] <;> omega))) | omega | rfl | decide | assumption | (intro _; omega) | (simp; done) | (simp; omega) | (simp [roomFor, maxLen] <;> omega))
    | ((with_reducible refine SART.done ?_); refine hR _ ?_; clear hR R; try simp only [go_sem, lv72, lvOf, Nat.reduceBEq, Option.getD_some])
    | (with_reducible first | refine SART.br ?_ ?_ | exact SARL.nil | refine SARL.cons ?_ ?_)
    | ((with_reducible refine SARA.nil ?_); refine hR _ ?_; clear hR R; try simp only [go_sem, lv72, lvOf, Nat.reduceBEq, Option.getD_some])
    | (with_reducible first | refine thenK.normal ?_ | refine SA.seq ?_ | refine SA.skip ?_ | refine SA.block ?_ | refine blockK.normal ?_ | refine SA.exit ?_ | refine blockK.hit ?_ | refine blockK.miss (by decide) ?_ | refine thenK.exit ?_ | refine loopK.exit ?_ | refine SA.ret ?_ | refine thenK.ret ?_ | refine blockK.ret ?_ | refine loopK.ret ?_ | refine SA.scope ?_ | refine scopeK.normal ?_ | refine scopeK.exit ?_ | refine scopeK.ret ?_ | refine SA.label ?_)
    | ((with_reducible refine SA.at 11 ?_)
       have hfi := hp4 (p.funcs.getD i default) (getD_mem _ (by omega))
       (with_reducible refine SA.regionN ok (by kernel_rfl) lv72 ?_); intro R hR; simp only [go_sem, strip])
    | ((with_reducible refine SA.at 17 ?_)
       have hcl := hfi.1
       (with_reducible refine SA.regionN ok (by kernel_rfl) lv72 ?_); intro R hR; simp only [go_sem, strip])
    | ((with_reducible refine SA.at 24 ?_)
       obtain ⟨hl0, hl1, hl2, hl3⟩ := formed_len hb71
       (with_reducible refine SA.regionN ok (by kernel_rfl) lv72 ?_); intro R hR; simp only [go_sem, strip])
    | ((with_reducible refine SA.at 26 ?_)
       refine SA.regionT ok mixed (.take 0 (.take 1 (.take 2 (.take 3 (.take 4 (.take 5 (.take 6 (.br 7 .done .nil)))))))) [7] lv72 (by kernel_rfl) (fun R hR => ?_); simp only [go_sem, strip])
    | ((with_reducible refine SA.regionN ok (by kernel_rfl) lv72 ?_); intro R hR; simp only [go_sem, strip])
    | ((with_reducible refine SA.condAt 43 rfl (fun hb43 => ?_) (fun hb43 => ?_))
       all_goals
         try simp [-List.getD_eq_getElem?_getD] at hb43
         try (exfalso; omega))
    | ((with_reducible refine SA.condAt 49 rfl (fun hb49 => ?_) (fun hb49 => ?_))
       all_goals
         try simp [-List.getD_eq_getElem?_getD] at hb49
         try (exfalso; omega))
    | ((with_reducible refine SA.condAt 57 rfl (fun hb57 => ?_) (fun hb57 => ?_))
       all_goals
         try simp [-List.getD_eq_getElem?_getD] at hb57
         try (exfalso; omega))
    | ((with_reducible refine SA.condAt 64 rfl (fun hb64 => ?_) (fun hb64 => ?_))
       all_goals
         try simp [-List.getD_eq_getElem?_getD] at hb64
         try (exfalso; omega))
    | ((with_reducible refine SA.condAt 71 rfl (fun hb71 => ?_) (fun hb71 => ?_))
       all_goals
         try simp [-List.getD_eq_getElem?_getD] at hb71
         try (exfalso; omega))
    | ((with_reducible refine SA.condAt 78 rfl (fun hb78 => ?_) (fun hb78 => ?_))
       all_goals
         try simp [-List.getD_eq_getElem?_getD] at hb78
         try (exfalso; omega))
    | ((with_reducible refine SA.condAt 86 rfl (fun hb86 => ?_) (fun hb86 => ?_))
       all_goals
         try simp [-List.getD_eq_getElem?_getD] at hb86
         try (exfalso; omega))
    | ((with_reducible refine SA.condAt 95 rfl (fun hb95 => ?_) (fun hb95 => ?_))
       all_goals
         try simp [-List.getD_eq_getElem?_getD] at hb95
         try (exfalso; omega))
    | ((with_reducible refine SA.condAt 119 rfl (fun hb119 => ?_) (fun hb119 => ?_))
       all_goals
         try simp [-List.getD_eq_getElem?_getD] at hb119
         try (exfalso; omega))
    | ((with_reducible refine SA.atLoop ?_)
       refine SA.weaken (St.le.of_eq (by first | rfl | (simp; done) | fail)) (SA.loop (fun n τ => ∃ (i : Nat), n = p.chans.length - i ∧ (i ≤ p.chans.length ∧ Sizes p ∧ capsErr p i = true) ∧ τ = { tm := [(1, true, .ptr 0 [] 26), (3, true, .ptr 1 [] 148), (46, true, .fs 3 (p.chans.map V.int) false), (47, true, .int .i64 p.chans.length), (48, true, .int .i64 i)], ob := [.var 26 (.data 26 p.v), .var 148 (.data 148 (.agg [.int 0, .int 0]))], out := [], nt := 128 }) (p.chans.length) ⟨0, rfl, ⟨by omega, by unfold Sizes; omega, rfl⟩, rfl⟩ ?_)
       rintro n τ ⟨i, hn, ⟨hi, hs, hc⟩, rfl⟩)
    | ((with_reducible refine SA.atLoop ?_)
       refine SA.weaken (St.le.of_eq (by first | rfl | (simp; done) | fail)) (SA.loop (fun n τ => ∃ (i : Nat), n = p.funcs.length - i ∧ (i ≤ p.funcs.length ∧ Sizes p ∧ capsErr p p.chans.length = true ∧ funcsErr p i = 0) ∧ τ = { tm := [(1, true, .ptr 0 [] 26), (3, true, .ptr 1 [] 148), (61, true, .fs 100 (p.funcs.map Fnc.v) false), (62, true, .int .i64 p.funcs.length), (63, true, .int .i64 i)], ob := [.var 26 (.data 26 p.v), .var 148 (.data 148 (.agg [.int 0, .int 0]))], out := [], nt := 128 }) (p.funcs.length) ⟨0, rfl, ⟨by omega, hs, (show i = p.chans.length by omega) ▸ hc, rfl⟩, rfl⟩ ?_)
       rintro n τ ⟨i, hn, ⟨hi, hs, hc, hz⟩, rfl⟩)
    | ((with_reducible refine SA.atLoop ?_)
       refine SA.weaken (St.le.of_eq (by first | rfl | (simp; done) | fail)) (SA.loop (fun n τ => ∃ (j : Nat), n = (p.funcs.getD i default).code.length - j ∧ (j ≤ (p.funcs.getD i default).code.length ∧ codeErr p (p.funcs.getD i default) j = 0) ∧ τ = { tm := [(1, true, .ptr 0 [] 26), (3, true, .ptr 1 [] 148), (6, true, .int .i64 i), (7, true, .ptr 2 [] 100), (61, true, .fs 100 (p.funcs.map Fnc.v) false), (62, true, .int .i64 p.funcs.length), (63, true, .int .i64 i), (83, true, .fs 105 ((p.funcs.getD i default).code.map Instr.v) false), (84, true, .int .i64 (p.funcs.getD i default).code.length), (85, true, .int .i64 j)], ob := [.var 26 (.data 26 p.v), .var 148 (.data 148 (.agg [.int 0, .int 0])), .var 100 (.data 100 (p.funcs.getD i default).v)], out := [], nt := 128 }) ((p.funcs.getD i default).code.length) ⟨0, rfl, ⟨by omega, rfl⟩, rfl⟩ ?_)
       rintro n τ ⟨j, hn, ⟨hj, hk⟩, rfl⟩)
    | ((with_reducible refine loopK.round ?_)
       first
         | (have hlt : i < p.chans.length := by omega
            refine loopK.normal (p.chans.length - (i + 1)) _ (by omega) (St.le.of_eq (by simp only [wrap_succ hlt hp2])) ⟨i + 1, rfl, ⟨hlt, hs, ?_⟩, rfl⟩
            unfold capsErr at hc ⊢
            rw [all_take _ _ hlt, hc]
            simp only [Bool.true_and, Bool.and_eq_true, decide_eq_true_eq]
            exact hb57)
         | (have hlt : i < p.funcs.length := by omega
            refine loopK.normal (p.funcs.length - (i + 1)) _ (by omega) ((St.le.cut 2 rfl).trans (St.le.of_eq (by simp only [wrap_succ hlt hp3, List.take_succ_cons, List.take_zero]))) ⟨i + 1, rfl, ⟨hlt, hs, hc, ?_⟩, rfl⟩
            have hjc : j = (p.funcs.getD i default).code.length := by omega
            subst hjc
            rw [funcsErr_succ, if_neg (fun q => q hz), fn_nat]
            unfold funcErr
            rw [if_neg (by rw [hb71]; simp), if_neg (fun q => q hb78), if_neg (fun q => q hk)]
            exact if_pos (last_good hl1 hb119))
         | (have hlt : j < (p.funcs.getD i default).code.length := by omega
            refine loopK.normal ((p.funcs.getD i default).code.length - (j + 1)) _ (by omega) ((St.le.cut 3 rfl).trans (St.le.of_eq (by simp only [wrap_succ hlt hcl, List.take_succ_cons, List.take_zero]))) ⟨j + 1, rfl, ⟨hlt, ?_⟩, rfl⟩
            rw [codeErr_succ p _ hlt, if_neg (fun q => q hk)]
            exact hb95))
    | ((with_reducible first | refine ctrK.normal ?_ | refine ctrK.ret ?_)
       simp only [go_sem, resA, resV, backK, seval]
       first
         | (obtain ⟨e1, e2⟩ := check_fall hs hc (by omega) hz hb71 hb78 ((show j = (p.funcs.getD i default).code.length by omega) ▸ hk) (last_bad hl1 hb119)
            exact ⟨⟨rfl, congrArg (fun e => some (V.int e)) e1.symm⟩, ⟨rfl, by rw [e2]⟩⟩)
         | (obtain ⟨e1, e2⟩ := check_code hs hc (by omega) hz hb71 hb78 (by omega) hk hb95
            exact ⟨⟨rfl, congrArg (fun e => some (V.int e)) e1.symm⟩, ⟨rfl, by rw [e2]⟩⟩)
         | (obtain ⟨e1, e2⟩ := check_sels hs hc (by omega) hz hb71 hb78
            exact ⟨⟨rfl, congrArg (fun e => some (V.int e)) e1.symm⟩, ⟨rfl, by rw [e2]⟩⟩)
         | (obtain ⟨e1, e2⟩ := check_formed hs hc (by omega) hz hb71
            exact ⟨⟨rfl, congrArg (fun e => some (V.int e)) e1.symm⟩, ⟨rfl, by rw [e2]⟩⟩)
         | (obtain ⟨e1, e2⟩ := check_ok hs hc ((show i = p.funcs.length by omega) ▸ hz)
            exact ⟨⟨rfl, congrArg (fun e => some (V.int e)) e1.symm⟩, ⟨rfl, by rw [e2]⟩⟩)
         | (obtain ⟨e1, e2⟩ := check_caps hs (caps_miss (i := i) (by omega) hb57)
            exact ⟨⟨rfl, congrArg (fun e => some (V.int e)) e1.symm⟩, ⟨rfl, by rw [e2]⟩⟩)
         | (obtain ⟨e1, e2⟩ := check_sizes (p := p) (by omega)
            exact ⟨⟨rfl, congrArg (fun e => some (V.int e)) e1.symm⟩, ⟨rfl, by rw [e2]⟩⟩))

def lv43 : List (Nat × List Nat) := [(0, [1]), (1, [3]), (2, [2])]
-- scarab/scarabref03.Right
theorem right_ctr (p : Prg) (hp : p.Fit) : Ctr Go.Proofs.Tryz.prog tab 43 [26] [4] [p.v] [.bool (rightP p)] := by
  refine Ctr.body ok Go.Proofs.Tryz.func43 rfl rfl 12 rfl [.tmp 2] rfl (by simp [fromVs]) ?_
  simp only [fromVs, fromV, args0, V.toList_list, V.toInt_int, V.toBool_bool, Nat.zero_add, Nat.reduceAdd, ty26]
  repeat' first
    | ((with_reducible refine SARA.do fun R1 hR1 => ?_); (simp only [go_sem, seval, -List.reduceReplicate, zero148, z148, z3, zero148, z148, z3]); (repeat' with_reducible refine And.intro ?_ ?_); all_goals first | (refine hR1 _ ?_; clear hR1 R1) | ((first | refine ⟨_, _, rfl, .inr (CallE.ctr ok (check_ctr p hp) (by first | rfl | (simp [go_sem]; done) | fail) ?_)⟩); all_goals ((try simp only [go_sem, seval, -List.reduceReplicate, zero148, z148, z3, zero148, z148, z3]); (repeat' with_reducible refine And.intro ?_ ?_); all_goals first | (refine hR1 _ ?_; clear hR1 R1) | omega | rfl | decide | assumption | (intro _; omega) | (simp; done) | (simp; omega) | (simp [roomFor, maxLen] <;> omega))) | omega | rfl | decide | assumption | (intro _; omega) | (simp; done) | (simp; omega) | (simp [roomFor, maxLen] <;> omega))
    | ((with_reducible refine SARA.nil ?_); refine hR _ ?_; clear hR R; try simp only [go_sem, lv43, lvOf, Nat.reduceBEq, Option.getD_some])
    | (with_reducible first | refine thenK.normal ?_ | refine SA.seq ?_ | refine SA.skip ?_ | refine SA.block ?_ | refine blockK.normal ?_ | refine SA.exit ?_ | refine blockK.hit ?_ | refine blockK.miss (by decide) ?_ | refine thenK.exit ?_ | refine loopK.exit ?_ | refine SA.ret ?_ | refine thenK.ret ?_ | refine blockK.ret ?_ | refine loopK.ret ?_ | refine SA.scope ?_ | refine scopeK.normal ?_ | refine scopeK.exit ?_ | refine scopeK.ret ?_ | refine SA.label ?_)
    | ((with_reducible refine SA.regionN ok (by kernel_rfl) lv43 ?_); intro R hR; simp only [go_sem, strip])
    | ((with_reducible first | refine ctrK.normal ?_ | refine ctrK.ret ?_)
       simp only [go_sem, resA, resV, backK, seval]
       exact ⟨rfl, rfl⟩)

end Go.Eng.Tryz
