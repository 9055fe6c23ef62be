/- A part of the proof: walks through the program's functions, and what they compute. -/
import Derived.Test.YtedceinkpkoncaaGreatDoorPk17
namespace Go.Eng.Tryz
open Go.RowKit Go.Eng
set_option linter.unusedSimpArgs false
set_option linter.unusedVariables false
set_option maxHeartbeats 0
set_option maxRecDepth 20000

def lv143 : List (Nat × List Nat) := [(0, [0, 3]), (1, [0, 3, 5]), (2, [0, 3, 5, 16]), (3, [4]), (4, [0, 3, 5, 6]), (5, [0, 3, 5, 6, 19, 20]), (6, [0, 3, 5, 6, 19, 20, 21]), (7, [0, 3, 5, 6, 7, 8, 19, 20]), (8, [0, 3, 5, 6, 19, 20, 31]), (9, [4]), (10, [0, 3, 5, 6, 19, 20]), (11, [0, 3, 5, 33, 34]), (12, [0, 3, 5, 33, 34, 35]), (13, [0, 3, 5, 9, 10, 33, 34]), (14, [0, 3, 5, 11, 33, 34]), (15, [0, 3, 5, 11, 33, 34, 46]), (16, [4]), (17, [0, 3, 5, 33, 34]), (18, [4])]
-- (*scarab/prog.checker).instr
theorem pinstr_ctr (p : Prg) (f : Fnc) (i : Instr) (hp : p.Fit) (hf : f.Fit) : Ctr Go.Proofs.Tryz.prog tab 143 [202, 129] [49] [.ref (ckV p f), i.v] [.int (instrErr p f i)] := by
  refine Ctr.body ok Go.Proofs.Tryz.func143 rfl rfl 49 rfl [.tmp 4] rfl (by simp [fromVs]) ?_
  simp only [fromVs, fromV, args0, V.toList_list, V.toInt_int, V.toBool_bool, Nat.zero_add, Nat.reduceAdd, ty129, ty202]
  repeat' first
    | ((with_reducible first | refine SARA.do fun R1 hR1 => ?_ | refine SARQ.do fun R1 hR1 => ?_); (simp only [go_sem, seval, -List.reduceReplicate, formB_at, formB_size]); (repeat' with_reducible refine And.intro ?_ ?_); all_goals first | (refine hR1 _ ?_; clear hR1 R1) | ((first | refine ⟨_, _, rfl, _, CallQ.ctr ok (pform_ctr _) (by first | rfl | (simp [go_sem]; done) | fail) rfl, ?_⟩ | refine ⟨_, _, rfl, .inl ⟨_, CallQ.ctr ok (pform_ctr _) (by first | rfl | (simp [go_sem]; done) | fail) rfl, ?_⟩⟩ | refine ⟨_, _, rfl, _, CallQ.ctr ok (operands_ctr i) (by first | rfl | (simp [go_sem]; done) | fail) rfl, ?_⟩ | refine ⟨_, _, rfl, .inl ⟨_, CallQ.ctr ok (operands_ctr i) (by first | rfl | (simp [go_sem]; done) | fail) rfl, ?_⟩⟩ | refine ⟨_, _, rfl, _, CallQ.ctr ok (poperand_ctr p f _ _ i hp hf (fun h => oper_112 hz h)) (by first | rfl | (simp [go_sem]; done) | fail) rfl, ?_⟩ | refine ⟨_, _, rfl, .inl ⟨_, CallQ.ctr ok (poperand_ctr p f _ _ i hp hf (fun h => oper_112 hz h)) (by first | rfl | (simp [go_sem]; done) | fail) rfl, ?_⟩⟩); all_goals ((try simp only [go_sem, seval, -List.reduceReplicate, formB_at, formB_size]); (repeat' with_reducible refine And.intro ?_ ?_); all_goals first | (refine hR1 _ ?_; clear hR1 R1) | omega | rfl | decide | assumption | (intro _; omega) | (simp; done) | (simp; omega) | (simp [roomFor, maxLen] <;> omega))) | omega | rfl | decide | assumption | (intro _; omega) | (simp; done) | (simp; omega) | (simp [roomFor, maxLen] <;> omega))
    | ((with_reducible refine SARA.nil ?_); refine hR _ ?_; clear hR R; try simp only [go_sem, lv143, lvOf, Nat.reduceBEq, Option.getD_some])
    | ((with_reducible refine SARQ.nil ?_); refine hR _ ?_; clear hR R; try simp only [go_sem, lv143, lvOf, Nat.reduceBEq, Option.getD_some])
    | (with_reducible first | refine thenK.normal ?_ | refine SA.seq ?_ | refine SA.skip ?_ | refine SA.block ?_ | refine blockK.normal ?_ | refine SA.exit ?_ | refine blockK.hit ?_ | refine blockK.miss (by decide) ?_ | refine thenK.exit ?_ | refine loopK.exit ?_ | refine SA.ret ?_ | refine thenK.ret ?_ | refine blockK.ret ?_ | refine loopK.ret ?_ | refine SA.scope ?_ | refine scopeK.normal ?_ | refine scopeK.exit ?_ | refine scopeK.ret ?_ | refine SA.label ?_)
    | ((with_reducible refine SA.regionN ok (by kernel_rfl) lv143 ?_); intro R hR; simp only [go_sem, strip])
    | ((with_reducible refine SA.regionD ok mixed (by kernel_rfl) (by kernel_rfl) lv143 ?_); intro R hR; simp only [go_sem, strip])
    | ((with_reducible refine SA.condAt 16 rfl (fun hb16 => ?_) (fun hb16 => ?_))
       all_goals
         rw [formB_none] at hb16
         simp at hb16)
    | ((with_reducible refine SA.condAt 31 rfl (fun hb31 => ?_) (fun hb31 => ?_))
       all_goals
         try simp at hb31
         try (exfalso; omega))
    | ((with_reducible refine SA.condAt 46 rfl (fun hb46 => ?_) (fun hb46 => ?_))
       all_goals
         try simp at hb46
         try (exfalso; omega))
    | ((with_reducible refine SA.cond rfl ?_ ?_)
       all_goals
         intro hb
         try simp at hb
         try (exfalso; omega))
    | ((with_reducible refine SA.atLoop ?_)
       refine SA.weaken (St.le.of_eq (by first | rfl | (simp; done) | fail)) (SA.loop (fun n τ => ∃ (j : Nat), n = 4 - j ∧ (j ≤ 4 ∧ (isLocal i.op = true ∨ isVisible i.op = true) ∧ unusedTo i j = false) ∧ τ = { tm := [(0, true, .fptr 204 (ckV p f)), (3, true, .ptr 0 [] 129), (5, true, .str (formB i.op)), (6, true, .ptr 1 [] 29), (19, true, .data 29 (.agg [.int i.a, .int i.b, .int i.c, .int i.n])), (20, true, .int .i64 j)], ob := [.var 129 (.data 129 i.v), .var 29 (.data 29 (.agg [.int i.a, .int i.b, .int i.c, .int i.n]))], out := [], nt := 49 }) (4) ⟨0, rfl, ⟨by omega, by cases h1 : isLocal i.op <;> simp_all, rfl⟩, rfl⟩ ?_)
       rintro n τ ⟨j, hn, ⟨hj, hv, hu⟩, rfl⟩
       have h4 := formL_four hv)
    | ((with_reducible refine SA.atLoop ?_)
       refine SA.weaken (St.le.of_eq (by first | rfl | (simp; done) | fail)) (SA.loop (fun n τ => ∃ (j : Nat), n = 4 - j ∧ (j ≤ 4 ∧ (isLocal i.op = true ∨ isVisible i.op = true) ∧ unusedTo i 4 = false ∧ operTo p f i j = 0) ∧ τ = { tm := [(0, true, .fptr 204 (ckV p f)), (3, true, .ptr 0 [] 129), (5, true, .str (formB i.op)), (33, true, .data 29 (.agg [.int i.a, .int i.b, .int i.c, .int i.n])), (34, true, .int .i64 j)], ob := [.var 129 (.data 129 i.v), .var 29 (.data 29 (.agg [.int i.a, .int i.b, .int i.c, .int i.n]))], out := [], nt := 49 }) (4) ⟨0, rfl, ⟨by omega, hv, (show j = 4 by omega) ▸ hu, rfl⟩, rfl⟩ ?_)
       rintro n τ ⟨j, hn, ⟨hj, hv, hu, hz⟩, rfl⟩
       have h4 := formL_four hv)
    | ((with_reducible refine loopK.round ?_)
       first
         | (have hlt : j < 4 := by omega
            refine loopK.normal (4 - (j + 1)) _ (by omega) (St.le.of_eq (by simp only [wrap_succ hlt (by decide : 4 ≤ maxLen)])) ⟨j + 1, rfl, ⟨hlt, hv, ?_⟩, rfl⟩
            have e : letterAt i j = 45 → i.field j = 0 := by simpa only [letterAt, List.getD_eq_getElem?_getD] using hb31
            rw [unusedTo_succ, hu]
            simpa using e)
         | (have hlt : j < 4 := by omega
            refine loopK.normal (4 - (j + 1)) _ (by omega) (St.le.of_eq (by simp only [wrap_succ hlt (by decide : 4 ≤ maxLen)])) ⟨j + 1, rfl, ⟨hlt, hv, hu, ?_⟩, rfl⟩
            rw [operTo_succ, hz, if_neg (by simp)]
            exact hb46))
    | ((with_reducible first | refine ctrK.normal ?_ | refine ctrK.ret ?_)
       simp only [go_sem, resA, resV, backK, seval]
       first
         | (refine ⟨rfl, ?_⟩
            have e : letterAt i j = 45 ∧ ¬i.field j = 0 := by simpa only [letterAt, List.getD_eq_getElem?_getD] using hb31
            have h1 : unusedTo i (j + 1) = true := by rw [unusedTo_succ, hu]; simp [e]
            have h2 := unusedTo_end h1 (4 - (j + 1))
            rw [show j + 1 + (4 - (j + 1)) = 4 by omega] at h2
            simp only [instrErr, h2, if_true]
            rw [if_neg (by intro h; rcases hv with hv | hv <;> simp [hv] at h)])
         | (refine ⟨rfl, ?_⟩
            have h1 : operTo p f i (j + 1) = operandErr p f (letterAt i j) (i.field j) i := by rw [operTo_succ, hz, if_neg (by simp)]
            have h2 := operTo_end (n := j + 1) (by rw [h1]; exact hb46) (4 - (j + 1))
            rw [show j + 1 + (4 - (j + 1)) = 4 by omega, h1] at h2
            simp only [instrErr, h2, hu]
            rw [if_neg (by intro h; rcases hv with hv | hv <;> simp [hv] at h)]
            rfl)
         | (refine ⟨rfl, ?_⟩
            have hj4 : j = 4 := by omega
            subst hj4
            simp only [instrErr, hz, hu]
            rw [if_neg (by intro h; rcases hv with hv | hv <;> simp [hv] at h)]
            rfl)
         | (refine ⟨rfl, ?_⟩
            simp [instrErr, hb16]))

def lv142 : List (Nat × List Nat) := [(0, [0]), (1, [0, 15, 16, 17]), (2, [0, 15, 16, 17, 18]), (3, [0, 4, 15, 16, 17]), (4, [0, 4, 15, 16, 17, 22, 23, 24]), (5, [0, 4, 15, 16, 17, 22, 23, 24, 25]), (6, [0, 4, 6, 15, 16, 17, 22, 23, 24]), (7, [0, 4, 6, 7, 15, 16, 17, 22, 23, 24]), (8, [0, 4, 6, 7, 15, 16, 17, 22, 23, 24, 38]), (9, [2]), (10, [0, 4, 6, 15, 16, 17, 22, 23, 24, 46]), (11, [0, 4, 6, 8, 15, 16, 17, 22, 23, 24]), (12, [0, 4, 6, 8, 15, 16, 17, 22, 23, 24, 52]), (13, [2]), (14, [0, 4, 6, 15, 16, 17, 22, 23, 24, 67]), (15, [2]), (16, [0, 4, 9, 15, 16, 17, 22, 23, 24]), (17, [0, 4, 9, 15, 16, 17, 22, 23, 24, 73]), (18, [2]), (19, [0, 4, 15, 16, 17, 22, 23, 24]), (20, [0, 4, 15, 16, 17, 78]), (21, [0, 10, 15, 16, 17]), (22, [0, 10, 15, 16, 17, 84]), (23, [2]), (24, [0, 15, 16, 17]), (25, [2])]
-- (*scarab/prog.checker).selects
theorem pselects_ctr (p : Prg) (f : Fnc) (hp : p.Fit) (hf : f.Fit) : Ctr Go.Proofs.Tryz.prog tab 142 [202] [49] [.ref (ckV p f)] [.int (selsErr p f f.sels.length)] := by
  obtain ⟨hp1, hp2, hp3, hp4⟩ := hp
  have hff := hf
  obtain ⟨hf1, hf2, hf3⟩ := hf
  refine Ctr.body ok Go.Proofs.Tryz.func142 rfl rfl 87 rfl [.tmp 2] rfl (by simp [fromVs]) ?_
  simp only [fromVs, fromV, args0, V.toList_list, V.toInt_int, V.toBool_bool, Nat.zero_add, Nat.reduceAdd, ty202]
  repeat' first
    | ((with_reducible refine SARA.told 3 1 ?_)
       rw [getD_sels (by omega)])
    | ((with_reducible refine SARA.told 6 1 ?_)
       rw [getD_cass (by omega)])
    | ((with_reducible first | refine SARA.do fun R1 hR1 => ?_ | refine SARQ.do fun R1 hR1 => ?_); (simp only [go_sem, seval, -List.reduceReplicate]); (repeat' with_reducible refine And.intro ?_ ?_); all_goals first | (refine hR1 _ ?_; clear hR1 R1) | ((first | refine ⟨_, _, rfl, _, CallQ.ctr ok (object_ctr _ _) (by first | rfl | (simp [go_sem]; done) | fail) rfl, ?_⟩ | refine ⟨_, _, rfl, .inl ⟨_, CallQ.ctr ok (object_ctr _ _) (by first | rfl | (simp [go_sem]; done) | fail) rfl, ?_⟩⟩ | refine ⟨_, _, rfl, _, CallQ.ctr ok (register_ctr p f _) (by first | rfl | (simp [go_sem]; done) | fail) rfl, ?_⟩ | refine ⟨_, _, rfl, .inl ⟨_, CallQ.ctr ok (register_ctr p f _) (by first | rfl | (simp [go_sem]; done) | fail) rfl, ?_⟩⟩ | refine ⟨_, _, rfl, _, CallQ.ctr ok (target_ctr p f _ hff) (by first | rfl | (simp [go_sem]; done) | fail) rfl, ?_⟩ | refine ⟨_, _, rfl, .inl ⟨_, CallQ.ctr ok (target_ctr p f _ hff) (by first | rfl | (simp [go_sem]; done) | fail) rfl, ?_⟩⟩); all_goals ((try simp only [go_sem, seval, -List.reduceReplicate]); (repeat' with_reducible refine And.intro ?_ ?_); all_goals first | (refine hR1 _ ?_; clear hR1 R1) | omega | rfl | decide | assumption | (intro _; omega) | (simp; done) | (simp; omega) | (simp [roomFor, maxLen] <;> omega))) | omega | rfl | decide | assumption | (intro _; omega) | (simp; done) | (simp; omega) | (simp [roomFor, maxLen] <;> omega))
    | ((with_reducible refine SARA.nil ?_); refine hR _ ?_; clear hR R; try simp only [go_sem, lv142, lvOf, Nat.reduceBEq, Option.getD_some])
    | ((with_reducible refine SARQ.nil ?_); refine hR _ ?_; clear hR R; try simp only [go_sem, lv142, lvOf, Nat.reduceBEq, Option.getD_some])
    | (with_reducible first | refine thenK.normal ?_ | refine SA.seq ?_ | refine SA.skip ?_ | refine SA.block ?_ | refine blockK.normal ?_ | refine SA.exit ?_ | refine blockK.hit ?_ | refine blockK.miss (by decide) ?_ | refine thenK.exit ?_ | refine loopK.exit ?_ | refine SA.ret ?_ | refine thenK.ret ?_ | refine blockK.ret ?_ | refine loopK.ret ?_ | refine SA.scope ?_ | refine scopeK.normal ?_ | refine scopeK.exit ?_ | refine scopeK.ret ?_ | refine SA.label ?_)
    | ((with_reducible refine SA.at 4 ?_)
       have hc3 := hf3 _ (getD_mem_sels (i := i) (by omega))
       (with_reducible refine SA.regionN ok (by kernel_rfl) lv142 ?_); intro R hR; simp only [go_sem, strip])
    | ((with_reducible refine SA.regionN ok (by kernel_rfl) lv142 ?_); intro R hR; simp only [go_sem, strip])
    | ((with_reducible refine SA.regionD ok mixed (by kernel_rfl) (by kernel_rfl) lv142 ?_); intro R hR; simp only [go_sem, strip])
    | ((with_reducible refine SA.condAt 18 rfl (fun hb18 => ?_) (fun hb18 => ?_))
       all_goals
         try simp [-List.getD_eq_getElem?_getD] at hb18
         try (exfalso; omega))
    | ((with_reducible refine SA.condAt 25 rfl (fun hb25 => ?_) (fun hb25 => ?_))
       all_goals
         try simp [-List.getD_eq_getElem?_getD] at hb25
         try (exfalso; omega))
    | ((with_reducible refine SA.condAt 38 rfl (fun hb38 => ?tt38) (fun hb38 => ?ff38))
       case' tt38 =>
         try simp [-List.getD_eq_getElem?_getD] at hb38
         try (exfalso; omega)
       case' ff38 =>
         simp [-List.getD_eq_getElem?_getD] at hb38
         have hx := obErr_zero hb38 (by decide))
    | ((with_reducible refine SA.condAt 46 rfl (fun hb46 => ?_) (fun hb46 => ?_))
       all_goals
         try simp [-List.getD_eq_getElem?_getD] at hb46
         try (exfalso; omega))
    | ((with_reducible refine SA.condAt 52 rfl (fun hb52 => ?_) (fun hb52 => ?_))
       all_goals
         try simp [-List.getD_eq_getElem?_getD] at hb52
         try (exfalso; omega))
    | ((with_reducible refine SA.condAt 67 rfl (fun hb67 => ?_) (fun hb67 => ?_))
       all_goals
         try simp [-List.getD_eq_getElem?_getD] at hb67
         try (exfalso; omega))
    | ((with_reducible refine SA.condAt 73 rfl (fun hb73 => ?_) (fun hb73 => ?_))
       all_goals
         try simp [-List.getD_eq_getElem?_getD] at hb73
         try (exfalso; omega))
    | ((with_reducible refine SA.condAt 78 rfl (fun hb78 => ?_) (fun hb78 => ?_))
       all_goals
         try simp [-List.getD_eq_getElem?_getD] at hb78
         try (exfalso; omega))
    | ((with_reducible refine SA.condAt 84 rfl (fun hb84 => ?_) (fun hb84 => ?_))
       all_goals
         try simp [-List.getD_eq_getElem?_getD] at hb84
         try (exfalso; omega))
    | ((with_reducible refine SA.atLoop ?_)
       refine SA.weaken (St.le.of_eq (by first | rfl | (simp; done) | fail)) (SA.loop (fun n τ => ∃ (i : Nat), n = f.sels.length - i ∧ (i ≤ f.sels.length ∧ selsErr p f i = 0) ∧ τ = { tm := [(0, true, .fptr 204 (ckV p f)), (15, true, .fs 124 (f.sels.map Sel.v) false), (16, true, .int .i64 f.sels.length), (17, true, .int .i64 i)], ob := [], out := [], nt := 87 }) (f.sels.length) ⟨0, rfl, ⟨by omega, rfl⟩, rfl⟩ ?_)
       rintro n τ ⟨i, hn, ⟨hi, hz⟩, rfl⟩)
    | ((with_reducible refine SA.atLoop ?_)
       refine SA.weaken (St.le.of_eq (by first | rfl | (simp; done) | fail)) (SA.loop (fun n τ => ∃ (j : Nat), n = (f.sels.getD i default).cases.length - j ∧ (j ≤ (f.sels.getD i default).cases.length ∧ casesErr p f (f.sels.getD i default) j = 0) ∧ τ = { tm := [(0, true, .fptr 204 (ckV p f)), (4, true, .ptr 0 [] 124), (15, true, .fs 124 (f.sels.map Sel.v) false), (16, true, .int .i64 f.sels.length), (17, true, .int .i64 i), (22, true, .fs 156 ((f.sels.getD i default).cases.map Cas.v) false), (23, true, .int .i64 (f.sels.getD i default).cases.length), (24, true, .int .i64 j)], ob := [.var 124 (.data 124 (f.sels.getD i default).v)], out := [], nt := 87 }) ((f.sels.getD i default).cases.length) ⟨0, rfl, ⟨by omega, rfl⟩, rfl⟩ ?_)
       rintro n τ ⟨j, hn, ⟨hj, hc⟩, rfl⟩)
    | ((with_reducible refine loopK.round ?_)
       first
         | (have hlt : i < f.sels.length := by omega
            refine loopK.normal (f.sels.length - (i + 1)) _ (by omega) ((St.le.cut 0 rfl).trans (St.le.of_eq (by simp only [wrap_succ hlt hf2, List.take_zero]))) ⟨i + 1, rfl, ⟨hlt, ?_⟩, rfl⟩
            have hjc : j = (f.sels.getD i default).cases.length := by omega
            subst hjc
            rw [selsErr_succ p f hlt, if_neg (fun q => q hz)]
            simp only [selErr, hc]
            rw [if_neg (fun q => q rfl), if_neg (by
              rintro ⟨q1, q2⟩
              first
                | exact q1 hb78
                | (have := obErr_zero hb84 (by decide); rw [within_false] at q2; omega))])
         | (have hlt : j < (f.sels.getD i default).cases.length := by omega
            refine loopK.normal ((f.sels.getD i default).cases.length - (j + 1)) _ (by omega) ((St.le.cut 1 rfl).trans (St.le.of_eq (by simp only [wrap_succ hlt hc3, List.take_succ_cons, List.take_zero]))) ⟨j + 1, rfl, ⟨hlt, ?_⟩, rfl⟩
            rw [casesErr_succ p f _ hlt, if_neg (fun q => q hc)]
            exact case0 hb38 (by first | exact .inr hb52 | exact .inl hb46) hb67 hb73))
    | ((with_reducible first | refine ctrK.normal ?_ | refine ctrK.ret ?_)
       simp only [go_sem, resA, resV, backK, seval]
       first
         | (exact ⟨rfl, congrArg (fun e => some (V.int e)) (selects_hit (by omega) hz (by omega) hc (case38 hb38 (by first | exact .inr hb52 | exact .inl hb46) hb67 hb73) (by first | decide | assumption)).symm⟩)
         | (exact ⟨rfl, congrArg (fun e => some (V.int e)) (selects_hit (by omega) hz (by omega) hc (case37 hb38 (by first | exact .inr hb52 | exact .inl hb46) hb67) (by first | decide | assumption)).symm⟩)
         | (exact ⟨rfl, congrArg (fun e => some (V.int e)) (selects_hit (by omega) hz (by omega) hc (case35 hb38 hb46 hb52) (by first | decide | assumption)).symm⟩)
         | (exact ⟨rfl, congrArg (fun e => some (V.int e)) (selects_hit (by omega) hz (by omega) hc (case36 hb38) (by first | decide | assumption)).symm⟩)
         | (have hjc : j = (f.sels.getD i default).cases.length := by omega
            subst hjc
            refine ⟨rfl, congrArg (fun e => some (V.int e)) (sels_hit (by omega) hz ?_ hb84).symm⟩
            simp only [selErr, hc]
            rw [if_neg (fun q => q rfl), if_pos ⟨hb78, obErr_ne hb84⟩]
            exact (obErr_val hb84).symm)
         | (have e : i = f.sels.length := by omega
            subst e
            exact ⟨rfl, congrArg (fun e => some (V.int e)) hz.symm⟩))

def lv140 : List (Nat × List Nat) := [(0, [1]), (1, [1, 36]), (2, [2]), (3, [38, 39, 40]), (4, [38, 39, 40, 41]), (5, [4, 38, 39, 40]), (6, [38, 39, 40, 49]), (7, [2]), (8, [38, 39, 40]), (9, [2])]
-- scarab/prog.whole
theorem whole_ctr (p : Prg) (hp : p.Fit) : Ctr Go.Proofs.Tryz.prog tab 140 [26] [49] [p.v] [.int (wholeErr p)] := by
  obtain ⟨hp1, hp2, hp3, hp4⟩ := hp
  refine Ctr.body ok Go.Proofs.Tryz.func140 rfl rfl 51 rfl [.tmp 2] rfl (by simp [fromVs]) ?_
  simp only [fromVs, fromV, args0, V.toList_list, V.toInt_int, V.toBool_bool, Nat.zero_add, Nat.reduceAdd, ty26]
  repeat' first
    | ((with_reducible refine SARA.do fun R1 hR1 => ?_); (simp only [go_sem, seval, -List.reduceReplicate]); (repeat' with_reducible refine And.intro ?_ ?_); all_goals first | (refine hR1 _ ?_; clear hR1 R1) | omega | rfl | decide | assumption | (intro _; omega) | (simp; done) | (simp; omega) | (simp [roomFor, maxLen] <;> omega))
    | ((with_reducible refine SARA.nil ?_); refine hR _ ?_; clear hR R; try simp only [go_sem, lv140, lvOf, Nat.reduceBEq, Option.getD_some])
    | (with_reducible first | refine thenK.normal ?_ | refine SA.seq ?_ | refine SA.skip ?_ | refine SA.block ?_ | refine blockK.normal ?_ | refine SA.exit ?_ | refine blockK.hit ?_ | refine blockK.miss (by decide) ?_ | refine thenK.exit ?_ | refine loopK.exit ?_ | refine SA.ret ?_ | refine thenK.ret ?_ | refine blockK.ret ?_ | refine loopK.ret ?_ | refine SA.scope ?_ | refine scopeK.normal ?_ | refine scopeK.exit ?_ | refine scopeK.ret ?_ | refine SA.label ?_)
    | ((with_reducible refine SA.regionN ok (by kernel_rfl) lv140 ?_); intro R hR; simp only [go_sem, strip])
    | ((with_reducible refine SA.condAt 36 rfl (fun hb36 => ?_) (fun hb36 => ?_))
       all_goals
         try simp [-List.getD_eq_getElem?_getD] at hb36
         try (exfalso; omega))
    | ((with_reducible refine SA.condAt 41 rfl (fun hb41 => ?_) (fun hb41 => ?_))
       all_goals
         try simp [-List.getD_eq_getElem?_getD] at hb41
         try (exfalso; omega))
    | ((with_reducible refine SA.condAt 49 rfl (fun hb49 => ?_) (fun hb49 => ?_))
       all_goals
         try simp [-List.getD_eq_getElem?_getD] at hb49
         try (exfalso; omega))
    | ((with_reducible refine SA.atLoop ?_)
       refine SA.weaken (St.le.of_eq (by first | rfl | (simp; done) | fail)) (SA.loop (fun n τ => ∃ (i : Nat), n = p.chans.length - i ∧ (i ≤ p.chans.length ∧ Sizes p ∧ capsErr p i = true) ∧ τ = { tm := [(38, true, .fs 3 (p.chans.map V.int) false), (39, true, .int .i64 p.chans.length), (40, true, .int .i64 i)], ob := [.var 26 (.data 26 p.v)], out := [], nt := 51 }) (p.chans.length) ⟨0, rfl, ⟨by omega, by unfold Sizes; omega, rfl⟩, rfl⟩ ?_)
       rintro n τ ⟨i, hn, ⟨hi, hs, hc⟩, rfl⟩)
    | ((with_reducible refine loopK.round ?_)
       first
         | (have hlt : i < p.chans.length := by omega
            refine loopK.normal (p.chans.length - (i + 1)) _ (by omega) (St.le.of_eq (by simp only [wrap_succ hlt hp2])) ⟨i + 1, rfl, ⟨hlt, hs, ?_⟩, rfl⟩
            unfold capsErr at hc ⊢
            rw [all_take _ _ hlt, hc]
            simp only [Bool.true_and, Bool.and_eq_true, decide_eq_true_eq]
            exact hb49))
    | ((with_reducible first | refine ctrK.normal ?_ | refine ctrK.ret ?_)
       simp only [go_sem, resA, resV, backK, seval]
       first
         | (have q : _ ∨ _ := hb49
            exact ⟨rfl, congrArg (fun e => some (V.int e)) (Eq.symm ((if_neg hs).trans (if_pos (caps_miss (i := i) (by omega) hb49))))⟩)
         | (exact ⟨rfl, congrArg (fun e => some (V.int e)) (Eq.symm ((if_neg hs).trans (if_neg (by rw [show p.chans.length = i by omega, hc]; simp))))⟩)
         | (exact ⟨rfl, congrArg (fun e => some (V.int e)) (Eq.symm (if_pos (by omega)))⟩))

end Go.Eng.Tryz
namespace Go.Eng.Tryz
open Go.RowKit Go.Eng
set_option linter.unusedSimpArgs false
set_option linter.unusedVariables false
set_option maxHeartbeats 0
set_option maxRecDepth 20000

def sz0 (m : Int) (f : Fnc) : Bool := decide (0 ≤ f.regs) && decide (f.regs ≤ 8) && decide (0 ≤ f.params) && decide (f.params ≤ f.regs) && !(decide (m = 0) && decide (0 < f.params)) && decide (1 ≤ (f.code.length : Int)) && decide ((f.code.length : Int) ≤ 64) && decide ((f.sels.length : Int) ≤ 4)
theorem formed_of {m : Int} {f : Fnc} (h : sizesErr m f = 0) : formed m f = true := by
  unfold sizesErr at h
  split at h
  · assumption
  · cases h
theorem formed_not {m : Int} {f : Fnc} (h : ¬sizesErr m f = 0) : formed m f = false := by
  unfold sizesErr at h
  split at h
  · exact absurd rfl h
  · rename_i q; simpa using q
theorem sizesErr_val {m : Int} {f : Fnc} (h : ¬sizesErr m f = 0) : sizesErr m f = 32 := by
  unfold sizesErr at *
  rw [formed_not h]; rfl
theorem sz0_iff {m : Int} {f : Fnc} : sz0 m f = true ↔ ¬(f.regs < 0 ∨ 8 < f.regs ∨ f.params < 0 ∨ f.regs < f.params ∨ (m = 0 ∧ f.params ≠ 0)) ∧ ¬(f.code.length < 1 ∨ 64 < f.code.length ∨ 4 < f.sels.length) := by
  unfold sz0
  simp only [Bool.and_eq_true, Bool.not_eq_true', Bool.and_eq_false_iff, decide_eq_true_eq, decide_eq_false_iff_not]
  omega
theorem formed_sz (m : Int) (f : Fnc) : formed m f = (sz0 m f && selsShort f f.sels.length) := by
  by_cases h : sz0 m f = true
  · rw [h, Bool.true_and]
    have := sz0_iff.1 h
    unfold formed
    rw [if_neg this.1, if_neg this.2]
  · have h2 : sz0 m f = false := by simpa using h
    rw [h2, Bool.false_and]
    rw [sz0_iff] at h
    unfold formed
    by_cases h3 : f.regs < 0 ∨ 8 < f.regs ∨ f.params < 0 ∨ f.regs < f.params ∨ (m = 0 ∧ f.params ≠ 0)
    · rw [if_pos h3]
    · rw [if_neg h3]
      by_cases h4 : f.code.length < 1 ∨ 64 < f.code.length ∨ 4 < f.sels.length
      · rw [if_pos h4]
      · exact absurd ⟨h3, h4⟩ h
theorem short_succ (f : Fnc) {j : Nat} (h : j < f.sels.length) : selsShort f (j + 1) = (selsShort f j && (decide (1 ≤ (f.sels.getD j default).cases.length) && decide ((f.sels.getD j default).cases.length ≤ 4))) := by
  unfold selsShort
  rw [all_take _ _ h]
theorem dec_nat1 (n : Nat) : decide (1 ≤ (n : Int)) = decide (1 ≤ n) := by by_cases h : 1 ≤ n; rw [decide_eq_true h, decide_eq_true (by omega)]; rw [decide_eq_false h, decide_eq_false (by omega)]
theorem dec_nat4 (n : Nat) : decide ((n : Int) ≤ 4) = decide (n ≤ 4) := by by_cases h : n ≤ 4; rw [decide_eq_true h, decide_eq_true (by omega)]; rw [decide_eq_false h, decide_eq_false (by omega)]

def lv141 : List (Nat × List Nat) := [(0, [1, 2]), (1, [2, 5]), (2, [2, 5]), (3, [5, 57, 58, 59]), (4, [5, 57, 58, 59, 60]), (5, [5, 7, 57, 58, 59]), (6, [5, 57, 58, 59]), (7, [5, 57, 58, 59]), (8, [78]), (9, [4]), (10, [4])]
-- scarab/prog.sizes
theorem sizes_ctr (m : Int) (f : Fnc) (hf : f.Fit) : Ctr Go.Proofs.Tryz.prog tab 141 [121, 4] [49] [f.v, .bool (decide (m = 0))] [.int (sizesErr m f)] := by
  obtain ⟨hf1, hf2, hf3⟩ := hf
  refine Ctr.body ok Go.Proofs.Tryz.func141 rfl rfl 79 rfl [.tmp 4] rfl (by simp [fromVs]) ?_
  simp only [fromVs, fromV, args0, V.toList_list, V.toInt_int, V.toBool_bool, Nat.zero_add, Nat.reduceAdd, ty4, ty121]
  repeat' first
    | ((with_reducible refine SARA.told 5 1 ?_)
       rw [getD_sels (by omega)])
    | ((with_reducible refine SARA.do fun R1 hR1 => ?_); (simp only [go_sem, seval, -List.reduceReplicate, Bool.cond_false_right]); (repeat' with_reducible refine And.intro ?_ ?_); all_goals first | (refine hR1 _ ?_; clear hR1 R1) | omega | rfl | decide | assumption | (intro _; omega) | (simp; done) | (simp; omega) | (simp [roomFor, maxLen] <;> omega))
    | ((with_reducible refine SARA.nil ?_); refine hR _ ?_; clear hR R; try simp only [go_sem, lv141, lvOf, Nat.reduceBEq, Option.getD_some])
    | (with_reducible first | refine thenK.normal ?_ | refine SA.seq ?_ | refine SA.skip ?_ | refine SA.block ?_ | refine blockK.normal ?_ | refine SA.exit ?_ | refine blockK.hit ?_ | refine blockK.miss (by decide) ?_ | refine thenK.exit ?_ | refine loopK.exit ?_ | refine SA.ret ?_ | refine thenK.ret ?_ | refine blockK.ret ?_ | refine loopK.ret ?_ | refine SA.scope ?_ | refine scopeK.normal ?_ | refine scopeK.exit ?_ | refine scopeK.ret ?_ | refine SA.label ?_)
    | ((with_reducible refine SA.at 6 ?_)
       have hc3 := hf3 _ (getD_mem_sels (i := j) (by omega))
       (with_reducible refine SA.regionN ok (by kernel_rfl) lv141 ?_); intro R hR; simp only [go_sem, strip])
    | ((with_reducible refine SA.regionN ok (by kernel_rfl) lv141 ?_); intro R hR; simp only [go_sem, strip])
    | ((with_reducible refine SA.condAt 60 rfl (fun hb60 => ?_) (fun hb60 => ?_))
       all_goals
         try simp [-List.getD_eq_getElem?_getD] at hb60
         try (exfalso; omega))
    | ((with_reducible refine SA.condAt 78 rfl (fun hb78 => ?_) (fun hb78 => ?_))
       all_goals
         skip)
    | ((with_reducible refine SA.atLoop ?_)
       refine SA.weaken (St.le.of_eq (by first | rfl | (simp [sz0, selsShort]; done))) (SA.loop (fun n τ => ∃ (j : Nat), n = f.sels.length - j ∧ (j ≤ f.sels.length) ∧ τ = { tm := [(5, true, .bool (sz0 m f && selsShort f j)), (57, true, .fs 124 (f.sels.map Sel.v) false), (58, true, .int .i64 f.sels.length), (59, true, .int .i64 j)], ob := [.var 121 (.data 121 f.v)], out := [], nt := 79 }) (f.sels.length) ⟨0, rfl, by omega, rfl⟩ ?_)
       rintro n τ ⟨j, hn, hj, rfl⟩)
    | ((with_reducible refine loopK.round ?_)
       first
         | (have hlt : j < f.sels.length := by omega
            refine loopK.normal (f.sels.length - (j + 1)) _ (by omega) ((St.le.cut 1 rfl).trans (St.le.of_eq (by simp only [wrap_succ hlt hf2, List.take_succ_cons, List.take_zero, short_succ f hlt, dec_nat1, dec_nat4, Bool.and_assoc]))) ⟨j + 1, rfl, hlt, rfl⟩))
    | ((with_reducible first | refine ctrK.normal ?_ | refine ctrK.ret ?_)
       simp only [go_sem, resA, resV, backK, seval]
       have e : j = f.sels.length := by omega
       subst e
       refine ⟨rfl, ?_⟩
       unfold sizesErr
       rw [formed_sz]
       generalize (sz0 m f && selsShort f f.sels.length) = b at hb78 ⊢
       cases b <;> simp_all)

def lv101 : List (Nat × List Nat) := [(0, [1, 3]), (1, [1, 3, 4]), (2, [1, 3, 4, 17]), (3, [2, 3]), (4, [1, 3, 21, 22, 23]), (5, [1, 3, 21, 22, 23, 24]), (6, [1, 3, 5, 6, 21, 22, 23]), (7, [1, 3, 5, 6, 7, 21, 22, 23]), (8, [1, 3, 5, 6, 7, 21, 22, 23, 33]), (9, [2, 3]), (10, [1, 3, 5, 6, 8, 21, 22, 23]), (11, [1, 3, 5, 6, 8, 9, 21, 22, 23]), (12, [1, 3, 5, 6, 8, 9, 21, 22, 23, 44]), (13, [2, 3]), (14, [1, 3, 5, 6, 8, 21, 22, 23, 49, 50, 51]), (15, [1, 3, 5, 6, 8, 21, 22, 23, 49, 50, 51, 52]), (16, [1, 3, 5, 6, 8, 10, 11, 21, 22, 23, 49, 50, 51]), (17, [1, 3, 5, 6, 8, 10, 12, 21, 22, 23, 49, 50, 51]), (18, [1, 3, 5, 6, 8, 10, 12, 21, 22, 23, 49, 50, 51, 60]), (19, [2, 3]), (20, [1, 3, 5, 6, 8, 21, 22, 23, 49, 50, 51]), (21, [1, 3, 5, 6, 13, 21, 22, 23]), (22, [1, 3, 5, 13, 21, 22, 23, 75]), (23, [2, 3]), (24, [1, 3, 5, 13, 21, 22, 23, 75, 79]), (25, [1, 3, 5, 13, 21, 22, 23, 75, 79]), (26, [1, 3, 5, 13, 21, 22, 23, 79]), (27, [1, 3, 21, 22, 23]), (28, [2, 3])]
-- scarab/prog.Check
theorem pcheck_ctr (p : Prg) (hp : p.Fit) : Ctr Go.Proofs.Tryz.prog tab 101 [26] [49, 142] [p.v] [.int (checkP p), .agg [.int (spotP p).1, .int (spotP p).2]] := by
  have hpf := hp
  obtain ⟨hp1, hp2, hp3, hp4⟩ := hp
  refine Ctr.body ok Go.Proofs.Tryz.func101 rfl rfl 85 rfl [.tmp 2, .cell 3 142] rfl (by simp [fromVs]) ?_
  simp only [fromVs, fromV, args0, V.toList_list, V.toInt_int, V.toBool_bool, Nat.zero_add, Nat.reduceAdd, ty26]
  repeat' first
    | ((with_reducible refine SARA.told 6 2 ?_)
       rw [getD_fncs (by omega)])
    | ((with_reducible refine SARA.told 16 2 ?_)
       rw [getD_instrs (by omega)])
    | ((with_reducible refine SARA.told 21 4 ?_)
       have e1 : IntKind.i64.wrap (((p.funcs.getD i default).code.length : Int) - 1) = (((p.funcs.getD i default).code.length - 1 : Nat) : Int) := by rw [wrap64_ok (by unfold maxLen at hcl; omega) (by unfold maxLen at hcl; omega)]; omega
       rw [e1])
    | ((with_reducible refine SARA.told 22 4 ?_)
       rw [getD_instrs (by omega)])
    | ((with_reducible refine SARA.do fun R1 hR1 => ?_); (simp only [go_sem, seval, -List.reduceReplicate, zero142, z142, z3]); (repeat' with_reducible refine And.intro ?_ ?_); all_goals first | (refine hR1 _ ?_; clear hR1 R1) | ((first | refine ⟨_, _, rfl, .inl ⟨_, CallQ.ctr ok (whole_ctr p hpf) (by first | rfl | (simp [go_sem]; done) | fail) rfl, ?_⟩⟩ | refine ⟨_, _, rfl, .inl ⟨_, CallQ.ctr ok (sizes_ctr (i : Int) _ hfi) (by first | rfl | (simp [go_sem]; done) | fail) rfl, ?_⟩⟩ | refine ⟨_, _, rfl, .inl ⟨_, CallQ.ctr ok (pselects_ctr p (p.funcs.getD i default) hpf hfi) (by first | rfl | (simp [go_sem]; done) | fail) rfl, ?_⟩⟩ | refine ⟨_, _, rfl, .inl ⟨_, CallQ.ctr ok (pinstr_ctr p (p.funcs.getD i default) _ hpf hfi) (by first | rfl | (simp [go_sem]; done) | fail) rfl, ?_⟩⟩); all_goals ((try simp only [go_sem, seval, -List.reduceReplicate, zero142, z142, z3]); (repeat' with_reducible refine And.intro ?_ ?_); all_goals first | (refine hR1 _ ?_; clear hR1 R1) | omega | rfl | decide | assumption | (intro _; omega) | (simp; done) | (simp; omega) | (simp [roomFor, maxLen] <;> omega))) | omega | rfl | decide | assumption | (intro _; omega) | (simp; done) | (simp; omega) | (simp [roomFor, maxLen] <;> omega))
    | ((with_reducible refine SARA.nil ?_); refine hR _ ?_; clear hR R; try simp only [go_sem, lv101, lvOf, Nat.reduceBEq, Option.getD_some])
    | (with_reducible first | refine thenK.normal ?_ | refine SA.seq ?_ | refine SA.skip ?_ | refine SA.block ?_ | refine blockK.normal ?_ | refine SA.exit ?_ | refine blockK.hit ?_ | refine blockK.miss (by decide) ?_ | refine thenK.exit ?_ | refine loopK.exit ?_ | refine SA.ret ?_ | refine thenK.ret ?_ | refine blockK.ret ?_ | refine loopK.ret ?_ | refine SA.scope ?_ | refine scopeK.normal ?_ | refine scopeK.exit ?_ | refine scopeK.ret ?_ | refine SA.label ?_)
    | ((with_reducible refine SA.at 4 ?_)
       obtain ⟨hs, hc⟩ := whole_zero hb17
       (with_reducible refine SA.regionN ok (by kernel_rfl) lv101 ?_); intro R hR; simp only [go_sem, strip])
    | ((with_reducible refine SA.at 6 ?_)
       have hfi := hp4 (p.funcs.getD i default) (getD_mem _ (by omega))
       (with_reducible refine SA.regionN ok (by kernel_rfl) lv101 ?_); intro R hR; simp only [go_sem, strip])
    | ((with_reducible refine SA.at 14 ?_)
       have hcl := hfi.1
       (with_reducible refine SA.regionN ok (by kernel_rfl) lv101 ?_); intro R hR; simp only [go_sem, strip])
    | ((with_reducible refine SA.at 21 ?_)
       obtain ⟨hl0, hl1, hl2, hl3⟩ := formed_len (formed_of hb33)
       (with_reducible refine SA.regionN ok (by kernel_rfl) lv101 ?_); intro R hR; simp only [go_sem, strip])
    | ((with_reducible refine SA.regionN ok (by kernel_rfl) lv101 ?_); intro R hR; simp only [go_sem, strip])
    | ((with_reducible refine SA.condAt 17 rfl (fun hb17 => ?_) (fun hb17 => ?_))
       all_goals
         try simp [-List.getD_eq_getElem?_getD] at hb17
         try (exfalso; omega))
    | ((with_reducible refine SA.condAt 24 rfl (fun hb24 => ?_) (fun hb24 => ?_))
       all_goals
         try simp [-List.getD_eq_getElem?_getD] at hb24
         try (exfalso; omega))
    | ((with_reducible refine SA.condAt 33 rfl (fun hb33 => ?_) (fun hb33 => ?_))
       all_goals
         try simp [-List.getD_eq_getElem?_getD] at hb33
         try (exfalso; omega))
    | ((with_reducible refine SA.condAt 44 rfl (fun hb44 => ?_) (fun hb44 => ?_))
       all_goals
         try simp [-List.getD_eq_getElem?_getD] at hb44
         try (exfalso; omega))
    | ((with_reducible refine SA.condAt 52 rfl (fun hb52 => ?_) (fun hb52 => ?_))
       all_goals
         try simp [-List.getD_eq_getElem?_getD] at hb52
         try (exfalso; omega))
    | ((with_reducible refine SA.condAt 60 rfl (fun hb60 => ?_) (fun hb60 => ?_))
       all_goals
         try simp [-List.getD_eq_getElem?_getD] at hb60
         try (exfalso; omega))
    | ((with_reducible refine SA.condAt 79 rfl (fun hb79 => ?_) (fun hb79 => ?_))
       all_goals
         try simp [-List.getD_eq_getElem?_getD] at hb79
         try (exfalso; omega))
    | ((with_reducible refine SA.atLoop ?_)
       refine SA.weaken (St.le.of_eq (by first | rfl | (simp; done) | fail)) (SA.loop (fun n τ => ∃ (i : Nat), n = p.funcs.length - i ∧ (i ≤ p.funcs.length ∧ funcsErr p i = 0) ∧ τ = { tm := [(1, true, .ptr 0 [] 26), (3, true, .ptr 1 [] 142), (21, true, .fs 121 (p.funcs.map Fnc.v) false), (22, true, .int .i64 p.funcs.length), (23, true, .int .i64 i)], ob := [.var 26 (.data 26 p.v), .var 142 (.data 142 (.agg [.int 0, .int 0]))], out := [], nt := 85 }) (p.funcs.length) ⟨0, rfl, ⟨by omega, rfl⟩, rfl⟩ ?_)
       rintro n τ ⟨i, hn, ⟨hi, hz⟩, rfl⟩)
    | ((with_reducible refine SA.atLoop ?_)
       refine SA.weaken (St.le.of_eq (by first | rfl | (simp; done) | fail)) (SA.loop (fun n τ => ∃ (j : Nat), n = (p.funcs.getD i default).code.length - j ∧ (j ≤ (p.funcs.getD i default).code.length ∧ codeErr p (p.funcs.getD i default) j = 0) ∧ τ = { tm := [(1, true, .ptr 0 [] 26), (3, true, .ptr 1 [] 142), (5, true, .int .i64 i), (6, true, .ptr 2 [] 121), (8, true, .ptr 3 [] 204), (21, true, .fs 121 (p.funcs.map Fnc.v) false), (22, true, .int .i64 p.funcs.length), (23, true, .int .i64 i), (49, true, .fs 129 ((p.funcs.getD i default).code.map Instr.v) false), (50, true, .int .i64 (p.funcs.getD i default).code.length), (51, true, .int .i64 j)], ob := [.var 26 (.data 26 p.v), .var 142 (.data 142 (.agg [.int 0, .int 0])), .var 121 (.data 121 (p.funcs.getD i default).v), .var 204 (.data 204 (ckV p (p.funcs.getD i default)))], out := [], nt := 85 }) ((p.funcs.getD i default).code.length) ⟨0, rfl, ⟨by omega, rfl⟩, rfl⟩ ?_)
       rintro n τ ⟨j, hn, ⟨hj, hk⟩, rfl⟩)
    | ((with_reducible refine loopK.round ?_)
       first
         | (have hlt : i < p.funcs.length := by omega
            refine loopK.normal (p.funcs.length - (i + 1)) _ (by omega) ((St.le.cut 2 rfl).trans (St.le.of_eq (by simp only [wrap_succ hlt hp3, List.take_succ_cons, List.take_zero]))) ⟨i + 1, rfl, ⟨hlt, ?_⟩, rfl⟩
            have hjc : j = (p.funcs.getD i default).code.length := by omega
            subst hjc
            rw [funcsErr_succ, if_neg (fun q => q hz), fn_nat]
            unfold funcErr
            rw [if_neg (by rw [formed_of hb33]; simp), if_neg (fun q => q hb44), if_neg (fun q => q hk)]
            exact if_pos (last_good hl1 (by intro q1 q2; first | exact hb79 | (simp_all; done))))
         | (have hlt : j < (p.funcs.getD i default).code.length := by omega
            refine loopK.normal ((p.funcs.getD i default).code.length - (j + 1)) _ (by omega) ((St.le.cut 4 rfl).trans (St.le.of_eq (by simp only [wrap_succ hlt hcl, List.take_succ_cons, List.take_zero]))) ⟨j + 1, rfl, ⟨hlt, ?_⟩, rfl⟩
            rw [codeErr_succ p _ hlt, if_neg (fun q => q hk)]
            exact hb60))
    | ((with_reducible first | refine ctrK.normal ?_ | refine ctrK.ret ?_)
       simp only [go_sem, resA, resV, backK, seval]
       first
         | (obtain ⟨e1, e2⟩ := check_code hs hc (by omega) hz (formed_of hb33) hb44 (by omega) hk hb60
            exact ⟨⟨rfl, congrArg (fun e => some (V.int e)) e1.symm⟩, ⟨rfl, by rw [e2]⟩⟩)
         | (obtain ⟨e1, e2⟩ := check_sels hs hc (by omega) hz (formed_of hb33) hb44
            exact ⟨⟨rfl, congrArg (fun e => some (V.int e)) e1.symm⟩, ⟨rfl, by rw [e2]⟩⟩)
         | (obtain ⟨e1, e2⟩ := check_formed hs hc (by omega) hz (formed_not hb33)
            exact ⟨⟨rfl, congrArg (fun e => some (V.int e)) ((sizesErr_val hb33).trans e1.symm)⟩, ⟨rfl, by rw [e2]⟩⟩)
         | (obtain ⟨e1, e2⟩ := whole_hit hb17
            exact ⟨⟨rfl, congrArg (fun e => some (V.int e)) e1.symm⟩, ⟨rfl, by rw [e2]⟩⟩)
         | (obtain ⟨e1, e2⟩ := check_fall hs hc (by omega) hz (formed_of hb33) hb44 ((show j = (p.funcs.getD i default).code.length by omega) ▸ hk) (last_bad hl1 (by simp_all))
            exact ⟨⟨rfl, congrArg (fun e => some (V.int e)) e1.symm⟩, ⟨rfl, by rw [e2, show (((p.funcs.getD i default).code.length - 1 : Nat) : Int) = ((p.funcs.getD i default).code.length : Int) - 1 by omega]⟩⟩)
         | (obtain ⟨e1, e2⟩ := check_ok hs hc ((show i = p.funcs.length by omega) ▸ hz)
            exact ⟨⟨rfl, congrArg (fun e => some (V.int e)) e1.symm⟩, ⟨rfl, by rw [e2]⟩⟩))

def lv75 : List (Nat × List Nat) := [(0, [1]), (1, [3]), (2, [2])]
-- scarab/state.right
theorem sright_ctr (p : Prg) (hp : p.Fit) : Ctr Go.Proofs.Tryz.prog tab 75 [26] [4] [p.v] [.bool (rightP p)] := by
  refine Ctr.body ok Go.Proofs.Tryz.func75 rfl rfl 12 rfl [.tmp 2] rfl (by simp [fromVs]) ?_
  simp only [fromVs, fromV, args0, V.toList_list, V.toInt_int, V.toBool_bool, Nat.zero_add, Nat.reduceAdd, ty26]
  repeat' first
    | ((with_reducible refine SARA.do fun R1 hR1 => ?_); (simp only [go_sem, seval, -List.reduceReplicate, zero142, z142, z3]); (repeat' with_reducible refine And.intro ?_ ?_); all_goals first | (refine hR1 _ ?_; clear hR1 R1) | ((first | refine ⟨_, _, rfl, .inr (CallE.ctr ok (pcheck_ctr p hp) (by first | rfl | (simp [go_sem]; done) | fail) ?_)⟩); all_goals ((try simp only [go_sem, seval, -List.reduceReplicate, zero142, z142, z3]); (repeat' with_reducible refine And.intro ?_ ?_); all_goals first | (refine hR1 _ ?_; clear hR1 R1) | omega | rfl | decide | assumption | (intro _; omega) | (simp; done) | (simp; omega) | (simp [roomFor, maxLen] <;> omega))) | omega | rfl | decide | assumption | (intro _; omega) | (simp; done) | (simp; omega) | (simp [roomFor, maxLen] <;> omega))
    | ((with_reducible refine SARA.nil ?_); refine hR _ ?_; clear hR R; try simp only [go_sem, lv75, lvOf, Nat.reduceBEq, Option.getD_some])
    | (with_reducible first | refine thenK.normal ?_ | refine SA.seq ?_ | refine SA.skip ?_ | refine SA.block ?_ | refine blockK.normal ?_ | refine SA.exit ?_ | refine blockK.hit ?_ | refine blockK.miss (by decide) ?_ | refine thenK.exit ?_ | refine loopK.exit ?_ | refine SA.ret ?_ | refine thenK.ret ?_ | refine blockK.ret ?_ | refine loopK.ret ?_ | refine SA.scope ?_ | refine scopeK.normal ?_ | refine scopeK.exit ?_ | refine scopeK.ret ?_ | refine SA.label ?_)
    | ((with_reducible refine SA.regionN ok (by kernel_rfl) lv75 ?_); intro R hR; simp only [go_sem, strip])
    | ((with_reducible first | refine ctrK.normal ?_ | refine ctrK.ret ?_)
       simp only [go_sem, resA, resV, backK, seval]
       exact ⟨rfl, rfl⟩)

end Go.Eng.Tryz
