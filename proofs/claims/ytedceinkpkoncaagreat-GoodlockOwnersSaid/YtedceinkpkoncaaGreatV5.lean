/- A part of the proof: walks through the program's functions, and what they compute. -/
import Derived.Test.YtedceinkpkoncaaGreatV4
import Derived.Test.YtedceinkpkoncaaGreatM3
import Derived.Test.YtedceinkpkoncaaGreatE4
namespace Go.Eng.Tryz
open Go.RowKit Go.Eng
set_option linter.unusedSimpArgs false
set_option linter.unusedVariables false
set_option maxHeartbeats 0
set_option maxRecDepth 20000

theorem Pck.beq (x y : Pck) : x.v.beq y.v = decide (x = y) := by
  cases x; cases y; simp [Pck.v, V.beq, V.beqL]

def lv46 : List (Nat × List Nat) := [(0, [0, 3]), (1, [3, 7, 8, 9]), (2, [3, 7, 8, 9, 10]), (3, [3, 6, 7, 8, 9]), (4, [3, 7, 8, 9, 15]), (5, [4]), (6, [3, 7, 8, 9]), (7, [4])]
-- scarab/scarabref09.is
theorem is_ctr (l : List Pck) (x : Pck) (hl : l.length ≤ maxLen) : Ctr Go.Proofs.Tryz.prog tab 46 [27, 49] [4] [.list (l.map Pck.v), x.v] [.bool (l.any fun y => decide (x = y))] := by
  have hcode : True → True := id
  have hsl : True → True := id
  refine Ctr.body ok Go.Proofs.Tryz.func46 rfl rfl 17 rfl [.tmp 4] rfl (by simp [fromVs]) ?_
  simp only [fromVs, fromV, args0, V.toList_list, V.toInt_int, V.toBool_bool, Nat.zero_add, Nat.reduceAdd, ty27, ty49]
  repeat' first
    | ((with_reducible refine SARA.told 3 2 ?_)
       rw [getD_map Pck.v l (by omega)])
    | ((with_reducible refine SARA.do fun R1 hR1 => ?_); (simp only [go_sem, seval, -List.reduceReplicate]); (repeat' with_reducible refine And.intro ?_ ?_); all_goals first | (refine hR1 _ ?_; clear hR1 R1) | omega | rfl | decide | assumption | (intro _; omega) | (simp; done) | (simp [-List.getD_eq_getElem?_getD]; omega) | exact hcode _ | (intro _; exact hcode _) | exact hsl _ | (intro _; exact hsl _) | (simp [-List.getD_eq_getElem?_getD, roomFor, maxLen, by3, by49, by52, by55, by41]; omega) | (simp [-List.getD_eq_getElem?_getD, roomFor, maxLen, by3, by49, by52, by55, by41]; done))
    | ((with_reducible refine SARA.nil ?_); refine hR _ ?_; clear hR R; try simp only [go_sem, lv46, lvOf, Nat.reduceBEq, Option.getD_some])
    | (with_reducible first | refine thenK.normal ?_ | refine SA.seq ?_ | refine SA.skip ?_ | refine SA.block ?_ | refine blockK.normal ?_ | refine SA.exit ?_ | refine blockK.hit ?_ | refine blockK.miss (by decide) ?_ | refine thenK.exit ?_ | refine loopK.exit ?_ | refine SA.ret ?_ | refine thenK.ret ?_ | refine blockK.ret ?_ | refine loopK.ret ?_ | refine SA.scope ?_ | refine scopeK.normal ?_ | refine scopeK.exit ?_ | refine scopeK.ret ?_ | refine SA.label ?_)
    | ((with_reducible refine SA.regionN ok (by kernel_rfl) lv46 ?_); intro R hR; simp only [go_sem, strip])
    | ((with_reducible refine SA.condAt 10 rfl (fun hb10 => ?_) (fun hb10 => ?_))
       all_goals
         try simp [-List.getD_eq_getElem?_getD] at hb10
         try (exfalso; omega))
    | ((with_reducible refine SA.condAt 15 rfl (fun hb15 => ?_) (fun hb15 => ?_))
       all_goals
         rw [Pck.beq] at hb15
         try simp [-List.getD_eq_getElem?_getD] at hb15
         try (exfalso; omega))
    | ((with_reducible refine SA.atLoop ?_)
       refine SA.weaken (St.le.of_eq (by first | rfl | (simp; done) | fail)) (SA.loop (fun n τ => ∃ (j : Nat), n = l.length - j ∧ (j ≤ l.length ∧ ∀ k : Nat, k < j → ¬x = l.getD k default) ∧ τ = { tm := [(3, true, .ptr 0 [] 49), (7, true, .fs 49 (l.map Pck.v) false), (8, true, .int .i64 l.length), (9, true, .int .i64 j)], ob := [.var 49 (.data 49 x.v)], out := [], nt := 17 }) (l.length) ⟨0, rfl, ⟨by omega, fun k h => by omega⟩, rfl⟩ ?_)
       rintro n τ ⟨j, hn, ⟨hj, hz⟩, rfl⟩)
    | ((with_reducible refine loopK.round ?_)
       first
         | (have hlt : j < l.length := by omega
            have hw := wrap_succ hlt hl
            refine loopK.normal (l.length - (j + 1)) _ (by omega) ((St.le.cut 1 rfl).trans (St.le.of_eq (by simp only [hw, List.take_succ_cons, List.take_zero]))) ⟨j + 1, rfl, ⟨hlt, fun k h => ?_⟩, rfl⟩
            by_cases h2 : k < j
            · exact hz k h2
            · have h3 : k = j := by omega
              rw [h3]; exact hb15))
    | ((with_reducible first | refine ctrK.normal ?_ | refine ctrK.ret ?_)
       simp only [go_sem, resA, resV, backK, seval]
       first
         | (have q : _ = _ := hb15
            have hlt : j < l.length := by omega
            refine ⟨rfl, ?_⟩
            rw [show (l.any fun y => decide (x = y)) = true from List.any_eq_true.2 ⟨_, getD_mem _ hlt, decide_eq_true hb15⟩])
         | (have hlt : j = l.length := by omega
            subst hlt
            refine ⟨rfl, ?_⟩
            rw [show (l.any fun y => decide (x = y)) = false from List.any_eq_false.2 (fun y hy => by
              obtain ⟨k, hk, e⟩ := List.mem_iff_getElem.1 hy
              have := hz k hk
              rw [List.getD_eq_getElem?_getD, List.getElem?_eq_getElem hk] at this
              simpa [← e] using this)]))

def lv22 : List (Nat × List Nat) := [(0, [1, 3, 5]), (1, [1, 3, 5, 8]), (2, [1, 3, 5, 8, 10]), (3, [1, 3, 5, 8, 10, 11]), (4, [3, 5, 8, 10, 11, 26, 27, 28]), (5, [3, 5, 8, 10, 11, 26, 27, 28, 29]), (6, [3, 5, 8, 10, 11, 13, 26, 27, 28]), (7, [3, 5, 8, 10, 11, 13, 26, 27, 28, 37]), (8, [3, 5, 8, 10, 11, 14, 15, 26, 27, 28]), (9, [3, 5, 8, 10, 11, 15, 26, 27, 28]), (10, [3, 5, 8, 10, 11, 15, 26, 27, 28]), (11, [3, 5, 8, 10, 11, 26, 27, 28]), (12, [3, 5, 8, 10, 11, 26, 27, 28]), (13, [6, 7])]
-- scarab/scarabref09.walk
theorem walk_ctr (p : Prg) (l : List Pck) (b : Bud) (hp : p.Fit) (hr : rightP p = true) (hf : 0 ≤ b.fuel ∧ b.fuel ≤ 4096) (hl : l.length ≤ 256) : Ctr Go.Proofs.Tryz.prog tab 22 [26, 27, 29] [63, 30] [p.v, .list (l.map Pck.v), b.v] [.list ((statesTo applyW p b.fuel (start applyW p b.fuel).1 l (stopAt applyW p b.fuel (start applyW p b.fuel).1 l)).map Stt.v), .list ((eventsTo applyW p b.fuel (start applyW p b.fuel).1 l (stopAt applyW p b.fuel (start applyW p b.fuel).1 l)).map Event.v)] := by
  have hpp := hp
  have hok := Prg.ok hr
  have hcode := p.code_len hp
  have hsl := p.sels_len hp
  have hmx : 256 < maxLen := by decide
  obtain ⟨s0, hs0⟩ : ∃ s0, s0 = (start applyW p b.fuel).1 := ⟨_, rfl⟩
  have hw0 : Wf p s0 := by rw [hs0]; exact start_wf applyW hok b.fuel
  rw [← hs0]
  refine Ctr.body ok Go.Proofs.Tryz.func22 rfl rfl 60 rfl [.tmp 6, .tmp 7] rfl (by simp [fromVs]) ?_
  simp only [fromVs, fromV, args0, V.toList_list, V.toInt_int, V.toBool_bool, Nat.zero_add, Nat.reduceAdd, ty26, ty27, ty29]
  repeat' first
    | ((with_reducible refine SARA.told 6 2 ?_)
       rw [getD_map Pck.v l (by omega)])
    | ((with_reducible first | refine SARA.do fun R1 hR1 => ?_ | refine SART.do fun R1 hR1 => ?_ | refine SARB.keep fun R1 hR1 => ?_ | refine SARB.any fun R1 hR1 => ?_); (simp only [go_sem, seval, -List.reduceReplicate, zeroEvent_at, zeroState_at, z41, z55, zero55, zero41]); (repeat' with_reducible refine And.intro ?_ ?_); all_goals first | (refine hR1 _ ?_; clear hR1 R1) | ((first | refine ⟨_, _, rfl, .inr (CallE.ctr ok (start_ctr p b.fuel hpp) (by first | rfl | (simp [go_sem, ty27, List.take_of_length_le, List.length_map]; done) | fail) ?_)⟩ | refine ⟨_, _, rfl, .inr (CallE.ctr ok (do_ctr p _ _ b.fuel hpp hr hwi) (by first | rfl | (simp [go_sem, ty27, List.take_of_length_le, List.length_map]; done) | fail) ?_)⟩ | refine ⟨_, _, rfl, .inr (CallE.ctr ok (ready_ctr p _ hpp hr hwi) (by first | rfl | (simp [go_sem, ty27, List.take_of_length_le, List.length_map]; done) | fail) ?_)⟩ | refine ⟨_, _, rfl, .inr (CallB.ctr ok (ready_ctr p _ hpp hr hwi) (by first | rfl | (simp [go_sem, ty27, List.take_of_length_le, List.length_map]; done) | fail) ?_)⟩ | refine ⟨_, _, rfl, .inl ⟨_, CallQ.ctr ok (is_ctr (ready p (stateAt applyW p b.fuel s0 l i)) (l.getD i default) hrl) (by first | rfl | (simp [go_sem, ty27, List.take_of_length_le, List.length_map]; done) | fail) rfl, ?_⟩⟩); all_goals ((try simp only [go_sem, seval, -List.reduceReplicate, zeroEvent_at, zeroState_at, z41, z55, zero55, zero41]); (repeat' with_reducible refine And.intro ?_ ?_); all_goals first | (refine hR1 _ ?_; clear hR1 R1) | omega | rfl | decide | assumption | (intro _; omega) | (simp; done) | (simp [-List.getD_eq_getElem?_getD]; omega) | exact hcode _ | (intro _; exact hcode _) | exact hsl _ | (intro _; exact hsl _) | (simp [-List.getD_eq_getElem?_getD, roomFor, maxLen, by3, by49, by52, by55, by41]; omega) | (simp [-List.getD_eq_getElem?_getD, roomFor, maxLen, by3, by49, by52, by55, by41]; done))) | omega | rfl | decide | assumption | (intro _; omega) | (simp; done) | (simp [-List.getD_eq_getElem?_getD]; omega) | exact hcode _ | (intro _; exact hcode _) | exact hsl _ | (intro _; exact hsl _) | (simp [-List.getD_eq_getElem?_getD, roomFor, maxLen, by3, by49, by52, by55, by41]; omega) | (simp [-List.getD_eq_getElem?_getD, roomFor, maxLen, by3, by49, by52, by55, by41]; done))
    | ((with_reducible refine SART.done ?_); refine hR _ ?_; clear hR R; try simp only [go_sem, lv22, lvOf, Nat.reduceBEq, Option.getD_some])
    | (with_reducible first | refine SART.br ?_ ?_ | exact SARL.nil | refine SARL.cons ?_ ?_)
    | ((with_reducible refine SARA.nil ?_); refine hR _ ?_; clear hR R; try simp only [go_sem, lv22, lvOf, Nat.reduceBEq, Option.getD_some])
    | (with_reducible first | refine thenK.normal ?_ | refine SA.seq ?_ | refine SA.skip ?_ | refine SA.block ?_ | refine blockK.normal ?_ | refine SA.exit ?_ | refine blockK.hit ?_ | refine blockK.miss (by decide) ?_ | refine thenK.exit ?_ | refine loopK.exit ?_ | refine SA.ret ?_ | refine thenK.ret ?_ | refine blockK.ret ?_ | refine loopK.ret ?_ | refine SA.scope ?_ | refine scopeK.normal ?_ | refine scopeK.exit ?_ | refine scopeK.ret ?_ | refine SA.label ?_)
    | ((with_reducible refine SA.at 2 ?_)
       rw [← hs0]
       (with_reducible refine SA.regionN ok (by kernel_rfl) lv22 ?_); intro R hR; simp only [go_sem, strip])
    | ((with_reducible refine SA.at 6 ?_)
       have hwi := stateAt_wf applyW hok b.fuel hw0 l i
       (with_reducible refine SA.regionN ok (by kernel_rfl) lv22 ?_); intro R hR; simp only [go_sem, strip])
    | ((with_reducible refine SA.at 7 ?_)
       have hrl : (ready p (stateAt applyW p b.fuel s0 l i)).length ≤ maxLen := by
         have := readyTo_len hok hwi (stateAt applyW p b.fuel s0 l i).count.toNat
         have := hwi.count
         unfold ready
         omega
       refine SA.regionT ok mixed (.take 0 (.take 1 (.take 3 (.br 2 (.br 4 (.take 5 .done) .nil) .nil)))) [] lv22 (by kernel_rfl) (fun R hR => ?_); simp only [go_sem, strip])
    | ((with_reducible refine SA.regionN ok (by kernel_rfl) lv22 ?_); intro R hR; simp only [go_sem, strip])
    | ((with_reducible refine SA.condAt 29 rfl (fun hb29 => ?_) (fun hb29 => ?_))
       all_goals
         try simp [-List.getD_eq_getElem?_getD] at hb29
         try (exfalso; omega))
    | ((with_reducible refine SA.condAt 37 rfl (fun hb37 => ?tt) (fun hb37 => ?ff))
       case' tt =>
         have hk : okAtR applyW p b.fuel s0 l i = false := by
           unfold okAtR
           simpa using hb37
       case' ff =>
         have hk : okAtR applyW p b.fuel s0 l i = true := by
           unfold okAtR
           simpa using hb37)
    | ((with_reducible refine SA.atLoop ?_)
       refine SA.weaken ((St.le.own (t := 11) 55 rfl).trans ((St.le.keep [3, 5, 8, 10, 11, 26, 27, 28]).trans (St.le.of_eq (by (simp only [stateAt_zero, statesTo_zero, eventsTo_zero]; rfl))))) (SA.loop (fun n τ => ∃ (i : Nat), n = l.length - i ∧ (i ≤ l.length ∧ ∀ k : Nat, k < i → okAtR applyW p b.fuel s0 l k = true) ∧ τ = { tm := [(3, true, .ptr 0 [] 26), (5, true, .ptr 1 [] 29), (8, true, .ptr 2 [] 41), (10, true, .sl 3 41 0 (i + 1) false), (11, true, .sl 4 55 0 i false), (26, true, .fs 49 (l.map Pck.v) false), (27, true, .int .i64 l.length), (28, true, .int .i64 i)], ob := [.var 26 (.data 26 p.v), .var 29 (.data 29 b.v), .var 41 (.data 41 (Stt.v (stateAt applyW p b.fuel s0 l i))), .row 41 ((statesTo applyW p b.fuel s0 l i).map Stt.v), .row 55 ((eventsTo applyW p b.fuel s0 l i).map Event.v)], out := [], nt := 60 }) (l.length) ⟨0, rfl, ⟨by omega, fun k h => by omega⟩, rfl⟩ ?_)
       rintro n τ ⟨i, hn, ⟨hi, hz⟩, rfl⟩
       have hst := statesTo_len applyW p b.fuel s0 l i
       have het := eventsTo_len applyW p b.fuel s0 l i)
    | ((with_reducible refine loopK.round ?_)
       first
         | (have hlt : i < l.length := by omega
            have hw := wrap_succ hlt (show l.length ≤ maxLen by omega)
            have e1 := stateAt_succ applyW p b.fuel s0 l hlt
            have e2 := statesTo_succ applyW p b.fuel s0 l i
            have e3 := eventsTo_succ applyW p b.fuel s0 l i
            refine loopK.normal (l.length - (i + 1)) _ (by omega) ((St.le.cut 5 rfl).trans (St.le.of_eq (by simp [-List.getD_eq_getElem?_getD, e1, e2, e3, eventAt, hw, hst, het, List.take_of_length_le, Nat.add_assoc]))) ⟨i + 1, rfl, ⟨hlt, fun k h => ?_⟩, rfl⟩
            by_cases h2 : k < i
            · exact hz k h2
            · have h3 : k = i := by omega
              rw [h3]; exact hk))
    | ((with_reducible first | refine ctrK.normal ?_ | refine ctrK.ret ?_)
       simp only [go_sem, resA, resV, backK, seval]
       first
         | (have q : okAtR applyW p b.fuel s0 l i = false := hk
            have hlt : i < l.length := by omega
            rw [stopAt_at applyW hlt hk hz]
            refine ⟨⟨rfl, ?_, ?_⟩, ⟨rfl, ?_, ?_⟩⟩
            · rw [List.take_of_length_le (by rw [List.length_map, hst]; exact Nat.le_refl _)]
            · intro e he j u lo n c h
              rw [List.mem_singleton.1 he] at h
              cases h; decide
            · rw [List.take_of_length_le (by rw [List.length_map, het]; exact Nat.le_refl _)]
            · intro e he; cases he)
         | (have hlt : i = l.length := by omega
            rw [stopAt_end applyW (fun k h => hz k (by omega))]
            subst hlt
            refine ⟨⟨rfl, ?_, ?_⟩, ⟨rfl, ?_, ?_⟩⟩
            · rw [List.take_of_length_le (by rw [List.length_map, hst]; exact Nat.le_refl _)]
            · intro e he j u lo n c h
              rw [List.mem_singleton.1 he] at h
              cases h; decide
            · rw [List.take_of_length_le (by rw [List.length_map, het]; exact Nat.le_refl _)]
            · intro e he; cases he))

end Go.Eng.Tryz
namespace Go.Eng.Tryz
open Go.RowKit Go.Eng
set_option linter.unusedSimpArgs false
set_option linter.unusedVariables false
set_option maxHeartbeats 0
set_option maxRecDepth 20000

theorem budgetOk_bif (b : Bud) : budgetOk b = (bif bif bif bif bif decide (0 ≤ b.steps) then decide (b.steps ≤ 256) else false then decide (0 ≤ b.fuel) else false then decide (b.fuel ≤ 4096) else false then decide (0 ≤ b.runs) else false then decide (b.runs ≤ 65536) else false) := by
  unfold budgetOk
  cases decide (0 ≤ b.steps) <;> cases decide (b.steps ≤ 256) <;> cases decide (0 ≤ b.fuel) <;> cases decide (b.fuel ≤ 4096) <;> cases decide (0 ≤ b.runs) <;> cases decide (b.runs ≤ 65536) <;> rfl
/-- What States answers. -/
def statesOf (p : Prg) (l : List Pck) (b : Bud) : List Stt × List Event × Int × Int :=
  if asked p l.length b ≠ 0 then ([], [], asked p l.length b, 0)
  else if b.steps < l.length then ([], [], 2, b.steps)
  else
    let n := stopAt applyW p b.fuel (start applyW p b.fuel).1 l
    if n < l.length then ([], [], 5, n)
    else (statesTo applyW p b.fuel (start applyW p b.fuel).1 l n, eventsTo applyW p b.fuel (start applyW p b.fuel).1 l n, 0, 0)
theorem asked_ok {p : Prg} {n : Int} {b : Bud} (h : asked p n b = 0) : rightP p = true ∧ n ≤ 256 ∧ (0 ≤ b.steps ∧ b.steps ≤ 256) ∧ (0 ≤ b.fuel ∧ b.fuel ≤ 4096) := by
  unfold asked at h
  by_cases h1 : rightP p = false
  · rw [if_pos h1] at h; cases h
  rw [if_neg h1] at h
  by_cases h2 : 256 < n
  · rw [if_pos h2] at h; cases h
  rw [if_neg h2] at h
  by_cases h3 : budgetOk b = false
  · rw [if_pos h3] at h; cases h
  have h3 : budgetOk b = true := by simpa using h3
  unfold budgetOk at h3
  simp only [Bool.and_eq_true, decide_eq_true_eq] at h3
  exact ⟨by simpa using h1, by omega, by omega, by omega⟩

def lv44 : List (Nat × List Nat) := [(0, [1]), (1, [2])]
-- scarab/scarabref09.Budget
theorem budget_ctr (b : Bud) : Ctr Go.Proofs.Tryz.prog tab 44 [29] [4] [b.v] [.bool (budgetOk b)] := by
  have hcode : True → True := id
  have hsl : True → True := id
  refine Ctr.body ok Go.Proofs.Tryz.func44 rfl rfl 31 rfl [.tmp 2] rfl (by simp [fromVs]) ?_
  simp only [fromVs, fromV, args0, V.toList_list, V.toInt_int, V.toBool_bool, Nat.zero_add, Nat.reduceAdd, ty29]
  repeat' first
    | ((with_reducible refine SARA.do fun R1 hR1 => ?_); (simp only [go_sem, seval, -List.reduceReplicate]); (repeat' with_reducible refine And.intro ?_ ?_); all_goals first | (refine hR1 _ ?_; clear hR1 R1) | omega | rfl | decide | assumption | (intro _; omega) | (simp; done) | (simp [-List.getD_eq_getElem?_getD]; omega) | exact hcode _ | (intro _; exact hcode _) | exact hsl _ | (intro _; exact hsl _) | (simp [-List.getD_eq_getElem?_getD, roomFor, maxLen, by3, by49, by52, by55, by41]; omega) | (simp [-List.getD_eq_getElem?_getD, roomFor, maxLen, by3, by49, by52, by55, by41]; done))
    | ((with_reducible refine SARA.nil ?_); refine hR _ ?_; clear hR R; try simp only [go_sem, lv44, lvOf, Nat.reduceBEq, Option.getD_some])
    | (with_reducible first | refine thenK.normal ?_ | refine SA.seq ?_ | refine SA.skip ?_ | refine SA.block ?_ | refine blockK.normal ?_ | refine SA.exit ?_ | refine blockK.hit ?_ | refine blockK.miss (by decide) ?_ | refine thenK.exit ?_ | refine loopK.exit ?_ | refine SA.ret ?_ | refine thenK.ret ?_ | refine blockK.ret ?_ | refine loopK.ret ?_ | refine SA.scope ?_ | refine scopeK.normal ?_ | refine scopeK.exit ?_ | refine scopeK.ret ?_ | refine SA.label ?_)
    | ((with_reducible refine SA.regionN ok (by kernel_rfl) lv44 ?_); intro R hR; simp only [go_sem, strip])
    | ((with_reducible first | refine ctrK.normal ?_ | refine ctrK.ret ?_)
       simp only [go_sem, resA, resV, backK, seval]
       refine ⟨rfl, ?_⟩
       rw [budgetOk_bif])

def lv21 : List (Nat × List Nat) := [(0, [1, 3, 5]), (1, [1, 5, 9]), (2, [6]), (3, [5, 11]), (4, [6]), (5, [14]), (6, [6]), (7, [6])]
-- scarab/scarabref09.Asked
theorem asked_ctr (p : Prg) (n : Int) (b : Bud) (hp : p.Fit) : Ctr Go.Proofs.Tryz.prog tab 21 [26, 3, 29] [3] [p.v, .int n, b.v] [.int (asked p n b)] := by
  have hpp := hp
  have hcode := p.code_len hp
  have hsl := p.sels_len hp
  refine Ctr.body ok Go.Proofs.Tryz.func21 rfl rfl 15 rfl [.tmp 6] rfl (by simp [fromVs]) ?_
  simp only [fromVs, fromV, args0, V.toList_list, V.toInt_int, V.toBool_bool, Nat.zero_add, Nat.reduceAdd, ty3, ty26, ty29]
  repeat' first
    | ((with_reducible refine SARA.do fun R1 hR1 => ?_); (simp only [go_sem, seval, -List.reduceReplicate]); (repeat' with_reducible refine And.intro ?_ ?_); all_goals first | (refine hR1 _ ?_; clear hR1 R1) | ((first | refine ⟨_, _, rfl, .inl ⟨_, CallQ.ctr ok (right_ctr p hpp) (by first | rfl | (simp [go_sem, ty27, List.take_of_length_le, List.length_map]; done) | fail) rfl, ?_⟩⟩ | refine ⟨_, _, rfl, .inl ⟨_, CallQ.ctr ok (budget_ctr b) (by first | rfl | (simp [go_sem, ty27, List.take_of_length_le, List.length_map]; done) | fail) rfl, ?_⟩⟩); all_goals ((try simp only [go_sem, seval, -List.reduceReplicate]); (repeat' with_reducible refine And.intro ?_ ?_); all_goals first | (refine hR1 _ ?_; clear hR1 R1) | omega | rfl | decide | assumption | (intro _; omega) | (simp; done) | (simp [-List.getD_eq_getElem?_getD]; omega) | exact hcode _ | (intro _; exact hcode _) | exact hsl _ | (intro _; exact hsl _) | (simp [-List.getD_eq_getElem?_getD, roomFor, maxLen, by3, by49, by52, by55, by41]; omega) | (simp [-List.getD_eq_getElem?_getD, roomFor, maxLen, by3, by49, by52, by55, by41]; done))) | omega | rfl | decide | assumption | (intro _; omega) | (simp; done) | (simp [-List.getD_eq_getElem?_getD]; omega) | exact hcode _ | (intro _; exact hcode _) | exact hsl _ | (intro _; exact hsl _) | (simp [-List.getD_eq_getElem?_getD, roomFor, maxLen, by3, by49, by52, by55, by41]; omega) | (simp [-List.getD_eq_getElem?_getD, roomFor, maxLen, by3, by49, by52, by55, by41]; done))
    | ((with_reducible refine SARA.nil ?_); refine hR _ ?_; clear hR R; try simp only [go_sem, lv21, lvOf, Nat.reduceBEq, Option.getD_some])
    | (with_reducible first | refine thenK.normal ?_ | refine SA.seq ?_ | refine SA.skip ?_ | refine SA.block ?_ | refine blockK.normal ?_ | refine SA.exit ?_ | refine blockK.hit ?_ | refine blockK.miss (by decide) ?_ | refine thenK.exit ?_ | refine loopK.exit ?_ | refine SA.ret ?_ | refine thenK.ret ?_ | refine blockK.ret ?_ | refine loopK.ret ?_ | refine SA.scope ?_ | refine scopeK.normal ?_ | refine scopeK.exit ?_ | refine scopeK.ret ?_ | refine SA.label ?_)
    | ((with_reducible refine SA.regionN ok (by kernel_rfl) lv21 ?_); intro R hR; simp only [go_sem, strip])
    | ((with_reducible refine SA.condAt 9 rfl (fun hb9 => ?_) (fun hb9 => ?_))
       all_goals
         try simp [-List.getD_eq_getElem?_getD] at hb9
         try (exfalso; omega))
    | ((with_reducible refine SA.condAt 11 rfl (fun hb11 => ?_) (fun hb11 => ?_))
       all_goals
         try simp [-List.getD_eq_getElem?_getD] at hb11
         try (exfalso; omega))
    | ((with_reducible refine SA.condAt 14 rfl (fun hb14 => ?_) (fun hb14 => ?_))
       all_goals
         try simp [-List.getD_eq_getElem?_getD] at hb14
         try (exfalso; omega))
    | ((with_reducible first | refine ctrK.normal ?_ | refine ctrK.ret ?_)
       simp only [go_sem, resA, resV, backK, seval]
       first
         | (have q : _ = false := hb9
            refine ⟨rfl, ?_⟩
            rw [show asked p n b = 3 from if_pos hb9])
         | (have q : _ = false := hb14
            refine ⟨rfl, ?_⟩
            rw [show asked p n b = 6 from (if_neg (by rw [hb9]; simp)).trans ((if_neg (by omega)).trans (if_pos hb14))])
         | (have q : _ = true := hb14
            refine ⟨rfl, ?_⟩
            rw [show asked p n b = 0 from (if_neg (by rw [hb9]; simp)).trans ((if_neg (by omega)).trans (if_neg (by rw [hb14]; simp)))])
         | (refine ⟨rfl, ?_⟩
            rw [show asked p n b = 2 from (if_neg (by rw [hb9]; simp)).trans (if_pos (by omega))]))

def lv10 : List (Nat × List Nat) := [(0, [1, 3, 5]), (1, [1, 3, 5, 10]), (2, [1, 3, 5, 10, 19]), (3, [6, 7, 8, 9]), (4, [1, 3, 5, 25]), (5, [6, 7, 8, 9]), (6, [1, 11, 12]), (7, [11, 12, 39]), (8, [6, 7, 8, 9]), (9, [6, 7, 8, 9])]
-- scarab/scarabref09.States
theorem states_ctr (p : Prg) (l : List Pck) (b : Bud) (hp : p.Fit) (hl : l.length ≤ maxLen) : Ctr Go.Proofs.Tryz.prog tab 10 [26, 27, 29] [63, 30, 3, 3] [p.v, .list (l.map Pck.v), b.v] [.list ((statesOf p l b).1.map Stt.v), .list ((statesOf p l b).2.1.map Event.v), .int (statesOf p l b).2.2.1, .int (statesOf p l b).2.2.2] := by
  have hpp := hp
  have hcode := p.code_len hp
  have hsl := p.sels_len hp
  refine Ctr.body ok Go.Proofs.Tryz.func10 rfl rfl 44 rfl [.tmp 6, .tmp 7, .tmp 8, .tmp 9] rfl (by simp [fromVs]) ?_
  simp only [fromVs, fromV, args0, V.toList_list, V.toInt_int, V.toBool_bool, Nat.zero_add, Nat.reduceAdd, ty26, ty27, ty29]
  repeat' first
    | ((with_reducible first | refine SARA.do fun R1 hR1 => ?_ | refine SARQ.do fun R1 hR1 => ?_); (simp only [go_sem, seval, -List.reduceReplicate]); (repeat' with_reducible refine And.intro ?_ ?_); all_goals first | (refine hR1 _ ?_; clear hR1 R1) | ((first | refine ⟨_, _, rfl, _, CallQ.ctr ok (asked_ctr p _ b hpp) (by first | rfl | (simp [go_sem, ty27, List.take_of_length_le, List.length_map]; done) | fail) rfl, ?_⟩ | refine ⟨_, _, rfl, .inl ⟨_, CallQ.ctr ok (asked_ctr p _ b hpp) (by first | rfl | (simp [go_sem, ty27, List.take_of_length_le, List.length_map]; done) | fail) rfl, ?_⟩⟩ | refine ⟨_, _, rfl, .inr (CallE.ctr ok (walk_ctr p l b hpp hr hfu (by omega)) (by first | rfl | (simp [go_sem, ty27, List.take_of_length_le, List.length_map]; done) | fail) ?_)⟩); all_goals ((try simp only [go_sem, seval, -List.reduceReplicate]); (repeat' with_reducible refine And.intro ?_ ?_); all_goals first | (refine hR1 _ ?_; clear hR1 R1) | omega | rfl | decide | assumption | (intro _; omega) | (simp; done) | (simp [-List.getD_eq_getElem?_getD]; omega) | exact hcode _ | (intro _; exact hcode _) | exact hsl _ | (intro _; exact hsl _) | (simp [-List.getD_eq_getElem?_getD, roomFor, maxLen, by3, by49, by52, by55, by41]; omega) | (simp [-List.getD_eq_getElem?_getD, roomFor, maxLen, by3, by49, by52, by55, by41]; done))) | omega | rfl | decide | assumption | (intro _; omega) | (simp; done) | (simp [-List.getD_eq_getElem?_getD]; omega) | exact hcode _ | (intro _; exact hcode _) | exact hsl _ | (intro _; exact hsl _) | (simp [-List.getD_eq_getElem?_getD, roomFor, maxLen, by3, by49, by52, by55, by41]; omega) | (simp [-List.getD_eq_getElem?_getD, roomFor, maxLen, by3, by49, by52, by55, by41]; done))
    | ((with_reducible refine SARA.nil ?_); refine hR _ ?_; clear hR R; try simp only [go_sem, lv10, lvOf, Nat.reduceBEq, Option.getD_some])
    | ((with_reducible refine SARQ.nil ?_); refine hR _ ?_; clear hR R; try simp only [go_sem, lv10, lvOf, Nat.reduceBEq, Option.getD_some])
    | (with_reducible first | refine thenK.normal ?_ | refine SA.seq ?_ | refine SA.skip ?_ | refine SA.block ?_ | refine blockK.normal ?_ | refine SA.exit ?_ | refine blockK.hit ?_ | refine blockK.miss (by decide) ?_ | refine thenK.exit ?_ | refine loopK.exit ?_ | refine SA.ret ?_ | refine thenK.ret ?_ | refine blockK.ret ?_ | refine loopK.ret ?_ | refine SA.scope ?_ | refine scopeK.normal ?_ | refine scopeK.exit ?_ | refine scopeK.ret ?_ | refine SA.label ?_)
    | ((with_reducible refine SA.at 6 ?_)
       obtain ⟨hr, hl6, hst, hfu⟩ := asked_ok hb19
       have hl2 := statesTo_len applyW p b.fuel (start applyW p b.fuel).1 l (stopAt applyW p b.fuel (start applyW p b.fuel).1 l)
       have het := eventsTo_len applyW p b.fuel (start applyW p b.fuel).1 l (stopAt applyW p b.fuel (start applyW p b.fuel).1 l)
       have hnl := stopAt_le applyW p b.fuel (start applyW p b.fuel).1 l
       (with_reducible refine SA.regionN ok (by kernel_rfl) lv10 ?_); intro R hR; simp only [go_sem, strip])
    | ((with_reducible refine SA.regionN ok (by kernel_rfl) lv10 ?_); intro R hR; simp only [go_sem, strip])
    | ((with_reducible refine SA.regionD ok mixed (by kernel_rfl) (by kernel_rfl) lv10 ?_); intro R hR; simp only [go_sem, strip])
    | ((with_reducible refine SA.condAt 19 rfl (fun hb19 => ?_) (fun hb19 => ?_))
       all_goals
         try simp [-List.getD_eq_getElem?_getD] at hb19
         try (exfalso; omega))
    | ((with_reducible refine SA.condAt 25 rfl (fun hb25 => ?_) (fun hb25 => ?_))
       all_goals
         try simp [-List.getD_eq_getElem?_getD] at hb25
         try (exfalso; omega))
    | ((with_reducible refine SA.condAt 39 rfl (fun hb39 => ?_) (fun hb39 => ?_))
       all_goals
         try simp [-List.getD_eq_getElem?_getD] at hb39
         try (exfalso; omega))
    | ((with_reducible first | refine ctrK.normal ?_ | refine ctrK.ret ?_)
       simp only [go_sem, resA, resV, backK, seval]
       first
         | (have q : ¬_ := hb19
            have e : statesOf p l b = ([], [], asked p l.length b, 0) := if_pos hb19
            rw [e]
            exact ⟨⟨rfl, rfl⟩, ⟨rfl, rfl⟩, ⟨rfl, rfl⟩, ⟨rfl, rfl⟩⟩)
         | (have q := hb25
            have e : statesOf p l b = ([], [], 2, b.steps) := (if_neg (fun h => h hb19)).trans (if_pos hb25)
            rw [e]
            exact ⟨⟨rfl, rfl⟩, ⟨rfl, rfl⟩, ⟨rfl, rfl⟩, ⟨rfl, rfl⟩⟩)
         | (have q := hb39
            have e : statesOf p l b = ([], [], 5, ((stopAt applyW p b.fuel (start applyW p b.fuel).1 l) : Int)) := (if_neg (fun h => h hb19)).trans ((if_neg (Int.not_lt.2 hb25)).trans (if_pos (by omega)))
            rw [e, het]
            exact ⟨⟨rfl, rfl⟩, ⟨rfl, rfl⟩, ⟨rfl, rfl⟩, ⟨rfl, rfl⟩⟩)
         | (have e : statesOf p l b = (statesTo applyW p b.fuel (start applyW p b.fuel).1 l (stopAt applyW p b.fuel (start applyW p b.fuel).1 l), eventsTo applyW p b.fuel (start applyW p b.fuel).1 l (stopAt applyW p b.fuel (start applyW p b.fuel).1 l), 0, 0) := (if_neg (fun h => h hb19)).trans ((if_neg (Int.not_lt.2 hb25)).trans (if_neg (by omega)))
            rw [e]
            refine ⟨⟨rfl, ?_, ?_⟩, ⟨rfl, ?_, ?_⟩, ⟨rfl, rfl⟩, ⟨rfl, rfl⟩⟩
            · rw [List.take_of_length_le (by rw [List.length_map]; exact Nat.le_refl _)]
            · intro e he j u lo n c h
              simp only [List.mem_cons, List.not_mem_nil, or_false] at he
              rcases he with he | he | he <;> rw [he] at h <;> cases h <;> decide
            · rw [List.take_of_length_le (by rw [List.length_map]; exact Nat.le_refl _)]
            · intro e he j u lo n c h
              simp only [List.mem_cons, List.not_mem_nil, or_false] at he
              rcases he with he | he <;> rw [he] at h <;> cases h))

end Go.Eng.Tryz
namespace Go.Eng.Tryz
open Go.RowKit Go.Eng
set_option linter.unusedSimpArgs false
set_option linter.unusedVariables false
set_option maxHeartbeats 0
set_option maxRecDepth 20000

structure Trc where
  events : List Event
  end_ : Stt
  cut : Bool
  deriving Inhabited
def Trc.v (t : Trc) : V := .agg [.list (t.events.map Event.v), t.end_.v, .bool t.cut]
theorem zeroTrace_at : tab.zero 43 = Trc.v ⟨[], zeroStt, false⟩ := rfl
theorem Trc.put0 (t : Trc) (l : List Event) : V.setSub t.v 0 (.list (l.map Event.v)) = Trc.v ⟨l, t.end_, t.cut⟩ := rfl
theorem Trc.put1 (t : Trc) (s : Stt) : V.setSub t.v 1 s.v = Trc.v ⟨t.events, s, t.cut⟩ := rfl
theorem Trc.put2 (t : Trc) (b : Bool) : V.setSub t.v 2 (.bool b) = Trc.v ⟨t.events, t.end_, b⟩ := rfl
abbrev lastOf (p : Prg) (l : List Pck) (b : Bud) : Stt := stateAt applyW p b.fuel (start applyW p b.fuel).1 l l.length
abbrev eventsOf (p : Prg) (l : List Pck) (b : Bud) : List Event := eventsTo applyW p b.fuel (start applyW p b.fuel).1 l l.length
def runOf (p : Prg) (l : List Pck) (b : Bud) : Trc × Int × Int :=
  if (statesOf p l b).2.2.1 ≠ 0 then (⟨[], zeroStt, false⟩, (statesOf p l b).2.2.1, (statesOf p l b).2.2.2)
  else (⟨eventsOf p l b, lastOf p l b, decide ((l.length : Int) = b.steps) && decide (0 < (ready p (lastOf p l b)).length)⟩, 0, 0)
structure RunOk (p : Prg) (l : List Pck) (b : Bud) : Prop where
  eq : statesOf p l b = (statesTo applyW p b.fuel (start applyW p b.fuel).1 l l.length, eventsOf p l b, 0, 0)
  right : rightP p = true
  len : l.length ≤ 256
  fuel : 0 ≤ b.fuel ∧ b.fuel ≤ 4096
  stop : stopAt applyW p b.fuel (start applyW p b.fuel).1 l = l.length
theorem statesOf_ok {p : Prg} {l : List Pck} {b : Bud} (h : (statesOf p l b).2.2.1 = 0) : RunOk p l b := by
  unfold statesOf at h
  by_cases h1 : asked p l.length b ≠ 0
  · rw [if_pos h1] at h; exact absurd h h1
  have h1' : asked p l.length b = 0 := Decidable.not_not.1 h1
  rw [if_neg h1] at h
  by_cases h2 : b.steps < l.length
  · rw [if_pos h2] at h; cases h
  rw [if_neg h2] at h
  by_cases h3 : stopAt applyW p b.fuel (start applyW p b.fuel).1 l < l.length
  · simp only [h3, if_true] at h; exact absurd h (by decide)
  have hle := stopAt_le applyW p b.fuel (start applyW p b.fuel).1 l
  have e : stopAt applyW p b.fuel (start applyW p b.fuel).1 l = l.length := by omega
  obtain ⟨q1, q2, _, q4⟩ := asked_ok h1'
  refine ⟨?_, q1, by omega, q4, e⟩
  refine (if_neg h1).trans ((if_neg h2).trans ?_)
  simp only [e, Nat.lt_irrefl, if_false]
theorem statesTo_last (p : Prg) (fuel : Int) (s : Stt) (l : List Pck) (n : Nat) : (statesTo applyW p fuel s l n).getD n default = stateAt applyW p fuel s l n := by
  unfold statesTo
  exact rows_getD (by omega) _ _
attribute [go_sem] Trc.put0 Trc.put1 Trc.put2

def lv4 : List (Nat × List Nat) := [(0, [1, 3, 5, 6]), (1, [1, 3, 5, 6, 9, 10, 11, 12]), (2, [1, 3, 5, 6, 9, 10, 11, 12, 25]), (3, [6, 7, 8]), (4, [1, 3, 5, 6, 10, 13]), (5, [6, 10, 13, 14]), (6, [6, 7, 8])]
-- scarab/scarabref09.Run
theorem run_ctr (p : Prg) (l : List Pck) (b : Bud) (hp : p.Fit) (hl : l.length ≤ maxLen) : CtrZ Go.Proofs.Tryz.prog tab 4 [26, 27, 29] [43, 3, 3] [p.v, .list (l.map Pck.v), b.v] [(runOf p l b).1.v, .int (runOf p l b).2.1, .int (runOf p l b).2.2] := by
  have hpp := hp
  have hcode := p.code_len hp
  have hsl := p.sels_len hp
  have hmx : 256 < maxLen := by decide
  refine CtrZ.body ok Go.Proofs.Tryz.func4 rfl rfl 51 rfl [.cell 6 43, .tmp 7, .tmp 8] rfl (by simp [fromVs]) ?_
  simp only [fromVs, fromV, args0, V.toList_list, V.toInt_int, V.toBool_bool, Nat.zero_add, Nat.reduceAdd, ty26, ty27, ty29]
  repeat' first
    | ((with_reducible refine SARW.told 5 9 ?_)
       first | (refine SARW.weak (St.le.unsaid 43 .nilsl rfl) ?_) | skip)
    | ((with_reducible refine SARA.told 4 4 ?_)
       rw [hwr])
    | ((with_reducible refine SARA.told 4 6 ?_)
       rw [getD_map Stt.v _ (by rw [hsl2]; omega), statesTo_last])
    | ((with_reducible first | refine SARA.do fun R1 hR1 => ?_ | refine SARW.do fun R1 hR1 => ?_); (simp only [go_sem, seval, -List.reduceReplicate, zeroTrace_at]); (repeat' with_reducible refine And.intro ?_ ?_); all_goals first | (refine hR1 _ ?_; clear hR1 R1) | (intro hgf; simp only [hgf]; refine hR1 _ ?_; clear hR1 R1) | ((first | refine ⟨_, _, rfl, .inr (CallE.ctr ok (states_ctr p l b hpp hl) (by first | rfl | (simp [go_sem, ty27, List.take_of_length_le, List.length_map]; done) | fail) ?_)⟩ | refine ⟨_, _, rfl, .inr ⟨fun _ => CallE.ctr ok (states_ctr p l b hpp hl) (by first | rfl | (simp [go_sem, ty27, List.take_of_length_le, List.length_map]; done) | fail) ?_, ?_⟩⟩ | refine ⟨_, _, rfl, .inr (CallE.ctr ok (ready_ctr p _ hpp hro.right hw) (by first | rfl | (simp [go_sem, ty27, List.take_of_length_le, List.length_map]; done) | fail) ?_)⟩ | refine ⟨_, _, rfl, .inr ⟨fun _ => CallE.ctr ok (ready_ctr p _ hpp hro.right hw) (by first | rfl | (simp [go_sem, ty27, List.take_of_length_le, List.length_map]; done) | fail) ?_, ?_⟩⟩); all_goals ((try simp only [go_sem, seval, -List.reduceReplicate, zeroTrace_at]); (repeat' with_reducible refine And.intro ?_ ?_); all_goals first | (refine hR1 _ ?_; clear hR1 R1) | (intro hgf; simp only [hgf]; refine hR1 _ ?_; clear hR1 R1) | omega | rfl | decide | assumption | (intro _; omega) | (simp; done) | (simp [-List.getD_eq_getElem?_getD]; omega) | exact hcode _ | (intro _; exact hcode _) | exact hsl _ | (intro _; exact hsl _) | (simp [-List.getD_eq_getElem?_getD, roomFor, maxLen, by3, by49, by52, by55, by41]; omega) | (simp [-List.getD_eq_getElem?_getD, roomFor, maxLen, by3, by49, by52, by55, by41]; done))) | omega | rfl | decide | assumption | (intro _; omega) | (simp; done) | (simp [-List.getD_eq_getElem?_getD]; omega) | exact hcode _ | (intro _; exact hcode _) | exact hsl _ | (intro _; exact hsl _) | (simp [-List.getD_eq_getElem?_getD, roomFor, maxLen, by3, by49, by52, by55, by41]; omega) | (simp [-List.getD_eq_getElem?_getD, roomFor, maxLen, by3, by49, by52, by55, by41]; done))
    | ((with_reducible refine SARA.nil ?_); refine hR _ ?_; clear hR R; try simp only [go_sem, lv4, lvOf, Nat.reduceBEq, Option.getD_some])
    | ((with_reducible refine SARW.nil ?_); refine hR _ ?_; clear hR R; try simp only [go_sem, lv4, lvOf, Nat.reduceBEq, Option.getD_some])
    | (with_reducible first | refine thenK.normal ?_ | refine SA.seq ?_ | refine SA.skip ?_ | refine SA.block ?_ | refine blockK.normal ?_ | refine SA.exit ?_ | refine blockK.hit ?_ | refine blockK.miss (by decide) ?_ | refine thenK.exit ?_ | refine loopK.exit ?_ | refine SA.ret ?_ | refine thenK.ret ?_ | refine blockK.ret ?_ | refine loopK.ret ?_ | refine SA.scope ?_ | refine scopeK.normal ?_ | refine scopeK.exit ?_ | refine scopeK.ret ?_ | refine SA.label ?_)
    | ((with_reducible refine SA.at 4 ?_)
       have hro := statesOf_ok hb25
       have hok := Prg.ok hro.right
       have hw : Wf p (lastOf p l b) := stateAt_wf applyW hok b.fuel (start_wf applyW hok b.fuel) l l.length
       have hsl2 := statesTo_len applyW p b.fuel (start applyW p b.fuel).1 l l.length
       have hl6 := hro.len
       have hrl : (ready p (lastOf p l b)).length ≤ maxLen := by
         have := readyTo_len hok hw (lastOf p l b).count.toNat
         have := hw.count
         unfold ready
         omega
       simp only [hro.eq, hsl2]
       have hwr : IntKind.i64.wrap (((l.length + 1 : Nat) : Int) - 1) = (l.length : Int) := by
         rw [wrap64_ok (by omega) (by omega)]
         omega
       (with_reducible refine SA.regionN ok (by kernel_rfl) lv4 ?_); intro R hR; simp only [go_sem, strip])
    | ((with_reducible refine SA.at 6 ?_)
       refine SA.weaken (St.le.frzRow ok.sized 4 rfl) ?_
       simp only [St.frz, Tm.frz, E.frz, E.frzL, Obj.frz, List.map_cons, List.map_nil, List.set_cons_zero, List.set_cons_succ, Nat.reduceBEq, Nat.beq_refl, if_true, if_false, Nat.beq_eq_true_eq, reduceCtorEq, Bool.false_eq_true, V.get, Nat.reduceEqDiff]
       (with_reducible refine SA.regionN ok (by kernel_rfl) lv4 ?_); intro R hR; simp only [go_sem, strip])
    | ((with_reducible refine SA.at 5 ?_)
       skip
       (with_reducible refine SA.regionWN ok (by kernel_rfl) lv4 ?_); intro R hR; simp only [go_sem, strip])
    | ((with_reducible refine SA.regionN ok (by kernel_rfl) lv4 ?_); intro R hR; simp only [go_sem, strip])
    | ((with_reducible refine SA.condAt 25 rfl (fun hb25 => ?_) (fun hb25 => ?_))
       all_goals
         try simp [-List.getD_eq_getElem?_getD] at hb25
         try (exfalso; omega))
    | ((with_reducible first | refine ctrZK.normal ?_ | refine ctrZK.ret ?_)
       simp only [go_sem, resA, resV, backK, seval]
       first
         | (have q : ¬_ := hb25
            rw [show runOf p l b = (⟨[], zeroStt, false⟩, (statesOf p l b).2.2.1, (statesOf p l b).2.2.2) from if_pos hb25])
         | (rw [show runOf p l b = (⟨eventsOf p l b, (lastOf p l b), decide ((l.length : Int) = b.steps) && decide (0 < (ready p (lastOf p l b)).length)⟩, 0, 0) from if_neg (fun h => h hb25)]
            first | rw [hgf] | skip
            simp [Trc.v, List.take_of_length_le, V.setSub]))

end Go.Eng.Tryz
