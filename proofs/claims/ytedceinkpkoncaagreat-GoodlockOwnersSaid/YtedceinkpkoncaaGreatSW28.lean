/- A part of the proof: walks through the program's functions, and what they compute. -/
import Derived.Test.YtedceinkpkoncaaGreatV5
import Derived.Test.YtedceinkpkoncaaGreatM5
import Derived.Test.YtedceinkpkoncaaGreatOW37
import Derived.Test.YtedceinkpkoncaaGreatOW31
import Derived.Test.YtedceinkpkoncaaGreatOW8
namespace Go.Eng.Tryz
open Go.RowKit Go.Eng
set_option linter.unusedSimpArgs false
set_option linter.unusedVariables false
set_option maxHeartbeats 0
set_option maxRecDepth 20000

theorem Trc.v0 (t : Trc) (d : V) : t.v.toList.getD 0 d = .list (t.events.map Event.v) := rfl
theorem Trc.v1 (t : Trc) (d : V) : t.v.toList.getD 1 d = t.end_.v := rfl
theorem Trc.v2 (t : Trc) (d : V) : t.v.toList.getD 2 d = .bool t.cut := rfl
attribute [go_sem] Trc.v0 Trc.v1 Trc.v2
theorem runOf_ok {p : Prg} {l : List Pck} {b : Bud} (h : (runOf p l b).2.1 = 0) : RunOk p l b ∧ ∃ cu, runOf p l b = (⟨eventsOf p l b, lastOf p l b, cu⟩, 0, 0) := by
  by_cases h1 : (statesOf p l b).2.2.1 ≠ 0
  · rw [show runOf p l b = (⟨[], zeroStt, false⟩, (statesOf p l b).2.2.1, (statesOf p l b).2.2.2) from if_pos h1] at h
    exact absurd h h1
  · exact ⟨statesOf_ok (Decidable.not_not.1 h1), _, if_neg h1⟩
theorem runOf_len (p : Prg) (l : List Pck) (b : Bud) : (runOf p l b).1.events.length ≤ l.length := by
  by_cases h1 : (statesOf p l b).2.2.1 ≠ 0
  · rw [show runOf p l b = (⟨[], zeroStt, false⟩, (statesOf p l b).2.2.1, (statesOf p l b).2.2.2) from if_pos h1]; exact Nat.zero_le _
  · rw [show runOf p l b = (⟨eventsOf p l b, lastOf p l b, decide ((l.length : Int) = b.steps) && decide (0 < (ready p (lastOf p l b)).length)⟩, 0, 0) from if_neg h1]
    exact Nat.le_of_eq (eventsTo_len applyW p b.fuel _ l l.length)
theorem evs_snoc (l : List Event) (e : Event) : l.map Event.v ++ [e.v] = (l ++ [e]).map Event.v := by simp
theorem take_evs (l : List Event) : List.take l.length (l.map Event.v) = l.map Event.v := List.take_of_length_le (by simp)
theorem take_ints (l : List Int) : List.take l.length (l.map V.int) = l.map V.int := List.take_of_length_le (by simp)
theorem take_snoc (l : List Event) (v : V) : List.take (l.length + 1) (l.map Event.v ++ [v]) = l.map Event.v ++ [v] := List.take_of_length_le (by simp)
theorem ints_snoc (l : List Int) (e : Int) : l.map V.int ++ [.int e] = (l ++ [e]).map V.int := by simp
theorem owners_run {p : Prg} {l : List Pck} {b : Bud} (h : (runOf p l b).2.1 = 0) : ∃ (ev : List Event) (la : Stt) (cu : Bool), runOf p l b = (⟨ev, la, cu⟩, 0, 0) ∧ rightP p = true ∧ Wf p la ∧ ev.length ≤ 256 ∧
    ∀ x ∈ ready p la, ∀ e : Event, e = (doStep applyW p la x b.fuel).2.1 → (∀ y ∈ ev ++ [e], y.touch.length = 6) ∧ (ev.length + 1 ≤ 256 → check (ev ++ [e]) = 0 ∧ numsOf (heldOf (ev ++ [e]) ev.length) 4 = ownsTo la x.go 4) := by
  obtain ⟨hro, cu, hrun⟩ := runOf_ok h
  have hok := Prg.ok hro.right
  have hlast : ∀ j, j < l.length → okAtR applyW p b.fuel (start applyW p b.fuel).1 l j = true := fun j hj => stopAt_ok applyW (by rw [hro.stop]; exact hj)
  have hel := eventsTo_len applyW p b.fuel (start applyW p b.fuel).1 l l.length
  refine ⟨_, _, cu, hrun, hro.right, stateAt_wf applyW hok b.fuel (start_wf applyW hok b.fuel) l l.length, by rw [hel]; exact hro.len, fun x hx e he => ?_⟩
  have := own_last applyW_ok hro.right hok hro.fuel hlast hx he
  refine ⟨this.1, fun q => ?_⟩
  rw [hel] at q ⊢
  exact this.2 q
theorem err_zero {t : List Event} {i : Nat} (h : check t = 0) (hi : i < t.length) : O.heldErr t i = 0 := by
  unfold O.heldErr
  rw [if_neg (by omega), if_neg (by omega)]
theorem res_nums {t : List Event} {i : Nat} (h : check t = 0) (hi : i < t.length) : O.heldRes t i = numsOf (heldOf t i) 4 := by
  unfold O.heldRes
  rw [if_pos (err_zero h hi), Int.toNat_natCast]

def lv3 : List (Nat × List Nat) := [(0, [1, 3, 5]), (1, [3, 5, 7, 8]), (2, [3, 5, 7, 37]), (3, [6]), (4, [3, 5, 7, 10]), (5, [3, 5, 7, 43, 44, 45]), (6, [3, 5, 7, 43, 44, 45, 46]), (7, [3, 5, 7, 12, 43, 44, 45]), (8, [3, 5, 7, 12, 14, 43, 44, 45]), (9, [3, 5, 7, 12, 14, 16, 43, 44, 45]), (10, [3, 5, 7, 12, 14, 16, 43, 44, 45]), (11, [3, 5, 7, 12, 16, 43, 44, 45]), (12, [3, 5, 7, 12, 16, 43, 44, 45, 70]), (13, [6]), (14, [3, 5, 7, 12, 17, 18, 43, 44, 45]), (15, [3, 5, 7, 12, 17, 43, 44, 45, 81]), (16, [6]), (17, [3, 5, 7, 12, 17, 19, 43, 44, 45]), (18, [3, 5, 7, 12, 17, 19, 43, 44, 45, 84, 85]), (19, [3, 5, 7, 12, 17, 19, 43, 44, 45, 84, 85, 86]), (20, [3, 5, 7, 12, 17, 19, 20, 21, 43, 44, 45, 84, 85]), (21, [3, 5, 7, 12, 17, 19, 20, 43, 44, 45, 84, 85, 93]), (22, [3, 5, 7, 12, 17, 19, 43, 44, 45, 84, 85]), (23, [3, 5, 7, 12, 17, 19, 43, 44, 45, 84, 85]), (24, [3, 5, 7, 43, 44, 45, 102]), (25, [6]), (26, [3, 5, 7, 43, 44, 45]), (27, [6])]
-- scarab/scarablaw25.GoodlockOwners
theorem lawOwners_ctr (p : Prg) (l : List Pck) (b : Bud) (hp : p.Fit) (hl : l.length ≤ maxLen) : Ctr Go.Proofs.Tryz.prog tab 3 [26, 27, 29] [4] [p.v, .list (l.map Pck.v), b.v] [.bool true] := by
  have hpp := hp
  have hcode := p.code_len hp
  have hsl := p.sels_len hp
  have hmx : 257 < maxLen := by decide
  have hrn : (runOf p l b).1.events.length ≤ maxLen := Nat.le_trans (runOf_len p l b) hl
  refine Ctr.body ok Go.Proofs.Tryz.func3 rfl rfl 105 rfl [.tmp 6] rfl (by simp [fromVs]) ?_
  simp only [fromVs, fromV, args0, V.toList_list, V.toInt_int, V.toBool_bool, Nat.zero_add, Nat.reduceAdd, ty26, ty27, ty29]
  repeat' first
    | ((with_reducible refine SARA.told 21 4 ?_)
       rw [hwg])
    | ((with_reducible refine SARA.told 7 2 ?_)
       rw [getD_map Pck.v rd (by omega)])
    | ((with_reducible refine SARA.told 14 4 ?_)
       rw [wrap64_ok (n := ((ev.length + 1 : Nat) : Int) - 1) (by omega) (by omega), show ((ev.length + 1 : Nat) : Int) - 1 = (ev.length : Int) by omega])
    | ((with_reducible refine SARA.do fun R1 hR1 => ?_); (simp only [go_sem, seval, -List.reduceReplicate, zeroEvent_at, zeroState_at, zeroTrace_at, List.drop_zero, List.take_succ_cons, List.take_zero, take_evs, take_ints, evs_snoc, ints_snoc]); (repeat' with_reducible refine And.intro ?_ ?_); all_goals first | (refine hR1 _ ?_; clear hR1 R1) | ((first | refine ⟨_, _, rfl, .inr (CallE.ctrZ (run_ctr p l b hpp hl) (by first | rfl | (simp [go_sem, ty27, ty30, List.take_of_length_le, List.length_map, take_snoc]; done) | fail) ?_)⟩ | refine ⟨_, _, rfl, .inl ⟨_, CallQ.ctr ok (O.small_ctr) (by first | rfl | (simp [go_sem, ty27, ty30, List.take_of_length_le, List.length_map, take_snoc]; done) | fail) rfl, ?_⟩⟩ | refine ⟨_, _, rfl, .inr (CallE.ctr ok (ready_ctr p la hpp hr hw) (by first | rfl | (simp [go_sem, ty27, ty30, List.take_of_length_le, List.length_map, take_snoc]; done) | fail) ?_)⟩ | refine ⟨_, _, rfl, .inr (CallE.ctr ok (do_ctr p la (rd.getD i default) b.fuel hpp hr hw) (by first | rfl | (simp [go_sem, ty27, ty30, List.take_of_length_le, List.length_map, take_snoc]; done) | fail) ?_)⟩ | refine ⟨_, _, rfl, .inr (CallE.ctr ok (O.Held_ctr (ev ++ [(doStep applyW p la (rd.getD i default) b.fuel).2.1]) (ev.length : Int) hul hu6) (by first | rfl | (simp [go_sem, ty27, ty30, List.take_of_length_le, List.length_map, take_snoc]; done) | fail) ?_)⟩ | refine ⟨_, _, rfl, .inl ⟨_, CallQ.ctr ok (O.sameInts_ctr (O.heldRes (ev ++ [(doStep applyW p la (rd.getD i default) b.fuel).2.1]) ev.length) (ownsTo la (rd.getD i default).go 4) hsh hso) (by first | rfl | (simp [go_sem, ty27, ty30, List.take_of_length_le, List.length_map, take_snoc]; done) | fail) rfl, ?_⟩⟩); all_goals ((try simp only [go_sem, seval, -List.reduceReplicate, zeroEvent_at, zeroState_at, zeroTrace_at, List.drop_zero, List.take_succ_cons, List.take_zero, take_evs, take_ints, evs_snoc, ints_snoc]); (repeat' with_reducible refine And.intro ?_ ?_); all_goals first | (refine hR1 _ ?_; clear hR1 R1) | omega | rfl | decide | assumption | (intro _; omega) | (simp; done) | (simp [-List.getD_eq_getElem?_getD]; omega) | exact hcode _ | (intro _; exact hcode _) | exact hsl _ | (intro _; exact hsl _) | (simp [-List.getD_eq_getElem?_getD, roomFor, maxLen, by3, by49, by52, by55, by41]; omega) | (simp [-List.getD_eq_getElem?_getD, roomFor, maxLen, by3, by49, by52, by55, by41]; done) | (intro _; exact hrn))) | omega | rfl | decide | assumption | (intro _; omega) | (simp; done) | (simp [-List.getD_eq_getElem?_getD]; omega) | exact hcode _ | (intro _; exact hcode _) | exact hsl _ | (intro _; exact hsl _) | (simp [-List.getD_eq_getElem?_getD, roomFor, maxLen, by3, by49, by52, by55, by41]; omega) | (simp [-List.getD_eq_getElem?_getD, roomFor, maxLen, by3, by49, by52, by55, by41]; done) | (intro _; exact hrn))
    | ((with_reducible refine SARA.nil ?_); refine hR _ ?_; clear hR R; try simp only [go_sem, lv3, lvOf, Nat.reduceBEq, Option.getD_some])
    | (with_reducible first | refine thenK.normal ?_ | refine SA.seq ?_ | refine SA.skip ?_ | refine SA.block ?_ | refine blockK.normal ?_ | refine SA.exit ?_ | refine blockK.hit ?_ | refine blockK.miss (by decide) ?_ | refine thenK.exit ?_ | refine loopK.exit ?_ | refine SA.ret ?_ | refine thenK.ret ?_ | refine blockK.ret ?_ | refine loopK.ret ?_ | refine SA.scope ?_ | refine scopeK.normal ?_ | refine scopeK.exit ?_ | refine scopeK.ret ?_ | refine SA.label ?_)
    | ((with_reducible refine SA.at 4 ?_)
       obtain ⟨ev, la, cu, hrun, hr, hw, hel, hown⟩ := owners_run hb37.1
       rw [hrun] at hb37 hrn ⊢
       have hok := Prg.ok hr
       have hcn := hw.count
       (with_reducible refine SA.regionN ok (by kernel_rfl) lv3 ?_); intro R hR; simp only [go_sem, strip])
    | ((with_reducible refine SA.at 5 ?_)
       have hrl : (ready p la).length ≤ 30 := by
         have := readyTo_len hok hw la.count.toNat
         unfold ready
         omega
       obtain ⟨rd, hrd⟩ : ∃ rd, rd = ready p la := ⟨_, rfl⟩
       rw [← hrd] at hown hrl ⊢
       (with_reducible refine SA.regionN ok (by kernel_rfl) lv3 ?_); intro R hR; simp only [go_sem, strip])
    | ((with_reducible refine SA.at 7 ?_)
       have hirm : (rd.getD i default) ∈ rd := getD_mem _ (by omega)
       have hgo : 0 ≤ (rd.getD i default).go ∧ (rd.getD i default).go < la.count := (ready_mem.1 (by rw [← hrd]; exact hirm)).1
       obtain ⟨hu6, hud⟩ := hown _ hirm _ rfl
       (with_reducible refine SA.regionN ok (by kernel_rfl) lv3 ?_); intro R hR; simp only [go_sem, strip])
    | ((with_reducible refine SA.at 14 ?_)
       have hul : (ev ++ [(doStep applyW p la (rd.getD i default) b.fuel).2.1]).length ≤ maxLen := by rw [List.length_append]; simp; omega
       obtain ⟨hch, hnums⟩ := hud (by omega)
       have herr := err_zero hch (i := ev.length) (by simp)
       have hrs := res_nums hch (i := ev.length) (by simp)
       have hres : O.heldRes (ev ++ [(doStep applyW p la (rd.getD i default) b.fuel).2.1]) ev.length = ownsTo la (rd.getD i default).go 4 := by rw [hrs, ← hnums]
       have hsh : (O.heldRes (ev ++ [(doStep applyW p la (rd.getD i default) b.fuel).2.1]) ev.length).length ≤ maxLen := by rw [hres]; have := ownsTo_len la (rd.getD i default).go 4; omega
       have hso : (ownsTo la (rd.getD i default).go 4).length ≤ maxLen := by have := ownsTo_len la (rd.getD i default).go 4; omega
       (with_reducible refine SA.regionN ok (by kernel_rfl) lv3 ?_); intro R hR; simp only [go_sem, strip])
    | ((with_reducible refine SA.at 21 ?_)
       have hwg : IntKind.i64.wrap ((rd.getD i default).go + 1) = (rd.getD i default).go + 1 := wrap64_ok (by omega) (by omega)
       (with_reducible refine SA.regionN ok (by kernel_rfl) lv3 ?_); intro R hR; simp only [go_sem, strip])
    | ((with_reducible refine SA.at 22 ?_)
       have hol := ownsTo_len la (rd.getD i default).go k
       (with_reducible refine SA.regionN ok (by kernel_rfl) lv3 ?_); intro R hR; simp only [go_sem, strip])
    | ((with_reducible refine SA.at 24 ?_)
       have hk4 : k = 4 := by omega
       subst hk4
       (with_reducible refine SA.regionN ok (by kernel_rfl) lv3 ?_); intro R hR; simp only [go_sem, strip])
    | ((with_reducible refine SA.regionN ok (by kernel_rfl) lv3 ?_); intro R hR; simp only [go_sem, strip])
    | ((with_reducible refine SA.condAt 37 rfl (fun hb37 => ?_) (fun hb37 => ?_))
       all_goals
         try simp [-List.getD_eq_getElem?_getD] at hb37
         try (exfalso; omega))
    | ((with_reducible refine SA.condAt 46 rfl (fun hb46 => ?_) (fun hb46 => ?_))
       all_goals
         try simp [-List.getD_eq_getElem?_getD] at hb46
         try (exfalso; omega))
    | ((with_reducible refine SA.condAt 70 rfl (fun hb70 => ?_) (fun hb70 => ?_))
       all_goals
         try simp [-List.getD_eq_getElem?_getD] at hb70
         try (exfalso; omega))
    | ((with_reducible refine SA.condAt 81 rfl (fun hb81 => ?tt81) (fun hb81 => ?ff81))
       case' tt81 =>
         skip
         exact absurd hb81 (by rw [herr]; decide)
       case' ff81 =>
         skip)
    | ((with_reducible refine SA.condAt 86 rfl (fun hb86 => ?_) (fun hb86 => ?_))
       all_goals
         try simp [-List.getD_eq_getElem?_getD] at hb86
         try (exfalso; omega))
    | ((with_reducible refine SA.condAt 93 rfl (fun hb93 => ?_) (fun hb93 => ?_))
       all_goals
         try simp [-List.getD_eq_getElem?_getD] at hb93
         try (exfalso; omega))
    | ((with_reducible refine SA.condAt 102 rfl (fun hb102 => ?tt102) (fun hb102 => ?ff102))
       case' tt102 =>
         skip
         exact absurd hb102 (by simp [-List.getD_eq_getElem?_getD, hres])
       case' ff102 =>
         skip)
    | ((with_reducible refine SA.atLoop ?_)
       refine SA.weaken (St.le.of_eq (by first | rfl | (simp; done) | fail)) (SA.loop (fun n τ => ∃ (i : Nat), n = rd.length - i ∧ (i ≤ rd.length) ∧ τ = { tm := [(3, true, .ptr 0 [] 26), (5, true, .ptr 1 [] 29), (7, true, .ptr 2 [] 43), (43, true, .sl 3 49 0 rd.length false), (44, true, .int .i64 rd.length), (45, true, .int .i64 i)], ob := [.var 26 (.data 26 p.v), .var 29 (.data 29 b.v), .var 43 (.data 43 (Trc.v ⟨ev, la, cu⟩)), .row 49 (rd.map Pck.v)], out := [], nt := 105 }) (rd.length) ⟨0, rfl, by omega, rfl⟩ ?_)
       rintro n τ ⟨i, hn, hi, rfl⟩)
    | ((with_reducible refine SA.atLoop ?_)
       refine SA.weaken ((St.le.own (t := 19) 3 rfl).trans ((St.le.keep [3, 5, 7, 12, 17, 19, 43, 44, 45, 84, 85]).trans (St.le.of_eq (by rfl)))) (SA.loop (fun n τ => ∃ (k : Nat), n = 4 - k ∧ (k ≤ 4) ∧ τ = { tm := [(3, true, .ptr 0 [] 26), (5, true, .ptr 1 [] 29), (7, true, .ptr 2 [] 43), (12, true, .ptr 4 [] 49), (17, true, .sl 9 3 0 (O.heldRes (ev ++ [(doStep applyW p la (rd.getD i default) b.fuel).2.1]) ev.length).length false), (19, true, .sl 10 3 0 (ownsTo la (rd.getD i default).go k).length false), (43, true, .sl 3 49 0 rd.length false), (44, true, .int .i64 rd.length), (45, true, .int .i64 i), (84, true, .data 32 (.agg (la.owner.map V.int))), (85, true, .int .i64 k)], ob := [.var 26 (.data 26 p.v), .var 29 (.data 29 b.v), .var 43 (.data 43 (Trc.v ⟨ev, la, cu⟩)), .row 49 (rd.map Pck.v), .var 49 (.data 49 (rd.getD i default).v), .var 41 (.data 41 (doStep applyW p la (rd.getD i default) b.fuel).1.v), .var 55 (.data 55 (doStep applyW p la (rd.getD i default) b.fuel).2.1.v), .row 55 ((ev ++ [(doStep applyW p la (rd.getD i default) b.fuel).2.1]).map Event.v), .row 55 [(doStep applyW p la (rd.getD i default) b.fuel).2.1.v], .row 3 ((O.heldRes (ev ++ [(doStep applyW p la (rd.getD i default) b.fuel).2.1]) ev.length).map V.int), .row 3 ((ownsTo la (rd.getD i default).go k).map V.int)], out := [], nt := 105 }) (4) ⟨0, rfl, by omega, rfl⟩ ?_)
       rintro n τ ⟨k, hn, hk, rfl⟩)
    | ((with_reducible refine loopK.round ?_)
       first
         | (have hlt : i < rd.length := by omega
            have hw1 := wrap_succ (n := i) (m := 256) (by omega) (by decide)
            refine loopK.normal (rd.length - (i + 1)) _ (by omega) ((St.le.cut 4 rfl).trans (St.le.of_eq (by simp [hw1]))) ⟨i + 1, rfl, hlt, rfl⟩)
         | (have q : _ = _ := hb93
            have hlt : k < 4 := by omega
            have hw1 := wrap_succ (n := k) (m := 256) (by omega) (by decide)
            have e := ownsTo_succ la (rd.getD i default).go k
            rw [if_pos hb93] at e
            refine loopK.normal (4 - (k + 1)) _ (by omega) ((St.le.cut 11 rfl).trans (St.le.of_eq (by simp [-List.getD_eq_getElem?_getD, hw1, e]))) ⟨k + 1, rfl, hlt, rfl⟩)
         | (have q : ¬_ := hb93
            have hlt : k < 4 := by omega
            have hw1 := wrap_succ (n := k) (m := 256) (by omega) (by decide)
            have e := ownsTo_succ la (rd.getD i default).go k
            rw [if_neg hb93] at e
            refine loopK.normal (4 - (k + 1)) _ (by omega) (St.le.of_eq (by simp [-List.getD_eq_getElem?_getD, hw1, e])) ⟨k + 1, rfl, hlt, rfl⟩))
    | ((with_reducible first | refine ctrK.normal ?_ | refine ctrK.ret ?_)
       simp only [go_sem, resA, resV, backK, seval]
       rfl)

end Go.Eng.Tryz
