/- A part of the proof: walks through the program's functions, and what they compute. -/
import Derived.Test.YtedceinkpkoncaaGreatSAttr
import Derived.Test.YtedceinkpkoncaaGreatM1
import Derived.Test.YtedceinkpkoncaaGreatE4
import Derived.Test.YtedceinkpkoncaaGreatOW8
namespace Go.Eng.Tryz.O
set_option maxHeartbeats 0
set_option maxRecDepth 20000
open Go.RowKit Go.Eng
set_option linter.unusedSimpArgs false
set_option linter.unusedVariables false

theorem firstLock_mem : ∀ (l : List Access), firstLock l = -1 ∨ ∃ a ∈ l, a.kind = 2 ∧ firstLock l = a.num
  | [] => .inl rfl
  | a :: l => by
    unfold firstLock
    by_cases h : a.kind = 2
    · rw [if_pos h]; exact .inr ⟨a, by simp, h, rfl⟩
    · rw [if_neg h]
      rcases firstLock_mem l with h1 | ⟨b, h1, h2⟩
      · exact .inl h1
      · exact .inr ⟨b, by simp [h1], h2⟩
theorem right_acc {e : Event} (he : e.touch.length = 6) (h : right e = true) {j : Nat} (hj : (j : Int) < e.touches) : 0 ≤ (e.touch.getD j default).num ∧ (e.touch.getD j default).num < most (e.touch.getD j default).kind := by
  simp only [right, Bool.and_eq_true, decide_eq_true_eq] at h
  have hp := List.all_eq_true.1 h.2.1 j (List.mem_range.2 (by omega))
  simp only [placeOk, show ¬ e.touches ≤ ((j : Nat) : Int) by omega, if_false, Bool.and_eq_true, decide_eq_true_eq] at hp
  exact hp.1
theorem right_facts {e : Event} (he : e.touch.length = 6) (h : right e = true) : 0 ≤ e.go ∧ e.go < 6 ∧ 1 ≤ e.touches ∧ e.touches ≤ 6 ∧ -1 ≤ lockOf e ∧ lockOf e < 4 := by
  have h0 := h
  simp only [right, Bool.and_eq_true, decide_eq_true_eq] at h0
  refine ⟨h0.1.1.1.1, h0.1.1.1.2, h0.1.1.2, h0.1.2, ?_⟩
  rcases firstLock_mem (e.touch.take e.touches.toNat) with h1 | ⟨a, h1, h2, h3⟩
  · unfold lockOf; omega
  · obtain ⟨j, hj, rfl⟩ := List.mem_iff_getElem.1 h1
    have hjl : j < e.touches.toNat := by rw [List.length_take] at hj; omega
    have hg : (e.touch.take e.touches.toNat)[j] = e.touch.getD j default := by
      simp [List.getD_eq_getElem?_getD, show j < e.touch.length by omega]
    rw [hg] at h2 h3
    have := right_acc he h (j := j) (by omega)
    rw [h2] at this
    have hm : most 2 = 4 := by decide
    unfold lockOf; rw [h3]; omega
def nowF (t : List Event) (i : Nat) (g : Nat) : V := .agg ((locksTo t i g).map V.bool)
def nowL (t : List Event) (i : Nat) : List V := (List.range 6).map (nowF t i)
theorem now_step {t : List Event} {i : Nat} (h : i < t.length) (h0 : 0 ≤ (t.getD i default).go) (h6 : (t.getD i default).go < 6) {X : List Bool} (hX : lockStep (locksTo t i (t.getD i default).go) (t.getD i default) = X) :
    (nowL t i).set (t.getD i default).go.toNat (.agg (X.map V.bool)) = nowL t (i + 1) := by
  unfold nowL
  rw [rows_set (by omega)]
  apply List.map_congr_left
  intro g _
  unfold nowF
  rw [locksTo_succ t h]
  by_cases hg : g = (t.getD i default).go.toNat
  · have hg2 : (t.getD i default).go = (g : Int) := by omega
    rw [if_pos hg, if_pos hg2, ← hg2, hX]
  · rw [if_neg hg, if_neg (by omega)]
theorem now_same {t : List Event} {i : Nat} (h : i < t.length) (hX : ∀ l, lockStep l (t.getD i default) = l) : nowL t i = nowL t (i + 1) := by
  apply List.map_congr_left
  intro g _
  unfold nowF
  rw [locksTo_succ t h]
  split
  · rw [hX]
  · rfl
theorem nowF_at {t : List Event} {i : Nat} (h0 : 0 ≤ (t.getD i default).go) (h6 : (t.getD i default).go < 6) (d : V) : (nowL t i).getD (t.getD i default).go.toNat d = .agg ((heldOf t i).map V.bool) := by
  unfold nowL
  rw [rows_getD (by omega)]
  unfold nowF heldOf
  rw [show (((t.getD i default).go.toNat : Nat) : Int) = (t.getD i default).go by omega]
def heldsTo (t : List Event) (i : Nat) : List V := (List.range i).map fun k => boolsV (heldOf t k)
theorem heldsTo_len (t : List Event) (i : Nat) : (heldsTo t i).length = i := by simp [heldsTo]
theorem heldsTo_succ (t : List Event) (i : Nat) : heldsTo t (i + 1) = heldsTo t i ++ [.agg ((heldOf t i).map V.bool)] := by simp [heldsTo, List.range_succ, boolsV]
theorem now_zero (t : List Event) : List.replicate 6 (V.agg (List.replicate 4 (V.bool false))) = nowL t 0 := by rfl
theorem nowL_len (t : List Event) (i : Nat) : (nowL t i).length = 6 := by simp [nowL]

attribute [local go_sem] concat_at List.length_map List.length_range zero52 z52 z3 z4 z79 z89 z55 z53 z50 z2 zero53 z78 z117 zero79 zero78 zero117 zero89 zero55 Int.toNat_natCast Int.natCast_zero Event.v0 Event.v3 Event.v5 Event.v7 Event.v8 Access.v0 Access.v1 Access.v2 beq_acc Edge.v0 Edge.v1 Edge.v2 Edge.v3 heldOf_len locksTo_len heldsTo_len nowL_len
def lv42 : List (Nat × List Nat) := [(0, [1]), (1, [8, 9, 10]), (2, [8, 9, 10, 11]), (3, [4, 8, 9, 10]), (4, [4, 8, 9, 10, 16]), (5, [2]), (6, [8, 9, 10]), (7, [2])]
-- scarab/goodlock.of
theorem of_ctr (e : Event) (he : e.touch.length = 6) (h0 : 0 ≤ e.touches) (h1 : e.touches ≤ 6) : Ctr Go.Proofs.Tryz.prog tab 42 [55] [3] [e.v] [.int (lockOf e)] := by
  have hl : (e.touch.take e.touches.toNat).length = e.touches.toNat := (by rw [List.length_take]; omega)
  refine Ctr.body ok Go.Proofs.Tryz.func42 rfl rfl 20 rfl [.tmp 2] rfl (by simp [fromVs]) ?_
  simp only [fromVs, fromV, args0, V.toList_list, V.toInt_int, V.toBool_bool, Nat.zero_add, Nat.reduceAdd, ty55]
  repeat' first
    | ((with_reducible refine SARA.told 3 _ ?_); try simp only [getD_map Access.v _ hjl])
    | ((with_reducible refine SARA.do fun R1 hR1 => ?_); (simp only [go_sem, seval, -List.reduceReplicate]); (repeat' with_reducible refine And.intro ?_ ?_); all_goals first | (refine hR1 _ ?_; clear hR1 R1) | omega | rfl | decide | assumption | (intro _; omega) | (simp; done) | (simp; omega) | (simp [roomFor, maxLen, by52, by3, by89, by79, by23] <;> omega))
    | ((with_reducible refine SARA.nil ?_); refine hR _ ?_; clear hR R; try simp only [go_sem, lv42, lvOf, Nat.reduceBEq, Option.getD_some])
    | (with_reducible first | refine thenK.normal ?_ | refine SA.seq ?_ | refine SA.skip ?_ | refine SA.block ?_ | refine blockK.normal ?_ | refine SA.exit ?_ | refine blockK.hit ?_ | refine blockK.miss (by decide) ?_ | refine thenK.exit ?_ | refine loopK.exit ?_ | refine SA.ret ?_ | refine thenK.ret ?_ | refine blockK.ret ?_ | refine loopK.ret ?_ | refine SA.scope ?_ | refine scopeK.normal ?_ | refine scopeK.exit ?_ | refine scopeK.ret ?_ | refine SA.label ?_)
    | ((with_reducible refine SA.at 1 ?_)
       refine SA.weaken (St.le.frz ok.sized 0 rfl) ?_
       simp only [St.frz, Tm.frz, E.frz, E.frzL, Obj.frz, List.map_cons, List.map_nil, List.set_cons_zero, List.set_cons_succ, Nat.reduceBEq, Nat.beq_refl, if_true, if_false, Nat.beq_eq_true_eq, reduceCtorEq, Bool.false_eq_true, V.get, Nat.reduceEqDiff]
       (with_reducible refine SA.regionN ok (by kernel_rfl) lv42 ?_); intro R hR; simp only [go_sem, strip])
    | ((with_reducible refine SA.at 3 ?_)
       have hjl : j < (e.touch.take e.touches.toNat).length := by omega
       (with_reducible refine SA.regionN ok (by kernel_rfl) lv42 ?_); intro R hR; simp only [go_sem, strip])
    | ((with_reducible refine SA.regionN ok (by kernel_rfl) lv42 ?_); intro R hR; simp only [go_sem, strip])
    | ((with_reducible refine SA.condAt 11 rfl (fun hb11 => ?_) (fun hf11 => ?_))
       all_goals
         try
           (simp only [decide_eq_true_eq, decide_eq_false_iff_not, Int.not_lt, Int.not_le] at hb11)
         try
           (simp only [decide_eq_true_eq, decide_eq_false_iff_not, Int.not_lt, Int.not_le] at hf11))
    | ((with_reducible refine SA.condAt 16 rfl (fun hb16 => ?_) (fun hf16 => ?_))
       all_goals
         try
           (simp only [decide_eq_true_eq, decide_eq_false_iff_not, Int.not_lt, Int.not_le] at hb16)
         try
           (simp only [decide_eq_true_eq, decide_eq_false_iff_not, Int.not_lt, Int.not_le] at hf16))
    | ((with_reducible refine SA.atLoop ?_)
       refine SA.weaken (St.le.of_eq (by simp only [Nat.sub_zero, List.drop_zero, ← List.map_take, List.length_map, hl]; rfl)) (SA.loop (fun n τ => ∃ (j : Nat), n = e.touches.toNat - j ∧ (j ≤ e.touches.toNat ∧ ∀ k, k < j → ((e.touch.take e.touches.toNat).getD k default).kind ≠ 2) ∧ τ = { tm := [(8, true, .fs 52 ((e.touch.take e.touches.toNat).map Access.v) (decide (e.touches = (6 : Nat)))), (9, true, .int .i64 e.touches.toNat), (10, true, .int .i64 j)], ob := [.dead], out := [], nt := 20 }) (e.touches.toNat) ⟨0, rfl, ⟨Nat.zero_le _, fun k hk => by omega⟩, rfl⟩ ?_)
       rintro n τ ⟨j, hn, ⟨hj, hc⟩, rfl⟩)
    | ((with_reducible refine loopK.round ?_)
       first
         | (have _ := hb11
            have _ := hf16
            refine loopK.normal (e.touches.toNat - (j + 1)) _ (by omega) ((St.le.cut 1 rfl).trans (St.le.of_eq (by rw [wrap_succ (show j < 6 by omega) (by decide)]; rfl))) ⟨j + 1, rfl, ⟨by omega, fun k hk => ?_⟩, rfl⟩
            by_cases hkj : k = j
            · subst hkj; exact hf16
            · exact hc k (by omega)))
    | ((with_reducible first | refine ctrK.normal ?_ | refine ctrK.ret ?_)
       simp only [resA, evalO, resV, backK, outE, toV, ty4, ty3, List.lookup_cons, List.lookup_nil, beq_self_eq_true, forall_const, true_and, and_true]
       first
         | (have _ := hb11
            have _ := hb16
            refine ⟨rfl, ?_⟩
            simp only [if_true, Option.some.injEq, V.int.injEq]
            exact (firstLock_hit hjl hc hb16).symm)
         | (have _ := hf11
            refine ⟨rfl, ?_⟩
            simp only [if_true, Option.some.injEq, V.int.injEq]
            exact (firstLock_miss fun k hk => hc k (by omega)).symm))

def lv20 : List (Nat × List Nat) := [(0, [0]), (1, [0, 3]), (2, [0, 3, 4]), (3, [3, 4, 8, 9, 10]), (4, [3, 4, 8, 9, 10, 11]), (5, [3, 4, 6, 8, 9, 10]), (6, [3, 4, 6, 8, 9, 10]), (7, [3, 4, 6, 7, 8, 9, 10]), (8, [3, 4, 6, 7, 8, 9, 10, 24]), (9, [3, 4, 6, 7, 8, 9, 10, 25]), (10, [3, 4, 8, 9, 10]), (11, [3, 4, 6, 7, 8, 9, 10, 44]), (12, [3, 4, 8, 9, 10]), (13, [3, 4, 8, 9, 10]), (14, [2])]
-- scarab/goodlock.held
theorem held_ctr (t : List Event) (ht : t.length ≤ 257) (h6 : ∀ e ∈ t, e.touch.length = 6) (hr : t.all right = true) : Ctr Go.Proofs.Tryz.prog tab 20 [30] [80] [.list (t.map Event.v)] [.list (heldsTo t t.length)] := by
  have hm : t.length ≤ maxLen := Nat.le_trans ht (by decide)
  refine Ctr.body ok Go.Proofs.Tryz.func20 rfl rfl 55 rfl [.tmp 2] rfl (by simp [fromVs]) ?_
  simp only [fromVs, fromV, args0, V.toList_list, V.toInt_int, V.toBool_bool, Nat.zero_add, Nat.reduceAdd, ty30]
  repeat' first
    | ((with_reducible refine SARA.told 5 _ ?_); try simp only [getD_map Event.v t hlt])
    | ((with_reducible refine SARA.told 6 _ ?_); try simp only [nowF_at hg0 hg6])
    | ((with_reducible refine SARA.told 10 _ ?_); try simp only [nowF_at hg0 hg6])
    | ((with_reducible refine SARA.told 12 _ ?_); try simp only [nowF_at hg0 hg6])
    | ((with_reducible refine SARA.do fun R1 hR1 => ?_); (simp only [go_sem, seval, -List.reduceReplicate]); (repeat' with_reducible refine And.intro ?_ ?_); all_goals first | (refine hR1 _ ?_; clear hR1 R1) | ((first | refine ⟨_, _, rfl, .inl ⟨_, CallQ.ctr ok (of_ctr _ (h6 _ hmem) (by omega) hf.2.2.2.1) (by first | rfl | (simp [go_sem, List.length_map, List.take_of_length_le]; done) | fail) rfl, ?_⟩⟩); all_goals ((try simp only [go_sem, seval, -List.reduceReplicate]); (repeat' with_reducible refine And.intro ?_ ?_); all_goals first | (refine hR1 _ ?_; clear hR1 R1) | omega | rfl | decide | assumption | (simp [roomFor, maxLen, by52, by3, by89, by79, by23] <;> omega))) | omega | rfl | decide | assumption | (simp [roomFor, maxLen, by52, by3, by89, by79, by23] <;> omega))
    | ((with_reducible refine SARA.nil ?_); refine hR _ ?_; clear hR R; try simp only [go_sem, lv20, lvOf, Nat.reduceBEq, Option.getD_some])
    | (with_reducible first | refine thenK.normal ?_ | refine SA.seq ?_ | refine SA.skip ?_ | refine SA.block ?_ | refine blockK.normal ?_ | refine SA.exit ?_ | refine blockK.hit ?_ | refine blockK.miss (by decide) ?_ | refine thenK.exit ?_ | refine loopK.exit ?_ | refine SA.ret ?_ | refine thenK.ret ?_ | refine blockK.ret ?_ | refine loopK.ret ?_ | refine SA.scope ?_ | refine scopeK.normal ?_ | refine scopeK.exit ?_ | refine scopeK.ret ?_ | refine SA.label ?_)
    | ((with_reducible refine SA.at 5 ?_)
       have hlt : i < t.length := by omega
       have hmem := getD_mem t hlt
       have hf := right_facts (h6 _ hmem) (List.all_eq_true.1 hr _ hmem)
       have hg0 := hf.1
       have hg6 := hf.2.1
       (with_reducible refine SA.regionN ok (by kernel_rfl) lv20 ?_); intro R hR; simp only [go_sem, strip])
    | ((with_reducible refine SA.regionN ok (by kernel_rfl) lv20 ?_); intro R hR; simp only [go_sem, strip])
    | ((with_reducible refine SA.condAt 11 rfl (fun hb11 => ?_) (fun hf11 => ?_))
       all_goals
         try
           (simp only [decide_eq_true_eq, decide_eq_false_iff_not, Int.not_lt, Int.not_le] at hb11)
         try
           (simp only [decide_eq_true_eq, decide_eq_false_iff_not, Int.not_lt, Int.not_le] at hf11))
    | ((with_reducible refine SA.condAt 24 rfl (fun hb24 => ?_) (fun hf24 => ?_))
       all_goals
         try
           (simp only [decide_eq_true_eq, decide_eq_false_iff_not, Int.not_lt, Int.not_le] at hb24)
         try
           (simp only [decide_eq_true_eq, decide_eq_false_iff_not, Int.not_lt, Int.not_le] at hf24))
    | ((with_reducible refine SA.condAt 25 rfl (fun hb25 => ?_) (fun hf25 => ?_)))
    | ((with_reducible refine SA.condAt 44 rfl (fun hb44 => ?_) (fun hf44 => ?_))
       all_goals
         try
           (simp only [decide_eq_true_eq, decide_eq_false_iff_not, Int.not_lt, Int.not_le] at hb44)
         try
           (simp only [decide_eq_true_eq, decide_eq_false_iff_not, Int.not_lt, Int.not_le] at hf44))
    | ((with_reducible refine SA.atLoop ?_)
       refine SA.weaken ((St.le.own (t := 4) 79 rfl).trans ((St.le.keep [3, 4, 8, 9, 10]).trans (St.le.of_eq (by first | rfl | (simp; done) | fail)))) (SA.loop (fun n τ => ∃ (i : Nat), n = t.length - i ∧ (i ≤ t.length) ∧ τ = { tm := [(3, true, .ptr 0 [] 117), (4, true, .sl 1 79 0 i false), (8, true, .fs 55 (t.map Event.v) false), (9, true, .int .i64 t.length), (10, true, .int .i64 i)], ob := [.var 117 (.data 117 (.agg (nowL t i))), .row 79 (heldsTo t i)], out := [], nt := 55 }) (t.length) ⟨0, rfl, Nat.zero_le _, rfl⟩ ?_)
       rintro n τ ⟨i, hn, hi, rfl⟩)
    | ((with_reducible refine loopK.round ?_)
       first
         | (have _ := hb11
            have _ := hb24
            have e1 : List.take i (heldsTo t i) ++ List.take 1 (List.drop 0 [V.agg (List.map V.bool (heldOf t i))]) = heldsTo t (i + 1) := by
              rw [heldsTo_succ, List.take_of_length_le (by rw [heldsTo_len]; exact Nat.le_refl _)]; rfl
            have e2 : nowL t i = nowL t (i + 1) := now_same hlt fun l => (by unfold lockStep; rw [if_pos hb24])
            refine loopK.normal (t.length - (i + 1)) _ (by omega) ((St.le.cut 2 rfl).trans (St.le.of_eq (by rw [e1, e2, wrap_succ hlt hm]; rfl))) ⟨i + 1, rfl, hlt, rfl⟩)
         | (have _ := hb11
            have _ := hf24
            have _ := hb25
            have e1 : List.take i (heldsTo t i) ++ List.take 1 (List.drop 0 [V.agg (List.map V.bool (heldOf t i))]) = heldsTo t (i + 1) := by
              rw [heldsTo_succ, List.take_of_length_le (by rw [heldsTo_len]; exact Nat.le_refl _)]; rfl
            have hop : (t.getD i default).op = 55 ∨ ((t.getD i default).op = 57 ∧ (t.getD i default).val = 1) := by
              cases h1 : decide ((t.getD i default).op = 55) <;> cases h2 : decide ((t.getD i default).op = 57) <;> simp [h1, h2] at hb25 <;> simp_all
            have e2 : (nowL t i).set (t.getD i default).go.toNat (V.agg ((List.map V.bool (heldOf t i)).set (lockOf (t.getD i default)).toNat (V.bool true))) = nowL t (i + 1) := by
              rw [← List.map_set]
              exact now_step hlt hg0 hg6 (by unfold lockStep; rw [if_neg (by omega), if_pos hop]; rfl)
            refine loopK.normal (t.length - (i + 1)) _ (by omega) ((St.le.cut 2 rfl).trans (St.le.of_eq (by rw [e1, e2, wrap_succ hlt hm]; rfl))) ⟨i + 1, rfl, hlt, rfl⟩)
         | (have _ := hb11
            have _ := hf24
            have _ := hf25
            have _ := hb44
            have e1 : List.take i (heldsTo t i) ++ List.take 1 (List.drop 0 [V.agg (List.map V.bool (heldOf t i))]) = heldsTo t (i + 1) := by
              rw [heldsTo_succ, List.take_of_length_le (by rw [heldsTo_len]; exact Nat.le_refl _)]; rfl
            have hop : ¬ ((t.getD i default).op = 55 ∨ ((t.getD i default).op = 57 ∧ (t.getD i default).val = 1)) := by
              rintro (h | ⟨h, h'⟩)
              · rw [decide_eq_true h] at hf25; cases hf25
              · rw [decide_eq_true h, decide_eq_true h'] at hf25; cases h55 : decide ((t.getD i default).op = 55) <;> rw [h55] at hf25 <;> cases hf25
            have e2 : (nowL t i).set (t.getD i default).go.toNat (V.agg ((List.map V.bool (heldOf t i)).set (lockOf (t.getD i default)).toNat (V.bool false))) = nowL t (i + 1) := by
              rw [← List.map_set]
              exact now_step hlt hg0 hg6 (by unfold lockStep; rw [if_neg (by omega), if_neg hop, if_pos hb44]; rfl)
            refine loopK.normal (t.length - (i + 1)) _ (by omega) ((St.le.cut 2 rfl).trans (St.le.of_eq (by rw [e1, e2, wrap_succ hlt hm]; rfl))) ⟨i + 1, rfl, hlt, rfl⟩)
         | (have _ := hb11
            have _ := hf24
            have _ := hf25
            have _ := hf44
            have e1 : List.take i (heldsTo t i) ++ List.take 1 (List.drop 0 [V.agg (List.map V.bool (heldOf t i))]) = heldsTo t (i + 1) := by
              rw [heldsTo_succ, List.take_of_length_le (by rw [heldsTo_len]; exact Nat.le_refl _)]; rfl
            have hop : ¬ ((t.getD i default).op = 55 ∨ ((t.getD i default).op = 57 ∧ (t.getD i default).val = 1)) := by
              rintro (h | ⟨h, h'⟩)
              · rw [decide_eq_true h] at hf25; cases hf25
              · rw [decide_eq_true h, decide_eq_true h'] at hf25; cases h55 : decide ((t.getD i default).op = 55) <;> rw [h55] at hf25 <;> cases hf25
            have e2 : nowL t i = nowL t (i + 1) := now_same hlt fun l => (by unfold lockStep; rw [if_neg (by omega), if_neg hop, if_neg hf44])
            refine loopK.normal (t.length - (i + 1)) _ (by omega) ((St.le.cut 2 rfl).trans (St.le.of_eq (by rw [e1, e2, wrap_succ hlt hm]; rfl))) ⟨i + 1, rfl, hlt, rfl⟩))
    | ((with_reducible first | refine ctrK.normal ?_ | refine ctrK.ret ?_)
       simp only [resA, evalO, resV, backK, outE, toV, ty4, ty3, List.lookup_cons, List.lookup_nil, beq_self_eq_true, forall_const, true_and, and_true]
       simp only [go_sem, seval, -List.reduceReplicate]
       have : i = t.length := by omega
       subst this
       exact ⟨rfl, by rw [List.take_of_length_le (by rw [heldsTo_len]; exact Nat.le_refl _)], by simp⟩)

end Go.Eng.Tryz.O
