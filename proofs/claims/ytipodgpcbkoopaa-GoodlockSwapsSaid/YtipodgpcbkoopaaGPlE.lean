/- Neighbours of two goroutines that change places leave rings and guards as they are. -/
import Derived.Test.YtipodgpcbkoopaaGW40
namespace Go.Eng.Try
set_option linter.unusedSimpArgs false
set_option linter.unusedVariables false
open Go.Eng

/-- The events, those at i and behind it changed about. -/
def swapped (t : List Event) (i : Nat) : List Event := (t.set i (t.getD (i + 1) default)).set (i + 1) (t.getD i default)
def sw (i k : Nat) : Nat := if k = i then i + 1 else if k = i + 1 then i else k
theorem swapped_len (t : List Event) (i : Nat) : (swapped t i).length = t.length := by simp [swapped]
theorem swapped_at {t : List Event} {i : Nat} (hi : i + 1 < t.length) (k : Nat) : (swapped t i).getD k default = t.getD (sw i k) default := by
  unfold swapped sw
  simp only [List.getD_eq_getElem?_getD]
  by_cases h1 : k = i
  · subst h1
    rw [if_pos rfl, List.getElem?_set_ne (by omega), List.getElem?_set_self (by omega)]
    simp
  · rw [if_neg h1]
    by_cases h2 : k = i + 1
    · subst h2
      rw [if_pos rfl, List.getElem?_set_self (by simp; omega)]
      simp
    · rw [if_neg h2, List.getElem?_set_ne (by omega), List.getElem?_set_ne (by omega)]
theorem sw_lt {n i k : Nat} (hi : i + 1 < n) (hk : k < n) : sw i k < n := by unfold sw; split; omega; split <;> omega
theorem sw_sw (i k : Nat) : sw i (sw i k) = k := by unfold sw; split; simp; omega; split; simp; omega; simp_all
theorem swapped_mem {t : List Event} {i : Nat} (hi : i + 1 < t.length) {e : Event} (he : e ∈ swapped t i) : e ∈ t := by
  obtain ⟨k, hk, rfl⟩ := List.mem_iff_getElem.1 he
  rw [swapped_len] at hk
  have h := swapped_at hi k
  have e1 : (swapped t i).getD k default = (swapped t i)[k]'(by rw [swapped_len]; exact hk) := by simp [List.getD_eq_getElem?_getD, swapped_len, hk]
  rw [← e1, h]
  exact getD_mem t (sw_lt hi hk)

variable {t : List Event} {i : Nat}

theorem locks_before (hi : i + 1 < t.length) (g : Int) : ∀ k, k ≤ i → locksTo (swapped t i) k g = locksTo t k g
  | 0, _ => rfl
  | k + 1, h => by
    rw [locksTo_succ _ (by rw [swapped_len]; omega), locksTo_succ _ (by omega), swapped_at hi, show sw i k = k by unfold sw; rw [if_neg (by omega), if_neg (by omega)], locks_before hi g k (by omega)]
theorem locks_mid (hi : i + 1 < t.length) (hg : (t.getD i default).go ≠ (t.getD (i + 1) default).go) (g : Int) : locksTo (swapped t i) (i + 2) g = locksTo t (i + 2) g := by
  have e1 : sw i i = i + 1 := by unfold sw; rw [if_pos rfl]
  have e2 : sw i (i + 1) = i := by unfold sw; rw [if_neg (by omega), if_pos rfl]
  rw [locksTo_succ _ (by rw [swapped_len]; omega), locksTo_succ _ (by rw [swapped_len]; omega), locksTo_succ t (by omega), locksTo_succ t (by omega), swapped_at hi, swapped_at hi, e1, e2, locks_before hi g i (Nat.le_refl _)]
  by_cases h1 : (t.getD i default).go = g
  · have h2 : ¬ (t.getD (i + 1) default).go = g := fun h => hg (h1.trans h.symm)
    rw [if_pos h1, if_neg h2, if_neg h2, if_pos h1]
  · rw [if_neg h1, if_neg h1]
theorem locks_behind (hi : i + 1 < t.length) (hg : (t.getD i default).go ≠ (t.getD (i + 1) default).go) (g : Int) : ∀ k, i + 2 ≤ k → k ≤ t.length → locksTo (swapped t i) k g = locksTo t k g
  | 0, h, _ => by omega
  | k + 1, h, hk => by
    by_cases he : k = i + 1
    · subst he; exact locks_mid hi hg g
    · rw [locksTo_succ _ (by rw [swapped_len]; omega), locksTo_succ _ (by omega), swapped_at hi, show sw i k = k by unfold sw; rw [if_neg (by omega), if_neg (by omega)], locks_behind hi hg g k (by omega) (by omega)]
theorem held_swapped (hi : i + 1 < t.length) (hg : (t.getD i default).go ≠ (t.getD (i + 1) default).go) {k : Nat} (hk : k < t.length) : heldOf (swapped t i) k = heldOf t (sw i k) := by
  unfold heldOf
  rw [swapped_at hi]
  by_cases h1 : k = i
  · subst h1
    rw [show sw k k = k + 1 by unfold sw; rw [if_pos rfl], locks_before hi _ k (Nat.le_refl _), locksTo_succ t (by omega), if_neg hg]
  · by_cases h2 : k = i + 1
    · subst h2
      rw [show sw i (i + 1) = i by unfold sw; rw [if_neg (by omega), if_pos rfl], locksTo_succ _ (by rw [swapped_len]; omega), swapped_at hi, show sw i i = i + 1 by unfold sw; rw [if_pos rfl], if_neg (Ne.symm hg), locks_before hi _ i (Nat.le_refl _)]
    · rw [show sw i k = k by unfold sw; rw [if_neg h1, if_neg h2]]
      by_cases h3 : k < i
      · exact locks_before hi _ k (by omega)
      · exact locks_behind hi hg _ k (by omega) (by omega)

/-- How many edges an event has. -/
def wide (t : List Event) (k : Nat) : Nat := (if takes (t.getD k default) then edgesAt t k 4 else []).length
theorem edgesAt_length (t : List Event) (k n : Nat) : (edgesAt t k n).length = ((List.range n).filter fun f => (heldOf t k).getD f false && decide ((f : Int) ≠ lockOf (t.getD k default))).length := by unfold edgesAt; rw [List.length_map]
theorem wide_swapped (hi : i + 1 < t.length) (hg : (t.getD i default).go ≠ (t.getD (i + 1) default).go) {k : Nat} (hk : k < t.length) : wide (swapped t i) k = wide t (sw i k) := by
  unfold wide
  rw [swapped_at hi]
  by_cases h : takes (t.getD (sw i k) default) = true
  · rw [if_pos h, if_pos h, edgesAt_length, edgesAt_length, held_swapped hi hg hk, swapped_at hi]
  · rw [if_neg h, if_neg h]
theorem edgesTo_len_succ (t : List Event) (k : Nat) : (edgesTo t (k + 1)).length = (edgesTo t k).length + wide t k := by rw [edgesTo_succ, List.length_append]; rfl
theorem len_before (hi : i + 1 < t.length) (hg : (t.getD i default).go ≠ (t.getD (i + 1) default).go) : ∀ k, k ≤ i → (edgesTo (swapped t i) k).length = (edgesTo t k).length
  | 0, _ => rfl
  | k + 1, h => by
    rw [edgesTo_len_succ, edgesTo_len_succ, len_before hi hg k (by omega), wide_swapped hi hg (by omega), show sw i k = k by unfold sw; rw [if_neg (by omega), if_neg (by omega)]]
theorem len_behind (hi : i + 1 < t.length) (hg : (t.getD i default).go ≠ (t.getD (i + 1) default).go) : ∀ k, i + 2 ≤ k → k ≤ t.length → (edgesTo (swapped t i) k).length = (edgesTo t k).length
  | 0, h, _ => by omega
  | k + 1, h, hk => by
    by_cases he : k = i + 1
    · subst he
      rw [edgesTo_len_succ, edgesTo_len_succ, edgesTo_len_succ, edgesTo_len_succ, len_before hi hg i (Nat.le_refl _), wide_swapped hi hg (by omega), wide_swapped hi hg (by omega), show sw i i = i + 1 by unfold sw; rw [if_pos rfl], show sw i (i + 1) = i by unfold sw; rw [if_neg (by omega), if_pos rfl]]
      omega
    · rw [edgesTo_len_succ, edgesTo_len_succ, len_behind hi hg k (by omega) (by omega), wide_swapped hi hg (by omega), show sw i k = k by unfold sw; rw [if_neg (by omega), if_neg (by omega)]]
theorem edges_swapped_len (hi : i + 1 < t.length) (hg : (t.getD i default).go ≠ (t.getD (i + 1) default).go) : (edges (swapped t i)).length = (edges t).length := by
  unfold edges
  rw [swapped_len]
  exact len_behind hi hg _ (by omega) (Nat.le_refl _)

theorem edge_in' {t : List Event} {k f : Nat} (hk : k < t.length) (h0 : takes (t.getD k default) = true) (hf : f < 4) (h1 : (heldOf t k).getD f false = true) (h2 : (f : Int) ≠ lockOf (t.getD k default)) : (⟨f, lockOf (t.getD k default), (t.getD k default).go, k⟩ : Edge) ∈ edges t := by
  unfold edges edgesTo
  refine List.mem_flatMap.2 ⟨k, List.mem_range.2 hk, ?_⟩
  rw [if_pos h0]
  unfold edgesAt
  refine List.mem_map.2 ⟨f, List.mem_filter.2 ⟨List.mem_range.2 hf, ?_⟩, rfl⟩
  rw [h1, decide_eq_true h2]; rfl
/-- The kinds of a trace's edges, by its events. -/
theorem kinds_by {t : List Event} {x : Kind} : x ∈ kinds t ↔ ∃ k f : Nat, k < t.length ∧ f < 4 ∧ takes (t.getD k default) = true ∧ (heldOf t k).getD f false = true ∧ (f : Int) ≠ lockOf (t.getD k default) ∧ x = ⟨f, lockOf (t.getD k default), (t.getD k default).go, heldOf t k⟩ := by
  rw [kinds_mem]
  constructor
  · rintro ⟨e, he, rfl⟩
    obtain ⟨k, hk, hev, hgo, h0, f, hf, h1, h2, h3, h4⟩ := edge_of he
    refine ⟨k, f, hk, hf, h0, h1, h2, ?_⟩
    unfold kindOf
    rw [h3, h4, hgo, hev, Int.toNat_natCast]
  · rintro ⟨k, f, hk, hf, h0, h1, h2, rfl⟩
    exact ⟨_, edge_in' hk h0 hf h1 h2, by unfold kindOf; simp only [Int.toNat_natCast]⟩
theorem kinds_swapped (hi : i + 1 < t.length) (hg : (t.getD i default).go ≠ (t.getD (i + 1) default).go) (x : Kind) : x ∈ kinds (swapped t i) ↔ x ∈ kinds t := by
  rw [kinds_by, kinds_by]
  constructor
  · rintro ⟨k, f, hk, hf, h0, h1, h2, rfl⟩
    rw [swapped_len] at hk
    rw [swapped_at hi] at h0 h2
    rw [held_swapped hi hg hk] at h1
    exact ⟨sw i k, f, sw_lt hi hk, hf, h0, h1, h2, by rw [swapped_at hi, held_swapped hi hg hk]⟩
  · rintro ⟨k, f, hk, hf, h0, h1, h2, rfl⟩
    have hs := sw_lt hi hk
    have ha := swapped_at hi (sw i k)
    have hh := held_swapped hi hg hs
    rw [sw_sw] at ha hh
    exact ⟨sw i k, f, by rw [swapped_len]; exact hs, hf, by rw [ha]; exact h0, by rw [hh]; exact h1, by rw [ha]; exact h2, by rw [ha, hh]⟩
theorem any_same {α : Type} {l m : List α} (h : ∀ x, x ∈ l ↔ x ∈ m) (p : α → Bool) : l.any p = m.any p := by
  rw [Bool.eq_iff_iff, List.any_eq_true, List.any_eq_true]
  constructor
  · rintro ⟨x, hx, hp⟩; exact ⟨x, (h x).1 hx, hp⟩
  · rintro ⟨x, hx, hp⟩; exact ⟨x, (h x).2 hx, hp⟩
theorem closes_same {l m : List Kind} (h : ∀ x, x ∈ l ↔ x ∈ m) (ring : List Int) (ap : Bool) : ∀ (n i : Nat) (a b : List Bool), closes l ring ap n i a b = closes m ring ap n i a b
  | 0, _, _, _ => rfl
  | n + 1, i, a, b => by
    unfold closes
    rw [any_same h]
    congr 1
    funext k
    rw [closes_same h ring ap n]
theorem swapped_6 (hi : i + 1 < t.length) (h6 : ∀ e ∈ t, e.touch.length = 6) : ∀ e ∈ swapped t i, e.touch.length = 6 := fun e he => h6 e (swapped_mem hi he)
theorem swapped_check (hi : i + 1 < t.length) (hc : check t = 0) : check (swapped t i) = 0 := by
  have hl := check_len hc
  have hr := check_right hc
  unfold check
  rw [swapped_len, if_neg (by omega), if_pos]
  exact List.all_eq_true.2 fun e he => List.all_eq_true.1 hr e (swapped_mem hi he)
theorem swapped_rings (hi : i + 1 < t.length) (hg : (t.getD i default).go ≠ (t.getD (i + 1) default).go) (hc : check t = 0) : ringsD (swapped t i) = ringsD t := by
  unfold ringsD
  rw [if_pos hc, if_pos (swapped_check hi hc)]
  unfold ringsK
  congr 1
  funext l
  unfold testK closesFrom
  rw [closes_same (kinds_swapped hi hg)]
theorem swapped_guard (hi : i + 1 < t.length) (hg : (t.getD i default).go ≠ (t.getD (i + 1) default).go) (hc : check t = 0) (r : List Int) : guardResK (swapped t i) r = guardResK t r := by
  have hR := swapped_rings hi hg hc
  unfold ringsD at hR
  rw [if_pos hc, if_pos (swapped_check hi hc)] at hR
  unfold guardResK guardErrK
  rw [hR, hc, swapped_check hi hc]
  unfold closesFrom
  rw [closes_same (kinds_swapped hi hg)]
/-- Events that are apart are of two goroutines. -/
theorem apart_go {a b : Event} (ha : right a = true) (hb : right b = true) (ha6 : a.touch.length = 6) (hb6 : b.touch.length = 6) (h : dependent a b = false) : a.go ≠ b.go := by
  intro hgo
  have own : ∀ e : Event, right e = true → e.touch.length = 6 → (⟨5, e.go, true⟩ : Access) ∈ e.of := by
    intro e he h6
    unfold right at he
    simp only [Bool.and_eq_true, decide_eq_true_eq] at he
    obtain ⟨⟨⟨_, h1⟩, h2⟩, _, h3⟩ := he
    obtain ⟨k, hk, h3⟩ := List.any_eq_true.1 h3
    unfold ownAt at h3
    simp only [Bool.and_eq_true, decide_eq_true_eq] at h3
    rw [List.mem_range] at hk
    unfold Event.of
    rw [← h3.2, List.mem_iff_getElem?]
    refine ⟨k, ?_⟩
    rw [List.getElem?_take, if_pos (by omega), List.getD_eq_getElem?_getD]
    simp [h6, hk]
  have h1 := own a ha ha6
  have h2 := own b hb hb6
  have : dependent a b = true := by
    unfold dependent clash
    refine List.any_eq_true.2 ⟨_, h1, List.any_eq_true.2 ⟨_, h2, ?_⟩⟩
    unfold clash2
    simp [hgo]
  rw [this] at h; cases h
end Go.Eng.Try
