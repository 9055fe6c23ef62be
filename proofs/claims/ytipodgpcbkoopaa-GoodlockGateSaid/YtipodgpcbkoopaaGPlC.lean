/- Behind a gate lock that all hold every ring is guarded. -/
import Derived.Test.YtipodgpcbkoopaaGW40
namespace Go.Eng.Try
set_option linter.unusedSimpArgs false
set_option linter.unusedVariables false
open Go.Eng

def gates (n : Nat) : List Event := (List.range n).map fun (g : Nat) => takingE (g : Int) 3
def gated (t : List Event) : List Event := gates 6 ++ t
def freeOf (e : Event) : Prop := ∀ j : Nat, (j : Int) < e.touches → ¬ ((e.touch.getD j default).kind = 2 ∧ (e.touch.getD j default).num = 3)

theorem firstLock_ne : ∀ {l : List Access}, (∀ j, j < l.length → ¬ ((l.getD j default).kind = 2 ∧ (l.getD j default).num = 3)) → firstLock l ≠ 3
  | [], _ => by decide
  | a :: l, h => by
    unfold firstLock
    have h0 := h 0 (by simp)
    simp at h0
    split
    · rename_i hk; exact h0 hk
    · exact firstLock_ne fun j hj => by have := h (j + 1) (by simpa using hj); simpa using this
theorem lockOf_ne {e : Event} (h : freeOf e) : lockOf e ≠ 3 := by
  unfold lockOf
  refine firstLock_ne fun j hj => ?_
  simp at hj
  have := h j (by omega)
  rwa [show (e.touch.take e.touches.toNat).getD j default = e.touch.getD j default from by simp [List.getD_eq_getElem?_getD, show j < e.touches.toNat by omega]]
theorem lockStep_gate {l : List Bool} {e : Event} (h : lockOf e ≠ 3) : lockStep (l.set 3 true) e = (lockStep l e).set 3 true := by
  unfold lockStep
  split
  · rfl
  · rename_i h0
    split
    · exact List.set_comm _ _ (by omega)
    · split
      · exact List.set_comm _ _ (by omega)
      · rfl
theorem foldl_gate : ∀ {m : List Event} (l : List Bool), (∀ e ∈ m, lockOf e ≠ 3) → m.foldl lockStep (l.set 3 true) = (m.foldl lockStep l).set 3 true
  | [], _, _ => rfl
  | e :: m, l, h => by
    rw [List.foldl_cons, List.foldl_cons, lockStep_gate (h e (by simp)), foldl_gate _ fun x hx => h x (by simp [hx])]
theorem lockStep_three {l : List Bool} {e : Event} (h : lockOf e ≠ 3) : (lockStep l e).getD 3 default = l.getD 3 default := by
  unfold lockStep
  split
  · rfl
  · split
    · rw [List.getD_eq_getElem?_getD, List.getElem?_set_ne (by omega), ← List.getD_eq_getElem?_getD]
    · split
      · rw [List.getD_eq_getElem?_getD, List.getElem?_set_ne (by omega), ← List.getD_eq_getElem?_getD]
      · rfl
theorem foldl_three : ∀ {m : List Event} (l : List Bool), (∀ e ∈ m, lockOf e ≠ 3) → (m.foldl lockStep l).getD 3 default = l.getD 3 default
  | [], _, _ => rfl
  | e :: m, l, h => by
    rw [List.foldl_cons, foldl_three _ fun x hx => h x (by simp [hx]), lockStep_three (h e (by simp))]
theorem locksTo_three {t : List Event} (h : ∀ e ∈ t, freeOf e) (k : Nat) (g : Int) : (locksTo t k g).getD 3 default = false := by
  unfold locksTo
  rw [foldl_three _ fun e he => lockOf_ne (h e (List.mem_of_mem_take (List.mem_filter.1 he).1))]
  rfl
theorem gated_len (t : List Event) : (gated t).length = 6 + t.length := by unfold gated gates; simp
theorem gated_at {t : List Event} (k : Nat) : (gated t).getD (6 + k) default = t.getD k default := by
  unfold gated
  rw [List.getD_eq_getElem?_getD, List.getElem?_append_right (by unfold gates; simp), List.getD_eq_getElem?_getD]
  unfold gates
  simp
theorem gates_filter {g : Int} (h0 : 0 ≤ g) (h6 : g < 6) : ((gates 6).filter fun e => decide (e.go = g)).foldl lockStep (List.replicate 4 false) = (List.replicate 4 false).set 3 true := by
  rcases (show g = 0 ∨ g = 1 ∨ g = 2 ∨ g = 3 ∨ g = 4 ∨ g = 5 by omega) with rfl | rfl | rfl | rfl | rfl | rfl <;> decide +kernel
theorem locksTo_gated {t : List Event} (h : ∀ e ∈ t, freeOf e) (k : Nat) {g : Int} (h0 : 0 ≤ g) (h6 : g < 6) : locksTo (gated t) (6 + k) g = (locksTo t k g).set 3 true := by
  unfold locksTo gated
  have e : (gates 6 ++ t).take (6 + k) = gates 6 ++ t.take k := by
    rw [List.take_append]
    have : (gates 6).length = 6 := by simp [gates]
    rw [this, List.take_of_length_le (by omega), show 6 + k - 6 = k by omega]
  rw [e, List.filter_append, List.foldl_append, gates_filter h0 h6, foldl_gate]
  exact fun e he => lockOf_ne (h e (List.mem_of_mem_take (List.mem_filter.1 he).1))
theorem go_of {t : List Event} (hr : t.all right = true) {k : Nat} (hk : k < t.length) : 0 ≤ (t.getD k default).go ∧ (t.getD k default).go < 6 := by
  have h := List.all_eq_true.1 hr _ (getD_mem t hk)
  unfold right at h
  simp only [Bool.and_eq_true, decide_eq_true_eq] at h
  exact ⟨h.1.1.1.1, h.1.1.1.2⟩
theorem heldOf_gated {t : List Event} (h : ∀ e ∈ t, freeOf e) (hr : t.all right = true) {k : Nat} (hk : k < t.length) : heldOf (gated t) (6 + k) = (heldOf t k).set 3 true := by
  unfold heldOf
  have := go_of hr hk
  rw [gated_at, locksTo_gated h k this.1 this.2]
theorem heldOf_early (t : List Event) {k : Nat} (hk : k < 6) : heldOf (gated t) k = List.replicate 4 false := by
  rcases (show k = 0 ∨ k = 1 ∨ k = 2 ∨ k = 3 ∨ k = 4 ∨ k = 5 by omega) with rfl | rfl | rfl | rfl | rfl | rfl <;> rfl
theorem gated_holds {t : List Event} (h : ∀ e ∈ t, freeOf e) (hr : t.all right = true) {e : Edge} (he : e ∈ edges (gated t)) : (heldOf (gated t) e.event.toNat).getD 3 default = true := by
  obtain ⟨k, hk, h1, _, _, f, hf, h2, _⟩ := edge_of he
  rw [h1, Int.toNat_natCast]
  by_cases h6 : k < 6
  · rw [heldOf_early t h6] at h2
    rcases (show f = 0 ∨ f = 1 ∨ f = 2 ∨ f = 3 by omega) with rfl | rfl | rfl | rfl <;> cases h2
  · obtain ⟨m, rfl⟩ : ∃ m, k = 6 + m := ⟨k - 6, by omega⟩
    rw [gated_len] at hk
    rw [heldOf_gated h hr (by omega)]
    rw [List.getD_eq_getElem?_getD, List.getElem?_set_self (by rw [heldOf_len]; omega)]
    rfl
theorem gated_6 {t : List Event} (h6 : ∀ e ∈ t, e.touch.length = 6) : ∀ e ∈ gated t, e.touch.length = 6 := by
  intro e he
  unfold gated at he
  rcases List.mem_append.1 he with he | he
  · unfold gates at he
    obtain ⟨g, _, rfl⟩ := List.mem_map.1 he
    rfl
  · exact h6 e he
theorem gated_check {t : List Event} (hr : t.all right = true) (h : t.length ≤ 250) : check (gated t) = 0 := by
  unfold check
  rw [if_neg (by rw [gated_len]; omega), if_pos]
  unfold gated
  rw [List.all_append, hr]
  decide +kernel
theorem ringsOn_test (test : List Int → Bool) : ∀ f l x, x ∈ ringsOn test f l → test x = true
  | 0, l, x, h => by simp [ringsOn] at h
  | f + 1, l, x, h => by
    rw [ringsOn] at h
    rcases List.mem_append.1 h with h | h
    · split at h
      · rename_i ht; simp at h; subst h; exact ht
      · simp at h
    · obtain ⟨n, _, h⟩ := List.mem_flatMap.1 h
      exact ringsOn_test test f _ x h
theorem ringsOf_two {all : List Edge} {x : List Int} (h : x ∈ ringsOf all) : 1 < x.length := by
  unfold ringsOf ringsTo at h
  obtain ⟨n, _, h⟩ := List.mem_flatMap.1 h
  have := ringsOn_test _ 4 _ x h
  unfold isRing at this
  simp at this
  exact this.1
theorem gated_guard {t : List Event} (h6 : ∀ e ∈ t, e.touch.length = 6) (h : ∀ e ∈ t, freeOf e) (hr : t.all right = true) {x : List Int} (hx : x ∈ ringsD (gated t)) : guardResK (gated t) x = true := by
  have he := ringsD_err hx
  have g6 := gated_6 h6
  rw [← ringsD_eq g6] at hx
  rw [← guardErr_eq g6] at he
  rw [← guardRes_eq g6]
  split at hx
  · unfold guardRes
    rw [if_pos he, chosen_two (fun a ha b hb => .inr ?_) (ringsOf_two hx)]; rfl
    unfold apartB
    rw [Bool.not_eq_false', List.any_eq_true]
    exact ⟨3, by simp, by rw [gated_holds h hr ha, gated_holds h hr hb]; rfl⟩
  · simp at hx

/-! More edges, more rings. -/

theorem clashes_free (so : List Edge) (e : Edge) : clashes (fun _ _ => true) so e = (so.map Edge.go).any fun g => decide (g = e.go) := by
  unfold clashes
  rw [List.any_map]
  simp [Function.comp_def]
theorem chosen_mono {ring : List Int} {A B : List Edge} (h : ∀ a ∈ A, ∃ b ∈ B, b.from_ = a.from_ ∧ b.to_ = a.to_ ∧ b.go = a.go) : ∀ (n : Nat) (so so' : List Edge), so.map Edge.go = so'.map Edge.go → chosen (fun _ _ => true) ring A n so = true → chosen (fun _ _ => true) ring B n so' = true
  | 0, _, _, _, _ => rfl
  | n + 1, so, so', hs, hc => by
    unfold chosen at hc ⊢
    obtain ⟨a, ha, hc⟩ := List.any_eq_true.1 hc
    obtain ⟨b, hb, h1, h2, h3⟩ := h a ha
    have hl : so.length = so'.length := by have := congrArg List.length hs; simpa using this
    simp only [Bool.and_eq_true] at hc
    refine List.any_eq_true.2 ⟨b, hb, ?_⟩
    simp only [Bool.and_eq_true]
    refine ⟨⟨?_, ?_⟩, chosen_mono h n _ _ (by simp [hs, h3]) hc.2⟩
    · have := hc.1.1
      unfold picks at this ⊢
      rwa [h1, h2, ← hl]
    · have := hc.1.2
      rw [clashes_free] at this ⊢
      rwa [h3, ← hs]
theorem flatMap_mono {α : Type} {β γ : Type} (l : List α) {f : α → List β} {g : α → List γ} (h : ∀ a, (f a).length ≤ (g a).length) : (l.flatMap f).length ≤ (l.flatMap g).length := by
  induction l with
  | nil => simp
  | cons a l ih => simp only [List.flatMap_cons, List.length_append]; have := h a; omega
theorem ringsOn_mono {p q : List Int → Bool} (h : ∀ l, p l = true → q l = true) : ∀ f l, (ringsOn p f l).length ≤ (ringsOn q f l).length
  | 0, _ => by simp [ringsOn]
  | f + 1, l => by
    rw [ringsOn, ringsOn, List.length_append, List.length_append]
    have h1 := flatMap_mono ((List.range 4).filter fun (n : Nat) => decide (l.getD 0 default < (n : Int)) && !l.contains (n : Int)) (f := fun (n : Nat) => ringsOn p f (l ++ [(n : Int)])) (g := fun (n : Nat) => ringsOn q f (l ++ [(n : Int)])) fun n => ringsOn_mono h f _
    have h2 : (if p l then [l] else []).length ≤ (if q l then [l] else []).length := by
      by_cases hp : p l = true
      · rw [if_pos hp, if_pos (h l hp)]; simp
      · rw [if_neg hp]; simp
    omega
theorem ringsOf_mono {A B : List Edge} (h : ∀ a ∈ A, ∃ b ∈ B, b.from_ = a.from_ ∧ b.to_ = a.to_ ∧ b.go = a.go) : (ringsOf A).length ≤ (ringsOf B).length := by
  unfold ringsOf ringsTo
  refine flatMap_mono _ fun n => ringsOn_mono (fun l hl => ?_) 4 _
  unfold isRing at hl ⊢
  simp only [Bool.and_eq_true] at hl ⊢
  exact ⟨hl.1, chosen_mono h _ _ _ rfl hl.2⟩
theorem edge_in {t : List Event} {k f : Nat} (hk : k < t.length) (h0 : takes (t.getD k default) = true) (hf : f < 4) (h1 : (heldOf t k).getD f false = true) (h2 : (f : Int) ≠ lockOf (t.getD k default)) : (⟨f, lockOf (t.getD k default), (t.getD k default).go, k⟩ : Edge) ∈ edges t := by
  unfold edges edgesTo
  refine List.mem_flatMap.2 ⟨k, List.mem_range.2 hk, ?_⟩
  rw [if_pos h0]
  unfold edgesAt
  refine List.mem_map.2 ⟨f, List.mem_filter.2 ⟨List.mem_range.2 hf, ?_⟩, rfl⟩
  rw [h1, decide_eq_true h2]; rfl
theorem gated_more {t : List Event} (h6 : ∀ e ∈ t, e.touch.length = 6) (h : ∀ e ∈ t, freeOf e) (hc : check t = 0) (hl : t.length ≤ 250) : (ringsD t).length ≤ (ringsD (gated t)).length := by
  have hr := check_right hc
  rw [← ringsD_eq h6, ← ringsD_eq (gated_6 h6), if_pos hc, if_pos (gated_check hr hl)]
  refine ringsOf_mono fun a ha => ?_
  obtain ⟨k, hk, _, hg, h0, f, hf, h2, h3, h4, h5⟩ := edge_of ha
  have e := gated_at (t := t) k
  have hh := heldOf_gated h hr hk
  have hf3 : f ≠ 3 := fun he => by
    subst he
    have := locksTo_three h k (t.getD k default).go
    unfold heldOf at h2
    rw [show (default : Bool) = false from rfl] at this
    rw [this] at h2; cases h2
  refine ⟨_, edge_in (t := gated t) (k := 6 + k) (f := f) (by rw [gated_len]; omega) (by rw [e]; exact h0) hf ?_ (by rw [e]; exact h3), ?_, ?_, ?_⟩
  · rw [hh, List.getD_eq_getElem?_getD, List.getElem?_set_ne (by omega), ← List.getD_eq_getElem?_getD]; exact h2
  · exact h4.symm
  · rw [h5]; simp only [e]
  · rw [hg]; simp only [e]
end Go.Eng.Try
