/- What the arguments read as, at the seat's own types. -/
import Derived.Test.YtipodgpcbkoopaaE3
import Derived.Test.YtipodgpcbkoopaaE4
namespace Go.Eng.Try
set_option linter.unusedSimpArgs false
set_option linter.unusedVariables false
open Go.RowKit Go.Eng
variable {w : World} {F : Nat → Prop}

theorem fits_access (v : V) (cs : List Value) (h : Fits tab w F 39 v cs) : ∃ a : Access, v = a.v := by
  obtain ⟨l, rfl, hl⟩ := h.inv' ty39
  cases hl with | cons h1 hl => cases hl with | cons h2 hl => cases hl with | cons h3 hl => cases hl with | nil =>
    obtain ⟨k, rfl, _⟩ := h1.inv' ty3
    obtain ⟨n, rfl, _⟩ := h2.inv' ty3
    obtain ⟨b, rfl, _⟩ := h3.inv' ty4
    exact ⟨⟨k, n, b⟩, rfl⟩

theorem fits_event (v : V) (cs : List Value) (h : Fits tab w F 42 v cs) : ∃ e : Event, e.touch.length = 6 ∧ v = e.v := by
  obtain ⟨l, rfl, hl⟩ := h.inv' ty42
  cases hl with | cons h1 hl => cases hl with | cons h2 hl => cases hl with | cons h3 hl => cases hl with | cons h4 hl => cases hl with | cons h5 hl => cases hl with | cons h6 hl => cases hl with | cons h7 hl => cases hl with | cons h8 hl => cases hl with | cons h9 hl => cases hl with | nil =>
    obtain ⟨a1, rfl, _⟩ := h1.inv' ty3
    obtain ⟨a2, rfl, _⟩ := h2.inv' ty3
    obtain ⟨a3, rfl, _⟩ := h3.inv' ty3
    obtain ⟨a4, rfl, _⟩ := h4.inv' ty37
    obtain ⟨a5, rfl, _⟩ := h5.inv' ty3
    obtain ⟨a6, rfl, _⟩ := h6.inv' ty2
    obtain ⟨a7, rfl, _⟩ := h7.inv' ty2
    obtain ⟨a8, rfl, g8⟩ := h8.inv' ty40
    obtain ⟨a9, rfl, _⟩ := h9.inv' ty3
    obtain ⟨m, rfl⟩ := fits_list fits_access g8
    have := g8.lens
    simp at this
    exact ⟨⟨a1, a2, a3, a4, a5, a6, a7, m, a9⟩, this, rfl⟩

theorem accesses_of {t : TypeId} (ht : tab.ty t = .slice 39) {l : List V} {cs : List Value} (h : Fits tab w F t (.list l) cs) : ∃ a : List Access, l = a.map Access.v := by
  rcases h.inv' ht with ⟨h, _⟩ | ⟨b, off, n, cap, l', ds, h, _, _, _, _, hf, _⟩
  · cases h; exact ⟨[], rfl⟩
  · cases h; exact fits_list fits_access hf

theorem events_of {t : TypeId} (ht : tab.ty t = .slice 42) {l : List V} {cs : List Value} (h : Fits tab w F t (.list l) cs) : ∃ a : List Event, (∀ e ∈ a, e.touch.length = 6) ∧ l = a.map Event.v := by
  rcases h.inv' ht with ⟨h, _⟩ | ⟨b, off, n, cap, l', ds, h, _, _, _, _, hf, _⟩
  · cases h; exact ⟨[], by simp, rfl⟩
  · cases h; exact fits_list' fits_event hf

theorem ints_of {t : TypeId} (ht : tab.ty t = .slice 3) {l : List V} {cs : List Value} (h : Fits tab w F t (.list l) cs) : ∃ a : List Int, l = a.map V.int := by
  rcases h.inv' ht with ⟨h, _⟩ | ⟨b, off, n, cap, l', ds, h, _, _, _, _, hf, _⟩
  · cases h; exact ⟨[], rfl⟩
  · cases h; exact fits_list (fun v cs h => by obtain ⟨k, rfl, _⟩ := h.inv' ty3; exact ⟨k, rfl⟩) hf

end Go.Eng.Try
