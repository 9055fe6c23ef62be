/- What the machine's arguments read as, at the seat's own types. -/
import Derived.Test.YtedceinkpkoncaaGreatE3
import Derived.Test.YtedceinkpkoncaaGreatM1
import Derived.Test.YtedceinkpkoncaaGreatE4
namespace Go.Eng.Tryz
set_option linter.unusedSimpArgs false
set_option linter.unusedVariables false
open Go.RowKit Go.Eng
variable {w : World} {F : Nat → Prop}

theorem slice_of {α : Type} {f : α → V} {t e : TypeId} (ht : tab.ty t = .slice e) (hf : ∀ v cs, Fits tab w F e v cs → ∃ a, v = f a) {v : V} {cs : List Value} (h : Fits tab w F t v cs) : ∃ m : List α, v = .list (m.map f) := by
  rcases h.inv' ht with ⟨h, _⟩ | ⟨b, off, n, cap, l', ds, h, _, _, _, _, hf', _⟩
  · exact ⟨[], h⟩
  · obtain ⟨m, rfl⟩ := fits_list hf hf'
    exact ⟨m, h⟩
theorem slice_of' {α : Type} {f : α → V} {q : α → Prop} {t e : TypeId} (ht : tab.ty t = .slice e) (hf : ∀ v cs, Fits tab w F e v cs → ∃ a, q a ∧ v = f a) {v : V} {cs : List Value} (h : Fits tab w F t v cs) : ∃ m : List α, (∀ a ∈ m, q a) ∧ v = .list (m.map f) := by
  rcases h.inv' ht with ⟨h, _⟩ | ⟨b, off, n, cap, l', ds, h, _, _, _, _, hf', _⟩
  · exact ⟨[], by simp, h⟩
  · obtain ⟨m, hm, rfl⟩ := fits_list' hf hf'
    exact ⟨m, hm, h⟩
theorem array_of {α : Type} {f : α → V} {q : α → Prop} {t e : TypeId} {n : Nat} (ht : tab.ty t = .arr n e) (hf : ∀ v cs, Fits tab w F e v cs → ∃ a, q a ∧ v = f a) {v : V} {cs : List Value} (h : Fits tab w F t v cs) : ∃ m : List α, m.length = n ∧ (∀ a ∈ m, q a) ∧ v = .agg (m.map f) := by
  obtain ⟨l, hl, hf'⟩ := h.inv' ht
  obtain ⟨m, hm, rfl⟩ := fits_list' hf hf'
  have := hf'.lens
  simp at this
  exact ⟨m, this, hm, hl⟩
theorem fits_int {t : TypeId} {k : IntKind} (ht : tab.ty t = .int k) (v : V) (cs : List Value) (h : Fits tab w F t v cs) : ∃ n : Int, k.has n ∧ v = .int n := by
  obtain ⟨n, h1, h2, _⟩ := h.inv' ht
  exact ⟨n, h2, h1⟩
theorem fits_bool {t : TypeId} (ht : tab.ty t = .bool) (v : V) (cs : List Value) (h : Fits tab w F t v cs) : ∃ n : Bool, v = .bool n := by
  obtain ⟨n, h1, _⟩ := h.inv' ht
  exact ⟨n, h1⟩
theorem fits_instr (v : V) (cs : List Value) (h : Fits tab w F 105 v cs) : ∃ a : Instr, v = a.v := by
  obtain ⟨l, rfl, hl⟩ := h.inv' ty105
  cases hl with | cons h1 hl => cases hl with | cons h2 hl => cases hl with | cons h3 hl => cases hl with | cons h4 hl => cases hl with | cons h5 hl => cases hl with | nil =>
    obtain ⟨a1, _, rfl⟩ := fits_int ty50 _ _ h1
    obtain ⟨a2, _, rfl⟩ := fits_int ty3 _ _ h2
    obtain ⟨a3, _, rfl⟩ := fits_int ty3 _ _ h3
    obtain ⟨a4, _, rfl⟩ := fits_int ty3 _ _ h4
    obtain ⟨a5, _, rfl⟩ := fits_int ty2 _ _ h5
    exact ⟨⟨a1, a2, a3, a4, a5⟩, rfl⟩
theorem fits_case (v : V) (cs : List Value) (h : Fits tab w F 108 v cs) : ∃ a : Cas, v = a.v := by
  obtain ⟨l, rfl, hl⟩ := h.inv' ty108
  cases hl with | cons h1 hl => cases hl with | cons h2 hl => cases hl with | cons h3 hl => cases hl with | cons h4 hl => cases hl with | nil =>
    obtain ⟨a1, rfl⟩ := fits_bool ty4 _ _ h1
    obtain ⟨a2, _, rfl⟩ := fits_int ty3 _ _ h2
    obtain ⟨a3, _, rfl⟩ := fits_int ty3 _ _ h3
    obtain ⟨a4, _, rfl⟩ := fits_int ty3 _ _ h4
    exact ⟨⟨a1, a2, a3, a4⟩, rfl⟩
theorem fits_sel (v : V) (cs : List Value) (h : Fits tab w F 103 v cs) : ∃ a : Sel, v = a.v := by
  obtain ⟨l, rfl, hl⟩ := h.inv' ty103
  cases hl with | cons h1 hl => cases hl with | cons h2 hl => cases hl with | nil =>
    obtain ⟨a1, rfl⟩ := slice_of ty101 fits_case h1
    obtain ⟨a2, _, rfl⟩ := fits_int ty3 _ _ h2
    exact ⟨⟨a1, a2⟩, rfl⟩
theorem fits_fnc (v : V) (cs : List Value) (h : Fits tab w F 100 v cs) : ∃ a : Fnc, v = a.v := by
  obtain ⟨l, rfl, hl⟩ := h.inv' ty100
  cases hl with | cons h1 hl => cases hl with | cons h2 hl => cases hl with | cons h3 hl => cases hl with | cons h4 hl => cases hl with | nil =>
    obtain ⟨a1, _, rfl⟩ := fits_int ty3 _ _ h1
    obtain ⟨a2, _, rfl⟩ := fits_int ty3 _ _ h2
    obtain ⟨a3, rfl⟩ := slice_of ty97 fits_instr h3
    obtain ⟨a4, rfl⟩ := slice_of ty98 fits_sel h4
    exact ⟨⟨a1, a2, a3, a4⟩, rfl⟩
theorem fits_vr (v : V) (cs : List Value) (h : Fits tab w F 152 v cs) : ∃ a : Vr, v = a.v := by
  obtain ⟨l, rfl, hl⟩ := h.inv' ty152
  cases hl with | cons h1 hl => cases hl with | cons h2 hl => cases hl with | nil =>
    obtain ⟨a1, rfl⟩ := fits_bool ty4 _ _ h1
    obtain ⟨a2, _, rfl⟩ := fits_int ty2 _ _ h2
    exact ⟨⟨a1, a2⟩, rfl⟩
theorem fits_prog (v : V) (cs : List Value) (h : Fits tab w F 26 v cs) : ∃ a : Prg, v = a.v := by
  obtain ⟨l, rfl, hl⟩ := h.inv' ty26
  cases hl with | cons h1 hl => cases hl with | cons h2 hl => cases hl with | cons h3 hl => cases hl with | cons h4 hl => cases hl with | nil =>
    obtain ⟨a1, rfl⟩ := slice_of ty22 fits_vr h1
    obtain ⟨a2, _, rfl⟩ := fits_int ty3 _ _ h2
    obtain ⟨a3, rfl⟩ := slice_of ty23 (f := V.int) (fun v cs h => let ⟨n, _, e⟩ := fits_int ty3 v cs h; ⟨n, e⟩) h3
    obtain ⟨a4, rfl⟩ := slice_of ty24 fits_fnc h4
    exact ⟨⟨a1, a2, a3, a4⟩, rfl⟩
theorem Prg.fit_of {p : Prg} (h : V.Lens p.v) : p.Fit := by
  have a := V.Lens.of_agg h
  have h1 := (V.Lens.of_list (a (.list (p.vars.map Vr.v)) (by simp))).1
  have h3 := (V.Lens.of_list (a (.list (p.chans.map V.int)) (by simp))).1
  have h4 := V.Lens.of_list (a (.list (p.funcs.map Fnc.v)) (by simp))
  rw [List.length_map] at h1 h3
  refine ⟨h1, h3, by simpa using h4.1, fun f hf => ?_⟩
  have b := V.Lens.of_agg (h4.2 f.v (List.mem_map.2 ⟨f, hf, rfl⟩))
  have c1 := (V.Lens.of_list (b (.list (f.code.map Instr.v)) (by simp))).1
  have c2 := V.Lens.of_list (b (.list (f.sels.map Sel.v)) (by simp))
  rw [List.length_map] at c1
  refine ⟨c1, by simpa using c2.1, fun s hs => ?_⟩
  have d := V.Lens.of_agg (c2.2 s.v (List.mem_map.2 ⟨s, hs, rfl⟩))
  simpa using (V.Lens.of_list (d (.list (s.cases.map Cas.v)) (by simp))).1
theorem fits_gor (v : V) (cs : List Value) (h : Fits tab w F 38 v cs) : ∃ a : Gor, a.regs.length = 8 ∧ v = a.v := by
  obtain ⟨l, rfl, hl⟩ := h.inv' ty38
  cases hl with | cons h1 hl => cases hl with | cons h2 hl => cases hl with | cons h3 hl => cases hl with | cons h4 hl => cases hl with | cons h5 hl => cases hl with | nil =>
    obtain ⟨a1, _, rfl⟩ := fits_int ty3 _ _ h1
    obtain ⟨a2, _, rfl⟩ := fits_int ty3 _ _ h2
    obtain ⟨a3, _, rfl⟩ := fits_int ty3 _ _ h3
    obtain ⟨a4, _, rfl⟩ := fits_int ty3 _ _ h4
    obtain ⟨a5, hl5, _, rfl⟩ := array_of ty31 (fits_int ty2) h5
    exact ⟨⟨a1, a2, a3, a4, a5⟩, hl5, rfl⟩
theorem fits_chn (v : V) (cs : List Value) (h : Fits tab w F 35 v cs) : ∃ a : Chn, a.buf.length = 4 ∧ v = a.v := by
  obtain ⟨l, rfl, hl⟩ := h.inv' ty35
  cases hl with | cons h1 hl => cases hl with | cons h2 hl => cases hl with | cons h3 hl => cases hl with | cons h4 hl => cases hl with | cons h5 hl => cases hl with | cons h6 hl => cases hl with | nil =>
    obtain ⟨a1, hl1, _, rfl⟩ := array_of ty33 (fits_int ty2) h1
    obtain ⟨a2, _, rfl⟩ := fits_int ty3 _ _ h2
    obtain ⟨a3, rfl⟩ := fits_bool ty4 _ _ h3
    obtain ⟨a4, _, rfl⟩ := fits_int ty3 _ _ h4
    obtain ⟨a5, _, rfl⟩ := fits_int ty3 _ _ h5
    obtain ⟨a6, _, rfl⟩ := fits_int ty2 _ _ h6
    exact ⟨⟨a1, a2, a3, a4, a5, a6⟩, hl1, rfl⟩
theorem fits_state (v : V) (cs : List Value) (h : Fits tab w F 41 v cs) : ∃ a : Stt, a.Shape ∧ v = a.v := by
  obtain ⟨l, rfl, hl⟩ := h.inv' ty41
  cases hl with | cons h1 hl => cases hl with | cons h2 hl => cases hl with | cons h3 hl => cases hl with | cons h4 hl => cases hl with | cons h5 hl => cases hl with | nil =>
    obtain ⟨a1, l1, _, rfl⟩ := array_of ty31 (fits_int ty2) h1
    obtain ⟨a2, l2, _, rfl⟩ := array_of ty32 (fits_int ty3) h2
    obtain ⟨a3, l3, q3, rfl⟩ := array_of ty36 fits_chn h3
    obtain ⟨a4, l4, q4, rfl⟩ := array_of ty39 fits_gor h4
    obtain ⟨a5, _, rfl⟩ := fits_int ty3 _ _ h5
    exact ⟨⟨a1, a2, a3, a4, a5⟩, ⟨l1, l2, l3, q3, l4, q4⟩, rfl⟩
theorem fits_pick (v : V) (cs : List Value) (h : Fits tab w F 49 v cs) : ∃ a : Pck, v = a.v := by
  obtain ⟨l, rfl, hl⟩ := h.inv' ty49
  cases hl with | cons h1 hl => cases hl with | cons h2 hl => cases hl with | nil =>
    obtain ⟨a1, _, rfl⟩ := fits_int ty3 _ _ h1
    obtain ⟨a2, _, rfl⟩ := fits_int ty3 _ _ h2
    exact ⟨⟨a1, a2⟩, rfl⟩
theorem fits_budget (v : V) (cs : List Value) (h : Fits tab w F 29 v cs) : ∃ a : Bud, v = a.v := by
  obtain ⟨l, rfl, hl⟩ := h.inv' ty29
  cases hl with | cons h1 hl => cases hl with | cons h2 hl => cases hl with | cons h3 hl => cases hl with | nil =>
    obtain ⟨a1, _, rfl⟩ := fits_int ty3 _ _ h1
    obtain ⟨a2, _, rfl⟩ := fits_int ty3 _ _ h2
    obtain ⟨a3, _, rfl⟩ := fits_int ty3 _ _ h3
    exact ⟨⟨a1, a2, a3⟩, rfl⟩

end Go.Eng.Tryz
