/- The events of a machine's steps may stand in a trace. -/
import Derived.Test.YtedceinkpkoncaaGreatM4
import Derived.Test.YtedceinkpkoncaaGreatM2
import Derived.Test.YtedceinkpkoncaaGreatM1
namespace Go.Eng
set_option linter.unusedSimpArgs false
set_option linter.unusedVariables false
set_option linter.unusedVariables false

def alt' (a b : Access) : Prop := a.kind < b.kind ∨ a.kind = b.kind ∧ a.num < b.num
theorem alt'_cmp {a b : Access} (h : alt' a b) : cmp a b < 0 := by
  unfold alt' at h
  unfold cmp
  rw [if_pos (by omega)]; decide
theorem add_keys (k n : Int) (w : Bool) : ∀ {l : List Access} {y : Access}, y ∈ add k n w l → (∃ x ∈ l, x.kind = y.kind ∧ x.num = y.num) ∨ (y.kind = k ∧ y.num = n)
  | [], y, h => by
    simp only [add, List.mem_cons, List.not_mem_nil, or_false] at h
    subst h; exact .inr ⟨rfl, rfl⟩
  | x :: l, y, h => by
    unfold add at h
    split at h
    · rcases List.mem_cons.1 h with rfl | h
      · exact .inl ⟨x, by simp, rfl, rfl⟩
      · exact .inl ⟨y, by simp [h], rfl, rfl⟩
    · split at h
      · rcases List.mem_cons.1 h with rfl | h
        · exact .inr ⟨rfl, rfl⟩
        · exact .inl ⟨y, h, rfl, rfl⟩
      · rcases List.mem_cons.1 h with rfl | h
        · exact .inl ⟨y, by simp, rfl, rfl⟩
        · rcases add_keys k n w h with ⟨x', hx, e⟩ | e
          · exact .inl ⟨x', by simp [hx], e⟩
          · exact .inr e
theorem add_sorted (k n : Int) (w : Bool) : ∀ {l : List Access}, l.Pairwise alt' → (add k n w l).Pairwise alt'
  | [], _ => by simp [add]
  | x :: l, h => by
    obtain ⟨h1, h2⟩ := List.pairwise_cons.1 h
    unfold add
    split
    · exact List.pairwise_cons.2 ⟨fun y hy => by have := h1 y hy; unfold alt' at this ⊢; exact this, h2⟩
    · rename_i hne
      split
      · rename_i hlt
        refine List.pairwise_cons.2 ⟨fun y hy => ?_, h⟩
        rcases List.mem_cons.1 hy with rfl | hy
        · unfold alt'; simp only; omega
        · have := h1 y hy; unfold alt' at this ⊢; simp only; omega
      · rename_i hnl
        refine List.pairwise_cons.2 ⟨fun y hy => ?_, add_sorted k n w h2⟩
        rcases add_keys k n w hy with ⟨x', hx, e1, e2⟩ | ⟨e1, e2⟩
        · have := h1 x' hx; unfold alt' at this ⊢; omega
        · unfold alt'; omega
theorem add_own (k n : Int) (w : Bool) {g : Int} : ∀ {l : List Access}, (⟨5, g, true⟩ : Access) ∈ l → (⟨5, g, true⟩ : Access) ∈ add k n w l
  | [], h => by simp at h
  | x :: l, h => by
    unfold add
    split
    · rcases List.mem_cons.1 h with h | h
      · rw [← h]; simp
      · simp [h]
    · split
      · simp only [List.mem_cons] at h ⊢; exact .inr h
      · rcases List.mem_cons.1 h with h | h
        · rw [← h]; simp
        · exact List.mem_cons.2 (.inr (add_own k n w h))

structure TouchP (g : Int) (l : List Access) : Prop where
  sorted : l.Pairwise alt'
  num : ∀ a ∈ l, 0 ≤ a.num ∧ a.num < most a.kind
  own : (⟨5, g, true⟩ : Access) ∈ l
theorem TouchP.add {g : Int} {l : List Access} (h : TouchP g l) {k n : Int} (hn : 0 ≤ n ∧ n < most k) (w : Bool) : TouchP g (add k n w l) :=
  ⟨add_sorted k n w h.sorted, fun a ha => by
    rcases add_keys k n w ha with ⟨x, hx, e1, e2⟩ | ⟨e1, e2⟩
    · rw [← e1, ← e2]; exact h.num x hx
    · rw [e1, e2]; exact hn, add_own k n w h.own⟩
theorem TouchP.base {g : Int} (hg : 0 ≤ g ∧ g < 6) : TouchP g [⟨5, g, true⟩] := ⟨by simp, by intro a ha; simp at ha; subst ha; exact hg, by simp⟩
theorem TouchP.chans {g : Int} (q : Sel) : ∀ (n : Nat) {l : List Access}, TouchP g l → (∀ i, i < q.cases.length → 0 ≤ (q.cases.getD i default).chan ∧ (q.cases.getD i default).chan < 4) → TouchP g (addChans q n l)
  | 0, l, h, _ => by simpa [addChans] using h
  | n + 1, l, h, hc => by
    by_cases hn : n < q.cases.length
    · unfold addChans
      rw [List.take_succ_eq_append_getElem hn, List.foldl_append]
      have := hc n hn
      rw [List.getD_eq_getElem?_getD, List.getElem?_eq_getElem hn] at this
      exact (TouchP.chans q n h hc).add (k := 3) this true
    · have := TouchP.chans q n h hc
      unfold addChans at this ⊢
      rw [List.take_of_length_le (by omega)] at this ⊢
      exact this
theorem addChans_long (q : Sel) (l : List Access) : ∀ j : Nat, (addChans q j l).length ≤ l.length + j
  | 0 => by simp [addChans]
  | j + 1 => by
    by_cases h : j < q.cases.length
    · unfold addChans
      rw [List.take_succ_eq_append_getElem h, List.foldl_append]
      have h1 := add_len 3 q.cases[j].chan true (addChans q j l)
      have h2 := addChans_long q l j
      show (add 3 q.cases[j].chan true (addChans q j l)).length ≤ _
      omega
    · have e : addChans q (j + 1) l = addChans q j l := by unfold addChans; rw [List.take_of_length_le (by omega), List.take_of_length_le (by omega)]
      rw [e]
      have := addChans_long q l j
      omega

theorem ite_tp {g : Int} {c : Prop} [Decidable c] {a b : List Access} (h1 : c → TouchP g a ∧ 1 ≤ a.length ∧ a.length ≤ 6) (h2 : ¬c → TouchP g b ∧ 1 ≤ b.length ∧ b.length ≤ 6) : TouchP g (if c then a else b) ∧ 1 ≤ (if c then a else b).length ∧ (if c then a else b).length ≤ 6 := by
  by_cases h : c
  · rw [if_pos h]; exact h1 h
  · rw [if_neg h]; exact h2 h
theorem touch_ok {p : Prg} (hok : p.Ok) {s : Stt} (hw : Wf p s) {g : Int} (hg : 0 ≤ g ∧ g < s.count) : TouchP g (touch p s g) ∧ 1 ≤ (touch p s g).length ∧ (touch p s g).length ≤ 6 := by
  have hc := hw.count
  have hgi := hw.gos g hg.1 hg.2
  have hrt : instrErr p (p.funcs.getD (s.gos.getD g.toNat default).func.toNat default) (instrAt p s g) = 0 := hw.right hok hg.1 hg.2
  have hsz := hok.sizes
  unfold Sizes at hsz
  have hB : TouchP g [⟨5, g, true⟩] := TouchP.base ⟨hg.1, by omega⟩
  have hl1 : ([⟨5, g, true⟩] : List Access).length = 1 := rfl
  have pos : ∀ {l : List Access}, TouchP g l → 1 ≤ l.length := fun h => List.length_pos_of_mem h.own
  have fin : ∀ {l : List Access}, TouchP g l → l.length ≤ 6 → TouchP g l ∧ 1 ≤ l.length ∧ l.length ≤ 6 := fun h h2 => ⟨h, pos h, h2⟩
  have one : ∀ (k n : Int) (w : Bool), 0 ≤ n ∧ n < most k → TouchP g (add k n w [⟨5, g, true⟩]) ∧ 1 ≤ (add k n w [⟨5, g, true⟩]).length ∧ (add k n w [⟨5, g, true⟩]).length ≤ 6 := by
    intro k n w h
    exact fin (hB.add h w) (by have := add_len k n w [⟨5, g, true⟩]; omega)
  have opc : ∀ {k : Int}, opAt p s g = k → k ≠ 66 → (instrAt p s g).op = k := fun h hk => hw.op_at hok hg.1 hg.2 h hk
  have m1 : most 1 = 8 := rfl
  have m2 : most 2 = 4 := rfl
  have m3 : most 3 = 4 := rfl
  have m4 : most 4 = 1 := rfl
  have m5 : most 5 = 6 := rfl
  have m6 : most 6 = 1 := rfl
  unfold touch
  refine ite_tp (fun h => ?_) (fun _ => ?_)
  · have hI := vis50 hrt (opc h (by decide)); exact one 1 _ _ (by omega)
  refine ite_tp (fun h => ?_) (fun _ => ?_)
  · have hI := vis54 hrt (opc h (by decide)); exact one 1 _ _ (by omega)
  refine ite_tp (fun h => ?_) (fun _ => ?_)
  · have hI := vis51 hrt (opc h (by decide)); exact one 1 _ _ (by omega)
  refine ite_tp (fun h => ?_) (fun _ => ?_)
  · rcases h with h | h
    · have hI := vis52 hrt (opc h (by decide)); exact one 1 _ _ (by omega)
    · have hI := vis53 hrt (opc h (by decide)); exact one 1 _ _ (by omega)
  refine ite_tp (fun h => ?_) (fun _ => ?_)
  · have hI := vis55 hrt (by rcases h with h | h; exact .inl (opc h (by decide)); exact .inr (opc h (by decide)))
    exact one 2 _ _ (by omega)
  refine ite_tp (fun h => ?_) (fun _ => ?_)
  · have hI := vis57 hrt (opc h (by decide)); exact one 2 _ _ (by omega)
  refine ite_tp (fun h => ?_) (fun _ => ?_)
  · rcases h with h | h | h
    · have hI := vis58 hrt (opc h (by decide)); exact one 3 _ _ (by omega)
    · have hI := vis60 hrt (opc h (by decide)); exact one 3 _ _ (by omega)
    · have hI := vis58 hrt (hw.op66 hok hg.1 hg.2 h); exact one 3 _ _ (by omega)
  refine ite_tp (fun h => ?_) (fun _ => ?_)
  · have hI := vis59 hrt (opc h (by decide)); exact one 3 _ _ (by omega)
  refine ite_tp (fun h => ?_) (fun _ => ?_)
  · have hI := vis61 hrt (opc h (by decide))
    have hsh := hok.short (s.gos.getD g.toNat default).func.toNat (instrAt p s g).a.toNat (by omega)
    have hq : (selAt p s g).cases.length ≤ 4 := hsh.2
    refine fin (hB.chans _ _ fun i hi => ?_) (by have := addChans_long (selAt p s g) [⟨5, g, true⟩] (selAt p s g).cases.length; omega)
    have hC := (case_ok hok (i := (s.gos.getD g.toNat default).func.toNat) (j := (instrAt p s g).a.toNat) (k := i) (by have := hgi.f0; have := hgi.f1; omega) (by omega) hi).chan
    have e : ((p.funcs.getD (s.gos.getD g.toNat default).func.toNat default).sels.getD (instrAt p s g).a.toNat default).cases.getD i default = (selAt p s g).cases.getD i default := rfl
    rw [e] at hC
    omega
  refine ite_tp (fun h => ?_) (fun _ => ?_)
  · have h4 := hB.add (k := 4) (n := 0) (by omega) true
    have l4 := add_len 4 0 true [⟨5, g, true⟩]
    refine ite_tp (fun _ => ?_) (fun _ => ?_)
    · exact fin (h4.add (k := 5) (n := s.count) (by omega) true) (by have := add_len 5 s.count true (add 4 0 true [⟨5, g, true⟩]); omega)
    · exact fin h4 (by omega)
  refine ite_tp (fun h => ?_) (fun _ => ?_)
  · have h4 := hB.add (k := 4) (n := 0) (by omega) false
    have l4 := add_len 4 0 false [⟨5, g, true⟩]
    refine ite_tp (fun q => ?_) (fun _ => ?_)
    · have q : 0 ≤ (s.gor g).reg (instrAt p s g).a ∧ (s.gor g).reg (instrAt p s g).a < s.count := q
      exact fin (h4.add (k := 5) (by omega) false) (by have := add_len 5 ((s.gor g).reg (instrAt p s g).a) false (add 4 0 false [⟨5, g, true⟩]); omega)
    · exact fin h4 (by omega)
  exact ite_tp (fun h => one 6 _ _ (by omega)) (fun _ => fin hB (by omega))

theorem touchFill_at (l : List Access) {i : Nat} (hi : i < 6) : (touchFill l).getD i default = if i < l.length then l.getD i default else ⟨0, 0, false⟩ := by
  unfold touchFill; exact rows_getD hi _ _
theorem touchFill_take {l : List Access} (h : l.length ≤ 6) : (touchFill l).take l.length = l := by
  apply List.ext_getElem?
  intro i
  rw [List.getElem?_take]
  split
  · rename_i hi
    unfold touchFill
    rw [rows_get (by omega), if_pos hi]
    simp [List.getD_eq_getElem?_getD, hi]
  · rw [List.getElem?_eq_none (by omega)]
theorem event_right {p : Prg} (hok : p.Ok) {s : Stt} (hw : Wf p s) {x : Pck} (hg : 0 ≤ x.go ∧ x.go < s.count) (val : Int) : right (event p s x val) = true := by
  obtain ⟨hT, h1, h6⟩ := touch_ok hok hw hg
  have hc := hw.count
  have eg : (event p s x val).go = x.go := rfl
  have et : (event p s x val).touches = ((touch p s x.go).length : Int) := rfl
  have ef : (event p s x val).touch = touchFill (touch p s x.go) := rfl
  unfold right
  simp only [Bool.and_eq_true, decide_eq_true_eq, eg, et]
  refine ⟨⟨⟨⟨hg.1, by omega⟩, by omega⟩, by omega⟩, ?_, ?_⟩
  · refine List.all_eq_true.2 fun i hi => ?_
    have hi : i < 6 := List.mem_range.1 hi
    unfold placeOk
    rw [et, ef, touchFill_at _ hi]
    split
    · rename_i q; rw [if_neg (by omega)]; exact decide_eq_true rfl
    · rename_i q
      rw [if_pos (by omega)]
      have hm : (touch p s x.go).getD i default ∈ touch p s x.go := getD_mem _ (by omega)
      have hn := hT.num _ hm
      rw [decide_eq_true hn.1, decide_eq_true hn.2, Bool.true_and, Bool.true_and]
      by_cases h0 : i = 0
      · rw [decide_eq_true h0]; rfl
      · rw [touchFill_at _ (by omega), if_pos (by omega), Bool.or_eq_true]
        refine .inr (decide_eq_true (alt'_cmp ?_))
        have := List.pairwise_iff_getElem.1 hT.sorted (i - 1) i (by omega) (by omega) (by omega)
        simpa [List.getD_eq_getElem?_getD, show i - 1 < (touch p s x.go).length by omega, show i < (touch p s x.go).length by omega] using this
  · obtain ⟨i, hi, e⟩ := List.mem_iff_getElem.1 hT.own
    refine List.any_eq_true.2 ⟨i, List.mem_range.2 (by omega), ?_⟩
    unfold ownAt
    rw [et, ef, eg, touchFill_at _ (by omega), if_pos hi, Bool.and_eq_true, decide_eq_true_eq, decide_eq_true_eq]
    exact ⟨by omega, by simpa [List.getD_eq_getElem?_getD, hi] using e⟩
theorem event_lock {p : Prg} {s : Stt} {x : Pck} {val : Int} (h : (touch p s x.go).length ≤ 6) : lockOf (event p s x val) = firstLock (touch p s x.go) := by
  unfold lockOf
  show firstLock ((touchFill (touch p s x.go)).take ((touch p s x.go).length : Int).toNat) = _
  rw [Int.toNat_natCast, touchFill_take h]
end Go.Eng
/- In the machine's traces what is held ahead of a run's end by a goroutine is what the state says. -/
namespace Go.Eng
set_option linter.unusedSimpArgs false
set_option linter.unusedVariables false
set_option linter.unusedVariables false

/-- The locks of a list are those that the state says are g's. -/
def Owned (s : Stt) (g : Int) (L : List Bool) : Prop := ∀ k : Nat, k < 4 → L.getD k false = decide (s.owner.getD k 0 = g + 1)

theorem lockStep_none {L : List Bool} {e : Event} (h : e.op ≠ 55 ∧ e.op ≠ 56 ∧ e.op ≠ 57) : lockStep L e = L := by
  unfold lockStep
  split
  · rfl
  · rw [if_neg (by omega), if_neg (by omega)]

section
variable {apply : Int → Int → Int → Int × Int} (hap : ApplyOk apply) {p : Prg}
include hap in
theorem take_owner {s : Stt} (hr : rightP p = true) (hok : p.Ok) (hv : Vld p s) {x : Pck} (ha : x.alt ∈ alts p s x.go) {fuel : Int} (hf : 0 ≤ fuel ∧ fuel ≤ 4096) :
    (take apply p s x fuel).1.owner = (visible p s x.go x.alt).s.owner := by
  have hg := (live_iff.1 (alts_live ha)).1
  have hd := visible_ok hok hr hv ha
  unfold take
  simp only
  split
  · rfl
  · rename_i hw
    have hw : (visible p s x.go x.alt).why = 0 := by simpa using hw
    split
    · rfl
    · rename_i ht
      have h1 := afterVis_ok hg hd hw (by omega)
      have hc := hd.cnt
      have hk := settle_keeps (apply := apply) hr hok h1 (g := x.go) (fuel := fuel) ⟨hg.1, by show x.go < (visible p s x.go x.alt).s.count; omega⟩ hf
      have h2 := settle_ok hap hr hok h1 (g := x.go) (fuel := fuel) ⟨hg.1, by show x.go < (visible p s x.go x.alt).s.count; omega⟩ hf
      show (if _ then _ else _ : Stt).owner = _
      refine ite_stt (q := fun t : Stt => t.owner = (visible p s x.go x.alt).s.owner) (fun q => ?_) (fun _ => hk.2.1)
      have hcn := hv.count
      exact (settle_keeps (apply := apply) hr hok h2 (g := s.count) (fuel := fuel) ⟨by omega, q⟩ hf).2.1.trans hk.2.1

theorem visible_vars {s : Stt} {g alt : Int} (h : opAt p s g = 55 ∨ opAt p s g = 56 ∨ opAt p s g = 57) : visible p s g alt = doVars ⟨s, 0, 0, (s.gor g).pc + 1⟩ g (instrAt p s g) :=
  (if_neg (by omega)).trans ((if_neg (by omega)).trans ((if_neg (by omega)).trans ((if_neg (by omega)).trans ((if_neg (by omega)).trans ((if_neg (by omega)).trans ((if_neg (by omega)).trans (if_neg (by omega))))))))
theorem doVars55 {d : Did} {g : Int} {x : Instr} (h : x.op = 55) : doVars d g x = { d with s := { d.s with owner := d.s.owner.set x.a.toNat (g + 1) } } :=
  (if_neg (by omega)).trans ((if_neg (by omega)).trans ((if_neg (by omega)).trans ((if_neg (by omega)).trans ((if_neg (by omega)).trans (if_pos h)))))
theorem doVars56 {d : Did} {g : Int} {x : Instr} (h : x.op = 56) : doVars d g x = if d.s.owner.getD x.a.toNat 0 ≠ g + 1 then { d with why := 6 } else { d with s := { d.s with owner := d.s.owner.set x.a.toNat 0 } } :=
  (if_neg (by omega)).trans ((if_neg (by omega)).trans ((if_neg (by omega)).trans ((if_neg (by omega)).trans ((if_neg (by omega)).trans ((if_neg (by omega)).trans (if_pos h))))))
theorem touch_lock {s : Stt} {g : Int} (h : opAt p s g = 55 ∨ opAt p s g = 56) : firstLock (touch p s g) = (instrAt p s g).a := by
  have e : touch p s g = add 2 (instrAt p s g).a true [⟨5, g, true⟩] := (if_neg (by omega)).trans ((if_neg (by omega)).trans ((if_neg (by omega)).trans ((if_neg (by omega)).trans (if_pos h))))
  rw [e]; simp [add, firstLock]
theorem touch_try {s : Stt} {g : Int} (h : opAt p s g = 57) : firstLock (touch p s g) = (instrAt p s g).b := by
  have e : touch p s g = add 2 (instrAt p s g).b true [⟨5, g, true⟩] := (if_neg (by omega)).trans ((if_neg (by omega)).trans ((if_neg (by omega)).trans ((if_neg (by omega)).trans ((if_neg (by omega)).trans (if_pos h)))))
  rw [e]; simp [add, firstLock]

include hap in
theorem own_step {s : Stt} (hr : rightP p = true) (hok : p.Ok) (hv : Vld p s) {x : Pck} (ha : x.alt ∈ alts p s x.go) {fuel : Int} (hf : 0 ≤ fuel ∧ fuel ≤ 4096) {g : Int} (hg0 : 0 ≤ g) {L : List Bool} (hL : L.length = 4) (h : Owned s g L) :
    Owned (doStep apply p s x fuel).1 g (if x.go = g then lockStep L (doStep apply p s x fuel).2.1 else L) := by
  have hg := (live_iff.1 (alts_live ha)).1
  have hw := hv.wf hok hr
  have hc := hv.count
  have h4 := hv.shape.owner
  have hsz := hok.sizes
  unfold Sizes at hsz
  have hT := touch_ok hok hw hg
  have hrt : instrErr p (p.funcs.getD (s.gos.getD x.go.toNat default).func.toNat default) (instrAt p s x.go) = 0 := hw.right hok hg.1 hg.2
  have e1 : (doStep apply p s x fuel).1.owner = (visible p s x.go x.alt).s.owner := by
    unfold doStep
    rw [if_neg (by omega), if_neg (by unfold has; rw [decide_eq_true ha]; decide)]
    exact take_owner hap hr hok hv ha hf
  have e2 : (doStep apply p s x fuel).2.1 = event p s x (if (visible p s x.go x.alt).why ≠ 0 then 0 else (visible p s x.go x.alt).val) := by
    unfold doStep
    rw [if_neg (by omega), if_neg (by unfold has; rw [decide_eq_true ha]; decide)]
    unfold take
    simp only
    split
    · rfl
    · split <;> rfl
  have e3 : ∀ v, (event p s x v).op = opAt p s x.go := fun _ => rfl
  unfold Owned at *
  rw [e1, e2]
  by_cases hop : opAt p s x.go = 55 ∨ opAt p s x.go = 56 ∨ opAt p s x.go = 57
  · have hin : (instrAt p s x.go).op = opAt p s x.go := by
      rcases hop with q | q | q <;> (rw [q]; exact hw.op_at hok hg.1 hg.2 q (by decide))
    rw [visible_vars hop]
    rcases hop with q | q | q
    · have hq : (instrAt p s x.go).op = 55 := by omega
      have hI := vis55 hrt (.inl hq)
      have hfree : s.owner.getD (instrAt p s x.go).a.toNat 0 = 0 := by
        have hp := (alts_plain ha (by omega)).1
        have e : plain p s x.go = decide (s.owner.getD (instrAt p s x.go).a.toNat 0 = 0) := (if_neg (by omega)).trans (if_pos q)
        rw [e] at hp
        exact of_decide_eq_true hp
      rw [doVars55 hq]
      intro k hk
      show (if x.go = g then lockStep L (event p s x _) else L).getD k false = decide ((s.owner.set (instrAt p s x.go).a.toNat (x.go + 1)).getD k 0 = g + 1)
      have el : lockStep L (event p s x (if (0 : Int) ≠ 0 then 0 else 0)) = L.set (instrAt p s x.go).a.toNat true := by
        unfold lockStep
        rw [event_lock hT.2.2, touch_lock (.inl q), if_neg (by omega), if_pos (.inl q)]
      rw [getD_set]
      by_cases hgo : x.go = g
      · rw [if_pos hgo]
        refine (congrArg (fun l => List.getD l k false) el).trans ?_
        rw [getD_set]
        by_cases hk2 : (instrAt p s x.go).a.toNat = k
        · rw [if_pos ⟨hk2, by omega⟩, if_pos ⟨hk2, by omega⟩, hgo]; simp
        · rw [if_neg (fun w => hk2 w.1), if_neg (fun w => hk2 w.1)]; exact h k hk
      · rw [if_neg hgo]
        by_cases hk2 : (instrAt p s x.go).a.toNat = k
        · rw [if_pos ⟨hk2, by omega⟩, h k hk, ← hk2, hfree, decide_eq_false (by omega), decide_eq_false (by omega)]
        · rw [if_neg (fun w => hk2 w.1)]; exact h k hk
    · have hq : (instrAt p s x.go).op = 56 := by omega
      have hI := vis55 hrt (.inr hq)
      have el : ∀ v, lockStep L (event p s x v) = L.set (instrAt p s x.go).a.toNat false := by
        intro v
        unfold lockStep
        rw [event_lock hT.2.2, touch_lock (.inr q), if_neg (by omega), if_neg (by rw [e3]; omega), if_pos (by rw [e3]; exact q)]
      rw [doVars56 hq]
      intro k hk
      by_cases ho : s.owner.getD (instrAt p s x.go).a.toNat 0 ≠ x.go + 1
      · have e5 : ∀ d : Did, d = ⟨s, 0, 0, (s.gor x.go).pc + 1⟩ → (if d.s.owner.getD (instrAt p s x.go).a.toNat 0 ≠ x.go + 1 then { d with why := 6 } else { d with s := { d.s with owner := d.s.owner.set (instrAt p s x.go).a.toNat 0 } }).s.owner = s.owner := by
          rintro d rfl; rw [if_pos ho]
        rw [e5 _ rfl, el]
        by_cases hgo : x.go = g
        · rw [if_pos hgo, getD_set]
          by_cases hk2 : (instrAt p s x.go).a.toNat = k
          · rw [if_pos ⟨hk2, by omega⟩, ← hk2, ← hgo, decide_eq_false ho]
          · rw [if_neg (fun w => hk2 w.1)]; exact h k hk
        · rw [if_neg hgo]; exact h k hk
      · have ho' : s.owner.getD (instrAt p s x.go).a.toNat 0 = x.go + 1 := Decidable.not_not.1 ho
        have e5 : ∀ d : Did, d = ⟨s, 0, 0, (s.gor x.go).pc + 1⟩ → (if d.s.owner.getD (instrAt p s x.go).a.toNat 0 ≠ x.go + 1 then { d with why := 6 } else { d with s := { d.s with owner := d.s.owner.set (instrAt p s x.go).a.toNat 0 } }).s.owner = s.owner.set (instrAt p s x.go).a.toNat 0 := by
          rintro d rfl; rw [if_neg ho]
        rw [e5 _ rfl, el, getD_set]
        by_cases hgo : x.go = g
        · rw [if_pos hgo, getD_set]
          by_cases hk2 : (instrAt p s x.go).a.toNat = k
          · rw [if_pos ⟨hk2, by omega⟩, if_pos ⟨hk2, by omega⟩, decide_eq_false (by omega)]
          · rw [if_neg (fun w => hk2 w.1), if_neg (fun w => hk2 w.1)]; exact h k hk
        · rw [if_neg hgo]
          by_cases hk2 : (instrAt p s x.go).a.toNat = k
          · rw [if_pos ⟨hk2, by omega⟩, h k hk, ← hk2, ho', decide_eq_false (by omega), decide_eq_false (by omega)]
          · rw [if_neg (fun w => hk2 w.1)]; exact h k hk
    · have hq : (instrAt p s x.go).op = 57 := by omega
      have hI := vis57 hrt hq
      have e6 := doVars57 (d := ⟨s, 0, 0, (s.gor x.go).pc + 1⟩) (g := x.go) (by omega) (by omega) (by omega) (by omega) (by omega) (by omega) (by omega) hq
      by_cases ho : s.owner.getD (instrAt p s x.go).b.toNat 0 = 0
      · have hy : yes (decide (s.owner.getD (instrAt p s x.go).b.toNat 0 = 0)) = 1 := by rw [decide_eq_true ho]; rfl
        rw [if_pos hy] at e6
        rw [e6]
        intro k hk
        rw [setReg_owner]
        show (if x.go = g then lockStep L (event p s x (if (0 : Int) ≠ 0 then 0 else yes (decide (s.owner.getD (instrAt p s x.go).b.toNat 0 = 0)))) else L).getD k false = decide ((s.owner.set (instrAt p s x.go).b.toNat (x.go + 1)).getD k 0 = g + 1)
        rw [hy]
        have el : lockStep L (event p s x (if (0 : Int) ≠ 0 then 0 else 1)) = L.set (instrAt p s x.go).b.toNat true := by
          unfold lockStep
          rw [event_lock hT.2.2, touch_try q, if_neg (by omega), if_pos (.inr ⟨q, rfl⟩)]
        rw [el, getD_set]
        by_cases hgo : x.go = g
        · rw [if_pos hgo, getD_set]
          by_cases hk2 : (instrAt p s x.go).b.toNat = k
          · rw [if_pos ⟨hk2, by omega⟩, if_pos ⟨hk2, by omega⟩, hgo]; simp
          · rw [if_neg (fun w => hk2 w.1), if_neg (fun w => hk2 w.1)]; exact h k hk
        · rw [if_neg hgo]
          by_cases hk2 : (instrAt p s x.go).b.toNat = k
          · rw [if_pos ⟨hk2, by omega⟩, h k hk, ← hk2, ho, decide_eq_false (by omega), decide_eq_false (by omega)]
          · rw [if_neg (fun w => hk2 w.1)]; exact h k hk
      · have hy : yes (decide (s.owner.getD (instrAt p s x.go).b.toNat 0 = 0)) = 0 := by rw [decide_eq_false ho]; rfl
        rw [if_neg (by show ¬yes (decide (s.owner.getD (instrAt p s x.go).b.toNat 0 = 0)) = 1; rw [hy]; decide)] at e6
        rw [e6]
        intro k hk
        rw [setReg_owner]
        show (if x.go = g then lockStep L (event p s x (if (0 : Int) ≠ 0 then 0 else yes (decide (s.owner.getD (instrAt p s x.go).b.toNat 0 = 0)))) else L).getD k false = decide (s.owner.getD k 0 = g + 1)
        rw [hy]
        have el : lockStep L (event p s x (if (0 : Int) ≠ 0 then 0 else 0)) = L := by
          unfold lockStep
          rw [event_lock hT.2.2, touch_try q, if_neg (by omega), if_neg (by
            rintro (w | w)
            · have := (e3 (if (0 : Int) ≠ 0 then 0 else 0)).symm.trans w; omega
            · exact absurd (show (0 : Int) = 1 from w.2) (by decide)), if_neg (by
            intro w
            have := (e3 (if (0 : Int) ≠ 0 then 0 else 0)).symm.trans w; omega)]
        rw [el]
        split <;> exact h k hk
  · have e4 : (visible p s x.go x.alt).s.owner = s.owner := by
      by_cases h66 : (s.gos.getD x.go.toNat default).status = 2
      · have hop6 := hw.wait x.go hg.1 hg.2 h66
        have : (instrAt p s x.go).op = 58 := hop6
        exact visible_owner p s x.go x.alt (by omega)
      · have e : opAt p s x.go = (instrAt p s x.go).op := if_neg h66
        exact visible_owner p s x.go x.alt (by omega)
    rw [e4, lockStep_none (by rw [e3]; omega)]
    intro k hk
    split <;> exact h k hk

theorem ready_mem {s : Stt} {x : Pck} : x ∈ ready p s ↔ (0 ≤ x.go ∧ x.go < s.count) ∧ x.alt ∈ alts p s x.go := by
  unfold ready readyTo
  simp only [List.mem_flatMap, List.mem_range, List.mem_map]
  constructor
  · rintro ⟨g, hg, a, ha, rfl⟩
    exact ⟨by show 0 ≤ (g : Int) ∧ (g : Int) < s.count; omega, ha⟩
  · rintro ⟨hg, ha⟩
    refine ⟨x.go.toNat, by omega, x.alt, ?_, ?_⟩
    · rw [show ((x.go.toNat : Nat) : Int) = x.go by omega]; exact ha
    · cases x; simp only [Pck.mk.injEq, and_true]; simp only at hg; omega
theorem okAt_alts {fuel : Int} {s : Stt} {l : List Pck} {j : Nat} (h : okAtR apply p fuel s l j = true) : (l.getD j default).alt ∈ alts p (stateAt apply p fuel s l j) (l.getD j default).go := by
  unfold okAtR at h
  obtain ⟨y, hy, e⟩ := List.any_eq_true.1 h
  have e := of_decide_eq_true e
  rw [e]
  exact (ready_mem.1 hy).2
include hap in
theorem stateAt_ok (hr : rightP p = true) (hok : p.Ok) {fuel : Int} (hf : 0 ≤ fuel ∧ fuel ≤ 4096) {s : Stt} (hv : Vld p s) {l : List Pck} : ∀ {n : Nat}, n ≤ l.length → (∀ j, j < n → okAtR apply p fuel s l j = true) → Vld p (stateAt apply p fuel s l n)
  | 0, _, _ => by rw [stateAt_zero]; exact hv
  | n + 1, hn, h => by
    rw [stateAt_succ apply p fuel s l (by omega)]
    exact do_ok hap hr hok (stateAt_ok hr hok hf hv (by omega) fun j hj => h j (by omega)) (okAt_alts (h n (by omega))) hf
include hap in
theorem run_owned (hr : rightP p = true) (hok : p.Ok) {fuel : Int} (hf : 0 ≤ fuel ∧ fuel ≤ 4096) {l : List Pck} (hlast : ∀ j, j < l.length → okAtR apply p fuel (start apply p fuel).1 l j = true) {g : Int} (hg : 0 ≤ g) : ∀ {n : Nat}, n ≤ l.length →
    Owned (stateAt apply p fuel (start apply p fuel).1 l n) g (locksTo (eventsTo apply p fuel (start apply p fuel).1 l l.length) n g)
  | 0, _ => by
    rw [stateAt_zero, locksTo_zero]
    intro k hk
    have e : (start apply p fuel).1.owner.getD k 0 = 0 := by
      unfold start
      rw [if_neg (by rw [hr]; decide), if_neg (by omega)]
      show zeroStt.owner.getD k 0 = 0
      rcases (show k = 0 ∨ k = 1 ∨ k = 2 ∨ k = 3 by omega) with rfl | rfl | rfl | rfl <;> rfl
    rw [e, decide_eq_false (by omega)]
    rcases (show k = 0 ∨ k = 1 ∨ k = 2 ∨ k = 3 by omega) with rfl | rfl | rfl | rfl <;> rfl
  | n + 1, hn => by
    have hv := stateAt_ok hap hr hok hf (start_ok hap hr hok hf) (l := l) (n := n) (by omega) fun j hj => hlast j (by omega)
    have ih := run_owned hr hok hf hlast hg (n := n) (by omega)
    have ha := okAt_alts (hlast n (by omega))
    have := own_step hap hr hok hv ha hf hg (locksTo_len _ n g) ih
    rw [stateAt_succ apply p fuel _ l (by omega), locksTo_succ _ (by rw [eventsTo_len]; omega)]
    have e : (eventsTo apply p fuel (start apply p fuel).1 l l.length).getD n default = eventAt apply p fuel (start apply p fuel).1 l n := by
      unfold eventsTo; exact rows_getD (by omega) _ _
    rw [e]
    have ego : (eventAt apply p fuel (start apply p fuel).1 l n).go = (l.getD n default).go := by
      unfold eventAt doStep
      rw [if_neg (by omega), if_neg (by unfold has; rw [decide_eq_true ha]; decide)]
      unfold take
      simp only
      split
      · rfl
      · split <;> rfl
    rw [ego]
    exact this
end

/-- The locks that a state says are g's. -/
def ownsTo (s : Stt) (g : Int) (n : Nat) : List Int := ((List.range n).filter fun k => decide (s.owner.getD k 0 = g + 1)).map fun (k : Nat) => (k : Int)
theorem ownsTo_succ (s : Stt) (g : Int) (n : Nat) : ownsTo s g (n + 1) = ownsTo s g n ++ if s.owner.getD n 0 = g + 1 then [(n : Int)] else [] := by
  unfold ownsTo
  rw [List.range_succ, List.filter_append, List.map_append]
  congr 1
  simp only [List.filter_cons, List.filter_nil]
  by_cases h : s.owner.getD n 0 = g + 1
  · rw [decide_eq_true h, if_pos rfl, if_pos h]; rfl
  · rw [decide_eq_false h, if_neg (by simp), if_neg h]; rfl
theorem ownsTo_len (s : Stt) (g : Int) (n : Nat) : (ownsTo s g n).length ≤ n := by
  unfold ownsTo
  rw [List.length_map]
  exact Nat.le_trans (List.length_filter_le _ _) (by simp)
theorem nums_owned {s : Stt} {g : Int} {L : List Bool} (h : Owned s g L) : numsOf L 4 = ownsTo s g 4 := by
  unfold numsOf ownsTo
  rw [List.filter_congr (fun k hk => h k (List.mem_range.1 hk))]

section
variable {apply : Int → Int → Int → Int × Int} (hap : ApplyOk apply) {p : Prg}
theorem step_event {s : Stt} {x : Pck} (ha : x.alt ∈ alts p s x.go) {fuel : Int} (hf : 0 ≤ fuel ∧ fuel ≤ 4096) : ∃ v, (doStep apply p s x fuel).2.1 = event p s x v := by
  unfold doStep
  rw [if_neg (by omega), if_neg (by unfold has; rw [decide_eq_true ha]; decide)]
  unfold take
  simp only
  split
  · exact ⟨_, rfl⟩
  · split <;> exact ⟨_, rfl⟩
theorem touchFill_len (l : List Access) : (touchFill l).length = 6 := by simp [touchFill]
theorem step_right (hok : p.Ok) {s : Stt} (hw : Wf p s) {x : Pck} (ha : x.alt ∈ alts p s x.go) {fuel : Int} (hf : 0 ≤ fuel ∧ fuel ≤ 4096) : right (doStep apply p s x fuel).2.1 = true ∧ (doStep apply p s x fuel).2.1.touch.length = 6 ∧ (doStep apply p s x fuel).2.1.go = x.go := by
  obtain ⟨v, e⟩ := step_event (apply := apply) ha hf
  rw [e]
  exact ⟨event_right hok hw (live_iff.1 (alts_live ha)).1 v, touchFill_len _, rfl⟩
include hap in
theorem events_right (hr : rightP p = true) (hok : p.Ok) {fuel : Int} (hf : 0 ≤ fuel ∧ fuel ≤ 4096) {l : List Pck} (hlast : ∀ j, j < l.length → okAtR apply p fuel (start apply p fuel).1 l j = true) : ∀ e ∈ eventsTo apply p fuel (start apply p fuel).1 l l.length, right e = true ∧ e.touch.length = 6 := by
  intro e he
  unfold eventsTo at he
  obtain ⟨j, hj, rfl⟩ := List.mem_map.1 he
  have hj : j < l.length := List.mem_range.1 hj
  have hv := stateAt_ok hap hr hok hf (start_ok hap hr hok hf) (l := l) (n := j) (by omega) fun i hi => hlast i (by omega)
  have := step_right (apply := apply) hok (hv.wf hok hr) (okAt_alts (hlast j hj)) hf
  exact ⟨this.1, this.2.1⟩
include hap in
theorem own_last (hr : rightP p = true) (hok : p.Ok) {fuel : Int} (hf : 0 ≤ fuel ∧ fuel ≤ 4096) {l : List Pck} (hlast : ∀ j, j < l.length → okAtR apply p fuel (start apply p fuel).1 l j = true) {x : Pck} (hx : x ∈ ready p (stateAt apply p fuel (start apply p fuel).1 l l.length)) {e : Event} (he : e = (doStep apply p (stateAt apply p fuel (start apply p fuel).1 l l.length) x fuel).2.1) :
    (∀ y ∈ eventsTo apply p fuel (start apply p fuel).1 l l.length ++ [e], y.touch.length = 6) ∧ (l.length + 1 ≤ 256 → check (eventsTo apply p fuel (start apply p fuel).1 l l.length ++ [e]) = 0 ∧
    numsOf (heldOf (eventsTo apply p fuel (start apply p fuel).1 l l.length ++ [e]) l.length) 4 = ownsTo (stateAt apply p fuel (start apply p fuel).1 l l.length) x.go 4) := by
  have hv := stateAt_ok hap hr hok hf (start_ok hap hr hok hf) (l := l) (n := l.length) (Nat.le_refl _) hlast
  obtain ⟨hg, ha⟩ := ready_mem.1 hx
  have h1 := step_right (apply := apply) hok (hv.wf hok hr) ha hf
  rw [← he] at h1
  have h2 := events_right hap hr hok hf hlast
  have hlen := eventsTo_len apply p fuel (start apply p fuel).1 l l.length
  have hall : ∀ y ∈ eventsTo apply p fuel (start apply p fuel).1 l l.length ++ [e], right y = true ∧ y.touch.length = 6 := by
    intro y hy
    rcases List.mem_append.1 hy with hy | hy
    · exact h2 y hy
    · rw [List.mem_singleton.1 hy]; exact ⟨h1.1, h1.2.1⟩
  refine ⟨fun y hy => (hall y hy).2, fun h256 => ⟨?_, ?_⟩⟩
  · unfold check
    rw [if_neg (by rw [List.length_append, hlen]; simp; omega), if_pos (List.all_eq_true.2 fun y hy => (hall y hy).1)]
  · refine nums_owned ?_
    unfold heldOf
    have e1 : (eventsTo apply p fuel (start apply p fuel).1 l l.length ++ [e]).getD l.length default = e := by
      simp [List.getD_eq_getElem?_getD, hlen]
    have e2 : locksTo (eventsTo apply p fuel (start apply p fuel).1 l l.length ++ [e]) l.length x.go = locksTo (eventsTo apply p fuel (start apply p fuel).1 l l.length) l.length x.go := by
      unfold locksTo
      rw [List.take_append_of_le_length (by rw [hlen]; exact Nat.le_refl _)]
    rw [e1, h1.2.2, e2]
    exact run_owned hap hr hok hf hlast hg.1 (Nat.le_refl _)
end
end Go.Eng
