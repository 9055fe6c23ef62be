/- Literals of structs and arrays; and all operations that leave the memory alone, together. -/
import Derived.Test.YtbfihoopgcmkpaaEngG
namespace Go.Eng
set_option linter.unusedSimpArgs false
set_option linter.unusedVariables false
open Go.RowKit

variable {P : Program} {T : Tab} {w w' : World} {w0 : Base} {F : Nat → Prop} {ρ : Nat → RI} {σ : St} {a : Act} {outs : List (Array Value)}

theorem foldl_set_splice (ds : List Value) : ∀ (k off : Nat) (cells : Array Value), off + k + ds.length ≤ cells.size →
    ((ds.zipIdx k).foldl (fun (cs : Array Value) (x : Value × Nat) => cs.setIfInBounds (off + x.2) x.1) cells).toList = splice cells.toList (off + k) ds := by
  induction ds with
  | nil => intro k off cells _; simp [splice]
  | cons d ds ih =>
    intro k off cells h
    simp only [List.length_cons] at h
    simp only [List.zipIdx_cons, List.foldl_cons]
    rw [ih (k + 1) off _ (by simp; omega)]
    simp only [Array.toList_setIfInBounds, splice, List.length_cons]
    have hk : off + k < cells.toList.length := by simp; omega
    have := list_seg_step cells.toList (off + k) d ds (by simp; omega)
    rw [show off + (k + 1) = off + k + 1 by omega]
    exact this

theorem buildA_sound (hP : TabOk P T) (hR : Rel T w F ρ w0 σ a.tmps outs) {g : Bool} {pt : Nat → Option TypeId} {place : Nat → Option (Nat × Nat)} {ts : List TypeId} (hpt : ∀ i t, pt i = some t → ts[i]? = some t)
    (hpl : ∀ i t, ts[i]? = some t → place i = some (T.offs ts i, T.sz t)) : ∀ (parts : List (Nat × Operand)) (l : List V) (cells : Array Value) {K : V → Prop},
    (g = true → FitsL T w F ts l cells.toList) → buildA T σ g pt parts (.agg l) K →
    ∃ l', K (.agg l') ∧ (g = true → ∃ r, Instr.fill place cells (parts.map fun (i, x) => (i, a.eval x)) = some r ∧ FitsL T w F ts l' r.toList)
  | [], l, cells, K, hf, h => ⟨l, h, fun hg => ⟨cells, rfl, hf hg⟩⟩
  | (i, x) :: r, l, cells, K, hf, h => by
    unfold buildA at h
    split at h; rotate_left; · exact h.elim
    rename_i t ht
    obtain ⟨e, h, he⟩ := evalO_sound hR h
    split at h; rotate_left; · exact h.elim
    rename_i y hy
    have hti := hpt _ _ ht
    by_cases hg : g = true
    · obtain ⟨q1, q2⟩ := toV_fits (he hg) hy
      have hl1 := q1.len hP.sized
      have hcl := (hf hg).len hP.sized
      have ho := offs_le T hti
      have hsz : (a.eval x).cells.size = T.sz t := by simpa using hl1
      have hin : T.offs ts i + (a.eval x).cells.size ≤ cells.size := by
        have : cells.toList.length = cells.size := by simp
        omega
      have hnew := (hf hg).setNth hP.sized hti q1
      have hspl := foldl_set_splice (a.eval x).cells.toList 0 (T.offs ts i) cells (by simp; omega)
      have harr : ((a.eval x).cells.zipIdx.foldl (fun (cs : Array Value) (x : Value × Nat) => cs.setIfInBounds (T.offs ts i + x.2) x.1) cells).toList = splice cells.toList (T.offs ts i) (a.eval x).cells.toList := by
        rw [← Array.foldl_toList, Array.toList_zipIdx]
        exact hspl
      obtain ⟨l', hK, hr⟩ := buildA_sound hP hR hpt hpl r (l.set i y) ((a.eval x).cells.zipIdx.foldl (fun (cs : Array Value) (x : Value × Nat) => cs.setIfInBounds (T.offs ts i + x.2) x.1) cells)
        (fun _ => by rw [harr]; unfold splice; rw [hl1]; exact hnew) h
      refine ⟨l', hK, fun _ => ?_⟩
      obtain ⟨R, hR1, hR2⟩ := hr hg
      refine ⟨R, ?_, hR2⟩
      simp only [List.map_cons, Instr.fill, hpl _ _ hti, hsz, ne_eq, not_true_eq_false, decide_false, Bool.false_or, decide_eq_true_eq]
      rw [if_neg (by omega)]
      exact hR1
    · obtain ⟨l', hK, _⟩ := buildA_sound hP hR hpt hpl r (l.set i y) cells (fun hg' => absurd hg' hg) h
      exact ⟨l', hK, fun hg' => absurd hg' hg⟩

theorem mapM_places (hP : TabOk P T) : ∀ (fs : List Field), (∀ f ∈ fs, T.ty f.type ≠ .other) →
    fs.mapM (fun f => (P.info? f.type).map fun i => (f.offset, i.size)) = some (fs.map fun f => (f.offset, T.sz f.type))
  | [], _ => rfl
  | f :: fs, h => by
    obtain ⟨i, h1, h2, _⟩ := hP.info f.type (h f (by simp))
    rw [List.mapM_cons, mapM_places hP fs (fun g hg => h g (by simp [hg]))]
    simp [h1, h2]

theorem build_sound (hP : TabOk P T) (hR : Rel T w F ρ w0 σ a.tmps outs) {g : Bool} {t : TypeId} {ts : List TypeId} {pt : Nat → Option TypeId} {parts : Array (Nat × Operand)} {K : E → Prop}
    (ht : T.ty t = .struct ts ∧ (pt = fun k => ts[k]?) ∨ ∃ n e, T.ty t = .arr n e ∧ ts = List.replicate n e ∧ pt = fun k => if k < n then some e else none)
    (h : buildA T σ g pt parts.toList (T.zero t) fun v => K (.data t v)) : ∃ e, K e ∧ (g = true → Yields1 P T w F ρ a (.build t parts) e) := by
  have hA : (T.ty t).isAgg = true := by rcases ht with ⟨h1, _⟩ | ⟨n, e, h1, _⟩ <;> simp [h1, TyD.isAgg]
  have hno : T.ty t ≠ .other := by intro h0; rw [h0] at hA; cases hA
  obtain ⟨it, i1, i2, i3, z, i4, i5, i6, i7, i8, _⟩ := hP.info t hno
  have hz : Fits T w F t (T.zero t) z.cells.toList := i8 (by intro h0; rw [h0] at hA; cases hA) (by intro e h0; rw [h0] at hA; cases hA) w F
  have hpt : ∀ i u, pt i = some u → ts[i]? = some u := by
    rcases ht with ⟨_, rfl⟩ | ⟨n, e, _, rfl, rfl⟩
    · exact fun i u h => h
    · intro i u h
      simp only at h
      split at h
      · rename_i hi; simp [hi]; simpa using h
      · cases h
  obtain ⟨l, hl, hfl⟩ : ∃ l, T.zero t = .agg l ∧ FitsL T w F ts l z.cells.toList := by
    rcases ht with ⟨h1, _⟩ | ⟨n, e, h1, rfl, _⟩
    · exact hz.inv' h1
    · exact hz.inv' h1
  rw [hl] at h
  obtain ⟨place, hpl, hbuilt⟩ : ∃ place : Nat → Option (Nat × Nat), (∀ i u, ts[i]? = some u → place i = some (T.offs ts i, T.sz u)) ∧
      ∀ (ps : List (Nat × Value)) (r : Array Value), Instr.fill place z.cells ps = some r → P.built t ps = some r := by
    rcases ht with ⟨h1, _⟩ | ⟨n, e, h1, rfl, _⟩
    · obtain ⟨fs, f1, f2, _, f3⟩ := hP.struct _ _ h1
      refine ⟨fun i => (fs.toList.map fun f => (f.offset, T.sz f.type)).toArray[i]?, ?_, ?_⟩
      · intro i u hu
        have : fs.toList[i]?.map (·.type) = some u := by rw [← List.getElem?_map, f2]; exact hu
        cases hk : fs[i]? with
        | none => simp [hk] at this
        | some f =>
          have hfu : f.type = u := by simpa [hk] using this
          obtain ⟨o1, _⟩ := f3 i f hk
          simp [hk, o1, hfu]
      · intro ps r hr
        have hm := mapM_places hP fs.toList (fun f hf => by
          obtain ⟨i, hi⟩ := List.mem_iff_getElem?.1 hf
          exact (f3 i f (by simpa using hi)).2.2.2)
        simp only [Program.built, i1, f1, i4, hm]
        exact hr
    · obtain ⟨hu, _, _, hno'⟩ := hP.arr _ _ _ h1
      obtain ⟨ie, j1, j2, _⟩ := hP.info e hno'
      refine ⟨fun i => some (i * ie.size, ie.size), ?_, ?_⟩
      · intro i u hu
        rw [List.getElem?_replicate] at hu
        split at hu
        · rename_i hi
          cases hu
          rw [offs_replicate T n i _ (by omega), j2]
        · cases hu
      · intro ps r hr
        simp only [Program.built, i1, hu, i4, j1]
        exact hr
  obtain ⟨l', hK, hr⟩ := buildA_sound hP hR hpt hpl parts.toList l z.cells (fun _ => hfl) h
  refine ⟨_, hK, fun hg => ?_⟩
  obtain ⟨r, r1, r2⟩ := hr hg
  refine ⟨.agg r, ⟨r, rfl, hA, ?_⟩, fun W _ o ho => ?_⟩
  · rcases ht with ⟨h1, _⟩ | ⟨n, e, h1, rfl, _⟩
    · exact .struct h1 r2
    · exact .arr h1 r2
  · have := run_build (P := P) W t (parts.map fun (i, x) => (i, a.eval x)) r (hbuilt _ _ (by simpa using r1))
    simp [execOp, ho, this]

theorem pureA_sound (hP : TabOk P T) (hR : Rel T w F ρ w0 σ a.tmps outs) {g : Bool} {op : Op} {K : E → Prop} (h : pureA T σ g op K) : ∃ e, K e ∧ (g = true → Yields1 P T w F ρ a op e) := by
  unfold pureA at h
  split at h
  · obtain ⟨e, h1, h2⟩ := evalO_sound hR h
    exact ⟨e, h1, fun hg => ⟨_, h2 hg, fun W _ o ho => by simp [execOp, ho]⟩⟩
  · obtain ⟨e, h1, h2⟩ := evalO_sound hR h
    exact ⟨e, h1, fun hg => ⟨_, h2 hg, fun W _ o ho => by simp [execOp, ho]⟩⟩
  · exact pickA_sound hR h
  · obtain ⟨e, h1, h2⟩ := evalO_sound hR h
    exact loadA_sound hP hR h2 h1
  · rename_i x
    obtain ⟨e, h1, h2⟩ := evalO_sound hR h
    split at h1
    · refine ⟨_, h1, fun hg => ⟨_, h2 hg, fun W _ o ho => ?_⟩⟩
      obtain ⟨b, root, off, _, _, h3⟩ := h2 hg
      simp [execOp, ho, h3]
    · refine ⟨_, h1, fun hg => ⟨_, h2 hg, fun W _ o ho => ?_⟩⟩
      obtain ⟨b, _, _, _, off, _, _, h3⟩ := h2 hg
      simp [execOp, ho, h3]
    · refine ⟨_, h1, fun hg => ⟨_, h2 hg, fun W _ o ho => ?_⟩⟩
      obtain ⟨b, off, cs, h3, _⟩ := h2 hg
      simp [execOp, ho, h3]
    · refine ⟨_, h1, fun hg => ⟨_, h2 hg, fun W _ o ho => ?_⟩⟩
      obtain ⟨cs, h3, _⟩ := h2 hg
      simp [execOp, ho, h3]
    · exact h1.elim
  · obtain ⟨e1, h1, h2⟩ := evalO_sound hR h
    obtain ⟨e2, h3, h4⟩ := evalO_sound hR h1
    exact binA_sound hP h2 h4 h3
  · obtain ⟨e, h1, h2⟩ := evalO_sound hR h
    split at h1
    · refine ⟨_, h1, fun hg => ⟨_, rfl, fun W _ o ho => ?_⟩⟩
      have h3 : a.eval _ = Value.bool _ := h2 hg
      simp [execOp, ho, h3, Op.unary]
    · refine ⟨_, h1, fun hg => ⟨_, ⟨rfl, wrap_has _ _⟩, fun W _ o ho => ?_⟩⟩
      have h3 := (h2 hg).1
      simp [execOp, ho, h3, Op.unary, Op.intArith]
    · exact h1.elim
  · obtain ⟨e, h1, h2⟩ := evalO_sound hR h
    split at h1
    · rename_i ks kd k n hs hd
      refine ⟨_, h1, fun hg => ⟨_, ⟨rfl, wrap_has _ _⟩, fun W _ o ho => ?_⟩⟩
      have h3 := (h2 hg).1
      simp [execOp, ho, h3, convert, run_underlying (hP.int _ _ hs), run_underlying (hP.int _ _ hd), Conv.intToInt]
    · exact h1.elim
  · rename_i f first caps
    obtain ⟨h1, h⟩ := h
    obtain ⟨es, h2, h3⟩ := evalL_sound hR h
    have hfirst : first = #[] := by simpa using h1
    refine ⟨_, h2, fun hg => ⟨_, ⟨_, rfl, h3 hg⟩, fun W _ o ho => ?_⟩⟩
    have hc : caps.map a.eval = (caps.toList.map a.eval).toArray := by
      apply Array.ext'; simp
    simp [execOp, ho, Instr.makeFunc, hfirst, hc]
  · rename_i t x lo hi mx
    obtain ⟨hm, h⟩ := h
    obtain ⟨e, h1, h2⟩ := evalO_sound hR h
    exact sliceA_sound hP hR h2 h1 (by cases mx <;> cases hi <;> simp_all)
  · obtain ⟨e, h1, h2⟩ := evalO_sound hR h
    exact fieldAddrA_sound hP h2 h1
  · obtain ⟨e, h1, h2⟩ := evalO_sound hR h
    split at h1; rotate_left; · exact h1.elim
    rename_i s x k ts s' v hs
    obtain ⟨rfl, h1⟩ := h1
    split at h1; rotate_left; · exact h1.elim
    rename_i u hu
    refine ⟨_, h1, fun hg => ?_⟩
    obtain ⟨cs, h3, h4, h5⟩ := h2 hg
    obtain ⟨y, hy, hr⟩ := fieldA_run (ρ := ρ) hP hs hu h5
    exact ⟨y, hy, fun W _ o ho => by simp [execOp, ho, h3, hr W]⟩
  · obtain ⟨e1, h1, h2⟩ := evalO_sound hR h
    obtain ⟨e2, h3, h4⟩ := evalO_sound hR h1
    split at h3; rotate_left; · exact h3.elim
    exact indexAddrA_sound hP h2 (fun hg => (h4 hg).1) h3
  · obtain ⟨e1, h1, h2⟩ := evalO_sound hR h
    obtain ⟨e2, h3, h4⟩ := evalO_sound hR h1
    split at h3; rotate_left; · exact h3.elim
    exact indexA_sound hP h2 (fun hg => (h4 hg).1) h3
  · rename_i x k
    obtain ⟨e, h1, h2⟩ := evalO_sound hR h
    split at h1; rotate_left; · exact h1.elim
    rename_i l
    split at h1; rotate_left; · exact h1.elim
    rename_i y hy
    refine ⟨y, h1, fun hg => ?_⟩
    obtain ⟨vs, h3, h4⟩ := h2 hg
    have key : ∀ (l : List E) (vs : List Value) (k : Nat) (y : E), ERelL T w F ρ l vs → l[k]? = some y → ∃ v, vs[k]? = some v ∧ ERel T w F ρ y v := by
      intro l
      induction l with
      | nil => intro vs k y _ h; simp at h
      | cons e l ih =>
        intro vs k y hr hk
        cases vs with
        | nil => exact hr.elim
        | cons v vs =>
          cases k with
          | zero => simp at hk; subst hk; exact ⟨v, rfl, hr.1⟩
          | succ k => exact ih vs k y hr.2 (by simpa using hk)
    obtain ⟨v, hv, hr⟩ := key _ _ _ _ h4 hy
    exact ⟨v, hr, fun W _ o ho => by simp [execOp, ho, h3, Instr.extract, hv]⟩
  · rename_i t parts
    split at h
    · rename_i ts ht
      exact build_sound hP hR (.inl ⟨ht, rfl⟩) h
    · rename_i n e ht
      exact build_sound hP hR (.inr ⟨n, e, ht, rfl, rfl⟩) h
    · exact h.elim
  · split at h; rotate_left; · exact h.elim
    rename_i c b hc
    obtain ⟨es, h1, h2⟩ := evalL_sound hR h
    exact builtinA_sound hP hc h2 h1
  · exact h.elim

end Go.Eng
