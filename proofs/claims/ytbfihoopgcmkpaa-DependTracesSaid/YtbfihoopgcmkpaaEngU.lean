/- A law's arguments, as they are read, as data. -/
import Derived.Test.YtbfihoopgcmkpaaEngT
import Derived.OpenShut
import Derived.ChangeOld
import Derived.WideShapes
import Derived.Deep.Slices
namespace Go.Eng
set_option linter.unusedSimpArgs false
set_option linter.unusedVariables false
open Go.RowKit

variable {H : Type} {enc : TypeId × Value → H} {P : Program} {T : Tab} {w : World} {base : Nat} {spare : Nat → Bool} {held : Bool} {F : Nat → Prop}

theorem cellsOf_sz (hP : TabOk P T) {t : TypeId} (ht : T.ty t ≠ .other) : P.cellsOf t = T.sz t := by
  obtain ⟨i, i1, i2, _⟩ := hP.info t ht
  simp [Program.cellsOf, i1, i2]

theorem pick_all {α : Type} [Inhabited α] {n : Nat} {p : Nat → α → Prop} (h : ∀ i, i < n → ∃ a, p i a) : ∃ l : List α, l.length = n ∧ ∀ i, i < n → p i (l.getD i default) := by
  classical
  refine ⟨(List.range n).map fun i => if h : ∃ a, p i a then Classical.choose h else default, by simp, fun i hi => ?_⟩
  have := h i hi
  simp only [List.getD_eq_getElem?_getD, List.getElem?_map, List.getElem?_range hi, Option.map_some, Option.getD_some, dif_pos this]
  exact Classical.choose_spec this

theorem flat_notOther {d : Nat} {t : TypeId} (h : flatTy T d t = true) : T.ty t ≠ .other := by
  intro h0
  cases d with
  | zero => simp [flatTy] at h
  | succ d => simp [flatTy, h0] at h

/-- Flat data, as it is read. -/
theorem flat_trod (hP : TabOk P T) : ∀ (d : Nat) {t : TypeId} {cs : List Value} {fuel : Nat} {x : DataW H × List MemPlace}, flatTy T d t = true → DataW.trod enc P w base spare held fuel t cs = some x → ∃ v, Fits T w F t v cs := by
  intro d
  induction d using Nat.strongRecOn with
  | _ d ih =>
    intro t cs fuel x hf h
    cases d with
    | zero => simp [flatTy] at hf
    | succ d =>
      have hno := flat_notOther hf
      have hc := cellsOf_sz hP hno
      unfold flatTy at hf
      split at hf
      · rename_i k hk
        obtain ⟨n, rfl, _, hw⟩ := DataW.trod_int (hP.int _ _ hk) h
        exact ⟨_, .int hk (by simpa [Lit.wf, IntKind.has] using hw)⟩
      · rename_i hk
        obtain ⟨b, rfl, _⟩ := DataW.trod_bool (hP.bool _ hk) h
        exact ⟨_, .bool hk⟩
      · rename_i hk
        obtain ⟨s, rfl, _⟩ := DataW.trod_string (hP.str _ hk) h
        exact ⟨_, .str hk⟩
      · rename_i ts hk
        obtain ⟨fs, f1, f2, _, f3⟩ := hP.struct _ _ hk
        obtain ⟨xs, n, rfl, _, hl, hxl, hx⟩ := DataW.trod_struct f1 h
        have hfl : fs.size = ts.length := by rw [← f2]; simp
        have hex : ∀ i, i < ts.length → ∃ v, ∀ u, ts[i]? = some u → Fits T w F u v ((cs.drop (T.offs ts i)).take (T.sz u)) := by
          intro i hi
          obtain ⟨f, hfi⟩ : ∃ f, fs[i]? = some f := ⟨_, Array.getElem?_eq_getElem (by omega)⟩
          have hti : ts[i]? = some f.type := by
            have : (fs.toList.map (·.type))[i]? = some f.type := by simp [hfi]
            rwa [f2] at this
          obtain ⟨g1, g2, _, g4⟩ := f3 i _ hfi
          have hxi := hx i _ hfi
          rw [List.getElem?_eq_getElem (by omega), g1, cellsOf_sz hP g4] at hxi
          obtain ⟨d', hd', hf'⟩ := flatTys_nth hf hti
          obtain ⟨v, hv⟩ := ih d' (by omega) hf' hxi
          exact ⟨v, fun u hu => by rw [hti] at hu; cases hu; exact hv⟩
        obtain ⟨l, hll, hl'⟩ := pick_all hex
        refine ⟨.agg l, .struct hk (FitsL.ofNth hll ?_ fun k u hu => hl' k (List.getElem?_eq_some_iff.1 hu).1 u hu)⟩
        rw [hl, hc, hP.sized.struct _ _ hk]
      · rename_i n e hk
        obtain ⟨g1, _, _, g4⟩ := hP.arr _ _ _ hk
        obtain ⟨xs, m, rfl, _, hl, hxl, hx⟩ := DataW.trod_array g1 h
        have hex : ∀ i, i < n → ∃ v, Fits T w F e v ((cs.drop (i * T.sz e)).take (T.sz e)) := by
          intro i hi
          have hxi := hx i hi
          rw [List.getElem?_eq_getElem (by omega), cellsOf_sz hP g4] at hxi
          exact ih d (by omega) hf hxi
        obtain ⟨l, hll, hl'⟩ := pick_all hex
        refine ⟨.agg l, .arr hk (FitsL.ofNth (by simp [hll]) ?_ fun k u hu => ?_)⟩
        · rw [hl, hc, hP.sized.arr _ _ _ hk]
        · rw [List.getElem?_replicate] at hu
          split at hu; rotate_left; · cases hu
          rename_i hkn
          cases hu
          rw [offs_replicate T n k _ (by omega)]
          exact hl' k hkn
      · simp at hf

theorem spot_of_cell {a : Addr} {v : Value} (h : w.cell? a = some v) : a.spot = none := by
  unfold World.cell? at h
  split at h
  · split at h
    · cases h
    · rename_i h'; simpa using h'
  · cases h

/-- A slice of flat data, as an argument. -/
theorem slice_arg (hP : TabOk P T) {t e : TypeId} {r : Reach} {b0 : Nat} {v : Value} {d : DataW H} {p : List MemPlace} (ht : T.ty t = .slice e) (hf : flatTy T 20 e = true) (hval : Value.okWide P w r b0 t v)
    (h : DataW.Trod enc P w 0 spare held t v d p) : ∃ l, Fits T w (fun b => b < w.heap.size) t (.list l) v.cells.toList ∧ ValOf T t v v.cells.toList ∧ l.length ≤ maxLen := by
  obtain ⟨hu, hno⟩ := hP.slice _ _ ht
  obtain ⟨a, len, cap, rfl⟩ := Go.WideShapes.okWide_slice hu hval
  have hvo : ∀ a len cap, ValOf T t (.slice a len cap) (Value.slice a len cap).cells.toList := fun a len cap => by simp [ValOf, ht, TyD.isAgg, Value.cells]
  obtain ⟨fuel, h⟩ := h
  have hse := (hP.sized.slice _ _ ht).2
  have hc := cellsOf_sz hP hno
  rcases Go.Deep.open_slice hu h with ⟨hcs, _⟩ | ⟨ad, l, c, m, n, D, Pl, hcs, _, hl, hm, hmm, _, hx⟩
  · simp [Value.cells] at hcs
    obtain ⟨rfl, rfl, rfl⟩ := hcs
    exact ⟨[], .nil ht, hvo _ _ _, by simp⟩
  · simp [Value.cells] at hcs
    obtain ⟨rfl, rfl, rfl⟩ := hcs
    have hok : ad.spot = none ∧ ad.block < w.heap.size := by
      unfold Value.okWide at hval
      rw [hu] at hval
      simp only [Cell.okWide, hu, Cell.ok] at hval
      obtain ⟨_, _, _, h2, row, cells, h3, _⟩ := hval
      refine ⟨h2, ?_⟩
      unfold World.shape? at h3
      cases hb : w.heap[ad.block]? with
      | none => rw [hb] at h3; cases h3
      | some o => exact (Array.getElem?_eq_some_iff.1 hb).1
    obtain ⟨b, off, sp⟩ := ad
    obtain ⟨rfl, hb⟩ := hok
    simp only at hb
    have hlm : len ≤ m := by rw [hmm]; split <;> omega
    have hex : ∀ i, i < len → ∃ c : List Value, c.length = T.sz e ∧ (∀ j, j < T.sz e → w.cell? ⟨b, off + (i * T.sz e + j), none⟩ = c[j]?) ∧ ∃ v, Fits T w (fun b => b < w.heap.size) e v c := by
      intro i hi
      obtain ⟨cs', h1, h2⟩ := hx i (by omega)
      rw [hc] at h1
      obtain ⟨_, q2, q3⟩ := World.cells?_some h1
      obtain ⟨v, hv⟩ := flat_trod (F := fun b => b < w.heap.size) hP 20 hf h2
      refine ⟨cs', q2, fun j hj => ?_, v, hv⟩
      rw [← q3 j hj, addr_add, addr_add, Nat.add_assoc]
    obtain ⟨cl, hcl, hcl'⟩ := pick_all (α := List Value) hex
    obtain ⟨vl, hvl, hvl'⟩ := pick_all (α := V) (p := fun i v => Fits T w (fun b => b < w.heap.size) e v (cl.getD i default)) fun i hi => (hcl' i hi).2.2
    have key : ∀ (vl : List V) (cl : List (List Value)) (off : Nat), vl.length = cl.length → (∀ i, i < cl.length → (cl.getD i default).length = T.sz e ∧ (∀ j, j < T.sz e → w.cell? ⟨b, off + (i * T.sz e + j), none⟩ = (cl.getD i default)[j]?)) →
        (∀ i, i < cl.length → Fits T w (fun b => b < w.heap.size) e (vl.getD i default) (cl.getD i default)) → Seg w b off cl.flatten ∧ FitsL T w (fun b => b < w.heap.size) (List.replicate cl.length e) vl cl.flatten := by
      intro vl cl
      induction cl generalizing vl with
      | nil =>
        intro off hl _ _
        have : vl = [] := by simpa using hl
        subst this
        exact ⟨fun j x hj => by simp at hj, .nil⟩
      | cons c cl ihc =>
        intro off hl h1 h2
        cases vl with
        | nil => simp at hl
        | cons v vl =>
          have c0 := h1 0 (by simp)
          simp only [List.getD_cons_zero, Nat.zero_mul, Nat.zero_add] at c0
          have := ihc vl (off + T.sz e) (by simpa using hl) (fun i hi => by
            have := h1 (i + 1) (by simpa using hi)
            simp only [List.getD_cons_succ] at this
            refine ⟨this.1, fun j hj => ?_⟩
            rw [← this.2 j hj, Nat.add_mul, Nat.one_mul]
            congr 2
            omega) (fun i hi => by
            have := h2 (i + 1) (by simpa using hi)
            simpa only [List.getD_cons_succ] using this)
          refine ⟨?_, ?_⟩
          · intro j x hj
            rw [List.flatten_cons] at hj
            by_cases hjs : j < T.sz e
            · rw [List.getElem?_append_left (by omega)] at hj
              rw [c0.2 j hjs]; exact hj
            · rw [List.getElem?_append_right (by omega), c0.1] at hj
              have := this.1 _ _ hj
              rw [← this]
              congr 2
              omega
          · rw [List.length_cons, List.replicate_succ, List.flatten_cons]
            have h0 := h2 0 (by simp)
            simp only [List.getD_cons_zero] at h0
            exact .cons h0 this.2
    obtain ⟨k1, k2⟩ := key vl cl off (by omega) (fun i hi => ⟨(hcl' i (by omega)).1, (hcl' i (by omega)).2.1⟩) (fun i hi => hvl' i (by omega))
    rw [hcl] at k2
    exact ⟨vl, .slice ht hb k1 hvl k2 hl, hvo _ _ _, by omega⟩

/-- Flat data, as an argument. -/
theorem flat_arg (hP : TabOk P T) {t : TypeId} {r : Reach} {b0 : Nat} {v : Value} {d : DataW H} {p : List MemPlace} (hf : flatTy T 20 t = true) (hval : Value.okWide P w r b0 t v)
    (h : DataW.Trod enc P w 0 spare held t v d p) : ∃ x, Fits T w (fun b => b < w.heap.size) t x v.cells.toList ∧ ValOf T t v v.cells.toList := by
  obtain ⟨fuel, h⟩ := h
  obtain ⟨x, hx⟩ := flat_trod (F := fun b => b < w.heap.size) hP 20 hf h
  refine ⟨x, hx, ?_⟩
  unfold ValOf
  have hf' := hf
  unfold flatTy at hf'
  unfold Value.okWide at hval
  split at hf'
  · rename_i k hk
    rw [hP.int _ _ hk] at hval
    obtain ⟨n, hv, _, _⟩ := DataW.trod_int (hP.int _ _ hk) h
    simp only [Cell.okWide, hP.int _ _ hk] at hval
    cases v <;> simp_all [Cell.ok, Value.cells, TyD.isAgg]
  · rename_i hk
    simp only [Cell.okWide, hP.bool _ hk] at hval
    cases v <;> simp_all [Cell.ok, hP.bool _ hk, Value.cells, TyD.isAgg]
  · rename_i hk
    simp only [Cell.okWide, hP.str _ hk] at hval
    cases v <;> simp_all [Cell.ok, hP.str _ hk, Value.cells, TyD.isAgg]
  · rename_i ts hk
    obtain ⟨fs, f1, _⟩ := hP.struct _ _ hk
    rw [f1] at hval
    obtain ⟨cs, rfl, _⟩ := hval
    simp [hk, TyD.isAgg, Value.cells]
  · rename_i n e hk
    obtain ⟨f1, _⟩ := hP.arr _ _ _ hk
    rw [f1] at hval
    obtain ⟨cs, rfl, _⟩ := hval
    simp [hk, TyD.isAgg, Value.cells]
  · simp at hf'

/-- The elements of a list of one kind. -/
theorem fits_list {α : Type} {f : α → V} {e : TypeId} (hf : ∀ v cs, Fits T w F e v cs → ∃ a, v = f a) : ∀ {n : Nat} {l : List V} {cs : List Value}, FitsL T w F (List.replicate n e) l cs → ∃ m : List α, l = m.map f
  | 0, l, cs, h => by cases h; exact ⟨[], rfl⟩
  | n + 1, l, cs, h => by
    rw [List.replicate_succ] at h
    cases h with
    | cons h1 h2 =>
      obtain ⟨a, rfl⟩ := hf _ _ h1
      obtain ⟨m, rfl⟩ := fits_list hf h2
      exact ⟨a :: m, rfl⟩

theorem fits_list' {α : Type} {f : α → V} {q : α → Prop} {e : TypeId} (hf : ∀ v cs, Fits T w F e v cs → ∃ a, q a ∧ v = f a) : ∀ {n : Nat} {l : List V} {cs : List Value}, FitsL T w F (List.replicate n e) l cs → ∃ m : List α, (∀ a ∈ m, q a) ∧ l = m.map f
  | 0, l, cs, h => by cases h; exact ⟨[], by simp, rfl⟩
  | n + 1, l, cs, h => by
    rw [List.replicate_succ] at h
    cases h with
    | cons h1 h2 =>
      obtain ⟨a, ha, rfl⟩ := hf _ _ h1
      obtain ⟨m, hm, rfl⟩ := fits_list' hf h2
      exact ⟨a :: m, by simpa using ⟨ha, hm⟩, rfl⟩

/-- A law: its contract says 'true'. -/
theorem Ctr.law {f : FuncId} {pts : List TypeId} {bt : TypeId} {vs : List V} {xs : List Value} {W : World} (h : Ctr P T f pts [bt] vs [.bool true]) (hb : P.underlying bt = some .bool) (hx : ArgsFit T W (fun b => b < W.heap.size) pts vs xs) (htb : T.ty bt = .bool) :
    Calls P f xs.toArray W fun e W' => e = .returned (.bool true) ∧ Below W.heap.size W W' := by
  refine (h.2 W _ xs (fun _ h => h) hx).mono ?_
  rintro en w' ⟨ys, rfl, hB, hr⟩
  match ys, hr with
  | [y], ⟨hr, _, _⟩ =>
    refine ⟨?_, hB⟩
    simp only [ResFit, htb] at hr
    obtain ⟨_, h1, h2⟩ := hr
    obtain ⟨b, hb, hc⟩ := h1.inv' htb
    cases hb
    simp only [ValOf, htb, TyD.isAgg, Bool.false_eq_true, if_false] at h2
    rw [h2] at hc
    simp at hc
    rw [outV, hc]

end Go.Eng
