/- Operations that leave the memory alone: their values in the abstract state, and that the machine yields just these. -/
import Derived.Test.YtbfihoopgcmkpaaEngB
namespace Go.Eng
set_option linter.unusedSimpArgs false
set_option linter.unusedVariables false
open Go.RowKit

/-- The table is that of the program. -/
structure TabOk (P : Program) (T : Tab) : Prop where
  sized : T.Sized
  int : ∀ t k, T.ty t = .int k → P.underlying t = some (.int k)
  bool : ∀ t, T.ty t = .bool → P.underlying t = some .bool
  str : ∀ t, T.ty t = .str → P.underlying t = some .string
  struct : ∀ t ts, T.ty t = .struct ts → ∃ fs : Array Field, P.underlying t = some (.struct fs) ∧ fs.toList.map (·.type) = ts ∧ P.stoodInHeld t = false ∧
    ∀ (k : Nat) (f : Field), fs[k]? = some f → f.offset = T.offs ts k ∧ 0 < T.sz f.type ∧ (f.name == "_") = false ∧ T.ty f.type ≠ .other
  arr : ∀ t n e, T.ty t = .arr n e → P.underlying t = some (.array n e) ∧ 1 < n ∧ 0 < T.sz e ∧ T.ty e ≠ .other
  slice : ∀ t e, T.ty t = .slice e → P.underlying t = some (.slice e) ∧ T.ty e ≠ .other
  ptr : ∀ t e, T.ty t = .ptr e → P.underlying t = some (.pointer e) ∧ T.ty e ≠ .other
  fn : ∀ t, T.ty t = .fn → ∃ a b c, P.underlying t = some (.func a b c)
  guard : ∀ t, (T.ty t).isAgg = true → P.eqGuardType P.depth t = false
  info : ∀ t, T.ty t ≠ .other → ∃ i, P.info? t = some i ∧ i.size = T.sz t ∧ i.bytes = T.by_ t ∧
    ∃ z, i.zero = some z ∧ z.cells.size = T.sz t ∧ (∀ c ∈ z.cells, c.oneCell' = true) ∧ (if (T.ty t).isAgg then z = .agg z.cells else z.oneCell' = true) ∧
      (T.ty t ≠ .fn → (∀ e, T.ty t ≠ .ptr e) → ∀ w F, Fits T w F t (T.zero t) z.cells.toList) ∧ (T.ty t = .fn → z = .nilFunc) ∧ (∀ e, T.ty t = .slice e → z = .slice none 0 0)

variable {P : Program} {T : Tab} {w w' : World} {w0 : Base} {F : Nat → Prop} {ρ : Nat → RI}

/-- A value at a type, by its cells. -/
def ValOf (T : Tab) (t : TypeId) (x : Value) (cs : List Value) : Prop := if (T.ty t).isAgg then x = .agg cs.toArray else cs = [x]

/-- The abstract value of data at a type. -/
def fromV (T : Tab) (t : TypeId) (v : V) : E := match T.ty t with
  | .int k => .int k v.toInt
  | .bool => .bool v.toBool
  | .str => .str v.toStr
  | .struct _ | .arr _ _ => .data t v
  | .slice e => .fs e v.toList false
  | .ptr e => .fptr e v.deref
  | .fn => .fn v.toFn []
  | _ => .undef

theorem fromV_rel {t : TypeId} {v : V} {x : Value} {cs : List Value} (h : Fits T w F t v cs) (hx : ValOf T t x cs) : ERel T w F ρ (fromV T t v) x := by
  unfold fromV
  unfold ValOf at hx
  split
  · rename_i k hk
    obtain ⟨n, rfl, hn, rfl⟩ := h.inv' hk
    simp [hk, TyD.isAgg] at hx
    exact ⟨hx.symm, hn⟩
  · rename_i hk
    obtain ⟨b, rfl, rfl⟩ := h.inv' hk
    simp [hk, TyD.isAgg] at hx
    exact hx.symm
  · rename_i hk
    obtain ⟨s, rfl, rfl⟩ := h.inv' hk
    simp [hk, TyD.isAgg] at hx
    exact hx.symm
  · rename_i ts hk
    simp [hk, TyD.isAgg] at hx
    exact ⟨cs.toArray, hx, by simp [hk, TyD.isAgg], by simpa using h⟩
  · rename_i n e hk
    simp [hk, TyD.isAgg] at hx
    exact ⟨cs.toArray, hx, by simp [hk, TyD.isAgg], by simpa using h⟩
  · rename_i e hk
    simp [hk, TyD.isAgg] at hx
    rcases h.inv' hk with ⟨rfl, h2⟩ | ⟨b, off, n, cap, l, ds, rfl, h2, h3, h4, rfl, h6, h7⟩
    · rw [h2] at hx
      simp at hx
      exact .inl ⟨hx.symm, rfl⟩
    · rw [h2] at hx
      simp at hx
      exact .inr ⟨b, off, cap, ds, hx.symm, h7, by simp, h3, h4, h6⟩
  · rename_i e hk
    simp [hk, TyD.isAgg] at hx
    obtain ⟨b, off, y, ds, rfl, h2, h3, h4, h5⟩ := h.inv' hk
    rw [h2] at hx
    simp at hx
    exact ⟨b, off, ds, hx.symm, h3, h4, h5⟩
  · rename_i hk
    simp [hk, TyD.isAgg] at hx
    obtain ⟨f, rfl, h2⟩ := h.inv' hk
    rw [h2] at hx
    simp at hx
    exact ⟨[], hx.symm, trivial⟩
  · trivial

/-- Data of an abstract value, as a type asks for it. -/
def toV (T : Tab) (t : TypeId) : E → Option V
  | .int k n => if T.ty t = .int k then some (.int n) else none
  | .bool b => if T.ty t = .bool then some (.bool b) else none
  | .str s => if T.ty t = .str then some (.str s) else none
  | .data t' v => if t' = t then some v else none
  | .fs e l _ => if T.ty t = .slice e then some (.list l) else none
  | .nilsl => match T.ty t with | .slice _ => some (.list []) | _ => none
  | .fptr t' v => if T.ty t = .ptr t' then some (.ref v) else none
  | .fn f [] => if T.ty t = .fn then some (.fnv f) else none
  | _ => none

theorem toV_fits {t : TypeId} {e : E} {x : Value} {v : V} (h : ERel T w F ρ e x) (hv : toV T t e = some v) : Fits T w F t v x.cells.toList ∧ ValOf T t x x.cells.toList := by
  cases e <;> simp only [toV] at hv <;> try (cases hv; done)
  case int k n =>
    split at hv; rotate_left; · cases hv
    rename_i hk
    cases hv
    obtain ⟨rfl, hn⟩ := h
    exact ⟨.int hk hn, by simp [ValOf, hk, TyD.isAgg, Value.cells]⟩
  case bool b =>
    split at hv; rotate_left; · cases hv
    rename_i hk
    cases hv
    obtain rfl : x = _ := h
    exact ⟨.bool hk, by simp [ValOf, hk, TyD.isAgg, Value.cells]⟩
  case str s =>
    split at hv; rotate_left; · cases hv
    rename_i hk
    cases hv
    obtain rfl : x = _ := h
    exact ⟨.str hk, by simp [ValOf, hk, TyD.isAgg, Value.cells]⟩
  case data t' y =>
    split at hv; rotate_left; · cases hv
    rename_i hk
    cases hv
    subst hk
    obtain ⟨cs, rfl, h2, h3⟩ := h
    exact ⟨h3, by simp [ValOf, h2, Value.cells]⟩
  case fs e l c =>
    split at hv; rotate_left; · cases hv
    rename_i hk
    cases hv
    rcases h with ⟨rfl, rfl⟩ | ⟨b, off, cap, cs, rfl, h2, _, h3, h4, h5⟩
    · exact ⟨.nil hk, by simp [ValOf, hk, TyD.isAgg, Value.cells]⟩
    · exact ⟨.slice hk h3 h4 rfl h5 h2, by simp [ValOf, hk, TyD.isAgg, Value.cells]⟩
  case nilsl =>
    split at hv; rotate_left; · cases hv
    rename_i hk
    cases hv
    obtain rfl : x = _ := h
    exact ⟨.nil hk, by simp [ValOf, hk, TyD.isAgg, Value.cells]⟩
  case fptr t' y =>
    split at hv; rotate_left; · cases hv
    rename_i hk
    cases hv
    obtain ⟨b, off, cs, rfl, h2, h3, h4⟩ := h
    exact ⟨.ref hk h2 h3 h4, by simp [ValOf, hk, TyD.isAgg, Value.cells]⟩
  case fn f caps =>
    cases caps with
    | cons _ _ => simp only at hv; cases hv
    | nil =>
      simp only at hv
      split at hv; rotate_left; · cases hv
      rename_i hk
      cases hv
      obtain ⟨cs, rfl, h2⟩ := h
      cases cs with
      | nil => exact ⟨.fn hk, by simp [ValOf, hk, TyD.isAgg, Value.cells]⟩
      | cons _ _ => exact h2.elim

/-! ### Operands -/

def constE : Value → Option E
  | .int k n => if k.min ≤ n ∧ n ≤ k.max then some (.int k n) else none
  | .bool b => some (.bool b)
  | .string s => some (.str s)
  | .slice none 0 0 => some .nilsl
  | .nilFunc => some .nilfn
  | _ => none

theorem constE_rel {x : Value} {e : E} (h : constE x = some e) : ERel T w F ρ e x := by
  unfold constE at h
  split at h
  · split at h; rotate_left; · cases h
    rename_i hk
    cases h
    exact ⟨rfl, hk⟩
  all_goals first | (cases h; rfl) | cases h

def evalO (σ : St) (g : Bool) (x : Operand) (K : E → Prop) : Prop := match x with
  | .tmp t => match σ.tm.lookup t with
    | some (h, e) => (g = true → h = true) ∧ K e
    | none => False
  | .const v => match constE v with
    | some e => K e
    | none => False
  | .func f => K (.fn f [])
  | .global _ => False

theorem evalO_sound {σ : St} {a : Act} {outs : List (Array Value)} (hR : Rel T w F ρ w0 σ a.tmps outs) {g : Bool} {x : Operand} {K : E → Prop} (h : evalO σ g x K) :
    ∃ e, K e ∧ (g = true → ERel T w F ρ e (a.eval x)) := by
  unfold evalO at h
  split at h
  · rename_i t
    split at h
    · rename_i hh e he
      obtain ⟨v, h1, h2, _⟩ := hR.tm _ _ _ he
      refine ⟨e, h.2, fun hg => ?_⟩
      have : a.eval (.tmp t) = v := by simp [Act.eval, Array.getD_eq_getD_getElem?, h1]
      rw [this]
      exact h2 (h.1 hg)
    · exact h.elim
  · split at h
    · rename_i e he
      exact ⟨e, h, fun _ => constE_rel he⟩
    · exact h.elim
  · exact ⟨_, h, fun _ => ⟨[], rfl, trivial⟩⟩
  · exact h.elim

def evalL (σ : St) (g : Bool) : List Operand → (List E → Prop) → Prop
  | [], K => K []
  | x :: xs, K => evalO σ g x fun e => evalL σ g xs fun es => K (e :: es)

theorem evalL_sound {σ : St} {a : Act} {outs : List (Array Value)} (hR : Rel T w F ρ w0 σ a.tmps outs) {g : Bool} : ∀ {xs : List Operand} {K : List E → Prop}, evalL σ g xs K →
    ∃ es, K es ∧ (g = true → ERelL T w F ρ es (xs.map a.eval))
  | [], K, h => ⟨[], h, fun _ => trivial⟩
  | x :: xs, K, h => by
    obtain ⟨e, h1, h2⟩ := evalO_sound hR h
    obtain ⟨es, h3, h4⟩ := evalL_sound hR h1
    exact ⟨e :: es, h3, fun hg => ⟨h2 hg, h4 hg⟩⟩

/-! ### Reading memory -/

theorem Seg.later {b off : Nat} {cs : List Value} (h : Seg w b off cs) (hb : b < w.heap.size) (hw : Below w.heap.size w w') : Seg w' b off cs := h.mono (hw.block b hb)

theorem run_isAgg (hP : TabOk P T) {t : TypeId} (ht : T.ty t ≠ .other) (w : World) : (isAgg t).run P w = .ok (T.ty t).isAgg w := by
  unfold isAgg
  rw [Sem.run_bind]
  cases h : T.ty t with
  | int k => rw [run_underlying (hP.int _ _ h)]; rfl
  | bool => rw [run_underlying (hP.bool _ h)]; rfl
  | str => rw [run_underlying (hP.str _ h)]; rfl
  | struct ts => obtain ⟨fs, h1, _⟩ := hP.struct _ _ h; rw [run_underlying h1]; rfl
  | arr n e => rw [run_underlying (hP.arr _ _ _ h).1]; rfl
  | slice e => rw [run_underlying (hP.slice _ _ h).1]; rfl
  | ptr e => rw [run_underlying (hP.ptr _ _ h).1]; rfl
  | fn => obtain ⟨a, b, c, h1⟩ := hP.fn _ h; rw [run_underlying h1]; rfl
  | other => exact absurd h ht

theorem run_sizeOf (hP : TabOk P T) {t : TypeId} (ht : T.ty t ≠ .other) (w : World) : (sizeOf t).run P w = .ok (T.sz t) w := by
  obtain ⟨i, h1, h2, _⟩ := hP.info t ht
  simp [sizeOf, typeInfo, h1, h2]

theorem addr_add (b off j : Nat) : (⟨b, off, none⟩ : Addr).add j = ⟨b, off + j, none⟩ := by unfold Addr.add; split <;> simp_all

theorem run_loadVar_seg (hP : TabOk P T) {t : TypeId} (ht : T.ty t ≠ .other) {b off : Nat} {cs : List Value} {x : Value} (h : Seg w b off cs) (hl : cs.length = T.sz t) (hx : ValOf T t x cs) :
    (loadVar t ⟨b, off, none⟩).run P w = .ok x w := by
  unfold loadVar
  rw [Sem.run_bind, run_isAgg hP ht]
  unfold ValOf at hx
  simp only [Result.andThen_ok]
  split
  · rename_i hA
    rw [if_pos hA] at hx
    subst hx
    have := run_loadCells_list (P := P) w ⟨b, off, none⟩ cs (fun j v hv => by rw [addr_add]; exact h j v hv)
    rw [hl] at this
    simp [run_sizeOf hP ht, this]
  · rename_i hA
    rw [if_neg hA] at hx
    subst hx
    have := h 0 x rfl
    simp at this
    simp [this]

theorem Fits.notOther {t : TypeId} {v : V} {cs : List Value} (h : Fits T w F t v cs) : T.ty t ≠ .other := fun h1 => h.inv' h1

theorem PathOk.notOther {root t : TypeId} {p : List Nat} {off : Nat} (hP : TabOk P T) (h : PathOk T root p off t) (v : V) (cs : List Value) (hv : Fits T w F root v cs) : T.ty t ≠ .other :=
  (h.get hP.sized hv).1.notOther

/-- A real value is at a type what its cells say. -/
theorem valOf_take {t : TypeId} {v : V} {ds : List Value} (hS : T.Sized) (h : Fits T w F t v ds) : ∃ x, ValOf T t x ds := by
  unfold ValOf
  split
  · exact ⟨_, rfl⟩
  · rename_i hA
    have h1 := h.len hS
    have h2 : T.sz t = 1 := by
      have h3 := h.inv
      cases hk : T.ty t with
      | int k => exact hS.int _ _ hk
      | bool => exact hS.bool _ hk
      | str => exact hS.str _ hk
      | struct ts => simp [hk, TyD.isAgg] at hA
      | arr n e => simp [hk, TyD.isAgg] at hA
      | slice e => exact (hS.slice _ _ hk).1
      | ptr e => exact hS.ptr _ _ hk
      | fn => exact hS.fn _ hk
      | other => rw [hk] at h3; exact h3.elim
    rw [h2] at h1
    match ds, h1 with
    | [x], _ => exact ⟨x, rfl⟩

/-- The cells of a block's own row. -/
theorem seg_of_cells {b : Nat} {cs : Array Value} {ct : TypeId} {fr : Nat × Nat} (h : w.heap[b]? = some (.cells cs ct fr)) (off n : Nat) : Seg w b off ((cs.toList.drop off).take n) := by
  intro j x hx
  rw [List.getElem?_take] at hx
  split at hx
  · rw [List.getElem?_drop] at hx
    rw [cell_of_row w b (off + j) cs ct fr h]
    simpa using hx
  · cases hx

theorem seg_all {b : Nat} {cs : Array Value} {ct : TypeId} {fr : Nat × Nat} (h : w.heap[b]? = some (.cells cs ct fr)) : Seg w b 0 cs.toList := by
  have := seg_of_cells h 0 cs.size
  rwa [List.drop_zero, List.take_of_length_le (by simp)] at this

theorem Holds.valOf {t : TypeId} {v : Value} {cs : Array Value} (h : Holds T t v cs) : ValOf T t v cs.toList := by
  obtain ⟨_, h⟩ := h
  unfold ValOf
  split at h
  · rename_i hA; rw [if_pos hA]; simpa using h
  · rename_i hA; rw [if_neg hA, h.1]

end Go.Eng
