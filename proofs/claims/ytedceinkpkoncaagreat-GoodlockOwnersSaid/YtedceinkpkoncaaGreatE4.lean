/- A law's arguments, as they are read, as data. -/
import Derived.Test.YtedceinkpkoncaaGreatE3
import Derived.OpenShut
import Derived.ChangeOld
import Derived.WideShapes
import Derived.Deep.Slices
import Derived.SizedLaws
namespace Go.Eng
set_option linter.unusedSimpArgs false
set_option linter.unusedVariables false
open Go.RowKit

variable {H : Type} {enc : TypeId × Value → H} {P : Program} {T : Tab} {w : World} {base : Nat} {spare : Nat → Bool} {held : Bool} {F : Nat → Prop}

theorem cellsOf_sz (hP : TabOk P T) {t : TypeId} (ht : T.ty t ≠ .other) : P.cellsOf t = T.sz t := by
  obtain ⟨i, i1, i2, _⟩ := hP.info t ht
  simp [Program.cellsOf, i1, i2]

theorem pick_all {α : Type} [Inhabited α] {n : Nat} {p : Nat → α → Prop} (h : ∀ i, i < n → ∃ a, p i a) : ∃ l : List α, l.length = n ∧ ∀ i, i < n → p i (l.getD i default) := by
  classical
  refine ⟨(List.range n).map fun i => if h : ∃ a, p i a then Classical.choose h else default, by simp, fun i hi => ?_⟩
  have := h i hi
  simp only [List.getD_eq_getElem?_getD, List.getElem?_map, List.getElem?_range hi, Option.map_some, Option.getD_some, dif_pos this]
  exact Classical.choose_spec this

theorem flat_notOther {d : Nat} {t : TypeId} (h : flatTy T d t = true) : T.ty t ≠ .other := by
  intro h0
  cases d with
  | zero => simp [flatTy] at h
  | succ d => simp [flatTy, h0] at h

/-- Flat data, as it is read. -/
theorem flat_trod (hP : TabOk P T) : ∀ (d : Nat) {t : TypeId} {cs : List Value} {fuel : Nat} {x : DataW H × List MemPlace}, flatTy T d t = true → DataW.trod enc P w base spare held fuel t cs = some x → ∃ v, Fits T w F t v cs := by
  intro d
  induction d using Nat.strongRecOn with
  | _ d ih =>
    intro t cs fuel x hf h
    cases d with
    | zero => simp [flatTy] at hf
    | succ d =>
      have hno := flat_notOther hf
      have hc := cellsOf_sz hP hno
      unfold flatTy at hf
      split at hf
      · rename_i k hk
        obtain ⟨n, rfl, _, hw⟩ := DataW.trod_int (hP.int _ _ hk) h
        exact ⟨_, .int hk (by simpa [Lit.wf, IntKind.has] using hw)⟩
      · rename_i hk
        obtain ⟨b, rfl, _⟩ := DataW.trod_bool (hP.bool _ hk) h
        exact ⟨_, .bool hk⟩
      · rename_i hk
        obtain ⟨s, rfl, _⟩ := DataW.trod_string (hP.str _ hk) h
        exact ⟨_, .str hk⟩
      · rename_i ts hk
        obtain ⟨fs, f1, f2, _, f3⟩ := hP.struct _ _ hk
        obtain ⟨xs, n, rfl, _, hl, hxl, hx⟩ := DataW.trod_struct f1 h
        have hfl : fs.size = ts.length := by rw [← f2]; simp
        have hex : ∀ i, i < ts.length → ∃ v, ∀ u, ts[i]? = some u → Fits T w F u v ((cs.drop (T.offs ts i)).take (T.sz u)) := by
          intro i hi
          obtain ⟨f, hfi⟩ : ∃ f, fs[i]? = some f := ⟨_, Array.getElem?_eq_getElem (by omega)⟩
          have hti : ts[i]? = some f.type := by
            have : (fs.toList.map (·.type))[i]? = some f.type := by simp [hfi]
            rwa [f2] at this
          obtain ⟨g1, g2, _, g4⟩ := f3 i _ hfi
          have hxi := hx i _ hfi
          rw [List.getElem?_eq_getElem (by omega), g1, cellsOf_sz hP g4] at hxi
          obtain ⟨d', hd', hf'⟩ := flatTys_nth hf hti
          obtain ⟨v, hv⟩ := ih d' (by omega) hf' hxi
          exact ⟨v, fun u hu => by rw [hti] at hu; cases hu; exact hv⟩
        obtain ⟨l, hll, hl'⟩ := pick_all hex
        refine ⟨.agg l, .struct hk (FitsL.ofNth hll ?_ fun k u hu => hl' k (List.getElem?_eq_some_iff.1 hu).1 u hu)⟩
        rw [hl, hc, hP.sized.struct _ _ hk]
      · rename_i n e hk
        obtain ⟨g1, _, _, g4⟩ := hP.arr _ _ _ hk
        obtain ⟨xs, m, rfl, _, hl, hxl, hx⟩ := DataW.trod_array g1 h
        have hex : ∀ i, i < n → ∃ v, Fits T w F e v ((cs.drop (i * T.sz e)).take (T.sz e)) := by
          intro i hi
          have hxi := hx i hi
          rw [List.getElem?_eq_getElem (by omega), cellsOf_sz hP g4] at hxi
          exact ih d (by omega) hf hxi
        obtain ⟨l, hll, hl'⟩ := pick_all hex
        refine ⟨.agg l, .arr hk (FitsL.ofNth (by simp [hll]) ?_ fun k u hu => ?_)⟩
        · rw [hl, hc, hP.sized.arr _ _ _ hk]
        · rw [List.getElem?_replicate] at hu
          split at hu; rotate_left; · cases hu
          rename_i hkn
          cases hu
          rw [offs_replicate T n k _ (by omega)]
          exact hl' k hkn
      · simp at hf

theorem spot_of_cell {a : Addr} {v : Value} (h : w.cell? a = some v) : a.spot = none := by
  unfold World.cell? at h
  split at h
  · split at h
    · cases h
    · rename_i h'; simpa using h'
  · cases h

/-- A slice of flat data, as an argument. -/
theorem slice_arg (hP : TabOk P T) {t e : TypeId} {r : Reach} {b0 : Nat} {v : Value} {d : DataW H} {p : List MemPlace} (ht : T.ty t = .slice e) (hf : flatTy T 20 e = true) (hval : Value.okWide P w r b0 t v)
    (h : DataW.Trod enc P w 0 spare held t v d p) : ∃ l, Fits T w (fun b => b < w.heap.size) t (.list l) v.cells.toList ∧ ValOf T t v v.cells.toList ∧ l.length ≤ maxLen := by
  obtain ⟨hu, hno⟩ := hP.slice _ _ ht
  obtain ⟨a, len, cap, rfl⟩ := Go.WideShapes.okWide_slice hu hval
  have hvo : ∀ a len cap, ValOf T t (.slice a len cap) (Value.slice a len cap).cells.toList := fun a len cap => by simp [ValOf, ht, TyD.isAgg, Value.cells]
  obtain ⟨fuel, h⟩ := h
  have hse := (hP.sized.slice _ _ ht).2
  have hc := cellsOf_sz hP hno
  rcases Go.Deep.open_slice hu h with ⟨hcs, _⟩ | ⟨ad, l, c, m, n, D, Pl, hcs, _, hl, hm, hmm, _, hx⟩
  · simp [Value.cells] at hcs
    obtain ⟨rfl, rfl, rfl⟩ := hcs
    exact ⟨[], .nil ht, hvo _ _ _, by simp⟩
  · simp [Value.cells] at hcs
    obtain ⟨rfl, rfl, rfl⟩ := hcs
    have hok : ad.spot = none ∧ ad.block < w.heap.size := by
      unfold Value.okWide at hval
      rw [hu] at hval
      simp only [Cell.okWide, hu, Cell.ok] at hval
      obtain ⟨_, _, _, h2, row, cells, h3, _⟩ := hval
      refine ⟨h2, ?_⟩
      unfold World.shape? at h3
      cases hb : w.heap[ad.block]? with
      | none => rw [hb] at h3; cases h3
      | some o => exact (Array.getElem?_eq_some_iff.1 hb).1
    obtain ⟨b, off, sp⟩ := ad
    obtain ⟨rfl, hb⟩ := hok
    simp only at hb
    have hlm : len ≤ m := by rw [hmm]; split <;> omega
    have hex : ∀ i, i < len → ∃ c : List Value, c.length = T.sz e ∧ (∀ j, j < T.sz e → w.cell? ⟨b, off + (i * T.sz e + j), none⟩ = c[j]?) ∧ ∃ v, Fits T w (fun b => b < w.heap.size) e v c := by
      intro i hi
      obtain ⟨cs', h1, h2⟩ := hx i (by omega)
      rw [hc] at h1
      obtain ⟨_, q2, q3⟩ := World.cells?_some h1
      obtain ⟨v, hv⟩ := flat_trod (F := fun b => b < w.heap.size) hP 20 hf h2
      refine ⟨cs', q2, fun j hj => ?_, v, hv⟩
      rw [← q3 j hj, addr_add, addr_add, Nat.add_assoc]
    obtain ⟨cl, hcl, hcl'⟩ := pick_all (α := List Value) hex
    obtain ⟨vl, hvl, hvl'⟩ := pick_all (α := V) (p := fun i v => Fits T w (fun b => b < w.heap.size) e v (cl.getD i default)) fun i hi => (hcl' i hi).2.2
    have key : ∀ (vl : List V) (cl : List (List Value)) (off : Nat), vl.length = cl.length → (∀ i, i < cl.length → (cl.getD i default).length = T.sz e ∧ (∀ j, j < T.sz e → w.cell? ⟨b, off + (i * T.sz e + j), none⟩ = (cl.getD i default)[j]?)) →
        (∀ i, i < cl.length → Fits T w (fun b => b < w.heap.size) e (vl.getD i default) (cl.getD i default)) → Seg w b off cl.flatten ∧ FitsL T w (fun b => b < w.heap.size) (List.replicate cl.length e) vl cl.flatten := by
      intro vl cl
      induction cl generalizing vl with
      | nil =>
        intro off hl _ _
        have : vl = [] := by simpa using hl
        subst this
        exact ⟨fun j x hj => by simp at hj, .nil⟩
      | cons c cl ihc =>
        intro off hl h1 h2
        cases vl with
        | nil => simp at hl
        | cons v vl =>
          have c0 := h1 0 (by simp)
          simp only [List.getD_cons_zero, Nat.zero_mul, Nat.zero_add] at c0
          have := ihc vl (off + T.sz e) (by simpa using hl) (fun i hi => by
            have := h1 (i + 1) (by simpa using hi)
            simp only [List.getD_cons_succ] at this
            refine ⟨this.1, fun j hj => ?_⟩
            rw [← this.2 j hj, Nat.add_mul, Nat.one_mul]
            congr 2
            omega) (fun i hi => by
            have := h2 (i + 1) (by simpa using hi)
            simpa only [List.getD_cons_succ] using this)
          refine ⟨?_, ?_⟩
          · intro j x hj
            rw [List.flatten_cons] at hj
            by_cases hjs : j < T.sz e
            · rw [List.getElem?_append_left (by omega)] at hj
              rw [c0.2 j hjs]; exact hj
            · rw [List.getElem?_append_right (by omega), c0.1] at hj
              have := this.1 _ _ hj
              rw [← this]
              congr 2
              omega
          · rw [List.length_cons, List.replicate_succ, List.flatten_cons]
            have h0 := h2 0 (by simp)
            simp only [List.getD_cons_zero] at h0
            exact .cons h0 this.2
    obtain ⟨k1, k2⟩ := key vl cl off (by omega) (fun i hi => ⟨(hcl' i (by omega)).1, (hcl' i (by omega)).2.1⟩) (fun i hi => hvl' i (by omega))
    rw [hcl] at k2
    exact ⟨vl, .slice ht hb k1 hvl k2 hl, hvo _ _ _, by omega⟩

/-- Flat data, as an argument. -/
theorem flat_arg (hP : TabOk P T) {t : TypeId} {r : Reach} {b0 : Nat} {v : Value} {d : DataW H} {p : List MemPlace} (hf : flatTy T 20 t = true) (hval : Value.okWide P w r b0 t v)
    (h : DataW.Trod enc P w 0 spare held t v d p) : ∃ x, Fits T w (fun b => b < w.heap.size) t x v.cells.toList ∧ ValOf T t v v.cells.toList := by
  obtain ⟨fuel, h⟩ := h
  obtain ⟨x, hx⟩ := flat_trod (F := fun b => b < w.heap.size) hP 20 hf h
  refine ⟨x, hx, ?_⟩
  unfold ValOf
  have hf' := hf
  unfold flatTy at hf'
  unfold Value.okWide at hval
  split at hf'
  · rename_i k hk
    rw [hP.int _ _ hk] at hval
    obtain ⟨n, hv, _, _⟩ := DataW.trod_int (hP.int _ _ hk) h
    simp only [Cell.okWide, hP.int _ _ hk] at hval
    cases v <;> simp_all [Cell.ok, Value.cells, TyD.isAgg]
  · rename_i hk
    simp only [Cell.okWide, hP.bool _ hk] at hval
    cases v <;> simp_all [Cell.ok, hP.bool _ hk, Value.cells, TyD.isAgg]
  · rename_i hk
    simp only [Cell.okWide, hP.str _ hk] at hval
    cases v <;> simp_all [Cell.ok, hP.str _ hk, Value.cells, TyD.isAgg]
  · rename_i ts hk
    obtain ⟨fs, f1, _⟩ := hP.struct _ _ hk
    rw [f1] at hval
    obtain ⟨cs, rfl, _⟩ := hval
    simp [hk, TyD.isAgg, Value.cells]
  · rename_i n e hk
    obtain ⟨f1, _⟩ := hP.arr _ _ _ hk
    rw [f1] at hval
    obtain ⟨cs, rfl, _⟩ := hval
    simp [hk, TyD.isAgg, Value.cells]
  · simp at hf'

/-- The elements of a list of one kind. -/
theorem fits_list {α : Type} {f : α → V} {e : TypeId} (hf : ∀ v cs, Fits T w F e v cs → ∃ a, v = f a) : ∀ {n : Nat} {l : List V} {cs : List Value}, FitsL T w F (List.replicate n e) l cs → ∃ m : List α, l = m.map f
  | 0, l, cs, h => by cases h; exact ⟨[], rfl⟩
  | n + 1, l, cs, h => by
    rw [List.replicate_succ] at h
    cases h with
    | cons h1 h2 =>
      obtain ⟨a, rfl⟩ := hf _ _ h1
      obtain ⟨m, rfl⟩ := fits_list hf h2
      exact ⟨a :: m, rfl⟩

theorem fits_list' {α : Type} {f : α → V} {q : α → Prop} {e : TypeId} (hf : ∀ v cs, Fits T w F e v cs → ∃ a, q a ∧ v = f a) : ∀ {n : Nat} {l : List V} {cs : List Value}, FitsL T w F (List.replicate n e) l cs → ∃ m : List α, (∀ a ∈ m, q a) ∧ l = m.map f
  | 0, l, cs, h => by cases h; exact ⟨[], by simp, rfl⟩
  | n + 1, l, cs, h => by
    rw [List.replicate_succ] at h
    cases h with
    | cons h1 h2 =>
      obtain ⟨a, ha, rfl⟩ := hf _ _ h1
      obtain ⟨m, hm, rfl⟩ := fits_list' hf h2
      exact ⟨a :: m, by simpa using ⟨ha, hm⟩, rfl⟩

/-- A law: its contract says 'true'. -/
theorem Ctr.law {f : FuncId} {pts : List TypeId} {bt : TypeId} {vs : List V} {xs : List Value} {W : World} (h : Ctr P T f pts [bt] vs [.bool true]) (hb : P.underlying bt = some .bool) (hx : ArgsFit T W (fun b => b < W.heap.size) pts vs xs) (htb : T.ty bt = .bool) (hg : T.glob W) :
    Calls P f xs.toArray W fun e W' => e = .returned (.bool true) ∧ Below W.heap.size W W' := by
  refine (h.2 W _ xs (fun _ h => h) hg hx).mono ?_
  rintro en w' ⟨ys, rfl, hB, hr⟩
  match ys, hr with
  | [y], ⟨hr, _, _⟩ =>
    refine ⟨?_, hB⟩
    simp only [ResFit, htb] at hr
    obtain ⟨_, h1, h2⟩ := hr
    obtain ⟨b, hb, hc⟩ := h1.inv' htb
    cases hb
    simp only [ValOf, htb, TyD.isAgg, Bool.false_eq_true, if_false] at h2
    rw [h2] at hc
    simp at hc
    rw [outV, hc]

end Go.Eng
/- Contracts whose results are data that nobody writes any more: slices of slices, structs that hold slices. -/
namespace Go.Eng
set_option linter.unusedSimpArgs false
set_option linter.unusedVariables false
open Go.RowKit

variable {P : Program} {T : Tab} {w w' : World} {w0 : Base T} {F F' : Nat → Prop} {ρ ρ' : Nat → RI} {σ σ' : St} {a : Act} {outs : List (Array Value)}

/-- Called with arguments that read as vs and that nobody writes, it returns what reads as rs, in what nobody writes and in new memory, and leaves all that was there as it was. -/
def CtrZ (P : Program) (T : Tab) (f : FuncId) (pts rts : List TypeId) (vs rs : List V) : Prop :=
  Enters P f ∧ ∀ (w : World) (F : Nat → Prop) (xs : List Value), (∀ b, F b → b < w.heap.size) → T.glob w → ArgsFit T w F pts vs xs →
    Calls P f xs.toArray w fun en w' => ∃ ys, en = .returned (outV ys) ∧ Below w.heap.size w w' ∧ ArgsFit T w' (fun b => F b ∨ (w.heap.size ≤ b ∧ b < w'.heap.size)) rts rs ys

theorem contentV_fitZ (hP : TabOk P T) {tmps : Array Value} (hR : Rel T w F ρ w0 σ tmps outs) {t : TypeId} {e : E} {x : Value} {v : V} (hx : ERel T w F ρ e x) (h : contentV T σ t e = some v) :
    Fits T w (fun b => F b ∨ ∃ i, (ρ i).block = some b) t v x.cells.toList ∧ ValOf T t x x.cells.toList := by
  have base : ∀ {e : E}, ERel T w F ρ e x → toV T t e = some v → Fits T w (fun b => F b ∨ ∃ i, (ρ i).block = some b) t v x.cells.toList ∧ ValOf T t x x.cells.toList := by
    intro e hx h
    obtain ⟨h1, h2⟩ := toV_fits hx h
    exact ⟨h1.mono (fun _ x => .inl x) (fun _ _ => rfl), h2⟩
  unfold contentV at h
  split at h
  · rename_i i el lo n c
    split at h; rotate_left; · cases h
    rename_i ht
    split at h; rotate_left; · cases h
    rename_i e2 l ho
    cases h
    have hob := hR.ob _ _ ho
    have hval : ∀ ad len cap, x = .slice ad len cap → ValOf T t x x.cells.toList := fun ad len cap hx => by subst hx; simp [ValOf, ht, TyD.isAgg, Value.cells]
    rcases hx with ⟨h1, rfl, _, rfl⟩ | ⟨b, m, cap, off, h1, h2, h3, rfl, h5, h6⟩
    · simp only [List.take_zero]
      exact ⟨.nil ht, hval _ _ _ rfl⟩
    · have hbl : (ρ i).block = some b := by rw [h1]; rfl
      rw [h1] at hob
      obtain ⟨rfl, q2, xs, q3, q4⟩ := hob
      refine ⟨?_, hval _ _ _ rfl⟩
      rcases q3.2 with ⟨q, _⟩ | ⟨b', cap', cur, hr, hb, hh, hn', hc', hs', htk⟩
      · cases q
      · cases hr
        have hnl : ((l.drop lo).take n).length = n := by simp; omega
        have hf := q4.slice hP.sized (lo := lo) (m := n) (by omega)
        refine .slice ht (.inr ⟨i, hbl⟩) (cs := (xs.drop (lo * T.sz el)).take (n * T.sz el)) ?_ hnl (hf.mono (fun _ x => .inl x) (fun _ _ => rfl)) (by split <;> omega)
        rcases h6 with h6 | h6
        · subst h6
          intro j y hy
          simp at hy
        · have hys : Seg w b 0 xs := by
            have := seg_of_cells (w := w) hh 0 (l.length * T.sz el)
            rw [List.drop_zero, htk] at this
            exact this
          have := hys.sub (lo * T.sz el) (n * T.sz el)
          rw [Nat.zero_add] at this
          rw [h6]
          exact this
  · rename_i i p t'
    split at h; rotate_left; · cases h
    rename_i ht
    split at h; rotate_left; · cases h
    rename_i tv td y ho
    cases h
    have hob := hR.ob _ _ ho
    obtain ⟨b, root, off, p1, p2, rfl⟩ := hx
    have hbl : (ρ i).block = some b := by rw [p1]; rfl
    rw [p1] at hob
    obtain ⟨⟨q1, q1', q1''⟩, q2, q3, cs, ct, z, q4, q5, q6, q7⟩ := hob
    obtain ⟨cs', rfl, hA, hf⟩ := q5
    have := q1'' _ _ rfl
    subst this
    subst q1
    have hcs : cs' = cs := by have := q6.2; rw [if_pos hA] at this; simpa using this
    subst hcs
    obtain ⟨g1, g2⟩ := p2.get hP.sized hf
    refine ⟨.ref ht (.inr ⟨i, hbl⟩) (seg_of_cells q4 off _) (g1.mono (fun _ x => .inl x) (fun _ _ => rfl)), by simp [ValOf, ht, TyD.isAgg, Value.cells]⟩
  · exact base hx h

theorem argsV_fitZ (hP : TabOk P T) {tmps : Array Value} (hR : Rel T w F ρ w0 σ tmps outs) : ∀ {ts : List TypeId} {es : List E} {xs : List Value} {vs : List V}, ERelL T w F ρ es xs → argsV T σ ts es = some vs →
    ArgsFit T w (fun b => F b ∨ ∃ i, (ρ i).block = some b) ts vs xs
  | [], [], [], vs, _, h => by cases h; trivial
  | t :: ts, e :: es, x :: xs, vs, ⟨h1, h2⟩, h => by
    unfold argsV at h
    split at h
    · rename_i v vs' hv hvs
      cases h
      exact ⟨contentV_fitZ hP hR h1 hv, argsV_fitZ hP hR h2 hvs⟩
    · cases h
  | [], _ :: _, _, _, _, h => by simp [argsV] at h
  | _ :: _, [], _, _, _, h => by simp [argsV] at h
  | [], [], _ :: _, _, h, _ => h.elim
  | _ :: _, _ :: _, [], _, h, _ => h.elim

theorem ArgsFit.mono (hF : ∀ b, F b → F' b) (hw : ∀ b, F b → w'.heap[b]? = w.heap[b]?) : ∀ {ts : List TypeId} {vs : List V} {xs : List Value}, ArgsFit T w F ts vs xs → ArgsFit T w' F' ts vs xs
  | [], [], [], _ => trivial
  | _ :: _, _ :: _, _ :: _, ⟨⟨h1, h2⟩, h⟩ => ⟨⟨h1.mono hF hw, h2⟩, ArgsFit.mono hF hw h⟩
  | [], [], _ :: _, h => h.elim
  | [], _ :: _, _, h => h.elim
  | _ :: _, [], _, h => h.elim
  | _ :: _, _ :: _, [], h => h.elim

/-- What a body hands back. -/
def ctrZK (T : Tab) (rs : List ResultVar) (rts : List TypeId) (vs : List V) (ex : Exit) (σ' : St) : Prop := (ex = .normal ∨ ex = .ret) ∧ resA T σ' rs fun es => argsV T σ' rts es = some vs

theorem ctrZK.normal {rs : List ResultVar} {rts : List TypeId} {vs : List V} (h : resA T σ' rs fun es => argsV T σ' rts es = some vs) : ctrZK T rs rts vs .normal σ' := ⟨.inl rfl, h⟩
theorem ctrZK.ret {rs : List ResultVar} {rts : List TypeId} {vs : List V} (h : resA T σ' rs fun es => argsV T σ' rts es = some vs) : ctrZK T rs rts vs .ret σ' := ⟨.inr rfl, h⟩

theorem CtrZ.body (hP : TabOk P T) {f : FuncId} {fn : Func} {c : Code} {pts rts : List TypeId} {vs rs : List V} (hf : P.funcs[f]? = some fn) (hb : fn.body = some c) (hname : (fn.name == "runtime.NumGoroutine") = false) (n : Nat) (hnt : fn.ntmps = n) (res : List ResultVar) (hrs : fn.results.toList = res) (hn : (fromVs T pts vs).length ≤ n)
    (h : SA P T c (ctrZK T res rts rs) { tm := args0 0 (fromVs T pts vs), ob := [], out := [], nt := n }) : CtrZ P T f pts rts vs rs := by
  subst hnt hrs
  refine ⟨enters_of hf (by rw [hb]; rfl) hname, ?_⟩
  intro w F xs hF hg hx
  refine calls_of_wp hf hb ?_
  have hl := hx.len
  have hR : Rel T w F (fun _ => .none) ⟨w, F, hg⟩ { tm := args0 0 (fromVs T pts vs), ob := [], out := [], nt := fn.ntmps } (xs.toArray ++ Array.replicate (fn.ntmps - xs.toArray.size) undef) [] :=
    ⟨args_tm (fromVs_rel hx) _, trivial, fun i o h => by simp at h, fun _ _ => rfl, fun i j b h => by simp [RI.block] at h, hF, Below.refl _ _, by simp; omega, fun _ h => .inr h⟩
  refine wp_mono (h ⟨w, F, hg⟩ w F _ { tmps := xs.toArray ++ Array.replicate (fn.ntmps - xs.toArray.size) undef, defers := [] } [] rfl hR) ?_
  rintro ex a' w' ⟨σ', F', ρ', ⟨hex, hr⟩, hd', hR''⟩
  refine leave_sound hP hR'' hd' hex hr fun es ys hv he => ⟨ys, rfl, hR''.below, ?_⟩
  refine (argsV_fitZ hP hR'' he hv).mono ?_ (fun _ _ => rfl)
  rintro b (hb | ⟨i, hb⟩)
  · rcases hR''.fold b hb with h | h
    · exact .inr ⟨h, hR''.fsub b hb⟩
    · exact .inl h
  · exact .inr ⟨(hR''.own hb).2.2, (hR''.own hb).1⟩

/-- New memory that nobody writes. -/
theorem Rel.grow {tmps : Array Value} (h : Rel T w F ρ w0 σ tmps outs) (hb : Below w.heap.size w w') : Rel T w' (fun b => F b ∨ (w.heap.size ≤ b ∧ b < w'.heap.size)) ρ w0 σ tmps outs := by
  have hF : ∀ b, F b → F b ∨ (w.heap.size ≤ b ∧ b < w'.heap.size) := fun _ h => .inl h
  have hw : ∀ b, F b → w'.heap[b]? = w.heap[b]? := fun b hF => hb.block b (h.fsub b hF)
  refine ⟨h.tm.mono hF hw (fun _ _ => rfl), h.out.mono hF hw (fun _ _ => rfl), fun i o ho => (h.ob i o ho).mono hF hw (fun _ _ => rfl) (fun b hr => hb.block b (h.own hr).1) (fun b hr hc => ?_), h.free, h.inj, ?_, h.below.trans (hb.mono h.below.size), h.size, ?_⟩
  · rcases hc with hc | hc
    · exact (h.own hr).2.1 hc
    · have := (h.own hr).1; omega
  · rintro b (hc | hc)
    · exact Nat.lt_of_lt_of_le (h.fsub b hc) hb.size
    · exact hc.2
  · rintro b (hc | hc)
    · exact h.fold b hc
    · exact .inl (Nat.le_trans h.below.size hc.1)

def toVs (T : Tab) : List TypeId → List E → Option (List V)
  | [], [] => some []
  | t :: ts, e :: es => match toV T t e, toVs T ts es with
    | some v, some vs => some (v :: vs)
    | _, _ => none
  | _, _ => none

theorem toVs_fit : ∀ {ts : List TypeId} {es : List E} {xs : List Value} {vs : List V}, ERelL T w F ρ es xs → toVs T ts es = some vs → ArgsFit T w F ts vs xs
  | [], [], [], vs, _, h => by cases h; trivial
  | t :: ts, e :: es, x :: xs, vs, ⟨h1, h2⟩, h => by
    unfold toVs at h
    split at h
    · rename_i v vs' hv hvs
      cases h
      exact ⟨toV_fits h1 hv, toVs_fit h2 hvs⟩
    · cases h
  | [], _ :: _, _, _, _, h => by simp [toVs] at h
  | _ :: _, [], _, _, _, h => by simp [toVs] at h
  | [], [], _ :: _, _, h, _ => h.elim
  | _ :: _, _ :: _, [], _, h, _ => h.elim

theorem CallB.ctrZ {f : FuncId} {pts rts : List TypeId} {vs rs : List V} {es : List E} {K : St → E → Prop} (hc : CtrZ P T f pts rts vs rs) (hv : toVs T pts es = some vs)
    (hK : K σ (outE (fromVs T rts rs))) : CallB P T σ f es K := by
  obtain ⟨hE, hc⟩ := hc
  refine ⟨hE, ?_⟩
  intro w0 w F ρ tmps outs xs hR hx
  refine (hc w F xs hR.fsub (T.globB _ _ (Base.ok _) hR.below) (toVs_fit hx hv)).mono ?_
  rintro en w' ⟨ys, rfl, hb, hres⟩
  exact ⟨_, σ, _, _, ρ, rfl, hb, hK, outE_rel (fromVs_rel hres), hR.grow hb⟩

theorem CallB.toE {f : FuncId} {es : List E} {K : St → E → Prop} (h : CallB P T σ f es K) : CallE P T σ f es K := by
  obtain ⟨hE, h⟩ := h
  refine ⟨hE, ?_⟩
  intro w0 w F ρ tmps outs xs hR hx
  refine (h w0 w F ρ tmps outs xs hR hx).mono ?_
  rintro en w' ⟨v, σ', e, F', ρ', h1, _, h2, h3, h4⟩
  exact ⟨v, σ', e, F', ρ', h1, h2, h3, h4⟩

theorem CallE.ctrZ {f : FuncId} {pts rts : List TypeId} {vs rs : List V} {es : List E} {K : St → E → Prop} (hc : CtrZ P T f pts rts vs rs) (hv : toVs T pts es = some vs)
    (hK : K σ (outE (fromVs T rts rs))) : CallE P T σ f es K := (CallB.ctrZ hc hv hK).toE

def scopeK (K : Exit → St → Prop) (ex : Exit) (σ : St) : Prop := (∀ l, ex ≠ .goto l) ∧ K ex σ
theorem scopeK.normal {K : Exit → St → Prop} (h : K .normal σ) : scopeK K .normal σ := ⟨fun _ h => (by cases h), h⟩
theorem scopeK.exit {K : Exit → St → Prop} {i : Nat} (h : K (.exit i) σ) : scopeK K (.exit i) σ := ⟨fun _ h => (by cases h), h⟩
theorem scopeK.ret {K : Exit → St → Prop} (h : K .ret σ) : scopeK K .ret σ := ⟨fun _ h => (by cases h), h⟩

theorem SA.scope {c : Code} {K : Exit → St → Prop} (h : SA P T c (scopeK K) σ) : SA P T (.scope c) K σ := by
  intro w0 w F ρ a outs hd hR
  refine wp_scope_straight (wp_mono (h w0 w F ρ a outs hd hR) ?_)
  rintro ex a' w' ⟨σ', F', ρ', ⟨hn, hK⟩, hd', hR'⟩
  cases ex <;> first | exact absurd rfl (hn _) | exact ⟨σ', F', ρ', hK, hd', hR'⟩

theorem SA.label {l : Nat} {K : Exit → St → Prop} (h : K .normal σ) : SA P T (.label l) K σ := fun _ _ _ _ _ _ hd hR => wp_label ⟨σ, _, _, h, hd, hR⟩

end Go.Eng
/- Rows whose elements are slices of other own rows: from data, and back. -/
namespace Go.Eng
set_option linter.unusedSimpArgs false
set_option linter.unusedVariables false
open Go.RowKit

variable {P : Program} {T : Tab} {w w' : World} {w0 : Base T} {F F' : Nat → Prop} {ρ ρ' : Nat → RI} {σ σ' : St} {a : Act} {outs : List (Array Value)}

theorem fits_E (hS : T.Sized) {e : TypeId} (hs : T.sz e = 1) (hA : (T.ty e).isAgg = false) : ∀ {l : List V} {xs : List Value}, FitsL T w F (List.replicate l.length e) l xs → ERelL T w F ρ (l.map (fromV T e)) xs
  | [], xs, h => by
    cases h
    trivial
  | v :: l, xs, h => by
    rw [List.length_cons, List.replicate_succ] at h
    cases h with
    | cons h1 h2 =>
      rename_i c cs
      have hl := h1.len hS
      rw [hs] at hl
      obtain ⟨x, rfl⟩ : ∃ x, c = [x] := by
        cases c with
        | nil => simp at hl
        | cons x c => cases c with
          | nil => exact ⟨x, rfl⟩
          | cons => simp at hl
      exact ⟨fromV_rel h1 (by unfold ValOf; rw [hA]; rfl), fits_E hS hs hA h2⟩

/-- A row of data is a row of values. -/
theorem St.le.toE (hS : T.Sized) (i : Nat) {e : TypeId} {l : List V} (ho : σ.ob[i]? = some (.row e l)) (hs : T.sz e = 1) (hA : (T.ty e).isAgg = false) (hn : T.ty e ≠ .other) :
    St.le T σ { σ with ob := σ.ob.set i (.erow e (l.map (fromV T e))) } := by
  intro w F ρ w0 tmps outs h
  have hi : i < σ.ob.length := (List.getElem?_eq_some_iff.1 ho).1
  refine ⟨F, ρ, h.tm, h.out, ?_, ?_, h.inj, h.fsub, h.below, h.size, h.fold⟩
  · intro j o hj
    by_cases hji : j = i
    · subst hji
      simp [hi] at hj
      subst hj
      have h1 := h.ob _ _ ho
      cases hρ : ρ j with
      | none => rw [hρ] at h1; exact h1.elim
      | var _ _ => rw [hρ] at h1; exact h1.elim
      | row e' r =>
        rw [hρ] at h1
        obtain ⟨rfl, q2, xs, q3, q4⟩ := h1
        exact ⟨rfl, q2, ⟨hs, hA, hn⟩, xs, by rw [List.length_map]; exact q3, fits_E hS hs hA q4, q4.onesL⟩
    · simp only [List.getElem?_set_ne (Ne.symm hji)] at hj
      exact h.ob j o hj
  · intro j hj
    simp at hj
    exact h.free j (by simp; omega)

theorem E_fits {e : TypeId} : ∀ {l : List E} {vs : List V} {xs : List Value}, l.map (toV T e) = vs.map some → ERelL T w F ρ l xs → (∀ x ∈ xs, x.oneCell' = true) → FitsL T w F (List.replicate vs.length e) vs xs
  | [], [], [], _, _, _ => .nil
  | x :: l, v :: vs, y :: ys, h, ⟨h1, h2⟩, h3 => by
    simp only [List.map_cons, List.cons.injEq] at h
    have hf := (toV_fits h1 h.1).1
    have hc : y.cells = #[y] := by have := h3 y (by simp); cases y <;> simp_all [Value.cells, Value.oneCell']
    rw [hc] at hf
    rw [List.length_cons, List.replicate_succ]
    exact .cons hf (E_fits h.2 h2 (fun x hx => h3 x (by simp [hx])))
  | [], _ :: _, _, h, _, _ => by simp at h
  | _ :: _, [], _, h, _, _ => by simp at h
  | [], [], _ :: _, _, h, _ => h.elim
  | _ :: _, _ :: _, [], _, h, _ => h.elim

/-- .. and back, where its values are data. -/
theorem St.le.ofE (i : Nat) {e : TypeId} {l : List E} {vs : List V} (ho : σ.ob[i]? = some (.erow e l)) (hv : l.map (toV T e) = vs.map some) :
    St.le T σ { σ with ob := σ.ob.set i (.row e vs) } := by
  intro w F ρ w0 tmps outs h
  have hi : i < σ.ob.length := (List.getElem?_eq_some_iff.1 ho).1
  have hlen : l.length = vs.length := by have := congrArg List.length hv; simpa using this
  refine ⟨F, ρ, h.tm, h.out, ?_, ?_, h.inj, h.fsub, h.below, h.size, h.fold⟩
  · intro j o hj
    by_cases hji : j = i
    · subst hji
      simp [hi] at hj
      subst hj
      have h1 := h.ob _ _ ho
      cases hρ : ρ j with
      | none => rw [hρ] at h1; exact h1.elim
      | var _ _ => rw [hρ] at h1; exact h1.elim
      | row e' r =>
        rw [hρ] at h1
        obtain ⟨rfl, q2, q0, xs, q3, q4, q5⟩ := h1
        exact ⟨rfl, q2, xs, by rw [← hlen]; exact q3, E_fits hv q4 q5⟩
    · simp only [List.getElem?_set_ne (Ne.symm hji)] at hj
      exact h.ob j o hj
  · intro j hj
    simp at hj
    exact h.free j (by simp; omega)

theorem frzL_map (i : Nat) (v : V) (l : List V) : ∀ m : List E, E.frzL i v l m = m.map (E.frz i v l)
  | [] => rfl
  | e :: m => by simp [E.frzL, frzL_map i v l m]

/-- The rows of a row of rows, all written no more: it is data. -/
theorem St.le.frzAll (hS : T.Sized) {tm : Tm} {out : List Tm} {nt : Nat} {e e2 : TypeId} {n : Nat} (c : Nat → List V) (hc : ∀ k, k < n → (c k).length = n) (he : T.ty e = .slice e2)
    (htm : ∀ i v l, Tm.frz (i + 1) v l tm = tm) (hout : ∀ i v l, out.map (Tm.frz (i + 1) v l) = out) :
    St.le T { tm := tm, ob := .erow e ((List.range n).map fun k => .sl (k + 1) e2 0 n false) :: (List.range n).map (fun k => .row e2 (c k)), out := out, nt := nt }
      { tm := tm, ob := [.row e ((List.range n).map fun k => .list (c k))] ++ List.replicate n .dead, out := out, nt := nt } := by
  have key : ∀ m, m ≤ n → St.le T { tm := tm, ob := .erow e ((List.range n).map fun k => .sl (k + 1) e2 0 n false) :: (List.range n).map (fun k => .row e2 (c k)), out := out, nt := nt }
      { tm := tm, ob := .erow e ((List.range n).map fun k => if k < m then .fs e2 (c k) false else .sl (k + 1) e2 0 n false) :: (List.range n).map (fun k => if k < m then .dead else .row e2 (c k)), out := out, nt := nt } := by
    intro m
    induction m with
    | zero => intro _; exact St.le.of_eq (by simp)
    | succ m ih =>
      intro hm
      refine (ih (by omega)).trans ?_
      have hget : ({ tm := tm, ob := .erow e ((List.range n).map fun k => if k < m then .fs e2 (c k) false else .sl (k + 1) e2 0 n false) :: (List.range n).map (fun k => if k < m then .dead else .row e2 (c k)), out := out, nt := nt } : St).ob[m + 1]? = some (.row e2 (c m)) := by
        simp [show m < n by omega]
      refine (St.le.frzRow hS (m + 1) hget).trans (St.le.of_eq ?_)
      simp only [St.frz, htm, hout, List.map_cons, List.set_cons_succ, Obj.frz, frzL_map, List.map_map]
      congr 2
      · congr 1
        apply List.map_congr_left
        intro k hk
        have hk := List.mem_range.1 hk
        simp only [Function.comp]
        by_cases h1 : k < m
        · rw [if_pos h1, if_pos (by omega)]; rfl
        · rw [if_neg h1]
          by_cases h2 : k = m
          · subst h2
            rw [if_pos (by omega)]
            have : (c k).take n = c k := List.take_of_length_le (by rw [hc k hk]; exact Nat.le_refl _)
            simp [E.frz, this]
          · rw [if_neg (by omega)]
            have : Nat.beq (k + 1) (m + 1) = false := by
              cases hb : Nat.beq (k + 1) (m + 1) with
              | false => rfl
              | true => have := Nat.eq_of_beq_eq_true hb; omega
            simp only [E.frz, this, Bool.false_eq_true, if_false]
      · apply List.ext_getElem?
        intro k
        by_cases hk : k < n
        · by_cases h2 : k = m
          · subst h2
            simp [List.getElem?_set, hk]
          · rw [List.getElem?_set_ne (Ne.symm h2)]
            simp only [List.getElem?_map, List.getElem?_range hk, Option.map_some, Function.comp]
            by_cases h1 : k < m
            · rw [if_pos h1, if_pos (by omega)]; rfl
            · rw [if_neg h1, if_neg (by omega)]; rfl
        · rw [List.getElem?_eq_none (by simp; omega), List.getElem?_eq_none (by simp; omega)]
  refine (key n (Nat.le_refl _)).trans ?_
  refine (St.le.ofE 0 (e := e) (vs := (List.range n).map fun k => .list (c k)) rfl ?_).trans (St.le.of_eq ?_)
  · simp only [List.map_map]
    apply List.map_congr_left
    intro k hk
    have hk := List.mem_range.1 hk
    simp [hk, toV, he]
  · simp only [List.set_cons_zero, List.singleton_append]
    congr 2
    apply List.ext_getElem?
    intro k
    by_cases hk : k < n
    · simp [hk]
    · rw [List.getElem?_eq_none (by simp; omega), List.getElem?_eq_none (by simp; omega)]
end Go.Eng
/- Regions in any order, from a state that is less; variables that hold nil slices. -/
namespace Go.Eng
set_option linter.unusedSimpArgs false
set_option linter.unusedVariables false
open Go.RowKit

variable {P : Program} {T : Tab} {w w' : World} {w0 : Base T} {F F' : Nat → Prop} {ρ ρ' : Nat → RI} {σ σ' : St} {a : Act} {outs : List (Array Value)} {ops : Array Oper} {keeps : Nat → Bool}

theorem AnyA.weaken {K : St → Prop} {fuel : Nat} {listed : Array Bool} (hl : St.le T σ σ') (h : AnyA P T ops keeps K fuel listed σ') : AnyA P T ops keeps K fuel listed σ := by
  intro w0 w F ρ a outs hd hR
  obtain ⟨F', ρ', hR'⟩ := hl _ _ _ _ _ _ hR
  exact h w0 w F' ρ' a outs hd hR'

/-- A variable that holds a nil slice holds an empty row of the call's own. -/
theorem St.le.ownVar (i : Nat) {t e : TypeId} (ho : σ.ob[i]? = some (.var t .nilsl)) : St.le T σ { σ with ob := σ.ob.set i (.var t (.sl σ.ob.length e 0 0 false)) ++ [.row e []] } := by
  intro w F ρ w0 tmps outs h
  have hi : i < σ.ob.length := (List.getElem?_eq_some_iff.1 ho).1
  have hadd := h.add (r := .row e (.slice none 0 0)) (o := .row e []) (fun b hb => by simp [RI.block, Value.ownBlock] at hb) ⟨rfl, fun b hb => by simp [Value.ownBlock] at hb, [], World.ownsRow_nil _ _ _ _, .nil⟩
  refine ⟨F, _, hadd.tm, hadd.out, ?_, ?_, hadd.inj, hadd.fsub, hadd.below, hadd.size, hadd.fold⟩
  · intro j o hj
    by_cases hji : j = i
    · subst hji
      have hj' : o = .var t (.sl σ.ob.length e 0 0 false) := by
        rw [List.getElem?_append_left (by simpa using hi)] at hj
        simp [hi] at hj
        exact hj.symm
      subst hj'
      have h1 := hadd.ob j (.var t .nilsl) (by rw [List.getElem?_append_left hi]; exact ho)
      cases hρ : upd ρ σ.ob.length (.row e (.slice none 0 0)) j with
      | none => rw [hρ] at h1; exact h1.elim
      | row _ _ => rw [hρ] at h1; exact h1.elim
      | var b t' =>
        rw [hρ] at h1
        obtain ⟨⟨q1, q2, q3⟩, q4, q5, cs, ct, v, q6, q7, q8, q9⟩ := h1
        refine ⟨⟨q1, q2, fun u x hx => by cases hx⟩, q4, q5, cs, ct, v, q6, ?_, q8, q9⟩
        have hv : v = .slice none 0 0 := q7
        unfold ERel
        rw [upd_self]
        exact .inl ⟨rfl, hv, rfl, rfl⟩
    · refine hadd.ob j o ?_
      by_cases hjl : j < σ.ob.length
      · rw [List.getElem?_append_left (by simpa using hjl), List.getElem?_set_ne (Ne.symm hji)] at hj
        rw [List.getElem?_append_left hjl]; exact hj
      · rw [List.getElem?_append_right (by simp; omega)] at hj
        rw [List.getElem?_append_right (by omega)]
        simpa using hj
  · intro j hj
    refine hadd.free j ?_
    simp at hj ⊢
    omega
mutual
theorem E.under_frz {k i : Nat} {v : V} {l : List V} (hk : k ≤ i) : ∀ {e : E}, e.under k = true → e.frz i v l = e
  | .int _ _, _ => rfl
  | .bool _, _ => rfl
  | .str _, _ => rfl
  | .data _ _, _ => rfl
  | .fs _ _ _, _ => rfl
  | .sl j e lo n c, h => by
    have hj : j < k := by simpa [E.under] using h
    have : Nat.beq j i = false := by
      cases hb : Nat.beq j i with
      | false => rfl
      | true => have := Nat.eq_of_beq_eq_true hb; omega
    simp [E.frz, this]
  | .nilsl, _ => rfl
  | .ptr j p t, h => by
    have hj : j < k := by simpa [E.under] using h
    have : Nat.beq j i = false := by
      cases hb : Nat.beq j i with
      | false => rfl
      | true => have := Nat.eq_of_beq_eq_true hb; omega
    simp [E.frz, this]
  | .rp j m p t, h => by
    have hj : j < k := by simpa [E.under] using h
    have : Nat.beq j i = false := by
      cases hb : Nat.beq j i with
      | false => rfl
      | true => have := Nat.eq_of_beq_eq_true hb; omega
    simp [E.frz, this]
  | .fptr _ _, _ => rfl
  | .fn f caps, h => by
    have h' : E.underL k caps = true := by simpa [E.under] using h
    simp [E.frz, E.underL_frz hk h']
  | .nilfn, _ => rfl
  | .tup m, h => by
    have h' : E.underL k m = true := by simpa [E.under] using h
    simp [E.frz, E.underL_frz hk h']
  | .undef, _ => rfl
theorem E.underL_frz {k i : Nat} {v : V} {l : List V} (hk : k ≤ i) : ∀ {m : List E}, E.underL k m = true → E.frzL i v l m = m
  | [], _ => rfl
  | e :: m, h => by
    simp only [E.underL, Bool.and_eq_true] at h
    simp [E.frzL, E.under_frz hk h.1, E.underL_frz hk h.2]
end
theorem Tm.under_frz {k i : Nat} {v : V} {l : List V} (hk : k ≤ i) : ∀ {tm : Tm}, Tm.under k tm = true → Tm.frz i v l tm = tm
  | [], _ => rfl
  | (t, g, e) :: tm, h => by
    simp only [Tm.under, Bool.and_eq_true] at h
    have := Tm.under_frz (v := v) (l := l) hk h.2
    unfold Tm.frz at this ⊢
    rw [List.map_cons, this]
    simp [E.under_frz hk h.1]
theorem out_under_frz {k i : Nat} {v : V} {l : List V} (hk : k ≤ i) : ∀ {out : List Tm}, outUnder k out = true → out.map (Tm.frz i v l) = out
  | [], _ => rfl
  | tm :: out, h => by
    simp only [outUnder, Bool.and_eq_true] at h
    rw [List.map_cons, Tm.under_frz hk h.1, out_under_frz hk h.2]
theorem Rel.frz_aux (hS : T.Sized) {i : Nat} {v : V} {l : List V} (hi : i < σ.ob.length) {tmps : Array Value} (h : Rel T w F ρ w0 σ tmps outs) (hz : Frozen T w (fun b => F b ∨ (ρ i).block = some b) v l (ρ i)) :
    Rel T w (fun b => F b ∨ (ρ i).block = some b) (upd ρ i .none) w0 (σ.frz i v l) tmps outs := by
  have hF : ∀ b, F b → F b ∨ (ρ i).block = some b := fun _ h => .inl h
  refine ⟨h.tm.frozen hS hF hz, h.out.frozen hS hF hz, ?_, ?_, ?_, ?_, h.below, h.size, fun b hb => hb.elim (h.fold b) fun hb => .inl (h.own hb).2.2⟩
  · intro j o' hj
    by_cases hji : j = i
    · subst hji
      simp [St.frz, hi] at hj
      subst hj
      rw [upd_self]
      rfl
    · simp only [St.frz, List.getElem?_set_ne (Ne.symm hji), List.getElem?_map] at hj
      cases hoj : σ.ob[j]? with
      | none => rw [hoj] at hj; cases hj
      | some oj =>
        rw [hoj] at hj
        simp at hj
        subst hj
        rw [upd_ne ρ _ hji]
        have h1 := h.ob j oj hoj
        have hn : ∀ b, (ρ j).block = some b → ¬ (F b ∨ (ρ i).block = some b) := fun b hb hc => hc.elim (h.own hb).2.1 (fun hc => hji (h.inj j i b hb hc))
        cases oj with
        | dead => cases hρ : ρ j <;> rw [hρ] at h1 <;> exact h1
        | row e m =>
          cases hρ : ρ j with
          | none => rw [hρ] at h1; exact h1.elim
          | var _ _ => rw [hρ] at h1; exact h1.elim
          | row e' r =>
            rw [hρ] at h1 hn
            obtain ⟨q1, q2, xs, q3, q4⟩ := h1
            exact ⟨q1, fun b hb => hn b hb, xs, q3, q4.mono hF (fun _ _ => rfl)⟩
        | erow e m =>
          cases hρ : ρ j with
          | none => rw [hρ] at h1; exact h1.elim
          | var _ _ => rw [hρ] at h1; exact h1.elim
          | row e' r =>
            rw [hρ] at h1 hn
            obtain ⟨q1, q2, q0, xs, q3, q4, q5⟩ := h1
            exact ⟨q1, fun b hb => hn b hb, q0, xs, by rw [frzL_length]; exact q3, q4.frozen hS hF hz, q5⟩
        | var t e =>
          cases hρ : ρ j with
          | none => rw [hρ] at h1; exact h1.elim
          | row _ _ => rw [hρ] at h1; exact h1.elim
          | var b t' =>
            rw [hρ] at h1 hn
            obtain ⟨⟨q1, q2, q3⟩, q4, q5, cs, ct, x, q6, q7, q8⟩ := h1
            exact ⟨⟨q1, q2, fun u x hx => q3 u x (frz_data hx)⟩, q4, hn b rfl, cs, ct, x, q6, q7.frozen hS hF hz, q8⟩
  · intro j hj
    simp [St.frz] at hj
    rw [upd_ne ρ _ (by omega)]
    exact h.free j (by simp; omega)
  · intro p q b hp hq
    unfold upd at hp hq
    split at hp <;> split at hq
    · omega
    · simp [RI.block] at hp
    · simp [RI.block] at hq
    · exact h.inj p q b hp hq
  · rintro b (hb | hb)
    · exact h.fsub b hb
    · exact (h.own hb).1

theorem Rel.frzRow (hS : T.Sized) {i : Nat} {e : TypeId} {l : List V} (ho : σ.ob[i]? = some (.row e l)) {tmps : Array Value} (h : Rel T w F ρ w0 σ tmps outs) : Frozen T w (fun b => F b ∨ (ρ i).block = some b) default l (ρ i) := by
  have h1 := h.ob i _ ho
  cases hρ : ρ i with
  | none => rw [hρ] at h1; exact h1.elim
  | var _ _ => rw [hρ] at h1; exact h1.elim
  | row e' r =>
    rw [hρ] at h1
    obtain ⟨rfl, q2, xs, q3, q4⟩ := h1
    intro b n cap hr
    subst hr
    refine ⟨.inr rfl, ?_⟩
    rcases q3.2 with ⟨q, _⟩ | ⟨b', cap', cur, hr, hb, hh, hn', hc', hs', htk⟩
    · cases q
    · cases hr
      refine ⟨rfl, xs, ?_, q4.mono (fun _ x => .inl x) (fun _ _ => rfl)⟩
      have := seg_of_cells (w := w) hh 0 (l.length * T.sz e')
      rwa [List.drop_zero, htk] at this

/-- A row that is handed to a call, and written no more. -/
theorem CallE.frzRow (hS : T.Sized) {i : Nat} {e : TypeId} {l : List V} (ho : σ.ob[i]? = some (.row e l)) {f : FuncId} {es : List E} {K : St → E → Prop} (h : CallE P T (σ.frz i default l) f (E.frzL i default l es) K) : CallE P T σ f es K := by
  obtain ⟨hE, h⟩ := h
  refine ⟨hE, ?_⟩
  intro w0 w F ρ tmps outs xs hR hx
  have hz := hR.frzRow hS ho
  exact h w0 w _ _ tmps outs xs (hR.frz_aux hS (List.getElem?_eq_some_iff.1 ho).1 hz) (ERelL.frozen hS (fun _ h => .inl h) hz hx)
end Go.Eng
/- Regions in text order, with weakening between operations. -/
namespace Go.Eng
set_option linter.unusedSimpArgs false
set_option linter.unusedVariables false
open Go.RowKit

variable {P : Program} {T : Tab} {w w' : World} {w0 : Base T} {F F' : Nat → Prop} {ρ ρ' : Nat → RI} {σ σ' : St} {a : Act} {outs : List (Array Value)} {ops : Array Oper} {keeps : Nat → Bool}

def opsW (P : Program) (T : Tab) : List SOp → (St → Prop) → St → Prop
  | [], K, σ => K σ
  | o :: rest, K, σ => ∃ τ, St.le T σ τ ∧ guardA o τ (opG P T o (opsW P T rest K) τ)

theorem opsW_sound (hP : TabOk P T) {ops : Array Oper} (hg : guardsOk ops = true) {Q : Exit → Act → World → Prop} {K : St → Prop} (hQ : ∀ a' w', After T w0 outs K a' w' → Q .normal a' w') :
    ∀ (l : List Oper) (k : Nat), ops.toList.drop k = l → ∀ {σ : St} {a : Act} {w : World} {F : Nat → Prop} {ρ : Nat → RI}, Rel T w F ρ w0 σ a.tmps outs → a.defers = [] → opsW P T (l.map (strip ops)) K σ →
      wpOps P ops Q (List.range' k l.length) a w
  | [], k, _, σ, a, w, F, ρ, hR, hd, h => hQ a w ⟨σ, F, ρ, h, hd, hR⟩
  | o :: l, k, hk, σ, a, w, F, ρ, hR, hd, h => by
    have ho : ops[k]? = some o := by
      have : (ops.toList.drop k)[0]? = some o := by rw [hk]; rfl
      simpa using this
    have hk' : ops.toList.drop (k + 1) = l := by
      have := congrArg List.tail hk
      simpa using this
    simp only [List.length_cons, List.range'_succ, wpOps, ho]
    simp only [List.map_cons] at h
    unfold opsW at h
    obtain ⟨τ, hle, h⟩ := h
    obtain ⟨F1, ρ1, hR⟩ := hle _ _ _ _ _ _ hR
    have hgo := List.all_eq_true.1 hg o (by rw [← List.take_append_drop k ops.toList, hk]; simp)
    obtain ⟨g, h, hw⟩ := guardA_sound hR hgo h
    have := opG_sound (Q := Q) hP hR hd (N := wpOps P ops Q (List.range' (k + 1) l.length)) (fun a' w' ⟨σ', F', ρ', q1, q2, q3⟩ => opsW_sound hP hg hQ l (k + 1) hk' q3 q2 q1) h
    rw [hw]
    cases g with
    | true => exact .inl this
    | false => exact this

theorem SA.regionW {id : Nat} {ops : Array Oper} (hP : TabOk P T) (hg : guardsOk ops = true) (lv : List Nat) {K : Exit → St → Prop} (h : ∀ R : St → Prop, (∀ σ', K .normal (σ'.keep lv) → R σ') → opsW P T (ops.toList.map (strip ops)) R σ) : SA P T (.region id ops false) K σ := by
  intro w0 w F ρ a outs hd hR
  refine wp_region ?_
  rw [List.range_eq_range']
  have := h (fun σ' => K .normal (σ'.keep lv)) (fun _ x => x)
  refine opsW_sound (outs := outs) hP hg ?_ ops.toList 0 rfl hR hd this
  rintro a' w' ⟨σ', F', ρ', hK, hd', hR'⟩
  exact ⟨_, F', ρ', hK, hd', hR'.keep lv⟩
theorem opsW_cons {o : SOp} {rest : List SOp} {K : St → Prop} {σ τ : St} (hl : St.le T σ τ) (h : ∀ R : St → Prop, (∀ σ', opsW P T rest K σ' → R σ') → guardA o τ (opG P T o R τ)) : opsW P T (o :: rest) K σ := ⟨τ, hl, h _ fun _ x => x⟩
theorem opsW_nil {K : St → Prop} {σ : St} (h : K σ) : opsW P T [] K σ := h
end Go.Eng
/- How many bytes an argument's slice takes. -/
namespace Go.Eng
set_option linter.unusedSimpArgs false
set_option linter.unusedVariables false
open Go.RowKit

variable {P : Program} {T : Tab} {w : World} {H : Type} {enc : TypeId × Value → H} {spare : Nat → Bool} {held : Bool}

theorem slice_sized (hP : TabOk P T) {t e : TypeId} {r : Reach} {b0 : Nat} {v : Value} {d : DataW H} {p : List MemPlace} {F : Nat → Prop} (ht : T.ty t = .slice e) (hval : Value.okWide P w r b0 t v)
    (h : DataW.Trod enc P w 0 spare held t v d p) {l : List V} (hf : Fits T w F t (.list l) v.cells.toList) {ts : List TypeId} {ds : List (DataW H)} {j : Nat} (hz : (DataW.weightsEach P ts ds).all (· ≤ reachBytes) = true) (hj : ts[j]? = some t) (hd : ds[j]? = some d) : l.length * T.by_ e ≤ 140737488355328 := by
  obtain ⟨hu, hno⟩ := hP.slice _ _ ht
  obtain ⟨i, i1, _, i3, _⟩ := hP.info _ hno
  have hby : P.bytesOf e = T.by_ e := by unfold Program.bytesOf; rw [i1]; exact i3
  obtain ⟨a, len, cap, rfl⟩ := Go.WideShapes.okWide_slice hu hval
  obtain ⟨fuel, h⟩ := h
  rcases Go.Deep.open_slice hu h with ⟨hcs, _⟩ | ⟨ad, l', c, m, n, D, Pl, hcs, _, hl, hm, hmm, hx, _⟩
  · simp [Value.cells] at hcs
    obtain ⟨rfl, rfl, rfl⟩ := hcs
    rcases hf.inv' ht with ⟨h, _⟩ | ⟨b, off, n, cap, l', ds, h, hc, _⟩
    · cases h; simp
    · simp [Value.cells] at hc
  · simp [Value.cells] at hcs
    obtain ⟨rfl, rfl, rfl⟩ := hcs
    cases hx
    have hb := sized_slice hz hj hd hu
    rw [hby] at hb
    simp only [List.length_map, List.length_range] at hb
    have hle : len * T.by_ e ≤ reachBytes := Nat.le_trans (Nat.mul_le_mul_right _ (Nat.le_add_right _ _)) hb
    have h47 := reachBytes_lt
    rcases hf.inv' ht with ⟨h, _⟩ | ⟨b, off, n, cap, l'', ds, h, hc, h3, h4⟩
    · cases h; simp
    · cases h
      simp [Value.cells] at hc
      obtain ⟨_, rfl, _⟩ := hc
      have : l.length = len := by
        have h5 := h4
        simp_all
      rw [this]; omega
end Go.Eng
/- Goals that tell where a walk stands, so that one repeated step can take the whole walk. -/
namespace Go.Eng
set_option linter.unusedSimpArgs false
set_option linter.unusedVariables false
open Go.RowKit

variable {P : Program} {T : Tab} {w w' : World} {w0 : Base T} {F F' : Nat → Prop} {ρ ρ' : Nat → RI} {σ σ' : St} {a : Act} {outs : List (Array Value)} {ops : Array Oper}

def lvOf (L : List (Nat × List Nat)) (id : Nat) : List Nat := (L.lookup id).getD []

/-- Operation j of region id, in text order; ph tells whether a hint is still to come. -/
def SARA (P : Program) (T : Tab) (ph : Bool) (id j : Nat) (l : List SOp) (K : St → Prop) (σ : St) : Prop := opsA P T l K σ
/-- Operation j of a drawn region of quiet operations. -/
def SARQ (P : Program) (T : Tab) (ph : Bool) (id j : Nat) (l : List SOp) (K : St → Prop) (σ : St) : Prop := opsQ P T l K σ

theorem SARA.at {ph : Bool} (id j : Nat) {l : List SOp} {K : St → Prop} (h : SARA P T ph id j l K σ) : SARA P T ph id j l K σ := h
theorem SARQ.at {ph : Bool} (id j : Nat) {l : List SOp} {K : St → Prop} (h : SARQ P T ph id j l K σ) : SARQ P T ph id j l K σ := h
theorem SARA.told (id j : Nat) {l : List SOp} {K : St → Prop} (h : SARA P T false id j l K σ) : SARA P T true id j l K σ := h
theorem SARQ.told (id j : Nat) {l : List SOp} {K : St → Prop} (h : SARQ P T false id j l K σ) : SARQ P T true id j l K σ := h
theorem SARA.do {ph : Bool} {id j : Nat} {o : SOp} {rest : List SOp} {K : St → Prop} (h : ∀ R : St → Prop, (∀ σ', SARA P T true id (j + 1) rest K σ' → R σ') → guardA o σ (opG P T o R σ)) : SARA P T ph id j (o :: rest) K σ := h _ fun _ x => x
theorem SARQ.do {ph : Bool} {id j : Nat} {o : SOp} {rest : List SOp} {K : St → Prop} (h : ∀ R : St → Prop, (∀ σ', SARQ P T true id (j + 1) rest K σ' → R σ') → guardA o σ (opQ P T o R σ)) : SARQ P T ph id j (o :: rest) K σ := h _ fun _ x => x
theorem SARA.nil {ph : Bool} {id j : Nat} {K : St → Prop} (h : K σ) : SARA P T ph id j [] K σ := h
theorem SARQ.nil {ph : Bool} {id j : Nat} {K : St → Prop} (h : K σ) : SARQ P T ph id j [] K σ := h
theorem SARA.nilAt {ph : Bool} (id : Nat) {j : Nat} {K : St → Prop} (h : K σ) : SARA P T ph id j [] K σ := h
theorem SARQ.nilAt {ph : Bool} (id : Nat) {j : Nat} {K : St → Prop} (h : K σ) : SARQ P T ph id j [] K σ := h

theorem SA.at (id : Nat) {ops : Array Oper} {d : Bool} {K : Exit → St → Prop} (h : SA P T (.region id ops d) K σ) : SA P T (.region id ops d) K σ := h

theorem SA.regionN {id : Nat} {ops : Array Oper} (hP : TabOk P T) (hg : guardsOk ops = true) (L : List (Nat × List Nat)) {K : Exit → St → Prop} (h : ∀ R : St → Prop, (∀ σ', K .normal (σ'.keep (lvOf L id)) → R σ') → SARA P T true id 0 (ops.toList.map (strip ops)) R σ) : SA P T (.region id ops false) K σ := SA.region hP hg _ h
theorem SA.regionD {id : Nat} {ops : Array Oper} (hP : TabOk P T) (hm : P.follows .mixedOrders = true) (hB : Region.lexB .any ops = true) (hg : guardsOk ops = true) (L : List (Nat × List Nat)) {K : Exit → St → Prop}
    (h : ∀ R : St → Prop, (∀ σ', K .normal (σ'.keep (lvOf L id)) → R σ') → SARQ P T true id 0 (ops.toList.map (strip ops)) R σ) : SA P T (.region id ops true) K σ := SA.regionQ hP hm hB hg _ h
theorem SA.condAt (t : Nat) {b : Bool} {x y : Code} {K : Exit → St → Prop} (hb : σ.tm.lookup t = some (true, .bool b)) (ht : b = true → SA P T x K σ) (hf : b = false → SA P T y K σ) : SA P T (.cond (.tmp t) x y) K σ := SA.cond hb ht hf
theorem loopK.round {I : Nat → St → Prop} {n : Nat} {K : Exit → St → Prop} (h : loopK T I n K .normal σ) : loopK T I n K .normal σ := h
theorem SA.atLoop {c : Code} {K : Exit → St → Prop} (h : SA P T (.loop c) K σ) : SA P T (.loop c) K σ := h
end Go.Eng
/- Arguments that lead into more memory: structs with slices, slices of such structs. -/
namespace Go.Eng
set_option linter.unusedSimpArgs false
set_option linter.unusedVariables false
open Go.RowKit

variable {H : Type} {enc : TypeId × Value → H} {P : Program} {T : Tab} {w : World} {base : Nat} {spare : Nat → Bool} {held : Bool}

mutual
def deepTy (T : Tab) : Nat → TypeId → Bool
  | 0, _ => false
  | d + 1, t => match T.ty t with
    | .int _ => true
    | .bool => true
    | .str => true
    | .struct ts => deepTys T d ts
    | .arr _ e => deepTy T d e
    | .slice e => deepTy T d e
    | _ => false
def deepTys (T : Tab) : Nat → List TypeId → Bool
  | 0, _ => false
  | _ + 1, [] => true
  | d + 1, t :: ts => deepTy T d t && deepTys T d ts
end

theorem deepTys_nth : ∀ {d : Nat} {ts : List TypeId} {k : Nat} {t : TypeId}, deepTys T d ts = true → ts[k]? = some t → ∃ d', d' < d ∧ deepTy T d' t = true
  | 0, _, _, _, h, _ => by simp [deepTys] at h
  | d + 1, [], k, t, _, hk => by simp at hk
  | d + 1, u :: ts, 0, t, h, hk => by
    simp at hk; subst hk
    simp [deepTys] at h
    exact ⟨d, by omega, h.1⟩
  | d + 1, u :: ts, k + 1, t, h, hk => by
    simp [deepTys] at h
    obtain ⟨d', h1, h2⟩ := deepTys_nth h.2 (by simpa using hk)
    exact ⟨d', by omega, h2⟩

theorem deep_notOther {d : Nat} {t : TypeId} (h : deepTy T d t = true) : T.ty t ≠ .other := by
  intro h0
  cases d with
  | zero => simp [deepTy] at h
  | succ d => simp [deepTy, h0] at h

/-- No list in it is longer than a slice may be. -/
inductive V.Lens : V → Prop
  | int (n : Int) : Lens (.int n)
  | bool (b : Bool) : Lens (.bool b)
  | str (s : ByteArray) : Lens (.str s)
  | agg (l : List V) : (∀ v ∈ l, Lens v) → Lens (.agg l)
  | list (l : List V) : l.length ≤ maxLen → (∀ v ∈ l, Lens v) → Lens (.list l)

theorem V.Lens.of_agg {l : List V} (h : V.Lens (.agg l)) : ∀ v ∈ l, V.Lens v := by cases h; assumption
theorem V.Lens.of_list {l : List V} (h : V.Lens (.list l)) : l.length ≤ maxLen ∧ ∀ v ∈ l, V.Lens v := by cases h; exact ⟨by assumption, by assumption⟩
theorem all_of_getD {p : V → Prop} {l : List V} (h : ∀ i, i < l.length → p (l.getD i default)) : ∀ v ∈ l, p v := by
  intro v hv
  obtain ⟨i, hi, rfl⟩ := List.mem_iff_getElem.1 hv
  simpa [List.getD_eq_getElem?_getD, hi] using h i hi

/-- Elements one behind the other in memory. -/
theorem row_seg {F : Nat → Prop} {e : TypeId} {b off len : Nat} (hse : True) (hex : ∀ i, i < len → ∃ c : List Value, c.length = T.sz e ∧ (∀ j, j < T.sz e → w.cell? ⟨b, off + (i * T.sz e + j), none⟩ = c[j]?) ∧ ∃ v, Fits T w F e v c ∧ V.Lens v) :
    ∃ (vl : List V) (cs : List Value), vl.length = len ∧ (∀ v ∈ vl, V.Lens v) ∧ Seg w b off cs ∧ FitsL T w F (List.replicate len e) vl cs := by
  obtain ⟨cl, hcl, hcl'⟩ := pick_all (α := List Value) hex
  obtain ⟨vl, hvl, hvl'⟩ := pick_all (α := V) (p := fun i v => Fits T w F e v (cl.getD i default) ∧ V.Lens v) fun i hi => (hcl' i hi).2.2
  have key : ∀ (vl : List V) (cl : List (List Value)) (off : Nat), vl.length = cl.length → (∀ i, i < cl.length → (cl.getD i default).length = T.sz e ∧ (∀ j, j < T.sz e → w.cell? ⟨b, off + (i * T.sz e + j), none⟩ = (cl.getD i default)[j]?)) →
      (∀ i, i < cl.length → Fits T w F e (vl.getD i default) (cl.getD i default)) → Seg w b off cl.flatten ∧ FitsL T w F (List.replicate cl.length e) vl cl.flatten := by
    intro vl cl
    induction cl generalizing vl with
    | nil =>
      intro off hl _ _
      have : vl = [] := by simpa using hl
      subst this
      exact ⟨fun j x hj => by simp at hj, .nil⟩
    | cons c cl ihc =>
      intro off hl h1 h2
      cases vl with
      | nil => simp at hl
      | cons v vl =>
        have c0 := h1 0 (by simp)
        simp only [List.getD_cons_zero, Nat.zero_mul, Nat.zero_add] at c0
        have := ihc vl (off + T.sz e) (by simpa using hl) (fun i hi => by
          have := h1 (i + 1) (by simpa using hi)
          simp only [List.getD_cons_succ] at this
          refine ⟨this.1, fun j hj => ?_⟩
          rw [← this.2 j hj, Nat.add_mul, Nat.one_mul]
          congr 2
          omega) (fun i hi => by
          have := h2 (i + 1) (by simpa using hi)
          simpa only [List.getD_cons_succ] using this)
        refine ⟨?_, ?_⟩
        · intro j x hj
          rw [List.flatten_cons] at hj
          by_cases hjs : j < T.sz e
          · rw [List.getElem?_append_left (by omega)] at hj
            rw [c0.2 j hjs]; exact hj
          · rw [List.getElem?_append_right (by omega), c0.1] at hj
            have := this.1 _ _ hj
            rw [← this]
            congr 2
            omega
        · rw [List.length_cons, List.replicate_succ, List.flatten_cons]
          have h0 := h2 0 (by simp)
          simp only [List.getD_cons_zero] at h0
          exact .cons h0 this.2
  obtain ⟨k1, k2⟩ := key vl cl off (by omega) (fun i hi => ⟨(hcl' i (by omega)).1, (hcl' i (by omega)).2.1⟩) (fun i hi => (hvl' i (by omega)).1)
  rw [hcl] at k2
  exact ⟨vl, _, hvl, all_of_getD fun i hi => (hvl' i (by omega)).2, k1, k2⟩

/-- Data, as it is read. -/
theorem deep_trod (hP : TabOk P T) : ∀ (d : Nat) {t : TypeId} {cs : List Value} {fuel : Nat} {x : DataW H × List MemPlace}, deepTy T d t = true → DataW.trod enc P w base spare held fuel t cs = some x → ∃ v, Fits T w (fun b => b < w.heap.size) t v cs ∧ V.Lens v := by
  intro d
  induction d using Nat.strongRecOn with
  | _ d ih =>
    intro t cs fuel x hf h
    cases d with
    | zero => simp [deepTy] at hf
    | succ d =>
      have hno := deep_notOther hf
      have hc := cellsOf_sz hP hno
      unfold deepTy at hf
      split at hf
      · rename_i k hk
        obtain ⟨n, rfl, _, hw⟩ := DataW.trod_int (hP.int _ _ hk) h
        exact ⟨_, .int hk (by simpa [Lit.wf, IntKind.has] using hw), .int _⟩
      · rename_i hk
        obtain ⟨b, rfl, _⟩ := DataW.trod_bool (hP.bool _ hk) h
        exact ⟨_, .bool hk, .bool _⟩
      · rename_i hk
        obtain ⟨s, rfl, _⟩ := DataW.trod_string (hP.str _ hk) h
        exact ⟨_, .str hk, .str _⟩
      · rename_i ts hk
        obtain ⟨fs, f1, f2, _, f3⟩ := hP.struct _ _ hk
        obtain ⟨xs, n, rfl, _, hl, hxl, hx⟩ := DataW.trod_struct f1 h
        have hfl : fs.size = ts.length := by rw [← f2]; simp
        have hex : ∀ i, i < ts.length → ∃ v, (∀ u, ts[i]? = some u → Fits T w (fun b => b < w.heap.size) u v ((cs.drop (T.offs ts i)).take (T.sz u))) ∧ V.Lens v := by
          intro i hi
          obtain ⟨f, hfi⟩ : ∃ f, fs[i]? = some f := ⟨_, Array.getElem?_eq_getElem (by omega)⟩
          have hti : ts[i]? = some f.type := by
            have : (fs.toList.map (·.type))[i]? = some f.type := by simp [hfi]
            rwa [f2] at this
          obtain ⟨g1, g2, _, g4⟩ := f3 i _ hfi
          have hxi := hx i _ hfi
          rw [List.getElem?_eq_getElem (by omega), g1, cellsOf_sz hP g4] at hxi
          obtain ⟨d', hd', hf'⟩ := deepTys_nth hf hti
          obtain ⟨v, hv⟩ := ih d' (by omega) hf' hxi
          exact ⟨v, fun u hu => by rw [hti] at hu; cases hu; exact hv.1, hv.2⟩
        obtain ⟨l, hll, hl'⟩ := pick_all hex
        refine ⟨.agg l, .struct hk (FitsL.ofNth hll ?_ fun k u hu => (hl' k (List.getElem?_eq_some_iff.1 hu).1).1 u hu), .agg _ (all_of_getD fun i hi => (hl' i (by omega)).2)⟩
        rw [hl, hc, hP.sized.struct _ _ hk]
      · rename_i n e hk
        obtain ⟨g1, _, _, g4⟩ := hP.arr _ _ _ hk
        obtain ⟨xs, m, rfl, _, hl, hxl, hx⟩ := DataW.trod_array g1 h
        have hex : ∀ i, i < n → ∃ v, Fits T w (fun b => b < w.heap.size) e v ((cs.drop (i * T.sz e)).take (T.sz e)) ∧ V.Lens v := by
          intro i hi
          have hxi := hx i hi
          rw [List.getElem?_eq_getElem (by omega), cellsOf_sz hP g4] at hxi
          exact ih d (by omega) hf hxi
        obtain ⟨l, hll, hl'⟩ := pick_all hex
        refine ⟨.agg l, .arr hk (FitsL.ofNth (by simp [hll]) ?_ fun k u hu => ?_), .agg _ (all_of_getD fun i hi => (hl' i (by omega)).2)⟩
        · rw [hl, hc, hP.sized.arr _ _ _ hk]
        · rw [List.getElem?_replicate] at hu
          split at hu; rotate_left; · cases hu
          rename_i hkn
          cases hu
          rw [offs_replicate T n k _ (by omega)]
          exact (hl' k hkn).1
      · rename_i e hk
        obtain ⟨hu, hno'⟩ := hP.slice _ _ hk
        have hse := (hP.sized.slice _ _ hk).2
        have hce := cellsOf_sz hP hno'
        rcases Go.Deep.open_slice hu h with ⟨rfl, _⟩ | ⟨ad, len, cap, m, n, D, Pl, rfl, _, hl, hm, hmm, _, hx⟩
        · exact ⟨.list [], .nil hk, .list _ (by simp) (by simp)⟩
        · by_cases h0 : len = 0
          · subst h0; exact ⟨.list [], .empty hk, .list _ (by simp) (by simp)⟩
          · have hlm : len ≤ m := by rw [hmm]; split <;> omega
            have hpos : 0 < T.sz e := by first | exact hse | omega
            have hok : ad.spot = none ∧ ad.block < w.heap.size := by
              obtain ⟨cs', h1, _⟩ := hx 0 (by omega)
              rw [hce] at h1
              obtain ⟨_, q2, q3⟩ := World.cells?_some h1
              have q := q3 0 hpos
              have hadd : ∀ a : Addr, a.add 0 = a := fun a => by simp [Addr.add]
              rw [Nat.zero_mul, hadd, hadd, List.getElem?_eq_getElem (by omega)] at q
              refine ⟨spot_of_cell q, ?_⟩
              unfold World.cell? at q
              split at q
              · rename_i hb
                exact (Array.getElem?_eq_some_iff.1 hb).1
              · cases q
            obtain ⟨b, off, sp⟩ := ad
            obtain ⟨hsp, hb⟩ := hok
            simp only at hb hsp
            subst hsp
            have hex : ∀ i, i < len → ∃ c : List Value, c.length = T.sz e ∧ (∀ j, j < T.sz e → w.cell? ⟨b, off + (i * T.sz e + j), none⟩ = c[j]?) ∧ ∃ v, Fits T w (fun b => b < w.heap.size) e v c ∧ V.Lens v := by
              intro i hi
              obtain ⟨cs', h1, h2⟩ := hx i (by omega)
              rw [hce] at h1
              obtain ⟨_, q2, q3⟩ := World.cells?_some h1
              obtain ⟨v, hv⟩ := ih d (by omega) hf h2
              refine ⟨cs', q2, fun j hj => ?_, v, hv⟩
              rw [← q3 j hj, addr_add, addr_add, Nat.add_assoc]
            obtain ⟨vl, cs, hvl, hlens, k1, k2⟩ := row_seg trivial hex
            exact ⟨.list vl, .slice hk hb k1 hvl k2 hl, .list _ (by omega) hlens⟩
      · simp at hf

/-- An argument of any kind that is data. -/
theorem deep_arg (hP : TabOk P T) {t : TypeId} {r : Reach} {b0 : Nat} {v : Value} {d : DataW H} {p : List MemPlace} (hf : deepTy T 60 t = true) (hval : Value.okWide P w r b0 t v)
    (h : DataW.Trod enc P w 0 spare held t v d p) : ∃ x, Fits T w (fun b => b < w.heap.size) t x v.cells.toList ∧ ValOf T t v v.cells.toList ∧ V.Lens x := by
  obtain ⟨fuel, h⟩ := h
  obtain ⟨x, hx, hlx⟩ := deep_trod hP 60 hf h
  refine ⟨x, hx, ?_, hlx⟩
  unfold ValOf
  have hf' := hf
  unfold deepTy at hf'
  unfold Value.okWide at hval
  split at hf'
  · rename_i k hk
    rw [hP.int _ _ hk] at hval
    obtain ⟨n, hv, _, _⟩ := DataW.trod_int (hP.int _ _ hk) h
    simp only [Cell.okWide, hP.int _ _ hk] at hval
    cases v <;> simp_all [Cell.ok, Value.cells, TyD.isAgg]
  · rename_i hk
    simp only [Cell.okWide, hP.bool _ hk] at hval
    cases v <;> simp_all [Cell.ok, hP.bool _ hk, Value.cells, TyD.isAgg]
  · rename_i hk
    simp only [Cell.okWide, hP.str _ hk] at hval
    cases v <;> simp_all [Cell.ok, hP.str _ hk, Value.cells, TyD.isAgg]
  · rename_i ts hk
    obtain ⟨fs, f1, _⟩ := hP.struct _ _ hk
    rw [f1] at hval
    obtain ⟨cs, rfl, _⟩ := hval
    simp [hk, TyD.isAgg, Value.cells]
  · rename_i n e hk
    obtain ⟨f1, _⟩ := hP.arr _ _ _ hk
    rw [f1] at hval
    obtain ⟨cs, rfl, _⟩ := hval
    simp [hk, TyD.isAgg, Value.cells]
  · rename_i e hk
    obtain ⟨hu, _⟩ := hP.slice _ _ hk
    obtain ⟨a, len, cap, rfl⟩ := Go.WideShapes.okWide_slice hu (by unfold Value.okWide; exact hval)
    simp [hk, TyD.isAgg, Value.cells]
  · simp at hf'

end Go.Eng
/- Regions in text order with weakening, marked; what a guarded operation left unsaid may be said to be anything. -/
namespace Go.Eng
set_option linter.unusedSimpArgs false
set_option linter.unusedVariables false
open Go.RowKit

variable {P : Program} {T : Tab} {w w' : World} {w0 : Base T} {F F' : Nat → Prop} {ρ ρ' : Nat → RI} {σ σ' τ : St} {a : Act} {outs : List (Array Value)} {ops : Array Oper}

def SARW (P : Program) (T : Tab) (ph : Bool) (id j : Nat) (l : List SOp) (K : St → Prop) (σ : St) : Prop := opsW P T l K σ
theorem SARW.told (id j : Nat) {l : List SOp} {K : St → Prop} (h : SARW P T false id j l K σ) : SARW P T true id j l K σ := h
theorem SARW.at {ph : Bool} (id j : Nat) {l : List SOp} {K : St → Prop} (h : SARW P T ph id j l K σ) : SARW P T ph id j l K σ := h
theorem SARW.do {ph : Bool} {id j : Nat} {o : SOp} {rest : List SOp} {K : St → Prop} (h : ∀ R : St → Prop, (∀ σ', SARW P T true id (j + 1) rest K σ' → R σ') → guardA o σ (opG P T o R σ)) : SARW P T ph id j (o :: rest) K σ := opsW_cons St.le.refl h
theorem SARW.nil {ph : Bool} {id j : Nat} {K : St → Prop} (h : K σ) : SARW P T ph id j [] K σ := h
theorem SARW.nilAt {ph : Bool} (id : Nat) {j : Nat} {K : St → Prop} (h : K σ) : SARW P T ph id j [] K σ := h
theorem SARW.weak {ph : Bool} {id j : Nat} {o : SOp} {rest : List SOp} {K : St → Prop} (hl : St.le T σ τ) (h : SARW P T ph id j (o :: rest) K τ) : SARW P T ph id j (o :: rest) K σ := by
  obtain ⟨τ', l, g⟩ := h
  exact ⟨τ', hl.trans l, g⟩
theorem SA.regionWN {id : Nat} {ops : Array Oper} (hP : TabOk P T) (hg : guardsOk ops = true) (L : List (Nat × List Nat)) {K : Exit → St → Prop} (h : ∀ R : St → Prop, (∀ σ', K .normal (σ'.keep (lvOf L id)) → R σ') → SARW P T true id 0 (ops.toList.map (strip ops)) R σ) : SA P T (.region id ops false) K σ := SA.regionW hP hg _ h

theorem St.le.unsaid (t : Nat) (e' : E) {e : E} (hl : σ.tm.lookup t = some (false, e)) : St.le T σ { σ with tm := (t, false, e') :: σ.tm } := by
  intro w F ρ w0 tmps outs h
  refine ⟨F, ρ, ?_, h.out, h.ob, h.free, h.inj, h.fsub, h.below, h.size, h.fold⟩
  intro s g e'' he
  simp only [List.lookup_cons] at he
  by_cases hst : s = t
  · subst hst
    simp at he
    obtain ⟨rfl, rfl⟩ := he
    obtain ⟨v, h1, _, h2⟩ := h.tm _ _ _ hl
    exact ⟨v, h1, by simp, h2⟩
  · have : (s == t) = false := by simpa using hst
    rw [this] at he
    exact h.tm s g e'' he
end Go.Eng
/- Drawn regions by a plan: which operation is taken when, checked once, so that the walk's repeated step can take them. -/
namespace Go.Eng
set_option linter.unusedSimpArgs false
set_option linter.unusedVariables false
open Go.RowKit
set_option linter.unusedVariables false

variable {P : Program} {T : Tab} {w w' : World} {w0 : Base T} {F F' : Nat → Prop} {ρ ρ' : Nat → RI} {σ σ' τ : St} {a : Act} {outs : List (Array Value)} {ops : Array Oper} {keeps : Nat → Bool}

/-- What is taken next, or which ones may come up, each with what is next. -/
inductive Plan where
  | done
  | take (i : Nat) (n : Plan)
  | nil
  | br (i : Nat) (n r : Plan)

def Plan.heads : Plan → List Nat
  | .br i _ r => i :: r.heads
  | _ => []

def planOk (ops : Array Oper) (keeps : Nat → Bool) : Bool → Plan → Nat → Array Bool → Bool
  | true, .done, _, L => (Region.ready .any ops L).isEmpty
  | true, .take i n, f + 1, L => freeB ops keeps L i && (Region.ready .any ops L).contains i && planOk ops keeps true n f (L.setIfInBounds i true)
  | true, .br i n r, f + 1, L => (Region.ready .any ops L == i :: r.heads) && planOk ops keeps true n f (L.setIfInBounds i true) && planOk ops keeps false r f L
  | false, .nil, _, _ => true
  | false, .br i n r, f, L => planOk ops keeps true n f (L.setIfInBounds i true) && planOk ops keeps false r f L
  | _, _, _, _ => false

/-- What the plan owes. -/
def PlanA (P : Program) (T : Tab) (so : List SOp) (keeps : Nat → Bool) (K : St → Prop) : Plan → St → Prop
  | .done, σ => K σ
  | .take i n, σ => ∃ o, so[i]? = some o ∧ ∀ R : St → Prop, (∀ σ', (∃ τ, St.le T σ' τ ∧ PlanA P T so keeps K n τ) → R σ') → guardA o σ fun g => pureA T σ g o.op (putK σ o.dst g R)
  | .nil, _ => True
  | .br i n r, σ => (∃ o, so[i]? = some o ∧ ∀ R : St → Prop, (∀ σ', (∃ τ, St.le T σ' τ ∧ PlanA P T so keeps K n τ) → R σ') → guardA o σ (if keeps i then opB P T o R σ else opG P T o R σ)) ∧ PlanA P T so keeps K r σ

theorem plan_sound (hP : TabOk P T) (hg : guardsOk ops = true) (hs : Region.noSelect ops = true) {K : St → Prop} : ∀ (pl : Plan) (f : Nat) (L : Array Bool) (σ : St), PlanA P T (ops.toList.map (strip ops)) keeps K pl σ →
    (planOk ops keeps true pl f L = true → AnyA P T ops keeps K f L σ) ∧ (planOk ops keeps false pl f L = true → Branches P T ops keeps K f L σ pl.heads)
  | .done, f, L, σ, h => by
    refine ⟨fun hk => AnyA.done ?_ h, fun hk => ?_⟩
    · simpa [planOk] using hk
    · simp [planOk] at hk
  | .take i n, f, L, σ, ⟨o, ho, h⟩ => by
    have hso : (ops[i]?).map (strip ops) = some o := by simpa using ho
    refine ⟨fun hk => ?_, fun hk => ?_⟩
    · cases f with
      | zero => simp [planOk] at hk
      | succ f =>
        simp only [planOk, Bool.and_eq_true] at hk
        exact AnyA.take hP i o hso hg hs hk.1.1 hk.1.2 _ rfl fun R hR => h R fun σ' ⟨τ, hl, hp⟩ => hR σ' (AnyA.weaken hl ((plan_sound hP hg hs n f _ τ hp).1 hk.2))
    · cases f <;> simp [planOk] at hk
  | .nil, f, L, σ, h => by
    refine ⟨fun hk => ?_, fun _ => Branches.nil⟩
    cases f <;> simp [planOk] at hk
  | .br i n r, f, L, σ, ⟨⟨o, ho, h⟩, hr⟩ => by
    have hso : (ops[i]?).map (strip ops) = some o := by simpa using ho
    have one : ∀ f, planOk ops keeps true n f (L.setIfInBounds i true) = true → planOk ops keeps false r f L = true → Branches P T ops keeps K f L σ (i :: r.heads) := by
      intro f h1 h2
      cases hk : keeps i with
      | true =>
        simp only [hk, if_true] at h
        exact Branches.keep o hso hk _ rfl (fun R hR => h R fun σ' ⟨τ, hl, hp⟩ => hR σ' (AnyA.weaken hl ((plan_sound hP hg hs n f _ τ hp).1 h1))) ((plan_sound hP hg hs r f L σ hr).2 h2)
      | false =>
        simp only [hk, Bool.false_eq_true, if_false] at h
        exact Branches.any o hso hk _ rfl (fun R hR => h R fun σ' ⟨τ, hl, hp⟩ => hR σ' (AnyA.weaken hl ((plan_sound hP hg hs n f _ τ hp).1 h1))) ((plan_sound hP hg hs r f L σ hr).2 h2)
    refine ⟨fun hk => ?_, fun hk => ?_⟩
    · cases f with
      | zero => simp [planOk] at hk
      | succ f =>
        simp only [planOk, Bool.and_eq_true, beq_iff_eq] at hk
        exact AnyA.all hP hg hk.1.1 rfl (one f hk.1.2 hk.2)
    · simp only [planOk, Bool.and_eq_true] at hk
      exact one f hk.1 hk.2

/-- A place in a plan: behind operation last of region id; ph tells whether a hint is still to come. -/
def SART (P : Program) (T : Tab) (ph : Bool) (id last : Nat) (so : List SOp) (wr : List Nat) (K : St → Prop) (pl : Plan) (σ : St) : Prop := ∃ τ, St.le T σ τ ∧ PlanA P T so (but wr) K pl τ
def SARB (P : Program) (T : Tab) (id : Nat) (so : List SOp) (wr : List Nat) (K : St → Prop) (i : Nat) (n : Plan) (σ : St) : Prop :=
  ∃ o, so[i]? = some o ∧ ∀ R : St → Prop, (∀ σ', (∃ τ, St.le T σ' τ ∧ PlanA P T so (but wr) K n τ) → R σ') → guardA o σ (if but wr i then opB P T o R σ else opG P T o R σ)
variable {ph : Bool} {id last : Nat} {so : List SOp} {wr : List Nat} {K : St → Prop} {o : SOp} {i : Nat} {n r pl : Plan}
theorem SART.told (id last : Nat) (h : SART P T false id last so wr K pl σ) : SART P T true id last so wr K pl σ := h
theorem SART.at (id last : Nat) (h : SART P T ph id last so wr K pl σ) : SART P T ph id last so wr K pl σ := h
theorem SART.weaken (hl : St.le T σ τ) (h : SART P T ph id last so wr K pl τ) : SART P T ph id last so wr K pl σ := let ⟨τ', l, h⟩ := h; ⟨τ', hl.trans l, h⟩
theorem SART.do (h : ∀ R : St → Prop, (∀ σ', SART P T true id i so wr K n σ' → R σ') → guardA o σ fun g => pureA T σ g o.op (putK σ o.dst g R)) (ho : so[i]? = some o := by with_unfolding_all rfl) : SART P T ph id last so wr K (.take i n) σ := ⟨σ, .refl, o, ho, h⟩
theorem SART.nil : SART P T ph id last so wr K .nil σ := ⟨σ, .refl, trivial⟩
theorem SART.done (h : K σ) : SART P T ph id last so wr K .done σ := ⟨σ, .refl, h⟩
theorem SART.doneAt (id : Nat) (h : K σ) : SART P T ph id last so wr K .done σ := ⟨σ, .refl, h⟩
def SARL (P : Program) (T : Tab) (id : Nat) (so : List SOp) (wr : List Nat) (K : St → Prop) (pl : Plan) (σ : St) : Prop := PlanA P T so (but wr) K pl σ
theorem SART.br (h1 : SARB P T id so wr K i n σ) (h2 : SARL P T id so wr K r σ) : SART P T ph id last so wr K (.br i n r) σ := ⟨σ, .refl, h1, h2⟩
theorem SARL.cons (h1 : SARB P T id so wr K i n σ) (h2 : SARL P T id so wr K r σ) : SARL P T id so wr K (.br i n r) σ := ⟨h1, h2⟩
theorem SARL.nil : SARL P T id so wr K .nil σ := trivial
theorem SARB.keep (h : ∀ R : St → Prop, (∀ σ', SART P T true id i so wr K n σ' → R σ') → guardA o σ (opB P T o R σ)) (ho : so[i]? = some o := by with_unfolding_all rfl) (hk : but wr i = true := by with_unfolding_all rfl) : SARB P T id so wr K i n σ :=
  ⟨o, ho, by simp only [hk, if_true]; exact h⟩
theorem SARB.any (h : ∀ R : St → Prop, (∀ σ', SART P T true id i so wr K n σ' → R σ') → guardA o σ (opG P T o R σ)) (ho : so[i]? = some o := by with_unfolding_all rfl) (hk : but wr i = false := by with_unfolding_all rfl) : SARB P T id so wr K i n σ :=
  ⟨o, ho, by simp only [hk, Bool.false_eq_true, if_false]; exact h⟩

theorem SA.regionT {ops : Array Oper} (hP : TabOk P T) (hm : P.follows .mixedOrders = true) (pl : Plan) (wr : List Nat) (L : List (Nat × List Nat)) (hg : (guardsOk ops && Region.noSelect ops && planOk ops (but wr) true pl ops.size (Array.replicate ops.size false)) = true) {K : Exit → St → Prop}
    (h : ∀ R : St → Prop, (∀ σ', K .normal (σ'.keep (lvOf L id)) → R σ') → SART P T true id ops.size (ops.toList.map (strip ops)) wr R pl σ) : SA P T (.region id ops true) K σ := by
  simp only [Bool.and_eq_true] at hg
  refine SA.regionAny hm ops.size rfl _ rfl wr (lvOf L id) fun R hR => ?_
  obtain ⟨τ, hl, hp⟩ := h R hR
  exact AnyA.weaken hl ((plan_sound hP hg.1.1 hg.1.2 pl _ _ τ hp).1 hg.2)
theorem SA.regionTP {ops : Array Oper} (hP : TabOk P T) (hm : P.follows .mixedOrders = true) (pl : Plan) (wr : List Nat) (L : List (Nat × List Nat)) (hg : (guardsOk ops && Region.noSelect ops && planOk ops (but wr) true pl ops.size (Array.replicate ops.size false)) = true) {K : Exit → St → Prop} (τ : St)
    (h : ∀ R : St → Prop, (∀ σ', St.le T (σ'.keep (lvOf L id)) τ → R σ') → SART P T true id ops.size (ops.toList.map (strip ops)) wr R pl σ) (hK : K .normal τ) : SA P T (.region id ops true) K σ := by
  simp only [Bool.and_eq_true] at hg
  refine SA.regionAnyPost hm ops.size rfl _ rfl wr (lvOf L id) τ (fun R hR => ?_) hK
  obtain ⟨τ', hl, hp⟩ := h R hR
  exact AnyA.weaken hl ((plan_sound hP hg.1.1 hg.1.2 pl _ _ τ' hp).1 hg.2)
end Go.Eng
