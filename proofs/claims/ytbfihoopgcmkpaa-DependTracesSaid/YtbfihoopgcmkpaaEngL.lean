/- All operations that make or write memory, together. -/
import Derived.Test.YtbfihoopgcmkpaaEngK
import Derived.Great.BuildSlice
import Derived.Great.FillDense
import Derived.Laws.MakeOwn
namespace Go.Eng
set_option linter.unusedSimpArgs false
set_option linter.unusedVariables false
open Go.RowKit

variable {P : Program} {T : Tab} {w w' : World} {w0 : Base} {F F' : Nat → Prop} {ρ ρ' : Nat → RI} {σ : St} {a : Act} {outs : List (Array Value)}

theorem zip_parts (f : Operand → Value) : ∀ (ps : List (Nat × Operand)) (k : Nat), ps.map (·.1) = List.range' k ps.length → ps.map (fun (i, x) => (i, f x)) = ((ps.map fun p => f p.2).zipIdx k).map fun x => (x.2, x.1)
  | [], _, _ => rfl
  | (i, x) :: ps, k, h => by
    simp only [List.map_cons, List.length_cons, List.range'_succ, List.cons.injEq] at h
    obtain ⟨rfl, h⟩ := h
    simp only [List.map_cons, List.zipIdx_cons]
    rw [zip_parts f ps (i + 1) h]

theorem buildSlice_sound (hP : TabOk P T) (hR : Rel T w F ρ w0 σ a.tmps outs) {t e : TypeId} (ht : T.ty t = .slice e) {n : Nat} {parts : Array (Nat × Operand)} (hp : parts.toList.map (·.1) = List.range n) (hn : 0 < n) (hs : n * T.sz e ≤ 2 ^ 24)
    {K : St → E → Prop} (h : evalVs T σ e (parts.toList.map (·.2)) fun vs => K { σ with ob := σ.ob ++ [.row e vs] } (.sl σ.ob.length e 0 n false)) : ∃ σ' e', K σ' e' ∧ Does P T w0 w a outs (.buildSlice t n parts) σ' e' := by
  obtain ⟨hu, hno⟩ := hP.slice _ _ ht
  obtain ⟨i, i1, i2, i3, z, i4, i5, i6, i7, _⟩ := hP.info e hno
  have hse := (hP.sized.slice _ _ ht).2
  obtain ⟨vs, h, hf, hall⟩ := evalVs_sound hR h
  have hlen : parts.toList.length = n := by have := congrArg List.length hp; simpa using this
  have hzip := zip_parts a.eval parts.toList 0 (by rw [hp, hlen, List.range_eq_range'])
  have hvl : vs.length = n := by have := hf.lens; simpa [hlen] using this
  have hcells : ∀ v ∈ parts.toList.map (fun p => a.eval p.2), v.cells.size = T.sz e := by
    intro v hv
    obtain ⟨p, hp1, rfl⟩ := List.mem_map.1 hv
    obtain ⟨y, hy⟩ := hall p.2 (List.mem_map.2 ⟨p, hp1, rfl⟩)
    simpa using hy.len hP.sized
  have hfill := Great.fill_whole hse (parts.toList.map (fun p => a.eval p.2)) ((Array.range (n * i.size)).map (z.cells[· % z.cells.size]!)) hcells (by simp only [List.length_map, hlen, Array.size_map, Array.size_range, i2])
  rw [← hzip] at hfill
  have hflat : ((parts.toList.map fun p => a.eval p.2).flatMap fun v => v.cells.toList) = ((parts.toList.map (·.2)).map fun x => (a.eval x).cells.toList).flatten := by
    rw [List.flatMap_def, List.map_map, List.map_map]; rfl
  rw [hflat] at hfill
  have hrun := run_buildSlice (P := P) w t e n (parts.map fun (i, x) => (i, a.eval x)) _ i z hu i1 i4 (by rw [i2]; omega) (by
    rw [i2]
    have := Nat.mul_pos hn hse
    omega) (by rw [i2]; simpa [i2] using hfill)
  have hll := hf.len hP.sized
  rw [szs_replicate, List.length_map, hlen] at hll
  have hcap : n ≤ maxLen := by
    have : n * 1 ≤ n * T.sz e := Nat.mul_le_mul_left n hse
    unfold maxLen; omega
  have hb := below_alloc w (.cells (((parts.toList.map (·.2)).map fun x => (a.eval x).cells.toList).flatten).toArray e)
  have := new_row (a := a) hR hb (l := vs) (r := .slice (some ⟨w.heap.size, 0, none⟩) n n) (xs := ((parts.toList.map (·.2)).map fun x => (a.eval x).cells.toList).flatten)
    (by
      rw [hvl]
      refine ⟨hll, .inr ⟨w.heap.size, n, _, rfl, Nat.le_refl _, heap_alloc_new w _, Nat.le_refl _, hcap, by simpa using hll, ?_⟩⟩
      rw [List.take_of_length_le]
      · exact Nat.le_of_eq (by simpa using hll))
    (by
      rw [hvl]
      rw [List.length_map, hlen] at hf
      exact hf.mono (fun _ x => x) (fun b hF => hb.block b (hR.fsub b hF)))
  rw [hvl] at this
  exact ⟨_, _, h, _, F, _, _, .value _, this.2, this.1, .inl rfl, fun o ho => by simp [execOp, ho, hrun], fun _ => hb⟩

theorem made_fits (hP : TabOk P T) {e : TypeId} {n : Nat} {z : Value} (hz : Fits T w F e (T.zero e) z.cells.toList) : FitsL T w F (List.replicate n e) (List.replicate n (T.zero e)) (madeCells z.cells (n * T.sz e)).toList := by
  have hzl := hz.len hP.sized
  have hzs : z.cells.size = T.sz e := by simpa using hzl
  refine FitsL.ofNth (by simp) (by simp [madeCells, szs_replicate]) (fun k t hk => ?_)
  rw [List.getElem?_replicate] at hk
  split at hk; rotate_left; · cases hk
  rename_i hkn
  cases hk
  rw [offs_replicate T n k _ (by omega)]
  have h1 : (List.replicate n (T.zero e)).getD k default = T.zero e := by simp [List.getD_eq_getElem?_getD, hkn]
  rw [h1]
  have h2 : ((madeCells z.cells (n * T.sz e)).toList.drop (k * T.sz e)).take (T.sz e) = z.cells.toList := by
    apply List.ext_getElem?
    intro j
    rw [List.getElem?_take]
    split
    · rename_i hj
      have hlt : k * T.sz e + j < n * T.sz e := by
        have : (k + 1) * T.sz e ≤ n * T.sz e := Nat.mul_le_mul_right _ hkn
        rw [Nat.add_mul, Nat.one_mul] at this
        omega
      have hmod : (k * T.sz e + j) % T.sz e = j := by rw [Nat.add_comm, Nat.add_mul_mod_self_right, Nat.mod_eq_of_lt hj]
      have hjz : j < z.cells.size := by omega
      simp [madeCells, hlt, hzs, hmod]
      rw [getElem!_pos z.cells j hjz, Array.getElem?_eq_getElem hjz]
    · rename_i hj
      rw [List.getElem?_eq_none (by omega)]
  rw [h2]
  exact hz

theorem makeSlice_sound (hP : TabOk P T) (hR : Rel T w F ρ w0 σ a.tmps outs) {t e : TypeId} (ht : T.ty t = .slice e) {l c : Operand} {n : Int} {k k' : IntKind} (hl : a.eval l = .int k n) (hc : a.eval c = .int k' n) (h0 : 0 ≤ n) (hroom : roomFor T e n.toNat)
    (hfn : T.ty e ≠ .fn) (hpt : ∀ u, T.ty e ≠ .ptr u)
    {K : St → E → Prop} (h : K { σ with ob := σ.ob ++ [.row e (List.replicate n.toNat (T.zero e))] } (.sl σ.ob.length e 0 n.toNat false)) : ∃ σ' e', K σ' e' ∧ Does P T w0 w a outs (.makeSlice t l c) σ' e' := by
  obtain ⟨hu, hno⟩ := hP.slice _ _ ht
  obtain ⟨i, i1, i2, i3, z, i4, i5, i6, i7, i8, _⟩ := hP.info e hno
  have hse := (hP.sized.slice _ _ ht).2
  obtain ⟨r1, r2⟩ := hroom
  obtain ⟨m, rfl⟩ := Int.eq_ofNat_of_zero_le h0
  simp only [Int.toNat_natCast] at *
  obtain ⟨w', g1, g2, g3⟩ := run_make_full (P := P) w w.heap.size t e i z (T.sz e) hu i1 i4 i2 k k' m (by rw [i3, Nat.mul_comm]; omega) r1 (Nat.le_refl _)
  have hb : Below w.heap.size w w' := ⟨g3.os, g3.tape, g3.output, g3.size, fun b hb => g3.block b hb (by simp)⟩
  have := new_row (a := a) hR hb (l := List.replicate m (T.zero e)) (by rw [List.length_replicate]; exact g2) (by rw [List.length_replicate]; exact made_fits hP (i8 hfn hpt w' F))
  rw [List.length_replicate] at this
  exact ⟨_, _, h, w', F, _, _, .value _, this.2, this.1, .inl rfl, fun o ho => by simp [execOp, ho, hl, hc, g1], fun _ => hb⟩

theorem effA_sound (hP : TabOk P T) (hR : Rel T w F ρ w0 σ a.tmps outs) {op : Op} {K : St → E → Prop} (h : effA T σ op K) : ∃ σ' e, K σ' e ∧ Does P T w0 w a outs op σ' e := by
  unfold effA at h
  split at h
  · rename_i t
    obtain ⟨ht, h⟩ := h
    obtain ⟨i, i1, i2, i3, z, i4, i5, i6, i7, _⟩ := hP.info t ht
    obtain ⟨z1, z2, z3, z4⟩ := zeroE_rel (w := w) (F := F) (ρ := ρ) hP ht i1 i4
    obtain ⟨n1, n2⟩ := new_var hR ht z1 z2 z3 z4
    refine ⟨_, _, h, _, F, _, _, .value _, n2, n1, .inl rfl, fun o ho => ?_, fun _ => below_alloc _ _⟩
    simp [execOp, ho, Instr.alloc, zeroValue, typeInfo, i1, i4, newVar, newRow]
  · rename_i t x
    obtain ⟨e, h, he⟩ := evalO_sound hR h
    obtain ⟨hok, h⟩ := h
    obtain ⟨k1, k2⟩ := okAt_holds hP.sized (he rfl) hok
    obtain ⟨n1, n2⟩ := new_var hR (okAt_other hok) (he rfl) k1 k2 (fun u y hy => by subst hy; simp only [okAt, Bool.and_eq_true, beq_iff_eq] at hok; exact hok.1)
    refine ⟨_, _, h, _, F, _, _, .value _, n2, n1, .inl rfl, fun o ho => ?_, fun _ => below_alloc _ _⟩
    simp [execOp, ho, Instr.box, newVar, newRow]
  · rename_i t x y
    obtain ⟨p, h, hp⟩ := evalO_sound hR h
    obtain ⟨e, h, he⟩ := evalO_sound hR h
    exact storeA_sound hP hR (hp rfl) (he rfl) h
  · rename_i t n parts
    split at h; rotate_left; · exact h.elim
    rename_i e ht
    obtain ⟨h1, h2, h3, h4⟩ := h
    exact buildSlice_sound hP hR ht h1 h2 h3 h4
  · rename_i t l c
    split at h; rotate_left; · exact h.elim
    rename_i e ht
    obtain ⟨el, h, hl⟩ := evalO_sound hR h
    obtain ⟨ec, h, hc⟩ := evalO_sound hR h
    split at h; rotate_left; · exact h.elim
    obtain ⟨rfl, h0, hr, hfn, hpt, h⟩ := h
    exact makeSlice_sound hP hR ht (hl rfl).1 (hc rfl).1 h0 hr hfn hpt h
  · rename_i c
    split at h; rotate_left; · exact h.elim
    rename_i s x t t' hc hca hct
    obtain ⟨rfl, h⟩ := h
    split at h; rotate_left; · exact h.elim
    rename_i e ht
    obtain ⟨es, h, hs⟩ := evalO_sound hR h
    obtain ⟨ex, h, hx⟩ := evalO_sound hR h
    exact appendA_sound hP hR ht hc (by rw [← Array.toArray_toList (xs := c.args), hca]) (by rw [← Array.toArray_toList (xs := c.argTypes), hct]) (hs rfl) (hx rfl) h
  · exact h.elim

end Go.Eng
