/- All operations that make or write memory, together. -/
import Derived.Test.YtedceinkpkoncaaGreatDoorPk6
import Derived.Great.BuildSlice
import Derived.Great.FillDense
import Derived.Laws.MakeOwn
import Derived.Laws.CopyRow
namespace Go.Eng
set_option linter.unusedSimpArgs false
set_option linter.unusedVariables false
open Go.RowKit

variable {P : Program} {T : Tab} {w w' : World} {w0 : Base T} {F F' : Nat → Prop} {ρ ρ' : Nat → RI} {σ : St} {a : Act} {outs : List (Array Value)}

theorem zip_parts (f : Operand → Value) : ∀ (ps : List (Nat × Operand)) (k : Nat), ps.map (·.1) = List.range' k ps.length → ps.map (fun (i, x) => (i, f x)) = ((ps.map fun p => f p.2).zipIdx k).map fun x => (x.2, x.1)
  | [], _, _ => rfl
  | (i, x) :: ps, k, h => by
    simp only [List.map_cons, List.length_cons, List.range'_succ, List.cons.injEq] at h
    obtain ⟨rfl, h⟩ := h
    simp only [List.map_cons, List.zipIdx_cons]
    rw [zip_parts f ps (i + 1) h]

theorem run_buildSlice0 (w : World) {t e : TypeId} {i : TypeInfo} (hu : P.underlying t = some (.slice e)) (i1 : P.info? e = some i) :
    (Instr.buildSlice t 0 #[]).run P w = .ok (.slice (some ⟨w.heap.size, 0, none⟩) 0 0) (w.alloc (.cells #[] e)) := by
  have h0 : ∀ f : Nat → Value, Array.map f (Array.range 0) = #[] := fun f => Array.eq_empty_of_size_eq_zero (by simp)
  simp [Instr.buildSlice, run_underlying hu, sizeOf, typeInfo, i1, Instr.fill, newRow, h0]

theorem buildSlice_some (hP : TabOk P T) (hR : Rel T w F ρ w0 σ a.tmps outs) {t e : TypeId} (ht : T.ty t = .slice e) {n : Nat} {parts : Array (Nat × Operand)} (hp : parts.toList.map (·.1) = List.range n) (hn : 0 < n) (hs : n * T.sz e ≤ 2 ^ 24)
    {K : St → E → Prop} (h : evalVs T σ e (parts.toList.map (·.2)) fun vs => K { σ with ob := σ.ob ++ [.row e vs] } (.sl σ.ob.length e 0 n false)) : ∃ σ' e', K σ' e' ∧ Does P T w0 w a outs (.buildSlice t n parts) σ' e' := by
  obtain ⟨hu, hno⟩ := hP.slice _ _ ht
  obtain ⟨i, i1, i2, i3, z, i4, i5, i6, i7, _⟩ := hP.info e hno
  have hse := (hP.sized.slice _ _ ht).2
  obtain ⟨vs, h, hf, hall⟩ := evalVs_sound hR h
  have hlen : parts.toList.length = n := by have := congrArg List.length hp; simpa using this
  have hzip := zip_parts a.eval parts.toList 0 (by rw [hp, hlen, List.range_eq_range'])
  have hvl : vs.length = n := by have := hf.lens; simpa [hlen] using this
  have hcells : ∀ v ∈ parts.toList.map (fun p => a.eval p.2), v.cells.size = T.sz e := by
    intro v hv
    obtain ⟨p, hp1, rfl⟩ := List.mem_map.1 hv
    obtain ⟨y, hy⟩ := hall p.2 (List.mem_map.2 ⟨p, hp1, rfl⟩)
    simpa using hy.len hP.sized
  have hfill := Great.fill_whole hse (parts.toList.map (fun p => a.eval p.2)) ((Array.range (n * i.size)).map (z.cells[· % z.cells.size]!)) hcells (by simp only [List.length_map, hlen, Array.size_map, Array.size_range, i2])
  rw [← hzip] at hfill
  have hflat : ((parts.toList.map fun p => a.eval p.2).flatMap fun v => v.cells.toList) = ((parts.toList.map (·.2)).map fun x => (a.eval x).cells.toList).flatten := by
    rw [List.flatMap_def, List.map_map, List.map_map]; rfl
  rw [hflat] at hfill
  have hrun := run_buildSlice (P := P) w t e n (parts.map fun (i, x) => (i, a.eval x)) _ i z hu i1 i4 (by rw [i2]; omega) (by
    rw [i2]
    have := Nat.mul_pos hn hse
    omega) (by rw [i2]; simpa [i2] using hfill)
  have hll := hf.len hP.sized
  rw [szs_replicate, List.length_map, hlen] at hll
  have hcap : n ≤ maxLen := by
    have : n * 1 ≤ n * T.sz e := Nat.mul_le_mul_left n hse
    unfold maxLen; omega
  have hb := below_alloc w (.cells (((parts.toList.map (·.2)).map fun x => (a.eval x).cells.toList).flatten).toArray e)
  have := new_row (a := a) hR hb (l := vs) (r := .slice (some ⟨w.heap.size, 0, none⟩) n n) (xs := ((parts.toList.map (·.2)).map fun x => (a.eval x).cells.toList).flatten)
    (by
      rw [hvl]
      refine ⟨hll, .inr ⟨w.heap.size, n, _, rfl, Nat.le_refl _, heap_alloc_new w _, Nat.le_refl _, hcap, by simpa using hll, ?_⟩⟩
      rw [List.take_of_length_le]
      · exact Nat.le_of_eq (by simpa using hll))
    (by
      rw [hvl]
      rw [List.length_map, hlen] at hf
      exact hf.mono (fun _ x => x) (fun b hF => hb.block b (hR.fsub b hF)))
  rw [hvl] at this
  exact ⟨_, _, h, _, F, _, _, .value _, this.2, this.1, .inl rfl, fun o ho => by simp [execOp, ho, hrun], fun _ => hb⟩

theorem buildSlice_sound (hP : TabOk P T) (hR : Rel T w F ρ w0 σ a.tmps outs) {t e : TypeId} (ht : T.ty t = .slice e) {n : Nat} {parts : Array (Nat × Operand)} (hp : parts.toList.map (·.1) = List.range n) (hs : n * T.sz e ≤ 2 ^ 24)
    {K : St → E → Prop} (h : evalVs T σ e (parts.toList.map (·.2)) fun vs => K { σ with ob := σ.ob ++ [.row e vs] } (.sl σ.ob.length e 0 n false)) : ∃ σ' e', K σ' e' ∧ Does P T w0 w a outs (.buildSlice t n parts) σ' e' := by
  rcases Nat.eq_zero_or_pos n with hn | hn
  · subst hn
    have hpn : parts = #[] := by
      have h1 := congrArg List.length hp
      have : parts.toList = [] := List.eq_nil_of_length_eq_zero (by simpa using h1)
      exact Array.toList_eq_nil_iff.1 this
    subst hpn
    obtain ⟨hu, hno⟩ := hP.slice _ _ ht
    obtain ⟨i, i1, _⟩ := hP.info e hno
    have hrun := run_buildSlice0 (P := P) w hu i1
    have hb := below_alloc w (.cells #[] e)
    have := new_row (a := a) hR hb (l := []) (r := .slice (some ⟨w.heap.size, 0, none⟩) 0 0) (xs := [])
      ⟨by simp, .inr ⟨w.heap.size, 0, #[], rfl, Nat.le_refl _, heap_alloc_new w _, Nat.le_refl _, by unfold maxLen; omega, by simp, by simp⟩⟩ .nil
    exact ⟨_, _, h, _, F, _, _, .value _, this.2, this.1, .inl rfl, fun o ho => by simp [execOp, ho, hrun], fun _ => hb⟩
  · exact buildSlice_some hP hR ht hp hn hs h

theorem made_fits (hP : TabOk P T) {e : TypeId} {n : Nat} {z : Value} (hz : Fits T w F e (T.zero e) z.cells.toList) : FitsL T w F (List.replicate n e) (List.replicate n (T.zero e)) (madeCells z.cells (n * T.sz e)).toList := by
  have hzl := hz.len hP.sized
  have hzs : z.cells.size = T.sz e := by simpa using hzl
  refine FitsL.ofNth (by simp) (by simp [madeCells, szs_replicate]) (fun k t hk => ?_)
  rw [List.getElem?_replicate] at hk
  split at hk; rotate_left; · cases hk
  rename_i hkn
  cases hk
  rw [offs_replicate T n k _ (by omega)]
  have h1 : (List.replicate n (T.zero e)).getD k default = T.zero e := by simp [List.getD_eq_getElem?_getD, hkn]
  rw [h1]
  have h2 : ((madeCells z.cells (n * T.sz e)).toList.drop (k * T.sz e)).take (T.sz e) = z.cells.toList := by
    apply List.ext_getElem?
    intro j
    rw [List.getElem?_take]
    split
    · rename_i hj
      have hlt : k * T.sz e + j < n * T.sz e := by
        have : (k + 1) * T.sz e ≤ n * T.sz e := Nat.mul_le_mul_right _ hkn
        rw [Nat.add_mul, Nat.one_mul] at this
        omega
      have hmod : (k * T.sz e + j) % T.sz e = j := by rw [Nat.add_comm, Nat.add_mul_mod_self_right, Nat.mod_eq_of_lt hj]
      have hjz : j < z.cells.size := by omega
      simp [madeCells, hlt, hzs, hmod]
      rw [getElem!_pos z.cells j hjz, Array.getElem?_eq_getElem hjz]
    · rename_i hj
      rw [List.getElem?_eq_none (by omega)]
  rw [h2]
  exact hz

theorem makeSlice_sound (hP : TabOk P T) (hR : Rel T w F ρ w0 σ a.tmps outs) {t e : TypeId} (ht : T.ty t = .slice e) {l c : Operand} {n : Int} {k k' : IntKind} (hl : a.eval l = .int k n) (hc : a.eval c = .int k' n) (h0 : 0 ≤ n) (hroom : roomFor T e n.toNat)
    (hfn : T.ty e ≠ .fn) (hpt : ∀ u, T.ty e ≠ .ptr u)
    {K : St → E → Prop} (h : K { σ with ob := σ.ob ++ [.row e (List.replicate n.toNat (T.zero e))] } (.sl σ.ob.length e 0 n.toNat false)) : ∃ σ' e', K σ' e' ∧ Does P T w0 w a outs (.makeSlice t l c) σ' e' := by
  obtain ⟨hu, hno⟩ := hP.slice _ _ ht
  obtain ⟨i, i1, i2, i3, z, i4, i5, i6, i7, i8, _⟩ := hP.info e hno
  have hse := (hP.sized.slice _ _ ht).2
  obtain ⟨r1, r2⟩ := hroom
  obtain ⟨m, rfl⟩ := Int.eq_ofNat_of_zero_le h0
  simp only [Int.toNat_natCast] at *
  obtain ⟨w', g1, g2, g3⟩ := run_make_full (P := P) w w.heap.size t e i z (T.sz e) hu i1 i4 i2 k k' m (by rw [i3, Nat.mul_comm]; omega) r1 (Nat.le_refl _)
  have hb : Below w.heap.size w w' := ⟨g3.os, g3.tape, g3.output, g3.size, fun b hb => g3.block b hb (by simp)⟩
  have := new_row (a := a) hR hb (l := List.replicate m (T.zero e)) (by rw [List.length_replicate]; exact g2) (by rw [List.length_replicate]; exact made_fits hP (i8 hfn hpt w' F))
  rw [List.length_replicate] at this
  exact ⟨_, _, h, w', F, _, _, .value _, this.2, this.1, .inl rfl, fun o ho => by simp [execOp, ho, hl, hc, g1], fun _ => hb⟩

theorem clearA_sound (hP : TabOk P T) (hR : Rel T w F ρ w0 σ a.tmps outs) {t e : TypeId} (ht : T.ty t = .slice e) {c : Call} {s : Operand} (hc : c.callee = .builtin .clear) (hca : c.args = #[s]) (hct : c.argTypes = #[t])
    {es : E} {K : St → E → Prop} (hs : ERel T w F ρ es (a.eval s)) (h : clearA T σ e es K) : ∃ σ' e', K σ' e' ∧ Does P T w0 w a outs (.call c) σ' e' := by
  obtain ⟨hu, hno⟩ := hP.slice _ _ ht
  have run : ∀ (r : Value) (w' : World), (∀ ty, (Builtin.clear_ #[t] ty #[a.eval s]).run P w = .ok r w') → ∀ o : Oper, o.op = .call c → (execOp a.eval o).run P w = .ok (.value r) w' := by
    intro r w' h1 o ho
    simp [execOp, ho, resolve, hc, hca, hct, invoke, builtin, h1 o.type]
  unfold clearA at h
  split at h; rotate_left; · exact h.elim
  rename_i i e' lo n cl
  obtain ⟨rfl, hfn, hpt, h⟩ := h
  split at h; rotate_left; · exact h.elim
  rename_i e2 l ho
  obtain ⟨hle, h⟩ := h
  have hil : i < σ.ob.length := (List.getElem?_eq_some_iff.1 ho).1
  have hob := hR.ob _ _ ho
  have same : lo + n = lo → ({ σ with ob := σ.ob.set i (.row e' (l.take lo ++ List.replicate n (T.zero e') ++ l.drop (lo + n))) } : St) = { σ with ob := σ.ob.set i (.row e' l) } := by
    intro h0
    have : n = 0 := by omega
    subst this
    simp
  have keep : e2 = e' → ({ σ with ob := σ.ob.set i (.row e' l) } : St) = σ := by
    intro h0
    subst h0
    have : σ.ob.set i (.row e2 l) = σ.ob := by
      apply List.ext_getElem?
      intro j
      rw [List.getElem?_set]
      split
      · rename_i hj; subst hj; first | exact ho.symm | (rw [if_pos hil]; exact ho.symm)
      · rfl
    rw [this]
  rcases hs with ⟨h1, h2, rfl, rfl⟩ | ⟨b, m, cap, off, h1, h2, h3, h4, h5, h6⟩
  · rw [h1] at hob
    obtain ⟨rfl, q2, xs, q3, q4⟩ := hob
    rw [same rfl, keep rfl] at h
    exact ⟨_, _, h, w, F, ρ, .tuple #[], .value _, ⟨[], rfl, trivial⟩, hR, .inl rfl, run _ _ (fun ty => by rw [h2]; simp [Builtin.clear_, run_underlying hu]), fun hm => by simp [isMake] at hm⟩
  · rw [h1] at hob
    obtain ⟨rfl, q2, xs, q3, q4⟩ := hob
    by_cases hn0 : n = 0
    · subst hn0
      rw [same rfl, keep rfl] at h
      exact ⟨_, _, h, w, F, ρ, .tuple #[], .value _, ⟨[], rfl, trivial⟩, hR, .inl rfl, run _ _ (fun ty => by rw [h4]; simp [Builtin.clear_, run_underlying hu]), fun hm => by simp [isMake] at hm⟩
    · have hblk : (ρ i).block = some b := by rw [h1]; rfl
      rcases q3.2 with ⟨q, _⟩ | ⟨b', cap', cur, hr, hb, hh, hn, hcp, hsz, htk⟩
      · cases q
      cases hr
      have hoff : off = lo * T.sz e' := by rcases h6 with h6 | h6 <;> omega
      subst hoff
      obtain ⟨inf, i1, i2, i3, z, i4, i5, i6, i7, i8, _⟩ := hP.info e' hno
      have hzf := i8 hfn hpt w F
      have hZ := made_fits (n := n) hP hzf
      have hzs : z.cells.size = T.sz e' := by simpa using hzf.len hP.sized
      have hxl : xs.length = l.length * T.sz e' := q3.1
      have hml : (lo + n) * T.sz e' ≤ l.length * T.sz e' := Nat.mul_le_mul_right _ hle
      rw [Nat.add_mul] at hml
      have hcapl : l.length * T.sz e' ≤ cap * T.sz e' := Nat.mul_le_mul_right _ hn
      have hcl : cur.toList.length = cap * T.sz e' := by simpa using hsz
      have hZl : (madeCells z.cells (n * T.sz e')).toList.length = n * T.sz e' := by simp [madeCells]
      have hst := run_storeCells_at P b (lo * T.sz e') e' (madeCells z.cells (n * T.sz e')).toList 0 cur w hh (by rw [hZl, ← Array.length_toList, hcl]; omega) (fun v hv => hZ.onesL v hv)
      simp only [Nat.add_zero] at hst
      have hzc : Builtin.zeroCells z.cells n = madeCells z.cells (n * T.sz e') := by rw [← hzs]; rfl
      have hzv : ∀ W, (zeroValue e').run P W = .ok z W := fun W => by simp [zeroValue, typeInfo, i1, i4]
      have hrun : ∀ o : Oper, o.op = .call c → (execOp a.eval o).run P w = .ok (.value (.tuple #[])) (w.setRow b (splice cur.toList (lo * T.sz e') (madeCells z.cells (n * T.sz e')).toList).toArray) := by
        refine run _ _ (fun ty => ?_)
        obtain ⟨n', rfl⟩ : ∃ n', n = n' + 1 := ⟨n - 1, by omega⟩
        rw [h4]
        simp [Builtin.clear_, run_underlying hu, hzv, hzc, hst, splice]
      have hoth : ∀ k, F k → (w.setRow b (splice cur.toList (lo * T.sz e') (madeCells z.cells (n * T.sz e')).toList).toArray).heap[k]? = w.heap[k]? := fun k hF => setRow_other w b k _ (fun e => q2 b rfl (e ▸ hF))
      refine ⟨_, _, h, w.setRow b (splice cur.toList (lo * T.sz e') (madeCells z.cells (n * T.sz e')).toList).toArray, F, ρ, .tuple #[], .value _, ⟨[], rfl, trivial⟩, ?_, .inl rfl, hrun, by simp [isMake]⟩
      refine hR.store hblk hil (fun k hk => setRow_other w b k _ hk) (by simp [World.setRow]) rfl rfl rfl ?_
      rw [h1]
      have hll : (l.take lo ++ List.replicate n (T.zero e') ++ l.drop (lo + n)).length = l.length := by simp; omega
      refine ⟨rfl, q2, splice xs (lo * T.sz e') (madeCells z.cells (n * T.sz e')).toList, ⟨?_, .inr ⟨b, cap, (splice cur.toList (lo * T.sz e') (madeCells z.cells (n * T.sz e')).toList).toArray, by rw [hll], hb, setRow_heap w b cur _ e' _ hh, by rw [hll]; exact hn, hcp, ?_, ?_⟩⟩, ?_⟩
      · rw [splice_length _ _ _ (by omega), hll]; exact hxl
      · rw [List.size_toArray, splice_length _ _ _ (by omega)]; exact hcl
      · rw [hll, splice_take _ _ _ _ (by omega) (by omega), htk]
      · have e1 : List.replicate l.length e' = List.replicate lo e' ++ List.replicate n e' ++ List.replicate (l.length - (lo + n)) e' := by
          rw [List.replicate_append_replicate, List.replicate_append_replicate]; congr 1; omega
        rw [hll, e1]
        have f1 := q4.slice hP.sized (lo := 0) (m := lo) (by omega)
        have f3 := q4.slice hP.sized (lo := lo + n) (m := l.length - (lo + n)) (by omega)
        rw [Nat.zero_mul, List.drop_zero, List.drop_zero] at f1
        rw [List.take_of_length_le (l := l.drop (lo + n)) (by simp), List.take_of_length_le (l := xs.drop _) (by rw [List.length_drop, hxl, Nat.sub_mul]; omega)] at f3
        have e5 : splice xs (lo * T.sz e') (madeCells z.cells (n * T.sz e')).toList = xs.take (lo * T.sz e') ++ (madeCells z.cells (n * T.sz e')).toList ++ xs.drop ((lo + n) * T.sz e') := by
          unfold splice
          rw [hZl, ← Nat.add_mul]
        rw [e5]
        exact ((f1.append hZ).append f3).mono (fun _ x => x) hoth

theorem PathOk.same {root t t' : TypeId} {p : List Nat} {off off' : Nat} (h : PathOk T root p off t) (h' : PathOk T root p off' t') : off = off' ∧ t = t' := by
  induction h generalizing off' t' with
  | nil => cases h'; exact ⟨rfl, rfl⟩
  | fld h1 h2 h3 ih =>
    cases h' with
    | fld g1 g2 g3 =>
      obtain ⟨rfl, rfl⟩ := ih g1
      rw [h2] at g2
      cases g2
      rw [h3] at g3
      cases g3
      exact ⟨rfl, rfl⟩
    | idx g1 g2 g3 =>
      obtain ⟨rfl, rfl⟩ := ih g1
      rw [h2] at g2
      cases g2
  | idx h1 h2 h3 ih =>
    cases h' with
    | fld g1 g2 g3 =>
      obtain ⟨rfl, rfl⟩ := ih g1
      rw [h2] at g2
      cases g2
    | idx g1 g2 g3 =>
      obtain ⟨rfl, rfl⟩ := ih g1
      rw [h2] at g2
      cases g2
      exact ⟨rfl, rfl⟩

theorem copyA_sound (hP : TabOk P T) (hR : Rel T w F ρ w0 σ a.tmps outs) {t e : TypeId} (ht : T.ty t = .slice e) (h1s : T.sz e = 1) {c : Call} {d s : Operand} (hc : c.callee = .builtin .copy) (hca : c.args = #[d, s]) (hct : c.argTypes = #[t, t])
    {ed es : E} {K : St → E → Prop} (hd : ERel T w F ρ ed (a.eval d)) (hs : ERel T w F ρ es (a.eval s)) (h : copyA T σ e ed es K) : ∃ σ' e', K σ' e' ∧ Does P T w0 w a outs (.call c) σ' e' := by
  obtain ⟨hu, hno⟩ := hP.slice _ _ ht
  unfold copyA at h
  split at h; rotate_left; · exact h.elim
  rename_i i p ta lo i' p' ta' lo'
  obtain ⟨rfl, rfl, rfl, h⟩ := h
  split at h; rotate_left; · exact h.elim
  rename_i n e' hta
  obtain ⟨⟨rfl, hnm⟩, h⟩ := h
  split at h; rotate_left; · exact h.elim
  rename_i tv td v ho
  have hil : i' < σ.ob.length := (List.getElem?_eq_some_iff.1 ho).1
  have hob := hR.ob _ _ ho
  obtain ⟨b, root, off, n1, e1, p1, p2, p3, p4, p5⟩ := hd
  obtain ⟨b2, root2, off2, n2, e2, r1, r2, r3, r4, r5⟩ := hs
  rw [hta] at p3 r3
  cases p3
  cases r3
  rw [p1] at r1
  cases r1
  rw [p1] at hob
  obtain ⟨⟨q1, q1', q1''⟩, q2, q3, cs, ct, v', q4, q5, q6, q7⟩ := hob
  have hblk : (ρ i').block = some b := by rw [p1]; rfl
  obtain ⟨cs', rfl, hA, hf⟩ := q5
  have := q1'' _ _ rfl
  subst this
  subst q1
  have hcs : cs' = cs := by have := q6.2; rw [if_pos hA] at this; simpa using this
  subst hcs
  obtain ⟨g1, g2⟩ := p2.get hP.sized hf
  obtain ⟨rfl, _⟩ := p2.same r2
  have hsa := hP.sized.arr _ _ _ hta
  obtain ⟨inf, i1, i2, i3, _⟩ := hP.info e' hno
  obtain ⟨l, hg, f⟩ := g1.inv' hta
  rw [h1s, Nat.mul_one] at p5 r5
  have hsz : T.sz ta' = n := by rw [hsa, szs_replicate, h1s, Nat.mul_one]
  rw [hsz] at f g2
  have hl := f.lens
  rw [List.length_replicate] at hl
  obtain ⟨m, hm⟩ : ∃ m, m = min (n - lo') (n - lo) := ⟨_, rfl⟩
  have src : (List.take m (List.drop (off + lo') cs'.toList)).length = m := by rw [List.length_take, List.length_drop]; omega
  have hsg : Seg w b 0 cs'.toList := by
    intro j x hx
    simp only [World.cell?, q4]
    simpa using hx
  have hcp : ∀ ty, (Builtin.copy_ #[t, t] ty #[a.eval d, a.eval s]).run P w = .ok (goInt m) (w.setRow b (splice cs'.toList (off + lo) (List.take m (List.drop (off + lo') cs'.toList))).toArray) := by
    intro ty
    rw [p5, r5]
    have := run_copy_row (P := P) w t t ty e' b (off + lo) (n - lo) (n - lo) ⟨b, off + lo', none⟩ (n - lo') (n - lo') cs' ct (List.take m (List.drop (off + lo') cs'.toList)) hu (by rw [i1]; simp [i2, h1s]) q4 (by rw [src, hm]) ?_ (by rw [src, ← Array.length_toList]; omega) (fun v hv => q7 v (by simpa using List.mem_of_mem_drop (List.mem_of_mem_take hv)))
    · rw [this]
      simp only [splice, src]
    · intro j v hv
      rw [addr_add]
      rw [List.getElem?_take] at hv
      split at hv; rotate_left; · cases hv
      rw [List.getElem?_drop] at hv
      simpa using hsg _ _ hv
  have hinl : ((cs'.toList.drop off).take n).length = n := by rw [List.length_take, List.length_drop]; omega
  have hsrc : (((cs'.toList.drop off).take n).drop lo').take m = List.take m (List.drop (off + lo') cs'.toList) := by
    rw [List.drop_take, List.take_take, List.drop_drop, Nat.min_eq_left (by omega)]
  have f1 := f.slice hP.sized (lo := 0) (m := lo) (by omega)
  have f2 := f.slice hP.sized (lo := lo') (m := m) (by omega)
  have f3 := f.slice hP.sized (lo := lo + m) (m := n - (lo + m)) (by omega)
  simp only [h1s, Nat.mul_one, List.drop_zero] at f1 f2 f3
  rw [List.take_of_length_le (l := l.drop _) (by rw [List.length_drop]; omega), List.take_of_length_le (l := List.drop (lo + m) _) (by rw [List.length_drop]; omega)] at f3
  have e1 : List.replicate n e' = List.replicate lo e' ++ List.replicate m e' ++ List.replicate (n - (lo + m)) e' := by
    rw [List.replicate_append_replicate, List.replicate_append_replicate]; congr 1; omega
  have fm : Fits T w F ta' (.agg (movedV l lo lo' m)) (splice ((cs'.toList.drop off).take n) lo (List.take m (List.drop (off + lo') cs'.toList))) := by
    refine .arr hta ?_
    rw [e1]
    unfold splice
    rw [src, ← hsrc]
    exact (f1.append f2).append f3
  have hput := p2.put hP.sized hf fm
  rw [splice_splice _ _ _ _ _ (by rw [hinl]; omega) (by rw [src, hinl]; omega) (by rw [hinl])] at hput
  have hmv : (V.agg (movedV (v.get p').toList lo lo' (min (n - lo') (n - lo)))) = .agg (movedV l lo lo' m) := by rw [hg, ← hm]; rfl
  rw [hmv, ← hm] at h
  have hgo : IntKind.i64.has (m : Int) := by
    have : m ≤ maxLen := by omega
    unfold maxLen at this
    simp [IntKind.has, IntKind.min, IntKind.max, IntKind.signed, IntKind.bits]
    omega
  have hrun : ∀ o : Oper, o.op = .call c → (execOp a.eval o).run P w = .ok (.value (goInt m)) (w.setRow b (splice cs'.toList (off + lo) (List.take m (List.drop (off + lo') cs'.toList))).toArray) := by
    intro o ho'
    simp [execOp, ho', resolve, hc, hca, hct, invoke, builtin, hcp o.type]
  have hcl : (splice cs'.toList (off + lo) (List.take m (List.drop (off + lo') cs'.toList))).length = cs'.size := by rw [splice_length _ _ _ (by rw [src]; omega)]; simp
  refine ⟨_, _, h, w.setRow b (splice cs'.toList (off + lo) (List.take m (List.drop (off + lo') cs'.toList))).toArray, F, ρ, goInt m, .value _, ⟨rfl, hgo⟩, ?_, .inl rfl, hrun, by simp [isMake]⟩
  refine hR.store hblk hil (fun k hk => setRow_other w b k _ hk) (by simp [World.setRow]) rfl rfl rfl ?_
  rw [p1]
  have hput' := hput.mono (w' := w.setRow b (splice cs'.toList (off + lo) (List.take m (List.drop (off + lo') cs'.toList))).toArray) (F' := F) (fun _ x => x) (fun k hF => setRow_other w b k _ (fun e => q3 (e ▸ hF)))
  refine ⟨⟨rfl, q1', fun u z hz => by cases hz; rfl⟩, q2, q3, (splice cs'.toList (off + lo) (List.take m (List.drop (off + lo') cs'.toList))).toArray, ct, .agg (splice cs'.toList (off + lo) (List.take m (List.drop (off + lo') cs'.toList))).toArray, setRow_heap w b cs' _ ct _ q4, ⟨_, rfl, hA, by simpa using hput'⟩, ⟨?_, by rw [hA]; rfl⟩, ?_⟩
  · rw [List.size_toArray, hcl]; exact q6.1
  · intro c hc
    exact hput'.oneCell c (by simpa using hc)

theorem effA_sound (hP : TabOk P T) (hR : Rel T w F ρ w0 σ a.tmps outs) {op : Op} {K : St → E → Prop} (h : effA T σ op K) : ∃ σ' e, K σ' e ∧ Does P T w0 w a outs op σ' e := by
  unfold effA at h
  split at h
  · rename_i t
    obtain ⟨ht, h⟩ := h
    obtain ⟨i, i1, i2, i3, z, i4, i5, i6, i7, _⟩ := hP.info t ht
    obtain ⟨z1, z2, z3, z4⟩ := zeroE_rel (w := w) (F := F) (ρ := ρ) hP ht i1 i4
    obtain ⟨n1, n2⟩ := new_var hR ht z1 z2 z3 z4
    refine ⟨_, _, h, _, F, _, _, .value _, n2, n1, .inl rfl, fun o ho => ?_, fun _ => below_alloc _ _⟩
    simp [execOp, ho, Instr.alloc, zeroValue, typeInfo, i1, i4, newVar, newRow]
  · rename_i t x
    obtain ⟨e, h, he⟩ := evalO_sound hR h
    obtain ⟨hok, h⟩ := h
    obtain ⟨k1, k2⟩ := okAt_holds hP.sized (he rfl) hok
    obtain ⟨n1, n2⟩ := new_var hR (okAt_other hok) (he rfl) k1 k2 (fun u y hy => by subst hy; simp only [okAt, Bool.and_eq_true, beq_iff_eq] at hok; exact hok.1)
    refine ⟨_, _, h, _, F, _, _, .value _, n2, n1, .inl rfl, fun o ho => ?_, fun _ => below_alloc _ _⟩
    simp [execOp, ho, Instr.box, newVar, newRow]
  · rename_i t x y
    obtain ⟨p, h, hp⟩ := evalO_sound hR h
    obtain ⟨e, h, he⟩ := evalO_sound hR h
    exact storeA_sound hP hR (hp rfl) (he rfl) h
  · rename_i t n parts
    split at h; rotate_left; · exact h.elim
    rename_i e ht
    obtain ⟨h1, h3, h4⟩ := h
    exact buildSlice_sound hP hR ht h1 h3 h4
  · rename_i t l c
    split at h; rotate_left; · exact h.elim
    rename_i e ht
    obtain ⟨el, h, hl⟩ := evalO_sound hR h
    obtain ⟨ec, h, hc⟩ := evalO_sound hR h
    split at h; rotate_left; · exact h.elim
    obtain ⟨rfl, h0, hr, hfn, hpt, h⟩ := h
    exact makeSlice_sound hP hR ht (hl rfl).1 (hc rfl).1 h0 hr hfn hpt h
  · rename_i c
    split at h
    · rename_i s x t t' hc hca hct
      obtain ⟨rfl, h⟩ := h
      split at h; rotate_left; · exact h.elim
      rename_i e ht
      obtain ⟨es, h, hs⟩ := evalO_sound hR h
      obtain ⟨ex, h, hx⟩ := evalO_sound hR h
      exact appendA_sound hP hR ht hc (by rw [← Array.toArray_toList (xs := c.args), hca]) (by rw [← Array.toArray_toList (xs := c.argTypes), hct]) (hs rfl) (hx rfl) h
    · rename_i s t hc hca hct
      split at h; rotate_left; · exact h.elim
      rename_i e ht
      obtain ⟨es, h, hs⟩ := evalO_sound hR h
      exact clearA_sound hP hR ht hc (by rw [← Array.toArray_toList (xs := c.args), hca]) (by rw [← Array.toArray_toList (xs := c.argTypes), hct]) (hs rfl) h
    · rename_i d s t t' hc hca hct
      obtain ⟨rfl, h⟩ := h
      split at h; rotate_left; · exact h.elim
      rename_i e ht
      obtain ⟨⟨h1s, _⟩, h⟩ := h
      obtain ⟨ed, h, hd⟩ := evalO_sound hR h
      obtain ⟨es, h, hs⟩ := evalO_sound hR h
      exact copyA_sound hP hR ht h1s hc (by rw [← Array.toArray_toList (xs := c.args), hca]) (by rw [← Array.toArray_toList (xs := c.argTypes), hct]) (hd rfl) (hs rfl) h
    · exact h.elim
  · exact h.elim

/-- An append to a slice without spare room. -/
def appB (T : Tab) (σ : St) (c : Call) (K : St → E → Prop) : Prop := match c.args.toList, c.argTypes.toList with
  | [s, x], [t, t'] => t' = t ∧ match T.ty t with
    | .slice e => evalO σ true s fun es => evalO σ true x fun ex => freshA es = true ∧ appendA T σ e es ex K
    | _ => False
  | _, _ => False

theorem appB_sound (hP : TabOk P T) (hR : Rel T w F ρ w0 σ a.tmps outs) {c : Call} (hc : c.callee = .builtin .append) {K : St → E → Prop} (h : appB T σ c K) :
    (∃ σ' e', K σ' e' ∧ Does P T w0 w a outs (.call c) σ' e') ∧ ∃ nx w', (∀ o : Oper, o.op = .call c → (execOp a.eval o).run P w = .ok nx w') ∧ Below w.heap.size w w' := by
  unfold appB at h
  split at h
  · rename_i s x t t' hca hct
    obtain ⟨rfl, h⟩ := h
    split at h; rotate_left; · exact h.elim
    rename_i e ht
    obtain ⟨es, h, hs⟩ := evalO_sound hR h
    obtain ⟨ex, h, hx⟩ := evalO_sound hR h
    obtain ⟨hf, h⟩ := h
    have h1 : c.args = #[s, x] := by rw [← Array.toArray_toList (xs := c.args), hca]
    have h2 : c.argTypes = #[t', t'] := by rw [← Array.toArray_toList (xs := c.argTypes), hct]
    exact ⟨appendA_sound hP hR ht hc h1 h2 (hs rfl) (hx rfl) h, appendA_below hP hR ht hc h1 h2 (hs rfl) (hx rfl) hf h⟩
  · exact h.elim

end Go.Eng
/- A region's operations, one behind the other, in the abstract state. -/
namespace Go.Eng
set_option linter.unusedSimpArgs false
set_option linter.unusedVariables false
open Go.RowKit

variable {P : Program} {T : Tab} {w w' : World} {w0 : Base T} {F F' : Nat → Prop} {ρ ρ' : Nat → RI} {σ : St} {a : Act} {outs : List (Array Value)}

/-- A slot is written; what follows. -/
def putK (σ : St) (d : Option Tmp) (g : Bool) (K : St → Prop) (e : E) : Prop := match d with
  | some d => d < σ.nt ∧ K { σ with tm := (d, g, e) :: σ.tm }
  | none => K σ

def putE (d : Option Tmp) (K : St → Prop) (σ : St) (e : E) : Prop := putK σ d true K e

theorem put_sound (hR : Rel T w F ρ w0 σ a.tmps outs) {d : Option Tmp} {g : Bool} {K : St → Prop} {e : E} {v : Value} (h : putK σ d g K e) (h1 : g = true → ERel T w F ρ e v) (h2 : g = false → v = undef) :
    ∃ σ', K σ' ∧ Rel T w F ρ w0 σ' (a.put d v).tmps outs ∧ (a.put d v).defers = a.defers := by
  cases d with
  | none => exact ⟨σ, h, hR, rfl⟩
  | some d =>
    obtain ⟨hd, h⟩ := h
    refine ⟨_, h, ⟨?_, hR.out, hR.ob, hR.free, hR.inj, hR.fsub, hR.below, by simp [Act.put, hR.size], hR.fold⟩, rfl⟩
    intro t g' e' he
    simp only [List.lookup_cons] at he
    by_cases htd : t = d
    · subst htd
      simp at he
      obtain ⟨rfl, rfl⟩ := he
      refine ⟨v, ?_, h1, h2⟩
      simp [Act.put, hR.size, hd]
    · have : (t == d) = false := by simpa using htd
      rw [this] at he
      obtain ⟨v', q1, q2, q3⟩ := hR.tm t g' e' he
      exact ⟨v', by simp [Act.put, Array.getElem?_setIfInBounds_ne (Ne.symm htd), q1], q2, q3⟩

/-- An operation, without what does not matter here. -/
structure SOp where
  dst : Option Tmp
  op : Op
  guard : Option (Tmp × Bool)

/-- The operations of a region, each guard told by the slot that it looks at. -/
def strip (ops : Array Oper) (o : Oper) : SOp := ⟨o.dst, o.op, match o.guard with
  | none => none
  | some (j, want) => some (((ops[j]?).bind (·.dst)).getD ops.size.succ.succ, want)⟩

/-- Is an operation carried out? -/
def guardA (o : SOp) (σ : St) (K : Bool → Prop) : Prop := match o.guard with
  | none => K true
  | some (d, want) => match σ.tm.lookup d with
    | some (h, .bool b) => K (h && (b == want))
    | _ => False

theorem guardA_sound (hR : Rel T w F ρ w0 σ a.tmps outs) {ops : Array Oper} {o : Oper} (hj : (match o.guard with | none => true | some (j, _) => ((ops[j]?).bind (·.dst)).isSome) = true) {K : Bool → Prop} (h : guardA (strip ops o) σ K) : ∃ g, K g ∧ Region.wanted o (yielded ops a.tmps) = g := by
  unfold guardA strip at h
  cases hg : o.guard with
  | none =>
    simp only [hg] at h
    exact ⟨true, h, by simp [Region.wanted, hg]⟩
  | some jw =>
    obtain ⟨j, want⟩ := jw
    simp only [hg] at h hj
    obtain ⟨d, hd⟩ := Option.isSome_iff_exists.1 hj
    simp only [hd, Option.getD_some] at h
    split at h
    · rename_i hh b hl
      refine ⟨_, h, ?_⟩
      obtain ⟨v, q1, q2, q3⟩ := hR.tm _ _ _ hl
      simp only [Region.wanted, hg, yielded, hd, Option.bind_some]
      cases hh with
      | true =>
        have : v = .bool b := q2 rfl
        subst this
        rw [q1]
        simp
      | false =>
        have : v = undef := q3 rfl
        subst this
        rw [q1]
        simp [undef]
    · exact h.elim

/-! ### Calls -/

def Enters (P : Program) (f : FuncId) : Prop := ∀ (args : Array Value) (w : World), (callFunc f args).run P w = .ok (.enter f args) w

/-- A call in an abstract state: it returns, and what follows holds behind it. -/
def CallE (P : Program) (T : Tab) (σ : St) (f : FuncId) (es : List E) (K : St → E → Prop) : Prop :=
  Enters P f ∧ ∀ (w0 : Base T) (w : World) (F : Nat → Prop) (ρ : Nat → RI) (tmps : Array Value) (outs : List (Array Value)) (xs : List Value), Rel T w F ρ w0 σ tmps outs → ERelL T w F ρ es xs →
    Calls P f xs.toArray w fun en w' => ∃ v σ' e F' ρ', en = .returned v ∧ K σ' e ∧ ERel T w' F' ρ' e v ∧ Rel T w' F' ρ' w0 σ' tmps outs

/-- A call that leaves all that was there as it was, and answers what e says: one value, in every later world. -/
def CallQ (P : Program) (T : Tab) (σ : St) (f : FuncId) (es : List E) (e : E) : Prop :=
  Enters P f ∧ ∀ (w0 : Base T) (w : World) (F : Nat → Prop) (ρ : Nat → RI) (tmps : Array Value) (outs : List (Array Value)) (xs : List Value), Rel T w F ρ w0 σ tmps outs → ERelL T w F ρ es xs →
    ∃ v, ERel T w F ρ e v ∧ ∀ w', Below w.heap.size w w' → Calls P f xs.toArray w' fun en w'' => en = .returned v ∧ Below w'.heap.size w' w''

/-- A call as an operation. -/
def CallStep (P : Program) (T : Tab) (σ : St) (g : Bool) (f : Operand) (args : List Operand) (d : Option Tmp) (K : St → Prop) : Prop :=
  evalO σ g f fun ef => evalL σ g args fun es => ∃ fid caps, ef = .fn fid caps ∧
    ((∃ e, (g = true → CallQ P T σ fid (es ++ caps) e) ∧ putK σ d g K e) ∨ ((g = true → CallE P T σ fid (es ++ caps) (putE d K)) ∧ (g = false → putK σ d false K .undef)))

theorem ERelL.append : ∀ {a b : List E} {x y : List Value}, ERelL T w F ρ a x → ERelL T w F ρ b y → ERelL T w F ρ (a ++ b) (x ++ y)
  | [], _, [], _, _, h => h
  | _ :: _, _, _ :: _, _, ⟨h1, h2⟩, h => ⟨h1, ERelL.append h2 h⟩
  | [], _, _ :: _, _, h, _ => h.elim
  | _ :: _, _, [], _, h, _ => h.elim

theorem run_call {f : FuncId} (hE : Enters P f) {c : Call} {x : Operand} {caps : List Value} (hc : c.callee = .value x) (hx : a.eval x = .func (.func f) #[] caps.toArray) (W : World) (o : Oper) (ho : o.op = .call c) :
    (execOp a.eval o).run P W = .ok (.enter f (c.args.toList.map a.eval ++ caps).toArray) W := by
  have hargs : c.args.map a.eval ++ caps.toArray = (c.args.toList.map a.eval ++ caps).toArray := by
    apply Array.ext'; simp
  simp [execOp, ho, resolve, hc, hx, Deferred.ofValue, invoke, hargs]
  exact hE _ _

/-- What an operation of a region owes behind its guard. -/
def opG (P : Program) (T : Tab) (o : SOp) (K : St → Prop) (σ : St) (g : Bool) : Prop := match o.op with
  | .call c => match c.callee with
    | .value f => CallStep P T σ g f c.args.toList o.dst K
    | .builtin .append => (g = true → effA T σ (.call c) (putE o.dst K)) ∧ (g = false → putK σ o.dst false K .undef)
    | .builtin .clear => (g = true → effA T σ (.call c) (putE o.dst K)) ∧ (g = false → putK σ o.dst false K .undef)
    | .builtin .copy => (g = true → effA T σ (.call c) (putE o.dst K)) ∧ (g = false → putK σ o.dst false K .undef)
    | .builtin _ => pureA T σ g (.call c) (putK σ o.dst g K)
    | _ => False
  | .alloc t => (g = true → effA T σ (.alloc t) (putE o.dst K)) ∧ (g = false → putK σ o.dst false K .undef)
  | .box t x => (g = true → effA T σ (.box t x) (putE o.dst K)) ∧ (g = false → putK σ o.dst false K .undef)
  | .store t x y => (g = true → effA T σ (.store t x y) (putE o.dst K)) ∧ (g = false → putK σ o.dst false K .undef)
  | .buildSlice t n ps => (g = true → effA T σ (.buildSlice t n ps) (putE o.dst K)) ∧ (g = false → putK σ o.dst false K .undef)
  | .makeSlice t l c => (g = true → effA T σ (.makeSlice t l c) (putE o.dst K)) ∧ (g = false → putK σ o.dst false K .undef)
  | op => pureA T σ g op (putK σ o.dst g K)

def opsA (P : Program) (T : Tab) : List SOp → (St → Prop) → St → Prop
  | [], K, σ => K σ
  | o :: rest, K, σ => guardA o σ (opG P T o (opsA P T rest K) σ)

/-- The state behind describes the frame and the world behind. -/
def After (T : Tab) (w0 : Base T) (outs : List (Array Value)) (K : St → Prop) (a' : Act) (w' : World) : Prop :=
  ∃ σ' F' ρ', K σ' ∧ a'.defers = [] ∧ Rel T w' F' ρ' w0 σ' a'.tmps outs

theorem pure_step (hP : TabOk P T) (hR : Rel T w F ρ w0 σ a.tmps outs) (hd : a.defers = []) {o : Oper} {g : Bool} {K : St → Prop} {N : Act → World → Prop} {Q : Exit → Act → World → Prop}
    (hN : ∀ a' w', After T w0 outs K a' w' → N a' w') (h : pureA T σ g o.op (putK σ o.dst g K)) : if g then o.wp P a w N Q else N (a.put o.dst undef) w := by
  obtain ⟨e, h1, h2⟩ := pureA_sound hP hR h
  cases g with
  | true =>
    obtain ⟨v, hv, hr⟩ := h2 rfl
    obtain ⟨σ', hK, hR', hd'⟩ := put_sound hR h1 (fun _ => hv) (by simp)
    simp only [if_true, Oper.wp, hr w (Below.refl _ _) o rfl, Oper.upon]
    exact hN _ _ ⟨σ', F, ρ, hK, hd'.trans hd, hR'⟩
  | false =>
    obtain ⟨σ', hK, hR', hd'⟩ := put_sound (v := undef) hR h1 (by simp) (fun _ => rfl)
    simp only [Bool.false_eq_true, if_false]
    exact hN _ _ ⟨σ', F, ρ, hK, hd'.trans hd, hR'⟩

theorem eff_step (hP : TabOk P T) (hR : Rel T w F ρ w0 σ a.tmps outs) (hd : a.defers = []) {o : Oper} {g : Bool} {K : St → Prop} {N : Act → World → Prop} {Q : Exit → Act → World → Prop}
    (hN : ∀ a' w', After T w0 outs K a' w' → N a' w') (h : (g = true → effA T σ o.op (putE o.dst K)) ∧ (g = false → putK σ o.dst false K .undef)) : if g then o.wp P a w N Q else N (a.put o.dst undef) w := by
  cases g with
  | true =>
    obtain ⟨σ', e, h1, w', F', ρ', v, nx, h2, h3, h4, h5, _⟩ := effA_sound hP hR (h.1 rfl)
    obtain ⟨σ'', hK, hR', hd'⟩ := put_sound h3 h1 (fun _ => h2) (by simp)
    rcases h4 with rfl | ⟨rfl, rfl⟩
    · simp only [if_true, Oper.wp, h5 o rfl, Oper.upon]
      exact hN _ _ ⟨σ'', F', ρ', hK, hd'.trans hd, hR'⟩
    · simp only [if_true, Oper.wp, h5 o rfl, Oper.upon]
      exact hN _ _ ⟨σ'', F', ρ', hK, hd'.trans hd, hR'⟩
  | false =>
    obtain ⟨σ', hK, hR', hd'⟩ := put_sound (v := undef) hR (h.2 rfl) (by simp) (fun _ => rfl)
    simp only [Bool.false_eq_true, if_false]
    exact hN _ _ ⟨σ', F, ρ, hK, hd'.trans hd, hR'⟩

theorem call_step (hR : Rel T w F ρ w0 σ a.tmps outs) (hd : a.defers = []) {o : Oper} {c : Call} {x : Operand} (ho : o.op = .call c) (hc : c.callee = .value x) {g : Bool} {K : St → Prop} {N : Act → World → Prop} {Q : Exit → Act → World → Prop}
    (hN : ∀ a' w', After T w0 outs K a' w' → N a' w') (h : CallStep P T σ g x c.args.toList o.dst K) : if g then o.wp P a w N Q else N (a.put o.dst undef) w := by
  obtain ⟨ef, h1, hf⟩ := evalO_sound hR h
  obtain ⟨es, h2, hes⟩ := evalL_sound hR h1
  obtain ⟨fid, caps, rfl, h3⟩ := h2
  clear h h1
  cases g with
  | true =>
    obtain ⟨cs, hx, hcs⟩ := hf rfl
    have hall := (hes rfl).append hcs
    rcases h3 with ⟨e, hq, hk⟩ | ⟨he, _⟩
    · obtain ⟨hE, hq⟩ := hq rfl
      obtain ⟨v, hv, hq⟩ := hq w0 w F ρ _ _ _ hR hall
      have hcall := hq w (Below.refl _ _)
      simp only [if_true, Oper.wp, run_call hE hc hx w o ho, Oper.upon]
      refine hcall.mono ?_
      rintro en w' ⟨rfl, hb⟩
      obtain ⟨σ', hK, hR', hd'⟩ := put_sound hR hk (fun _ => hv) (by simp)
      exact hN _ _ ⟨σ', F, ρ, hK, hd'.trans hd, hR'.later hb⟩
    · obtain ⟨hE, he⟩ := he rfl
      simp only [if_true, Oper.wp, run_call hE hc hx w o ho, Oper.upon]
      refine (he w0 w F ρ _ _ _ hR hall).mono ?_
      rintro en w' ⟨v, σ', e, F', ρ', rfl, hk, hv, hR'⟩
      obtain ⟨σ'', hK, hR'', hd'⟩ := put_sound hR' hk (fun _ => hv) (by simp)
      exact hN _ _ ⟨σ'', F', ρ', hK, hd'.trans hd, hR''⟩
  | false =>
    simp only [Bool.false_eq_true, if_false]
    rcases h3 with ⟨e, _, hk⟩ | ⟨_, he⟩
    · obtain ⟨σ', hK, hR', hd'⟩ := put_sound (v := undef) hR hk (by simp) (fun _ => rfl)
      exact hN _ _ ⟨σ', F, ρ, hK, hd'.trans hd, hR'⟩
    · obtain ⟨σ', hK, hR', hd'⟩ := put_sound (v := undef) hR (he rfl) (by simp) (fun _ => rfl)
      exact hN _ _ ⟨σ', F, ρ, hK, hd'.trans hd, hR'⟩

theorem opG_sound (hP : TabOk P T) (hR : Rel T w F ρ w0 σ a.tmps outs) (hd : a.defers = []) {o : Oper} {g : Bool} {K : St → Prop} {N : Act → World → Prop} {Q : Exit → Act → World → Prop}
    (hN : ∀ a' w', After T w0 outs K a' w' → N a' w') {ops : Array Oper} (h : opG P T (strip ops o) K σ g) : if g then o.wp P a w N Q else N (a.put o.dst undef) w := by
  unfold opG at h
  have hop : (strip ops o).op = o.op := rfl
  have hdst : (strip ops o).dst = o.dst := rfl
  rw [hop, hdst] at h
  split at h
  · rename_i c hc
    split at h
    · rename_i f hf
      exact call_step hR hd hc hf hN h
    · exact eff_step hP hR hd hN (by rw [hc]; exact h)
    · exact eff_step hP hR hd hN (by rw [hc]; exact h)
    · exact eff_step hP hR hd hN (by rw [hc]; exact h)
    · exact pure_step hP hR hd hN (by rw [hc]; exact h)
    · exact h.elim
  · rename_i hc; exact eff_step hP hR hd hN (by rw [hc]; exact h)
  · rename_i hc; exact eff_step hP hR hd hN (by rw [hc]; exact h)
  · rename_i hc; exact eff_step hP hR hd hN (by rw [hc]; exact h)
  · rename_i hc; exact eff_step hP hR hd hN (by rw [hc]; exact h)
  · rename_i hc; exact eff_step hP hR hd hN (by rw [hc]; exact h)
  · exact pure_step hP hR hd hN h

/-- Each guard looks at an operation that writes a slot. -/
def guardsOk (ops : Array Oper) : Bool := ops.toList.all fun o => match o.guard with | none => true | some (j, _) => ((ops[j]?).bind (·.dst)).isSome

theorem opsA_sound (hP : TabOk P T) {ops : Array Oper} (hg : guardsOk ops = true) {Q : Exit → Act → World → Prop} {K : St → Prop} (hQ : ∀ a' w', After T w0 outs K a' w' → Q .normal a' w') :
    ∀ (l : List Oper) (k : Nat), ops.toList.drop k = l → ∀ {σ : St} {a : Act} {w : World} {F : Nat → Prop} {ρ : Nat → RI}, Rel T w F ρ w0 σ a.tmps outs → a.defers = [] → opsA P T (l.map (strip ops)) K σ →
      wpOps P ops Q (List.range' k l.length) a w
  | [], k, _, σ, a, w, F, ρ, hR, hd, h => hQ a w ⟨σ, F, ρ, h, hd, hR⟩
  | o :: l, k, hk, σ, a, w, F, ρ, hR, hd, h => by
    have ho : ops[k]? = some o := by
      have : (ops.toList.drop k)[0]? = some o := by rw [hk]; rfl
      simpa using this
    have hk' : ops.toList.drop (k + 1) = l := by
      have := congrArg List.tail hk
      simpa using this
    simp only [List.length_cons, List.range'_succ, wpOps, ho]
    simp only [List.map_cons] at h
    unfold opsA at h
    have hgo := List.all_eq_true.1 hg o (by rw [← List.take_append_drop k ops.toList, hk]; simp)
    obtain ⟨g, h, hw⟩ := guardA_sound hR hgo h
    have := opG_sound (Q := Q) hP hR hd (N := wpOps P ops Q (List.range' (k + 1) l.length)) (fun a' w' ⟨σ', F', ρ', q1, q2, q3⟩ => opsA_sound hP hg hQ l (k + 1) hk' q3 q2 q1) h
    rw [hw]
    cases g with
    | true => exact .inl this
    | false => exact this

end Go.Eng
