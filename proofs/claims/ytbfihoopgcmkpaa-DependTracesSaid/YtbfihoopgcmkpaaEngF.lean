/- That the machine yields what the abstract state says: operations that leave the memory alone. -/
import Derived.Test.YtbfihoopgcmkpaaEngE
namespace Go.Eng
set_option linter.unusedSimpArgs false
set_option linter.unusedVariables false
open Go.RowKit

variable {P : Program} {T : Tab} {w w' : World} {w0 : Base} {F : Nat → Prop} {ρ : Nat → RI} {σ : St} {a : Act} {outs : List (Array Value)}

theorem pickA_sound (hR : Rel T w F ρ w0 σ a.tmps outs) {g : Bool} {c x y : Operand} {K : E → Prop} (h : pickA σ g c x y K) :
    ∃ e, K e ∧ (g = true → Yields1 P T w F ρ a (.pick c x y) e) := by
  obtain ⟨ec, h1, hc⟩ := evalO_sound hR h
  split at h1; rotate_left; · exact h1.elim
  rename_i cb
  obtain ⟨ea, h2, ha⟩ := evalO_sound hR h1
  obtain ⟨eb, h3, hb⟩ := evalO_sound hR h2
  have run : ∀ W : World, g = true → ∀ o : Oper, o.op = .pick c x y → (execOp a.eval o).run P W = .ok (.value (if cb then a.eval x else a.eval y)) W := by
    intro W hg o ho
    have hcv : a.eval c = .bool cb := hc hg
    simp [execOp, ho, hcv, asBool]
  split at h3
  · rename_i p q
    refine ⟨_, h3, fun hg => ⟨_, ?_, fun W _ => run W hg⟩⟩
    cases cb
    · exact hb (by simp [hg])
    · exact ha (by simp [hg])
  · rename_i k p k' q
    obtain ⟨rfl, h3⟩ := h3
    refine ⟨_, h3, fun hg => ⟨_, ?_, fun W _ => run W hg⟩⟩
    cases cb
    · exact hb (by simp [hg])
    · exact ha (by simp [hg])
  · exact h3.elim

theorem loadA_sound (hP : TabOk P T) (hR : Rel T w F ρ w0 σ a.tmps outs) {g : Bool} {t : TypeId} {x : Operand} {ex : E} {K : E → Prop} (hx : g = true → ERel T w F ρ ex (a.eval x)) (h : loadA T σ g t ex K) :
    ∃ e, K e ∧ (g = true → Yields1 P T w F ρ a (.load t x) e) := by
  have fin : ∀ (W : World) (b off : Nat) (cs : List Value) (v : Value), a.eval x = .pointer (some ⟨b, off, none⟩) → Seg W b off cs → T.ty t ≠ .other → cs.length = T.sz t → ValOf T t v cs →
      ∀ o : Oper, o.op = .load t x → (execOp a.eval o).run P W = .ok (.value v) W := by
    intro W b off cs v hv hs ht hl hval o ho
    simp [execOp, ho, hv, Instr.loadAt, Instr.sureAddr, run_loadVar_seg hP ht hs hl hval]
  unfold loadA at h
  split at h
  · rename_i t' v
    obtain ⟨rfl, h⟩ := h
    refine ⟨_, h, fun hg => ?_⟩
    obtain ⟨b, off, cs, h1, h2, h3, h4⟩ := hx hg
    obtain ⟨y, hy⟩ := valOf_take hP.sized h4
    exact ⟨y, fromV_rel h4 hy, fun W hW => fin W b off cs y h1 (h3.later (hR.fsub b h2) hW) h4.notOther (h4.len hP.sized) hy⟩
  · rename_i i p t'
    obtain ⟨rfl, h⟩ := h
    split at h; rotate_left; · exact h.elim
    rename_i tv e ho
    have hob := hR.ob _ _ ho
    cases p with
    | nil =>
      refine ⟨_, h, fun hg => ?_⟩
      obtain ⟨b, root, off, h1, h2, h3⟩ := hx hg
      rw [h1] at hob
      obtain ⟨⟨q1, q1', _⟩, q2, q3, cs, ct, v, q4, q5, q6, q7⟩ := hob
      cases h2
      subst q1
      have hlt : b < w.heap.size := (Array.getElem?_eq_some_iff.1 q4).1
      exact ⟨v, q5, fun W hW => fin W b 0 cs.toList v h3 (seg_all ((hW.block b hlt).trans q4)) q1' (by simpa using q6.1) q6.valOf⟩
    | cons k p =>
      simp only at h
      split at h; rotate_left; · exact h.elim
      rename_i td v
      refine ⟨_, h, fun hg => ?_⟩
      obtain ⟨b, root, off, h1, h2, h3⟩ := hx hg
      rw [h1] at hob
      obtain ⟨⟨q1, q1', q1''⟩, q2, q3, cs, ct, y, q4, q5, q6, q7⟩ := hob
      obtain ⟨cs', rfl, hA, hf⟩ := q5
      have := q1'' _ _ rfl
      subst this
      subst q1
      have hcs : cs' = cs := by have := q6.2; rw [if_pos hA] at this; simpa using this
      subst hcs
      have hlt : b < w.heap.size := (Array.getElem?_eq_some_iff.1 q4).1
      obtain ⟨g1, g2⟩ := h2.get hP.sized hf
      obtain ⟨z, hz⟩ := valOf_take hP.sized g1
      exact ⟨z, fromV_rel g1 hz, fun W hW => fin W b off _ z h3 (seg_of_cells ((hW.block b hlt).trans q4) off _) g1.notOther (g1.len hP.sized) hz⟩
  · rename_i i j p t'
    obtain ⟨rfl, h⟩ := h
    split at h
    rotate_left
    · rename_i e l ho
      obtain ⟨⟨rfl, rfl, hj⟩, h⟩ := h
      have hob := hR.ob _ _ ho
      refine ⟨_, h, fun hg => ?_⟩
      have hj := hj hg
      obtain ⟨b, e', n, cap, off, h1, h2, h3⟩ := hx hg
      rw [h1] at hob
      obtain ⟨rfl, q2, ⟨z1, z2, z3⟩, xs, q3, q4, q5⟩ := hob
      cases h2
      rcases q3.2 with ⟨q, _⟩ | ⟨b', cap', cur, hr, hb, hh, hn, hc, hs, htk⟩
      · cases q
      · cases hr
        have hlt : b < w.heap.size := (Array.getElem?_eq_some_iff.1 hh).1
        obtain ⟨z, hz1, hz2⟩ := q4.at hj
        refine ⟨z, hz2, fun W hW => ?_⟩
        have hxs : Seg W b 0 xs := by
          have := seg_of_cells (w := W) ((hW.block b hlt).trans hh) 0 (l.length * T.sz e')
          rw [List.drop_zero, htk] at this
          exact this
        have hseg : Seg W b (j * T.sz e' + 0) [z] := by
          intro k y hy
          have hk : k = 0 := by
            have := (List.getElem?_eq_some_iff.1 hy).1
            simp at this; omega
          subst hk
          simp at hy
          subst hy
          have := hxs j z hz1
          rw [z1]
          simpa using this
        exact fin W b _ [z] z h3 hseg z3 (by rw [z1]; rfl) (by unfold ValOf; rw [z2]; rfl)
    · exact h.elim
    rename_i e l ho
    have hob := hR.ob _ _ ho
    refine ⟨_, h.2, fun hg => ?_⟩
    have hj := h.1 hg
    obtain ⟨b, e', n, cap, off, h1, h2, h3⟩ := hx hg
    rw [h1] at hob
    obtain ⟨rfl, q2, xs, q3, q4⟩ := hob
    rcases q3.2 with ⟨q, _⟩ | ⟨b', cap', cur, hr, hb, hh, hn, hc, hs, htk⟩
    · cases q
    · cases hr
      have hlt : b < w.heap.size := (Array.getElem?_eq_some_iff.1 hh).1
      have hrep : (List.replicate l.length e')[j]? = some e' := by simp [hj]
      have hel := q4.nth hP.sized hrep
      rw [offs_replicate T _ j e' (by omega)] at hel
      obtain ⟨g1, g2⟩ := h2.get hP.sized hel
      obtain ⟨z, hz⟩ := valOf_take hP.sized g1
      refine ⟨z, fromV_rel g1 hz, fun W hW => ?_⟩
      have hseg : Seg W b (j * T.sz e' + off) (((xs.drop (j * T.sz e')).take (T.sz e')).drop off |>.take (T.sz t')) := by
        have hxs : Seg W b 0 xs := by
          have := seg_of_cells (w := W) ((hW.block b hlt).trans hh) 0 (l.length * T.sz e')
          rw [List.drop_zero, htk] at this
          exact this
        have s1 := (hxs.sub (j * T.sz e') (T.sz e')).sub off (T.sz t')
        rwa [Nat.zero_add] at s1
      exact fin W b _ _ z h3 hseg g1.notOther (g1.len hP.sized) hz
  · exact h.elim

theorem fieldAddrA_sound (hP : TabOk P T) {g : Bool} {s : TypeId} {k : Nat} {x : Operand} {ex : E} {K : E → Prop} (hx : g = true → ERel T w F ρ ex (a.eval x)) (h : fieldAddrA T s k ex K) :
    ∃ e, K e ∧ (g = true → Yields1 P T w F ρ a (.fieldAddr s x k) e) := by
  unfold fieldAddrA at h
  split at h; rotate_left; · exact h.elim
  rename_i ts hs
  split at h; rotate_left; · exact h.elim
  rename_i u hu
  obtain ⟨fs, f1, f2, _, f3⟩ := hP.struct _ _ hs
  obtain ⟨f, hf⟩ : ∃ f, fs[k]? = some f := by
    have : fs.toList[k]?.map (·.type) = some u := by rw [← List.getElem?_map, f2]; exact hu
    cases hk : fs[k]? with
    | none => simp [hk] at this
    | some f => exact ⟨f, rfl⟩
  have hfu : f.type = u := by
    have : fs.toList[k]?.map (·.type) = some u := by rw [← List.getElem?_map, f2]; exact hu
    simpa [hf] using this
  obtain ⟨o1, o2, _, hno⟩ := f3 k f hf
  have run : ∀ (W : World) (b off : Nat), a.eval x = .pointer (some ⟨b, off, none⟩) → ∀ o : Oper, o.op = .fieldAddr s x k →
      (execOp a.eval o).run P W = .ok (.value (.pointer (some ⟨b, off + T.offs ts k, none⟩))) W := by
    intro W b off hv o ho
    have hne : ¬ T.sz f.type = 0 := by omega
    simp [execOp, ho, hv, Instr.fieldAt, Instr.sureAddr, run_underlying f1, hf, fieldPlace, run_sizeOf hP hno, hne, addr_add, o1]
  split at h
  · rename_i i p s'
    obtain ⟨rfl, h⟩ := h
    refine ⟨_, h, fun hg => ?_⟩
    obtain ⟨b, root, off, h1, h2, h3⟩ := hx hg
    exact ⟨_, ⟨b, root, _, h1, .fld h2 hs hu, rfl⟩, fun W _ => run W b off h3⟩
  · rename_i i j p s'
    obtain ⟨rfl, h⟩ := h
    refine ⟨_, h, fun hg => ?_⟩
    obtain ⟨b, e, n, cap, off, h1, h2, h3⟩ := hx hg
    exact ⟨_, ⟨b, e, n, cap, _, h1, .fld h2 hs hu, rfl⟩, fun W _ => by rw [← Nat.add_assoc]; exact run W b _ h3⟩
  · rename_i s' v
    obtain ⟨rfl, h⟩ := h
    refine ⟨_, h, fun hg => ?_⟩
    obtain ⟨b, off, cs, h1, h2, h3, h4⟩ := hx hg
    obtain ⟨l, rfl, h5⟩ := h4.inv' hs
    exact ⟨_, ⟨b, off + T.offs ts k, _, rfl, h2, h3.sub _ _, h5.nth hP.sized hu⟩, fun W _ => run W b off h1⟩
  · exact h.elim

theorem indexAddrA_sound (hP : TabOk P T) {g : Bool} {t : TypeId} {x y : Operand} {ex : E} {k : IntKind} {n : Int} {K : E → Prop} (hx : g = true → ERel T w F ρ ex (a.eval x))
    (hy : g = true → a.eval y = .int k n) (h : indexAddrA T g t ex n K) : ∃ e, K e ∧ (g = true → Yields1 P T w F ρ a (.indexAddr t x y) e) := by
  unfold indexAddrA at h
  split at h
  · rename_i m e ht
    obtain ⟨hu, h1m, hse, hno⟩ := hP.arr _ _ _ ht
    obtain ⟨hb, h⟩ := h
    have run : ∀ (W : World) (b off : Nat), g = true → a.eval x = .pointer (some ⟨b, off, none⟩) → ∀ o : Oper, o.op = .indexAddr t x y →
        (execOp a.eval o).run P W = .ok (.value (.pointer (some ⟨b, off + n.toNat * T.sz e, none⟩))) W := by
      intro W b off hg hv o ho
      obtain ⟨b1, b2⟩ := hb hg
      simp [execOp, ho, hv, hy hg, Instr.indexAt, asIntOf, Instr.sureAddr, run_underlying hu, run_sizeOf hP hno, b1, b2, addr_add]
    have hlt : g = true → n.toNat < m := fun hg => by have := hb hg; omega
    split at h
    · rename_i j p t'
      obtain ⟨rfl, h⟩ := h
      refine ⟨_, h, fun hg => ?_⟩
      obtain ⟨b, root, off, h1, h2, h3⟩ := hx hg
      exact ⟨_, ⟨b, root, _, h1, .idx h2 ht (hlt hg), rfl⟩, fun W _ => run W b off hg h3⟩
    · rename_i j q p t'
      obtain ⟨rfl, h⟩ := h
      refine ⟨_, h, fun hg => ?_⟩
      obtain ⟨b, e', n', cap, off, h1, h2, h3⟩ := hx hg
      exact ⟨_, ⟨b, e', n', cap, _, h1, .idx h2 ht (hlt hg), rfl⟩, fun W _ => by rw [← Nat.add_assoc]; exact run W b _ hg h3⟩
    · rename_i t' v
      obtain ⟨rfl, h⟩ := h
      refine ⟨_, h, fun hg => ?_⟩
      obtain ⟨b, off, cs, h1, h2, h3, h4⟩ := hx hg
      obtain ⟨l, rfl, h5⟩ := h4.inv' ht
      have hrep : (List.replicate m e)[n.toNat]? = some e := by simp [hlt hg]
      have h6 := h5.nth hP.sized hrep
      rw [offs_replicate T _ _ e (Nat.le_of_lt (hlt hg))] at h6
      exact ⟨_, ⟨b, off + n.toNat * T.sz e, _, rfl, h2, h3.sub _ _, h6⟩, fun W _ => run W b off hg h1⟩
    · exact h.elim
  · rename_i e ht
    obtain ⟨hu, hno⟩ := hP.slice _ _ ht
    have run : ∀ (W : World) (b off len cap : Nat), g = true → a.eval x = .slice (some ⟨b, off, none⟩) len cap → 0 ≤ n → n < len → ∀ o : Oper, o.op = .indexAddr t x y →
        (execOp a.eval o).run P W = .ok (.value (.pointer (some ⟨b, off + n.toNat * T.sz e, none⟩))) W := by
      intro W b off len cap hg hv b1 b2 o ho
      simp [execOp, ho, hv, hy hg, Instr.indexAt, asIntOf, run_underlying hu, run_sizeOf hP hno, b1, b2, addr_add]
    split at h
    · rename_i e' l c
      obtain ⟨rfl, hb, h⟩ := h
      refine ⟨_, h, fun hg => ?_⟩
      obtain ⟨b1, b2⟩ := hb hg
      rcases hx hg with ⟨h1, h2⟩ | ⟨b, off, cap, cs, h1, h2, h3, h4, h5, h6⟩
      · subst h2; simp at b2; omega
      · have hlt : n.toNat < l.length := by omega
        have hrep : (List.replicate l.length e')[n.toNat]? = some e' := by simp [hlt]
        have h7 := h6.nth hP.sized hrep
        rw [offs_replicate T _ _ e' (Nat.le_of_lt hlt)] at h7
        exact ⟨_, ⟨b, off + n.toNat * T.sz e', _, rfl, h4, h5.sub _ _, h7⟩, fun W _ => run W b off _ cap hg h1 b1 b2⟩
    · rename_i j e' lo len c
      obtain ⟨rfl, hb, h⟩ := h
      refine ⟨_, h, fun hg => ?_⟩
      obtain ⟨b1, b2⟩ := hb hg
      rcases hx hg with ⟨h1, h2, h3, h4⟩ | ⟨b, n', cap, off, h1, h2, h3, h4, h5, h6⟩
      · omega
      · have hoff : off = lo * T.sz e' := by rcases h6 with h6 | h6 <;> omega
        refine ⟨_, ⟨b, e', n', cap, 0, h1, .nil, rfl⟩, fun W _ => ?_⟩
        have := run W b off len _ hg h4 b1 b2
        rw [hoff, ← Nat.add_mul] at this
        exact this
    · exact h.elim
  · exact h.elim

theorem fieldA_run (hP : TabOk P T) {s : TypeId} {ts : List TypeId} (hs : T.ty s = .struct ts) {k : Nat} {u : TypeId} (hu : ts[k]? = some u) {cs : Array Value} {v : V} (hf : Fits T w F s v cs.toList) :
    ∃ y, ERel T w F ρ (fromV T u (v.sub k)) y ∧ ∀ W, (Instr.field s (.agg cs) k).run P W = .ok y W := by
  obtain ⟨fs, f1, f2, _, f3⟩ := hP.struct _ _ hs
  have hk : fs.toList[k]?.map (·.type) = some u := by rw [← List.getElem?_map, f2]; exact hu
  obtain ⟨f, hfk⟩ : ∃ f, fs[k]? = some f := by
    cases hk' : fs[k]? with
    | none => simp [hk'] at hk
    | some f => exact ⟨f, rfl⟩
  have hfu : f.type = u := by simpa [hfk] using hk
  obtain ⟨o1, o2, _, hno⟩ := f3 k f hfk
  obtain ⟨l, rfl, fl⟩ := hf.inv' hs
  have n1 := fl.nth hP.sized hu
  subst hfu
  rw [← o1] at n1
  obtain ⟨y, _, hy⟩ := part_run hP n1 default
  refine ⟨y, fromV_rel n1 hy, fun W => ?_⟩
  obtain ⟨y', hr, hy'⟩ := part_run hP n1 W
  have : y' = y := by
    unfold ValOf at hy hy'
    split at hy
    · rename_i hA; rw [if_pos hA] at hy'; rw [hy, hy']
    · rename_i hA; rw [if_neg hA] at hy'; rw [hy] at hy'; simpa using hy'.symm
  subst this
  simp [Instr.field, run_underlying f1, hfk, asAgg, hr]

theorem indexA_sound (hP : TabOk P T) {g : Bool} {t : TypeId} {x y : Operand} {ex : E} {k : IntKind} {n : Int} {K : E → Prop} (hx : g = true → ERel T w F ρ ex (a.eval x))
    (hy : g = true → a.eval y = .int k n) (h : indexA T g t ex n K) : ∃ e, K e ∧ (g = true → Yields1 P T w F ρ a (.index t x y) e) := by
  unfold indexA at h
  split at h
  · rename_i m e ht
    obtain ⟨hu, h1m, hse, hno⟩ := hP.arr _ _ _ ht
    split at h; rotate_left; · exact h.elim
    rename_i t' v
    obtain ⟨rfl, hb, h⟩ := h
    refine ⟨_, h, fun hg => ?_⟩
    obtain ⟨b1, b2⟩ := hb hg
    obtain ⟨cs, h1, h2, h3⟩ := hx hg
    obtain ⟨l, rfl, h4⟩ := h3.inv' ht
    have hlt : n.toNat < m := by omega
    have hrep : (List.replicate m e)[n.toNat]? = some e := by simp [hlt]
    have n1 := h4.nth hP.sized hrep
    rw [offs_replicate T _ _ e (Nat.le_of_lt hlt)] at n1
    obtain ⟨z, _, hz⟩ := part_run hP n1 default
    refine ⟨z, fromV_rel n1 hz, fun W _ o ho => ?_⟩
    obtain ⟨z', hr, hz'⟩ := part_run hP n1 W
    have : z' = z := by
      unfold ValOf at hz hz'
      split at hz
      · rename_i hA; rw [if_pos hA] at hz'; rw [hz, hz']
      · rename_i hA; rw [if_neg hA] at hz'; rw [hz] at hz'; simpa using hz'.symm
    subst this
    simp [execOp, ho, h1, hy hg, Instr.index, asIntOf, run_underlying hu, b1, b2, run_sizeOf hP hno, hr]
  · rename_i ht
    split at h; rotate_left; · exact h.elim
    rename_i s
    obtain ⟨hb, h⟩ := h
    refine ⟨_, h, fun hg => ?_⟩
    obtain ⟨b1, b2⟩ := hb hg
    have h1 : a.eval x = .string s := hx hg
    have hlt : n.toNat < s.size := by omega
    have hlt' : n.toNat < s.data.size := hlt
    refine ⟨_, ⟨rfl, ?_⟩, fun W _ o ho => ?_⟩
    · have := UInt8.toNat_lt ((s.data[n.toNat]?).getD 0)
      simp [IntKind.has, IntKind.min, IntKind.max, IntKind.signed, IntKind.bits]
      omega
    · have hg2 : s[n.toNat]? = some s[n.toNat] := by simp [hlt]
      have hd : s.data[n.toNat]? = some s[n.toNat] := by rw [Array.getElem?_eq_getElem hlt']; rfl
      rw [hd]
      simp [execOp, ho, h1, hy hg, Instr.index, asIntOf, run_underlying (hP.str _ ht), b1, hg2]
  · exact h.elim

end Go.Eng
