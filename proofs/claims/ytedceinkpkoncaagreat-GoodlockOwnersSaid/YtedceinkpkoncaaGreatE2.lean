/- That the machine yields what the abstract state says: slices, builtins, comparisons, literals; all operations that leave the memory alone. -/
import Derived.Test.YtedceinkpkoncaaGreatE1
import Derived.Lib.SliceRun
import Derived.Great.BuildSlice
import Derived.Great.FillDense
import Derived.Laws.MakeOwn
namespace Go.Eng
set_option linter.unusedSimpArgs false
set_option linter.unusedVariables false
open Go.RowKit

variable {P : Program} {T : Tab} {w w' : World} {w0 : Base T} {F : Nat → Prop} {ρ : Nat → RI} {σ : St} {a : Act} {outs : List (Array Value)}

/-- The bounds of a slice expression, all given or not. -/
theorem bounds_run {isS : Bool} {len cap : Nat} {lo hi mx : Option Operand} {A B M : Int} (hlo : OptIs a lo 0 A) (hhi : OptIs a hi len B) (hmx : OptIs a mx B M)
    (h0 : 0 ≤ A) (h1 : A ≤ B) (h2 : B ≤ len) (h3 : len ≤ cap) (h4 : mx.isSome = true → B = M) (h5 : mx.isSome = true → hi.isSome = true) (W : World) :
    (Instr.sliceBounds isS len cap (lo.map a.eval) (hi.map a.eval) (mx.map a.eval)).run P W = .ok (A.toNat, B.toNat, if mx.isSome then M.toNat else cap) W := by
  have c1 : B ≤ (cap : Int) := by omega
  have c2 : 0 ≤ B := by omega
  have cm : max B 0 = B := by omega
  unfold OptIs at hlo hhi hmx
  cases mx with
  | none =>
    cases hi with
    | none =>
      cases lo with
      | none => simp at hlo hhi; subst hlo; subst hhi; simp [Instr.sliceBounds]
      | some o => obtain ⟨k, hk⟩ := hlo; simp at hhi; subst hhi; simp [Instr.sliceBounds, Instr.sliceBound, hk, asIntOf, h0, h1]
    | some p =>
      obtain ⟨k, hk⟩ := hhi
      cases lo with
      | none => simp at hlo; subst hlo; simp [Instr.sliceBounds, Instr.sliceBound, hk, asIntOf, c1, c2]
      | some o =>
        obtain ⟨k', hk'⟩ := hlo
        simp [Instr.sliceBounds, Instr.sliceBound, hk, hk', asIntOf, c1, c2, h0, cm, h1]
  | some q =>
    obtain ⟨k2, hk2⟩ := hmx
    have hBM := h4 rfl
    subst hBM
    cases hi with
    | none => simp at h5
    | some p =>
      obtain ⟨k, hk⟩ := hhi
      cases lo with
      | none => simp at hlo; subst hlo; simp [Instr.sliceBounds, Instr.sliceBound, hk, hk2, asIntOf, c1, c2, cm]
      | some o =>
        obtain ⟨k', hk'⟩ := hlo
        simp [Instr.sliceBounds, Instr.sliceBound, hk, hk', hk2, asIntOf, c1, c2, cm, h0, h1]

theorem sliceA_sound (hP : TabOk P T) (hR : Rel T w F ρ w0 σ a.tmps outs) {g : Bool} {t : TypeId} {x : Operand} {lo hi mx : Option Operand} {ex : E} {K : E → Prop}
    (hx : g = true → ERel T w F ρ ex (a.eval x)) (h : sliceA T σ g t ex lo hi mx K) (hmh : mx.isSome = true → hi.isSome = true) :
    ∃ e, K e ∧ (g = true → Yields1 P T w F ρ a (.slice t x lo hi mx) e) := by
  unfold sliceA at h
  split at h
  · rename_i e ht
    obtain ⟨hu, hno⟩ := hP.slice _ _ ht
    split at h
    · rename_i e' l c
      obtain ⟨rfl, h⟩ := h
      obtain ⟨A, h, hA⟩ := evalOptI_sound hR h
      obtain ⟨B, h, hB⟩ := evalOptI_sound hR h
      obtain ⟨M, h, hM⟩ := evalOptI_sound hR h
      obtain ⟨hb, h⟩ := h
      refine ⟨_, h, fun hg => ?_⟩
      obtain ⟨b0, b1, b2, b3⟩ := hb hg
      have run : ∀ (W : World) (b off cap : Nat), a.eval x = .slice (some ⟨b, off, none⟩) l.length cap → l.length ≤ cap → ∀ o : Oper, o.op = .slice t x lo hi mx →
          (execOp a.eval o).run P W = .ok (.value (.slice (some ⟨b, if (if mx.isSome then M.toNat else cap) = A.toNat then off else off + A.toNat * T.sz e', none⟩) (B.toNat - A.toNat) ((if mx.isSome then M.toNat else cap) - A.toNat))) W := by
        intro W b off cap hv hc o ho
        have hbr := bounds_run (P := P) (isS := true) (hA hg) (hB hg) (hM hg) b0 b1 b2 hc b3 hmh W
        by_cases hm : (if mx.isSome then M.toNat else cap) = A.toNat
        · simp [execOp, ho, hv, Instr.sliceAt, Instr.slice, run_underlying hu, hbr, run_sizeOf hP hno, hm]
        · simp [execOp, ho, hv, Instr.sliceAt, Instr.slice, run_underlying hu, hbr, run_sizeOf hP hno, hm, addr_add]
      rcases hx hg with ⟨ad, c0, h1, h2, h3, h4⟩ | ⟨b, off, cap, cs, h1, h2, h3, h4, h5, h6⟩
      · subst h2
        simp only [List.length_nil] at b2 hB
        have e1 : A = 0 := by omega
        have e2 : B = 0 := by omega
        subst e1; subst e2
        have hbr := fun W => bounds_run (P := P) (isS := true) (len := 0) (cap := c0) (hA hg) (hB hg) (hM hg) (by omega) (by omega) (by omega) (by omega) b3 hmh W
        refine ⟨.slice ad 0 (if mx.isSome then M.toNat else c0), .inl ⟨ad, _, rfl, by simp, fun h => ?_, fun h => ?_⟩, fun W _ o ho => ?_⟩
        · split
          · rename_i q; have := b3 q; omega
          · exact h3 h
        · simp only [List.length_nil, Int.natCast_zero, decide_true, Bool.and_true, Bool.or_eq_true] at h
          split
          · rename_i q; have := b3 q; omega
          · rename_i q; exact h4 (h.resolve_left q)
        · have hbr := hbr W
          simp only [Int.toNat_zero] at hbr
          cases ad with
          | none =>
            have hm0 : (if mx.isSome then M.toNat else c0) = 0 := by
              split
              · rename_i q; have := b3 q; omega
              · exact h3 rfl
            rw [hm0] at hbr ⊢
            simp [execOp, ho, h1, Instr.sliceAt, Instr.slice, run_underlying hu, hbr, run_sizeOf hP hno]
          | some ad => simp [execOp, ho, h1, Instr.sliceAt, Instr.slice, run_underlying hu, hbr, run_sizeOf hP hno, Addr.add]
      · refine ⟨_, .inr ⟨b, if (if mx.isSome then M.toNat else cap) = A.toNat then off else off + A.toNat * T.sz e', (if mx.isSome then M.toNat else cap) - A.toNat, (cs.drop (A.toNat * T.sz e')).take ((B.toNat - A.toNat) * T.sz e'), ?_, ?_, ?_, h4, ?_, ?_⟩, fun W _ => run W b off cap h1 h2⟩
        · have : ((l.drop A.toNat).take (B.toNat - A.toNat)).length = B.toNat - A.toNat := by simp; omega
          rw [this]
        · have : ((l.drop A.toNat).take (B.toNat - A.toNat)).length = B.toNat - A.toNat := by simp; omega
          rw [this]
          split
          · rename_i q; have := b3 q; omega
          · omega
        · intro hc
          have : ((l.drop A.toNat).take (B.toNat - A.toNat)).length = B.toNat - A.toNat := by simp; omega
          rw [this]
          simp only [Bool.or_eq_true, Bool.and_eq_true, decide_eq_true_eq] at hc
          split
          · rename_i q; have := b3 q; omega
          · rename_i q
            rcases hc with hc | ⟨hc1, hc2⟩
            · exact absurd hc q
            · have := h3 hc1; omega
        · by_cases hm : (if mx.isSome then M.toNat else cap) = A.toNat
          · have : B.toNat - A.toNat = 0 := by
              split at hm
              · rename_i q; have := b3 q; omega
              · omega
            rw [this]
            intro j y hy
            simp at hy
          · rw [if_neg hm]
            exact h5.sub _ _
        · have : ((l.drop A.toNat).take (B.toNat - A.toNat)).length = B.toNat - A.toNat := by simp; omega
          rw [this]
          exact h6.slice hP.sized (by omega)
    · rename_i i e' l0 len c
      obtain ⟨rfl, h⟩ := h
      obtain ⟨A, h, hA⟩ := evalOptI_sound hR h
      obtain ⟨B, h, hB⟩ := evalOptI_sound hR h
      obtain ⟨M, h, hM⟩ := evalOptI_sound hR h
      obtain ⟨hb, hcl, h⟩ := h
      refine ⟨_, h, fun hg => ?_⟩
      obtain ⟨b0, b1, b2, b3⟩ := hb hg
      rcases hx hg with ⟨h1, h2, h3, h4⟩ | ⟨b, n, cap, off, h1, h2, h3, h4, h5, h6⟩
      · subst h3; subst h4
        have e1 : A = 0 := by omega
        have e2 : B = 0 := by omega
        subst e1; subst e2
        refine ⟨.slice none 0 0, .inl ⟨h1, rfl, rfl, rfl⟩, fun W _ o ho => ?_⟩
        have hbr := bounds_run (P := P) (isS := true) (len := 0) (cap := 0) (hA hg) (hB hg) (hM hg) (by omega) (by omega) (by omega) (by omega) b3 hmh W
        have hm0 : (if mx.isSome then M.toNat else 0) = 0 := by
          split
          · rename_i q; have := b3 q; omega
          · rfl
        simp only [hm0, Int.toNat_zero] at hbr
        simp [execOp, ho, h2, Instr.sliceAt, Instr.slice, run_underlying hu, hbr, run_sizeOf hP hno]
      · generalize hcap : (if c = true then len else cap - l0) = cap' at h4
        have hc : len ≤ cap' := by subst hcap; split <;> omega
        have hbr := fun W => bounds_run (P := P) (isS := true) (hA hg) (hB hg) (hM hg) b0 b1 b2 hc b3 hmh W
        refine ⟨.slice (some ⟨b, if (if mx.isSome then M.toNat else cap') = A.toNat then off else off + A.toNat * T.sz e', none⟩) (B.toNat - A.toNat) ((if mx.isSome then M.toNat else cap') - A.toNat),
          .inr ⟨b, n, cap, if (if mx.isSome then M.toNat else cap') = A.toNat then off else off + A.toNat * T.sz e', h1, by omega, h3, ?_, ?_, ?_⟩, fun W _ o ho => ?_⟩
        · congr 1
          by_cases hmx : mx.isSome = true
          · have := b3 hmx
            simp [hmx]
            omega
          · simp only [hmx, Bool.false_eq_true, if_false, Bool.false_or]
            subst hcap
            cases c
            · simp; omega
            · have := (hcl rfl).resolve_left hmx
              simp [this]
        · intro q
          have e1 : l0 = 0 := by omega
          have e2 : A.toNat = 0 := by omega
          have e3 := h5 e1
          subst e3
          rw [e2]
          split <;> simp
        · by_cases hm : (if mx.isSome then M.toNat else cap') = A.toNat
          · left
            split at hm
            · rename_i q; have := b3 q; omega
            · omega
          · rw [if_neg hm]
            rcases h6 with h6 | h6
            · left; omega
            · right; rw [h6, Nat.add_mul]
        · by_cases hm : (if mx.isSome then M.toNat else cap') = A.toNat
          · simp [execOp, ho, h4, Instr.sliceAt, Instr.slice, run_underlying hu, hbr W, run_sizeOf hP hno, hm]
          · simp [execOp, ho, h4, Instr.sliceAt, Instr.slice, run_underlying hu, hbr W, run_sizeOf hP hno, hm, addr_add]
    · exact h.elim
  · rename_i n e ht
    obtain ⟨hu, h1n, hse, hno⟩ := hP.arr _ _ _ ht
    split at h; rotate_left; · exact h.elim
    rename_i t' v
    obtain ⟨rfl, hmx, h⟩ := h
    have hmx' : mx = none := by cases mx <;> simp_all
    subst hmx'
    obtain ⟨A, h, hA⟩ := evalOptI_sound hR h
    obtain ⟨B, h, hB⟩ := evalOptI_sound hR h
    obtain ⟨hb, h⟩ := h
    refine ⟨_, h, fun hg => ?_⟩
    obtain ⟨b0, b1, b2⟩ := hb hg
    obtain ⟨b, off, cs, h1, h2, h3, h4⟩ := hx hg
    obtain ⟨l, rfl, h5⟩ := h4.inv' ht
    have hl := h5.lens
    rw [List.length_replicate] at hl
    have hbr := fun W => bounds_run (P := P) (isS := false) (len := n) (cap := n) (mx := none) (M := B) (hA hg) (hB hg) rfl b0 b1 b2 (Nat.le_refl _) (by simp) (by simp) W
    simp only [Option.map_none, Option.isSome_none, Bool.false_eq_true, if_false] at hbr
    have hlen : ((l.drop A.toNat).take (B.toNat - A.toNat)).length = B.toNat - A.toNat := by simp; omega
    refine ⟨.slice (some ⟨b, if n = A.toNat then off else off + A.toNat * T.sz e, none⟩) (B.toNat - A.toNat) (n - A.toNat), .inr ⟨b, if n = A.toNat then off else off + A.toNat * T.sz e, n - A.toNat, (cs.drop (A.toNat * T.sz e)).take ((B.toNat - A.toNat) * T.sz e), ?_, ?_, ?_, h2, ?_, ?_⟩, fun W _ o ho => ?_⟩
    · simp only [V.toList_agg]; rw [hlen]
    · simp only [V.toList_agg]; rw [hlen]; omega
    · intro hd
      simp only [decide_eq_true_eq] at hd
      simp only [V.toList_agg]; rw [hlen]; omega
    · by_cases hm : n = A.toNat
      · have : B.toNat - A.toNat = 0 := by omega
        rw [this]
        intro j y hy
        simp at hy
      · rw [if_neg hm]
        exact h3.sub _ _
    · simp only [V.toList_agg]
      rw [hlen]
      exact h5.slice hP.sized (by omega)
    · by_cases hm : n = A.toNat
      · have hb2 := hbr W
        rw [if_pos hm]
        have hm' : (n = A.toNat) = True := by simp [hm]
        simp [execOp, ho, h1, Instr.sliceAt, Instr.sureAddr, run_underlying hu, hb2, run_sizeOf hP hno, hm']
      · simp [execOp, ho, h1, Instr.sliceAt, Instr.sureAddr, run_underlying hu, hbr W, run_sizeOf hP hno, hm, addr_add]
  · exact h.elim

theorem builtinA_sound (hP : TabOk P T) {g : Bool} {c : Call} {b : Builtin} {es : List E} {K : E → Prop} (hc : c.callee = .builtin b) (hx : g = true → ERelL T w F ρ es (c.args.toList.map a.eval))
    (h : builtinA T g b c.argTypes.toList es K) : ∃ e, K e ∧ (g = true → Yields1 P T w F ρ a (.call c) e) := by
  unfold builtinA at h
  split at h
  · rename_i t x hts
    have hx' : g = true → ∃ o v, c.args = #[o] ∧ a.eval o = v ∧ ERel T w F ρ x v := by
      intro hg
      have h1 := hx hg
      match hl : c.args.toList, h1 with
      | [o], h1 => exact ⟨o, _, by rw [← Array.toArray_toList (xs := c.args), hl], rfl, h1.1⟩
    have hat : c.argTypes = #[t] := by rw [← Array.toArray_toList (xs := c.argTypes), hts]
    split at h
    · rename_i e ht
      obtain ⟨hu, hno⟩ := hP.slice _ _ ht
      have run : ∀ (W : World) (o : Operand) (ad : Option Addr) (n cp : Nat), c.args = #[o] → a.eval o = .slice ad n cp → ∀ op : Oper, op.op = .call c → (execOp a.eval op).run P W = .ok (.value (.int .i64 n)) W := by
        intro W o ad n cp h1 h2 op hop
        simp [execOp, hop, resolve, hc, h1, h2, invoke, builtin, Builtin.len_, hat, run_underlying hu, goInt]
      have lenHas : ∀ n : Nat, n ≤ maxLen → IntKind.i64.has (n : Int) := by
        intro n hn
        unfold maxLen at hn
        simp [IntKind.has, IntKind.min, IntKind.max, IntKind.signed, IntKind.bits]
        omega
      split at h
      · rename_i e' l cl
        refine ⟨_, h.2, fun hg => ?_⟩
        obtain ⟨o, v, h1, h2, h3⟩ := hx' hg
        have hl := lenHas _ (h.1 hg)
        rcases h3 with ⟨ad, c0, q1, q2, _⟩ | ⟨b', off, cap, cs, q1, q2, _⟩
        · subst q2
          exact ⟨_, ⟨rfl, hl⟩, fun W _ => run W o ad 0 c0 h1 (h2.trans q1)⟩
        · exact ⟨_, ⟨rfl, hl⟩, fun W _ => run W o _ _ _ h1 (h2.trans q1)⟩
      · rename_i i e' lo n cl
        refine ⟨_, h.2, fun hg => ?_⟩
        obtain ⟨o, v, h1, h2, h3⟩ := hx' hg
        have hl := lenHas _ (h.1 hg)
        rcases h3 with ⟨_, q1, _, q2⟩ | ⟨b', n', cap, off, _, _, _, q1, _⟩
        · subst q2
          exact ⟨_, ⟨rfl, hl⟩, fun W _ => run W o none 0 0 h1 (h2.trans q1)⟩
        · exact ⟨_, ⟨rfl, hl⟩, fun W _ => run W o _ _ _ h1 (h2.trans q1)⟩
      · refine ⟨_, h, fun hg => ?_⟩
        obtain ⟨o, v, h1, h2, h3⟩ := hx' hg
        exact ⟨_, ⟨rfl, lenHas 0 (by decide)⟩, fun W _ => run W o none 0 0 h1 (h2.trans h3)⟩
      · exact h.elim
    · rename_i ht
      split at h; rotate_left; · exact h.elim
      rename_i s
      refine ⟨_, h.2, fun hg => ?_⟩
      obtain ⟨o, v, h1, h2, h3⟩ := hx' hg
      have h2' : a.eval o = .string s := h2.trans h3
      have hl : IntKind.i64.has (s.size : Int) := by
        have := h.1 hg
        unfold maxLen at this
        simp [IntKind.has, IntKind.min, IntKind.max, IntKind.signed, IntKind.bits]
        omega
      refine ⟨_, ⟨rfl, hl⟩, fun W _ op hop => ?_⟩
      simp [execOp, hop, resolve, hc, h1, h2', invoke, builtin, Builtin.len_, hat, run_underlying (hP.str _ ht), goInt]
    · exact h.elim
  · obtain ⟨rfl, h⟩ := h
    refine ⟨_, h, fun hg => ?_⟩
    have h1 := hx hg
    match hl : c.args.toList, h1 with
    | [o1, o2], h1 =>
      have ha : c.args = #[o1, o2] := by rw [← Array.toArray_toList (xs := c.args), hl]
      obtain ⟨⟨e1, r1⟩, ⟨e2, r2⟩, _⟩ := h1
      refine ⟨_, ⟨rfl, ?_⟩, fun W _ op hop => ?_⟩
      · unfold IntKind.has at *; omega
      · simp [execOp, hop, resolve, hc, ha, e1, e2, invoke, builtin, Builtin.min_, Builtin.min2]
        split <;> omega
  · obtain ⟨rfl, h⟩ := h
    refine ⟨_, h, fun hg => ?_⟩
    have h1 := hx hg
    match hl : c.args.toList, h1 with
    | [o1, o2], h1 =>
      have ha : c.args = #[o1, o2] := by rw [← Array.toArray_toList (xs := c.args), hl]
      obtain ⟨⟨e1, r1⟩, ⟨e2, r2⟩, _⟩ := h1
      refine ⟨_, ⟨rfl, ?_⟩, fun W _ op hop => ?_⟩
      · unfold IntKind.has at *; omega
      · simp [execOp, hop, resolve, hc, ha, e1, e2, invoke, builtin, Builtin.max_, Builtin.max2]
        split <;> omega
  · exact h.elim

theorem run_slice_nil {t e : TypeId} (h : P.underlying t = some (.slice e)) (W : World) (a : Option Addr) (n c : Nat) {op : BinOp} {b : Bool} (hb : (op = .eql ∧ b = a.isNone) ∨ (op = .neq ∧ b = !a.isNone)) :
    (binOp op t (.slice a n c) (.slice none 0 0)).run P W = .ok (.bool b) W := by
  rcases hb with ⟨rfl, rfl⟩ | ⟨rfl, rfl⟩ <;> simp only [binOp] <;> simp [Op.equal, Op.maxDepth, Lib.run_equalIn_slice_nil W 9999 t e a n c 0 0 h]

theorem eqA_sound {op : BinOp} {r : Bool} {K : E → Prop} (h : eqA op r K) : ∃ b, K (.bool b) ∧ ((op = .eql ∧ b = r) ∨ (op = .neq ∧ b = !r)) := by
  unfold eqA at h
  split at h
  · exact ⟨_, h, .inl ⟨rfl, rfl⟩⟩
  · exact ⟨_, h, .inr ⟨rfl, rfl⟩⟩
  · exact h.elim

theorem binA_sound (hP : TabOk P T) {g : Bool} {op : BinOp} {t t' : TypeId} {x y : Operand} {ex ey : E} {K : E → Prop} (hx : g = true → ERel T w F ρ ex (a.eval x)) (hy : g = true → ERel T w F ρ ey (a.eval y))
    (h : binA T op t g ex ey K) : ∃ e, K e ∧ (g = true → Yields1 P T w F ρ a (.binOp op t x y t') e) := by
  have run1 : ∀ (W : World) (v : Value), (eqGuard op t x y (a.eval x) (a.eval y)).run P W = .ok () W → (binOp op t (a.eval x) (a.eval y)).run P W = .ok v W → ∀ o : Oper, o.op = .binOp op t x y t' → (execOp a.eval o).run P W = .ok (.value v) W := by
    intro W v h1 h2 o ho
    simp [execOp, ho, h1, h2]
  have shr : (op = .shl ∨ op = .shr) → shiftA op g ex ey K → ∃ e, K e ∧ (g = true → Yields1 P T w F ρ a (.binOp op t x y t') e) := by
    intro hop h'
    unfold shiftA at h'
    split at h'; rotate_left; · exact h'.elim
    rename_i k p k' q
    split at h'; rotate_left; · exact h'.elim
    rename_i e he
    refine ⟨e, h'.2, fun hg => ?_⟩
    obtain ⟨e1, r1⟩ := hx hg
    obtain ⟨e2, _⟩ := hy hg
    obtain ⟨v, hv, _⟩ := shifts_run (P := P) (T := T) (w := w) (F := F) (ρ := ρ) (k' := k') he (h'.1 hg) r1 t default
    refine ⟨v, hv, fun W _ => run1 W v (by rcases hop with rfl | rfl <;> simp [eqGuard]) ?_⟩
    obtain ⟨v', hv', hr⟩ := shifts_run (P := P) (T := T) (w := w) (F := F) (ρ := ρ) (k' := k') he (h'.1 hg) r1 t W
    rw [e1, e2]
    have : v' = v := by
      cases op <;> simp [shifts] at he <;> subst he <;> exact hv'.1.trans hv.1.symm
    exact this ▸ hr
  have oth : (op ≠ .shl ∧ op ≠ .shr) → plainA T op t g ex ey K → ∃ e, K e ∧ (g = true → Yields1 P T w F ρ a (.binOp op t x y t') e) := by
    intro hop h'
    unfold plainA at h'
    split at h'
    · rename_i k p k' q
      obtain ⟨rfl, h'⟩ := h'
      split at h'; rotate_left; · exact h'.elim
      rename_i pre e he
      refine ⟨e, h'.2, fun hg => ?_⟩
      obtain ⟨e1, r1⟩ := hx hg
      obtain ⟨e2, _⟩ := hy hg
      obtain ⟨v, hv, _⟩ := arith_run (P := P) (T := T) (w := w) (F := F) (ρ := ρ) he (h'.1 hg) r1 t default hop
      refine ⟨v, hv, fun W _ => run1 W v (by rw [e1, e2]; cases op <;> simp [eqGuard]) ?_⟩
      obtain ⟨v', hv', hr⟩ := arith_run (P := P) (T := T) (w := w) (F := F) (ρ := ρ) he (h'.1 hg) r1 t W hop
      rw [e1, e2]
      have : v' = v := by
        cases op <;> simp [arith] at he <;> obtain ⟨_, rfl⟩ := he <;> first | exact hv'.1.trans hv.1.symm | exact Eq.trans hv' hv.symm
      exact this ▸ hr
    · rename_i p q
      obtain ⟨ht, h'⟩ := h'
      obtain ⟨b, hK, hb⟩ := eqA_sound h'
      refine ⟨_, hK, fun hg => ⟨_, rfl, fun W _ => ?_⟩⟩
      have e1 : a.eval x = .bool p := hx hg
      have e2 : a.eval y = .bool q := hy hg
      refine run1 W _ (by rw [e1, e2]; rcases hb with ⟨rfl, _⟩ | ⟨rfl, _⟩ <;> simp [eqGuard]) ?_
      rw [e1, e2]
      rcases hb with ⟨rfl, rfl⟩ | ⟨rfl, rfl⟩
      · show ((do pure (Value.bool (← Op.equal t (.bool p) (.bool q))) : Sem Value)).run P W = _
        rw [Sem.run_bind, run_equal_bool W t p q (hP.bool _ ht)]; rfl
      · show ((do pure (Value.bool (!(← Op.equal t (.bool p) (.bool q)))) : Sem Value)).run P W = _
        rw [Sem.run_bind, run_equal_bool W t p q (hP.bool _ ht)]; rfl
    · rename_i p q
      obtain ⟨b, hK, hb⟩ := eqA_sound h'
      refine ⟨_, hK, fun hg => ⟨_, rfl, fun W _ => ?_⟩⟩
      have e1 : a.eval x = .string p := hx hg
      have e2 : a.eval y = .string q := hy hg
      refine run1 W _ (by rw [e1, e2]; rcases hb with ⟨rfl, _⟩ | ⟨rfl, _⟩ <;> simp [eqGuard]) ?_
      rw [e1, e2]
      rcases hb with ⟨rfl, rfl⟩ | ⟨rfl, rfl⟩ <;> simp [binOp, Op.stringOp]
    · rename_i t1 p t2 q
      obtain ⟨rfl, rfl, hf, h'⟩ := h'
      obtain ⟨b, hK, hb⟩ := eqA_sound h'
      refine ⟨_, hK, fun hg => ⟨_, rfl, fun W _ => ?_⟩⟩
      obtain ⟨cs, e1, hA, f1⟩ := hx hg
      obtain ⟨ds, e2, _, f2⟩ := hy hg
      refine run1 W _ (by rw [e1, e2]; exact run_eqGuard_agg W op _ x y cs ds (hP.guard _ hA)) ?_
      have hq := equalIn_run hP W 20 _ hf 10000 (by omega) f1 f2 (x := .agg cs) (y := .agg ds) (by simp [ValOf, hA]) (by simp [ValOf, hA])
      rw [e1, e2]
      rcases hb with ⟨rfl, rfl⟩ | ⟨rfl, rfl⟩
      · rw [run_eql_struct, hq]; rfl
      · rw [run_neq_struct, hq]; rfl
    · rename_i e l cl
      obtain ⟨ht, h1, h2⟩ := h'
      obtain ⟨hu, _⟩ := hP.slice _ _ ht
      cases g with
      | false =>
        obtain ⟨b, hK, _⟩ := eqA_sound h1
        exact ⟨_, hK, fun hg => by cases hg⟩
      | true =>
        have e2 : a.eval y = .slice none 0 0 := hy rfl
        rcases hx rfl with ⟨ad, c0, e1, rfl, hc0, _⟩ | ⟨bb, off, cap, cs, e1, _⟩
        · cases ad with
          | none =>
            rw [hc0 rfl] at e1
            obtain ⟨b, hK, hb⟩ := eqA_sound (h2 rfl)
            refine ⟨_, hK, fun _ => ⟨_, rfl, fun W _ => run1 W _ (by rw [e1, e2]; rcases hb with ⟨rfl, _⟩ | ⟨rfl, _⟩ <;> simp [eqGuard]) ?_⟩⟩
            rw [e1, e2]
            exact run_slice_nil hu W none 0 0 hb
          | some ad =>
            obtain ⟨b, hK, hb⟩ := eqA_sound h1
            refine ⟨_, hK, fun _ => ⟨_, rfl, fun W _ => run1 W _ (by rw [e1, e2]; rcases hb with ⟨rfl, _⟩ | ⟨rfl, _⟩ <;> simp [eqGuard]) ?_⟩⟩
            rw [e1, e2]
            exact run_slice_nil hu W _ _ _ hb
        · obtain ⟨b, hK, hb⟩ := eqA_sound h1
          refine ⟨_, hK, fun _ => ⟨_, rfl, fun W _ => run1 W _ (by rw [e1, e2]; rcases hb with ⟨rfl, _⟩ | ⟨rfl, _⟩ <;> simp [eqGuard]) ?_⟩⟩
          rw [e1, e2]
          exact run_slice_nil hu W _ _ _ hb
    · rename_i i e lo n cl
      obtain ⟨ht, h1, h2⟩ := h'
      obtain ⟨hu, _⟩ := hP.slice _ _ ht
      cases g with
      | false =>
        obtain ⟨b, hK, _⟩ := eqA_sound h1
        exact ⟨_, hK, fun hg => by cases hg⟩
      | true =>
        have e2 : a.eval y = .slice none 0 0 := hy rfl
        rcases hx rfl with ⟨_, e1, _, n0⟩ | ⟨bb, n1, cap, off, _, _, _, e1, _⟩
        · obtain ⟨b, hK, hb⟩ := eqA_sound (h2 n0)
          refine ⟨_, hK, fun _ => ⟨_, rfl, fun W _ => run1 W _ (by rw [e1, e2]; rcases hb with ⟨rfl, _⟩ | ⟨rfl, _⟩ <;> simp [eqGuard]) ?_⟩⟩
          rw [e1, e2]
          exact run_slice_nil hu W none 0 0 hb
        · obtain ⟨b, hK, hb⟩ := eqA_sound h1
          refine ⟨_, hK, fun _ => ⟨_, rfl, fun W _ => run1 W _ (by rw [e1, e2]; rcases hb with ⟨rfl, _⟩ | ⟨rfl, _⟩ <;> simp [eqGuard]) ?_⟩⟩
          rw [e1, e2]
          exact run_slice_nil hu W _ _ _ hb
    · exact h'.elim
  unfold binA at h
  split at h
  · exact shr (.inl rfl) h
  · exact shr (.inr rfl) h
  · rename_i h1 h2
    exact oth ⟨h1, h2⟩ h

end Go.Eng
/- Literals of structs and arrays; and all operations that leave the memory alone, together. -/
namespace Go.Eng
set_option linter.unusedSimpArgs false
set_option linter.unusedVariables false
open Go.RowKit

variable {P : Program} {T : Tab} {w w' : World} {w0 : Base T} {F : Nat → Prop} {ρ : Nat → RI} {σ : St} {a : Act} {outs : List (Array Value)}

theorem foldl_set_splice (ds : List Value) : ∀ (k off : Nat) (cells : Array Value), off + k + ds.length ≤ cells.size →
    ((ds.zipIdx k).foldl (fun (cs : Array Value) (x : Value × Nat) => cs.setIfInBounds (off + x.2) x.1) cells).toList = splice cells.toList (off + k) ds := by
  induction ds with
  | nil => intro k off cells _; simp [splice]
  | cons d ds ih =>
    intro k off cells h
    simp only [List.length_cons] at h
    simp only [List.zipIdx_cons, List.foldl_cons]
    rw [ih (k + 1) off _ (by simp; omega)]
    simp only [Array.toList_setIfInBounds, splice, List.length_cons]
    have hk : off + k < cells.toList.length := by simp; omega
    have := list_seg_step cells.toList (off + k) d ds (by simp; omega)
    rw [show off + (k + 1) = off + k + 1 by omega]
    exact this

theorem buildA_sound (hP : TabOk P T) (hR : Rel T w F ρ w0 σ a.tmps outs) {g : Bool} {pt : Nat → Option TypeId} {place : Nat → Option (Nat × Nat)} {ts : List TypeId} (hpt : ∀ i t, pt i = some t → ts[i]? = some t)
    (hpl : ∀ i t, ts[i]? = some t → place i = some (T.offs ts i, T.sz t)) : ∀ (parts : List (Nat × Operand)) (l : List V) (cells : Array Value) {K : V → Prop},
    (g = true → FitsL T w F ts l cells.toList) → buildA T σ g pt parts (.agg l) K →
    ∃ l', K (.agg l') ∧ (g = true → ∃ r, Instr.fill place cells (parts.map fun (i, x) => (i, a.eval x)) = some r ∧ FitsL T w F ts l' r.toList)
  | [], l, cells, K, hf, h => ⟨l, h, fun hg => ⟨cells, rfl, hf hg⟩⟩
  | (i, x) :: r, l, cells, K, hf, h => by
    unfold buildA at h
    split at h; rotate_left; · exact h.elim
    rename_i t ht
    obtain ⟨e, h, he⟩ := evalO_sound hR h
    split at h; rotate_left; · exact h.elim
    rename_i y hy
    have hti := hpt _ _ ht
    by_cases hg : g = true
    · obtain ⟨q1, q2⟩ := toV_fits (he hg) hy
      have hl1 := q1.len hP.sized
      have hcl := (hf hg).len hP.sized
      have ho := offs_le T hti
      have hsz : (a.eval x).cells.size = T.sz t := by simpa using hl1
      have hin : T.offs ts i + (a.eval x).cells.size ≤ cells.size := by
        have : cells.toList.length = cells.size := by simp
        omega
      have hnew := (hf hg).setNth hP.sized hti q1
      have hspl := foldl_set_splice (a.eval x).cells.toList 0 (T.offs ts i) cells (by simp; omega)
      have harr : ((a.eval x).cells.zipIdx.foldl (fun (cs : Array Value) (x : Value × Nat) => cs.setIfInBounds (T.offs ts i + x.2) x.1) cells).toList = splice cells.toList (T.offs ts i) (a.eval x).cells.toList := by
        rw [← Array.foldl_toList, Array.toList_zipIdx]
        exact hspl
      obtain ⟨l', hK, hr⟩ := buildA_sound hP hR hpt hpl r (l.set i y) ((a.eval x).cells.zipIdx.foldl (fun (cs : Array Value) (x : Value × Nat) => cs.setIfInBounds (T.offs ts i + x.2) x.1) cells)
        (fun _ => by rw [harr]; unfold splice; rw [hl1]; exact hnew) h
      refine ⟨l', hK, fun _ => ?_⟩
      obtain ⟨R, hR1, hR2⟩ := hr hg
      refine ⟨R, ?_, hR2⟩
      simp only [List.map_cons, Instr.fill, hpl _ _ hti, hsz, ne_eq, not_true_eq_false, decide_false, Bool.false_or, decide_eq_true_eq]
      rw [if_neg (by omega)]
      exact hR1
    · obtain ⟨l', hK, _⟩ := buildA_sound hP hR hpt hpl r (l.set i y) cells (fun hg' => absurd hg' hg) h
      exact ⟨l', hK, fun hg' => absurd hg' hg⟩

theorem mapM_places (hP : TabOk P T) : ∀ (fs : List Field), (∀ f ∈ fs, T.ty f.type ≠ .other) →
    fs.mapM (fun f => (P.info? f.type).map fun i => (f.offset, i.size)) = some (fs.map fun f => (f.offset, T.sz f.type))
  | [], _ => rfl
  | f :: fs, h => by
    obtain ⟨i, h1, h2, _⟩ := hP.info f.type (h f (by simp))
    rw [List.mapM_cons, mapM_places hP fs (fun g hg => h g (by simp [hg]))]
    simp [h1, h2]

theorem build_sound (hP : TabOk P T) (hR : Rel T w F ρ w0 σ a.tmps outs) {g : Bool} {t : TypeId} {ts : List TypeId} {pt : Nat → Option TypeId} {parts : Array (Nat × Operand)} {K : E → Prop}
    (ht : T.ty t = .struct ts ∧ (pt = fun k => ts[k]?) ∨ ∃ n e, T.ty t = .arr n e ∧ ts = List.replicate n e ∧ pt = fun k => if k < n then some e else none)
    (h : buildA T σ g pt parts.toList (T.zero t) fun v => K (.data t v)) : ∃ e, K e ∧ (g = true → Yields1 P T w F ρ a (.build t parts) e) := by
  have hA : (T.ty t).isAgg = true := by rcases ht with ⟨h1, _⟩ | ⟨n, e, h1, _⟩ <;> simp [h1, TyD.isAgg]
  have hno : T.ty t ≠ .other := by intro h0; rw [h0] at hA; cases hA
  obtain ⟨it, i1, i2, i3, z, i4, i5, i6, i7, i8, _⟩ := hP.info t hno
  have hz : Fits T w F t (T.zero t) z.cells.toList := i8 (by intro h0; rw [h0] at hA; cases hA) (by intro e h0; rw [h0] at hA; cases hA) w F
  have hpt : ∀ i u, pt i = some u → ts[i]? = some u := by
    rcases ht with ⟨_, rfl⟩ | ⟨n, e, _, rfl, rfl⟩
    · exact fun i u h => h
    · intro i u h
      simp only at h
      split at h
      · rename_i hi; simp [hi]; simpa using h
      · cases h
  obtain ⟨l, hl, hfl⟩ : ∃ l, T.zero t = .agg l ∧ FitsL T w F ts l z.cells.toList := by
    rcases ht with ⟨h1, _⟩ | ⟨n, e, h1, rfl, _⟩
    · exact hz.inv' h1
    · exact hz.inv' h1
  rw [hl] at h
  obtain ⟨place, hpl, hbuilt⟩ : ∃ place : Nat → Option (Nat × Nat), (∀ i u, ts[i]? = some u → place i = some (T.offs ts i, T.sz u)) ∧
      ∀ (ps : List (Nat × Value)) (r : Array Value), Instr.fill place z.cells ps = some r → P.built t ps = some r := by
    rcases ht with ⟨h1, _⟩ | ⟨n, e, h1, rfl, _⟩
    · obtain ⟨fs, f1, f2, _, f3⟩ := hP.struct _ _ h1
      refine ⟨fun i => (fs.toList.map fun f => (f.offset, T.sz f.type)).toArray[i]?, ?_, ?_⟩
      · intro i u hu
        have : fs.toList[i]?.map (·.type) = some u := by rw [← List.getElem?_map, f2]; exact hu
        cases hk : fs[i]? with
        | none => simp [hk] at this
        | some f =>
          have hfu : f.type = u := by simpa [hk] using this
          obtain ⟨o1, _⟩ := f3 i f hk
          simp [hk, o1, hfu]
      · intro ps r hr
        have hm := mapM_places hP fs.toList (fun f hf => by
          obtain ⟨i, hi⟩ := List.mem_iff_getElem?.1 hf
          exact (f3 i f (by simpa using hi)).2.2.2)
        simp only [Program.built, i1, f1, i4, hm]
        exact hr
    · obtain ⟨hu, _, _, hno'⟩ := hP.arr _ _ _ h1
      obtain ⟨ie, j1, j2, _⟩ := hP.info e hno'
      refine ⟨fun i => some (i * ie.size, ie.size), ?_, ?_⟩
      · intro i u hu
        rw [List.getElem?_replicate] at hu
        split at hu
        · rename_i hi
          cases hu
          rw [offs_replicate T n i _ (by omega), j2]
        · cases hu
      · intro ps r hr
        simp only [Program.built, i1, hu, i4, j1]
        exact hr
  obtain ⟨l', hK, hr⟩ := buildA_sound hP hR hpt hpl parts.toList l z.cells (fun _ => hfl) h
  refine ⟨_, hK, fun hg => ?_⟩
  obtain ⟨r, r1, r2⟩ := hr hg
  refine ⟨.agg r, ⟨r, rfl, hA, ?_⟩, fun W _ o ho => ?_⟩
  · rcases ht with ⟨h1, _⟩ | ⟨n, e, h1, rfl, _⟩
    · exact .struct h1 r2
    · exact .arr h1 r2
  · have := run_build (P := P) W t (parts.map fun (i, x) => (i, a.eval x)) r (hbuilt _ _ (by simpa using r1))
    simp [execOp, ho, this]

theorem pureA_sound (hP : TabOk P T) (hR : Rel T w F ρ w0 σ a.tmps outs) {g : Bool} {op : Op} {K : E → Prop} (h : pureA T σ g op K) : ∃ e, K e ∧ (g = true → Yields1 P T w F ρ a op e) := by
  unfold pureA at h
  split at h
  · obtain ⟨e, h1, h2⟩ := evalO_sound hR h
    exact ⟨e, h1, fun hg => ⟨_, h2 hg, fun W _ o ho => by simp [execOp, ho]⟩⟩
  · obtain ⟨e, h1, h2⟩ := evalO_sound hR h
    exact ⟨e, h1, fun hg => ⟨_, h2 hg, fun W _ o ho => by simp [execOp, ho]⟩⟩
  · exact pickA_sound hR h
  · obtain ⟨e, h1, h2⟩ := evalO_sound hR h
    exact loadA_sound hP hR h2 h1
  · rename_i x
    obtain ⟨e, h1, h2⟩ := evalO_sound hR h
    split at h1
    · refine ⟨_, h1, fun hg => ⟨_, h2 hg, fun W _ o ho => ?_⟩⟩
      obtain ⟨b, root, off, _, _, h3⟩ := h2 hg
      simp [execOp, ho, h3]
    · refine ⟨_, h1, fun hg => ⟨_, h2 hg, fun W _ o ho => ?_⟩⟩
      obtain ⟨b, _, _, _, off, _, _, h3⟩ := h2 hg
      simp [execOp, ho, h3]
    · refine ⟨_, h1, fun hg => ⟨_, h2 hg, fun W _ o ho => ?_⟩⟩
      obtain ⟨b, off, cs, h3, _⟩ := h2 hg
      simp [execOp, ho, h3]
    · refine ⟨_, h1, fun hg => ⟨_, h2 hg, fun W _ o ho => ?_⟩⟩
      obtain ⟨cs, h3, _⟩ := h2 hg
      simp [execOp, ho, h3]
    · exact h1.elim
  · obtain ⟨e1, h1, h2⟩ := evalO_sound hR h
    obtain ⟨e2, h3, h4⟩ := evalO_sound hR h1
    exact binA_sound hP h2 h4 h3
  · obtain ⟨e, h1, h2⟩ := evalO_sound hR h
    split at h1
    · refine ⟨_, h1, fun hg => ⟨_, rfl, fun W _ o ho => ?_⟩⟩
      have h3 : a.eval _ = Value.bool _ := h2 hg
      simp [execOp, ho, h3, Op.unary]
    · refine ⟨_, h1, fun hg => ⟨_, ⟨rfl, wrap_has _ _⟩, fun W _ o ho => ?_⟩⟩
      have h3 := (h2 hg).1
      simp [execOp, ho, h3, Op.unary, Op.intArith]
    · exact h1.elim
  · obtain ⟨e, h1, h2⟩ := evalO_sound hR h
    split at h1
    · rename_i ks kd k n hs hd
      refine ⟨_, h1, fun hg => ⟨_, ⟨rfl, wrap_has _ _⟩, fun W _ o ho => ?_⟩⟩
      have h3 := (h2 hg).1
      simp [execOp, ho, h3, convert, run_underlying (hP.int _ _ hs), run_underlying (hP.int _ _ hd), Conv.intToInt]
    · exact h1.elim
  · rename_i f first caps
    obtain ⟨h1, h⟩ := h
    obtain ⟨es, h2, h3⟩ := evalL_sound hR h
    have hfirst : first = #[] := by simpa using h1
    refine ⟨_, h2, fun hg => ⟨_, ⟨_, rfl, h3 hg⟩, fun W _ o ho => ?_⟩⟩
    have hc : caps.map a.eval = (caps.toList.map a.eval).toArray := by
      apply Array.ext'; simp
    simp [execOp, ho, Instr.makeFunc, hfirst, hc]
  · rename_i t x lo hi mx
    obtain ⟨hm, h⟩ := h
    obtain ⟨e, h1, h2⟩ := evalO_sound hR h
    exact sliceA_sound hP hR h2 h1 (by cases mx <;> cases hi <;> simp_all)
  · obtain ⟨e, h1, h2⟩ := evalO_sound hR h
    exact fieldAddrA_sound hP h2 h1
  · obtain ⟨e, h1, h2⟩ := evalO_sound hR h
    split at h1; rotate_left; · exact h1.elim
    rename_i s x k ts s' v hs
    obtain ⟨rfl, h1⟩ := h1
    split at h1; rotate_left; · exact h1.elim
    rename_i u hu
    refine ⟨_, h1, fun hg => ?_⟩
    obtain ⟨cs, h3, h4, h5⟩ := h2 hg
    obtain ⟨y, hy, hr⟩ := fieldA_run (ρ := ρ) hP hs hu h5
    exact ⟨y, hy, fun W _ o ho => by simp [execOp, ho, h3, hr W]⟩
  · obtain ⟨e1, h1, h2⟩ := evalO_sound hR h
    obtain ⟨e2, h3, h4⟩ := evalO_sound hR h1
    split at h3; rotate_left; · exact h3.elim
    exact indexAddrA_sound hP h2 (fun hg => (h4 hg).1) h3
  · obtain ⟨e1, h1, h2⟩ := evalO_sound hR h
    obtain ⟨e2, h3, h4⟩ := evalO_sound hR h1
    split at h3; rotate_left; · exact h3.elim
    exact indexA_sound hP h2 (fun hg => (h4 hg).1) h3
  · rename_i x k
    obtain ⟨e, h1, h2⟩ := evalO_sound hR h
    split at h1; rotate_left; · exact h1.elim
    rename_i l
    split at h1; rotate_left; · exact h1.elim
    rename_i y hy
    refine ⟨y, h1, fun hg => ?_⟩
    obtain ⟨vs, h3, h4⟩ := h2 hg
    have key : ∀ (l : List E) (vs : List Value) (k : Nat) (y : E), ERelL T w F ρ l vs → l[k]? = some y → ∃ v, vs[k]? = some v ∧ ERel T w F ρ y v := by
      intro l
      induction l with
      | nil => intro vs k y _ h; simp at h
      | cons e l ih =>
        intro vs k y hr hk
        cases vs with
        | nil => exact hr.elim
        | cons v vs =>
          cases k with
          | zero => simp at hk; subst hk; exact ⟨v, rfl, hr.1⟩
          | succ k => exact ih vs k y hr.2 (by simpa using hk)
    obtain ⟨v, hv, hr⟩ := key _ _ _ _ h4 hy
    exact ⟨v, hr, fun W _ o ho => by simp [execOp, ho, h3, Instr.extract, hv]⟩
  · rename_i t parts
    split at h
    · rename_i ts ht
      exact build_sound hP hR (.inl ⟨ht, rfl⟩) h
    · rename_i n e ht
      exact build_sound hP hR (.inr ⟨n, e, ht, rfl, rfl⟩) h
    · exact h.elim
  · split at h; rotate_left; · exact h.elim
    rename_i c b hc
    obtain ⟨es, h1, h2⟩ := evalL_sound hR h
    exact builtinA_sound hP hc h2 h1
  · exact h.elim

end Go.Eng
/- How an abstract state changes: a new object, an object written in place, an object moved (what spoke of it is forgotten). -/
namespace Go.Eng
set_option linter.unusedSimpArgs false
set_option linter.unusedVariables false
open Go.RowKit

variable {P : Program} {T : Tab} {w w' : World} {w0 : Base T} {F F' : Nat → Prop} {ρ ρ' : Nat → RI} {σ : St} {tmps : Array Value} {outs : List (Array Value)}

def upd (ρ : Nat → RI) (i : Nat) (r : RI) : Nat → RI := fun j => if j = i then r else ρ j

theorem upd_self (ρ : Nat → RI) (i : Nat) (r : RI) : upd ρ i r i = r := by simp [upd]
theorem upd_ne (ρ : Nat → RI) {i j : Nat} (r : RI) (h : j ≠ i) : upd ρ i r j = ρ j := by simp [upd, h]

mutual
/-- What spoke of object i is forgotten. -/
def E.kill (i : Nat) : E → E
  | .sl j e lo len c => if j = i then .undef else .sl j e lo len c
  | .ptr j p t => if j = i then .undef else .ptr j p t
  | .rp j k p t => if j = i then .undef else .rp j k p t
  | .fn f caps => .fn f (E.killL i caps)
  | .tup l => .tup (E.killL i l)
  | e => e
def E.killL (i : Nat) : List E → List E
  | [] => []
  | e :: es => e.kill i :: E.killL i es
end

def Obj.kill (i : Nat) : Obj → Obj
  | .var t e => .var t (e.kill i)
  | .erow e l => .erow e (E.killL i l)
  | o => o

def Tm.kill (i : Nat) (tm : Tm) : Tm := tm.map fun x => (x.1, x.2.1, x.2.2.kill i)

def St.kill (i : Nat) (σ : St) : St := { σ with tm := Tm.kill i σ.tm, ob := σ.ob.map (Obj.kill i), out := σ.out.map (Tm.kill i) }

mutual
theorem ERel.killed {i : Nat} {r : RI} : ∀ {e : E} {v : Value}, ERel T w F ρ e v → ERel T w F (upd ρ i r) (e.kill i) v
  | .int _ _, _, h => h
  | .bool _, _, h => h
  | .str _, _, h => h
  | .data _ _, _, h => h
  | .fs _ _ _, _, h => h
  | .sl j e lo len c, v, h => by
    unfold E.kill
    split
    · trivial
    · rename_i hj
      unfold ERel at h ⊢
      rw [upd_ne ρ r hj]; exact h
  | .nilsl, _, h => h
  | .ptr j p t, v, h => by
    unfold E.kill
    split
    · trivial
    · rename_i hj
      unfold ERel at h ⊢
      rw [upd_ne ρ r hj]; exact h
  | .rp j k p t, v, h => by
    unfold E.kill
    split
    · trivial
    · rename_i hj
      unfold ERel at h ⊢
      rw [upd_ne ρ r hj]; exact h
  | .fptr _ _, _, h => h
  | .fn _ _, _, ⟨cs, h1, h2⟩ => ⟨cs, h1, ERelL.killed h2⟩
  | .nilfn, _, h => h
  | .tup _, _, ⟨vs, h1, h2⟩ => ⟨vs, h1, ERelL.killed h2⟩
  | .undef, _, _ => trivial
theorem ERelL.killed {i : Nat} {r : RI} : ∀ {l : List E} {vs : List Value}, ERelL T w F ρ l vs → ERelL T w F (upd ρ i r) (E.killL i l) vs
  | [], [], h => h
  | _ :: _, _ :: _, ⟨h1, h2⟩ => ⟨ERel.killed h1, ERelL.killed h2⟩
  | [], _ :: _, h => h.elim
  | _ :: _, [], h => h.elim
end

theorem kill_data {i : Nat} {e : E} {t : TypeId} {v : V} (h : e.kill i = .data t v) : e = .data t v := by
  cases e <;> simp [E.kill] at h ⊢ <;> first | exact h | (split at h <;> cases h)

theorem lookup_map (f : E → E) : ∀ (tm : Tm) (t : Nat), (tm.map fun x => (x.1, x.2.1, f x.2.2)).lookup t = (tm.lookup t).map fun x => (x.1, f x.2)
  | [], _ => rfl
  | (s, g, e) :: tm, t => by
    simp only [List.map_cons, List.lookup_cons]
    cases t == s <;> simp [lookup_map f tm t]

theorem TmRel.killed {i : Nat} {r : RI} {tm : Tm} (h : TmRel T w F ρ tm tmps) : TmRel T w F (upd ρ i r) (Tm.kill i tm) tmps := by
  intro t g e he
  unfold Tm.kill at he
  rw [lookup_map (E.kill i)] at he
  cases hl : tm.lookup t with
  | none => rw [hl] at he; cases he
  | some x =>
    obtain ⟨g', e'⟩ := x
    rw [hl] at he
    simp at he
    obtain ⟨rfl, rfl⟩ := he
    obtain ⟨v, h1, h2, h3⟩ := h t _ _ hl
    exact ⟨v, h1, fun hg => (h2 hg).killed, h3⟩

theorem OutRel.killed {i : Nat} {r : RI} : ∀ {l : List Tm} {vs : List (Array Value)}, OutRel T w F ρ l vs → OutRel T w F (upd ρ i r) (l.map (Tm.kill i)) vs
  | [], [], h => h
  | _ :: _, _ :: _, ⟨h1, h2⟩ => ⟨h1.killed, OutRel.killed h2⟩
  | [], _ :: _, h => h.elim
  | _ :: _, [], h => h.elim

theorem upd_mono {n : Nat} {r : RI} (hn : ρ n = .none) : ∀ i, ρ i ≠ .none → upd ρ n r i = ρ i := by
  intro i hi
  unfold upd
  split
  · rename_i h; subst h; exact absurd hn hi
  · rfl

theorem ORel.row_mono {n0 : Nat} {r : RI} {e : TypeId} {l : List V} (hw : ∀ b, F b → w'.heap[b]? = w.heap[b]?)
    (hb : ∀ b, r.block = some b → w'.heap[b]? = w.heap[b]?) (h : ORel T w F ρ n0 r (.row e l)) : ORel T w' F ρ' n0 r (.row e l) := by
  cases r with
  | none => exact h.elim
  | var _ _ => exact h.elim
  | row e' r =>
    obtain ⟨h1, h2, xs, h3, h4⟩ := h
    refine ⟨h1, h2, xs, ⟨h3.1, ?_⟩, h4.mono (fun _ x => x) hw⟩
    rcases h3.2 with h | ⟨g, cap, cur, hr, hg, hh, rest⟩
    · exact .inl h
    · refine .inr ⟨g, cap, cur, hr, hg, ?_, rest⟩
      rw [hb g (by simp [RI.block, hr, Value.ownBlock])]
      exact hh

/-- A new object. -/
theorem Rel.push (h : Rel T w F ρ w0 σ tmps outs) (hw : Below w.heap.size w w') (hF : ∀ b, F b → F' b) (hF' : ∀ b, F' b → b < w'.heap.size) (hFn : ∀ b, F' b → b < w.heap.size → F b) {r : RI} {o : Obj}
    (hr : ∀ b, r.block = some b → w.heap.size ≤ b ∧ b < w'.heap.size ∧ ¬ F' b) (ho : ORel T w' F' (upd ρ σ.ob.length r) w0.w.heap.size r o) :
    Rel T w' F' (upd ρ σ.ob.length r) w0 { σ with ob := σ.ob ++ [o] } tmps outs := by
  have hn : ρ σ.ob.length = .none := h.free _ (by simp)
  have hm := upd_mono (r := r) hn
  have hwF : ∀ b, F b → w'.heap[b]? = w.heap[b]? := fun b hb => hw.block b (h.fsub b hb)
  refine ⟨h.tm.mono hF hwF hm, h.out.mono hF hwF hm, ?_, ?_, ?_, hF', h.below.trans (hw.mono h.below.size), h.size, fun b hb => if hlt : b < w.heap.size then h.fold b (hFn b hb hlt) else .inl (by have := h.below.size; omega)⟩
  · intro i o' hi
    by_cases hlt : i < σ.ob.length
    · simp only [List.getElem?_append_left hlt] at hi
      rw [upd_ne ρ r (by omega)]
      refine (h.ob i o' hi).mono hF hwF hm (fun b hb => hw.block b (h.own hb).1) (fun b hb hFb => ?_)
      exact (h.own hb).2.1 (hFn b hFb (h.own hb).1)
    · rw [List.getElem?_append_right (by omega)] at hi
      have : i = σ.ob.length := by
        have := (List.getElem?_eq_some_iff.1 hi).1
        simp at this
        omega
      subst this
      simp at hi
      subst hi
      rw [upd_self]
      exact ho
  · intro i hi
    simp at hi
    rw [upd_ne ρ r (by omega)]
    exact h.free i (by simp; omega)
  · intro i j b hi hj
    unfold upd at hi hj
    split at hi <;> split at hj
    · omega
    · have := (h.own hj).1; have := (hr b hi).1; omega
    · have := (h.own hi).1; have := (hr b hj).1; omega
    · exact h.inj i j b hi hj

/-- An object is written in place. -/
theorem Rel.store (h : Rel T w F ρ w0 σ tmps outs) {i b : Nat} (hb : (ρ i).block = some b) (hi : i < σ.ob.length) (hw : ∀ k, k ≠ b → w'.heap[k]? = w.heap[k]?) (hs : w'.heap.size = w.heap.size) (hos : w'.os = w.os) (htp : w'.tape = w.tape) (hout : w'.output = w.output)
    {o : Obj} (ho : ORel T w' F ρ w0.w.heap.size (ρ i) o) : Rel T w' F ρ w0 { σ with ob := σ.ob.set i o } tmps outs := by
  have hown := h.own hb
  have hwF : ∀ k, F k → w'.heap[k]? = w.heap[k]? := fun k hk => hw k (fun e => hown.2.1 (e ▸ hk))
  refine ⟨h.tm.mono (fun _ x => x) hwF (fun _ _ => rfl), h.out.mono (fun _ x => x) hwF (fun _ _ => rfl), ?_, ?_, h.inj, fun k hk => by rw [hs]; exact h.fsub k hk, ?_, h.size, h.fold⟩
  · intro j o' hj
    by_cases hji : j = i
    · subst hji
      simp [hi] at hj
      subst hj
      exact ho
    · simp only [List.getElem?_set_ne (Ne.symm hji)] at hj
      exact (h.ob j o' hj).mono (fun _ x => x) hwF (fun _ _ => rfl) (fun k hk => hw k (fun e => hji (h.inj j i k hk (e ▸ hb)))) (fun k hk => (h.own hk).2.1)
  · intro j hj
    simp at hj
    exact h.free j (by simp; omega)
  · exact h.below.trans ⟨hos, htp, hout, by omega, fun k hk => hw k (by omega)⟩

theorem killL_length (i : Nat) : ∀ l : List E, (E.killL i l).length = l.length
  | [] => rfl
  | _ :: l => by simp [E.killL, killL_length i l]

/-- An object is moved, or its row is written anew: what spoke of it is forgotten. -/
theorem Rel.move (h : Rel T w F ρ w0 σ tmps outs) {i : Nat} (hi : i < σ.ob.length) (hw : ∀ k, k < w.heap.size → (ρ i).block ≠ some k → w'.heap[k]? = w.heap[k]?) (hs : w.heap.size ≤ w'.heap.size) (hos : w'.os = w.os) (htp : w'.tape = w.tape) (hout : w'.output = w.output)
    {r : RI} (hr : ∀ b, r.block = some b → (ρ i).block = some b ∨ (w.heap.size ≤ b ∧ b < w'.heap.size)) {o : Obj} (ho : ORel T w' F (upd ρ i r) w0.w.heap.size r o) :
    Rel T w' F (upd ρ i r) w0 { (σ.kill i) with ob := (σ.kill i).ob.set i o } tmps outs := by
  have hnF : ∀ k, F k → (ρ i).block ≠ some k := fun k hk e => (h.own e).2.1 hk
  have hwF : ∀ k, F k → w'.heap[k]? = w.heap[k]? := fun k hk => hw k (h.fsub k hk) (hnF k hk)
  have e1 : ∀ {e : E} {v : Value}, ERel T w F ρ e v → ERel T w' F (upd ρ i r) (e.kill i) v := fun he => he.killed.mono (fun _ x => x) hwF (fun _ _ => rfl)
  refine ⟨h.tm.killed.mono (fun _ x => x) hwF (fun _ _ => rfl), h.out.killed.mono (fun _ x => x) hwF (fun _ _ => rfl), ?_, ?_, ?_, fun k hk => Nat.lt_of_lt_of_le (h.fsub k hk) hs, ?_, h.size, h.fold⟩
  · intro j o' hj
    by_cases hji : j = i
    · subst hji
      simp [St.kill, hi] at hj
      subst hj
      rw [upd_self]
      exact ho
    · simp only [List.getElem?_set_ne (Ne.symm hji), St.kill, List.getElem?_map] at hj
      cases hoj : σ.ob[j]? with
      | none => rw [hoj] at hj; cases hj
      | some oj =>
        rw [hoj] at hj
        simp at hj
        subst hj
        rw [upd_ne ρ r hji]
        have h1 := h.ob j oj hoj
        have hbl : ∀ k, (ρ j).block = some k → w'.heap[k]? = w.heap[k]? := fun k hk => hw k (h.own hk).1 (fun e => hji (h.inj j i k hk e))
        cases oj with
        | dead => cases hρ : ρ j <;> rw [hρ] at h1 <;> exact h1
        | row e l => exact h1.row_mono hwF hbl
        | erow e l =>
          cases hρ : ρ j with
          | none => rw [hρ] at h1; exact h1.elim
          | var _ _ => rw [hρ] at h1; exact h1.elim
          | row e' r =>
            rw [hρ] at h1 hbl
            obtain ⟨q1, q2, q0, xs, q3, q4, q5⟩ := h1
            refine ⟨q1, q2, q0, xs, ⟨by rw [killL_length]; exact q3.1, ?_⟩, ERelL.mono (fun _ x => x) hwF (fun _ _ => rfl) q4.killed, q5⟩
            rw [killL_length]
            rcases q3.2 with h | ⟨g, cap, cur, hr, hg, hh, rest⟩
            · exact .inl h
            · refine .inr ⟨g, cap, cur, hr, hg, ?_, rest⟩
              rw [hbl g (by simp [RI.block, hr, Value.ownBlock])]
              exact hh
        | var t e =>
          cases hρ : ρ j with
          | none => rw [hρ] at h1; exact h1.elim
          | row _ _ => rw [hρ] at h1; exact h1.elim
          | var b t' =>
            rw [hρ] at h1 hbl
            obtain ⟨⟨q1, q2, q3⟩, q4, q5, cs, ct, v, q6, q7, q8⟩ := h1
            exact ⟨⟨q1, q2, fun u x hx => q3 u x (kill_data hx)⟩, q4, q5, cs, ct, v, (hbl b rfl).trans q6, e1 q7, q8⟩
  · intro j hj
    simp [St.kill] at hj
    rw [upd_ne ρ r (by omega)]
    exact h.free j (by simp; omega)
  · intro p q b hp hq
    unfold upd at hp hq
    split at hp <;> split at hq
    · omega
    · rename_i h1 h2
      rcases hr b hp with h3 | h3
      · exact absurd (h.inj q i b hq h3) h2
      · have := (h.own hq).1; omega
    · rename_i h1 h2
      rcases hr b hq with h3 | h3
      · exact absurd (h.inj p i b hp h3) h1
      · have := (h.own hp).1; omega
    · exact h.inj p q b hp hq
  · refine h.below.trans ⟨hos, htp, hout, hs, fun k hk => hw k (Nat.lt_of_lt_of_le hk h.below.size) (fun e => by have := (h.own e).2.2; omega)⟩

end Go.Eng
/- Operations that make or write memory. -/
namespace Go.Eng
set_option linter.unusedSimpArgs false
set_option linter.unusedVariables false
open Go.RowKit

variable {P : Program} {T : Tab} {w w' : World} {w0 : Base T} {F F' : Nat → Prop} {ρ ρ' : Nat → RI} {σ : St} {a : Act} {outs : List (Array Value)}

/-- May a variable of this type hold this? -/
def okAt (T : Tab) (t : TypeId) : E → Bool
  | .int k _ => T.ty t == .int k
  | .bool _ => T.ty t == .bool
  | .str _ => T.ty t == .str
  | .data t' _ => t' == t && (T.ty t).isAgg
  | .fs e _ _ => T.ty t == .slice e
  | .sl _ e _ _ _ => T.ty t == .slice e
  | .nilsl => match T.ty t with | .slice _ => true | _ => false
  | .fptr t' _ => T.ty t == .ptr t'
  | .ptr _ _ t' => T.ty t == .ptr t'
  | .rp _ _ _ t' => T.ty t == .ptr t'
  | .fn _ _ => T.ty t == .fn
  | .nilfn => T.ty t == .fn
  | _ => false

theorem Fits.oneCell {t : TypeId} {v : V} {cs : List Value} (h : Fits T w F t v cs) : ∀ c ∈ cs, c.oneCell' = true := by
  refine Fits.rec (motive_1 := fun _ _ cs _ => ∀ c ∈ cs, c.oneCell' = true) (motive_2 := fun _ _ cs _ => ∀ c ∈ cs, c.oneCell' = true) (motive_3 := fun _ _ cs _ => True) ?_ ?_ ?_ ?_ ?_ ?_ ?_ ?_ ?_ ?_ ?_ ?_ ?_ ?_ h
  all_goals intros
  all_goals simp_all [Value.oneCell']
  all_goals grind

theorem FitsL.onesL {ts : List TypeId} : ∀ {l : List V} {cs : List Value}, FitsL T w F ts l cs → ∀ c ∈ cs, c.oneCell' = true := by
  induction ts with
  | nil => intro l cs h; cases h; simp
  | cons t ts ih =>
    intro l cs h
    cases h with
    | cons h1 h2 =>
      intro c hc
      rcases List.mem_append.1 hc with hc | hc
      · exact h1.oneCell c hc
      · exact ih h2 c hc

theorem okAt_other {t : TypeId} {e : E} (h : okAt T t e = true) : T.ty t ≠ .other := by
  intro h0
  cases e <;> simp [okAt, h0, TyD.isAgg] at h

theorem okAt_holds (hS : T.Sized) {t : TypeId} {e : E} {x : Value} (hx : ERel T w F ρ e x) (h : okAt T t e = true) : Holds T t x x.cells ∧ (∀ c ∈ x.cells, c.oneCell' = true) := by
  have one : ∀ d : TyD, T.ty t = d → d.isAgg = false → T.sz t = 1 → x.oneCell' = true → Holds T t x x.cells ∧ (∀ c ∈ x.cells, c.oneCell' = true) := by
    intro d hd hA hs h1
    have hc : x.cells = #[x] := by cases x <;> simp_all [Value.cells, Value.oneCell']
    rw [hc]
    exact ⟨⟨by simp [hs], by rw [hd, hA]; simp [h1]⟩, by simp [h1]⟩
  cases e <;> simp only [okAt, beq_iff_eq, Bool.and_eq_true, Bool.false_eq_true] at h
  case int k n => obtain ⟨rfl, _⟩ := hx; exact one _ h rfl (hS.int _ _ h) rfl
  case bool b => obtain rfl : x = _ := hx; exact one _ h rfl (hS.bool _ h) rfl
  case str s => obtain rfl : x = _ := hx; exact one _ h rfl (hS.str _ h) rfl
  case data t' v =>
    obtain ⟨rfl, hA⟩ := h
    obtain ⟨cs, rfl, _, hf⟩ := hx
    refine ⟨⟨(by simpa using hf.len hS : cs.size = T.sz t'), by rw [hA]; rfl⟩, fun c (hc : c ∈ cs) => hf.oneCell c (by simpa using hc)⟩
  case fs e l c =>
    refine one _ h rfl (hS.slice _ _ h).1 ?_
    rcases hx with ⟨_, _, rfl, _⟩ | ⟨_, _, _, _, rfl, _⟩ <;> rfl
  case sl i e lo n c =>
    refine one _ h rfl (hS.slice _ _ h).1 ?_
    rcases hx with ⟨_, rfl, _⟩ | ⟨_, _, _, _, _, _, _, rfl, _⟩ <;> rfl
  case nilsl =>
    split at h
    · rename_i e he
      obtain rfl : x = _ := hx
      exact one _ he rfl (hS.slice _ _ he).1 rfl
    · cases h
  case ptr i p t' => obtain ⟨_, _, _, _, _, rfl⟩ := hx; exact one _ h rfl (hS.ptr _ _ h) rfl
  case rp i j p t' => obtain ⟨_, _, _, _, _, _, _, rfl⟩ := hx; exact one _ h rfl (hS.ptr _ _ h) rfl
  case fptr t' v => obtain ⟨_, _, _, rfl, _⟩ := hx; exact one _ h rfl (hS.ptr _ _ h) rfl
  case fn f c => obtain ⟨_, rfl, _⟩ := hx; exact one _ h rfl (hS.fn _ h) rfl
  case nilfn => obtain rfl : x = _ := hx; exact one _ h rfl (hS.fn _ h) rfl

/-- The zero of a type. -/
def zeroE (T : Tab) (t : TypeId) : E := match T.ty t with
  | .slice _ => .nilsl
  | .fn => .nilfn
  | .ptr _ => .undef
  | .other => .undef
  | _ => fromV T t (T.zero t)

/-- What is appended, copied: the elements of a slice. -/
def elemsOf (σ : St) (e : TypeId) : E → Option (List V)
  | .fs e' l _ => if e' = e then some l else none
  | .nilsl => some []
  | .sl i e' lo n _ => if e' = e then match σ.ob[i]? with
    | some (.row _ l) => some ((l.drop lo).take n)
    | _ => none
    else none
  | _ => none

def roomFor (T : Tab) (e : TypeId) (n : Nat) : Prop := n ≤ maxLen ∧ n * T.by_ e ≤ 140737488355328

def evalVs (T : Tab) (σ : St) (t : TypeId) : List Operand → (List V → Prop) → Prop
  | [], K => K []
  | x :: xs, K => evalO σ true x fun e => match toV T t e with
    | some v => evalVs T σ t xs fun vs => K (v :: vs)
    | none => False

/-- append's own effect. -/
def appendA (T : Tab) (σ : St) (e : TypeId) (s x : E) (K : St → E → Prop) : Prop := match elemsOf σ e x with
  | none => False
  | some xs => match s with
    | .sl i e' lo n c => e' = e ∧ match σ.ob[i]? with
      | some (.row _ l) => match lo, c with
        | 0, false => n ≤ l.length ∧ roomFor T e (n + xs.length) ∧
            K { (σ.kill i) with ob := (σ.kill i).ob.set i (.row e (l.take n ++ xs)) } (.sl i e 0 (n + xs.length) false)
        | _, _ => lo + n ≤ l.length ∧ 0 < xs.length ∧ c = true ∧ roomFor T e (n + xs.length) ∧
            K { σ with ob := σ.ob ++ [.row e ((l.drop lo).take n ++ xs)] } (.sl σ.ob.length e 0 (n + xs.length) false)
      | _ => False
    | .nilsl => roomFor T e xs.length ∧ K { σ with ob := σ.ob ++ [.row e xs] } (.sl σ.ob.length e 0 xs.length false)
    | .fs e' l c => e' = e ∧ c = true ∧ 0 < xs.length ∧ roomFor T e (l.length + xs.length) ∧
        K { σ with ob := σ.ob ++ [.row e (l ++ xs)] } (.sl σ.ob.length e 0 (l.length + xs.length) false)
    | _ => False

/-- A slice without spare room: an append to it makes a new row. -/
def freshA : E → Bool
  | .nilsl => true
  | .fs _ _ true => true
  | _ => false

/-- A store. -/
def storeA (T : Tab) (σ : St) (t : TypeId) (p e : E) (K : St → E → Prop) : Prop := match p with
  | .ptr i p t' => t' = t ∧ match σ.ob[i]? with
    | some (.var tv c) => match p with
      | [] => okAt T t e = true ∧ K { σ with ob := σ.ob.set i (.var tv e) } .undef
      | k :: p => match c, toV T t e with
        | .data td v, some y => K { σ with ob := σ.ob.set i (.var tv (.data td (v.put (k :: p) y))) } .undef
        | _, _ => False
    | _ => False
  | .rp i j p t' => t' = t ∧ match σ.ob[i]? with
    | some (.row e' l) => match toV T t e with
      | some y => j < l.length ∧ K { σ with ob := σ.ob.set i (.row e' (l.set j ((l.getD j default).put p y))) } .undef
      | none => False
    | some (.erow e' l) => (p = [] ∧ t' = e' ∧ okAt T t e = true ∧ j < l.length) ∧ K { σ with ob := σ.ob.set i (.erow e' (l.set j e)) } .undef
    | _ => False
  | _ => False

/-- Operations that make or write memory: the state behind them, and what they yield. -/
def effA (T : Tab) (σ : St) (op : Op) (K : St → E → Prop) : Prop := match op with
  | .alloc t => T.ty t ≠ .other ∧ K { σ with ob := σ.ob ++ [.var t (zeroE T t)] } (.ptr σ.ob.length [] t)
  | .box t x => evalO σ true x fun e => okAt T t e = true ∧ K { σ with ob := σ.ob ++ [.var t e] } (.ptr σ.ob.length [] t)
  | .store t x y => evalO σ true x fun p => evalO σ true y fun e => storeA T σ t p e K
  | .buildSlice t n parts => match T.ty t with
    | .slice e => parts.toList.map (·.1) = List.range n ∧ n * T.sz e ≤ 2 ^ 24 ∧ evalVs T σ e (parts.toList.map (·.2)) fun vs => K { σ with ob := σ.ob ++ [.row e vs] } (.sl σ.ob.length e 0 n false)
    | _ => False
  | .makeSlice t l c => match T.ty t with
    | .slice e => evalO σ true l fun el => evalO σ true c fun ec => match el, ec with
      | .int _ n, .int _ m => n = m ∧ 0 ≤ n ∧ roomFor T e n.toNat ∧ T.ty e ≠ .fn ∧ (∀ u, T.ty e ≠ .ptr u) ∧ K { σ with ob := σ.ob ++ [.row e (List.replicate n.toNat (T.zero e))] } (.sl σ.ob.length e 0 n.toNat false)
      | _, _ => False
    | _ => False
  | .call c => match c.callee, c.args.toList, c.argTypes.toList with
    | .builtin .append, [s, x], [t, t'] => t' = t ∧ match T.ty t with
      | .slice e => evalO σ true s fun es => evalO σ true x fun ex => appendA T σ e es ex K
      | _ => False
    | _, _, _ => False
  | _ => False

/-- It makes memory, and writes none that was there. -/
def isMake : Op → Bool
  | .alloc _ => true
  | .box _ _ => true
  | .buildSlice _ _ _ => true
  | .makeSlice _ _ _ => true
  | _ => false

/-- What is owed of an operation that makes or writes memory. -/
def Does (P : Program) (T : Tab) (w0 : Base T) (w : World) (a : Act) (outs : List (Array Value)) (op : Op) (σ' : St) (e : E) : Prop :=
  ∃ w' F' ρ' v nx, ERel T w' F' ρ' e v ∧ Rel T w' F' ρ' w0 σ' a.tmps outs ∧ (nx = Next.value v ∨ nx = Next.skip ∧ v = undef) ∧
    (∀ o : Oper, o.op = op → (execOp a.eval o).run P w = .ok nx w') ∧ (isMake op = true → Below w.heap.size w w')

theorem below_alloc (w : World) (o : Go.Obj) : Below w.heap.size w (w.alloc o) := (Below.refl _ _).alloc (Nat.le_refl _) o

theorem zeroE_rel (hP : TabOk P T) {t : TypeId} (ht : T.ty t ≠ .other) {i : TypeInfo} {z : Value} (hi : P.info? t = some i) (hz : i.zero = some z) :
    ERel T w F ρ (zeroE T t) z ∧ Holds T t z z.cells ∧ (∀ c ∈ z.cells, c.oneCell' = true) ∧ (∀ u x, zeroE T t = .data u x → u = t) := by
  obtain ⟨i', j1, j2, j3, z', j4, j5, j6, j7, j8, j9, j10⟩ := hP.info t ht
  have : i' = i := by rw [j1] at hi; simpa using hi
  subst this
  have : z' = z := by rw [j4] at hz; simpa using hz
  subst this
  have hold : Holds T t z' z'.cells := by
    refine ⟨j5, ?_⟩
    split
    · rename_i hA; rw [if_pos hA] at j7; exact j7
    · rename_i hA
      rw [if_neg hA] at j7
      refine ⟨?_, j7⟩
      cases z' <;> simp_all [Value.cells, Value.oneCell']
  refine ⟨?_, hold, j6, ?_⟩
  · unfold zeroE
    split
    · rename_i e he; exact j10 e he
    · rename_i he; exact j9 he
    · trivial
    · trivial
    · rename_i h1 h2 h3 h4
      exact fromV_rel (j8 (fun h => h2 h) (fun e h => h3 e h) w F) hold.valOf
  · intro u x h
    unfold zeroE at h
    split at h <;> try cases h
    unfold fromV at h
    split at h <;> first | cases h | (split at h <;> cases h)
    all_goals rfl

theorem new_var (hR : Rel T w F ρ w0 σ a.tmps outs) {t : TypeId} {e : E} {v : Value} (ht : T.ty t ≠ .other) (he : ERel T w F ρ e v) (hh : Holds T t v v.cells) (h1 : ∀ c ∈ v.cells, c.oneCell' = true) (hd : ∀ u x, e = .data u x → u = t) :
    Rel T (w.alloc (.cells v.cells t)) F (upd ρ σ.ob.length (.var w.heap.size t)) w0 { σ with ob := σ.ob ++ [.var t e] } a.tmps outs ∧
    ERel T (w.alloc (.cells v.cells t)) F (upd ρ σ.ob.length (.var w.heap.size t)) (.ptr σ.ob.length [] t) (.pointer (some ⟨w.heap.size, 0, none⟩)) := by
  have hb := below_alloc w (.cells v.cells t)
  have hn : ρ σ.ob.length = .none := hR.free _ (by simp)
  have hsz : (w.alloc (.cells v.cells t)).heap.size = w.heap.size + 1 := by show (w.heap.push _).size = _; simp
  refine ⟨hR.push hb (fun _ x => x) (fun b hF => Nat.lt_of_lt_of_le (hR.fsub b hF) hb.size) (fun _ x _ => x) ?_ ?_, ⟨w.heap.size, t, 0, upd_self _ _ _, .nil, rfl⟩⟩
  · intro b hb'
    simp [RI.block] at hb'
    subst hb'
    exact ⟨Nat.le_refl _, by omega, fun hF => Nat.lt_irrefl _ (hR.fsub _ hF)⟩
  · refine ⟨⟨rfl, ht, hd⟩, hR.below.size, fun hF => Nat.lt_irrefl _ (hR.fsub _ hF), v.cells, t, v, heap_alloc_new w _, ?_, hh, h1⟩
    exact he.mono (fun _ x => x) (fun b hF => hb.block b (hR.fsub b hF)) (upd_mono hn)

theorem new_row (hR : Rel T w F ρ w0 σ a.tmps outs) (hb : Below w.heap.size w w') {e : TypeId} {l : List V} {r : Value} {xs : List Value} (hown : w'.ownsRow w.heap.size e (T.sz e) r l.length xs) (hf : FitsL T w' F (List.replicate l.length e) l xs) :
    Rel T w' F (upd ρ σ.ob.length (.row e r)) w0 { σ with ob := σ.ob ++ [.row e l] } a.tmps outs ∧
    ERel T w' F (upd ρ σ.ob.length (.row e r)) (.sl σ.ob.length e 0 l.length false) r := by
  have hlt := hown.lt
  refine ⟨hR.push hb (fun _ x => x) (fun b hF => Nat.lt_of_lt_of_le (hR.fsub b hF) hb.size) (fun _ x _ => x) ?_ ?_, ?_⟩
  · intro b hb'
    obtain ⟨h1, h2⟩ := hlt b hb'
    exact ⟨h1, h2, fun hF => by have := hR.fsub b hF; omega⟩
  · refine ⟨rfl, fun b hb' hF => by have := hR.fsub b hF; have := (hlt b hb').1; omega, xs, ⟨hown.1, ?_⟩, hf⟩
    rcases hown.2 with h | ⟨g, cap, cur, q1, q2, q3⟩
    · exact .inl h
    · exact .inr ⟨g, cap, cur, q1, Nat.le_trans hR.below.size q2, q3⟩
  · unfold ERel
    rw [upd_self]
    rcases hown.2 with ⟨rfl, h0⟩ | ⟨g, cap, cur, rfl, q2, q3, q4, _⟩
    · exact .inl ⟨rfl, rfl, rfl, h0⟩
    · exact .inr ⟨g, _, cap, 0, rfl, by omega, q4, rfl, fun _ => rfl, .inr (by simp)⟩

theorem splice_length (cs ds : List Value) (off : Nat) (h : off + ds.length ≤ cs.length) : (splice cs off ds).length = cs.length := by
  simp only [splice, List.length_append, List.length_take, List.length_drop]; omega

theorem splice_take (cs ds : List Value) (off n : Nat) (h : off + ds.length ≤ n) (hn : n ≤ cs.length) : (splice cs off ds).take n = splice (cs.take n) off ds := by
  unfold splice
  rw [List.take_append, List.take_of_length_le (by simp; omega), List.take_take, Nat.min_eq_left (by omega), List.drop_take]
  congr 2
  simp only [List.length_append, List.length_take]
  omega

theorem storeA_sound (hP : TabOk P T) (hR : Rel T w F ρ w0 σ a.tmps outs) {t : TypeId} {x y : Operand} {p e : E} {K : St → E → Prop} (hx : ERel T w F ρ p (a.eval x)) (hy : ERel T w F ρ e (a.eval y)) (h : storeA T σ t p e K) :
    ∃ σ' e', K σ' e' ∧ Does P T w0 w a outs (.store t x y) σ' e' := by
  -- the machine's own run of a store into a block
  have run : ∀ (b off : Nat) (cur : Array Value) (ct : TypeId), a.eval x = .pointer (some ⟨b, off, none⟩) → w.heap[b]? = some (.cells cur ct (0, 0)) → T.ty t ≠ .other → (a.eval y).cells.size = T.sz t → off + T.sz t ≤ cur.size →
      (∀ c ∈ (a.eval y).cells, c.oneCell' = true) → ∀ o : Oper, o.op = .store t x y →
      (execOp a.eval o).run P w = .ok .skip (w.setRow b (splice cur.toList off (a.eval y).cells.toList).toArray) := by
    intro b off cur ct hv hh ht hs hle h1 o ho
    have hst := run_storeCells_at P b off ct (a.eval y).cells.toList 0 cur w hh (by simp; omega) (by simpa using h1)
    simp only [Nat.add_zero] at hst
    have hsz : (sizeOf t).run P w = .ok (a.eval y).cells.size w := by rw [hs]; exact run_sizeOf hP ht w
    simp [execOp, ho, hv, Instr.storeAt, Instr.sureAddr, storeVar, hsz, hst, splice]
  unfold storeA at h
  split at h
  · rename_i i p t'
    obtain ⟨rfl, h⟩ := h
    split at h; rotate_left; · exact h.elim
    rename_i tv c ho
    have hil : i < σ.ob.length := (List.getElem?_eq_some_iff.1 ho).1
    have hob := hR.ob _ _ ho
    obtain ⟨b, root, off, p1, p2, p3⟩ := hx
    rw [p1] at hob
    obtain ⟨⟨q1, q1', q1''⟩, q2, q3, cs, ct, v, q4, q5, q6, q7⟩ := hob
    subst q1
    have hblk : (ρ i).block = some b := by rw [p1]; rfl
    split at h
    · -- the whole variable
      obtain ⟨hok, h⟩ := h
      cases p2
      obtain ⟨k1, k2⟩ := okAt_holds hP.sized hy hok
      have hr := run b 0 cs ct p3 q4 q1' k1.1 (by rw [q6.1]; omega) k2
      have hspl : (splice cs.toList 0 (a.eval y).cells.toList).toArray = (a.eval y).cells := by
        apply Array.ext'
        simp only [splice, List.take_zero, List.nil_append, Nat.zero_add]
        rw [List.drop_eq_nil_of_le (by simp [q6.1, k1.1])]
        simp
      rw [hspl] at hr
      refine ⟨_, _, h, w.setRow b (a.eval y).cells, F, ρ, undef, .skip, trivial, ?_, .inr ⟨rfl, rfl⟩, hr, by simp [isMake]⟩
      refine hR.store hblk hil (fun k hk => setRow_other w b k _ hk) (by simp [World.setRow]) rfl rfl rfl ?_
      rw [p1]
      refine ⟨⟨rfl, q1', fun u z hz => ?_⟩, q2, q3, (a.eval y).cells, ct, a.eval y, setRow_heap w b cs _ ct _ q4, ?_, k1, k2⟩
      · subst hz
        simp only [okAt, Bool.and_eq_true, beq_iff_eq] at hok
        exact hok.1
      · exact hy.mono (fun _ x => x) (fun k hF => setRow_other w b k _ (fun e => q3 (e ▸ hF))) (fun _ _ => rfl)
    · rename_i k p
      split at h; rotate_left; · exact h.elim
      rename_i td v0 y0 hy0
      obtain ⟨cs', rfl, hA, hf⟩ := q5
      have := q1'' _ _ rfl
      subst this
      have hcs : cs' = cs := by have := q6.2; rw [if_pos hA] at this; simpa using this
      subst hcs
      obtain ⟨f1, f2⟩ := toV_fits hy hy0
      obtain ⟨g1, g2⟩ := p2.get hP.sized hf
      have hsz : (a.eval y).cells.size = T.sz t' := by simpa using f1.len hP.sized
      have hr := run b off cs' ct p3 q4 f1.notOther hsz (by simpa using g2) (fun c hc => f1.oneCell c (by simpa using hc))
      have hnew := p2.put hP.sized hf f1
      refine ⟨_, _, h, w.setRow b (splice cs'.toList off (a.eval y).cells.toList).toArray, F, ρ, undef, .skip, trivial, ?_, .inr ⟨rfl, rfl⟩, hr, by simp [isMake]⟩
      refine hR.store hblk hil (fun k hk => setRow_other w b k _ hk) (by simp [World.setRow]) rfl rfl rfl ?_
      rw [p1]
      have hnew' := hnew.mono (w' := w.setRow b (splice cs'.toList off (a.eval y).cells.toList).toArray) (F' := F) (fun _ x => x) (fun k hF => setRow_other w b k _ (fun e => q3 (e ▸ hF)))
      refine ⟨⟨rfl, q1', fun u z hz => by cases hz; rfl⟩, q2, q3, (splice cs'.toList off (a.eval y).cells.toList).toArray, ct, .agg (splice cs'.toList off (a.eval y).cells.toList).toArray, setRow_heap w b cs' _ ct _ q4, ⟨_, rfl, hA, by simpa using hnew'⟩, ⟨?_, by rw [hA]; rfl⟩, ?_⟩
      · simpa using hnew'.len hP.sized
      · intro c hc
        exact hnew'.oneCell c (by simpa using hc)
  · rename_i i j p t'
    obtain ⟨rfl, h⟩ := h
    split at h
    rotate_left
    · rename_i e' l ho
      obtain ⟨⟨rfl, rfl, hok, hj⟩, h⟩ := h
      have hil : i < σ.ob.length := (List.getElem?_eq_some_iff.1 ho).1
      have hob := hR.ob _ _ ho
      obtain ⟨b, e'', n, cap, off, p1, p2, p3⟩ := hx
      rw [p1] at hob
      obtain ⟨rfl, q2, ⟨z1, z2, z3⟩, xs, q3, q4, q5⟩ := hob
      have hblk : (ρ i).block = some b := by rw [p1]; rfl
      cases p2
      rcases q3.2 with ⟨q, _⟩ | ⟨b', cap', cur, hr, hb, hh, hn, hc, hs, htk⟩
      · cases q
      · cases hr
        obtain ⟨k1, k2⟩ := okAt_holds hP.sized hy hok
        have hcell : (a.eval y).cells = #[a.eval y] ∧ (a.eval y).oneCell' = true := by
          have := k1.2
          rw [z2] at this
          simpa using this
        have hxl : xs.length = l.length * T.sz e'' := q3.1
        have hcl : cur.toList.length = cap * T.sz e'' := by simpa using hs
        rw [z1] at hxl hcl
        have hcur : cur.size = cap := by rw [hs, z1, Nat.mul_one]
        have hrun := run b (j * T.sz e'' + 0) cur e'' p3 hh z3 k1.1 (by rw [z1, hcur]; omega) k2
        rw [hcell.1, z1, Nat.mul_one, Nat.add_zero] at hrun
        have hspl : splice cur.toList j [a.eval y] = cur.toList.set j (a.eval y) := by
          unfold splice
          rw [List.set_eq_take_append_cons_drop, if_pos (by omega), List.append_assoc]
          rfl
        have hrun : ∀ o : Oper, o.op = .store e'' x y → (execOp a.eval o).run P w = .ok .skip (w.setRow b (cur.toList.set j (a.eval y)).toArray) := by
          rw [← hspl]; exact hrun
        have hoth : ∀ k, F k → (w.setRow b (cur.toList.set j (a.eval y)).toArray).heap[k]? = w.heap[k]? := fun k hF => setRow_other w b k _ (fun e => q2 b rfl (e ▸ hF))
        refine ⟨_, _, h, w.setRow b (cur.toList.set j (a.eval y)).toArray, F, ρ, undef, .skip, trivial, ?_, .inr ⟨rfl, rfl⟩, hrun, by simp [isMake]⟩
        refine hR.store hblk hil (fun k hk => setRow_other w b k _ hk) (by simp [World.setRow]) rfl rfl rfl ?_
        rw [p1]
        refine ⟨rfl, q2, ⟨z1, z2, z3⟩, xs.set j (a.eval y), ⟨?_, .inr ⟨b, cap, (cur.toList.set j (a.eval y)).toArray, by simp, hb, setRow_heap w b cur _ e'' _ hh, by simpa using hn, hc, ?_, ?_⟩⟩, ?_, ?_⟩
        · rw [List.length_set, List.length_set, z1]; omega
        · rw [List.size_toArray, List.length_set, z1]; omega
        · rw [List.length_set, z1, Nat.mul_one, List.take_set, ← htk, z1, Nat.mul_one]
        · exact (q4.mono (fun _ x => x) hoth (fun _ _ => rfl)).set (hy.mono (fun _ x => x) hoth (fun _ _ => rfl))
        · intro u hu
          rcases List.mem_or_eq_of_mem_set hu with hu | hu
          · exact q5 u hu
          · rw [hu]; exact hcell.2
    · exact h.elim
    rename_i e' l ho
    split at h; rotate_left; · exact h.elim
    rename_i y0 hy0
    obtain ⟨hj, h⟩ := h
    have hil : i < σ.ob.length := (List.getElem?_eq_some_iff.1 ho).1
    have hob := hR.ob _ _ ho
    obtain ⟨b, e'', n, cap, off, p1, p2, p3⟩ := hx
    rw [p1] at hob
    obtain ⟨rfl, q2, xs, q3, q4⟩ := hob
    have hblk : (ρ i).block = some b := by rw [p1]; rfl
    rcases q3.2 with ⟨q, _⟩ | ⟨b', cap', cur, hr, hb, hh, hn, hc, hs, htk⟩
    · cases q
    · cases hr
      have hrep : (List.replicate l.length e'')[j]? = some e'' := by simp [hj]
      have hel := q4.nth hP.sized hrep
      rw [offs_replicate T _ j e'' (by omega)] at hel
      obtain ⟨f1, f2⟩ := toV_fits hy hy0
      obtain ⟨g1, g2⟩ := p2.get hP.sized hel
      have hnew := p2.put hP.sized hel f1
      have hsz : (a.eval y).cells.size = T.sz t' := by simpa using f1.len hP.sized
      have hell := hel.len hP.sized
      have hxl : xs.length = l.length * T.sz e'' := q3.1
      have hjs : (j + 1) * T.sz e'' ≤ l.length * T.sz e'' := Nat.mul_le_mul_right _ hj
      have hjs' : (j + 1) * T.sz e'' = j * T.sz e'' + T.sz e'' := by rw [Nat.add_mul, Nat.one_mul]
      have hcapl : l.length * T.sz e'' ≤ cap * T.sz e'' := Nat.mul_le_mul_right _ hn
      have hdl : (a.eval y).cells.toList.length = T.sz t' := by simpa using hsz
      have hcl : cur.toList.length = cap * T.sz e'' := by simpa using hs
      have hrun := run b (j * T.sz e'' + off) cur e'' p3 hh f1.notOther hsz (by rw [hs]; omega) (fun c hc => f1.oneCell c (by simpa using hc))
      have hoth : ∀ k, F k → (w.setRow b (splice cur.toList (j * T.sz e'' + off) (a.eval y).cells.toList).toArray).heap[k]? = w.heap[k]? := fun k hF => setRow_other w b k _ (fun e => q2 b rfl (e ▸ hF))
      refine ⟨_, _, h, w.setRow b (splice cur.toList (j * T.sz e'' + off) (a.eval y).cells.toList).toArray, F, ρ, undef, .skip, trivial, ?_, .inr ⟨rfl, rfl⟩, hrun, by simp [isMake]⟩
      refine hR.store hblk hil (fun k hk => setRow_other w b k _ hk) (by simp [World.setRow]) rfl rfl rfl ?_
      rw [p1]
      refine ⟨rfl, q2, splice xs (j * T.sz e'' + off) (a.eval y).cells.toList, ⟨?_, .inr ⟨b, cap, (splice cur.toList (j * T.sz e'' + off) (a.eval y).cells.toList).toArray, by simp, hb, setRow_heap w b cur _ e'' _ hh, by simpa using hn, hc, ?_, ?_⟩⟩, ?_⟩
      · rw [splice_length _ _ _ (by omega), List.length_set]; exact hxl
      · rw [List.size_toArray, splice_length _ _ _ (by omega)]; exact hcl
      · rw [List.length_set, splice_take _ _ _ _ (by omega) (by omega), htk]
      · have hset := q4.setNth hP.sized hrep hnew
        rw [offs_replicate T _ j e'' (by omega)] at hset
        have hss := splice_splice xs ((xs.drop (j * T.sz e'')).take (T.sz e'')) (a.eval y).cells.toList (j * T.sz e'') off (by omega) (by omega) (by rw [hell])
        have hY : (splice ((xs.drop (j * T.sz e'')).take (T.sz e'')) off (a.eval y).cells.toList).length = T.sz e'' := by rw [splice_length _ _ _ (by omega), hell]
        rw [← hss, List.length_set]
        generalize splice ((xs.drop (j * T.sz e'')).take (T.sz e'')) off (a.eval y).cells.toList = Y at hset hY
        unfold splice
        rw [hY]
        exact hset.mono (fun _ x => x) hoth
  · exact h.elim

theorem evalVs_sound (hR : Rel T w F ρ w0 σ a.tmps outs) {t : TypeId} : ∀ {xs : List Operand} {K : List V → Prop}, evalVs T σ t xs K →
    ∃ vs, K vs ∧ FitsL T w F (List.replicate xs.length t) vs (xs.map fun x => (a.eval x).cells.toList).flatten ∧ ∀ x ∈ xs, ∃ v, Fits T w F t v (a.eval x).cells.toList
  | [], K, h => ⟨[], h, .nil, by simp⟩
  | x :: xs, K, h => by
    unfold evalVs at h
    obtain ⟨e, h, he⟩ := evalO_sound hR h
    split at h; rotate_left; · exact h.elim
    rename_i v hv
    obtain ⟨vs, h1, h2, h3⟩ := evalVs_sound hR h
    have hf := (toV_fits (he rfl) hv).1
    refine ⟨v :: vs, h1, ?_, ?_⟩
    · simp only [List.map_cons, List.flatten_cons, List.length_cons, List.replicate_succ]
      exact .cons hf h2
    · intro y hy
      rcases List.mem_cons.1 hy with rfl | hy
      · exact ⟨v, hf⟩
      · exact h3 y hy

theorem elems_of (hP : TabOk P T) (hR : Rel T w F ρ w0 σ a.tmps outs) {e : TypeId} {ex : E} {x : Operand} {xs : List V} (hx : ERel T w F ρ ex (a.eval x)) (h : elemsOf σ e ex = some xs) :
    ((∃ ad c, a.eval x = .slice ad 0 c) ∧ xs = []) ∨ ∃ b off cap cs F1, a.eval x = .slice (some ⟨b, off, none⟩) xs.length cap ∧ Seg w b off cs ∧ FitsL T w F1 (List.replicate xs.length e) xs cs ∧ (∀ b, F1 b → b < w.heap.size ∧ F b) := by
  unfold elemsOf at h
  split at h
  · rename_i e' l c
    split at h; rotate_left; · cases h
    rename_i he
    subst he
    cases h
    rcases hx with ⟨ad, c0, h1, h2, _⟩ | ⟨b, off, cap, cs, h1, h2, h3, h4, h5, h6⟩
    · exact .inl ⟨⟨ad, c0, h1⟩, h2⟩
    · exact .inr ⟨b, off, cap, cs, F, h1, h5, h6, fun b hb => ⟨hR.fsub b hb, hb⟩⟩
  · cases h
    exact .inl ⟨⟨_, _, hx⟩, rfl⟩
  · rename_i i e' lo n c
    split at h; rotate_left; · cases h
    rename_i he
    subst he
    split at h; rotate_left; · cases h
    rename_i e2 l ho
    cases h
    have hob := hR.ob _ _ ho
    rcases hx with ⟨h1, h2, h3, h4⟩ | ⟨b, m, cap, off, h1, h2, h3, h4, h5, h6⟩
    · subst h4
      exact .inl ⟨⟨_, _, h2⟩, by simp⟩
    · rw [h1] at hob
      obtain ⟨rfl, q2, ys, q3, q4⟩ := hob
      rcases q3.2 with ⟨q, _⟩ | ⟨b', cap', cur, hr, hb, hh, hn, hc, hs, htk⟩
      · cases q
      · cases hr
        have hl : ((l.drop lo).take n).length = n := by simp; omega
        have hf := q4.slice hP.sized (lo := lo) (m := n) (by omega)
        have hsz := hf.len hP.sized
        rw [szs_replicate] at hsz
        refine .inr ⟨b, off, _, (ys.drop (lo * T.sz e')).take (n * T.sz e'), F, by rw [hl]; exact h4, ?_, by rw [hl]; exact hf, fun b hb => ⟨hR.fsub b hb, hb⟩⟩
        rcases h6 with h6 | h6
        · subst h6
          intro j y hy
          simp at hy
        · have hys : Seg w b 0 ys := by
            have := seg_of_cells (w := w) hh 0 (l.length * T.sz e')
            rw [List.drop_zero, htk] at this
            exact this
          have := hys.sub (lo * T.sz e') (n * T.sz e')
          rw [Nat.zero_add] at this
          rw [h6]
          exact this
  · cases h

end Go.Eng
/- append, literals of slices, make: what they do. -/
namespace Go.Eng
set_option linter.unusedSimpArgs false
set_option linter.unusedVariables false
open Go.RowKit

variable {P : Program} {T : Tab} {w w' : World} {w0 : Base T} {F F' : Nat → Prop} {ρ ρ' : Nat → RI} {σ : St} {a : Act} {outs : List (Array Value)}

theorem below_drew (w : World) : Below w.heap.size w w.drew := (Below.refl _ _).drew

/-- An append that has no room (or to nil): a new row. -/
theorem append_new (hP : TabOk P T) {t e ty : TypeId} (ht : T.ty t = .slice e) {b off n cap : Nat} {olds : List Value} {base : Option Addr} (hbase : (base = none ∧ n = 0 ∧ cap = 0 ∧ olds = []) ∨ (base = some ⟨b, off, none⟩ ∧ Seg w b off olds) ∨ (∃ ad, base = some ad ∧ n = 0 ∧ olds = []))
    (hol : olds.length = n * T.sz e) {b' off' m c : Nat} {news : List Value} (hnl : news.length = m * T.sz e) (hns : Seg w b' off' news) (hm : 0 < m) (hg : cap < n + m) (hroom : roomFor T e (n + m)) :
    ∃ r w', (Builtin.append_ #[t, t] ty #[.slice base n cap, .slice (some ⟨b', off', none⟩) m c]).run P w = .ok r w' ∧ w'.ownsRow w.heap.size e (T.sz e) r (n + m) (olds ++ news) ∧ Below w.heap.size w w' := by
  obtain ⟨hu, hno⟩ := hP.slice _ _ ht
  obtain ⟨i, i1, i2, i3, z, i4, i5, i6, i7, _⟩ := hP.info e hno
  obtain ⟨r1, r2⟩ := hroom
  have h63 : ((n + m : Nat) : Int) ≤ 9223372036854775807 := by simp only [maxLen] at r1; omega
  have hol' : olds.length = n * i.size := by rw [i2]; exact hol
  have hnl' : news.length = m * i.size := by rw [i2]; exact hnl
  have hby : (n + m) * i.bytes ≤ 140737488355328 := by rw [i3]; exact r2
  have fin : ∀ (old : Nat), ∃ r w', Result.ok (.slice (some ⟨w.heap.size, 0, none⟩) (n + m) (grownCap w (n + m) old e)) (w.drew.alloc (.cells (olds.toArray ++ news.toArray ++ Builtin.zeroCells z.cells (grownCap w (n + m) old e - (n + m))) e)) = Result.ok r w' ∧
      w'.ownsRow w.heap.size e (T.sz e) r (n + m) (olds ++ news) ∧ Below w.heap.size w w' := by
    intro old
    have hge := grownCap_ge w (n + m) old e
    have hcm := grownCap_le_maxLen w (n + m) old e r1
    refine ⟨_, _, rfl, ⟨?_, .inr ⟨w.heap.size, _, _, rfl, Nat.le_refl _, heap_alloc_new w.drew _, hge, hcm, ?_, ?_⟩⟩, (below_drew w).alloc (Nat.le_refl _) _⟩
    · rw [List.length_append, hol, hnl, Nat.add_mul]
    · simp only [Array.size_append, List.size_toArray, size_zeroCells, hol, hnl, i5, ← Nat.add_mul]
      congr 1
      omega
    · simp only [Array.toList_append, List.append_assoc]
      rw [← List.append_assoc]
      have hlen : (olds ++ news).length = (n + m) * T.sz e := by rw [List.length_append, hol, hnl, Nat.add_mul]
      rw [← hlen]
      exact List.take_left
  rcases hbase with ⟨rfl, rfl, rfl, rfl⟩ | ⟨rfl, hs⟩ | ⟨ad, rfl, rfl, rfl⟩
  · have := run_append_nil (P := P) w t ty e i z hu i1 i4 ⟨b', off', none⟩ m c news hnl' (fun j v hv => by rw [addr_add]; exact hns j v hv) hm (by simpa using h63) (by simp only [Nat.zero_add] at hby; omega)
    obtain ⟨r, w', h1, h2⟩ := fin 0
    refine ⟨r, w', ?_, h2⟩
    rw [this, ← h1]
    simp
  · have := run_append_grow (P := P) w t ty e i z hu i1 i4 ⟨b, off, none⟩ n cap olds hol' (fun j v hv => by rw [addr_add]; exact hs j v hv) ⟨b', off', none⟩ m c news hnl' (fun j v hv => by rw [addr_add]; exact hns j v hv) hg h63 (growslice_fits (by omega) hby)
    obtain ⟨r, w', h1, h2⟩ := fin cap
    exact ⟨r, w', by rw [this, ← h1], h2⟩
  · have := run_append_grow (P := P) w t ty e i z hu i1 i4 ad 0 cap [] (by simp) (fun j v hv => by simp at hv) ⟨b', off', none⟩ m c news hnl' (fun j v hv => by rw [addr_add]; exact hns j v hv) hg h63 (growslice_fits (by omega) hby)
    obtain ⟨r, w', h1, h2⟩ := fin cap
    exact ⟨r, w', by rw [this, ← h1], h2⟩

/-- An append of nothing answers the slice itself. -/
theorem append_none (hP : TabOk P T) {t e ty : TypeId} (ht : T.ty t = .slice e) {base : Option Addr} {n cap m c : Nat} {x : Option Addr} (hn : n ≤ cap) (hx : (x = none ∧ m = 0) ∨ m = 0) (w : World) :
    (Builtin.append_ #[t, t] ty #[.slice base n cap, .slice x m c]).run P w = .ok (.slice base n cap) w := by
  obtain ⟨hu, hno⟩ := hP.slice _ _ ht
  have hm : m = 0 := by rcases hx with ⟨_, h⟩ | h <;> exact h
  subst hm
  have hs := fun W => run_sizeOf (P := P) hP hno W
  cases base <;> cases x <;> simp [Builtin.append_, run_underlying hu, hs, Builtin.lenOf, Builtin.firstCells, hn, storeCells, loadCells, loadCellsFrom]

/-- The row of object i written anew, or moved. -/
theorem row_moved (hR : Rel T w F ρ w0 σ a.tmps outs) {i : Nat} (hi : i < σ.ob.length) {e : TypeId} {l : List V} {r : Value} {ys : List Value} {r0 : Value} (hr0 : ρ i = .row e r0)
    (hw : ∀ k, k < w.heap.size → r0.ownBlock ≠ some k → w'.heap[k]? = w.heap[k]?) (hs : w.heap.size ≤ w'.heap.size) (hos : w'.os = w.os) (htp : w'.tape = w.tape) (hout : w'.output = w.output)
    (hr : ∀ b, r.ownBlock = some b → r0.ownBlock = some b ∨ (w.heap.size ≤ b ∧ b < w'.heap.size)) (hown : w'.ownsRow w0.w.heap.size e (T.sz e) r l.length ys) (hf : FitsL T w' F (List.replicate l.length e) l ys) :
    Rel T w' F (upd ρ i (.row e r)) w0 { (σ.kill i) with ob := (σ.kill i).ob.set i (.row e l) } a.tmps outs ∧ ERel T w' F (upd ρ i (.row e r)) (.sl i e 0 l.length false) r := by
  refine ⟨hR.move hi (fun k hk hb => hw k hk (by rw [hr0] at hb; exact hb)) hs hos htp hout (fun b hb => ?_) ⟨rfl, fun b hb hF => ?_, ys, hown, hf⟩, ?_⟩
  · rcases hr b hb with h | h
    · left; rw [hr0]; exact h
    · exact .inr h
  · rcases hr b hb with h | h
    · have : (ρ i).block = some b := by rw [hr0]; exact h
      exact (hR.own this).2.1 hF
    · have := hR.fsub b hF; omega
  · unfold ERel
    rw [upd_self]
    rcases hown.2 with ⟨rfl, h0⟩ | ⟨g, cap, cur, rfl, q2, q3, q4, _⟩
    · exact .inl ⟨rfl, rfl, rfl, h0⟩
    · exact .inr ⟨g, _, cap, 0, rfl, by omega, q4, rfl, fun _ => rfl, .inr (by simp)⟩

theorem ownsRow_base {base base' : Nat} {e : TypeId} {size n : Nat} {v : Value} {xs : List Value} (h : w.ownsRow base e size v n xs) (hb : base' ≤ base) : w.ownsRow base' e size v n xs := by
  refine ⟨h.1, ?_⟩
  rcases h.2 with h | ⟨g, cap, cur, q1, q2, q3⟩
  · exact .inl h
  · exact .inr ⟨g, cap, cur, q1, Nat.le_trans hb q2, q3⟩

theorem appendA_sound (hP : TabOk P T) (hR : Rel T w F ρ w0 σ a.tmps outs) {t e : TypeId} (ht : T.ty t = .slice e) {c : Call} {s x : Operand} (hc : c.callee = .builtin .append) (hca : c.args = #[s, x]) (hct : c.argTypes = #[t, t])
    {es ex : E} {K : St → E → Prop} (hs : ERel T w F ρ es (a.eval s)) (hx : ERel T w F ρ ex (a.eval x)) (h : appendA T σ e es ex K) : ∃ σ' e', K σ' e' ∧ Does P T w0 w a outs (.call c) σ' e' := by
  have run : ∀ (r : Value) (w' : World), (∀ ty, (Builtin.append_ #[t, t] ty #[a.eval s, a.eval x]).run P w = .ok r w') → ∀ o : Oper, o.op = .call c → (execOp a.eval o).run P w = .ok (.value r) w' := by
    intro r w' h1 o ho
    simp [execOp, ho, resolve, hc, hca, hct, invoke, builtin, h1 o.type]
  unfold appendA at h
  split at h; · exact h.elim
  rename_i xs hxs
  -- what is appended: nothing, or cells that lie somewhere
  have hel : (xs = [] ∧ ∃ ad c', a.eval x = .slice ad 0 c') ∨ (0 < xs.length ∧ ∃ b' off' c' news, a.eval x = .slice (some ⟨b', off', none⟩) xs.length c' ∧ Seg w b' off' news ∧ news.length = xs.length * T.sz e ∧
      FitsL T w F (List.replicate xs.length e) xs news) := by
    rcases elems_of hP hR hx hxs with ⟨⟨ad0, c0, h1⟩, h2⟩ | ⟨b, off, cap, cs, F1, h1, h2, h3, h4⟩
    · exact .inl ⟨h2, ad0, c0, h1⟩
    · by_cases hm : xs.length = 0
      · rw [hm] at h1
        exact .inl ⟨List.eq_nil_of_length_eq_zero hm, _, _, h1⟩
      · have hsz := h3.len hP.sized
        rw [szs_replicate] at hsz
        exact .inr ⟨by omega, b, off, cap, cs, h1, h2, hsz, h3.mono (fun b hb => (h4 b hb).2) (fun _ _ => rfl)⟩
  have hFw : ∀ {w' : World}, Below w.heap.size w w' → ∀ b, F b → w'.heap[b]? = w.heap[b]? := fun hb b hF => hb.block b (hR.fsub b hF)
  -- an append that makes a new row
  have run' : ∀ {b off n cap : Nat} {olds : List Value} {base : Option Addr} (_ : a.eval s = .slice base n cap) (_ : (base = none ∧ n = 0 ∧ cap = 0 ∧ olds = []) ∨ (base = some ⟨b, off, none⟩ ∧ Seg w b off olds) ∨ (∃ ad, base = some ad ∧ n = 0 ∧ olds = []))
    (_ : olds.length = n * T.sz e) {b' off' m c' : Nat} {news : List Value} (_ : a.eval x = .slice (some ⟨b', off', none⟩) m c') (_ : news.length = m * T.sz e) (_ : Seg w b' off' news) (_ : 0 < m) (_ : cap < n + m) (_ : roomFor T e (n + m)),
    ∃ r w', (∀ o : Oper, o.op = .call c → (execOp a.eval o).run P w = .ok (.value r) w') ∧ w'.ownsRow w.heap.size e (T.sz e) r (n + m) (olds ++ news) ∧ Below w.heap.size w w' := by
    intro b off n cap olds base e1 e2 e3 b' off' m c' news e4 e5 e6 e7 e8 e9
    obtain ⟨r, w', h1, h2, h3⟩ := append_new (ty := 0) hP ht e2 e3 e5 e6 (c := c') e7 e8 e9
    refine ⟨r, w', run r w' (fun ty => ?_), h2, h3⟩
    rw [e1, e4]
    exact h1
  split at h
  · rename_i i e' lo n cl
    obtain ⟨rfl, h⟩ := h
    split at h; rotate_left; · exact h.elim
    rename_i e2 l ho
    have hil : i < σ.ob.length := (List.getElem?_eq_some_iff.1 ho).1
    have hob := hR.ob _ _ ho
    -- the object as it lies
    obtain ⟨r0, hr0, rfl, q2, ys, q3, q4⟩ : ∃ r0, ρ i = .row e' r0 ∧ e' = e2 ∧ (∀ b, r0.ownBlock = some b → ¬ F b) ∧ ∃ xs, w.ownsRow w0.w.heap.size e2 (T.sz e2) r0 l.length xs ∧ FitsL T w F (List.replicate l.length e2) l xs := by
      rcases hs with ⟨r1, _⟩ | ⟨b, n1, cap, off, r1, _⟩
      · rw [r1] at hob; obtain ⟨rfl, q2, ys, q3, q4⟩ := hob; exact ⟨_, r1, rfl, q2, ys, q3, q4⟩
      · rw [r1] at hob; obtain ⟨rfl, q2, ys, q3, q4⟩ := hob; exact ⟨_, r1, rfl, q2, ys, q3, q4⟩
    split at h
    · -- the whole row, in place or moved
      obtain ⟨hn, hroom, h⟩ := h
      have hlen : (l.take n ++ xs).length = n + xs.length := by simp; omega
      have hfl : FitsL T w F (List.replicate n e') (l.take n) (ys.take (n * T.sz e')) := by simpa using q4.slice hP.sized (lo := 0) (m := n) (by omega)
      have hol := hfl.len hP.sized
      rw [szs_replicate] at hol
      -- the value of the slice, as a row of its own
      have hown : w.ownsRow w0.w.heap.size e' (T.sz e') (a.eval s) n (ys.take (n * T.sz e')) ∧ (a.eval s).ownBlock = r0.ownBlock := by
        rcases hs with ⟨r1, v1, _, n0⟩ | ⟨b, n1, cap, off, r1, b1, b2, v1, b3, _⟩
        · rw [hr0] at r1; cases r1
          subst n0
          rw [v1]; simp; exact World.ownsRow_nil _ _ _ _
        · rw [hr0] at r1; cases r1
          have := b3 rfl
          subst this
          rcases q3.2 with ⟨q, _⟩ | ⟨b', cap', cur, hr, hb, hh, hn', hc', hs', htk⟩
          · cases q
          · cases hr
            rw [v1]
            refine ⟨⟨hol, .inr ⟨b, cap, cur, rfl, hb, hh, by omega, hc', hs', ?_⟩⟩, rfl⟩
            rw [← htk, List.take_take, Nat.min_eq_left (Nat.mul_le_mul_right _ hn)]
      have fin : ∀ (r : Value) (w' : World) (ds : List Value), (∀ k, k < w.heap.size → r0.ownBlock ≠ some k → w'.heap[k]? = w.heap[k]?) → w.heap.size ≤ w'.heap.size → w'.os = w.os → w'.tape = w.tape → w'.output = w.output →
          (∀ b, r.ownBlock = some b → r0.ownBlock = some b ∨ (w.heap.size ≤ b ∧ b < w'.heap.size)) → w'.ownsRow w0.w.heap.size e' (T.sz e') r (n + xs.length) ds → FitsL T w' F (List.replicate (n + xs.length) e') (l.take n ++ xs) ds →
          (∀ o : Oper, o.op = .call c → (execOp a.eval o).run P w = .ok (.value r) w') → ∃ σ' e', K σ' e' ∧ Does P T w0 w a outs (.call c) σ' e' := by
        intro r w' ds g1 g2 g3 g4 g5 g6 g7 g8 g9
        have := row_moved (w' := w') hR hil (l := l.take n ++ xs) (r := r) (ys := ds) hr0 g1 g2 g3 g4 g5 g6 (by rw [hlen]; exact g7) (by rw [hlen]; exact g8)
        rw [hlen] at this
        exact ⟨_, _, h, w', F, _, r, .value r, this.2, this.1, .inl rfl, g9, by simp [isMake]⟩
      have hrep : List.replicate (n + xs.length) e' = List.replicate n e' ++ List.replicate xs.length e' := by rw [List.replicate_append_replicate]
      rcases hel with ⟨rfl, ad, c', hv⟩ | ⟨hm, b', off', c', news, hv, hseg, hnl, hfn⟩
      · -- nothing is appended
        obtain ⟨base, cap, hs', hcap⟩ : ∃ base cap, a.eval s = .slice base n cap ∧ n ≤ cap := by
          rcases hown.1.2 with ⟨h1, h2⟩ | ⟨g, cap, cur, h1, _, _, h2, _⟩
          · exact ⟨none, 0, by rw [h1, h2], by omega⟩
          · exact ⟨_, cap, h1, h2⟩
        refine fin (a.eval s) w (ys.take (n * T.sz e')) (fun _ _ _ => rfl) (Nat.le_refl _) rfl rfl rfl (fun b hb => .inl (by rw [← hown.2]; exact hb)) hown.1 (by simpa using hfl) (run _ w fun ty => ?_)
        rw [hs', hv]
        exact append_none hP ht hcap (.inr rfl) w
      · rcases hown.1.2 with ⟨h1, h2⟩ | ⟨g, cap, cur, h1, hg, hh, h2, h3, h4, h5⟩
        · -- nil so far
          subst h2
          obtain ⟨r, w', e1, e2, e3⟩ := run' (b := 0) (off := 0) (olds := []) h1 (.inl ⟨rfl, rfl, rfl, rfl⟩) (by simp) hv hnl hseg hm (by omega) (by simpa using hroom)
          refine fin r w' ([] ++ news) (fun k hk _ => e3.block k hk) e3.size e3.os e3.tape e3.output (fun b hb => .inr (e2.lt b hb)) (ownsRow_base e2 hR.below.size) ?_ e1
          simpa using hfn.mono (fun _ x => x) (hFw e3)
        · by_cases hroom' : n + xs.length ≤ cap
          · -- in place
            obtain ⟨hu, hno⟩ := hP.slice _ _ ht
            obtain ⟨i0, i1, i2, _⟩ := hP.info e' hno
            have hfit : n * i0.size + news.length ≤ cur.size := by rw [hnl, i2, h4, ← Nat.add_mul]; exact Nat.mul_le_mul_right _ hroom'
            have hone : ∀ u ∈ news, u.oneCell' = true := fun u hu => by
              have := hfn.onesL u hu
              exact this
            have hrun := fun ty => run_append_room (P := P) w t ty e' i0 hu i1 g n cap cur hh ⟨b', off', none⟩ xs.length c' news (by rw [hnl, i2]) (fun j v hv => by rw [addr_add]; exact hseg j v hv) hone hroom' hfit
            simp only [i2] at hrun
            have hgr : r0.ownBlock = some g := by rw [← hown.2, h1]; rfl
            refine fin (.slice (some ⟨g, 0, none⟩) (n + xs.length) cap) (w.setRow g (cur.toList.take (n * T.sz e') ++ news ++ cur.toList.drop (n * T.sz e' + news.length)).toArray) (ys.take (n * T.sz e') ++ news) ?_ (by simp [World.setRow]) rfl rfl rfl (fun b hb => .inl (by rw [hgr]; simpa [Value.ownBlock] using hb)) ⟨?_, .inr ⟨g, cap, _, rfl, hg, setRow_heap w g cur _ e' _ hh, hroom', h3, ?_, ?_⟩⟩ ?_ (run _ _ fun ty => by rw [h1, hv]; exact hrun ty)
            · intro k hk hkg
              exact setRow_other w g k _ (fun e => hkg (by rw [hgr, e]))
            · rw [List.length_append, hol, hnl, Nat.add_mul]
            · have : cur.toList.length = cap * T.sz e' := by simpa using h4
              simp only [List.size_toArray, List.length_append, List.length_take, List.length_drop]
              rw [i2] at hfit
              have hcl : cur.toList.length = cur.size := by simp
              omega
            · rw [← h5]
              have hlen2 : ((cur.toList.take (n * T.sz e')) ++ news).length = (n + xs.length) * T.sz e' := by rw [h5, List.length_append, hol, hnl, Nat.add_mul]
              rw [← hlen2]
              exact List.take_left
            · rw [hrep]
              have hoth : ∀ k, F k → (w.setRow g (cur.toList.take (n * T.sz e') ++ news ++ cur.toList.drop (n * T.sz e' + news.length)).toArray).heap[k]? = w.heap[k]? := fun k hF => setRow_other w g k _ (fun e => q2 g hgr (e ▸ hF))
              exact (hfl.mono (fun _ x => x) hoth).append (hfn.mono (fun _ x => x) hoth)
          · -- moved
            have hseg0 : Seg w g 0 (ys.take (n * T.sz e')) := by
              have := seg_of_cells (w := w) hh 0 (n * T.sz e')
              rw [List.drop_zero, h5] at this
              exact this
            obtain ⟨r, w', e1, e2, e3⟩ := run' h1 (.inr (.inl ⟨rfl, hseg0⟩)) hol hv hnl hseg hm (by omega) hroom
            refine fin r w' (ys.take (n * T.sz e') ++ news) (fun k hk _ => e3.block k hk) e3.size e3.os e3.tape e3.output (fun b hb => .inr (e2.lt b hb)) (ownsRow_base e2 hR.below.size) ?_ e1
            rw [hrep]
            exact (hfl.mono (fun _ x => x) (hFw e3)).append (hfn.mono (fun _ x => x) (hFw e3))
    · -- a slice without spare room: a new row
      obtain ⟨hn, hm, rfl, hroom, h⟩ := h
      have hlen : ((l.drop lo).take n ++ xs).length = n + xs.length := by simp; omega
      have hfl := q4.slice hP.sized (lo := lo) (m := n) (by omega)
      have hol := hfl.len hP.sized
      rw [szs_replicate] at hol
      rcases hel with ⟨rfl, _⟩ | ⟨_, b', off', c', news, hv, hseg, hnl, hfn⟩
      · simp at hm
      obtain ⟨base, bb, off, hs', hbase⟩ : ∃ base bb off, a.eval s = .slice base n n ∧ ((base = none ∧ n = 0 ∧ n = 0 ∧ (ys.drop (lo * T.sz e')).take (n * T.sz e') = []) ∨ (base = some ⟨bb, off, none⟩ ∧ Seg w bb off ((ys.drop (lo * T.sz e')).take (n * T.sz e')))) := by
        rcases hs with ⟨r1, v1, _, n0⟩ | ⟨b, n1, cap, off, r1, b1, b2, v1, b3, b4⟩
        · subst n0
          exact ⟨none, 0, 0, v1, .inl ⟨rfl, rfl, rfl, by simp⟩⟩
        · rw [hr0] at r1; cases r1
          refine ⟨_, b, off, v1, .inr ⟨rfl, ?_⟩⟩
          rcases q3.2 with ⟨q, _⟩ | ⟨b'', cap', cur, hr, hb, hh, hn', hc', hs', htk⟩
          · cases q
          · cases hr
            rcases b4 with b4 | b4
            · subst b4
              intro j y hy
              simp at hy
            · have hys : Seg w b 0 ys := by
                have := seg_of_cells (w := w) hh 0 (l.length * T.sz e')
                rw [List.drop_zero, htk] at this
                exact this
              have := hys.sub (lo * T.sz e') (n * T.sz e')
              rw [Nat.zero_add] at this
              rw [b4]
              exact this
      have hbase' : (base = none ∧ n = 0 ∧ n = 0 ∧ (ys.drop (lo * T.sz e')).take (n * T.sz e') = []) ∨ (base = some ⟨bb, off, none⟩ ∧ Seg w bb off ((ys.drop (lo * T.sz e')).take (n * T.sz e'))) := hbase
      obtain ⟨r, w', e1, e2, e3⟩ := run' hs' (hbase'.imp_right .inl) hol hv hnl hseg hm (by omega) hroom
      have := new_row hR e3 (l := (l.drop lo).take n ++ xs) (by rw [hlen]; exact e2) (by
        rw [hlen, ← List.replicate_append_replicate]
        exact (hfl.mono (fun _ x => x) (hFw e3)).append (hfn.mono (fun _ x => x) (hFw e3)))
      rw [hlen] at this
      exact ⟨_, _, h, w', F, _, r, .value r, this.2, this.1, .inl rfl, e1, by simp [isMake]⟩
  · -- nil
    obtain ⟨hroom, h⟩ := h
    have hs' : a.eval s = .slice none 0 0 := hs
    rcases hel with ⟨rfl, ad, c', hv⟩ | ⟨hm, b', off', c', news, hv, hseg, hnl, hfn⟩
    · have := new_row (a := a) hR (Below.refl _ _) (l := ([] : List V)) (World.ownsRow_nil _ _ e _) .nil
      refine ⟨_, _, h, w, F, _, .slice none 0 0, .value (.slice none 0 0), this.2, this.1, .inl rfl, run _ w fun ty => ?_, by simp [isMake]⟩
      rw [hs', hv]
      exact append_none hP ht (Nat.le_refl 0) (.inr rfl) w
    · obtain ⟨r, w', e1, e2, e3⟩ := run' (b := 0) (off := 0) (olds := []) hs' (.inl ⟨rfl, rfl, rfl, rfl⟩) (by simp) hv hnl hseg hm (by omega) (by simpa using hroom)
      have := new_row hR e3 (l := xs) (xs := [] ++ news) (by simpa using e2) (by simpa using hfn.mono (fun _ x => x) (hFw e3))
      exact ⟨_, _, h, w', F, _, r, .value r, this.2, this.1, .inl rfl, e1, by simp [isMake]⟩
  · -- a slice without spare room in memory that nobody writes
    rename_i e' l cl
    obtain ⟨rfl, rfl, hm, hroom, h⟩ := h
    have hlen : (l ++ xs).length = l.length + xs.length := by simp
    rcases hel with ⟨rfl, _⟩ | ⟨_, b', off', c', news, hv, hseg, hnl, hfn⟩
    · simp at hm
    rcases hs with ⟨ad0, c0, v1, rfl, had, hc0⟩ | ⟨b, off, cap, cs, v1, h2, h3, h4, h5, h6⟩
    · obtain rfl := hc0 rfl
      obtain ⟨r, w', e1, e2, e3⟩ := run' (b := 0) (off := 0) (olds := []) v1 (by cases ad0 with | none => exact .inl ⟨rfl, rfl, rfl, rfl⟩ | some ad => exact .inr (.inr ⟨ad, rfl, rfl, rfl⟩)) (by simp) hv hnl hseg hm (by omega) (by simpa using hroom)
      have := new_row hR e3 (l := [] ++ xs) (xs := [] ++ news) (by simpa using e2) (by simpa using hfn.mono (fun _ x => x) (hFw e3))
      refine ⟨_, _, h, w', F, _, r, .value r, ?_, this.1, .inl rfl, e1, by simp [isMake]⟩
      simpa using this.2
    · have hcap := h3 rfl
      subst hcap
      have hol := h6.len hP.sized
      rw [szs_replicate] at hol
      obtain ⟨r, w', e1, e2, e3⟩ := run' v1 (.inr (.inl ⟨rfl, h5⟩)) hol hv hnl hseg hm (by omega) hroom
      have := new_row hR e3 (l := l ++ xs) (by rw [hlen]; exact e2) (by
        rw [hlen, ← List.replicate_append_replicate]
        exact (h6.mono (fun _ x => x) (hFw e3)).append (hfn.mono (fun _ x => x) (hFw e3)))
      rw [hlen] at this
      exact ⟨_, _, h, w', F, _, r, .value r, this.2, this.1, .inl rfl, e1, by simp [isMake]⟩
  · exact h.elim

/-- An append to a slice without spare room leaves all that was there. -/
theorem appendA_below (hP : TabOk P T) (hR : Rel T w F ρ w0 σ a.tmps outs) {t e : TypeId} (ht : T.ty t = .slice e) {c : Call} {s x : Operand} (hc : c.callee = .builtin .append) (hca : c.args = #[s, x]) (hct : c.argTypes = #[t, t])
    {es ex : E} {K : St → E → Prop} (hs : ERel T w F ρ es (a.eval s)) (hx : ERel T w F ρ ex (a.eval x)) (hf : freshA es = true) (h : appendA T σ e es ex K) : ∃ nx w', (∀ o : Oper, o.op = .call c → (execOp a.eval o).run P w = .ok nx w') ∧ Below w.heap.size w w' := by
  have run : ∀ (r : Value) (w' : World), (∀ ty, (Builtin.append_ #[t, t] ty #[a.eval s, a.eval x]).run P w = .ok r w') → ∀ o : Oper, o.op = .call c → (execOp a.eval o).run P w = .ok (.value r) w' := by
    intro r w' h1 o ho
    simp [execOp, ho, resolve, hc, hca, hct, invoke, builtin, h1 o.type]
  unfold appendA at h
  split at h; · exact h.elim
  rename_i xs hxs
  have hel : (xs = [] ∧ ∃ ad c', a.eval x = .slice ad 0 c') ∨ (0 < xs.length ∧ ∃ b' off' c' news, a.eval x = .slice (some ⟨b', off', none⟩) xs.length c' ∧ Seg w b' off' news ∧ news.length = xs.length * T.sz e) := by
    rcases elems_of hP hR hx hxs with ⟨⟨ad0, c0, h1⟩, h2⟩ | ⟨b, off, cap, cs, F1, h1, h2, h3, h4⟩
    · exact .inl ⟨h2, ad0, c0, h1⟩
    · by_cases hm : xs.length = 0
      · rw [hm] at h1
        exact .inl ⟨List.eq_nil_of_length_eq_zero hm, _, _, h1⟩
      · have hsz := h3.len hP.sized
        rw [szs_replicate] at hsz
        exact .inr ⟨by omega, b, off, cap, cs, h1, h2, hsz⟩
  split at h
  · simp [freshA] at hf
  · obtain ⟨hroom, h⟩ := h
    have hs' : a.eval s = .slice none 0 0 := hs
    rcases hel with ⟨rfl, ad, c', hv⟩ | ⟨hm, b', off', c', news, hv, hseg, hnl⟩
    · refine ⟨.value (.slice none 0 0), w, run (.slice none 0 0) w fun ty => ?_, Below.refl _ _⟩
      rw [hs', hv]
      exact append_none hP ht (Nat.le_refl 0) (.inr rfl) w
    · obtain ⟨r, w', h1, h2, h3⟩ := append_new (ty := 0) (b := 0) (off := 0) (n := 0) (cap := 0) hP ht (olds := []) (.inl ⟨rfl, rfl, rfl, rfl⟩) (by simp) hnl hseg (c := c') hm (by omega) (by simpa using hroom)
      exact ⟨_, w', run r w' (fun ty => by rw [hs', hv]; exact h1), h3⟩
  · rename_i e' l cl
    obtain ⟨rfl, rfl, hm, hroom, h⟩ := h
    rcases hel with ⟨rfl, _⟩ | ⟨_, b', off', c', news, hv, hseg, hnl⟩
    · simp at hm
    rcases hs with ⟨ad0, c0, v1, rfl, had, hc0⟩ | ⟨b, off, cap, cs, v1, h2, h3, h4, h5, h6⟩
    · obtain rfl := hc0 rfl
      obtain ⟨r, w', h1, h2, h3⟩ := append_new (ty := 0) (b := 0) (off := 0) (n := 0) (cap := 0) (base := ad0) hP ht (olds := []) (by cases ad0 with | none => exact .inl ⟨rfl, rfl, rfl, rfl⟩ | some ad => exact .inr (.inr ⟨ad, rfl, rfl, rfl⟩)) (by simp) hnl hseg (c := c') hm (by omega) (by simpa using hroom)
      exact ⟨_, w', run r w' (fun ty => by rw [v1, hv]; exact h1), h3⟩
    · have hcap := h3 rfl
      subst hcap
      have hol := h6.len hP.sized
      rw [szs_replicate] at hol
      obtain ⟨r, w', g1, g2, g3⟩ := append_new (ty := 0) (n := l.length) (cap := l.length) hP ht (.inr (.inl ⟨rfl, h5⟩)) hol hnl hseg (c := c') hm (by omega) hroom
      exact ⟨_, w', run r w' (fun ty => by rw [v1, hv]; exact g1), g3⟩
  · exact h.elim

end Go.Eng
/- All operations that make or write memory, together. -/
namespace Go.Eng
set_option linter.unusedSimpArgs false
set_option linter.unusedVariables false
open Go.RowKit

variable {P : Program} {T : Tab} {w w' : World} {w0 : Base T} {F F' : Nat → Prop} {ρ ρ' : Nat → RI} {σ : St} {a : Act} {outs : List (Array Value)}

theorem zip_parts (f : Operand → Value) : ∀ (ps : List (Nat × Operand)) (k : Nat), ps.map (·.1) = List.range' k ps.length → ps.map (fun (i, x) => (i, f x)) = ((ps.map fun p => f p.2).zipIdx k).map fun x => (x.2, x.1)
  | [], _, _ => rfl
  | (i, x) :: ps, k, h => by
    simp only [List.map_cons, List.length_cons, List.range'_succ, List.cons.injEq] at h
    obtain ⟨rfl, h⟩ := h
    simp only [List.map_cons, List.zipIdx_cons]
    rw [zip_parts f ps (i + 1) h]

theorem run_buildSlice0 (w : World) {t e : TypeId} {i : TypeInfo} (hu : P.underlying t = some (.slice e)) (i1 : P.info? e = some i) :
    (Instr.buildSlice t 0 #[]).run P w = .ok (.slice (some ⟨w.heap.size, 0, none⟩) 0 0) (w.alloc (.cells #[] e)) := by
  have h0 : ∀ f : Nat → Value, Array.map f (Array.range 0) = #[] := fun f => Array.eq_empty_of_size_eq_zero (by simp)
  simp [Instr.buildSlice, run_underlying hu, sizeOf, typeInfo, i1, Instr.fill, newRow, h0]

theorem buildSlice_some (hP : TabOk P T) (hR : Rel T w F ρ w0 σ a.tmps outs) {t e : TypeId} (ht : T.ty t = .slice e) {n : Nat} {parts : Array (Nat × Operand)} (hp : parts.toList.map (·.1) = List.range n) (hn : 0 < n) (hs : n * T.sz e ≤ 2 ^ 24)
    {K : St → E → Prop} (h : evalVs T σ e (parts.toList.map (·.2)) fun vs => K { σ with ob := σ.ob ++ [.row e vs] } (.sl σ.ob.length e 0 n false)) : ∃ σ' e', K σ' e' ∧ Does P T w0 w a outs (.buildSlice t n parts) σ' e' := by
  obtain ⟨hu, hno⟩ := hP.slice _ _ ht
  obtain ⟨i, i1, i2, i3, z, i4, i5, i6, i7, _⟩ := hP.info e hno
  have hse := (hP.sized.slice _ _ ht).2
  obtain ⟨vs, h, hf, hall⟩ := evalVs_sound hR h
  have hlen : parts.toList.length = n := by have := congrArg List.length hp; simpa using this
  have hzip := zip_parts a.eval parts.toList 0 (by rw [hp, hlen, List.range_eq_range'])
  have hvl : vs.length = n := by have := hf.lens; simpa [hlen] using this
  have hcells : ∀ v ∈ parts.toList.map (fun p => a.eval p.2), v.cells.size = T.sz e := by
    intro v hv
    obtain ⟨p, hp1, rfl⟩ := List.mem_map.1 hv
    obtain ⟨y, hy⟩ := hall p.2 (List.mem_map.2 ⟨p, hp1, rfl⟩)
    simpa using hy.len hP.sized
  have hfill := Great.fill_whole hse (parts.toList.map (fun p => a.eval p.2)) ((Array.range (n * i.size)).map (z.cells[· % z.cells.size]!)) hcells (by simp only [List.length_map, hlen, Array.size_map, Array.size_range, i2])
  rw [← hzip] at hfill
  have hflat : ((parts.toList.map fun p => a.eval p.2).flatMap fun v => v.cells.toList) = ((parts.toList.map (·.2)).map fun x => (a.eval x).cells.toList).flatten := by
    rw [List.flatMap_def, List.map_map, List.map_map]; rfl
  rw [hflat] at hfill
  have hrun := run_buildSlice (P := P) w t e n (parts.map fun (i, x) => (i, a.eval x)) _ i z hu i1 i4 (by rw [i2]; omega) (by
    rw [i2]
    have := Nat.mul_pos hn hse
    omega) (by rw [i2]; simpa [i2] using hfill)
  have hll := hf.len hP.sized
  rw [szs_replicate, List.length_map, hlen] at hll
  have hcap : n ≤ maxLen := by
    have : n * 1 ≤ n * T.sz e := Nat.mul_le_mul_left n hse
    unfold maxLen; omega
  have hb := below_alloc w (.cells (((parts.toList.map (·.2)).map fun x => (a.eval x).cells.toList).flatten).toArray e)
  have := new_row (a := a) hR hb (l := vs) (r := .slice (some ⟨w.heap.size, 0, none⟩) n n) (xs := ((parts.toList.map (·.2)).map fun x => (a.eval x).cells.toList).flatten)
    (by
      rw [hvl]
      refine ⟨hll, .inr ⟨w.heap.size, n, _, rfl, Nat.le_refl _, heap_alloc_new w _, Nat.le_refl _, hcap, by simpa using hll, ?_⟩⟩
      rw [List.take_of_length_le]
      · exact Nat.le_of_eq (by simpa using hll))
    (by
      rw [hvl]
      rw [List.length_map, hlen] at hf
      exact hf.mono (fun _ x => x) (fun b hF => hb.block b (hR.fsub b hF)))
  rw [hvl] at this
  exact ⟨_, _, h, _, F, _, _, .value _, this.2, this.1, .inl rfl, fun o ho => by simp [execOp, ho, hrun], fun _ => hb⟩

theorem buildSlice_sound (hP : TabOk P T) (hR : Rel T w F ρ w0 σ a.tmps outs) {t e : TypeId} (ht : T.ty t = .slice e) {n : Nat} {parts : Array (Nat × Operand)} (hp : parts.toList.map (·.1) = List.range n) (hs : n * T.sz e ≤ 2 ^ 24)
    {K : St → E → Prop} (h : evalVs T σ e (parts.toList.map (·.2)) fun vs => K { σ with ob := σ.ob ++ [.row e vs] } (.sl σ.ob.length e 0 n false)) : ∃ σ' e', K σ' e' ∧ Does P T w0 w a outs (.buildSlice t n parts) σ' e' := by
  rcases Nat.eq_zero_or_pos n with hn | hn
  · subst hn
    have hpn : parts = #[] := by
      have h1 := congrArg List.length hp
      have : parts.toList = [] := List.eq_nil_of_length_eq_zero (by simpa using h1)
      exact Array.toList_eq_nil_iff.1 this
    subst hpn
    obtain ⟨hu, hno⟩ := hP.slice _ _ ht
    obtain ⟨i, i1, _⟩ := hP.info e hno
    have hrun := run_buildSlice0 (P := P) w hu i1
    have hb := below_alloc w (.cells #[] e)
    have := new_row (a := a) hR hb (l := []) (r := .slice (some ⟨w.heap.size, 0, none⟩) 0 0) (xs := [])
      ⟨by simp, .inr ⟨w.heap.size, 0, #[], rfl, Nat.le_refl _, heap_alloc_new w _, Nat.le_refl _, by unfold maxLen; omega, by simp, by simp⟩⟩ .nil
    exact ⟨_, _, h, _, F, _, _, .value _, this.2, this.1, .inl rfl, fun o ho => by simp [execOp, ho, hrun], fun _ => hb⟩
  · exact buildSlice_some hP hR ht hp hn hs h

theorem made_fits (hP : TabOk P T) {e : TypeId} {n : Nat} {z : Value} (hz : Fits T w F e (T.zero e) z.cells.toList) : FitsL T w F (List.replicate n e) (List.replicate n (T.zero e)) (madeCells z.cells (n * T.sz e)).toList := by
  have hzl := hz.len hP.sized
  have hzs : z.cells.size = T.sz e := by simpa using hzl
  refine FitsL.ofNth (by simp) (by simp [madeCells, szs_replicate]) (fun k t hk => ?_)
  rw [List.getElem?_replicate] at hk
  split at hk; rotate_left; · cases hk
  rename_i hkn
  cases hk
  rw [offs_replicate T n k _ (by omega)]
  have h1 : (List.replicate n (T.zero e)).getD k default = T.zero e := by simp [List.getD_eq_getElem?_getD, hkn]
  rw [h1]
  have h2 : ((madeCells z.cells (n * T.sz e)).toList.drop (k * T.sz e)).take (T.sz e) = z.cells.toList := by
    apply List.ext_getElem?
    intro j
    rw [List.getElem?_take]
    split
    · rename_i hj
      have hlt : k * T.sz e + j < n * T.sz e := by
        have : (k + 1) * T.sz e ≤ n * T.sz e := Nat.mul_le_mul_right _ hkn
        rw [Nat.add_mul, Nat.one_mul] at this
        omega
      have hmod : (k * T.sz e + j) % T.sz e = j := by rw [Nat.add_comm, Nat.add_mul_mod_self_right, Nat.mod_eq_of_lt hj]
      have hjz : j < z.cells.size := by omega
      simp [madeCells, hlt, hzs, hmod]
      rw [getElem!_pos z.cells j hjz, Array.getElem?_eq_getElem hjz]
    · rename_i hj
      rw [List.getElem?_eq_none (by omega)]
  rw [h2]
  exact hz

theorem makeSlice_sound (hP : TabOk P T) (hR : Rel T w F ρ w0 σ a.tmps outs) {t e : TypeId} (ht : T.ty t = .slice e) {l c : Operand} {n : Int} {k k' : IntKind} (hl : a.eval l = .int k n) (hc : a.eval c = .int k' n) (h0 : 0 ≤ n) (hroom : roomFor T e n.toNat)
    (hfn : T.ty e ≠ .fn) (hpt : ∀ u, T.ty e ≠ .ptr u)
    {K : St → E → Prop} (h : K { σ with ob := σ.ob ++ [.row e (List.replicate n.toNat (T.zero e))] } (.sl σ.ob.length e 0 n.toNat false)) : ∃ σ' e', K σ' e' ∧ Does P T w0 w a outs (.makeSlice t l c) σ' e' := by
  obtain ⟨hu, hno⟩ := hP.slice _ _ ht
  obtain ⟨i, i1, i2, i3, z, i4, i5, i6, i7, i8, _⟩ := hP.info e hno
  have hse := (hP.sized.slice _ _ ht).2
  obtain ⟨r1, r2⟩ := hroom
  obtain ⟨m, rfl⟩ := Int.eq_ofNat_of_zero_le h0
  simp only [Int.toNat_natCast] at *
  obtain ⟨w', g1, g2, g3⟩ := run_make_full (P := P) w w.heap.size t e i z (T.sz e) hu i1 i4 i2 k k' m (by rw [i3, Nat.mul_comm]; omega) r1 (Nat.le_refl _)
  have hb : Below w.heap.size w w' := ⟨g3.os, g3.tape, g3.output, g3.size, fun b hb => g3.block b hb (by simp)⟩
  have := new_row (a := a) hR hb (l := List.replicate m (T.zero e)) (by rw [List.length_replicate]; exact g2) (by rw [List.length_replicate]; exact made_fits hP (i8 hfn hpt w' F))
  rw [List.length_replicate] at this
  exact ⟨_, _, h, w', F, _, _, .value _, this.2, this.1, .inl rfl, fun o ho => by simp [execOp, ho, hl, hc, g1], fun _ => hb⟩

theorem effA_sound (hP : TabOk P T) (hR : Rel T w F ρ w0 σ a.tmps outs) {op : Op} {K : St → E → Prop} (h : effA T σ op K) : ∃ σ' e, K σ' e ∧ Does P T w0 w a outs op σ' e := by
  unfold effA at h
  split at h
  · rename_i t
    obtain ⟨ht, h⟩ := h
    obtain ⟨i, i1, i2, i3, z, i4, i5, i6, i7, _⟩ := hP.info t ht
    obtain ⟨z1, z2, z3, z4⟩ := zeroE_rel (w := w) (F := F) (ρ := ρ) hP ht i1 i4
    obtain ⟨n1, n2⟩ := new_var hR ht z1 z2 z3 z4
    refine ⟨_, _, h, _, F, _, _, .value _, n2, n1, .inl rfl, fun o ho => ?_, fun _ => below_alloc _ _⟩
    simp [execOp, ho, Instr.alloc, zeroValue, typeInfo, i1, i4, newVar, newRow]
  · rename_i t x
    obtain ⟨e, h, he⟩ := evalO_sound hR h
    obtain ⟨hok, h⟩ := h
    obtain ⟨k1, k2⟩ := okAt_holds hP.sized (he rfl) hok
    obtain ⟨n1, n2⟩ := new_var hR (okAt_other hok) (he rfl) k1 k2 (fun u y hy => by subst hy; simp only [okAt, Bool.and_eq_true, beq_iff_eq] at hok; exact hok.1)
    refine ⟨_, _, h, _, F, _, _, .value _, n2, n1, .inl rfl, fun o ho => ?_, fun _ => below_alloc _ _⟩
    simp [execOp, ho, Instr.box, newVar, newRow]
  · rename_i t x y
    obtain ⟨p, h, hp⟩ := evalO_sound hR h
    obtain ⟨e, h, he⟩ := evalO_sound hR h
    exact storeA_sound hP hR (hp rfl) (he rfl) h
  · rename_i t n parts
    split at h; rotate_left; · exact h.elim
    rename_i e ht
    obtain ⟨h1, h3, h4⟩ := h
    exact buildSlice_sound hP hR ht h1 h3 h4
  · rename_i t l c
    split at h; rotate_left; · exact h.elim
    rename_i e ht
    obtain ⟨el, h, hl⟩ := evalO_sound hR h
    obtain ⟨ec, h, hc⟩ := evalO_sound hR h
    split at h; rotate_left; · exact h.elim
    obtain ⟨rfl, h0, hr, hfn, hpt, h⟩ := h
    exact makeSlice_sound hP hR ht (hl rfl).1 (hc rfl).1 h0 hr hfn hpt h
  · rename_i c
    split at h; rotate_left; · exact h.elim
    rename_i s x t t' hc hca hct
    obtain ⟨rfl, h⟩ := h
    split at h; rotate_left; · exact h.elim
    rename_i e ht
    obtain ⟨es, h, hs⟩ := evalO_sound hR h
    obtain ⟨ex, h, hx⟩ := evalO_sound hR h
    exact appendA_sound hP hR ht hc (by rw [← Array.toArray_toList (xs := c.args), hca]) (by rw [← Array.toArray_toList (xs := c.argTypes), hct]) (hs rfl) (hx rfl) h
  · exact h.elim

/-- An append to a slice without spare room. -/
def appB (T : Tab) (σ : St) (c : Call) (K : St → E → Prop) : Prop := match c.args.toList, c.argTypes.toList with
  | [s, x], [t, t'] => t' = t ∧ match T.ty t with
    | .slice e => evalO σ true s fun es => evalO σ true x fun ex => freshA es = true ∧ appendA T σ e es ex K
    | _ => False
  | _, _ => False

theorem appB_sound (hP : TabOk P T) (hR : Rel T w F ρ w0 σ a.tmps outs) {c : Call} (hc : c.callee = .builtin .append) {K : St → E → Prop} (h : appB T σ c K) :
    (∃ σ' e', K σ' e' ∧ Does P T w0 w a outs (.call c) σ' e') ∧ ∃ nx w', (∀ o : Oper, o.op = .call c → (execOp a.eval o).run P w = .ok nx w') ∧ Below w.heap.size w w' := by
  unfold appB at h
  split at h
  · rename_i s x t t' hca hct
    obtain ⟨rfl, h⟩ := h
    split at h; rotate_left; · exact h.elim
    rename_i e ht
    obtain ⟨es, h, hs⟩ := evalO_sound hR h
    obtain ⟨ex, h, hx⟩ := evalO_sound hR h
    obtain ⟨hf, h⟩ := h
    have h1 : c.args = #[s, x] := by rw [← Array.toArray_toList (xs := c.args), hca]
    have h2 : c.argTypes = #[t', t'] := by rw [← Array.toArray_toList (xs := c.argTypes), hct]
    exact ⟨appendA_sound hP hR ht hc h1 h2 (hs rfl) (hx rfl) h, appendA_below hP hR ht hc h1 h2 (hs rfl) (hx rfl) hf h⟩
  · exact h.elim

end Go.Eng
