/- That the machine yields what the abstract state says: slices, builtins, comparisons, literals; all operations that leave the memory alone. -/
import Derived.Test.YtbfihoopgcmkpaaEngF
namespace Go.Eng
set_option linter.unusedSimpArgs false
set_option linter.unusedVariables false
open Go.RowKit

variable {P : Program} {T : Tab} {w w' : World} {w0 : Base} {F : Nat → Prop} {ρ : Nat → RI} {σ : St} {a : Act} {outs : List (Array Value)}

/-- The bounds of a slice expression, all given or not. -/
theorem bounds_run {isS : Bool} {len cap : Nat} {lo hi mx : Option Operand} {A B M : Int} (hlo : OptIs a lo 0 A) (hhi : OptIs a hi len B) (hmx : OptIs a mx B M)
    (h0 : 0 ≤ A) (h1 : A ≤ B) (h2 : B ≤ len) (h3 : len ≤ cap) (h4 : mx.isSome = true → B = M) (h5 : mx.isSome = true → hi.isSome = true) (W : World) :
    (Instr.sliceBounds isS len cap (lo.map a.eval) (hi.map a.eval) (mx.map a.eval)).run P W = .ok (A.toNat, B.toNat, if mx.isSome then M.toNat else cap) W := by
  have c1 : B ≤ (cap : Int) := by omega
  have c2 : 0 ≤ B := by omega
  have cm : max B 0 = B := by omega
  unfold OptIs at hlo hhi hmx
  cases mx with
  | none =>
    cases hi with
    | none =>
      cases lo with
      | none => simp at hlo hhi; subst hlo; subst hhi; simp [Instr.sliceBounds]
      | some o => obtain ⟨k, hk⟩ := hlo; simp at hhi; subst hhi; simp [Instr.sliceBounds, Instr.sliceBound, hk, asIntOf, h0, h1]
    | some p =>
      obtain ⟨k, hk⟩ := hhi
      cases lo with
      | none => simp at hlo; subst hlo; simp [Instr.sliceBounds, Instr.sliceBound, hk, asIntOf, c1, c2]
      | some o =>
        obtain ⟨k', hk'⟩ := hlo
        simp [Instr.sliceBounds, Instr.sliceBound, hk, hk', asIntOf, c1, c2, h0, cm, h1]
  | some q =>
    obtain ⟨k2, hk2⟩ := hmx
    have hBM := h4 rfl
    subst hBM
    cases hi with
    | none => simp at h5
    | some p =>
      obtain ⟨k, hk⟩ := hhi
      cases lo with
      | none => simp at hlo; subst hlo; simp [Instr.sliceBounds, Instr.sliceBound, hk, hk2, asIntOf, c1, c2, cm]
      | some o =>
        obtain ⟨k', hk'⟩ := hlo
        simp [Instr.sliceBounds, Instr.sliceBound, hk, hk', hk2, asIntOf, c1, c2, cm, h0, h1]

theorem sliceA_sound (hP : TabOk P T) (hR : Rel T w F ρ w0 σ a.tmps outs) {g : Bool} {t : TypeId} {x : Operand} {lo hi mx : Option Operand} {ex : E} {K : E → Prop}
    (hx : g = true → ERel T w F ρ ex (a.eval x)) (h : sliceA T σ g t ex lo hi mx K) (hmh : mx.isSome = true → hi.isSome = true) :
    ∃ e, K e ∧ (g = true → Yields1 P T w F ρ a (.slice t x lo hi mx) e) := by
  unfold sliceA at h
  split at h
  · rename_i e ht
    obtain ⟨hu, hno⟩ := hP.slice _ _ ht
    split at h
    · rename_i e' l c
      obtain ⟨rfl, h⟩ := h
      obtain ⟨A, h, hA⟩ := evalOptI_sound hR h
      obtain ⟨B, h, hB⟩ := evalOptI_sound hR h
      obtain ⟨M, h, hM⟩ := evalOptI_sound hR h
      obtain ⟨hb, h⟩ := h
      refine ⟨_, h, fun hg => ?_⟩
      obtain ⟨b0, b1, b2, b3⟩ := hb hg
      have run : ∀ (W : World) (b off cap : Nat), a.eval x = .slice (some ⟨b, off, none⟩) l.length cap → l.length ≤ cap → ∀ o : Oper, o.op = .slice t x lo hi mx →
          (execOp a.eval o).run P W = .ok (.value (.slice (some ⟨b, if (if mx.isSome then M.toNat else cap) = A.toNat then off else off + A.toNat * T.sz e', none⟩) (B.toNat - A.toNat) ((if mx.isSome then M.toNat else cap) - A.toNat))) W := by
        intro W b off cap hv hc o ho
        have hbr := bounds_run (P := P) (isS := true) (hA hg) (hB hg) (hM hg) b0 b1 b2 hc b3 hmh W
        by_cases hm : (if mx.isSome then M.toNat else cap) = A.toNat
        · simp [execOp, ho, hv, Instr.sliceAt, Instr.slice, run_underlying hu, hbr, run_sizeOf hP hno, hm]
        · simp [execOp, ho, hv, Instr.sliceAt, Instr.slice, run_underlying hu, hbr, run_sizeOf hP hno, hm, addr_add]
      rcases hx hg with ⟨h1, h2⟩ | ⟨b, off, cap, cs, h1, h2, h3, h4, h5, h6⟩
      · subst h2
        simp only [List.length_nil] at b2 hB
        have e1 : A = 0 := by omega
        have e2 : B = 0 := by omega
        subst e1; subst e2
        refine ⟨.slice none 0 0, .inl ⟨rfl, by simp⟩, fun W _ o ho => ?_⟩
        have hbr := bounds_run (P := P) (isS := true) (len := 0) (cap := 0) (hA hg) (hB hg) (hM hg) (by omega) (by omega) (by omega) (by omega) b3 hmh W
        have hm0 : (if mx.isSome then M.toNat else 0) = 0 := by
          split
          · rename_i q; have := b3 q; omega
          · rfl
        simp only [hm0, Int.toNat_zero] at hbr
        simp [execOp, ho, h1, Instr.sliceAt, Instr.slice, run_underlying hu, hbr, run_sizeOf hP hno]
      · refine ⟨_, .inr ⟨b, if (if mx.isSome then M.toNat else cap) = A.toNat then off else off + A.toNat * T.sz e', (if mx.isSome then M.toNat else cap) - A.toNat, (cs.drop (A.toNat * T.sz e')).take ((B.toNat - A.toNat) * T.sz e'), ?_, ?_, ?_, h4, ?_, ?_⟩, fun W _ => run W b off cap h1 h2⟩
        · have : ((l.drop A.toNat).take (B.toNat - A.toNat)).length = B.toNat - A.toNat := by simp; omega
          rw [this]
        · have : ((l.drop A.toNat).take (B.toNat - A.toNat)).length = B.toNat - A.toNat := by simp; omega
          rw [this]
          split
          · rename_i q; have := b3 q; omega
          · omega
        · intro hc
          have : ((l.drop A.toNat).take (B.toNat - A.toNat)).length = B.toNat - A.toNat := by simp; omega
          rw [this]
          simp only [Bool.or_eq_true, Bool.and_eq_true, decide_eq_true_eq] at hc
          split
          · rename_i q; have := b3 q; omega
          · rename_i q
            rcases hc with hc | ⟨hc1, hc2⟩
            · exact absurd hc q
            · have := h3 hc1; omega
        · by_cases hm : (if mx.isSome then M.toNat else cap) = A.toNat
          · have : B.toNat - A.toNat = 0 := by
              split at hm
              · rename_i q; have := b3 q; omega
              · omega
            rw [this]
            intro j y hy
            simp at hy
          · rw [if_neg hm]
            exact h5.sub _ _
        · have : ((l.drop A.toNat).take (B.toNat - A.toNat)).length = B.toNat - A.toNat := by simp; omega
          rw [this]
          exact h6.slice hP.sized (by omega)
    · rename_i i e' l0 len c
      obtain ⟨rfl, h⟩ := h
      obtain ⟨A, h, hA⟩ := evalOptI_sound hR h
      obtain ⟨B, h, hB⟩ := evalOptI_sound hR h
      obtain ⟨M, h, hM⟩ := evalOptI_sound hR h
      obtain ⟨hb, hcl, h⟩ := h
      refine ⟨_, h, fun hg => ?_⟩
      obtain ⟨b0, b1, b2, b3⟩ := hb hg
      rcases hx hg with ⟨h1, h2, h3, h4⟩ | ⟨b, n, cap, off, h1, h2, h3, h4, h5, h6⟩
      · subst h3; subst h4
        have e1 : A = 0 := by omega
        have e2 : B = 0 := by omega
        subst e1; subst e2
        refine ⟨.slice none 0 0, .inl ⟨h1, rfl, rfl, rfl⟩, fun W _ o ho => ?_⟩
        have hbr := bounds_run (P := P) (isS := true) (len := 0) (cap := 0) (hA hg) (hB hg) (hM hg) (by omega) (by omega) (by omega) (by omega) b3 hmh W
        have hm0 : (if mx.isSome then M.toNat else 0) = 0 := by
          split
          · rename_i q; have := b3 q; omega
          · rfl
        simp only [hm0, Int.toNat_zero] at hbr
        simp [execOp, ho, h2, Instr.sliceAt, Instr.slice, run_underlying hu, hbr, run_sizeOf hP hno]
      · generalize hcap : (if c = true then len else cap - l0) = cap' at h4
        have hc : len ≤ cap' := by subst hcap; split <;> omega
        have hbr := fun W => bounds_run (P := P) (isS := true) (hA hg) (hB hg) (hM hg) b0 b1 b2 hc b3 hmh W
        refine ⟨.slice (some ⟨b, if (if mx.isSome then M.toNat else cap') = A.toNat then off else off + A.toNat * T.sz e', none⟩) (B.toNat - A.toNat) ((if mx.isSome then M.toNat else cap') - A.toNat),
          .inr ⟨b, n, cap, if (if mx.isSome then M.toNat else cap') = A.toNat then off else off + A.toNat * T.sz e', h1, by omega, h3, ?_, ?_, ?_⟩, fun W _ o ho => ?_⟩
        · congr 1
          by_cases hmx : mx.isSome = true
          · have := b3 hmx
            simp [hmx]
            omega
          · simp only [hmx, Bool.false_eq_true, if_false, Bool.false_or]
            subst hcap
            cases c
            · simp; omega
            · have := (hcl rfl).resolve_left hmx
              simp [this]
        · intro q
          have e1 : l0 = 0 := by omega
          have e2 : A.toNat = 0 := by omega
          have e3 := h5 e1
          subst e3
          rw [e2]
          split <;> simp
        · by_cases hm : (if mx.isSome then M.toNat else cap') = A.toNat
          · left
            split at hm
            · rename_i q; have := b3 q; omega
            · omega
          · rw [if_neg hm]
            rcases h6 with h6 | h6
            · left; omega
            · right; rw [h6, Nat.add_mul]
        · by_cases hm : (if mx.isSome then M.toNat else cap') = A.toNat
          · simp [execOp, ho, h4, Instr.sliceAt, Instr.slice, run_underlying hu, hbr W, run_sizeOf hP hno, hm]
          · simp [execOp, ho, h4, Instr.sliceAt, Instr.slice, run_underlying hu, hbr W, run_sizeOf hP hno, hm, addr_add]
    · exact h.elim
  · rename_i n e ht
    obtain ⟨hu, h1n, hse, hno⟩ := hP.arr _ _ _ ht
    split at h; rotate_left; · exact h.elim
    rename_i t' v
    obtain ⟨rfl, hmx, h⟩ := h
    have hmx' : mx = none := by cases mx <;> simp_all
    subst hmx'
    obtain ⟨A, h, hA⟩ := evalOptI_sound hR h
    obtain ⟨B, h, hB⟩ := evalOptI_sound hR h
    obtain ⟨hb, h⟩ := h
    refine ⟨_, h, fun hg => ?_⟩
    obtain ⟨b0, b1, b2⟩ := hb hg
    obtain ⟨b, off, cs, h1, h2, h3, h4⟩ := hx hg
    obtain ⟨l, rfl, h5⟩ := h4.inv' ht
    have hl := h5.lens
    rw [List.length_replicate] at hl
    have hbr := fun W => bounds_run (P := P) (isS := false) (len := n) (cap := n) (mx := none) (M := B) (hA hg) (hB hg) rfl b0 b1 b2 (Nat.le_refl _) (by simp) (by simp) W
    simp only [Option.map_none, Option.isSome_none, Bool.false_eq_true, if_false] at hbr
    have hlen : ((l.drop A.toNat).take (B.toNat - A.toNat)).length = B.toNat - A.toNat := by simp; omega
    refine ⟨.slice (some ⟨b, if n = A.toNat then off else off + A.toNat * T.sz e, none⟩) (B.toNat - A.toNat) (n - A.toNat), .inr ⟨b, if n = A.toNat then off else off + A.toNat * T.sz e, n - A.toNat, (cs.drop (A.toNat * T.sz e)).take ((B.toNat - A.toNat) * T.sz e), ?_, ?_, ?_, h2, ?_, ?_⟩, fun W _ o ho => ?_⟩
    · simp only [V.toList_agg]; rw [hlen]
    · simp only [V.toList_agg]; rw [hlen]; omega
    · intro hd
      simp only [decide_eq_true_eq] at hd
      simp only [V.toList_agg]; rw [hlen]; omega
    · by_cases hm : n = A.toNat
      · have : B.toNat - A.toNat = 0 := by omega
        rw [this]
        intro j y hy
        simp at hy
      · rw [if_neg hm]
        exact h3.sub _ _
    · simp only [V.toList_agg]
      rw [hlen]
      exact h5.slice hP.sized (by omega)
    · by_cases hm : n = A.toNat
      · have hb2 := hbr W
        rw [if_pos hm]
        have hm' : (n = A.toNat) = True := by simp [hm]
        simp [execOp, ho, h1, Instr.sliceAt, Instr.sureAddr, run_underlying hu, hb2, run_sizeOf hP hno, hm']
      · simp [execOp, ho, h1, Instr.sliceAt, Instr.sureAddr, run_underlying hu, hbr W, run_sizeOf hP hno, hm, addr_add]
  · exact h.elim

theorem builtinA_sound (hP : TabOk P T) {g : Bool} {c : Call} {b : Builtin} {es : List E} {K : E → Prop} (hc : c.callee = .builtin b) (hx : g = true → ERelL T w F ρ es (c.args.toList.map a.eval))
    (h : builtinA T g b c.argTypes.toList es K) : ∃ e, K e ∧ (g = true → Yields1 P T w F ρ a (.call c) e) := by
  unfold builtinA at h
  split at h
  · rename_i t x hts
    have hx' : g = true → ∃ o v, c.args = #[o] ∧ a.eval o = v ∧ ERel T w F ρ x v := by
      intro hg
      have h1 := hx hg
      match hl : c.args.toList, h1 with
      | [o], h1 => exact ⟨o, _, by rw [← Array.toArray_toList (xs := c.args), hl], rfl, h1.1⟩
    have hat : c.argTypes = #[t] := by rw [← Array.toArray_toList (xs := c.argTypes), hts]
    split at h
    · rename_i e ht
      obtain ⟨hu, hno⟩ := hP.slice _ _ ht
      have run : ∀ (W : World) (o : Operand) (ad : Option Addr) (n cp : Nat), c.args = #[o] → a.eval o = .slice ad n cp → ∀ op : Oper, op.op = .call c → (execOp a.eval op).run P W = .ok (.value (.int .i64 n)) W := by
        intro W o ad n cp h1 h2 op hop
        simp [execOp, hop, resolve, hc, h1, h2, invoke, builtin, Builtin.len_, hat, run_underlying hu, goInt]
      have lenHas : ∀ n : Nat, n ≤ maxLen → IntKind.i64.has (n : Int) := by
        intro n hn
        unfold maxLen at hn
        simp [IntKind.has, IntKind.min, IntKind.max, IntKind.signed, IntKind.bits]
        omega
      split at h
      · rename_i e' l cl
        refine ⟨_, h.2, fun hg => ?_⟩
        obtain ⟨o, v, h1, h2, h3⟩ := hx' hg
        have hl := lenHas _ (h.1 hg)
        rcases h3 with ⟨q1, q2⟩ | ⟨b', off, cap, cs, q1, q2, _⟩
        · subst q2
          exact ⟨_, ⟨rfl, hl⟩, fun W _ => run W o none 0 0 h1 (h2.trans q1)⟩
        · exact ⟨_, ⟨rfl, hl⟩, fun W _ => run W o _ _ _ h1 (h2.trans q1)⟩
      · rename_i i e' lo n cl
        refine ⟨_, h.2, fun hg => ?_⟩
        obtain ⟨o, v, h1, h2, h3⟩ := hx' hg
        have hl := lenHas _ (h.1 hg)
        rcases h3 with ⟨_, q1, _, q2⟩ | ⟨b', n', cap, off, _, _, _, q1, _⟩
        · subst q2
          exact ⟨_, ⟨rfl, hl⟩, fun W _ => run W o none 0 0 h1 (h2.trans q1)⟩
        · exact ⟨_, ⟨rfl, hl⟩, fun W _ => run W o _ _ _ h1 (h2.trans q1)⟩
      · refine ⟨_, h, fun hg => ?_⟩
        obtain ⟨o, v, h1, h2, h3⟩ := hx' hg
        exact ⟨_, ⟨rfl, lenHas 0 (by decide)⟩, fun W _ => run W o none 0 0 h1 (h2.trans h3)⟩
      · exact h.elim
    · rename_i ht
      split at h; rotate_left; · exact h.elim
      rename_i s
      refine ⟨_, h.2, fun hg => ?_⟩
      obtain ⟨o, v, h1, h2, h3⟩ := hx' hg
      have h2' : a.eval o = .string s := h2.trans h3
      have hl : IntKind.i64.has (s.size : Int) := by
        have := h.1 hg
        unfold maxLen at this
        simp [IntKind.has, IntKind.min, IntKind.max, IntKind.signed, IntKind.bits]
        omega
      refine ⟨_, ⟨rfl, hl⟩, fun W _ op hop => ?_⟩
      simp [execOp, hop, resolve, hc, h1, h2', invoke, builtin, Builtin.len_, hat, run_underlying (hP.str _ ht), goInt]
    · exact h.elim
  · obtain ⟨rfl, h⟩ := h
    refine ⟨_, h, fun hg => ?_⟩
    have h1 := hx hg
    match hl : c.args.toList, h1 with
    | [o1, o2], h1 =>
      have ha : c.args = #[o1, o2] := by rw [← Array.toArray_toList (xs := c.args), hl]
      obtain ⟨⟨e1, r1⟩, ⟨e2, r2⟩, _⟩ := h1
      refine ⟨_, ⟨rfl, ?_⟩, fun W _ op hop => ?_⟩
      · unfold IntKind.has at *; omega
      · simp [execOp, hop, resolve, hc, ha, e1, e2, invoke, builtin, Builtin.min_, Builtin.min2]
        split <;> omega
  · obtain ⟨rfl, h⟩ := h
    refine ⟨_, h, fun hg => ?_⟩
    have h1 := hx hg
    match hl : c.args.toList, h1 with
    | [o1, o2], h1 =>
      have ha : c.args = #[o1, o2] := by rw [← Array.toArray_toList (xs := c.args), hl]
      obtain ⟨⟨e1, r1⟩, ⟨e2, r2⟩, _⟩ := h1
      refine ⟨_, ⟨rfl, ?_⟩, fun W _ op hop => ?_⟩
      · unfold IntKind.has at *; omega
      · simp [execOp, hop, resolve, hc, ha, e1, e2, invoke, builtin, Builtin.max_, Builtin.max2]
        split <;> omega
  · exact h.elim

theorem eqA_sound {op : BinOp} {r : Bool} {K : E → Prop} (h : eqA op r K) : ∃ b, K (.bool b) ∧ ((op = .eql ∧ b = r) ∨ (op = .neq ∧ b = !r)) := by
  unfold eqA at h
  split at h
  · exact ⟨_, h, .inl ⟨rfl, rfl⟩⟩
  · exact ⟨_, h, .inr ⟨rfl, rfl⟩⟩
  · exact h.elim

theorem binA_sound (hP : TabOk P T) {g : Bool} {op : BinOp} {t t' : TypeId} {x y : Operand} {ex ey : E} {K : E → Prop} (hx : g = true → ERel T w F ρ ex (a.eval x)) (hy : g = true → ERel T w F ρ ey (a.eval y))
    (h : binA T op t g ex ey K) : ∃ e, K e ∧ (g = true → Yields1 P T w F ρ a (.binOp op t x y t') e) := by
  have run1 : ∀ (W : World) (v : Value), (eqGuard op t x y (a.eval x) (a.eval y)).run P W = .ok () W → (binOp op t (a.eval x) (a.eval y)).run P W = .ok v W → ∀ o : Oper, o.op = .binOp op t x y t' → (execOp a.eval o).run P W = .ok (.value v) W := by
    intro W v h1 h2 o ho
    simp [execOp, ho, h1, h2]
  have shr : (op = .shl ∨ op = .shr) → shiftA op g ex ey K → ∃ e, K e ∧ (g = true → Yields1 P T w F ρ a (.binOp op t x y t') e) := by
    intro hop h'
    unfold shiftA at h'
    split at h'; rotate_left; · exact h'.elim
    rename_i k p k' q
    split at h'; rotate_left; · exact h'.elim
    rename_i e he
    refine ⟨e, h'.2, fun hg => ?_⟩
    obtain ⟨e1, r1⟩ := hx hg
    obtain ⟨e2, _⟩ := hy hg
    obtain ⟨v, hv, _⟩ := shifts_run (P := P) (T := T) (w := w) (F := F) (ρ := ρ) (k' := k') he (h'.1 hg) r1 t default
    refine ⟨v, hv, fun W _ => run1 W v (by rcases hop with rfl | rfl <;> simp [eqGuard]) ?_⟩
    obtain ⟨v', hv', hr⟩ := shifts_run (P := P) (T := T) (w := w) (F := F) (ρ := ρ) (k' := k') he (h'.1 hg) r1 t W
    rw [e1, e2]
    have : v' = v := by
      cases op <;> simp [shifts] at he <;> subst he <;> exact hv'.1.trans hv.1.symm
    exact this ▸ hr
  have oth : (op ≠ .shl ∧ op ≠ .shr) → plainA T op t g ex ey K → ∃ e, K e ∧ (g = true → Yields1 P T w F ρ a (.binOp op t x y t') e) := by
    intro hop h'
    unfold plainA at h'
    split at h'
    · rename_i k p k' q
      obtain ⟨rfl, h'⟩ := h'
      split at h'; rotate_left; · exact h'.elim
      rename_i pre e he
      refine ⟨e, h'.2, fun hg => ?_⟩
      obtain ⟨e1, r1⟩ := hx hg
      obtain ⟨e2, _⟩ := hy hg
      obtain ⟨v, hv, _⟩ := arith_run (P := P) (T := T) (w := w) (F := F) (ρ := ρ) he (h'.1 hg) r1 t default hop
      refine ⟨v, hv, fun W _ => run1 W v (by rw [e1, e2]; cases op <;> simp [eqGuard]) ?_⟩
      obtain ⟨v', hv', hr⟩ := arith_run (P := P) (T := T) (w := w) (F := F) (ρ := ρ) he (h'.1 hg) r1 t W hop
      rw [e1, e2]
      have : v' = v := by
        cases op <;> simp [arith] at he <;> obtain ⟨_, rfl⟩ := he <;> first | exact hv'.1.trans hv.1.symm | exact Eq.trans hv' hv.symm
      exact this ▸ hr
    · rename_i p q
      obtain ⟨ht, h'⟩ := h'
      obtain ⟨b, hK, hb⟩ := eqA_sound h'
      refine ⟨_, hK, fun hg => ⟨_, rfl, fun W _ => ?_⟩⟩
      have e1 : a.eval x = .bool p := hx hg
      have e2 : a.eval y = .bool q := hy hg
      refine run1 W _ (by rw [e1, e2]; rcases hb with ⟨rfl, _⟩ | ⟨rfl, _⟩ <;> simp [eqGuard]) ?_
      rw [e1, e2]
      rcases hb with ⟨rfl, rfl⟩ | ⟨rfl, rfl⟩
      · show ((do pure (Value.bool (← Op.equal t (.bool p) (.bool q))) : Sem Value)).run P W = _
        rw [Sem.run_bind, run_equal_bool W t p q (hP.bool _ ht)]; rfl
      · show ((do pure (Value.bool (!(← Op.equal t (.bool p) (.bool q)))) : Sem Value)).run P W = _
        rw [Sem.run_bind, run_equal_bool W t p q (hP.bool _ ht)]; rfl
    · rename_i p q
      obtain ⟨b, hK, hb⟩ := eqA_sound h'
      refine ⟨_, hK, fun hg => ⟨_, rfl, fun W _ => ?_⟩⟩
      have e1 : a.eval x = .string p := hx hg
      have e2 : a.eval y = .string q := hy hg
      refine run1 W _ (by rw [e1, e2]; rcases hb with ⟨rfl, _⟩ | ⟨rfl, _⟩ <;> simp [eqGuard]) ?_
      rw [e1, e2]
      rcases hb with ⟨rfl, rfl⟩ | ⟨rfl, rfl⟩ <;> simp [binOp, Op.stringOp]
    · rename_i t1 p t2 q
      obtain ⟨rfl, rfl, hf, h'⟩ := h'
      obtain ⟨b, hK, hb⟩ := eqA_sound h'
      refine ⟨_, hK, fun hg => ⟨_, rfl, fun W _ => ?_⟩⟩
      obtain ⟨cs, e1, hA, f1⟩ := hx hg
      obtain ⟨ds, e2, _, f2⟩ := hy hg
      refine run1 W _ (by rw [e1, e2]; exact run_eqGuard_agg W op _ x y cs ds (hP.guard _ hA)) ?_
      have hq := equalIn_run hP W 20 _ hf 10000 (by omega) f1 f2 (x := .agg cs) (y := .agg ds) (by simp [ValOf, hA]) (by simp [ValOf, hA])
      rw [e1, e2]
      rcases hb with ⟨rfl, rfl⟩ | ⟨rfl, rfl⟩
      · rw [run_eql_struct, hq]; rfl
      · rw [run_neq_struct, hq]; rfl
    · exact h'.elim
  unfold binA at h
  split at h
  · exact shr (.inl rfl) h
  · exact shr (.inr rfl) h
  · rename_i h1 h2
    exact oth ⟨h1, h2⟩ h

end Go.Eng
