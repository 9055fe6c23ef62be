/- Visible instructions: what they owe; states that a run comes to. -/
import Derived.Test.YtedceinkpkoncaaGreatDoorPk16
import Derived.Test.YtedceinkpkoncaaGreatDoorPk15
namespace Go.Eng
set_option linter.unusedSimpArgs false
set_option linter.unusedVariables false
set_option linter.unusedVariables false

theorem oper_var {p : Prg} {f : Fnc} {i : Instr} {l x : Int} (h : operandErr p f l x i = 0) (hl : l = 118 ∨ l = 97) : 0 ≤ x ∧ x < (p.vars.length : Int) := by
  unfold operandErr at h
  rw [if_neg (by omega), if_neg (by omega), if_neg (by omega)] at h
  split at h
  · split at h
    · rename_i hw; exact within_iff.1 hw
    · cases h
  · rw [if_pos (by omega)] at h
    split at h
    · rename_i hw; exact within_iff.1 hw
    · cases h
theorem oper_lock {p : Prg} {f : Fnc} {i : Instr} {l x : Int} (h : operandErr p f l x i = 0) (hl : l = 108) : 0 ≤ x ∧ x < p.locks := by
  subst hl
  unfold operandErr at h
  rw [if_neg (by decide), if_neg (by decide), if_neg (by decide), if_neg (by decide), if_neg (by decide), if_pos rfl] at h
  split at h
  · rename_i hw; exact within_iff.1 hw
  · cases h
theorem oper_chan {p : Prg} {f : Fnc} {i : Instr} {l x : Int} (h : operandErr p f l x i = 0) (hl : l = 99) : 0 ≤ x ∧ x < (p.chans.length : Int) := by
  subst hl
  unfold operandErr at h
  rw [if_neg (by decide), if_neg (by decide), if_neg (by decide), if_neg (by decide), if_neg (by decide), if_neg (by decide), if_pos rfl] at h
  split at h
  · rename_i hw; exact within_iff.1 hw
  · cases h
theorem oper_sel {p : Prg} {f : Fnc} {i : Instr} {l x : Int} (h : operandErr p f l x i = 0) (hl : l = 115) : 0 ≤ x ∧ x < (f.sels.length : Int) := by
  subst hl
  unfold operandErr at h
  rw [if_neg (by decide), if_neg (by decide), if_neg (by decide), if_neg (by decide), if_neg (by decide), if_neg (by decide), if_neg (by decide), if_pos rfl] at h
  split at h
  · rename_i hw; exact within_iff.1 hw
  · cases h
theorem oper_fun {p : Prg} {f : Fnc} {i : Instr} {l x : Int} (h : operandErr p f l x i = 0) (hl : l = 102) : 0 ≤ x ∧ x < (p.funcs.length : Int) := by
  subst hl
  unfold operandErr at h
  rw [if_neg (by decide), if_neg (by decide), if_neg (by decide), if_neg (by decide), if_neg (by decide), if_neg (by decide), if_neg (by decide), if_neg (by decide), if_pos rfl] at h
  split at h
  · rename_i hw; exact within_iff.1 hw
  · cases h
theorem oper_par {p : Prg} {f : Fnc} {i : Instr} {l x : Int} (h : operandErr p f l x i = 0) (hl : l = 112) : ((p.fn i.b).params = 0 → x = 0) ∧ (0 < (p.fn i.b).params → 0 ≤ x ∧ x ≤ w64 (f.regs - (p.fn i.b).params)) := by
  subst hl
  unfold operandErr at h
  rw [if_neg (by decide), if_neg (by decide), if_pos rfl] at h
  split at h
  · cases h
  · rename_i hw
    constructor
    · intro h0
      by_cases hx : x = 0
      · exact hx
      · exact absurd (.inl ⟨h0, hx⟩) hw
    · intro h0
      omega

section
variable {p : Prg} {f : Fnc} {i : Instr} (h : instrErr p f i = 0)
include h
theorem vis50 (h1 : i.op = 50) : (0 ≤ i.a ∧ i.a < f.regs) ∧ (0 ≤ i.b ∧ i.b < (p.vars.length : Int)) := ⟨oper_reg ((instr_oper h).2 0 (by decide)) (.inl (by simp [letterAt, formL, h1])), oper_var ((instr_oper h).2 1 (by decide)) (.inl (by simp [letterAt, formL, h1]))⟩
theorem vis51 (h1 : i.op = 51) : (0 ≤ i.a ∧ i.a < (p.vars.length : Int)) ∧ (0 ≤ i.b ∧ i.b < f.regs) := ⟨oper_var ((instr_oper h).2 0 (by decide)) (.inl (by simp [letterAt, formL, h1])), oper_reg ((instr_oper h).2 1 (by decide)) (.inl (by simp [letterAt, formL, h1]))⟩
theorem vis52 (h1 : i.op = 52) : (i.a = -1 ∨ 0 ≤ i.a ∧ i.a < f.regs) ∧ (0 ≤ i.b ∧ i.b < (p.vars.length : Int)) ∧ (0 ≤ i.c ∧ i.c < f.regs) := ⟨oper_opt ((instr_oper h).2 0 (by decide)) (by simp [letterAt, formL, h1]), oper_var ((instr_oper h).2 1 (by decide)) (.inr (by simp [letterAt, formL, h1])), oper_reg ((instr_oper h).2 2 (by decide)) (.inl (by simp [letterAt, formL, h1]))⟩
theorem vis53 (h1 : i.op = 53) : (0 ≤ i.a ∧ i.a < f.regs) ∧ (0 ≤ i.b ∧ i.b < (p.vars.length : Int)) ∧ (0 ≤ i.c ∧ i.c < f.regs) ∧ (0 ≤ i.n ∧ i.n < f.regs) := ⟨oper_reg ((instr_oper h).2 0 (by decide)) (.inl (by simp [letterAt, formL, h1])), oper_var ((instr_oper h).2 1 (by decide)) (.inr (by simp [letterAt, formL, h1])), oper_reg ((instr_oper h).2 2 (by decide)) (.inl (by simp [letterAt, formL, h1])), oper_reg ((instr_oper h).2 3 (by decide)) (.inr (by simp [letterAt, formL, h1]))⟩
theorem vis54 (h1 : i.op = 54) : (0 ≤ i.a ∧ i.a < (p.vars.length : Int)) ∧ (0 ≤ i.b ∧ i.b < f.regs) := ⟨oper_var ((instr_oper h).2 0 (by decide)) (.inr (by simp [letterAt, formL, h1])), oper_reg ((instr_oper h).2 1 (by decide)) (.inl (by simp [letterAt, formL, h1]))⟩
theorem vis55 (h1 : i.op = 55 ∨ i.op = 56) : 0 ≤ i.a ∧ i.a < p.locks := oper_lock ((instr_oper h).2 0 (by decide)) (by rcases h1 with h1 | h1 <;> simp [letterAt, formL, h1])
theorem vis57 (h1 : i.op = 57) : (0 ≤ i.a ∧ i.a < f.regs) ∧ (0 ≤ i.b ∧ i.b < p.locks) := ⟨oper_reg ((instr_oper h).2 0 (by decide)) (.inl (by simp [letterAt, formL, h1])), oper_lock ((instr_oper h).2 1 (by decide)) (by simp [letterAt, formL, h1])⟩
theorem vis58 (h1 : i.op = 58) : (0 ≤ i.a ∧ i.a < (p.chans.length : Int)) ∧ (0 ≤ i.b ∧ i.b < f.regs) := ⟨oper_chan ((instr_oper h).2 0 (by decide)) (by simp [letterAt, formL, h1]), oper_reg ((instr_oper h).2 1 (by decide)) (.inl (by simp [letterAt, formL, h1]))⟩
theorem vis59 (h1 : i.op = 59) : (i.a = -1 ∨ 0 ≤ i.a ∧ i.a < f.regs) ∧ (0 ≤ i.b ∧ i.b < (p.chans.length : Int)) ∧ (i.c = -1 ∨ 0 ≤ i.c ∧ i.c < f.regs) := ⟨oper_opt ((instr_oper h).2 0 (by decide)) (by simp [letterAt, formL, h1]), oper_chan ((instr_oper h).2 1 (by decide)) (by simp [letterAt, formL, h1]), oper_opt ((instr_oper h).2 2 (by decide)) (by simp [letterAt, formL, h1])⟩
theorem vis60 (h1 : i.op = 60) : 0 ≤ i.a ∧ i.a < (p.chans.length : Int) := oper_chan ((instr_oper h).2 0 (by decide)) (by simp [letterAt, formL, h1])
theorem vis61 (h1 : i.op = 61) : 0 ≤ i.a ∧ i.a < (f.sels.length : Int) := oper_sel ((instr_oper h).2 0 (by decide)) (by simp [letterAt, formL, h1])
theorem vis62 (h1 : i.op = 62) : (i.a = -1 ∨ 0 ≤ i.a ∧ i.a < f.regs) ∧ (0 ≤ i.b ∧ i.b < (p.funcs.length : Int)) ∧ ((p.fn i.b).params = 0 → i.c = 0) ∧ (0 < (p.fn i.b).params → 0 ≤ i.c ∧ i.c ≤ w64 (f.regs - (p.fn i.b).params)) := ⟨oper_opt ((instr_oper h).2 0 (by decide)) (by simp [letterAt, formL, h1]), oper_fun ((instr_oper h).2 1 (by decide)) (by simp [letterAt, formL, h1]), oper_par ((instr_oper h).2 2 (by decide)) (by simp [letterAt, formL, h1])⟩
theorem vis63 (h1 : i.op = 63 ∨ i.op = 65) : 0 ≤ i.a ∧ i.a < f.regs := oper_reg ((instr_oper h).2 0 (by decide)) (.inl (by rcases h1 with h1 | h1 <;> simp [letterAt, formL, h1]))
theorem op_le : 1 ≤ i.op ∧ i.op ≤ 65 := by
  have := (instr_oper h).1
  simp [isLocal, isVisible] at this
  omega
end

/-- A state that a run may come to. -/
structure Wf (p : Prg) (s : Stt) : Prop where
  shape : s.Shape
  count : 0 ≤ s.count ∧ s.count ≤ 6
  gos : ∀ g : Int, 0 ≤ g → g < s.count → gorIn p (s.gos.getD g.toNat default)
  wait : ∀ g : Int, 0 ≤ g → g < s.count → (s.gos.getD g.toNat default).status = 2 → (p.instr (s.gos.getD g.toNat default)).op = 58
  chans : ∀ i : Nat, 0 ≤ (s.chans.getD i default).len ∧ (s.chans.getD i default).len ≤ p.chans.getD i 0
abbrev insAt (p : Prg) (s : Stt) (g : Int) : Instr := p.instr (s.gos.getD g.toNat default)
theorem opAt_cases {p : Prg} {s : Stt} {g k : Int} (h : opAt p s g = k) : ((s.gos.getD g.toNat default).status = 2 ∧ k = 66) ∨ (¬(s.gos.getD g.toNat default).status = 2 ∧ (insAt p s g).op = k) := by
  unfold opAt at h
  split at h
  · rename_i h1; exact .inl ⟨h1, h.symm⟩
  · rename_i h1; exact .inr ⟨h1, h⟩
theorem Wf.right {p : Prg} {s : Stt} (hok : p.Ok) (hw : Wf p s) {g : Int} (h0 : 0 ≤ g) (hc : g < s.count) : instrErr p (p.funcs.getD (s.gos.getD g.toNat default).func.toNat default) (insAt p s g) = 0 := instr_right hok (hw.gos g h0 hc)
theorem Wf.op_at {p : Prg} {s : Stt} (hok : p.Ok) (hw : Wf p s) {g k : Int} (h0 : 0 ≤ g) (hc : g < s.count) (h : opAt p s g = k) (hk : k ≠ 66) : (insAt p s g).op = k := by
  rcases opAt_cases h with h | h
  · exact absurd h.2 hk
  · exact h.2
theorem Wf.op66 {p : Prg} {s : Stt} (hok : p.Ok) (hw : Wf p s) {g : Int} (h0 : 0 ≤ g) (hc : g < s.count) (h : opAt p s g = 66) : (insAt p s g).op = 58 := by
  rcases opAt_cases h with h | h
  · exact hw.wait g h0 hc h.1
  · have := op_le (hw.right hok h0 hc); omega
theorem live_iff {s : Stt} {g : Int} : isLive s g = true ↔ (0 ≤ g ∧ g < s.count) ∧ ((s.gos.getD g.toNat default).status = 1 ∨ (s.gos.getD g.toNat default).status = 2) := by
  unfold isLive
  rw [Bool.and_eq_true, Bool.and_eq_true, Bool.or_eq_true, decide_eq_true_eq, decide_eq_true_eq, decide_eq_true_eq, decide_eq_true_eq]
  exact Iff.rfl
structure CasIn (p : Prg) (f : Fnc) (c : Cas) : Prop where
  chan : 0 ≤ c.chan ∧ c.chan < (p.chans.length : Int)
  reg : (0 ≤ c.reg ∧ c.reg < f.regs) ∨ (c.send = false ∧ c.reg = -1)
  cap : c.send = true → ¬p.chans.getD c.chan.toNat 0 = 0
  to_ : 0 ≤ c.to_ ∧ c.to_ < (f.code.length : Int)
theorem caseErr_in {p : Prg} {f : Fnc} {c : Cas} (h : caseErr p f c = 0) : CasIn p f c := by
  unfold caseErr at h
  split at h; · cases h
  rename_i h1
  split at h; · cases h
  rename_i h2
  split at h; · cases h
  rename_i h3
  split at h; · cases h
  rename_i h4
  rw [within_false] at h1 h4
  rw [within_false] at h2
  refine ⟨by omega, ?_, fun q q2 => h3 ⟨q, q2⟩, by omega⟩
  by_cases hr : 0 ≤ c.reg ∧ c.reg < f.regs
  · exact .inl hr
  · right
    cases hs : c.send
    · exact ⟨rfl, by by_cases q : c.reg = -1; exact q; exact absurd ⟨by omega, .inr q⟩ h2⟩
    · exact absurd ⟨by omega, .inl hs⟩ h2
theorem case_ok {p : Prg} (hok : p.Ok) {i j k : Nat} (hi : i < p.funcs.length) (hj : j < (p.funcs.getD i default).sels.length) (hk : k < ((p.funcs.getD i default).sels.getD j default).cases.length) :
    CasIn p (p.funcs.getD i default) (((p.funcs.getD i default).sels.getD j default).cases.getD k default) := by
  have h := hok.sels i j hi hj
  simp only [selErr] at h
  split at h
  · rename_i h1; exact absurd h h1
  · rename_i h1
    have h1 : casesErr p (p.funcs.getD i default) ((p.funcs.getD i default).sels.getD j default) ((p.funcs.getD i default).sels.getD j default).cases.length = 0 := by simpa using h1
    unfold casesErr at h1
    rw [List.take_length] at h1
    exact caseErr_in (firstNZ_zero.1 h1 _ (List.mem_map.2 ⟨_, getD_mem _ hk, rfl⟩))
theorem else_ok {p : Prg} (hok : p.Ok) {i j : Nat} (hi : i < p.funcs.length) (hj : j < (p.funcs.getD i default).sels.length) :
    ((p.funcs.getD i default).sels.getD j default).els = -1 ∨ 0 ≤ ((p.funcs.getD i default).sels.getD j default).els ∧ ((p.funcs.getD i default).sels.getD j default).els < ((p.funcs.getD i default).code.length : Int) := by
  have h := hok.sels i j hi hj
  simp only [selErr] at h
  split at h
  · rename_i h1; exact absurd h h1
  · split at h
    · cases h
    · rename_i h2
      rw [within_false] at h2
      omega
theorem casesTo_len (p : Prg) (s : Stt) (q : Sel) (n : Nat) : (casesTo p s q n).length ≤ n := by
  unfold casesTo; rw [List.length_map]; exact Nat.le_trans (List.length_filter_le _ _) (by simp)
theorem casesTo_hit {p : Prg} {s : Stt} {q : Sel} {n : Nat} (h : caseOk p s (q.cases.getD n default) = true) : casesTo p s q (n + 1) = casesTo p s q n ++ [(n : Int)] := by
  unfold casesTo
  rw [List.range_succ, List.filter_append, List.map_append]
  simp only [List.filter_cons, List.filter_nil, h, if_true, List.map_cons, List.map_nil]
theorem casesTo_miss {p : Prg} {s : Stt} {q : Sel} {n : Nat} (h : caseOk p s (q.cases.getD n default) = false) : casesTo p s q (n + 1) = casesTo p s q n := by
  unfold casesTo
  rw [List.range_succ, List.filter_append, List.map_append]
  simp only [List.filter_cons, List.filter_nil, h, Bool.false_eq_true, if_false, List.map_nil, List.append_nil]
theorem readyTo_succ (p : Prg) (s : Stt) (n : Nat) : readyTo p s (n + 1) = readyTo p s n ++ (alts p s n).map fun a => ⟨(n : Int), a⟩ := by
  unfold readyTo
  rw [List.range_succ, List.flatMap_append]
  simp
end Go.Eng
/- What the program's checker of programs computes. -/
namespace Go.Eng
set_option linter.unusedSimpArgs false
set_option linter.unusedVariables false
def ckV (p : Prg) (f : Fnc) : V := .agg [p.v, f.v]
theorem ckV0 (p : Prg) (f : Fnc) (d : V) : (ckV p f).toList.getD 0 d = p.v := rfl
theorem ckV1 (p : Prg) (f : Fnc) (d : V) : (ckV p f).toList.getD 1 d = f.v := rfl
def obErr (e x n : Int) : Int := if within x n then 0 else e
theorem obErr_zero {e x n : Int} (h : obErr e x n = 0) (he : e ≠ 0) : 0 ≤ x ∧ x < n := by
  unfold obErr at h
  split at h
  · rename_i q; exact within_iff.1 q
  · exact absurd h he
theorem obErr_ne {e x n : Int} (h : obErr e x n ≠ 0) : within x n = false := by
  unfold obErr at h
  split at h
  · exact absurd rfl h
  · rename_i q; simpa using q
theorem formB_fin : ∀ n : Fin 66, ((formB n.val).toList == (ByteArray.mk #[]).toList) = !(isLocal n.val || isVisible n.val) := by decide +kernel
theorem formB_none (op : Int) : ((formB op).toList == (ByteArray.mk #[]).toList) = !(isLocal op || isVisible op) := by
  by_cases h : op < 1 ∨ 65 < op
  · have e : formB op = ByteArray.mk #[] := by unfold formB; rw [formL_none h]; rfl
    have h1 : isLocal op = false := by
      unfold isLocal
      rw [Bool.or_eq_false_iff, Bool.and_eq_false_iff, Bool.and_eq_false_iff]
      simp only [decide_eq_false_iff_not]; omega
    have h2 : isVisible op = false := by
      unfold isVisible
      rw [Bool.and_eq_false_iff]
      simp only [decide_eq_false_iff_not]; omega
    rw [e, h1, h2]; simp
  · have := formB_fin ⟨op.toNat, by omega⟩
    rwa [show ((⟨op.toNat, by omega⟩ : Fin 66).val : Int) = op from by simp; omega] at this

theorem obErr_val {e x n : Int} (h : obErr e x n ≠ 0) : obErr e x n = e := by
  have := obErr_ne h
  unfold obErr
  rw [this]; rfl
section
variable {p : Prg} {f : Fnc} {c : Cas}
theorem case36 (h : obErr 36 c.chan p.chans.length ≠ 0) : caseErr p f c = obErr 36 c.chan p.chans.length := by
  rw [obErr_val h]; exact caseErr_36 (within_false.1 (obErr_ne h))
theorem case35 (h : obErr 36 c.chan p.chans.length = 0) (h1 : c.send = true ∨ ¬c.reg = -1) (h2 : obErr 35 c.reg f.regs ≠ 0) : caseErr p f c = obErr 35 c.reg f.regs := by
  rw [obErr_val h2]; exact caseErr_35 (obErr_zero h (by decide)) ⟨within_false.1 (obErr_ne h2), h1⟩
theorem case_reg (h2 : (c.send = false ∧ c.reg = -1) ∨ obErr 35 c.reg f.regs = 0) : c.reg < 0 ∨ f.regs ≤ c.reg → c.send = false ∧ c.reg = -1 := by
  intro q
  rcases h2 with h2 | h2
  · exact h2
  · have := obErr_zero h2 (by decide); omega
theorem case37 (h : obErr 36 c.chan p.chans.length = 0) (h2 : (c.send = false ∧ c.reg = -1) ∨ obErr 35 c.reg f.regs = 0) (h3 : c.send = true ∧ p.chans.getD c.chan.toNat 0 = 0) : caseErr p f c = 37 :=
  caseErr_37 (obErr_zero h (by decide)) (case_reg h2) h3
theorem case38 (h : obErr 36 c.chan p.chans.length = 0) (h2 : (c.send = false ∧ c.reg = -1) ∨ obErr 35 c.reg f.regs = 0) (h3 : c.send = true → ¬p.chans.getD c.chan.toNat 0 = 0) (h4 : obErr 38 c.to_ f.code.length ≠ 0) : caseErr p f c = obErr 38 c.to_ f.code.length := by
  rw [obErr_val h4]; exact caseErr_38 (obErr_zero h (by decide)) (case_reg h2) h3 (within_false.1 (obErr_ne h4))
theorem case0 (h : obErr 36 c.chan p.chans.length = 0) (h2 : (c.send = false ∧ c.reg = -1) ∨ obErr 35 c.reg f.regs = 0) (h3 : c.send = true → ¬p.chans.getD c.chan.toNat 0 = 0) (h4 : obErr 38 c.to_ f.code.length = 0) : caseErr p f c = 0 :=
  caseErr_0 (obErr_zero h (by decide)) (case_reg h2) h3 (obErr_zero h4 (by decide))
end
def wholeErr (p : Prg) : Int := if 8 < p.vars.length ∨ p.locks < 0 ∨ 4 < p.locks ∨ 4 < p.chans.length ∨ p.funcs.length < 1 ∨ 8 < p.funcs.length then 30 else if capsErr p p.chans.length = false then 31 else 0
theorem whole_hit {p : Prg} (h : wholeErr p ≠ 0) : checkP p = wholeErr p ∧ spotP p = (0, 0) := by
  unfold wholeErr at *
  by_cases h1 : 8 < p.vars.length ∨ p.locks < 0 ∨ 4 < p.locks ∨ 4 < p.chans.length ∨ p.funcs.length < 1 ∨ 8 < p.funcs.length
  · rw [if_pos h1]; exact check_sizes h1
  · rw [if_neg h1] at h ⊢
    by_cases h2 : capsErr p p.chans.length = false
    · rw [if_pos h2]; exact check_caps h1 h2
    · rw [if_neg h2] at h; exact absurd rfl h
theorem whole_zero {p : Prg} (h : wholeErr p = 0) : Sizes p ∧ capsErr p p.chans.length = true := by
  unfold wholeErr at h
  by_cases h1 : 8 < p.vars.length ∨ p.locks < 0 ∨ 4 < p.locks ∨ 4 < p.chans.length ∨ p.funcs.length < 1 ∨ 8 < p.funcs.length
  · rw [if_pos h1] at h; cases h
  · rw [if_neg h1] at h
    by_cases h2 : capsErr p p.chans.length = false
    · rw [if_pos h2] at h; cases h
    · exact ⟨h1, by simpa using h2⟩
def sizesErr (m : Int) (f : Fnc) : Int := if formed m f then 0 else 32
end Go.Eng
namespace Go.Eng.Tryz
open Go.RowKit Go.Eng
set_option linter.unusedSimpArgs false
set_option linter.unusedVariables false
set_option maxHeartbeats 0
set_option maxRecDepth 20000
attribute [go_sem] ckV0 ckV1

def lv187 : List (Nat × List Nat) := [(0, [0, 1]), (1, [4])]
-- scarab/prog.within
theorem pwithin_ctr (x n : Int) : Ctr Go.Proofs.Tryz.prog tab 187 [2, 3] [4] [.int x, .int n] [.bool (within x n)] := by
  refine Ctr.body ok Go.Proofs.Tryz.func187 rfl rfl 12 rfl [.tmp 4] rfl (by simp [fromVs]) ?_
  simp only [fromVs, fromV, args0, V.toList_list, V.toInt_int, V.toBool_bool, Nat.zero_add, Nat.reduceAdd, ty2, ty3]
  repeat' first
    | ((with_reducible refine SARA.do fun R1 hR1 => ?_); (simp only [go_sem, seval, -List.reduceReplicate]); (repeat' with_reducible refine And.intro ?_ ?_); all_goals first | (refine hR1 _ ?_; clear hR1 R1) | omega | rfl | decide | assumption | (intro _; omega) | (simp; done) | (simp; omega))
    | ((with_reducible refine SARA.nil ?_); refine hR _ ?_; clear hR R; try simp only [go_sem, lv187, lvOf, Nat.reduceBEq, Option.getD_some])
    | (with_reducible first | refine thenK.normal ?_ | refine SA.seq ?_ | refine SA.skip ?_ | refine SA.block ?_ | refine blockK.normal ?_ | refine SA.exit ?_ | refine blockK.hit ?_ | refine blockK.miss (by decide) ?_ | refine thenK.exit ?_ | refine loopK.exit ?_ | refine SA.ret ?_ | refine thenK.ret ?_ | refine blockK.ret ?_ | refine loopK.ret ?_ | refine SA.scope ?_ | refine scopeK.normal ?_ | refine scopeK.exit ?_ | refine scopeK.ret ?_ | refine SA.label ?_)
    | ((with_reducible refine SA.regionN ok (by kernel_rfl) lv187 ?_); intro R hR; simp only [go_sem, strip])
    | ((with_reducible first | refine ctrK.normal ?_ | refine ctrK.ret ?_)
       simp only [go_sem, resA, resV, backK, seval]
       refine ⟨rfl, ?_⟩
       simp only [within]
       cases decide (0 ≤ x) <;> rfl)

def lv132 : List (Nat × List Nat) := [(0, [0]), (1, [2])]
-- scarab/prog.Local
theorem plocal_ctr (x : Int) : Ctr Go.Proofs.Tryz.prog tab 132 [43] [4] [.int x] [.bool (isLocal x)] := by
  refine Ctr.body ok Go.Proofs.Tryz.func132 rfl rfl 17 rfl [.tmp 2] rfl (by simp [fromVs]) ?_
  simp only [fromVs, fromV, args0, V.toList_list, V.toInt_int, V.toBool_bool, Nat.zero_add, Nat.reduceAdd, ty43]
  repeat' first
    | ((with_reducible refine SARA.do fun R1 hR1 => ?_); (simp only [go_sem, seval, -List.reduceReplicate]); (repeat' with_reducible refine And.intro ?_ ?_); all_goals first | (refine hR1 _ ?_; clear hR1 R1) | omega | rfl | decide | assumption | (intro _; omega) | (simp; done) | (simp; omega))
    | ((with_reducible refine SARA.nil ?_); refine hR _ ?_; clear hR R; try simp only [go_sem, lv132, lvOf, Nat.reduceBEq, Option.getD_some])
    | (with_reducible first | refine thenK.normal ?_ | refine SA.seq ?_ | refine SA.skip ?_ | refine SA.block ?_ | refine blockK.normal ?_ | refine SA.exit ?_ | refine blockK.hit ?_ | refine blockK.miss (by decide) ?_ | refine thenK.exit ?_ | refine loopK.exit ?_ | refine SA.ret ?_ | refine thenK.ret ?_ | refine blockK.ret ?_ | refine loopK.ret ?_ | refine SA.scope ?_ | refine scopeK.normal ?_ | refine scopeK.exit ?_ | refine scopeK.ret ?_ | refine SA.label ?_)
    | ((with_reducible refine SA.regionN ok (by kernel_rfl) lv132 ?_); intro R hR; simp only [go_sem, strip])
    | ((with_reducible first | refine ctrK.normal ?_ | refine ctrK.ret ?_)
       simp only [go_sem, resA, resV, backK, seval]
       refine ⟨rfl, ?_⟩
       simp only [isLocal]
       cases decide (1 ≤ x) <;> cases decide (x ≤ 36) <;> cases decide (40 ≤ x) <;> rfl)

def lv144 : List (Nat × List Nat) := [(0, [0]), (1, [2])]
-- scarab/prog.Visible
theorem pvisible_ctr (x : Int) : Ctr Go.Proofs.Tryz.prog tab 144 [43] [4] [.int x] [.bool (isVisible x)] := by
  refine Ctr.body ok Go.Proofs.Tryz.func144 rfl rfl 9 rfl [.tmp 2] rfl (by simp [fromVs]) ?_
  simp only [fromVs, fromV, args0, V.toList_list, V.toInt_int, V.toBool_bool, Nat.zero_add, Nat.reduceAdd, ty43]
  repeat' first
    | ((with_reducible refine SARA.do fun R1 hR1 => ?_); (simp only [go_sem, seval, -List.reduceReplicate]); (repeat' with_reducible refine And.intro ?_ ?_); all_goals first | (refine hR1 _ ?_; clear hR1 R1) | omega | rfl | decide | assumption | (intro _; omega) | (simp; done) | (simp; omega))
    | ((with_reducible refine SARA.nil ?_); refine hR _ ?_; clear hR R; try simp only [go_sem, lv144, lvOf, Nat.reduceBEq, Option.getD_some])
    | (with_reducible first | refine thenK.normal ?_ | refine SA.seq ?_ | refine SA.skip ?_ | refine SA.block ?_ | refine blockK.normal ?_ | refine SA.exit ?_ | refine blockK.hit ?_ | refine blockK.miss (by decide) ?_ | refine thenK.exit ?_ | refine loopK.exit ?_ | refine SA.ret ?_ | refine thenK.ret ?_ | refine blockK.ret ?_ | refine loopK.ret ?_ | refine SA.scope ?_ | refine scopeK.normal ?_ | refine scopeK.exit ?_ | refine scopeK.ret ?_ | refine SA.label ?_)
    | ((with_reducible refine SA.regionN ok (by kernel_rfl) lv144 ?_); intro R hR; simp only [go_sem, strip])
    | ((with_reducible first | refine ctrK.normal ?_ | refine ctrK.ret ?_)
       simp only [go_sem, resA, resV, backK, seval]
       refine ⟨rfl, ?_⟩
       simp only [isVisible]
       cases decide (50 ≤ x) <;> rfl)

def lv164 : List (Nat × List Nat) := [(0, [0]), (1, [0, 3]), (2, [2]), (3, [0, 10]), (4, [2]), (5, [17]), (6, [17, 18]), (7, [17, 18]), (8, [17, 18]), (9, [2]), (10, [17, 22]), (11, [2]), (12, [17, 24]), (13, [2]), (14, [17, 26]), (15, [2]), (16, [17, 28]), (17, [17, 28]), (18, [2]), (19, [17, 31]), (20, [2]), (21, [17, 33]), (22, [2]), (23, [17, 35]), (24, [2]), (25, [17, 37]), (26, [2]), (27, [17, 39]), (28, [2]), (29, [17, 41]), (30, [17, 41]), (31, [2]), (32, [17, 44]), (33, [2]), (34, [17, 46]), (35, [2]), (36, [17, 48]), (37, [2]), (38, [17, 50]), (39, [2]), (40, [17, 52]), (41, [2]), (42, [17, 54]), (43, [2]), (44, [56]), (45, [2]), (46, [2])]
-- scarab/prog.Form
theorem pform_ctr (op : Int) : Ctr Go.Proofs.Tryz.prog tab 164 [43] [9] [.int op] [.str (formB op)] := by
  refine Ctr.body ok Go.Proofs.Tryz.func164 rfl rfl 58 rfl [.tmp 2] rfl (by simp [fromVs]) ?_
  simp only [fromVs, fromV, args0, V.toList_list, V.toInt_int, V.toBool_bool, Nat.zero_add, Nat.reduceAdd, ty43]
  repeat' first
    | ((with_reducible refine SARA.do fun R1 hR1 => ?_); (simp only [go_sem, seval, -List.reduceReplicate]); (repeat' with_reducible refine And.intro ?_ ?_); all_goals first | (refine hR1 _ ?_; clear hR1 R1) | omega | rfl | decide | assumption | (intro _; omega) | (simp; done) | (simp; omega))
    | ((with_reducible refine SARA.nil ?_); refine hR _ ?_; clear hR R; try simp only [go_sem, lv164, lvOf, Nat.reduceBEq, Option.getD_some])
    | (with_reducible first | refine thenK.normal ?_ | refine SA.seq ?_ | refine SA.skip ?_ | refine SA.block ?_ | refine blockK.normal ?_ | refine SA.exit ?_ | refine blockK.hit ?_ | refine blockK.miss (by decide) ?_ | refine thenK.exit ?_ | refine loopK.exit ?_ | refine SA.ret ?_ | refine thenK.ret ?_ | refine blockK.ret ?_ | refine loopK.ret ?_ | refine SA.scope ?_ | refine scopeK.normal ?_ | refine scopeK.exit ?_ | refine scopeK.ret ?_ | refine SA.label ?_)
    | ((with_reducible refine SA.regionN ok (by kernel_rfl) lv164 ?_); intro R hR; simp only [go_sem, strip])
    | ((with_reducible refine SA.cond rfl ?_ ?_)
       all_goals
         intro hb
         try simp at hb
         try (exfalso; omega))
    | ((with_reducible first | refine ctrK.normal ?_ | refine ctrK.ret ?_)
       simp only [go_sem, resA, resV, backK, seval]
       refine ⟨rfl, ?_⟩
       first | (subst_vars; rfl) | (unfold formB formL; (repeat (rw [if_neg (by omega)])); (try rw [if_pos (by omega)]); rfl))

def lv161 : List (Nat × List Nat) := [(0, [0, 1]), (1, [8]), (2, [4]), (3, [4])]
-- scarab/prog.object
theorem object_ctr (x n : Int) : Ctr Go.Proofs.Tryz.prog tab 161 [2, 3] [49] [.int x, .int n] [.int (obErr 36 x n)] := by
  refine Ctr.body ok Go.Proofs.Tryz.func161 rfl rfl 9 rfl [.tmp 4] rfl (by simp [fromVs]) ?_
  simp only [fromVs, fromV, args0, V.toList_list, V.toInt_int, V.toBool_bool, Nat.zero_add, Nat.reduceAdd, ty2, ty3]
  repeat' first
    | ((with_reducible refine SARA.do fun R1 hR1 => ?_); (simp only [go_sem, seval, -List.reduceReplicate]); (repeat' with_reducible refine And.intro ?_ ?_); all_goals first | (refine hR1 _ ?_; clear hR1 R1) | ((first | refine ⟨_, _, rfl, .inl ⟨_, CallQ.ctr ok (pwithin_ctr _ _) (by first | rfl | (simp [go_sem]; done) | fail) rfl, ?_⟩⟩); all_goals ((try simp only [go_sem, seval, -List.reduceReplicate]); (repeat' with_reducible refine And.intro ?_ ?_); all_goals first | (refine hR1 _ ?_; clear hR1 R1) | omega | rfl | decide | assumption | (intro _; omega) | (simp; done) | (simp; omega) | (simp [roomFor, maxLen] <;> omega))) | omega | rfl | decide | assumption | (intro _; omega) | (simp; done) | (simp; omega) | (simp [roomFor, maxLen] <;> omega))
    | ((with_reducible refine SARA.nil ?_); refine hR _ ?_; clear hR R; try simp only [go_sem, lv161, lvOf, Nat.reduceBEq, Option.getD_some])
    | (with_reducible first | refine thenK.normal ?_ | refine SA.seq ?_ | refine SA.skip ?_ | refine SA.block ?_ | refine blockK.normal ?_ | refine SA.exit ?_ | refine blockK.hit ?_ | refine blockK.miss (by decide) ?_ | refine thenK.exit ?_ | refine loopK.exit ?_ | refine SA.ret ?_ | refine thenK.ret ?_ | refine blockK.ret ?_ | refine loopK.ret ?_ | refine SA.scope ?_ | refine scopeK.normal ?_ | refine scopeK.exit ?_ | refine scopeK.ret ?_ | refine SA.label ?_)
    | ((with_reducible refine SA.regionN ok (by kernel_rfl) lv161 ?_); intro R hR; simp only [go_sem, strip])
    | ((with_reducible refine SA.condAt 8 rfl (fun hb8 => ?_) (fun hb8 => ?_))
       all_goals
         try simp at hb8
         try (exfalso; omega))
    | ((with_reducible first | refine ctrK.normal ?_ | refine ctrK.ret ?_)
       simp only [go_sem, resA, resV, backK, seval]
       refine ⟨rfl, ?_⟩
       simp [obErr, hb8])

def lv162 : List (Nat × List Nat) := [(0, [0, 1]), (1, [12]), (2, [4]), (3, [4])]
-- (*scarab/prog.checker).register
theorem register_ctr (p : Prg) (f : Fnc) (x : Int) : Ctr Go.Proofs.Tryz.prog tab 162 [202, 2] [49] [.ref (ckV p f), .int x] [.int (obErr 35 x f.regs)] := by
  refine Ctr.body ok Go.Proofs.Tryz.func162 rfl rfl 13 rfl [.tmp 4] rfl (by simp [fromVs]) ?_
  simp only [fromVs, fromV, args0, V.toList_list, V.toInt_int, V.toBool_bool, Nat.zero_add, Nat.reduceAdd, ty2, ty202]
  repeat' first
    | ((with_reducible refine SARA.do fun R1 hR1 => ?_); (simp only [go_sem, seval, -List.reduceReplicate]); (repeat' with_reducible refine And.intro ?_ ?_); all_goals first | (refine hR1 _ ?_; clear hR1 R1) | ((first | refine ⟨_, _, rfl, .inl ⟨_, CallQ.ctr ok (pwithin_ctr _ _) (by first | rfl | (simp [go_sem]; done) | fail) rfl, ?_⟩⟩); all_goals ((try simp only [go_sem, seval, -List.reduceReplicate]); (repeat' with_reducible refine And.intro ?_ ?_); all_goals first | (refine hR1 _ ?_; clear hR1 R1) | omega | rfl | decide | assumption | (intro _; omega) | (simp; done) | (simp; omega) | (simp [roomFor, maxLen] <;> omega))) | omega | rfl | decide | assumption | (intro _; omega) | (simp; done) | (simp; omega) | (simp [roomFor, maxLen] <;> omega))
    | ((with_reducible refine SARA.nil ?_); refine hR _ ?_; clear hR R; try simp only [go_sem, lv162, lvOf, Nat.reduceBEq, Option.getD_some])
    | (with_reducible first | refine thenK.normal ?_ | refine SA.seq ?_ | refine SA.skip ?_ | refine SA.block ?_ | refine blockK.normal ?_ | refine SA.exit ?_ | refine blockK.hit ?_ | refine blockK.miss (by decide) ?_ | refine thenK.exit ?_ | refine loopK.exit ?_ | refine SA.ret ?_ | refine thenK.ret ?_ | refine blockK.ret ?_ | refine loopK.ret ?_ | refine SA.scope ?_ | refine scopeK.normal ?_ | refine scopeK.exit ?_ | refine scopeK.ret ?_ | refine SA.label ?_)
    | ((with_reducible refine SA.regionN ok (by kernel_rfl) lv162 ?_); intro R hR; simp only [go_sem, strip])
    | ((with_reducible refine SA.condAt 12 rfl (fun hb12 => ?_) (fun hb12 => ?_))
       all_goals
         try simp at hb12
         try (exfalso; omega))
    | ((with_reducible first | refine ctrK.normal ?_ | refine ctrK.ret ?_)
       simp only [go_sem, resA, resV, backK, seval]
       refine ⟨rfl, ?_⟩
       simp [obErr, hb12])

def lv163 : List (Nat × List Nat) := [(0, [0, 1]), (1, [13]), (2, [4]), (3, [4])]
-- (*scarab/prog.checker).target
theorem target_ctr (p : Prg) (f : Fnc) (x : Int) (hf : f.Fit) : Ctr Go.Proofs.Tryz.prog tab 163 [202, 2] [49] [.ref (ckV p f), .int x] [.int (obErr 38 x f.code.length)] := by
  have hf1 := hf.1
  refine Ctr.body ok Go.Proofs.Tryz.func163 rfl rfl 14 rfl [.tmp 4] rfl (by simp [fromVs]) ?_
  simp only [fromVs, fromV, args0, V.toList_list, V.toInt_int, V.toBool_bool, Nat.zero_add, Nat.reduceAdd, ty2, ty202]
  repeat' first
    | ((with_reducible refine SARA.do fun R1 hR1 => ?_); (simp only [go_sem, seval, -List.reduceReplicate]); (repeat' with_reducible refine And.intro ?_ ?_); all_goals first | (refine hR1 _ ?_; clear hR1 R1) | ((first | refine ⟨_, _, rfl, .inl ⟨_, CallQ.ctr ok (pwithin_ctr _ _) (by first | rfl | (simp [go_sem]; done) | fail) rfl, ?_⟩⟩); all_goals ((try simp only [go_sem, seval, -List.reduceReplicate]); (repeat' with_reducible refine And.intro ?_ ?_); all_goals first | (refine hR1 _ ?_; clear hR1 R1) | omega | rfl | decide | assumption | (intro _; omega) | (simp; done) | (simp; omega) | (simp [roomFor, maxLen] <;> omega))) | omega | rfl | decide | assumption | (intro _; omega) | (simp; done) | (simp; omega) | (simp [roomFor, maxLen] <;> omega))
    | ((with_reducible refine SARA.nil ?_); refine hR _ ?_; clear hR R; try simp only [go_sem, lv163, lvOf, Nat.reduceBEq, Option.getD_some])
    | (with_reducible first | refine thenK.normal ?_ | refine SA.seq ?_ | refine SA.skip ?_ | refine SA.block ?_ | refine blockK.normal ?_ | refine SA.exit ?_ | refine blockK.hit ?_ | refine blockK.miss (by decide) ?_ | refine thenK.exit ?_ | refine loopK.exit ?_ | refine SA.ret ?_ | refine thenK.ret ?_ | refine blockK.ret ?_ | refine loopK.ret ?_ | refine SA.scope ?_ | refine scopeK.normal ?_ | refine scopeK.exit ?_ | refine scopeK.ret ?_ | refine SA.label ?_)
    | ((with_reducible refine SA.regionN ok (by kernel_rfl) lv163 ?_); intro R hR; simp only [go_sem, strip])
    | ((with_reducible refine SA.condAt 13 rfl (fun hb13 => ?_) (fun hb13 => ?_))
       all_goals
         try simp at hb13
         try (exfalso; omega))
    | ((with_reducible first | refine ctrK.normal ?_ | refine ctrK.ret ?_)
       simp only [go_sem, resA, resV, backK, seval]
       refine ⟨rfl, ?_⟩
       simp [obErr, hb13])

def lv165 : List (Nat × List Nat) := [(0, [1, 2]), (1, [2])]
-- scarab/prog.operands
theorem operands_ctr (i : Instr) : Ctr Go.Proofs.Tryz.prog tab 165 [129] [29] [i.v] [.agg [.int i.a, .int i.b, .int i.c, .int i.n]] := by
  refine Ctr.body ok Go.Proofs.Tryz.func165 rfl rfl 12 rfl [.cell 2 29] rfl (by simp [fromVs]) ?_
  simp only [fromVs, fromV, args0, V.toList_list, V.toInt_int, V.toBool_bool, Nat.zero_add, Nat.reduceAdd, ty129]
  repeat' first
    | ((with_reducible refine SARA.do fun R1 hR1 => ?_); (simp only [go_sem, seval, -List.reduceReplicate, zero29, z29, z2]); (repeat' with_reducible refine And.intro ?_ ?_); all_goals first | (refine hR1 _ ?_; clear hR1 R1) | omega | rfl | decide | assumption | (intro _; omega) | (simp; done) | (simp; omega) | (simp [roomFor, maxLen] <;> omega))
    | ((with_reducible refine SARA.nil ?_); refine hR _ ?_; clear hR R; try simp only [go_sem, lv165, lvOf, Nat.reduceBEq, Option.getD_some])
    | (with_reducible first | refine thenK.normal ?_ | refine SA.seq ?_ | refine SA.skip ?_ | refine SA.block ?_ | refine blockK.normal ?_ | refine SA.exit ?_ | refine blockK.hit ?_ | refine blockK.miss (by decide) ?_ | refine thenK.exit ?_ | refine loopK.exit ?_ | refine SA.ret ?_ | refine thenK.ret ?_ | refine blockK.ret ?_ | refine loopK.ret ?_ | refine SA.scope ?_ | refine scopeK.normal ?_ | refine scopeK.exit ?_ | refine scopeK.ret ?_ | refine SA.label ?_)
    | ((with_reducible refine SA.regionN ok (by kernel_rfl) lv165 ?_); intro R hR; simp only [go_sem, strip])
    | ((with_reducible first | refine ctrK.normal ?_ | refine ctrK.ret ?_)
       simp only [go_sem, resA, resV, backK, seval]
       rfl)

def lv166 : List (Nat × List Nat) := [(0, [0, 1, 2, 7]), (1, [0, 2, 7, 12]), (2, [0, 2, 7, 12, 13]), (3, [0, 2, 16]), (4, [8]), (5, [8]), (6, [0, 2, 7, 12, 20]), (7, [0, 2, 7, 12, 20]), (8, [8]), (9, [0, 2, 7, 12, 26]), (10, [9]), (11, [9, 37]), (12, [8]), (13, [8]), (14, [0, 2, 7, 12, 39]), (15, [0, 2, 10]), (16, [0, 2, 10, 50]), (17, [8]), (18, [61]), (19, [8]), (20, [0, 2, 7, 12, 62]), (21, [8]), (22, [0, 2, 7, 12, 71]), (23, [8]), (24, [0, 2, 7, 12, 81]), (25, [8]), (26, [0, 2, 7, 12, 91]), (27, [8]), (28, [0, 2, 7, 12, 101]), (29, [8]), (30, [0, 2, 7, 106]), (31, [0, 2, 11]), (32, [142]), (33, [8]), (34, [8])]
-- (*scarab/prog.checker).operand
theorem poperand_ctr (p : Prg) (f : Fnc) (letter x : Int) (i : Instr) (hp : p.Fit) (hf : f.Fit) (h112 : letter = 112 → 0 ≤ i.b ∧ i.b < p.funcs.length) : Ctr Go.Proofs.Tryz.prog tab 166 [202, 5, 2, 129] [49] [.ref (ckV p f), .int letter, .int x, i.v] [.int (operandErr p f letter x i)] := by
  obtain ⟨hp1, hp2, hp3, hp4⟩ := hp
  have hff := hf
  obtain ⟨hf1, hf2, hf3⟩ := hf
  refine Ctr.body ok Go.Proofs.Tryz.func166 rfl rfl 143 rfl [.tmp 8] rfl (by simp [fromVs]) ?_
  simp only [fromVs, fromV, args0, V.toList_list, V.toInt_int, V.toBool_bool, Nat.zero_add, Nat.reduceAdd, ty2, ty5, ty129, ty202]
  repeat' first
    | ((with_reducible refine SARA.told 18 7 ?_)
       rw [getD_vrs (by omega)])
    | ((with_reducible first | refine SARA.do fun R1 hR1 => ?_ | refine SARQ.do fun R1 hR1 => ?_); (simp only [go_sem, seval, -List.reduceReplicate]); (repeat' with_reducible refine And.intro ?_ ?_); all_goals first | (refine hR1 _ ?_; clear hR1 R1) | ((first | refine ⟨_, _, rfl, _, CallQ.ctr ok (object_ctr _ _) (by first | rfl | (simp [go_sem]; done) | fail) rfl, ?_⟩ | refine ⟨_, _, rfl, .inl ⟨_, CallQ.ctr ok (object_ctr _ _) (by first | rfl | (simp [go_sem]; done) | fail) rfl, ?_⟩⟩ | refine ⟨_, _, rfl, _, CallQ.ctr ok (register_ctr p f _) (by first | rfl | (simp [go_sem]; done) | fail) rfl, ?_⟩ | refine ⟨_, _, rfl, .inl ⟨_, CallQ.ctr ok (register_ctr p f _) (by first | rfl | (simp [go_sem]; done) | fail) rfl, ?_⟩⟩ | refine ⟨_, _, rfl, _, CallQ.ctr ok (target_ctr p f _ hff) (by first | rfl | (simp [go_sem]; done) | fail) rfl, ?_⟩ | refine ⟨_, _, rfl, .inl ⟨_, CallQ.ctr ok (target_ctr p f _ hff) (by first | rfl | (simp [go_sem]; done) | fail) rfl, ?_⟩⟩); all_goals ((try simp only [go_sem, seval, -List.reduceReplicate]); (repeat' with_reducible refine And.intro ?_ ?_); all_goals first | (refine hR1 _ ?_; clear hR1 R1) | omega | rfl | decide | assumption | (intro _; omega) | (simp; done) | (simp; omega) | (simp [roomFor, maxLen] <;> omega))) | omega | rfl | decide | assumption | (intro _; omega) | (simp; done) | (simp; omega) | (simp [roomFor, maxLen] <;> omega))
    | ((with_reducible refine SARA.nil ?_); refine hR _ ?_; clear hR R; try simp only [go_sem, lv166, lvOf, Nat.reduceBEq, Option.getD_some])
    | ((with_reducible refine SARQ.nil ?_); refine hR _ ?_; clear hR R; try simp only [go_sem, lv166, lvOf, Nat.reduceBEq, Option.getD_some])
    | (with_reducible first | refine thenK.normal ?_ | refine SA.seq ?_ | refine SA.skip ?_ | refine SA.block ?_ | refine blockK.normal ?_ | refine SA.exit ?_ | refine blockK.hit ?_ | refine blockK.miss (by decide) ?_ | refine thenK.exit ?_ | refine loopK.exit ?_ | refine SA.ret ?_ | refine thenK.ret ?_ | refine blockK.ret ?_ | refine loopK.ret ?_ | refine SA.scope ?_ | refine scopeK.normal ?_ | refine scopeK.exit ?_ | refine scopeK.ret ?_ | refine SA.label ?_)
    | ((with_reducible refine SA.at 18 ?_)
       have hx := obErr_zero hb50 (by decide)
       (with_reducible refine SA.regionN ok (by kernel_rfl) lv166 ?_); intro R hR; simp only [go_sem, strip])
    | ((with_reducible refine SA.regionN ok (by kernel_rfl) lv166 ?_); intro R hR; simp only [go_sem, strip])
    | ((with_reducible refine SA.regionD ok mixed (by kernel_rfl) (by kernel_rfl) lv166 ?_); intro R hR; simp only [go_sem, strip])
    | ((with_reducible refine SA.condAt 50 rfl (fun hb50 => ?_) (fun hb50 => ?_))
       all_goals
         try simp at hb50
         try (exfalso; omega))
    | ((with_reducible refine SA.cond rfl ?_ ?_)
       all_goals
         intro hb
         try simp at hb
         try (exfalso; omega))
    | ((with_reducible first | refine ctrK.normal ?_ | refine ctrK.ret ?_)
       simp only [go_sem, resA, resV, backK, seval]
       refine ⟨rfl, ?_⟩
       first | (subst_vars; simp [operandErr, obErr, within, Prg.fn, w64, *]; done) | (subst_vars; simp only [operandErr, obErr, within, Prg.fn, w64]; simp [*]; omega) | (simp_all [operandErr, obErr, within]; done) | (simp_all [operandErr, obErr, within, Prg.fn, w64]; omega))

end Go.Eng.Tryz
