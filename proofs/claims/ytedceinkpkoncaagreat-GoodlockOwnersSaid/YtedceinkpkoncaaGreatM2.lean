/- Parts of elements, read wherever: out of range too. -/
import Derived.Test.YtedceinkpkoncaaGreatM1
namespace Go.Eng
set_option linter.unusedSimpArgs false
set_option linter.unusedVariables false
variable (i : Nat) (d : V)
theorem getD_pick {α : Type} [Inhabited α] (f : α → V) (l : List α) (i : Nat) : ((l.map f).getD i default = f (l.getD i default)) ∨ ((l.map f).getD i default = .int 0 ∧ l.getD i default = default) := by
  by_cases h : i < l.length
  · exact .inl (getD_map f l h _)
  · right
    simp only [List.getD_eq_getElem?_getD, List.getElem?_map, List.getElem?_eq_none (Nat.le_of_not_lt h)]
    exact ⟨rfl, rfl⟩
theorem Instr.at_op (l : List Instr) : (((l.map Instr.v).getD i default).toList.getD 0 default).toInt = (l.getD i default).op := by
  rcases getD_pick Instr.v l i with h | ⟨h, h'⟩
  · rw [h, Instr.v0]; rfl
  · rw [h, h']; rfl
theorem Instr.at_a (l : List Instr) : (((l.map Instr.v).getD i default).toList.getD 1 default).toInt = (l.getD i default).a := by
  rcases getD_pick Instr.v l i with h | ⟨h, h'⟩
  · rw [h, Instr.v1]; rfl
  · rw [h, h']; rfl
theorem Instr.at_b (l : List Instr) : (((l.map Instr.v).getD i default).toList.getD 2 default).toInt = (l.getD i default).b := by
  rcases getD_pick Instr.v l i with h | ⟨h, h'⟩
  · rw [h, Instr.v2]; rfl
  · rw [h, h']; rfl
theorem Instr.at_c (l : List Instr) : (((l.map Instr.v).getD i default).toList.getD 3 default).toInt = (l.getD i default).c := by
  rcases getD_pick Instr.v l i with h | ⟨h, h'⟩
  · rw [h, Instr.v3]; rfl
  · rw [h, h']; rfl
theorem Instr.at_n (l : List Instr) : (((l.map Instr.v).getD i default).toList.getD 4 default).toInt = (l.getD i default).n := by
  rcases getD_pick Instr.v l i with h | ⟨h, h'⟩
  · rw [h, Instr.v4]; rfl
  · rw [h, h']; rfl
theorem Cas.at_send (l : List Cas) : (((l.map Cas.v).getD i default).toList.getD 0 default).toBool = (l.getD i default).send := by
  rcases getD_pick Cas.v l i with h | ⟨h, h'⟩
  · rw [h, Cas.v0]; rfl
  · rw [h, h']; rfl
theorem Cas.at_chan (l : List Cas) : (((l.map Cas.v).getD i default).toList.getD 1 default).toInt = (l.getD i default).chan := by
  rcases getD_pick Cas.v l i with h | ⟨h, h'⟩
  · rw [h, Cas.v1]; rfl
  · rw [h, h']; rfl
theorem Cas.at_reg (l : List Cas) : (((l.map Cas.v).getD i default).toList.getD 2 default).toInt = (l.getD i default).reg := by
  rcases getD_pick Cas.v l i with h | ⟨h, h'⟩
  · rw [h, Cas.v2]; rfl
  · rw [h, h']; rfl
theorem Cas.at_to_ (l : List Cas) : (((l.map Cas.v).getD i default).toList.getD 3 default).toInt = (l.getD i default).to_ := by
  rcases getD_pick Cas.v l i with h | ⟨h, h'⟩
  · rw [h, Cas.v3]; rfl
  · rw [h, h']; rfl
theorem Sel.at_cases (l : List Sel) : (((l.map Sel.v).getD i default).toList.getD 0 default).toList = (l.getD i default).cases.map Cas.v := by
  rcases getD_pick Sel.v l i with h | ⟨h, h'⟩
  · rw [h, Sel.v0]; rfl
  · rw [h, h']; rfl
theorem Sel.at_els (l : List Sel) : (((l.map Sel.v).getD i default).toList.getD 1 default).toInt = (l.getD i default).els := by
  rcases getD_pick Sel.v l i with h | ⟨h, h'⟩
  · rw [h, Sel.v1]; rfl
  · rw [h, h']; rfl
theorem Fnc.at_params (l : List Fnc) : (((l.map Fnc.v).getD i default).toList.getD 0 default).toInt = (l.getD i default).params := by
  rcases getD_pick Fnc.v l i with h | ⟨h, h'⟩
  · rw [h, Fnc.v0]; rfl
  · rw [h, h']; rfl
theorem Fnc.at_regs (l : List Fnc) : (((l.map Fnc.v).getD i default).toList.getD 1 default).toInt = (l.getD i default).regs := by
  rcases getD_pick Fnc.v l i with h | ⟨h, h'⟩
  · rw [h, Fnc.v1]; rfl
  · rw [h, h']; rfl
theorem Fnc.at_code (l : List Fnc) : (((l.map Fnc.v).getD i default).toList.getD 2 default).toList = (l.getD i default).code.map Instr.v := by
  rcases getD_pick Fnc.v l i with h | ⟨h, h'⟩
  · rw [h, Fnc.v2]; rfl
  · rw [h, h']; rfl
theorem Fnc.at_sels (l : List Fnc) : (((l.map Fnc.v).getD i default).toList.getD 3 default).toList = (l.getD i default).sels.map Sel.v := by
  rcases getD_pick Fnc.v l i with h | ⟨h, h'⟩
  · rw [h, Fnc.v3]; rfl
  · rw [h, h']; rfl
theorem Vr.at_atomic (l : List Vr) : (((l.map Vr.v).getD i default).toList.getD 0 default).toBool = (l.getD i default).atomic := by
  rcases getD_pick Vr.v l i with h | ⟨h, h'⟩
  · rw [h, Vr.v0]; rfl
  · rw [h, h']; rfl
theorem Vr.at_init (l : List Vr) : (((l.map Vr.v).getD i default).toList.getD 1 default).toInt = (l.getD i default).init := by
  rcases getD_pick Vr.v l i with h | ⟨h, h'⟩
  · rw [h, Vr.v1]; rfl
  · rw [h, h']; rfl
theorem Gor.at_status (l : List Gor) : (((l.map Gor.v).getD i default).toList.getD 0 default).toInt = (l.getD i default).status := by
  rcases getD_pick Gor.v l i with h | ⟨h, h'⟩
  · rw [h, Gor.v0]; rfl
  · rw [h, h']; rfl
theorem Gor.at_func (l : List Gor) : (((l.map Gor.v).getD i default).toList.getD 1 default).toInt = (l.getD i default).func := by
  rcases getD_pick Gor.v l i with h | ⟨h, h'⟩
  · rw [h, Gor.v1]; rfl
  · rw [h, h']; rfl
theorem Gor.at_pc (l : List Gor) : (((l.map Gor.v).getD i default).toList.getD 2 default).toInt = (l.getD i default).pc := by
  rcases getD_pick Gor.v l i with h | ⟨h, h'⟩
  · rw [h, Gor.v2]; rfl
  · rw [h, h']; rfl
theorem Gor.at_why (l : List Gor) : (((l.map Gor.v).getD i default).toList.getD 3 default).toInt = (l.getD i default).why := by
  rcases getD_pick Gor.v l i with h | ⟨h, h'⟩
  · rw [h, Gor.v3]; rfl
  · rw [h, h']; rfl
theorem Gor.at_regs_get (l : List Gor) (j : Nat) : ((((l.map Gor.v).getD i default).toList.getD 4 default).toList.getD j default).toInt = (l.getD i default).regs.getD j 0 := by
  rcases getD_pick Gor.v l i with h | ⟨h, h'⟩
  · rw [h, Gor.v4, V.toList_agg, getD_ints, V.toInt_int]
  · rw [h, h']; cases j <;> rfl
theorem Chn.at_buf_get (l : List Chn) (j : Nat) : ((((l.map Chn.v).getD i default).toList.getD 0 default).toList.getD j default).toInt = (l.getD i default).buf.getD j 0 := by
  rcases getD_pick Chn.v l i with h | ⟨h, h'⟩
  · rw [h, Chn.v0, V.toList_agg, getD_ints, V.toInt_int]
  · rw [h, h']; cases j <;> rfl
theorem Chn.at_len (l : List Chn) : (((l.map Chn.v).getD i default).toList.getD 1 default).toInt = (l.getD i default).len := by
  rcases getD_pick Chn.v l i with h | ⟨h, h'⟩
  · rw [h, Chn.v1]; rfl
  · rw [h, h']; rfl
theorem Chn.at_closed (l : List Chn) : (((l.map Chn.v).getD i default).toList.getD 2 default).toBool = (l.getD i default).closed := by
  rcases getD_pick Chn.v l i with h | ⟨h, h'⟩
  · rw [h, Chn.v2]; rfl
  · rw [h, h']; rfl
theorem Chn.at_offer (l : List Chn) : (((l.map Chn.v).getD i default).toList.getD 3 default).toInt = (l.getD i default).offer := by
  rcases getD_pick Chn.v l i with h | ⟨h, h'⟩
  · rw [h, Chn.v3]; rfl
  · rw [h, h']; rfl
theorem Chn.at_from_ (l : List Chn) : (((l.map Chn.v).getD i default).toList.getD 4 default).toInt = (l.getD i default).from_ := by
  rcases getD_pick Chn.v l i with h | ⟨h, h'⟩
  · rw [h, Chn.v4]; rfl
  · rw [h, h']; rfl
theorem Chn.at_val (l : List Chn) : (((l.map Chn.v).getD i default).toList.getD 5 default).toInt = (l.getD i default).val := by
  rcases getD_pick Chn.v l i with h | ⟨h, h'⟩
  · rw [h, Chn.v5]; rfl
  · rw [h, h']; rfl
theorem Pck.at_go (l : List Pck) : (((l.map Pck.v).getD i default).toList.getD 0 default).toInt = (l.getD i default).go := by
  rcases getD_pick Pck.v l i with h | ⟨h, h'⟩
  · rw [h, Pck.v0]; rfl
  · rw [h, h']; rfl
theorem Pck.at_alt (l : List Pck) : (((l.map Pck.v).getD i default).toList.getD 1 default).toInt = (l.getD i default).alt := by
  rcases getD_pick Pck.v l i with h | ⟨h, h'⟩
  · rw [h, Pck.v1]; rfl
  · rw [h, h']; rfl
attribute [go_sem] Instr.at_op Instr.at_a Instr.at_b Instr.at_c Instr.at_n Cas.at_send Cas.at_chan Cas.at_reg Cas.at_to_ Sel.at_cases Sel.at_els Fnc.at_params Fnc.at_regs Fnc.at_code Fnc.at_sels Vr.at_atomic Vr.at_init Gor.at_status Gor.at_func Gor.at_pc Gor.at_why Gor.at_regs_get Chn.at_buf_get Chn.at_len Chn.at_closed Chn.at_offer Chn.at_from_ Chn.at_val Pck.at_go Pck.at_alt
end Go.Eng
/- What a right program owes. -/
namespace Go.Eng
set_option linter.unusedSimpArgs false
set_option linter.unusedVariables false

theorem getD_all {α : Type} [Inhabited α] {q : α → Prop} {l : List α} (h : ∀ x ∈ l, q x) (h0 : q default) (i : Nat) : q (l.getD i default) := by
  by_cases hi : i < l.length
  · exact h _ (getD_mem l hi)
  · rw [List.getD_eq_getElem?_getD, List.getElem?_eq_none (Nat.le_of_not_lt hi)]; exact h0

theorem Prg.code_len {p : Prg} (h : p.Fit) (i : Nat) : (p.funcs.getD i default).code.length ≤ maxLen := getD_all (q := fun f : Fnc => f.code.length ≤ maxLen) (fun f hf => (h.2.2.2 f hf).1) (by decide) i
theorem Prg.sels_len {p : Prg} (h : p.Fit) (i : Nat) : (p.funcs.getD i default).sels.length ≤ maxLen := getD_all (q := fun f : Fnc => f.sels.length ≤ maxLen) (fun f hf => (h.2.2.2 f hf).2.1) (by decide) i
theorem Prg.cases_len {p : Prg} (h : p.Fit) (i j : Nat) : ((p.funcs.getD i default).sels.getD j default).cases.length ≤ maxLen :=
  getD_all (q := fun f : Fnc => (f.sels.getD j default).cases.length ≤ maxLen) (fun f hf => getD_all (q := fun s : Sel => s.cases.length ≤ maxLen) (h.2.2.2 f hf).2.2 (by decide) j) (by simp [show (default : Fnc).sels = [] from rfl]; decide) i

structure Prg.Ok (p : Prg) : Prop where
  sizes : Sizes p
  caps : ∀ i : Nat, 0 ≤ p.chans.getD i 0 ∧ p.chans.getD i 0 ≤ 4
  regs : ∀ i : Nat, 0 ≤ (p.funcs.getD i default).regs ∧ (p.funcs.getD i default).regs ≤ 8
  params : ∀ i : Nat, 0 ≤ (p.funcs.getD i default).params ∧ (p.funcs.getD i default).params ≤ (p.funcs.getD i default).regs
  main : (p.funcs.getD 0 default).params = 0
  code : ∀ i : Nat, i < p.funcs.length → 1 ≤ (p.funcs.getD i default).code.length ∧ (p.funcs.getD i default).code.length ≤ 64
  short : ∀ i j : Nat, j < (p.funcs.getD i default).sels.length → 1 ≤ ((p.funcs.getD i default).sels.getD j default).cases.length ∧ ((p.funcs.getD i default).sels.getD j default).cases.length ≤ 4
  instr : ∀ i j : Nat, i < p.funcs.length → j < (p.funcs.getD i default).code.length → instrErr p (p.funcs.getD i default) ((p.funcs.getD i default).code.getD j default) = 0
  sels : ∀ i j : Nat, i < p.funcs.length → j < (p.funcs.getD i default).sels.length → selErr p (p.funcs.getD i default) ((p.funcs.getD i default).sels.getD j default) = 0
  last : ∀ i : Nat, i < p.funcs.length → lastOk (p.funcs.getD i default) = true

theorem Prg.ok {p : Prg} (h : rightP p = true) : p.Ok := by
  simp only [rightP, decide_eq_true_eq] at h
  unfold checkP at h
  split at h; · cases h
  rename_i hs
  split at h; · cases h
  rename_i hc
  have hf : ∀ i : Nat, i < p.funcs.length → funcErr p i (p.funcs.getD i default) = 0 := by
    intro i hi
    have := firstNZ_zero.1 h (funcErr p i (p.fn i)) (List.mem_map.2 ⟨i, by simpa using hi, rfl⟩)
    rwa [fn_nat] at this
  have hform : ∀ i : Nat, i < p.funcs.length → formed i (p.funcs.getD i default) = true ∧ selsErr p (p.funcs.getD i default) (p.funcs.getD i default).sels.length = 0 ∧ codeErr p (p.funcs.getD i default) (p.funcs.getD i default).code.length = 0 ∧ lastOk (p.funcs.getD i default) = true := by
    intro i hi
    have := hf i hi
    unfold funcErr at this
    split at this; · cases this
    rename_i h1
    split at this; · rename_i h2; exact absurd this h2
    rename_i h2
    split at this; · rename_i h3; exact absurd this h3
    rename_i h3
    split at this
    · rename_i h4; exact ⟨by simpa using h1, by simpa using h2, by simpa using h3, h4⟩
    · cases this
  have hout : ∀ i : Nat, ¬ i < p.funcs.length → p.funcs.getD i default = default := by
    intro i hi
    rw [List.getD_eq_getElem?_getD, List.getElem?_eq_none (Nat.le_of_not_lt hi)]; rfl
  refine ⟨hs, fun i => ?_, fun i => ?_, fun i => ?_, ?_, fun i hi => ?_, fun i j hj => ?_, fun i j hi hj => ?_, fun i j hi hj => ?_, fun i hi => (hform i hi).2.2.2⟩
  · have hc' : capsErr p p.chans.length = true := by simpa using hc
    unfold capsErr at hc'
    rw [List.take_length, List.all_eq_true] at hc'
    exact getD_all (q := fun c : Int => 0 ≤ c ∧ c ≤ 4) (fun c hc => by simpa using hc' c hc) (by decide) i
  · by_cases hi : i < p.funcs.length
    · have := (formed_len (hform i hi).1).1; omega
    · rw [hout i hi]; decide
  · by_cases hi : i < p.funcs.length
    · have := (formed_len (hform i hi).1).1; omega
    · rw [hout i hi]; decide
  · have := (formed_len (hform 0 (by omega)).1).1; exact this.2.2.2.2 rfl
  · have := formed_len (hform i hi).1; exact ⟨this.2.1, this.2.2.1⟩
  · by_cases hi : i < p.funcs.length
    · have := (formed_len (hform i hi).1).2.2.2.2
      unfold selsShort at this
      rw [List.take_length, List.all_eq_true] at this
      have := this _ (getD_mem _ hj)
      simp only [Bool.and_eq_true, decide_eq_true_eq] at this
      exact this
    · rw [hout i hi] at hj; exact absurd hj (by simp [show (default : Fnc).sels = [] from rfl])
  · have := (hform i hi).2.2.1
    unfold codeErr at this
    rw [List.take_length] at this
    exact firstNZ_zero.1 this _ (List.mem_map.2 ⟨_, getD_mem _ hj, rfl⟩)
  · have := (hform i hi).2.1
    unfold selsErr at this
    rw [List.take_length] at this
    exact firstNZ_zero.1 this _ (List.mem_map.2 ⟨_, getD_mem _ hj, rfl⟩)

def gorM (p : Prg) (g : Gor) : Int := if g.status = 3 ∨ g.status = 4 then 0 else (p.fn g.func).regs
def gorR (p : Prg) (g : Gor) : Prop := ((((1 ≤ g.status ∧ g.status ≤ 5) ∧ 0 ≤ g.func) ∧ g.func < (p.funcs.length : Int)) ∧ 0 ≤ g.pc) ∧ g.pc < ((p.funcs.getD g.func.toNat default).code.length : Int)
theorem gorOk_range {p : Prg} {g : Gor} (h : ¬gorR p g) : gorOk p g = false := by
  unfold gorOk
  rw [if_pos]
  unfold gorR at h
  unfold Prg.fn
  omega
theorem gorOk_in {p : Prg} {g : Gor} (h : gorR p g) : gorOk p g = if regsZero g (gorM p g) 8 = false then false else if g.status = 4 then failing ((p.funcs.getD g.func.toNat default).code.getD g.pc.toNat default).op g.why
    else decide (g.why = 0) && (decide (g.status ≠ 3) || decide (((p.funcs.getD g.func.toNat default).code.getD g.pc.toNat default).op = 45)) && (decide (g.status ≠ 5) || isLocal ((p.funcs.getD g.func.toNat default).code.getD g.pc.toNat default).op) := by
  unfold gorOk
  rw [if_neg]
  · rfl
  · unfold gorR at h
    unfold Prg.fn
    omega
theorem regs_bad {g : Gor} {m i : Int} (h1 : m ≤ i) (h2 : 0 ≤ i) (h3 : i < 8) (h4 : ¬g.regs.getD i.toNat 0 = 0) : regsZero g m 8 = false := by
  refine all_range_false (i := i.toNat) (by omega) ?_
  simp only [h4, decide_false, Bool.or_false, decide_eq_false_iff_not]
  omega
theorem chanOk_eq (p : Prg) (s : Stt) (m : Int) : chanOk p s m =
    if (s.chans.getD m.toNat default).len < 0 ∨ p.chans.getD m.toNat 0 < (s.chans.getD m.toNat default).len ∨ (s.chans.getD m.toNat default).offer < 0 ∨ 3 < (s.chans.getD m.toNat default).offer ∨ (p.chans.getD m.toNat 0 ≠ 0 ∧ (s.chans.getD m.toNat default).offer ≠ 0) then false
    else if bufZero (s.chans.getD m.toNat default) 4 = false then false
    else if (s.chans.getD m.toNat default).offer = 0 then decide ((s.chans.getD m.toNat default).from_ = 0) && decide ((s.chans.getD m.toNat default).val = 0)
    else if ((s.chans.getD m.toNat default).offer ≠ 1 ∧ (s.chans.getD m.toNat default).val ≠ 0) ∨ ((s.chans.getD m.toNat default).offer = 1 ∧ (s.chans.getD m.toNat default).closed = true) ∨ ((s.chans.getD m.toNat default).offer = 3 ∧ (s.chans.getD m.toNat default).closed = false) then false
    else if (s.chans.getD m.toNat default).from_ < 0 ∨ s.count ≤ (s.chans.getD m.toNat default).from_ ∨ (s.gos.getD (s.chans.getD m.toNat default).from_.toNat default).status ≠ 2 then false
    else decide (((p.funcs.getD (s.gos.getD (s.chans.getD m.toNat default).from_.toNat default).func.toNat default).code.getD (s.gos.getD (s.chans.getD m.toNat default).from_.toNat default).pc.toNat default).op = 58) &&
      decide (((p.funcs.getD (s.gos.getD (s.chans.getD m.toNat default).from_.toNat default).func.toNat default).code.getD (s.gos.getD (s.chans.getD m.toNat default).from_.toNat default).pc.toNat default).a = m) := rfl
theorem buf_bad {c : Chn} {i : Int} (h1 : c.len ≤ i) (h2 : 0 ≤ i) (h3 : i < 4) (h4 : ¬c.buf.getD i.toNat 0 = 0) : bufZero c 4 = false := by
  refine all_range_false (i := i.toNat) (by omega) ?_
  simp only [h4, decide_false, Bool.or_false, decide_eq_false_iff_not]
  omega
theorem buf_good {c : Chn} (h : ∀ k : Nat, c.len ≤ k → (k : Int) < 4 → c.buf.getD k 0 = 0) : bufZero c 4 = true := by
  unfold bufZero
  rw [List.all_eq_true]
  intro k hk
  have hk : k < 4 := by simpa using hk
  by_cases h1 : (k : Int) < c.len
  · simp [h1]
  · have := h k (by omega) (by omega)
    simp only [this, decide_true, Bool.or_true]
theorem gorOk_R {p : Prg} {g : Gor} (h : gorOk p g = true) : gorR p g := by
  by_cases hr : gorR p g
  · exact hr
  · rw [gorOk_range hr] at h; cases h
theorem gorsOk_at {p : Prg} {s : Stt} (h : gorsOk p s 6 = true) {i : Int} (h0 : 0 ≤ i) (h6 : i < 6) (hc : i < s.count) : gorOk p (s.gos.getD i.toNat default) = true := by
  unfold gorsOk at h
  rw [List.all_eq_true] at h
  have := h i.toNat (by simp; omega)
  rw [if_pos (by omega)] at this
  exact this
theorem regs_good {g : Gor} {m : Int} (h : ∀ k : Nat, m ≤ k → (k : Int) < 8 → g.regs.getD k 0 = 0) : regsZero g m 8 = true := by
  unfold regsZero
  rw [List.all_eq_true]
  intro k hk
  have hk : k < 8 := by simpa using hk
  by_cases h1 : (k : Int) < m
  · simp [h1]
  · have := h k (by omega) (by omega)
    simp only [this, decide_true, Bool.or_true]

theorem gors_succ {p : Prg} {s : Stt} {i : Nat} (hz : gorsOk p s i = true) (h : ((i : Int) < s.count → gorOk p (s.gos.getD i default) = true) ∧ (s.count ≤ (i : Int) → s.gos.getD i default = zeroGor)) : gorsOk p s (i + 1) = true := by
  unfold gorsOk at *
  rw [all_range_succ, hz, Bool.true_and]
  simp only [Stt.gor, Int.toNat_natCast]
  by_cases hc : (i : Int) < s.count
  · rw [if_pos hc]; exact h.1 hc
  · rw [if_neg hc]; exact decide_eq_true (h.2 (by omega))
theorem gors_bad {p : Prg} {s : Stt} {i : Nat} (hi : i < 6) (h : (i : Int) < s.count ∧ gorOk p (s.gos.getD i default) = false ∨ s.count ≤ (i : Int) ∧ ¬s.gos.getD i default = zeroGor) : gorsOk p s 6 = false := by
  refine all_range_false hi ?_
  simp only [Stt.gor, Int.toNat_natCast]
  by_cases hc : (i : Int) < s.count
  · rw [if_pos hc]
    rcases h with h | h
    · exact h.2
    · omega
  · rw [if_neg hc]
    rcases h with h | h
    · omega
    · exact decide_eq_false h.2
theorem vars_good {p : Prg} {s : Stt} (h : ∀ k : Nat, p.vars.length ≤ k → k < 8 → s.vars.getD k 0 = 0) : varsOk p s 8 = true := by
  unfold varsOk
  rw [List.all_eq_true]
  intro k hk
  have hk : k < 8 := by simpa using hk
  by_cases h1 : k < p.vars.length
  · rw [decide_eq_true h1]; rfl
  · rw [decide_eq_true (h k (by omega) hk), Bool.or_true]
theorem vars_bad {p : Prg} {s : Stt} {i : Nat} (h1 : p.vars.length ≤ i) (hi : i < 8) (h : ¬s.vars.getD i 0 = 0) : varsOk p s 8 = false := by
  refine all_range_false hi ?_
  rw [decide_eq_false h, decide_eq_false (by omega)]; rfl
theorem own_at {p : Prg} {s : Stt} {i : Nat} : ownOk p s i = true ↔ (0 ≤ s.owner.getD i 0 ∧ s.owner.getD i 0 ≤ s.count) ∧ (p.locks ≤ (i : Int) → s.owner.getD i 0 = 0) := by
  unfold ownOk
  rw [Bool.and_eq_true, Bool.and_eq_true, Bool.or_eq_true, decide_eq_true_eq, decide_eq_true_eq, decide_eq_true_eq, decide_eq_true_eq]
  omega
theorem own_succ {p : Prg} {s : Stt} {i : Nat} (hz : ownersOk p s i = true) (h : (0 ≤ s.owner.getD i 0 ∧ s.owner.getD i 0 ≤ s.count) ∧ (p.locks ≤ (i : Int) → s.owner.getD i 0 = 0)) : ownersOk p s (i + 1) = true := by
  unfold ownersOk at *
  rw [all_range_succ, hz, own_at.2 h]; rfl
theorem own_bad {p : Prg} {s : Stt} {i : Nat} (hi : i < 4) (h : (s.owner.getD i 0 < 0 ∨ s.count < s.owner.getD i 0) ∨ p.locks ≤ (i : Int) ∧ ¬s.owner.getD i 0 = 0) : ownersOk p s 4 = false := by
  refine all_range_false hi ?_
  rw [Bool.eq_false_iff, Ne, own_at]
  omega
theorem chans_succ {p : Prg} {s : Stt} {i : Nat} (hz : chansOk p s i = true) (h : (p.chans.length ≤ i → s.chans.getD i default = zeroChn) ∧ (i < p.chans.length → chanOk p s i = true)) : chansOk p s (i + 1) = true := by
  unfold chansOk at *
  rw [all_range_succ, hz, Bool.true_and]
  simp only [Stt.chn, Int.toNat_natCast]
  by_cases hc : i < p.chans.length
  · rw [if_pos hc]; exact h.2 hc
  · rw [if_neg hc]; exact decide_eq_true (h.1 (by omega))
theorem chans_bad {p : Prg} {s : Stt} {i : Nat} (hi : i < 4) (h : p.chans.length ≤ i ∧ ¬s.chans.getD i default = zeroChn ∨ i < p.chans.length ∧ chanOk p s i = false) : chansOk p s 4 = false := by
  refine all_range_false hi ?_
  simp only [Stt.chn, Int.toNat_natCast]
  by_cases hc : i < p.chans.length
  · rw [if_pos hc]
    rcases h with h | h
    · omega
    · exact h.2
  · rw [if_neg hc]
    rcases h with h | h
    · exact decide_eq_false h.2
    · omega
theorem chn_nat (s : Stt) (j : Nat) : s.chans.getD j default = s.chn (j : Int) := by simp only [Stt.chn, Int.toNat_natCast]
theorem offers_hit {s : Stt} {g : Int} {j : Nat} (h : ¬(s.chans.getD j default).offer = 0 ∧ (s.chans.getD j default).from_ = g) : offersTo s g (j + 1) = offersTo s g j + 1 := by
  rw [chn_nat] at h
  unfold offersTo
  rw [List.range_succ, List.filter_append, List.length_append]
  congr 1
  simp only [List.filter_cons, List.filter_nil]
  rw [show decide ((s.chn (j : Int)).offer ≠ 0) = true from decide_eq_true h.1, decide_eq_true h.2]; rfl
theorem offers_miss {s : Stt} {g : Int} {j : Nat} (h : ¬(s.chans.getD j default).offer = 0 → ¬(s.chans.getD j default).from_ = g) : offersTo s g (j + 1) = offersTo s g j := by
  rw [chn_nat] at h
  unfold offersTo
  rw [List.range_succ, List.filter_append, List.length_append]
  simp only [List.filter_cons, List.filter_nil]
  by_cases h0 : (s.chn (j : Int)).offer = 0
  · rw [show decide ((s.chn (j : Int)).offer ≠ 0) = false from decide_eq_false (fun q => q h0)]; rfl
  · rw [show decide ((s.chn (j : Int)).offer ≠ 0) = true from decide_eq_true h0, decide_eq_false (h h0)]; rfl
theorem offers_le (s : Stt) (g : Int) (j : Nat) : offersTo s g j ≤ j := by
  unfold offersTo; exact Nat.le_trans (List.length_filter_le _ _) (by simp)
theorem gor_nat (s : Stt) (j : Nat) : s.gos.getD j default = s.gor (j : Int) := by simp only [Stt.gor, Int.toNat_natCast]
theorem waits_succ {s : Stt} {i : Nat} (hz : waitsOk s i = true) (h : (s.gos.getD i default).status = 2 → (offersTo s i 4 : Int) = 1) : waitsOk s (i + 1) = true := by
  rw [gor_nat] at h
  unfold waitsOk at *
  rw [all_range_succ, hz, Bool.true_and]
  by_cases hs : (s.gor (i : Int)).status = 2
  · have := h hs
    rw [decide_eq_true (show offersTo s i 4 = 1 by omega), Bool.or_true]
  · rw [show decide ((s.gor (i : Int)).status ≠ 2) = true from decide_eq_true hs]; rfl
theorem waits_bad {s : Stt} {n i : Nat} (hi : i < n) (h : (s.gos.getD i default).status = 2 ∧ ¬(offersTo s i 4 : Int) = 1) : waitsOk s n = false := by
  rw [gor_nat] at h
  refine all_range_false hi ?_
  rw [show decide ((s.gor (i : Int)).status ≠ 2) = false from decide_eq_false (fun q => q h.1), decide_eq_false (show ¬offersTo s i 4 = 1 by omega)]; rfl
end Go.Eng
/- Local instructions: what they owe, and where they lead. -/
namespace Go.Eng
set_option linter.unusedSimpArgs false
set_option linter.unusedVariables false

/-! ### Parts of data written -/

theorem set_ints (l : List Int) (i : Nat) (x : Int) : (l.map V.int).set i (.int x) = (l.set i x).map V.int := (List.map_set ..).symm
theorem set_gors (l : List Gor) (i : Nat) (x : Gor) : (l.map Gor.v).set i x.v = (l.set i x).map Gor.v := (List.map_set ..).symm
theorem set_chns (l : List Chn) (i : Nat) (x : Chn) : (l.map Chn.v).set i x.v = (l.set i x).map Chn.v := (List.map_set ..).symm
theorem Gor.put0 (g : Gor) (x : Int) : V.setSub g.v 0 (.int x) = Gor.v ⟨x, g.func, g.pc, g.why, g.regs⟩ := rfl
theorem Gor.put1 (g : Gor) (x : Int) : V.setSub g.v 1 (.int x) = Gor.v ⟨g.status, x, g.pc, g.why, g.regs⟩ := rfl
theorem Gor.put2 (g : Gor) (x : Int) : V.setSub g.v 2 (.int x) = Gor.v ⟨g.status, g.func, x, g.why, g.regs⟩ := rfl
theorem Gor.put3 (g : Gor) (x : Int) : V.setSub g.v 3 (.int x) = Gor.v ⟨g.status, g.func, g.pc, x, g.regs⟩ := rfl
theorem Gor.put4 (g : Gor) (x : List Int) : V.setSub g.v 4 (.agg (x.map V.int)) = Gor.v ⟨g.status, g.func, g.pc, g.why, x⟩ := rfl
theorem Chn.put0 (c : Chn) (x : List Int) : V.setSub c.v 0 (.agg (x.map V.int)) = Chn.v ⟨x, c.len, c.closed, c.offer, c.from_, c.val⟩ := rfl
theorem Chn.put1 (c : Chn) (x : Int) : V.setSub c.v 1 (.int x) = Chn.v ⟨c.buf, x, c.closed, c.offer, c.from_, c.val⟩ := rfl
theorem Chn.put2 (c : Chn) (x : Bool) : V.setSub c.v 2 (.bool x) = Chn.v ⟨c.buf, c.len, x, c.offer, c.from_, c.val⟩ := rfl
theorem Chn.put3 (c : Chn) (x : Int) : V.setSub c.v 3 (.int x) = Chn.v ⟨c.buf, c.len, c.closed, x, c.from_, c.val⟩ := rfl
theorem Chn.put4 (c : Chn) (x : Int) : V.setSub c.v 4 (.int x) = Chn.v ⟨c.buf, c.len, c.closed, c.offer, x, c.val⟩ := rfl
theorem Chn.put5 (c : Chn) (x : Int) : V.setSub c.v 5 (.int x) = Chn.v ⟨c.buf, c.len, c.closed, c.offer, c.from_, x⟩ := rfl
theorem Stt.put0 (s : Stt) (x : List Int) : V.setSub s.v 0 (.agg (x.map V.int)) = Stt.v ⟨x, s.owner, s.chans, s.gos, s.count⟩ := rfl
theorem Stt.put1 (s : Stt) (x : List Int) : V.setSub s.v 1 (.agg (x.map V.int)) = Stt.v ⟨s.vars, x, s.chans, s.gos, s.count⟩ := rfl
theorem Stt.put2 (s : Stt) (x : List Chn) : V.setSub s.v 2 (.agg (x.map Chn.v)) = Stt.v ⟨s.vars, s.owner, x, s.gos, s.count⟩ := rfl
theorem Stt.put3 (s : Stt) (x : List Gor) : V.setSub s.v 3 (.agg (x.map Gor.v)) = Stt.v ⟨s.vars, s.owner, s.chans, x, s.count⟩ := rfl
theorem Stt.put4 (s : Stt) (x : Int) : V.setSub s.v 4 (.int x) = Stt.v ⟨s.vars, s.owner, s.chans, s.gos, x⟩ := rfl
attribute [go_sem] set_ints set_gors set_chns Gor.put0 Gor.put1 Gor.put2 Gor.put3 Gor.put4 Chn.put0 Chn.put1 Chn.put2 Chn.put3 Chn.put4 Chn.put5 Stt.put0 Stt.put1 Stt.put2 Stt.put3 Stt.put4

/-! ### What an instruction owes -/

theorem instr_oper {p : Prg} {f : Fnc} {i : Instr} (h : instrErr p f i = 0) : (isLocal i.op = true ∨ isVisible i.op = true) ∧ ∀ j : Nat, j < 4 → operandErr p f (letterAt i j) (i.field j) i = 0 := by
  unfold instrErr at h
  split at h; · cases h
  rename_i h1
  split at h; · cases h
  refine ⟨?_, fun j hj => ?_⟩
  · cases h2 : isLocal i.op
    · right
      cases h3 : isVisible i.op
      · exact absurd ⟨h2, h3⟩ h1
      · rfl
    · exact .inl rfl
  · exact firstNZ_zero.1 h _ (List.mem_map.2 ⟨j, by simpa using hj, rfl⟩)
theorem within_iff {x n : Int} : within x n = true ↔ 0 ≤ x ∧ x < n := by simp [within]
theorem oper_reg {p : Prg} {f : Fnc} {i : Instr} {l x : Int} (h : operandErr p f l x i = 0) (hl : l = 114 ∨ l = 119) : 0 ≤ x ∧ x < f.regs := by
  unfold operandErr at h
  rw [if_pos hl] at h
  split at h
  · rename_i hw; exact within_iff.1 hw
  · cases h
theorem oper_opt {p : Prg} {f : Fnc} {i : Instr} {l x : Int} (h : operandErr p f l x i = 0) (hl : l = 111) : x = -1 ∨ 0 ≤ x ∧ x < f.regs := by
  subst hl
  unfold operandErr at h
  rw [if_neg (by decide), if_pos rfl] at h
  split at h
  · cases h
  · rename_i hw
    rw [within_false] at hw
    omega
theorem oper_code {p : Prg} {f : Fnc} {i : Instr} {l x : Int} (h : operandErr p f l x i = 0) (hl : l = 116) : 0 ≤ x ∧ x < (f.code.length : Int) := by
  subst hl
  unfold operandErr at h
  rw [if_neg (by decide), if_neg (by decide), if_neg (by decide), if_neg (by decide), if_neg (by decide), if_neg (by decide), if_neg (by decide), if_neg (by decide), if_neg (by decide), if_pos rfl] at h
  split at h
  · rename_i hw; exact within_iff.1 hw
  · cases h

theorem form1 {op : Int} (h1 : 1 ≤ op) (h2 : op ≤ 15) : formL op = [114, 114, 45, 45] := by unfold formL; rw [if_pos ⟨h1, h2⟩]
theorem form2 {op : Int} (h1 : 16 ≤ op) (h2 : op ≤ 36) : formL op = [114, 114, 114, 45] := by unfold formL; rw [if_neg (by omega), if_pos ⟨h1, h2⟩]
theorem loc1 {p : Prg} {f : Fnc} {i : Instr} (h : instrErr p f i = 0) (h1 : 1 ≤ i.op) (h2 : i.op ≤ 15) : (0 ≤ i.a ∧ i.a < f.regs) ∧ (0 ≤ i.b ∧ i.b < f.regs) := by
  have := (instr_oper h).2
  exact ⟨oper_reg (this 0 (by decide)) (.inl (by simp [letterAt, form1 h1 h2])), oper_reg (this 1 (by decide)) (.inl (by simp [letterAt, form1 h1 h2]))⟩
theorem loc2 {p : Prg} {f : Fnc} {i : Instr} (h : instrErr p f i = 0) (h1 : 16 ≤ i.op) (h2 : i.op ≤ 36) : (0 ≤ i.a ∧ i.a < f.regs) ∧ (0 ≤ i.b ∧ i.b < f.regs) ∧ (0 ≤ i.c ∧ i.c < f.regs) := by
  have := (instr_oper h).2
  exact ⟨oper_reg (this 0 (by decide)) (.inl (by simp [letterAt, form2 h1 h2])), oper_reg (this 1 (by decide)) (.inl (by simp [letterAt, form2 h1 h2])), oper_reg (this 2 (by decide)) (.inl (by simp [letterAt, form2 h1 h2]))⟩
theorem loc40 {p : Prg} {f : Fnc} {i : Instr} (h : instrErr p f i = 0) (h1 : i.op = 40) : 0 ≤ i.a ∧ i.a < f.regs := oper_reg ((instr_oper h).2 0 (by decide)) (.inl (by simp [letterAt, formL, h1]))
theorem loc41 {p : Prg} {f : Fnc} {i : Instr} (h : instrErr p f i = 0) (h1 : i.op = 41) : (0 ≤ i.a ∧ i.a < f.regs) ∧ (0 ≤ i.b ∧ i.b < f.regs) :=
  ⟨oper_reg ((instr_oper h).2 0 (by decide)) (.inl (by simp [letterAt, formL, h1])), oper_reg ((instr_oper h).2 1 (by decide)) (.inl (by simp [letterAt, formL, h1]))⟩
theorem loc42 {p : Prg} {f : Fnc} {i : Instr} (h : instrErr p f i = 0) (h1 : i.op = 42) : 0 ≤ i.a ∧ i.a < (f.code.length : Int) := oper_code ((instr_oper h).2 0 (by decide)) (by simp [letterAt, formL, h1])
theorem loc43 {p : Prg} {f : Fnc} {i : Instr} (h : instrErr p f i = 0) (h1 : i.op = 43) : (0 ≤ i.a ∧ i.a < f.regs) ∧ (0 ≤ i.b ∧ i.b < (f.code.length : Int)) :=
  ⟨oper_reg ((instr_oper h).2 0 (by decide)) (.inl (by simp [letterAt, formL, h1])), oper_code ((instr_oper h).2 1 (by decide)) (by simp [letterAt, formL, h1])⟩
theorem loc44 {p : Prg} {f : Fnc} {i : Instr} (h : instrErr p f i = 0) (h1 : i.op = 44) : 0 ≤ i.a ∧ i.a < f.regs := oper_reg ((instr_oper h).2 0 (by decide)) (.inl (by simp [letterAt, formL, h1]))

/-- A goroutine that stands in its program. -/
structure gorIn (p : Prg) (g : Gor) : Prop where
  f0 : 0 ≤ g.func
  f1 : g.func < p.funcs.length
  p0 : 0 ≤ g.pc
  p1 : g.pc < (p.funcs.getD g.func.toNat default).code.length
  regs : g.regs.length = 8

abbrev Prg.instr (p : Prg) (g : Gor) : Instr := (p.funcs.getD g.func.toNat default).code.getD g.pc.toNat default
theorem instr_right {p : Prg} (hok : p.Ok) {g : Gor} (hg : gorIn p g) : instrErr p (p.funcs.getD g.func.toNat default) (p.instr g) = 0 :=
  hok.instr _ _ (by have := hg.f0; have := hg.f1; omega) (by have := hg.p0; have := hg.p1; omega)
theorem next_in {p : Prg} (hok : p.Ok) {g : Gor} (hg : gorIn p g) (h : (p.instr g).op ≠ 42 ∧ (p.instr g).op ≠ 45 ∧ (p.instr g).op ≠ 61) : g.pc + 1 < (p.funcs.getD g.func.toNat default).code.length := by
  have h1 := hg.p1
  have h0 := hg.p0
  by_cases hc : g.pc + 1 < (p.funcs.getD g.func.toNat default).code.length
  · exact hc
  · have hl := hok.last g.func.toNat (by have := hg.f0; have := hg.f1; omega)
    have e : g.pc = ((p.funcs.getD g.func.toNat default).code.length : Int) - 1 := by omega
    unfold lastOk Fnc.at_ at hl
    rw [← e] at hl
    simp only [Bool.or_eq_true, decide_eq_true_eq] at hl
    rcases hl with (hl | hl) | hl
    · exact absurd hl h.1
    · exact absurd hl h.2.1
    · exact absurd hl h.2.2

section
variable (apply : Int → Int → Int → Int × Int) {p : Prg} {g : Gor}
abbrev Gor.with_ (g : Gor) (pc : Int) (regs : List Int) : Gor := ⟨g.status, g.func, pc, g.why, regs⟩
theorem ls1 (h : (p.instr g).op ≤ 15) : localStep apply p g = (⟨g.status, g.func, g.pc + 1, g.why, g.regs.set (p.instr g).a.toNat (apply (p.instr g).op (g.regs.getD (p.instr g).b.toNat 0) 0).1⟩, true) := if_pos h
theorem ls2 (h1 : ¬(p.instr g).op ≤ 15) (h : (p.instr g).op ≤ 36) (e1 : ¬(apply (p.instr g).op (g.regs.getD (p.instr g).b.toNat 0) (g.regs.getD (p.instr g).c.toNat 0)).2 = 20) (e2 : ¬(apply (p.instr g).op (g.regs.getD (p.instr g).b.toNat 0) (g.regs.getD (p.instr g).c.toNat 0)).2 = 21) :
    localStep apply p g = (⟨g.status, g.func, g.pc + 1, g.why, g.regs.set (p.instr g).a.toNat (apply (p.instr g).op (g.regs.getD (p.instr g).b.toNat 0) (g.regs.getD (p.instr g).c.toNat 0)).1⟩, true) :=
  (if_neg h1).trans ((if_pos h).trans ((if_neg e1).trans (if_neg e2)))
theorem ls2z (h1 : ¬(p.instr g).op ≤ 15) (h : (p.instr g).op ≤ 36) (e1 : (apply (p.instr g).op (g.regs.getD (p.instr g).b.toNat 0) (g.regs.getD (p.instr g).c.toNat 0)).2 = 20) : localStep apply p g = (ended g 4 2, false) :=
  (if_neg h1).trans ((if_pos h).trans (if_pos e1))
theorem ls2s (h1 : ¬(p.instr g).op ≤ 15) (h : (p.instr g).op ≤ 36) (e1 : ¬(apply (p.instr g).op (g.regs.getD (p.instr g).b.toNat 0) (g.regs.getD (p.instr g).c.toNat 0)).2 = 20) (e2 : (apply (p.instr g).op (g.regs.getD (p.instr g).b.toNat 0) (g.regs.getD (p.instr g).c.toNat 0)).2 = 21) : localStep apply p g = (ended g 4 3, false) :=
  (if_neg h1).trans ((if_pos h).trans ((if_neg e1).trans (if_pos e2)))
theorem ls40 (h1 : ¬(p.instr g).op ≤ 15) (h2 : ¬(p.instr g).op ≤ 36) (h : (p.instr g).op = 40) : localStep apply p g = (⟨g.status, g.func, g.pc + 1, g.why, g.regs.set (p.instr g).a.toNat (p.instr g).n⟩, true) :=
  (if_neg h1).trans ((if_neg h2).trans (if_pos h))
theorem ls41 (h1 : ¬(p.instr g).op ≤ 15) (h2 : ¬(p.instr g).op ≤ 36) (h3 : ¬(p.instr g).op = 40) (h : (p.instr g).op = 41) : localStep apply p g = (⟨g.status, g.func, g.pc + 1, g.why, g.regs.set (p.instr g).a.toNat (g.regs.getD (p.instr g).b.toNat 0)⟩, true) :=
  (if_neg h1).trans ((if_neg h2).trans ((if_neg h3).trans (if_pos h)))
theorem ls42 (h1 : ¬(p.instr g).op ≤ 15) (h2 : ¬(p.instr g).op ≤ 36) (h3 : ¬(p.instr g).op = 40) (h4 : ¬(p.instr g).op = 41) (h : (p.instr g).op = 42) : localStep apply p g = (⟨g.status, g.func, (p.instr g).a, g.why, g.regs⟩, true) :=
  (if_neg h1).trans ((if_neg h2).trans ((if_neg h3).trans ((if_neg h4).trans (if_pos h))))
theorem ls43 (h1 : ¬(p.instr g).op ≤ 15) (h2 : ¬(p.instr g).op ≤ 36) (h3 : ¬(p.instr g).op = 40) (h4 : ¬(p.instr g).op = 41) (h5 : ¬(p.instr g).op = 42) (h : (p.instr g).op = 43) (e : ¬g.regs.getD (p.instr g).a.toNat 0 = 0) : localStep apply p g = (⟨g.status, g.func, (p.instr g).b, g.why, g.regs⟩, true) := by
  refine (if_neg h1).trans ((if_neg h2).trans ((if_neg h3).trans ((if_neg h4).trans ((if_neg h5).trans ((if_pos h).trans ?_)))))
  exact Prod.ext (if_pos e) rfl
theorem ls43f (h1 : ¬(p.instr g).op ≤ 15) (h2 : ¬(p.instr g).op ≤ 36) (h3 : ¬(p.instr g).op = 40) (h4 : ¬(p.instr g).op = 41) (h5 : ¬(p.instr g).op = 42) (h : (p.instr g).op = 43) (e : g.regs.getD (p.instr g).a.toNat 0 = 0) : localStep apply p g = (⟨g.status, g.func, g.pc + 1, g.why, g.regs⟩, true) := by
  refine (if_neg h1).trans ((if_neg h2).trans ((if_neg h3).trans ((if_neg h4).trans ((if_neg h5).trans ((if_pos h).trans ?_)))))
  exact Prod.ext (if_neg (fun q => q e)) rfl
theorem ls44 (h1 : ¬(p.instr g).op ≤ 15) (h2 : ¬(p.instr g).op ≤ 36) (h3 : ¬(p.instr g).op = 40) (h4 : ¬(p.instr g).op = 41) (h5 : ¬(p.instr g).op = 42) (h6 : ¬(p.instr g).op = 43) (h : (p.instr g).op = 44) (e : ¬g.regs.getD (p.instr g).a.toNat 0 = 0) : localStep apply p g = (⟨g.status, g.func, g.pc + 1, g.why, g.regs⟩, true) :=
  (if_neg h1).trans ((if_neg h2).trans ((if_neg h3).trans ((if_neg h4).trans ((if_neg h5).trans ((if_neg h6).trans ((if_pos h).trans (if_neg e)))))))
theorem ls44z (h1 : ¬(p.instr g).op ≤ 15) (h2 : ¬(p.instr g).op ≤ 36) (h3 : ¬(p.instr g).op = 40) (h4 : ¬(p.instr g).op = 41) (h5 : ¬(p.instr g).op = 42) (h6 : ¬(p.instr g).op = 43) (h : (p.instr g).op = 44) (e : g.regs.getD (p.instr g).a.toNat 0 = 0) : localStep apply p g = (ended g 4 1, false) :=
  (if_neg h1).trans ((if_neg h2).trans ((if_neg h3).trans ((if_neg h4).trans ((if_neg h5).trans ((if_neg h6).trans ((if_pos h).trans (if_pos e)))))))
theorem ls45 (h1 : ¬(p.instr g).op ≤ 15) (h2 : ¬(p.instr g).op ≤ 36) (h3 : ¬(p.instr g).op = 40) (h4 : ¬(p.instr g).op = 41) (h5 : ¬(p.instr g).op = 42) (h6 : ¬(p.instr g).op = 43) (h : ¬(p.instr g).op = 44) : localStep apply p g = (ended g 3 0, false) :=
  (if_neg h1).trans ((if_neg h2).trans ((if_neg h3).trans ((if_neg h4).trans ((if_neg h5).trans ((if_neg h6).trans (if_neg h))))))

theorem ended_in (hg : gorIn p g) (s w : Int) : gorIn p (ended g s w) := ⟨hg.f0, hg.f1, hg.p0, hg.p1, rfl⟩
theorem local_range {op : Int} (h : isLocal op = true) : (1 ≤ op ∧ op ≤ 36) ∨ (40 ≤ op ∧ op ≤ 45) := by simpa [isLocal] using h
theorem localStep_in (hok : p.Ok) (hg : gorIn p g) (hl : isLocal (p.instr g).op = true) : gorIn p (localStep apply p g).1 := by
  have hr := local_range hl
  have hin := instr_right hok hg
  have next : ∀ regs : List Int, regs.length = 8 → ((p.instr g).op ≠ 42 ∧ (p.instr g).op ≠ 45 ∧ (p.instr g).op ≠ 61) → gorIn p ⟨g.status, g.func, g.pc + 1, g.why, regs⟩ := fun regs h8 ho =>
    ⟨hg.f0, hg.f1, by have := hg.p0; show 0 ≤ g.pc + 1; omega, next_in hok hg ho, h8⟩
  have h8 := hg.regs
  by_cases h1 : (p.instr g).op ≤ 15
  · rw [ls1 apply h1]; exact next _ (by rw [List.length_set]; exact h8) (by omega)
  by_cases h2 : (p.instr g).op ≤ 36
  · by_cases e1 : (apply (p.instr g).op (g.regs.getD (p.instr g).b.toNat 0) (g.regs.getD (p.instr g).c.toNat 0)).2 = 20
    · rw [ls2z apply h1 h2 e1]; exact ended_in hg _ _
    by_cases e2 : (apply (p.instr g).op (g.regs.getD (p.instr g).b.toNat 0) (g.regs.getD (p.instr g).c.toNat 0)).2 = 21
    · rw [ls2s apply h1 h2 e1 e2]; exact ended_in hg _ _
    · rw [ls2 apply h1 h2 e1 e2]; exact next _ (by rw [List.length_set]; exact h8) (by omega)
  by_cases h3 : (p.instr g).op = 40
  · rw [ls40 apply h1 h2 h3]; exact next _ (by rw [List.length_set]; exact h8) (by omega)
  by_cases h4 : (p.instr g).op = 41
  · rw [ls41 apply h1 h2 h3 h4]; exact next _ (by rw [List.length_set]; exact h8) (by omega)
  by_cases h5 : (p.instr g).op = 42
  · rw [ls42 apply h1 h2 h3 h4 h5]
    have := loc42 hin h5
    exact ⟨hg.f0, hg.f1, this.1, this.2, h8⟩
  by_cases h6 : (p.instr g).op = 43
  · by_cases e : g.regs.getD (p.instr g).a.toNat 0 = 0
    · rw [ls43f apply h1 h2 h3 h4 h5 h6 e]; exact next _ h8 (by omega)
    · rw [ls43 apply h1 h2 h3 h4 h5 h6 e]
      have := (loc43 hin h6).2
      exact ⟨hg.f0, hg.f1, this.1, this.2, h8⟩
  by_cases h7 : (p.instr g).op = 44
  · by_cases e : g.regs.getD (p.instr g).a.toNat 0 = 0
    · rw [ls44z apply h1 h2 h3 h4 h5 h6 h7 e]; exact ended_in hg _ _
    · rw [ls44 apply h1 h2 h3 h4 h5 h6 h7 e]; exact next _ h8 (by omega)
  · rw [ls45 apply h1 h2 h3 h4 h5 h6 h7]; exact ended_in hg _ _
theorem settledN_stop {m : Nat} (h : isLocal (p.instr g).op = false) : settledN apply p m g = g := by
  cases m with
  | zero => exact if_neg (by rw [show ((p.fn g.func).at_ g.pc) = p.instr g from rfl, h]; simp)
  | succ m => exact if_neg (by rw [show ((p.fn g.func).at_ g.pc) = p.instr g from rfl, h]; simp)
theorem settledN_zero (h : isLocal (p.instr g).op = true) : settledN apply p 0 g = ⟨5, g.func, g.pc, g.why, g.regs⟩ := if_pos h
theorem settledN_succ {m : Nat} (h : isLocal (p.instr g).op = true) : settledN apply p (m + 1) g = if (localStep apply p g).2 then settledN apply p m (localStep apply p g).1 else (localStep apply p g).1 := if_pos h
theorem settledN_in (hok : p.Ok) : ∀ (m : Nat) {g : Gor}, gorIn p g → gorIn p (settledN apply p m g)
  | 0, g, hg => by
    cases h : isLocal (p.instr g).op
    · rw [settledN_stop apply h]; exact hg
    · rw [settledN_zero apply h]; exact ⟨hg.f0, hg.f1, hg.p0, hg.p1, hg.regs⟩
  | m + 1, g, hg => by
    cases h : isLocal (p.instr g).op
    · rw [settledN_stop apply h]; exact hg
    · rw [settledN_succ apply h]
      split
      · exact settledN_in hok m (localStep_in apply hok hg h)
      · exact localStep_in apply hok hg h
theorem settled_in (hok : p.Ok) (hg : gorIn p g) (m : Int) : gorIn p (settled apply p g m) := settledN_in apply hok _ ⟨hg.f0, hg.f1, hg.p0, hg.p1, hg.regs⟩
end

theorem valid_parts {p : Prg} {s : Stt} (h : validP p s = true) : rightP p = true ∧ (1 ≤ s.count ∧ s.count ≤ 6) ∧ gorsOk p s 6 = true ∧ varsOk p s 8 = true ∧ ownersOk p s 4 = true ∧ chansOk p s 4 = true ∧ waitsOk s s.count.toNat = true := by
  simp only [validP, Bool.and_eq_true, decide_eq_true_eq] at h
  exact ⟨h.1.1.1.1.1.1.1, ⟨h.1.1.1.1.1.1.2, h.1.1.1.1.1.2⟩, h.1.1.1.1.2, h.1.1.1.2, h.1.1.2, h.1.2, h.2⟩
theorem gor_in {p : Prg} {s : Stt} (hs : s.Shape) (h : gorsOk p s 6 = true) {g : Int} (h0 : 0 ≤ g) (h6 : g < 6) (hc : g < s.count) : gorIn p (s.gos.getD g.toNat default) := by
  have := gorOk_R (gorsOk_at h h0 h6 hc)
  unfold gorR at this
  exact ⟨this.1.1.1.2, this.1.1.2, this.1.2, this.2, hs.regs _ (getD_mem _ (by rw [hs.gos]; omega))⟩
theorem startVars_zero (p : Prg) : startVars p 0 = zeroStt.vars := by simp [startVars, zeroStt]; rfl
theorem startVars_succ (p : Prg) {i : Nat} (h : i < 8) : (startVars p i).set i (p.vars.getD i default).init = startVars p (i + 1) := by
  unfold startVars
  rw [rows_set h]
  apply List.map_congr_left
  intro k hk
  by_cases h1 : k = i
  · subst h1; simp
  · rw [if_neg h1]
    by_cases h2 : k < i
    · rw [if_pos h2, if_pos (by omega)]
    · rw [if_neg h2, if_neg (by omega)]
theorem start_in {p : Prg} (hok : p.Ok) : gorIn p zeroGor := by
  have hs := hok.sizes
  unfold Sizes at hs
  exact ⟨by decide, by show (0 : Int) < _; omega, by decide, by have := hok.code 0 (by omega); show (0 : Int) < _; exact_mod_cast this.1, by decide⟩
end Go.Eng
/- Visible instructions: what they owe; states that a run comes to. -/
namespace Go.Eng
set_option linter.unusedSimpArgs false
set_option linter.unusedVariables false
set_option linter.unusedVariables false

theorem oper_var {p : Prg} {f : Fnc} {i : Instr} {l x : Int} (h : operandErr p f l x i = 0) (hl : l = 118 ∨ l = 97) : 0 ≤ x ∧ x < (p.vars.length : Int) := by
  unfold operandErr at h
  rw [if_neg (by omega), if_neg (by omega), if_neg (by omega)] at h
  split at h
  · split at h
    · rename_i hw; exact within_iff.1 hw
    · cases h
  · rw [if_pos (by omega)] at h
    split at h
    · rename_i hw; exact within_iff.1 hw
    · cases h
theorem oper_lock {p : Prg} {f : Fnc} {i : Instr} {l x : Int} (h : operandErr p f l x i = 0) (hl : l = 108) : 0 ≤ x ∧ x < p.locks := by
  subst hl
  unfold operandErr at h
  rw [if_neg (by decide), if_neg (by decide), if_neg (by decide), if_neg (by decide), if_neg (by decide), if_pos rfl] at h
  split at h
  · rename_i hw; exact within_iff.1 hw
  · cases h
theorem oper_chan {p : Prg} {f : Fnc} {i : Instr} {l x : Int} (h : operandErr p f l x i = 0) (hl : l = 99) : 0 ≤ x ∧ x < (p.chans.length : Int) := by
  subst hl
  unfold operandErr at h
  rw [if_neg (by decide), if_neg (by decide), if_neg (by decide), if_neg (by decide), if_neg (by decide), if_neg (by decide), if_pos rfl] at h
  split at h
  · rename_i hw; exact within_iff.1 hw
  · cases h
theorem oper_sel {p : Prg} {f : Fnc} {i : Instr} {l x : Int} (h : operandErr p f l x i = 0) (hl : l = 115) : 0 ≤ x ∧ x < (f.sels.length : Int) := by
  subst hl
  unfold operandErr at h
  rw [if_neg (by decide), if_neg (by decide), if_neg (by decide), if_neg (by decide), if_neg (by decide), if_neg (by decide), if_neg (by decide), if_pos rfl] at h
  split at h
  · rename_i hw; exact within_iff.1 hw
  · cases h
theorem oper_fun {p : Prg} {f : Fnc} {i : Instr} {l x : Int} (h : operandErr p f l x i = 0) (hl : l = 102) : 0 ≤ x ∧ x < (p.funcs.length : Int) := by
  subst hl
  unfold operandErr at h
  rw [if_neg (by decide), if_neg (by decide), if_neg (by decide), if_neg (by decide), if_neg (by decide), if_neg (by decide), if_neg (by decide), if_neg (by decide), if_pos rfl] at h
  split at h
  · rename_i hw; exact within_iff.1 hw
  · cases h
theorem oper_par {p : Prg} {f : Fnc} {i : Instr} {l x : Int} (h : operandErr p f l x i = 0) (hl : l = 112) : ((p.fn i.b).params = 0 → x = 0) ∧ (0 < (p.fn i.b).params → 0 ≤ x ∧ x ≤ w64 (f.regs - (p.fn i.b).params)) := by
  subst hl
  unfold operandErr at h
  rw [if_neg (by decide), if_neg (by decide), if_pos rfl] at h
  split at h
  · cases h
  · rename_i hw
    constructor
    · intro h0
      by_cases hx : x = 0
      · exact hx
      · exact absurd (.inl ⟨h0, hx⟩) hw
    · intro h0
      omega

section
variable {p : Prg} {f : Fnc} {i : Instr} (h : instrErr p f i = 0)
include h
theorem vis50 (h1 : i.op = 50) : (0 ≤ i.a ∧ i.a < f.regs) ∧ (0 ≤ i.b ∧ i.b < (p.vars.length : Int)) := ⟨oper_reg ((instr_oper h).2 0 (by decide)) (.inl (by simp [letterAt, formL, h1])), oper_var ((instr_oper h).2 1 (by decide)) (.inl (by simp [letterAt, formL, h1]))⟩
theorem vis51 (h1 : i.op = 51) : (0 ≤ i.a ∧ i.a < (p.vars.length : Int)) ∧ (0 ≤ i.b ∧ i.b < f.regs) := ⟨oper_var ((instr_oper h).2 0 (by decide)) (.inl (by simp [letterAt, formL, h1])), oper_reg ((instr_oper h).2 1 (by decide)) (.inl (by simp [letterAt, formL, h1]))⟩
theorem vis52 (h1 : i.op = 52) : (i.a = -1 ∨ 0 ≤ i.a ∧ i.a < f.regs) ∧ (0 ≤ i.b ∧ i.b < (p.vars.length : Int)) ∧ (0 ≤ i.c ∧ i.c < f.regs) := ⟨oper_opt ((instr_oper h).2 0 (by decide)) (by simp [letterAt, formL, h1]), oper_var ((instr_oper h).2 1 (by decide)) (.inr (by simp [letterAt, formL, h1])), oper_reg ((instr_oper h).2 2 (by decide)) (.inl (by simp [letterAt, formL, h1]))⟩
theorem vis53 (h1 : i.op = 53) : (0 ≤ i.a ∧ i.a < f.regs) ∧ (0 ≤ i.b ∧ i.b < (p.vars.length : Int)) ∧ (0 ≤ i.c ∧ i.c < f.regs) ∧ (0 ≤ i.n ∧ i.n < f.regs) := ⟨oper_reg ((instr_oper h).2 0 (by decide)) (.inl (by simp [letterAt, formL, h1])), oper_var ((instr_oper h).2 1 (by decide)) (.inr (by simp [letterAt, formL, h1])), oper_reg ((instr_oper h).2 2 (by decide)) (.inl (by simp [letterAt, formL, h1])), oper_reg ((instr_oper h).2 3 (by decide)) (.inr (by simp [letterAt, formL, h1]))⟩
theorem vis54 (h1 : i.op = 54) : (0 ≤ i.a ∧ i.a < (p.vars.length : Int)) ∧ (0 ≤ i.b ∧ i.b < f.regs) := ⟨oper_var ((instr_oper h).2 0 (by decide)) (.inr (by simp [letterAt, formL, h1])), oper_reg ((instr_oper h).2 1 (by decide)) (.inl (by simp [letterAt, formL, h1]))⟩
theorem vis55 (h1 : i.op = 55 ∨ i.op = 56) : 0 ≤ i.a ∧ i.a < p.locks := oper_lock ((instr_oper h).2 0 (by decide)) (by rcases h1 with h1 | h1 <;> simp [letterAt, formL, h1])
theorem vis57 (h1 : i.op = 57) : (0 ≤ i.a ∧ i.a < f.regs) ∧ (0 ≤ i.b ∧ i.b < p.locks) := ⟨oper_reg ((instr_oper h).2 0 (by decide)) (.inl (by simp [letterAt, formL, h1])), oper_lock ((instr_oper h).2 1 (by decide)) (by simp [letterAt, formL, h1])⟩
theorem vis58 (h1 : i.op = 58) : (0 ≤ i.a ∧ i.a < (p.chans.length : Int)) ∧ (0 ≤ i.b ∧ i.b < f.regs) := ⟨oper_chan ((instr_oper h).2 0 (by decide)) (by simp [letterAt, formL, h1]), oper_reg ((instr_oper h).2 1 (by decide)) (.inl (by simp [letterAt, formL, h1]))⟩
theorem vis59 (h1 : i.op = 59) : (i.a = -1 ∨ 0 ≤ i.a ∧ i.a < f.regs) ∧ (0 ≤ i.b ∧ i.b < (p.chans.length : Int)) ∧ (i.c = -1 ∨ 0 ≤ i.c ∧ i.c < f.regs) := ⟨oper_opt ((instr_oper h).2 0 (by decide)) (by simp [letterAt, formL, h1]), oper_chan ((instr_oper h).2 1 (by decide)) (by simp [letterAt, formL, h1]), oper_opt ((instr_oper h).2 2 (by decide)) (by simp [letterAt, formL, h1])⟩
theorem vis60 (h1 : i.op = 60) : 0 ≤ i.a ∧ i.a < (p.chans.length : Int) := oper_chan ((instr_oper h).2 0 (by decide)) (by simp [letterAt, formL, h1])
theorem vis61 (h1 : i.op = 61) : 0 ≤ i.a ∧ i.a < (f.sels.length : Int) := oper_sel ((instr_oper h).2 0 (by decide)) (by simp [letterAt, formL, h1])
theorem vis62 (h1 : i.op = 62) : (i.a = -1 ∨ 0 ≤ i.a ∧ i.a < f.regs) ∧ (0 ≤ i.b ∧ i.b < (p.funcs.length : Int)) ∧ ((p.fn i.b).params = 0 → i.c = 0) ∧ (0 < (p.fn i.b).params → 0 ≤ i.c ∧ i.c ≤ w64 (f.regs - (p.fn i.b).params)) := ⟨oper_opt ((instr_oper h).2 0 (by decide)) (by simp [letterAt, formL, h1]), oper_fun ((instr_oper h).2 1 (by decide)) (by simp [letterAt, formL, h1]), oper_par ((instr_oper h).2 2 (by decide)) (by simp [letterAt, formL, h1])⟩
theorem vis63 (h1 : i.op = 63 ∨ i.op = 65) : 0 ≤ i.a ∧ i.a < f.regs := oper_reg ((instr_oper h).2 0 (by decide)) (.inl (by rcases h1 with h1 | h1 <;> simp [letterAt, formL, h1]))
theorem op_le : 1 ≤ i.op ∧ i.op ≤ 65 := by
  have := (instr_oper h).1
  simp [isLocal, isVisible] at this
  omega
end

/-- A state that a run may come to. -/
structure Wf (p : Prg) (s : Stt) : Prop where
  shape : s.Shape
  count : 0 ≤ s.count ∧ s.count ≤ 6
  gos : ∀ g : Int, 0 ≤ g → g < s.count → gorIn p (s.gos.getD g.toNat default)
  wait : ∀ g : Int, 0 ≤ g → g < s.count → (s.gos.getD g.toNat default).status = 2 → (p.instr (s.gos.getD g.toNat default)).op = 58
  chans : ∀ i : Nat, 0 ≤ (s.chans.getD i default).len ∧ (s.chans.getD i default).len ≤ p.chans.getD i 0
abbrev insAt (p : Prg) (s : Stt) (g : Int) : Instr := p.instr (s.gos.getD g.toNat default)
theorem opAt_cases {p : Prg} {s : Stt} {g k : Int} (h : opAt p s g = k) : ((s.gos.getD g.toNat default).status = 2 ∧ k = 66) ∨ (¬(s.gos.getD g.toNat default).status = 2 ∧ (insAt p s g).op = k) := by
  unfold opAt at h
  split at h
  · rename_i h1; exact .inl ⟨h1, h.symm⟩
  · rename_i h1; exact .inr ⟨h1, h⟩
theorem Wf.right {p : Prg} {s : Stt} (hok : p.Ok) (hw : Wf p s) {g : Int} (h0 : 0 ≤ g) (hc : g < s.count) : instrErr p (p.funcs.getD (s.gos.getD g.toNat default).func.toNat default) (insAt p s g) = 0 := instr_right hok (hw.gos g h0 hc)
theorem Wf.op_at {p : Prg} {s : Stt} (hok : p.Ok) (hw : Wf p s) {g k : Int} (h0 : 0 ≤ g) (hc : g < s.count) (h : opAt p s g = k) (hk : k ≠ 66) : (insAt p s g).op = k := by
  rcases opAt_cases h with h | h
  · exact absurd h.2 hk
  · exact h.2
theorem Wf.op66 {p : Prg} {s : Stt} (hok : p.Ok) (hw : Wf p s) {g : Int} (h0 : 0 ≤ g) (hc : g < s.count) (h : opAt p s g = 66) : (insAt p s g).op = 58 := by
  rcases opAt_cases h with h | h
  · exact hw.wait g h0 hc h.1
  · have := op_le (hw.right hok h0 hc); omega
theorem live_iff {s : Stt} {g : Int} : isLive s g = true ↔ (0 ≤ g ∧ g < s.count) ∧ ((s.gos.getD g.toNat default).status = 1 ∨ (s.gos.getD g.toNat default).status = 2) := by
  unfold isLive
  rw [Bool.and_eq_true, Bool.and_eq_true, Bool.or_eq_true, decide_eq_true_eq, decide_eq_true_eq, decide_eq_true_eq, decide_eq_true_eq]
  exact Iff.rfl
theorem isLive_eq (s : Stt) (g : Int) : isLive s g = (decide (0 ≤ g) && decide (g < s.count) && (decide ((s.gos.getD g.toNat default).status = 1) || decide ((s.gos.getD g.toNat default).status = 2))) := rfl

structure CasIn (p : Prg) (f : Fnc) (c : Cas) : Prop where
  chan : 0 ≤ c.chan ∧ c.chan < (p.chans.length : Int)
  reg : (0 ≤ c.reg ∧ c.reg < f.regs) ∨ (c.send = false ∧ c.reg = -1)
  cap : c.send = true → ¬p.chans.getD c.chan.toNat 0 = 0
  to_ : 0 ≤ c.to_ ∧ c.to_ < (f.code.length : Int)
theorem caseErr_in {p : Prg} {f : Fnc} {c : Cas} (h : caseErr p f c = 0) : CasIn p f c := by
  unfold caseErr at h
  split at h; · cases h
  rename_i h1
  split at h; · cases h
  rename_i h2
  split at h; · cases h
  rename_i h3
  split at h; · cases h
  rename_i h4
  rw [within_false] at h1 h4
  rw [within_false] at h2
  refine ⟨by omega, ?_, fun q q2 => h3 ⟨q, q2⟩, by omega⟩
  by_cases hr : 0 ≤ c.reg ∧ c.reg < f.regs
  · exact .inl hr
  · right
    cases hs : c.send
    · exact ⟨rfl, by by_cases q : c.reg = -1; exact q; exact absurd ⟨by omega, .inr q⟩ h2⟩
    · exact absurd ⟨by omega, .inl hs⟩ h2
theorem case_ok {p : Prg} (hok : p.Ok) {i j k : Nat} (hi : i < p.funcs.length) (hj : j < (p.funcs.getD i default).sels.length) (hk : k < ((p.funcs.getD i default).sels.getD j default).cases.length) :
    CasIn p (p.funcs.getD i default) (((p.funcs.getD i default).sels.getD j default).cases.getD k default) := by
  have h := hok.sels i j hi hj
  simp only [selErr] at h
  split at h
  · rename_i h1; exact absurd h h1
  · rename_i h1
    have h1 : casesErr p (p.funcs.getD i default) ((p.funcs.getD i default).sels.getD j default) ((p.funcs.getD i default).sels.getD j default).cases.length = 0 := by simpa using h1
    unfold casesErr at h1
    rw [List.take_length] at h1
    exact caseErr_in (firstNZ_zero.1 h1 _ (List.mem_map.2 ⟨_, getD_mem _ hk, rfl⟩))
theorem else_ok {p : Prg} (hok : p.Ok) {i j : Nat} (hi : i < p.funcs.length) (hj : j < (p.funcs.getD i default).sels.length) :
    ((p.funcs.getD i default).sels.getD j default).els = -1 ∨ 0 ≤ ((p.funcs.getD i default).sels.getD j default).els ∧ ((p.funcs.getD i default).sels.getD j default).els < ((p.funcs.getD i default).code.length : Int) := by
  have h := hok.sels i j hi hj
  simp only [selErr] at h
  split at h
  · rename_i h1; exact absurd h h1
  · split at h
    · cases h
    · rename_i h2
      rw [within_false] at h2
      omega
theorem caseOk_bif (p : Prg) (s : Stt) (c : Cas) : (bif (bif c.send then sends p s c.chan else false) then true else (bif !c.send then receives s c.chan else false)) = caseOk p s c := by
  unfold caseOk
  cases c.send
  · cases receives s c.chan <;> rfl
  · cases sends p s c.chan <;> rfl
theorem casesTo_len (p : Prg) (s : Stt) (q : Sel) (n : Nat) : (casesTo p s q n).length ≤ n := by
  unfold casesTo; rw [List.length_map]; exact Nat.le_trans (List.length_filter_le _ _) (by simp)
theorem casesTo_hit {p : Prg} {s : Stt} {q : Sel} {n : Nat} (h : caseOk p s (q.cases.getD n default) = true) : casesTo p s q (n + 1) = casesTo p s q n ++ [(n : Int)] := by
  unfold casesTo
  rw [List.range_succ, List.filter_append, List.map_append]
  simp only [List.filter_cons, List.filter_nil, h, if_true, List.map_cons, List.map_nil]
theorem casesTo_miss {p : Prg} {s : Stt} {q : Sel} {n : Nat} (h : caseOk p s (q.cases.getD n default) = false) : casesTo p s q (n + 1) = casesTo p s q n := by
  unfold casesTo
  rw [List.range_succ, List.filter_append, List.map_append]
  simp only [List.filter_cons, List.filter_nil, h, Bool.false_eq_true, if_false, List.map_nil, List.append_nil]
theorem readyTo_succ (p : Prg) (s : Stt) (n : Nat) : readyTo p s (n + 1) = readyTo p s n ++ (alts p s n).map fun a => ⟨(n : Int), a⟩ := by
  unfold readyTo
  rw [List.range_succ, List.flatMap_append]
  simp
theorem alts_len {p : Prg} {s : Stt} {g : Int} (h : (selAt p s g).cases.length ≤ 4) : (alts p s g).length ≤ 5 := by
  unfold alts
  split
  · split
    · have := casesTo_len p s (selAt p s g) (selAt p s g).cases.length
      simp only
      split
      · rw [List.length_append]; simp; omega
      · omega
    · split <;> simp
  · simp
end Go.Eng
/- What a step's visible instruction does, in memory. -/
namespace Go.Eng
set_option linter.unusedSimpArgs false
set_option linter.unusedVariables false
def Did.v (d : Did) : V := .agg [d.s.v, .int d.val, .int d.why, .int d.to_]
theorem Did.v0 (d : Did) (x : V) : d.v.toList.getD 0 x = d.s.v := rfl
theorem Did.v1 (d : Did) (x : V) : d.v.toList.getD 1 x = .int d.val := rfl
theorem Did.v2 (d : Did) (x : V) : d.v.toList.getD 2 x = .int d.why := rfl
theorem Did.v3 (d : Did) (x : V) : d.v.toList.getD 3 x = .int d.to_ := rfl
theorem Did.put0 (d : Did) (x : Stt) : V.setSub d.v 0 x.v = Did.v ⟨x, d.val, d.why, d.to_⟩ := rfl
theorem Did.put1 (d : Did) (x : Int) : V.setSub d.v 1 (.int x) = Did.v ⟨d.s, x, d.why, d.to_⟩ := rfl
theorem Did.put2 (d : Did) (x : Int) : V.setSub d.v 2 (.int x) = Did.v ⟨d.s, d.val, x, d.to_⟩ := rfl
theorem Did.put3 (d : Did) (x : Int) : V.setSub d.v 3 (.int x) = Did.v ⟨d.s, d.val, d.why, x⟩ := rfl
attribute [go_sem] Did.v0 Did.v1 Did.v2 Did.v3 Did.put0 Did.put1 Did.put2 Did.put3

theorem shiftTo_zero (b : List Int) : shiftTo b 0 = b := by
  unfold shiftTo
  apply List.ext_getElem
  · simp
  · intro i h1 h2; simp [List.getD_eq_getElem?_getD, h2]
theorem shiftTo_at (b : List Int) {n i : Nat} (hi : i < b.length) (h : n ≤ i) : (shiftTo b n).getD i 0 = b.getD i 0 := by
  unfold shiftTo
  rw [rows_getD hi, if_neg (by omega)]
theorem shiftTo_len (b : List Int) (n : Nat) : (shiftTo b n).length = b.length := by simp [shiftTo]
theorem shiftTo_succ (b : List Int) {n : Nat} (hn : n < b.length) : (shiftTo b n).set n (b.getD (n + 1) 0) = shiftTo b (n + 1) := by
  unfold shiftTo
  rw [rows_set hn]
  apply List.map_congr_left
  intro k hk
  by_cases h1 : k = n
  · subst h1; simp
  · rw [if_neg h1]
    by_cases h2 : k < n
    · rw [if_pos h2, if_pos (by omega)]
    · rw [if_neg h2, if_neg (by omega)]
theorem spawnRegs_zero (s : Stt) (g c : Int) : spawnRegs s g c 0 = List.replicate 8 0 := by simp [spawnRegs]; rfl
theorem spawnRegs_succ (s : Stt) (g c : Int) {n : Nat} (hn : n < 8) : (spawnRegs s g c n).set n ((s.gor g).reg (c + n)) = spawnRegs s g c (n + 1) := by
  unfold spawnRegs
  rw [rows_set hn]
  apply List.map_congr_left
  intro k hk
  by_cases h1 : k = n
  · subst h1; simp
  · rw [if_neg h1]
    by_cases h2 : k < n
    · rw [if_pos h2, if_pos (by omega)]
    · rw [if_neg h2, if_neg (by omega)]
theorem gors_put0 (l : List Gor) (i : Nat) (x : Int) : (l.map Gor.v).set i (V.setSub ((l.map Gor.v).getD i default) 0 (.int x)) = (l.set i ⟨x, (l.getD i default).func, (l.getD i default).pc, (l.getD i default).why, (l.getD i default).regs⟩).map Gor.v := by
  by_cases h : i < l.length
  · rw [getD_gors h, Gor.put0, set_gors]
  · rw [List.set_eq_of_length_le (by simpa using h), List.set_eq_of_length_le (by simpa using h)]
theorem gors_put2 (l : List Gor) (i : Nat) (x : Int) : (l.map Gor.v).set i (V.setSub ((l.map Gor.v).getD i default) 2 (.int x)) = (l.set i ⟨(l.getD i default).status, (l.getD i default).func, x, (l.getD i default).why, (l.getD i default).regs⟩).map Gor.v := by
  by_cases h : i < l.length
  · rw [getD_gors h, Gor.put2, set_gors]
  · rw [List.set_eq_of_length_le (by simpa using h), List.set_eq_of_length_le (by simpa using h)]
theorem gors_put3 (l : List Gor) (i : Nat) (x : Int) : (l.map Gor.v).set i (V.setSub ((l.map Gor.v).getD i default) 3 (.int x)) = (l.set i ⟨(l.getD i default).status, (l.getD i default).func, (l.getD i default).pc, x, (l.getD i default).regs⟩).map Gor.v := by
  by_cases h : i < l.length
  · rw [getD_gors h, Gor.put3, set_gors]
  · rw [List.set_eq_of_length_le (by simpa using h), List.set_eq_of_length_le (by simpa using h)]
theorem gors_put4 (l : List Gor) (i : Nat) (x : List Int) : (l.map Gor.v).set i (V.setSub ((l.map Gor.v).getD i default) 4 (.agg (x.map V.int))) = (l.set i ⟨(l.getD i default).status, (l.getD i default).func, (l.getD i default).pc, (l.getD i default).why, x⟩).map Gor.v := by
  by_cases h : i < l.length
  · rw [getD_gors h, Gor.put4, set_gors]
  · rw [List.set_eq_of_length_le (by simpa using h), List.set_eq_of_length_le (by simpa using h)]
theorem gors_putR (l : List Gor) (i r : Nat) (x : Int) : (l.map Gor.v).set i (V.setSub ((l.map Gor.v).getD i default) 4 (V.setSub (((l.map Gor.v).getD i default).toList.getD 4 default) r (.int x))) = (l.set i ⟨(l.getD i default).status, (l.getD i default).func, (l.getD i default).pc, (l.getD i default).why, (l.getD i default).regs.set r x⟩).map Gor.v := by
  by_cases h : i < l.length
  · rw [getD_gors h, Gor.v4, V.setSub_agg, set_ints, Gor.put4, set_gors]
  · rw [List.set_eq_of_length_le (by simpa using h), List.set_eq_of_length_le (by simpa using h)]
attribute [go_sem] gors_put0 gors_put2 gors_put3 gors_put4 gors_putR
theorem mem_set {α : Type} {q : α → Prop} {l : List α} {x : α} (h : ∀ y ∈ l, q y) (hx : q x) (n : Nat) : ∀ y ∈ l.set n x, q y := by
  intro y hy
  rcases List.mem_or_eq_of_mem_set hy with h1 | h1
  · exact h y h1
  · rw [h1]; exact hx
theorem shape_chn {s : Stt} (hs : s.Shape) (c : Nat) {X : Chn} (hX : X.buf.length = 4) : Stt.Shape ⟨s.vars, s.owner, s.chans.set c X, s.gos, s.count⟩ :=
  ⟨hs.vars, hs.owner, by simpa using hs.chans, mem_set hs.bufs hX c, hs.gos, hs.regs⟩
theorem shape_gos {s : Stt} (hs : s.Shape) (g : Nat) {X : Gor} (n : Int) (hX : X.regs.length = 8) : Stt.Shape ⟨s.vars, s.owner, s.chans, s.gos.set g X, n⟩ :=
  ⟨hs.vars, hs.owner, hs.chans, hs.bufs, by simpa using hs.gos, mem_set hs.regs hX g⟩
theorem shape_vars {s : Stt} (hs : s.Shape) (i : Nat) (x : Int) : Stt.Shape ⟨s.vars.set i x, s.owner, s.chans, s.gos, s.count⟩ :=
  ⟨by simpa using hs.vars, hs.owner, hs.chans, hs.bufs, hs.gos, hs.regs⟩
theorem shape_own {s : Stt} (hs : s.Shape) (i : Nat) (x : Int) : Stt.Shape ⟨s.vars, s.owner.set i x, s.chans, s.gos, s.count⟩ :=
  ⟨hs.vars, by simpa using hs.owner, hs.chans, hs.bufs, hs.gos, hs.regs⟩
theorem shape_reg {s : Stt} (hs : s.Shape) {g : Int} (hg : 0 ≤ g ∧ g < 6) (r v : Int) : (s.setReg g r v).Shape := by
  unfold Stt.setReg
  split
  · exact shape_gos hs _ _ (by rw [List.length_set]; exact hs.regs _ (getD_mem _ (by rw [hs.gos]; omega)))
  · exact hs
theorem doVars53 {d : Did} {g : Int} {x : Instr} (h1 : ¬x.op = 50) (h2 : ¬x.op = 51) (h3 : ¬x.op = 52) (h : x.op = 53) :
    doVars d g x = if yes (decide (d.s.vars.getD x.b.toNat 0 = (d.s.gos.getD g.toNat default).regs.getD x.c.toNat 0)) = 1
      then ⟨Stt.setReg ⟨d.s.vars.set x.b.toNat ((d.s.gos.getD g.toNat default).regs.getD x.n.toNat 0), d.s.owner, d.s.chans, d.s.gos, d.s.count⟩ g x.a (yes (decide (d.s.vars.getD x.b.toNat 0 = (d.s.gos.getD g.toNat default).regs.getD x.c.toNat 0))), yes (decide (d.s.vars.getD x.b.toNat 0 = (d.s.gos.getD g.toNat default).regs.getD x.c.toNat 0)), d.why, d.to_⟩
      else ⟨d.s.setReg g x.a (yes (decide (d.s.vars.getD x.b.toNat 0 = (d.s.gos.getD g.toNat default).regs.getD x.c.toNat 0))), yes (decide (d.s.vars.getD x.b.toNat 0 = (d.s.gos.getD g.toNat default).regs.getD x.c.toNat 0)), d.why, d.to_⟩ := by
  refine ((if_neg h1).trans ((if_neg h2).trans ((if_neg h3).trans (if_pos h)))).trans ?_
  by_cases hc : yes (decide (d.s.vars.getD x.b.toNat 0 = (d.s.gos.getD g.toNat default).regs.getD x.c.toNat 0)) = 1
  · rw [if_pos hc]
    exact congrArg (fun s : Stt => (⟨s.setReg g x.a _, _, d.why, d.to_⟩ : Did)) (if_pos hc)
  · rw [if_neg hc]
    exact congrArg (fun s : Stt => (⟨s.setReg g x.a _, _, d.why, d.to_⟩ : Did)) (if_neg hc)
theorem doVars57 {d : Did} {g : Int} {x : Instr} (h1 : ¬x.op = 50) (h2 : ¬x.op = 51) (h3 : ¬x.op = 52) (h4 : ¬x.op = 53) (h5 : ¬x.op = 54) (h6 : ¬x.op = 55) (h7 : ¬x.op = 56) (h : x.op = 57) :
    doVars d g x = if yes (decide (d.s.owner.getD x.b.toNat 0 = 0)) = 1
      then ⟨Stt.setReg ⟨d.s.vars, d.s.owner.set x.b.toNat (g + 1), d.s.chans, d.s.gos, d.s.count⟩ g x.a (yes (decide (d.s.owner.getD x.b.toNat 0 = 0))), yes (decide (d.s.owner.getD x.b.toNat 0 = 0)), d.why, d.to_⟩
      else ⟨d.s.setReg g x.a (yes (decide (d.s.owner.getD x.b.toNat 0 = 0))), yes (decide (d.s.owner.getD x.b.toNat 0 = 0)), d.why, d.to_⟩ := by
  refine ((if_neg h1).trans ((if_neg h2).trans ((if_neg h3).trans ((if_neg h4).trans ((if_neg h5).trans ((if_neg h6).trans ((if_neg h7).trans (if_pos h)))))))).trans ?_
  by_cases hc : yes (decide (d.s.owner.getD x.b.toNat 0 = 0)) = 1
  · rw [if_pos hc]
    exact congrArg (fun s : Stt => (⟨s.setReg g x.a _, _, d.why, d.to_⟩ : Did)) (if_pos hc)
  · rw [if_neg hc]
    exact congrArg (fun s : Stt => (⟨s.setReg g x.a _, _, d.why, d.to_⟩ : Did)) (if_neg hc)
end Go.Eng
/- Which picks can be taken. -/
namespace Go.Eng
set_option linter.unusedSimpArgs false
set_option linter.unusedVariables false
set_option linter.unusedVariables false
theorem alts_live {p : Prg} {s : Stt} {g alt : Int} (ha : alt ∈ alts p s g) : isLive s g = true := by
  unfold alts at ha
  split at ha
  · assumption
  · cases ha
theorem alts_plain {p : Prg} {s : Stt} {g alt : Int} (ha : alt ∈ alts p s g) (h : ¬opAt p s g = 61) : plain p s g = true ∧ alt = 0 := by
  unfold alts at ha
  rw [if_pos (alts_live ha), if_neg h] at ha
  split at ha
  · rename_i hp; exact ⟨hp, by simpa using ha⟩
  · cases ha
theorem casesTo_mem {p : Prg} {s : Stt} {q : Sel} {n : Nat} {a : Int} (h : a ∈ casesTo p s q n) : ∃ k : Nat, a = k ∧ k < n ∧ caseOk p s (q.cases.getD k default) = true := by
  unfold casesTo at h
  obtain ⟨k, hk, rfl⟩ := List.mem_map.1 h
  have := List.mem_filter.1 hk
  exact ⟨k, rfl, by simpa using this.1, this.2⟩
theorem alts_sel {p : Prg} {s : Stt} {g alt : Int} (ha : alt ∈ alts p s g) (h : opAt p s g = 61) : alt = ((selAt p s g).cases.length : Int) ∨ ∃ k : Nat, alt = k ∧ k < (selAt p s g).cases.length ∧ caseOk p s ((selAt p s g).cases.getD k default) = true := by
  unfold alts at ha
  rw [if_pos (alts_live ha), if_pos h] at ha
  simp only at ha
  split at ha
  · rcases List.mem_append.1 ha with h1 | h1
    · exact .inr (casesTo_mem h1)
    · exact .inl (by simpa using h1)
  · exact .inr (casesTo_mem ha)
theorem sends_room {p : Prg} {s : Stt} (hok : p.Ok) (hw : Wf p s) {c : Int} (h : sends p s c = true) : (s.chans.getD c.toNat default).closed = false → 0 < p.chans.getD c.toNat 0 → 0 ≤ (s.chans.getD c.toNat default).len ∧ (s.chans.getD c.toNat default).len < 4 := by
  intro h1 h2
  have e : sends p s c = decide ((s.chans.getD c.toNat default).len < p.chans.getD c.toNat 0) := (if_neg (fun q => Bool.noConfusion (h1.symm.trans q))).trans (if_pos h2)
  rw [e] at h
  have h := of_decide_eq_true h
  have := (hok.caps c.toNat).2
  exact ⟨(hw.chans c.toNat).1, by omega⟩
theorem plain_send {p : Prg} {s : Stt} {g : Int} (h : opAt p s g = 58) : plain p s g = sends p s (instrAt p s g).a := (if_neg (by omega)).trans ((if_neg (by omega)).trans (if_pos h))
end Go.Eng
/- What the document's operations of numbers compute, bit by bit. -/
namespace Go.Eng
set_option linter.unusedSimpArgs false
set_option linter.unusedVariables false

/-- A loop's state behind n rounds. -/
def upto {α : Type} (f : Nat → α → α) (a : α) : Nat → α
  | 0 => a
  | n + 1 => f n (upto f a n)
theorem upto_succ {α : Type} (f : Nat → α → α) (a : α) (n : Nat) : upto f a (n + 1) = f n (upto f a n) := rfl
theorem upto_zero {α : Type} (f : Nat → α → α) (a : α) : upto f a 0 = a := rfl

def bitW (x k : Int) : Int := IntKind.i64.wrap (IntKind.u64.wrap (BitVec.ofInt 64 ((IntKind.u64.wrap x).fdiv (2 ^ min (IntKind.u64.wrap k).toNat 64)) &&& 1#64).toNat)
def putW (x k y : Int) : Int := IntKind.i64.wrap (IntKind.u64.wrap (BitVec.ofInt 64 (IntKind.u64.wrap x) ||| BitVec.ofInt 64 (IntKind.u64.wrap (IntKind.u64.wrap y * 2 ^ min (IntKind.u64.wrap k).toNat 64))).toNat)
def fewW (x : Int) : Int := if 64 < x then 64 else x
def arityW (x : Int) : Int := if x < 1 ∨ 36 < x then 0 else if x ≤ 15 then 1 else 2
def convR (a n : Int) (sign : Bool) (k : Nat) (r : Int) : Int := putW r k (if (k : Int) < n then bitW a k else if sign then bitW a (IntKind.i64.wrap (n - 1)) else 0)
def convW (a n : Int) (sign : Bool) : Int := upto (convR a n sign) 0 64
def onesR (a : Int) (k : Nat) (n : Int) : Int := IntKind.i64.wrap (n + bitW a k)
def flipR (a : Int) (k : Nat) (r : Int) : Int := putW r k (bitW a (IntKind.i64.wrap (63 - (k : Int))))
def leadW (a : Int) : Nat := (List.range 64).findIdx fun (j : Nat) => decide (bitW a (63 - (j : Int)) ≠ 0)
def trailW (a : Int) : Nat := (List.range 64).findIdx fun (j : Nat) => decide (bitW a j ≠ 0)
def oneW (op a : Int) : Int :=
  if op = 1 then IntKind.i64.wrap (0 - a)
  else if op = 2 then IntKind.i64.wrap (-1 - a)
  else if op = 3 then (if a < 0 then IntKind.i64.wrap (0 - a) else a)
  else if op = 4 then upto (onesR a) 0 64
  else if op = 5 then leadW a
  else if op = 6 then trailW a
  else if op = 7 then upto (flipR a) 0 64
  else if op = 8 then yes (decide (a ≠ 0))
  else if op = 9 then yes (decide (a = 0))
  else if op = 10 then convW a 8 true
  else if op = 11 then convW a 16 true
  else if op = 12 then convW a 32 true
  else if op = 13 then convW a 8 false
  else if op = 14 then convW a 16 false
  else convW a 32 false
def bitOp (op x y : Int) : Bool :=
  if op = 21 then decide (IntKind.i64.wrap (x + y) = 2)
  else if op = 22 then decide (0 < IntKind.i64.wrap (x + y))
  else if op = 23 then decide (IntKind.i64.wrap (x + y) = 1)
  else if op = 24 then decide (x = 1) && decide (y = 0)
  else false
def bitsR (op a b : Int) (k : Nat) (r : Int) : Int := putW r k (yes (bitOp op (bitW a k) (bitW b k)))
def bitsW (op a b : Int) : Int := upto (bitsR op a b) 0 64
def shiftR (a by_ fill : Int) (k : Nat) (r : Int) : Int :=
  putW r k (if 0 ≤ IntKind.i64.wrap ((k : Int) - by_) ∧ IntKind.i64.wrap ((k : Int) - by_) < 64 then bitW a (IntKind.i64.wrap ((k : Int) - by_)) else fill)
def shiftW (a by_ fill : Int) : Int := upto (shiftR a by_ fill) 0 64
def rotR (a b : Int) (k : Nat) (r : Int) : Int :=
  putW r k (bitW a ((IntKind.i64.wrap ((IntKind.i64.wrap ((k : Int) - b.tmod 64)).tmod 64 + 64)).tmod 64))
def rotW (a b : Int) : Int := upto (rotR a b) 0 64
def wideR (a b : Int) (j : Nat) (x : Int × Int) : Int × Int :=
  let k : Int := 63 - (j : Int)
  let hi := IntKind.i64.wrap (IntKind.i64.wrap (x.1 * 2) + IntKind.i64.wrap (x.2.fdiv (2 ^ 63)))
  let lo := IntKind.u64.wrap (x.2 * 2)
  if bitW b k = 0 then (hi, lo)
  else if k = 63 then
    let lo1 := IntKind.u64.wrap (lo - IntKind.u64.wrap a)
    let hi1 := IntKind.i64.wrap (hi - a.fdiv (2 ^ 63))
    (if lo < IntKind.u64.wrap a then IntKind.i64.wrap (hi1 - 1) else hi1, lo1)
  else
    let lo1 := IntKind.u64.wrap (lo + IntKind.u64.wrap a)
    let hi1 := IntKind.i64.wrap (hi + a.fdiv (2 ^ 63))
    (if lo1 < lo then IntKind.i64.wrap (hi1 + 1) else hi1, lo1)
def wideW (a b : Int) : Int × Int := upto (wideR a b) (0, 0) 64
def heldW (op a b : Int) : Int :=
  if op = 29 then yes (decide (a = b))
  else if op = 30 then yes (decide (a ≠ b))
  else if op = 31 then yes (decide (a < b))
  else if op = 32 then yes (decide (a ≤ b))
  else if op = 33 then yes (decide (IntKind.u64.wrap a < IntKind.u64.wrap b))
  else if op = 34 then (if b < a then b else a)
  else if op = 35 then (if a < b then b else a)
  else (wideW a b).1
def twoW (op a b : Int) : Int × Int :=
  if op = 16 then (IntKind.i64.wrap (a + b), 0)
  else if op = 17 then (IntKind.i64.wrap (a - b), 0)
  else if op = 18 then (IntKind.i64.wrap (wideW a b).2, 0)
  else if op = 19 ∨ op = 20 then
    if b = 0 then (0, 20)
    else if b = -1 then (if op = 19 then (IntKind.i64.wrap (0 - a), 0) else (0, 0))
    else if op = 19 then (IntKind.i64.wrap (a.tdiv b), 0)
    else (IntKind.i64.wrap (a - IntKind.i64.wrap (IntKind.i64.wrap (a.tdiv b) * b)), 0)
  else if op = 21 ∨ op = 22 ∨ op = 23 ∨ op = 24 then (bitsW op a b, 0)
  else if op = 25 ∨ op = 26 ∨ op = 27 then
    if b < 0 then (0, 21)
    else if op = 25 then (shiftW a (fewW b) 0, 0)
    else if op = 26 then (shiftW a (IntKind.i64.wrap (0 - fewW b)) (bitW a 63), 0)
    else (shiftW a (IntKind.i64.wrap (0 - fewW b)) 0, 0)
  else if op = 28 then (rotW a b, 0)
  else (heldW op a b, 0)
def applyW (op a b : Int) : Int × Int := if arityW op = 0 then (0, 22) else if arityW op = 1 then (oneW op a, 0) else twoW op a b

end Go.Eng
/- An access put into a list that is in order, as the document's loop does it. -/
namespace Go.Eng
set_option linter.unusedSimpArgs false
set_option linter.unusedVariables false
def addStep (k n : Int) (w : Bool) (st : List Access × Bool) (x : Access) : List Access × Bool :=
  if (st.2 = false ∧ x.kind = k) ∧ x.num = n then (st.1 ++ [⟨x.kind, x.num, x.write || w⟩], true)
  else if st.2 = false ∧ (k < x.kind ∨ x.kind = k ∧ n < x.num) then (st.1 ++ [⟨k, n, w⟩, x], true)
  else (st.1 ++ [x], st.2)
def addTo (k n : Int) (w : Bool) (l : List Access) (i : Nat) : List Access × Bool := (l.take i).foldl (addStep k n w) ([], false)
theorem addTo_succ (k n : Int) (w : Bool) (l : List Access) {i : Nat} (h : i < l.length) : addTo k n w l (i + 1) = addStep k n w (addTo k n w l i) (l.getD i default) := by
  unfold addTo
  rw [List.take_succ_eq_append_getElem h, List.foldl_append]
  simp [List.getD_eq_getElem?_getD, h]
theorem add_done (k n : Int) (w : Bool) : ∀ (l : List Access) (acc : List Access), l.foldl (addStep k n w) (acc, true) = (acc ++ l, true)
  | [], acc => by simp
  | x :: l, acc => by
    rw [List.foldl_cons, show addStep k n w (acc, true) x = (acc ++ [x], true) from (if_neg (by simp)).trans (if_neg (by simp)), add_done k n w l]
    simp
def addOut (k n : Int) (w : Bool) (r : List Access × Bool) : List Access := if r.2 = true then r.1 else r.1 ++ [⟨k, n, w⟩]
theorem add_fold (k n : Int) (w : Bool) : ∀ (l : List Access) (acc : List Access), addOut k n w (l.foldl (addStep k n w) (acc, false)) = acc ++ add k n w l
  | [], acc => by simp [add, addOut]
  | x :: l, acc => by
    rw [List.foldl_cons]
    unfold add
    by_cases h1 : x.kind = k ∧ x.num = n
    · rw [show addStep k n w (acc, false) x = (acc ++ [⟨x.kind, x.num, x.write || w⟩], true) from if_pos ⟨⟨rfl, h1.1⟩, h1.2⟩, add_done, if_pos h1]
      simp [addOut]
    · by_cases h2 : k < x.kind ∨ x.kind = k ∧ n < x.num
      · rw [show addStep k n w (acc, false) x = (acc ++ [⟨k, n, w⟩, x], true) from (if_neg (fun q => h1 ⟨q.1.2, q.2⟩)).trans (if_pos ⟨rfl, h2⟩), add_done, if_neg h1, if_pos h2]
        simp [addOut]
      · rw [show addStep k n w (acc, false) x = (acc ++ [x], false) from (if_neg (fun q => h1 ⟨q.1.2, q.2⟩)).trans (if_neg (fun q => h2 q.2)), if_neg h1, if_neg h2, add_fold k n w l (acc ++ [x])]
        simp
theorem add_end (k n : Int) (w : Bool) (l : List Access) : add k n w l = addOut k n w (addTo k n w l l.length) := by
  have := add_fold k n w l []
  rw [List.nil_append] at this
  unfold addTo
  rw [List.take_length, ← this]
theorem addTo_len (k n : Int) (w : Bool) (l : List Access) : ∀ i : Nat, (addTo k n w l i).1.length ≤ i + (if (addTo k n w l i).2 = true then 1 else 0)
  | 0 => by simp [addTo]
  | i + 1 => by
    have ih := addTo_len k n w l i
    by_cases h : i < l.length
    · rw [addTo_succ k n w l h]
      unfold addStep
      split
      · rename_i h1
        rw [h1.1.1] at ih
        simp at ih ⊢
        omega
      · split
        · rename_i h1
          rw [h1.1] at ih
          simp at ih ⊢
          omega
        · simp only [List.length_append, List.length_cons, List.length_nil]
          split <;> rename_i h2 <;> simp only [h2, if_true, Bool.false_eq_true, if_false] at ih ⊢ <;> omega
    · have e : addTo k n w l (i + 1) = addTo k n w l i := by
        unfold addTo
        rw [List.take_of_length_le (by omega), List.take_of_length_le (by omega)]
      rw [e]; omega
theorem addTo_len' (k n : Int) (w : Bool) (l : List Access) (i : Nat) : (addTo k n w l i).1.length ≤ i + 1 := by
  have := addTo_len k n w l i
  split at this <;> omega
theorem add_len (k n : Int) (w : Bool) : ∀ l : List Access, (add k n w l).length ≤ l.length + 1
  | [] => by simp [add]
  | x :: l => by
    unfold add
    split
    · simp
    · split
      · simp
      · have := add_len k n w l
        simp only [List.length_cons]; omega
theorem Access.put2 (x : Access) (b : Bool) : V.setSub x.v 2 (.bool b) = Access.v ⟨x.kind, x.num, b⟩ := rfl
theorem Event.put6 (e : Event) (x : Int) : V.setSub e.v 6 (.int x) = Event.v ⟨e.go, e.func, e.pc, e.op, e.alt, e.val, x, e.touch, e.touches⟩ := rfl
theorem Event.put7 (e : Event) (x : List Access) : V.setSub e.v 7 (.agg (x.map Access.v)) = Event.v ⟨e.go, e.func, e.pc, e.op, e.alt, e.val, e.tag, x, e.touches⟩ := rfl
theorem Event.put8 (e : Event) (x : Int) : V.setSub e.v 8 (.int x) = Event.v ⟨e.go, e.func, e.pc, e.op, e.alt, e.val, e.tag, e.touch, x⟩ := rfl
theorem Event.put0 (e : Event) (x : Int) : V.setSub e.v 0 (.int x) = Event.v ⟨x, e.func, e.pc, e.op, e.alt, e.val, e.tag, e.touch, e.touches⟩ := rfl
theorem Event.put1 (e : Event) (x : Int) : V.setSub e.v 1 (.int x) = Event.v ⟨e.go, x, e.pc, e.op, e.alt, e.val, e.tag, e.touch, e.touches⟩ := rfl
theorem Event.put2 (e : Event) (x : Int) : V.setSub e.v 2 (.int x) = Event.v ⟨e.go, e.func, x, e.op, e.alt, e.val, e.tag, e.touch, e.touches⟩ := rfl
theorem Event.put3 (e : Event) (x : Int) : V.setSub e.v 3 (.int x) = Event.v ⟨e.go, e.func, e.pc, x, e.alt, e.val, e.tag, e.touch, e.touches⟩ := rfl
theorem Event.put4 (e : Event) (x : Int) : V.setSub e.v 4 (.int x) = Event.v ⟨e.go, e.func, e.pc, e.op, x, e.val, e.tag, e.touch, e.touches⟩ := rfl
theorem Event.put5 (e : Event) (x : Int) : V.setSub e.v 5 (.int x) = Event.v ⟨e.go, e.func, e.pc, e.op, e.alt, x, e.tag, e.touch, e.touches⟩ := rfl
theorem Event.at3 (e : Event) (d : V) : e.v.toList.getD 3 d = .int e.op := rfl
theorem set_accs (l : List Access) (i : Nat) (x : Access) : (l.map Access.v).set i x.v = (l.set i x).map Access.v := (List.map_set ..).symm
attribute [go_sem] Access.put2 Event.put0 Event.put1 Event.put2 Event.put3 Event.put4 Event.put5 Event.put6 Event.put7 Event.put8 Event.at3 set_accs
end Go.Eng
