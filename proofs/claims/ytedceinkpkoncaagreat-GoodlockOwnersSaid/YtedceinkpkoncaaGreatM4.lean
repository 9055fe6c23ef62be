/- A valid state's parts as statements, and that steps keep them. -/
import Derived.Test.YtedceinkpkoncaaGreatM3
import Derived.Test.YtedceinkpkoncaaGreatM2
namespace Go.Eng
set_option linter.unusedSimpArgs false
set_option linter.unusedVariables false
set_option linter.unusedVariables false

structure GorP (p : Prg) (g : Gor) : Prop where
  st : 1 ≤ g.status ∧ g.status ≤ 5
  inn : gorIn p g
  zero : ∀ k : Nat, gorM p g ≤ k → k < 8 → g.regs.getD k 0 = 0
  fail : g.status = 4 → failing (p.instr g).op g.why = true
  why : g.status ≠ 4 → g.why = 0
  done : g.status = 3 → (p.instr g).op = 45
  spun : g.status = 5 → isLocal (p.instr g).op = true
theorem GorP.of {p : Prg} {g : Gor} (h8 : g.regs.length = 8) (h : gorOk p g = true) : GorP p g := by
  have hr := gorOk_R h
  rw [gorOk_in hr] at h
  have hr' := hr; unfold gorR at hr'
  split at h; · cases h
  rename_i hz
  have hz : regsZero g (gorM p g) 8 = true := by simpa using hz
  have hz' : ∀ k : Nat, gorM p g ≤ k → k < 8 → g.regs.getD k 0 = 0 := by
    intro k h1 h2
    have := List.all_eq_true.1 hz k (List.mem_range.2 h2)
    simp only [Bool.or_eq_true, decide_eq_true_eq] at this
    omega
  have hin : gorIn p g := ⟨by omega, by omega, by omega, by omega, h8⟩
  split at h
  · rename_i h4
    exact ⟨by omega, hin, hz', fun _ => h, fun q => absurd h4 q, fun q => by omega, fun q => by omega⟩
  · rename_i h4
    simp only [Bool.and_eq_true, Bool.or_eq_true, decide_eq_true_eq] at h
    exact ⟨by omega, hin, hz', fun q => absurd q h4, fun _ => h.1.1, fun q => h.1.2.resolve_left (fun w => w q), fun q => h.2.resolve_left (fun w => w q)⟩
theorem GorP.ok {p : Prg} {g : Gor} (h : GorP p g) : gorOk p g = true := by
  have hr : gorR p g := by
    have h1 := h.inn.f0; have h2 := h.inn.f1; have h3 := h.inn.p0; have h4 := h.inn.p1; have h5 := h.st
    unfold gorR; omega
  rw [gorOk_in hr, if_neg (by rw [regs_good (fun k h1 h2 => h.zero k h1 (by omega))]; simp)]
  split
  · rename_i h4; exact h.fail h4
  · rename_i h4
    simp only [Bool.and_eq_true, Bool.or_eq_true, decide_eq_true_eq]
    refine ⟨⟨h.why h4, ?_⟩, ?_⟩
    · by_cases q : g.status = 3
      · exact .inr (h.done q)
      · exact .inl q
    · by_cases q : g.status = 5
      · exact .inr (h.spun q)
      · exact .inl q

def Waits (p : Prg) (gos : List Gor) (g i : Nat) : Prop := (gos.getD g default).status = 2 ∧ (p.instr (gos.getD g default)).op = 58 ∧ (p.instr (gos.getD g default)).a = (i : Int)
structure ChnP (p : Prg) (gos : List Gor) (count : Int) (i : Nat) (x : Chn) : Prop where
  len : 0 ≤ x.len ∧ x.len ≤ p.chans.getD i 0
  off : 0 ≤ x.offer ∧ x.offer ≤ 3
  cap : p.chans.getD i 0 ≠ 0 → x.offer = 0
  buf : ∀ k : Nat, x.len ≤ k → k < 4 → x.buf.getD k 0 = 0
  none : x.offer = 0 → x.from_ = 0 ∧ x.val = 0
  val : x.offer ≠ 0 → x.offer ≠ 1 → x.val = 0
  open_ : x.offer = 1 → x.closed = false
  lost : x.offer = 3 → x.closed = true
  from_ : x.offer ≠ 0 → (0 ≤ x.from_ ∧ x.from_ < count) ∧ Waits p gos x.from_.toNat i
theorem ChnP.of {p : Prg} {s : Stt} {i : Nat} (h : chanOk p s i = true) : ChnP p s.gos s.count i (s.chans.getD i default) := by
  rw [chanOk_eq] at h
  simp only [Int.toNat_natCast] at h
  split at h; · cases h
  rename_i h1
  split at h; · cases h
  rename_i h2
  have h2 : bufZero (s.chans.getD i default) 4 = true := by simpa using h2
  have hb : ∀ k : Nat, (s.chans.getD i default).len ≤ k → k < 4 → (s.chans.getD i default).buf.getD k 0 = 0 := by
    intro k q1 q2
    have := List.all_eq_true.1 h2 k (List.mem_range.2 q2)
    simp only [Bool.or_eq_true, decide_eq_true_eq] at this
    omega
  split at h
  · rename_i h3
    simp only [Bool.and_eq_true, decide_eq_true_eq] at h
    exact ⟨by omega, by omega, fun _ => h3, hb, fun _ => h, fun q => absurd h3 q, fun q => by omega, fun q => by omega, fun q => absurd h3 q⟩
  · rename_i h3
    split at h; · cases h
    rename_i h4
    split at h; · cases h
    rename_i h5
    simp only [Bool.and_eq_true, decide_eq_true_eq] at h
    have h6 : (s.gos.getD (s.chans.getD i default).from_.toNat default).status = 2 := by
      by_cases q : (s.gos.getD (s.chans.getD i default).from_.toNat default).status = 2
      · exact q
      · exact absurd (.inr (.inr q)) h5
    refine ⟨by omega, by omega, fun q => ?_, hb, fun q => absurd q h3, fun _ q2 => ?_, fun q => ?_, fun q => ?_, fun _ => ⟨by omega, h6, h.1, h.2⟩⟩
    · by_cases q2 : (s.chans.getD i default).offer = 0
      · exact q2
      · exact absurd (.inr (.inr (.inr (.inr ⟨q, q2⟩)))) h1
    · by_cases w : (s.chans.getD i default).val = 0
      · exact w
      · exact absurd (.inl ⟨q2, w⟩) h4
    · cases w : (s.chans.getD i default).closed
      · rfl
      · exact absurd (.inr (.inl ⟨q, w⟩)) h4
    · cases w : (s.chans.getD i default).closed
      · exact absurd (.inr (.inr ⟨q, w⟩)) h4
      · rfl
theorem ChnP.ok {p : Prg} {s : Stt} {i : Nat} (h : ChnP p s.gos s.count i (s.chans.getD i default)) : chanOk p s i = true := by
  rw [chanOk_eq]
  simp only [Int.toNat_natCast]
  have h1 := h.len; have h2 := h.off
  rw [if_neg (by
    rintro (q | q | q | q | ⟨q, q2⟩)
    · omega
    · omega
    · omega
    · omega
    · exact q2 (h.cap q))]
  rw [buf_good (fun k q1 q2 => h.buf k q1 (by omega)), if_neg (by simp)]
  split
  · rename_i h3
    simp only [Bool.and_eq_true, decide_eq_true_eq]
    exact h.none h3
  · rename_i h3
    rw [if_neg (by
      rintro (⟨q1, q2⟩ | ⟨q1, q2⟩ | ⟨q1, q2⟩)
      · exact q2 (h.val h3 q1)
      · rw [h.open_ q1] at q2; cases q2
      · rw [h.lost q1] at q2; cases q2)]
    obtain ⟨⟨f0, f1⟩, w1, w2, w3⟩ := h.from_ h3
    rw [if_neg (by
      rintro (q | q | q)
      · omega
      · omega
      · exact q w1)]
    simp only [Bool.and_eq_true, decide_eq_true_eq]
    exact ⟨w2, w3⟩

/-- A valid state. -/
structure Vld (p : Prg) (s : Stt) : Prop where
  shape : s.Shape
  count : 1 ≤ s.count ∧ s.count ≤ 6
  gos : ∀ i : Nat, (i : Int) < s.count → GorP p (s.gos.getD i default)
  rest : ∀ i : Nat, i < 6 → s.count ≤ (i : Int) → s.gos.getD i default = zeroGor
  vars : ∀ i : Nat, p.vars.length ≤ i → i < 8 → s.vars.getD i 0 = 0
  own : ∀ i : Nat, i < 4 → (0 ≤ s.owner.getD i 0 ∧ s.owner.getD i 0 ≤ s.count) ∧ (p.locks ≤ (i : Int) → s.owner.getD i 0 = 0)
  chans : ∀ i : Nat, i < p.chans.length → ChnP p s.gos s.count i (s.chans.getD i default)
  rchans : ∀ i : Nat, i < 4 → p.chans.length ≤ i → s.chans.getD i default = zeroChn
  waits : ∀ g : Nat, (g : Int) < s.count → (s.gos.getD g default).status = 2 → ∃ c : Nat, c < p.chans.length ∧ (s.chans.getD c default).offer ≠ 0 ∧ (s.chans.getD c default).from_ = (g : Int)

theorem Prg.Ok.four {p : Prg} (h : p.Ok) : p.chans.length ≤ 4 := by have := h.sizes; unfold Sizes at this; omega
theorem Prg.Ok.eight {p : Prg} (h : p.Ok) : p.vars.length ≤ 8 := by have := h.sizes; unfold Sizes at this; omega
theorem Vld.of {p : Prg} (hok : p.Ok) {s : Stt} (hs : s.Shape) (h : validP p s = true) : Vld p s := by
  obtain ⟨_, hc, hg, hv, ho, hch, hwt⟩ := valid_parts h
  have h4 := hok.four
  have rch : ∀ i : Nat, i < 4 → p.chans.length ≤ i → s.chans.getD i default = zeroChn := fun i h1 h2 => (chans_at hch h1).2 h2
  have chs : ∀ i : Nat, i < p.chans.length → ChnP p s.gos s.count i (s.chans.getD i default) := fun i hi => ChnP.of ((chans_at hch (by omega)).1 hi)
  refine ⟨hs, hc, fun i hi => ?_, fun i h6 hi => ?_, fun i h1 h2 => ?_, fun i hi => ?_, chs, rch, fun g hg2 h2 => ?_⟩
  · have := gorsOk_at hg (i := (i : Int)) (by omega) (by omega) hi
    rw [Int.toNat_natCast] at this
    exact GorP.of (hs.regs _ (getD_mem _ (by rw [hs.gos]; omega))) this
  · have := List.all_eq_true.1 hg i (List.mem_range.2 h6)
    rw [if_neg (by omega)] at this
    have := of_decide_eq_true this
    simpa [Stt.gor] using this
  · have := List.all_eq_true.1 hv i (List.mem_range.2 h2)
    simp only [Bool.or_eq_true, decide_eq_true_eq] at this
    omega
  · exact own_at.1 (List.all_eq_true.1 ho i (List.mem_range.2 hi))
  · have h3 := List.all_eq_true.1 hwt g (List.mem_range.2 (by omega))
    rw [Bool.or_eq_true, decide_eq_true_eq, decide_eq_true_eq] at h3
    have h3 : offersTo s (g : Int) 4 = 1 := by
      rcases h3 with h3 | h3
      · exact absurd (by simpa [Stt.gor] using h2) h3
      · exact h3
    unfold offersTo at h3
    obtain ⟨i, hi⟩ := List.exists_mem_of_length_pos (l := (List.range 4).filter fun (i : Nat) => decide ((s.chn i).offer ≠ 0) && decide ((s.chn i).from_ = (g : Int))) (by omega)
    have hm := List.mem_filter.1 hi
    have hi4 : i < 4 := List.mem_range.1 hm.1
    have hoff : (s.chans.getD i default).offer ≠ 0 ∧ (s.chans.getD i default).from_ = (g : Int) := by
      have := hm.2
      rw [Bool.and_eq_true, decide_eq_true_eq, decide_eq_true_eq] at this
      simpa [Stt.chn] using this
    by_cases hlt : i < p.chans.length
    · exact ⟨i, hlt, hoff⟩
    · rw [rch i hi4 (by omega)] at hoff; exact absurd rfl hoff.1
theorem Vld.ok {p : Prg} (hok : p.Ok) (hr : rightP p = true) {s : Stt} (h : Vld p s) : validP p s = true := by
  have h4 := hok.four
  have hc := h.count
  have e1 : gorsOk p s 6 = true := List.all_eq_true.2 fun i hi => by
    have hi : i < 6 := List.mem_range.1 hi
    simp only [Stt.gor, Int.toNat_natCast]
    split
    · rename_i q; exact (h.gos i q).ok
    · rename_i q; exact decide_eq_true (h.rest i hi (by omega))
  have e2 : chansOk p s 4 = true := List.all_eq_true.2 fun i hi => by
    have hi : i < 4 := List.mem_range.1 hi
    simp only [Stt.chn, Int.toNat_natCast]
    split
    · rename_i q; exact (h.chans i q).ok
    · rename_i q; exact decide_eq_true (h.rchans i hi (by omega))
  have e3 : ownersOk p s 4 = true := List.all_eq_true.2 fun i hi => own_at.2 (h.own i (List.mem_range.1 hi))
  have e4 : waitsOk s s.count.toNat = true := List.all_eq_true.2 fun g hg => by
    have hg : (g : Int) < s.count := by have := List.mem_range.1 hg; omega
    rw [Bool.or_eq_true, decide_eq_true_eq, decide_eq_true_eq]
    by_cases q : (s.gor (g : Int)).status = 2
    · right
      have q2 : (s.gos.getD g default).status = 2 := by simpa [Stt.gor] using q
      obtain ⟨c, hc1, hc2, hc3⟩ := h.waits g hg q2
      have hw := (h.chans c hc1).from_ hc2
      rw [hc3] at hw
      simp only [Int.toNat_natCast] at hw
      have one : ∀ j : Nat, j < 4 → (decide ((s.chn (j : Int)).offer ≠ 0) && decide ((s.chn (j : Int)).from_ = (g : Int))) = decide (j = c) := by
        intro j hj
        simp only [Stt.chn, Int.toNat_natCast]
        by_cases hjc : j = c
        · subst hjc; rw [show decide (j = j) = true from by simp, Bool.and_eq_true]; exact ⟨decide_eq_true hc2, decide_eq_true hc3⟩
        · rw [decide_eq_false hjc, Bool.and_eq_false_iff]
          by_cases ho : (s.chans.getD j default).offer = 0
          · left; exact decide_eq_false (fun q => q ho)
          · right
            refine decide_eq_false fun hf => hjc ?_
            by_cases hlt : j < p.chans.length
            · have hw2 := (h.chans j hlt).from_ ho
              rw [hf] at hw2
              simp only [Int.toNat_natCast] at hw2
              have := hw.2.2.2.symm.trans hw2.2.2.2
              omega
            · rw [h.rchans j hj (by omega)] at ho; exact absurd rfl ho
      unfold offersTo
      rw [List.filter_congr (q := fun j => decide (j = c)) (fun j hj => one j (List.mem_range.1 hj))]
      rcases (show c = 0 ∨ c = 1 ∨ c = 2 ∨ c = 3 by omega) with rfl | rfl | rfl | rfl <;> rfl
    · exact .inl q
  simp only [validP, Bool.and_eq_true, decide_eq_true_eq]
  exact ⟨⟨⟨⟨⟨⟨⟨hr, hc.1⟩, hc.2⟩, e1⟩, vars_good h.vars⟩, e3⟩, e2⟩, e4⟩

theorem Vld.wf {p : Prg} {s : Stt} (hok : p.Ok) (hr : rightP p = true) (h : Vld p s) : Wf p s := valid_wf hok h.shape (h.ok hok hr)

/-! ### Changes -/
section
variable {p : Prg} {s : Stt}
theorem Waits.set {gos : List Gor} {g i j : Nat} {X : Gor} (h : Waits p gos g j) (h1 : (gos.getD i default).status ≠ 2) : Waits p (gos.set i X) g j := by
  have hne : i ≠ g := fun q => h1 (by rw [q]; exact h.1)
  unfold Waits at *
  rw [getD_set, if_neg (fun q => hne q.1)]
  exact h
theorem ChnP.go {gos : List Gor} {count : Int} {i j : Nat} {X : Gor} {x : Chn} (h : ChnP p gos count j x) (h1 : (gos.getD i default).status ≠ 2) : ChnP p (gos.set i X) count j x :=
  ⟨h.len, h.off, h.cap, h.buf, h.none, h.val, h.open_, h.lost, fun q => ⟨(h.from_ q).1, (h.from_ q).2.set h1⟩⟩
theorem Vld.go (h : Vld p s) {i : Nat} (hi : (i : Int) < s.count) {X : Gor} (hX : GorP p X) (h1 : (s.gos.getD i default).status ≠ 2) (h2 : X.status ≠ 2) : Vld p ⟨s.vars, s.owner, s.chans, s.gos.set i X, s.count⟩ := by
  refine ⟨shape_gos h.shape _ _ hX.inn.regs, h.count, fun k hk => ?_, fun k h6 hk => ?_, h.vars, h.own, fun c hc => (h.chans c hc).go h1, h.rchans, fun g hg hs => ?_⟩
  · show GorP p ((s.gos.set i X).getD k default)
    rw [getD_set]; split
    · exact hX
    · exact h.gos k hk
  · show (s.gos.set i X).getD k default = zeroGor
    have hk : s.count ≤ (k : Int) := hk
    rw [getD_set, if_neg (by omega)]
    exact h.rest k h6 hk
  · have hs : ((s.gos.set i X).getD g default).status = 2 := hs
    rw [getD_set] at hs
    split at hs
    · exact absurd hs h2
    · exact h.waits g hg hs
theorem Vld.chn (h : Vld p s) {c : Nat} (hc : c < p.chans.length) {X : Chn} (hb : X.buf.length = 4) (hX : ChnP p s.gos s.count c X)
    (hk : (s.chans.getD c default).offer ≠ 0 → X.offer ≠ 0 ∧ X.from_ = (s.chans.getD c default).from_) : Vld p ⟨s.vars, s.owner, s.chans.set c X, s.gos, s.count⟩ := by
  refine ⟨shape_chn h.shape _ hb, h.count, h.gos, h.rest, h.vars, h.own, fun j hj => ?_, fun j h4 hj => ?_, fun g hg hs => ?_⟩
  · show ChnP p s.gos s.count j ((s.chans.set c X).getD j default)
    rw [getD_set]; split
    · rename_i q; rw [← q.1]; exact hX
    · exact h.chans j hj
  · show (s.chans.set c X).getD j default = zeroChn
    rw [getD_set, if_neg (by omega)]
    exact h.rchans j h4 hj
  · obtain ⟨j, hj, h1, h2⟩ := h.waits g hg hs
    refine ⟨j, hj, ?_⟩
    show ((s.chans.set c X).getD j default).offer ≠ 0 ∧ ((s.chans.set c X).getD j default).from_ = (g : Int)
    rw [getD_set]; split
    · rename_i q
      have := hk (by rw [q.1]; exact h1)
      rw [q.1] at this
      exact ⟨this.1, this.2.trans h2⟩
    · exact ⟨h1, h2⟩
theorem Vld.var (h : Vld p s) {i : Nat} (hi : i < p.vars.length) (x : Int) : Vld p ⟨s.vars.set i x, s.owner, s.chans, s.gos, s.count⟩ := by
  refine ⟨shape_vars h.shape _ _, h.count, h.gos, h.rest, fun k h1 h2 => ?_, h.own, h.chans, h.rchans, h.waits⟩
  show (s.vars.set i x).getD k 0 = 0
  rw [getD_set, if_neg (by omega)]
  exact h.vars k h1 h2
theorem Vld.owns (h : Vld p s) {i : Nat} (hi : (i : Int) < p.locks) {x : Int} (hx : 0 ≤ x ∧ x ≤ s.count) : Vld p ⟨s.vars, s.owner.set i x, s.chans, s.gos, s.count⟩ := by
  refine ⟨shape_own h.shape _ _, h.count, h.gos, h.rest, h.vars, fun k hk => ?_, h.chans, h.rchans, h.waits⟩
  show (0 ≤ (s.owner.set i x).getD k 0 ∧ (s.owner.set i x).getD k 0 ≤ s.count) ∧ (p.locks ≤ (k : Int) → (s.owner.set i x).getD k 0 = 0)
  rw [getD_set]; split
  · exact ⟨hx, fun q => by omega⟩
  · exact h.own k hk
theorem GorP.reg {g : Gor} (h : GorP p g) {r : Int} (hr : 0 ≤ r ∧ r < (p.fn g.func).regs) (h1 : g.status = 1) (v : Int) : GorP p { g with regs := g.regs.set r.toNat v } := by
  have hm : gorM p g = (p.fn g.func).regs := if_neg (by omega)
  refine ⟨h.st, ⟨h.inn.f0, h.inn.f1, h.inn.p0, h.inn.p1, by show (g.regs.set _ _).length = 8; rw [List.length_set]; exact h.inn.regs⟩, fun k hk h8 => ?_, fun q => ?_, h.why, h.done, h.spun⟩
  · have hk : gorM p g ≤ (k : Int) := hk
    show (g.regs.set r.toNat v).getD k 0 = 0
    rw [getD_set, if_neg (by omega)]
    exact h.zero k hk h8
  · have q : g.status = 4 := q
    omega
theorem Vld.reg (h : Vld p s) {g : Int} (hg : 0 ≤ g ∧ g < s.count) (h1 : (s.gor g).status = 1) {r : Int} (hr : r = -1 ∨ 0 ≤ r ∧ r < (p.fn (s.gor g).func).regs) (v : Int) : Vld p (s.setReg g r v) := by
  unfold Stt.setReg
  split
  · have hG := h.gos g.toNat (by omega)
    have := h.go (i := g.toNat) (by omega) (X := { s.gor g with regs := (s.gor g).regs.set r.toNat v }) (hG.reg (r := r) (by have : (p.fn (s.gos.getD g.toNat default).func).regs = (p.fn (s.gor g).func).regs := rfl; omega) h1 v) (by have h1 : (s.gos.getD g.toNat default).status = 1 := h1; omega) (by show (s.gor g).status ≠ 2; omega)
    exact this
  · exact h
end
end Go.Eng
/- What a visible instruction keeps of a valid state. -/
namespace Go.Eng
set_option linter.unusedSimpArgs false
set_option linter.unusedVariables false
set_option linter.unusedVariables false

/-- A goroutine stands where it stood. -/
structure At (g : Int) (s t : Stt) : Prop where
  status : (t.gor g).status = (s.gor g).status
  func : (t.gor g).func = (s.gor g).func
  pc : (t.gor g).pc = (s.gor g).pc
theorem At.refl (g : Int) (s : Stt) : At g s s := ⟨rfl, rfl, rfl⟩
theorem At.trans {g : Int} {s t u : Stt} (h : At g s t) (k : At g t u) : At g s u := ⟨k.status.trans h.status, k.func.trans h.func, k.pc.trans h.pc⟩
theorem setReg_at {s : Stt} (h6 : s.gos.length = 6) {g : Int} (hg : 0 ≤ g ∧ g < 6) (r v : Int) : At g s (s.setReg g r v) := by
  unfold Stt.setReg
  split
  · have e : (({ s with gos := s.gos.set g.toNat { s.gor g with regs := (s.gor g).regs.set r.toNat v } } : Stt).gor g) = { s.gor g with regs := (s.gor g).regs.set r.toNat v } := by
      show (s.gos.set _ _).getD _ _ = _
      rw [getD_set, if_pos ⟨rfl, by omega⟩]
    refine ⟨?_, ?_, ?_⟩ <;> rw [e]
  · exact At.refl _ _

structure VisOk (p : Prg) (s : Stt) (g : Int) (d : Did) : Prop where
  vld : Vld p d.s
  func : (d.s.gor g).func = (s.gor g).func
  pc : (d.s.gor g).pc = (s.gor g).pc
  cnt : s.count ≤ d.s.count
  fail : d.why ≠ 0 → (d.s.gor g).status = 1 ∧ failing (instrAt p s g).op d.why = true
  on : d.why = 0 → 0 ≤ d.to_ → (d.s.gor g).status = 1 ∧ d.to_ < ((p.fn (s.gor g).func).code.length : Int)

section
variable {p : Prg} {s : Stt} {g : Int}
theorem VisOk.plain {d : Did} (hv : Vld p d.s) (ha : At g s d.s) (hc : s.count ≤ d.s.count) (h1 : (s.gor g).status = 1) (hw : d.why = 0) (ht : d.to_ < ((p.fn (s.gor g).func).code.length : Int)) : VisOk p s g d :=
  ⟨hv, ha.func, ha.pc, hc, fun q => absurd hw q, fun _ _ => ⟨ha.status.trans h1, ht⟩⟩
theorem VisOk.failed {d : Did} (hv : Vld p d.s) (ha : At g s d.s) (hc : s.count ≤ d.s.count) (h1 : (s.gor g).status = 1) (hf : failing (instrAt p s g).op d.why = true) (hw : d.why ≠ 0) : VisOk p s g d :=
  ⟨hv, ha.func, ha.pc, hc, fun _ => ⟨ha.status.trans h1, hf⟩, fun q => absurd q hw⟩

theorem Vld.offer (hok : p.Ok) (h : Vld p s) {g c : Nat} (hg : (g : Int) < s.count) (h1 : (s.gos.getD g default).status = 1) (hop : (p.instr (s.gos.getD g default)).op = 58) (ha : (p.instr (s.gos.getD g default)).a = (c : Int))
    (hc : c < p.chans.length) (hcap : p.chans.getD c 0 = 0) (ho : (s.chans.getD c default).offer = 0) (hcl : (s.chans.getD c default).closed = false) (v : Int) :
    Vld p ⟨s.vars, s.owner, s.chans.set c ⟨(s.chans.getD c default).buf, (s.chans.getD c default).len, (s.chans.getD c default).closed, 1, (g : Int), v⟩, s.gos.set g ⟨2, (s.gos.getD g default).func, (s.gos.getD g default).pc, (s.gos.getD g default).why, (s.gos.getD g default).regs⟩, s.count⟩ := by
  have hG := h.gos g hg
  have hC := h.chans c hc
  have h4 := hok.four
  have hl4 := h.shape.chans
  have hl6 := h.shape.gos
  have hcnt := h.count
  have hX : GorP p ⟨2, (s.gos.getD g default).func, (s.gos.getD g default).pc, (s.gos.getD g default).why, (s.gos.getD g default).regs⟩ := by
    refine ⟨⟨by show (1 : Int) ≤ 2; decide, by show (2 : Int) ≤ 5; decide⟩, ⟨hG.inn.f0, hG.inn.f1, hG.inn.p0, hG.inn.p1, hG.inn.regs⟩, fun k hk h8 => hG.zero k ?_ h8, fun q => absurd (show (2 : Int) = 4 from q) (by decide), fun _ => hG.why (by omega), fun q => absurd (show (2 : Int) = 3 from q) (by decide), fun q => absurd (show (2 : Int) = 5 from q) (by decide)⟩
    have e1 : gorM p (s.gos.getD g default) = (p.fn (s.gos.getD g default).func).regs := if_neg (by omega)
    rw [e1]; exact hk
  have hs1 := shape_gos h.shape g s.count (X := ⟨2, (s.gos.getD g default).func, (s.gos.getD g default).pc, (s.gos.getD g default).why, (s.gos.getD g default).regs⟩) hG.inn.regs
  have hb4 : (s.chans.getD c default).buf.length = 4 := h.shape.bufs _ (getD_mem _ (by omega))
  refine ⟨shape_chn hs1 c hb4, h.count, fun k hk => ?_, fun k h6 hk => ?_, h.vars, h.own, fun j hj => ?_, fun j hj4 hj => ?_, fun k hk hs => ?_⟩
  · show GorP p ((s.gos.set g _).getD k default)
    rw [getD_set]; split
    · exact hX
    · exact h.gos k hk
  · show (s.gos.set g _).getD k default = zeroGor
    have hk : s.count ≤ (k : Int) := hk
    rw [getD_set, if_neg (by omega)]
    exact h.rest k h6 hk
  · show ChnP p (s.gos.set g _) s.count j ((s.chans.set c _).getD j default)
    rw [getD_set]; split
    · rename_i q
      obtain ⟨q1, q2⟩ := q
      subst q1
      refine ⟨hC.len, ⟨by show (0 : Int) ≤ 1; decide, by show (1 : Int) ≤ 3; decide⟩, fun w => absurd hcap w, hC.buf, fun w => absurd (show (1 : Int) = 0 from w) (by decide), fun _ w => absurd rfl w, fun _ => hcl, fun w => absurd (show (1 : Int) = 3 from w) (by decide), fun _ => ⟨⟨by show (0 : Int) ≤ (g : Int); omega, hg⟩, ?_⟩⟩
      show Waits p (s.gos.set g _) ((g : Int)).toNat c
      rw [Int.toNat_natCast]
      unfold Waits
      rw [getD_set, if_pos ⟨rfl, by omega⟩]
      exact ⟨rfl, hop, ha⟩
    · exact (h.chans j hj).go (by omega)
  · show (s.chans.set c _).getD j default = zeroChn
    rw [getD_set, if_neg (by omega)]
    exact h.rchans j hj4 hj
  · have hs : ((s.gos.set g _).getD k default).status = 2 := hs
    rw [getD_set] at hs
    split at hs
    · rename_i q
      refine ⟨c, hc, ?_⟩
      show ((s.chans.set c _).getD c default).offer ≠ 0 ∧ ((s.chans.set c _).getD c default).from_ = (k : Int)
      rw [getD_set, if_pos ⟨rfl, by omega⟩]
      exact ⟨by show (1 : Int) ≠ 0; decide, by show (g : Int) = (k : Int); rw [q.1]⟩
    · obtain ⟨j, hj, w1, w2⟩ := h.waits k hk hs
      refine ⟨j, hj, ?_⟩
      show ((s.chans.set c _).getD j default).offer ≠ 0 ∧ ((s.chans.set c _).getD j default).from_ = (k : Int)
      have hjc : c ≠ j := fun q => w1 (by rw [← q]; exact ho)
      rw [getD_set, if_neg (fun q => hjc q.1)]
      exact ⟨w1, w2⟩

/-- The channel at which a goroutine waits. -/
theorem Vld.waiting (h : Vld p s) {g : Nat} (hg : (g : Int) < s.count) (h2 : (s.gos.getD g default).status = 2) : ∃ c : Nat, c < p.chans.length ∧ (s.chans.getD c default).offer ≠ 0 ∧ (s.chans.getD c default).from_ = (g : Int) ∧ Waits p s.gos g c := by
  obtain ⟨c, hc, h1, h3⟩ := h.waits g hg h2
  have := (h.chans c hc).from_ h1
  rw [h3, Int.toNat_natCast] at this
  exact ⟨c, hc, h1, h3, this.2⟩

theorem Vld.taken (hok : p.Ok) (h : Vld p s) {g c : Nat} (hg : (g : Int) < s.count) (h2 : (s.gos.getD g default).status = 2) (ha : (p.instr (s.gos.getD g default)).a = (c : Int)) :
    Vld p ⟨s.vars, s.owner, s.chans.set c ⟨(s.chans.getD c default).buf, (s.chans.getD c default).len, (s.chans.getD c default).closed, 0, 0, 0⟩, s.gos.set g ⟨1, (s.gos.getD g default).func, (s.gos.getD g default).pc, (s.gos.getD g default).why, (s.gos.getD g default).regs⟩, s.count⟩ := by
  obtain ⟨c', hc, ho, hf, hw⟩ := h.waiting hg h2
  have e : c' = c := by have := hw.2.2.symm.trans ha; omega
  subst e
  have hG := h.gos g hg
  have hC := h.chans c' hc
  have h4 := hok.four
  have hl4 := h.shape.chans
  have hl6 := h.shape.gos
  have hcnt := h.count
  have hX : GorP p ⟨1, (s.gos.getD g default).func, (s.gos.getD g default).pc, (s.gos.getD g default).why, (s.gos.getD g default).regs⟩ := by
    refine ⟨⟨by show (1 : Int) ≤ 1; decide, by show (1 : Int) ≤ 5; decide⟩, ⟨hG.inn.f0, hG.inn.f1, hG.inn.p0, hG.inn.p1, hG.inn.regs⟩, fun k hk h8 => hG.zero k ?_ h8, fun q => absurd (show (1 : Int) = 4 from q) (by decide), fun _ => hG.why (by omega), fun q => absurd (show (1 : Int) = 3 from q) (by decide), fun q => absurd (show (1 : Int) = 5 from q) (by decide)⟩
    have e1 : gorM p (s.gos.getD g default) = (p.fn (s.gos.getD g default).func).regs := if_neg (by omega)
    rw [e1]; exact hk
  have hs1 := shape_gos h.shape g s.count (X := ⟨1, (s.gos.getD g default).func, (s.gos.getD g default).pc, (s.gos.getD g default).why, (s.gos.getD g default).regs⟩) hG.inn.regs
  have hb4 : (s.chans.getD c' default).buf.length = 4 := h.shape.bufs _ (getD_mem _ (by omega))
  refine ⟨shape_chn hs1 c' hb4, h.count, fun k hk => ?_, fun k h6 hk => ?_, h.vars, h.own, fun j hj => ?_, fun j hj4 hj => ?_, fun k hk hs => ?_⟩
  · show GorP p ((s.gos.set g _).getD k default)
    rw [getD_set]; split
    · exact hX
    · exact h.gos k hk
  · show (s.gos.set g _).getD k default = zeroGor
    have hk : s.count ≤ (k : Int) := hk
    rw [getD_set, if_neg (by omega)]
    exact h.rest k h6 hk
  · show ChnP p (s.gos.set g _) s.count j ((s.chans.set c' _).getD j default)
    rw [getD_set]; split
    · rename_i q
      obtain ⟨q1, q2⟩ := q
      subst q1
      exact ⟨hC.len, ⟨by show (0 : Int) ≤ 0; decide, by show (0 : Int) ≤ 3; decide⟩, fun w => rfl, hC.buf, fun w => ⟨rfl, rfl⟩, fun w => absurd rfl w, fun w => absurd (show (0 : Int) = 1 from w) (by decide), fun w => absurd (show (0 : Int) = 3 from w) (by decide), fun w => absurd rfl w⟩
    · rename_i q
      have hJ := h.chans j hj
      refine ⟨hJ.len, hJ.off, hJ.cap, hJ.buf, hJ.none, hJ.val, hJ.open_, hJ.lost, fun w => ⟨(hJ.from_ w).1, ?_⟩⟩
      have hwj := (hJ.from_ w).2
      have hne : g ≠ (s.chans.getD j default).from_.toNat := by
        intro q2
        have e2 : (p.instr (s.gos.getD (s.chans.getD j default).from_.toNat default)).a = (j : Int) := hwj.2.2
        rw [← q2, hw.2.2] at e2
        exact q ⟨by omega, by omega⟩
      unfold Waits at *
      rw [getD_set, if_neg (fun q2 => hne q2.1)]
      exact hwj
  · show (s.chans.set c' _).getD j default = zeroChn
    rw [getD_set, if_neg (by omega)]
    exact h.rchans j hj4 hj
  · have hs : ((s.gos.set g _).getD k default).status = 2 := hs
    rw [getD_set] at hs
    split at hs
    · exact absurd (show (1 : Int) = 2 from hs) (by decide)
    · rename_i q
      obtain ⟨j, hj, w1, w2⟩ := h.waits k hk hs
      refine ⟨j, hj, ?_⟩
      show ((s.chans.set c' _).getD j default).offer ≠ 0 ∧ ((s.chans.set c' _).getD j default).from_ = (k : Int)
      have hjc : c' ≠ j := by
        intro q2
        rw [← q2, hf] at w2
        exact q ⟨by omega, by omega⟩
      rw [getD_set, if_neg (fun q => hjc q.1)]
      exact ⟨w1, w2⟩

theorem Vld.spawn (hok : p.Ok) (h : Vld p s) (h6 : s.count < 6) {b : Int} (hb : 0 ≤ b ∧ b < p.funcs.length) {X : Gor} (hX : GorP p X) (h1 : X.status = 1) : Vld p ⟨s.vars, s.owner, s.chans, s.gos.set s.count.toNat X, s.count + 1⟩ := by
  have hcnt := h.count
  have hl6 := h.shape.gos
  have hz : (s.gos.getD s.count.toNat default).status ≠ 2 := by rw [h.rest s.count.toNat (by omega) (by omega)]; decide
  refine ⟨shape_gos h.shape _ _ hX.inn.regs, ⟨by show 1 ≤ s.count + 1; omega, by show s.count + 1 ≤ 6; omega⟩, fun k hk => ?_, fun k h6 hk => ?_, h.vars, fun k hk => ?_, fun c hc => ?_, h.rchans, fun g hg hs => ?_⟩
  · have hk : (k : Int) < s.count + 1 := hk
    show GorP p ((s.gos.set s.count.toNat X).getD k default)
    rw [getD_set]; split
    · exact hX
    · exact h.gos k (by omega)
  · have hk : s.count + 1 ≤ (k : Int) := hk
    show (s.gos.set s.count.toNat X).getD k default = zeroGor
    rw [getD_set, if_neg (by omega)]
    exact h.rest k h6 (by omega)
  · have := h.own k hk
    exact ⟨⟨this.1.1, Int.le_trans this.1.2 (by show s.count ≤ s.count + 1; omega)⟩, this.2⟩
  · have hC := (h.chans c hc).go (X := X) hz
    exact ⟨hC.len, hC.off, hC.cap, hC.buf, hC.none, hC.val, hC.open_, hC.lost, fun q => ⟨⟨(hC.from_ q).1.1, Int.lt_trans (hC.from_ q).1.2 (by show s.count < s.count + 1; omega)⟩, (hC.from_ q).2⟩⟩
  · have hs : ((s.gos.set s.count.toNat X).getD g default).status = 2 := hs
    have hg : (g : Int) < s.count + 1 := hg
    rw [getD_set] at hs
    split at hs
    · omega
    · exact h.waits g (by omega) hs
end
end Go.Eng
/- What a visible instruction makes of a valid state is valid; so is what local instructions and steps make of it. -/
namespace Go.Eng
set_option linter.unusedSimpArgs false
set_option linter.unusedVariables false
set_option linter.unusedVariables false

theorem ite_vis {p : Prg} {s : Stt} {g : Int} {c : Prop} [Decidable c] {a b : Did} (h1 : c → VisOk p s g a) (h2 : ¬c → VisOk p s g b) : VisOk p s g (if c then a else b) := by
  by_cases h : c
  · rw [if_pos h]; exact h1 h
  · rw [if_neg h]; exact h2 h

section
variable {p : Prg} (hok : p.Ok) {s : Stt} (hv : Vld p s) {g : Int} (hg : 0 ≤ g ∧ g < s.count) (h1 : (s.gor g).status = 1)
include hok hv hg h1

theorem doSend_ok {v0 t c : Int} (v : Int) (ht : t < ((p.fn (s.gor g).func).code.length : Int)) (hc : 0 ≤ c ∧ c < (p.chans.length : Int)) (hsn : sends p s c = true)
    (h58 : p.cap c = 0 → (instrAt p s g).op = 58 ∧ (instrAt p s g).a = c) (hf : (instrAt p s g).op = 58 ∨ (instrAt p s g).op = 61) : VisOk p s g (doSend p ⟨s, v0, 0, t⟩ g c v) := by
  have h4 := hok.four
  have hC := hv.chans c.toNat (by omega)
  have hb4 : (s.chans.getD c.toNat default).buf.length = 4 := hv.shape.bufs _ (getD_mem _ (by rw [hv.shape.chans]; omega))
  have hcp0 := (hok.caps c.toNat).1
  have hcp4 := (hok.caps c.toNat).2
  unfold doSend
  refine ite_vis (fun hcl => ?_) (fun hcl => ite_vis (fun hcp => ?_) (fun hcp => ?_))
  · refine VisOk.failed hv (At.refl _ _) (Int.le_refl _) h1 ?_ (by show (4 : Int) ≠ 0; decide)
    show failing (instrAt p s g).op 4 = true
    simp only [failing]
    rcases hf with q | q <;> simp [q]
  · have hcl : (s.chans.getD c.toNat default).closed = false := Bool.of_not_eq_true hcl
    have hcp : 0 < p.chans.getD c.toNat 0 := hcp
    have hl := sends_len hsn hcl hcp
    have ho := hC.cap (by omega)
    have hV : Vld p (s.setChn c ⟨(s.chans.getD c.toNat default).buf.set (s.chans.getD c.toNat default).len.toNat v, (s.chans.getD c.toNat default).len + 1, (s.chans.getD c.toNat default).closed, (s.chans.getD c.toNat default).offer, (s.chans.getD c.toNat default).from_, (s.chans.getD c.toNat default).val⟩) := by
      refine hv.chn (c := c.toNat) (by omega) (by show (List.set _ _ _).length = 4; rw [List.length_set]; exact hb4) ⟨⟨by have := hC.len.1; show 0 ≤ _ + 1; omega, by show _ + 1 ≤ _; omega⟩, hC.off, hC.cap, fun k q1 q2 => ?_, hC.none, hC.val, hC.open_, hC.lost, hC.from_⟩ (fun q => absurd ho q)
      have q1 : (s.chans.getD c.toNat default).len + 1 ≤ (k : Int) := q1
      have := hC.len.1
      show (List.set _ _ _).getD k 0 = 0
      rw [getD_set, if_neg (by omega)]
      exact hC.buf k (by omega) q2
    exact VisOk.plain hV ⟨rfl, rfl, rfl⟩ (Int.le_refl _) h1 rfl ht
  · have hcl : (s.chans.getD c.toNat default).closed = false := Bool.of_not_eq_true hcl
    have hcp : ¬0 < p.chans.getD c.toNat 0 := hcp
    have hcap : p.chans.getD c.toNat 0 = 0 := by omega
    have ho : (s.chans.getD c.toNat default).offer = 0 := by
      have e : sends p s c = decide ((s.chn c).offer = 0) := (if_neg (fun q => Bool.noConfusion (hcl.symm.trans q))).trans (if_neg hcp)
      rw [e] at hsn
      exact of_decide_eq_true hsn
    obtain ⟨hop, ha⟩ := h58 hcap
    have hV := hv.offer hok (g := g.toNat) (c := c.toNat) (by omega) h1 hop (by have : (instrAt p s g).a = (p.instr (s.gos.getD g.toNat default)).a := rfl; omega) (by omega) hcap ho hcl v
    rw [show ((g.toNat : Nat) : Int) = g by omega] at hV
    have e : ∀ {x : Stt}, x = (s.setStatus g 2).setChn c ⟨(s.chans.getD c.toNat default).buf, (s.chans.getD c.toNat default).len, (s.chans.getD c.toNat default).closed, 1, g, v⟩ → (x.gor g).func = (s.gor g).func ∧ (x.gor g).pc = (s.gor g).pc := by
      rintro x rfl
      show ((s.gos.set g.toNat _).getD g.toNat default).func = _ ∧ ((s.gos.set g.toNat _).getD g.toNat default).pc = _
      have hc6 := hv.count
      rw [getD_set, if_pos ⟨rfl, by rw [hv.shape.gos]; omega⟩]
      exact ⟨rfl, rfl⟩
    exact ⟨hV, (e rfl).1, (e rfl).2, Int.le_refl _, fun q => absurd rfl q, fun _ q => absurd (show (0 : Int) ≤ -1 from q) (by decide)⟩

theorem doRecv_ok {v0 t c r ok : Int} (ht : t < ((p.fn (s.gor g).func).code.length : Int)) (hc : 0 ≤ c ∧ c < (p.chans.length : Int)) (hr : r = -1 ∨ 0 ≤ r ∧ r < (p.fn (s.gor g).func).regs) (hk : ok = -1 ∨ 0 ≤ ok ∧ ok < (p.fn (s.gor g).func).regs) :
    VisOk p s g (doRecv ⟨s, v0, 0, t⟩ g c r ok) := by
  have h4 := hok.four
  have hC := hv.chans c.toNat (by omega)
  have hb4 : (s.chans.getD c.toNat default).buf.length = 4 := hv.shape.bufs _ (getD_mem _ (by rw [hv.shape.chans]; omega))
  have hcp4 := (hok.caps c.toNat).2
  have hc6 := hv.count
  have two : ∀ (X : Stt) (x y vv : Int), Vld p X → X.gos = s.gos → X.count = s.count → VisOk p s g ⟨(X.setReg g r x).setReg g ok y, vv, 0, t⟩ := by
    intro X x y vv hX e1 e2
    have eg : X.gor g = s.gor g := by unfold Stt.gor; rw [e1]
    have a1 := setReg_at (s := X) (by rw [hX.shape.gos]) (g := g) ⟨hg.1, by omega⟩ r x
    have b1 := hX.reg (g := g) ⟨hg.1, by omega⟩ (by rw [eg]; exact h1) (r := r) (by rw [eg]; exact hr) x
    have a2 := setReg_at (s := X.setReg g r x) (by rw [b1.shape.gos]) (g := g) ⟨hg.1, by omega⟩ ok y
    have b2 := b1.reg (g := g) ⟨hg.1, by rw [setReg_count]; omega⟩ (by rw [a1.status, eg]; exact h1) (r := ok) (by rw [a1.func, eg]; exact hk) y
    have a0 : At g s X := ⟨by rw [eg], by rw [eg], by rw [eg]⟩
    exact VisOk.plain b2 (a0.trans (a1.trans a2)) (by show s.count ≤ (Stt.setReg _ _ _ _).count; rw [setReg_count, setReg_count, e2]; exact Int.le_refl _) h1 rfl ht
  unfold doRecv
  refine ite_vis (fun hl => ?_) (fun hl => ite_vis (fun ho => ?_) (fun ho => ?_))
  · have hl : 0 < (s.chans.getD c.toNat default).len := hl
    have hl2 := hC.len
    have hof := hC.cap (by omega)
    have hV : Vld p (s.setChn c ⟨(shiftTo (s.chans.getD c.toNat default).buf ((s.chans.getD c.toNat default).len - 1).toNat).set ((s.chans.getD c.toNat default).len - 1).toNat 0, (s.chans.getD c.toNat default).len - 1, (s.chans.getD c.toNat default).closed, (s.chans.getD c.toNat default).offer, (s.chans.getD c.toNat default).from_, (s.chans.getD c.toNat default).val⟩) := by
      refine hv.chn (c := c.toNat) (by omega) (by show (List.set _ _ _).length = 4; rw [List.length_set, shiftTo_len]; exact hb4) ⟨⟨by show 0 ≤ _ - 1; omega, by show _ - 1 ≤ _; omega⟩, hC.off, hC.cap, fun k q1 q2 => ?_, hC.none, hC.val, hC.open_, hC.lost, hC.from_⟩ (fun q => absurd hof q)
      have q1 : (s.chans.getD c.toNat default).len - 1 ≤ (k : Int) := q1
      show (List.set _ _ _).getD k 0 = 0
      rw [getD_set]; split
      · rfl
      · rename_i q
        have hne : ((s.chans.getD c.toNat default).len - 1).toNat ≠ k := fun w => q ⟨w, by rw [shiftTo_len]; omega⟩
        rw [shiftTo_at _ (by omega) (by omega)]
        exact hC.buf k (by omega) q2
    exact two _ _ _ _ hV rfl rfl
  · have ho : (s.chans.getD c.toNat default).offer = 1 := ho
    have hV : Vld p (s.setChn c ⟨(s.chans.getD c.toNat default).buf, (s.chans.getD c.toNat default).len, (s.chans.getD c.toNat default).closed, 2, (s.chans.getD c.toNat default).from_, 0⟩) := by
      refine hv.chn (c := c.toNat) (by omega) hb4 ⟨hC.len, ⟨by show (0 : Int) ≤ 2; decide, by show (2 : Int) ≤ 3; decide⟩, fun q => absurd (hC.cap q) (by omega), hC.buf, fun q => absurd (show (2 : Int) = 0 from q) (by decide), fun _ _ => rfl, fun q => absurd (show (2 : Int) = 1 from q) (by decide), fun q => absurd (show (2 : Int) = 3 from q) (by decide), fun _ => hC.from_ (by omega)⟩ (fun _ => ⟨by show (2 : Int) ≠ 0; decide, rfl⟩)
    exact two _ _ _ _ hV rfl rfl
  · have hV : Vld p (s.setChn c (s.chans.getD c.toNat default)) := hv.chn (c := c.toNat) (by omega) hb4 hC (fun q => ⟨q, rfl⟩)
    exact two _ _ _ _ hV rfl rfl

omit hg in
theorem doClose_ok {v0 t c : Int} (ht : t < ((p.fn (s.gor g).func).code.length : Int)) (hc : 0 ≤ c ∧ c < (p.chans.length : Int)) (hop : (instrAt p s g).op = 60) : VisOk p s g (doClose ⟨s, v0, 0, t⟩ c) := by
  have h4 := hok.four
  have hC := hv.chans c.toNat (by omega)
  have hb4 : (s.chans.getD c.toNat default).buf.length = 4 := hv.shape.bufs _ (getD_mem _ (by rw [hv.shape.chans]; omega))
  unfold doClose
  refine ite_vis (fun hcl => ?_) (fun hcl => ite_vis (fun ho => ?_) (fun ho => ?_))
  · refine VisOk.failed hv (At.refl _ _) (Int.le_refl _) h1 ?_ (by show (5 : Int) ≠ 0; decide)
    show failing (instrAt p s g).op 5 = true
    simp [failing, hop]
  · have ho : (s.chans.getD c.toNat default).offer = 1 := ho
    have hV : Vld p (s.setChn c ⟨(s.chans.getD c.toNat default).buf, (s.chans.getD c.toNat default).len, true, 3, (s.chans.getD c.toNat default).from_, 0⟩) := by
      refine hv.chn (c := c.toNat) (by omega) hb4 ⟨hC.len, ⟨by show (0 : Int) ≤ 3; decide, by show (3 : Int) ≤ 3; decide⟩, fun q => absurd (hC.cap q) (by omega), hC.buf, fun q => absurd (show (3 : Int) = 0 from q) (by decide), fun _ _ => rfl, fun q => absurd (show (3 : Int) = 1 from q) (by decide), fun _ => rfl, fun _ => hC.from_ (by omega)⟩ (fun _ => ⟨by show (3 : Int) ≠ 0; decide, rfl⟩)
    exact VisOk.plain hV ⟨rfl, rfl, rfl⟩ (Int.le_refl _) h1 rfl ht
  · have ho : ¬(s.chans.getD c.toNat default).offer = 1 := ho
    have hV : Vld p (s.setChn c ⟨(s.chans.getD c.toNat default).buf, (s.chans.getD c.toNat default).len, true, (s.chans.getD c.toNat default).offer, (s.chans.getD c.toNat default).from_, (s.chans.getD c.toNat default).val⟩) := by
      exact hv.chn (c := c.toNat) (by omega) hb4 ⟨hC.len, hC.off, hC.cap, hC.buf, hC.none, hC.val, fun q => absurd q ho, fun _ => rfl, hC.from_⟩ (fun q => ⟨q, rfl⟩)
    exact VisOk.plain hV ⟨rfl, rfl, rfl⟩ (Int.le_refl _) h1 rfl ht

theorem doSpawn_ok {v0 t : Int} {x : Instr} (hx : x = instrAt p s g) (ht : t < ((p.fn (s.gor g).func).code.length : Int)) (hop : (instrAt p s g).op = 62) (ha : x.a = -1 ∨ 0 ≤ x.a ∧ x.a < (p.fn (s.gor g).func).regs) (hb : 0 ≤ x.b ∧ x.b < (p.funcs.length : Int)) : VisOk p s g (doSpawn p ⟨s, v0, 0, t⟩ g x) := by
  have hc6 := hv.count
  unfold doSpawn
  refine ite_vis (fun hcl => ?_) (fun hcl => ?_)
  · refine VisOk.failed hv (At.refl _ _) (Int.le_refl _) h1 ?_ (by show (8 : Int) ≠ 0; decide)
    show failing (instrAt p s g).op 8 = true
    simp [failing, hop]
  · have hcl : ¬6 ≤ s.count := hcl
    have hcd := hok.code x.b.toNat (by omega)
    have hpm := hok.params x.b.toNat
    have hX : GorP p ⟨1, x.b, 0, 0, spawnRegs s g x.c (p.fn x.b).params.toNat⟩ := by
      refine ⟨⟨by show (1 : Int) ≤ 1; decide, by show (1 : Int) ≤ 5; decide⟩, ⟨hb.1, hb.2, Int.le_refl 0, (show (0 : Int) < ((p.funcs.getD x.b.toNat default).code.length : Int) by omega), spawnRegs_len _ _ _ _⟩, fun k hk h8 => ?_, fun q => absurd (show (1 : Int) = 4 from q) (by decide), fun _ => rfl, fun q => absurd (show (1 : Int) = 3 from q) (by decide), fun q => absurd (show (1 : Int) = 5 from q) (by decide)⟩
      have hk : (p.funcs.getD x.b.toNat default).regs ≤ (k : Int) := hk
      show (spawnRegs s g x.c (p.fn x.b).params.toNat).getD k 0 = 0
      unfold spawnRegs
      rw [rows_getD h8, if_neg (by show ¬k < (p.funcs.getD x.b.toNat default).params.toNat; omega)]
    have hV := hv.spawn hok (by omega) hb hX rfl
    have eg : ∀ {X : Stt}, X = ⟨s.vars, s.owner, s.chans, s.gos.set s.count.toNat ⟨1, x.b, 0, 0, spawnRegs s g x.c (p.fn x.b).params.toNat⟩, s.count + 1⟩ → X.gor g = s.gor g := by
      rintro X rfl
      show (s.gos.set s.count.toNat _).getD g.toNat default = _
      rw [getD_set, if_neg (by omega)]; rfl
    have a1 := setReg_at hV.shape.gos (g := g) ⟨hg.1, by omega⟩ x.a s.count
    have b1 := hV.reg (g := g) ⟨hg.1, by show g < s.count + 1; omega⟩ (by rw [eg rfl]; exact h1) (r := x.a) (by rw [eg rfl]; exact ha) s.count
    refine VisOk.plain b1 ⟨?_, ?_, ?_⟩ (by show s.count ≤ (Stt.setReg _ _ _ _).count; rw [setReg_count]; show s.count ≤ s.count + 1; omega) h1 rfl ht
    · exact a1.status.trans (by rw [eg rfl])
    · exact a1.func.trans (by rw [eg rfl])
    · exact a1.pc.trans (by rw [eg rfl])

theorem doVars_ok {v0 t : Int} {x : Instr} (hx : x = instrAt p s g) (ht : t < ((p.fn (s.gor g).func).code.length : Int)) : VisOk p s g (doVars ⟨s, v0, 0, t⟩ g x) := by
  have hc6 := hv.count
  have hgi := (hv.gos g.toNat (by omega)).inn
  have hrt : instrErr p (p.funcs.getD (s.gos.getD g.toNat default).func.toNat default) x = 0 := by rw [hx]; exact instr_right hok hgi
  have reg : ∀ (X : Stt) (r v vv : Int), Vld p X → X.gos = s.gos → X.count = s.count → (r = -1 ∨ 0 ≤ r ∧ r < (p.fn (s.gor g).func).regs) → VisOk p s g ⟨X.setReg g r v, vv, 0, t⟩ := by
    intro X r v vv hX e1 e2 hr
    have eg : X.gor g = s.gor g := by unfold Stt.gor; rw [e1]
    have a1 := setReg_at (s := X) (by rw [hX.shape.gos]) (g := g) ⟨hg.1, by omega⟩ r v
    have b1 := hX.reg (g := g) ⟨hg.1, by omega⟩ (by rw [eg]; exact h1) (r := r) (by rw [eg]; exact hr) v
    have a0 : At g s X := ⟨by rw [eg], by rw [eg], by rw [eg]⟩
    exact VisOk.plain b1 (a0.trans a1) (by show s.count ≤ (Stt.setReg _ _ _ _).count; rw [setReg_count, e2]; exact Int.le_refl _) h1 rfl ht
  by_cases h53 : x.op = 53
  · have hI := vis53 hrt h53
    rw [doVars53 (by omega) (by omega) (by omega) h53]
    have hr : x.a = -1 ∨ 0 ≤ x.a ∧ x.a < (p.fn (s.gor g).func).regs := by have := hI.1; first | exact this | exact .inr this
    exact ite_vis (fun _ => reg _ _ _ _ (hv.var (i := x.b.toNat) (by omega) _) rfl rfl hr) (fun _ => reg s _ _ _ hv rfl rfl hr)
  by_cases h57 : x.op = 57
  · have hI := vis57 hrt h57
    rw [doVars57 (by omega) (by omega) (by omega) (by omega) (by omega) (by omega) (by omega) h57]
    have hr : x.a = -1 ∨ 0 ≤ x.a ∧ x.a < (p.fn (s.gor g).func).regs := by have := hI.1; first | exact this | exact .inr this
    exact ite_vis (fun _ => reg _ _ _ _ (hv.owns (i := x.b.toNat) (by omega) (x := g + 1) (by omega)) rfl rfl hr) (fun _ => reg s _ _ _ hv rfl rfl hr)
  unfold doVars
  refine ite_vis (fun h => ?_) (fun _ => ?_)
  · have hI := vis50 hrt h
    exact reg s _ _ _ hv rfl rfl (by have := hI.1; first | exact this | exact .inr this)
  refine ite_vis (fun h => ?_) (fun _ => ?_)
  · have hI := vis51 hrt h
    exact VisOk.plain (hv.var (i := x.a.toNat) (by omega) _) ⟨rfl, rfl, rfl⟩ (Int.le_refl _) h1 rfl ht
  refine ite_vis (fun h => ?_) (fun _ => ?_)
  · have hI := vis52 hrt h
    have h2 := reg s x.a (s.vars.getD x.b.toNat 0) ((s.gor g).reg x.c) hv rfl rfl (by have := hI.1; first | exact this | exact .inr this)
    have hV := h2.vld.var (i := x.b.toNat) (by omega) (w64 ((s.setReg g x.a (s.vars.getD x.b.toNat 0)).vars.getD x.b.toNat 0 + (s.gor g).reg x.c))
    exact ⟨hV, h2.func, h2.pc, h2.cnt, fun q => absurd rfl q, h2.on⟩
  refine ite_vis (fun h => absurd h h53) (fun _ => ?_)
  refine ite_vis (fun h => VisOk.plain hv (At.refl _ _) (Int.le_refl _) h1 rfl ht) (fun _ => ?_)
  refine ite_vis (fun h => ?_) (fun _ => ?_)
  · have hI := vis55 hrt (.inl h)
    exact VisOk.plain (hv.owns (i := x.a.toNat) (by omega) (x := g + 1) (by omega)) ⟨rfl, rfl, rfl⟩ (Int.le_refl _) h1 rfl ht
  refine ite_vis (fun h => ?_) (fun _ => ?_)
  · have hI := vis55 hrt (.inr h)
    refine ite_vis (fun _ => ?_) (fun _ => ?_)
    · refine VisOk.failed hv (At.refl _ _) (Int.le_refl _) h1 ?_ (by show (6 : Int) ≠ 0; decide)
      show failing (instrAt p s g).op 6 = true
      rw [← hx]; simp [failing, h]
    · exact VisOk.plain (hv.owns (i := x.a.toNat) (by omega) (x := 0) (by omega)) ⟨rfl, rfl, rfl⟩ (Int.le_refl _) h1 rfl ht
  exact ite_vis (fun h => absurd h h57) (fun _ => VisOk.plain hv (At.refl _ _) (Int.le_refl _) h1 rfl ht)
end

theorem visible_ok {p : Prg} (hok : p.Ok) (hr : rightP p = true) {s : Stt} (hv : Vld p s) {g alt : Int} (ha : alt ∈ alts p s g) : VisOk p s g (visible p s g alt) := by
  have hl := live_iff.1 (alts_live ha)
  have hg := hl.1
  have hw := hv.wf hok hr
  have hc6 := hv.count
  have hgi := (hv.gos g.toNat (by omega)).inn
  have hrt : instrErr p (p.funcs.getD (s.gos.getD g.toNat default).func.toNat default) (instrAt p s g) = 0 := instr_right hok hgi
  have hnx : (instrAt p s g).op ≠ 42 ∧ (instrAt p s g).op ≠ 45 ∧ (instrAt p s g).op ≠ 61 → (s.gor g).pc + 1 < ((p.fn (s.gor g).func).code.length : Int) := fun h => next_in hok hgi h
  unfold visible
  refine ite_vis (fun h66 => ?_) (fun h66 => ?_)
  · have h2 : (s.gos.getD g.toNat default).status = 2 := by
      rcases opAt_cases h66 with h | h
      · exact h.1
      · have := op_le hrt
        have e : (insAt p s g).op = (instrAt p s g).op := rfl
        omega
    obtain ⟨c, hc, ho, hf, hwt⟩ := hv.waiting (g := g.toNat) (by omega) h2
    have hop : (instrAt p s g).op = 58 := hwt.2.1
    have hA : (instrAt p s g).a = (c : Int) := hwt.2.2
    have hV := hv.taken hok (g := g.toNat) (c := c) (by omega) h2 hwt.2.2
    have e : (doTaken ⟨s, 0, 0, (s.gor g).pc + 1⟩ g (instrAt p s g).a).s = ⟨s.vars, s.owner, s.chans.set c ⟨(s.chans.getD c default).buf, (s.chans.getD c default).len, (s.chans.getD c default).closed, 0, 0, 0⟩, s.gos.set g.toNat ⟨1, (s.gos.getD g.toNat default).func, (s.gos.getD g.toNat default).pc, (s.gos.getD g.toNat default).why, (s.gos.getD g.toNat default).regs⟩, s.count⟩ := by
      unfold doTaken
      rw [hA]; rfl
    have eg : (doTaken ⟨s, 0, 0, (s.gor g).pc + 1⟩ g (instrAt p s g).a).s.gor g = ⟨1, (s.gos.getD g.toNat default).func, (s.gos.getD g.toNat default).pc, (s.gos.getD g.toNat default).why, (s.gos.getD g.toNat default).regs⟩ := by
      rw [e]
      show (s.gos.set g.toNat _).getD g.toNat default = _
      rw [getD_set, if_pos ⟨rfl, by rw [hv.shape.gos]; omega⟩]
    refine ⟨by rw [e]; exact hV, by rw [eg]; rfl, by rw [eg]; rfl, by rw [e]; exact Int.le_refl _, fun q => ⟨by rw [eg], ?_⟩, fun _ _ => ⟨by rw [eg], hnx (by omega)⟩⟩
    have e4 : (doTaken ⟨s, 0, 0, (s.gor g).pc + 1⟩ g (instrAt p s g).a).why = 4 := by
      unfold doTaken at q ⊢
      simp only at q ⊢
      split
      · rfl
      · rename_i q2; rw [if_neg q2] at q; exact absurd rfl q
    rw [e4]; simp [failing, hop]
  have h1 : (s.gor g).status = 1 := by
    rcases hl.2 with h | h
    · exact h
    · exact absurd (by unfold opAt; exact if_pos h) h66
  have e : opAt p s g = (instrAt p s g).op := by
    unfold opAt
    exact if_neg (by omega)
  rw [e] at h66 ⊢
  refine ite_vis (fun h => ?_) (fun h58 => ?_)
  · have hI := vis58 hrt h
    have hsn : sends p s (instrAt p s g).a = true := (plain_send (by rw [e]; exact h)).symm.trans (alts_plain ha (by omega)).1
    exact doSend_ok hok hv hg h1 _ (hnx (by omega)) hI.1 hsn (fun _ => ⟨h, rfl⟩) (.inl h)
  refine ite_vis (fun h => ?_) (fun _ => ?_)
  · have hI := vis59 hrt h
    exact doRecv_ok hok hv hg h1 (hnx (by omega)) hI.2.1 hI.1 hI.2.2
  refine ite_vis (fun h => ?_) (fun _ => ?_)
  · exact doClose_ok hok hv h1 (hnx (by omega)) (vis60 hrt h) h
  refine ite_vis (fun h => ?_) (fun _ => ?_)
  · have hI := vis62 hrt h
    exact doSpawn_ok hok hv hg h1 rfl (hnx (by omega)) h hI.1 hI.2.1
  refine ite_vis (fun h => ite_vis (fun _ => ?_) (fun _ => ?_)) (fun h63 => ?_)
  · refine VisOk.failed hv (At.refl _ _) (Int.le_refl _) h1 ?_ (by show (7 : Int) ≠ 0; decide)
    show failing (instrAt p s g).op 7 = true
    simp [failing, h]
  · exact VisOk.plain hv (At.refl _ _) (Int.le_refl _) h1 rfl (hnx (by omega))
  refine ite_vis (fun h => VisOk.plain hv (At.refl _ _) (Int.le_refl _) h1 rfl (hnx (by omega))) (fun h65 => ?_)
  refine ite_vis (fun h => ite_vis (fun hal => ?_) (fun hne => ?_)) (fun h61 => ?_)
  · have hI := vis61 hrt h
    have hel := else_ok hok (i := (s.gos.getD g.toNat default).func.toNat) (j := (instrAt p s g).a.toNat) (by have := hgi.f0; have := hgi.f1; omega) (by omega)
    refine VisOk.plain hv (At.refl _ _) (Int.le_refl _) h1 rfl ?_
    show (selAt p s g).els < _
    have e2 : (selAt p s g).els = ((p.funcs.getD (s.gos.getD g.toNat default).func.toNat default).sels.getD (instrAt p s g).a.toNat default).els := rfl
    have e3 : (p.fn (s.gor g).func).code.length = (p.funcs.getD (s.gos.getD g.toNat default).func.toNat default).code.length := rfl
    have := hok.code (s.gos.getD g.toNat default).func.toNat (by have := hgi.f0; have := hgi.f1; omega)
    omega
  · obtain ⟨k, rfl, hk, hco⟩ := (alts_sel ha (by rw [e]; exact h)).resolve_left hne
    have hI := vis61 hrt h
    have hC := case_ok hok (i := (s.gos.getD g.toNat default).func.toNat) (j := (instrAt p s g).a.toNat) (k := k) (by have := hgi.f0; have := hgi.f1; omega) (by have := hI; omega) hk
    have hto : ((selAt p s g).cases.getD (k : Int).toNat default).to_ < ((p.fn (s.gor g).func).code.length : Int) := hC.to_.2
    refine ite_vis (fun hs => ?_) (fun hs => ?_)
    · have hs : ((selAt p s g).cases.getD k default).send = true := hs
      have hcap := hC.cap hs
      have hsn : sends p s ((selAt p s g).cases.getD k default).chan = true := by
        unfold caseOk at hco
        rw [if_pos hs] at hco
        exact hco
      exact doSend_ok hok hv hg h1 _ hto hC.chan hsn (fun q => absurd q hcap) (.inr h)
    · have hs : ((selAt p s g).cases.getD k default).send = false := Bool.of_not_eq_true hs
      have hreg := hC.reg
      exact doRecv_ok hok hv hg h1 hto hC.chan (by
        rcases hreg with q | q
        · exact .inr q
        · exact .inl q.2) (.inl rfl)
  · by_cases hvs : (instrAt p s g).op = 42 ∨ (instrAt p s g).op = 45
    · have hp := (alts_plain ha (by rw [e]; exact h61)).1
      exfalso
      unfold plain at hp
      simp only [e] at hp
      rw [if_neg (by omega), if_neg (by omega), if_neg (by omega), if_neg (by omega), if_neg (by omega), if_neg (by omega)] at hp
      have := of_decide_eq_true hp
      omega
    · exact doVars_ok hok hv hg h1 rfl (hnx (by omega))
end Go.Eng
/- Local instructions, settling and steps keep states valid. -/
namespace Go.Eng
set_option linter.unusedSimpArgs false
set_option linter.unusedVariables false
set_option linter.unusedVariables false

/-- When an operation of numbers fails. -/
def ApplyOk (apply : Int → Int → Int → Int × Int) : Prop := ∀ op a b, ((apply op a b).2 = 20 → op = 19 ∨ op = 20) ∧ ((apply op a b).2 = 21 → 25 ≤ op ∧ op ≤ 27)

theorem rep0 (n k : Nat) : (List.replicate n (0 : Int)).getD k 0 = 0 := by
  rw [List.getD_eq_getElem?_getD, List.getElem?_replicate]
  split <;> rfl
theorem failing_of {op w : Int} (h : (w = 1 ∧ op = 44) ∨ (w = 2 ∧ (op = 19 ∨ op = 20)) ∨ (w = 3 ∧ 25 ≤ op ∧ op ≤ 27)) : failing op w = true := by
  rcases h with ⟨rfl, h⟩ | ⟨rfl, h⟩ | ⟨rfl, h⟩
  · simp [failing, h]
  · rcases h with rfl | rfl <;> rfl
  · simp [failing, h]
section
variable {apply : Int → Int → Int → Int × Int} (hap : ApplyOk apply) {p : Prg} (hok : p.Ok)

theorem GorP.ended {g : Gor} (h : GorP p g) {w : Int} (hf : failing (p.instr g).op w = true) : GorP p (ended g 4 w) :=
  ⟨⟨by show (1 : Int) ≤ 4; decide, by show (4 : Int) ≤ 5; decide⟩, ⟨h.inn.f0, h.inn.f1, h.inn.p0, h.inn.p1, rfl⟩, fun k _ h8 => by show (List.replicate 8 (0 : Int)).getD k 0 = 0; exact rep0 8 k, fun _ => hf, fun q => absurd rfl q, fun q => absurd (show (4 : Int) = 3 from q) (by decide), fun q => absurd (show (4 : Int) = 5 from q) (by decide)⟩
theorem GorP.over {g : Gor} (h : GorP p g) (h1 : g.status = 1) (hf : (p.instr g).op = 45) : GorP p (Go.Eng.ended g 3 0) :=
  ⟨⟨by show (1 : Int) ≤ 3; decide, by show (3 : Int) ≤ 5; decide⟩, ⟨h.inn.f0, h.inn.f1, h.inn.p0, h.inn.p1, rfl⟩, fun k _ h8 => by show (List.replicate 8 (0 : Int)).getD k 0 = 0; exact rep0 8 k, fun q => absurd (show (3 : Int) = 4 from q) (by decide), fun _ => rfl, fun _ => hf, fun q => absurd (show (3 : Int) = 5 from q) (by decide)⟩

include hap hok in
theorem localStep_ok {g : Gor} (hG : GorP p g) (h1 : g.status = 1) (hl : isLocal (p.instr g).op = true) :
    GorP p (localStep apply p g).1 ∧ ((localStep apply p g).2 = true → (localStep apply p g).1.status = 1) ∧ (localStep apply p g).1.status ≠ 2 ∧ (localStep apply p g).1.status ≠ 5 ∧ (localStep apply p g).1.func = g.func := by
  have hr := local_range hl
  have hg := hG.inn
  have hin := instr_right hok hg
  have hm : gorM p g = (p.fn g.func).regs := if_neg (by omega)
  have h8 := hg.regs
  have mk : ∀ (pc : Int) (regs : List Int), 0 ≤ pc → pc < (p.funcs.getD g.func.toNat default).code.length → regs.length = 8 → (∀ k : Nat, (p.fn g.func).regs ≤ k → k < 8 → regs.getD k 0 = 0) → GorP p ⟨g.status, g.func, pc, g.why, regs⟩ := by
    intro pc regs q0 q1 q2 q3
    refine ⟨hG.st, ⟨hg.f0, hg.f1, q0, q1, q2⟩, fun k hk hk8 => q3 k ?_ hk8, fun q => ?_, hG.why, fun q => ?_, fun q => ?_⟩
    · have e : gorM p ⟨g.status, g.func, pc, g.why, regs⟩ = (p.fn g.func).regs := if_neg (by show ¬(g.status = 3 ∨ g.status = 4); omega)
      rw [e] at hk; exact hk
    · have q : g.status = 4 := q; omega
    · have q : g.status = 3 := q; omega
    · have q : g.status = 5 := q; omega
  have next : ∀ regs : List Int, regs.length = 8 → (∀ k : Nat, (p.fn g.func).regs ≤ k → k < 8 → regs.getD k 0 = 0) → ((p.instr g).op ≠ 42 ∧ (p.instr g).op ≠ 45 ∧ (p.instr g).op ≠ 61) → GorP p ⟨g.status, g.func, g.pc + 1, g.why, regs⟩ := fun regs q2 q3 ho =>
    mk _ _ (by have := hg.p0; omega) (next_in hok hg ho) q2 q3
  have hz : ∀ k : Nat, (p.fn g.func).regs ≤ k → k < 8 → g.regs.getD k 0 = 0 := fun k q1 q2 => hG.zero k (by rw [hm]; exact q1) q2
  have hset : ∀ (a v : Int), 0 ≤ a ∧ a < (p.fn g.func).regs → ∀ k : Nat, (p.fn g.func).regs ≤ k → k < 8 → (g.regs.set a.toNat v).getD k 0 = 0 := by
    intro a v ha k q1 q2
    rw [getD_set, if_neg (by omega)]
    exact hz k q1 q2
  have fin : ∀ {r : Gor × Bool} {pc : Int} {regs : List Int} {b : Bool}, r = (⟨g.status, g.func, pc, g.why, regs⟩, b) → GorP p ⟨g.status, g.func, pc, g.why, regs⟩ → GorP p r.1 ∧ (r.2 = true → r.1.status = 1) ∧ r.1.status ≠ 2 ∧ r.1.status ≠ 5 ∧ r.1.func = g.func := by
    rintro r pc regs b rfl hG2
    exact ⟨hG2, fun _ => h1, by show g.status ≠ 2; omega, by show g.status ≠ 5; omega, rfl⟩
  have fal : ∀ {r : Gor × Bool} {w : Int}, r = (ended g 4 w, false) → failing (p.instr g).op w = true → GorP p r.1 ∧ (r.2 = true → r.1.status = 1) ∧ r.1.status ≠ 2 ∧ r.1.status ≠ 5 ∧ r.1.func = g.func := by
    rintro r w rfl hf
    exact ⟨hG.ended hf, fun q => Bool.noConfusion (show false = true from q), by show (4 : Int) ≠ 2; decide, by show (4 : Int) ≠ 5; decide, rfl⟩
  by_cases h1' : (p.instr g).op ≤ 15
  · exact fin (ls1 apply h1') (next _ (by rw [List.length_set]; exact h8) (hset _ _ (loc1 hin (by omega) h1').1) (by omega))
  by_cases h2 : (p.instr g).op ≤ 36
  · by_cases e1 : (apply (p.instr g).op (g.regs.getD (p.instr g).b.toNat 0) (g.regs.getD (p.instr g).c.toNat 0)).2 = 20
    · refine fal (ls2z apply h1' h2 e1) ?_
      exact failing_of (.inr (.inl ⟨rfl, (hap _ _ _).1 e1⟩))
    by_cases e2 : (apply (p.instr g).op (g.regs.getD (p.instr g).b.toNat 0) (g.regs.getD (p.instr g).c.toNat 0)).2 = 21
    · refine fal (ls2s apply h1' h2 e1 e2) ?_
      exact failing_of (.inr (.inr ⟨rfl, (hap _ _ _).2 e2⟩))
    · exact fin (ls2 apply h1' h2 e1 e2) (next _ (by rw [List.length_set]; exact h8) (hset _ _ (loc2 hin (by omega) h2).1) (by omega))
  by_cases h3 : (p.instr g).op = 40
  · exact fin (ls40 apply h1' h2 h3) (next _ (by rw [List.length_set]; exact h8) (hset _ _ (loc40 hin h3)) (by omega))
  by_cases h4 : (p.instr g).op = 41
  · exact fin (ls41 apply h1' h2 h3 h4) (next _ (by rw [List.length_set]; exact h8) (hset _ _ (loc41 hin h4).1) (by omega))
  by_cases h5 : (p.instr g).op = 42
  · have := loc42 hin h5
    exact fin (ls42 apply h1' h2 h3 h4 h5) (mk _ _ this.1 this.2 h8 hz)
  by_cases h6 : (p.instr g).op = 43
  · by_cases e : g.regs.getD (p.instr g).a.toNat 0 = 0
    · exact fin (ls43f apply h1' h2 h3 h4 h5 h6 e) (next _ h8 hz (by omega))
    · have := (loc43 hin h6).2
      exact fin (ls43 apply h1' h2 h3 h4 h5 h6 e) (mk _ _ this.1 this.2 h8 hz)
  by_cases h7 : (p.instr g).op = 44
  · by_cases e : g.regs.getD (p.instr g).a.toNat 0 = 0
    · exact fal (ls44z apply h1' h2 h3 h4 h5 h6 h7 e) (failing_of (.inl ⟨rfl, h7⟩))
    · exact fin (ls44 apply h1' h2 h3 h4 h5 h6 h7 e) (next _ h8 hz (by omega))
  · rw [ls45 apply h1' h2 h3 h4 h5 h6 h7]
    exact ⟨hG.over h1 (by omega), fun q => Bool.noConfusion (show false = true from q), by show (3 : Int) ≠ 2; decide, by show (3 : Int) ≠ 5; decide, rfl⟩

include hap hok in
theorem settledN_ok : ∀ (m : Nat) {g : Gor}, GorP p g → g.status = 1 → GorP p (settledN apply p m g) ∧ (settledN apply p m g).status ≠ 2 ∧ (settledN apply p m g).func = g.func
  | 0, g, hG, h1 => by
    cases h : isLocal (p.instr g).op
    · rw [settledN_stop apply h]; exact ⟨hG, by omega, rfl⟩
    · rw [settledN_zero apply h]
      refine ⟨⟨⟨by show (1 : Int) ≤ 5; decide, by show (5 : Int) ≤ 5; decide⟩, ⟨hG.inn.f0, hG.inn.f1, hG.inn.p0, hG.inn.p1, hG.inn.regs⟩, fun k hk h8 => hG.zero k ?_ h8, fun q => absurd (show (5 : Int) = 4 from q) (by decide), fun _ => hG.why (by omega), fun q => absurd (show (5 : Int) = 3 from q) (by decide), fun _ => h⟩, by show (5 : Int) ≠ 2; decide, rfl⟩
      have e1 : gorM p g = (p.fn g.func).regs := if_neg (by omega)
      rw [e1]; exact hk
  | m + 1, g, hG, h1 => by
    cases h : isLocal (p.instr g).op
    · rw [settledN_stop apply h]; exact ⟨hG, by omega, rfl⟩
    · rw [settledN_succ apply h]
      obtain ⟨a1, a2, a3, _, a4⟩ := localStep_ok hap hok hG h1 h
      split
      · rename_i q
        have := settledN_ok m a1 (a2 q)
        exact ⟨this.1, this.2.1, this.2.2.trans a4⟩
      · exact ⟨a1, a3, a4⟩
include hap hok in
theorem settled_ok {g : Gor} (hG : GorP p g) (h1 : g.status = 1 ∨ g.status = 5) (fuel : Int) : GorP p (settled apply p g fuel) ∧ (settled apply p g fuel).status ≠ 2 ∧ (settled apply p g fuel).func = g.func := by
  have hX : GorP p { g with status := 1 } := by
    refine ⟨⟨by show (1 : Int) ≤ 1; decide, by show (1 : Int) ≤ 5; decide⟩, ⟨hG.inn.f0, hG.inn.f1, hG.inn.p0, hG.inn.p1, hG.inn.regs⟩, fun k hk h8 => hG.zero k ?_ h8, fun q => absurd (show (1 : Int) = 4 from q) (by decide), fun _ => hG.why (by omega), fun q => absurd (show (1 : Int) = 3 from q) (by decide), fun q => absurd (show (1 : Int) = 5 from q) (by decide)⟩
    have e1 : gorM p g = (p.fn g.func).regs := if_neg (by omega)
    rw [e1]; exact hk
  exact settledN_ok hap hok _ hX rfl

/-- What settling makes of a valid state. -/
theorem settle_eq {s : Stt} (hr : rightP p = true) (hok : p.Ok) (hv : Vld p s) {g fuel : Int} (hg : 0 ≤ g ∧ g < s.count) (hf : 0 ≤ fuel ∧ fuel ≤ 4096) :
    (settle apply p s g fuel).1 = if (s.gor g).status = 1 ∨ (s.gor g).status = 5 then { s with gos := s.gos.set g.toNat (settled apply p (s.gor g) fuel) } else s := by
  have hc := hv.count
  unfold settle
  rw [if_neg (by rw [hr]; decide), if_neg (by rw [hv.ok hok hr]; decide), if_neg (by omega), if_neg (by omega)]
  split <;> rfl
include hap in
theorem settle_ok {s : Stt} (hr : rightP p = true) (hok : p.Ok) (hv : Vld p s) {g fuel : Int} (hg : 0 ≤ g ∧ g < s.count) (hf : 0 ≤ fuel ∧ fuel ≤ 4096) :
    Vld p (settle apply p s g fuel).1 := by
  rw [settle_eq hr hok hv hg hf]
  split
  · rename_i h
    have hG := hv.gos g.toNat (by omega)
    have := settled_ok hap hok hG h fuel
    exact hv.go (i := g.toNat) (by omega) this.1 (by have h : (s.gos.getD g.toNat default).status = 1 ∨ (s.gos.getD g.toNat default).status = 5 := h; omega) this.2.1
  · exact hv
theorem settle_keeps {s : Stt} (hr : rightP p = true) (hok : p.Ok) (hv : Vld p s) {g fuel : Int} (hg : 0 ≤ g ∧ g < s.count) (hf : 0 ≤ fuel ∧ fuel ≤ 4096) :
    (settle apply p s g fuel).1.vars = s.vars ∧ (settle apply p s g fuel).1.owner = s.owner ∧ (settle apply p s g fuel).1.chans = s.chans ∧ (settle apply p s g fuel).1.count = s.count ∧ ∀ i : Nat, i ≠ g.toNat → (settle apply p s g fuel).1.gos.getD i default = s.gos.getD i default := by
  rw [settle_eq hr hok hv hg hf]
  split
  · refine ⟨rfl, rfl, rfl, rfl, fun i hi => ?_⟩
    show (s.gos.set _ _).getD i default = _
    rw [getD_set, if_neg (fun q => hi q.1.symm)]
  · exact ⟨rfl, rfl, rfl, rfl, fun _ _ => rfl⟩

/-- The state ahead of the local instructions, where a step goes on. -/
def afterVis (d : Did) (g : Int) : Stt := { d.s with gos := d.s.gos.set g.toNat { d.s.gor g with pc := d.to_ } }
def failedVis (d : Did) (g : Int) : Stt := { d.s with gos := d.s.gos.set g.toNat { d.s.gor g with status := 4, why := d.why, regs := List.replicate 8 0 } }
theorem afterVis_ok {s : Stt} {g : Int} {d : Did} (hg : 0 ≤ g ∧ g < s.count) (hd : VisOk p s g d) (hw : d.why = 0) (ht : 0 ≤ d.to_) : Vld p (afterVis d g) := by
  have hv := hd.vld
  have h1 := (hd.on hw ht).1
  have h2 := (hd.on hw ht).2
  have hc := hd.cnt
  have hG := hv.gos g.toNat (by omega)
  refine hv.go (i := g.toNat) (by omega) (X := { d.s.gor g with pc := d.to_ }) ⟨hG.st, ⟨hG.inn.f0, hG.inn.f1, ht, ?_, hG.inn.regs⟩, hG.zero, fun q => ?_, hG.why, fun q => ?_, fun q => ?_⟩ (by have h1 : (d.s.gos.getD g.toNat default).status = 1 := h1; omega) (by show (d.s.gor g).status ≠ 2; omega)
  · rw [← hd.func] at h2; exact h2
  · have q : (d.s.gor g).status = 4 := q; omega
  · have q : (d.s.gor g).status = 3 := q; omega
  · have q : (d.s.gor g).status = 5 := q; omega
theorem failedVis_ok {s : Stt} {g : Int} {d : Did} (hg : 0 ≤ g ∧ g < s.count) (hd : VisOk p s g d) (hw : d.why ≠ 0) : Vld p (failedVis d g) := by
  have hv := hd.vld
  obtain ⟨h1, h2⟩ := hd.fail hw
  have hc := hd.cnt
  have hG := hv.gos g.toNat (by omega)
  have e : p.instr (d.s.gor g) = instrAt p s g := by
    show (p.funcs.getD (d.s.gor g).func.toNat default).code.getD (d.s.gor g).pc.toNat default = _
    rw [hd.func, hd.pc]; rfl
  refine hv.go (i := g.toNat) (by omega) (X := { d.s.gor g with status := 4, why := d.why, regs := List.replicate 8 0 }) ⟨⟨by show (1 : Int) ≤ 4; decide, by show (4 : Int) ≤ 5; decide⟩, ⟨hG.inn.f0, hG.inn.f1, hG.inn.p0, hG.inn.p1, rfl⟩, fun k _ h8 => by show (List.replicate 8 (0 : Int)).getD k 0 = 0; exact rep0 8 k, fun _ => ?_, fun q => absurd rfl q, fun q => absurd (show (4 : Int) = 3 from q) (by decide), fun q => absurd (show (4 : Int) = 5 from q) (by decide)⟩ (by have h1 : (d.s.gos.getD g.toNat default).status = 1 := h1; omega) (by show (4 : Int) ≠ 2; decide)
  show failing (p.instr (d.s.gor g)).op d.why = true
  rw [e]; exact h2

include hap in
theorem take_ok {s : Stt} (hr : rightP p = true) (hok : p.Ok) (hv : Vld p s) {x : Pck} (ha : x.alt ∈ alts p s x.go) {fuel : Int} (hf : 0 ≤ fuel ∧ fuel ≤ 4096) : Vld p (take apply p s x fuel).1 := by
  have hg := (live_iff.1 (alts_live ha)).1
  have hd := visible_ok hok hr hv ha
  unfold take
  simp only
  split
  · rename_i hw; exact failedVis_ok hg hd hw
  · rename_i hw
    have hw : (visible p s x.go x.alt).why = 0 := by simpa using hw
    split
    · exact hd.vld
    · rename_i ht
      have h1 := afterVis_ok hg hd hw (by omega)
      have hc := hd.cnt
      have h2 := settle_ok hap hr hok h1 (g := x.go) (fuel := fuel) ⟨hg.1, by show x.go < (visible p s x.go x.alt).s.count; omega⟩ hf
      show Vld p (if _ then _ else _)
      refine ite_stt (q := Vld p) (fun q => ?_) (fun _ => h2)
      exact settle_ok hap hr hok h2 ⟨by have := hv.count; omega, q⟩ hf
include hap in
theorem do_ok {s : Stt} (hr : rightP p = true) (hok : p.Ok) (hv : Vld p s) {x : Pck} (ha : x.alt ∈ alts p s x.go) {fuel : Int} (hf : 0 ≤ fuel ∧ fuel ≤ 4096) : Vld p (doStep apply p s x fuel).1 := by
  unfold doStep
  rw [if_neg (by omega), if_neg (by unfold has; rw [decide_eq_true ha]; decide)]
  exact take_ok hap hr hok hv ha hf

include hap in
theorem start_ok (hr : rightP p = true) (hok : p.Ok) {fuel : Int} (hf : 0 ≤ fuel ∧ fuel ≤ 4096) : Vld p (start apply p fuel).1 := by
  have hz := zero_wf hok
  have h4 := hok.four
  have h8 := hok.eight
  unfold start
  rw [if_neg (by rw [hr]; decide), if_neg (by omega)]
  have hG : GorP p ⟨1, 0, 0, 0, List.replicate 8 0⟩ := by
    have hi := start_in hok
    refine ⟨⟨by decide, by decide⟩, ⟨hi.f0, hi.f1, hi.p0, hi.p1, rfl⟩, fun k _ h8 => by show (List.replicate 8 (0 : Int)).getD k 0 = 0; exact rep0 8 k, fun q => absurd (show (1 : Int) = 4 from q) (by decide), fun _ => rfl, fun q => absurd (show (1 : Int) = 3 from q) (by decide), fun q => absurd (show (1 : Int) = 5 from q) (by decide)⟩
  have hx : GorP p (settled apply p zeroGor fuel) ∧ (settled apply p zeroGor fuel).status ≠ 2 ∧ _ := settledN_ok hap hok fuel.toNat hG rfl
  have z4 : ∀ i : Nat, i < 4 → zeroStt.chans.getD i default = zeroChn := by
    intro i hi
    rcases (show i = 0 ∨ i = 1 ∨ i = 2 ∨ i = 3 by omega) with rfl | rfl | rfl | rfl <;> rfl
  have zg : ∀ i : Nat, i < 6 → zeroStt.gos.getD i default = zeroGor := by
    intro i hi
    rcases (show i = 0 ∨ i = 1 ∨ i = 2 ∨ i = 3 ∨ i = 4 ∨ i = 5 by omega) with rfl | rfl | rfl | rfl | rfl | rfl <;> rfl
  refine ⟨⟨by simp [startVars], rfl, rfl, hz.shape.bufs, by show (List.set _ _ _).length = 6; rw [List.length_set]; rfl, mem_set hz.shape.regs hx.1.inn.regs 0⟩, ⟨(by decide : (1 : Int) ≤ 1), (by decide : (1 : Int) ≤ 6)⟩, fun i hi => ?_, fun i h6 hi => ?_, fun i h1 h2 => ?_, fun i hi => ?_, fun i hi => ?_, fun i h1 _ => z4 i h1, fun g hg h2 => ?_⟩
  · have hi : (i : Int) < 1 := hi
    have e : i = 0 := by omega
    show GorP p ((zeroStt.gos.set 0 _).getD i default)
    rw [e, getD_set, if_pos ⟨rfl, by decide⟩]
    exact hx.1
  · have hi : (1 : Int) ≤ i := hi
    show (zeroStt.gos.set 0 _).getD i default = zeroGor
    rw [getD_set, if_neg (by omega)]
    exact zg i h6
  · show (startVars p p.vars.length).getD i 0 = 0
    unfold startVars
    rw [rows_getD h2, if_neg (by omega)]
  · have e : zeroStt.owner.getD i 0 = 0 := by rcases (show i = 0 ∨ i = 1 ∨ i = 2 ∨ i = 3 by omega) with rfl | rfl | rfl | rfl <;> rfl
    show (0 ≤ zeroStt.owner.getD i 0 ∧ zeroStt.owner.getD i 0 ≤ 1) ∧ (p.locks ≤ (i : Int) → zeroStt.owner.getD i 0 = 0)
    rw [e]; exact ⟨⟨by decide, by decide⟩, fun _ => rfl⟩
  · have e := z4 i (by omega)
    have hcp := hok.caps i
    show ChnP p _ 1 i (zeroStt.chans.getD i default)
    rw [e]
    exact ⟨⟨by show (0 : Int) ≤ 0; decide, hcp.1⟩, ⟨by decide, by decide⟩, fun _ => rfl, fun k _ h4 => by show (List.replicate 4 (0 : Int)).getD k 0 = 0; exact rep0 4 k, fun _ => ⟨rfl, rfl⟩, fun q => absurd rfl q, fun q => absurd (show (0 : Int) = 1 from q) (by decide), fun q => absurd (show (0 : Int) = 3 from q) (by decide), fun q => absurd rfl q⟩
  · have hg : (g : Int) < 1 := hg
    have e : g = 0 := by omega
    have h2 : ((zeroStt.gos.set 0 _).getD g default).status = 2 := h2
    rw [e, getD_set, if_pos ⟨rfl, by decide⟩] at h2
    exact absurd h2 hx.2.1
end

theorem applyW_ok : ApplyOk applyW := by
  intro op a b
  unfold applyW
  split
  · exact ⟨fun q => absurd (show (22 : Int) = 20 from q) (by decide), fun q => absurd (show (22 : Int) = 21 from q) (by decide)⟩
  split
  · exact ⟨fun q => absurd (show (0 : Int) = 20 from q) (by decide), fun q => absurd (show (0 : Int) = 21 from q) (by decide)⟩
  unfold twoW
  have no : ∀ {x : Int}, (x, (0 : Int)).2 ≠ 20 ∧ (x, (0 : Int)).2 ≠ 21 := ⟨by show (0 : Int) ≠ 20; decide, by show (0 : Int) ≠ 21; decide⟩
  by_cases h1 : op = 16
  · rw [if_pos h1]; exact ⟨fun q => absurd q no.1, fun q => absurd q no.2⟩
  rw [if_neg h1]
  by_cases h2 : op = 17
  · rw [if_pos h2]; exact ⟨fun q => absurd q no.1, fun q => absurd q no.2⟩
  rw [if_neg h2]
  by_cases h3 : op = 18
  · rw [if_pos h3]; exact ⟨fun q => absurd q no.1, fun q => absurd q no.2⟩
  rw [if_neg h3]
  by_cases h4 : op = 19 ∨ op = 20
  · rw [if_pos h4]
    refine ⟨fun _ => h4, ?_⟩
    by_cases q1 : b = 0
    · rw [if_pos q1]; exact fun q => absurd (show (20 : Int) = 21 from q) (by decide)
    rw [if_neg q1]
    by_cases q2 : b = -1
    · rw [if_pos q2]; split <;> exact fun q => absurd q no.2
    rw [if_neg q2]; split <;> exact fun q => absurd q no.2
  rw [if_neg h4]
  by_cases h5 : op = 21 ∨ op = 22 ∨ op = 23 ∨ op = 24
  · rw [if_pos h5]; exact ⟨fun q => absurd q no.1, fun q => absurd q no.2⟩
  rw [if_neg h5]
  by_cases h6 : op = 25 ∨ op = 26 ∨ op = 27
  · rw [if_pos h6]
    refine ⟨?_, fun _ => by omega⟩
    by_cases q1 : b < 0
    · rw [if_pos q1]; exact fun q => absurd (show (21 : Int) = 20 from q) (by decide)
    rw [if_neg q1]
    split
    · exact fun q => absurd q no.1
    · split <;> exact fun q => absurd q no.1
  rw [if_neg h6]
  split <;> exact ⟨fun q => absurd q no.1, fun q => absurd q no.2⟩
end Go.Eng
