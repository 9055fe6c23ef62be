/- What a state may forget, and how it may be told otherwise; lemmas for walks. -/
import Derived.Test.YtbfihoopgcmkpaaEngQ
namespace Go.Eng
set_option linter.unusedSimpArgs false
set_option linter.unusedVariables false
open Go.RowKit

variable {P : Program} {T : Tab} {w w' : World} {w0 : Base} {F F' : Nat → Prop} {ρ ρ' : Nat → RI} {σ σ' : St} {a : Act} {outs : List (Array Value)}

mutual
/-- It speaks of no object from k on. -/
def E.under (k : Nat) : E → Bool
  | .sl i _ _ _ _ => Nat.blt i k
  | .ptr i _ _ => Nat.blt i k
  | .rp i _ _ _ => Nat.blt i k
  | .fn _ caps => E.underL k caps
  | .tup l => E.underL k l
  | _ => true
def E.underL (k : Nat) : List E → Bool
  | [] => true
  | e :: es => e.under k && E.underL k es
end

def Tm.under (k : Nat) : Tm → Bool
  | [] => true
  | x :: tm => x.2.2.under k && Tm.under k tm
def outUnder (k : Nat) : List Tm → Bool
  | [] => true
  | x :: l => Tm.under k x && outUnder k l
def obUnder (k : Nat) : List Obj → Bool
  | [] => true
  | .var _ e :: l => e.under k && obUnder k l
  | .erow _ es :: l => E.underL k es && obUnder k l
  | _ :: l => obUnder k l

def St.under (k : Nat) (σ : St) : Bool := Tm.under k σ.tm && outUnder k σ.out && obUnder k (σ.ob.take k)

def cutρ (k : Nat) (ρ : Nat → RI) : Nat → RI := fun i => if i < k then ρ i else .none

mutual
theorem ERel.cut {k : Nat} : ∀ {e : E} {v : Value}, e.under k = true → ERel T w F ρ e v → ERel T w F (cutρ k ρ) e v
  | .int _ _, _, _, h => h
  | .bool _, _, _, h => h
  | .str _, _, _, h => h
  | .data _ _, _, _, h => h
  | .fs _ _ _, _, _, h => h
  | .sl i e lo n c, v, hu, h => by
    have hi : i < k := by simpa [E.under] using hu
    unfold ERel at h ⊢
    rw [cutρ, if_pos hi]; exact h
  | .nilsl, _, _, h => h
  | .ptr i p t, v, hu, h => by
    have hi : i < k := by simpa [E.under] using hu
    unfold ERel at h ⊢
    rw [cutρ, if_pos hi]; exact h
  | .rp i j p t, v, hu, h => by
    have hi : i < k := by simpa [E.under] using hu
    unfold ERel at h ⊢
    rw [cutρ, if_pos hi]; exact h
  | .fptr _ _, _, _, h => h
  | .fn _ _, _, hu, ⟨cs, h1, h2⟩ => ⟨cs, h1, ERelL.cut (by simpa [E.under] using hu) h2⟩
  | .nilfn, _, _, h => h
  | .tup _, _, hu, ⟨vs, h1, h2⟩ => ⟨vs, h1, ERelL.cut (by simpa [E.under] using hu) h2⟩
  | .undef, _, _, _ => trivial
theorem ERelL.cut {k : Nat} : ∀ {l : List E} {vs : List Value}, E.underL k l = true → ERelL T w F ρ l vs → ERelL T w F (cutρ k ρ) l vs
  | [], [], _, h => h
  | e :: es, _ :: _, hu, ⟨h1, h2⟩ => by
    simp only [E.underL, Bool.and_eq_true] at hu
    exact ⟨ERel.cut hu.1 h1, ERelL.cut hu.2 h2⟩
  | [], _ :: _, _, h => h.elim
  | _ :: _, [], _, h => h.elim
end

theorem under_lookup {k : Nat} : ∀ {tm : Tm} {t : Nat} {g : Bool} {e : E}, Tm.under k tm = true → tm.lookup t = some (g, e) → e.under k = true
  | [], _, _, _, _, h => by simp at h
  | (s, g', e') :: tm, t, g, e, hu, h => by
    simp only [Tm.under, Bool.and_eq_true] at hu
    simp only [List.lookup_cons] at h
    by_cases hts : t = s
    · subst hts; simp at h; rw [← h.2]; exact hu.1
    · have : (t == s) = false := by simpa using hts
      rw [this] at h
      exact under_lookup hu.2 h

theorem TmRel.cut {k : Nat} {tm : Tm} {tmps : Array Value} (hu : Tm.under k tm = true) (h : TmRel T w F ρ tm tmps) : TmRel T w F (cutρ k ρ) tm tmps := by
  intro t g e he
  obtain ⟨v, h1, h2, h3⟩ := h t g e he
  exact ⟨v, h1, fun hg => (h2 hg).cut (under_lookup hu he), h3⟩

theorem OutRel.cut {k : Nat} : ∀ {l : List Tm} {vs : List (Array Value)}, outUnder k l = true → OutRel T w F ρ l vs → OutRel T w F (cutρ k ρ) l vs
  | [], [], _, h => h
  | _ :: _, _ :: _, hu, ⟨h1, h2⟩ => by
    simp only [outUnder, Bool.and_eq_true] at hu
    exact ⟨h1.cut hu.1, OutRel.cut hu.2 h2⟩
  | [], _ :: _, _, h => h.elim
  | _ :: _, [], _, h => h.elim

theorem obUnder_get {k : Nat} : ∀ {l : List Obj} {i : Nat} {t : TypeId} {e : E}, obUnder k l = true → l[i]? = some (.var t e) → e.under k = true
  | [], _, _, _, _, h => by simp at h
  | o :: l, 0, t, e, hu, h => by
    simp at h; subst h
    simp only [obUnder, Bool.and_eq_true] at hu
    exact hu.1
  | o :: l, i + 1, t, e, hu, h => by
    have hu' : obUnder k l = true := by
      cases o <;> simp only [obUnder, Bool.and_eq_true] at hu
      · exact hu.2
      · exact hu
      · exact hu.2
      · exact hu
    exact obUnder_get hu' (by simpa using h)

theorem obUnder_getL {k : Nat} : ∀ {l : List Obj} {i : Nat} {t : TypeId} {e : List E}, obUnder k l = true → l[i]? = some (.erow t e) → E.underL k e = true
  | [], _, _, _, _, h => by simp at h
  | o :: l, 0, t, e, hu, h => by
    simp at h; subst h
    simp only [obUnder, Bool.and_eq_true] at hu
    exact hu.1
  | o :: l, i + 1, t, e, hu, h => by
    have hu' : obUnder k l = true := by
      cases o <;> simp only [obUnder, Bool.and_eq_true] at hu
      · exact hu.2
      · exact hu
      · exact hu.2
      · exact hu
    exact obUnder_getL hu' (by simpa using h)

/-- Objects that nothing speaks of are forgotten. -/
theorem St.le.cut (k : Nat) (hu : σ.under k = true) : St.le T σ { σ with ob := σ.ob.take k } := by
  intro w F ρ w0 tmps outs h
  simp only [St.under, Bool.and_eq_true] at hu
  obtain ⟨⟨u1, u2⟩, u3⟩ := hu
  refine ⟨F, cutρ k ρ, h.tm.cut u1, h.out.cut u2, ?_, ?_, ?_, h.fsub, h.below, h.size, h.fold⟩
  · intro i o hi
    have hik : i < k := by
      have := (List.getElem?_eq_some_iff.1 hi).1
      simp at this; omega
    have ho : σ.ob[i]? = some o := by
      simp only [List.getElem?_take, if_pos hik] at hi
      exact hi
    have h1 := h.ob i o ho
    have hc : cutρ k ρ i = ρ i := by simp [cutρ, hik]
    rw [hc]
    cases o with
    | dead => cases hρ : ρ i <;> rw [hρ] at h1 <;> exact h1
    | row e l => exact h1.row_mono (fun _ _ => rfl) (fun _ _ => rfl)
    | erow e l =>
      cases hρ : ρ i with
      | none => rw [hρ] at h1; exact h1.elim
      | var _ _ => rw [hρ] at h1; exact h1.elim
      | row e' r =>
        rw [hρ] at h1
        obtain ⟨q1, q2, q0, xs, q3, q4, q5⟩ := h1
        exact ⟨q1, q2, q0, xs, q3, q4.cut (obUnder_getL u3 hi), q5⟩
    | var t e =>
      cases hρ : ρ i with
      | none => rw [hρ] at h1; exact h1.elim
      | row _ _ => rw [hρ] at h1; exact h1.elim
      | var b t' =>
        rw [hρ] at h1
        obtain ⟨q1, q2, q3, cs, ct, v, q4, q5, q6⟩ := h1
        exact ⟨q1, q2, q3, cs, ct, v, q4, q5.cut (obUnder_get u3 hi), q6⟩
  · intro i hi
    unfold cutρ
    split
    · rename_i hik
      exact h.free i (by simp only [List.getElem?_take, if_pos hik] at hi; exact hi)
    · rfl
  · intro i j b hi hj
    unfold cutρ at hi hj
    split at hi <;> split at hj
    · exact h.inj i j b hi hj
    · simp [RI.block] at hj
    · simp [RI.block] at hi
    · simp [RI.block] at hi

/-- A nil slice is an empty row of the call's own. -/
theorem St.le.own {t : Nat} (e : TypeId) (hl : σ.tm.lookup t = some (true, .nilsl)) : St.le T σ { σ with tm := (t, true, .sl σ.ob.length e 0 0 false) :: σ.tm, ob := σ.ob ++ [.row e []] } := by
  intro w F ρ w0 tmps outs h
  have hadd := h.add (r := .row e (.slice none 0 0)) (o := .row e []) (fun b hb => by simp [RI.block, Value.ownBlock] at hb) ⟨rfl, fun b hb => by simp [Value.ownBlock] at hb, [], World.ownsRow_nil _ _ _ _, .nil⟩
  refine ⟨F, _, ?_, hadd.out, hadd.ob, hadd.free, hadd.inj, hadd.fsub, hadd.below, hadd.size, hadd.fold⟩
  intro s g e' he
  simp only [List.lookup_cons] at he
  by_cases hst : s = t
  · subst hst
    simp at he
    obtain ⟨rfl, rfl⟩ := he
    obtain ⟨v, h1, h2, _⟩ := h.tm _ _ _ hl
    have hv : v = .slice none 0 0 := h2 rfl
    refine ⟨v, h1, fun _ => ?_, by simp⟩
    unfold ERel
    rw [upd_self]
    exact .inl ⟨rfl, hv, rfl, rfl⟩
  · have : (s == t) = false := by simpa using hst
    rw [this] at he
    exact hadd.tm s g e' he

theorem St.le.of_eq (h : σ = σ') : St.le T σ σ' := h ▸ St.le.refl

theorem wrap64_ok {n : Int} (h1 : -9223372036854775808 ≤ n) (h2 : n ≤ 9223372036854775807) : IntKind.i64.wrap n = n := by
  unfold IntKind.wrap
  simp [IntKind.signed, IntKind.bits]
  omega

theorem wrap_succ {n m : Nat} (h : n < m) (hm : m ≤ maxLen) : IntKind.i64.wrap ((n : Int) + 1) = ((n + 1 : Nat) : Int) := by
  unfold maxLen at hm
  rw [wrap64_ok (by omega) (by omega)]
  omega

theorem CallStep.mk {g : Bool} {f : FuncId} {args : List Operand} {d : Option Tmp} {K : St → Prop} {es : List E} (hes : ∀ K : List E → Prop, K es → evalL σ g args K)
    (h : (∃ e, (g = true → CallQ P T σ f es e) ∧ putK σ d g K e) ∨ ((g = true → CallE P T σ f es (putE d K)) ∧ (g = false → putK σ d false K .undef))) : CallStep P T σ g (.func f) args d K := by
  unfold CallStep
  exact hes _ ⟨f, [], rfl, by rw [List.append_nil]; exact h⟩

/-! ### One operation behind the other -/

theorem opsA_cons {P : Program} {T : Tab} {o : SOp} {rest : List SOp} {K : St → Prop} {σ : St} (h : ∀ R : St → Prop, (∀ σ', opsA P T rest K σ' → R σ') → guardA o σ (opG P T o R σ)) : opsA P T (o :: rest) K σ := h _ fun _ x => x
theorem opsA_nil {P : Program} {T : Tab} {K : St → Prop} {σ : St} (h : K σ) : opsA P T [] K σ := h
theorem opsQ_cons {P : Program} {T : Tab} {o : SOp} {rest : List SOp} {K : St → Prop} {σ : St} (h : ∀ R : St → Prop, (∀ σ', opsQ P T rest K σ' → R σ') → guardA o σ (opQ P T o R σ)) : opsQ P T (o :: rest) K σ := h _ fun _ x => x
theorem opsQ_nil {P : Program} {T : Tab} {K : St → Prop} {σ : St} (h : K σ) : opsQ P T [] K σ := h

end Go.Eng
