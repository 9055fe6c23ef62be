/- What a state may forget, and how it may be told otherwise; lemmas for walks. -/
import Derived.Test.YtedceinkpkoncaaGreatDoorPk9
namespace Go.Eng
set_option linter.unusedSimpArgs false
set_option linter.unusedVariables false
open Go.RowKit

variable {P : Program} {T : Tab} {w w' : World} {w0 : Base T} {F F' : Nat → Prop} {ρ ρ' : Nat → RI} {σ σ' : St} {a : Act} {outs : List (Array Value)}

mutual
/-- It speaks of no object from k on. -/
def E.under (k : Nat) : E → Bool
  | .sl i _ _ _ _ => Nat.blt i k
  | .ptr i _ _ => Nat.blt i k
  | .rp i _ _ _ => Nat.blt i k
  | .av i _ _ _ => Nat.blt i k
  | .fn _ caps => E.underL k caps
  | .tup l => E.underL k l
  | _ => true
def E.underL (k : Nat) : List E → Bool
  | [] => true
  | e :: es => e.under k && E.underL k es
end

def Tm.under (k : Nat) : Tm → Bool
  | [] => true
  | x :: tm => x.2.2.under k && Tm.under k tm
def outUnder (k : Nat) : List Tm → Bool
  | [] => true
  | x :: l => Tm.under k x && outUnder k l
def obUnder (k : Nat) : List Obj → Bool
  | [] => true
  | .var _ e :: l => e.under k && obUnder k l
  | .erow _ es :: l => E.underL k es && obUnder k l
  | _ :: l => obUnder k l

def St.under (k : Nat) (σ : St) : Bool := Tm.under k σ.tm && outUnder k σ.out && obUnder k (σ.ob.take k)

def cutρ (k : Nat) (ρ : Nat → RI) : Nat → RI := fun i => if i < k then ρ i else .none

mutual
theorem ERel.cut {k : Nat} : ∀ {e : E} {v : Value}, e.under k = true → ERel T w F ρ e v → ERel T w F (cutρ k ρ) e v
  | .int _ _, _, _, h => h
  | .bool _, _, _, h => h
  | .str _, _, _, h => h
  | .data _ _, _, _, h => h
  | .fs _ _ _, _, _, h => h
  | .sl i e lo n c, v, hu, h => by
    have hi : i < k := by simpa [E.under] using hu
    unfold ERel at h ⊢
    rw [cutρ, if_pos hi]; exact h
  | .nilsl, _, _, h => h
  | .ptr i p t, v, hu, h => by
    have hi : i < k := by simpa [E.under] using hu
    unfold ERel at h ⊢
    rw [cutρ, if_pos hi]; exact h
  | .rp i j p t, v, hu, h => by
    have hi : i < k := by simpa [E.under] using hu
    unfold ERel at h ⊢
    rw [cutρ, if_pos hi]; exact h
  | .av i p t j, v, hu, h => by
    have hi : i < k := by simpa [E.under] using hu
    unfold ERel at h ⊢
    rw [cutρ, if_pos hi]; exact h
  | .fptr _ _, _, _, h => h
  | .fn _ _, _, hu, ⟨cs, h1, h2⟩ => ⟨cs, h1, ERelL.cut (by simpa [E.under] using hu) h2⟩
  | .nilfn, _, _, h => h
  | .tup _, _, hu, ⟨vs, h1, h2⟩ => ⟨vs, h1, ERelL.cut (by simpa [E.under] using hu) h2⟩
  | .undef, _, _, _ => trivial
theorem ERelL.cut {k : Nat} : ∀ {l : List E} {vs : List Value}, E.underL k l = true → ERelL T w F ρ l vs → ERelL T w F (cutρ k ρ) l vs
  | [], [], _, h => h
  | e :: es, _ :: _, hu, ⟨h1, h2⟩ => by
    simp only [E.underL, Bool.and_eq_true] at hu
    exact ⟨ERel.cut hu.1 h1, ERelL.cut hu.2 h2⟩
  | [], _ :: _, _, h => h.elim
  | _ :: _, [], _, h => h.elim
end

theorem under_lookup {k : Nat} : ∀ {tm : Tm} {t : Nat} {g : Bool} {e : E}, Tm.under k tm = true → tm.lookup t = some (g, e) → e.under k = true
  | [], _, _, _, _, h => by simp at h
  | (s, g', e') :: tm, t, g, e, hu, h => by
    simp only [Tm.under, Bool.and_eq_true] at hu
    simp only [List.lookup_cons] at h
    by_cases hts : t = s
    · subst hts; simp at h; rw [← h.2]; exact hu.1
    · have : (t == s) = false := by simpa using hts
      rw [this] at h
      exact under_lookup hu.2 h

theorem TmRel.cut {k : Nat} {tm : Tm} {tmps : Array Value} (hu : Tm.under k tm = true) (h : TmRel T w F ρ tm tmps) : TmRel T w F (cutρ k ρ) tm tmps := by
  intro t g e he
  obtain ⟨v, h1, h2, h3⟩ := h t g e he
  exact ⟨v, h1, fun hg => (h2 hg).cut (under_lookup hu he), h3⟩

theorem OutRel.cut {k : Nat} : ∀ {l : List Tm} {vs : List (Array Value)}, outUnder k l = true → OutRel T w F ρ l vs → OutRel T w F (cutρ k ρ) l vs
  | [], [], _, h => h
  | _ :: _, _ :: _, hu, ⟨h1, h2⟩ => by
    simp only [outUnder, Bool.and_eq_true] at hu
    exact ⟨h1.cut hu.1, OutRel.cut hu.2 h2⟩
  | [], _ :: _, _, h => h.elim
  | _ :: _, [], _, h => h.elim

theorem obUnder_get {k : Nat} : ∀ {l : List Obj} {i : Nat} {t : TypeId} {e : E}, obUnder k l = true → l[i]? = some (.var t e) → e.under k = true
  | [], _, _, _, _, h => by simp at h
  | o :: l, 0, t, e, hu, h => by
    simp at h; subst h
    simp only [obUnder, Bool.and_eq_true] at hu
    exact hu.1
  | o :: l, i + 1, t, e, hu, h => by
    have hu' : obUnder k l = true := by
      cases o <;> simp only [obUnder, Bool.and_eq_true] at hu
      · exact hu.2
      · exact hu
      · exact hu.2
      · exact hu
    exact obUnder_get hu' (by simpa using h)

theorem obUnder_getL {k : Nat} : ∀ {l : List Obj} {i : Nat} {t : TypeId} {e : List E}, obUnder k l = true → l[i]? = some (.erow t e) → E.underL k e = true
  | [], _, _, _, _, h => by simp at h
  | o :: l, 0, t, e, hu, h => by
    simp at h; subst h
    simp only [obUnder, Bool.and_eq_true] at hu
    exact hu.1
  | o :: l, i + 1, t, e, hu, h => by
    have hu' : obUnder k l = true := by
      cases o <;> simp only [obUnder, Bool.and_eq_true] at hu
      · exact hu.2
      · exact hu
      · exact hu.2
      · exact hu
    exact obUnder_getL hu' (by simpa using h)

/-- Objects that nothing speaks of are forgotten. -/
theorem St.le.cut (k : Nat) (hu : σ.under k = true) : St.le T σ { σ with ob := σ.ob.take k } := by
  intro w F ρ w0 tmps outs h
  simp only [St.under, Bool.and_eq_true] at hu
  obtain ⟨⟨u1, u2⟩, u3⟩ := hu
  refine ⟨F, cutρ k ρ, h.tm.cut u1, h.out.cut u2, ?_, ?_, ?_, h.fsub, h.below, h.size, h.fold⟩
  · intro i o hi
    have hik : i < k := by
      have := (List.getElem?_eq_some_iff.1 hi).1
      simp at this; omega
    have ho : σ.ob[i]? = some o := by
      simp only [List.getElem?_take, if_pos hik] at hi
      exact hi
    have h1 := h.ob i o ho
    have hc : cutρ k ρ i = ρ i := by simp [cutρ, hik]
    rw [hc]
    cases o with
    | dead => cases hρ : ρ i <;> rw [hρ] at h1 <;> exact h1
    | row e l => exact h1.row_mono (fun _ _ => rfl) (fun _ _ => rfl)
    | erow e l =>
      cases hρ : ρ i with
      | none => rw [hρ] at h1; exact h1.elim
      | var _ _ => rw [hρ] at h1; exact h1.elim
      | row e' r =>
        rw [hρ] at h1
        obtain ⟨q1, q2, q0, xs, q3, q4, q5⟩ := h1
        exact ⟨q1, q2, q0, xs, q3, q4.cut (obUnder_getL u3 hi), q5⟩
    | var t e =>
      cases hρ : ρ i with
      | none => rw [hρ] at h1; exact h1.elim
      | row _ _ => rw [hρ] at h1; exact h1.elim
      | var b t' =>
        rw [hρ] at h1
        obtain ⟨q1, q2, q3, cs, ct, v, q4, q5, q6⟩ := h1
        exact ⟨q1, q2, q3, cs, ct, v, q4, q5.cut (obUnder_get u3 hi), q6⟩
  · intro i hi
    unfold cutρ
    split
    · rename_i hik
      exact h.free i (by simp only [List.getElem?_take, if_pos hik] at hi; exact hi)
    · rfl
  · intro i j b hi hj
    unfold cutρ at hi hj
    split at hi <;> split at hj
    · exact h.inj i j b hi hj
    · simp [RI.block] at hj
    · simp [RI.block] at hi
    · simp [RI.block] at hi

/-- A nil slice is an empty row of the call's own. -/
theorem St.le.own {t : Nat} (e : TypeId) (hl : σ.tm.lookup t = some (true, .nilsl)) : St.le T σ { σ with tm := (t, true, .sl σ.ob.length e 0 0 false) :: σ.tm, ob := σ.ob ++ [.row e []] } := by
  intro w F ρ w0 tmps outs h
  have hadd := h.add (r := .row e (.slice none 0 0)) (o := .row e []) (fun b hb => by simp [RI.block, Value.ownBlock] at hb) ⟨rfl, fun b hb => by simp [Value.ownBlock] at hb, [], World.ownsRow_nil _ _ _ _, .nil⟩
  refine ⟨F, _, ?_, hadd.out, hadd.ob, hadd.free, hadd.inj, hadd.fsub, hadd.below, hadd.size, hadd.fold⟩
  intro s g e' he
  simp only [List.lookup_cons] at he
  by_cases hst : s = t
  · subst hst
    simp at he
    obtain ⟨rfl, rfl⟩ := he
    obtain ⟨v, h1, h2, _⟩ := h.tm _ _ _ hl
    have hv : v = .slice none 0 0 := h2 rfl
    refine ⟨v, h1, fun _ => ?_, by simp⟩
    unfold ERel
    rw [upd_self]
    exact .inl ⟨rfl, hv, rfl, rfl⟩
  · have : (s == t) = false := by simpa using hst
    rw [this] at he
    exact hadd.tm s g e' he

theorem St.le.of_eq (h : σ = σ') : St.le T σ σ' := h ▸ St.le.refl

theorem wrap64_ok {n : Int} (h1 : -9223372036854775808 ≤ n) (h2 : n ≤ 9223372036854775807) : IntKind.i64.wrap n = n := by
  unfold IntKind.wrap
  simp [IntKind.signed, IntKind.bits]
  omega

theorem wrap_succ {n m : Nat} (h : n < m) (hm : m ≤ maxLen) : IntKind.i64.wrap ((n : Int) + 1) = ((n + 1 : Nat) : Int) := by
  unfold maxLen at hm
  rw [wrap64_ok (by omega) (by omega)]
  omega

theorem CallStep.mk {g : Bool} {f : FuncId} {args : List Operand} {d : Option Tmp} {K : St → Prop} {es : List E} (hes : ∀ K : List E → Prop, K es → evalL σ g args K)
    (h : (∃ e, (g = true → CallQ P T σ f es e) ∧ putK σ d g K e) ∨ ((g = true → CallE P T σ f es (putE d K)) ∧ (g = false → putK σ d false K .undef))) : CallStep P T σ g (.func f) args d K := by
  unfold CallStep
  exact hes _ ⟨f, [], rfl, by rw [List.append_nil]; exact h⟩

/-! ### One operation behind the other -/

end Go.Eng
/- An object that is written no more becomes data that nobody writes. -/
namespace Go.Eng
set_option linter.unusedSimpArgs false
set_option linter.unusedVariables false
open Go.RowKit

variable {P : Program} {T : Tab} {w w' : World} {w0 : Base T} {F F' : Nat → Prop} {ρ ρ' : Nat → RI} {σ σ' : St} {a : Act} {outs : List (Array Value)}

mutual
/-- What speaks of object i (a variable that holds v, or a row that holds l) tells the data itself. -/
def E.frz (i : Nat) (v : V) (l : List V) : E → E
  | .sl j e lo len c => if Nat.beq j i then .fs e ((l.drop lo).take len) c else .sl j e lo len c
  | .ptr j p t => if Nat.beq j i then .fptr t (v.get p) else .ptr j p t
  | .rp j k p t => if Nat.beq j i then .undef else .rp j k p t
  | .av j p t k => if Nat.beq j i then .undef else .av j p t k
  | .fn f caps => .fn f (E.frzL i v l caps)
  | .tup m => .tup (E.frzL i v l m)
  | e => e
def E.frzL (i : Nat) (v : V) (l : List V) : List E → List E
  | [] => []
  | e :: es => e.frz i v l :: E.frzL i v l es
end

def Obj.frz (i : Nat) (v : V) (l : List V) : Obj → Obj
  | .var t e => .var t (e.frz i v l)
  | .erow t es => .erow t (E.frzL i v l es)
  | o => o

def Tm.frz (i : Nat) (v : V) (l : List V) (tm : Tm) : Tm := tm.map fun x => (x.1, x.2.1, x.2.2.frz i v l)

def St.frz (i : Nat) (v : V) (l : List V) (σ : St) : St := { σ with tm := Tm.frz i v l σ.tm, ob := (σ.ob.map (Obj.frz i v l)).set i .dead, out := σ.out.map (Tm.frz i v l) }

/-- An object's block holds the data. -/
def Frozen (T : Tab) (w : World) (F : Nat → Prop) (v : V) (l : List V) : RI → Prop
  | .none => True
  | .var b t => F b ∧ ∃ cs, Seg w b 0 cs ∧ Fits T w F t v cs
  | .row e r => ∀ b n cap, r = .slice (some ⟨b, 0, none⟩) n cap → F b ∧ n = l.length ∧ ∃ cs, Seg w b 0 cs ∧ FitsL T w F (List.replicate l.length e) l cs

mutual
theorem ERel.frozen (hS : T.Sized) {i : Nat} {v : V} {l : List V} (hF : ∀ b, F b → F' b) (hz : Frozen T w F' v l (ρ i)) : ∀ {e : E} {x : Value}, ERel T w F ρ e x → ERel T w F' (upd ρ i .none) (e.frz i v l) x
  | .int _ _, _, h => h
  | .bool _, _, h => h
  | .str _, _, h => h
  | .data _ _, _, ⟨cs, h1, h2, h3⟩ => ⟨cs, h1, h2, h3.mono hF (fun _ _ => rfl)⟩
  | .fs _ _ _, _, h => FRow.mono hF (fun _ _ => rfl) h
  | .sl j e lo len c, x, h => by
    unfold E.frz
    split
    · rename_i hj
      have hj : j = i := Nat.eq_of_beq_eq_true hj
      subst hj
      rcases h with ⟨h1, rfl, rfl, rfl⟩ | ⟨b, n, cap, off, h1, h2, h3, rfl, h5, h6⟩
      · exact .inl ⟨none, 0, rfl, by simp, fun _ => rfl, fun _ => rfl⟩
      · rw [h1] at hz
        obtain ⟨z1, z2, cs, z3, z4⟩ := hz b n cap rfl
        have hl : ((l.drop lo).take len).length = len := by simp; omega
        refine .inr ⟨b, off, (if c then len else cap - lo), (cs.drop (lo * T.sz e)).take (len * T.sz e), by rw [hl], by rw [hl]; split <;> omega, fun hc => by rw [hl, if_pos hc], z1, ?_, ?_⟩
        · rcases h6 with h6 | h6
          · subst h6
            intro j y hy
            simp at hy
          · have := z3.sub (lo * T.sz e) (len * T.sz e)
            rw [Nat.zero_add] at this
            rw [h6]
            exact this
        · rw [hl]
          exact z4.slice hS (by omega)
    · rename_i hj
      have hj : j ≠ i := fun e => hj (by simp [e])
      unfold ERel at h ⊢
      rw [upd_ne ρ _ hj]; exact h
  | .nilsl, _, h => h
  | .ptr j p t, x, h => by
    unfold E.frz
    split
    · rename_i hj
      have hj : j = i := Nat.eq_of_beq_eq_true hj
      subst hj
      obtain ⟨b, root, off, h1, h2, rfl⟩ := h
      rw [h1] at hz
      obtain ⟨z1, cs, z2, z3⟩ := hz
      obtain ⟨g1, g2⟩ := h2.get hS z3
      refine ⟨b, off, _, rfl, z1, ?_, g1⟩
      have := z2.sub off (T.sz t)
      rwa [Nat.zero_add] at this
    · rename_i hj
      have hj : j ≠ i := fun e => hj (by simp [e])
      unfold ERel at h ⊢
      rw [upd_ne ρ _ hj]; exact h
  | .rp j k p t, x, h => by
    unfold E.frz
    split
    · trivial
    · rename_i hj
      have hj : j ≠ i := fun e => hj (by simp [e])
      unfold ERel at h ⊢
      rw [upd_ne ρ _ hj]; exact h
  | .av j p t k, x, h => by
    unfold E.frz
    split
    · trivial
    · rename_i hj
      have hj : j ≠ i := fun e => hj (by simp [e])
      unfold ERel at h ⊢
      rw [upd_ne ρ _ hj]; exact h
  | .fptr _ _, _, ⟨b, off, cs, h1, h2, h3, h4⟩ => ⟨b, off, cs, h1, hF _ h2, h3, h4.mono hF (fun _ _ => rfl)⟩
  | .fn _ _, _, ⟨cs, h1, h2⟩ => ⟨cs, h1, ERelL.frozen hS hF hz h2⟩
  | .nilfn, _, h => h
  | .tup _, _, ⟨vs, h1, h2⟩ => ⟨vs, h1, ERelL.frozen hS hF hz h2⟩
  | .undef, _, _ => trivial
theorem ERelL.frozen (hS : T.Sized) {i : Nat} {v : V} {l : List V} (hF : ∀ b, F b → F' b) (hz : Frozen T w F' v l (ρ i)) : ∀ {m : List E} {xs : List Value}, ERelL T w F ρ m xs → ERelL T w F' (upd ρ i .none) (E.frzL i v l m) xs
  | [], [], h => h
  | _ :: _, _ :: _, ⟨h1, h2⟩ => ⟨ERel.frozen hS hF hz h1, ERelL.frozen hS hF hz h2⟩
  | [], _ :: _, h => h.elim
  | _ :: _, [], h => h.elim
end

theorem frz_data {i : Nat} {v : V} {l : List V} {e : E} {t : TypeId} {x : V} (h : e.frz i v l = .data t x) : e = .data t x := by
  cases e <;> simp [E.frz] at h ⊢ <;> first | exact h | (split at h <;> cases h)

theorem TmRel.frozen (hS : T.Sized) {i : Nat} {v : V} {l : List V} (hF : ∀ b, F b → F' b) (hz : Frozen T w F' v l (ρ i)) {tm : Tm} {tmps : Array Value} (h : TmRel T w F ρ tm tmps) : TmRel T w F' (upd ρ i .none) (Tm.frz i v l tm) tmps := by
  intro t g e he
  unfold Tm.frz at he
  rw [lookup_map (E.frz i v l)] at he
  cases hl : tm.lookup t with
  | none => rw [hl] at he; cases he
  | some x =>
    obtain ⟨g', e'⟩ := x
    rw [hl] at he
    simp at he
    obtain ⟨rfl, rfl⟩ := he
    obtain ⟨v, h1, h2, h3⟩ := h t _ _ hl
    exact ⟨v, h1, fun hg => (h2 hg).frozen hS hF hz, h3⟩

theorem OutRel.frozen (hS : T.Sized) {i : Nat} {v : V} {l : List V} (hF : ∀ b, F b → F' b) (hz : Frozen T w F' v l (ρ i)) : ∀ {m : List Tm} {vs : List (Array Value)}, OutRel T w F ρ m vs → OutRel T w F' (upd ρ i .none) (m.map (Tm.frz i v l)) vs
  | [], [], h => h
  | _ :: _, _ :: _, ⟨h1, h2⟩ => ⟨h1.frozen hS hF hz, OutRel.frozen hS hF hz h2⟩
  | [], _ :: _, h => h.elim
  | _ :: _, [], h => h.elim

theorem frzL_length (i : Nat) (v : V) (l : List V) : ∀ m : List E, (E.frzL i v l m).length = m.length
  | [] => rfl
  | _ :: m => by simp [E.frzL, frzL_length i v l m]

theorem St.le.frz_aux (hS : T.Sized) {i : Nat} {v : V} {l : List V} (hi : i < σ.ob.length) (hz : ∀ w F ρ w0 tmps outs, Rel T w F ρ w0 σ tmps outs → Frozen T w (fun b => F b ∨ (ρ i).block = some b) v l (ρ i)) : St.le T σ (σ.frz i v l) := by
  intro w F ρ w0 tmps outs h
  have hz := hz w F ρ w0 tmps outs h
  have hF : ∀ b, F b → F b ∨ (ρ i).block = some b := fun _ h => .inl h
  refine ⟨fun b => F b ∨ (ρ i).block = some b, upd ρ i .none, h.tm.frozen hS hF hz, h.out.frozen hS hF hz, ?_, ?_, ?_, ?_, h.below, h.size, fun b hb => hb.elim (h.fold b) fun hb => .inl (h.own hb).2.2⟩
  · intro j o' hj
    by_cases hji : j = i
    · subst hji
      simp [St.frz, hi] at hj
      subst hj
      rw [upd_self]
      rfl
    · simp only [St.frz, List.getElem?_set_ne (Ne.symm hji), List.getElem?_map] at hj
      cases hoj : σ.ob[j]? with
      | none => rw [hoj] at hj; cases hj
      | some oj =>
        rw [hoj] at hj
        simp at hj
        subst hj
        rw [upd_ne ρ _ hji]
        have h1 := h.ob j oj hoj
        have hn : ∀ b, (ρ j).block = some b → ¬ (F b ∨ (ρ i).block = some b) := fun b hb hc => hc.elim (h.own hb).2.1 (fun hc => hji (h.inj j i b hb hc))
        cases oj with
        | dead => cases hρ : ρ j <;> rw [hρ] at h1 <;> exact h1
        | row e m =>
          cases hρ : ρ j with
          | none => rw [hρ] at h1; exact h1.elim
          | var _ _ => rw [hρ] at h1; exact h1.elim
          | row e' r =>
            rw [hρ] at h1 hn
            obtain ⟨q1, q2, xs, q3, q4⟩ := h1
            exact ⟨q1, fun b hb => hn b hb, xs, q3, q4.mono hF (fun _ _ => rfl)⟩
        | erow e m =>
          cases hρ : ρ j with
          | none => rw [hρ] at h1; exact h1.elim
          | var _ _ => rw [hρ] at h1; exact h1.elim
          | row e' r =>
            rw [hρ] at h1 hn
            obtain ⟨q1, q2, q0, xs, q3, q4, q5⟩ := h1
            exact ⟨q1, fun b hb => hn b hb, q0, xs, by rw [frzL_length]; exact q3, q4.frozen hS hF hz, q5⟩
        | var t e =>
          cases hρ : ρ j with
          | none => rw [hρ] at h1; exact h1.elim
          | row _ _ => rw [hρ] at h1; exact h1.elim
          | var b t' =>
            rw [hρ] at h1 hn
            obtain ⟨⟨q1, q2, q3⟩, q4, q5, cs, ct, x, q6, q7, q8⟩ := h1
            exact ⟨⟨q1, q2, fun u x hx => q3 u x (frz_data hx)⟩, q4, hn b rfl, cs, ct, x, q6, q7.frozen hS hF hz, q8⟩
  · intro j hj
    simp [St.frz] at hj
    rw [upd_ne ρ _ (by omega)]
    exact h.free j (by simp; omega)
  · intro p q b hp hq
    unfold upd at hp hq
    split at hp <;> split at hq
    · omega
    · simp [RI.block] at hp
    · simp [RI.block] at hq
    · exact h.inj p q b hp hq
  · rintro b (hb | hb)
    · exact h.fsub b hb
    · exact (h.own hb).1

/-- A variable is written no more. -/
theorem St.le.frz (hS : T.Sized) (i : Nat) {t : TypeId} {v : V} (ho : σ.ob[i]? = some (.var t (.data t v))) : St.le T σ (σ.frz i v []) := by
  refine St.le.frz_aux hS (List.getElem?_eq_some_iff.1 ho).1 ?_
  intro w F ρ w0 tmps outs h
  have h1 := h.ob i _ ho
  cases hρ : ρ i with
  | none => rw [hρ] at h1; exact h1.elim
  | row _ _ => rw [hρ] at h1; exact h1.elim
  | var b t' =>
    rw [hρ] at h1
    obtain ⟨⟨rfl, q2, q3⟩, q4, q5, cs, ct, x, q6, ⟨cs', rfl, hA, hf⟩, q8, _⟩ := h1
    have hcs : cs' = cs := by have := q8.2; rw [if_pos hA] at this; simpa using this
    subst hcs
    exact ⟨.inr rfl, cs'.toList, seg_all q6, hf.mono (fun _ x => .inl x) (fun _ _ => rfl)⟩

/-- A row is written no more. -/
theorem St.le.frzRow (hS : T.Sized) (i : Nat) {e : TypeId} {l : List V} (ho : σ.ob[i]? = some (.row e l)) : St.le T σ (σ.frz i default l) := by
  refine St.le.frz_aux hS (List.getElem?_eq_some_iff.1 ho).1 ?_
  intro w F ρ w0 tmps outs h
  have h1 := h.ob i _ ho
  cases hρ : ρ i with
  | none => rw [hρ] at h1; exact h1.elim
  | var _ _ => rw [hρ] at h1; exact h1.elim
  | row e' r =>
    rw [hρ] at h1
    obtain ⟨rfl, q2, xs, q3, q4⟩ := h1
    intro b n cap hr
    subst hr
    refine ⟨.inr rfl, ?_⟩
    rcases q3.2 with ⟨q, _⟩ | ⟨b', cap', cur, hr, hb, hh, hn', hc', hs', htk⟩
    · cases q
    · cases hr
      refine ⟨rfl, xs, ?_, q4.mono (fun _ x => .inl x) (fun _ _ => rfl)⟩
      have := seg_of_cells (w := w) hh 0 (l.length * T.sz e')
      rwa [List.drop_zero, htk] at this

theorem i64min : IntKind.i64.min = -9223372036854775808 := rfl
theorem i64max : IntKind.i64.max = 9223372036854775807 := rfl
theorem u64min : IntKind.u64.min = 0 := rfl
theorem u64max : IntKind.u64.max = 18446744073709551615 := rfl
theorem u32min : IntKind.u32.min = 0 := rfl
theorem u32max : IntKind.u32.max = 4294967295 := rfl
theorem u8min : IntKind.u8.min = 0 := rfl
theorem u8max : IntKind.u8.max = 255 := rfl

end Go.Eng
