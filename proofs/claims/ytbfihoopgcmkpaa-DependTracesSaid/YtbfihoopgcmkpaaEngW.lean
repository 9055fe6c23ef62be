/- Rows whose elements are slices of other own rows: from data, and back. -/
import Derived.Test.YtbfihoopgcmkpaaEngV
namespace Go.Eng
set_option linter.unusedSimpArgs false
set_option linter.unusedVariables false
open Go.RowKit

variable {P : Program} {T : Tab} {w w' : World} {w0 : Base} {F F' : Nat → Prop} {ρ ρ' : Nat → RI} {σ σ' : St} {a : Act} {outs : List (Array Value)}

theorem fits_E (hS : T.Sized) {e : TypeId} (hs : T.sz e = 1) (hA : (T.ty e).isAgg = false) : ∀ {l : List V} {xs : List Value}, FitsL T w F (List.replicate l.length e) l xs → ERelL T w F ρ (l.map (fromV T e)) xs
  | [], xs, h => by
    cases h
    trivial
  | v :: l, xs, h => by
    rw [List.length_cons, List.replicate_succ] at h
    cases h with
    | cons h1 h2 =>
      rename_i c cs
      have hl := h1.len hS
      rw [hs] at hl
      obtain ⟨x, rfl⟩ : ∃ x, c = [x] := by
        cases c with
        | nil => simp at hl
        | cons x c => cases c with
          | nil => exact ⟨x, rfl⟩
          | cons => simp at hl
      exact ⟨fromV_rel h1 (by unfold ValOf; rw [hA]; rfl), fits_E hS hs hA h2⟩

/-- A row of data is a row of values. -/
theorem St.le.toE (hS : T.Sized) (i : Nat) {e : TypeId} {l : List V} (ho : σ.ob[i]? = some (.row e l)) (hs : T.sz e = 1) (hA : (T.ty e).isAgg = false) (hn : T.ty e ≠ .other) :
    St.le T σ { σ with ob := σ.ob.set i (.erow e (l.map (fromV T e))) } := by
  intro w F ρ w0 tmps outs h
  have hi : i < σ.ob.length := (List.getElem?_eq_some_iff.1 ho).1
  refine ⟨F, ρ, h.tm, h.out, ?_, ?_, h.inj, h.fsub, h.below, h.size, h.fold⟩
  · intro j o hj
    by_cases hji : j = i
    · subst hji
      simp [hi] at hj
      subst hj
      have h1 := h.ob _ _ ho
      cases hρ : ρ j with
      | none => rw [hρ] at h1; exact h1.elim
      | var _ _ => rw [hρ] at h1; exact h1.elim
      | row e' r =>
        rw [hρ] at h1
        obtain ⟨rfl, q2, xs, q3, q4⟩ := h1
        exact ⟨rfl, q2, ⟨hs, hA, hn⟩, xs, by rw [List.length_map]; exact q3, fits_E hS hs hA q4, q4.onesL⟩
    · simp only [List.getElem?_set_ne (Ne.symm hji)] at hj
      exact h.ob j o hj
  · intro j hj
    simp at hj
    exact h.free j (by simp; omega)

theorem E_fits {e : TypeId} : ∀ {l : List E} {vs : List V} {xs : List Value}, l.map (toV T e) = vs.map some → ERelL T w F ρ l xs → (∀ x ∈ xs, x.oneCell' = true) → FitsL T w F (List.replicate vs.length e) vs xs
  | [], [], [], _, _, _ => .nil
  | x :: l, v :: vs, y :: ys, h, ⟨h1, h2⟩, h3 => by
    simp only [List.map_cons, List.cons.injEq] at h
    have hf := (toV_fits h1 h.1).1
    have hc : y.cells = #[y] := by have := h3 y (by simp); cases y <;> simp_all [Value.cells, Value.oneCell']
    rw [hc] at hf
    rw [List.length_cons, List.replicate_succ]
    exact .cons hf (E_fits h.2 h2 (fun x hx => h3 x (by simp [hx])))
  | [], _ :: _, _, h, _, _ => by simp at h
  | _ :: _, [], _, h, _, _ => by simp at h
  | [], [], _ :: _, _, h, _ => h.elim
  | _ :: _, _ :: _, [], _, h, _ => h.elim

/-- .. and back, where its values are data. -/
theorem St.le.ofE (i : Nat) {e : TypeId} {l : List E} {vs : List V} (ho : σ.ob[i]? = some (.erow e l)) (hv : l.map (toV T e) = vs.map some) :
    St.le T σ { σ with ob := σ.ob.set i (.row e vs) } := by
  intro w F ρ w0 tmps outs h
  have hi : i < σ.ob.length := (List.getElem?_eq_some_iff.1 ho).1
  have hlen : l.length = vs.length := by have := congrArg List.length hv; simpa using this
  refine ⟨F, ρ, h.tm, h.out, ?_, ?_, h.inj, h.fsub, h.below, h.size, h.fold⟩
  · intro j o hj
    by_cases hji : j = i
    · subst hji
      simp [hi] at hj
      subst hj
      have h1 := h.ob _ _ ho
      cases hρ : ρ j with
      | none => rw [hρ] at h1; exact h1.elim
      | var _ _ => rw [hρ] at h1; exact h1.elim
      | row e' r =>
        rw [hρ] at h1
        obtain ⟨rfl, q2, q0, xs, q3, q4, q5⟩ := h1
        exact ⟨rfl, q2, xs, by rw [← hlen]; exact q3, E_fits hv q4 q5⟩
    · simp only [List.getElem?_set_ne (Ne.symm hji)] at hj
      exact h.ob j o hj
  · intro j hj
    simp at hj
    exact h.free j (by simp; omega)

theorem frzL_map (i : Nat) (v : V) (l : List V) : ∀ m : List E, E.frzL i v l m = m.map (E.frz i v l)
  | [] => rfl
  | e :: m => by simp [E.frzL, frzL_map i v l m]

/-- The rows of a row of rows, all written no more: it is data. -/
theorem St.le.frzAll (hS : T.Sized) {tm : Tm} {out : List Tm} {nt : Nat} {e e2 : TypeId} {n : Nat} (c : Nat → List V) (hc : ∀ k, k < n → (c k).length = n) (he : T.ty e = .slice e2)
    (htm : ∀ i v l, Tm.frz (i + 1) v l tm = tm) (hout : ∀ i v l, out.map (Tm.frz (i + 1) v l) = out) :
    St.le T { tm := tm, ob := .erow e ((List.range n).map fun k => .sl (k + 1) e2 0 n false) :: (List.range n).map (fun k => .row e2 (c k)), out := out, nt := nt }
      { tm := tm, ob := [.row e ((List.range n).map fun k => .list (c k))] ++ List.replicate n .dead, out := out, nt := nt } := by
  have key : ∀ m, m ≤ n → St.le T { tm := tm, ob := .erow e ((List.range n).map fun k => .sl (k + 1) e2 0 n false) :: (List.range n).map (fun k => .row e2 (c k)), out := out, nt := nt }
      { tm := tm, ob := .erow e ((List.range n).map fun k => if k < m then .fs e2 (c k) false else .sl (k + 1) e2 0 n false) :: (List.range n).map (fun k => if k < m then .dead else .row e2 (c k)), out := out, nt := nt } := by
    intro m
    induction m with
    | zero => intro _; exact St.le.of_eq (by simp)
    | succ m ih =>
      intro hm
      refine (ih (by omega)).trans ?_
      have hget : ({ tm := tm, ob := .erow e ((List.range n).map fun k => if k < m then .fs e2 (c k) false else .sl (k + 1) e2 0 n false) :: (List.range n).map (fun k => if k < m then .dead else .row e2 (c k)), out := out, nt := nt } : St).ob[m + 1]? = some (.row e2 (c m)) := by
        simp [show m < n by omega]
      refine (St.le.frzRow hS (m + 1) hget).trans (St.le.of_eq ?_)
      simp only [St.frz, htm, hout, List.map_cons, List.set_cons_succ, Obj.frz, frzL_map, List.map_map]
      congr 2
      · congr 1
        apply List.map_congr_left
        intro k hk
        have hk := List.mem_range.1 hk
        simp only [Function.comp]
        by_cases h1 : k < m
        · rw [if_pos h1, if_pos (by omega)]; rfl
        · rw [if_neg h1]
          by_cases h2 : k = m
          · subst h2
            rw [if_pos (by omega)]
            have : (c k).take n = c k := List.take_of_length_le (by rw [hc k hk]; exact Nat.le_refl _)
            simp [E.frz, this]
          · rw [if_neg (by omega)]
            have : Nat.beq (k + 1) (m + 1) = false := by
              cases hb : Nat.beq (k + 1) (m + 1) with
              | false => rfl
              | true => have := Nat.eq_of_beq_eq_true hb; omega
            simp only [E.frz, this, Bool.false_eq_true, if_false]
      · apply List.ext_getElem?
        intro k
        by_cases hk : k < n
        · by_cases h2 : k = m
          · subst h2
            simp [List.getElem?_set, hk]
          · rw [List.getElem?_set_ne (Ne.symm h2)]
            simp only [List.getElem?_map, List.getElem?_range hk, Option.map_some, Function.comp]
            by_cases h1 : k < m
            · rw [if_pos h1, if_pos (by omega)]; rfl
            · rw [if_neg h1, if_neg (by omega)]; rfl
        · rw [List.getElem?_eq_none (by simp; omega), List.getElem?_eq_none (by simp; omega)]
  refine (key n (Nat.le_refl _)).trans ?_
  refine (St.le.ofE 0 (e := e) (vs := (List.range n).map fun k => .list (c k)) rfl ?_).trans (St.le.of_eq ?_)
  · simp only [List.map_map]
    apply List.map_congr_left
    intro k hk
    have hk := List.mem_range.1 hk
    simp [hk, toV, he]
  · simp only [List.set_cons_zero, List.singleton_append]
    congr 2
    apply List.ext_getElem?
    intro k
    by_cases hk : k < n
    · simp [hk]
    · rw [List.getElem?_eq_none (by simp; omega), List.getElem?_eq_none (by simp; omega)]
end Go.Eng
