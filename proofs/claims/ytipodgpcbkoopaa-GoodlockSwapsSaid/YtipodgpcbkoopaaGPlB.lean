/- Choosing edges of unlike goroutines, and closing rings with kinds of edges, come to the same. -/
import Derived.Test.YtipodgpcbkoopaaGW35
namespace Go.Eng.Try
set_option linter.unusedSimpArgs false
set_option linter.unusedVariables false
open Go.Eng

def takenOf (so : List Edge) : List Bool := (List.range 6).map fun (g : Nat) => so.any fun a => decide (a.go = (g : Int))
def locksOf (t : List Event) (so : List Edge) : List Bool := (List.range 4).map fun x => so.any fun a => (heldOf t a.event.toNat).getD x default

theorem takenOf_at {so : List Edge} {e : Edge} (h0 : 0 ≤ e.go) (h6 : e.go < 6) : (takenOf so).getD e.go.toNat default = so.any fun a => decide (a.go = e.go) := by
  unfold takenOf
  rw [rows_getD (by omega), show ((e.go.toNat : Nat) : Int) = e.go by omega]
theorem takenOf_set {so : List Edge} {e : Edge} (h0 : 0 ≤ e.go) (h6 : e.go < 6) : (takenOf so).set e.go.toNat true = takenOf (so ++ [e]) := by
  unfold takenOf
  rw [rows_set (by omega)]
  apply List.map_congr_left
  intro g _
  by_cases hg : g = e.go.toNat
  · rw [if_pos hg, List.any_append, List.any_cons, decide_eq_true (show e.go = (g : Int) by omega)]; simp
  · rw [if_neg hg, List.any_append, List.any_cons, decide_eq_false (show ¬ e.go = (g : Int) by omega)]; simp
theorem locksOf_merge {t : List Event} {so : List Edge} {e : Edge} : merge (locksOf t so) (heldOf t e.event.toNat) = locksOf t (so ++ [e]) := by
  unfold merge locksOf
  apply List.map_congr_left
  intro x hx
  rw [rows_getD (List.mem_range.1 hx), List.any_append]; simp
theorem locksOf_meets {t : List Event} {so : List Edge} {e : Edge} : meets (locksOf t so) (heldOf t e.event.toNat) = so.any fun a => (List.range 4).any fun n => (heldOf t a.event.toNat).getD n default && (heldOf t e.event.toNat).getD n default := by
  unfold meets locksOf
  rw [Bool.eq_iff_iff]
  simp only [List.any_eq_true, Bool.and_eq_true, List.mem_range]
  constructor
  · rintro ⟨n, hn, h1, h2⟩
    rw [rows_getD hn, List.any_eq_true] at h1
    obtain ⟨a, ha, h1⟩ := h1
    exact ⟨a, ha, n, hn, h1, h2⟩
  · rintro ⟨a, ha, n, hn, h1, h2⟩
    exact ⟨n, hn, by rw [rows_getD hn, List.any_eq_true]; exact ⟨a, ha, h1⟩, h2⟩
theorem any_or {α : Type} (l : List α) (p q : α → Bool) : (l.any fun a => p a || q a) = (l.any p || l.any q) := by
  induction l with
  | nil => rfl
  | cons a l ih => simp only [List.any_cons, ih]; cases p a <;> cases q a <;> cases l.any p <;> rfl
theorem any_kinds (t : List Event) (f : Kind → Bool) : (kinds t).any f = (edges t).any fun e => f (kindOf t e) := by
  rw [Bool.eq_iff_iff]
  simp only [List.any_eq_true]
  constructor
  · rintro ⟨k, hk, h⟩
    obtain ⟨e, he, rfl⟩ := kinds_mem.1 hk
    exact ⟨e, he, h⟩
  · rintro ⟨e, he, h⟩
    exact ⟨kindOf t e, kinds_mem.2 ⟨e, he, rfl⟩, h⟩
theorem any_congr {α : Type} {l : List α} {p q : α → Bool} (h : ∀ a ∈ l, p a = q a) : l.any p = l.any q := by
  induction l with
  | nil => rfl
  | cons a l ih => rw [List.any_cons, List.any_cons, h a (by simp), ih fun b hb => h b (by simp [hb])]
theorem edge_go {t : List Event} (h6 : ∀ e ∈ t, e.touch.length = 6) (hr : t.all right = true) {e : Edge} (he : e ∈ edges t) : 0 ≤ e.go ∧ e.go < 6 := by
  have := kinds_ok h6 hr (kindOf t e) (kinds_mem.2 ⟨e, he, rfl⟩)
  exact ⟨this.1, this.2.1⟩

theorem chosen_closes {t : List Event} (h6 : ∀ e ∈ t, e.touch.length = 6) (hr : t.all right = true) (ring : List Int) {fit : Edge → Edge → Bool} {ap : Bool}
    (hfit : ∀ so e, clashes fit so e = ((so.any fun a => decide (a.go = e.go)) || (ap && meets (locksOf t so) (heldOf t e.event.toNat)))) :
    ∀ (n : Nat) (so : List Edge), chosen fit ring (edges t) n so = closes (kinds t) ring ap n so.length (takenOf so) (locksOf t so) := by
  intro n
  induction n with
  | zero => intro so; rfl
  | succ n ih =>
    intro so
    unfold chosen closes
    rw [any_kinds]
    apply any_congr
    intro e he
    obtain ⟨g0, g6⟩ := edge_go h6 hr he
    have e1 : picksK ring so.length (kindOf t e) = picks ring so.length e := rfl
    have e2 : (takenOf so).getD (kindOf t e).g.toNat default = so.any fun a => decide (a.go = e.go) := takenOf_at g0 g6
    have e3 : (takenOf so).set (kindOf t e).g.toNat true = takenOf (so ++ [e]) := takenOf_set g0 g6
    have e4 : merge (locksOf t so) (kindOf t e).held = locksOf t (so ++ [e]) := locksOf_merge
    have e5 : (kindOf t e).held = heldOf t e.event.toNat := rfl
    rw [e1, e2, e3, e4, e5, hfit so e, ih (so ++ [e]), List.length_append]
    simp only [List.length_cons, List.length_nil, Nat.zero_add, Bool.not_or]
    cases picks ring so.length e <;> cases (so.any fun a => decide (a.go = e.go)) <;> cases (ap && meets (locksOf t so) (heldOf t e.event.toNat)) <;> rfl

theorem takenOf_nil : takenOf [] = List.replicate 6 false := rfl
theorem locksOf_nil (t : List Event) : locksOf t [] = List.replicate 4 false := rfl
theorem isRing_testK {t : List Event} (h6 : ∀ e ∈ t, e.touch.length = 6) (hr : t.all right = true) : isRing (fun _ _ => true) (edges t) = testK (kinds t) := by
  funext l
  unfold isRing testK closesFrom
  rw [chosen_closes h6 hr l (ap := false) (fun so e => by unfold clashes; simp)]
  rfl
theorem rings_eq {t : List Event} (h6 : ∀ e ∈ t, e.touch.length = 6) (hr : t.all right = true) : ringsOf (edges t) = ringsK t := by
  unfold ringsOf ringsK; rw [isRing_testK h6 hr]
theorem apart_eq {t : List Event} (h6 : ∀ e ∈ t, e.touch.length = 6) (hr : t.all right = true) (ring : List Int) : chosen (apartB t) ring (edges t) ring.length [] = closesFrom (kinds t) ring true := by
  unfold closesFrom
  rw [chosen_closes h6 hr ring (ap := true) (fun so e => ?_)]
  · rfl
  · unfold clashes apartB
    simp only [Bool.not_not, Bool.true_and]
    rw [any_or, locksOf_meets]
theorem guardErr_eq {t : List Event} (h6 : ∀ e ∈ t, e.touch.length = 6) (ring : List Int) : guardErr t ring = guardErrK t ring := by
  unfold guardErr guardErrK
  by_cases hc : check t = 0
  · rw [rings_eq h6 (check_right hc)]
  · simp [hc]
theorem guardRes_eq {t : List Event} (h6 : ∀ e ∈ t, e.touch.length = 6) (ring : List Int) : guardRes t ring = guardResK t ring := by
  unfold guardRes guardResK
  rw [guardErr_eq h6]
  by_cases hc : check t = 0
  · rw [apart_eq h6 (check_right hc)]
  · have : ¬ guardErrK t ring = 0 := by unfold guardErrK; simp [hc]
    rw [if_neg this, if_neg this]
end Go.Eng.Try
