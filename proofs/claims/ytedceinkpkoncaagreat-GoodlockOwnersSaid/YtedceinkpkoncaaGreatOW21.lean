/- A part of the proof: walks through the program's functions, and what they compute. -/
import Derived.Test.YtedceinkpkoncaaGreatSAttr
import Derived.Test.YtedceinkpkoncaaGreatM1
import Derived.Test.YtedceinkpkoncaaGreatE4
import Derived.Test.YtedceinkpkoncaaGreatOW20
namespace Go.Eng.Tryz.O
set_option maxHeartbeats 0
set_option maxRecDepth 20000
open Go.RowKit Go.Eng
set_option linter.unusedSimpArgs false
set_option linter.unusedVariables false

theorem heldsTo_at {t : List Event} {n i : Nat} (h : i < n) (d : V) : (heldsTo t n).getD i d = .agg ((heldOf t i).map V.bool) := rows_getD h _ d
theorem take_map_len {α : Type} (f : α → V) (l : List α) : List.take l.length (l.map f) = l.map f := List.take_of_length_le (by simp)
theorem locksTo_other {t : List Event} {j : Nat} (h : j < t.length) {g : Int} (hg : (t.getD j default).go ≠ g) : locksTo t (j + 1) g = locksTo t j g := by rw [locksTo_succ t h, if_neg hg]
theorem locksTo_same {t : List Event} {j : Nat} (h : j < t.length) {g : Int} (hg : (t.getD j default).go = g) {X : List Bool} (hX : lockStep (locksTo t j g) (t.getD j default) = X) : locksTo t (j + 1) g = X := by rw [locksTo_succ t h, if_pos hg, hX]
theorem op_yes {a b : Int} (h : (bif decide (a = 55) then true else bif decide (a = 57) then decide (b = 1) else false) = true) : a = 55 ∨ (a = 57 ∧ b = 1) := by
  cases h1 : decide (a = 55) <;> cases h2 : decide (a = 57) <;> simp [h1, h2] at h <;> simp_all
theorem op_no {a b : Int} (h : (bif decide (a = 55) then true else bif decide (a = 57) then decide (b = 1) else false) = false) : ¬ (a = 55 ∨ (a = 57 ∧ b = 1)) := by
  rintro (h1 | ⟨h1, h2⟩)
  · rw [decide_eq_true h1] at h; cases h
  · rw [decide_eq_true h1, decide_eq_true h2] at h; cases h55 : decide (a = 55) <;> rw [h55] at h <;> cases h
theorem edgesAt_hit {t : List Event} {k n : Nat} (h : (bif (heldOf t k).getD n default then !decide ((n : Int) = lockOf (t.getD k default)) else false) = true) : edgesAt t k (n + 1) = edgesAt t k n ++ [⟨n, lockOf (t.getD k default), (t.getD k default).go, k⟩] := by
  rw [edgesAt_succ, if_pos]
  cases h1 : (heldOf t k).getD n false with
  | false => rw [show (heldOf t k).getD n default = (heldOf t k).getD n false from rfl, h1] at h; cases h
  | true => rw [show (heldOf t k).getD n default = (heldOf t k).getD n false from rfl, h1] at h; simpa using h
theorem edgesAt_miss {t : List Event} {k n : Nat} (h : (bif (heldOf t k).getD n default then !decide ((n : Int) = lockOf (t.getD k default)) else false) = false) : edgesAt t k (n + 1) = edgesAt t k n := by
  rw [edgesAt_succ, if_neg, List.append_nil]
  cases h1 : (heldOf t k).getD n false with
  | false => simp
  | true => rw [show (heldOf t k).getD n default = (heldOf t k).getD n false from rfl, h1] at h; simpa using h
theorem takes_no {a b : Int} (h : (bif !decide (a = 55) then true else decide (b < 0)) = true) : (decide (a = 55) && decide (0 ≤ b)) = false := by
  cases h1 : decide (a = 55) with
  | false => rfl
  | true => rw [h1] at h; simp at h; simp; omega
theorem takes_yes {a b : Int} (h : (bif !decide (a = 55) then true else decide (b < 0)) = false) : (decide (a = 55) && decide (0 ≤ b)) = true := by
  cases h1 : decide (a = 55) with
  | false => rw [h1] at h; cases h
  | true => rw [h1] at h; simp at h; simp; omega

attribute [local go_sem] concat_at List.length_map List.length_range zero52 z52 z3 z4 z79 z89 z55 z53 z50 z2 zero53 z78 z117 zero79 zero78 zero117 zero89 zero55 Int.toNat_natCast Int.natCast_zero Event.v0 Event.v3 Event.v5 Event.v7 Event.v8 Access.v0 Access.v1 Access.v2 beq_acc Edge.v0 Edge.v1 Edge.v2 Edge.v3 heldOf_len boolsV locksTo_len heldsTo_len nowL_len
end Go.Eng.Tryz.O
