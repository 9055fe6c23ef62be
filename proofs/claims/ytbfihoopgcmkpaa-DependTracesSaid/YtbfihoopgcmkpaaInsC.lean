/- slices.Insert, as a call of the engine. -/
import Derived.Test.YtbfihoopgcmkpaaInsB
namespace Go.Eng
set_option linter.unusedSimpArgs false
set_option linter.unusedVariables false
open Go.RowKit

theorem FitsL.onesAll {T : Tab} {w : World} {F : Nat → Prop} {ts : List TypeId} {l : List V} {cs : List Value} (h : FitsL T w F ts l cs) : ∀ u ∈ cs, u.oneCell' = true := fun u hu => h.onesL u hu

namespace Try
open Go.Proofs

theorem insertE {σ : St} {i j n at_ : Nat} {l : List V} {x : V} {cl : Bool} {K : St → E → Prop} (ho : σ.ob[i]? = some (.row 27 l)) (hj : σ.ob[j]? = some (.row 27 [x])) (hij : i ≠ j) (hn : n = l.length) (hat : at_ ≤ n) (hbig : (n + 1) * 24 ≤ 140737488355328)
    (h : K { (σ.kill i) with ob := (σ.kill i).ob.set i (.row 27 (l.take at_ ++ [x] ++ l.drop at_)) } (.sl i 27 0 (n + 1) false)) :
    CallE Try.prog tab σ 32 [.sl i 27 0 n false, .int .i64 at_, .sl j 27 0 1 cl] K := by
  subst hn
  refine ⟨enters_of Try.func32 (by kernel_rfl) (by kernel_rfl), ?_⟩
  intro w0 w F ρ tmps outs xs hR hx
  obtain ⟨v0, xs, rfl⟩ : ∃ v xs', xs = v :: xs' := by cases xs with | nil => exact hx.elim | cons v xs => exact ⟨v, xs, rfl⟩
  obtain ⟨v1, xs, rfl⟩ : ∃ v xs', xs = v :: xs' := by cases xs with | nil => exact hx.2.elim | cons v xs => exact ⟨v, xs, rfl⟩
  obtain ⟨v2, xs, rfl⟩ : ∃ v xs', xs = v :: xs' := by cases xs with | nil => exact hx.2.2.elim | cons v xs => exact ⟨v, xs, rfl⟩
  cases xs with
  | cons v xs => exact hx.2.2.2.elim
  | nil =>
  obtain ⟨hs, ⟨rfl, _⟩, hv, _⟩ := hx
  have hil : i < σ.ob.length := (List.getElem?_eq_some_iff.1 ho).1
  -- the row
  have hob := hR.ob _ _ ho
  obtain ⟨r0, hr0, q2, ys, q3, q4⟩ : ∃ r0, ρ i = .row 27 r0 ∧ (∀ b, r0.ownBlock = some b → ¬ F b) ∧ ∃ xs, w.ownsRow w0.w.heap.size 27 (tab.sz 27) r0 l.length xs ∧ FitsL tab w F (List.replicate l.length 27) l xs := by
    rcases hs with ⟨r1, _⟩ | ⟨b, n1, cap, off, r1, _⟩
    · rw [r1] at hob; obtain ⟨_, q2, ys, q3, q4⟩ := hob; exact ⟨_, r1, q2, ys, q3, q4⟩
    · rw [r1] at hob; obtain ⟨_, q2, ys, q3, q4⟩ := hob; exact ⟨_, r1, q2, ys, q3, q4⟩
  have hown : w.ownsRow w0.w.heap.size 27 3 v0 l.length ys ∧ v0.ownBlock = r0.ownBlock := by
    rcases hs with ⟨r1, v1, _, n0⟩ | ⟨b, n1, cap, off, r1, b1, b2, v1, b3, _⟩
    · rw [hr0] at r1; cases r1
      refine ⟨?_, by rw [v1]⟩
      rw [v1]; exact q3
    · rw [hr0] at r1; cases r1
      have := b3 rfl
      subst this
      rcases q3.2 with ⟨q, _⟩ | ⟨b', cap', cur, hr, hb, hh, hn', hc', hs', htk⟩
      · cases q
      · cases hr
        rw [v1]
        exact ⟨⟨q3.1, .inr ⟨b, cap, cur, rfl, hb, hh, by omega, hc', hs', htk⟩⟩, rfl⟩
  -- what goes in
  have hobj := hR.ob _ _ hj
  obtain ⟨vb, vc, curv, vs, hv2, hρj, hhv, hvs, hvf⟩ : ∃ vb vc curv vs, v2 = .slice (some ⟨vb, 0, none⟩) 1 vc ∧ (ρ j).block = some vb ∧ w.heap[vb]? = some (.cells curv 27 (0, 0)) ∧ Seg w vb 0 vs ∧ FitsL tab w F [27] [x] vs := by
    rcases hv with ⟨r1, v1, _, n0⟩ | ⟨b, n1, cap, off, r1, b1, b2, v1, b3, _⟩
    · cases n0
    · rw [r1] at hobj
      obtain ⟨_, p2, zs, p3, p4⟩ := hobj
      have := b3 rfl
      subst this
      rcases p3.2 with ⟨q, _⟩ | ⟨b', cap', cur, hr, hb, hh, hn', hc', hs', htk⟩
      · cases q
      · cases hr
        refine ⟨b, _, cur, zs, v1, by rw [r1]; rfl, hh, ?_, p4⟩
        have := seg_of_cells (w := w) hh 0 (1 * tab.sz 27)
        rw [List.drop_zero] at this
        rw [← htk]
        exact this
  subst hv2
  have hvl : vs.length = 3 := by have := hvf.len ok.sized; simpa [Tab.szs, sz27] using this
  have hne : v0.ownBlock ≠ some vb := fun e => by
    have h1 : (ρ i).block = some vb := by rw [hr0]; show r0.ownBlock = _; rw [← hown.2]; exact e
    exact hij (hR.inj i j vb h1 hρj)
  have hins := insert_own (i := at_) hR.below.size hown.1 hat hbig (vc := vc) hhv hvs hvl hne (fun u hu => q4.onesL u hu) (fun u hu => hvf.onesL u hu)
  refine Calls.mono hins ?_
  rintro en w' ⟨r, rfl, g1, g2, g3, g4, g5, g6, g7⟩
  have hlen : (l.take at_ ++ [x] ++ l.drop at_).length = l.length + 1 := by simp; omega
  have hoth : ∀ k, F k → w'.heap[k]? = w.heap[k]? := fun k hF => g2 k (hR.fsub k hF) (fun e => q2 k (by rw [← hown.2]; exact e) hF)
  have hrep : List.replicate (l.length + 1) 27 = List.replicate at_ 27 ++ [27] ++ List.replicate (l.length - at_) 27 := by
    rw [show ([27] : List TypeId) = List.replicate 1 27 from rfl, List.replicate_append_replicate, List.replicate_append_replicate]
    congr 1; omega
  have hf1 : FitsL tab w F (List.replicate at_ 27) (l.take at_) (ys.take (at_ * 3)) := by simpa [sz27] using q4.slice ok.sized (lo := 0) (m := at_) (by omega)
  have hf2 : FitsL tab w F (List.replicate (l.length - at_) 27) (l.drop at_) (ys.drop (at_ * 3)) := by
    have := q4.slice ok.sized (lo := at_) (m := l.length - at_) (by omega)
    have e1 : (l.drop at_).take (l.length - at_) = l.drop at_ := List.take_of_length_le (by simp)
    have hyl := q3.1
    have e2 : (ys.drop (at_ * tab.sz 27)).take ((l.length - at_) * tab.sz 27) = ys.drop (at_ * 3) := List.take_of_length_le (by
      rw [List.length_drop, hyl, Nat.sub_mul]; exact Nat.le_refl _)
    rw [e1, e2] at this
    exact this
  have := row_moved (T := tab) (w0 := w0) (F := F) (w' := w') (a := { tmps := tmps, defers := [] }) (outs := outs) hR hil (l := l.take at_ ++ [x] ++ l.drop at_) (r := r) (ys := ys.take (at_ * 3) ++ vs ++ ys.drop (at_ * 3)) hr0
    (fun k hk hb => g2 k hk (by rw [hown.2]; exact hb)) g3 g4 g5 g6 (fun b hb => by rw [← hown.2]; exact g7 b hb) (by rw [hlen]; exact g1)
    (by rw [hlen, hrep]; exact ((hf1.append hvf).append hf2).mono (fun _ x => x) hoth)
  rw [hlen] at this
  exact ⟨r, _, _, F, _, rfl, h, this.2, this.1⟩
end Try
end Go.Eng
