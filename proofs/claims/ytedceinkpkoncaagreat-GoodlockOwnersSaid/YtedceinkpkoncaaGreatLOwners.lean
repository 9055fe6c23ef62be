/- scarablaw25.GoodlockOwners returns true for any program, picks and budget, and the arguments read behind the call as they read before; there are no conditions. -/
import Derived.Test.YtedceinkpkoncaaGreatRows
import Derived.Test.YtedceinkpkoncaaGreatSW28
import Derived.Test.YtedceinkpkoncaaGreatSArg
import Derived.WalkKit
import Derived.ProofKit
import Derived.OpenShut
import Derived.ShutString
import Derived.ChangeOld
import Derived.Below
import Derived.SizedLaws
namespace Go.Proofs.YtedceinkpkoncaaGreat.goodlockOwners
set_option linter.unusedSimpArgs false
set_option linter.unusedVariables false
open Go.ChangeShapes Go.WideShapes Go.ChangeAt Go.RowKit Go.Eng Go.Eng.Tryz
set_option linter.unusedVariables false
theorem own : ownKnob Tryz.prog.godebug = none := by kernel_rfl
theorem laidOut : laidOutB Tryz.prog = true := by kernel_rfl
set_option maxRecDepth 100000 in
theorem lifted (os : Os) (started : os.Started) (H : Type) (enc : TypeId × Value → H) :
    ReturnsInHanded {} Tryz.checked os 3 .any (Rows.goodlockOwnersSpec.pre6 enc Tryz.prog Tryz.f3 Rows.goodlockOwnersRow.domain false) (Rows.goodlockOwnersSpec.post enc Tryz.prog Tryz.f3 false true false false) := by
  refine returnsInHanded_of_change_sized (C := Tryz.checked) own started (by kernel_rfl) Tryz.func3
    (ChangeSpec.witness6 (enc := enc) (C := Tryz.checked) false ⟨#[], #[.agg #[.slice none 0 0, .int .i64 0, .slice none 0 0, .slice none 0 0], .slice none 0 0, .agg #[.int .i64 0, .int .i64 0, .int .i64 0]], []⟩ 8 (by kernel_rfl) (by kernel_rfl) (by kernel_rfl) (by kernel_rfl)) ?_
  intro W base args ds gs before hval0 hW hcnd hsz0 _
  have hval : ∀ (j : Nat) t v, Tryz.f3.params[j]? = some t → args[j]? = some v → Value.okWide Tryz.prog W .any base t v := hval0
  have hW' := hW
  obtain ⟨p, q, hA0, hV, rfl, hfz, hnd⟩ := hW
  have hA : DataW.TrodAll enc Tryz.prog W 0 (fun _ => true) true Tryz.f3.params.toList args.toList ds p := hA0
  rw [Tryz.params3] at hA hval
  obtain ⟨v0, vs0, d0, ds0, p0, q0, hargs, rfl, rfl, h0, r0⟩ := trodAll_cons hA
  obtain ⟨v1, vs1, d1, ds1, p1, q1, rfl, rfl, rfl, h1, r1⟩ := trodAll_cons r0
  obtain ⟨v2, vs2, d2, ds2, p2, q2, rfl, rfl, rfl, h2, r2⟩ := trodAll_cons r1
  obtain ⟨rfl, rfl, rfl⟩ := trodAll_nil r2
  obtain rfl : args = #[v0, v1, v2] := by cases args; simp_all
  obtain ⟨rfl, rfl⟩ := trodVars_none hV
  have k0 := h0
  have lt0 : ∀ x ∈ p0, x.block < W.heap.size := by obtain ⟨m, hm⟩ := k0; exact DataW.trod_lt m _ _ _ hm
  have o0 := hval 0 26 v0 rfl rfl
  obtain ⟨x0, f0, w0, n0⟩ := deep_arg ok (t := 26) (by kernel_rfl) o0 h0
  obtain ⟨pr, rfl⟩ := fits_prog _ _ f0
  have hp := Prg.fit_of n0
  have k1 := h1
  have lt1 : ∀ x ∈ p1, x.block < W.heap.size := by obtain ⟨m, hm⟩ := k1; exact DataW.trod_lt m _ _ _ hm
  have o1 := hval 1 27 v1 rfl rfl
  obtain ⟨l1, f1, w1, n1⟩ := slice_arg ok rfl rfl o1 h1
  obtain ⟨pk, hpk⟩ := slice_of ty27 fits_pick f1
  cases hpk
  have hl : pk.length ≤ maxLen := by simpa using n1
  have k2 := h2
  have lt2 : ∀ x ∈ p2, x.block < W.heap.size := by obtain ⟨m, hm⟩ := k2; exact DataW.trod_lt m _ _ _ hm
  have o2 := hval 2 29 v2 rfl rfl
  obtain ⟨x2, f2, w2⟩ := flat_arg ok (t := 29) rfl o2 h2
  obtain ⟨bu, rfl⟩ := fits_budget _ _ f2
  clear hA0 hval0 hsz0
  have hlaw := Ctr.law (xs := [v0, v1, v2]) (W := W) (lawOwners_ctr pr pk bu hp hl) (ok.bool 4 rfl) (by exact ⟨⟨f0, w0⟩, ⟨f1, w1⟩, ⟨f2, w2⟩, trivial⟩) rfl trivial
  refine hlaw.mono fun e W' ⟨he, bel⟩ => ?_
  subst he
  exact ⟨_, rfl, _, _, _, [], _, [], hW', trodAll_mk1 (shut_bool (ok.bool 4 rfl) _), (trodAll_cons_mk (Below.trod laidOut (by kernel_rfl) (of_decide_eq_true (by kernel_rfl)) k0 bel lt0) (trodAll_cons_mk (Below.trod laidOut (by kernel_rfl) (of_decide_eq_true (by kernel_rfl)) k1 bel lt1) (trodAll_cons_mk (Below.trod laidOut (by kernel_rfl) (of_decide_eq_true (by kernel_rfl)) k2 bel lt2) trodAll_mk0))), rfl, bel.frame _, fun h => by cases h⟩
theorem over : Rows.goodlockOwnersRow.holds Tryz.pinned (OpenSpec.ofChange Rows.goodlockOwnersSpec) :=
  OpenClaim.holds_of_wide 3 Tryz.f3 rfl rfl rfl rfl rfl rfl rfl ⟨rfl, rfl, rfl, rfl, rfl⟩ rfl rfl rfl rfl rfl (by kernel_rfl) Tryz.func3 (by kernel_rfl)
    (of_decide_eq_true (by kernel_rfl)) (by unfold Func.isWrapper; first | (rw [if_pos (by decide +kernel)]; kernel_rfl) | (rw [if_neg (by decide +kernel)]; exact ⟨rfl, rfl⟩))
    (fun os started H enc _ => lifted os started H enc)
theorem proved : Rows.GoodlockOwnersSaid := over
end Go.Proofs.YtedceinkpkoncaaGreat.goodlockOwners
namespace Go.Proofs.YtedceinkpkoncaaGreat
/-- scarablaw25.GoodlockOwners returns true for any program, picks and budget, and the arguments read behind the call as they read before; there are no conditions. -/
theorem goodlockOwners_holds : Rows.GoodlockOwnersSaid := goodlockOwners.proved
end Go.Proofs.YtedceinkpkoncaaGreat
