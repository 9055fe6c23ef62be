/-
  No cell of these rows narrows 'for every input' (looked for: loops, veiled, ifaces, maps, wideKeys, modest, calm, conditions, laid).
  DERIVED. THE GIVEN ROWS OF THIS SEAT. 5 by the template 'for every input the law returns true; each argument reads behind the call as it read before'; 0 by the template 'total and deterministic' (their statements: YtipodgpcbkoopaaTotals.lean).
  GIVEN WITH THE SEED: the statements are not yours to turn. If you find one false, say at which input.
  Laid BY PROGRAM, IN A SANDBOX (cutbox-rows.mjs): the forced cells as the released guide's own fill.sh prints them over the translation 1cdb87da8e2a503c… (all of the seat's roots in one cut). By AI agents, Wed Nov 11 2026. No macro, syntax, notation, axiom, sorry.
-/
import Derived.Test.YtipodgpcbkoopaaChecked
import GoSem.Claim
import GoSem.ClaimJoined
import GoSem.ClaimMapViews
import Derived.JoinedTies
import Derived.KernelRfl
namespace Go.Proofs.Ytipodgpcbkoopaa
/- THE CELL 'sum', in the pinned program and in every row, IS THE sha256 OF THE DUMP (.gsa) THAT YtipodgpcbkoopaaProg.lean LOADS. Nothing in Lean hashes anything: it is a label: what it is worth is what the hold of that sum in a sandbox is worth. -/
noncomputable def Try.pinned : Pinned := { name := "ytipodgpcbkoopaa", sum := "1cdb87da8e2a503c50cea6fa5ac3f247ad7f3e73caa827a5307e148fc965286d", checked := Try.checked }
namespace Rows
def none {H : Type} : Left H := { results := [], args := [] }

/-- 'scarablaw25.GoodlockRings': WHATEVER THE INPUT: true; the input reads as it did. -/
def goodlockRingsSpec : ChangeSpec := { name := "goodlockRings", fn := fun _ => fun
  | [d1, d2] => { results := [.lit (.bool true)], args := [d1, d2] }
  | _ => none }
def goodlockRingsRow : OpenClaim := { program := "ytipodgpcbkoopaa", sum := "1cdb87da8e2a503c50cea6fa5ac3f247ad7f3e73caa827a5307e148fc965286d", func := "scarab/scarablaw25.GoodlockRings", spec := "goodlockRings", unfollowed := true, recurses := true, apart := false }
def GoodlockRingsSaid : Prop := goodlockRingsRow.holds Try.pinned (OpenSpec.ofChange goodlockRingsSpec)

/-- ITS FALSE NEIGHBOUR: 'it returns false'. Refute it at one input. -/
def goodlockRingsWrong : ChangeSpec := { name := "goodlockRings", fn := fun _ => fun
  | [d1, d2] => { results := [.lit (.bool false)], args := [d1, d2] }
  | _ => none }
def GoodlockRingsWrongFalsely : Prop := goodlockRingsRow.holds Try.pinned (OpenSpec.ofChange goodlockRingsWrong)

/-- 'scarablaw25.GoodlockAlone': WHATEVER THE INPUT: true; the input reads as it did. -/
def goodlockAloneSpec : ChangeSpec := { name := "goodlockAlone", fn := fun _ => fun
  | [d] => { results := [.lit (.bool true)], args := [d] }
  | _ => none }
def goodlockAloneRow : OpenClaim := { program := "ytipodgpcbkoopaa", sum := "1cdb87da8e2a503c50cea6fa5ac3f247ad7f3e73caa827a5307e148fc965286d", func := "scarab/scarablaw25.GoodlockAlone", spec := "goodlockAlone", unfollowed := true, recurses := true, apart := false }
def GoodlockAloneSaid : Prop := goodlockAloneRow.holds Try.pinned (OpenSpec.ofChange goodlockAloneSpec)

/-- ITS FALSE NEIGHBOUR: 'it returns false'. Refute it at one input. -/
def goodlockAloneWrong : ChangeSpec := { name := "goodlockAlone", fn := fun _ => fun
  | [d] => { results := [.lit (.bool false)], args := [d] }
  | _ => none }
def GoodlockAloneWrongFalsely : Prop := goodlockAloneRow.holds Try.pinned (OpenSpec.ofChange goodlockAloneWrong)

/-- 'scarablaw25.GoodlockGate': WHATEVER THE INPUT: true; the input reads as it did. -/
def goodlockGateSpec : ChangeSpec := { name := "goodlockGate", fn := fun _ => fun
  | [d] => { results := [.lit (.bool true)], args := [d] }
  | _ => none }
def goodlockGateRow : OpenClaim := { program := "ytipodgpcbkoopaa", sum := "1cdb87da8e2a503c50cea6fa5ac3f247ad7f3e73caa827a5307e148fc965286d", func := "scarab/scarablaw25.GoodlockGate", spec := "goodlockGate", unfollowed := true, recurses := true, apart := false }
def GoodlockGateSaid : Prop := goodlockGateRow.holds Try.pinned (OpenSpec.ofChange goodlockGateSpec)

/-- ITS FALSE NEIGHBOUR: 'it returns false'. Refute it at one input. -/
def goodlockGateWrong : ChangeSpec := { name := "goodlockGate", fn := fun _ => fun
  | [d] => { results := [.lit (.bool false)], args := [d] }
  | _ => none }
def GoodlockGateWrongFalsely : Prop := goodlockGateRow.holds Try.pinned (OpenSpec.ofChange goodlockGateWrong)

/-- 'scarablaw25.GoodlockEdges': WHATEVER THE INPUT: true; the input reads as it did. -/
def goodlockEdgesSpec : ChangeSpec := { name := "goodlockEdges", fn := fun _ => fun
  | [d1, d2] => { results := [.lit (.bool true)], args := [d1, d2] }
  | _ => none }
def goodlockEdgesRow : OpenClaim := { program := "ytipodgpcbkoopaa", sum := "1cdb87da8e2a503c50cea6fa5ac3f247ad7f3e73caa827a5307e148fc965286d", func := "scarab/scarablaw25.GoodlockEdges", spec := "goodlockEdges", unfollowed := true, recurses := true, apart := false }
def GoodlockEdgesSaid : Prop := goodlockEdgesRow.holds Try.pinned (OpenSpec.ofChange goodlockEdgesSpec)

/-- ITS FALSE NEIGHBOUR: 'it returns false'. Refute it at one input. -/
def goodlockEdgesWrong : ChangeSpec := { name := "goodlockEdges", fn := fun _ => fun
  | [d1, d2] => { results := [.lit (.bool false)], args := [d1, d2] }
  | _ => none }
def GoodlockEdgesWrongFalsely : Prop := goodlockEdgesRow.holds Try.pinned (OpenSpec.ofChange goodlockEdgesWrong)

/-- 'scarablaw25.GoodlockSwaps': WHATEVER THE INPUT: true; the input reads as it did. -/
def goodlockSwapsSpec : ChangeSpec := { name := "goodlockSwaps", fn := fun _ => fun
  | [d1, d2] => { results := [.lit (.bool true)], args := [d1, d2] }
  | _ => none }
def goodlockSwapsRow : OpenClaim := { program := "ytipodgpcbkoopaa", sum := "1cdb87da8e2a503c50cea6fa5ac3f247ad7f3e73caa827a5307e148fc965286d", func := "scarab/scarablaw25.GoodlockSwaps", spec := "goodlockSwaps", unfollowed := true, recurses := true, apart := false }
def GoodlockSwapsSaid : Prop := goodlockSwapsRow.holds Try.pinned (OpenSpec.ofChange goodlockSwapsSpec)

/-- ITS FALSE NEIGHBOUR: 'it returns false'. Refute it at one input. -/
def goodlockSwapsWrong : ChangeSpec := { name := "goodlockSwaps", fn := fun _ => fun
  | [d1, d2] => { results := [.lit (.bool false)], args := [d1, d2] }
  | _ => none }
def GoodlockSwapsWrongFalsely : Prop := goodlockSwapsRow.holds Try.pinned (OpenSpec.ofChange goodlockSwapsWrong)

/- THE SECOND FORM. 'bulk': how many values and letters a reading holds, each counted each time it is reached (what is shared counts as often as it is met; a slice's spare places count too). A statement '..UptoSaid' is the law's where the arguments, and the package variables that the reading takes, are together of bulk at most 1048576: NARROWER than '..Said'. Prove '..Said' where nothing that the law and all that it calls make is longer than what came in: it says more and counts as full. Else prove '..UptoSaid'. A law counts once. -/
mutual
def uptoBulk {H : Type} : DataW H → Nat
  | .lit (.string bytes) => bytes.length + 1
  | .lit _ => 1
  | .nil => 1
  | .ptr d => uptoBulk d + 1
  | .slice elems spare => uptoBulkAll elems + uptoBulkAll spare + 1
  | .agg parts => uptoBulkAll parts + 1
  | .iface _ d => uptoBulk d + 1
  | .map entries => uptoBulkEntries entries + 1
  | .held _ => 1
def uptoBulkAll {H : Type} : List (DataW H) → Nat
  | [] => 0
  | d :: r => uptoBulk d + uptoBulkAll r
def uptoBulkEntries {H : Type} : List (Lit × DataW H) → Nat
  | [] => 0
  | x :: r => uptoBulkEntry x + uptoBulkEntries r
def uptoBulkEntry {H : Type} : Lit × DataW H → Nat
  | (.string bytes, d) => bytes.length + uptoBulk d + 1
  | (_, d) => uptoBulk d + 1
 end
def uptoSmall : (H : Type) → List (DataW H) → Bool := fun _ ds => decide (uptoBulkAll ds ≤ 1048576)
def OpenSpec.upto (s : _root_.Go.ChangeSpec) : _root_.Go.OpenSpec := { _root_.Go.OpenSpec.ofChange s with cond := some uptoSmall }

/-- 'scarablaw25.GoodlockRings', WHERE WHAT IT READS IS OF BULK AT MOST 1048576: true; the input reads as it did. -/
def goodlockRingsUptoRow : OpenClaim := { program := "ytipodgpcbkoopaa", sum := "1cdb87da8e2a503c50cea6fa5ac3f247ad7f3e73caa827a5307e148fc965286d", func := "scarab/scarablaw25.GoodlockRings", spec := "goodlockRings", unfollowed := true, recurses := true, apart := false, narrowed := true }
def GoodlockRingsUptoSaid : Prop := goodlockRingsUptoRow.holds Try.pinned (OpenSpec.upto goodlockRingsSpec)

/-- 'scarablaw25.GoodlockAlone', WHERE WHAT IT READS IS OF BULK AT MOST 1048576: true; the input reads as it did. -/
def goodlockAloneUptoRow : OpenClaim := { program := "ytipodgpcbkoopaa", sum := "1cdb87da8e2a503c50cea6fa5ac3f247ad7f3e73caa827a5307e148fc965286d", func := "scarab/scarablaw25.GoodlockAlone", spec := "goodlockAlone", unfollowed := true, recurses := true, apart := false, narrowed := true }
def GoodlockAloneUptoSaid : Prop := goodlockAloneUptoRow.holds Try.pinned (OpenSpec.upto goodlockAloneSpec)

/-- 'scarablaw25.GoodlockGate', WHERE WHAT IT READS IS OF BULK AT MOST 1048576: true; the input reads as it did. -/
def goodlockGateUptoRow : OpenClaim := { program := "ytipodgpcbkoopaa", sum := "1cdb87da8e2a503c50cea6fa5ac3f247ad7f3e73caa827a5307e148fc965286d", func := "scarab/scarablaw25.GoodlockGate", spec := "goodlockGate", unfollowed := true, recurses := true, apart := false, narrowed := true }
def GoodlockGateUptoSaid : Prop := goodlockGateUptoRow.holds Try.pinned (OpenSpec.upto goodlockGateSpec)

/-- 'scarablaw25.GoodlockEdges', WHERE WHAT IT READS IS OF BULK AT MOST 1048576: true; the input reads as it did. -/
def goodlockEdgesUptoRow : OpenClaim := { program := "ytipodgpcbkoopaa", sum := "1cdb87da8e2a503c50cea6fa5ac3f247ad7f3e73caa827a5307e148fc965286d", func := "scarab/scarablaw25.GoodlockEdges", spec := "goodlockEdges", unfollowed := true, recurses := true, apart := false, narrowed := true }
def GoodlockEdgesUptoSaid : Prop := goodlockEdgesUptoRow.holds Try.pinned (OpenSpec.upto goodlockEdgesSpec)

/-- 'scarablaw25.GoodlockSwaps', WHERE WHAT IT READS IS OF BULK AT MOST 1048576: true; the input reads as it did. -/
def goodlockSwapsUptoRow : OpenClaim := { program := "ytipodgpcbkoopaa", sum := "1cdb87da8e2a503c50cea6fa5ac3f247ad7f3e73caa827a5307e148fc965286d", func := "scarab/scarablaw25.GoodlockSwaps", spec := "goodlockSwaps", unfollowed := true, recurses := true, apart := false, narrowed := true }
def GoodlockSwapsUptoSaid : Prop := goodlockSwapsUptoRow.holds Try.pinned (OpenSpec.upto goodlockSwapsSpec)

end Rows
end Go.Proofs.Ytipodgpcbkoopaa
