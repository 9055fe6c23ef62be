/-
  No cell of these rows narrows 'for every input' (looked for: loops, veiled, ifaces, maps, wideKeys, modest, calm, conditions, laid).
  DERIVED. THE GIVEN ROWS OF THIS SEAT. 4 by the template 'for every input the law returns true; each argument reads behind the call as it read before'; 0 by the template 'total and deterministic' (their statements: YtbfihoopgcmkpaaTotals.lean).
  GIVEN WITH THE SEED: the statements are not yours to turn. If you find one false, say at which input.
  Laid BY PROGRAM, IN A SANDBOX (cutbox-rows.mjs): the forced cells as the released guide's own fill.sh prints them over the translation 5f46c0f762139acb… (all of the seat's roots in one cut). By AI agents, Wed Nov 11 2026. No macro, syntax, notation, axiom, sorry.
-/
import Derived.Test.YtbfihoopgcmkpaaChecked
import GoSem.Claim
import GoSem.ClaimJoined
import GoSem.ClaimMapViews
import Derived.JoinedTies
import Derived.KernelRfl
namespace Go.Proofs.Ytbfihoopgcmkpaa
/- THE CELL 'sum', in the pinned program and in every row, IS THE sha256 OF THE DUMP (.gsa) THAT YtbfihoopgcmkpaaProg.lean LOADS. Nothing in Lean hashes anything: it is a label: what it is worth is what the hold of that sum in a sandbox is worth. -/
noncomputable def Try.pinned : Pinned := { name := "ytbfihoopgcmkpaa", sum := "5f46c0f762139acbc2d5593fbef6a97dc112fc494a60cb8a818fe9b3da491333", checked := Try.checked }
namespace Rows
def none {H : Type} : Left H := { results := [], args := [] }

/-- 'scarablaw10.DependClashes': WHATEVER THE INPUT: true; the input reads as it did. -/
def dependClashesSpec : ChangeSpec := { name := "dependClashes", fn := fun _ => fun
  | [d1, d2] => { results := [.lit (.bool true)], args := [d1, d2] }
  | _ => none }
def dependClashesRow : OpenClaim := { program := "ytbfihoopgcmkpaa", sum := "5f46c0f762139acbc2d5593fbef6a97dc112fc494a60cb8a818fe9b3da491333", func := "scarab/scarablaw10.DependClashes", spec := "dependClashes", unfollowed := true, recurses := true, apart := false }
def DependClashesSaid : Prop := dependClashesRow.holds Try.pinned (OpenSpec.ofChange dependClashesSpec)

/-- ITS FALSE NEIGHBOUR: 'it returns false'. Refute it at one input. -/
def dependClashesWrong : ChangeSpec := { name := "dependClashes", fn := fun _ => fun
  | [d1, d2] => { results := [.lit (.bool false)], args := [d1, d2] }
  | _ => none }
def DependClashesWrongFalsely : Prop := dependClashesRow.holds Try.pinned (OpenSpec.ofChange dependClashesWrong)

/-- 'scarablaw10.DependEvents': WHATEVER THE INPUT: true; the input reads as it did. -/
def dependEventsSpec : ChangeSpec := { name := "dependEvents", fn := fun _ => fun
  | [d1, d2] => { results := [.lit (.bool true)], args := [d1, d2] }
  | _ => none }
def dependEventsRow : OpenClaim := { program := "ytbfihoopgcmkpaa", sum := "5f46c0f762139acbc2d5593fbef6a97dc112fc494a60cb8a818fe9b3da491333", func := "scarab/scarablaw10.DependEvents", spec := "dependEvents", unfollowed := true, recurses := true, apart := false }
def DependEventsSaid : Prop := dependEventsRow.holds Try.pinned (OpenSpec.ofChange dependEventsSpec)

/-- ITS FALSE NEIGHBOUR: 'it returns false'. Refute it at one input. -/
def dependEventsWrong : ChangeSpec := { name := "dependEvents", fn := fun _ => fun
  | [d1, d2] => { results := [.lit (.bool false)], args := [d1, d2] }
  | _ => none }
def DependEventsWrongFalsely : Prop := dependEventsRow.holds Try.pinned (OpenSpec.ofChange dependEventsWrong)

/-- 'scarablaw10.DependUses': WHATEVER THE INPUT: true; the input reads as it did. -/
def dependUsesSpec : ChangeSpec := { name := "dependUses", fn := fun _ => fun
  | [d1, d2, d3] => { results := [.lit (.bool true)], args := [d1, d2, d3] }
  | _ => none }
def dependUsesRow : OpenClaim := { program := "ytbfihoopgcmkpaa", sum := "5f46c0f762139acbc2d5593fbef6a97dc112fc494a60cb8a818fe9b3da491333", func := "scarab/scarablaw10.DependUses", spec := "dependUses", unfollowed := true, recurses := true, apart := false }
def DependUsesSaid : Prop := dependUsesRow.holds Try.pinned (OpenSpec.ofChange dependUsesSpec)

/-- ITS FALSE NEIGHBOUR: 'it returns false'. Refute it at one input. -/
def dependUsesWrong : ChangeSpec := { name := "dependUses", fn := fun _ => fun
  | [d1, d2, d3] => { results := [.lit (.bool false)], args := [d1, d2, d3] }
  | _ => none }
def DependUsesWrongFalsely : Prop := dependUsesRow.holds Try.pinned (OpenSpec.ofChange dependUsesWrong)

/-- 'scarablaw10.DependTraces': WHATEVER THE INPUT: true; the input reads as it did. -/
def dependTracesSpec : ChangeSpec := { name := "dependTraces", fn := fun _ => fun
  | [d] => { results := [.lit (.bool true)], args := [d] }
  | _ => none }
def dependTracesRow : OpenClaim := { program := "ytbfihoopgcmkpaa", sum := "5f46c0f762139acbc2d5593fbef6a97dc112fc494a60cb8a818fe9b3da491333", func := "scarab/scarablaw10.DependTraces", spec := "dependTraces", inPlace := ["slices.overlaps[scarab/api.Access]"], unfollowed := true, recurses := true, apart := false }
def DependTracesSaid : Prop := dependTracesRow.holds Try.pinned (OpenSpec.ofChange dependTracesSpec)

/-- ITS FALSE NEIGHBOUR: 'it returns false'. Refute it at one input. -/
def dependTracesWrong : ChangeSpec := { name := "dependTraces", fn := fun _ => fun
  | [d] => { results := [.lit (.bool false)], args := [d] }
  | _ => none }
def DependTracesWrongFalsely : Prop := dependTracesRow.holds Try.pinned (OpenSpec.ofChange dependTracesWrong)

/- THE SECOND FORM. 'bulk': how many values and letters a reading holds, each counted each time it is reached (what is shared counts as often as it is met; a slice's spare places count too). A statement '..UptoSaid' is the law's where the arguments, and the package variables that the reading takes, are together of bulk at most 1048576: NARROWER than '..Said'. Prove '..Said' where nothing that the law and all that it calls make is longer than what came in: it says more and counts as full. Else prove '..UptoSaid'. A law counts once. -/
mutual
def uptoBulk {H : Type} : DataW H → Nat
  | .lit (.string bytes) => bytes.length + 1
  | .lit _ => 1
  | .nil => 1
  | .ptr d => uptoBulk d + 1
  | .slice elems spare => uptoBulkAll elems + uptoBulkAll spare + 1
  | .agg parts => uptoBulkAll parts + 1
  | .iface _ d => uptoBulk d + 1
  | .map entries => uptoBulkEntries entries + 1
  | .held _ => 1
def uptoBulkAll {H : Type} : List (DataW H) → Nat
  | [] => 0
  | d :: r => uptoBulk d + uptoBulkAll r
def uptoBulkEntries {H : Type} : List (Lit × DataW H) → Nat
  | [] => 0
  | x :: r => uptoBulkEntry x + uptoBulkEntries r
def uptoBulkEntry {H : Type} : Lit × DataW H → Nat
  | (.string bytes, d) => bytes.length + uptoBulk d + 1
  | (_, d) => uptoBulk d + 1
 end
def uptoSmall : (H : Type) → List (DataW H) → Bool := fun _ ds => decide (uptoBulkAll ds ≤ 1048576)
def OpenSpec.upto (s : _root_.Go.ChangeSpec) : _root_.Go.OpenSpec := { _root_.Go.OpenSpec.ofChange s with cond := some uptoSmall }

/-- 'scarablaw10.DependClashes', WHERE WHAT IT READS IS OF BULK AT MOST 1048576: true; the input reads as it did. -/
def dependClashesUptoRow : OpenClaim := { program := "ytbfihoopgcmkpaa", sum := "5f46c0f762139acbc2d5593fbef6a97dc112fc494a60cb8a818fe9b3da491333", func := "scarab/scarablaw10.DependClashes", spec := "dependClashes", unfollowed := true, recurses := true, apart := false, narrowed := true }
def DependClashesUptoSaid : Prop := dependClashesUptoRow.holds Try.pinned (OpenSpec.upto dependClashesSpec)

/-- 'scarablaw10.DependEvents', WHERE WHAT IT READS IS OF BULK AT MOST 1048576: true; the input reads as it did. -/
def dependEventsUptoRow : OpenClaim := { program := "ytbfihoopgcmkpaa", sum := "5f46c0f762139acbc2d5593fbef6a97dc112fc494a60cb8a818fe9b3da491333", func := "scarab/scarablaw10.DependEvents", spec := "dependEvents", unfollowed := true, recurses := true, apart := false, narrowed := true }
def DependEventsUptoSaid : Prop := dependEventsUptoRow.holds Try.pinned (OpenSpec.upto dependEventsSpec)

/-- 'scarablaw10.DependUses', WHERE WHAT IT READS IS OF BULK AT MOST 1048576: true; the input reads as it did. -/
def dependUsesUptoRow : OpenClaim := { program := "ytbfihoopgcmkpaa", sum := "5f46c0f762139acbc2d5593fbef6a97dc112fc494a60cb8a818fe9b3da491333", func := "scarab/scarablaw10.DependUses", spec := "dependUses", unfollowed := true, recurses := true, apart := false, narrowed := true }
def DependUsesUptoSaid : Prop := dependUsesUptoRow.holds Try.pinned (OpenSpec.upto dependUsesSpec)

/-- 'scarablaw10.DependTraces', WHERE WHAT IT READS IS OF BULK AT MOST 1048576: true; the input reads as it did. -/
def dependTracesUptoRow : OpenClaim := { program := "ytbfihoopgcmkpaa", sum := "5f46c0f762139acbc2d5593fbef6a97dc112fc494a60cb8a818fe9b3da491333", func := "scarab/scarablaw10.DependTraces", spec := "dependTraces", inPlace := ["slices.overlaps[scarab/api.Access]"], unfollowed := true, recurses := true, apart := false, narrowed := true }
def DependTracesUptoSaid : Prop := dependTracesUptoRow.holds Try.pinned (OpenSpec.upto dependTracesSpec)

end Rows
end Go.Proofs.Ytbfihoopgcmkpaa
