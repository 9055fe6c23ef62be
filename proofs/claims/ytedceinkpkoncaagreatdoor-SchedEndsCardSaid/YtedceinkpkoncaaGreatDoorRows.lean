/-
  NARROWER THAN 'FOR EVERY INPUT', by the rows' own cells (each row's printed sentence says how): StepDoes: laid · StepKeeps: laid · StepCommutes: laid · StepWakes: laid · SchedRuns: laid · StepParts: laid · StepAsks: laid · SchedAsks: laid · SchedChooses: laid · SchedParts: laid · SchedEnds: laid.
  DERIVED. THE GIVEN ROWS OF THIS SEAT. 11 by the template 'for every input the law returns true; each argument reads behind the call as it read before'; 0 by the template 'total and deterministic' (their statements: YtedceinkpkoncaaGreatDoorTotals.lean).
  GIVEN WITH THE SEED: the statements are not yours to turn. If you find one false, say at which input.
  Laid BY PROGRAM, IN A SANDBOX (cutbox-rows.mjs): the forced cells as the released guide's own fill.sh prints them over the translation d0b0cb7dd039dd98… (all of the seat's roots in one cut). By AI agents, Wed Nov 11 2026. No macro, syntax, notation, axiom, sorry.
-/
import Derived.Test.YtedceinkpkoncaaGreatDoorChecked
import GoSem.Claim
import GoSem.ClaimJoined
import GoSem.ClaimMapViews
import Derived.JoinedTies
import Derived.KernelRfl
namespace Go.Proofs.YtedceinkpkoncaaGreatDoor
/- THE CELL 'sum', in the pinned program and in every row, IS THE sha256 OF THE DUMP (.gsa) THAT YtedceinkpkoncaaGreatDoorProg.lean LOADS. Nothing in Lean hashes anything: it is a label: what it is worth is what the hold of that sum in a sandbox is worth. -/
noncomputable def Tryz.pinned : Pinned := { name := "ytedceinkpkoncaagreatdoor", sum := "d0b0cb7dd039dd981e8ac08cf521d3e17f2bf38a94215e25b2a4c280bbfcbc25", checked := Tryz.checked }
namespace Rows
def none {H : Type} : Left H := { results := [], args := [] }

/- WHAT THE LISTED PACKAGE-LEVEL VARIABLES READ AS WHEN THE CALL BEGINS. Each datum BY PROGRAM (the guide's laid-datum.mjs) off the statement by which the dump's own 'gosem.cut.vars' lays the variable. In a bare row this is a premise. The card (YtedceinkpkoncaaGreatDoorCards.lean) ties it to the program's text. -/
def laid_math_bits_deBruijn64tab {H : Type} : DataW H := .agg [.lit (.int .u8 0), .lit (.int .u8 1), .lit (.int .u8 56), .lit (.int .u8 2), .lit (.int .u8 57), .lit (.int .u8 49), .lit (.int .u8 28), .lit (.int .u8 3), .lit (.int .u8 61), .lit (.int .u8 58), .lit (.int .u8 42), .lit (.int .u8 50), .lit (.int .u8 38), .lit (.int .u8 29), .lit (.int .u8 17), .lit (.int .u8 4), .lit (.int .u8 62), .lit (.int .u8 47), .lit (.int .u8 59), .lit (.int .u8 36), .lit (.int .u8 45), .lit (.int .u8 43), .lit (.int .u8 51), .lit (.int .u8 22), .lit (.int .u8 53), .lit (.int .u8 39), .lit (.int .u8 33), .lit (.int .u8 30), .lit (.int .u8 24), .lit (.int .u8 18), .lit (.int .u8 12), .lit (.int .u8 5), .lit (.int .u8 63), .lit (.int .u8 55), .lit (.int .u8 48), .lit (.int .u8 27), .lit (.int .u8 60), .lit (.int .u8 41), .lit (.int .u8 37), .lit (.int .u8 16), .lit (.int .u8 46), .lit (.int .u8 35), .lit (.int .u8 44), .lit (.int .u8 21), .lit (.int .u8 52), .lit (.int .u8 32), .lit (.int .u8 23), .lit (.int .u8 11), .lit (.int .u8 54), .lit (.int .u8 26), .lit (.int .u8 40), .lit (.int .u8 15), .lit (.int .u8 34), .lit (.int .u8 20), .lit (.int .u8 31), .lit (.int .u8 10), .lit (.int .u8 25), .lit (.int .u8 14), .lit (.int .u8 19), .lit (.int .u8 9), .lit (.int .u8 13), .lit (.int .u8 8), .lit (.int .u8 7), .lit (.int .u8 6)]

/-- 'scarablaw08.StepDoes': WHATEVER THE INPUT: true; the input reads as it did. -/
def stepDoesSpec : ChangeSpec := { name := "stepDoes", fn := fun _ => fun
  | [d] => { results := [.lit (.bool true)], args := [d] }
  | _ => none }
def stepDoesRow : OpenClaim := { program := "ytedceinkpkoncaagreatdoor", sum := "d0b0cb7dd039dd981e8ac08cf521d3e17f2bf38a94215e25b2a4c280bbfcbc25", func := "scarab/scarablaw08.StepDoes", spec := "stepDoes", unfollowed := true, recurses := true, named := ["math/bits.deBruijn64tab"], apart := false, laid := [("math/bits.deBruijn64tab", laid_math_bits_deBruijn64tab)] }
def StepDoesSaid : Prop := stepDoesRow.holds Tryz.pinned (OpenSpec.ofChange stepDoesSpec)

/-- ITS FALSE NEIGHBOUR: 'it returns false'. Refute it at one input. -/
def stepDoesWrong : ChangeSpec := { name := "stepDoes", fn := fun _ => fun
  | [d] => { results := [.lit (.bool false)], args := [d] }
  | _ => none }
def StepDoesWrongFalsely : Prop := stepDoesRow.holds Tryz.pinned (OpenSpec.ofChange stepDoesWrong)

/-- 'scarablaw08.StepKeeps': WHATEVER THE INPUT: true; the input reads as it did. -/
def stepKeepsSpec : ChangeSpec := { name := "stepKeeps", fn := fun _ => fun
  | [d] => { results := [.lit (.bool true)], args := [d] }
  | _ => none }
def stepKeepsRow : OpenClaim := { program := "ytedceinkpkoncaagreatdoor", sum := "d0b0cb7dd039dd981e8ac08cf521d3e17f2bf38a94215e25b2a4c280bbfcbc25", func := "scarab/scarablaw08.StepKeeps", spec := "stepKeeps", unfollowed := true, recurses := true, named := ["math/bits.deBruijn64tab"], apart := false, laid := [("math/bits.deBruijn64tab", laid_math_bits_deBruijn64tab)] }
def StepKeepsSaid : Prop := stepKeepsRow.holds Tryz.pinned (OpenSpec.ofChange stepKeepsSpec)

/-- ITS FALSE NEIGHBOUR: 'it returns false'. Refute it at one input. -/
def stepKeepsWrong : ChangeSpec := { name := "stepKeeps", fn := fun _ => fun
  | [d] => { results := [.lit (.bool false)], args := [d] }
  | _ => none }
def StepKeepsWrongFalsely : Prop := stepKeepsRow.holds Tryz.pinned (OpenSpec.ofChange stepKeepsWrong)

/-- 'scarablaw08.StepCommutes': WHATEVER THE INPUT: true; the input reads as it did. -/
def stepCommutesSpec : ChangeSpec := { name := "stepCommutes", fn := fun _ => fun
  | [d1, d2, d3] => { results := [.lit (.bool true)], args := [d1, d2, d3] }
  | _ => none }
def stepCommutesRow : OpenClaim := { program := "ytedceinkpkoncaagreatdoor", sum := "d0b0cb7dd039dd981e8ac08cf521d3e17f2bf38a94215e25b2a4c280bbfcbc25", func := "scarab/scarablaw08.StepCommutes", spec := "stepCommutes", unfollowed := true, recurses := true, named := ["math/bits.deBruijn64tab"], apart := false, laid := [("math/bits.deBruijn64tab", laid_math_bits_deBruijn64tab)] }
def StepCommutesSaid : Prop := stepCommutesRow.holds Tryz.pinned (OpenSpec.ofChange stepCommutesSpec)

/-- ITS FALSE NEIGHBOUR: 'it returns false'. Refute it at one input. -/
def stepCommutesWrong : ChangeSpec := { name := "stepCommutes", fn := fun _ => fun
  | [d1, d2, d3] => { results := [.lit (.bool false)], args := [d1, d2, d3] }
  | _ => none }
def StepCommutesWrongFalsely : Prop := stepCommutesRow.holds Tryz.pinned (OpenSpec.ofChange stepCommutesWrong)

/-- 'scarablaw08.StepWakes': WHATEVER THE INPUT: true; the input reads as it did. -/
def stepWakesSpec : ChangeSpec := { name := "stepWakes", fn := fun _ => fun
  | [d] => { results := [.lit (.bool true)], args := [d] }
  | _ => none }
def stepWakesRow : OpenClaim := { program := "ytedceinkpkoncaagreatdoor", sum := "d0b0cb7dd039dd981e8ac08cf521d3e17f2bf38a94215e25b2a4c280bbfcbc25", func := "scarab/scarablaw08.StepWakes", spec := "stepWakes", unfollowed := true, recurses := true, named := ["math/bits.deBruijn64tab"], apart := false, laid := [("math/bits.deBruijn64tab", laid_math_bits_deBruijn64tab)] }
def StepWakesSaid : Prop := stepWakesRow.holds Tryz.pinned (OpenSpec.ofChange stepWakesSpec)

/-- ITS FALSE NEIGHBOUR: 'it returns false'. Refute it at one input. -/
def stepWakesWrong : ChangeSpec := { name := "stepWakes", fn := fun _ => fun
  | [d] => { results := [.lit (.bool false)], args := [d] }
  | _ => none }
def StepWakesWrongFalsely : Prop := stepWakesRow.holds Tryz.pinned (OpenSpec.ofChange stepWakesWrong)

/-- 'scarablaw09.SchedRuns': WHATEVER THE INPUT: true; the input reads as it did. -/
def schedRunsSpec : ChangeSpec := { name := "schedRuns", fn := fun _ => fun
  | [d1, d2, d3] => { results := [.lit (.bool true)], args := [d1, d2, d3] }
  | _ => none }
def schedRunsRow : OpenClaim := { program := "ytedceinkpkoncaagreatdoor", sum := "d0b0cb7dd039dd981e8ac08cf521d3e17f2bf38a94215e25b2a4c280bbfcbc25", func := "scarab/scarablaw09.SchedRuns", spec := "schedRuns", unfollowed := true, recurses := true, named := ["math/bits.deBruijn64tab"], apart := false, laid := [("math/bits.deBruijn64tab", laid_math_bits_deBruijn64tab)] }
def SchedRunsSaid : Prop := schedRunsRow.holds Tryz.pinned (OpenSpec.ofChange schedRunsSpec)

/-- ITS FALSE NEIGHBOUR: 'it returns false'. Refute it at one input. -/
def schedRunsWrong : ChangeSpec := { name := "schedRuns", fn := fun _ => fun
  | [d1, d2, d3] => { results := [.lit (.bool false)], args := [d1, d2, d3] }
  | _ => none }
def SchedRunsWrongFalsely : Prop := schedRunsRow.holds Tryz.pinned (OpenSpec.ofChange schedRunsWrong)

/-- 'scarablaw08.StepParts': WHATEVER THE INPUT: true; the input reads as it did. -/
def stepPartsSpec : ChangeSpec := { name := "stepParts", fn := fun _ => fun
  | [d1, d2] => { results := [.lit (.bool true)], args := [d1, d2] }
  | _ => none }
def stepPartsRow : OpenClaim := { program := "ytedceinkpkoncaagreatdoor", sum := "d0b0cb7dd039dd981e8ac08cf521d3e17f2bf38a94215e25b2a4c280bbfcbc25", func := "scarab/scarablaw08.StepParts", spec := "stepParts", unfollowed := true, recurses := true, named := ["math/bits.deBruijn64tab"], apart := false, laid := [("math/bits.deBruijn64tab", laid_math_bits_deBruijn64tab)] }
def StepPartsSaid : Prop := stepPartsRow.holds Tryz.pinned (OpenSpec.ofChange stepPartsSpec)

/-- ITS FALSE NEIGHBOUR: 'it returns false'. Refute it at one input. -/
def stepPartsWrong : ChangeSpec := { name := "stepParts", fn := fun _ => fun
  | [d1, d2] => { results := [.lit (.bool false)], args := [d1, d2] }
  | _ => none }
def StepPartsWrongFalsely : Prop := stepPartsRow.holds Tryz.pinned (OpenSpec.ofChange stepPartsWrong)

/-- 'scarablaw08.StepAsks': WHATEVER THE INPUT: true; the input reads as it did. -/
def stepAsksSpec : ChangeSpec := { name := "stepAsks", fn := fun _ => fun
  | [d1, d2, d3] => { results := [.lit (.bool true)], args := [d1, d2, d3] }
  | _ => none }
def stepAsksRow : OpenClaim := { program := "ytedceinkpkoncaagreatdoor", sum := "d0b0cb7dd039dd981e8ac08cf521d3e17f2bf38a94215e25b2a4c280bbfcbc25", func := "scarab/scarablaw08.StepAsks", spec := "stepAsks", unfollowed := true, recurses := true, named := ["math/bits.deBruijn64tab"], apart := false, laid := [("math/bits.deBruijn64tab", laid_math_bits_deBruijn64tab)] }
def StepAsksSaid : Prop := stepAsksRow.holds Tryz.pinned (OpenSpec.ofChange stepAsksSpec)

/-- ITS FALSE NEIGHBOUR: 'it returns false'. Refute it at one input. -/
def stepAsksWrong : ChangeSpec := { name := "stepAsks", fn := fun _ => fun
  | [d1, d2, d3] => { results := [.lit (.bool false)], args := [d1, d2, d3] }
  | _ => none }
def StepAsksWrongFalsely : Prop := stepAsksRow.holds Tryz.pinned (OpenSpec.ofChange stepAsksWrong)

/-- 'scarablaw09.SchedAsks': WHATEVER THE INPUT: true; the input reads as it did. -/
def schedAsksSpec : ChangeSpec := { name := "schedAsks", fn := fun _ => fun
  | [d1, d2, d3] => { results := [.lit (.bool true)], args := [d1, d2, d3] }
  | _ => none }
def schedAsksRow : OpenClaim := { program := "ytedceinkpkoncaagreatdoor", sum := "d0b0cb7dd039dd981e8ac08cf521d3e17f2bf38a94215e25b2a4c280bbfcbc25", func := "scarab/scarablaw09.SchedAsks", spec := "schedAsks", unfollowed := true, recurses := true, named := ["math/bits.deBruijn64tab"], apart := false, laid := [("math/bits.deBruijn64tab", laid_math_bits_deBruijn64tab)] }
def SchedAsksSaid : Prop := schedAsksRow.holds Tryz.pinned (OpenSpec.ofChange schedAsksSpec)

/-- ITS FALSE NEIGHBOUR: 'it returns false'. Refute it at one input. -/
def schedAsksWrong : ChangeSpec := { name := "schedAsks", fn := fun _ => fun
  | [d1, d2, d3] => { results := [.lit (.bool false)], args := [d1, d2, d3] }
  | _ => none }
def SchedAsksWrongFalsely : Prop := schedAsksRow.holds Tryz.pinned (OpenSpec.ofChange schedAsksWrong)

/-- 'scarablaw09.SchedChooses': WHATEVER THE INPUT: true; the input reads as it did. -/
def schedChoosesSpec : ChangeSpec := { name := "schedChooses", fn := fun _ => fun
  | [d1, d2, d3] => { results := [.lit (.bool true)], args := [d1, d2, d3] }
  | _ => none }
def schedChoosesRow : OpenClaim := { program := "ytedceinkpkoncaagreatdoor", sum := "d0b0cb7dd039dd981e8ac08cf521d3e17f2bf38a94215e25b2a4c280bbfcbc25", func := "scarab/scarablaw09.SchedChooses", spec := "schedChooses", unfollowed := true, recurses := true, named := ["math/bits.deBruijn64tab"], apart := false, laid := [("math/bits.deBruijn64tab", laid_math_bits_deBruijn64tab)] }
def SchedChoosesSaid : Prop := schedChoosesRow.holds Tryz.pinned (OpenSpec.ofChange schedChoosesSpec)

/-- ITS FALSE NEIGHBOUR: 'it returns false'. Refute it at one input. -/
def schedChoosesWrong : ChangeSpec := { name := "schedChooses", fn := fun _ => fun
  | [d1, d2, d3] => { results := [.lit (.bool false)], args := [d1, d2, d3] }
  | _ => none }
def SchedChoosesWrongFalsely : Prop := schedChoosesRow.holds Tryz.pinned (OpenSpec.ofChange schedChoosesWrong)

/-- 'scarablaw09.SchedParts': WHATEVER THE INPUT: true; the input reads as it did. -/
def schedPartsSpec : ChangeSpec := { name := "schedParts", fn := fun _ => fun
  | [d1, d2, d3] => { results := [.lit (.bool true)], args := [d1, d2, d3] }
  | _ => none }
def schedPartsRow : OpenClaim := { program := "ytedceinkpkoncaagreatdoor", sum := "d0b0cb7dd039dd981e8ac08cf521d3e17f2bf38a94215e25b2a4c280bbfcbc25", func := "scarab/scarablaw09.SchedParts", spec := "schedParts", unfollowed := true, recurses := true, named := ["math/bits.deBruijn64tab"], apart := false, laid := [("math/bits.deBruijn64tab", laid_math_bits_deBruijn64tab)] }
def SchedPartsSaid : Prop := schedPartsRow.holds Tryz.pinned (OpenSpec.ofChange schedPartsSpec)

/-- ITS FALSE NEIGHBOUR: 'it returns false'. Refute it at one input. -/
def schedPartsWrong : ChangeSpec := { name := "schedParts", fn := fun _ => fun
  | [d1, d2, d3] => { results := [.lit (.bool false)], args := [d1, d2, d3] }
  | _ => none }
def SchedPartsWrongFalsely : Prop := schedPartsRow.holds Tryz.pinned (OpenSpec.ofChange schedPartsWrong)

/-- 'scarablaw09.SchedEnds': WHATEVER THE INPUT: true; the input reads as it did. -/
def schedEndsSpec : ChangeSpec := { name := "schedEnds", fn := fun _ => fun
  | [d1, d2, d3] => { results := [.lit (.bool true)], args := [d1, d2, d3] }
  | _ => none }
def schedEndsRow : OpenClaim := { program := "ytedceinkpkoncaagreatdoor", sum := "d0b0cb7dd039dd981e8ac08cf521d3e17f2bf38a94215e25b2a4c280bbfcbc25", func := "scarab/scarablaw09.SchedEnds", spec := "schedEnds", unfollowed := true, recurses := true, named := ["math/bits.deBruijn64tab"], apart := false, laid := [("math/bits.deBruijn64tab", laid_math_bits_deBruijn64tab)] }
def SchedEndsSaid : Prop := schedEndsRow.holds Tryz.pinned (OpenSpec.ofChange schedEndsSpec)

/-- ITS FALSE NEIGHBOUR: 'it returns false'. Refute it at one input. -/
def schedEndsWrong : ChangeSpec := { name := "schedEnds", fn := fun _ => fun
  | [d1, d2, d3] => { results := [.lit (.bool false)], args := [d1, d2, d3] }
  | _ => none }
def SchedEndsWrongFalsely : Prop := schedEndsRow.holds Tryz.pinned (OpenSpec.ofChange schedEndsWrong)

/- THE SECOND FORM. 'bulk': how many values and letters a reading holds, each counted each time it is reached (what is shared counts as often as it is met; a slice's spare places count too). A statement '..UptoSaid' is the law's where the arguments, and the package variables that the reading takes, are together of bulk at most 1048576: NARROWER than '..Said'. Prove '..Said' where nothing that the law and all that it calls make is longer than what came in: it says more and counts as full. Else prove '..UptoSaid'. A law counts once. -/
mutual
def uptoBulk {H : Type} : DataW H → Nat
  | .lit (.string bytes) => bytes.length + 1
  | .lit _ => 1
  | .nil => 1
  | .ptr d => uptoBulk d + 1
  | .slice elems spare => uptoBulkAll elems + uptoBulkAll spare + 1
  | .agg parts => uptoBulkAll parts + 1
  | .iface _ d => uptoBulk d + 1
  | .map entries => uptoBulkEntries entries + 1
  | .held _ => 1
def uptoBulkAll {H : Type} : List (DataW H) → Nat
  | [] => 0
  | d :: r => uptoBulk d + uptoBulkAll r
def uptoBulkEntries {H : Type} : List (Lit × DataW H) → Nat
  | [] => 0
  | x :: r => uptoBulkEntry x + uptoBulkEntries r
def uptoBulkEntry {H : Type} : Lit × DataW H → Nat
  | (.string bytes, d) => bytes.length + uptoBulk d + 1
  | (_, d) => uptoBulk d + 1
 end
def uptoSmall : (H : Type) → List (DataW H) → Bool := fun _ ds => decide (uptoBulkAll ds ≤ 1048576)
def OpenSpec.upto (s : _root_.Go.ChangeSpec) : _root_.Go.OpenSpec := { _root_.Go.OpenSpec.ofChange s with cond := some uptoSmall }

/-- 'scarablaw08.StepDoes', WHERE WHAT IT READS IS OF BULK AT MOST 1048576: true; the input reads as it did. -/
def stepDoesUptoRow : OpenClaim := { program := "ytedceinkpkoncaagreatdoor", sum := "d0b0cb7dd039dd981e8ac08cf521d3e17f2bf38a94215e25b2a4c280bbfcbc25", func := "scarab/scarablaw08.StepDoes", spec := "stepDoes", unfollowed := true, recurses := true, named := ["math/bits.deBruijn64tab"], apart := false, laid := [("math/bits.deBruijn64tab", laid_math_bits_deBruijn64tab)], narrowed := true }
def StepDoesUptoSaid : Prop := stepDoesUptoRow.holds Tryz.pinned (OpenSpec.upto stepDoesSpec)

/-- 'scarablaw08.StepKeeps', WHERE WHAT IT READS IS OF BULK AT MOST 1048576: true; the input reads as it did. -/
def stepKeepsUptoRow : OpenClaim := { program := "ytedceinkpkoncaagreatdoor", sum := "d0b0cb7dd039dd981e8ac08cf521d3e17f2bf38a94215e25b2a4c280bbfcbc25", func := "scarab/scarablaw08.StepKeeps", spec := "stepKeeps", unfollowed := true, recurses := true, named := ["math/bits.deBruijn64tab"], apart := false, laid := [("math/bits.deBruijn64tab", laid_math_bits_deBruijn64tab)], narrowed := true }
def StepKeepsUptoSaid : Prop := stepKeepsUptoRow.holds Tryz.pinned (OpenSpec.upto stepKeepsSpec)

/-- 'scarablaw08.StepCommutes', WHERE WHAT IT READS IS OF BULK AT MOST 1048576: true; the input reads as it did. -/
def stepCommutesUptoRow : OpenClaim := { program := "ytedceinkpkoncaagreatdoor", sum := "d0b0cb7dd039dd981e8ac08cf521d3e17f2bf38a94215e25b2a4c280bbfcbc25", func := "scarab/scarablaw08.StepCommutes", spec := "stepCommutes", unfollowed := true, recurses := true, named := ["math/bits.deBruijn64tab"], apart := false, laid := [("math/bits.deBruijn64tab", laid_math_bits_deBruijn64tab)], narrowed := true }
def StepCommutesUptoSaid : Prop := stepCommutesUptoRow.holds Tryz.pinned (OpenSpec.upto stepCommutesSpec)

/-- 'scarablaw08.StepWakes', WHERE WHAT IT READS IS OF BULK AT MOST 1048576: true; the input reads as it did. -/
def stepWakesUptoRow : OpenClaim := { program := "ytedceinkpkoncaagreatdoor", sum := "d0b0cb7dd039dd981e8ac08cf521d3e17f2bf38a94215e25b2a4c280bbfcbc25", func := "scarab/scarablaw08.StepWakes", spec := "stepWakes", unfollowed := true, recurses := true, named := ["math/bits.deBruijn64tab"], apart := false, laid := [("math/bits.deBruijn64tab", laid_math_bits_deBruijn64tab)], narrowed := true }
def StepWakesUptoSaid : Prop := stepWakesUptoRow.holds Tryz.pinned (OpenSpec.upto stepWakesSpec)

/-- 'scarablaw09.SchedRuns', WHERE WHAT IT READS IS OF BULK AT MOST 1048576: true; the input reads as it did. -/
def schedRunsUptoRow : OpenClaim := { program := "ytedceinkpkoncaagreatdoor", sum := "d0b0cb7dd039dd981e8ac08cf521d3e17f2bf38a94215e25b2a4c280bbfcbc25", func := "scarab/scarablaw09.SchedRuns", spec := "schedRuns", unfollowed := true, recurses := true, named := ["math/bits.deBruijn64tab"], apart := false, laid := [("math/bits.deBruijn64tab", laid_math_bits_deBruijn64tab)], narrowed := true }
def SchedRunsUptoSaid : Prop := schedRunsUptoRow.holds Tryz.pinned (OpenSpec.upto schedRunsSpec)

/-- 'scarablaw08.StepParts', WHERE WHAT IT READS IS OF BULK AT MOST 1048576: true; the input reads as it did. -/
def stepPartsUptoRow : OpenClaim := { program := "ytedceinkpkoncaagreatdoor", sum := "d0b0cb7dd039dd981e8ac08cf521d3e17f2bf38a94215e25b2a4c280bbfcbc25", func := "scarab/scarablaw08.StepParts", spec := "stepParts", unfollowed := true, recurses := true, named := ["math/bits.deBruijn64tab"], apart := false, laid := [("math/bits.deBruijn64tab", laid_math_bits_deBruijn64tab)], narrowed := true }
def StepPartsUptoSaid : Prop := stepPartsUptoRow.holds Tryz.pinned (OpenSpec.upto stepPartsSpec)

/-- 'scarablaw08.StepAsks', WHERE WHAT IT READS IS OF BULK AT MOST 1048576: true; the input reads as it did. -/
def stepAsksUptoRow : OpenClaim := { program := "ytedceinkpkoncaagreatdoor", sum := "d0b0cb7dd039dd981e8ac08cf521d3e17f2bf38a94215e25b2a4c280bbfcbc25", func := "scarab/scarablaw08.StepAsks", spec := "stepAsks", unfollowed := true, recurses := true, named := ["math/bits.deBruijn64tab"], apart := false, laid := [("math/bits.deBruijn64tab", laid_math_bits_deBruijn64tab)], narrowed := true }
def StepAsksUptoSaid : Prop := stepAsksUptoRow.holds Tryz.pinned (OpenSpec.upto stepAsksSpec)

/-- 'scarablaw09.SchedAsks', WHERE WHAT IT READS IS OF BULK AT MOST 1048576: true; the input reads as it did. -/
def schedAsksUptoRow : OpenClaim := { program := "ytedceinkpkoncaagreatdoor", sum := "d0b0cb7dd039dd981e8ac08cf521d3e17f2bf38a94215e25b2a4c280bbfcbc25", func := "scarab/scarablaw09.SchedAsks", spec := "schedAsks", unfollowed := true, recurses := true, named := ["math/bits.deBruijn64tab"], apart := false, laid := [("math/bits.deBruijn64tab", laid_math_bits_deBruijn64tab)], narrowed := true }
def SchedAsksUptoSaid : Prop := schedAsksUptoRow.holds Tryz.pinned (OpenSpec.upto schedAsksSpec)

/-- 'scarablaw09.SchedChooses', WHERE WHAT IT READS IS OF BULK AT MOST 1048576: true; the input reads as it did. -/
def schedChoosesUptoRow : OpenClaim := { program := "ytedceinkpkoncaagreatdoor", sum := "d0b0cb7dd039dd981e8ac08cf521d3e17f2bf38a94215e25b2a4c280bbfcbc25", func := "scarab/scarablaw09.SchedChooses", spec := "schedChooses", unfollowed := true, recurses := true, named := ["math/bits.deBruijn64tab"], apart := false, laid := [("math/bits.deBruijn64tab", laid_math_bits_deBruijn64tab)], narrowed := true }
def SchedChoosesUptoSaid : Prop := schedChoosesUptoRow.holds Tryz.pinned (OpenSpec.upto schedChoosesSpec)

/-- 'scarablaw09.SchedParts', WHERE WHAT IT READS IS OF BULK AT MOST 1048576: true; the input reads as it did. -/
def schedPartsUptoRow : OpenClaim := { program := "ytedceinkpkoncaagreatdoor", sum := "d0b0cb7dd039dd981e8ac08cf521d3e17f2bf38a94215e25b2a4c280bbfcbc25", func := "scarab/scarablaw09.SchedParts", spec := "schedParts", unfollowed := true, recurses := true, named := ["math/bits.deBruijn64tab"], apart := false, laid := [("math/bits.deBruijn64tab", laid_math_bits_deBruijn64tab)], narrowed := true }
def SchedPartsUptoSaid : Prop := schedPartsUptoRow.holds Tryz.pinned (OpenSpec.upto schedPartsSpec)

/-- 'scarablaw09.SchedEnds', WHERE WHAT IT READS IS OF BULK AT MOST 1048576: true; the input reads as it did. -/
def schedEndsUptoRow : OpenClaim := { program := "ytedceinkpkoncaagreatdoor", sum := "d0b0cb7dd039dd981e8ac08cf521d3e17f2bf38a94215e25b2a4c280bbfcbc25", func := "scarab/scarablaw09.SchedEnds", spec := "schedEnds", unfollowed := true, recurses := true, named := ["math/bits.deBruijn64tab"], apart := false, laid := [("math/bits.deBruijn64tab", laid_math_bits_deBruijn64tab)], narrowed := true }
def SchedEndsUptoSaid : Prop := schedEndsUptoRow.holds Tryz.pinned (OpenSpec.upto schedEndsSpec)

end Rows
end Go.Proofs.YtedceinkpkoncaaGreatDoor
