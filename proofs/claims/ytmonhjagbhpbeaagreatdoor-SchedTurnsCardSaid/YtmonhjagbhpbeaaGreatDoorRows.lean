/-
  NARROWER THAN 'FOR EVERY INPUT', by the rows' own cells (each row's printed sentence says how): SchedLegal: laid · SchedApart: laid · SchedTurns: laid · DependTurns: laid · DependSinks: laid · DependSwaps: laid · DependNear: laid · TopTrodden: laid · TopSees: laid.
  DERIVED. THE GIVEN ROWS OF THIS SEAT. 9 by the template 'for every input the law returns true; each argument reads behind the call as it read before'; 0 by the template 'total and deterministic' (their statements: YtmonhjagbhpbeaaGreatDoorTotals.lean).
  GIVEN WITH THE SEED: the statements are not yours to turn. If you find one false, say at which input.
  Laid BY PROGRAM, IN A SANDBOX (cutbox-rows.mjs): the forced cells as the released guide's own fill.sh prints them over the translation 3b7423bb91b35ccc… (all of the seat's roots in one cut). By AI agents, Wed Nov 11 2026. No macro, syntax, notation, axiom, sorry.
-/
import Derived.Test.YtmonhjagbhpbeaaGreatDoorChecked
import GoSem.Claim
import GoSem.ClaimJoined
import GoSem.ClaimMapViews
import Derived.JoinedTies
import Derived.KernelRfl
namespace Go.Proofs.YtmonhjagbhpbeaaGreatDoor
/- THE CELL 'sum', in the pinned program and in every row, IS THE sha256 OF THE DUMP (.gsa) THAT YtmonhjagbhpbeaaGreatDoorProg.lean LOADS. Nothing in Lean hashes anything: it is a label: what it is worth is what the hold of that sum in a sandbox is worth. -/
noncomputable def Tryz.pinned : Pinned := { name := "ytmonhjagbhpbeaagreatdoor", sum := "3b7423bb91b35cccde0d878175576f985e064a5837b3a95f8d03e4a33390cb0d", checked := Tryz.checked }
namespace Rows
def none {H : Type} : Left H := { results := [], args := [] }

/- WHAT THE LISTED PACKAGE-LEVEL VARIABLES READ AS WHEN THE CALL BEGINS. Each datum BY PROGRAM (the guide's laid-datum.mjs) off the statement by which the dump's own 'gosem.cut.vars' lays the variable. In a bare row this is a premise. The card (YtmonhjagbhpbeaaGreatDoorCards.lean) ties it to the program's text. -/
def laid_math_bits_deBruijn64tab {H : Type} : DataW H := .agg [.lit (.int .u8 0), .lit (.int .u8 1), .lit (.int .u8 56), .lit (.int .u8 2), .lit (.int .u8 57), .lit (.int .u8 49), .lit (.int .u8 28), .lit (.int .u8 3), .lit (.int .u8 61), .lit (.int .u8 58), .lit (.int .u8 42), .lit (.int .u8 50), .lit (.int .u8 38), .lit (.int .u8 29), .lit (.int .u8 17), .lit (.int .u8 4), .lit (.int .u8 62), .lit (.int .u8 47), .lit (.int .u8 59), .lit (.int .u8 36), .lit (.int .u8 45), .lit (.int .u8 43), .lit (.int .u8 51), .lit (.int .u8 22), .lit (.int .u8 53), .lit (.int .u8 39), .lit (.int .u8 33), .lit (.int .u8 30), .lit (.int .u8 24), .lit (.int .u8 18), .lit (.int .u8 12), .lit (.int .u8 5), .lit (.int .u8 63), .lit (.int .u8 55), .lit (.int .u8 48), .lit (.int .u8 27), .lit (.int .u8 60), .lit (.int .u8 41), .lit (.int .u8 37), .lit (.int .u8 16), .lit (.int .u8 46), .lit (.int .u8 35), .lit (.int .u8 44), .lit (.int .u8 21), .lit (.int .u8 52), .lit (.int .u8 32), .lit (.int .u8 23), .lit (.int .u8 11), .lit (.int .u8 54), .lit (.int .u8 26), .lit (.int .u8 40), .lit (.int .u8 15), .lit (.int .u8 34), .lit (.int .u8 20), .lit (.int .u8 31), .lit (.int .u8 10), .lit (.int .u8 25), .lit (.int .u8 14), .lit (.int .u8 19), .lit (.int .u8 9), .lit (.int .u8 13), .lit (.int .u8 8), .lit (.int .u8 7), .lit (.int .u8 6)]

/-- 'scarablaw09.SchedLegal': WHATEVER THE INPUT: true; the input reads as it did. -/
def schedLegalSpec : ChangeSpec := { name := "schedLegal", fn := fun _ => fun
  | [d1, d2, d3] => { results := [.lit (.bool true)], args := [d1, d2, d3] }
  | _ => none }
def schedLegalRow : OpenClaim := { program := "ytmonhjagbhpbeaagreatdoor", sum := "3b7423bb91b35cccde0d878175576f985e064a5837b3a95f8d03e4a33390cb0d", func := "scarab/scarablaw09.SchedLegal", spec := "schedLegal", unfollowed := true, recurses := true, named := ["math/bits.deBruijn64tab"], apart := false, laid := [("math/bits.deBruijn64tab", laid_math_bits_deBruijn64tab)] }
def SchedLegalSaid : Prop := schedLegalRow.holds Tryz.pinned (OpenSpec.ofChange schedLegalSpec)

/-- ITS FALSE NEIGHBOUR: 'it returns false'. Refute it at one input. -/
def schedLegalWrong : ChangeSpec := { name := "schedLegal", fn := fun _ => fun
  | [d1, d2, d3] => { results := [.lit (.bool false)], args := [d1, d2, d3] }
  | _ => none }
def SchedLegalWrongFalsely : Prop := schedLegalRow.holds Tryz.pinned (OpenSpec.ofChange schedLegalWrong)

/-- 'scarablaw09.SchedApart': WHATEVER THE INPUT: true; the input reads as it did. -/
def schedApartSpec : ChangeSpec := { name := "schedApart", fn := fun _ => fun
  | [d1, d2, d3] => { results := [.lit (.bool true)], args := [d1, d2, d3] }
  | _ => none }
def schedApartRow : OpenClaim := { program := "ytmonhjagbhpbeaagreatdoor", sum := "3b7423bb91b35cccde0d878175576f985e064a5837b3a95f8d03e4a33390cb0d", func := "scarab/scarablaw09.SchedApart", spec := "schedApart", unfollowed := true, recurses := true, named := ["math/bits.deBruijn64tab"], apart := false, laid := [("math/bits.deBruijn64tab", laid_math_bits_deBruijn64tab)] }
def SchedApartSaid : Prop := schedApartRow.holds Tryz.pinned (OpenSpec.ofChange schedApartSpec)

/-- ITS FALSE NEIGHBOUR: 'it returns false'. Refute it at one input. -/
def schedApartWrong : ChangeSpec := { name := "schedApart", fn := fun _ => fun
  | [d1, d2, d3] => { results := [.lit (.bool false)], args := [d1, d2, d3] }
  | _ => none }
def SchedApartWrongFalsely : Prop := schedApartRow.holds Tryz.pinned (OpenSpec.ofChange schedApartWrong)

/-- 'scarablaw09.SchedTurns': WHATEVER THE INPUT: true; the input reads as it did. -/
def schedTurnsSpec : ChangeSpec := { name := "schedTurns", fn := fun _ => fun
  | [d1, d2, d3] => { results := [.lit (.bool true)], args := [d1, d2, d3] }
  | _ => none }
def schedTurnsRow : OpenClaim := { program := "ytmonhjagbhpbeaagreatdoor", sum := "3b7423bb91b35cccde0d878175576f985e064a5837b3a95f8d03e4a33390cb0d", func := "scarab/scarablaw09.SchedTurns", spec := "schedTurns", unfollowed := true, recurses := true, named := ["math/bits.deBruijn64tab"], apart := false, laid := [("math/bits.deBruijn64tab", laid_math_bits_deBruijn64tab)] }
def SchedTurnsSaid : Prop := schedTurnsRow.holds Tryz.pinned (OpenSpec.ofChange schedTurnsSpec)

/-- ITS FALSE NEIGHBOUR: 'it returns false'. Refute it at one input. -/
def schedTurnsWrong : ChangeSpec := { name := "schedTurns", fn := fun _ => fun
  | [d1, d2, d3] => { results := [.lit (.bool false)], args := [d1, d2, d3] }
  | _ => none }
def SchedTurnsWrongFalsely : Prop := schedTurnsRow.holds Tryz.pinned (OpenSpec.ofChange schedTurnsWrong)

/-- 'scarablaw10.DependTurns': WHATEVER THE INPUT: true; the input reads as it did. -/
def dependTurnsSpec : ChangeSpec := { name := "dependTurns", fn := fun _ => fun
  | [d] => { results := [.lit (.bool true)], args := [d] }
  | _ => none }
def dependTurnsRow : OpenClaim := { program := "ytmonhjagbhpbeaagreatdoor", sum := "3b7423bb91b35cccde0d878175576f985e064a5837b3a95f8d03e4a33390cb0d", func := "scarab/scarablaw10.DependTurns", spec := "dependTurns", unfollowed := true, recurses := true, named := ["math/bits.deBruijn64tab"], apart := false, laid := [("math/bits.deBruijn64tab", laid_math_bits_deBruijn64tab)] }
def DependTurnsSaid : Prop := dependTurnsRow.holds Tryz.pinned (OpenSpec.ofChange dependTurnsSpec)

/-- ITS FALSE NEIGHBOUR: 'it returns false'. Refute it at one input. -/
def dependTurnsWrong : ChangeSpec := { name := "dependTurns", fn := fun _ => fun
  | [d] => { results := [.lit (.bool false)], args := [d] }
  | _ => none }
def DependTurnsWrongFalsely : Prop := dependTurnsRow.holds Tryz.pinned (OpenSpec.ofChange dependTurnsWrong)

/-- 'scarablaw10.DependSinks': WHATEVER THE INPUT: true; the input reads as it did. -/
def dependSinksSpec : ChangeSpec := { name := "dependSinks", fn := fun _ => fun
  | [d] => { results := [.lit (.bool true)], args := [d] }
  | _ => none }
def dependSinksRow : OpenClaim := { program := "ytmonhjagbhpbeaagreatdoor", sum := "3b7423bb91b35cccde0d878175576f985e064a5837b3a95f8d03e4a33390cb0d", func := "scarab/scarablaw10.DependSinks", spec := "dependSinks", unfollowed := true, recurses := true, named := ["math/bits.deBruijn64tab"], apart := false, laid := [("math/bits.deBruijn64tab", laid_math_bits_deBruijn64tab)] }
def DependSinksSaid : Prop := dependSinksRow.holds Tryz.pinned (OpenSpec.ofChange dependSinksSpec)

/-- ITS FALSE NEIGHBOUR: 'it returns false'. Refute it at one input. -/
def dependSinksWrong : ChangeSpec := { name := "dependSinks", fn := fun _ => fun
  | [d] => { results := [.lit (.bool false)], args := [d] }
  | _ => none }
def DependSinksWrongFalsely : Prop := dependSinksRow.holds Tryz.pinned (OpenSpec.ofChange dependSinksWrong)

/-- 'scarablaw10.DependSwaps': WHATEVER THE INPUT: true; the input reads as it did. -/
def dependSwapsSpec : ChangeSpec := { name := "dependSwaps", fn := fun _ => fun
  | [d] => { results := [.lit (.bool true)], args := [d] }
  | _ => none }
def dependSwapsRow : OpenClaim := { program := "ytmonhjagbhpbeaagreatdoor", sum := "3b7423bb91b35cccde0d878175576f985e064a5837b3a95f8d03e4a33390cb0d", func := "scarab/scarablaw10.DependSwaps", spec := "dependSwaps", unfollowed := true, recurses := true, named := ["math/bits.deBruijn64tab"], apart := false, laid := [("math/bits.deBruijn64tab", laid_math_bits_deBruijn64tab)] }
def DependSwapsSaid : Prop := dependSwapsRow.holds Tryz.pinned (OpenSpec.ofChange dependSwapsSpec)

/-- ITS FALSE NEIGHBOUR: 'it returns false'. Refute it at one input. -/
def dependSwapsWrong : ChangeSpec := { name := "dependSwaps", fn := fun _ => fun
  | [d] => { results := [.lit (.bool false)], args := [d] }
  | _ => none }
def DependSwapsWrongFalsely : Prop := dependSwapsRow.holds Tryz.pinned (OpenSpec.ofChange dependSwapsWrong)

/-- 'scarablaw10.DependNear': WHATEVER THE INPUT: true; the input reads as it did. -/
def dependNearSpec : ChangeSpec := { name := "dependNear", fn := fun _ => fun
  | [d1, d2, d3] => { results := [.lit (.bool true)], args := [d1, d2, d3] }
  | _ => none }
def dependNearRow : OpenClaim := { program := "ytmonhjagbhpbeaagreatdoor", sum := "3b7423bb91b35cccde0d878175576f985e064a5837b3a95f8d03e4a33390cb0d", func := "scarab/scarablaw10.DependNear", spec := "dependNear", unfollowed := true, recurses := true, named := ["math/bits.deBruijn64tab"], apart := false, laid := [("math/bits.deBruijn64tab", laid_math_bits_deBruijn64tab)] }
def DependNearSaid : Prop := dependNearRow.holds Tryz.pinned (OpenSpec.ofChange dependNearSpec)

/-- ITS FALSE NEIGHBOUR: 'it returns false'. Refute it at one input. -/
def dependNearWrong : ChangeSpec := { name := "dependNear", fn := fun _ => fun
  | [d1, d2, d3] => { results := [.lit (.bool false)], args := [d1, d2, d3] }
  | _ => none }
def DependNearWrongFalsely : Prop := dependNearRow.holds Tryz.pinned (OpenSpec.ofChange dependNearWrong)

/-- 'scarabtop.TopTrodden': WHATEVER THE INPUT: true; the input reads as it did. -/
def topTroddenSpec : ChangeSpec := { name := "topTrodden", fn := fun _ => fun
  | [d1, d2, d3] => { results := [.lit (.bool true)], args := [d1, d2, d3] }
  | _ => none }
def topTroddenRow : OpenClaim := { program := "ytmonhjagbhpbeaagreatdoor", sum := "3b7423bb91b35cccde0d878175576f985e064a5837b3a95f8d03e4a33390cb0d", func := "scarab/scarabtop.TopTrodden", spec := "topTrodden", unfollowed := true, recurses := true, named := ["math/bits.deBruijn64tab"], apart := false, laid := [("math/bits.deBruijn64tab", laid_math_bits_deBruijn64tab)] }
def TopTroddenSaid : Prop := topTroddenRow.holds Tryz.pinned (OpenSpec.ofChange topTroddenSpec)

/-- ITS FALSE NEIGHBOUR: 'it returns false'. Refute it at one input. -/
def topTroddenWrong : ChangeSpec := { name := "topTrodden", fn := fun _ => fun
  | [d1, d2, d3] => { results := [.lit (.bool false)], args := [d1, d2, d3] }
  | _ => none }
def TopTroddenWrongFalsely : Prop := topTroddenRow.holds Tryz.pinned (OpenSpec.ofChange topTroddenWrong)

/-- 'scarabtop.TopSees': WHATEVER THE INPUT: true; the input reads as it did. -/
def topSeesSpec : ChangeSpec := { name := "topSees", fn := fun _ => fun
  | [d1, d2, d3] => { results := [.lit (.bool true)], args := [d1, d2, d3] }
  | _ => none }
def topSeesRow : OpenClaim := { program := "ytmonhjagbhpbeaagreatdoor", sum := "3b7423bb91b35cccde0d878175576f985e064a5837b3a95f8d03e4a33390cb0d", func := "scarab/scarabtop.TopSees", spec := "topSees", unfollowed := true, recurses := true, named := ["math/bits.deBruijn64tab"], apart := false, laid := [("math/bits.deBruijn64tab", laid_math_bits_deBruijn64tab)] }
def TopSeesSaid : Prop := topSeesRow.holds Tryz.pinned (OpenSpec.ofChange topSeesSpec)

/-- ITS FALSE NEIGHBOUR: 'it returns false'. Refute it at one input. -/
def topSeesWrong : ChangeSpec := { name := "topSees", fn := fun _ => fun
  | [d1, d2, d3] => { results := [.lit (.bool false)], args := [d1, d2, d3] }
  | _ => none }
def TopSeesWrongFalsely : Prop := topSeesRow.holds Tryz.pinned (OpenSpec.ofChange topSeesWrong)

/- THE SECOND FORM. 'bulk': how many values and letters a reading holds, each counted each time it is reached (what is shared counts as often as it is met; a slice's spare places count too). A statement '..UptoSaid' is the law's where the arguments, and the package variables that the reading takes, are together of bulk at most 1048576: NARROWER than '..Said'. Prove '..Said' where nothing that the law and all that it calls make is longer than what came in: it says more and counts as full. Else prove '..UptoSaid'. A law counts once. -/
mutual
def uptoBulk {H : Type} : DataW H → Nat
  | .lit (.string bytes) => bytes.length + 1
  | .lit _ => 1
  | .nil => 1
  | .ptr d => uptoBulk d + 1
  | .slice elems spare => uptoBulkAll elems + uptoBulkAll spare + 1
  | .agg parts => uptoBulkAll parts + 1
  | .iface _ d => uptoBulk d + 1
  | .map entries => uptoBulkEntries entries + 1
  | .held _ => 1
def uptoBulkAll {H : Type} : List (DataW H) → Nat
  | [] => 0
  | d :: r => uptoBulk d + uptoBulkAll r
def uptoBulkEntries {H : Type} : List (Lit × DataW H) → Nat
  | [] => 0
  | x :: r => uptoBulkEntry x + uptoBulkEntries r
def uptoBulkEntry {H : Type} : Lit × DataW H → Nat
  | (.string bytes, d) => bytes.length + uptoBulk d + 1
  | (_, d) => uptoBulk d + 1
 end
def uptoSmall : (H : Type) → List (DataW H) → Bool := fun _ ds => decide (uptoBulkAll ds ≤ 1048576)
def OpenSpec.upto (s : _root_.Go.ChangeSpec) : _root_.Go.OpenSpec := { _root_.Go.OpenSpec.ofChange s with cond := some uptoSmall }

/-- 'scarablaw09.SchedLegal', WHERE WHAT IT READS IS OF BULK AT MOST 1048576: true; the input reads as it did. -/
def schedLegalUptoRow : OpenClaim := { program := "ytmonhjagbhpbeaagreatdoor", sum := "3b7423bb91b35cccde0d878175576f985e064a5837b3a95f8d03e4a33390cb0d", func := "scarab/scarablaw09.SchedLegal", spec := "schedLegal", unfollowed := true, recurses := true, named := ["math/bits.deBruijn64tab"], apart := false, laid := [("math/bits.deBruijn64tab", laid_math_bits_deBruijn64tab)], narrowed := true }
def SchedLegalUptoSaid : Prop := schedLegalUptoRow.holds Tryz.pinned (OpenSpec.upto schedLegalSpec)

/-- 'scarablaw09.SchedApart', WHERE WHAT IT READS IS OF BULK AT MOST 1048576: true; the input reads as it did. -/
def schedApartUptoRow : OpenClaim := { program := "ytmonhjagbhpbeaagreatdoor", sum := "3b7423bb91b35cccde0d878175576f985e064a5837b3a95f8d03e4a33390cb0d", func := "scarab/scarablaw09.SchedApart", spec := "schedApart", unfollowed := true, recurses := true, named := ["math/bits.deBruijn64tab"], apart := false, laid := [("math/bits.deBruijn64tab", laid_math_bits_deBruijn64tab)], narrowed := true }
def SchedApartUptoSaid : Prop := schedApartUptoRow.holds Tryz.pinned (OpenSpec.upto schedApartSpec)

/-- 'scarablaw09.SchedTurns', WHERE WHAT IT READS IS OF BULK AT MOST 1048576: true; the input reads as it did. -/
def schedTurnsUptoRow : OpenClaim := { program := "ytmonhjagbhpbeaagreatdoor", sum := "3b7423bb91b35cccde0d878175576f985e064a5837b3a95f8d03e4a33390cb0d", func := "scarab/scarablaw09.SchedTurns", spec := "schedTurns", unfollowed := true, recurses := true, named := ["math/bits.deBruijn64tab"], apart := false, laid := [("math/bits.deBruijn64tab", laid_math_bits_deBruijn64tab)], narrowed := true }
def SchedTurnsUptoSaid : Prop := schedTurnsUptoRow.holds Tryz.pinned (OpenSpec.upto schedTurnsSpec)

/-- 'scarablaw10.DependTurns', WHERE WHAT IT READS IS OF BULK AT MOST 1048576: true; the input reads as it did. -/
def dependTurnsUptoRow : OpenClaim := { program := "ytmonhjagbhpbeaagreatdoor", sum := "3b7423bb91b35cccde0d878175576f985e064a5837b3a95f8d03e4a33390cb0d", func := "scarab/scarablaw10.DependTurns", spec := "dependTurns", unfollowed := true, recurses := true, named := ["math/bits.deBruijn64tab"], apart := false, laid := [("math/bits.deBruijn64tab", laid_math_bits_deBruijn64tab)], narrowed := true }
def DependTurnsUptoSaid : Prop := dependTurnsUptoRow.holds Tryz.pinned (OpenSpec.upto dependTurnsSpec)

/-- 'scarablaw10.DependSinks', WHERE WHAT IT READS IS OF BULK AT MOST 1048576: true; the input reads as it did. -/
def dependSinksUptoRow : OpenClaim := { program := "ytmonhjagbhpbeaagreatdoor", sum := "3b7423bb91b35cccde0d878175576f985e064a5837b3a95f8d03e4a33390cb0d", func := "scarab/scarablaw10.DependSinks", spec := "dependSinks", unfollowed := true, recurses := true, named := ["math/bits.deBruijn64tab"], apart := false, laid := [("math/bits.deBruijn64tab", laid_math_bits_deBruijn64tab)], narrowed := true }
def DependSinksUptoSaid : Prop := dependSinksUptoRow.holds Tryz.pinned (OpenSpec.upto dependSinksSpec)

/-- 'scarablaw10.DependSwaps', WHERE WHAT IT READS IS OF BULK AT MOST 1048576: true; the input reads as it did. -/
def dependSwapsUptoRow : OpenClaim := { program := "ytmonhjagbhpbeaagreatdoor", sum := "3b7423bb91b35cccde0d878175576f985e064a5837b3a95f8d03e4a33390cb0d", func := "scarab/scarablaw10.DependSwaps", spec := "dependSwaps", unfollowed := true, recurses := true, named := ["math/bits.deBruijn64tab"], apart := false, laid := [("math/bits.deBruijn64tab", laid_math_bits_deBruijn64tab)], narrowed := true }
def DependSwapsUptoSaid : Prop := dependSwapsUptoRow.holds Tryz.pinned (OpenSpec.upto dependSwapsSpec)

/-- 'scarablaw10.DependNear', WHERE WHAT IT READS IS OF BULK AT MOST 1048576: true; the input reads as it did. -/
def dependNearUptoRow : OpenClaim := { program := "ytmonhjagbhpbeaagreatdoor", sum := "3b7423bb91b35cccde0d878175576f985e064a5837b3a95f8d03e4a33390cb0d", func := "scarab/scarablaw10.DependNear", spec := "dependNear", unfollowed := true, recurses := true, named := ["math/bits.deBruijn64tab"], apart := false, laid := [("math/bits.deBruijn64tab", laid_math_bits_deBruijn64tab)], narrowed := true }
def DependNearUptoSaid : Prop := dependNearUptoRow.holds Tryz.pinned (OpenSpec.upto dependNearSpec)

/-- 'scarabtop.TopTrodden', WHERE WHAT IT READS IS OF BULK AT MOST 1048576: true; the input reads as it did. -/
def topTroddenUptoRow : OpenClaim := { program := "ytmonhjagbhpbeaagreatdoor", sum := "3b7423bb91b35cccde0d878175576f985e064a5837b3a95f8d03e4a33390cb0d", func := "scarab/scarabtop.TopTrodden", spec := "topTrodden", unfollowed := true, recurses := true, named := ["math/bits.deBruijn64tab"], apart := false, laid := [("math/bits.deBruijn64tab", laid_math_bits_deBruijn64tab)], narrowed := true }
def TopTroddenUptoSaid : Prop := topTroddenUptoRow.holds Tryz.pinned (OpenSpec.upto topTroddenSpec)

/-- 'scarabtop.TopSees', WHERE WHAT IT READS IS OF BULK AT MOST 1048576: true; the input reads as it did. -/
def topSeesUptoRow : OpenClaim := { program := "ytmonhjagbhpbeaagreatdoor", sum := "3b7423bb91b35cccde0d878175576f985e064a5837b3a95f8d03e4a33390cb0d", func := "scarab/scarabtop.TopSees", spec := "topSees", unfollowed := true, recurses := true, named := ["math/bits.deBruijn64tab"], apart := false, laid := [("math/bits.deBruijn64tab", laid_math_bits_deBruijn64tab)], narrowed := true }
def TopSeesUptoSaid : Prop := topSeesUptoRow.holds Tryz.pinned (OpenSpec.upto topSeesSpec)

end Rows
end Go.Proofs.YtmonhjagbhpbeaaGreatDoor
