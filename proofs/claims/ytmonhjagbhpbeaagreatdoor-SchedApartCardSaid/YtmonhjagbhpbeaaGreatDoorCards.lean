/-
  DERIVED. GIVEN WITH THE SEED: THE CARDS: each row of YtmonhjagbhpbeaaGreatDoorRows.lean that lists a variable, with what it lists TIED to the program's text (the seventh form; the later family's looks); each row that meets fmt, with fmt's text TOLD by the authors' own Lean function (tested against real Go, not proved from fmt's source: count such statements apart). THE CARD IS WHAT COUNTS. Prove the row's statement (the work); the ties are given (YtmonhjagbhpbeaaGreatDoorTie.lean); close each card by the builder's one call (the guide's Derived/Test/ToyasCard.lean, 'card_holds'). Laid BY PROGRAM, IN A SANDBOX (cutbox-door.mjs). By AI agents, Wed Nov 11 2026. No macro, syntax, notation, axiom, sorry.
-/
import Derived.Test.YtmonhjagbhpbeaaGreatDoorRows
import GoSem.ClaimSeven
namespace Go.Proofs.YtmonhjagbhpbeaaGreatDoor
namespace Rows

/-- THE TIED CARD OF 'scarablaw09.SchedLegal'. -/
def schedLegalCard : Claim7 := { stood := { row := schedLegalRow, standIns := [], harness := (true, "dc216da364a7c5dc7495126513f6952ab1937982fba8d224a3bbe258ee03ffa6"), looks := false }, kinds := [], alts := [], laidByText := true, laidKinds := [.data], laidTests := true, laidLooks := .later }
def SchedLegalCardSaid : Prop := Claim7.holds Tryz.pinned (.plain (OpenSpec.ofChange schedLegalSpec)) schedLegalCard

/-- THE TIED CARD OF 'scarablaw09.SchedApart'. -/
def schedApartCard : Claim7 := { stood := { row := schedApartRow, standIns := [], harness := (true, "dc216da364a7c5dc7495126513f6952ab1937982fba8d224a3bbe258ee03ffa6"), looks := false }, kinds := [], alts := [], laidByText := true, laidKinds := [.data], laidTests := true, laidLooks := .later }
def SchedApartCardSaid : Prop := Claim7.holds Tryz.pinned (.plain (OpenSpec.ofChange schedApartSpec)) schedApartCard

/-- THE TIED CARD OF 'scarablaw09.SchedTurns'. -/
def schedTurnsCard : Claim7 := { stood := { row := schedTurnsRow, standIns := [], harness := (true, "dc216da364a7c5dc7495126513f6952ab1937982fba8d224a3bbe258ee03ffa6"), looks := false }, kinds := [], alts := [], laidByText := true, laidKinds := [.data], laidTests := true, laidLooks := .later }
def SchedTurnsCardSaid : Prop := Claim7.holds Tryz.pinned (.plain (OpenSpec.ofChange schedTurnsSpec)) schedTurnsCard

/-- THE TIED CARD OF 'scarablaw10.DependTurns'. -/
def dependTurnsCard : Claim7 := { stood := { row := dependTurnsRow, standIns := [], harness := (true, "dc216da364a7c5dc7495126513f6952ab1937982fba8d224a3bbe258ee03ffa6"), looks := false }, kinds := [], alts := [], laidByText := true, laidKinds := [.data], laidTests := true, laidLooks := .later }
def DependTurnsCardSaid : Prop := Claim7.holds Tryz.pinned (.plain (OpenSpec.ofChange dependTurnsSpec)) dependTurnsCard

/-- THE TIED CARD OF 'scarablaw10.DependSinks'. -/
def dependSinksCard : Claim7 := { stood := { row := dependSinksRow, standIns := [], harness := (true, "dc216da364a7c5dc7495126513f6952ab1937982fba8d224a3bbe258ee03ffa6"), looks := false }, kinds := [], alts := [], laidByText := true, laidKinds := [.data], laidTests := true, laidLooks := .later }
def DependSinksCardSaid : Prop := Claim7.holds Tryz.pinned (.plain (OpenSpec.ofChange dependSinksSpec)) dependSinksCard

/-- THE TIED CARD OF 'scarablaw10.DependSwaps'. -/
def dependSwapsCard : Claim7 := { stood := { row := dependSwapsRow, standIns := [], harness := (true, "dc216da364a7c5dc7495126513f6952ab1937982fba8d224a3bbe258ee03ffa6"), looks := false }, kinds := [], alts := [], laidByText := true, laidKinds := [.data], laidTests := true, laidLooks := .later }
def DependSwapsCardSaid : Prop := Claim7.holds Tryz.pinned (.plain (OpenSpec.ofChange dependSwapsSpec)) dependSwapsCard

/-- THE TIED CARD OF 'scarablaw10.DependNear'. -/
def dependNearCard : Claim7 := { stood := { row := dependNearRow, standIns := [], harness := (true, "dc216da364a7c5dc7495126513f6952ab1937982fba8d224a3bbe258ee03ffa6"), looks := false }, kinds := [], alts := [], laidByText := true, laidKinds := [.data], laidTests := true, laidLooks := .later }
def DependNearCardSaid : Prop := Claim7.holds Tryz.pinned (.plain (OpenSpec.ofChange dependNearSpec)) dependNearCard

/-- THE TIED CARD OF 'scarabtop.TopTrodden'. -/
def topTroddenCard : Claim7 := { stood := { row := topTroddenRow, standIns := [], harness := (true, "dc216da364a7c5dc7495126513f6952ab1937982fba8d224a3bbe258ee03ffa6"), looks := false }, kinds := [], alts := [], laidByText := true, laidKinds := [.data], laidTests := true, laidLooks := .later }
def TopTroddenCardSaid : Prop := Claim7.holds Tryz.pinned (.plain (OpenSpec.ofChange topTroddenSpec)) topTroddenCard

/-- THE TIED CARD OF 'scarabtop.TopSees'. -/
def topSeesCard : Claim7 := { stood := { row := topSeesRow, standIns := [], harness := (true, "dc216da364a7c5dc7495126513f6952ab1937982fba8d224a3bbe258ee03ffa6"), looks := false }, kinds := [], alts := [], laidByText := true, laidKinds := [.data], laidTests := true, laidLooks := .later }
def TopSeesCardSaid : Prop := Claim7.holds Tryz.pinned (.plain (OpenSpec.ofChange topSeesSpec)) topSeesCard

/-- THE SECOND FORM's CARD OF 'scarablaw09.SchedLegal'. -/
def schedLegalUptoCard : Claim7 := { stood := { row := schedLegalUptoRow, standIns := [], harness := (true, "dc216da364a7c5dc7495126513f6952ab1937982fba8d224a3bbe258ee03ffa6"), looks := false }, kinds := [], alts := [], laidByText := true, laidKinds := [.data], laidTests := true, laidLooks := .later }
def SchedLegalUptoCardSaid : Prop := Claim7.holds Tryz.pinned (.plain (OpenSpec.upto schedLegalSpec)) schedLegalUptoCard

/-- THE SECOND FORM's CARD OF 'scarablaw09.SchedApart'. -/
def schedApartUptoCard : Claim7 := { stood := { row := schedApartUptoRow, standIns := [], harness := (true, "dc216da364a7c5dc7495126513f6952ab1937982fba8d224a3bbe258ee03ffa6"), looks := false }, kinds := [], alts := [], laidByText := true, laidKinds := [.data], laidTests := true, laidLooks := .later }
def SchedApartUptoCardSaid : Prop := Claim7.holds Tryz.pinned (.plain (OpenSpec.upto schedApartSpec)) schedApartUptoCard

/-- THE SECOND FORM's CARD OF 'scarablaw09.SchedTurns'. -/
def schedTurnsUptoCard : Claim7 := { stood := { row := schedTurnsUptoRow, standIns := [], harness := (true, "dc216da364a7c5dc7495126513f6952ab1937982fba8d224a3bbe258ee03ffa6"), looks := false }, kinds := [], alts := [], laidByText := true, laidKinds := [.data], laidTests := true, laidLooks := .later }
def SchedTurnsUptoCardSaid : Prop := Claim7.holds Tryz.pinned (.plain (OpenSpec.upto schedTurnsSpec)) schedTurnsUptoCard

/-- THE SECOND FORM's CARD OF 'scarablaw10.DependTurns'. -/
def dependTurnsUptoCard : Claim7 := { stood := { row := dependTurnsUptoRow, standIns := [], harness := (true, "dc216da364a7c5dc7495126513f6952ab1937982fba8d224a3bbe258ee03ffa6"), looks := false }, kinds := [], alts := [], laidByText := true, laidKinds := [.data], laidTests := true, laidLooks := .later }
def DependTurnsUptoCardSaid : Prop := Claim7.holds Tryz.pinned (.plain (OpenSpec.upto dependTurnsSpec)) dependTurnsUptoCard

/-- THE SECOND FORM's CARD OF 'scarablaw10.DependSinks'. -/
def dependSinksUptoCard : Claim7 := { stood := { row := dependSinksUptoRow, standIns := [], harness := (true, "dc216da364a7c5dc7495126513f6952ab1937982fba8d224a3bbe258ee03ffa6"), looks := false }, kinds := [], alts := [], laidByText := true, laidKinds := [.data], laidTests := true, laidLooks := .later }
def DependSinksUptoCardSaid : Prop := Claim7.holds Tryz.pinned (.plain (OpenSpec.upto dependSinksSpec)) dependSinksUptoCard

/-- THE SECOND FORM's CARD OF 'scarablaw10.DependSwaps'. -/
def dependSwapsUptoCard : Claim7 := { stood := { row := dependSwapsUptoRow, standIns := [], harness := (true, "dc216da364a7c5dc7495126513f6952ab1937982fba8d224a3bbe258ee03ffa6"), looks := false }, kinds := [], alts := [], laidByText := true, laidKinds := [.data], laidTests := true, laidLooks := .later }
def DependSwapsUptoCardSaid : Prop := Claim7.holds Tryz.pinned (.plain (OpenSpec.upto dependSwapsSpec)) dependSwapsUptoCard

/-- THE SECOND FORM's CARD OF 'scarablaw10.DependNear'. -/
def dependNearUptoCard : Claim7 := { stood := { row := dependNearUptoRow, standIns := [], harness := (true, "dc216da364a7c5dc7495126513f6952ab1937982fba8d224a3bbe258ee03ffa6"), looks := false }, kinds := [], alts := [], laidByText := true, laidKinds := [.data], laidTests := true, laidLooks := .later }
def DependNearUptoCardSaid : Prop := Claim7.holds Tryz.pinned (.plain (OpenSpec.upto dependNearSpec)) dependNearUptoCard

/-- THE SECOND FORM's CARD OF 'scarabtop.TopTrodden'. -/
def topTroddenUptoCard : Claim7 := { stood := { row := topTroddenUptoRow, standIns := [], harness := (true, "dc216da364a7c5dc7495126513f6952ab1937982fba8d224a3bbe258ee03ffa6"), looks := false }, kinds := [], alts := [], laidByText := true, laidKinds := [.data], laidTests := true, laidLooks := .later }
def TopTroddenUptoCardSaid : Prop := Claim7.holds Tryz.pinned (.plain (OpenSpec.upto topTroddenSpec)) topTroddenUptoCard

/-- THE SECOND FORM's CARD OF 'scarabtop.TopSees'. -/
def topSeesUptoCard : Claim7 := { stood := { row := topSeesUptoRow, standIns := [], harness := (true, "dc216da364a7c5dc7495126513f6952ab1937982fba8d224a3bbe258ee03ffa6"), looks := false }, kinds := [], alts := [], laidByText := true, laidKinds := [.data], laidTests := true, laidLooks := .later }
def TopSeesUptoCardSaid : Prop := Claim7.holds Tryz.pinned (.plain (OpenSpec.upto topSeesSpec)) topSeesUptoCard
end Rows
end Go.Proofs.YtmonhjagbhpbeaaGreatDoor
