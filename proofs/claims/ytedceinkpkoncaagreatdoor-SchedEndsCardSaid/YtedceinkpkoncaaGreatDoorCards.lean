/-
  DERIVED. GIVEN WITH THE SEED: THE CARDS: each row of YtedceinkpkoncaaGreatDoorRows.lean that lists a variable, with what it lists TIED to the program's text (the seventh form; the later family's looks); each row that meets fmt, with fmt's text TOLD by the authors' own Lean function (tested against real Go, not proved from fmt's source: count such statements apart). THE CARD IS WHAT COUNTS. Prove the row's statement (the work); the ties are given (YtedceinkpkoncaaGreatDoorTie.lean); close each card by the builder's one call (the guide's Derived/Test/ToyasCard.lean, 'card_holds'). Laid BY PROGRAM, IN A SANDBOX (cutbox-door.mjs). By AI agents, Wed Nov 11 2026. No macro, syntax, notation, axiom, sorry.
-/
import Derived.Test.YtedceinkpkoncaaGreatDoorRows
import GoSem.ClaimSeven
namespace Go.Proofs.YtedceinkpkoncaaGreatDoor
namespace Rows

/-- THE TIED CARD OF 'scarablaw08.StepDoes'. -/
def stepDoesCard : Claim7 := { stood := { row := stepDoesRow, standIns := [], harness := (true, "ef6ddc343032395f272bf853bb8901e8b55bab31aa49d5a5b8a97d411e81ac17"), looks := false }, kinds := [], alts := [], laidByText := true, laidKinds := [.data], laidTests := true, laidLooks := .later }
def StepDoesCardSaid : Prop := Claim7.holds Tryz.pinned (.plain (OpenSpec.ofChange stepDoesSpec)) stepDoesCard

/-- THE TIED CARD OF 'scarablaw08.StepKeeps'. -/
def stepKeepsCard : Claim7 := { stood := { row := stepKeepsRow, standIns := [], harness := (true, "ef6ddc343032395f272bf853bb8901e8b55bab31aa49d5a5b8a97d411e81ac17"), looks := false }, kinds := [], alts := [], laidByText := true, laidKinds := [.data], laidTests := true, laidLooks := .later }
def StepKeepsCardSaid : Prop := Claim7.holds Tryz.pinned (.plain (OpenSpec.ofChange stepKeepsSpec)) stepKeepsCard

/-- THE TIED CARD OF 'scarablaw08.StepCommutes'. -/
def stepCommutesCard : Claim7 := { stood := { row := stepCommutesRow, standIns := [], harness := (true, "ef6ddc343032395f272bf853bb8901e8b55bab31aa49d5a5b8a97d411e81ac17"), looks := false }, kinds := [], alts := [], laidByText := true, laidKinds := [.data], laidTests := true, laidLooks := .later }
def StepCommutesCardSaid : Prop := Claim7.holds Tryz.pinned (.plain (OpenSpec.ofChange stepCommutesSpec)) stepCommutesCard

/-- THE TIED CARD OF 'scarablaw08.StepWakes'. -/
def stepWakesCard : Claim7 := { stood := { row := stepWakesRow, standIns := [], harness := (true, "ef6ddc343032395f272bf853bb8901e8b55bab31aa49d5a5b8a97d411e81ac17"), looks := false }, kinds := [], alts := [], laidByText := true, laidKinds := [.data], laidTests := true, laidLooks := .later }
def StepWakesCardSaid : Prop := Claim7.holds Tryz.pinned (.plain (OpenSpec.ofChange stepWakesSpec)) stepWakesCard

/-- THE TIED CARD OF 'scarablaw09.SchedRuns'. -/
def schedRunsCard : Claim7 := { stood := { row := schedRunsRow, standIns := [], harness := (true, "ef6ddc343032395f272bf853bb8901e8b55bab31aa49d5a5b8a97d411e81ac17"), looks := false }, kinds := [], alts := [], laidByText := true, laidKinds := [.data], laidTests := true, laidLooks := .later }
def SchedRunsCardSaid : Prop := Claim7.holds Tryz.pinned (.plain (OpenSpec.ofChange schedRunsSpec)) schedRunsCard

/-- THE TIED CARD OF 'scarablaw08.StepParts'. -/
def stepPartsCard : Claim7 := { stood := { row := stepPartsRow, standIns := [], harness := (true, "ef6ddc343032395f272bf853bb8901e8b55bab31aa49d5a5b8a97d411e81ac17"), looks := false }, kinds := [], alts := [], laidByText := true, laidKinds := [.data], laidTests := true, laidLooks := .later }
def StepPartsCardSaid : Prop := Claim7.holds Tryz.pinned (.plain (OpenSpec.ofChange stepPartsSpec)) stepPartsCard

/-- THE TIED CARD OF 'scarablaw08.StepAsks'. -/
def stepAsksCard : Claim7 := { stood := { row := stepAsksRow, standIns := [], harness := (true, "ef6ddc343032395f272bf853bb8901e8b55bab31aa49d5a5b8a97d411e81ac17"), looks := false }, kinds := [], alts := [], laidByText := true, laidKinds := [.data], laidTests := true, laidLooks := .later }
def StepAsksCardSaid : Prop := Claim7.holds Tryz.pinned (.plain (OpenSpec.ofChange stepAsksSpec)) stepAsksCard

/-- THE TIED CARD OF 'scarablaw09.SchedAsks'. -/
def schedAsksCard : Claim7 := { stood := { row := schedAsksRow, standIns := [], harness := (true, "ef6ddc343032395f272bf853bb8901e8b55bab31aa49d5a5b8a97d411e81ac17"), looks := false }, kinds := [], alts := [], laidByText := true, laidKinds := [.data], laidTests := true, laidLooks := .later }
def SchedAsksCardSaid : Prop := Claim7.holds Tryz.pinned (.plain (OpenSpec.ofChange schedAsksSpec)) schedAsksCard

/-- THE TIED CARD OF 'scarablaw09.SchedChooses'. -/
def schedChoosesCard : Claim7 := { stood := { row := schedChoosesRow, standIns := [], harness := (true, "ef6ddc343032395f272bf853bb8901e8b55bab31aa49d5a5b8a97d411e81ac17"), looks := false }, kinds := [], alts := [], laidByText := true, laidKinds := [.data], laidTests := true, laidLooks := .later }
def SchedChoosesCardSaid : Prop := Claim7.holds Tryz.pinned (.plain (OpenSpec.ofChange schedChoosesSpec)) schedChoosesCard

/-- THE TIED CARD OF 'scarablaw09.SchedParts'. -/
def schedPartsCard : Claim7 := { stood := { row := schedPartsRow, standIns := [], harness := (true, "ef6ddc343032395f272bf853bb8901e8b55bab31aa49d5a5b8a97d411e81ac17"), looks := false }, kinds := [], alts := [], laidByText := true, laidKinds := [.data], laidTests := true, laidLooks := .later }
def SchedPartsCardSaid : Prop := Claim7.holds Tryz.pinned (.plain (OpenSpec.ofChange schedPartsSpec)) schedPartsCard

/-- THE TIED CARD OF 'scarablaw09.SchedEnds'. -/
def schedEndsCard : Claim7 := { stood := { row := schedEndsRow, standIns := [], harness := (true, "ef6ddc343032395f272bf853bb8901e8b55bab31aa49d5a5b8a97d411e81ac17"), looks := false }, kinds := [], alts := [], laidByText := true, laidKinds := [.data], laidTests := true, laidLooks := .later }
def SchedEndsCardSaid : Prop := Claim7.holds Tryz.pinned (.plain (OpenSpec.ofChange schedEndsSpec)) schedEndsCard

/-- THE SECOND FORM's CARD OF 'scarablaw08.StepDoes'. -/
def stepDoesUptoCard : Claim7 := { stood := { row := stepDoesUptoRow, standIns := [], harness := (true, "ef6ddc343032395f272bf853bb8901e8b55bab31aa49d5a5b8a97d411e81ac17"), looks := false }, kinds := [], alts := [], laidByText := true, laidKinds := [.data], laidTests := true, laidLooks := .later }
def StepDoesUptoCardSaid : Prop := Claim7.holds Tryz.pinned (.plain (OpenSpec.upto stepDoesSpec)) stepDoesUptoCard

/-- THE SECOND FORM's CARD OF 'scarablaw08.StepKeeps'. -/
def stepKeepsUptoCard : Claim7 := { stood := { row := stepKeepsUptoRow, standIns := [], harness := (true, "ef6ddc343032395f272bf853bb8901e8b55bab31aa49d5a5b8a97d411e81ac17"), looks := false }, kinds := [], alts := [], laidByText := true, laidKinds := [.data], laidTests := true, laidLooks := .later }
def StepKeepsUptoCardSaid : Prop := Claim7.holds Tryz.pinned (.plain (OpenSpec.upto stepKeepsSpec)) stepKeepsUptoCard

/-- THE SECOND FORM's CARD OF 'scarablaw08.StepCommutes'. -/
def stepCommutesUptoCard : Claim7 := { stood := { row := stepCommutesUptoRow, standIns := [], harness := (true, "ef6ddc343032395f272bf853bb8901e8b55bab31aa49d5a5b8a97d411e81ac17"), looks := false }, kinds := [], alts := [], laidByText := true, laidKinds := [.data], laidTests := true, laidLooks := .later }
def StepCommutesUptoCardSaid : Prop := Claim7.holds Tryz.pinned (.plain (OpenSpec.upto stepCommutesSpec)) stepCommutesUptoCard

/-- THE SECOND FORM's CARD OF 'scarablaw08.StepWakes'. -/
def stepWakesUptoCard : Claim7 := { stood := { row := stepWakesUptoRow, standIns := [], harness := (true, "ef6ddc343032395f272bf853bb8901e8b55bab31aa49d5a5b8a97d411e81ac17"), looks := false }, kinds := [], alts := [], laidByText := true, laidKinds := [.data], laidTests := true, laidLooks := .later }
def StepWakesUptoCardSaid : Prop := Claim7.holds Tryz.pinned (.plain (OpenSpec.upto stepWakesSpec)) stepWakesUptoCard

/-- THE SECOND FORM's CARD OF 'scarablaw09.SchedRuns'. -/
def schedRunsUptoCard : Claim7 := { stood := { row := schedRunsUptoRow, standIns := [], harness := (true, "ef6ddc343032395f272bf853bb8901e8b55bab31aa49d5a5b8a97d411e81ac17"), looks := false }, kinds := [], alts := [], laidByText := true, laidKinds := [.data], laidTests := true, laidLooks := .later }
def SchedRunsUptoCardSaid : Prop := Claim7.holds Tryz.pinned (.plain (OpenSpec.upto schedRunsSpec)) schedRunsUptoCard

/-- THE SECOND FORM's CARD OF 'scarablaw08.StepParts'. -/
def stepPartsUptoCard : Claim7 := { stood := { row := stepPartsUptoRow, standIns := [], harness := (true, "ef6ddc343032395f272bf853bb8901e8b55bab31aa49d5a5b8a97d411e81ac17"), looks := false }, kinds := [], alts := [], laidByText := true, laidKinds := [.data], laidTests := true, laidLooks := .later }
def StepPartsUptoCardSaid : Prop := Claim7.holds Tryz.pinned (.plain (OpenSpec.upto stepPartsSpec)) stepPartsUptoCard

/-- THE SECOND FORM's CARD OF 'scarablaw08.StepAsks'. -/
def stepAsksUptoCard : Claim7 := { stood := { row := stepAsksUptoRow, standIns := [], harness := (true, "ef6ddc343032395f272bf853bb8901e8b55bab31aa49d5a5b8a97d411e81ac17"), looks := false }, kinds := [], alts := [], laidByText := true, laidKinds := [.data], laidTests := true, laidLooks := .later }
def StepAsksUptoCardSaid : Prop := Claim7.holds Tryz.pinned (.plain (OpenSpec.upto stepAsksSpec)) stepAsksUptoCard

/-- THE SECOND FORM's CARD OF 'scarablaw09.SchedAsks'. -/
def schedAsksUptoCard : Claim7 := { stood := { row := schedAsksUptoRow, standIns := [], harness := (true, "ef6ddc343032395f272bf853bb8901e8b55bab31aa49d5a5b8a97d411e81ac17"), looks := false }, kinds := [], alts := [], laidByText := true, laidKinds := [.data], laidTests := true, laidLooks := .later }
def SchedAsksUptoCardSaid : Prop := Claim7.holds Tryz.pinned (.plain (OpenSpec.upto schedAsksSpec)) schedAsksUptoCard

/-- THE SECOND FORM's CARD OF 'scarablaw09.SchedChooses'. -/
def schedChoosesUptoCard : Claim7 := { stood := { row := schedChoosesUptoRow, standIns := [], harness := (true, "ef6ddc343032395f272bf853bb8901e8b55bab31aa49d5a5b8a97d411e81ac17"), looks := false }, kinds := [], alts := [], laidByText := true, laidKinds := [.data], laidTests := true, laidLooks := .later }
def SchedChoosesUptoCardSaid : Prop := Claim7.holds Tryz.pinned (.plain (OpenSpec.upto schedChoosesSpec)) schedChoosesUptoCard

/-- THE SECOND FORM's CARD OF 'scarablaw09.SchedParts'. -/
def schedPartsUptoCard : Claim7 := { stood := { row := schedPartsUptoRow, standIns := [], harness := (true, "ef6ddc343032395f272bf853bb8901e8b55bab31aa49d5a5b8a97d411e81ac17"), looks := false }, kinds := [], alts := [], laidByText := true, laidKinds := [.data], laidTests := true, laidLooks := .later }
def SchedPartsUptoCardSaid : Prop := Claim7.holds Tryz.pinned (.plain (OpenSpec.upto schedPartsSpec)) schedPartsUptoCard

/-- THE SECOND FORM's CARD OF 'scarablaw09.SchedEnds'. -/
def schedEndsUptoCard : Claim7 := { stood := { row := schedEndsUptoRow, standIns := [], harness := (true, "ef6ddc343032395f272bf853bb8901e8b55bab31aa49d5a5b8a97d411e81ac17"), looks := false }, kinds := [], alts := [], laidByText := true, laidKinds := [.data], laidTests := true, laidLooks := .later }
def SchedEndsUptoCardSaid : Prop := Claim7.holds Tryz.pinned (.plain (OpenSpec.upto schedEndsSpec)) schedEndsUptoCard
end Rows
end Go.Proofs.YtedceinkpkoncaaGreatDoor
