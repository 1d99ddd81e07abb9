/-
  DERIVED. GIVEN WITH THE SEED: THE CARDS: each row of YtbkcjmojgglbkaaGreatDoorRows.lean that lists a variable, with what it lists TIED to the program's text (the seventh form; the later family's looks); each row that meets fmt, with fmt's text TOLD by the authors' own Lean function (tested against real Go, not proved from fmt's source: count such statements apart). THE CARD IS WHAT COUNTS. Prove the row's statement (the work); the ties are given (YtbkcjmojgglbkaaGreatDoorTie.lean); close each card by the builder's one call (the guide's Derived/Test/ToyasCard.lean, 'card_holds'). Laid BY PROGRAM, IN A SANDBOX (cutbox-door.mjs). By AI agents, Wed Nov 11 2026. No macro, syntax, notation, axiom, sorry.
-/
import Derived.Test.YtbkcjmojgglbkaaGreatDoorRows
import GoSem.ClaimSeven
namespace Go.Proofs.YtbkcjmojgglbkaaGreatDoor
namespace Rows

/-- THE TIED CARD OF 'strobelaw02.ProbeCodes'. -/
def probeCodesCard : Claim7 := { stood := { row := probeCodesRow, standIns := [], harness := (true, "0317c1efc2cc73041a6463d23eedf5ef37cef014deea2dd9430a94fd6af32783"), looks := true }, kinds := [], alts := [], laidByText := true, laidKinds := [.data, .data, .data, .data, .sentinel, .sentinel, .pinned], laidTests := true, laidLooks := .later }
def ProbeCodesCardSaid : Prop := Claim7.holds Tryz.pinned (.plain (OpenSpec.ofChange probeCodesSpec)) probeCodesCard

/-- THE TIED CARD OF 'strobelaw02.ProbeIntervals'. -/
def probeIntervalsCard : Claim7 := { stood := { row := probeIntervalsRow, standIns := [], harness := (true, "0317c1efc2cc73041a6463d23eedf5ef37cef014deea2dd9430a94fd6af32783"), looks := true }, kinds := [], alts := [], laidByText := true, laidKinds := [.data, .data, .data, .data, .sentinel, .sentinel, .pinned], laidTests := true, laidLooks := .later }
def ProbeIntervalsCardSaid : Prop := Claim7.holds Tryz.pinned (.plain (OpenSpec.ofChange probeIntervalsSpec)) probeIntervalsCard

/-- THE TIED CARD OF 'strobelaw02.ProbeRecords'. -/
def probeRecordsCard : Claim7 := { stood := { row := probeRecordsRow, standIns := [], harness := (true, "0317c1efc2cc73041a6463d23eedf5ef37cef014deea2dd9430a94fd6af32783"), looks := true }, kinds := [], alts := [], laidByText := true, laidKinds := [.data, .data, .data, .data, .sentinel, .sentinel, .pinned], laidTests := true, laidLooks := .later }
def ProbeRecordsCardSaid : Prop := Claim7.holds Tryz.pinned (.plain (OpenSpec.ofChange probeRecordsSpec)) probeRecordsCard

/-- THE TIED CARD OF 'strobelaw02.ProbeCalibrates'. -/
def probeCalibratesCard : Claim7 := { stood := { row := probeCalibratesRow, standIns := [], harness := (true, "0317c1efc2cc73041a6463d23eedf5ef37cef014deea2dd9430a94fd6af32783"), looks := true }, kinds := [], alts := [], laidByText := true, laidKinds := [.data, .data, .data, .data, .sentinel, .sentinel, .pinned], laidTests := true, laidLooks := .later }
def ProbeCalibratesCardSaid : Prop := Claim7.holds Tryz.pinned (.plain (OpenSpec.ofChange probeCalibratesSpec)) probeCalibratesCard

/-- THE TIED CARD OF 'strobelaw02.ProbeQuantises'. -/
def probeQuantisesCard : Claim7 := { stood := { row := probeQuantisesRow, standIns := [], harness := (true, "0317c1efc2cc73041a6463d23eedf5ef37cef014deea2dd9430a94fd6af32783"), looks := true }, kinds := [], alts := [], laidByText := true, laidKinds := [.data, .data, .data, .data, .sentinel, .sentinel, .pinned], laidTests := true, laidLooks := .later }
def ProbeQuantisesCardSaid : Prop := Claim7.holds Tryz.pinned (.plain (OpenSpec.ofChange probeQuantisesSpec)) probeQuantisesCard

/-- THE TIED CARD OF 'strobelaw02.ProbeFits'. -/
def probeFitsCard : Claim7 := { stood := { row := probeFitsRow, standIns := [], harness := (true, "0317c1efc2cc73041a6463d23eedf5ef37cef014deea2dd9430a94fd6af32783"), looks := true }, kinds := [], alts := [], laidByText := true, laidKinds := [.data, .data, .data, .data, .sentinel, .sentinel, .pinned], laidTests := true, laidLooks := .later }
def ProbeFitsCardSaid : Prop := Claim7.holds Tryz.pinned (.plain (OpenSpec.ofChange probeFitsSpec)) probeFitsCard

/-- THE SECOND FORM's CARD OF 'strobelaw02.ProbeCodes'. -/
def probeCodesUptoCard : Claim7 := { stood := { row := probeCodesUptoRow, standIns := [], harness := (true, "0317c1efc2cc73041a6463d23eedf5ef37cef014deea2dd9430a94fd6af32783"), looks := true }, kinds := [], alts := [], laidByText := true, laidKinds := [.data, .data, .data, .data, .sentinel, .sentinel, .pinned], laidTests := true, laidLooks := .later }
def ProbeCodesUptoCardSaid : Prop := Claim7.holds Tryz.pinned (.plain (OpenSpec.upto probeCodesSpec)) probeCodesUptoCard

/-- THE SECOND FORM's CARD OF 'strobelaw02.ProbeIntervals'. -/
def probeIntervalsUptoCard : Claim7 := { stood := { row := probeIntervalsUptoRow, standIns := [], harness := (true, "0317c1efc2cc73041a6463d23eedf5ef37cef014deea2dd9430a94fd6af32783"), looks := true }, kinds := [], alts := [], laidByText := true, laidKinds := [.data, .data, .data, .data, .sentinel, .sentinel, .pinned], laidTests := true, laidLooks := .later }
def ProbeIntervalsUptoCardSaid : Prop := Claim7.holds Tryz.pinned (.plain (OpenSpec.upto probeIntervalsSpec)) probeIntervalsUptoCard

/-- THE SECOND FORM's CARD OF 'strobelaw02.ProbeRecords'. -/
def probeRecordsUptoCard : Claim7 := { stood := { row := probeRecordsUptoRow, standIns := [], harness := (true, "0317c1efc2cc73041a6463d23eedf5ef37cef014deea2dd9430a94fd6af32783"), looks := true }, kinds := [], alts := [], laidByText := true, laidKinds := [.data, .data, .data, .data, .sentinel, .sentinel, .pinned], laidTests := true, laidLooks := .later }
def ProbeRecordsUptoCardSaid : Prop := Claim7.holds Tryz.pinned (.plain (OpenSpec.upto probeRecordsSpec)) probeRecordsUptoCard

/-- THE SECOND FORM's CARD OF 'strobelaw02.ProbeCalibrates'. -/
def probeCalibratesUptoCard : Claim7 := { stood := { row := probeCalibratesUptoRow, standIns := [], harness := (true, "0317c1efc2cc73041a6463d23eedf5ef37cef014deea2dd9430a94fd6af32783"), looks := true }, kinds := [], alts := [], laidByText := true, laidKinds := [.data, .data, .data, .data, .sentinel, .sentinel, .pinned], laidTests := true, laidLooks := .later }
def ProbeCalibratesUptoCardSaid : Prop := Claim7.holds Tryz.pinned (.plain (OpenSpec.upto probeCalibratesSpec)) probeCalibratesUptoCard

/-- THE SECOND FORM's CARD OF 'strobelaw02.ProbeQuantises'. -/
def probeQuantisesUptoCard : Claim7 := { stood := { row := probeQuantisesUptoRow, standIns := [], harness := (true, "0317c1efc2cc73041a6463d23eedf5ef37cef014deea2dd9430a94fd6af32783"), looks := true }, kinds := [], alts := [], laidByText := true, laidKinds := [.data, .data, .data, .data, .sentinel, .sentinel, .pinned], laidTests := true, laidLooks := .later }
def ProbeQuantisesUptoCardSaid : Prop := Claim7.holds Tryz.pinned (.plain (OpenSpec.upto probeQuantisesSpec)) probeQuantisesUptoCard

/-- THE SECOND FORM's CARD OF 'strobelaw02.ProbeFits'. -/
def probeFitsUptoCard : Claim7 := { stood := { row := probeFitsUptoRow, standIns := [], harness := (true, "0317c1efc2cc73041a6463d23eedf5ef37cef014deea2dd9430a94fd6af32783"), looks := true }, kinds := [], alts := [], laidByText := true, laidKinds := [.data, .data, .data, .data, .sentinel, .sentinel, .pinned], laidTests := true, laidLooks := .later }
def ProbeFitsUptoCardSaid : Prop := Claim7.holds Tryz.pinned (.plain (OpenSpec.upto probeFitsSpec)) probeFitsUptoCard
end Rows
end Go.Proofs.YtbkcjmojgglbkaaGreatDoor
