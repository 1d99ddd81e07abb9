/-
  DERIVED. GIVEN WITH THE SEED: THE CARDS: each row of YtlfnibjmkfldgaaGreatDoorRows.lean that lists a variable, with what it lists TIED to the program's text (the seventh form; the later family's looks); each row that meets fmt, with fmt's text TOLD by the authors' own Lean function (tested against real Go, not proved from fmt's source: count such statements apart). THE CARD IS WHAT COUNTS. Prove the row's statement (the work); the ties are given (YtlfnibjmkfldgaaGreatDoorTie.lean); close each card by the builder's one call (the guide's Derived/Test/ToyasCard.lean, 'card_holds'). Laid BY PROGRAM, IN A SANDBOX (cutbox-door.mjs). By AI agents, Wed Nov 11 2026. No macro, syntax, notation, axiom, sorry.
-/
import Derived.Test.YtlfnibjmkfldgaaGreatDoorRows
import GoSem.ClaimSeven
namespace Go.Proofs.YtlfnibjmkfldgaaGreatDoor
namespace Rows

/-- THE TIED CARD OF 'strobelaw02.ProbeLines'. -/
def probeLinesCard : Claim7 := { stood := { row := probeLinesRow, standIns := [], harness := (true, "f0ca2b108762137a6db1396a3c9751d00d662484c3e674171f7431adc0761793"), looks := true }, kinds := [], alts := [], laidByText := true, laidKinds := [.data, .data, .data, .data, .sentinel, .sentinel, .pinned], laidTests := true, laidLooks := .later }
def ProbeLinesCardSaid : Prop := Claim7.holds Tryz.pinned (.plain (OpenSpec.ofChange probeLinesSpec)) probeLinesCard

/-- THE TIED CARD OF 'strobelaw02.ProbeAligns'. -/
def probeAlignsCard : Claim7 := { stood := { row := probeAlignsRow, standIns := [], harness := (true, "f0ca2b108762137a6db1396a3c9751d00d662484c3e674171f7431adc0761793"), looks := true }, kinds := [], alts := [], laidByText := true, laidKinds := [.data, .data, .data, .data, .sentinel, .sentinel, .pinned], laidTests := true, laidLooks := .later }
def ProbeAlignsCardSaid : Prop := Claim7.holds Tryz.pinned (.plain (OpenSpec.ofChange probeAlignsSpec)) probeAlignsCard

/-- THE TIED CARD OF 'strobelaw02.ProbeSkews'. -/
def probeSkewsCard : Claim7 := { stood := { row := probeSkewsRow, standIns := [], harness := (true, "f0ca2b108762137a6db1396a3c9751d00d662484c3e674171f7431adc0761793"), looks := true }, kinds := [], alts := [], laidByText := true, laidKinds := [.data, .data, .data, .data, .sentinel, .sentinel, .pinned], laidTests := true, laidLooks := .later }
def ProbeSkewsCardSaid : Prop := Claim7.holds Tryz.pinned (.plain (OpenSpec.ofChange probeSkewsSpec)) probeSkewsCard

/-- THE TIED CARD OF 'strobelaw02.ProbeWords'. -/
def probeWordsCard : Claim7 := { stood := { row := probeWordsRow, standIns := [], harness := (true, "f0ca2b108762137a6db1396a3c9751d00d662484c3e674171f7431adc0761793"), looks := true }, kinds := [], alts := [], laidByText := true, laidKinds := [.data, .data, .data, .data, .sentinel, .sentinel, .pinned], laidTests := true, laidLooks := .later }
def ProbeWordsCardSaid : Prop := Claim7.holds Tryz.pinned (.plain (OpenSpec.ofChange probeWordsSpec)) probeWordsCard

/-- THE TIED CARD OF 'strobelaw02.ProbeBlocks'. -/
def probeBlocksCard : Claim7 := { stood := { row := probeBlocksRow, standIns := [], harness := (true, "f0ca2b108762137a6db1396a3c9751d00d662484c3e674171f7431adc0761793"), looks := true }, kinds := [], alts := [], laidByText := true, laidKinds := [.data, .data, .data, .data, .sentinel, .sentinel, .pinned], laidTests := true, laidLooks := .later }
def ProbeBlocksCardSaid : Prop := Claim7.holds Tryz.pinned (.plain (OpenSpec.ofChange probeBlocksSpec)) probeBlocksCard

/-- THE TIED CARD OF 'strobelaw02.ProbeRebuilds'. -/
def probeRebuildsCard : Claim7 := { stood := { row := probeRebuildsRow, standIns := [], harness := (true, "f0ca2b108762137a6db1396a3c9751d00d662484c3e674171f7431adc0761793"), looks := true }, kinds := [], alts := [], laidByText := true, laidKinds := [.data, .data, .data, .data, .sentinel, .sentinel, .pinned], laidTests := true, laidLooks := .later }
def ProbeRebuildsCardSaid : Prop := Claim7.holds Tryz.pinned (.plain (OpenSpec.ofChange probeRebuildsSpec)) probeRebuildsCard

/-- THE TIED CARD OF 'strobelaw02.ProbeToggles'. -/
def probeTogglesCard : Claim7 := { stood := { row := probeTogglesRow, standIns := [], harness := (true, "f0ca2b108762137a6db1396a3c9751d00d662484c3e674171f7431adc0761793"), looks := true }, kinds := [], alts := [], laidByText := true, laidKinds := [.data, .data, .data, .data, .sentinel, .sentinel, .pinned], laidTests := true, laidLooks := .later }
def ProbeTogglesCardSaid : Prop := Claim7.holds Tryz.pinned (.plain (OpenSpec.ofChange probeTogglesSpec)) probeTogglesCard

/-- THE TIED CARD OF 'strobelaw02.ProbePacks'. -/
def probePacksCard : Claim7 := { stood := { row := probePacksRow, standIns := [], harness := (true, "f0ca2b108762137a6db1396a3c9751d00d662484c3e674171f7431adc0761793"), looks := true }, kinds := [], alts := [], laidByText := true, laidKinds := [.data, .data, .data, .data, .sentinel, .sentinel, .pinned], laidTests := true, laidLooks := .later }
def ProbePacksCardSaid : Prop := Claim7.holds Tryz.pinned (.plain (OpenSpec.ofChange probePacksSpec)) probePacksCard

/-- THE SECOND FORM's CARD OF 'strobelaw02.ProbeLines'. -/
def probeLinesUptoCard : Claim7 := { stood := { row := probeLinesUptoRow, standIns := [], harness := (true, "f0ca2b108762137a6db1396a3c9751d00d662484c3e674171f7431adc0761793"), looks := true }, kinds := [], alts := [], laidByText := true, laidKinds := [.data, .data, .data, .data, .sentinel, .sentinel, .pinned], laidTests := true, laidLooks := .later }
def ProbeLinesUptoCardSaid : Prop := Claim7.holds Tryz.pinned (.plain (OpenSpec.upto probeLinesSpec)) probeLinesUptoCard

/-- THE SECOND FORM's CARD OF 'strobelaw02.ProbeAligns'. -/
def probeAlignsUptoCard : Claim7 := { stood := { row := probeAlignsUptoRow, standIns := [], harness := (true, "f0ca2b108762137a6db1396a3c9751d00d662484c3e674171f7431adc0761793"), looks := true }, kinds := [], alts := [], laidByText := true, laidKinds := [.data, .data, .data, .data, .sentinel, .sentinel, .pinned], laidTests := true, laidLooks := .later }
def ProbeAlignsUptoCardSaid : Prop := Claim7.holds Tryz.pinned (.plain (OpenSpec.upto probeAlignsSpec)) probeAlignsUptoCard

/-- THE SECOND FORM's CARD OF 'strobelaw02.ProbeSkews'. -/
def probeSkewsUptoCard : Claim7 := { stood := { row := probeSkewsUptoRow, standIns := [], harness := (true, "f0ca2b108762137a6db1396a3c9751d00d662484c3e674171f7431adc0761793"), looks := true }, kinds := [], alts := [], laidByText := true, laidKinds := [.data, .data, .data, .data, .sentinel, .sentinel, .pinned], laidTests := true, laidLooks := .later }
def ProbeSkewsUptoCardSaid : Prop := Claim7.holds Tryz.pinned (.plain (OpenSpec.upto probeSkewsSpec)) probeSkewsUptoCard

/-- THE SECOND FORM's CARD OF 'strobelaw02.ProbeWords'. -/
def probeWordsUptoCard : Claim7 := { stood := { row := probeWordsUptoRow, standIns := [], harness := (true, "f0ca2b108762137a6db1396a3c9751d00d662484c3e674171f7431adc0761793"), looks := true }, kinds := [], alts := [], laidByText := true, laidKinds := [.data, .data, .data, .data, .sentinel, .sentinel, .pinned], laidTests := true, laidLooks := .later }
def ProbeWordsUptoCardSaid : Prop := Claim7.holds Tryz.pinned (.plain (OpenSpec.upto probeWordsSpec)) probeWordsUptoCard

/-- THE SECOND FORM's CARD OF 'strobelaw02.ProbeBlocks'. -/
def probeBlocksUptoCard : Claim7 := { stood := { row := probeBlocksUptoRow, standIns := [], harness := (true, "f0ca2b108762137a6db1396a3c9751d00d662484c3e674171f7431adc0761793"), looks := true }, kinds := [], alts := [], laidByText := true, laidKinds := [.data, .data, .data, .data, .sentinel, .sentinel, .pinned], laidTests := true, laidLooks := .later }
def ProbeBlocksUptoCardSaid : Prop := Claim7.holds Tryz.pinned (.plain (OpenSpec.upto probeBlocksSpec)) probeBlocksUptoCard

/-- THE SECOND FORM's CARD OF 'strobelaw02.ProbeRebuilds'. -/
def probeRebuildsUptoCard : Claim7 := { stood := { row := probeRebuildsUptoRow, standIns := [], harness := (true, "f0ca2b108762137a6db1396a3c9751d00d662484c3e674171f7431adc0761793"), looks := true }, kinds := [], alts := [], laidByText := true, laidKinds := [.data, .data, .data, .data, .sentinel, .sentinel, .pinned], laidTests := true, laidLooks := .later }
def ProbeRebuildsUptoCardSaid : Prop := Claim7.holds Tryz.pinned (.plain (OpenSpec.upto probeRebuildsSpec)) probeRebuildsUptoCard

/-- THE SECOND FORM's CARD OF 'strobelaw02.ProbeToggles'. -/
def probeTogglesUptoCard : Claim7 := { stood := { row := probeTogglesUptoRow, standIns := [], harness := (true, "f0ca2b108762137a6db1396a3c9751d00d662484c3e674171f7431adc0761793"), looks := true }, kinds := [], alts := [], laidByText := true, laidKinds := [.data, .data, .data, .data, .sentinel, .sentinel, .pinned], laidTests := true, laidLooks := .later }
def ProbeTogglesUptoCardSaid : Prop := Claim7.holds Tryz.pinned (.plain (OpenSpec.upto probeTogglesSpec)) probeTogglesUptoCard

/-- THE SECOND FORM's CARD OF 'strobelaw02.ProbePacks'. -/
def probePacksUptoCard : Claim7 := { stood := { row := probePacksUptoRow, standIns := [], harness := (true, "f0ca2b108762137a6db1396a3c9751d00d662484c3e674171f7431adc0761793"), looks := true }, kinds := [], alts := [], laidByText := true, laidKinds := [.data, .data, .data, .data, .sentinel, .sentinel, .pinned], laidTests := true, laidLooks := .later }
def ProbePacksUptoCardSaid : Prop := Claim7.holds Tryz.pinned (.plain (OpenSpec.upto probePacksSpec)) probePacksUptoCard
end Rows
end Go.Proofs.YtlfnibjmkfldgaaGreatDoor
