/-
  DERIVED. GIVEN WITH THE SEED: THE CARDS: each row of YtnjonlnemagomaaGreatDoorRows.lean that lists a variable, with what it lists TIED to the program's text (the seventh form; the later family's looks); each row that meets fmt, with fmt's text TOLD by the authors' own Lean function (tested against real Go, not proved from fmt's source: count such statements apart). THE CARD IS WHAT COUNTS. Prove the row's statement (the work); the ties are given (YtnjonlnemagomaaGreatDoorTie.lean); close each card by the builder's one call (the guide's Derived/Test/ToyasCard.lean, 'card_holds'). Laid BY PROGRAM, IN A SANDBOX (cutbox-door.mjs). By AI agents, Wed Nov 11 2026. No macro, syntax, notation, axiom, sorry.
-/
import Derived.Test.YtnjonlnemagomaaGreatDoorRows
import GoSem.ClaimSeven
namespace Go.Proofs.YtnjonlnemagomaaGreatDoor
namespace Rows

/-- THE TIED CARD OF 'strobelaw01.NumberLists'. -/
def numberListsCard : Claim7 := { stood := { row := numberListsRow, standIns := [], harness := (true, "a9e32111962800f742fc79315ec9cb1ecfc7a0d2c5c18bb8e41e091ef505abd9"), looks := true }, kinds := [], alts := [], laidByText := true, laidKinds := [.data, .data, .data, .data, .sentinel, .sentinel, .pinned], laidTests := true, laidLooks := .later }
def NumberListsCardSaid : Prop := Claim7.holds Tryz.pinned (.plain (OpenSpec.ofChange numberListsSpec)) numberListsCard

/-- THE TIED CARD OF 'strobelaw01.NumberSquares'. -/
def numberSquaresCard : Claim7 := { stood := { row := numberSquaresRow, standIns := [], harness := (true, "a9e32111962800f742fc79315ec9cb1ecfc7a0d2c5c18bb8e41e091ef505abd9"), looks := true }, kinds := [], alts := [], laidByText := true, laidKinds := [.data, .data, .data, .data, .sentinel, .sentinel, .pinned], laidTests := true, laidLooks := .later }
def NumberSquaresCardSaid : Prop := Claim7.holds Tryz.pinned (.plain (OpenSpec.ofChange numberSquaresSpec)) numberSquaresCard

/-- THE TIED CARD OF 'strobelaw01.NumberRounds'. -/
def numberRoundsCard : Claim7 := { stood := { row := numberRoundsRow, standIns := [], harness := (true, "a9e32111962800f742fc79315ec9cb1ecfc7a0d2c5c18bb8e41e091ef505abd9"), looks := true }, kinds := [], alts := [], laidByText := true, laidKinds := [.data, .data, .data, .data, .sentinel, .sentinel, .pinned], laidTests := true, laidLooks := .later }
def NumberRoundsCardSaid : Prop := Claim7.holds Tryz.pinned (.plain (OpenSpec.ofChange numberRoundsSpec)) numberRoundsCard

/-- THE TIED CARD OF 'strobelaw01.NumberBlends'. -/
def numberBlendsCard : Claim7 := { stood := { row := numberBlendsRow, standIns := [], harness := (true, "a9e32111962800f742fc79315ec9cb1ecfc7a0d2c5c18bb8e41e091ef505abd9"), looks := true }, kinds := [], alts := [], laidByText := true, laidKinds := [.data, .data, .data, .data, .sentinel, .sentinel, .pinned], laidTests := true, laidLooks := .later }
def NumberBlendsCardSaid : Prop := Claim7.holds Tryz.pinned (.plain (OpenSpec.ofChange numberBlendsSpec)) numberBlendsCard

/-- THE TIED CARD OF 'strobelaw01.NumberDeals'. -/
def numberDealsCard : Claim7 := { stood := { row := numberDealsRow, standIns := [], harness := (true, "a9e32111962800f742fc79315ec9cb1ecfc7a0d2c5c18bb8e41e091ef505abd9"), looks := true }, kinds := [], alts := [], laidByText := true, laidKinds := [.data, .data, .data, .data, .sentinel, .sentinel, .pinned], laidTests := true, laidLooks := .later }
def NumberDealsCardSaid : Prop := Claim7.holds Tryz.pinned (.plain (OpenSpec.ofChange numberDealsSpec)) numberDealsCard

/-- THE TIED CARD OF 'strobelaw01.NumberSpans'. -/
def numberSpansCard : Claim7 := { stood := { row := numberSpansRow, standIns := [], harness := (true, "a9e32111962800f742fc79315ec9cb1ecfc7a0d2c5c18bb8e41e091ef505abd9"), looks := true }, kinds := [], alts := [], laidByText := true, laidKinds := [.data, .data, .data, .data, .sentinel, .sentinel, .pinned], laidTests := true, laidLooks := .later }
def NumberSpansCardSaid : Prop := Claim7.holds Tryz.pinned (.plain (OpenSpec.ofChange numberSpansSpec)) numberSpansCard

/-- THE TIED CARD OF 'strobelaw01.NumberEncloses'. -/
def numberEnclosesCard : Claim7 := { stood := { row := numberEnclosesRow, standIns := [], harness := (true, "a9e32111962800f742fc79315ec9cb1ecfc7a0d2c5c18bb8e41e091ef505abd9"), looks := true }, kinds := [], alts := [], laidByText := true, laidKinds := [.data, .data, .data, .data, .sentinel, .sentinel, .pinned], laidTests := true, laidLooks := .later }
def NumberEnclosesCardSaid : Prop := Claim7.holds Tryz.pinned (.plain (OpenSpec.ofChange numberEnclosesSpec)) numberEnclosesCard

/-- THE TIED CARD OF 'strobelaw01.NumberFloats'. -/
def numberFloatsCard : Claim7 := { stood := { row := numberFloatsRow, standIns := [], harness := (true, "a9e32111962800f742fc79315ec9cb1ecfc7a0d2c5c18bb8e41e091ef505abd9"), looks := true }, kinds := [], alts := [], laidByText := true, laidKinds := [.data, .data, .data, .data, .sentinel, .sentinel, .pinned], laidTests := true, laidLooks := .later }
def NumberFloatsCardSaid : Prop := Claim7.holds Tryz.pinned (.plain (OpenSpec.ofChange numberFloatsSpec)) numberFloatsCard

/-- THE TIED CARD OF 'strobelaw01.NumberForms'. -/
def numberFormsCard : Claim7 := { stood := { row := numberFormsRow, standIns := [], harness := (true, "a9e32111962800f742fc79315ec9cb1ecfc7a0d2c5c18bb8e41e091ef505abd9"), looks := true }, kinds := [], alts := [], laidByText := true, laidKinds := [.data, .data, .data, .data, .sentinel, .sentinel, .pinned], laidTests := true, laidLooks := .later }
def NumberFormsCardSaid : Prop := Claim7.holds Tryz.pinned (.plain (OpenSpec.ofChange numberFormsSpec)) numberFormsCard

/-- THE TIED CARD OF 'strobelaw01.NumberSums'. -/
def numberSumsCard : Claim7 := { stood := { row := numberSumsRow, standIns := [], harness := (true, "a9e32111962800f742fc79315ec9cb1ecfc7a0d2c5c18bb8e41e091ef505abd9"), looks := true }, kinds := [], alts := [], laidByText := true, laidKinds := [.data, .data, .data, .data, .sentinel, .sentinel, .pinned], laidTests := true, laidLooks := .later }
def NumberSumsCardSaid : Prop := Claim7.holds Tryz.pinned (.plain (OpenSpec.ofChange numberSumsSpec)) numberSumsCard

/-- THE SECOND FORM's CARD OF 'strobelaw01.NumberLists'. -/
def numberListsUptoCard : Claim7 := { stood := { row := numberListsUptoRow, standIns := [], harness := (true, "a9e32111962800f742fc79315ec9cb1ecfc7a0d2c5c18bb8e41e091ef505abd9"), looks := true }, kinds := [], alts := [], laidByText := true, laidKinds := [.data, .data, .data, .data, .sentinel, .sentinel, .pinned], laidTests := true, laidLooks := .later }
def NumberListsUptoCardSaid : Prop := Claim7.holds Tryz.pinned (.plain (OpenSpec.upto numberListsSpec)) numberListsUptoCard

/-- THE SECOND FORM's CARD OF 'strobelaw01.NumberSquares'. -/
def numberSquaresUptoCard : Claim7 := { stood := { row := numberSquaresUptoRow, standIns := [], harness := (true, "a9e32111962800f742fc79315ec9cb1ecfc7a0d2c5c18bb8e41e091ef505abd9"), looks := true }, kinds := [], alts := [], laidByText := true, laidKinds := [.data, .data, .data, .data, .sentinel, .sentinel, .pinned], laidTests := true, laidLooks := .later }
def NumberSquaresUptoCardSaid : Prop := Claim7.holds Tryz.pinned (.plain (OpenSpec.upto numberSquaresSpec)) numberSquaresUptoCard

/-- THE SECOND FORM's CARD OF 'strobelaw01.NumberRounds'. -/
def numberRoundsUptoCard : Claim7 := { stood := { row := numberRoundsUptoRow, standIns := [], harness := (true, "a9e32111962800f742fc79315ec9cb1ecfc7a0d2c5c18bb8e41e091ef505abd9"), looks := true }, kinds := [], alts := [], laidByText := true, laidKinds := [.data, .data, .data, .data, .sentinel, .sentinel, .pinned], laidTests := true, laidLooks := .later }
def NumberRoundsUptoCardSaid : Prop := Claim7.holds Tryz.pinned (.plain (OpenSpec.upto numberRoundsSpec)) numberRoundsUptoCard

/-- THE SECOND FORM's CARD OF 'strobelaw01.NumberBlends'. -/
def numberBlendsUptoCard : Claim7 := { stood := { row := numberBlendsUptoRow, standIns := [], harness := (true, "a9e32111962800f742fc79315ec9cb1ecfc7a0d2c5c18bb8e41e091ef505abd9"), looks := true }, kinds := [], alts := [], laidByText := true, laidKinds := [.data, .data, .data, .data, .sentinel, .sentinel, .pinned], laidTests := true, laidLooks := .later }
def NumberBlendsUptoCardSaid : Prop := Claim7.holds Tryz.pinned (.plain (OpenSpec.upto numberBlendsSpec)) numberBlendsUptoCard

/-- THE SECOND FORM's CARD OF 'strobelaw01.NumberDeals'. -/
def numberDealsUptoCard : Claim7 := { stood := { row := numberDealsUptoRow, standIns := [], harness := (true, "a9e32111962800f742fc79315ec9cb1ecfc7a0d2c5c18bb8e41e091ef505abd9"), looks := true }, kinds := [], alts := [], laidByText := true, laidKinds := [.data, .data, .data, .data, .sentinel, .sentinel, .pinned], laidTests := true, laidLooks := .later }
def NumberDealsUptoCardSaid : Prop := Claim7.holds Tryz.pinned (.plain (OpenSpec.upto numberDealsSpec)) numberDealsUptoCard

/-- THE SECOND FORM's CARD OF 'strobelaw01.NumberSpans'. -/
def numberSpansUptoCard : Claim7 := { stood := { row := numberSpansUptoRow, standIns := [], harness := (true, "a9e32111962800f742fc79315ec9cb1ecfc7a0d2c5c18bb8e41e091ef505abd9"), looks := true }, kinds := [], alts := [], laidByText := true, laidKinds := [.data, .data, .data, .data, .sentinel, .sentinel, .pinned], laidTests := true, laidLooks := .later }
def NumberSpansUptoCardSaid : Prop := Claim7.holds Tryz.pinned (.plain (OpenSpec.upto numberSpansSpec)) numberSpansUptoCard

/-- THE SECOND FORM's CARD OF 'strobelaw01.NumberEncloses'. -/
def numberEnclosesUptoCard : Claim7 := { stood := { row := numberEnclosesUptoRow, standIns := [], harness := (true, "a9e32111962800f742fc79315ec9cb1ecfc7a0d2c5c18bb8e41e091ef505abd9"), looks := true }, kinds := [], alts := [], laidByText := true, laidKinds := [.data, .data, .data, .data, .sentinel, .sentinel, .pinned], laidTests := true, laidLooks := .later }
def NumberEnclosesUptoCardSaid : Prop := Claim7.holds Tryz.pinned (.plain (OpenSpec.upto numberEnclosesSpec)) numberEnclosesUptoCard

/-- THE SECOND FORM's CARD OF 'strobelaw01.NumberFloats'. -/
def numberFloatsUptoCard : Claim7 := { stood := { row := numberFloatsUptoRow, standIns := [], harness := (true, "a9e32111962800f742fc79315ec9cb1ecfc7a0d2c5c18bb8e41e091ef505abd9"), looks := true }, kinds := [], alts := [], laidByText := true, laidKinds := [.data, .data, .data, .data, .sentinel, .sentinel, .pinned], laidTests := true, laidLooks := .later }
def NumberFloatsUptoCardSaid : Prop := Claim7.holds Tryz.pinned (.plain (OpenSpec.upto numberFloatsSpec)) numberFloatsUptoCard

/-- THE SECOND FORM's CARD OF 'strobelaw01.NumberForms'. -/
def numberFormsUptoCard : Claim7 := { stood := { row := numberFormsUptoRow, standIns := [], harness := (true, "a9e32111962800f742fc79315ec9cb1ecfc7a0d2c5c18bb8e41e091ef505abd9"), looks := true }, kinds := [], alts := [], laidByText := true, laidKinds := [.data, .data, .data, .data, .sentinel, .sentinel, .pinned], laidTests := true, laidLooks := .later }
def NumberFormsUptoCardSaid : Prop := Claim7.holds Tryz.pinned (.plain (OpenSpec.upto numberFormsSpec)) numberFormsUptoCard

/-- THE SECOND FORM's CARD OF 'strobelaw01.NumberSums'. -/
def numberSumsUptoCard : Claim7 := { stood := { row := numberSumsUptoRow, standIns := [], harness := (true, "a9e32111962800f742fc79315ec9cb1ecfc7a0d2c5c18bb8e41e091ef505abd9"), looks := true }, kinds := [], alts := [], laidByText := true, laidKinds := [.data, .data, .data, .data, .sentinel, .sentinel, .pinned], laidTests := true, laidLooks := .later }
def NumberSumsUptoCardSaid : Prop := Claim7.holds Tryz.pinned (.plain (OpenSpec.upto numberSumsSpec)) numberSumsUptoCard
end Rows
end Go.Proofs.YtnjonlnemagomaaGreatDoor
