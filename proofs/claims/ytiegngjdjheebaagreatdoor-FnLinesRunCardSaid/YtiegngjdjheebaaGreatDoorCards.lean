/-
  DERIVED. GIVEN WITH THE SEED: THE CARDS: each row of YtiegngjdjheebaaGreatDoorRows.lean that lists a variable, with what it lists TIED to the program's text (the seventh form; the later family's looks); each row that meets fmt, with fmt's text TOLD by the authors' own Lean function (tested against real Go, not proved from fmt's source: count such statements apart). THE CARD IS WHAT COUNTS. Prove the row's statement (the work); the ties are given (YtiegngjdjheebaaGreatDoorTie.lean); close each card by the builder's one call (the guide's Derived/Test/ToyasCard.lean, 'card_holds'). Laid BY PROGRAM, IN A SANDBOX (cutbox-door.mjs). By AI agents, Wed Nov 11 2026. No macro, syntax, notation, axiom, sorry.
-/
import Derived.Test.YtiegngjdjheebaaGreatDoorRows
import GoSem.ClaimSeven
namespace Go.Proofs.YtiegngjdjheebaaGreatDoor
namespace Rows

/-- THE TIED CARD OF 'laws.FnLinesUncalled'. -/
def fnLinesUncalledCard : Claim7 := { stood := { row := fnLinesUncalledRow, standIns := [], harness := (true, "6e6486a598aaac30557b58c0a1403307670c04425e5f31e7fffaf14e10bc64e6"), looks := true }, kinds := [], alts := [], laidByText := true, laidKinds := [.data, .data, .data, .data, .sentinel, .sentinel, .pinned], laidTests := true, laidLooks := .later }
def FnLinesUncalledCardSaid : Prop := Claim7.holds Tryz.pinned (.plain (OpenSpec.ofChange fnLinesUncalledSpec)) fnLinesUncalledCard

/-- THE TIED CARD OF 'laws.FnExactLinesRun'. -/
def fnExactLinesRunCard : Claim7 := { stood := { row := fnExactLinesRunRow, standIns := [], harness := (true, "6e6486a598aaac30557b58c0a1403307670c04425e5f31e7fffaf14e10bc64e6"), looks := true }, kinds := [], alts := [], laidByText := true, laidKinds := [.data, .data, .data, .data, .sentinel, .sentinel, .pinned], laidTests := true, laidLooks := .later }
def FnExactLinesRunCardSaid : Prop := Claim7.holds Tryz.pinned (.plain (OpenSpec.ofChange fnExactLinesRunSpec)) fnExactLinesRunCard

/-- THE TIED CARD OF 'laws.FnLinesAgain'. -/
def fnLinesAgainCard : Claim7 := { stood := { row := fnLinesAgainRow, standIns := [], harness := (true, "6e6486a598aaac30557b58c0a1403307670c04425e5f31e7fffaf14e10bc64e6"), looks := true }, kinds := [], alts := [], laidByText := true, laidKinds := [.data, .data, .data, .data, .sentinel, .sentinel, .pinned], laidTests := true, laidLooks := .later }
def FnLinesAgainCardSaid : Prop := Claim7.holds Tryz.pinned (.plain (OpenSpec.ofChange fnLinesAgainSpec)) fnLinesAgainCard

/-- THE TIED CARD OF 'laws.FnLinesCalm'. -/
def fnLinesCalmCard : Claim7 := { stood := { row := fnLinesCalmRow, standIns := [], harness := (true, "6e6486a598aaac30557b58c0a1403307670c04425e5f31e7fffaf14e10bc64e6"), looks := true }, kinds := [], alts := [], laidByText := true, laidKinds := [.data, .data, .data, .data, .sentinel, .sentinel, .pinned], laidTests := true, laidLooks := .later }
def FnLinesCalmCardSaid : Prop := Claim7.holds Tryz.pinned (.plain (OpenSpec.ofChange fnLinesCalmSpec)) fnLinesCalmCard

/-- THE TIED CARD OF 'laws.FnLinesLost'. -/
def fnLinesLostCard : Claim7 := { stood := { row := fnLinesLostRow, standIns := [], harness := (true, "6e6486a598aaac30557b58c0a1403307670c04425e5f31e7fffaf14e10bc64e6"), looks := true }, kinds := [], alts := [], laidByText := true, laidKinds := [.data, .data, .data, .data, .sentinel, .sentinel, .pinned], laidTests := true, laidLooks := .later }
def FnLinesLostCardSaid : Prop := Claim7.holds Tryz.pinned (.plain (OpenSpec.ofChange fnLinesLostSpec)) fnLinesLostCard

/-- THE TIED CARD OF 'laws.FnLinesMap'. -/
def fnLinesMapCard : Claim7 := { stood := { row := fnLinesMapRow, standIns := [], harness := (true, "6e6486a598aaac30557b58c0a1403307670c04425e5f31e7fffaf14e10bc64e6"), looks := true }, kinds := [], alts := [], laidByText := true, laidKinds := [.data, .data, .data, .data, .sentinel, .sentinel, .pinned], laidTests := true, laidLooks := .later }
def FnLinesMapCardSaid : Prop := Claim7.holds Tryz.pinned (.plain (OpenSpec.ofChange fnLinesMapSpec)) fnLinesMapCard

/-- THE TIED CARD OF 'laws.FnLinesNone'. -/
def fnLinesNoneCard : Claim7 := { stood := { row := fnLinesNoneRow, standIns := [], harness := (true, "6e6486a598aaac30557b58c0a1403307670c04425e5f31e7fffaf14e10bc64e6"), looks := true }, kinds := [], alts := [], laidByText := true, laidKinds := [.data, .data, .data, .data, .sentinel, .sentinel, .pinned], laidTests := true, laidLooks := .later }
def FnLinesNoneCardSaid : Prop := Claim7.holds Tryz.pinned (.plain (OpenSpec.ofChange fnLinesNoneSpec)) fnLinesNoneCard

/-- THE TIED CARD OF 'laws.FnLinesQuiet'. -/
def fnLinesQuietCard : Claim7 := { stood := { row := fnLinesQuietRow, standIns := [], harness := (true, "6e6486a598aaac30557b58c0a1403307670c04425e5f31e7fffaf14e10bc64e6"), looks := true }, kinds := [], alts := [], laidByText := true, laidKinds := [.data, .data, .data, .data, .sentinel, .sentinel, .pinned], laidTests := true, laidLooks := .later }
def FnLinesQuietCardSaid : Prop := Claim7.holds Tryz.pinned (.plain (OpenSpec.ofChange fnLinesQuietSpec)) fnLinesQuietCard

/-- THE TIED CARD OF 'laws.FnLinesRun'. -/
def fnLinesRunCard : Claim7 := { stood := { row := fnLinesRunRow, standIns := [], harness := (true, "6e6486a598aaac30557b58c0a1403307670c04425e5f31e7fffaf14e10bc64e6"), looks := true }, kinds := [], alts := [], laidByText := true, laidKinds := [.data, .data, .data, .data, .sentinel, .sentinel, .pinned], laidTests := true, laidLooks := .later }
def FnLinesRunCardSaid : Prop := Claim7.holds Tryz.pinned (.plain (OpenSpec.ofChange fnLinesRunSpec)) fnLinesRunCard

/-- THE TIED CARD OF 'laws.FnLinesSteps'. -/
def fnLinesStepsCard : Claim7 := { stood := { row := fnLinesStepsRow, standIns := [], harness := (true, "6e6486a598aaac30557b58c0a1403307670c04425e5f31e7fffaf14e10bc64e6"), looks := true }, kinds := [], alts := [], laidByText := true, laidKinds := [.data, .data, .data, .data, .sentinel, .sentinel, .pinned], laidTests := true, laidLooks := .later }
def FnLinesStepsCardSaid : Prop := Claim7.holds Tryz.pinned (.plain (OpenSpec.ofChange fnLinesStepsSpec)) fnLinesStepsCard

/-- THE TIED CARD OF 'laws.FnLinesTwo'. -/
def fnLinesTwoCard : Claim7 := { stood := { row := fnLinesTwoRow, standIns := [], harness := (true, "6e6486a598aaac30557b58c0a1403307670c04425e5f31e7fffaf14e10bc64e6"), looks := true }, kinds := [], alts := [], laidByText := true, laidKinds := [.data, .data, .data, .data, .sentinel, .sentinel, .pinned], laidTests := true, laidLooks := .later }
def FnLinesTwoCardSaid : Prop := Claim7.holds Tryz.pinned (.plain (OpenSpec.ofChange fnLinesTwoSpec)) fnLinesTwoCard

/-- THE SECOND FORM's CARD OF 'laws.FnLinesUncalled'. -/
def fnLinesUncalledUptoCard : Claim7 := { stood := { row := fnLinesUncalledUptoRow, standIns := [], harness := (true, "6e6486a598aaac30557b58c0a1403307670c04425e5f31e7fffaf14e10bc64e6"), looks := true }, kinds := [], alts := [], laidByText := true, laidKinds := [.data, .data, .data, .data, .sentinel, .sentinel, .pinned], laidTests := true, laidLooks := .later }
def FnLinesUncalledUptoCardSaid : Prop := Claim7.holds Tryz.pinned (.plain (OpenSpec.upto fnLinesUncalledSpec)) fnLinesUncalledUptoCard

/-- THE SECOND FORM's CARD OF 'laws.FnExactLinesRun'. -/
def fnExactLinesRunUptoCard : Claim7 := { stood := { row := fnExactLinesRunUptoRow, standIns := [], harness := (true, "6e6486a598aaac30557b58c0a1403307670c04425e5f31e7fffaf14e10bc64e6"), looks := true }, kinds := [], alts := [], laidByText := true, laidKinds := [.data, .data, .data, .data, .sentinel, .sentinel, .pinned], laidTests := true, laidLooks := .later }
def FnExactLinesRunUptoCardSaid : Prop := Claim7.holds Tryz.pinned (.plain (OpenSpec.upto fnExactLinesRunSpec)) fnExactLinesRunUptoCard

/-- THE SECOND FORM's CARD OF 'laws.FnLinesAgain'. -/
def fnLinesAgainUptoCard : Claim7 := { stood := { row := fnLinesAgainUptoRow, standIns := [], harness := (true, "6e6486a598aaac30557b58c0a1403307670c04425e5f31e7fffaf14e10bc64e6"), looks := true }, kinds := [], alts := [], laidByText := true, laidKinds := [.data, .data, .data, .data, .sentinel, .sentinel, .pinned], laidTests := true, laidLooks := .later }
def FnLinesAgainUptoCardSaid : Prop := Claim7.holds Tryz.pinned (.plain (OpenSpec.upto fnLinesAgainSpec)) fnLinesAgainUptoCard

/-- THE SECOND FORM's CARD OF 'laws.FnLinesCalm'. -/
def fnLinesCalmUptoCard : Claim7 := { stood := { row := fnLinesCalmUptoRow, standIns := [], harness := (true, "6e6486a598aaac30557b58c0a1403307670c04425e5f31e7fffaf14e10bc64e6"), looks := true }, kinds := [], alts := [], laidByText := true, laidKinds := [.data, .data, .data, .data, .sentinel, .sentinel, .pinned], laidTests := true, laidLooks := .later }
def FnLinesCalmUptoCardSaid : Prop := Claim7.holds Tryz.pinned (.plain (OpenSpec.upto fnLinesCalmSpec)) fnLinesCalmUptoCard

/-- THE SECOND FORM's CARD OF 'laws.FnLinesLost'. -/
def fnLinesLostUptoCard : Claim7 := { stood := { row := fnLinesLostUptoRow, standIns := [], harness := (true, "6e6486a598aaac30557b58c0a1403307670c04425e5f31e7fffaf14e10bc64e6"), looks := true }, kinds := [], alts := [], laidByText := true, laidKinds := [.data, .data, .data, .data, .sentinel, .sentinel, .pinned], laidTests := true, laidLooks := .later }
def FnLinesLostUptoCardSaid : Prop := Claim7.holds Tryz.pinned (.plain (OpenSpec.upto fnLinesLostSpec)) fnLinesLostUptoCard

/-- THE SECOND FORM's CARD OF 'laws.FnLinesMap'. -/
def fnLinesMapUptoCard : Claim7 := { stood := { row := fnLinesMapUptoRow, standIns := [], harness := (true, "6e6486a598aaac30557b58c0a1403307670c04425e5f31e7fffaf14e10bc64e6"), looks := true }, kinds := [], alts := [], laidByText := true, laidKinds := [.data, .data, .data, .data, .sentinel, .sentinel, .pinned], laidTests := true, laidLooks := .later }
def FnLinesMapUptoCardSaid : Prop := Claim7.holds Tryz.pinned (.plain (OpenSpec.upto fnLinesMapSpec)) fnLinesMapUptoCard

/-- THE SECOND FORM's CARD OF 'laws.FnLinesNone'. -/
def fnLinesNoneUptoCard : Claim7 := { stood := { row := fnLinesNoneUptoRow, standIns := [], harness := (true, "6e6486a598aaac30557b58c0a1403307670c04425e5f31e7fffaf14e10bc64e6"), looks := true }, kinds := [], alts := [], laidByText := true, laidKinds := [.data, .data, .data, .data, .sentinel, .sentinel, .pinned], laidTests := true, laidLooks := .later }
def FnLinesNoneUptoCardSaid : Prop := Claim7.holds Tryz.pinned (.plain (OpenSpec.upto fnLinesNoneSpec)) fnLinesNoneUptoCard

/-- THE SECOND FORM's CARD OF 'laws.FnLinesQuiet'. -/
def fnLinesQuietUptoCard : Claim7 := { stood := { row := fnLinesQuietUptoRow, standIns := [], harness := (true, "6e6486a598aaac30557b58c0a1403307670c04425e5f31e7fffaf14e10bc64e6"), looks := true }, kinds := [], alts := [], laidByText := true, laidKinds := [.data, .data, .data, .data, .sentinel, .sentinel, .pinned], laidTests := true, laidLooks := .later }
def FnLinesQuietUptoCardSaid : Prop := Claim7.holds Tryz.pinned (.plain (OpenSpec.upto fnLinesQuietSpec)) fnLinesQuietUptoCard

/-- THE SECOND FORM's CARD OF 'laws.FnLinesRun'. -/
def fnLinesRunUptoCard : Claim7 := { stood := { row := fnLinesRunUptoRow, standIns := [], harness := (true, "6e6486a598aaac30557b58c0a1403307670c04425e5f31e7fffaf14e10bc64e6"), looks := true }, kinds := [], alts := [], laidByText := true, laidKinds := [.data, .data, .data, .data, .sentinel, .sentinel, .pinned], laidTests := true, laidLooks := .later }
def FnLinesRunUptoCardSaid : Prop := Claim7.holds Tryz.pinned (.plain (OpenSpec.upto fnLinesRunSpec)) fnLinesRunUptoCard

/-- THE SECOND FORM's CARD OF 'laws.FnLinesSteps'. -/
def fnLinesStepsUptoCard : Claim7 := { stood := { row := fnLinesStepsUptoRow, standIns := [], harness := (true, "6e6486a598aaac30557b58c0a1403307670c04425e5f31e7fffaf14e10bc64e6"), looks := true }, kinds := [], alts := [], laidByText := true, laidKinds := [.data, .data, .data, .data, .sentinel, .sentinel, .pinned], laidTests := true, laidLooks := .later }
def FnLinesStepsUptoCardSaid : Prop := Claim7.holds Tryz.pinned (.plain (OpenSpec.upto fnLinesStepsSpec)) fnLinesStepsUptoCard

/-- THE SECOND FORM's CARD OF 'laws.FnLinesTwo'. -/
def fnLinesTwoUptoCard : Claim7 := { stood := { row := fnLinesTwoUptoRow, standIns := [], harness := (true, "6e6486a598aaac30557b58c0a1403307670c04425e5f31e7fffaf14e10bc64e6"), looks := true }, kinds := [], alts := [], laidByText := true, laidKinds := [.data, .data, .data, .data, .sentinel, .sentinel, .pinned], laidTests := true, laidLooks := .later }
def FnLinesTwoUptoCardSaid : Prop := Claim7.holds Tryz.pinned (.plain (OpenSpec.upto fnLinesTwoSpec)) fnLinesTwoUptoCard
end Rows
end Go.Proofs.YtiegngjdjheebaaGreatDoor
