/-
  DERIVED. GIVEN WITH THE SEED: THE CARDS: each row of YtblndjmhjaijjaaGreatDoorRows.lean that lists a variable, with what it lists TIED to the program's text (the seventh form; the later family's looks); each row that meets fmt, with fmt's text TOLD by the authors' own Lean function (tested against real Go, not proved from fmt's source: count such statements apart). THE CARD IS WHAT COUNTS. Prove the row's statement (the work); the ties are given (YtblndjmhjaijjaaGreatDoorTie.lean); close each card by the builder's one call (the guide's Derived/Test/ToyasCard.lean, 'card_holds'). Laid BY PROGRAM, IN A SANDBOX (cutbox-door.mjs). By AI agents, Wed Nov 11 2026. No macro, syntax, notation, axiom, sorry.
-/
import Derived.Test.YtblndjmhjaijjaaGreatDoorRows
import GoSem.ClaimSeven
namespace Go.Proofs.YtblndjmhjaijjaaGreatDoor
namespace Rows

/-- THE TIED CARD OF 'laws.FnWorldAcks'. -/
def fnWorldAcksCard : Claim7 := { stood := { row := fnWorldAcksRow, standIns := [], harness := (true, "ef731d92c729612a9a2364ad6f5fe0fea7f896f87f298ac715542171abe4c013"), looks := true }, kinds := [], alts := [], laidByText := true, laidKinds := [.data, .data, .data, .sentinel, .sentinel], laidTests := true, laidLooks := .later }
def FnWorldAcksCardSaid : Prop := Claim7.holds Tryz.pinned (.plain (OpenSpec.ofChange fnWorldAcksSpec)) fnWorldAcksCard

/-- THE TIED CARD OF 'laws.FnWorldSilent'. -/
def fnWorldSilentCard : Claim7 := { stood := { row := fnWorldSilentRow, standIns := [], harness := (true, "ef731d92c729612a9a2364ad6f5fe0fea7f896f87f298ac715542171abe4c013"), looks := true }, kinds := [], alts := [], laidByText := true, laidKinds := [.data, .data, .data, .sentinel, .sentinel], laidTests := true, laidLooks := .later }
def FnWorldSilentCardSaid : Prop := Claim7.holds Tryz.pinned (.plain (OpenSpec.ofChange fnWorldSilentSpec)) fnWorldSilentCard

/-- THE TIED CARD OF 'laws.FnWorldHides'. -/
def fnWorldHidesCard : Claim7 := { stood := { row := fnWorldHidesRow, standIns := [], harness := (true, "ef731d92c729612a9a2364ad6f5fe0fea7f896f87f298ac715542171abe4c013"), looks := true }, kinds := [], alts := [], laidByText := true, laidKinds := [.data, .data, .data, .sentinel, .sentinel], laidTests := true, laidLooks := .later }
def FnWorldHidesCardSaid : Prop := Claim7.holds Tryz.pinned (.plain (OpenSpec.ofChange fnWorldHidesSpec)) fnWorldHidesCard

/-- THE TIED CARD OF 'laws.FnOutSame'. -/
def fnOutSameCard : Claim7 := { stood := { row := fnOutSameRow, standIns := [], harness := (true, "ef731d92c729612a9a2364ad6f5fe0fea7f896f87f298ac715542171abe4c013"), looks := true }, kinds := [], alts := [], laidByText := true, laidKinds := [.data, .data, .data, .sentinel, .sentinel], laidTests := true, laidLooks := .later }
def FnOutSameCardSaid : Prop := Claim7.holds Tryz.pinned (.plain (OpenSpec.ofChange fnOutSameSpec)) fnOutSameCard

/-- THE TIED CARD OF 'laws.FnWorldMap'. -/
def fnWorldMapCard : Claim7 := { stood := { row := fnWorldMapRow, standIns := [], harness := (true, "ef731d92c729612a9a2364ad6f5fe0fea7f896f87f298ac715542171abe4c013"), looks := true }, kinds := [], alts := [], laidByText := true, laidKinds := [.data, .data, .data, .sentinel, .sentinel], laidTests := true, laidLooks := .later }
def FnWorldMapCardSaid : Prop := Claim7.holds Tryz.pinned (.plain (OpenSpec.ofChange fnWorldMapSpec)) fnWorldMapCard

/-- THE TIED CARD OF 'laws.FnLinesUncalled'. -/
def fnLinesUncalledCard : Claim7 := { stood := { row := fnLinesUncalledRow, standIns := [], harness := (true, "ef731d92c729612a9a2364ad6f5fe0fea7f896f87f298ac715542171abe4c013"), looks := true }, kinds := [], alts := [], laidByText := true, laidKinds := [.data, .data, .data, .data, .sentinel, .sentinel, .pinned], laidTests := true, laidLooks := .later }
def FnLinesUncalledCardSaid : Prop := Claim7.holds Tryz.pinned (.plain (OpenSpec.ofChange fnLinesUncalledSpec)) fnLinesUncalledCard

/-- THE SECOND FORM's CARD OF 'laws.FnWorldAcks'. -/
def fnWorldAcksUptoCard : Claim7 := { stood := { row := fnWorldAcksUptoRow, standIns := [], harness := (true, "ef731d92c729612a9a2364ad6f5fe0fea7f896f87f298ac715542171abe4c013"), looks := true }, kinds := [], alts := [], laidByText := true, laidKinds := [.data, .data, .data, .sentinel, .sentinel], laidTests := true, laidLooks := .later }
def FnWorldAcksUptoCardSaid : Prop := Claim7.holds Tryz.pinned (.plain (OpenSpec.upto fnWorldAcksSpec)) fnWorldAcksUptoCard

/-- THE SECOND FORM's CARD OF 'laws.FnWorldSilent'. -/
def fnWorldSilentUptoCard : Claim7 := { stood := { row := fnWorldSilentUptoRow, standIns := [], harness := (true, "ef731d92c729612a9a2364ad6f5fe0fea7f896f87f298ac715542171abe4c013"), looks := true }, kinds := [], alts := [], laidByText := true, laidKinds := [.data, .data, .data, .sentinel, .sentinel], laidTests := true, laidLooks := .later }
def FnWorldSilentUptoCardSaid : Prop := Claim7.holds Tryz.pinned (.plain (OpenSpec.upto fnWorldSilentSpec)) fnWorldSilentUptoCard

/-- THE SECOND FORM's CARD OF 'laws.FnWorldHides'. -/
def fnWorldHidesUptoCard : Claim7 := { stood := { row := fnWorldHidesUptoRow, standIns := [], harness := (true, "ef731d92c729612a9a2364ad6f5fe0fea7f896f87f298ac715542171abe4c013"), looks := true }, kinds := [], alts := [], laidByText := true, laidKinds := [.data, .data, .data, .sentinel, .sentinel], laidTests := true, laidLooks := .later }
def FnWorldHidesUptoCardSaid : Prop := Claim7.holds Tryz.pinned (.plain (OpenSpec.upto fnWorldHidesSpec)) fnWorldHidesUptoCard

/-- THE SECOND FORM's CARD OF 'laws.FnOutSame'. -/
def fnOutSameUptoCard : Claim7 := { stood := { row := fnOutSameUptoRow, standIns := [], harness := (true, "ef731d92c729612a9a2364ad6f5fe0fea7f896f87f298ac715542171abe4c013"), looks := true }, kinds := [], alts := [], laidByText := true, laidKinds := [.data, .data, .data, .sentinel, .sentinel], laidTests := true, laidLooks := .later }
def FnOutSameUptoCardSaid : Prop := Claim7.holds Tryz.pinned (.plain (OpenSpec.upto fnOutSameSpec)) fnOutSameUptoCard

/-- THE SECOND FORM's CARD OF 'laws.FnWorldMap'. -/
def fnWorldMapUptoCard : Claim7 := { stood := { row := fnWorldMapUptoRow, standIns := [], harness := (true, "ef731d92c729612a9a2364ad6f5fe0fea7f896f87f298ac715542171abe4c013"), looks := true }, kinds := [], alts := [], laidByText := true, laidKinds := [.data, .data, .data, .sentinel, .sentinel], laidTests := true, laidLooks := .later }
def FnWorldMapUptoCardSaid : Prop := Claim7.holds Tryz.pinned (.plain (OpenSpec.upto fnWorldMapSpec)) fnWorldMapUptoCard

/-- THE SECOND FORM's CARD OF 'laws.FnLinesUncalled'. -/
def fnLinesUncalledUptoCard : Claim7 := { stood := { row := fnLinesUncalledUptoRow, standIns := [], harness := (true, "ef731d92c729612a9a2364ad6f5fe0fea7f896f87f298ac715542171abe4c013"), looks := true }, kinds := [], alts := [], laidByText := true, laidKinds := [.data, .data, .data, .data, .sentinel, .sentinel, .pinned], laidTests := true, laidLooks := .later }
def FnLinesUncalledUptoCardSaid : Prop := Claim7.holds Tryz.pinned (.plain (OpenSpec.upto fnLinesUncalledSpec)) fnLinesUncalledUptoCard
end Rows
end Go.Proofs.YtblndjmhjaijjaaGreatDoor
