/-
  DERIVED. GIVEN WITH THE SEED: THE CARDS: each row of YtgganfobejnfaaaGreatDoorRows.lean that lists a variable, with what it lists TIED to the program's text (the seventh form; the later family's looks); each row that meets fmt, with fmt's text TOLD by the authors' own Lean function (tested against real Go, not proved from fmt's source: count such statements apart). THE CARD IS WHAT COUNTS. Prove the row's statement (the work); the ties are given (YtgganfobejnfaaaGreatDoorTie.lean); close each card by the builder's one call (the guide's Derived/Test/ToyasCard.lean, 'card_holds'). Laid BY PROGRAM, IN A SANDBOX (cutbox-door.mjs). By AI agents, Wed Nov 11 2026. No macro, syntax, notation, axiom, sorry.
-/
import Derived.Test.YtgganfobejnfaaaGreatDoorRows
import GoSem.ClaimSeven
namespace Go.Proofs.YtgganfobejnfaaaGreatDoor
namespace Rows

/-- THE TIED CARD OF 'laws.FnWorldNets'. -/
def fnWorldNetsCard : Claim7 := { stood := { row := fnWorldNetsRow, standIns := [], harness := (true, "a36bb62eef41c132a49e31241917ea9e67ce0bcaca68e467cee9897a8f1f50e1"), looks := true }, kinds := [], alts := [], laidByText := true, laidKinds := [.data, .data, .data, .sentinel, .sentinel], laidTests := true, laidLooks := .later }
def FnWorldNetsCardSaid : Prop := Claim7.holds Tryz.pinned (.plain (OpenSpec.ofChange fnWorldNetsSpec)) fnWorldNetsCard

/-- THE TIED CARD OF 'laws.FnWorldCut'. -/
def fnWorldCutCard : Claim7 := { stood := { row := fnWorldCutRow, standIns := [], harness := (true, "a36bb62eef41c132a49e31241917ea9e67ce0bcaca68e467cee9897a8f1f50e1"), looks := true }, kinds := [], alts := [], laidByText := true, laidKinds := [.data, .data, .data, .sentinel, .sentinel], laidTests := true, laidLooks := .later }
def FnWorldCutCardSaid : Prop := Claim7.holds Tryz.pinned (.plain (OpenSpec.ofChange fnWorldCutSpec)) fnWorldCutCard

/-- THE TIED CARD OF 'laws.FnWorldUncalled'. -/
def fnWorldUncalledCard : Claim7 := { stood := { row := fnWorldUncalledRow, standIns := [], harness := (true, "a36bb62eef41c132a49e31241917ea9e67ce0bcaca68e467cee9897a8f1f50e1"), looks := true }, kinds := [], alts := [], laidByText := true, laidKinds := [.data, .data, .data, .sentinel, .sentinel], laidTests := true, laidLooks := .later }
def FnWorldUncalledCardSaid : Prop := Claim7.holds Tryz.pinned (.plain (OpenSpec.ofChange fnWorldUncalledSpec)) fnWorldUncalledCard

/-- THE TIED CARD OF 'laws.FnWorldKeeps'. -/
def fnWorldKeepsCard : Claim7 := { stood := { row := fnWorldKeepsRow, standIns := [], harness := (true, "a36bb62eef41c132a49e31241917ea9e67ce0bcaca68e467cee9897a8f1f50e1"), looks := true }, kinds := [], alts := [], laidByText := true, laidKinds := [.data, .data, .data, .sentinel, .sentinel], laidTests := true, laidLooks := .later }
def FnWorldKeepsCardSaid : Prop := Claim7.holds Tryz.pinned (.plain (OpenSpec.ofChange fnWorldKeepsSpec)) fnWorldKeepsCard

/-- THE TIED CARD OF 'laws.FnWorldAlways'. -/
def fnWorldAlwaysCard : Claim7 := { stood := { row := fnWorldAlwaysRow, standIns := [], harness := (true, "a36bb62eef41c132a49e31241917ea9e67ce0bcaca68e467cee9897a8f1f50e1"), looks := true }, kinds := [], alts := [], laidByText := true, laidKinds := [.data, .data, .data, .sentinel, .sentinel], laidTests := true, laidLooks := .later }
def FnWorldAlwaysCardSaid : Prop := Claim7.holds Tryz.pinned (.plain (OpenSpec.ofChange fnWorldAlwaysSpec)) fnWorldAlwaysCard

/-- THE TIED CARD OF 'laws.FnWorldTrue'. -/
def fnWorldTrueCard : Claim7 := { stood := { row := fnWorldTrueRow, standIns := [], harness := (true, "a36bb62eef41c132a49e31241917ea9e67ce0bcaca68e467cee9897a8f1f50e1"), looks := true }, kinds := [], alts := [], laidByText := true, laidKinds := [.data, .data, .data, .sentinel, .sentinel], laidTests := true, laidLooks := .later }
def FnWorldTrueCardSaid : Prop := Claim7.holds Tryz.pinned (.plain (OpenSpec.ofChange fnWorldTrueSpec)) fnWorldTrueCard

/-- THE TIED CARD OF 'laws.FnWorldNobody'. -/
def fnWorldNobodyCard : Claim7 := { stood := { row := fnWorldNobodyRow, standIns := [], harness := (true, "a36bb62eef41c132a49e31241917ea9e67ce0bcaca68e467cee9897a8f1f50e1"), looks := true }, kinds := [], alts := [], laidByText := true, laidKinds := [.data, .data, .data, .sentinel, .sentinel], laidTests := true, laidLooks := .later }
def FnWorldNobodyCardSaid : Prop := Claim7.holds Tryz.pinned (.plain (OpenSpec.ofChange fnWorldNobodySpec)) fnWorldNobodyCard

/-- THE TIED CARD OF 'laws.FnWorldFull'. -/
def fnWorldFullCard : Claim7 := { stood := { row := fnWorldFullRow, standIns := [], harness := (true, "a36bb62eef41c132a49e31241917ea9e67ce0bcaca68e467cee9897a8f1f50e1"), looks := true }, kinds := [], alts := [], laidByText := true, laidKinds := [.data, .data, .data, .sentinel, .sentinel], laidTests := true, laidLooks := .later }
def FnWorldFullCardSaid : Prop := Claim7.holds Tryz.pinned (.plain (OpenSpec.ofChange fnWorldFullSpec)) fnWorldFullCard

/-- THE TIED CARD OF 'laws.FnWorldStill'. -/
def fnWorldStillCard : Claim7 := { stood := { row := fnWorldStillRow, standIns := [], harness := (true, "a36bb62eef41c132a49e31241917ea9e67ce0bcaca68e467cee9897a8f1f50e1"), looks := true }, kinds := [], alts := [], laidByText := true, laidKinds := [.data, .data, .data, .sentinel, .sentinel], laidTests := true, laidLooks := .later }
def FnWorldStillCardSaid : Prop := Claim7.holds Tryz.pinned (.plain (OpenSpec.ofChange fnWorldStillSpec)) fnWorldStillCard

/-- THE TIED CARD OF 'laws.FnWorldCalm'. -/
def fnWorldCalmCard : Claim7 := { stood := { row := fnWorldCalmRow, standIns := [], harness := (true, "a36bb62eef41c132a49e31241917ea9e67ce0bcaca68e467cee9897a8f1f50e1"), looks := true }, kinds := [], alts := [], laidByText := true, laidKinds := [.data, .data, .data, .sentinel, .sentinel], laidTests := true, laidLooks := .later }
def FnWorldCalmCardSaid : Prop := Claim7.holds Tryz.pinned (.plain (OpenSpec.ofChange fnWorldCalmSpec)) fnWorldCalmCard

/-- THE TIED CARD OF 'laws.FnWorldForged'. -/
def fnWorldForgedCard : Claim7 := { stood := { row := fnWorldForgedRow, standIns := [], harness := (true, "a36bb62eef41c132a49e31241917ea9e67ce0bcaca68e467cee9897a8f1f50e1"), looks := true }, kinds := [], alts := [], laidByText := true, laidKinds := [.data, .data, .data, .sentinel, .sentinel], laidTests := true, laidLooks := .later }
def FnWorldForgedCardSaid : Prop := Claim7.holds Tryz.pinned (.plain (OpenSpec.ofChange fnWorldForgedSpec)) fnWorldForgedCard

/-- THE TIED CARD OF 'laws.FnWorldLost'. -/
def fnWorldLostCard : Claim7 := { stood := { row := fnWorldLostRow, standIns := [], harness := (true, "a36bb62eef41c132a49e31241917ea9e67ce0bcaca68e467cee9897a8f1f50e1"), looks := true }, kinds := [], alts := [], laidByText := true, laidKinds := [.data, .data, .data, .sentinel, .sentinel], laidTests := true, laidLooks := .later }
def FnWorldLostCardSaid : Prop := Claim7.holds Tryz.pinned (.plain (OpenSpec.ofChange fnWorldLostSpec)) fnWorldLostCard

/-- THE SECOND FORM's CARD OF 'laws.FnWorldNets'. -/
def fnWorldNetsUptoCard : Claim7 := { stood := { row := fnWorldNetsUptoRow, standIns := [], harness := (true, "a36bb62eef41c132a49e31241917ea9e67ce0bcaca68e467cee9897a8f1f50e1"), looks := true }, kinds := [], alts := [], laidByText := true, laidKinds := [.data, .data, .data, .sentinel, .sentinel], laidTests := true, laidLooks := .later }
def FnWorldNetsUptoCardSaid : Prop := Claim7.holds Tryz.pinned (.plain (OpenSpec.upto fnWorldNetsSpec)) fnWorldNetsUptoCard

/-- THE SECOND FORM's CARD OF 'laws.FnWorldCut'. -/
def fnWorldCutUptoCard : Claim7 := { stood := { row := fnWorldCutUptoRow, standIns := [], harness := (true, "a36bb62eef41c132a49e31241917ea9e67ce0bcaca68e467cee9897a8f1f50e1"), looks := true }, kinds := [], alts := [], laidByText := true, laidKinds := [.data, .data, .data, .sentinel, .sentinel], laidTests := true, laidLooks := .later }
def FnWorldCutUptoCardSaid : Prop := Claim7.holds Tryz.pinned (.plain (OpenSpec.upto fnWorldCutSpec)) fnWorldCutUptoCard

/-- THE SECOND FORM's CARD OF 'laws.FnWorldUncalled'. -/
def fnWorldUncalledUptoCard : Claim7 := { stood := { row := fnWorldUncalledUptoRow, standIns := [], harness := (true, "a36bb62eef41c132a49e31241917ea9e67ce0bcaca68e467cee9897a8f1f50e1"), looks := true }, kinds := [], alts := [], laidByText := true, laidKinds := [.data, .data, .data, .sentinel, .sentinel], laidTests := true, laidLooks := .later }
def FnWorldUncalledUptoCardSaid : Prop := Claim7.holds Tryz.pinned (.plain (OpenSpec.upto fnWorldUncalledSpec)) fnWorldUncalledUptoCard

/-- THE SECOND FORM's CARD OF 'laws.FnWorldKeeps'. -/
def fnWorldKeepsUptoCard : Claim7 := { stood := { row := fnWorldKeepsUptoRow, standIns := [], harness := (true, "a36bb62eef41c132a49e31241917ea9e67ce0bcaca68e467cee9897a8f1f50e1"), looks := true }, kinds := [], alts := [], laidByText := true, laidKinds := [.data, .data, .data, .sentinel, .sentinel], laidTests := true, laidLooks := .later }
def FnWorldKeepsUptoCardSaid : Prop := Claim7.holds Tryz.pinned (.plain (OpenSpec.upto fnWorldKeepsSpec)) fnWorldKeepsUptoCard

/-- THE SECOND FORM's CARD OF 'laws.FnWorldAlways'. -/
def fnWorldAlwaysUptoCard : Claim7 := { stood := { row := fnWorldAlwaysUptoRow, standIns := [], harness := (true, "a36bb62eef41c132a49e31241917ea9e67ce0bcaca68e467cee9897a8f1f50e1"), looks := true }, kinds := [], alts := [], laidByText := true, laidKinds := [.data, .data, .data, .sentinel, .sentinel], laidTests := true, laidLooks := .later }
def FnWorldAlwaysUptoCardSaid : Prop := Claim7.holds Tryz.pinned (.plain (OpenSpec.upto fnWorldAlwaysSpec)) fnWorldAlwaysUptoCard

/-- THE SECOND FORM's CARD OF 'laws.FnWorldTrue'. -/
def fnWorldTrueUptoCard : Claim7 := { stood := { row := fnWorldTrueUptoRow, standIns := [], harness := (true, "a36bb62eef41c132a49e31241917ea9e67ce0bcaca68e467cee9897a8f1f50e1"), looks := true }, kinds := [], alts := [], laidByText := true, laidKinds := [.data, .data, .data, .sentinel, .sentinel], laidTests := true, laidLooks := .later }
def FnWorldTrueUptoCardSaid : Prop := Claim7.holds Tryz.pinned (.plain (OpenSpec.upto fnWorldTrueSpec)) fnWorldTrueUptoCard

/-- THE SECOND FORM's CARD OF 'laws.FnWorldNobody'. -/
def fnWorldNobodyUptoCard : Claim7 := { stood := { row := fnWorldNobodyUptoRow, standIns := [], harness := (true, "a36bb62eef41c132a49e31241917ea9e67ce0bcaca68e467cee9897a8f1f50e1"), looks := true }, kinds := [], alts := [], laidByText := true, laidKinds := [.data, .data, .data, .sentinel, .sentinel], laidTests := true, laidLooks := .later }
def FnWorldNobodyUptoCardSaid : Prop := Claim7.holds Tryz.pinned (.plain (OpenSpec.upto fnWorldNobodySpec)) fnWorldNobodyUptoCard

/-- THE SECOND FORM's CARD OF 'laws.FnWorldFull'. -/
def fnWorldFullUptoCard : Claim7 := { stood := { row := fnWorldFullUptoRow, standIns := [], harness := (true, "a36bb62eef41c132a49e31241917ea9e67ce0bcaca68e467cee9897a8f1f50e1"), looks := true }, kinds := [], alts := [], laidByText := true, laidKinds := [.data, .data, .data, .sentinel, .sentinel], laidTests := true, laidLooks := .later }
def FnWorldFullUptoCardSaid : Prop := Claim7.holds Tryz.pinned (.plain (OpenSpec.upto fnWorldFullSpec)) fnWorldFullUptoCard

/-- THE SECOND FORM's CARD OF 'laws.FnWorldStill'. -/
def fnWorldStillUptoCard : Claim7 := { stood := { row := fnWorldStillUptoRow, standIns := [], harness := (true, "a36bb62eef41c132a49e31241917ea9e67ce0bcaca68e467cee9897a8f1f50e1"), looks := true }, kinds := [], alts := [], laidByText := true, laidKinds := [.data, .data, .data, .sentinel, .sentinel], laidTests := true, laidLooks := .later }
def FnWorldStillUptoCardSaid : Prop := Claim7.holds Tryz.pinned (.plain (OpenSpec.upto fnWorldStillSpec)) fnWorldStillUptoCard

/-- THE SECOND FORM's CARD OF 'laws.FnWorldCalm'. -/
def fnWorldCalmUptoCard : Claim7 := { stood := { row := fnWorldCalmUptoRow, standIns := [], harness := (true, "a36bb62eef41c132a49e31241917ea9e67ce0bcaca68e467cee9897a8f1f50e1"), looks := true }, kinds := [], alts := [], laidByText := true, laidKinds := [.data, .data, .data, .sentinel, .sentinel], laidTests := true, laidLooks := .later }
def FnWorldCalmUptoCardSaid : Prop := Claim7.holds Tryz.pinned (.plain (OpenSpec.upto fnWorldCalmSpec)) fnWorldCalmUptoCard

/-- THE SECOND FORM's CARD OF 'laws.FnWorldForged'. -/
def fnWorldForgedUptoCard : Claim7 := { stood := { row := fnWorldForgedUptoRow, standIns := [], harness := (true, "a36bb62eef41c132a49e31241917ea9e67ce0bcaca68e467cee9897a8f1f50e1"), looks := true }, kinds := [], alts := [], laidByText := true, laidKinds := [.data, .data, .data, .sentinel, .sentinel], laidTests := true, laidLooks := .later }
def FnWorldForgedUptoCardSaid : Prop := Claim7.holds Tryz.pinned (.plain (OpenSpec.upto fnWorldForgedSpec)) fnWorldForgedUptoCard

/-- THE SECOND FORM's CARD OF 'laws.FnWorldLost'. -/
def fnWorldLostUptoCard : Claim7 := { stood := { row := fnWorldLostUptoRow, standIns := [], harness := (true, "a36bb62eef41c132a49e31241917ea9e67ce0bcaca68e467cee9897a8f1f50e1"), looks := true }, kinds := [], alts := [], laidByText := true, laidKinds := [.data, .data, .data, .sentinel, .sentinel], laidTests := true, laidLooks := .later }
def FnWorldLostUptoCardSaid : Prop := Claim7.holds Tryz.pinned (.plain (OpenSpec.upto fnWorldLostSpec)) fnWorldLostUptoCard
end Rows
end Go.Proofs.YtgganfobejnfaaaGreatDoor
