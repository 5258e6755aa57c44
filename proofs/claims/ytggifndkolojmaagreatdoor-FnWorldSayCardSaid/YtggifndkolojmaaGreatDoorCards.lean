/-
  DERIVED. GIVEN WITH THE SEED: THE CARDS: each row of YtggifndkolojmaaGreatDoorRows.lean that lists a variable, with what it lists TIED to the program's text (the seventh form; the later family's looks); each row that meets fmt, with fmt's text TOLD by the authors' own Lean function (tested against real Go, not proved from fmt's source: count such statements apart). THE CARD IS WHAT COUNTS. Prove the row's statement (the work); the ties are given (YtggifndkolojmaaGreatDoorTie.lean); close each card by the builder's one call (the guide's Derived/Test/ToyasCard.lean, 'card_holds'). Laid BY PROGRAM, IN A SANDBOX (cutbox-door.mjs). By AI agents, Wed Nov 11 2026. No macro, syntax, notation, axiom, sorry.
-/
import Derived.Test.YtggifndkolojmaaGreatDoorRows
import GoSem.ClaimSeven
namespace Go.Proofs.YtggifndkolojmaaGreatDoor
namespace Rows

/-- THE TIED CARD OF 'laws.FnWorldThere'. -/
def fnWorldThereCard : Claim7 := { stood := { row := fnWorldThereRow, standIns := [], harness := (true, "58a05f54823e58ac5a655b22fc790498247884f1a5a2f6ca09beedcd63fee354"), looks := true }, kinds := [], alts := [], laidByText := true, laidKinds := [.data, .data, .data, .sentinel, .sentinel], laidTests := true, laidLooks := .later }
def FnWorldThereCardSaid : Prop := Claim7.holds Tryz.pinned (.plain (OpenSpec.ofChange fnWorldThereSpec)) fnWorldThereCard

/-- THE TIED CARD OF 'laws.FnWorldDo'. -/
def fnWorldDoCard : Claim7 := { stood := { row := fnWorldDoRow, standIns := [], harness := (true, "58a05f54823e58ac5a655b22fc790498247884f1a5a2f6ca09beedcd63fee354"), looks := true }, kinds := [], alts := [], laidByText := true, laidKinds := [.data, .data, .data, .sentinel, .sentinel], laidTests := true, laidLooks := .later }
def FnWorldDoCardSaid : Prop := Claim7.holds Tryz.pinned (.plain (OpenSpec.ofChange fnWorldDoSpec)) fnWorldDoCard

/-- THE TIED CARD OF 'laws.FnWorldApart'. -/
def fnWorldApartCard : Claim7 := { stood := { row := fnWorldApartRow, standIns := [], harness := (true, "58a05f54823e58ac5a655b22fc790498247884f1a5a2f6ca09beedcd63fee354"), looks := true }, kinds := [], alts := [], laidByText := true, laidKinds := [.data, .data, .data, .sentinel, .sentinel], laidTests := true, laidLooks := .later }
def FnWorldApartCardSaid : Prop := Claim7.holds Tryz.pinned (.plain (OpenSpec.ofChange fnWorldApartSpec)) fnWorldApartCard

/-- THE TIED CARD OF 'laws.FnWorldIdle'. -/
def fnWorldIdleCard : Claim7 := { stood := { row := fnWorldIdleRow, standIns := [], harness := (true, "58a05f54823e58ac5a655b22fc790498247884f1a5a2f6ca09beedcd63fee354"), looks := true }, kinds := [], alts := [], laidByText := true, laidKinds := [.data, .data, .data, .sentinel, .sentinel], laidTests := true, laidLooks := .later }
def FnWorldIdleCardSaid : Prop := Claim7.holds Tryz.pinned (.plain (OpenSpec.ofChange fnWorldIdleSpec)) fnWorldIdleCard

/-- THE TIED CARD OF 'laws.FnWorldTwice'. -/
def fnWorldTwiceCard : Claim7 := { stood := { row := fnWorldTwiceRow, standIns := [], harness := (true, "58a05f54823e58ac5a655b22fc790498247884f1a5a2f6ca09beedcd63fee354"), looks := true }, kinds := [], alts := [], laidByText := true, laidKinds := [.data, .data, .data, .sentinel, .sentinel], laidTests := true, laidLooks := .later }
def FnWorldTwiceCardSaid : Prop := Claim7.holds Tryz.pinned (.plain (OpenSpec.ofChange fnWorldTwiceSpec)) fnWorldTwiceCard

/-- THE TIED CARD OF 'laws.FnWorldSay'. -/
def fnWorldSayCard : Claim7 := { stood := { row := fnWorldSayRow, standIns := [], harness := (true, "58a05f54823e58ac5a655b22fc790498247884f1a5a2f6ca09beedcd63fee354"), looks := true }, kinds := [], alts := [], laidByText := true, laidKinds := [.data, .data, .data, .sentinel, .sentinel], laidTests := true, laidLooks := .later }
def FnWorldSayCardSaid : Prop := Claim7.holds Tryz.pinned (.plain (OpenSpec.ofChange fnWorldSaySpec)) fnWorldSayCard

/-- THE TIED CARD OF 'laws.FnWorldRounds'. -/
def fnWorldRoundsCard : Claim7 := { stood := { row := fnWorldRoundsRow, standIns := [], harness := (true, "58a05f54823e58ac5a655b22fc790498247884f1a5a2f6ca09beedcd63fee354"), looks := true }, kinds := [], alts := [], laidByText := true, laidKinds := [.data, .data, .data, .sentinel, .sentinel], laidTests := true, laidLooks := .later }
def FnWorldRoundsCardSaid : Prop := Claim7.holds Tryz.pinned (.plain (OpenSpec.ofChange fnWorldRoundsSpec)) fnWorldRoundsCard

/-- THE SECOND FORM's CARD OF 'laws.FnWorldThere'. -/
def fnWorldThereUptoCard : Claim7 := { stood := { row := fnWorldThereUptoRow, standIns := [], harness := (true, "58a05f54823e58ac5a655b22fc790498247884f1a5a2f6ca09beedcd63fee354"), looks := true }, kinds := [], alts := [], laidByText := true, laidKinds := [.data, .data, .data, .sentinel, .sentinel], laidTests := true, laidLooks := .later }
def FnWorldThereUptoCardSaid : Prop := Claim7.holds Tryz.pinned (.plain (OpenSpec.upto fnWorldThereSpec)) fnWorldThereUptoCard

/-- THE SECOND FORM's CARD OF 'laws.FnWorldDo'. -/
def fnWorldDoUptoCard : Claim7 := { stood := { row := fnWorldDoUptoRow, standIns := [], harness := (true, "58a05f54823e58ac5a655b22fc790498247884f1a5a2f6ca09beedcd63fee354"), looks := true }, kinds := [], alts := [], laidByText := true, laidKinds := [.data, .data, .data, .sentinel, .sentinel], laidTests := true, laidLooks := .later }
def FnWorldDoUptoCardSaid : Prop := Claim7.holds Tryz.pinned (.plain (OpenSpec.upto fnWorldDoSpec)) fnWorldDoUptoCard

/-- THE SECOND FORM's CARD OF 'laws.FnWorldApart'. -/
def fnWorldApartUptoCard : Claim7 := { stood := { row := fnWorldApartUptoRow, standIns := [], harness := (true, "58a05f54823e58ac5a655b22fc790498247884f1a5a2f6ca09beedcd63fee354"), looks := true }, kinds := [], alts := [], laidByText := true, laidKinds := [.data, .data, .data, .sentinel, .sentinel], laidTests := true, laidLooks := .later }
def FnWorldApartUptoCardSaid : Prop := Claim7.holds Tryz.pinned (.plain (OpenSpec.upto fnWorldApartSpec)) fnWorldApartUptoCard

/-- THE SECOND FORM's CARD OF 'laws.FnWorldIdle'. -/
def fnWorldIdleUptoCard : Claim7 := { stood := { row := fnWorldIdleUptoRow, standIns := [], harness := (true, "58a05f54823e58ac5a655b22fc790498247884f1a5a2f6ca09beedcd63fee354"), looks := true }, kinds := [], alts := [], laidByText := true, laidKinds := [.data, .data, .data, .sentinel, .sentinel], laidTests := true, laidLooks := .later }
def FnWorldIdleUptoCardSaid : Prop := Claim7.holds Tryz.pinned (.plain (OpenSpec.upto fnWorldIdleSpec)) fnWorldIdleUptoCard

/-- THE SECOND FORM's CARD OF 'laws.FnWorldTwice'. -/
def fnWorldTwiceUptoCard : Claim7 := { stood := { row := fnWorldTwiceUptoRow, standIns := [], harness := (true, "58a05f54823e58ac5a655b22fc790498247884f1a5a2f6ca09beedcd63fee354"), looks := true }, kinds := [], alts := [], laidByText := true, laidKinds := [.data, .data, .data, .sentinel, .sentinel], laidTests := true, laidLooks := .later }
def FnWorldTwiceUptoCardSaid : Prop := Claim7.holds Tryz.pinned (.plain (OpenSpec.upto fnWorldTwiceSpec)) fnWorldTwiceUptoCard

/-- THE SECOND FORM's CARD OF 'laws.FnWorldSay'. -/
def fnWorldSayUptoCard : Claim7 := { stood := { row := fnWorldSayUptoRow, standIns := [], harness := (true, "58a05f54823e58ac5a655b22fc790498247884f1a5a2f6ca09beedcd63fee354"), looks := true }, kinds := [], alts := [], laidByText := true, laidKinds := [.data, .data, .data, .sentinel, .sentinel], laidTests := true, laidLooks := .later }
def FnWorldSayUptoCardSaid : Prop := Claim7.holds Tryz.pinned (.plain (OpenSpec.upto fnWorldSaySpec)) fnWorldSayUptoCard

/-- THE SECOND FORM's CARD OF 'laws.FnWorldRounds'. -/
def fnWorldRoundsUptoCard : Claim7 := { stood := { row := fnWorldRoundsUptoRow, standIns := [], harness := (true, "58a05f54823e58ac5a655b22fc790498247884f1a5a2f6ca09beedcd63fee354"), looks := true }, kinds := [], alts := [], laidByText := true, laidKinds := [.data, .data, .data, .sentinel, .sentinel], laidTests := true, laidLooks := .later }
def FnWorldRoundsUptoCardSaid : Prop := Claim7.holds Tryz.pinned (.plain (OpenSpec.upto fnWorldRoundsSpec)) fnWorldRoundsUptoCard
end Rows
end Go.Proofs.YtggifndkolojmaaGreatDoor
