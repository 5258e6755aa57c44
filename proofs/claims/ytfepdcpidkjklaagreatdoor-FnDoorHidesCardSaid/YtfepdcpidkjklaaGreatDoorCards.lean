/-
  DERIVED. GIVEN WITH THE SEED: THE CARDS: each row of YtfepdcpidkjklaaGreatDoorRows.lean that lists a variable, with what it lists TIED to the program's text (the seventh form; the later family's looks); each row that meets fmt, with fmt's text TOLD by the authors' own Lean function (tested against real Go, not proved from fmt's source: count such statements apart). THE CARD IS WHAT COUNTS. Prove the row's statement (the work); the ties are given (YtfepdcpidkjklaaGreatDoorTie.lean); close each card by the builder's one call (the guide's Derived/Test/ToyasCard.lean, 'card_holds'). Laid BY PROGRAM, IN A SANDBOX (cutbox-door.mjs). By AI agents, Wed Nov 11 2026. No macro, syntax, notation, axiom, sorry.
-/
import Derived.Test.YtfepdcpidkjklaaGreatDoorRows
import GoSem.ClaimSeven
namespace Go.Proofs.YtfepdcpidkjklaaGreatDoor
namespace Rows

/-- THE TIED CARD OF 'laws.FnOutSame'. -/
def fnOutSameCard : Claim7 := { stood := { row := fnOutSameRow, standIns := [], harness := (true, "9e76461f699b8c5f407ec71c97bd4fbcdf44db531c56518fa49e3fd7dedba217"), looks := true }, kinds := [], alts := [], laidByText := true, laidKinds := [.data, .data, .data, .sentinel, .sentinel], laidTests := true, laidLooks := .later }
def FnOutSameCardSaid : Prop := Claim7.holds Tryz.pinned (.plain (OpenSpec.ofChange fnOutSameSpec)) fnOutSameCard

/-- THE TIED CARD OF 'laws.FnInInvited'. -/
def fnInInvitedCard : Claim7 := { stood := { row := fnInInvitedRow, standIns := [], harness := (true, "9e76461f699b8c5f407ec71c97bd4fbcdf44db531c56518fa49e3fd7dedba217"), looks := true }, kinds := [], alts := [], laidByText := true, laidKinds := [.data, .data, .data, .sentinel, .sentinel], laidTests := true, laidLooks := .later }
def FnInInvitedCardSaid : Prop := Claim7.holds Tryz.pinned (.plain (OpenSpec.ofChange fnInInvitedSpec)) fnInInvitedCard

/-- THE TIED CARD OF 'laws.FnInText'. -/
def fnInTextCard : Claim7 := { stood := { row := fnInTextRow, standIns := [], harness := (true, "9e76461f699b8c5f407ec71c97bd4fbcdf44db531c56518fa49e3fd7dedba217"), looks := true }, kinds := [], alts := [], laidByText := true, laidKinds := [.data, .data, .data, .sentinel, .sentinel], laidTests := true, laidLooks := .later }
def FnInTextCardSaid : Prop := Claim7.holds Tryz.pinned (.plain (OpenSpec.ofChange fnInTextSpec)) fnInTextCard

/-- THE TIED CARD OF 'laws.FnOutPort'. -/
def fnOutPortCard : Claim7 := { stood := { row := fnOutPortRow, standIns := [], harness := (true, "9e76461f699b8c5f407ec71c97bd4fbcdf44db531c56518fa49e3fd7dedba217"), looks := true }, kinds := [], alts := [], laidByText := true, laidKinds := [.data, .data, .data, .sentinel, .sentinel], laidTests := true, laidLooks := .later }
def FnOutPortCardSaid : Prop := Claim7.holds Tryz.pinned (.plain (OpenSpec.ofChange fnOutPortSpec)) fnOutPortCard

/-- THE TIED CARD OF 'laws.FnOutText'. -/
def fnOutTextCard : Claim7 := { stood := { row := fnOutTextRow, standIns := [], harness := (true, "9e76461f699b8c5f407ec71c97bd4fbcdf44db531c56518fa49e3fd7dedba217"), looks := true }, kinds := [], alts := [], laidByText := true, laidKinds := [.data, .data, .data, .sentinel, .sentinel], laidTests := true, laidLooks := .later }
def FnOutTextCardSaid : Prop := Claim7.holds Tryz.pinned (.plain (OpenSpec.ofChange fnOutTextSpec)) fnOutTextCard

/-- THE TIED CARD OF 'laws.FnOutHeld'. -/
def fnOutHeldCard : Claim7 := { stood := { row := fnOutHeldRow, standIns := [], harness := (true, "9e76461f699b8c5f407ec71c97bd4fbcdf44db531c56518fa49e3fd7dedba217"), looks := true }, kinds := [], alts := [], laidByText := true, laidKinds := [.data, .data, .data, .sentinel, .sentinel], laidTests := true, laidLooks := .later }
def FnOutHeldCardSaid : Prop := Claim7.holds Tryz.pinned (.plain (OpenSpec.ofChange fnOutHeldSpec)) fnOutHeldCard

/-- THE TIED CARD OF 'laws.FnPassApart'. -/
def fnPassApartCard : Claim7 := { stood := { row := fnPassApartRow, standIns := [], harness := (true, "9e76461f699b8c5f407ec71c97bd4fbcdf44db531c56518fa49e3fd7dedba217"), looks := true }, kinds := [], alts := [], laidByText := true, laidKinds := [.data, .data, .data, .sentinel, .sentinel], laidTests := true, laidLooks := .later }
def FnPassApartCardSaid : Prop := Claim7.holds Tryz.pinned (.plain (OpenSpec.ofChange fnPassApartSpec)) fnPassApartCard

/-- THE TIED CARD OF 'laws.FnPassTwice'. -/
def fnPassTwiceCard : Claim7 := { stood := { row := fnPassTwiceRow, standIns := [], harness := (true, "9e76461f699b8c5f407ec71c97bd4fbcdf44db531c56518fa49e3fd7dedba217"), looks := true }, kinds := [], alts := [], laidByText := true, laidKinds := [.data, .data, .data, .sentinel, .sentinel], laidTests := true, laidLooks := .later }
def FnPassTwiceCardSaid : Prop := Claim7.holds Tryz.pinned (.plain (OpenSpec.ofChange fnPassTwiceSpec)) fnPassTwiceCard

/-- THE TIED CARD OF 'laws.FnDoorHides'. -/
def fnDoorHidesCard : Claim7 := { stood := { row := fnDoorHidesRow, standIns := [], harness := (true, "9e76461f699b8c5f407ec71c97bd4fbcdf44db531c56518fa49e3fd7dedba217"), looks := true }, kinds := [], alts := [], laidByText := true, laidKinds := [.data, .data, .data, .sentinel, .sentinel], laidTests := true, laidLooks := .later }
def FnDoorHidesCardSaid : Prop := Claim7.holds Tryz.pinned (.plain (OpenSpec.ofChange fnDoorHidesSpec)) fnDoorHidesCard

/-- THE TIED CARD OF 'laws.FnPassOther'. -/
def fnPassOtherCard : Claim7 := { stood := { row := fnPassOtherRow, standIns := [], harness := (true, "9e76461f699b8c5f407ec71c97bd4fbcdf44db531c56518fa49e3fd7dedba217"), looks := true }, kinds := [], alts := [], laidByText := true, laidKinds := [.data, .data, .data, .sentinel, .sentinel], laidTests := true, laidLooks := .later }
def FnPassOtherCardSaid : Prop := Claim7.holds Tryz.pinned (.plain (OpenSpec.ofChange fnPassOtherSpec)) fnPassOtherCard

/-- THE TIED CARD OF 'laws.FnAckFar'. -/
def fnAckFarCard : Claim7 := { stood := { row := fnAckFarRow, standIns := [], harness := (true, "9e76461f699b8c5f407ec71c97bd4fbcdf44db531c56518fa49e3fd7dedba217"), looks := true }, kinds := [], alts := [], laidByText := true, laidKinds := [.data, .data, .data, .sentinel, .sentinel], laidTests := true, laidLooks := .later }
def FnAckFarCardSaid : Prop := Claim7.holds Tryz.pinned (.plain (OpenSpec.ofChange fnAckFarSpec)) fnAckFarCard

/-- THE TIED CARD OF 'laws.FnOutOpens'. -/
def fnOutOpensCard : Claim7 := { stood := { row := fnOutOpensRow, standIns := [], harness := (true, "9e76461f699b8c5f407ec71c97bd4fbcdf44db531c56518fa49e3fd7dedba217"), looks := true }, kinds := [], alts := [], laidByText := true, laidKinds := [.data, .data, .data, .sentinel, .sentinel], laidTests := true, laidLooks := .later }
def FnOutOpensCardSaid : Prop := Claim7.holds Tryz.pinned (.plain (OpenSpec.ofChange fnOutOpensSpec)) fnOutOpensCard

/-- THE TIED CARD OF 'laws.FnAckBack'. -/
def fnAckBackCard : Claim7 := { stood := { row := fnAckBackRow, standIns := [], harness := (true, "9e76461f699b8c5f407ec71c97bd4fbcdf44db531c56518fa49e3fd7dedba217"), looks := true }, kinds := [], alts := [], laidByText := true, laidKinds := [.data, .data, .data, .sentinel, .sentinel], laidTests := true, laidLooks := .later }
def FnAckBackCardSaid : Prop := Claim7.holds Tryz.pinned (.plain (OpenSpec.ofChange fnAckBackSpec)) fnAckBackCard

/-- THE SECOND FORM's CARD OF 'laws.FnOutSame'. -/
def fnOutSameUptoCard : Claim7 := { stood := { row := fnOutSameUptoRow, standIns := [], harness := (true, "9e76461f699b8c5f407ec71c97bd4fbcdf44db531c56518fa49e3fd7dedba217"), looks := true }, kinds := [], alts := [], laidByText := true, laidKinds := [.data, .data, .data, .sentinel, .sentinel], laidTests := true, laidLooks := .later }
def FnOutSameUptoCardSaid : Prop := Claim7.holds Tryz.pinned (.plain (OpenSpec.upto fnOutSameSpec)) fnOutSameUptoCard

/-- THE SECOND FORM's CARD OF 'laws.FnInInvited'. -/
def fnInInvitedUptoCard : Claim7 := { stood := { row := fnInInvitedUptoRow, standIns := [], harness := (true, "9e76461f699b8c5f407ec71c97bd4fbcdf44db531c56518fa49e3fd7dedba217"), looks := true }, kinds := [], alts := [], laidByText := true, laidKinds := [.data, .data, .data, .sentinel, .sentinel], laidTests := true, laidLooks := .later }
def FnInInvitedUptoCardSaid : Prop := Claim7.holds Tryz.pinned (.plain (OpenSpec.upto fnInInvitedSpec)) fnInInvitedUptoCard

/-- THE SECOND FORM's CARD OF 'laws.FnInText'. -/
def fnInTextUptoCard : Claim7 := { stood := { row := fnInTextUptoRow, standIns := [], harness := (true, "9e76461f699b8c5f407ec71c97bd4fbcdf44db531c56518fa49e3fd7dedba217"), looks := true }, kinds := [], alts := [], laidByText := true, laidKinds := [.data, .data, .data, .sentinel, .sentinel], laidTests := true, laidLooks := .later }
def FnInTextUptoCardSaid : Prop := Claim7.holds Tryz.pinned (.plain (OpenSpec.upto fnInTextSpec)) fnInTextUptoCard

/-- THE SECOND FORM's CARD OF 'laws.FnOutPort'. -/
def fnOutPortUptoCard : Claim7 := { stood := { row := fnOutPortUptoRow, standIns := [], harness := (true, "9e76461f699b8c5f407ec71c97bd4fbcdf44db531c56518fa49e3fd7dedba217"), looks := true }, kinds := [], alts := [], laidByText := true, laidKinds := [.data, .data, .data, .sentinel, .sentinel], laidTests := true, laidLooks := .later }
def FnOutPortUptoCardSaid : Prop := Claim7.holds Tryz.pinned (.plain (OpenSpec.upto fnOutPortSpec)) fnOutPortUptoCard

/-- THE SECOND FORM's CARD OF 'laws.FnOutText'. -/
def fnOutTextUptoCard : Claim7 := { stood := { row := fnOutTextUptoRow, standIns := [], harness := (true, "9e76461f699b8c5f407ec71c97bd4fbcdf44db531c56518fa49e3fd7dedba217"), looks := true }, kinds := [], alts := [], laidByText := true, laidKinds := [.data, .data, .data, .sentinel, .sentinel], laidTests := true, laidLooks := .later }
def FnOutTextUptoCardSaid : Prop := Claim7.holds Tryz.pinned (.plain (OpenSpec.upto fnOutTextSpec)) fnOutTextUptoCard

/-- THE SECOND FORM's CARD OF 'laws.FnOutHeld'. -/
def fnOutHeldUptoCard : Claim7 := { stood := { row := fnOutHeldUptoRow, standIns := [], harness := (true, "9e76461f699b8c5f407ec71c97bd4fbcdf44db531c56518fa49e3fd7dedba217"), looks := true }, kinds := [], alts := [], laidByText := true, laidKinds := [.data, .data, .data, .sentinel, .sentinel], laidTests := true, laidLooks := .later }
def FnOutHeldUptoCardSaid : Prop := Claim7.holds Tryz.pinned (.plain (OpenSpec.upto fnOutHeldSpec)) fnOutHeldUptoCard

/-- THE SECOND FORM's CARD OF 'laws.FnPassApart'. -/
def fnPassApartUptoCard : Claim7 := { stood := { row := fnPassApartUptoRow, standIns := [], harness := (true, "9e76461f699b8c5f407ec71c97bd4fbcdf44db531c56518fa49e3fd7dedba217"), looks := true }, kinds := [], alts := [], laidByText := true, laidKinds := [.data, .data, .data, .sentinel, .sentinel], laidTests := true, laidLooks := .later }
def FnPassApartUptoCardSaid : Prop := Claim7.holds Tryz.pinned (.plain (OpenSpec.upto fnPassApartSpec)) fnPassApartUptoCard

/-- THE SECOND FORM's CARD OF 'laws.FnPassTwice'. -/
def fnPassTwiceUptoCard : Claim7 := { stood := { row := fnPassTwiceUptoRow, standIns := [], harness := (true, "9e76461f699b8c5f407ec71c97bd4fbcdf44db531c56518fa49e3fd7dedba217"), looks := true }, kinds := [], alts := [], laidByText := true, laidKinds := [.data, .data, .data, .sentinel, .sentinel], laidTests := true, laidLooks := .later }
def FnPassTwiceUptoCardSaid : Prop := Claim7.holds Tryz.pinned (.plain (OpenSpec.upto fnPassTwiceSpec)) fnPassTwiceUptoCard

/-- THE SECOND FORM's CARD OF 'laws.FnDoorHides'. -/
def fnDoorHidesUptoCard : Claim7 := { stood := { row := fnDoorHidesUptoRow, standIns := [], harness := (true, "9e76461f699b8c5f407ec71c97bd4fbcdf44db531c56518fa49e3fd7dedba217"), looks := true }, kinds := [], alts := [], laidByText := true, laidKinds := [.data, .data, .data, .sentinel, .sentinel], laidTests := true, laidLooks := .later }
def FnDoorHidesUptoCardSaid : Prop := Claim7.holds Tryz.pinned (.plain (OpenSpec.upto fnDoorHidesSpec)) fnDoorHidesUptoCard

/-- THE SECOND FORM's CARD OF 'laws.FnPassOther'. -/
def fnPassOtherUptoCard : Claim7 := { stood := { row := fnPassOtherUptoRow, standIns := [], harness := (true, "9e76461f699b8c5f407ec71c97bd4fbcdf44db531c56518fa49e3fd7dedba217"), looks := true }, kinds := [], alts := [], laidByText := true, laidKinds := [.data, .data, .data, .sentinel, .sentinel], laidTests := true, laidLooks := .later }
def FnPassOtherUptoCardSaid : Prop := Claim7.holds Tryz.pinned (.plain (OpenSpec.upto fnPassOtherSpec)) fnPassOtherUptoCard

/-- THE SECOND FORM's CARD OF 'laws.FnAckFar'. -/
def fnAckFarUptoCard : Claim7 := { stood := { row := fnAckFarUptoRow, standIns := [], harness := (true, "9e76461f699b8c5f407ec71c97bd4fbcdf44db531c56518fa49e3fd7dedba217"), looks := true }, kinds := [], alts := [], laidByText := true, laidKinds := [.data, .data, .data, .sentinel, .sentinel], laidTests := true, laidLooks := .later }
def FnAckFarUptoCardSaid : Prop := Claim7.holds Tryz.pinned (.plain (OpenSpec.upto fnAckFarSpec)) fnAckFarUptoCard

/-- THE SECOND FORM's CARD OF 'laws.FnOutOpens'. -/
def fnOutOpensUptoCard : Claim7 := { stood := { row := fnOutOpensUptoRow, standIns := [], harness := (true, "9e76461f699b8c5f407ec71c97bd4fbcdf44db531c56518fa49e3fd7dedba217"), looks := true }, kinds := [], alts := [], laidByText := true, laidKinds := [.data, .data, .data, .sentinel, .sentinel], laidTests := true, laidLooks := .later }
def FnOutOpensUptoCardSaid : Prop := Claim7.holds Tryz.pinned (.plain (OpenSpec.upto fnOutOpensSpec)) fnOutOpensUptoCard

/-- THE SECOND FORM's CARD OF 'laws.FnAckBack'. -/
def fnAckBackUptoCard : Claim7 := { stood := { row := fnAckBackUptoRow, standIns := [], harness := (true, "9e76461f699b8c5f407ec71c97bd4fbcdf44db531c56518fa49e3fd7dedba217"), looks := true }, kinds := [], alts := [], laidByText := true, laidKinds := [.data, .data, .data, .sentinel, .sentinel], laidTests := true, laidLooks := .later }
def FnAckBackUptoCardSaid : Prop := Claim7.holds Tryz.pinned (.plain (OpenSpec.upto fnAckBackSpec)) fnAckBackUptoCard
end Rows
end Go.Proofs.YtfepdcpidkjklaaGreatDoor
