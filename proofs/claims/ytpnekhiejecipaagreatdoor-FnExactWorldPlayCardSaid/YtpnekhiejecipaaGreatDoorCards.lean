/-
  DERIVED. GIVEN WITH THE SEED: THE CARDS: each row of YtpnekhiejecipaaGreatDoorRows.lean that lists a variable, with what it lists TIED to the program's text (the seventh form; the later family's looks); each row that meets fmt, with fmt's text TOLD by the authors' own Lean function (tested against real Go, not proved from fmt's source: count such statements apart). THE CARD IS WHAT COUNTS. Prove the row's statement (the work); the ties are given (YtpnekhiejecipaaGreatDoorTie.lean); close each card by the builder's one call (the guide's Derived/Test/ToyasCard.lean, 'card_holds'). Laid BY PROGRAM, IN A SANDBOX (cutbox-door.mjs). By AI agents, Wed Nov 11 2026. No macro, syntax, notation, axiom, sorry.
-/
import Derived.Test.YtpnekhiejecipaaGreatDoorRows
import GoSem.ClaimSeven
namespace Go.Proofs.YtpnekhiejecipaaGreatDoor
namespace Rows

/-- THE TIED CARD OF 'laws.FnExactWorldPlay'. -/
def fnExactWorldPlayCard : Claim7 := { stood := { row := fnExactWorldPlayRow, standIns := [], harness := (true, "2cc84898e95c02d31780a602a088453a87d36caf1177b1ffaa58ad613038367b"), looks := true }, kinds := [], alts := [], laidByText := true, laidKinds := [.data, .data, .data, .sentinel, .sentinel], laidTests := true, laidLooks := .later }
def FnExactWorldPlayCardSaid : Prop := Claim7.holds Tryz.pinned (.plain (OpenSpec.ofChange fnExactWorldPlaySpec)) fnExactWorldPlayCard

/-- THE TIED CARD OF 'laws.FnLinesTwo'. -/
def fnLinesTwoCard : Claim7 := { stood := { row := fnLinesTwoRow, standIns := [], harness := (true, "2cc84898e95c02d31780a602a088453a87d36caf1177b1ffaa58ad613038367b"), looks := true }, kinds := [], alts := [], laidByText := true, laidKinds := [.data, .data, .data, .data, .sentinel, .sentinel, .pinned], laidTests := true, laidLooks := .later }
def FnLinesTwoCardSaid : Prop := Claim7.holds Tryz.pinned (.plain (OpenSpec.ofChange fnLinesTwoSpec)) fnLinesTwoCard

/-- THE SECOND FORM's CARD OF 'laws.FnExactWorldPlay'. -/
def fnExactWorldPlayUptoCard : Claim7 := { stood := { row := fnExactWorldPlayUptoRow, standIns := [], harness := (true, "2cc84898e95c02d31780a602a088453a87d36caf1177b1ffaa58ad613038367b"), looks := true }, kinds := [], alts := [], laidByText := true, laidKinds := [.data, .data, .data, .sentinel, .sentinel], laidTests := true, laidLooks := .later }
def FnExactWorldPlayUptoCardSaid : Prop := Claim7.holds Tryz.pinned (.plain (OpenSpec.upto fnExactWorldPlaySpec)) fnExactWorldPlayUptoCard

/-- THE SECOND FORM's CARD OF 'laws.FnLinesTwo'. -/
def fnLinesTwoUptoCard : Claim7 := { stood := { row := fnLinesTwoUptoRow, standIns := [], harness := (true, "2cc84898e95c02d31780a602a088453a87d36caf1177b1ffaa58ad613038367b"), looks := true }, kinds := [], alts := [], laidByText := true, laidKinds := [.data, .data, .data, .data, .sentinel, .sentinel, .pinned], laidTests := true, laidLooks := .later }
def FnLinesTwoUptoCardSaid : Prop := Claim7.holds Tryz.pinned (.plain (OpenSpec.upto fnLinesTwoSpec)) fnLinesTwoUptoCard
end Rows
end Go.Proofs.YtpnekhiejecipaaGreatDoor
