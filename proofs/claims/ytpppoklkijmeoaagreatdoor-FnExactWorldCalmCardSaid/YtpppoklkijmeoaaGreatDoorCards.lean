/-
  DERIVED. GIVEN WITH THE SEED: THE CARDS: each row of YtpppoklkijmeoaaGreatDoorRows.lean that lists a variable, with what it lists TIED to the program's text (the seventh form; the later family's looks); each row that meets fmt, with fmt's text TOLD by the authors' own Lean function (tested against real Go, not proved from fmt's source: count such statements apart). THE CARD IS WHAT COUNTS. Prove the row's statement (the work); the ties are given (YtpppoklkijmeoaaGreatDoorTie.lean); close each card by the builder's one call (the guide's Derived/Test/ToyasCard.lean, 'card_holds'). Laid BY PROGRAM, IN A SANDBOX (cutbox-door.mjs). By AI agents, Wed Nov 11 2026. No macro, syntax, notation, axiom, sorry.
-/
import Derived.Test.YtpppoklkijmeoaaGreatDoorRows
import GoSem.ClaimSeven
namespace Go.Proofs.YtpppoklkijmeoaaGreatDoor
namespace Rows

/-- THE TIED CARD OF 'laws.FnExactWorldCalm'. -/
def fnExactWorldCalmCard : Claim7 := { stood := { row := fnExactWorldCalmRow, standIns := [], harness := (true, "2bcad20742e625e0cf750d1f97dcfdae62e2f2b220dfcd01bea0ee097663c8f3"), looks := true }, kinds := [], alts := [], laidByText := true, laidKinds := [.data, .data, .data, .sentinel, .sentinel], laidTests := true, laidLooks := .later }
def FnExactWorldCalmCardSaid : Prop := Claim7.holds Tryz.pinned (.plain (OpenSpec.ofChange fnExactWorldCalmSpec)) fnExactWorldCalmCard

/-- THE TIED CARD OF 'laws.FnExactWorldDo'. -/
def fnExactWorldDoCard : Claim7 := { stood := { row := fnExactWorldDoRow, standIns := [], harness := (true, "2bcad20742e625e0cf750d1f97dcfdae62e2f2b220dfcd01bea0ee097663c8f3"), looks := true }, kinds := [], alts := [], laidByText := true, laidKinds := [.data, .data, .data, .sentinel, .sentinel], laidTests := true, laidLooks := .later }
def FnExactWorldDoCardSaid : Prop := Claim7.holds Tryz.pinned (.plain (OpenSpec.ofChange fnExactWorldDoSpec)) fnExactWorldDoCard

/-- THE SECOND FORM's CARD OF 'laws.FnExactWorldCalm'. -/
def fnExactWorldCalmUptoCard : Claim7 := { stood := { row := fnExactWorldCalmUptoRow, standIns := [], harness := (true, "2bcad20742e625e0cf750d1f97dcfdae62e2f2b220dfcd01bea0ee097663c8f3"), looks := true }, kinds := [], alts := [], laidByText := true, laidKinds := [.data, .data, .data, .sentinel, .sentinel], laidTests := true, laidLooks := .later }
def FnExactWorldCalmUptoCardSaid : Prop := Claim7.holds Tryz.pinned (.plain (OpenSpec.upto fnExactWorldCalmSpec)) fnExactWorldCalmUptoCard

/-- THE SECOND FORM's CARD OF 'laws.FnExactWorldDo'. -/
def fnExactWorldDoUptoCard : Claim7 := { stood := { row := fnExactWorldDoUptoRow, standIns := [], harness := (true, "2bcad20742e625e0cf750d1f97dcfdae62e2f2b220dfcd01bea0ee097663c8f3"), looks := true }, kinds := [], alts := [], laidByText := true, laidKinds := [.data, .data, .data, .sentinel, .sentinel], laidTests := true, laidLooks := .later }
def FnExactWorldDoUptoCardSaid : Prop := Claim7.holds Tryz.pinned (.plain (OpenSpec.upto fnExactWorldDoSpec)) fnExactWorldDoUptoCard
end Rows
end Go.Proofs.YtpppoklkijmeoaaGreatDoor
