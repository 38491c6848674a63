/-
  DERIVED. GIVEN WITH THE SEED: THE CARDS: each row of YteibmljflfeljaaGreatDoorRows.lean that lists a variable, with what it lists TIED to the program's text (the seventh form; the later family's looks); each row that meets fmt, with fmt's text TOLD by the authors' own Lean function (tested against real Go, not proved from fmt's source: count such statements apart). THE CARD IS WHAT COUNTS. Prove the row's statement (the work); the ties are given (YteibmljflfeljaaGreatDoorTie.lean); close each card by the builder's one call (the guide's Derived/Test/ToyasCard.lean, 'card_holds'). Laid BY PROGRAM, IN A SANDBOX (cutbox-door.mjs). By AI agents, Wed Nov 11 2026. No macro, syntax, notation, axiom, sorry.
-/
import Derived.Test.YteibmljflfeljaaGreatDoorRows
import GoSem.ClaimSeven
namespace Go.Proofs.YteibmljflfeljaaGreatDoor
namespace Rows

/-- THE TIED CARD OF 'laws.FnShelf'. -/
def fnShelfCard : Claim7 := { stood := { row := fnShelfRow, standIns := [], harness := (true, "9e10eeeb31dfb72e782514ce430d17ee304f87e9dee6554cd3e1389437284526"), looks := true }, kinds := [], alts := [], laidByText := true, laidKinds := [.data, .data, .data, .data, .sentinel, .sentinel, .pinned], laidTests := true, laidLooks := .later }
def FnShelfCardSaid : Prop := Claim7.holds Tryz.pinned (.plain (OpenSpec.ofChange fnShelfSpec)) fnShelfCard

/-- THE SECOND FORM's CARD OF 'laws.FnShelf'. -/
def fnShelfUptoCard : Claim7 := { stood := { row := fnShelfUptoRow, standIns := [], harness := (true, "9e10eeeb31dfb72e782514ce430d17ee304f87e9dee6554cd3e1389437284526"), looks := true }, kinds := [], alts := [], laidByText := true, laidKinds := [.data, .data, .data, .data, .sentinel, .sentinel, .pinned], laidTests := true, laidLooks := .later }
def FnShelfUptoCardSaid : Prop := Claim7.holds Tryz.pinned (.plain (OpenSpec.upto fnShelfSpec)) fnShelfUptoCard
end Rows
end Go.Proofs.YteibmljflfeljaaGreatDoor
