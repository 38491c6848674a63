/-
  DERIVED. GIVEN WITH THE SEED: THE CARDS: each row of YtaaeoialiegmeaaGreatDoorRows.lean that lists a variable, with what it lists TIED to the program's text (the seventh form; the later family's looks); each row that meets fmt, with fmt's text TOLD by the authors' own Lean function (tested against real Go, not proved from fmt's source: count such statements apart). THE CARD IS WHAT COUNTS. Prove the row's statement (the work); the ties are given (YtaaeoialiegmeaaGreatDoorTie.lean); close each card by the builder's one call (the guide's Derived/Test/ToyasCard.lean, 'card_holds'). Laid BY PROGRAM, IN A SANDBOX (cutbox-door.mjs). By AI agents, Wed Nov 11 2026. No macro, syntax, notation, axiom, sorry.
-/
import Derived.Test.YtaaeoialiegmeaaGreatDoorRows
import GoSem.ClaimSeven
namespace Go.Proofs.YtaaeoialiegmeaaGreatDoor
namespace Rows

/-- THE TIED CARD OF 'laws.FnAnswered'. -/
def fnAnsweredCard : Claim7 := { stood := { row := fnAnsweredRow, standIns := [], harness := (true, "db45d5b6050289824d2850edf075e3fd43151ee4e6dd343443b9549b3cb7efca"), looks := true }, kinds := [], alts := [], laidByText := true, laidKinds := [.data, .data, .data, .data, .sentinel, .sentinel, .pinned], laidTests := true, laidLooks := .later }
def FnAnsweredCardSaid : Prop := Claim7.holds Tryz.pinned (.plain (OpenSpec.ofChange fnAnsweredSpec)) fnAnsweredCard

/-- THE TIED CARD OF 'laws.FnFound'. -/
def fnFoundCard : Claim7 := { stood := { row := fnFoundRow, standIns := [], harness := (true, "db45d5b6050289824d2850edf075e3fd43151ee4e6dd343443b9549b3cb7efca"), looks := true }, kinds := [], alts := [], laidByText := true, laidKinds := [.data, .data, .data, .data, .pinned], laidTests := true, laidLooks := .later }
def FnFoundCardSaid : Prop := Claim7.holds Tryz.pinned (.plain (OpenSpec.ofChange fnFoundSpec)) fnFoundCard

/-- THE TIED CARD OF 'laws.FnDecided'. -/
def fnDecidedCard : Claim7 := { stood := { row := fnDecidedRow, standIns := [], harness := (true, "db45d5b6050289824d2850edf075e3fd43151ee4e6dd343443b9549b3cb7efca"), looks := true }, kinds := [], alts := [], laidByText := true, laidKinds := [.data, .data, .data, .data, .sentinel, .sentinel, .pinned], laidTests := true, laidLooks := .later }
def FnDecidedCardSaid : Prop := Claim7.holds Tryz.pinned (.plain (OpenSpec.ofChange fnDecidedSpec)) fnDecidedCard

/-- THE TIED CARD OF 'laws.FnMounted'. -/
def fnMountedCard : Claim7 := { stood := { row := fnMountedRow, standIns := [], harness := (true, "db45d5b6050289824d2850edf075e3fd43151ee4e6dd343443b9549b3cb7efca"), looks := true }, kinds := [], alts := [], laidByText := true, laidKinds := [.data, .data, .data, .data, .sentinel, .sentinel, .pinned], laidTests := true, laidLooks := .later }
def FnMountedCardSaid : Prop := Claim7.holds Tryz.pinned (.plain (OpenSpec.ofChange fnMountedSpec)) fnMountedCard

/-- THE TIED CARD OF 'laws.FnShelf'. -/
def fnShelfCard : Claim7 := { stood := { row := fnShelfRow, standIns := [], harness := (true, "db45d5b6050289824d2850edf075e3fd43151ee4e6dd343443b9549b3cb7efca"), looks := true }, kinds := [], alts := [], laidByText := true, laidKinds := [.data, .data, .data, .data, .sentinel, .sentinel, .pinned], laidTests := true, laidLooks := .later }
def FnShelfCardSaid : Prop := Claim7.holds Tryz.pinned (.plain (OpenSpec.ofChange fnShelfSpec)) fnShelfCard

/-- THE SECOND FORM's CARD OF 'laws.FnAnswered'. -/
def fnAnsweredUptoCard : Claim7 := { stood := { row := fnAnsweredUptoRow, standIns := [], harness := (true, "db45d5b6050289824d2850edf075e3fd43151ee4e6dd343443b9549b3cb7efca"), looks := true }, kinds := [], alts := [], laidByText := true, laidKinds := [.data, .data, .data, .data, .sentinel, .sentinel, .pinned], laidTests := true, laidLooks := .later }
def FnAnsweredUptoCardSaid : Prop := Claim7.holds Tryz.pinned (.plain (OpenSpec.upto fnAnsweredSpec)) fnAnsweredUptoCard

/-- THE SECOND FORM's CARD OF 'laws.FnFound'. -/
def fnFoundUptoCard : Claim7 := { stood := { row := fnFoundUptoRow, standIns := [], harness := (true, "db45d5b6050289824d2850edf075e3fd43151ee4e6dd343443b9549b3cb7efca"), looks := true }, kinds := [], alts := [], laidByText := true, laidKinds := [.data, .data, .data, .data, .pinned], laidTests := true, laidLooks := .later }
def FnFoundUptoCardSaid : Prop := Claim7.holds Tryz.pinned (.plain (OpenSpec.upto fnFoundSpec)) fnFoundUptoCard

/-- THE SECOND FORM's CARD OF 'laws.FnDecided'. -/
def fnDecidedUptoCard : Claim7 := { stood := { row := fnDecidedUptoRow, standIns := [], harness := (true, "db45d5b6050289824d2850edf075e3fd43151ee4e6dd343443b9549b3cb7efca"), looks := true }, kinds := [], alts := [], laidByText := true, laidKinds := [.data, .data, .data, .data, .sentinel, .sentinel, .pinned], laidTests := true, laidLooks := .later }
def FnDecidedUptoCardSaid : Prop := Claim7.holds Tryz.pinned (.plain (OpenSpec.upto fnDecidedSpec)) fnDecidedUptoCard

/-- THE SECOND FORM's CARD OF 'laws.FnMounted'. -/
def fnMountedUptoCard : Claim7 := { stood := { row := fnMountedUptoRow, standIns := [], harness := (true, "db45d5b6050289824d2850edf075e3fd43151ee4e6dd343443b9549b3cb7efca"), looks := true }, kinds := [], alts := [], laidByText := true, laidKinds := [.data, .data, .data, .data, .sentinel, .sentinel, .pinned], laidTests := true, laidLooks := .later }
def FnMountedUptoCardSaid : Prop := Claim7.holds Tryz.pinned (.plain (OpenSpec.upto fnMountedSpec)) fnMountedUptoCard

/-- THE SECOND FORM's CARD OF 'laws.FnShelf'. -/
def fnShelfUptoCard : Claim7 := { stood := { row := fnShelfUptoRow, standIns := [], harness := (true, "db45d5b6050289824d2850edf075e3fd43151ee4e6dd343443b9549b3cb7efca"), looks := true }, kinds := [], alts := [], laidByText := true, laidKinds := [.data, .data, .data, .data, .sentinel, .sentinel, .pinned], laidTests := true, laidLooks := .later }
def FnShelfUptoCardSaid : Prop := Claim7.holds Tryz.pinned (.plain (OpenSpec.upto fnShelfSpec)) fnShelfUptoCard
end Rows
end Go.Proofs.YtaaeoialiegmeaaGreatDoor
