/-
  DERIVED. GIVEN WITH THE SEED: THE CARDS: each row of YtcldaglhkhfhaaaGreatDoorRows.lean that lists a variable, with what it lists TIED to the program's text (the seventh form; the later family's looks); each row that meets fmt, with fmt's text TOLD by the authors' own Lean function (tested against real Go, not proved from fmt's source: count such statements apart). THE CARD IS WHAT COUNTS. Prove the row's statement (the work); the ties are given (YtcldaglhkhfhaaaGreatDoorTie.lean); close each card by the builder's one call (the guide's Derived/Test/ToyasCard.lean, 'card_holds'). Laid BY PROGRAM, IN A SANDBOX (cutbox-door.mjs). By AI agents, Wed Nov 11 2026. No macro, syntax, notation, axiom, sorry.
-/
import Derived.Test.YtcldaglhkhfhaaaGreatDoorRows
import GoSem.ClaimSeven
namespace Go.Proofs.YtcldaglhkhfhaaaGreatDoor
namespace Rows

/-- THE TIED CARD OF 'laws.FnExactShelfOk'. -/
def fnExactShelfOkCard : Claim7 := { stood := { row := fnExactShelfOkRow, standIns := [], harness := (true, "fdbfb4e2a3ffb36201f48b34e4d8f90175d5159bfe277f57debec98ecf3437c7"), looks := true }, kinds := [], alts := [], laidByText := true, laidKinds := [.data, .pinned], laidTests := true, laidLooks := .later }
def FnExactShelfOkCardSaid : Prop := Claim7.holds Tryz.pinned (.plain (OpenSpec.ofChange fnExactShelfOkSpec)) fnExactShelfOkCard

/-- THE TIED CARD OF 'laws.FnBans'. -/
def fnBansCard : Claim7 := { stood := { row := fnBansRow, standIns := [], harness := (true, "fdbfb4e2a3ffb36201f48b34e4d8f90175d5159bfe277f57debec98ecf3437c7"), looks := true }, kinds := [], alts := [], laidByText := true, laidKinds := [.data, .data, .data, .data, .sentinel, .sentinel, .pinned], laidTests := true, laidLooks := .later }
def FnBansCardSaid : Prop := Claim7.holds Tryz.pinned (.plain (OpenSpec.ofChange fnBansSpec)) fnBansCard

/-- THE TIED CARD OF 'laws.FnExactAnswer'. -/
def fnExactAnswerCard : Claim7 := { stood := { row := fnExactAnswerRow, standIns := [], harness := (true, "fdbfb4e2a3ffb36201f48b34e4d8f90175d5159bfe277f57debec98ecf3437c7"), looks := true }, kinds := [], alts := [], laidByText := true, laidKinds := [.data, .data, .data, .data, .sentinel, .sentinel, .pinned], laidTests := true, laidLooks := .later }
def FnExactAnswerCardSaid : Prop := Claim7.holds Tryz.pinned (.plain (OpenSpec.ofChange fnExactAnswerSpec)) fnExactAnswerCard

/-- THE SECOND FORM's CARD OF 'laws.FnExactShelfOk'. -/
def fnExactShelfOkUptoCard : Claim7 := { stood := { row := fnExactShelfOkUptoRow, standIns := [], harness := (true, "fdbfb4e2a3ffb36201f48b34e4d8f90175d5159bfe277f57debec98ecf3437c7"), looks := true }, kinds := [], alts := [], laidByText := true, laidKinds := [.data, .pinned], laidTests := true, laidLooks := .later }
def FnExactShelfOkUptoCardSaid : Prop := Claim7.holds Tryz.pinned (.plain (OpenSpec.upto fnExactShelfOkSpec)) fnExactShelfOkUptoCard

/-- THE SECOND FORM's CARD OF 'laws.FnBans'. -/
def fnBansUptoCard : Claim7 := { stood := { row := fnBansUptoRow, standIns := [], harness := (true, "fdbfb4e2a3ffb36201f48b34e4d8f90175d5159bfe277f57debec98ecf3437c7"), looks := true }, kinds := [], alts := [], laidByText := true, laidKinds := [.data, .data, .data, .data, .sentinel, .sentinel, .pinned], laidTests := true, laidLooks := .later }
def FnBansUptoCardSaid : Prop := Claim7.holds Tryz.pinned (.plain (OpenSpec.upto fnBansSpec)) fnBansUptoCard

/-- THE SECOND FORM's CARD OF 'laws.FnExactAnswer'. -/
def fnExactAnswerUptoCard : Claim7 := { stood := { row := fnExactAnswerUptoRow, standIns := [], harness := (true, "fdbfb4e2a3ffb36201f48b34e4d8f90175d5159bfe277f57debec98ecf3437c7"), looks := true }, kinds := [], alts := [], laidByText := true, laidKinds := [.data, .data, .data, .data, .sentinel, .sentinel, .pinned], laidTests := true, laidLooks := .later }
def FnExactAnswerUptoCardSaid : Prop := Claim7.holds Tryz.pinned (.plain (OpenSpec.upto fnExactAnswerSpec)) fnExactAnswerUptoCard
end Rows
end Go.Proofs.YtcldaglhkhfhaaaGreatDoor
