/-
  DERIVED. GIVEN WITH THE SEED: THE CARDS: each row of YtcibpfbfblmedaaGreatDoorRows.lean that lists a variable, with what it lists TIED to the program's text (the seventh form; the later family's looks); each row that meets fmt, with fmt's text TOLD by the authors' own Lean function (tested against real Go, not proved from fmt's source: count such statements apart). THE CARD IS WHAT COUNTS. Prove the row's statement (the work); the ties are given (YtcibpfbfblmedaaGreatDoorTie.lean); close each card by the builder's one call (the guide's Derived/Test/ToyasCard.lean, 'card_holds'). Laid BY PROGRAM, IN A SANDBOX (cutbox-door.mjs). By AI agents, Wed Nov 11 2026. No macro, syntax, notation, axiom, sorry.
-/
import Derived.Test.YtcibpfbfblmedaaGreatDoorRows
import GoSem.ClaimSeven
namespace Go.Proofs.YtcibpfbfblmedaaGreatDoor
namespace Rows

/-- THE TIED CARD OF 'laws.FnTogether'. -/
def fnTogetherCard : Claim7 := { stood := { row := fnTogetherRow, standIns := [], harness := (true, "91d5efd6ecab9faad4cbe8a7aa118a5fbb361c0dd059f4d988fae0d6fe9f0ded"), looks := true }, kinds := [], alts := [], laidByText := true, laidKinds := [.data, .data, .data, .data, .sentinel, .sentinel, .pinned], laidTests := true, laidLooks := .later }
def FnTogetherCardSaid : Prop := Claim7.holds Tryz.pinned (.plain (OpenSpec.ofChange fnTogetherSpec)) fnTogetherCard

/-- THE TIED CARD OF 'laws.FnOrigin'. -/
def fnOriginCard : Claim7 := { stood := { row := fnOriginRow, standIns := [], harness := (true, "91d5efd6ecab9faad4cbe8a7aa118a5fbb361c0dd059f4d988fae0d6fe9f0ded"), looks := true }, kinds := [], alts := [], laidByText := true, laidKinds := [.data, .data, .data, .data, .sentinel, .sentinel, .pinned], laidTests := true, laidLooks := .later }
def FnOriginCardSaid : Prop := Claim7.holds Tryz.pinned (.plain (OpenSpec.ofChange fnOriginSpec)) fnOriginCard

/-- THE SECOND FORM's CARD OF 'laws.FnTogether'. -/
def fnTogetherUptoCard : Claim7 := { stood := { row := fnTogetherUptoRow, standIns := [], harness := (true, "91d5efd6ecab9faad4cbe8a7aa118a5fbb361c0dd059f4d988fae0d6fe9f0ded"), looks := true }, kinds := [], alts := [], laidByText := true, laidKinds := [.data, .data, .data, .data, .sentinel, .sentinel, .pinned], laidTests := true, laidLooks := .later }
def FnTogetherUptoCardSaid : Prop := Claim7.holds Tryz.pinned (.plain (OpenSpec.upto fnTogetherSpec)) fnTogetherUptoCard

/-- THE SECOND FORM's CARD OF 'laws.FnOrigin'. -/
def fnOriginUptoCard : Claim7 := { stood := { row := fnOriginUptoRow, standIns := [], harness := (true, "91d5efd6ecab9faad4cbe8a7aa118a5fbb361c0dd059f4d988fae0d6fe9f0ded"), looks := true }, kinds := [], alts := [], laidByText := true, laidKinds := [.data, .data, .data, .data, .sentinel, .sentinel, .pinned], laidTests := true, laidLooks := .later }
def FnOriginUptoCardSaid : Prop := Claim7.holds Tryz.pinned (.plain (OpenSpec.upto fnOriginSpec)) fnOriginUptoCard
end Rows
end Go.Proofs.YtcibpfbfblmedaaGreatDoor
