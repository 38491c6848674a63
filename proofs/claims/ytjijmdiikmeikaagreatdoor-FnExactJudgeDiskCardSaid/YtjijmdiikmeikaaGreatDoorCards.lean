/-
  DERIVED. GIVEN WITH THE SEED: THE CARDS: each row of YtjijmdiikmeikaaGreatDoorRows.lean that lists a variable, with what it lists TIED to the program's text (the seventh form; the later family's looks); each row that meets fmt, with fmt's text TOLD by the authors' own Lean function (tested against real Go, not proved from fmt's source: count such statements apart). THE CARD IS WHAT COUNTS. Prove the row's statement (the work); the ties are given (YtjijmdiikmeikaaGreatDoorTie.lean); close each card by the builder's one call (the guide's Derived/Test/ToyasCard.lean, 'card_holds'). Laid BY PROGRAM, IN A SANDBOX (cutbox-door.mjs). By AI agents, Wed Nov 11 2026. No macro, syntax, notation, axiom, sorry.
-/
import Derived.Test.YtjijmdiikmeikaaGreatDoorRows
import GoSem.ClaimSeven
namespace Go.Proofs.YtjijmdiikmeikaaGreatDoor
namespace Rows

/-- THE TIED CARD OF 'laws.FnExactJudgeDisk'. -/
def fnExactJudgeDiskCard : Claim7 := { stood := { row := fnExactJudgeDiskRow, standIns := [], harness := (true, "22c6a2bd4a81956e7f6fc0694f644b518225f7b90f67fc7cdabb8f0a69d72e04"), looks := true }, kinds := [], alts := [], laidByText := true, laidKinds := [.data, .data, .data, .data, .sentinel, .sentinel, .pinned], laidTests := true, laidLooks := .later }
def FnExactJudgeDiskCardSaid : Prop := Claim7.holds Tryz.pinned (.plain (OpenSpec.ofChange fnExactJudgeDiskSpec)) fnExactJudgeDiskCard

/-- THE TIED CARD OF 'laws.FnExactJudgeAll'. -/
def fnExactJudgeAllCard : Claim7 := { stood := { row := fnExactJudgeAllRow, standIns := [], harness := (true, "22c6a2bd4a81956e7f6fc0694f644b518225f7b90f67fc7cdabb8f0a69d72e04"), looks := true }, kinds := [], alts := [], laidByText := true, laidKinds := [.data, .data, .data, .data, .sentinel, .sentinel, .pinned], laidTests := true, laidLooks := .later }
def FnExactJudgeAllCardSaid : Prop := Claim7.holds Tryz.pinned (.plain (OpenSpec.ofChange fnExactJudgeAllSpec)) fnExactJudgeAllCard

/-- THE SECOND FORM's CARD OF 'laws.FnExactJudgeDisk'. -/
def fnExactJudgeDiskUptoCard : Claim7 := { stood := { row := fnExactJudgeDiskUptoRow, standIns := [], harness := (true, "22c6a2bd4a81956e7f6fc0694f644b518225f7b90f67fc7cdabb8f0a69d72e04"), looks := true }, kinds := [], alts := [], laidByText := true, laidKinds := [.data, .data, .data, .data, .sentinel, .sentinel, .pinned], laidTests := true, laidLooks := .later }
def FnExactJudgeDiskUptoCardSaid : Prop := Claim7.holds Tryz.pinned (.plain (OpenSpec.upto fnExactJudgeDiskSpec)) fnExactJudgeDiskUptoCard

/-- THE SECOND FORM's CARD OF 'laws.FnExactJudgeAll'. -/
def fnExactJudgeAllUptoCard : Claim7 := { stood := { row := fnExactJudgeAllUptoRow, standIns := [], harness := (true, "22c6a2bd4a81956e7f6fc0694f644b518225f7b90f67fc7cdabb8f0a69d72e04"), looks := true }, kinds := [], alts := [], laidByText := true, laidKinds := [.data, .data, .data, .data, .sentinel, .sentinel, .pinned], laidTests := true, laidLooks := .later }
def FnExactJudgeAllUptoCardSaid : Prop := Claim7.holds Tryz.pinned (.plain (OpenSpec.upto fnExactJudgeAllSpec)) fnExactJudgeAllUptoCard
end Rows
end Go.Proofs.YtjijmdiikmeikaaGreatDoor
