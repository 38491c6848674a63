/-
  DERIVED. GIVEN WITH THE SEED: THE CARDS: each row of YtkpkgfollnfhcaaGreatDoorRows.lean that lists a variable, with what it lists TIED to the program's text (the seventh form; the later family's looks); each row that meets fmt, with fmt's text TOLD by the authors' own Lean function (tested against real Go, not proved from fmt's source: count such statements apart). THE CARD IS WHAT COUNTS. Prove the row's statement (the work); the ties are given (YtkpkgfollnfhcaaGreatDoorTie.lean); close each card by the builder's one call (the guide's Derived/Test/ToyasCard.lean, 'card_holds'). Laid BY PROGRAM, IN A SANDBOX (cutbox-door.mjs). By AI agents, Wed Nov 11 2026. No macro, syntax, notation, axiom, sorry.
-/
import Derived.Test.YtkpkgfollnfhcaaGreatDoorRows
import GoSem.ClaimSeven
namespace Go.Proofs.YtkpkgfollnfhcaaGreatDoor
namespace Rows

/-- THE TIED CARD OF 'laws.FnExactJudgeBans'. -/
def fnExactJudgeBansCard : Claim7 := { stood := { row := fnExactJudgeBansRow, standIns := [], harness := (true, "12f7ecd7b3c2f0a2712a0988d2c876b9d267aa8cccabd8e156775ce65b2298da"), looks := true }, kinds := [], alts := [], laidByText := true, laidKinds := [.data, .data, .data, .data, .sentinel, .sentinel, .pinned], laidTests := true, laidLooks := .later }
def FnExactJudgeBansCardSaid : Prop := Claim7.holds Tryz.pinned (.plain (OpenSpec.ofChange fnExactJudgeBansSpec)) fnExactJudgeBansCard

/-- THE TIED CARD OF 'laws.FnExactJudgeHere'. -/
def fnExactJudgeHereCard : Claim7 := { stood := { row := fnExactJudgeHereRow, standIns := [], harness := (true, "12f7ecd7b3c2f0a2712a0988d2c876b9d267aa8cccabd8e156775ce65b2298da"), looks := true }, kinds := [], alts := [], laidByText := true, laidKinds := [.data, .data, .data, .data, .sentinel, .sentinel, .pinned], laidTests := true, laidLooks := .later }
def FnExactJudgeHereCardSaid : Prop := Claim7.holds Tryz.pinned (.plain (OpenSpec.ofChange fnExactJudgeHereSpec)) fnExactJudgeHereCard

/-- THE TIED CARD OF 'laws.FnExactDecide'. -/
def fnExactDecideCard : Claim7 := { stood := { row := fnExactDecideRow, standIns := [], harness := (true, "12f7ecd7b3c2f0a2712a0988d2c876b9d267aa8cccabd8e156775ce65b2298da"), looks := true }, kinds := [], alts := [], laidByText := true, laidKinds := [.data, .data, .data, .data, .sentinel, .sentinel, .pinned], laidTests := true, laidLooks := .later }
def FnExactDecideCardSaid : Prop := Claim7.holds Tryz.pinned (.plain (OpenSpec.ofChange fnExactDecideSpec)) fnExactDecideCard

/-- THE TIED CARD OF 'laws.FnExactFind'. -/
def fnExactFindCard : Claim7 := { stood := { row := fnExactFindRow, standIns := [], harness := (true, "12f7ecd7b3c2f0a2712a0988d2c876b9d267aa8cccabd8e156775ce65b2298da"), looks := true }, kinds := [], alts := [], laidByText := true, laidKinds := [.data, .pinned], laidTests := true, laidLooks := .later }
def FnExactFindCardSaid : Prop := Claim7.holds Tryz.pinned (.plain (OpenSpec.ofChange fnExactFindSpec)) fnExactFindCard

/-- THE TIED CARD OF 'laws.FnExactBanish'. -/
def fnExactBanishCard : Claim7 := { stood := { row := fnExactBanishRow, standIns := [], harness := (true, "12f7ecd7b3c2f0a2712a0988d2c876b9d267aa8cccabd8e156775ce65b2298da"), looks := true }, kinds := [], alts := [], laidByText := true, laidKinds := [.data, .data, .data, .data, .pinned], laidTests := true, laidLooks := .later }
def FnExactBanishCardSaid : Prop := Claim7.holds Tryz.pinned (.plain (OpenSpec.ofChange fnExactBanishSpec)) fnExactBanishCard

/-- THE TIED CARD OF 'laws.FnExactKeep'. -/
def fnExactKeepCard : Claim7 := { stood := { row := fnExactKeepRow, standIns := [], harness := (true, "12f7ecd7b3c2f0a2712a0988d2c876b9d267aa8cccabd8e156775ce65b2298da"), looks := true }, kinds := [], alts := [], laidByText := true, laidKinds := [.data, .data, .data, .data, .pinned], laidTests := true, laidLooks := .later }
def FnExactKeepCardSaid : Prop := Claim7.holds Tryz.pinned (.plain (OpenSpec.ofChange fnExactKeepSpec)) fnExactKeepCard

/-- THE TIED CARD OF 'laws.FnExactJudgeOnce'. -/
def fnExactJudgeOnceCard : Claim7 := { stood := { row := fnExactJudgeOnceRow, standIns := [], harness := (true, "12f7ecd7b3c2f0a2712a0988d2c876b9d267aa8cccabd8e156775ce65b2298da"), looks := true }, kinds := [], alts := [], laidByText := true, laidKinds := [.data, .data, .data, .data, .sentinel, .sentinel, .pinned], laidTests := true, laidLooks := .later }
def FnExactJudgeOnceCardSaid : Prop := Claim7.holds Tryz.pinned (.plain (OpenSpec.ofChange fnExactJudgeOnceSpec)) fnExactJudgeOnceCard

/-- THE TIED CARD OF 'laws.FnExactMount'. -/
def fnExactMountCard : Claim7 := { stood := { row := fnExactMountRow, standIns := [], harness := (true, "12f7ecd7b3c2f0a2712a0988d2c876b9d267aa8cccabd8e156775ce65b2298da"), looks := true }, kinds := [], alts := [], laidByText := true, laidKinds := [.data, .data, .data, .data, .sentinel, .sentinel, .pinned], laidTests := true, laidLooks := .later }
def FnExactMountCardSaid : Prop := Claim7.holds Tryz.pinned (.plain (OpenSpec.ofChange fnExactMountSpec)) fnExactMountCard

/-- THE SECOND FORM's CARD OF 'laws.FnExactJudgeBans'. -/
def fnExactJudgeBansUptoCard : Claim7 := { stood := { row := fnExactJudgeBansUptoRow, standIns := [], harness := (true, "12f7ecd7b3c2f0a2712a0988d2c876b9d267aa8cccabd8e156775ce65b2298da"), looks := true }, kinds := [], alts := [], laidByText := true, laidKinds := [.data, .data, .data, .data, .sentinel, .sentinel, .pinned], laidTests := true, laidLooks := .later }
def FnExactJudgeBansUptoCardSaid : Prop := Claim7.holds Tryz.pinned (.plain (OpenSpec.upto fnExactJudgeBansSpec)) fnExactJudgeBansUptoCard

/-- THE SECOND FORM's CARD OF 'laws.FnExactJudgeHere'. -/
def fnExactJudgeHereUptoCard : Claim7 := { stood := { row := fnExactJudgeHereUptoRow, standIns := [], harness := (true, "12f7ecd7b3c2f0a2712a0988d2c876b9d267aa8cccabd8e156775ce65b2298da"), looks := true }, kinds := [], alts := [], laidByText := true, laidKinds := [.data, .data, .data, .data, .sentinel, .sentinel, .pinned], laidTests := true, laidLooks := .later }
def FnExactJudgeHereUptoCardSaid : Prop := Claim7.holds Tryz.pinned (.plain (OpenSpec.upto fnExactJudgeHereSpec)) fnExactJudgeHereUptoCard

/-- THE SECOND FORM's CARD OF 'laws.FnExactDecide'. -/
def fnExactDecideUptoCard : Claim7 := { stood := { row := fnExactDecideUptoRow, standIns := [], harness := (true, "12f7ecd7b3c2f0a2712a0988d2c876b9d267aa8cccabd8e156775ce65b2298da"), looks := true }, kinds := [], alts := [], laidByText := true, laidKinds := [.data, .data, .data, .data, .sentinel, .sentinel, .pinned], laidTests := true, laidLooks := .later }
def FnExactDecideUptoCardSaid : Prop := Claim7.holds Tryz.pinned (.plain (OpenSpec.upto fnExactDecideSpec)) fnExactDecideUptoCard

/-- THE SECOND FORM's CARD OF 'laws.FnExactFind'. -/
def fnExactFindUptoCard : Claim7 := { stood := { row := fnExactFindUptoRow, standIns := [], harness := (true, "12f7ecd7b3c2f0a2712a0988d2c876b9d267aa8cccabd8e156775ce65b2298da"), looks := true }, kinds := [], alts := [], laidByText := true, laidKinds := [.data, .pinned], laidTests := true, laidLooks := .later }
def FnExactFindUptoCardSaid : Prop := Claim7.holds Tryz.pinned (.plain (OpenSpec.upto fnExactFindSpec)) fnExactFindUptoCard

/-- THE SECOND FORM's CARD OF 'laws.FnExactBanish'. -/
def fnExactBanishUptoCard : Claim7 := { stood := { row := fnExactBanishUptoRow, standIns := [], harness := (true, "12f7ecd7b3c2f0a2712a0988d2c876b9d267aa8cccabd8e156775ce65b2298da"), looks := true }, kinds := [], alts := [], laidByText := true, laidKinds := [.data, .data, .data, .data, .pinned], laidTests := true, laidLooks := .later }
def FnExactBanishUptoCardSaid : Prop := Claim7.holds Tryz.pinned (.plain (OpenSpec.upto fnExactBanishSpec)) fnExactBanishUptoCard

/-- THE SECOND FORM's CARD OF 'laws.FnExactKeep'. -/
def fnExactKeepUptoCard : Claim7 := { stood := { row := fnExactKeepUptoRow, standIns := [], harness := (true, "12f7ecd7b3c2f0a2712a0988d2c876b9d267aa8cccabd8e156775ce65b2298da"), looks := true }, kinds := [], alts := [], laidByText := true, laidKinds := [.data, .data, .data, .data, .pinned], laidTests := true, laidLooks := .later }
def FnExactKeepUptoCardSaid : Prop := Claim7.holds Tryz.pinned (.plain (OpenSpec.upto fnExactKeepSpec)) fnExactKeepUptoCard

/-- THE SECOND FORM's CARD OF 'laws.FnExactJudgeOnce'. -/
def fnExactJudgeOnceUptoCard : Claim7 := { stood := { row := fnExactJudgeOnceUptoRow, standIns := [], harness := (true, "12f7ecd7b3c2f0a2712a0988d2c876b9d267aa8cccabd8e156775ce65b2298da"), looks := true }, kinds := [], alts := [], laidByText := true, laidKinds := [.data, .data, .data, .data, .sentinel, .sentinel, .pinned], laidTests := true, laidLooks := .later }
def FnExactJudgeOnceUptoCardSaid : Prop := Claim7.holds Tryz.pinned (.plain (OpenSpec.upto fnExactJudgeOnceSpec)) fnExactJudgeOnceUptoCard

/-- THE SECOND FORM's CARD OF 'laws.FnExactMount'. -/
def fnExactMountUptoCard : Claim7 := { stood := { row := fnExactMountUptoRow, standIns := [], harness := (true, "12f7ecd7b3c2f0a2712a0988d2c876b9d267aa8cccabd8e156775ce65b2298da"), looks := true }, kinds := [], alts := [], laidByText := true, laidKinds := [.data, .data, .data, .data, .sentinel, .sentinel, .pinned], laidTests := true, laidLooks := .later }
def FnExactMountUptoCardSaid : Prop := Claim7.holds Tryz.pinned (.plain (OpenSpec.upto fnExactMountSpec)) fnExactMountUptoCard
end Rows
end Go.Proofs.YtkpkgfollnfhcaaGreatDoor
