/-
  DERIVED. GIVEN WITH THE SEED: THE CARDS: each row of YtacflkabkpeinaaGreatDoorRows.lean that lists a variable, with what it lists TIED to the program's text (the seventh form; the later family's looks); each row that meets fmt, with fmt's text TOLD by the authors' own Lean function (tested against real Go, not proved from fmt's source: count such statements apart). THE CARD IS WHAT COUNTS. Prove the row's statement (the work); the ties are given (YtacflkabkpeinaaGreatDoorTie.lean); close each card by the builder's one call (the guide's Derived/Test/ToyasCard.lean, 'card_holds'). Laid BY PROGRAM, IN A SANDBOX (cutbox-door.mjs). By AI agents, Wed Nov 11 2026. No macro, syntax, notation, axiom, sorry.
-/
import Derived.Test.YtacflkabkpeinaaGreatDoorRows
import GoSem.ClaimSeven
namespace Go.Proofs.YtacflkabkpeinaaGreatDoor
namespace Rows

/-- THE TIED CARD OF 'laws.FnExactDrain'. -/
def fnExactDrainCard : Claim7 := { stood := { row := fnExactDrainRow, standIns := [], harness := (true, "03c353e79602dd77614ffa24a260a12627f067e2c3dba3848aea5a06046e3dd1"), looks := true }, kinds := [], alts := [], laidByText := true, laidKinds := [.data, .data, .data, .data, .sentinel, .sentinel, .pinned], laidTests := true, laidLooks := .later }
def FnExactDrainCardSaid : Prop := Claim7.holds Tryz.pinned (.plain (OpenSpec.ofChange fnExactDrainSpec)) fnExactDrainCard

/-- THE TIED CARD OF 'laws.FnExactJudgeOnce'. -/
def fnExactJudgeOnceCard : Claim7 := { stood := { row := fnExactJudgeOnceRow, standIns := [], harness := (true, "03c353e79602dd77614ffa24a260a12627f067e2c3dba3848aea5a06046e3dd1"), looks := true }, kinds := [], alts := [], laidByText := true, laidKinds := [.data, .data, .data, .data, .sentinel, .sentinel, .pinned], laidTests := true, laidLooks := .later }
def FnExactJudgeOnceCardSaid : Prop := Claim7.holds Tryz.pinned (.plain (OpenSpec.ofChange fnExactJudgeOnceSpec)) fnExactJudgeOnceCard

/-- THE TIED CARD OF 'laws.FnExactJudgeDisk'. -/
def fnExactJudgeDiskCard : Claim7 := { stood := { row := fnExactJudgeDiskRow, standIns := [], harness := (true, "03c353e79602dd77614ffa24a260a12627f067e2c3dba3848aea5a06046e3dd1"), looks := true }, kinds := [], alts := [], laidByText := true, laidKinds := [.data, .data, .data, .data, .sentinel, .sentinel, .pinned], laidTests := true, laidLooks := .later }
def FnExactJudgeDiskCardSaid : Prop := Claim7.holds Tryz.pinned (.plain (OpenSpec.ofChange fnExactJudgeDiskSpec)) fnExactJudgeDiskCard

/-- THE TIED CARD OF 'laws.FnExactJudgeAll'. -/
def fnExactJudgeAllCard : Claim7 := { stood := { row := fnExactJudgeAllRow, standIns := [], harness := (true, "03c353e79602dd77614ffa24a260a12627f067e2c3dba3848aea5a06046e3dd1"), looks := true }, kinds := [], alts := [], laidByText := true, laidKinds := [.data, .data, .data, .data, .sentinel, .sentinel, .pinned], laidTests := true, laidLooks := .later }
def FnExactJudgeAllCardSaid : Prop := Claim7.holds Tryz.pinned (.plain (OpenSpec.ofChange fnExactJudgeAllSpec)) fnExactJudgeAllCard

/-- THE TIED CARD OF 'laws.FnExactSession'. -/
def fnExactSessionCard : Claim7 := { stood := { row := fnExactSessionRow, standIns := [], harness := (true, "03c353e79602dd77614ffa24a260a12627f067e2c3dba3848aea5a06046e3dd1"), looks := true }, kinds := [], alts := [], laidByText := true, laidKinds := [.data, .data, .data, .data, .sentinel, .sentinel, .pinned], laidTests := true, laidLooks := .later }
def FnExactSessionCardSaid : Prop := Claim7.holds Tryz.pinned (.plain (OpenSpec.ofChange fnExactSessionSpec)) fnExactSessionCard

/-- THE TIED CARD OF 'laws.FnExactCacheDo'. -/
def fnExactCacheDoCard : Claim7 := { stood := { row := fnExactCacheDoRow, standIns := [], harness := (true, "03c353e79602dd77614ffa24a260a12627f067e2c3dba3848aea5a06046e3dd1"), looks := true }, kinds := [], alts := [], laidByText := true, laidKinds := [.data, .data, .data, .data, .sentinel, .sentinel, .pinned], laidTests := true, laidLooks := .later }
def FnExactCacheDoCardSaid : Prop := Claim7.holds Tryz.pinned (.plain (OpenSpec.ofChange fnExactCacheDoSpec)) fnExactCacheDoCard

/-- THE TIED CARD OF 'laws.FnExactCacheRun'. -/
def fnExactCacheRunCard : Claim7 := { stood := { row := fnExactCacheRunRow, standIns := [], harness := (true, "03c353e79602dd77614ffa24a260a12627f067e2c3dba3848aea5a06046e3dd1"), looks := true }, kinds := [], alts := [], laidByText := true, laidKinds := [.data, .data, .data, .data, .sentinel, .sentinel, .pinned], laidTests := true, laidLooks := .later }
def FnExactCacheRunCardSaid : Prop := Claim7.holds Tryz.pinned (.plain (OpenSpec.ofChange fnExactCacheRunSpec)) fnExactCacheRunCard

/-- THE TIED CARD OF 'laws.FnExactCacheLine'. -/
def fnExactCacheLineCard : Claim7 := { stood := { row := fnExactCacheLineRow, standIns := [], harness := (true, "03c353e79602dd77614ffa24a260a12627f067e2c3dba3848aea5a06046e3dd1"), looks := true }, kinds := [], alts := [], laidByText := true, laidKinds := [.data, .data, .data, .data, .sentinel, .sentinel, .pinned], laidTests := true, laidLooks := .later }
def FnExactCacheLineCardSaid : Prop := Claim7.holds Tryz.pinned (.plain (OpenSpec.ofChange fnExactCacheLineSpec)) fnExactCacheLineCard

/-- THE SECOND FORM's CARD OF 'laws.FnExactDrain'. -/
def fnExactDrainUptoCard : Claim7 := { stood := { row := fnExactDrainUptoRow, standIns := [], harness := (true, "03c353e79602dd77614ffa24a260a12627f067e2c3dba3848aea5a06046e3dd1"), looks := true }, kinds := [], alts := [], laidByText := true, laidKinds := [.data, .data, .data, .data, .sentinel, .sentinel, .pinned], laidTests := true, laidLooks := .later }
def FnExactDrainUptoCardSaid : Prop := Claim7.holds Tryz.pinned (.plain (OpenSpec.upto fnExactDrainSpec)) fnExactDrainUptoCard

/-- THE SECOND FORM's CARD OF 'laws.FnExactJudgeOnce'. -/
def fnExactJudgeOnceUptoCard : Claim7 := { stood := { row := fnExactJudgeOnceUptoRow, standIns := [], harness := (true, "03c353e79602dd77614ffa24a260a12627f067e2c3dba3848aea5a06046e3dd1"), looks := true }, kinds := [], alts := [], laidByText := true, laidKinds := [.data, .data, .data, .data, .sentinel, .sentinel, .pinned], laidTests := true, laidLooks := .later }
def FnExactJudgeOnceUptoCardSaid : Prop := Claim7.holds Tryz.pinned (.plain (OpenSpec.upto fnExactJudgeOnceSpec)) fnExactJudgeOnceUptoCard

/-- THE SECOND FORM's CARD OF 'laws.FnExactJudgeDisk'. -/
def fnExactJudgeDiskUptoCard : Claim7 := { stood := { row := fnExactJudgeDiskUptoRow, standIns := [], harness := (true, "03c353e79602dd77614ffa24a260a12627f067e2c3dba3848aea5a06046e3dd1"), looks := true }, kinds := [], alts := [], laidByText := true, laidKinds := [.data, .data, .data, .data, .sentinel, .sentinel, .pinned], laidTests := true, laidLooks := .later }
def FnExactJudgeDiskUptoCardSaid : Prop := Claim7.holds Tryz.pinned (.plain (OpenSpec.upto fnExactJudgeDiskSpec)) fnExactJudgeDiskUptoCard

/-- THE SECOND FORM's CARD OF 'laws.FnExactJudgeAll'. -/
def fnExactJudgeAllUptoCard : Claim7 := { stood := { row := fnExactJudgeAllUptoRow, standIns := [], harness := (true, "03c353e79602dd77614ffa24a260a12627f067e2c3dba3848aea5a06046e3dd1"), looks := true }, kinds := [], alts := [], laidByText := true, laidKinds := [.data, .data, .data, .data, .sentinel, .sentinel, .pinned], laidTests := true, laidLooks := .later }
def FnExactJudgeAllUptoCardSaid : Prop := Claim7.holds Tryz.pinned (.plain (OpenSpec.upto fnExactJudgeAllSpec)) fnExactJudgeAllUptoCard

/-- THE SECOND FORM's CARD OF 'laws.FnExactSession'. -/
def fnExactSessionUptoCard : Claim7 := { stood := { row := fnExactSessionUptoRow, standIns := [], harness := (true, "03c353e79602dd77614ffa24a260a12627f067e2c3dba3848aea5a06046e3dd1"), looks := true }, kinds := [], alts := [], laidByText := true, laidKinds := [.data, .data, .data, .data, .sentinel, .sentinel, .pinned], laidTests := true, laidLooks := .later }
def FnExactSessionUptoCardSaid : Prop := Claim7.holds Tryz.pinned (.plain (OpenSpec.upto fnExactSessionSpec)) fnExactSessionUptoCard

/-- THE SECOND FORM's CARD OF 'laws.FnExactCacheDo'. -/
def fnExactCacheDoUptoCard : Claim7 := { stood := { row := fnExactCacheDoUptoRow, standIns := [], harness := (true, "03c353e79602dd77614ffa24a260a12627f067e2c3dba3848aea5a06046e3dd1"), looks := true }, kinds := [], alts := [], laidByText := true, laidKinds := [.data, .data, .data, .data, .sentinel, .sentinel, .pinned], laidTests := true, laidLooks := .later }
def FnExactCacheDoUptoCardSaid : Prop := Claim7.holds Tryz.pinned (.plain (OpenSpec.upto fnExactCacheDoSpec)) fnExactCacheDoUptoCard

/-- THE SECOND FORM's CARD OF 'laws.FnExactCacheRun'. -/
def fnExactCacheRunUptoCard : Claim7 := { stood := { row := fnExactCacheRunUptoRow, standIns := [], harness := (true, "03c353e79602dd77614ffa24a260a12627f067e2c3dba3848aea5a06046e3dd1"), looks := true }, kinds := [], alts := [], laidByText := true, laidKinds := [.data, .data, .data, .data, .sentinel, .sentinel, .pinned], laidTests := true, laidLooks := .later }
def FnExactCacheRunUptoCardSaid : Prop := Claim7.holds Tryz.pinned (.plain (OpenSpec.upto fnExactCacheRunSpec)) fnExactCacheRunUptoCard

/-- THE SECOND FORM's CARD OF 'laws.FnExactCacheLine'. -/
def fnExactCacheLineUptoCard : Claim7 := { stood := { row := fnExactCacheLineUptoRow, standIns := [], harness := (true, "03c353e79602dd77614ffa24a260a12627f067e2c3dba3848aea5a06046e3dd1"), looks := true }, kinds := [], alts := [], laidByText := true, laidKinds := [.data, .data, .data, .data, .sentinel, .sentinel, .pinned], laidTests := true, laidLooks := .later }
def FnExactCacheLineUptoCardSaid : Prop := Claim7.holds Tryz.pinned (.plain (OpenSpec.upto fnExactCacheLineSpec)) fnExactCacheLineUptoCard
end Rows
end Go.Proofs.YtacflkabkpeinaaGreatDoor
