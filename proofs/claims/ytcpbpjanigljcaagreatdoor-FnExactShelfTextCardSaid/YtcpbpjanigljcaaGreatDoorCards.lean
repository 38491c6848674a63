/-
  DERIVED. GIVEN WITH THE SEED: THE CARDS: each row of YtcpbpjanigljcaaGreatDoorRows.lean that lists a variable, with what it lists TIED to the program's text (the seventh form; the later family's looks); each row that meets fmt, with fmt's text TOLD by the authors' own Lean function (tested against real Go, not proved from fmt's source: count such statements apart). THE CARD IS WHAT COUNTS. Prove the row's statement (the work); the ties are given (YtcpbpjanigljcaaGreatDoorTie.lean); close each card by the builder's one call (the guide's Derived/Test/ToyasCard.lean, 'card_holds'). Laid BY PROGRAM, IN A SANDBOX (cutbox-door.mjs). By AI agents, Wed Nov 11 2026. No macro, syntax, notation, axiom, sorry.
-/
import Derived.Test.YtcpbpjanigljcaaGreatDoorRows
import GoSem.ClaimSeven
namespace Go.Proofs.YtcpbpjanigljcaaGreatDoor
namespace Rows

/-- THE TIED CARD OF 'laws.FnExactAlike'. -/
def fnExactAlikeCard : Claim7 := { stood := { row := fnExactAlikeRow, standIns := [], harness := (true, "7275d7cbadffa7d90b2b4a4cd593bd03fd2a998c6f6ac2927852b176b31c51a6"), looks := true }, kinds := [], alts := [], laidByText := true, laidKinds := [.data, .data, .data, .data, .sentinel, .sentinel, .pinned], laidTests := true, laidLooks := .later }
def FnExactAlikeCardSaid : Prop := Claim7.holds Tryz.pinned (.plain (OpenSpec.ofChange fnExactAlikeSpec)) fnExactAlikeCard

/-- THE TIED CARD OF 'laws.FnExactShelfText'. -/
def fnExactShelfTextCard : Claim7 := { stood := { row := fnExactShelfTextRow, standIns := [], harness := (true, "7275d7cbadffa7d90b2b4a4cd593bd03fd2a998c6f6ac2927852b176b31c51a6"), looks := true }, kinds := [], alts := [], laidByText := true, laidKinds := [.data, .data, .data, .data, .pinned], laidTests := true, laidLooks := .later }
def FnExactShelfTextCardSaid : Prop := Claim7.holds Tryz.pinned (.plain (OpenSpec.ofChange fnExactShelfTextSpec)) fnExactShelfTextCard

/-- THE TIED CARD OF 'laws.FnExactCacheOk'. -/
def fnExactCacheOkCard : Claim7 := { stood := { row := fnExactCacheOkRow, standIns := [], harness := (true, "7275d7cbadffa7d90b2b4a4cd593bd03fd2a998c6f6ac2927852b176b31c51a6"), looks := true }, kinds := [], alts := [], laidByText := true, laidKinds := [.data, .data, .data, .data, .sentinel, .sentinel, .pinned], laidTests := true, laidLooks := .later }
def FnExactCacheOkCardSaid : Prop := Claim7.holds Tryz.pinned (.plain (OpenSpec.ofChange fnExactCacheOkSpec)) fnExactCacheOkCard

/-- THE SECOND FORM's CARD OF 'laws.FnExactAlike'. -/
def fnExactAlikeUptoCard : Claim7 := { stood := { row := fnExactAlikeUptoRow, standIns := [], harness := (true, "7275d7cbadffa7d90b2b4a4cd593bd03fd2a998c6f6ac2927852b176b31c51a6"), looks := true }, kinds := [], alts := [], laidByText := true, laidKinds := [.data, .data, .data, .data, .sentinel, .sentinel, .pinned], laidTests := true, laidLooks := .later }
def FnExactAlikeUptoCardSaid : Prop := Claim7.holds Tryz.pinned (.plain (OpenSpec.upto fnExactAlikeSpec)) fnExactAlikeUptoCard

/-- THE SECOND FORM's CARD OF 'laws.FnExactShelfText'. -/
def fnExactShelfTextUptoCard : Claim7 := { stood := { row := fnExactShelfTextUptoRow, standIns := [], harness := (true, "7275d7cbadffa7d90b2b4a4cd593bd03fd2a998c6f6ac2927852b176b31c51a6"), looks := true }, kinds := [], alts := [], laidByText := true, laidKinds := [.data, .data, .data, .data, .pinned], laidTests := true, laidLooks := .later }
def FnExactShelfTextUptoCardSaid : Prop := Claim7.holds Tryz.pinned (.plain (OpenSpec.upto fnExactShelfTextSpec)) fnExactShelfTextUptoCard

/-- THE SECOND FORM's CARD OF 'laws.FnExactCacheOk'. -/
def fnExactCacheOkUptoCard : Claim7 := { stood := { row := fnExactCacheOkUptoRow, standIns := [], harness := (true, "7275d7cbadffa7d90b2b4a4cd593bd03fd2a998c6f6ac2927852b176b31c51a6"), looks := true }, kinds := [], alts := [], laidByText := true, laidKinds := [.data, .data, .data, .data, .sentinel, .sentinel, .pinned], laidTests := true, laidLooks := .later }
def FnExactCacheOkUptoCardSaid : Prop := Claim7.holds Tryz.pinned (.plain (OpenSpec.upto fnExactCacheOkSpec)) fnExactCacheOkUptoCard
end Rows
end Go.Proofs.YtcpbpjanigljcaaGreatDoor
