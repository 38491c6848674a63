/-
  DERIVED. GIVEN WITH THE SEED: THE CARDS: each row of YtcldaglhkhfhaaaDoorRows.lean that lists a variable, with what it lists TIED to the program's text (the seventh form; the later family's looks); each row that meets fmt, with fmt's text TOLD by the authors' own Lean function (tested against real Go, not proved from fmt's source: count such statements apart). THE CARD IS WHAT COUNTS. Prove the row's statement (the work); the ties are given (YtcldaglhkhfhaaaDoorTie.lean); close each card by the builder's one call (the guide's Derived/Test/ToyasCard.lean, 'card_holds'). Laid BY PROGRAM, IN A SANDBOX (cutbox-door.mjs). By AI agents, Wed Nov 11 2026. No macro, syntax, notation, axiom, sorry.
-/
import Derived.Test.YtcldaglhkhfhaaaDoorRows
import GoSem.ClaimSeven
namespace Go.Proofs.YtcldaglhkhfhaaaDoor
namespace Rows

/-- THE TIED CARD OF 'laws.FnChunks'. -/
def fnChunksCard : Claim7 := { stood := { row := fnChunksRow, standIns := [], harness := (true, "18078221071e102810635311980380e00da414f8cab881d8fbc3d5656a3db903"), looks := true }, kinds := [], alts := [], laidByText := true, laidKinds := [.data, .data, .data], laidTests := true, laidLooks := .later }
def FnChunksCardSaid : Prop := Claim7.holds Tryd.pinned (.plain (OpenSpec.ofChange fnChunksSpec)) fnChunksCard

/-- THE TIED CARD OF 'laws.FnChunkRead'. -/
def fnChunkReadCard : Claim7 := { stood := { row := fnChunkReadRow, standIns := [], harness := (true, "18078221071e102810635311980380e00da414f8cab881d8fbc3d5656a3db903"), looks := true }, kinds := [], alts := [], laidByText := true, laidKinds := [.data, .data, .data], laidTests := true, laidLooks := .later }
def FnChunkReadCardSaid : Prop := Claim7.holds Tryd.pinned (.plain (OpenSpec.ofChange fnChunkReadSpec)) fnChunkReadCard

/-- THE TIED CARD OF 'laws.FnExactReplyText'. -/
def fnExactReplyTextCard : Claim7 := { stood := { row := fnExactReplyTextRow, standIns := [], harness := (true, "18078221071e102810635311980380e00da414f8cab881d8fbc3d5656a3db903"), looks := true }, kinds := [], alts := [], laidByText := true, laidKinds := [.data, .data, .data], laidTests := true, laidLooks := .later }
def FnExactReplyTextCardSaid : Prop := Claim7.holds Tryd.pinned (.plain (OpenSpec.ofChange fnExactReplyTextSpec)) fnExactReplyTextCard

/-- THE TIED CARD OF 'laws.FnExactRecRead'. -/
def fnExactRecReadCard : Claim7 := { stood := { row := fnExactRecReadRow, standIns := [], harness := (true, "18078221071e102810635311980380e00da414f8cab881d8fbc3d5656a3db903"), looks := true }, kinds := [], alts := [], laidByText := true, laidKinds := [.data, .data, .data, .data, .sentinel, .sentinel, .pinned], laidTests := true, laidLooks := .later }
def FnExactRecReadCardSaid : Prop := Claim7.holds Tryd.pinned (.plain (OpenSpec.ofChange fnExactRecReadSpec)) fnExactRecReadCard

/-- THE TIED CARD OF 'laws.FnRecords'. -/
def fnRecordsCard : Claim7 := { stood := { row := fnRecordsRow, standIns := [], harness := (true, "18078221071e102810635311980380e00da414f8cab881d8fbc3d5656a3db903"), looks := true }, kinds := [], alts := [], laidByText := true, laidKinds := [.data, .data, .data, .data, .sentinel, .sentinel, .pinned], laidTests := true, laidLooks := .later }
def FnRecordsCardSaid : Prop := Claim7.holds Tryd.pinned (.plain (OpenSpec.ofChange fnRecordsSpec)) fnRecordsCard

/-- THE TIED CARD OF 'laws.FnExactBanRead'. -/
def fnExactBanReadCard : Claim7 := { stood := { row := fnExactBanReadRow, standIns := [], harness := (true, "18078221071e102810635311980380e00da414f8cab881d8fbc3d5656a3db903"), looks := true }, kinds := [], alts := [], laidByText := true, laidKinds := [.data, .data, .data, .data, .sentinel, .sentinel, .pinned], laidTests := true, laidLooks := .later }
def FnExactBanReadCardSaid : Prop := Claim7.holds Tryd.pinned (.plain (OpenSpec.ofChange fnExactBanReadSpec)) fnExactBanReadCard

/-- THE SECOND FORM's CARD OF 'laws.FnChunks'. -/
def fnChunksUptoCard : Claim7 := { stood := { row := fnChunksUptoRow, standIns := [], harness := (true, "18078221071e102810635311980380e00da414f8cab881d8fbc3d5656a3db903"), looks := true }, kinds := [], alts := [], laidByText := true, laidKinds := [.data, .data, .data], laidTests := true, laidLooks := .later }
def FnChunksUptoCardSaid : Prop := Claim7.holds Tryd.pinned (.plain (OpenSpec.upto fnChunksSpec)) fnChunksUptoCard

/-- THE SECOND FORM's CARD OF 'laws.FnChunkRead'. -/
def fnChunkReadUptoCard : Claim7 := { stood := { row := fnChunkReadUptoRow, standIns := [], harness := (true, "18078221071e102810635311980380e00da414f8cab881d8fbc3d5656a3db903"), looks := true }, kinds := [], alts := [], laidByText := true, laidKinds := [.data, .data, .data], laidTests := true, laidLooks := .later }
def FnChunkReadUptoCardSaid : Prop := Claim7.holds Tryd.pinned (.plain (OpenSpec.upto fnChunkReadSpec)) fnChunkReadUptoCard

/-- THE SECOND FORM's CARD OF 'laws.FnExactReplyText'. -/
def fnExactReplyTextUptoCard : Claim7 := { stood := { row := fnExactReplyTextUptoRow, standIns := [], harness := (true, "18078221071e102810635311980380e00da414f8cab881d8fbc3d5656a3db903"), looks := true }, kinds := [], alts := [], laidByText := true, laidKinds := [.data, .data, .data], laidTests := true, laidLooks := .later }
def FnExactReplyTextUptoCardSaid : Prop := Claim7.holds Tryd.pinned (.plain (OpenSpec.upto fnExactReplyTextSpec)) fnExactReplyTextUptoCard

/-- THE SECOND FORM's CARD OF 'laws.FnExactRecRead'. -/
def fnExactRecReadUptoCard : Claim7 := { stood := { row := fnExactRecReadUptoRow, standIns := [], harness := (true, "18078221071e102810635311980380e00da414f8cab881d8fbc3d5656a3db903"), looks := true }, kinds := [], alts := [], laidByText := true, laidKinds := [.data, .data, .data, .data, .sentinel, .sentinel, .pinned], laidTests := true, laidLooks := .later }
def FnExactRecReadUptoCardSaid : Prop := Claim7.holds Tryd.pinned (.plain (OpenSpec.upto fnExactRecReadSpec)) fnExactRecReadUptoCard

/-- THE SECOND FORM's CARD OF 'laws.FnRecords'. -/
def fnRecordsUptoCard : Claim7 := { stood := { row := fnRecordsUptoRow, standIns := [], harness := (true, "18078221071e102810635311980380e00da414f8cab881d8fbc3d5656a3db903"), looks := true }, kinds := [], alts := [], laidByText := true, laidKinds := [.data, .data, .data, .data, .sentinel, .sentinel, .pinned], laidTests := true, laidLooks := .later }
def FnRecordsUptoCardSaid : Prop := Claim7.holds Tryd.pinned (.plain (OpenSpec.upto fnRecordsSpec)) fnRecordsUptoCard

/-- THE SECOND FORM's CARD OF 'laws.FnExactBanRead'. -/
def fnExactBanReadUptoCard : Claim7 := { stood := { row := fnExactBanReadUptoRow, standIns := [], harness := (true, "18078221071e102810635311980380e00da414f8cab881d8fbc3d5656a3db903"), looks := true }, kinds := [], alts := [], laidByText := true, laidKinds := [.data, .data, .data, .data, .sentinel, .sentinel, .pinned], laidTests := true, laidLooks := .later }
def FnExactBanReadUptoCardSaid : Prop := Claim7.holds Tryd.pinned (.plain (OpenSpec.upto fnExactBanReadSpec)) fnExactBanReadUptoCard
end Rows
end Go.Proofs.YtcldaglhkhfhaaaDoor
