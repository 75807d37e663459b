/-
  DERIVED. GIVEN WITH THE SEED: THE CARDS: each row of YtbfmholmeiegoaaGreatDoorRows.lean that lists a variable, with what it lists TIED to the program's text (the seventh form; the later family's looks); each row that meets fmt, with fmt's text TOLD by the authors' own Lean function (tested against real Go, not proved from fmt's source: count such statements apart). THE CARD IS WHAT COUNTS. Prove the row's statement (the work); the ties are given (YtbfmholmeiegoaaGreatDoorTie.lean); close each card by the builder's one call (the guide's Derived/Test/ToyasCard.lean, 'card_holds'). Laid BY PROGRAM, IN A SANDBOX (cutbox-door.mjs). By AI agents, Wed Nov 11 2026. No macro, syntax, notation, axiom, sorry.
-/
import Derived.Test.YtbfmholmeiegoaaGreatDoorRows
import GoSem.ClaimSeven
namespace Go.Proofs.YtbfmholmeiegoaaGreatDoor
namespace Rows

/-- THE TIED CARD OF 'laws.FnExactRename'. -/
def fnExactRenameCard : Claim7 := { stood := { row := fnExactRenameRow, standIns := [], harness := (true, "df96a0184c922ea5bcdddc7d66a3b5b81ed94dfdf03cadbb7d7152d92c36f952"), looks := false }, kinds := [], alts := [], laidByText := true, laidKinds := [.data, .data, .data, .listed, .data], laidTests := true, laidLooks := .later }
def FnExactRenameCardSaid : Prop := Claim7.holds Tryz.pinned (.plain (OpenSpec.ofChange fnExactRenameSpec)) fnExactRenameCard

/-- THE TIED CARD OF 'laws.FnExactLink'. -/
def fnExactLinkCard : Claim7 := { stood := { row := fnExactLinkRow, standIns := [], harness := (true, "df96a0184c922ea5bcdddc7d66a3b5b81ed94dfdf03cadbb7d7152d92c36f952"), looks := false }, kinds := [], alts := [], laidByText := true, laidKinds := [.data, .data, .data, .listed, .data], laidTests := true, laidLooks := .later }
def FnExactLinkCardSaid : Prop := Claim7.holds Tryz.pinned (.plain (OpenSpec.ofChange fnExactLinkSpec)) fnExactLinkCard

/-- THE TIED CARD OF 'laws.FnExactExtract'. -/
def fnExactExtractCard : Claim7 := { stood := { row := fnExactExtractRow, standIns := [], harness := (true, "df96a0184c922ea5bcdddc7d66a3b5b81ed94dfdf03cadbb7d7152d92c36f952"), looks := false }, kinds := [], alts := [], laidByText := true, laidKinds := [.data, .data, .data, .listed, .data], laidTests := true, laidLooks := .later }
def FnExactExtractCardSaid : Prop := Claim7.holds Tryz.pinned (.plain (OpenSpec.ofChange fnExactExtractSpec)) fnExactExtractCard

/-- THE SECOND FORM's CARD OF 'laws.FnExactRename'. -/
def fnExactRenameUptoCard : Claim7 := { stood := { row := fnExactRenameUptoRow, standIns := [], harness := (true, "df96a0184c922ea5bcdddc7d66a3b5b81ed94dfdf03cadbb7d7152d92c36f952"), looks := false }, kinds := [], alts := [], laidByText := true, laidKinds := [.data, .data, .data, .listed, .data], laidTests := true, laidLooks := .later }
def FnExactRenameUptoCardSaid : Prop := Claim7.holds Tryz.pinned (.plain (OpenSpec.upto fnExactRenameSpec)) fnExactRenameUptoCard

/-- THE SECOND FORM's CARD OF 'laws.FnExactLink'. -/
def fnExactLinkUptoCard : Claim7 := { stood := { row := fnExactLinkUptoRow, standIns := [], harness := (true, "df96a0184c922ea5bcdddc7d66a3b5b81ed94dfdf03cadbb7d7152d92c36f952"), looks := false }, kinds := [], alts := [], laidByText := true, laidKinds := [.data, .data, .data, .listed, .data], laidTests := true, laidLooks := .later }
def FnExactLinkUptoCardSaid : Prop := Claim7.holds Tryz.pinned (.plain (OpenSpec.upto fnExactLinkSpec)) fnExactLinkUptoCard

/-- THE SECOND FORM's CARD OF 'laws.FnExactExtract'. -/
def fnExactExtractUptoCard : Claim7 := { stood := { row := fnExactExtractUptoRow, standIns := [], harness := (true, "df96a0184c922ea5bcdddc7d66a3b5b81ed94dfdf03cadbb7d7152d92c36f952"), looks := false }, kinds := [], alts := [], laidByText := true, laidKinds := [.data, .data, .data, .listed, .data], laidTests := true, laidLooks := .later }
def FnExactExtractUptoCardSaid : Prop := Claim7.holds Tryz.pinned (.plain (OpenSpec.upto fnExactExtractSpec)) fnExactExtractUptoCard
end Rows
end Go.Proofs.YtbfmholmeiegoaaGreatDoor
