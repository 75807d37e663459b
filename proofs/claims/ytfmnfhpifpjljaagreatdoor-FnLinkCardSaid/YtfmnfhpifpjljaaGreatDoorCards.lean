/-
  DERIVED. GIVEN WITH THE SEED: THE CARDS: each row of YtfmnfhpifpjljaaGreatDoorRows.lean that lists a variable, with what it lists TIED to the program's text (the seventh form; the later family's looks); each row that meets fmt, with fmt's text TOLD by the authors' own Lean function (tested against real Go, not proved from fmt's source: count such statements apart). THE CARD IS WHAT COUNTS. Prove the row's statement (the work); the ties are given (YtfmnfhpifpjljaaGreatDoorTie.lean); close each card by the builder's one call (the guide's Derived/Test/ToyasCard.lean, 'card_holds'). Laid BY PROGRAM, IN A SANDBOX (cutbox-door.mjs). By AI agents, Wed Nov 11 2026. No macro, syntax, notation, axiom, sorry.
-/
import Derived.Test.YtfmnfhpifpjljaaGreatDoorRows
import GoSem.ClaimSeven
namespace Go.Proofs.YtfmnfhpifpjljaaGreatDoor
namespace Rows

/-- THE TIED CARD OF 'laws.FnMeanFuel'. -/
def fnMeanFuelCard : Claim7 := { stood := { row := fnMeanFuelRow, standIns := [], harness := (true, "5acd07b0531e7884af0bb643dcfdf8e93e8343f89d624a1a92d9cb8467d82d8f"), looks := false }, kinds := [], alts := [], laidByText := true, laidKinds := [.data, .data, .data, .listed, .data], laidTests := true, laidLooks := .later }
def FnMeanFuelCardSaid : Prop := Claim7.holds Tryz.pinned (.plain (OpenSpec.ofChange fnMeanFuelSpec)) fnMeanFuelCard

/-- THE TIED CARD OF 'laws.FnRename'. -/
def fnRenameCard : Claim7 := { stood := { row := fnRenameRow, standIns := [], harness := (true, "5acd07b0531e7884af0bb643dcfdf8e93e8343f89d624a1a92d9cb8467d82d8f"), looks := false }, kinds := [], alts := [], laidByText := true, laidKinds := [.data, .data, .data, .listed, .data], laidTests := true, laidLooks := .later }
def FnRenameCardSaid : Prop := Claim7.holds Tryz.pinned (.plain (OpenSpec.ofChange fnRenameSpec)) fnRenameCard

/-- THE TIED CARD OF 'laws.FnLink'. -/
def fnLinkCard : Claim7 := { stood := { row := fnLinkRow, standIns := [], harness := (true, "5acd07b0531e7884af0bb643dcfdf8e93e8343f89d624a1a92d9cb8467d82d8f"), looks := false }, kinds := [], alts := [], laidByText := true, laidKinds := [.data, .data, .data, .listed, .data], laidTests := true, laidLooks := .later }
def FnLinkCardSaid : Prop := Claim7.holds Tryz.pinned (.plain (OpenSpec.ofChange fnLinkSpec)) fnLinkCard

/-- THE TIED CARD OF 'laws.FnExtract'. -/
def fnExtractCard : Claim7 := { stood := { row := fnExtractRow, standIns := [], harness := (true, "5acd07b0531e7884af0bb643dcfdf8e93e8343f89d624a1a92d9cb8467d82d8f"), looks := false }, kinds := [], alts := [], laidByText := true, laidKinds := [.data, .data, .data, .listed, .data], laidTests := true, laidLooks := .later }
def FnExtractCardSaid : Prop := Claim7.holds Tryz.pinned (.plain (OpenSpec.ofChange fnExtractSpec)) fnExtractCard

/-- THE TIED CARD OF 'laws.FnBound'. -/
def fnBoundCard : Claim7 := { stood := { row := fnBoundRow, standIns := [], harness := (true, "5acd07b0531e7884af0bb643dcfdf8e93e8343f89d624a1a92d9cb8467d82d8f"), looks := false }, kinds := [], alts := [], laidByText := true, laidKinds := [.data, .data, .data, .listed, .data], laidTests := true, laidLooks := .later }
def FnBoundCardSaid : Prop := Claim7.holds Tryz.pinned (.plain (OpenSpec.ofChange fnBoundSpec)) fnBoundCard

/-- THE SECOND FORM's CARD OF 'laws.FnMeanFuel'. -/
def fnMeanFuelUptoCard : Claim7 := { stood := { row := fnMeanFuelUptoRow, standIns := [], harness := (true, "5acd07b0531e7884af0bb643dcfdf8e93e8343f89d624a1a92d9cb8467d82d8f"), looks := false }, kinds := [], alts := [], laidByText := true, laidKinds := [.data, .data, .data, .listed, .data], laidTests := true, laidLooks := .later }
def FnMeanFuelUptoCardSaid : Prop := Claim7.holds Tryz.pinned (.plain (OpenSpec.upto fnMeanFuelSpec)) fnMeanFuelUptoCard

/-- THE SECOND FORM's CARD OF 'laws.FnRename'. -/
def fnRenameUptoCard : Claim7 := { stood := { row := fnRenameUptoRow, standIns := [], harness := (true, "5acd07b0531e7884af0bb643dcfdf8e93e8343f89d624a1a92d9cb8467d82d8f"), looks := false }, kinds := [], alts := [], laidByText := true, laidKinds := [.data, .data, .data, .listed, .data], laidTests := true, laidLooks := .later }
def FnRenameUptoCardSaid : Prop := Claim7.holds Tryz.pinned (.plain (OpenSpec.upto fnRenameSpec)) fnRenameUptoCard

/-- THE SECOND FORM's CARD OF 'laws.FnLink'. -/
def fnLinkUptoCard : Claim7 := { stood := { row := fnLinkUptoRow, standIns := [], harness := (true, "5acd07b0531e7884af0bb643dcfdf8e93e8343f89d624a1a92d9cb8467d82d8f"), looks := false }, kinds := [], alts := [], laidByText := true, laidKinds := [.data, .data, .data, .listed, .data], laidTests := true, laidLooks := .later }
def FnLinkUptoCardSaid : Prop := Claim7.holds Tryz.pinned (.plain (OpenSpec.upto fnLinkSpec)) fnLinkUptoCard

/-- THE SECOND FORM's CARD OF 'laws.FnExtract'. -/
def fnExtractUptoCard : Claim7 := { stood := { row := fnExtractUptoRow, standIns := [], harness := (true, "5acd07b0531e7884af0bb643dcfdf8e93e8343f89d624a1a92d9cb8467d82d8f"), looks := false }, kinds := [], alts := [], laidByText := true, laidKinds := [.data, .data, .data, .listed, .data], laidTests := true, laidLooks := .later }
def FnExtractUptoCardSaid : Prop := Claim7.holds Tryz.pinned (.plain (OpenSpec.upto fnExtractSpec)) fnExtractUptoCard

/-- THE SECOND FORM's CARD OF 'laws.FnBound'. -/
def fnBoundUptoCard : Claim7 := { stood := { row := fnBoundUptoRow, standIns := [], harness := (true, "5acd07b0531e7884af0bb643dcfdf8e93e8343f89d624a1a92d9cb8467d82d8f"), looks := false }, kinds := [], alts := [], laidByText := true, laidKinds := [.data, .data, .data, .listed, .data], laidTests := true, laidLooks := .later }
def FnBoundUptoCardSaid : Prop := Claim7.holds Tryz.pinned (.plain (OpenSpec.upto fnBoundSpec)) fnBoundUptoCard
end Rows
end Go.Proofs.YtfmnfhpifpjljaaGreatDoor
