/-
  DERIVED. GIVEN WITH THE SEED: THE CARDS: each row of YtcoplmnahnipiaaGreatDoorRows.lean that lists a variable, with what it lists TIED to the program's text (the seventh form; the later family's looks); each row that meets fmt, with fmt's text TOLD by the authors' own Lean function (tested against real Go, not proved from fmt's source: count such statements apart). THE CARD IS WHAT COUNTS. Prove the row's statement (the work); the ties are given (YtcoplmnahnipiaaGreatDoorTie.lean); close each card by the builder's one call (the guide's Derived/Test/ToyasCard.lean, 'card_holds'). Laid BY PROGRAM, IN A SANDBOX (cutbox-door.mjs). By AI agents, Wed Nov 11 2026. No macro, syntax, notation, axiom, sorry.
-/
import Derived.Test.YtcoplmnahnipiaaGreatDoorRows
import GoSem.ClaimSeven
namespace Go.Proofs.YtcoplmnahnipiaaGreatDoor
namespace Rows

/-- THE TIED CARD OF 'laws.FnExactGraphText'. -/
def fnExactGraphTextCard : Claim7 := { stood := { row := fnExactGraphTextRow, standIns := [], harness := (true, "c5093a66e4169a580a8a9e1cfd4a2ab50511ac25f60b2505a653f0a8bed9c86b"), looks := false }, kinds := [], alts := [], laidByText := true, laidKinds := [.data, .data, .data, .listed, .data], laidTests := true, laidLooks := .later }
def FnExactGraphTextCardSaid : Prop := Claim7.holds Tryz.pinned (.plain (OpenSpec.ofChange fnExactGraphTextSpec)) fnExactGraphTextCard

/-- THE TIED CARD OF 'laws.FnExactComes'. -/
def fnExactComesCard : Claim7 := { stood := { row := fnExactComesRow, standIns := [], harness := (true, "c5093a66e4169a580a8a9e1cfd4a2ab50511ac25f60b2505a653f0a8bed9c86b"), looks := false }, kinds := [], alts := [], laidByText := true, laidKinds := [.data, .data, .data, .listed, .data], laidTests := true, laidLooks := .later }
def FnExactComesCardSaid : Prop := Claim7.holds Tryz.pinned (.plain (OpenSpec.ofChange fnExactComesSpec)) fnExactComesCard

/-- THE TIED CARD OF 'laws.FnExactCallers'. -/
def fnExactCallersCard : Claim7 := { stood := { row := fnExactCallersRow, standIns := [], harness := (true, "c5093a66e4169a580a8a9e1cfd4a2ab50511ac25f60b2505a653f0a8bed9c86b"), looks := false }, kinds := [], alts := [], laidByText := true, laidKinds := [.data, .data, .data, .listed, .data], laidTests := true, laidLooks := .later }
def FnExactCallersCardSaid : Prop := Claim7.holds Tryz.pinned (.plain (OpenSpec.ofChange fnExactCallersSpec)) fnExactCallersCard

/-- THE TIED CARD OF 'laws.FnExactGroups'. -/
def fnExactGroupsCard : Claim7 := { stood := { row := fnExactGroupsRow, standIns := [], harness := (true, "c5093a66e4169a580a8a9e1cfd4a2ab50511ac25f60b2505a653f0a8bed9c86b"), looks := false }, kinds := [], alts := [], laidByText := true, laidKinds := [.data, .data, .data, .listed, .data], laidTests := true, laidLooks := .later }
def FnExactGroupsCardSaid : Prop := Claim7.holds Tryz.pinned (.plain (OpenSpec.ofChange fnExactGroupsSpec)) fnExactGroupsCard

/-- THE TIED CARD OF 'laws.FnExactRounds'. -/
def fnExactRoundsCard : Claim7 := { stood := { row := fnExactRoundsRow, standIns := [], harness := (true, "c5093a66e4169a580a8a9e1cfd4a2ab50511ac25f60b2505a653f0a8bed9c86b"), looks := false }, kinds := [], alts := [], laidByText := true, laidKinds := [.data, .data, .data, .listed, .data], laidTests := true, laidLooks := .later }
def FnExactRoundsCardSaid : Prop := Claim7.holds Tryz.pinned (.plain (OpenSpec.ofChange fnExactRoundsSpec)) fnExactRoundsCard

/-- THE TIED CARD OF 'laws.FnExactLeafFirst'. -/
def fnExactLeafFirstCard : Claim7 := { stood := { row := fnExactLeafFirstRow, standIns := [], harness := (true, "c5093a66e4169a580a8a9e1cfd4a2ab50511ac25f60b2505a653f0a8bed9c86b"), looks := false }, kinds := [], alts := [], laidByText := true, laidKinds := [.data, .data, .data, .listed, .data], laidTests := true, laidLooks := .later }
def FnExactLeafFirstCardSaid : Prop := Claim7.holds Tryz.pinned (.plain (OpenSpec.ofChange fnExactLeafFirstSpec)) fnExactLeafFirstCard

/-- THE TIED CARD OF 'laws.FnExactRename'. -/
def fnExactRenameCard : Claim7 := { stood := { row := fnExactRenameRow, standIns := [], harness := (true, "c5093a66e4169a580a8a9e1cfd4a2ab50511ac25f60b2505a653f0a8bed9c86b"), looks := false }, kinds := [], alts := [], laidByText := true, laidKinds := [.data, .data, .data, .listed, .data], laidTests := true, laidLooks := .later }
def FnExactRenameCardSaid : Prop := Claim7.holds Tryz.pinned (.plain (OpenSpec.ofChange fnExactRenameSpec)) fnExactRenameCard

/-- THE SECOND FORM's CARD OF 'laws.FnExactGraphText'. -/
def fnExactGraphTextUptoCard : Claim7 := { stood := { row := fnExactGraphTextUptoRow, standIns := [], harness := (true, "c5093a66e4169a580a8a9e1cfd4a2ab50511ac25f60b2505a653f0a8bed9c86b"), looks := false }, kinds := [], alts := [], laidByText := true, laidKinds := [.data, .data, .data, .listed, .data], laidTests := true, laidLooks := .later }
def FnExactGraphTextUptoCardSaid : Prop := Claim7.holds Tryz.pinned (.plain (OpenSpec.upto fnExactGraphTextSpec)) fnExactGraphTextUptoCard

/-- THE SECOND FORM's CARD OF 'laws.FnExactComes'. -/
def fnExactComesUptoCard : Claim7 := { stood := { row := fnExactComesUptoRow, standIns := [], harness := (true, "c5093a66e4169a580a8a9e1cfd4a2ab50511ac25f60b2505a653f0a8bed9c86b"), looks := false }, kinds := [], alts := [], laidByText := true, laidKinds := [.data, .data, .data, .listed, .data], laidTests := true, laidLooks := .later }
def FnExactComesUptoCardSaid : Prop := Claim7.holds Tryz.pinned (.plain (OpenSpec.upto fnExactComesSpec)) fnExactComesUptoCard

/-- THE SECOND FORM's CARD OF 'laws.FnExactCallers'. -/
def fnExactCallersUptoCard : Claim7 := { stood := { row := fnExactCallersUptoRow, standIns := [], harness := (true, "c5093a66e4169a580a8a9e1cfd4a2ab50511ac25f60b2505a653f0a8bed9c86b"), looks := false }, kinds := [], alts := [], laidByText := true, laidKinds := [.data, .data, .data, .listed, .data], laidTests := true, laidLooks := .later }
def FnExactCallersUptoCardSaid : Prop := Claim7.holds Tryz.pinned (.plain (OpenSpec.upto fnExactCallersSpec)) fnExactCallersUptoCard

/-- THE SECOND FORM's CARD OF 'laws.FnExactGroups'. -/
def fnExactGroupsUptoCard : Claim7 := { stood := { row := fnExactGroupsUptoRow, standIns := [], harness := (true, "c5093a66e4169a580a8a9e1cfd4a2ab50511ac25f60b2505a653f0a8bed9c86b"), looks := false }, kinds := [], alts := [], laidByText := true, laidKinds := [.data, .data, .data, .listed, .data], laidTests := true, laidLooks := .later }
def FnExactGroupsUptoCardSaid : Prop := Claim7.holds Tryz.pinned (.plain (OpenSpec.upto fnExactGroupsSpec)) fnExactGroupsUptoCard

/-- THE SECOND FORM's CARD OF 'laws.FnExactRounds'. -/
def fnExactRoundsUptoCard : Claim7 := { stood := { row := fnExactRoundsUptoRow, standIns := [], harness := (true, "c5093a66e4169a580a8a9e1cfd4a2ab50511ac25f60b2505a653f0a8bed9c86b"), looks := false }, kinds := [], alts := [], laidByText := true, laidKinds := [.data, .data, .data, .listed, .data], laidTests := true, laidLooks := .later }
def FnExactRoundsUptoCardSaid : Prop := Claim7.holds Tryz.pinned (.plain (OpenSpec.upto fnExactRoundsSpec)) fnExactRoundsUptoCard

/-- THE SECOND FORM's CARD OF 'laws.FnExactLeafFirst'. -/
def fnExactLeafFirstUptoCard : Claim7 := { stood := { row := fnExactLeafFirstUptoRow, standIns := [], harness := (true, "c5093a66e4169a580a8a9e1cfd4a2ab50511ac25f60b2505a653f0a8bed9c86b"), looks := false }, kinds := [], alts := [], laidByText := true, laidKinds := [.data, .data, .data, .listed, .data], laidTests := true, laidLooks := .later }
def FnExactLeafFirstUptoCardSaid : Prop := Claim7.holds Tryz.pinned (.plain (OpenSpec.upto fnExactLeafFirstSpec)) fnExactLeafFirstUptoCard

/-- THE SECOND FORM's CARD OF 'laws.FnExactRename'. -/
def fnExactRenameUptoCard : Claim7 := { stood := { row := fnExactRenameUptoRow, standIns := [], harness := (true, "c5093a66e4169a580a8a9e1cfd4a2ab50511ac25f60b2505a653f0a8bed9c86b"), looks := false }, kinds := [], alts := [], laidByText := true, laidKinds := [.data, .data, .data, .listed, .data], laidTests := true, laidLooks := .later }
def FnExactRenameUptoCardSaid : Prop := Claim7.holds Tryz.pinned (.plain (OpenSpec.upto fnExactRenameSpec)) fnExactRenameUptoCard
end Rows
end Go.Proofs.YtcoplmnahnipiaaGreatDoor
