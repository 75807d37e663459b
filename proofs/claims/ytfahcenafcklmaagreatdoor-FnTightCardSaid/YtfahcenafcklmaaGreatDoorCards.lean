/-
  DERIVED. GIVEN WITH THE SEED: THE CARDS: each row of YtfahcenafcklmaaGreatDoorRows.lean that lists a variable, with what it lists TIED to the program's text (the seventh form; the later family's looks); each row that meets fmt, with fmt's text TOLD by the authors' own Lean function (tested against real Go, not proved from fmt's source: count such statements apart). THE CARD IS WHAT COUNTS. Prove the row's statement (the work); the ties are given (YtfahcenafcklmaaGreatDoorTie.lean); close each card by the builder's one call (the guide's Derived/Test/ToyasCard.lean, 'card_holds'). Laid BY PROGRAM, IN A SANDBOX (cutbox-door.mjs). By AI agents, Wed Nov 11 2026. No macro, syntax, notation, axiom, sorry.
-/
import Derived.Test.YtfahcenafcklmaaGreatDoorRows
import GoSem.ClaimSeven
namespace Go.Proofs.YtfahcenafcklmaaGreatDoor
namespace Rows

/-- THE TIED CARD OF 'laws.FnUses'. -/
def fnUsesCard : Claim7 := { stood := { row := fnUsesRow, standIns := [], harness := (true, "8f8519cb28cf697889b986e07bb3239d2db0b5f0dd4e6e01f05782a6a529c901"), looks := false }, kinds := [], alts := [], laidByText := true, laidKinds := [.data, .data, .data, .listed, .data], laidTests := true, laidLooks := .later }
def FnUsesCardSaid : Prop := Claim7.holds Tryz.pinned (.plain (OpenSpec.ofChange fnUsesSpec)) fnUsesCard

/-- THE TIED CARD OF 'laws.FnCallers'. -/
def fnCallersCard : Claim7 := { stood := { row := fnCallersRow, standIns := [], harness := (true, "8f8519cb28cf697889b986e07bb3239d2db0b5f0dd4e6e01f05782a6a529c901"), looks := false }, kinds := [], alts := [], laidByText := true, laidKinds := [.data, .data, .data, .listed, .data], laidTests := true, laidLooks := .later }
def FnCallersCardSaid : Prop := Claim7.holds Tryz.pinned (.plain (OpenSpec.ofChange fnCallersSpec)) fnCallersCard

/-- THE TIED CARD OF 'laws.FnGroups'. -/
def fnGroupsCard : Claim7 := { stood := { row := fnGroupsRow, standIns := [], harness := (true, "8f8519cb28cf697889b986e07bb3239d2db0b5f0dd4e6e01f05782a6a529c901"), looks := false }, kinds := [], alts := [], laidByText := true, laidKinds := [.data, .data, .data, .listed, .data], laidTests := true, laidLooks := .later }
def FnGroupsCardSaid : Prop := Claim7.holds Tryz.pinned (.plain (OpenSpec.ofChange fnGroupsSpec)) fnGroupsCard

/-- THE TIED CARD OF 'laws.FnLeafFirst'. -/
def fnLeafFirstCard : Claim7 := { stood := { row := fnLeafFirstRow, standIns := [], harness := (true, "8f8519cb28cf697889b986e07bb3239d2db0b5f0dd4e6e01f05782a6a529c901"), looks := false }, kinds := [], alts := [], laidByText := true, laidKinds := [.data, .data, .data, .listed, .data], laidTests := true, laidLooks := .later }
def FnLeafFirstCardSaid : Prop := Claim7.holds Tryz.pinned (.plain (OpenSpec.ofChange fnLeafFirstSpec)) fnLeafFirstCard

/-- THE TIED CARD OF 'laws.FnTight'. -/
def fnTightCard : Claim7 := { stood := { row := fnTightRow, standIns := [], harness := (true, "8f8519cb28cf697889b986e07bb3239d2db0b5f0dd4e6e01f05782a6a529c901"), looks := false }, kinds := [], alts := [], laidByText := true, laidKinds := [.data, .data, .data, .listed, .data], laidTests := true, laidLooks := .later }
def FnTightCardSaid : Prop := Claim7.holds Tryz.pinned (.plain (OpenSpec.ofChange fnTightSpec)) fnTightCard

/-- THE TIED CARD OF 'laws.FnPretty'. -/
def fnPrettyCard : Claim7 := { stood := { row := fnPrettyRow, standIns := [], harness := (true, "8f8519cb28cf697889b986e07bb3239d2db0b5f0dd4e6e01f05782a6a529c901"), looks := false }, kinds := [], alts := [], laidByText := true, laidKinds := [.data, .data, .data, .listed, .data], laidTests := true, laidLooks := .later }
def FnPrettyCardSaid : Prop := Claim7.holds Tryz.pinned (.plain (OpenSpec.ofChange fnPrettySpec)) fnPrettyCard

/-- THE SECOND FORM's CARD OF 'laws.FnUses'. -/
def fnUsesUptoCard : Claim7 := { stood := { row := fnUsesUptoRow, standIns := [], harness := (true, "8f8519cb28cf697889b986e07bb3239d2db0b5f0dd4e6e01f05782a6a529c901"), looks := false }, kinds := [], alts := [], laidByText := true, laidKinds := [.data, .data, .data, .listed, .data], laidTests := true, laidLooks := .later }
def FnUsesUptoCardSaid : Prop := Claim7.holds Tryz.pinned (.plain (OpenSpec.upto fnUsesSpec)) fnUsesUptoCard

/-- THE SECOND FORM's CARD OF 'laws.FnCallers'. -/
def fnCallersUptoCard : Claim7 := { stood := { row := fnCallersUptoRow, standIns := [], harness := (true, "8f8519cb28cf697889b986e07bb3239d2db0b5f0dd4e6e01f05782a6a529c901"), looks := false }, kinds := [], alts := [], laidByText := true, laidKinds := [.data, .data, .data, .listed, .data], laidTests := true, laidLooks := .later }
def FnCallersUptoCardSaid : Prop := Claim7.holds Tryz.pinned (.plain (OpenSpec.upto fnCallersSpec)) fnCallersUptoCard

/-- THE SECOND FORM's CARD OF 'laws.FnGroups'. -/
def fnGroupsUptoCard : Claim7 := { stood := { row := fnGroupsUptoRow, standIns := [], harness := (true, "8f8519cb28cf697889b986e07bb3239d2db0b5f0dd4e6e01f05782a6a529c901"), looks := false }, kinds := [], alts := [], laidByText := true, laidKinds := [.data, .data, .data, .listed, .data], laidTests := true, laidLooks := .later }
def FnGroupsUptoCardSaid : Prop := Claim7.holds Tryz.pinned (.plain (OpenSpec.upto fnGroupsSpec)) fnGroupsUptoCard

/-- THE SECOND FORM's CARD OF 'laws.FnLeafFirst'. -/
def fnLeafFirstUptoCard : Claim7 := { stood := { row := fnLeafFirstUptoRow, standIns := [], harness := (true, "8f8519cb28cf697889b986e07bb3239d2db0b5f0dd4e6e01f05782a6a529c901"), looks := false }, kinds := [], alts := [], laidByText := true, laidKinds := [.data, .data, .data, .listed, .data], laidTests := true, laidLooks := .later }
def FnLeafFirstUptoCardSaid : Prop := Claim7.holds Tryz.pinned (.plain (OpenSpec.upto fnLeafFirstSpec)) fnLeafFirstUptoCard

/-- THE SECOND FORM's CARD OF 'laws.FnTight'. -/
def fnTightUptoCard : Claim7 := { stood := { row := fnTightUptoRow, standIns := [], harness := (true, "8f8519cb28cf697889b986e07bb3239d2db0b5f0dd4e6e01f05782a6a529c901"), looks := false }, kinds := [], alts := [], laidByText := true, laidKinds := [.data, .data, .data, .listed, .data], laidTests := true, laidLooks := .later }
def FnTightUptoCardSaid : Prop := Claim7.holds Tryz.pinned (.plain (OpenSpec.upto fnTightSpec)) fnTightUptoCard

/-- THE SECOND FORM's CARD OF 'laws.FnPretty'. -/
def fnPrettyUptoCard : Claim7 := { stood := { row := fnPrettyUptoRow, standIns := [], harness := (true, "8f8519cb28cf697889b986e07bb3239d2db0b5f0dd4e6e01f05782a6a529c901"), looks := false }, kinds := [], alts := [], laidByText := true, laidKinds := [.data, .data, .data, .listed, .data], laidTests := true, laidLooks := .later }
def FnPrettyUptoCardSaid : Prop := Claim7.holds Tryz.pinned (.plain (OpenSpec.upto fnPrettySpec)) fnPrettyUptoCard
end Rows
end Go.Proofs.YtfahcenafcklmaaGreatDoor
