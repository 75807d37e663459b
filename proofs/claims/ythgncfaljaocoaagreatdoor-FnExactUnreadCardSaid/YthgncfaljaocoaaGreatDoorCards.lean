/-
  DERIVED. GIVEN WITH THE SEED: THE CARDS: each row of YthgncfaljaocoaaGreatDoorRows.lean that lists a variable, with what it lists TIED to the program's text (the seventh form; the later family's looks); each row that meets fmt, with fmt's text TOLD by the authors' own Lean function (tested against real Go, not proved from fmt's source: count such statements apart). THE CARD IS WHAT COUNTS. Prove the row's statement (the work); the ties are given (YthgncfaljaocoaaGreatDoorTie.lean); close each card by the builder's one call (the guide's Derived/Test/ToyasCard.lean, 'card_holds'). Laid BY PROGRAM, IN A SANDBOX (cutbox-door.mjs). By AI agents, Wed Nov 11 2026. No macro, syntax, notation, axiom, sorry.
-/
import Derived.Test.YthgncfaljaocoaaGreatDoorRows
import GoSem.ClaimSeven
namespace Go.Proofs.YthgncfaljaocoaaGreatDoor
namespace Rows

/-- THE TIED CARD OF 'laws.FnExactReads'. -/
def fnExactReadsCard : Claim7 := { stood := { row := fnExactReadsRow, standIns := [], harness := (true, "7f6ed865de1958316333a4547343033479cce1c399127d94a7abfd8510aa9ea5"), looks := false }, kinds := [], alts := [], laidByText := true, laidKinds := [.data, .data, .data, .listed, .data], laidTests := true, laidLooks := .later }
def FnExactReadsCardSaid : Prop := Claim7.holds Tryz.pinned (.plain (OpenSpec.ofChange fnExactReadsSpec)) fnExactReadsCard

/-- THE TIED CARD OF 'laws.FnExactWrites'. -/
def fnExactWritesCard : Claim7 := { stood := { row := fnExactWritesRow, standIns := [], harness := (true, "7f6ed865de1958316333a4547343033479cce1c399127d94a7abfd8510aa9ea5"), looks := false }, kinds := [], alts := [], laidByText := true, laidKinds := [.data, .data, .data, .listed, .data], laidTests := true, laidLooks := .later }
def FnExactWritesCardSaid : Prop := Claim7.holds Tryz.pinned (.plain (OpenSpec.ofChange fnExactWritesSpec)) fnExactWritesCard

/-- THE TIED CARD OF 'laws.FnExactArrayUses'. -/
def fnExactArrayUsesCard : Claim7 := { stood := { row := fnExactArrayUsesRow, standIns := [], harness := (true, "7f6ed865de1958316333a4547343033479cce1c399127d94a7abfd8510aa9ea5"), looks := false }, kinds := [], alts := [], laidByText := true, laidKinds := [.data, .data, .data, .listed, .data], laidTests := true, laidLooks := .later }
def FnExactArrayUsesCardSaid : Prop := Claim7.holds Tryz.pinned (.plain (OpenSpec.ofChange fnExactArrayUsesSpec)) fnExactArrayUsesCard

/-- THE TIED CARD OF 'laws.FnExactGlobalUses'. -/
def fnExactGlobalUsesCard : Claim7 := { stood := { row := fnExactGlobalUsesRow, standIns := [], harness := (true, "7f6ed865de1958316333a4547343033479cce1c399127d94a7abfd8510aa9ea5"), looks := false }, kinds := [], alts := [], laidByText := true, laidKinds := [.data, .data, .data, .listed, .data], laidTests := true, laidLooks := .later }
def FnExactGlobalUsesCardSaid : Prop := Claim7.holds Tryz.pinned (.plain (OpenSpec.ofChange fnExactGlobalUsesSpec)) fnExactGlobalUsesCard

/-- THE TIED CARD OF 'laws.FnExactUnread'. -/
def fnExactUnreadCard : Claim7 := { stood := { row := fnExactUnreadRow, standIns := [], harness := (true, "7f6ed865de1958316333a4547343033479cce1c399127d94a7abfd8510aa9ea5"), looks := false }, kinds := [], alts := [], laidByText := true, laidKinds := [.data, .data, .data, .listed, .data], laidTests := true, laidLooks := .later }
def FnExactUnreadCardSaid : Prop := Claim7.holds Tryz.pinned (.plain (OpenSpec.ofChange fnExactUnreadSpec)) fnExactUnreadCard

/-- THE SECOND FORM's CARD OF 'laws.FnExactReads'. -/
def fnExactReadsUptoCard : Claim7 := { stood := { row := fnExactReadsUptoRow, standIns := [], harness := (true, "7f6ed865de1958316333a4547343033479cce1c399127d94a7abfd8510aa9ea5"), looks := false }, kinds := [], alts := [], laidByText := true, laidKinds := [.data, .data, .data, .listed, .data], laidTests := true, laidLooks := .later }
def FnExactReadsUptoCardSaid : Prop := Claim7.holds Tryz.pinned (.plain (OpenSpec.upto fnExactReadsSpec)) fnExactReadsUptoCard

/-- THE SECOND FORM's CARD OF 'laws.FnExactWrites'. -/
def fnExactWritesUptoCard : Claim7 := { stood := { row := fnExactWritesUptoRow, standIns := [], harness := (true, "7f6ed865de1958316333a4547343033479cce1c399127d94a7abfd8510aa9ea5"), looks := false }, kinds := [], alts := [], laidByText := true, laidKinds := [.data, .data, .data, .listed, .data], laidTests := true, laidLooks := .later }
def FnExactWritesUptoCardSaid : Prop := Claim7.holds Tryz.pinned (.plain (OpenSpec.upto fnExactWritesSpec)) fnExactWritesUptoCard

/-- THE SECOND FORM's CARD OF 'laws.FnExactArrayUses'. -/
def fnExactArrayUsesUptoCard : Claim7 := { stood := { row := fnExactArrayUsesUptoRow, standIns := [], harness := (true, "7f6ed865de1958316333a4547343033479cce1c399127d94a7abfd8510aa9ea5"), looks := false }, kinds := [], alts := [], laidByText := true, laidKinds := [.data, .data, .data, .listed, .data], laidTests := true, laidLooks := .later }
def FnExactArrayUsesUptoCardSaid : Prop := Claim7.holds Tryz.pinned (.plain (OpenSpec.upto fnExactArrayUsesSpec)) fnExactArrayUsesUptoCard

/-- THE SECOND FORM's CARD OF 'laws.FnExactGlobalUses'. -/
def fnExactGlobalUsesUptoCard : Claim7 := { stood := { row := fnExactGlobalUsesUptoRow, standIns := [], harness := (true, "7f6ed865de1958316333a4547343033479cce1c399127d94a7abfd8510aa9ea5"), looks := false }, kinds := [], alts := [], laidByText := true, laidKinds := [.data, .data, .data, .listed, .data], laidTests := true, laidLooks := .later }
def FnExactGlobalUsesUptoCardSaid : Prop := Claim7.holds Tryz.pinned (.plain (OpenSpec.upto fnExactGlobalUsesSpec)) fnExactGlobalUsesUptoCard

/-- THE SECOND FORM's CARD OF 'laws.FnExactUnread'. -/
def fnExactUnreadUptoCard : Claim7 := { stood := { row := fnExactUnreadUptoRow, standIns := [], harness := (true, "7f6ed865de1958316333a4547343033479cce1c399127d94a7abfd8510aa9ea5"), looks := false }, kinds := [], alts := [], laidByText := true, laidKinds := [.data, .data, .data, .listed, .data], laidTests := true, laidLooks := .later }
def FnExactUnreadUptoCardSaid : Prop := Claim7.holds Tryz.pinned (.plain (OpenSpec.upto fnExactUnreadSpec)) fnExactUnreadUptoCard
end Rows
end Go.Proofs.YthgncfaljaocoaaGreatDoor
