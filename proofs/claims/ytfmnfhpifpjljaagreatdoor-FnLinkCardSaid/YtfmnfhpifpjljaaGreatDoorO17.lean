/- The law FnLink: whatever the bytes, the law answers true, and the bytes read as they did. No condition but the row's own: the library's tables are as the program's text lays them. -/
import Derived.Test.YtfmnfhpifpjljaaGreatDoorO16
set_option linter.unusedVariables false
set_option linter.unusedSimpArgs false
set_option maxRecDepth 100000
namespace Go.Proofs.YtfmnfhpifpjljaaGreatDoor.fnLink
open Go.ChangeShapes Go.WideShapes Go.ChangeAt Go.RowKit
theorem proved:Rows.FnLinkCardSaid :=
 Claim7.holds_tied_plain_at .later [] _ _ _ _ said (fun _ h=>by cases h) (by kernel_rfl) (fun _ h=>by cases h) fnLink_row_tie rfl ⟨rfl,rfl⟩ (by kernel_rfl) rfl plain (Go.Pn.Lf Go.Pn.ng rfl)
#print axioms proved
end Go.Proofs.YtfmnfhpifpjljaaGreatDoor.fnLink
