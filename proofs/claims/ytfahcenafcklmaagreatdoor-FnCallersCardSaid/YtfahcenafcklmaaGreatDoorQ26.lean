/- Part 26 of proofs that are told in their last texts. -/
import Derived.Test.YtfahcenafcklmaaGreatDoorCards
import Derived.Test.YtfahcenafcklmaaGreatDoorTie
import Derived.Test.YtfahcenafcklmaaGreatDoorQ5
import Derived.WalkKit
import Derived.ProofKit
set_option linter.unusedVariables false
set_option linter.unusedSimpArgs false
set_option maxRecDepth 100000
namespace Go.Proofs.YtfahcenafcklmaaGreatDoor.fnCallers
theorem Jb:((Rows.fnCallersRow.recurses==Tryz.prog.recurses 4))=true:=by kernel_rfl
theorem Jj:(Tryz.f4.resultTypes.all (fun t=>Tryz.prog.readableRec t&&decide (t < Tryz.prog.types.size)))=true:=by kernel_rfl
theorem Jk:((Rows.fnCallersRow.ifacesOut==Tryz.f4.resultTypes.toList.any (Tryz.prog.ifacesRec ·)))=true:=by kernel_rfl
theorem Jl:((Rows.fnCallersRow.loopsOut==Tryz.f4.resultTypes.toList.any (Tryz.prog.loopsFrom ·)))=true:=by kernel_rfl
theorem Jm:((Rows.fnCallersRow.plainKeys==Tryz.prog.plainKeys))=true:=by kernel_rfl
theorem Jn:(Rows.fnCallersRow.shortTexts.isNone)=true:=by kernel_rfl
theorem Jo:(Tryz.prog.stopsHeard)=true:=by kernel_rfl
end Go.Proofs.YtfahcenafcklmaaGreatDoor.fnCallers
