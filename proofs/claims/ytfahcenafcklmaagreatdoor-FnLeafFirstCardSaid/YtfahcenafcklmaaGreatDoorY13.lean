/- Part 13 of proofs that are told in their last texts. -/
import Derived.Test.YtfahcenafcklmaaGreatDoorCards
import Derived.Test.YtfahcenafcklmaaGreatDoorTie
import Derived.Test.YtfahcenafcklmaaGreatDoorY5
import Derived.WalkKit
import Derived.ProofKit
set_option linter.unusedVariables false
set_option linter.unusedSimpArgs false
set_option maxRecDepth 100000
namespace Go.Proofs.YtfahcenafcklmaaGreatDoor.fnLeafFirst
theorem aaH:((Rows.fnLeafFirstRow.recurses==Tryz.prog.recurses 6))=true:=by kernel_rfl
theorem aaP:(Tryz.f6.resultTypes.all (fun t=>Tryz.prog.readableRec t&&decide (t < Tryz.prog.types.size)))=true:=by kernel_rfl
theorem aaQ:((Rows.fnLeafFirstRow.ifacesOut==Tryz.f6.resultTypes.toList.any (Tryz.prog.ifacesRec ·)))=true:=by kernel_rfl
theorem aaR:((Rows.fnLeafFirstRow.loopsOut==Tryz.f6.resultTypes.toList.any (Tryz.prog.loopsFrom ·)))=true:=by kernel_rfl
theorem aaS:((Rows.fnLeafFirstRow.plainKeys==Tryz.prog.plainKeys))=true:=by kernel_rfl
theorem aaT:(Rows.fnLeafFirstRow.shortTexts.isNone)=true:=by kernel_rfl
theorem aaU:(Tryz.prog.stopsHeard)=true:=by kernel_rfl
end Go.Proofs.YtfahcenafcklmaaGreatDoor.fnLeafFirst
