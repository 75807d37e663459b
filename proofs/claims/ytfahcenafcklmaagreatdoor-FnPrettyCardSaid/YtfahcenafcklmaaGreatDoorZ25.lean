/- Part 25 of proofs that are told in their last texts. -/
import Derived.Test.YtfahcenafcklmaaGreatDoorCards
import Derived.Test.YtfahcenafcklmaaGreatDoorTie
import Derived.Test.YtfahcenafcklmaaGreatDoorZ11
import Derived.WalkKit
import Derived.ProofKit
set_option linter.unusedVariables false
set_option linter.unusedSimpArgs false
set_option maxRecDepth 100000
namespace Go.Proofs.YtfahcenafcklmaaGreatDoor.fnPretty
theorem NJ:((Rows.fnPrettyRow.recurses==Tryz.prog.recurses 8))=true:=by kernel_rfl
theorem NR:(Tryz.f8.resultTypes.all (fun t=>Tryz.prog.readableRec t&&decide (t < Tryz.prog.types.size)))=true:=by kernel_rfl
theorem NS:((Rows.fnPrettyRow.ifacesOut==Tryz.f8.resultTypes.toList.any (Tryz.prog.ifacesRec ·)))=true:=by kernel_rfl
theorem NT:((Rows.fnPrettyRow.loopsOut==Tryz.f8.resultTypes.toList.any (Tryz.prog.loopsFrom ·)))=true:=by kernel_rfl
theorem NU:((Rows.fnPrettyRow.plainKeys==Tryz.prog.plainKeys))=true:=by kernel_rfl
theorem NV:(Rows.fnPrettyRow.shortTexts.isNone)=true:=by kernel_rfl
theorem NW:(Tryz.prog.stopsHeard)=true:=by kernel_rfl
end Go.Proofs.YtfahcenafcklmaaGreatDoor.fnPretty
