/- Part 32 of proofs that are told in their last texts. -/
import Derived.Test.YtfahcenafcklmaaGreatDoorCards
import Derived.Test.YtfahcenafcklmaaGreatDoorTie
import Derived.Test.YtfahcenafcklmaaGreatDoorZ11
import Derived.WalkKit
import Derived.ProofKit
set_option linter.unusedVariables false
set_option linter.unusedSimpArgs false
set_option maxRecDepth 100000
namespace Go.Proofs.YtfahcenafcklmaaGreatDoor.fnTight
theorem NJ:((Rows.fnTightRow.recurses==Tryz.prog.recurses 7))=true:=by kernel_rfl
theorem NR:(Tryz.f7.resultTypes.all (fun t=>Tryz.prog.readableRec t&&decide (t < Tryz.prog.types.size)))=true:=by kernel_rfl
theorem NS:((Rows.fnTightRow.ifacesOut==Tryz.f7.resultTypes.toList.any (Tryz.prog.ifacesRec ·)))=true:=by kernel_rfl
theorem NT:((Rows.fnTightRow.loopsOut==Tryz.f7.resultTypes.toList.any (Tryz.prog.loopsFrom ·)))=true:=by kernel_rfl
theorem NU:((Rows.fnTightRow.plainKeys==Tryz.prog.plainKeys))=true:=by kernel_rfl
theorem NV:(Rows.fnTightRow.shortTexts.isNone)=true:=by kernel_rfl
theorem NW:(Tryz.prog.stopsHeard)=true:=by kernel_rfl
end Go.Proofs.YtfahcenafcklmaaGreatDoor.fnTight
