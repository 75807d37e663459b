/- Part 14 of proofs that are told in their last texts. -/
import Derived.Test.YtcoplmnahnipiaaGreatDoorCards
import Derived.Test.YtcoplmnahnipiaaGreatDoorTie
import Derived.Test.YtcoplmnahnipiaaGreatDoorO5
import Derived.WalkKit
import Derived.ProofKit
set_option linter.unusedVariables false
set_option linter.unusedSimpArgs false
set_option maxRecDepth 100000
namespace Go.Proofs.YtcoplmnahnipiaaGreatDoor.fnExactLeafFirst
theorem Yr:((Rows.fnExactLeafFirstRow.recurses==Tryz.prog.recurses 8))=true:=by kernel_rfl
theorem Yz:(Tryz.f8.resultTypes.all (fun t=>Tryz.prog.readableRec t&&decide (t < Tryz.prog.types.size)))=true:=by kernel_rfl
theorem YA:((Rows.fnExactLeafFirstRow.ifacesOut==Tryz.f8.resultTypes.toList.any (Tryz.prog.ifacesRec ·)))=true:=by kernel_rfl
theorem YB:((Rows.fnExactLeafFirstRow.loopsOut==Tryz.f8.resultTypes.toList.any (Tryz.prog.loopsFrom ·)))=true:=by kernel_rfl
theorem YC:((Rows.fnExactLeafFirstRow.plainKeys==Tryz.prog.plainKeys))=true:=by kernel_rfl
theorem YD:(Rows.fnExactLeafFirstRow.shortTexts.isNone)=true:=by kernel_rfl
theorem YE:(Tryz.prog.stopsHeard)=true:=by kernel_rfl
end Go.Proofs.YtcoplmnahnipiaaGreatDoor.fnExactLeafFirst
