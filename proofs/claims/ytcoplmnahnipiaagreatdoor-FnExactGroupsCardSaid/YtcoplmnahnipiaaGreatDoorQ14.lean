/- Part 14 of proofs that are told in their last texts. -/
import Derived.Test.YtcoplmnahnipiaaGreatDoorCards
import Derived.Test.YtcoplmnahnipiaaGreatDoorTie
import Derived.Test.YtcoplmnahnipiaaGreatDoorQ5
import Derived.WalkKit
import Derived.ProofKit
set_option linter.unusedVariables false
set_option linter.unusedSimpArgs false
set_option maxRecDepth 100000
namespace Go.Proofs.YtcoplmnahnipiaaGreatDoor.fnExactGroups
theorem Yx:((Rows.fnExactGroupsRow.recurses==Tryz.prog.recurses 6))=true:=by kernel_rfl
theorem YF:(Tryz.f6.resultTypes.all (fun t=>Tryz.prog.readableRec t&&decide (t < Tryz.prog.types.size)))=true:=by kernel_rfl
theorem YH:((Rows.fnExactGroupsRow.ifacesOut==Tryz.f6.resultTypes.toList.any (Tryz.prog.ifacesRec ·)))=true:=by kernel_rfl
theorem YI:((Rows.fnExactGroupsRow.loopsOut==Tryz.f6.resultTypes.toList.any (Tryz.prog.loopsFrom ·)))=true:=by kernel_rfl
theorem YJ:((Rows.fnExactGroupsRow.plainKeys==Tryz.prog.plainKeys))=true:=by kernel_rfl
theorem YK:(Rows.fnExactGroupsRow.shortTexts.isNone)=true:=by kernel_rfl
theorem YL:(Tryz.prog.stopsHeard)=true:=by kernel_rfl
end Go.Proofs.YtcoplmnahnipiaaGreatDoor.fnExactGroups
