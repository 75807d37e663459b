/- Part 15 of proofs that are told in their last texts. -/
import Derived.Test.YtcoplmnahnipiaaGreatDoorCards
import Derived.Test.YtcoplmnahnipiaaGreatDoorTie
import Derived.Test.YtcoplmnahnipiaaGreatDoorZ5
import Derived.WalkKit
import Derived.ProofKit
set_option linter.unusedVariables false
set_option linter.unusedSimpArgs false
set_option maxRecDepth 100000
namespace Go.Proofs.YtcoplmnahnipiaaGreatDoor.fnExactCallers
theorem N4:((Rows.fnExactCallersRow.recurses==Tryz.prog.recurses 5))=true:=by kernel_rfl
theorem Od:(Tryz.f5.resultTypes.all (fun t=>Tryz.prog.readableRec t&&decide (t < Tryz.prog.types.size)))=true:=by kernel_rfl
theorem Oe:((Rows.fnExactCallersRow.ifacesOut==Tryz.f5.resultTypes.toList.any (Tryz.prog.ifacesRec ·)))=true:=by kernel_rfl
theorem Of:((Rows.fnExactCallersRow.loopsOut==Tryz.f5.resultTypes.toList.any (Tryz.prog.loopsFrom ·)))=true:=by kernel_rfl
theorem Og:((Rows.fnExactCallersRow.plainKeys==Tryz.prog.plainKeys))=true:=by kernel_rfl
theorem Oh:(Rows.fnExactCallersRow.shortTexts.isNone)=true:=by kernel_rfl
theorem Oi:(Tryz.prog.stopsHeard)=true:=by kernel_rfl
end Go.Proofs.YtcoplmnahnipiaaGreatDoor.fnExactCallers
