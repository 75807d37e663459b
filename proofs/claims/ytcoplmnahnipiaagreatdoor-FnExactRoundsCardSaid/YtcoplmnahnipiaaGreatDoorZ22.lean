/- Part 22 of proofs that are told in their last texts. -/
import Derived.Test.YtcoplmnahnipiaaGreatDoorCards
import Derived.Test.YtcoplmnahnipiaaGreatDoorTie
import Derived.Test.YtcoplmnahnipiaaGreatDoorZ5
import Derived.WalkKit
import Derived.ProofKit
set_option linter.unusedVariables false
set_option linter.unusedSimpArgs false
set_option maxRecDepth 100000
namespace Go.Proofs.YtcoplmnahnipiaaGreatDoor.fnExactRounds
theorem N4:((Rows.fnExactRoundsRow.recurses==Tryz.prog.recurses 7))=true:=by kernel_rfl
theorem Od:(Tryz.f7.resultTypes.all (fun t=>Tryz.prog.readableRec t&&decide (t < Tryz.prog.types.size)))=true:=by kernel_rfl
theorem Oe:((Rows.fnExactRoundsRow.ifacesOut==Tryz.f7.resultTypes.toList.any (Tryz.prog.ifacesRec ·)))=true:=by kernel_rfl
theorem Of:((Rows.fnExactRoundsRow.loopsOut==Tryz.f7.resultTypes.toList.any (Tryz.prog.loopsFrom ·)))=true:=by kernel_rfl
theorem Og:((Rows.fnExactRoundsRow.plainKeys==Tryz.prog.plainKeys))=true:=by kernel_rfl
theorem Oh:(Rows.fnExactRoundsRow.shortTexts.isNone)=true:=by kernel_rfl
theorem Oi:(Tryz.prog.stopsHeard)=true:=by kernel_rfl
end Go.Proofs.YtcoplmnahnipiaaGreatDoor.fnExactRounds
