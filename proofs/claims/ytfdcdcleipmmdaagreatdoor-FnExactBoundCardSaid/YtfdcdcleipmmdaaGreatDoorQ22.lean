/- Part 22 of proofs that are told in their last texts. -/
import Derived.Test.YtfdcdcleipmmdaaGreatDoorCards
import Derived.Test.YtfdcdcleipmmdaaGreatDoorTie
import Derived.Test.YtfdcdcleipmmdaaGreatDoorQ5
import Derived.WalkKit
import Derived.ProofKit
set_option linter.unusedVariables false
set_option linter.unusedSimpArgs false
set_option maxRecDepth 100000
namespace Go.Proofs.YtfdcdcleipmmdaaGreatDoor.fnExactBound
theorem Ba:((Rows.fnExactBoundRow.recurses==Tryz.prog.recurses 4))=true:=by kernel_rfl
theorem Bi:(Tryz.f4.resultTypes.all (fun t=>Tryz.prog.readableRec t&&decide (t < Tryz.prog.types.size)))=true:=by kernel_rfl
theorem Bj:((Rows.fnExactBoundRow.ifacesOut==Tryz.f4.resultTypes.toList.any (Tryz.prog.ifacesRec ·)))=true:=by kernel_rfl
theorem Bl:((Rows.fnExactBoundRow.loopsOut==Tryz.f4.resultTypes.toList.any (Tryz.prog.loopsFrom ·)))=true:=by kernel_rfl
theorem Bm:((Rows.fnExactBoundRow.plainKeys==Tryz.prog.plainKeys))=true:=by kernel_rfl
theorem Bn:(Rows.fnExactBoundRow.shortTexts.isNone)=true:=by kernel_rfl
theorem Bo:(Tryz.prog.stopsHeard)=true:=by kernel_rfl
end Go.Proofs.YtfdcdcleipmmdaaGreatDoor.fnExactBound
