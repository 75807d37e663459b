/- Part 36 of proofs that are told in their last texts. -/
import Derived.Test.YtfdcdcleipmmdaaGreatDoorCards
import Derived.Test.YtfdcdcleipmmdaaGreatDoorTie
import Derived.Test.YtfdcdcleipmmdaaGreatDoorQ5
import Derived.WalkKit
import Derived.ProofKit
set_option linter.unusedVariables false
set_option linter.unusedSimpArgs false
set_option maxRecDepth 100000
namespace Go.Proofs.YtfdcdcleipmmdaaGreatDoor.fnExactOuts
theorem Ba:((Rows.fnExactOutsRow.recurses==Tryz.prog.recurses 6))=true:=by kernel_rfl
theorem Bi:(Tryz.f6.resultTypes.all (fun t=>Tryz.prog.readableRec t&&decide (t < Tryz.prog.types.size)))=true:=by kernel_rfl
theorem Bj:((Rows.fnExactOutsRow.ifacesOut==Tryz.f6.resultTypes.toList.any (Tryz.prog.ifacesRec ·)))=true:=by kernel_rfl
theorem Bl:((Rows.fnExactOutsRow.loopsOut==Tryz.f6.resultTypes.toList.any (Tryz.prog.loopsFrom ·)))=true:=by kernel_rfl
theorem Bm:((Rows.fnExactOutsRow.plainKeys==Tryz.prog.plainKeys))=true:=by kernel_rfl
theorem Bn:(Rows.fnExactOutsRow.shortTexts.isNone)=true:=by kernel_rfl
theorem Bo:(Tryz.prog.stopsHeard)=true:=by kernel_rfl
end Go.Proofs.YtfdcdcleipmmdaaGreatDoor.fnExactOuts
