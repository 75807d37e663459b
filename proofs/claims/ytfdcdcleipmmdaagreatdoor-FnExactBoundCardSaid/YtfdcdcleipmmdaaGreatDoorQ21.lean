/- Part 21 of proofs that are told in their last texts. -/
import Derived.Test.YtfdcdcleipmmdaaGreatDoorCards
import Derived.Test.YtfdcdcleipmmdaaGreatDoorTie
import Derived.Test.YtfdcdcleipmmdaaGreatDoorQ5
import Derived.WalkKit
import Derived.ProofKit
set_option linter.unusedVariables false
set_option linter.unusedSimpArgs false
set_option maxRecDepth 100000
namespace Go.Proofs.YtfdcdcleipmmdaaGreatDoor.fnExactBound
theorem A9:((Rows.fnExactBoundRow.unfollowed==Tryz.prog.unfollowed 4))=true:=by kernel_rfl
theorem Bc:((Rows.fnExactBoundRow.maps==(Tryz.f4.params.toList++Rows.fnExactBoundSpec.plain.varTypes Tryz.prog).any (Tryz.prog.mapsRec ·)))=true:=by kernel_rfl
theorem Bd:((Rows.fnExactBoundRow.ifaces==(Tryz.f4.params.toList++Rows.fnExactBoundSpec.plain.varTypes Tryz.prog).any (Tryz.prog.ifacesRec ·)))=true:=by kernel_rfl
theorem Be:((Rows.fnExactBoundRow.mapsOut==Tryz.prog.mapsAmong Tryz.f4.resultTypes.toList))=true:=by kernel_rfl
theorem Bf:((Rows.fnExactBoundRow.loops==(Tryz.f4.params.toList++Rows.fnExactBoundSpec.plain.varTypes Tryz.prog).any (Tryz.prog.loopsFrom ·)))=true:=by kernel_rfl
theorem Bg:((Rows.fnExactBoundRow.wideKeys==(Tryz.f4.params.toList++Rows.fnExactBoundSpec.plain.varTypes Tryz.prog++Tryz.f4.resultTypes.toList).any (Tryz.prog.wideKeysFrom ·)))=true:=by kernel_rfl
theorem Bh:(Rows.fnExactBoundSpec.vars.all (Tryz.prog.varReadable ·))=true:=by kernel_rfl
end Go.Proofs.YtfdcdcleipmmdaaGreatDoor.fnExactBound
