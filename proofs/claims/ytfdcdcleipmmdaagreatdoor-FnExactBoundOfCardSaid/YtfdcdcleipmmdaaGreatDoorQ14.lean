/- Part 14 of proofs that are told in their last texts. -/
import Derived.Test.YtfdcdcleipmmdaaGreatDoorCards
import Derived.Test.YtfdcdcleipmmdaaGreatDoorTie
import Derived.Test.YtfdcdcleipmmdaaGreatDoorQ5
import Derived.WalkKit
import Derived.ProofKit
set_option linter.unusedVariables false
set_option linter.unusedSimpArgs false
set_option maxRecDepth 100000
namespace Go.Proofs.YtfdcdcleipmmdaaGreatDoor.fnExactBoundOf
theorem A9:((Rows.fnExactBoundOfRow.unfollowed==Tryz.prog.unfollowed 3))=true:=by kernel_rfl
theorem Bc:((Rows.fnExactBoundOfRow.maps==(Tryz.f3.params.toList++Rows.fnExactBoundOfSpec.plain.varTypes Tryz.prog).any (Tryz.prog.mapsRec ·)))=true:=by kernel_rfl
theorem Bd:((Rows.fnExactBoundOfRow.ifaces==(Tryz.f3.params.toList++Rows.fnExactBoundOfSpec.plain.varTypes Tryz.prog).any (Tryz.prog.ifacesRec ·)))=true:=by kernel_rfl
theorem Be:((Rows.fnExactBoundOfRow.mapsOut==Tryz.prog.mapsAmong Tryz.f3.resultTypes.toList))=true:=by kernel_rfl
theorem Bf:((Rows.fnExactBoundOfRow.loops==(Tryz.f3.params.toList++Rows.fnExactBoundOfSpec.plain.varTypes Tryz.prog).any (Tryz.prog.loopsFrom ·)))=true:=by kernel_rfl
theorem Bg:((Rows.fnExactBoundOfRow.wideKeys==(Tryz.f3.params.toList++Rows.fnExactBoundOfSpec.plain.varTypes Tryz.prog++Tryz.f3.resultTypes.toList).any (Tryz.prog.wideKeysFrom ·)))=true:=by kernel_rfl
theorem Bh:(Rows.fnExactBoundOfSpec.vars.all (Tryz.prog.varReadable ·))=true:=by kernel_rfl
end Go.Proofs.YtfdcdcleipmmdaaGreatDoor.fnExactBoundOf
