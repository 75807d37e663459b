/- Part 28 of proofs that are told in their last texts. -/
import Derived.Test.YtfdcdcleipmmdaaGreatDoorCards
import Derived.Test.YtfdcdcleipmmdaaGreatDoorTie
import Derived.Test.YtfdcdcleipmmdaaGreatDoorQ5
import Derived.WalkKit
import Derived.ProofKit
set_option linter.unusedVariables false
set_option linter.unusedSimpArgs false
set_option maxRecDepth 100000
namespace Go.Proofs.YtfdcdcleipmmdaaGreatDoor.fnExactStraight
theorem A9:((Rows.fnExactStraightRow.unfollowed==Tryz.prog.unfollowed 5))=true:=by kernel_rfl
theorem Bc:((Rows.fnExactStraightRow.maps==(Tryz.f5.params.toList++Rows.fnExactStraightSpec.plain.varTypes Tryz.prog).any (Tryz.prog.mapsRec ·)))=true:=by kernel_rfl
theorem Bd:((Rows.fnExactStraightRow.ifaces==(Tryz.f5.params.toList++Rows.fnExactStraightSpec.plain.varTypes Tryz.prog).any (Tryz.prog.ifacesRec ·)))=true:=by kernel_rfl
theorem Be:((Rows.fnExactStraightRow.mapsOut==Tryz.prog.mapsAmong Tryz.f5.resultTypes.toList))=true:=by kernel_rfl
theorem Bf:((Rows.fnExactStraightRow.loops==(Tryz.f5.params.toList++Rows.fnExactStraightSpec.plain.varTypes Tryz.prog).any (Tryz.prog.loopsFrom ·)))=true:=by kernel_rfl
theorem Bg:((Rows.fnExactStraightRow.wideKeys==(Tryz.f5.params.toList++Rows.fnExactStraightSpec.plain.varTypes Tryz.prog++Tryz.f5.resultTypes.toList).any (Tryz.prog.wideKeysFrom ·)))=true:=by kernel_rfl
theorem Bh:(Rows.fnExactStraightSpec.vars.all (Tryz.prog.varReadable ·))=true:=by kernel_rfl
end Go.Proofs.YtfdcdcleipmmdaaGreatDoor.fnExactStraight
