/- Part 35 of proofs that are told in their last texts. -/
import Derived.Test.YtfdcdcleipmmdaaGreatDoorCards
import Derived.Test.YtfdcdcleipmmdaaGreatDoorTie
import Derived.Test.YtfdcdcleipmmdaaGreatDoorQ5
import Derived.WalkKit
import Derived.ProofKit
set_option linter.unusedVariables false
set_option linter.unusedSimpArgs false
set_option maxRecDepth 100000
namespace Go.Proofs.YtfdcdcleipmmdaaGreatDoor.fnExactOuts
theorem A9:((Rows.fnExactOutsRow.unfollowed==Tryz.prog.unfollowed 6))=true:=by kernel_rfl
theorem Bc:((Rows.fnExactOutsRow.maps==(Tryz.f6.params.toList++Rows.fnExactOutsSpec.plain.varTypes Tryz.prog).any (Tryz.prog.mapsRec ·)))=true:=by kernel_rfl
theorem Bd:((Rows.fnExactOutsRow.ifaces==(Tryz.f6.params.toList++Rows.fnExactOutsSpec.plain.varTypes Tryz.prog).any (Tryz.prog.ifacesRec ·)))=true:=by kernel_rfl
theorem Be:((Rows.fnExactOutsRow.mapsOut==Tryz.prog.mapsAmong Tryz.f6.resultTypes.toList))=true:=by kernel_rfl
theorem Bf:((Rows.fnExactOutsRow.loops==(Tryz.f6.params.toList++Rows.fnExactOutsSpec.plain.varTypes Tryz.prog).any (Tryz.prog.loopsFrom ·)))=true:=by kernel_rfl
theorem Bg:((Rows.fnExactOutsRow.wideKeys==(Tryz.f6.params.toList++Rows.fnExactOutsSpec.plain.varTypes Tryz.prog++Tryz.f6.resultTypes.toList).any (Tryz.prog.wideKeysFrom ·)))=true:=by kernel_rfl
theorem Bh:(Rows.fnExactOutsSpec.vars.all (Tryz.prog.varReadable ·))=true:=by kernel_rfl
end Go.Proofs.YtfdcdcleipmmdaaGreatDoor.fnExactOuts
