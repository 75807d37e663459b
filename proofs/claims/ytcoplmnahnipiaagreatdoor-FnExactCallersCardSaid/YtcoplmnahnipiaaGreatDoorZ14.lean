/- Part 14 of proofs that are told in their last texts. -/
import Derived.Test.YtcoplmnahnipiaaGreatDoorCards
import Derived.Test.YtcoplmnahnipiaaGreatDoorTie
import Derived.Test.YtcoplmnahnipiaaGreatDoorZ5
import Derived.WalkKit
import Derived.ProofKit
set_option linter.unusedVariables false
set_option linter.unusedSimpArgs false
set_option maxRecDepth 100000
namespace Go.Proofs.YtcoplmnahnipiaaGreatDoor.fnExactCallers
theorem N3:((Rows.fnExactCallersRow.unfollowed==Tryz.prog.unfollowed 5))=true:=by kernel_rfl
theorem N6:((Rows.fnExactCallersRow.maps==(Tryz.f5.params.toList++Rows.fnExactCallersSpec.plain.varTypes Tryz.prog).any (Tryz.prog.mapsRec ·)))=true:=by kernel_rfl
theorem N7:((Rows.fnExactCallersRow.ifaces==(Tryz.f5.params.toList++Rows.fnExactCallersSpec.plain.varTypes Tryz.prog).any (Tryz.prog.ifacesRec ·)))=true:=by kernel_rfl
theorem N8:((Rows.fnExactCallersRow.mapsOut==Tryz.prog.mapsAmong Tryz.f5.resultTypes.toList))=true:=by kernel_rfl
theorem N9:((Rows.fnExactCallersRow.loops==(Tryz.f5.params.toList++Rows.fnExactCallersSpec.plain.varTypes Tryz.prog).any (Tryz.prog.loopsFrom ·)))=true:=by kernel_rfl
theorem Oa:((Rows.fnExactCallersRow.wideKeys==(Tryz.f5.params.toList++Rows.fnExactCallersSpec.plain.varTypes Tryz.prog++Tryz.f5.resultTypes.toList).any (Tryz.prog.wideKeysFrom ·)))=true:=by kernel_rfl
theorem Oc:(Rows.fnExactCallersSpec.vars.all (Tryz.prog.varReadable ·))=true:=by kernel_rfl
end Go.Proofs.YtcoplmnahnipiaaGreatDoor.fnExactCallers
