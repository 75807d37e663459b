/- Part 21 of proofs that are told in their last texts. -/
import Derived.Test.YtcoplmnahnipiaaGreatDoorCards
import Derived.Test.YtcoplmnahnipiaaGreatDoorTie
import Derived.Test.YtcoplmnahnipiaaGreatDoorZ5
import Derived.WalkKit
import Derived.ProofKit
set_option linter.unusedVariables false
set_option linter.unusedSimpArgs false
set_option maxRecDepth 100000
namespace Go.Proofs.YtcoplmnahnipiaaGreatDoor.fnExactRounds
theorem N3:((Rows.fnExactRoundsRow.unfollowed==Tryz.prog.unfollowed 7))=true:=by kernel_rfl
theorem N6:((Rows.fnExactRoundsRow.maps==(Tryz.f7.params.toList++Rows.fnExactRoundsSpec.plain.varTypes Tryz.prog).any (Tryz.prog.mapsRec ·)))=true:=by kernel_rfl
theorem N7:((Rows.fnExactRoundsRow.ifaces==(Tryz.f7.params.toList++Rows.fnExactRoundsSpec.plain.varTypes Tryz.prog).any (Tryz.prog.ifacesRec ·)))=true:=by kernel_rfl
theorem N8:((Rows.fnExactRoundsRow.mapsOut==Tryz.prog.mapsAmong Tryz.f7.resultTypes.toList))=true:=by kernel_rfl
theorem N9:((Rows.fnExactRoundsRow.loops==(Tryz.f7.params.toList++Rows.fnExactRoundsSpec.plain.varTypes Tryz.prog).any (Tryz.prog.loopsFrom ·)))=true:=by kernel_rfl
theorem Oa:((Rows.fnExactRoundsRow.wideKeys==(Tryz.f7.params.toList++Rows.fnExactRoundsSpec.plain.varTypes Tryz.prog++Tryz.f7.resultTypes.toList).any (Tryz.prog.wideKeysFrom ·)))=true:=by kernel_rfl
theorem Oc:(Rows.fnExactRoundsSpec.vars.all (Tryz.prog.varReadable ·))=true:=by kernel_rfl
end Go.Proofs.YtcoplmnahnipiaaGreatDoor.fnExactRounds
