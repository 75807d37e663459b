/- Part 15 of proofs that are told in their last texts. -/
import Derived.Test.YtcoplmnahnipiaaGreatDoorCards
import Derived.Test.YtcoplmnahnipiaaGreatDoorTie
import Derived.Test.YtcoplmnahnipiaaGreatDoorY5
import Derived.WalkKit
import Derived.ProofKit
set_option linter.unusedVariables false
set_option linter.unusedSimpArgs false
set_option maxRecDepth 100000
namespace Go.Proofs.YtcoplmnahnipiaaGreatDoor.fnExactComes
theorem Ae:((Rows.fnExactComesRow.unfollowed==Tryz.prog.unfollowed 4))=true:=by kernel_rfl
theorem Ah:((Rows.fnExactComesRow.maps==(Tryz.f4.params.toList++Rows.fnExactComesSpec.plain.varTypes Tryz.prog).any (Tryz.prog.mapsRec ·)))=true:=by kernel_rfl
theorem Ai:((Rows.fnExactComesRow.ifaces==(Tryz.f4.params.toList++Rows.fnExactComesSpec.plain.varTypes Tryz.prog).any (Tryz.prog.ifacesRec ·)))=true:=by kernel_rfl
theorem Aj:((Rows.fnExactComesRow.mapsOut==Tryz.prog.mapsAmong Tryz.f4.resultTypes.toList))=true:=by kernel_rfl
theorem Ak:((Rows.fnExactComesRow.loops==(Tryz.f4.params.toList++Rows.fnExactComesSpec.plain.varTypes Tryz.prog).any (Tryz.prog.loopsFrom ·)))=true:=by kernel_rfl
theorem Al:((Rows.fnExactComesRow.wideKeys==(Tryz.f4.params.toList++Rows.fnExactComesSpec.plain.varTypes Tryz.prog++Tryz.f4.resultTypes.toList).any (Tryz.prog.wideKeysFrom ·)))=true:=by kernel_rfl
theorem Am:(Rows.fnExactComesSpec.vars.all (Tryz.prog.varReadable ·))=true:=by kernel_rfl
end Go.Proofs.YtcoplmnahnipiaaGreatDoor.fnExactComes
