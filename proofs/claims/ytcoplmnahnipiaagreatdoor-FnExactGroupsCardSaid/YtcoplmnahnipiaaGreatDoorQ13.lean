/- Part 13 of proofs that are told in their last texts. -/
import Derived.Test.YtcoplmnahnipiaaGreatDoorCards
import Derived.Test.YtcoplmnahnipiaaGreatDoorTie
import Derived.Test.YtcoplmnahnipiaaGreatDoorQ5
import Derived.WalkKit
import Derived.ProofKit
set_option linter.unusedVariables false
set_option linter.unusedSimpArgs false
set_option maxRecDepth 100000
namespace Go.Proofs.YtcoplmnahnipiaaGreatDoor.fnExactGroups
theorem Yw:((Rows.fnExactGroupsRow.unfollowed==Tryz.prog.unfollowed 6))=true:=by kernel_rfl
theorem Yz:((Rows.fnExactGroupsRow.maps==(Tryz.f6.params.toList++Rows.fnExactGroupsSpec.plain.varTypes Tryz.prog).any (Tryz.prog.mapsRec ·)))=true:=by kernel_rfl
theorem YA:((Rows.fnExactGroupsRow.ifaces==(Tryz.f6.params.toList++Rows.fnExactGroupsSpec.plain.varTypes Tryz.prog).any (Tryz.prog.ifacesRec ·)))=true:=by kernel_rfl
theorem YB:((Rows.fnExactGroupsRow.mapsOut==Tryz.prog.mapsAmong Tryz.f6.resultTypes.toList))=true:=by kernel_rfl
theorem YC:((Rows.fnExactGroupsRow.loops==(Tryz.f6.params.toList++Rows.fnExactGroupsSpec.plain.varTypes Tryz.prog).any (Tryz.prog.loopsFrom ·)))=true:=by kernel_rfl
theorem YD:((Rows.fnExactGroupsRow.wideKeys==(Tryz.f6.params.toList++Rows.fnExactGroupsSpec.plain.varTypes Tryz.prog++Tryz.f6.resultTypes.toList).any (Tryz.prog.wideKeysFrom ·)))=true:=by kernel_rfl
theorem YE:(Rows.fnExactGroupsSpec.vars.all (Tryz.prog.varReadable ·))=true:=by kernel_rfl
end Go.Proofs.YtcoplmnahnipiaaGreatDoor.fnExactGroups
