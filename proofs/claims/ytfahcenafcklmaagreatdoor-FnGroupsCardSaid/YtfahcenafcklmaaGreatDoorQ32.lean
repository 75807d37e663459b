/- Part 32 of proofs that are told in their last texts. -/
import Derived.Test.YtfahcenafcklmaaGreatDoorCards
import Derived.Test.YtfahcenafcklmaaGreatDoorTie
import Derived.Test.YtfahcenafcklmaaGreatDoorQ5
import Derived.WalkKit
import Derived.ProofKit
set_option linter.unusedVariables false
set_option linter.unusedSimpArgs false
set_option maxRecDepth 100000
namespace Go.Proofs.YtfahcenafcklmaaGreatDoor.fnGroups
theorem Ja:((Rows.fnGroupsRow.unfollowed==Tryz.prog.unfollowed 5))=true:=by kernel_rfl
theorem Jd:((Rows.fnGroupsRow.maps==(Tryz.f5.params.toList++Rows.fnGroupsSpec.plain.varTypes Tryz.prog).any (Tryz.prog.mapsRec ·)))=true:=by kernel_rfl
theorem Je:((Rows.fnGroupsRow.ifaces==(Tryz.f5.params.toList++Rows.fnGroupsSpec.plain.varTypes Tryz.prog).any (Tryz.prog.ifacesRec ·)))=true:=by kernel_rfl
theorem Jf:((Rows.fnGroupsRow.mapsOut==Tryz.prog.mapsAmong Tryz.f5.resultTypes.toList))=true:=by kernel_rfl
theorem Jg:((Rows.fnGroupsRow.loops==(Tryz.f5.params.toList++Rows.fnGroupsSpec.plain.varTypes Tryz.prog).any (Tryz.prog.loopsFrom ·)))=true:=by kernel_rfl
theorem Jh:((Rows.fnGroupsRow.wideKeys==(Tryz.f5.params.toList++Rows.fnGroupsSpec.plain.varTypes Tryz.prog++Tryz.f5.resultTypes.toList).any (Tryz.prog.wideKeysFrom ·)))=true:=by kernel_rfl
theorem Ji:(Rows.fnGroupsSpec.vars.all (Tryz.prog.varReadable ·))=true:=by kernel_rfl
end Go.Proofs.YtfahcenafcklmaaGreatDoor.fnGroups
