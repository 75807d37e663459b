/- Part 18 of proofs that are told in their last texts. -/
import Derived.Test.YtfahcenafcklmaaGreatDoorCards
import Derived.Test.YtfahcenafcklmaaGreatDoorTie
import Derived.Test.YtfahcenafcklmaaGreatDoorQ5
import Derived.WalkKit
import Derived.ProofKit
set_option linter.unusedVariables false
set_option linter.unusedSimpArgs false
set_option maxRecDepth 100000
namespace Go.Proofs.YtfahcenafcklmaaGreatDoor.fnUses
theorem Ja:((Rows.fnUsesRow.unfollowed==Tryz.prog.unfollowed 3))=true:=by kernel_rfl
theorem Jd:((Rows.fnUsesRow.maps==(Tryz.f3.params.toList++Rows.fnUsesSpec.plain.varTypes Tryz.prog).any (Tryz.prog.mapsRec ·)))=true:=by kernel_rfl
theorem Je:((Rows.fnUsesRow.ifaces==(Tryz.f3.params.toList++Rows.fnUsesSpec.plain.varTypes Tryz.prog).any (Tryz.prog.ifacesRec ·)))=true:=by kernel_rfl
theorem Jf:((Rows.fnUsesRow.mapsOut==Tryz.prog.mapsAmong Tryz.f3.resultTypes.toList))=true:=by kernel_rfl
theorem Jg:((Rows.fnUsesRow.loops==(Tryz.f3.params.toList++Rows.fnUsesSpec.plain.varTypes Tryz.prog).any (Tryz.prog.loopsFrom ·)))=true:=by kernel_rfl
theorem Jh:((Rows.fnUsesRow.wideKeys==(Tryz.f3.params.toList++Rows.fnUsesSpec.plain.varTypes Tryz.prog++Tryz.f3.resultTypes.toList).any (Tryz.prog.wideKeysFrom ·)))=true:=by kernel_rfl
theorem Ji:(Rows.fnUsesSpec.vars.all (Tryz.prog.varReadable ·))=true:=by kernel_rfl
end Go.Proofs.YtfahcenafcklmaaGreatDoor.fnUses
