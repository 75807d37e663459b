/- Part 25 of proofs that are told in their last texts. -/
import Derived.Test.YtfahcenafcklmaaGreatDoorCards
import Derived.Test.YtfahcenafcklmaaGreatDoorTie
import Derived.Test.YtfahcenafcklmaaGreatDoorQ5
import Derived.WalkKit
import Derived.ProofKit
set_option linter.unusedVariables false
set_option linter.unusedSimpArgs false
set_option maxRecDepth 100000
namespace Go.Proofs.YtfahcenafcklmaaGreatDoor.fnCallers
theorem Ja:((Rows.fnCallersRow.unfollowed==Tryz.prog.unfollowed 4))=true:=by kernel_rfl
theorem Jd:((Rows.fnCallersRow.maps==(Tryz.f4.params.toList++Rows.fnCallersSpec.plain.varTypes Tryz.prog).any (Tryz.prog.mapsRec ·)))=true:=by kernel_rfl
theorem Je:((Rows.fnCallersRow.ifaces==(Tryz.f4.params.toList++Rows.fnCallersSpec.plain.varTypes Tryz.prog).any (Tryz.prog.ifacesRec ·)))=true:=by kernel_rfl
theorem Jf:((Rows.fnCallersRow.mapsOut==Tryz.prog.mapsAmong Tryz.f4.resultTypes.toList))=true:=by kernel_rfl
theorem Jg:((Rows.fnCallersRow.loops==(Tryz.f4.params.toList++Rows.fnCallersSpec.plain.varTypes Tryz.prog).any (Tryz.prog.loopsFrom ·)))=true:=by kernel_rfl
theorem Jh:((Rows.fnCallersRow.wideKeys==(Tryz.f4.params.toList++Rows.fnCallersSpec.plain.varTypes Tryz.prog++Tryz.f4.resultTypes.toList).any (Tryz.prog.wideKeysFrom ·)))=true:=by kernel_rfl
theorem Ji:(Rows.fnCallersSpec.vars.all (Tryz.prog.varReadable ·))=true:=by kernel_rfl
end Go.Proofs.YtfahcenafcklmaaGreatDoor.fnCallers
