/- Part 31 of proofs that are told in their last texts. -/
import Derived.Test.YtfahcenafcklmaaGreatDoorCards
import Derived.Test.YtfahcenafcklmaaGreatDoorTie
import Derived.Test.YtfahcenafcklmaaGreatDoorZ11
import Derived.WalkKit
import Derived.ProofKit
set_option linter.unusedVariables false
set_option linter.unusedSimpArgs false
set_option maxRecDepth 100000
namespace Go.Proofs.YtfahcenafcklmaaGreatDoor.fnTight
theorem NI:((Rows.fnTightRow.unfollowed==Tryz.prog.unfollowed 7))=true:=by kernel_rfl
theorem NL:((Rows.fnTightRow.maps==(Tryz.f7.params.toList++Rows.fnTightSpec.plain.varTypes Tryz.prog).any (Tryz.prog.mapsRec ·)))=true:=by kernel_rfl
theorem NM:((Rows.fnTightRow.ifaces==(Tryz.f7.params.toList++Rows.fnTightSpec.plain.varTypes Tryz.prog).any (Tryz.prog.ifacesRec ·)))=true:=by kernel_rfl
theorem NN:((Rows.fnTightRow.mapsOut==Tryz.prog.mapsAmong Tryz.f7.resultTypes.toList))=true:=by kernel_rfl
theorem NO:((Rows.fnTightRow.loops==(Tryz.f7.params.toList++Rows.fnTightSpec.plain.varTypes Tryz.prog).any (Tryz.prog.loopsFrom ·)))=true:=by kernel_rfl
theorem NP:((Rows.fnTightRow.wideKeys==(Tryz.f7.params.toList++Rows.fnTightSpec.plain.varTypes Tryz.prog++Tryz.f7.resultTypes.toList).any (Tryz.prog.wideKeysFrom ·)))=true:=by kernel_rfl
theorem NQ:(Rows.fnTightSpec.vars.all (Tryz.prog.varReadable ·))=true:=by kernel_rfl
end Go.Proofs.YtfahcenafcklmaaGreatDoor.fnTight
