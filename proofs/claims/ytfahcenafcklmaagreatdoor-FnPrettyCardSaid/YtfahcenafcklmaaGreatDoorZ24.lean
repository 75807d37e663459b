/- Part 24 of proofs that are told in their last texts. -/
import Derived.Test.YtfahcenafcklmaaGreatDoorCards
import Derived.Test.YtfahcenafcklmaaGreatDoorTie
import Derived.Test.YtfahcenafcklmaaGreatDoorZ11
import Derived.WalkKit
import Derived.ProofKit
set_option linter.unusedVariables false
set_option linter.unusedSimpArgs false
set_option maxRecDepth 100000
namespace Go.Proofs.YtfahcenafcklmaaGreatDoor.fnPretty
theorem NI:((Rows.fnPrettyRow.unfollowed==Tryz.prog.unfollowed 8))=true:=by kernel_rfl
theorem NL:((Rows.fnPrettyRow.maps==(Tryz.f8.params.toList++Rows.fnPrettySpec.plain.varTypes Tryz.prog).any (Tryz.prog.mapsRec ·)))=true:=by kernel_rfl
theorem NM:((Rows.fnPrettyRow.ifaces==(Tryz.f8.params.toList++Rows.fnPrettySpec.plain.varTypes Tryz.prog).any (Tryz.prog.ifacesRec ·)))=true:=by kernel_rfl
theorem NN:((Rows.fnPrettyRow.mapsOut==Tryz.prog.mapsAmong Tryz.f8.resultTypes.toList))=true:=by kernel_rfl
theorem NO:((Rows.fnPrettyRow.loops==(Tryz.f8.params.toList++Rows.fnPrettySpec.plain.varTypes Tryz.prog).any (Tryz.prog.loopsFrom ·)))=true:=by kernel_rfl
theorem NP:((Rows.fnPrettyRow.wideKeys==(Tryz.f8.params.toList++Rows.fnPrettySpec.plain.varTypes Tryz.prog++Tryz.f8.resultTypes.toList).any (Tryz.prog.wideKeysFrom ·)))=true:=by kernel_rfl
theorem NQ:(Rows.fnPrettySpec.vars.all (Tryz.prog.varReadable ·))=true:=by kernel_rfl
end Go.Proofs.YtfahcenafcklmaaGreatDoor.fnPretty
