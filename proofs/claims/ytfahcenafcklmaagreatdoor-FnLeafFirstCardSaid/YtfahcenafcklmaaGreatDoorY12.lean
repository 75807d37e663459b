/- Part 12 of proofs that are told in their last texts. -/
import Derived.Test.YtfahcenafcklmaaGreatDoorCards
import Derived.Test.YtfahcenafcklmaaGreatDoorTie
import Derived.Test.YtfahcenafcklmaaGreatDoorY5
import Derived.WalkKit
import Derived.ProofKit
set_option linter.unusedVariables false
set_option linter.unusedSimpArgs false
set_option maxRecDepth 100000
namespace Go.Proofs.YtfahcenafcklmaaGreatDoor.fnLeafFirst
theorem aaG:((Rows.fnLeafFirstRow.unfollowed==Tryz.prog.unfollowed 6))=true:=by kernel_rfl
theorem aaJ:((Rows.fnLeafFirstRow.maps==(Tryz.f6.params.toList++Rows.fnLeafFirstSpec.plain.varTypes Tryz.prog).any (Tryz.prog.mapsRec ·)))=true:=by kernel_rfl
theorem aaK:((Rows.fnLeafFirstRow.ifaces==(Tryz.f6.params.toList++Rows.fnLeafFirstSpec.plain.varTypes Tryz.prog).any (Tryz.prog.ifacesRec ·)))=true:=by kernel_rfl
theorem aaL:((Rows.fnLeafFirstRow.mapsOut==Tryz.prog.mapsAmong Tryz.f6.resultTypes.toList))=true:=by kernel_rfl
theorem aaM:((Rows.fnLeafFirstRow.loops==(Tryz.f6.params.toList++Rows.fnLeafFirstSpec.plain.varTypes Tryz.prog).any (Tryz.prog.loopsFrom ·)))=true:=by kernel_rfl
theorem aaN:((Rows.fnLeafFirstRow.wideKeys==(Tryz.f6.params.toList++Rows.fnLeafFirstSpec.plain.varTypes Tryz.prog++Tryz.f6.resultTypes.toList).any (Tryz.prog.wideKeysFrom ·)))=true:=by kernel_rfl
theorem aaO:(Rows.fnLeafFirstSpec.vars.all (Tryz.prog.varReadable ·))=true:=by kernel_rfl
end Go.Proofs.YtfahcenafcklmaaGreatDoor.fnLeafFirst
