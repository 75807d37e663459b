/- Part 13 of proofs that are told in their last texts. -/
import Derived.Test.YtbfmholmeiegoaaGreatDoorCards
import Derived.Test.YtbfmholmeiegoaaGreatDoorTie
import Derived.Test.YtbfmholmeiegoaaGreatDoorY5
import Derived.WalkKit
import Derived.ProofKit
set_option linter.unusedVariables false
set_option linter.unusedSimpArgs false
set_option maxRecDepth 100000
namespace Go.Proofs.YtbfmholmeiegoaaGreatDoor.fnExactRename
theorem aao:((Rows.fnExactRenameRow.unfollowed==Tryz.prog.unfollowed 3))=true:=by kernel_rfl
theorem aar:((Rows.fnExactRenameRow.maps==(Tryz.f3.params.toList++Rows.fnExactRenameSpec.plain.varTypes Tryz.prog).any (Tryz.prog.mapsRec ·)))=true:=by kernel_rfl
theorem aas:((Rows.fnExactRenameRow.ifaces==(Tryz.f3.params.toList++Rows.fnExactRenameSpec.plain.varTypes Tryz.prog).any (Tryz.prog.ifacesRec ·)))=true:=by kernel_rfl
theorem aat:((Rows.fnExactRenameRow.mapsOut==Tryz.prog.mapsAmong Tryz.f3.resultTypes.toList))=true:=by kernel_rfl
theorem aau:((Rows.fnExactRenameRow.loops==(Tryz.f3.params.toList++Rows.fnExactRenameSpec.plain.varTypes Tryz.prog).any (Tryz.prog.loopsFrom ·)))=true:=by kernel_rfl
theorem aav:((Rows.fnExactRenameRow.wideKeys==(Tryz.f3.params.toList++Rows.fnExactRenameSpec.plain.varTypes Tryz.prog++Tryz.f3.resultTypes.toList).any (Tryz.prog.wideKeysFrom ·)))=true:=by kernel_rfl
theorem aaw:(Rows.fnExactRenameSpec.vars.all (Tryz.prog.varReadable ·))=true:=by kernel_rfl
end Go.Proofs.YtbfmholmeiegoaaGreatDoor.fnExactRename
