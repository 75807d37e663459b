/- Part 13 of proofs that are told in their last texts. -/
import Derived.Test.YtbfmholmeiegoaaGreatDoorCards
import Derived.Test.YtbfmholmeiegoaaGreatDoorTie
import Derived.Test.YtbfmholmeiegoaaGreatDoorZ5
import Derived.WalkKit
import Derived.ProofKit
set_option linter.unusedVariables false
set_option linter.unusedSimpArgs false
set_option maxRecDepth 100000
namespace Go.Proofs.YtbfmholmeiegoaaGreatDoor.fnExactExtract
theorem aaN:((Rows.fnExactExtractRow.unfollowed==Tryz.prog.unfollowed 5))=true:=by kernel_rfl
theorem aaQ:((Rows.fnExactExtractRow.maps==(Tryz.f5.params.toList++Rows.fnExactExtractSpec.plain.varTypes Tryz.prog).any (Tryz.prog.mapsRec ·)))=true:=by kernel_rfl
theorem aaR:((Rows.fnExactExtractRow.ifaces==(Tryz.f5.params.toList++Rows.fnExactExtractSpec.plain.varTypes Tryz.prog).any (Tryz.prog.ifacesRec ·)))=true:=by kernel_rfl
theorem aaS:((Rows.fnExactExtractRow.mapsOut==Tryz.prog.mapsAmong Tryz.f5.resultTypes.toList))=true:=by kernel_rfl
theorem aaT:((Rows.fnExactExtractRow.loops==(Tryz.f5.params.toList++Rows.fnExactExtractSpec.plain.varTypes Tryz.prog).any (Tryz.prog.loopsFrom ·)))=true:=by kernel_rfl
theorem aaU:((Rows.fnExactExtractRow.wideKeys==(Tryz.f5.params.toList++Rows.fnExactExtractSpec.plain.varTypes Tryz.prog++Tryz.f5.resultTypes.toList).any (Tryz.prog.wideKeysFrom ·)))=true:=by kernel_rfl
theorem aaV:(Rows.fnExactExtractSpec.vars.all (Tryz.prog.varReadable ·))=true:=by kernel_rfl
end Go.Proofs.YtbfmholmeiegoaaGreatDoor.fnExactExtract
