/- Part 15 of proofs that are told in their last texts. -/
import Derived.Test.YtbfmholmeiegoaaGreatDoorCards
import Derived.Test.YtbfmholmeiegoaaGreatDoorTie
import Derived.Test.YtbfmholmeiegoaaGreatDoorZ5
import Derived.WalkKit
import Derived.ProofKit
set_option linter.unusedVariables false
set_option linter.unusedSimpArgs false
set_option maxRecDepth 100000
namespace Go.Proofs.YtbfmholmeiegoaaGreatDoor.fnExactExtract
theorem aaP:((Rows.fnExactExtractRow.named==Tryz.prog.varsNamed 5))=true:=by kernel_rfl
theorem aa2:(Tryz.prog.mayEnter)=true:=by kernel_rfl
theorem aa3:((Rows.fnExactExtractRow.lifted==Tryz.prog.liftsFinal))=true:=by kernel_rfl
theorem aa4:((Tryz.prog.make==some Rows.fnExactExtractRow.make))=true:=by kernel_rfl
theorem aa5:((Rows.fnExactExtractRow.kinds==(if Rows.fnExactExtractRow.domain.isEmpty then [] else Tryz.f5.params.toList.map fun t=>match Tryz.prog.underlying t with | some (.int k)=>some k | _=>none)))=true:=by kernel_rfl
theorem aa6:((Rows.fnExactExtractRow.pinned==Rows.fnExactExtractRow.pinnedBy))=true:=by kernel_rfl
theorem aa7:((Rows.fnExactExtractRow.veiled==(Tryz.f5.params.toList++Rows.fnExactExtractSpec.plain.varTypes Tryz.prog++Tryz.f5.resultTypes.toList).any (Tryz.prog.veiledRec ·)))=true:=by kernel_rfl
theorem aa8:(Rows.fnExactExtractRow.veiledFits Tryz.prog Tryz.f5.params.toList (Tryz.f5.params.toList++Rows.fnExactExtractSpec.plain.varTypes Tryz.prog++Tryz.f5.resultTypes.toList))=true:=by kernel_rfl
end Go.Proofs.YtbfmholmeiegoaaGreatDoor.fnExactExtract
