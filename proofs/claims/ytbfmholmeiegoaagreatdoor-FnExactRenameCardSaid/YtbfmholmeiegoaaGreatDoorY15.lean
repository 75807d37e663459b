/- Part 15 of proofs that are told in their last texts. -/
import Derived.Test.YtbfmholmeiegoaaGreatDoorCards
import Derived.Test.YtbfmholmeiegoaaGreatDoorTie
import Derived.Test.YtbfmholmeiegoaaGreatDoorY5
import Derived.WalkKit
import Derived.ProofKit
set_option linter.unusedVariables false
set_option linter.unusedSimpArgs false
set_option maxRecDepth 100000
namespace Go.Proofs.YtbfmholmeiegoaaGreatDoor.fnExactRename
theorem aaq:((Rows.fnExactRenameRow.named==Tryz.prog.varsNamed 3))=true:=by kernel_rfl
theorem aaD:(Tryz.prog.mayEnter)=true:=by kernel_rfl
theorem aaE:((Rows.fnExactRenameRow.lifted==Tryz.prog.liftsFinal))=true:=by kernel_rfl
theorem aaF:((Tryz.prog.make==some Rows.fnExactRenameRow.make))=true:=by kernel_rfl
theorem aaG:((Rows.fnExactRenameRow.kinds==(if Rows.fnExactRenameRow.domain.isEmpty then [] else Tryz.f3.params.toList.map fun t=>match Tryz.prog.underlying t with | some (.int k)=>some k | _=>none)))=true:=by kernel_rfl
theorem aaH:((Rows.fnExactRenameRow.pinned==Rows.fnExactRenameRow.pinnedBy))=true:=by kernel_rfl
theorem aaI:((Rows.fnExactRenameRow.veiled==(Tryz.f3.params.toList++Rows.fnExactRenameSpec.plain.varTypes Tryz.prog++Tryz.f3.resultTypes.toList).any (Tryz.prog.veiledRec ·)))=true:=by kernel_rfl
theorem aaJ:(Rows.fnExactRenameRow.veiledFits Tryz.prog Tryz.f3.params.toList (Tryz.f3.params.toList++Rows.fnExactRenameSpec.plain.varTypes Tryz.prog++Tryz.f3.resultTypes.toList))=true:=by kernel_rfl
end Go.Proofs.YtbfmholmeiegoaaGreatDoor.fnExactRename
