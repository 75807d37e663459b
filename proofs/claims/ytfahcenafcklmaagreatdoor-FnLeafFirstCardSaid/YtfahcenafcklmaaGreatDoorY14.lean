/- Part 14 of proofs that are told in their last texts. -/
import Derived.Test.YtfahcenafcklmaaGreatDoorCards
import Derived.Test.YtfahcenafcklmaaGreatDoorTie
import Derived.Test.YtfahcenafcklmaaGreatDoorY5
import Derived.WalkKit
import Derived.ProofKit
set_option linter.unusedVariables false
set_option linter.unusedSimpArgs false
set_option maxRecDepth 100000
namespace Go.Proofs.YtfahcenafcklmaaGreatDoor.fnLeafFirst
theorem aaI:((Rows.fnLeafFirstRow.named==Tryz.prog.varsNamed 6))=true:=by kernel_rfl
theorem aaV:(Tryz.prog.mayEnter)=true:=by kernel_rfl
theorem aaW:((Rows.fnLeafFirstRow.lifted==Tryz.prog.liftsFinal))=true:=by kernel_rfl
theorem aaX:((Tryz.prog.make==some Rows.fnLeafFirstRow.make))=true:=by kernel_rfl
theorem aaY:((Rows.fnLeafFirstRow.kinds==(if Rows.fnLeafFirstRow.domain.isEmpty then [] else Tryz.f6.params.toList.map fun t=>match Tryz.prog.underlying t with | some (.int k)=>some k | _=>none)))=true:=by kernel_rfl
theorem aaZ:((Rows.fnLeafFirstRow.pinned==Rows.fnLeafFirstRow.pinnedBy))=true:=by kernel_rfl
theorem aa0:((Rows.fnLeafFirstRow.veiled==(Tryz.f6.params.toList++Rows.fnLeafFirstSpec.plain.varTypes Tryz.prog++Tryz.f6.resultTypes.toList).any (Tryz.prog.veiledRec ·)))=true:=by kernel_rfl
theorem aa1:(Rows.fnLeafFirstRow.veiledFits Tryz.prog Tryz.f6.params.toList (Tryz.f6.params.toList++Rows.fnLeafFirstSpec.plain.varTypes Tryz.prog++Tryz.f6.resultTypes.toList))=true:=by kernel_rfl
end Go.Proofs.YtfahcenafcklmaaGreatDoor.fnLeafFirst
