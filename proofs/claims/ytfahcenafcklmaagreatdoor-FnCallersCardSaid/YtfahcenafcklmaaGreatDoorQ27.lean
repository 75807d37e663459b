/- Part 27 of proofs that are told in their last texts. -/
import Derived.Test.YtfahcenafcklmaaGreatDoorCards
import Derived.Test.YtfahcenafcklmaaGreatDoorTie
import Derived.Test.YtfahcenafcklmaaGreatDoorQ5
import Derived.WalkKit
import Derived.ProofKit
set_option linter.unusedVariables false
set_option linter.unusedSimpArgs false
set_option maxRecDepth 100000
namespace Go.Proofs.YtfahcenafcklmaaGreatDoor.fnCallers
theorem Jc:((Rows.fnCallersRow.named==Tryz.prog.varsNamed 4))=true:=by kernel_rfl
theorem Jp:(Tryz.prog.mayEnter)=true:=by kernel_rfl
theorem Jq:((Rows.fnCallersRow.lifted==Tryz.prog.liftsFinal))=true:=by kernel_rfl
theorem Jr:((Tryz.prog.make==some Rows.fnCallersRow.make))=true:=by kernel_rfl
theorem Js:((Rows.fnCallersRow.kinds==(if Rows.fnCallersRow.domain.isEmpty then [] else Tryz.f4.params.toList.map fun t=>match Tryz.prog.underlying t with | some (.int k)=>some k | _=>none)))=true:=by kernel_rfl
theorem Jt:((Rows.fnCallersRow.pinned==Rows.fnCallersRow.pinnedBy))=true:=by kernel_rfl
theorem Ju:((Rows.fnCallersRow.veiled==(Tryz.f4.params.toList++Rows.fnCallersSpec.plain.varTypes Tryz.prog++Tryz.f4.resultTypes.toList).any (Tryz.prog.veiledRec ·)))=true:=by kernel_rfl
theorem Jv:(Rows.fnCallersRow.veiledFits Tryz.prog Tryz.f4.params.toList (Tryz.f4.params.toList++Rows.fnCallersSpec.plain.varTypes Tryz.prog++Tryz.f4.resultTypes.toList))=true:=by kernel_rfl
end Go.Proofs.YtfahcenafcklmaaGreatDoor.fnCallers
