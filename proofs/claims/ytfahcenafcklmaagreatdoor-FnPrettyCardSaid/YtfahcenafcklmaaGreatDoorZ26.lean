/- Part 26 of proofs that are told in their last texts. -/
import Derived.Test.YtfahcenafcklmaaGreatDoorCards
import Derived.Test.YtfahcenafcklmaaGreatDoorTie
import Derived.Test.YtfahcenafcklmaaGreatDoorZ11
import Derived.WalkKit
import Derived.ProofKit
set_option linter.unusedVariables false
set_option linter.unusedSimpArgs false
set_option maxRecDepth 100000
namespace Go.Proofs.YtfahcenafcklmaaGreatDoor.fnPretty
theorem NK:((Rows.fnPrettyRow.named==Tryz.prog.varsNamed 8))=true:=by kernel_rfl
theorem NX:(Tryz.prog.mayEnter)=true:=by kernel_rfl
theorem NY:((Rows.fnPrettyRow.lifted==Tryz.prog.liftsFinal))=true:=by kernel_rfl
theorem NZ:((Tryz.prog.make==some Rows.fnPrettyRow.make))=true:=by kernel_rfl
theorem N0:((Rows.fnPrettyRow.kinds==(if Rows.fnPrettyRow.domain.isEmpty then [] else Tryz.f8.params.toList.map fun t=>match Tryz.prog.underlying t with | some (.int k)=>some k | _=>none)))=true:=by kernel_rfl
theorem N1:((Rows.fnPrettyRow.pinned==Rows.fnPrettyRow.pinnedBy))=true:=by kernel_rfl
theorem N4:((Rows.fnPrettyRow.veiled==(Tryz.f8.params.toList++Rows.fnPrettySpec.plain.varTypes Tryz.prog++Tryz.f8.resultTypes.toList).any (Tryz.prog.veiledRec ·)))=true:=by kernel_rfl
theorem N5:(Rows.fnPrettyRow.veiledFits Tryz.prog Tryz.f8.params.toList (Tryz.f8.params.toList++Rows.fnPrettySpec.plain.varTypes Tryz.prog++Tryz.f8.resultTypes.toList))=true:=by kernel_rfl
end Go.Proofs.YtfahcenafcklmaaGreatDoor.fnPretty
