/- Part 33 of proofs that are told in their last texts. -/
import Derived.Test.YtfahcenafcklmaaGreatDoorCards
import Derived.Test.YtfahcenafcklmaaGreatDoorTie
import Derived.Test.YtfahcenafcklmaaGreatDoorZ11
import Derived.WalkKit
import Derived.ProofKit
set_option linter.unusedVariables false
set_option linter.unusedSimpArgs false
set_option maxRecDepth 100000
namespace Go.Proofs.YtfahcenafcklmaaGreatDoor.fnTight
theorem NK:((Rows.fnTightRow.named==Tryz.prog.varsNamed 7))=true:=by kernel_rfl
theorem NX:(Tryz.prog.mayEnter)=true:=by kernel_rfl
theorem NY:((Rows.fnTightRow.lifted==Tryz.prog.liftsFinal))=true:=by kernel_rfl
theorem NZ:((Tryz.prog.make==some Rows.fnTightRow.make))=true:=by kernel_rfl
theorem N0:((Rows.fnTightRow.kinds==(if Rows.fnTightRow.domain.isEmpty then [] else Tryz.f7.params.toList.map fun t=>match Tryz.prog.underlying t with | some (.int k)=>some k | _=>none)))=true:=by kernel_rfl
theorem N1:((Rows.fnTightRow.pinned==Rows.fnTightRow.pinnedBy))=true:=by kernel_rfl
theorem N4:((Rows.fnTightRow.veiled==(Tryz.f7.params.toList++Rows.fnTightSpec.plain.varTypes Tryz.prog++Tryz.f7.resultTypes.toList).any (Tryz.prog.veiledRec ·)))=true:=by kernel_rfl
theorem N5:(Rows.fnTightRow.veiledFits Tryz.prog Tryz.f7.params.toList (Tryz.f7.params.toList++Rows.fnTightSpec.plain.varTypes Tryz.prog++Tryz.f7.resultTypes.toList))=true:=by kernel_rfl
end Go.Proofs.YtfahcenafcklmaaGreatDoor.fnTight
