/- Part 34 of proofs that are told in their last texts. -/
import Derived.Test.YtfahcenafcklmaaGreatDoorCards
import Derived.Test.YtfahcenafcklmaaGreatDoorTie
import Derived.Test.YtfahcenafcklmaaGreatDoorQ5
import Derived.WalkKit
import Derived.ProofKit
set_option linter.unusedVariables false
set_option linter.unusedSimpArgs false
set_option maxRecDepth 100000
namespace Go.Proofs.YtfahcenafcklmaaGreatDoor.fnGroups
theorem Jc:((Rows.fnGroupsRow.named==Tryz.prog.varsNamed 5))=true:=by kernel_rfl
theorem Jp:(Tryz.prog.mayEnter)=true:=by kernel_rfl
theorem Jq:((Rows.fnGroupsRow.lifted==Tryz.prog.liftsFinal))=true:=by kernel_rfl
theorem Jr:((Tryz.prog.make==some Rows.fnGroupsRow.make))=true:=by kernel_rfl
theorem Js:((Rows.fnGroupsRow.kinds==(if Rows.fnGroupsRow.domain.isEmpty then [] else Tryz.f5.params.toList.map fun t=>match Tryz.prog.underlying t with | some (.int k)=>some k | _=>none)))=true:=by kernel_rfl
theorem Jt:((Rows.fnGroupsRow.pinned==Rows.fnGroupsRow.pinnedBy))=true:=by kernel_rfl
theorem Ju:((Rows.fnGroupsRow.veiled==(Tryz.f5.params.toList++Rows.fnGroupsSpec.plain.varTypes Tryz.prog++Tryz.f5.resultTypes.toList).any (Tryz.prog.veiledRec ·)))=true:=by kernel_rfl
theorem Jv:(Rows.fnGroupsRow.veiledFits Tryz.prog Tryz.f5.params.toList (Tryz.f5.params.toList++Rows.fnGroupsSpec.plain.varTypes Tryz.prog++Tryz.f5.resultTypes.toList))=true:=by kernel_rfl
end Go.Proofs.YtfahcenafcklmaaGreatDoor.fnGroups
