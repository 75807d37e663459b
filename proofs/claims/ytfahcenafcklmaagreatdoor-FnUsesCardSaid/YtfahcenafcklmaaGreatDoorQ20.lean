/- Part 20 of proofs that are told in their last texts. -/
import Derived.Test.YtfahcenafcklmaaGreatDoorCards
import Derived.Test.YtfahcenafcklmaaGreatDoorTie
import Derived.Test.YtfahcenafcklmaaGreatDoorQ5
import Derived.WalkKit
import Derived.ProofKit
set_option linter.unusedVariables false
set_option linter.unusedSimpArgs false
set_option maxRecDepth 100000
namespace Go.Proofs.YtfahcenafcklmaaGreatDoor.fnUses
theorem Jc:((Rows.fnUsesRow.named==Tryz.prog.varsNamed 3))=true:=by kernel_rfl
theorem Jp:(Tryz.prog.mayEnter)=true:=by kernel_rfl
theorem Jq:((Rows.fnUsesRow.lifted==Tryz.prog.liftsFinal))=true:=by kernel_rfl
theorem Jr:((Tryz.prog.make==some Rows.fnUsesRow.make))=true:=by kernel_rfl
theorem Js:((Rows.fnUsesRow.kinds==(if Rows.fnUsesRow.domain.isEmpty then [] else Tryz.f3.params.toList.map fun t=>match Tryz.prog.underlying t with | some (.int k)=>some k | _=>none)))=true:=by kernel_rfl
theorem Jt:((Rows.fnUsesRow.pinned==Rows.fnUsesRow.pinnedBy))=true:=by kernel_rfl
theorem Ju:((Rows.fnUsesRow.veiled==(Tryz.f3.params.toList++Rows.fnUsesSpec.plain.varTypes Tryz.prog++Tryz.f3.resultTypes.toList).any (Tryz.prog.veiledRec ·)))=true:=by kernel_rfl
theorem Jv:(Rows.fnUsesRow.veiledFits Tryz.prog Tryz.f3.params.toList (Tryz.f3.params.toList++Rows.fnUsesSpec.plain.varTypes Tryz.prog++Tryz.f3.resultTypes.toList))=true:=by kernel_rfl
end Go.Proofs.YtfahcenafcklmaaGreatDoor.fnUses
