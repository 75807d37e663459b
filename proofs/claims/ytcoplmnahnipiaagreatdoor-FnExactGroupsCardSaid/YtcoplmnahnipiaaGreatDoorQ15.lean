/- Part 15 of proofs that are told in their last texts. -/
import Derived.Test.YtcoplmnahnipiaaGreatDoorCards
import Derived.Test.YtcoplmnahnipiaaGreatDoorTie
import Derived.Test.YtcoplmnahnipiaaGreatDoorQ5
import Derived.WalkKit
import Derived.ProofKit
set_option linter.unusedVariables false
set_option linter.unusedSimpArgs false
set_option maxRecDepth 100000
namespace Go.Proofs.YtcoplmnahnipiaaGreatDoor.fnExactGroups
theorem Yy:((Rows.fnExactGroupsRow.named==Tryz.prog.varsNamed 6))=true:=by kernel_rfl
theorem YM:(Tryz.prog.mayEnter)=true:=by kernel_rfl
theorem YN:((Rows.fnExactGroupsRow.lifted==Tryz.prog.liftsFinal))=true:=by kernel_rfl
theorem YO:((Tryz.prog.make==some Rows.fnExactGroupsRow.make))=true:=by kernel_rfl
theorem YP:((Rows.fnExactGroupsRow.kinds==(if Rows.fnExactGroupsRow.domain.isEmpty then [] else Tryz.f6.params.toList.map fun t=>match Tryz.prog.underlying t with | some (.int k)=>some k | _=>none)))=true:=by kernel_rfl
theorem YR:((Rows.fnExactGroupsRow.pinned==Rows.fnExactGroupsRow.pinnedBy))=true:=by kernel_rfl
theorem YS:((Rows.fnExactGroupsRow.veiled==(Tryz.f6.params.toList++Rows.fnExactGroupsSpec.plain.varTypes Tryz.prog++Tryz.f6.resultTypes.toList).any (Tryz.prog.veiledRec ·)))=true:=by kernel_rfl
theorem YT:(Rows.fnExactGroupsRow.veiledFits Tryz.prog Tryz.f6.params.toList (Tryz.f6.params.toList++Rows.fnExactGroupsSpec.plain.varTypes Tryz.prog++Tryz.f6.resultTypes.toList))=true:=by kernel_rfl
end Go.Proofs.YtcoplmnahnipiaaGreatDoor.fnExactGroups
