/- Part 15 of proofs that are told in their last texts. -/
import Derived.Test.YtbfmholmeiegoaaGreatDoorCards
import Derived.Test.YtbfmholmeiegoaaGreatDoorTie
import Derived.Test.YtbfmholmeiegoaaGreatDoorQ5
import Derived.WalkKit
import Derived.ProofKit
set_option linter.unusedVariables false
set_option linter.unusedSimpArgs false
set_option maxRecDepth 100000
namespace Go.Proofs.YtbfmholmeiegoaaGreatDoor.fnExactLink
theorem Ym:((Rows.fnExactLinkRow.named==Tryz.prog.varsNamed 4))=true:=by kernel_rfl
theorem Yz:(Tryz.prog.mayEnter)=true:=by kernel_rfl
theorem YA:((Rows.fnExactLinkRow.lifted==Tryz.prog.liftsFinal))=true:=by kernel_rfl
theorem YB:((Tryz.prog.make==some Rows.fnExactLinkRow.make))=true:=by kernel_rfl
theorem YC:((Rows.fnExactLinkRow.kinds==(if Rows.fnExactLinkRow.domain.isEmpty then [] else Tryz.f4.params.toList.map fun t=>match Tryz.prog.underlying t with | some (.int k)=>some k | _=>none)))=true:=by kernel_rfl
theorem YD:((Rows.fnExactLinkRow.pinned==Rows.fnExactLinkRow.pinnedBy))=true:=by kernel_rfl
theorem YE:((Rows.fnExactLinkRow.veiled==(Tryz.f4.params.toList++Rows.fnExactLinkSpec.plain.varTypes Tryz.prog++Tryz.f4.resultTypes.toList).any (Tryz.prog.veiledRec ·)))=true:=by kernel_rfl
theorem YF:(Rows.fnExactLinkRow.veiledFits Tryz.prog Tryz.f4.params.toList (Tryz.f4.params.toList++Rows.fnExactLinkSpec.plain.varTypes Tryz.prog++Tryz.f4.resultTypes.toList))=true:=by kernel_rfl
end Go.Proofs.YtbfmholmeiegoaaGreatDoor.fnExactLink
