/- Part 15 of proofs that are told in their last texts. -/
import Derived.Test.YtcoplmnahnipiaaGreatDoorCards
import Derived.Test.YtcoplmnahnipiaaGreatDoorTie
import Derived.Test.YtcoplmnahnipiaaGreatDoorO5
import Derived.WalkKit
import Derived.ProofKit
set_option linter.unusedVariables false
set_option linter.unusedSimpArgs false
set_option maxRecDepth 100000
namespace Go.Proofs.YtcoplmnahnipiaaGreatDoor.fnExactLeafFirst
theorem Ys:((Rows.fnExactLeafFirstRow.named==Tryz.prog.varsNamed 8))=true:=by kernel_rfl
theorem YF:(Tryz.prog.mayEnter)=true:=by kernel_rfl
theorem YH:((Rows.fnExactLeafFirstRow.lifted==Tryz.prog.liftsFinal))=true:=by kernel_rfl
theorem YI:((Tryz.prog.make==some Rows.fnExactLeafFirstRow.make))=true:=by kernel_rfl
theorem YJ:((Rows.fnExactLeafFirstRow.kinds==(if Rows.fnExactLeafFirstRow.domain.isEmpty then [] else Tryz.f8.params.toList.map fun t=>match Tryz.prog.underlying t with | some (.int k)=>some k | _=>none)))=true:=by kernel_rfl
theorem YK:((Rows.fnExactLeafFirstRow.pinned==Rows.fnExactLeafFirstRow.pinnedBy))=true:=by kernel_rfl
theorem YL:((Rows.fnExactLeafFirstRow.veiled==(Tryz.f8.params.toList++Rows.fnExactLeafFirstSpec.plain.varTypes Tryz.prog++Tryz.f8.resultTypes.toList).any (Tryz.prog.veiledRec ·)))=true:=by kernel_rfl
theorem YM:(Rows.fnExactLeafFirstRow.veiledFits Tryz.prog Tryz.f8.params.toList (Tryz.f8.params.toList++Rows.fnExactLeafFirstSpec.plain.varTypes Tryz.prog++Tryz.f8.resultTypes.toList))=true:=by kernel_rfl
end Go.Proofs.YtcoplmnahnipiaaGreatDoor.fnExactLeafFirst
