/- Part 16 of proofs that are told in their last texts. -/
import Derived.Test.YtcoplmnahnipiaaGreatDoorCards
import Derived.Test.YtcoplmnahnipiaaGreatDoorTie
import Derived.Test.YtcoplmnahnipiaaGreatDoorZ5
import Derived.WalkKit
import Derived.ProofKit
set_option linter.unusedVariables false
set_option linter.unusedSimpArgs false
set_option maxRecDepth 100000
namespace Go.Proofs.YtcoplmnahnipiaaGreatDoor.fnExactCallers
theorem N5:((Rows.fnExactCallersRow.named==Tryz.prog.varsNamed 5))=true:=by kernel_rfl
theorem Oj:(Tryz.prog.mayEnter)=true:=by kernel_rfl
theorem Ol:((Rows.fnExactCallersRow.lifted==Tryz.prog.liftsFinal))=true:=by kernel_rfl
theorem Om:((Tryz.prog.make==some Rows.fnExactCallersRow.make))=true:=by kernel_rfl
theorem Oo:((Rows.fnExactCallersRow.kinds==(if Rows.fnExactCallersRow.domain.isEmpty then [] else Tryz.f5.params.toList.map fun t=>match Tryz.prog.underlying t with | some (.int k)=>some k | _=>none)))=true:=by kernel_rfl
theorem Oq:((Rows.fnExactCallersRow.pinned==Rows.fnExactCallersRow.pinnedBy))=true:=by kernel_rfl
theorem Ou:((Rows.fnExactCallersRow.veiled==(Tryz.f5.params.toList++Rows.fnExactCallersSpec.plain.varTypes Tryz.prog++Tryz.f5.resultTypes.toList).any (Tryz.prog.veiledRec ·)))=true:=by kernel_rfl
theorem Ov:(Rows.fnExactCallersRow.veiledFits Tryz.prog Tryz.f5.params.toList (Tryz.f5.params.toList++Rows.fnExactCallersSpec.plain.varTypes Tryz.prog++Tryz.f5.resultTypes.toList))=true:=by kernel_rfl
end Go.Proofs.YtcoplmnahnipiaaGreatDoor.fnExactCallers
