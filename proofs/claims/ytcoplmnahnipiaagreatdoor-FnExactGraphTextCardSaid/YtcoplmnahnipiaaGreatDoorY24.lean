/- Part 24 of proofs that are told in their last texts. -/
import Derived.Test.YtcoplmnahnipiaaGreatDoorCards
import Derived.Test.YtcoplmnahnipiaaGreatDoorTie
import Derived.Test.YtcoplmnahnipiaaGreatDoorY5
import Derived.WalkKit
import Derived.ProofKit
set_option linter.unusedVariables false
set_option linter.unusedSimpArgs false
set_option maxRecDepth 100000
namespace Go.Proofs.YtcoplmnahnipiaaGreatDoor.fnExactGraphText
theorem Ag:((Rows.fnExactGraphTextRow.named==Tryz.prog.varsNamed 3))=true:=by kernel_rfl
theorem Aw:(Tryz.prog.mayEnter)=true:=by kernel_rfl
theorem Ax:((Rows.fnExactGraphTextRow.lifted==Tryz.prog.liftsFinal))=true:=by kernel_rfl
theorem Ay:((Tryz.prog.make==some Rows.fnExactGraphTextRow.make))=true:=by kernel_rfl
theorem Az:((Rows.fnExactGraphTextRow.kinds==(if Rows.fnExactGraphTextRow.domain.isEmpty then [] else Tryz.f3.params.toList.map fun t=>match Tryz.prog.underlying t with | some (.int k)=>some k | _=>none)))=true:=by kernel_rfl
theorem AA:((Rows.fnExactGraphTextRow.pinned==Rows.fnExactGraphTextRow.pinnedBy))=true:=by kernel_rfl
theorem AB:((Rows.fnExactGraphTextRow.veiled==(Tryz.f3.params.toList++Rows.fnExactGraphTextSpec.plain.varTypes Tryz.prog++Tryz.f3.resultTypes.toList).any (Tryz.prog.veiledRec ·)))=true:=by kernel_rfl
theorem AD:(Rows.fnExactGraphTextRow.veiledFits Tryz.prog Tryz.f3.params.toList (Tryz.f3.params.toList++Rows.fnExactGraphTextSpec.plain.varTypes Tryz.prog++Tryz.f3.resultTypes.toList))=true:=by kernel_rfl
end Go.Proofs.YtcoplmnahnipiaaGreatDoor.fnExactGraphText
