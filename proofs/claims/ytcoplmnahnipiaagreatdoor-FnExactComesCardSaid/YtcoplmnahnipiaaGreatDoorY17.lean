/- Part 17 of proofs that are told in their last texts. -/
import Derived.Test.YtcoplmnahnipiaaGreatDoorCards
import Derived.Test.YtcoplmnahnipiaaGreatDoorTie
import Derived.Test.YtcoplmnahnipiaaGreatDoorY5
import Derived.WalkKit
import Derived.ProofKit
set_option linter.unusedVariables false
set_option linter.unusedSimpArgs false
set_option maxRecDepth 100000
namespace Go.Proofs.YtcoplmnahnipiaaGreatDoor.fnExactComes
theorem Ag:((Rows.fnExactComesRow.named==Tryz.prog.varsNamed 4))=true:=by kernel_rfl
theorem Aw:(Tryz.prog.mayEnter)=true:=by kernel_rfl
theorem Ax:((Rows.fnExactComesRow.lifted==Tryz.prog.liftsFinal))=true:=by kernel_rfl
theorem Ay:((Tryz.prog.make==some Rows.fnExactComesRow.make))=true:=by kernel_rfl
theorem Az:((Rows.fnExactComesRow.kinds==(if Rows.fnExactComesRow.domain.isEmpty then [] else Tryz.f4.params.toList.map fun t=>match Tryz.prog.underlying t with | some (.int k)=>some k | _=>none)))=true:=by kernel_rfl
theorem AA:((Rows.fnExactComesRow.pinned==Rows.fnExactComesRow.pinnedBy))=true:=by kernel_rfl
theorem AB:((Rows.fnExactComesRow.veiled==(Tryz.f4.params.toList++Rows.fnExactComesSpec.plain.varTypes Tryz.prog++Tryz.f4.resultTypes.toList).any (Tryz.prog.veiledRec ·)))=true:=by kernel_rfl
theorem AD:(Rows.fnExactComesRow.veiledFits Tryz.prog Tryz.f4.params.toList (Tryz.f4.params.toList++Rows.fnExactComesSpec.plain.varTypes Tryz.prog++Tryz.f4.resultTypes.toList))=true:=by kernel_rfl
end Go.Proofs.YtcoplmnahnipiaaGreatDoor.fnExactComes
