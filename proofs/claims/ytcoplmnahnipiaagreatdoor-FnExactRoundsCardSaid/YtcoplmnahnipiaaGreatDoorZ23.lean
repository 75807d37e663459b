/- Part 23 of proofs that are told in their last texts. -/
import Derived.Test.YtcoplmnahnipiaaGreatDoorCards
import Derived.Test.YtcoplmnahnipiaaGreatDoorTie
import Derived.Test.YtcoplmnahnipiaaGreatDoorZ5
import Derived.WalkKit
import Derived.ProofKit
set_option linter.unusedVariables false
set_option linter.unusedSimpArgs false
set_option maxRecDepth 100000
namespace Go.Proofs.YtcoplmnahnipiaaGreatDoor.fnExactRounds
theorem N5:((Rows.fnExactRoundsRow.named==Tryz.prog.varsNamed 7))=true:=by kernel_rfl
theorem Oj:(Tryz.prog.mayEnter)=true:=by kernel_rfl
theorem Ol:((Rows.fnExactRoundsRow.lifted==Tryz.prog.liftsFinal))=true:=by kernel_rfl
theorem Om:((Tryz.prog.make==some Rows.fnExactRoundsRow.make))=true:=by kernel_rfl
theorem Oo:((Rows.fnExactRoundsRow.kinds==(if Rows.fnExactRoundsRow.domain.isEmpty then [] else Tryz.f7.params.toList.map fun t=>match Tryz.prog.underlying t with | some (.int k)=>some k | _=>none)))=true:=by kernel_rfl
theorem Oq:((Rows.fnExactRoundsRow.pinned==Rows.fnExactRoundsRow.pinnedBy))=true:=by kernel_rfl
theorem Ou:((Rows.fnExactRoundsRow.veiled==(Tryz.f7.params.toList++Rows.fnExactRoundsSpec.plain.varTypes Tryz.prog++Tryz.f7.resultTypes.toList).any (Tryz.prog.veiledRec ·)))=true:=by kernel_rfl
theorem Ov:(Rows.fnExactRoundsRow.veiledFits Tryz.prog Tryz.f7.params.toList (Tryz.f7.params.toList++Rows.fnExactRoundsSpec.plain.varTypes Tryz.prog++Tryz.f7.resultTypes.toList))=true:=by kernel_rfl
end Go.Proofs.YtcoplmnahnipiaaGreatDoor.fnExactRounds
