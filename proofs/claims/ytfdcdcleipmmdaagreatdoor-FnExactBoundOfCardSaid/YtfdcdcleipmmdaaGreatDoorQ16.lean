/- Part 16 of proofs that are told in their last texts. -/
import Derived.Test.YtfdcdcleipmmdaaGreatDoorCards
import Derived.Test.YtfdcdcleipmmdaaGreatDoorTie
import Derived.Test.YtfdcdcleipmmdaaGreatDoorQ5
import Derived.WalkKit
import Derived.ProofKit
set_option linter.unusedVariables false
set_option linter.unusedSimpArgs false
set_option maxRecDepth 100000
namespace Go.Proofs.YtfdcdcleipmmdaaGreatDoor.fnExactBoundOf
theorem Bb:((Rows.fnExactBoundOfRow.named==Tryz.prog.varsNamed 3))=true:=by kernel_rfl
theorem Bp:(Tryz.prog.mayEnter)=true:=by kernel_rfl
theorem Bq:((Rows.fnExactBoundOfRow.lifted==Tryz.prog.liftsFinal))=true:=by kernel_rfl
theorem Br:((Tryz.prog.make==some Rows.fnExactBoundOfRow.make))=true:=by kernel_rfl
theorem Bu:((Rows.fnExactBoundOfRow.kinds==(if Rows.fnExactBoundOfRow.domain.isEmpty then [] else Tryz.f3.params.toList.map fun t=>match Tryz.prog.underlying t with | some (.int k)=>some k | _=>none)))=true:=by kernel_rfl
theorem Bv:((Rows.fnExactBoundOfRow.pinned==Rows.fnExactBoundOfRow.pinnedBy))=true:=by kernel_rfl
theorem Bw:((Rows.fnExactBoundOfRow.veiled==(Tryz.f3.params.toList++Rows.fnExactBoundOfSpec.plain.varTypes Tryz.prog++Tryz.f3.resultTypes.toList).any (Tryz.prog.veiledRec ·)))=true:=by kernel_rfl
theorem Bx:(Rows.fnExactBoundOfRow.veiledFits Tryz.prog Tryz.f3.params.toList (Tryz.f3.params.toList++Rows.fnExactBoundOfSpec.plain.varTypes Tryz.prog++Tryz.f3.resultTypes.toList))=true:=by kernel_rfl
end Go.Proofs.YtfdcdcleipmmdaaGreatDoor.fnExactBoundOf
