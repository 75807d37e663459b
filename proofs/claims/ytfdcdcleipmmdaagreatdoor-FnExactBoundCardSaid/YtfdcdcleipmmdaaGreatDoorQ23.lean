/- Part 23 of proofs that are told in their last texts. -/
import Derived.Test.YtfdcdcleipmmdaaGreatDoorCards
import Derived.Test.YtfdcdcleipmmdaaGreatDoorTie
import Derived.Test.YtfdcdcleipmmdaaGreatDoorQ5
import Derived.WalkKit
import Derived.ProofKit
set_option linter.unusedVariables false
set_option linter.unusedSimpArgs false
set_option maxRecDepth 100000
namespace Go.Proofs.YtfdcdcleipmmdaaGreatDoor.fnExactBound
theorem Bb:((Rows.fnExactBoundRow.named==Tryz.prog.varsNamed 4))=true:=by kernel_rfl
theorem Bp:(Tryz.prog.mayEnter)=true:=by kernel_rfl
theorem Bq:((Rows.fnExactBoundRow.lifted==Tryz.prog.liftsFinal))=true:=by kernel_rfl
theorem Br:((Tryz.prog.make==some Rows.fnExactBoundRow.make))=true:=by kernel_rfl
theorem Bu:((Rows.fnExactBoundRow.kinds==(if Rows.fnExactBoundRow.domain.isEmpty then [] else Tryz.f4.params.toList.map fun t=>match Tryz.prog.underlying t with | some (.int k)=>some k | _=>none)))=true:=by kernel_rfl
theorem Bv:((Rows.fnExactBoundRow.pinned==Rows.fnExactBoundRow.pinnedBy))=true:=by kernel_rfl
theorem Bw:((Rows.fnExactBoundRow.veiled==(Tryz.f4.params.toList++Rows.fnExactBoundSpec.plain.varTypes Tryz.prog++Tryz.f4.resultTypes.toList).any (Tryz.prog.veiledRec ·)))=true:=by kernel_rfl
theorem Bx:(Rows.fnExactBoundRow.veiledFits Tryz.prog Tryz.f4.params.toList (Tryz.f4.params.toList++Rows.fnExactBoundSpec.plain.varTypes Tryz.prog++Tryz.f4.resultTypes.toList))=true:=by kernel_rfl
end Go.Proofs.YtfdcdcleipmmdaaGreatDoor.fnExactBound
