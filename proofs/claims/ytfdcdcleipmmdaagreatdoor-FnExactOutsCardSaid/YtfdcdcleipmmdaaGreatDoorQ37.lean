/- Part 37 of proofs that are told in their last texts. -/
import Derived.Test.YtfdcdcleipmmdaaGreatDoorCards
import Derived.Test.YtfdcdcleipmmdaaGreatDoorTie
import Derived.Test.YtfdcdcleipmmdaaGreatDoorQ5
import Derived.WalkKit
import Derived.ProofKit
set_option linter.unusedVariables false
set_option linter.unusedSimpArgs false
set_option maxRecDepth 100000
namespace Go.Proofs.YtfdcdcleipmmdaaGreatDoor.fnExactOuts
theorem Bb:((Rows.fnExactOutsRow.named==Tryz.prog.varsNamed 6))=true:=by kernel_rfl
theorem Bp:(Tryz.prog.mayEnter)=true:=by kernel_rfl
theorem Bq:((Rows.fnExactOutsRow.lifted==Tryz.prog.liftsFinal))=true:=by kernel_rfl
theorem Br:((Tryz.prog.make==some Rows.fnExactOutsRow.make))=true:=by kernel_rfl
theorem Bu:((Rows.fnExactOutsRow.kinds==(if Rows.fnExactOutsRow.domain.isEmpty then [] else Tryz.f6.params.toList.map fun t=>match Tryz.prog.underlying t with | some (.int k)=>some k | _=>none)))=true:=by kernel_rfl
theorem Bv:((Rows.fnExactOutsRow.pinned==Rows.fnExactOutsRow.pinnedBy))=true:=by kernel_rfl
theorem Bw:((Rows.fnExactOutsRow.veiled==(Tryz.f6.params.toList++Rows.fnExactOutsSpec.plain.varTypes Tryz.prog++Tryz.f6.resultTypes.toList).any (Tryz.prog.veiledRec ·)))=true:=by kernel_rfl
theorem Bx:(Rows.fnExactOutsRow.veiledFits Tryz.prog Tryz.f6.params.toList (Tryz.f6.params.toList++Rows.fnExactOutsSpec.plain.varTypes Tryz.prog++Tryz.f6.resultTypes.toList))=true:=by kernel_rfl
end Go.Proofs.YtfdcdcleipmmdaaGreatDoor.fnExactOuts
