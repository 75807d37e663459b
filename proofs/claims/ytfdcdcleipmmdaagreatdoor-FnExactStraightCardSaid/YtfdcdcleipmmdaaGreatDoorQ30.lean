/- Part 30 of proofs that are told in their last texts. -/
import Derived.Test.YtfdcdcleipmmdaaGreatDoorCards
import Derived.Test.YtfdcdcleipmmdaaGreatDoorTie
import Derived.Test.YtfdcdcleipmmdaaGreatDoorQ5
import Derived.WalkKit
import Derived.ProofKit
set_option linter.unusedVariables false
set_option linter.unusedSimpArgs false
set_option maxRecDepth 100000
namespace Go.Proofs.YtfdcdcleipmmdaaGreatDoor.fnExactStraight
theorem Bb:((Rows.fnExactStraightRow.named==Tryz.prog.varsNamed 5))=true:=by kernel_rfl
theorem Bp:(Tryz.prog.mayEnter)=true:=by kernel_rfl
theorem Bq:((Rows.fnExactStraightRow.lifted==Tryz.prog.liftsFinal))=true:=by kernel_rfl
theorem Br:((Tryz.prog.make==some Rows.fnExactStraightRow.make))=true:=by kernel_rfl
theorem Bu:((Rows.fnExactStraightRow.kinds==(if Rows.fnExactStraightRow.domain.isEmpty then [] else Tryz.f5.params.toList.map fun t=>match Tryz.prog.underlying t with | some (.int k)=>some k | _=>none)))=true:=by kernel_rfl
theorem Bv:((Rows.fnExactStraightRow.pinned==Rows.fnExactStraightRow.pinnedBy))=true:=by kernel_rfl
theorem Bw:((Rows.fnExactStraightRow.veiled==(Tryz.f5.params.toList++Rows.fnExactStraightSpec.plain.varTypes Tryz.prog++Tryz.f5.resultTypes.toList).any (Tryz.prog.veiledRec ·)))=true:=by kernel_rfl
theorem Bx:(Rows.fnExactStraightRow.veiledFits Tryz.prog Tryz.f5.params.toList (Tryz.f5.params.toList++Rows.fnExactStraightSpec.plain.varTypes Tryz.prog++Tryz.f5.resultTypes.toList))=true:=by kernel_rfl
end Go.Proofs.YtfdcdcleipmmdaaGreatDoor.fnExactStraight
