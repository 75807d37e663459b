/- Part 20 of proofs that are told in their last texts. -/
import Derived.Test.YtfdcdcleipmmdaaGreatDoorCards
import Derived.Test.YtfdcdcleipmmdaaGreatDoorTie
import Derived.Test.YtfdcdcleipmmdaaGreatDoorQ5
import Derived.WalkKit
import Derived.ProofKit
set_option linter.unusedVariables false
set_option linter.unusedSimpArgs false
set_option maxRecDepth 100000
namespace Go.Proofs.YtfdcdcleipmmdaaGreatDoor.fnExactBound
theorem Gw:(Rows.fnExactBoundRow.wf (OpenSpec.ofChange Rows.fnExactBoundSpec))=true:=by kernel_rfl
theorem Gx:(laidOutB Tryz.prog)=true:=by kernel_rfl
theorem Gy:(mapsRowed Tryz.prog)=true:=by kernel_rfl
theorem Gz:(Tryz.f4.params.all (Tryz.prog.readableRec ·))=true:=by kernel_rfl
theorem GB:(namedTie Tryz.prog Rows.fnExactBoundRow.named Rows.fnExactBoundSpec.vars)=true:=by kernel_rfl
theorem GD:((Rows.fnExactBoundRow.stops==[]))=true:=by kernel_rfl
theorem GG:((Tryz.prog.stops==[]))=true:=by kernel_rfl
theorem GH:((Rows.fnExactBoundRow.knobs==[]))=true:=by kernel_rfl
theorem GJ:((Tryz.prog.stopKnobs==[]))=true:=by kernel_rfl
theorem GK:((Rows.fnExactBoundRow.inPlace==Tryz.prog.inPlace 4))=true:=by kernel_rfl
end Go.Proofs.YtfdcdcleipmmdaaGreatDoor.fnExactBound
