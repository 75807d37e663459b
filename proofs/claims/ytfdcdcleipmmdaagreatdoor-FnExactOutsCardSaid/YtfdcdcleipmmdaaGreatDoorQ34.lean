/- Part 34 of proofs that are told in their last texts. -/
import Derived.Test.YtfdcdcleipmmdaaGreatDoorCards
import Derived.Test.YtfdcdcleipmmdaaGreatDoorTie
import Derived.Test.YtfdcdcleipmmdaaGreatDoorQ5
import Derived.WalkKit
import Derived.ProofKit
set_option linter.unusedVariables false
set_option linter.unusedSimpArgs false
set_option maxRecDepth 100000
namespace Go.Proofs.YtfdcdcleipmmdaaGreatDoor.fnExactOuts
theorem Gw:(Rows.fnExactOutsRow.wf (OpenSpec.ofChange Rows.fnExactOutsSpec))=true:=by kernel_rfl
theorem Gx:(laidOutB Tryz.prog)=true:=by kernel_rfl
theorem Gy:(mapsRowed Tryz.prog)=true:=by kernel_rfl
theorem Gz:(Tryz.f6.params.all (Tryz.prog.readableRec ·))=true:=by kernel_rfl
theorem GB:(namedTie Tryz.prog Rows.fnExactOutsRow.named Rows.fnExactOutsSpec.vars)=true:=by kernel_rfl
theorem GD:((Rows.fnExactOutsRow.stops==[]))=true:=by kernel_rfl
theorem GG:((Tryz.prog.stops==[]))=true:=by kernel_rfl
theorem GH:((Rows.fnExactOutsRow.knobs==[]))=true:=by kernel_rfl
theorem GJ:((Tryz.prog.stopKnobs==[]))=true:=by kernel_rfl
theorem GK:((Rows.fnExactOutsRow.inPlace==Tryz.prog.inPlace 6))=true:=by kernel_rfl
end Go.Proofs.YtfdcdcleipmmdaaGreatDoor.fnExactOuts
