/- Part 20 of proofs that are told in their last texts. -/
import Derived.Test.YtcoplmnahnipiaaGreatDoorCards
import Derived.Test.YtcoplmnahnipiaaGreatDoorTie
import Derived.Test.YtcoplmnahnipiaaGreatDoorZ5
import Derived.WalkKit
import Derived.ProofKit
set_option linter.unusedVariables false
set_option linter.unusedSimpArgs false
set_option maxRecDepth 100000
namespace Go.Proofs.YtcoplmnahnipiaaGreatDoor.fnExactRounds
theorem S2:(Rows.fnExactRoundsRow.wf (OpenSpec.ofChange Rows.fnExactRoundsSpec))=true:=by kernel_rfl
theorem S3:(laidOutB Tryz.prog)=true:=by kernel_rfl
theorem S4:(mapsRowed Tryz.prog)=true:=by kernel_rfl
theorem S5:(Tryz.f7.params.all (Tryz.prog.readableRec ·))=true:=by kernel_rfl
theorem S6:(namedTie Tryz.prog Rows.fnExactRoundsRow.named Rows.fnExactRoundsSpec.vars)=true:=by kernel_rfl
theorem S7:((Rows.fnExactRoundsRow.stops==[]))=true:=by kernel_rfl
theorem S8:((Tryz.prog.stops==[]))=true:=by kernel_rfl
theorem S9:((Rows.fnExactRoundsRow.knobs==[]))=true:=by kernel_rfl
theorem Ta:((Tryz.prog.stopKnobs==[]))=true:=by kernel_rfl
theorem Tb:((Rows.fnExactRoundsRow.inPlace==Tryz.prog.inPlace 7))=true:=by kernel_rfl
end Go.Proofs.YtcoplmnahnipiaaGreatDoor.fnExactRounds
