/- Part 12 of proofs that are told in their last texts. -/
import Derived.Test.YtcoplmnahnipiaaGreatDoorCards
import Derived.Test.YtcoplmnahnipiaaGreatDoorTie
import Derived.Test.YtcoplmnahnipiaaGreatDoorO5
import Derived.WalkKit
import Derived.ProofKit
set_option linter.unusedVariables false
set_option linter.unusedSimpArgs false
set_option maxRecDepth 100000
namespace Go.Proofs.YtcoplmnahnipiaaGreatDoor.fnExactLeafFirst
theorem Z8:(Rows.fnExactLeafFirstRow.wf (OpenSpec.ofChange Rows.fnExactLeafFirstSpec))=true:=by kernel_rfl
theorem Z9:(laidOutB Tryz.prog)=true:=by kernel_rfl
theorem fa2:(mapsRowed Tryz.prog)=true:=by kernel_rfl
theorem fa3:(Tryz.f8.params.all (Tryz.prog.readableRec ·))=true:=by kernel_rfl
theorem fa4:(namedTie Tryz.prog Rows.fnExactLeafFirstRow.named Rows.fnExactLeafFirstSpec.vars)=true:=by kernel_rfl
theorem fa5:((Rows.fnExactLeafFirstRow.stops==[]))=true:=by kernel_rfl
theorem fa6:((Tryz.prog.stops==[]))=true:=by kernel_rfl
theorem fa7:((Rows.fnExactLeafFirstRow.knobs==[]))=true:=by kernel_rfl
theorem fa8:((Tryz.prog.stopKnobs==[]))=true:=by kernel_rfl
theorem fa9:((Rows.fnExactLeafFirstRow.inPlace==Tryz.prog.inPlace 8))=true:=by kernel_rfl
end Go.Proofs.YtcoplmnahnipiaaGreatDoor.fnExactLeafFirst
