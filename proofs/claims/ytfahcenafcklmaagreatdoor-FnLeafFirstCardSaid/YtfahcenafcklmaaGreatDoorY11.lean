/- Part 11 of proofs that are told in their last texts. -/
import Derived.Test.YtfahcenafcklmaaGreatDoorCards
import Derived.Test.YtfahcenafcklmaaGreatDoorTie
import Derived.Test.YtfahcenafcklmaaGreatDoorY5
import Derived.WalkKit
import Derived.ProofKit
set_option linter.unusedVariables false
set_option linter.unusedSimpArgs false
set_option maxRecDepth 100000
namespace Go.Proofs.YtfahcenafcklmaaGreatDoor.fnLeafFirst
theorem fa0:(Rows.fnLeafFirstRow.wf (OpenSpec.ofChange Rows.fnLeafFirstSpec))=true:=by kernel_rfl
theorem fa1:(laidOutB Tryz.prog)=true:=by kernel_rfl
theorem fa2:(mapsRowed Tryz.prog)=true:=by kernel_rfl
theorem fa3:(Tryz.f6.params.all (Tryz.prog.readableRec ·))=true:=by kernel_rfl
theorem fa4:(namedTie Tryz.prog Rows.fnLeafFirstRow.named Rows.fnLeafFirstSpec.vars)=true:=by kernel_rfl
theorem fa5:((Rows.fnLeafFirstRow.stops==[]))=true:=by kernel_rfl
theorem fa6:((Tryz.prog.stops==[]))=true:=by kernel_rfl
theorem fa7:((Rows.fnLeafFirstRow.knobs==[]))=true:=by kernel_rfl
theorem fa8:((Tryz.prog.stopKnobs==[]))=true:=by kernel_rfl
theorem fa9:((Rows.fnLeafFirstRow.inPlace==Tryz.prog.inPlace 6))=true:=by kernel_rfl
end Go.Proofs.YtfahcenafcklmaaGreatDoor.fnLeafFirst
