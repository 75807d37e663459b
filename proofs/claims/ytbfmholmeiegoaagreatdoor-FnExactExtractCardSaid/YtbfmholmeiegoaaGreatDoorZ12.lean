/- Part 12 of proofs that are told in their last texts. -/
import Derived.Test.YtbfmholmeiegoaaGreatDoorCards
import Derived.Test.YtbfmholmeiegoaaGreatDoorTie
import Derived.Test.YtbfmholmeiegoaaGreatDoorZ5
import Derived.WalkKit
import Derived.ProofKit
set_option linter.unusedVariables false
set_option linter.unusedSimpArgs false
set_option maxRecDepth 100000
namespace Go.Proofs.YtbfmholmeiegoaaGreatDoor.fnExactExtract
theorem fa0:(Rows.fnExactExtractRow.wf (OpenSpec.ofChange Rows.fnExactExtractSpec))=true:=by kernel_rfl
theorem fa1:(laidOutB Tryz.prog)=true:=by kernel_rfl
theorem fa2:(mapsRowed Tryz.prog)=true:=by kernel_rfl
theorem fa3:(Tryz.f5.params.all (Tryz.prog.readableRec ·))=true:=by kernel_rfl
theorem fa4:(namedTie Tryz.prog Rows.fnExactExtractRow.named Rows.fnExactExtractSpec.vars)=true:=by kernel_rfl
theorem fa5:((Rows.fnExactExtractRow.stops==[]))=true:=by kernel_rfl
theorem fa6:((Tryz.prog.stops==[]))=true:=by kernel_rfl
theorem fa7:((Rows.fnExactExtractRow.knobs==[]))=true:=by kernel_rfl
theorem fa8:((Tryz.prog.stopKnobs==[]))=true:=by kernel_rfl
theorem fa9:((Rows.fnExactExtractRow.inPlace==Tryz.prog.inPlace 5))=true:=by kernel_rfl
end Go.Proofs.YtbfmholmeiegoaaGreatDoor.fnExactExtract
