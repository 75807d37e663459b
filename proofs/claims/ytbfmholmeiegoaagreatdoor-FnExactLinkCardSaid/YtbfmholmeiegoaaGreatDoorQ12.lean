/- Part 12 of proofs that are told in their last texts. -/
import Derived.Test.YtbfmholmeiegoaaGreatDoorCards
import Derived.Test.YtbfmholmeiegoaaGreatDoorTie
import Derived.Test.YtbfmholmeiegoaaGreatDoorQ5
import Derived.WalkKit
import Derived.ProofKit
set_option linter.unusedVariables false
set_option linter.unusedSimpArgs false
set_option maxRecDepth 100000
namespace Go.Proofs.YtbfmholmeiegoaaGreatDoor.fnExactLink
theorem ZW:(Rows.fnExactLinkRow.wf (OpenSpec.ofChange Rows.fnExactLinkSpec))=true:=by kernel_rfl
theorem ZX:(laidOutB Tryz.prog)=true:=by kernel_rfl
theorem ZY:(mapsRowed Tryz.prog)=true:=by kernel_rfl
theorem ZZ:(Tryz.f4.params.all (Tryz.prog.readableRec ·))=true:=by kernel_rfl
theorem Z0:(namedTie Tryz.prog Rows.fnExactLinkRow.named Rows.fnExactLinkSpec.vars)=true:=by kernel_rfl
theorem Z1:((Rows.fnExactLinkRow.stops==[]))=true:=by kernel_rfl
theorem Z2:((Tryz.prog.stops==[]))=true:=by kernel_rfl
theorem Z3:((Rows.fnExactLinkRow.knobs==[]))=true:=by kernel_rfl
theorem Z4:((Tryz.prog.stopKnobs==[]))=true:=by kernel_rfl
theorem Z5:((Rows.fnExactLinkRow.inPlace==Tryz.prog.inPlace 4))=true:=by kernel_rfl
end Go.Proofs.YtbfmholmeiegoaaGreatDoor.fnExactLink
