/- Part 21 of proofs that are told in their last texts. -/
import Derived.Test.YtcoplmnahnipiaaGreatDoorCards
import Derived.Test.YtcoplmnahnipiaaGreatDoorTie
import Derived.Test.YtcoplmnahnipiaaGreatDoorY5
import Derived.WalkKit
import Derived.ProofKit
set_option linter.unusedVariables false
set_option linter.unusedSimpArgs false
set_option maxRecDepth 100000
namespace Go.Proofs.YtcoplmnahnipiaaGreatDoor.fnExactGraphText
theorem EU:(Rows.fnExactGraphTextRow.wf (OpenSpec.ofChange Rows.fnExactGraphTextSpec))=true:=by kernel_rfl
theorem EV:(laidOutB Tryz.prog)=true:=by kernel_rfl
theorem EW:(mapsRowed Tryz.prog)=true:=by kernel_rfl
theorem EX:(Tryz.f3.params.all (Tryz.prog.readableRec ·))=true:=by kernel_rfl
theorem EY:(namedTie Tryz.prog Rows.fnExactGraphTextRow.named Rows.fnExactGraphTextSpec.vars)=true:=by kernel_rfl
theorem EZ:((Rows.fnExactGraphTextRow.stops==[]))=true:=by kernel_rfl
theorem E0:((Tryz.prog.stops==[]))=true:=by kernel_rfl
theorem E7:((Rows.fnExactGraphTextRow.knobs==[]))=true:=by kernel_rfl
theorem E8:((Tryz.prog.stopKnobs==[]))=true:=by kernel_rfl
theorem E9:((Rows.fnExactGraphTextRow.inPlace==Tryz.prog.inPlace 3))=true:=by kernel_rfl
end Go.Proofs.YtcoplmnahnipiaaGreatDoor.fnExactGraphText
