/- Part 12 of proofs that are told in their last texts. -/
import Derived.Test.YtfmnfhpifpjljaaGreatDoorTie
import Derived.Test.YtfmnfhpifpjljaaGreatDoorO5
set_option linter.unusedVariables false
set_option linter.unusedSimpArgs false
set_option maxRecDepth 100000
namespace Go.Proofs.YtfmnfhpifpjljaaGreatDoor.fnLink
theorem ZA:(Rows.fnLinkRow.wf (OpenSpec.ofChange Rows.fnLinkSpec))=true:=by kernel_rfl
theorem ZB:(laidOutB Tryz.prog)=true:=by kernel_rfl
theorem ZC:(mapsRowed Tryz.prog)=true:=by kernel_rfl
theorem ZD:(Tryz.f5.params.all (Tryz.prog.readableRec ·))=true:=by kernel_rfl
theorem ZE:(namedTie Tryz.prog Rows.fnLinkRow.named Rows.fnLinkSpec.vars)=true:=by kernel_rfl
theorem ZF:((Rows.fnLinkRow.stops==[]))=true:=by kernel_rfl
theorem ZG:((Tryz.prog.stops==[]))=true:=by kernel_rfl
theorem ZH:((Rows.fnLinkRow.knobs==[]))=true:=by kernel_rfl
theorem ZI:((Tryz.prog.stopKnobs==[]))=true:=by kernel_rfl
theorem ZJ:((Rows.fnLinkRow.inPlace==Tryz.prog.inPlace 5))=true:=by kernel_rfl
end Go.Proofs.YtfmnfhpifpjljaaGreatDoor.fnLink
