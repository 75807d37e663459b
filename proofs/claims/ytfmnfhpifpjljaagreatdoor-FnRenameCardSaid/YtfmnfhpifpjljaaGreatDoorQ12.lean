/- Part 12 of proofs that are told in their last texts. -/
import Derived.Test.YtfmnfhpifpjljaaGreatDoorTie
import Derived.Test.YtfmnfhpifpjljaaGreatDoorQ5
set_option linter.unusedVariables false
set_option linter.unusedSimpArgs false
set_option maxRecDepth 100000
namespace Go.Proofs.YtfmnfhpifpjljaaGreatDoor.fnRename
theorem fa0:(Rows.fnRenameRow.wf (OpenSpec.ofChange Rows.fnRenameSpec))=true:=by kernel_rfl
theorem fa1:(laidOutB Tryz.prog)=true:=by kernel_rfl
theorem fa2:(mapsRowed Tryz.prog)=true:=by kernel_rfl
theorem fa3:(Tryz.f4.params.all (Tryz.prog.readableRec ·))=true:=by kernel_rfl
theorem fa4:(namedTie Tryz.prog Rows.fnRenameRow.named Rows.fnRenameSpec.vars)=true:=by kernel_rfl
theorem fa5:((Rows.fnRenameRow.stops==[]))=true:=by kernel_rfl
theorem fa6:((Tryz.prog.stops==[]))=true:=by kernel_rfl
theorem fa7:((Rows.fnRenameRow.knobs==[]))=true:=by kernel_rfl
theorem fa8:((Tryz.prog.stopKnobs==[]))=true:=by kernel_rfl
theorem fa9:((Rows.fnRenameRow.inPlace==Tryz.prog.inPlace 4))=true:=by kernel_rfl
end Go.Proofs.YtfmnfhpifpjljaaGreatDoor.fnRename
