/- Part 12 of proofs that are told in their last texts. -/
import Derived.Test.YtfmnfhpifpjljaaGreatDoorTie
import Derived.Test.YtfmnfhpifpjljaaGreatDoorZ5
set_option linter.unusedVariables false
set_option linter.unusedSimpArgs false
set_option maxRecDepth 100000
namespace Go.Proofs.YtfmnfhpifpjljaaGreatDoor.fnMeanFuel
theorem fa0:(Rows.fnMeanFuelRow.wf (OpenSpec.ofChange Rows.fnMeanFuelSpec))=true:=by kernel_rfl
theorem fa1:(laidOutB Tryz.prog)=true:=by kernel_rfl
theorem fa2:(mapsRowed Tryz.prog)=true:=by kernel_rfl
theorem fa3:(Tryz.f3.params.all (Tryz.prog.readableRec ·))=true:=by kernel_rfl
theorem fa4:(namedTie Tryz.prog Rows.fnMeanFuelRow.named Rows.fnMeanFuelSpec.vars)=true:=by kernel_rfl
theorem fa5:((Rows.fnMeanFuelRow.stops==[]))=true:=by kernel_rfl
theorem fa6:((Tryz.prog.stops==[]))=true:=by kernel_rfl
theorem fa7:((Rows.fnMeanFuelRow.knobs==[]))=true:=by kernel_rfl
theorem fa8:((Tryz.prog.stopKnobs==[]))=true:=by kernel_rfl
theorem fa9:((Rows.fnMeanFuelRow.inPlace==Tryz.prog.inPlace 3))=true:=by kernel_rfl
end Go.Proofs.YtfmnfhpifpjljaaGreatDoor.fnMeanFuel
