/- Part 13 of proofs that are told in their last texts. -/
import Derived.Test.YtfmnfhpifpjljaaGreatDoorTie
import Derived.Test.YtfmnfhpifpjljaaGreatDoorZ5
set_option linter.unusedVariables false
set_option linter.unusedSimpArgs false
set_option maxRecDepth 100000
namespace Go.Proofs.YtfmnfhpifpjljaaGreatDoor.fnMeanFuel
theorem ZH:((Rows.fnMeanFuelRow.unfollowed==Tryz.prog.unfollowed 3))=true:=by kernel_rfl
theorem ZK:((Rows.fnMeanFuelRow.maps==(Tryz.f3.params.toList++Rows.fnMeanFuelSpec.plain.varTypes Tryz.prog).any (Tryz.prog.mapsRec ·)))=true:=by kernel_rfl
theorem ZL:((Rows.fnMeanFuelRow.ifaces==(Tryz.f3.params.toList++Rows.fnMeanFuelSpec.plain.varTypes Tryz.prog).any (Tryz.prog.ifacesRec ·)))=true:=by kernel_rfl
theorem ZM:((Rows.fnMeanFuelRow.mapsOut==Tryz.prog.mapsAmong Tryz.f3.resultTypes.toList))=true:=by kernel_rfl
theorem ZN:((Rows.fnMeanFuelRow.loops==(Tryz.f3.params.toList++Rows.fnMeanFuelSpec.plain.varTypes Tryz.prog).any (Tryz.prog.loopsFrom ·)))=true:=by kernel_rfl
theorem ZO:((Rows.fnMeanFuelRow.wideKeys==(Tryz.f3.params.toList++Rows.fnMeanFuelSpec.plain.varTypes Tryz.prog++Tryz.f3.resultTypes.toList).any (Tryz.prog.wideKeysFrom ·)))=true:=by kernel_rfl
theorem ZP:(Rows.fnMeanFuelSpec.vars.all (Tryz.prog.varReadable ·))=true:=by kernel_rfl
end Go.Proofs.YtfmnfhpifpjljaaGreatDoor.fnMeanFuel
