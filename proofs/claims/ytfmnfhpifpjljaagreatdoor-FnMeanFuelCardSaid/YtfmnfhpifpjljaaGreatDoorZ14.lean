/- Part 14 of proofs that are told in their last texts. -/
import Derived.Test.YtfmnfhpifpjljaaGreatDoorTie
import Derived.Test.YtfmnfhpifpjljaaGreatDoorZ5
set_option linter.unusedVariables false
set_option linter.unusedSimpArgs false
set_option maxRecDepth 100000
namespace Go.Proofs.YtfmnfhpifpjljaaGreatDoor.fnMeanFuel
theorem ZI:((Rows.fnMeanFuelRow.recurses==Tryz.prog.recurses 3))=true:=by kernel_rfl
theorem ZQ:(Tryz.f3.resultTypes.all (fun t=>Tryz.prog.readableRec t&&decide (t<Tryz.prog.types.size)))=true:=by kernel_rfl
theorem ZR:((Rows.fnMeanFuelRow.ifacesOut==Tryz.f3.resultTypes.toList.any (Tryz.prog.ifacesRec ·)))=true:=by kernel_rfl
theorem ZS:((Rows.fnMeanFuelRow.loopsOut==Tryz.f3.resultTypes.toList.any (Tryz.prog.loopsFrom ·)))=true:=by kernel_rfl
theorem ZT:((Rows.fnMeanFuelRow.plainKeys==Tryz.prog.plainKeys))=true:=by kernel_rfl
theorem ZU:(Rows.fnMeanFuelRow.shortTexts.isNone)=true:=by kernel_rfl
theorem ZV:(Tryz.prog.stopsHeard)=true:=by kernel_rfl
end Go.Proofs.YtfmnfhpifpjljaaGreatDoor.fnMeanFuel
