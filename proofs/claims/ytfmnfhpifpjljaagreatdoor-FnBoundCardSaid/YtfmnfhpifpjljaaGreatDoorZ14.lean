/- Part 14 of proofs that are told in their last texts. -/
import Derived.Test.YtfmnfhpifpjljaaGreatDoorCards
import Derived.Test.YtfmnfhpifpjljaaGreatDoorTie
import Derived.Test.YtfmnfhpifpjljaaGreatDoorZ5
set_option linter.unusedVariables false
set_option linter.unusedSimpArgs false
set_option maxRecDepth 100000
namespace Go.Proofs.YtfmnfhpifpjljaaGreatDoor.fnBound
theorem aao:((Rows.fnBoundRow.recurses==Tryz.prog.recurses 7))=true:=by kernel_rfl
theorem aaw:(Tryz.f7.resultTypes.all (fun t=>Tryz.prog.readableRec t&&decide (t<Tryz.prog.types.size)))=true:=by kernel_rfl
theorem aax:((Rows.fnBoundRow.ifacesOut==Tryz.f7.resultTypes.toList.any (Tryz.prog.ifacesRec ·)))=true:=by kernel_rfl
theorem aay:((Rows.fnBoundRow.loopsOut==Tryz.f7.resultTypes.toList.any (Tryz.prog.loopsFrom ·)))=true:=by kernel_rfl
theorem aaz:((Rows.fnBoundRow.plainKeys==Tryz.prog.plainKeys))=true:=by kernel_rfl
theorem aaA:(Rows.fnBoundRow.shortTexts.isNone)=true:=by kernel_rfl
theorem aaB:(Tryz.prog.stopsHeard)=true:=by kernel_rfl
end Go.Proofs.YtfmnfhpifpjljaaGreatDoor.fnBound
