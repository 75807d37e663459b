/- Part 14 of proofs that are told in their last texts. -/
import Derived.Test.YtfmnfhpifpjljaaGreatDoorTie
import Derived.Test.YtfmnfhpifpjljaaGreatDoorO5
set_option linter.unusedVariables false
set_option linter.unusedSimpArgs false
set_option maxRecDepth 100000
namespace Go.Proofs.YtfmnfhpifpjljaaGreatDoor.fnLink
theorem Yg:((Rows.fnLinkRow.recurses==Tryz.prog.recurses 5))=true:=by kernel_rfl
theorem Yo:(Tryz.f5.resultTypes.all (fun t=>Tryz.prog.readableRec t&&decide (t<Tryz.prog.types.size)))=true:=by kernel_rfl
theorem Yp:((Rows.fnLinkRow.ifacesOut==Tryz.f5.resultTypes.toList.any (Tryz.prog.ifacesRec ·)))=true:=by kernel_rfl
theorem Yq:((Rows.fnLinkRow.loopsOut==Tryz.f5.resultTypes.toList.any (Tryz.prog.loopsFrom ·)))=true:=by kernel_rfl
theorem Yr:((Rows.fnLinkRow.plainKeys==Tryz.prog.plainKeys))=true:=by kernel_rfl
theorem Ys:(Rows.fnLinkRow.shortTexts.isNone)=true:=by kernel_rfl
theorem Yt:(Tryz.prog.stopsHeard)=true:=by kernel_rfl
end Go.Proofs.YtfmnfhpifpjljaaGreatDoor.fnLink
