/- Part 14 of proofs that are told in their last texts. -/
import Derived.Test.YtfmnfhpifpjljaaGreatDoorTie
import Derived.Test.YtfmnfhpifpjljaaGreatDoorQ5
set_option linter.unusedVariables false
set_option linter.unusedSimpArgs false
set_option maxRecDepth 100000
namespace Go.Proofs.YtfmnfhpifpjljaaGreatDoor.fnRename
theorem aat:((Rows.fnRenameRow.recurses==Tryz.prog.recurses 4))=true:=by kernel_rfl
theorem aaB:(Tryz.f4.resultTypes.all (fun t=>Tryz.prog.readableRec t&&decide (t<Tryz.prog.types.size)))=true:=by kernel_rfl
theorem aaC:((Rows.fnRenameRow.ifacesOut==Tryz.f4.resultTypes.toList.any (Tryz.prog.ifacesRec ·)))=true:=by kernel_rfl
theorem aaD:((Rows.fnRenameRow.loopsOut==Tryz.f4.resultTypes.toList.any (Tryz.prog.loopsFrom ·)))=true:=by kernel_rfl
theorem aaE:((Rows.fnRenameRow.plainKeys==Tryz.prog.plainKeys))=true:=by kernel_rfl
theorem aaF:(Rows.fnRenameRow.shortTexts.isNone)=true:=by kernel_rfl
theorem aaG:(Tryz.prog.stopsHeard)=true:=by kernel_rfl
end Go.Proofs.YtfmnfhpifpjljaaGreatDoor.fnRename
