/- Part 13 of proofs that are told in their last texts. -/
import Derived.Test.YtfmnfhpifpjljaaGreatDoorTie
import Derived.Test.YtfmnfhpifpjljaaGreatDoorQ5
set_option linter.unusedVariables false
set_option linter.unusedSimpArgs false
set_option maxRecDepth 100000
namespace Go.Proofs.YtfmnfhpifpjljaaGreatDoor.fnRename
theorem aas:((Rows.fnRenameRow.unfollowed==Tryz.prog.unfollowed 4))=true:=by kernel_rfl
theorem aav:((Rows.fnRenameRow.maps==(Tryz.f4.params.toList++Rows.fnRenameSpec.plain.varTypes Tryz.prog).any (Tryz.prog.mapsRec ·)))=true:=by kernel_rfl
theorem aaw:((Rows.fnRenameRow.ifaces==(Tryz.f4.params.toList++Rows.fnRenameSpec.plain.varTypes Tryz.prog).any (Tryz.prog.ifacesRec ·)))=true:=by kernel_rfl
theorem aax:((Rows.fnRenameRow.mapsOut==Tryz.prog.mapsAmong Tryz.f4.resultTypes.toList))=true:=by kernel_rfl
theorem aay:((Rows.fnRenameRow.loops==(Tryz.f4.params.toList++Rows.fnRenameSpec.plain.varTypes Tryz.prog).any (Tryz.prog.loopsFrom ·)))=true:=by kernel_rfl
theorem aaz:((Rows.fnRenameRow.wideKeys==(Tryz.f4.params.toList++Rows.fnRenameSpec.plain.varTypes Tryz.prog++Tryz.f4.resultTypes.toList).any (Tryz.prog.wideKeysFrom ·)))=true:=by kernel_rfl
theorem aaA:(Rows.fnRenameSpec.vars.all (Tryz.prog.varReadable ·))=true:=by kernel_rfl
end Go.Proofs.YtfmnfhpifpjljaaGreatDoor.fnRename
