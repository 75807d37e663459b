/- Part 13 of proofs that are told in their last texts. -/
import Derived.Test.YtfmnfhpifpjljaaGreatDoorCards
import Derived.Test.YtfmnfhpifpjljaaGreatDoorTie
import Derived.Test.YtfmnfhpifpjljaaGreatDoorZ5
set_option linter.unusedVariables false
set_option linter.unusedSimpArgs false
set_option maxRecDepth 100000
namespace Go.Proofs.YtfmnfhpifpjljaaGreatDoor.fnBound
theorem aan:((Rows.fnBoundRow.unfollowed==Tryz.prog.unfollowed 7))=true:=by kernel_rfl
theorem aaq:((Rows.fnBoundRow.maps==(Tryz.f7.params.toList++Rows.fnBoundSpec.plain.varTypes Tryz.prog).any (Tryz.prog.mapsRec ·)))=true:=by kernel_rfl
theorem aar:((Rows.fnBoundRow.ifaces==(Tryz.f7.params.toList++Rows.fnBoundSpec.plain.varTypes Tryz.prog).any (Tryz.prog.ifacesRec ·)))=true:=by kernel_rfl
theorem aas:((Rows.fnBoundRow.mapsOut==Tryz.prog.mapsAmong Tryz.f7.resultTypes.toList))=true:=by kernel_rfl
theorem aat:((Rows.fnBoundRow.loops==(Tryz.f7.params.toList++Rows.fnBoundSpec.plain.varTypes Tryz.prog).any (Tryz.prog.loopsFrom ·)))=true:=by kernel_rfl
theorem aau:((Rows.fnBoundRow.wideKeys==(Tryz.f7.params.toList++Rows.fnBoundSpec.plain.varTypes Tryz.prog++Tryz.f7.resultTypes.toList).any (Tryz.prog.wideKeysFrom ·)))=true:=by kernel_rfl
theorem aav:(Rows.fnBoundSpec.vars.all (Tryz.prog.varReadable ·))=true:=by kernel_rfl
end Go.Proofs.YtfmnfhpifpjljaaGreatDoor.fnBound
