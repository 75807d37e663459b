/- Part 13 of proofs that are told in their last texts. -/
import Derived.Test.YtfmnfhpifpjljaaGreatDoorTie
import Derived.Test.YtfmnfhpifpjljaaGreatDoorO5
set_option linter.unusedVariables false
set_option linter.unusedSimpArgs false
set_option maxRecDepth 100000
namespace Go.Proofs.YtfmnfhpifpjljaaGreatDoor.fnLink
theorem Yf:((Rows.fnLinkRow.unfollowed==Tryz.prog.unfollowed 5))=true:=by kernel_rfl
theorem Yi:((Rows.fnLinkRow.maps==(Tryz.f5.params.toList++Rows.fnLinkSpec.plain.varTypes Tryz.prog).any (Tryz.prog.mapsRec ·)))=true:=by kernel_rfl
theorem Yj:((Rows.fnLinkRow.ifaces==(Tryz.f5.params.toList++Rows.fnLinkSpec.plain.varTypes Tryz.prog).any (Tryz.prog.ifacesRec ·)))=true:=by kernel_rfl
theorem Yk:((Rows.fnLinkRow.mapsOut==Tryz.prog.mapsAmong Tryz.f5.resultTypes.toList))=true:=by kernel_rfl
theorem Yl:((Rows.fnLinkRow.loops==(Tryz.f5.params.toList++Rows.fnLinkSpec.plain.varTypes Tryz.prog).any (Tryz.prog.loopsFrom ·)))=true:=by kernel_rfl
theorem Ym:((Rows.fnLinkRow.wideKeys==(Tryz.f5.params.toList++Rows.fnLinkSpec.plain.varTypes Tryz.prog++Tryz.f5.resultTypes.toList).any (Tryz.prog.wideKeysFrom ·)))=true:=by kernel_rfl
theorem Yn:(Rows.fnLinkSpec.vars.all (Tryz.prog.varReadable ·))=true:=by kernel_rfl
end Go.Proofs.YtfmnfhpifpjljaaGreatDoor.fnLink
