/- Part 22 of proofs that are told in their last texts. -/
import Derived.Test.YtcoplmnahnipiaaGreatDoorCards
import Derived.Test.YtcoplmnahnipiaaGreatDoorTie
import Derived.Test.YtcoplmnahnipiaaGreatDoorY5
import Derived.WalkKit
import Derived.ProofKit
set_option linter.unusedVariables false
set_option linter.unusedSimpArgs false
set_option maxRecDepth 100000
namespace Go.Proofs.YtcoplmnahnipiaaGreatDoor.fnExactGraphText
theorem Ae:((Rows.fnExactGraphTextRow.unfollowed==Tryz.prog.unfollowed 3))=true:=by kernel_rfl
theorem Ah:((Rows.fnExactGraphTextRow.maps==(Tryz.f3.params.toList++Rows.fnExactGraphTextSpec.plain.varTypes Tryz.prog).any (Tryz.prog.mapsRec ·)))=true:=by kernel_rfl
theorem Ai:((Rows.fnExactGraphTextRow.ifaces==(Tryz.f3.params.toList++Rows.fnExactGraphTextSpec.plain.varTypes Tryz.prog).any (Tryz.prog.ifacesRec ·)))=true:=by kernel_rfl
theorem Aj:((Rows.fnExactGraphTextRow.mapsOut==Tryz.prog.mapsAmong Tryz.f3.resultTypes.toList))=true:=by kernel_rfl
theorem Ak:((Rows.fnExactGraphTextRow.loops==(Tryz.f3.params.toList++Rows.fnExactGraphTextSpec.plain.varTypes Tryz.prog).any (Tryz.prog.loopsFrom ·)))=true:=by kernel_rfl
theorem Al:((Rows.fnExactGraphTextRow.wideKeys==(Tryz.f3.params.toList++Rows.fnExactGraphTextSpec.plain.varTypes Tryz.prog++Tryz.f3.resultTypes.toList).any (Tryz.prog.wideKeysFrom ·)))=true:=by kernel_rfl
theorem Am:(Rows.fnExactGraphTextSpec.vars.all (Tryz.prog.varReadable ·))=true:=by kernel_rfl
end Go.Proofs.YtcoplmnahnipiaaGreatDoor.fnExactGraphText
