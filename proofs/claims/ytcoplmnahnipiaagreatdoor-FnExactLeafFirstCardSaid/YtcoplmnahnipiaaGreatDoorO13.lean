/- Part 13 of proofs that are told in their last texts. -/
import Derived.Test.YtcoplmnahnipiaaGreatDoorCards
import Derived.Test.YtcoplmnahnipiaaGreatDoorTie
import Derived.Test.YtcoplmnahnipiaaGreatDoorO5
import Derived.WalkKit
import Derived.ProofKit
set_option linter.unusedVariables false
set_option linter.unusedSimpArgs false
set_option maxRecDepth 100000
namespace Go.Proofs.YtcoplmnahnipiaaGreatDoor.fnExactLeafFirst
theorem Yq:((Rows.fnExactLeafFirstRow.unfollowed==Tryz.prog.unfollowed 8))=true:=by kernel_rfl
theorem Yt:((Rows.fnExactLeafFirstRow.maps==(Tryz.f8.params.toList++Rows.fnExactLeafFirstSpec.plain.varTypes Tryz.prog).any (Tryz.prog.mapsRec ·)))=true:=by kernel_rfl
theorem Yu:((Rows.fnExactLeafFirstRow.ifaces==(Tryz.f8.params.toList++Rows.fnExactLeafFirstSpec.plain.varTypes Tryz.prog).any (Tryz.prog.ifacesRec ·)))=true:=by kernel_rfl
theorem Yv:((Rows.fnExactLeafFirstRow.mapsOut==Tryz.prog.mapsAmong Tryz.f8.resultTypes.toList))=true:=by kernel_rfl
theorem Yw:((Rows.fnExactLeafFirstRow.loops==(Tryz.f8.params.toList++Rows.fnExactLeafFirstSpec.plain.varTypes Tryz.prog).any (Tryz.prog.loopsFrom ·)))=true:=by kernel_rfl
theorem Yx:((Rows.fnExactLeafFirstRow.wideKeys==(Tryz.f8.params.toList++Rows.fnExactLeafFirstSpec.plain.varTypes Tryz.prog++Tryz.f8.resultTypes.toList).any (Tryz.prog.wideKeysFrom ·)))=true:=by kernel_rfl
theorem Yy:(Rows.fnExactLeafFirstSpec.vars.all (Tryz.prog.varReadable ·))=true:=by kernel_rfl
end Go.Proofs.YtcoplmnahnipiaaGreatDoor.fnExactLeafFirst
