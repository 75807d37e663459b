/- Part 13 of proofs that are told in their last texts. -/
import Derived.Test.YtbfmholmeiegoaaGreatDoorCards
import Derived.Test.YtbfmholmeiegoaaGreatDoorTie
import Derived.Test.YtbfmholmeiegoaaGreatDoorQ5
import Derived.WalkKit
import Derived.ProofKit
set_option linter.unusedVariables false
set_option linter.unusedSimpArgs false
set_option maxRecDepth 100000
namespace Go.Proofs.YtbfmholmeiegoaaGreatDoor.fnExactLink
theorem Yk:((Rows.fnExactLinkRow.unfollowed==Tryz.prog.unfollowed 4))=true:=by kernel_rfl
theorem Yn:((Rows.fnExactLinkRow.maps==(Tryz.f4.params.toList++Rows.fnExactLinkSpec.plain.varTypes Tryz.prog).any (Tryz.prog.mapsRec ·)))=true:=by kernel_rfl
theorem Yo:((Rows.fnExactLinkRow.ifaces==(Tryz.f4.params.toList++Rows.fnExactLinkSpec.plain.varTypes Tryz.prog).any (Tryz.prog.ifacesRec ·)))=true:=by kernel_rfl
theorem Yp:((Rows.fnExactLinkRow.mapsOut==Tryz.prog.mapsAmong Tryz.f4.resultTypes.toList))=true:=by kernel_rfl
theorem Yq:((Rows.fnExactLinkRow.loops==(Tryz.f4.params.toList++Rows.fnExactLinkSpec.plain.varTypes Tryz.prog).any (Tryz.prog.loopsFrom ·)))=true:=by kernel_rfl
theorem Yr:((Rows.fnExactLinkRow.wideKeys==(Tryz.f4.params.toList++Rows.fnExactLinkSpec.plain.varTypes Tryz.prog++Tryz.f4.resultTypes.toList).any (Tryz.prog.wideKeysFrom ·)))=true:=by kernel_rfl
theorem Ys:(Rows.fnExactLinkSpec.vars.all (Tryz.prog.varReadable ·))=true:=by kernel_rfl
end Go.Proofs.YtbfmholmeiegoaaGreatDoor.fnExactLink
