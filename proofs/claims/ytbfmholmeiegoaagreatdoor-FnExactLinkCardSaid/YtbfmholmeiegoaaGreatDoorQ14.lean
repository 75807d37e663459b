/- Part 14 of proofs that are told in their last texts. -/
import Derived.Test.YtbfmholmeiegoaaGreatDoorCards
import Derived.Test.YtbfmholmeiegoaaGreatDoorTie
import Derived.Test.YtbfmholmeiegoaaGreatDoorQ5
import Derived.WalkKit
import Derived.ProofKit
set_option linter.unusedVariables false
set_option linter.unusedSimpArgs false
set_option maxRecDepth 100000
namespace Go.Proofs.YtbfmholmeiegoaaGreatDoor.fnExactLink
theorem Yl:((Rows.fnExactLinkRow.recurses==Tryz.prog.recurses 4))=true:=by kernel_rfl
theorem Yt:(Tryz.f4.resultTypes.all (fun t=>Tryz.prog.readableRec t&&decide (t < Tryz.prog.types.size)))=true:=by kernel_rfl
theorem Yu:((Rows.fnExactLinkRow.ifacesOut==Tryz.f4.resultTypes.toList.any (Tryz.prog.ifacesRec ·)))=true:=by kernel_rfl
theorem Yv:((Rows.fnExactLinkRow.loopsOut==Tryz.f4.resultTypes.toList.any (Tryz.prog.loopsFrom ·)))=true:=by kernel_rfl
theorem Yw:((Rows.fnExactLinkRow.plainKeys==Tryz.prog.plainKeys))=true:=by kernel_rfl
theorem Yx:(Rows.fnExactLinkRow.shortTexts.isNone)=true:=by kernel_rfl
theorem Yy:(Tryz.prog.stopsHeard)=true:=by kernel_rfl
end Go.Proofs.YtbfmholmeiegoaaGreatDoor.fnExactLink
