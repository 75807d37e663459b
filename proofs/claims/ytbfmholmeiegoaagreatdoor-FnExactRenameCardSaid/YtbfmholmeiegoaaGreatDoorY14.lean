/- Part 14 of proofs that are told in their last texts. -/
import Derived.Test.YtbfmholmeiegoaaGreatDoorCards
import Derived.Test.YtbfmholmeiegoaaGreatDoorTie
import Derived.Test.YtbfmholmeiegoaaGreatDoorY5
import Derived.WalkKit
import Derived.ProofKit
set_option linter.unusedVariables false
set_option linter.unusedSimpArgs false
set_option maxRecDepth 100000
namespace Go.Proofs.YtbfmholmeiegoaaGreatDoor.fnExactRename
theorem aap:((Rows.fnExactRenameRow.recurses==Tryz.prog.recurses 3))=true:=by kernel_rfl
theorem aax:(Tryz.f3.resultTypes.all (fun t=>Tryz.prog.readableRec t&&decide (t < Tryz.prog.types.size)))=true:=by kernel_rfl
theorem aay:((Rows.fnExactRenameRow.ifacesOut==Tryz.f3.resultTypes.toList.any (Tryz.prog.ifacesRec ·)))=true:=by kernel_rfl
theorem aaz:((Rows.fnExactRenameRow.loopsOut==Tryz.f3.resultTypes.toList.any (Tryz.prog.loopsFrom ·)))=true:=by kernel_rfl
theorem aaA:((Rows.fnExactRenameRow.plainKeys==Tryz.prog.plainKeys))=true:=by kernel_rfl
theorem aaB:(Rows.fnExactRenameRow.shortTexts.isNone)=true:=by kernel_rfl
theorem aaC:(Tryz.prog.stopsHeard)=true:=by kernel_rfl
end Go.Proofs.YtbfmholmeiegoaaGreatDoor.fnExactRename
