/- Part 14 of proofs that are told in their last texts. -/
import Derived.Test.YtbfmholmeiegoaaGreatDoorCards
import Derived.Test.YtbfmholmeiegoaaGreatDoorTie
import Derived.Test.YtbfmholmeiegoaaGreatDoorZ5
import Derived.WalkKit
import Derived.ProofKit
set_option linter.unusedVariables false
set_option linter.unusedSimpArgs false
set_option maxRecDepth 100000
namespace Go.Proofs.YtbfmholmeiegoaaGreatDoor.fnExactExtract
theorem aaO:((Rows.fnExactExtractRow.recurses==Tryz.prog.recurses 5))=true:=by kernel_rfl
theorem aaW:(Tryz.f5.resultTypes.all (fun t=>Tryz.prog.readableRec t&&decide (t < Tryz.prog.types.size)))=true:=by kernel_rfl
theorem aaX:((Rows.fnExactExtractRow.ifacesOut==Tryz.f5.resultTypes.toList.any (Tryz.prog.ifacesRec ·)))=true:=by kernel_rfl
theorem aaY:((Rows.fnExactExtractRow.loopsOut==Tryz.f5.resultTypes.toList.any (Tryz.prog.loopsFrom ·)))=true:=by kernel_rfl
theorem aaZ:((Rows.fnExactExtractRow.plainKeys==Tryz.prog.plainKeys))=true:=by kernel_rfl
theorem aa0:(Rows.fnExactExtractRow.shortTexts.isNone)=true:=by kernel_rfl
theorem aa1:(Tryz.prog.stopsHeard)=true:=by kernel_rfl
end Go.Proofs.YtbfmholmeiegoaaGreatDoor.fnExactExtract
