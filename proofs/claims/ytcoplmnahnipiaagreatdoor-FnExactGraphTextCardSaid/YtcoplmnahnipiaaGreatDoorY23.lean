/- Part 23 of proofs that are told in their last texts. -/
import Derived.Test.YtcoplmnahnipiaaGreatDoorCards
import Derived.Test.YtcoplmnahnipiaaGreatDoorTie
import Derived.Test.YtcoplmnahnipiaaGreatDoorY5
import Derived.WalkKit
import Derived.ProofKit
set_option linter.unusedVariables false
set_option linter.unusedSimpArgs false
set_option maxRecDepth 100000
namespace Go.Proofs.YtcoplmnahnipiaaGreatDoor.fnExactGraphText
theorem Af:((Rows.fnExactGraphTextRow.recurses==Tryz.prog.recurses 3))=true:=by kernel_rfl
theorem An:(Tryz.f3.resultTypes.all (fun t=>Tryz.prog.readableRec t&&decide (t < Tryz.prog.types.size)))=true:=by kernel_rfl
theorem Ao:((Rows.fnExactGraphTextRow.ifacesOut==Tryz.f3.resultTypes.toList.any (Tryz.prog.ifacesRec ·)))=true:=by kernel_rfl
theorem Ap:((Rows.fnExactGraphTextRow.loopsOut==Tryz.f3.resultTypes.toList.any (Tryz.prog.loopsFrom ·)))=true:=by kernel_rfl
theorem Aq:((Rows.fnExactGraphTextRow.plainKeys==Tryz.prog.plainKeys))=true:=by kernel_rfl
theorem Au:(Rows.fnExactGraphTextRow.shortTexts.isNone)=true:=by kernel_rfl
theorem Av:(Tryz.prog.stopsHeard)=true:=by kernel_rfl
end Go.Proofs.YtcoplmnahnipiaaGreatDoor.fnExactGraphText
