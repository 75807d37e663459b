/- Part 30 of proofs that are told in their last texts. -/
import Derived.Test.YtfahcenafcklmaaGreatDoorCards
import Derived.Test.YtfahcenafcklmaaGreatDoorTie
import Derived.Test.YtfahcenafcklmaaGreatDoorZ11
import Derived.WalkKit
import Derived.ProofKit
set_option linter.unusedVariables false
set_option linter.unusedSimpArgs false
set_option maxRecDepth 100000
namespace Go.Proofs.YtfahcenafcklmaaGreatDoor.fnTight
theorem Sq:(Rows.fnTightRow.wf (OpenSpec.ofChange Rows.fnTightSpec))=true:=by kernel_rfl
theorem Sr:(laidOutB Tryz.prog)=true:=by kernel_rfl
theorem Ss:(mapsRowed Tryz.prog)=true:=by kernel_rfl
theorem St:(Tryz.f7.params.all (Tryz.prog.readableRec ·))=true:=by kernel_rfl
theorem Su:(namedTie Tryz.prog Rows.fnTightRow.named Rows.fnTightSpec.vars)=true:=by kernel_rfl
theorem Sv:((Rows.fnTightRow.stops==[]))=true:=by kernel_rfl
theorem Sw:((Tryz.prog.stops==[]))=true:=by kernel_rfl
theorem Sy:((Rows.fnTightRow.knobs==[]))=true:=by kernel_rfl
theorem Sz:((Tryz.prog.stopKnobs==[]))=true:=by kernel_rfl
theorem SA:((Rows.fnTightRow.inPlace==Tryz.prog.inPlace 7))=true:=by kernel_rfl
end Go.Proofs.YtfahcenafcklmaaGreatDoor.fnTight
