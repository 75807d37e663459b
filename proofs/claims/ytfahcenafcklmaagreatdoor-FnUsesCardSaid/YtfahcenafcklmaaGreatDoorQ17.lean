/- Part 17 of proofs that are told in their last texts. -/
import Derived.Test.YtfahcenafcklmaaGreatDoorCards
import Derived.Test.YtfahcenafcklmaaGreatDoorTie
import Derived.Test.YtfahcenafcklmaaGreatDoorQ5
import Derived.WalkKit
import Derived.ProofKit
set_option linter.unusedVariables false
set_option linter.unusedSimpArgs false
set_option maxRecDepth 100000
namespace Go.Proofs.YtfahcenafcklmaaGreatDoor.fnUses
theorem Ra:(Rows.fnUsesRow.wf (OpenSpec.ofChange Rows.fnUsesSpec))=true:=by kernel_rfl
theorem Rb:(laidOutB Tryz.prog)=true:=by kernel_rfl
theorem Rc:(mapsRowed Tryz.prog)=true:=by kernel_rfl
theorem Re:(Tryz.f3.params.all (Tryz.prog.readableRec ·))=true:=by kernel_rfl
theorem Rf:(namedTie Tryz.prog Rows.fnUsesRow.named Rows.fnUsesSpec.vars)=true:=by kernel_rfl
theorem Rh:((Rows.fnUsesRow.stops==[]))=true:=by kernel_rfl
theorem Ri:((Tryz.prog.stops==[]))=true:=by kernel_rfl
theorem Rj:((Rows.fnUsesRow.knobs==[]))=true:=by kernel_rfl
theorem Rk:((Tryz.prog.stopKnobs==[]))=true:=by kernel_rfl
theorem Rl:((Rows.fnUsesRow.inPlace==Tryz.prog.inPlace 3))=true:=by kernel_rfl
end Go.Proofs.YtfahcenafcklmaaGreatDoor.fnUses
