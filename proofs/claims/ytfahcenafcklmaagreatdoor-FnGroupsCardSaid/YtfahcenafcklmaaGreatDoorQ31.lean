/- Part 31 of proofs that are told in their last texts. -/
import Derived.Test.YtfahcenafcklmaaGreatDoorCards
import Derived.Test.YtfahcenafcklmaaGreatDoorTie
import Derived.Test.YtfahcenafcklmaaGreatDoorQ5
import Derived.WalkKit
import Derived.ProofKit
set_option linter.unusedVariables false
set_option linter.unusedSimpArgs false
set_option maxRecDepth 100000
namespace Go.Proofs.YtfahcenafcklmaaGreatDoor.fnGroups
theorem Ra:(Rows.fnGroupsRow.wf (OpenSpec.ofChange Rows.fnGroupsSpec))=true:=by kernel_rfl
theorem Rb:(laidOutB Tryz.prog)=true:=by kernel_rfl
theorem Rc:(mapsRowed Tryz.prog)=true:=by kernel_rfl
theorem Re:(Tryz.f5.params.all (Tryz.prog.readableRec ·))=true:=by kernel_rfl
theorem Rf:(namedTie Tryz.prog Rows.fnGroupsRow.named Rows.fnGroupsSpec.vars)=true:=by kernel_rfl
theorem Rh:((Rows.fnGroupsRow.stops==[]))=true:=by kernel_rfl
theorem Ri:((Tryz.prog.stops==[]))=true:=by kernel_rfl
theorem Rj:((Rows.fnGroupsRow.knobs==[]))=true:=by kernel_rfl
theorem Rk:((Tryz.prog.stopKnobs==[]))=true:=by kernel_rfl
theorem Rl:((Rows.fnGroupsRow.inPlace==Tryz.prog.inPlace 5))=true:=by kernel_rfl
end Go.Proofs.YtfahcenafcklmaaGreatDoor.fnGroups
