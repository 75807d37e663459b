/- The law FnUses: whatever the bytes, the law answers true, and the bytes read as they did. No condition but the row's own: the library's tables are as the program's text lays them. -/
import Derived.Test.YtfahcenafcklmaaGreatDoorQ16
import Derived.Test.YtfahcenafcklmaaGreatDoorQ17
import Derived.Test.YtfahcenafcklmaaGreatDoorQ18
import Derived.Test.YtfahcenafcklmaaGreatDoorQ19
import Derived.Test.YtfahcenafcklmaaGreatDoorQ20
import Derived.Test.YtfahcenafcklmaaGreatDoorCards
import Derived.Test.YtfahcenafcklmaaGreatDoorTie
import Derived.Test.YtfahcenafcklmaaGreatDoorQ5
import Derived.Test.YtfahcenafcklmaaGreatDoorQ15
import Derived.Test.YtfahcenafcklmaaGreatDoorQ8
import Derived.Test.YtfahcenafcklmaaGreatDoorQ7
import Derived.WalkKit
import Derived.ProofKit
import Derived.OpenShut
import Derived.ShutString
import Derived.Carry
import Derived.Deep.DeepHandedRow
import Derived.Deep.DeepWitnessRowRef
set_option linter.unusedVariables false
set_option linter.unusedSimpArgs false
set_option maxRecDepth 100000
namespace Go.Proofs.YtfahcenafcklmaaGreatDoor.fnUses
open Go.ChangeShapes Go.WideShapes Go.ChangeAt Go.RowKit
theorem an {a b:Bool} (h:a=true) (k:b=true):(a&&b)=true:=by rw [h,k];rfl
theorem facts:joinedFacts Tryz.prog 3 Tryz.f3 Rows.fnUsesSpec Rows.fnUsesRow=true:=by
 unfold joinedFacts;exact (an (an (an (an (an (an (an (an (an (an (an (an (an (an (an (an (an (an (an (an (an (an (an (an (an (an (an (an (an (an (an Ra Rb) Rc) Re) Rf) Rh) Ri) Rj) Rk) Rl) Ja) Jb) Jc) Jd) Je) Jf) Jg) Jh) Ji) Jj) Jk) Jl) Jm) Jn) Jo) Jp) Jq) Jr) Js) Jt) Ju) Jv)
theorem said:Rows.FnUsesSaid :=
 OpenClaim.holds_of_cond 3 Tryz.f3 rfl rfl rfl rfl rfl rfl rfl ⟨rfl,rfl,rfl,rfl,rfl⟩ rfl rfl rfl rfl rfl (by kernel_rfl) Tryz.func3 facts
  (of_decide_eq_true (by kernel_rfl)) (by unfold Func.isWrapper;first | (rw [if_pos (by decide +kernel)];kernel_rfl) | (rw [if_neg (by decide +kernel)];exact ⟨rfl,rfl⟩))
  (fun os started H enc _ F=>by rw [OpenClaim.pre_eq_preRow];exact lifted os started H enc F)
theorem plain (f:FuncId) (fn:Func) (hf:Tryz.pinned.checked.prog.funcNamed "loop.example/g00472/laws.FnUses" = some f) (jZ:Tryz.pinned.checked.prog.funcs[f]?=some fn) :
  false=Tryz.pinned.checked.prog.looks []/\∀ (j:Nat) t,fn.params[j]?=some t->Tryz.pinned.checked.prog.wantsStandIn t=false:=by
 obtain rfl:f=3:=Option.some.inj ((show Tryz.prog.funcNamed "loop.example/g00472/laws.FnUses" = some 3 by kernel_rfl).symm.trans hf) |>.symm;obtain rfl:fn=Tryz.f3:=(Option.some.inj (Tryz.func3.symm.trans jZ)).symm;refine ⟨by kernel_rfl,fun j t ht=>?_⟩;rw [Tryz.params3] at ht
 have R8:Tryz.prog.wantsStandIn 22=false:=by kernel_rfl
 have Bw:t=22:=by simpa using Array.mem_of_getElem? ht
 subst Bw;exact R8
theorem proved:Rows.FnUsesCardSaid :=
 Claim7.holds_tied_plain_at .later [] _ _ _ _ said (fun _ h=>by cases h) (by kernel_rfl) (fun _ h=>by cases h) fnUses_row_tie rfl ⟨rfl,rfl⟩ (by kernel_rfl) rfl plain (by kernel_rfl)
#print axioms proved
end Go.Proofs.YtfahcenafcklmaaGreatDoor.fnUses
