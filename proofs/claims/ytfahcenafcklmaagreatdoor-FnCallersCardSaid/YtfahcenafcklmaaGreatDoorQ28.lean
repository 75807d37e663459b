/- The law FnCallers: whatever the bytes, the law answers true, and the bytes read as they did. No condition but the row's own: the library's tables are as the program's text lays them. -/
import Derived.Test.YtfahcenafcklmaaGreatDoorQ23
import Derived.Test.YtfahcenafcklmaaGreatDoorQ24
import Derived.Test.YtfahcenafcklmaaGreatDoorQ25
import Derived.Test.YtfahcenafcklmaaGreatDoorQ26
import Derived.Test.YtfahcenafcklmaaGreatDoorQ27
import Derived.Test.YtfahcenafcklmaaGreatDoorCards
import Derived.Test.YtfahcenafcklmaaGreatDoorTie
import Derived.Test.YtfahcenafcklmaaGreatDoorQ5
import Derived.Test.YtfahcenafcklmaaGreatDoorQ22
import Derived.Test.YtfahcenafcklmaaGreatDoorQ8
import Derived.Test.YtfahcenafcklmaaGreatDoorQ7
import Derived.WalkKit
import Derived.ProofKit
import Derived.OpenShut
import Derived.ShutString
import Derived.Carry
import Derived.Deep.DeepHandedRow
import Derived.Deep.DeepWitnessRowRef
set_option linter.unusedVariables false
set_option linter.unusedSimpArgs false
set_option maxRecDepth 100000
namespace Go.Proofs.YtfahcenafcklmaaGreatDoor.fnCallers
open Go.ChangeShapes Go.WideShapes Go.ChangeAt Go.RowKit
theorem an {a b:Bool} (h:a=true) (k:b=true):(a&&b)=true:=by rw [h,k];rfl
theorem facts:joinedFacts Tryz.prog 4 Tryz.f4 Rows.fnCallersSpec Rows.fnCallersRow=true:=by
 unfold joinedFacts;exact (an (an (an (an (an (an (an (an (an (an (an (an (an (an (an (an (an (an (an (an (an (an (an (an (an (an (an (an (an (an (an Ra Rb) Rc) Re) Rf) Rh) Ri) Rj) Rk) Rl) Ja) Jb) Jc) Jd) Je) Jf) Jg) Jh) Ji) Jj) Jk) Jl) Jm) Jn) Jo) Jp) Jq) Jr) Js) Jt) Ju) Jv)
theorem said:Rows.FnCallersSaid :=
 OpenClaim.holds_of_cond 4 Tryz.f4 rfl rfl rfl rfl rfl rfl rfl ⟨rfl,rfl,rfl,rfl,rfl⟩ rfl rfl rfl rfl rfl (by kernel_rfl) Tryz.func4 facts
  (of_decide_eq_true (by kernel_rfl)) (by unfold Func.isWrapper;first | (rw [if_pos (by decide +kernel)];kernel_rfl) | (rw [if_neg (by decide +kernel)];exact ⟨rfl,rfl⟩))
  (fun os started H enc _ F=>by rw [OpenClaim.pre_eq_preRow];exact lifted os started H enc F)
theorem plain (f:FuncId) (fn:Func) (hf:Tryz.pinned.checked.prog.funcNamed "loop.example/g00472/laws.FnCallers" = some f) (jZ:Tryz.pinned.checked.prog.funcs[f]?=some fn) :
  false=Tryz.pinned.checked.prog.looks []/\∀ (j:Nat) t,fn.params[j]?=some t->Tryz.pinned.checked.prog.wantsStandIn t=false:=by
 obtain rfl:f=4:=Option.some.inj ((show Tryz.prog.funcNamed "loop.example/g00472/laws.FnCallers" = some 4 by kernel_rfl).symm.trans hf) |>.symm;obtain rfl:fn=Tryz.f4:=(Option.some.inj (Tryz.func4.symm.trans jZ)).symm;refine ⟨by kernel_rfl,fun j t ht=>?_⟩;rw [Tryz.params4] at ht
 have R8:Tryz.prog.wantsStandIn 22=false:=by kernel_rfl
 have Bw:t=22:=by simpa using Array.mem_of_getElem? ht
 subst Bw;exact R8
theorem proved:Rows.FnCallersCardSaid :=
 Claim7.holds_tied_plain_at .later [] _ _ _ _ said (fun _ h=>by cases h) (by kernel_rfl) (fun _ h=>by cases h) fnCallers_row_tie rfl ⟨rfl,rfl⟩ (by kernel_rfl) rfl plain (by kernel_rfl)
#print axioms proved
end Go.Proofs.YtfahcenafcklmaaGreatDoor.fnCallers
