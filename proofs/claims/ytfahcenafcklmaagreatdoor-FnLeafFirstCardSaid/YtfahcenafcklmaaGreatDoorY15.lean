/- The law FnLeafFirst: whatever the bytes, the law answers true, and the bytes read as they did. No condition but the row's own: the library's tables are as the program's text lays them. -/
import Derived.Test.YtfahcenafcklmaaGreatDoorY10
import Derived.Test.YtfahcenafcklmaaGreatDoorY11
import Derived.Test.YtfahcenafcklmaaGreatDoorY12
import Derived.Test.YtfahcenafcklmaaGreatDoorY13
import Derived.Test.YtfahcenafcklmaaGreatDoorY14
import Derived.Test.YtfahcenafcklmaaGreatDoorCards
import Derived.Test.YtfahcenafcklmaaGreatDoorTie
import Derived.Test.YtfahcenafcklmaaGreatDoorY5
import Derived.Test.YtfahcenafcklmaaGreatDoorY9
import Derived.Test.YtfahcenafcklmaaGreatDoorY7
import Derived.WalkKit
import Derived.ProofKit
import Derived.OpenShut
import Derived.ShutString
import Derived.Carry
import Derived.Deep.DeepHandedRow
import Derived.Deep.DeepWitnessRowRef
set_option linter.unusedVariables false
set_option linter.unusedSimpArgs false
set_option maxRecDepth 100000
namespace Go.Proofs.YtfahcenafcklmaaGreatDoor.fnLeafFirst
open Go.ChangeShapes Go.WideShapes Go.ChangeAt Go.RowKit
theorem an {a b:Bool} (h:a=true) (k:b=true):(a&&b)=true:=by rw [h,k];rfl
theorem facts:joinedFacts Tryz.prog 6 Tryz.f6 Rows.fnLeafFirstSpec Rows.fnLeafFirstRow=true:=by
 unfold joinedFacts;exact (an (an (an (an (an (an (an (an (an (an (an (an (an (an (an (an (an (an (an (an (an (an (an (an (an (an (an (an (an (an (an fa0 fa1) fa2) fa3) fa4) fa5) fa6) fa7) fa8) fa9) aaG) aaH) aaI) aaJ) aaK) aaL) aaM) aaN) aaO) aaP) aaQ) aaR) aaS) aaT) aaU) aaV) aaW) aaX) aaY) aaZ) aa0) aa1)
theorem said:Rows.FnLeafFirstSaid :=
 OpenClaim.holds_of_cond 6 Tryz.f6 rfl rfl rfl rfl rfl rfl rfl ⟨rfl,rfl,rfl,rfl,rfl⟩ rfl rfl rfl rfl rfl (by kernel_rfl) Tryz.func6 facts
  (of_decide_eq_true (by kernel_rfl)) (by unfold Func.isWrapper;first | (rw [if_pos (by decide +kernel)];kernel_rfl) | (rw [if_neg (by decide +kernel)];exact ⟨rfl,rfl⟩))
  (fun os started H enc _ F=>by rw [OpenClaim.pre_eq_preRow];exact lifted os started H enc F)
theorem plain (f:FuncId) (fn:Func) (hf:Tryz.pinned.checked.prog.funcNamed "loop.example/g00472/laws.FnLeafFirst" = some f) (kr:Tryz.pinned.checked.prog.funcs[f]?=some fn) :
  false=Tryz.pinned.checked.prog.looks []/\∀ (j:Nat) t,fn.params[j]?=some t->Tryz.pinned.checked.prog.wantsStandIn t=false:=by
 obtain rfl:f=6:=Option.some.inj ((show Tryz.prog.funcNamed "loop.example/g00472/laws.FnLeafFirst" = some 6 by kernel_rfl).symm.trans hf) |>.symm;obtain rfl:fn=Tryz.f6:=(Option.some.inj (Tryz.func6.symm.trans kr)).symm;refine ⟨by kernel_rfl,fun j t ht=>?_⟩;rw [Tryz.params6] at ht
 have hp0:Tryz.prog.wantsStandIn 22=false:=by kernel_rfl
 have HL:t=22:=by simpa using Array.mem_of_getElem? ht
 subst HL;exact hp0
theorem proved:Rows.FnLeafFirstCardSaid :=
 Claim7.holds_tied_plain_at .later [] _ _ _ _ said (fun _ h=>by cases h) (by kernel_rfl) (fun _ h=>by cases h) fnLeafFirst_row_tie rfl ⟨rfl,rfl⟩ (by kernel_rfl) rfl plain (by kernel_rfl)
#print axioms proved
end Go.Proofs.YtfahcenafcklmaaGreatDoor.fnLeafFirst
