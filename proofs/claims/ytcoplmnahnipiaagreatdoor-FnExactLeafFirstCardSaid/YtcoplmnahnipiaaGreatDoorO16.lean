/- The law FnExactLeafFirst: for every source and all other arguments the program's LeafFirst answers what the reference's answers, and the source reads as it did. No condition but the row's own: the library's tables are as the program's text lays them. -/
import Derived.Test.YtcoplmnahnipiaaGreatDoorO11
import Derived.Test.YtcoplmnahnipiaaGreatDoorO12
import Derived.Test.YtcoplmnahnipiaaGreatDoorO13
import Derived.Test.YtcoplmnahnipiaaGreatDoorO14
import Derived.Test.YtcoplmnahnipiaaGreatDoorO15
import Derived.Test.YtcoplmnahnipiaaGreatDoorCards
import Derived.Test.YtcoplmnahnipiaaGreatDoorTie
import Derived.Test.YtcoplmnahnipiaaGreatDoorO5
import Derived.Test.YtcoplmnahnipiaaGreatDoorO10
import Derived.Test.YtcoplmnahnipiaaGreatDoorO7
import Derived.WalkKit
import Derived.ProofKit
import Derived.OpenShut
import Derived.ShutString
import Derived.Carry
import Derived.Deep.DeepHandedRow
import Derived.Deep.DeepWitnessRowRef
set_option linter.unusedVariables false
set_option linter.unusedSimpArgs false
set_option maxRecDepth 100000
namespace Go.Proofs.YtcoplmnahnipiaaGreatDoor.fnExactLeafFirst
open Go.ChangeShapes Go.WideShapes Go.ChangeAt Go.RowKit
open Go.ChangeMaps (open_string shut_string)
theorem an {a b:Bool} (h:a=true) (k:b=true):(a&&b)=true:=by rw [h,k];rfl
theorem facts:joinedFacts Tryz.prog 8 Tryz.f8 Rows.fnExactLeafFirstSpec Rows.fnExactLeafFirstRow=true:=by
 unfold joinedFacts;exact (an (an (an (an (an (an (an (an (an (an (an (an (an (an (an (an (an (an (an (an (an (an (an (an (an (an (an (an (an (an (an Z8 Z9) fa2) fa3) fa4) fa5) fa6) fa7) fa8) fa9) Yq) Yr) Ys) Yt) Yu) Yv) Yw) Yx) Yy) Yz) YA) YB) YC) YD) YE) YF) YH) YI) YJ) YK) YL) YM)
theorem said:Rows.FnExactLeafFirstSaid :=
 OpenClaim.holds_of_cond 8 Tryz.f8 rfl rfl rfl rfl rfl rfl rfl ⟨rfl,rfl,rfl,rfl,rfl⟩ rfl rfl rfl rfl rfl (by kernel_rfl) Tryz.func8 facts
  (of_decide_eq_true (by kernel_rfl)) (by unfold Func.isWrapper;first | (rw [if_pos (by decide +kernel)];kernel_rfl) | (rw [if_neg (by decide +kernel)];exact ⟨rfl,rfl⟩))
  (fun os started H enc _ F=>by rw [OpenClaim.pre_eq_preRow];exact lifted os started H enc F)
theorem plain (f:FuncId) (fn:Func) (hf:Tryz.pinned.checked.prog.funcNamed "loop.example/g00472/laws.FnExactLeafFirst" = some f) (iL:Tryz.pinned.checked.prog.funcs[f]?=some fn) :
  false=Tryz.pinned.checked.prog.looks []/\∀ (j:Nat) t,fn.params[j]?=some t->Tryz.pinned.checked.prog.wantsStandIn t=false:=by
 obtain rfl:f=8:=Option.some.inj ((show Tryz.prog.funcNamed "loop.example/g00472/laws.FnExactLeafFirst" = some 8 by kernel_rfl).symm.trans hf) |>.symm;obtain rfl:fn=Tryz.f8:=(Option.some.inj (Tryz.func8.symm.trans iL)).symm;refine ⟨by kernel_rfl,fun j t ht=>?_⟩;rw [Tryz.params8] at ht
 have hp0:Tryz.prog.wantsStandIn 27=false:=by kernel_rfl
 have A5:t=27:=by simpa using Array.mem_of_getElem? ht
 subst A5;exact hp0
theorem proved:Rows.FnExactLeafFirstCardSaid :=
 Claim7.holds_tied_plain_at .later [] _ _ _ _ said (fun _ h=>by cases h) (by kernel_rfl) (fun _ h=>by cases h) fnExactLeafFirst_row_tie rfl ⟨rfl,rfl⟩ (by kernel_rfl) rfl plain (by kernel_rfl)
#print axioms proved
end Go.Proofs.YtcoplmnahnipiaaGreatDoor.fnExactLeafFirst
