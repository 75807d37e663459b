/- The law FnTight: whatever the bytes, the law answers true, and the bytes read as they did. No condition but the row's own: the library's tables are as the program's text lays them. -/
import Derived.Test.YtfahcenafcklmaaGreatDoorZ29
import Derived.Test.YtfahcenafcklmaaGreatDoorZ30
import Derived.Test.YtfahcenafcklmaaGreatDoorZ31
import Derived.Test.YtfahcenafcklmaaGreatDoorZ32
import Derived.Test.YtfahcenafcklmaaGreatDoorZ33
import Derived.Test.YtfahcenafcklmaaGreatDoorCards
import Derived.Test.YtfahcenafcklmaaGreatDoorTie
import Derived.Test.YtfahcenafcklmaaGreatDoorZ11
import Derived.Test.YtfahcenafcklmaaGreatDoorZ28
import Derived.Test.YtfahcenafcklmaaGreatDoorZ18
import Derived.Test.YtfahcenafcklmaaGreatDoorZ14
import Derived.WalkKit
import Derived.ProofKit
import Derived.OpenShut
import Derived.ShutString
import Derived.Carry
import Derived.Deep.DeepHandedRow
import Derived.Deep.DeepWitnessRowRef
set_option linter.unusedVariables false
set_option linter.unusedSimpArgs false
set_option maxRecDepth 100000
namespace Go.Proofs.YtfahcenafcklmaaGreatDoor.fnTight
open Go.ChangeShapes Go.WideShapes Go.ChangeAt Go.RowKit
theorem an {a b:Bool} (h:a=true) (k:b=true):(a&&b)=true:=by rw [h,k];rfl
theorem facts:joinedFacts Tryz.prog 7 Tryz.f7 Rows.fnTightSpec Rows.fnTightRow=true:=by
 unfold joinedFacts;exact (an (an (an (an (an (an (an (an (an (an (an (an (an (an (an (an (an (an (an (an (an (an (an (an (an (an (an (an (an (an (an Sq Sr) Ss) St) Su) Sv) Sw) Sy) Sz) SA) NI) NJ) NK) NL) NM) NN) NO) NP) NQ) NR) NS) NT) NU) NV) NW) NX) NY) NZ) N0) N1) N4) N5)
theorem said:Rows.FnTightSaid :=
 OpenClaim.holds_of_cond 7 Tryz.f7 rfl rfl rfl rfl rfl rfl rfl ⟨rfl,rfl,rfl,rfl,rfl⟩ rfl rfl rfl rfl rfl (by kernel_rfl) Tryz.func7 facts
  (of_decide_eq_true (by kernel_rfl)) (by unfold Func.isWrapper;first | (rw [if_pos (by decide +kernel)];kernel_rfl) | (rw [if_neg (by decide +kernel)];exact ⟨rfl,rfl⟩))
  (fun os started H enc _ F=>by rw [OpenClaim.pre_eq_preRow];exact lifted os started H enc F)
theorem plain (f:FuncId) (fn:Func) (hf:Tryz.pinned.checked.prog.funcNamed "loop.example/g00472/laws.FnTight" = some f) (HH:Tryz.pinned.checked.prog.funcs[f]?=some fn) :
  false=Tryz.pinned.checked.prog.looks []/\∀ (j:Nat) t,fn.params[j]?=some t->Tryz.pinned.checked.prog.wantsStandIn t=false:=by
 obtain rfl:f=7:=Option.some.inj ((show Tryz.prog.funcNamed "loop.example/g00472/laws.FnTight" = some 7 by kernel_rfl).symm.trans hf) |>.symm;obtain rfl:fn=Tryz.f7:=(Option.some.inj (Tryz.func7.symm.trans HH)).symm;refine ⟨by kernel_rfl,fun j t ht=>?_⟩;rw [Tryz.params7] at ht
 have Ts:Tryz.prog.wantsStandIn 22=false:=by kernel_rfl
 have AO:t=22:=by simpa using Array.mem_of_getElem? ht
 subst AO;exact Ts
theorem proved:Rows.FnTightCardSaid :=
 Claim7.holds_tied_plain_at .later [] _ _ _ _ said (fun _ h=>by cases h) (by kernel_rfl) (fun _ h=>by cases h) fnTight_row_tie rfl ⟨rfl,rfl⟩ (by kernel_rfl) rfl plain (by kernel_rfl)
#print axioms proved
end Go.Proofs.YtfahcenafcklmaaGreatDoor.fnTight
