/- The law FnPretty: whatever the bytes, the law answers true, and the bytes read as they did. No condition but the row's own: the library's tables are as the program's text lays them. -/
import Derived.Test.YtfahcenafcklmaaGreatDoorZ22
import Derived.Test.YtfahcenafcklmaaGreatDoorZ23
import Derived.Test.YtfahcenafcklmaaGreatDoorZ24
import Derived.Test.YtfahcenafcklmaaGreatDoorZ25
import Derived.Test.YtfahcenafcklmaaGreatDoorZ26
import Derived.Test.YtfahcenafcklmaaGreatDoorCards
import Derived.Test.YtfahcenafcklmaaGreatDoorTie
import Derived.Test.YtfahcenafcklmaaGreatDoorZ11
import Derived.Test.YtfahcenafcklmaaGreatDoorZ21
import Derived.Test.YtfahcenafcklmaaGreatDoorZ18
import Derived.Test.YtfahcenafcklmaaGreatDoorZ14
import Derived.WalkKit
import Derived.ProofKit
import Derived.OpenShut
import Derived.ShutString
import Derived.Carry
import Derived.Deep.DeepHandedRow
import Derived.Deep.DeepWitnessRowRef
set_option linter.unusedVariables false
set_option linter.unusedSimpArgs false
set_option maxRecDepth 100000
namespace Go.Proofs.YtfahcenafcklmaaGreatDoor.fnPretty
open Go.ChangeShapes Go.WideShapes Go.ChangeAt Go.RowKit
theorem an {a b:Bool} (h:a=true) (k:b=true):(a&&b)=true:=by rw [h,k];rfl
theorem facts:joinedFacts Tryz.prog 8 Tryz.f8 Rows.fnPrettySpec Rows.fnPrettyRow=true:=by
 unfold joinedFacts;exact (an (an (an (an (an (an (an (an (an (an (an (an (an (an (an (an (an (an (an (an (an (an (an (an (an (an (an (an (an (an (an Sq Sr) Ss) St) Su) Sv) Sw) Sy) Sz) SA) NI) NJ) NK) NL) NM) NN) NO) NP) NQ) NR) NS) NT) NU) NV) NW) NX) NY) NZ) N0) N1) N4) N5)
theorem said:Rows.FnPrettySaid :=
 OpenClaim.holds_of_cond 8 Tryz.f8 rfl rfl rfl rfl rfl rfl rfl ⟨rfl,rfl,rfl,rfl,rfl⟩ rfl rfl rfl rfl rfl (by kernel_rfl) Tryz.func8 facts
  (of_decide_eq_true (by kernel_rfl)) (by unfold Func.isWrapper;first | (rw [if_pos (by decide +kernel)];kernel_rfl) | (rw [if_neg (by decide +kernel)];exact ⟨rfl,rfl⟩))
  (fun os started H enc _ F=>by rw [OpenClaim.pre_eq_preRow];exact lifted os started H enc F)
theorem plain (f:FuncId) (fn:Func) (hf:Tryz.pinned.checked.prog.funcNamed "loop.example/g00472/laws.FnPretty" = some f) (HH:Tryz.pinned.checked.prog.funcs[f]?=some fn) :
  false=Tryz.pinned.checked.prog.looks []/\∀ (j:Nat) t,fn.params[j]?=some t->Tryz.pinned.checked.prog.wantsStandIn t=false:=by
 obtain rfl:f=8:=Option.some.inj ((show Tryz.prog.funcNamed "loop.example/g00472/laws.FnPretty" = some 8 by kernel_rfl).symm.trans hf) |>.symm;obtain rfl:fn=Tryz.f8:=(Option.some.inj (Tryz.func8.symm.trans HH)).symm;refine ⟨by kernel_rfl,fun j t ht=>?_⟩;rw [Tryz.params8] at ht
 have Ts:Tryz.prog.wantsStandIn 22=false:=by kernel_rfl
 have AO:t=22:=by simpa using Array.mem_of_getElem? ht
 subst AO;exact Ts
theorem proved:Rows.FnPrettyCardSaid :=
 Claim7.holds_tied_plain_at .later [] _ _ _ _ said (fun _ h=>by cases h) (by kernel_rfl) (fun _ h=>by cases h) fnPretty_row_tie rfl ⟨rfl,rfl⟩ (by kernel_rfl) rfl plain (by kernel_rfl)
#print axioms proved
end Go.Proofs.YtfahcenafcklmaaGreatDoor.fnPretty
