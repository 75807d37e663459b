/- The law FnExactCallers: for every source and every number the program's Callers answers what the reference's answers, and the source reads as it did. No condition but the row's own: the library's tables are as the program's text lays them. -/
import Derived.Test.YtcoplmnahnipiaaGreatDoorZ12
import Derived.Test.YtcoplmnahnipiaaGreatDoorZ13
import Derived.Test.YtcoplmnahnipiaaGreatDoorZ14
import Derived.Test.YtcoplmnahnipiaaGreatDoorZ15
import Derived.Test.YtcoplmnahnipiaaGreatDoorZ16
import Derived.Test.YtcoplmnahnipiaaGreatDoorCards
import Derived.Test.YtcoplmnahnipiaaGreatDoorTie
import Derived.Test.YtcoplmnahnipiaaGreatDoorZ5
import Derived.Test.YtcoplmnahnipiaaGreatDoorZ11
import Derived.Test.YtcoplmnahnipiaaGreatDoorZ7
import Derived.WalkKit
import Derived.ProofKit
import Derived.OpenShut
import Derived.ShutString
import Derived.Carry
import Derived.Deep.DeepHandedRow
import Derived.Deep.DeepWitnessRowRef
set_option linter.unusedVariables false
set_option linter.unusedSimpArgs false
set_option maxRecDepth 100000
namespace Go.Proofs.YtcoplmnahnipiaaGreatDoor.fnExactCallers
open Go.ChangeShapes Go.WideShapes Go.ChangeAt Go.RowKit
open Go.ChangeMaps (open_string shut_string)
theorem an {a b:Bool} (h:a=true) (k:b=true):(a&&b)=true:=by rw [h,k];rfl
theorem facts:joinedFacts Tryz.prog 5 Tryz.f5 Rows.fnExactCallersSpec Rows.fnExactCallersRow=true:=by
 unfold joinedFacts;exact (an (an (an (an (an (an (an (an (an (an (an (an (an (an (an (an (an (an (an (an (an (an (an (an (an (an (an (an (an (an (an S2 S3) S4) S5) S6) S7) S8) S9) Ta) Tb) N3) N4) N5) N6) N7) N8) N9) Oa) Oc) Od) Oe) Of) Og) Oh) Oi) Oj) Ol) Om) Oo) Oq) Ou) Ov)
theorem said:Rows.FnExactCallersSaid :=
 OpenClaim.holds_of_cond 5 Tryz.f5 rfl rfl rfl rfl rfl rfl rfl ⟨rfl,rfl,rfl,rfl,rfl⟩ rfl rfl rfl rfl rfl (by kernel_rfl) Tryz.func5 facts
  (of_decide_eq_true (by kernel_rfl)) (by unfold Func.isWrapper;first | (rw [if_pos (by decide +kernel)];kernel_rfl) | (rw [if_neg (by decide +kernel)];exact ⟨rfl,rfl⟩))
  (fun os started H enc _ F=>by rw [OpenClaim.pre_eq_preRow];exact lifted os started H enc F)
theorem plain (f:FuncId) (fn:Func) (hf:Tryz.pinned.checked.prog.funcNamed "loop.example/g00472/laws.FnExactCallers" = some f) (gH:Tryz.pinned.checked.prog.funcs[f]?=some fn) :
  false=Tryz.pinned.checked.prog.looks []/\∀ (j:Nat) t,fn.params[j]?=some t->Tryz.pinned.checked.prog.wantsStandIn t=false:=by
 obtain rfl:f=5:=Option.some.inj ((show Tryz.prog.funcNamed "loop.example/g00472/laws.FnExactCallers" = some 5 by kernel_rfl).symm.trans hf) |>.symm;obtain rfl:fn=Tryz.f5:=(Option.some.inj (Tryz.func5.symm.trans gH)).symm;refine ⟨by kernel_rfl,fun j t ht=>?_⟩;rw [Tryz.params5] at ht
 have TU:Tryz.prog.wantsStandIn 27=false:=by kernel_rfl
 have jX:Tryz.prog.wantsStandIn 3=false:=by kernel_rfl
 rcases (show t=27\/t=3 by simpa using Array.mem_of_getElem? ht) with rfl | rfl
 ·exact TU
 ·exact jX
theorem proved:Rows.FnExactCallersCardSaid :=
 Claim7.holds_tied_plain_at .later [] _ _ _ _ said (fun _ h=>by cases h) (by kernel_rfl) (fun _ h=>by cases h) fnExactCallers_row_tie rfl ⟨rfl,rfl⟩ (by kernel_rfl) rfl plain (by kernel_rfl)
#print axioms proved
end Go.Proofs.YtcoplmnahnipiaaGreatDoor.fnExactCallers
