/- The law FnExactLink: for every source and all other arguments the program's Link answers what the reference's answers, and the source reads as it did. No condition but the row's own: the library's tables are as the program's text lays them. -/
import Derived.Test.YtbfmholmeiegoaaGreatDoorQ11
import Derived.Test.YtbfmholmeiegoaaGreatDoorQ12
import Derived.Test.YtbfmholmeiegoaaGreatDoorQ13
import Derived.Test.YtbfmholmeiegoaaGreatDoorQ14
import Derived.Test.YtbfmholmeiegoaaGreatDoorQ15
import Derived.Test.YtbfmholmeiegoaaGreatDoorCards
import Derived.Test.YtbfmholmeiegoaaGreatDoorTie
import Derived.Test.YtbfmholmeiegoaaGreatDoorQ5
import Derived.Test.YtbfmholmeiegoaaGreatDoorQ10
import Derived.Test.YtbfmholmeiegoaaGreatDoorQ7
import Derived.WalkKit
import Derived.ProofKit
import Derived.OpenShut
import Derived.ShutString
import Derived.Carry
import Derived.Deep.DeepHandedRow
import Derived.Deep.DeepWitnessRowRef
set_option linter.unusedVariables false
set_option linter.unusedSimpArgs false
set_option maxRecDepth 100000
namespace Go.Proofs.YtbfmholmeiegoaaGreatDoor.fnExactLink
open Go.ChangeShapes Go.WideShapes Go.ChangeAt Go.RowKit
open Go.ChangeMaps (open_string shut_string)
theorem an {a b:Bool} (h:a=true) (k:b=true):(a&&b)=true:=by rw [h,k];rfl
theorem facts:joinedFacts Tryz.prog 4 Tryz.f4 Rows.fnExactLinkSpec Rows.fnExactLinkRow=true:=by
 unfold joinedFacts;exact (an (an (an (an (an (an (an (an (an (an (an (an (an (an (an (an (an (an (an (an (an (an (an (an (an (an (an (an (an (an (an ZW ZX) ZY) ZZ) Z0) Z1) Z2) Z3) Z4) Z5) Yk) Yl) Ym) Yn) Yo) Yp) Yq) Yr) Ys) Yt) Yu) Yv) Yw) Yx) Yy) Yz) YA) YB) YC) YD) YE) YF)
theorem said:Rows.FnExactLinkSaid :=
 OpenClaim.holds_of_cond 4 Tryz.f4 rfl rfl rfl rfl rfl rfl rfl ⟨rfl,rfl,rfl,rfl,rfl⟩ rfl rfl rfl rfl rfl (by kernel_rfl) Tryz.func4 facts
  (of_decide_eq_true (by kernel_rfl)) (by unfold Func.isWrapper;first | (rw [if_pos (by decide +kernel)];kernel_rfl) | (rw [if_neg (by decide +kernel)];exact ⟨rfl,rfl⟩))
  (fun os started H enc _ aaK=>by rw [OpenClaim.pre_eq_preRow];exact lifted os started H enc aaK)
theorem plain (f:FuncId) (fn:Func) (hf:Tryz.pinned.checked.prog.funcNamed "loop.example/g00472/laws.FnExactLink" = some f) (nB:Tryz.pinned.checked.prog.funcs[f]?=some fn) :
  false=Tryz.pinned.checked.prog.looks []/\∀ (j:Nat) t,fn.params[j]?=some t->Tryz.pinned.checked.prog.wantsStandIn t=false:=by
 obtain rfl:f=4:=Option.some.inj ((show Tryz.prog.funcNamed "loop.example/g00472/laws.FnExactLink" = some 4 by kernel_rfl).symm.trans hf) |>.symm;obtain rfl:fn=Tryz.f4:=(Option.some.inj (Tryz.func4.symm.trans nB)).symm;refine ⟨by kernel_rfl,fun j t ht=>?_⟩;rw [Tryz.params4] at ht
 have hp0:Tryz.prog.wantsStandIn 27=false:=by kernel_rfl
 obtain rfl:t=27:=by simpa using Array.mem_of_getElem? ht
 exact hp0
theorem proved:Rows.FnExactLinkCardSaid :=
 Claim7.holds_tied_plain_at .later [] _ _ _ _ said (fun _ h=>by cases h) (by kernel_rfl) (fun _ h=>by cases h) fnExactLink_row_tie rfl ⟨rfl,rfl⟩ (by kernel_rfl) rfl plain (by kernel_rfl)
#print axioms proved
end Go.Proofs.YtbfmholmeiegoaaGreatDoor.fnExactLink
