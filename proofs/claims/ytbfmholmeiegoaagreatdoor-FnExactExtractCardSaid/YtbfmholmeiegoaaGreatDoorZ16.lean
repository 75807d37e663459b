/- The law FnExactExtract: for every source and all other arguments the program's Extract answers what the reference's answers, and the source reads as it did. No condition but the row's own: the library's tables are as the program's text lays them. -/
import Derived.Test.YtbfmholmeiegoaaGreatDoorZ11
import Derived.Test.YtbfmholmeiegoaaGreatDoorZ12
import Derived.Test.YtbfmholmeiegoaaGreatDoorZ13
import Derived.Test.YtbfmholmeiegoaaGreatDoorZ14
import Derived.Test.YtbfmholmeiegoaaGreatDoorZ15
import Derived.Test.YtbfmholmeiegoaaGreatDoorCards
import Derived.Test.YtbfmholmeiegoaaGreatDoorTie
import Derived.Test.YtbfmholmeiegoaaGreatDoorZ5
import Derived.Test.YtbfmholmeiegoaaGreatDoorZ10
import Derived.Test.YtbfmholmeiegoaaGreatDoorZ7
import Derived.WalkKit
import Derived.ProofKit
import Derived.OpenShut
import Derived.ShutString
import Derived.Carry
import Derived.Deep.DeepHandedRow
import Derived.Deep.DeepWitnessRowRef
set_option linter.unusedVariables false
set_option linter.unusedSimpArgs false
set_option maxRecDepth 100000
namespace Go.Proofs.YtbfmholmeiegoaaGreatDoor.fnExactExtract
open Go.ChangeShapes Go.WideShapes Go.ChangeAt Go.RowKit
open Go.ChangeMaps (open_string shut_string)
theorem an {a b:Bool} (h:a=true) (k:b=true):(a&&b)=true:=by rw [h,k];rfl
theorem facts:joinedFacts Tryz.prog 5 Tryz.f5 Rows.fnExactExtractSpec Rows.fnExactExtractRow=true:=by
 unfold joinedFacts;exact (an (an (an (an (an (an (an (an (an (an (an (an (an (an (an (an (an (an (an (an (an (an (an (an (an (an (an (an (an (an (an fa0 fa1) fa2) fa3) fa4) fa5) fa6) fa7) fa8) fa9) aaN) aaO) aaP) aaQ) aaR) aaS) aaT) aaU) aaV) aaW) aaX) aaY) aaZ) aa0) aa1) aa2) aa3) aa4) aa5) aa6) aa7) aa8)
theorem said:Rows.FnExactExtractSaid :=
 OpenClaim.holds_of_cond 5 Tryz.f5 rfl rfl rfl rfl rfl rfl rfl ⟨rfl,rfl,rfl,rfl,rfl⟩ rfl rfl rfl rfl rfl (by kernel_rfl) Tryz.func5 facts
  (of_decide_eq_true (by kernel_rfl)) (by unfold Func.isWrapper;first | (rw [if_pos (by decide +kernel)];kernel_rfl) | (rw [if_neg (by decide +kernel)];exact ⟨rfl,rfl⟩))
  (fun os started H enc _ acM=>by rw [OpenClaim.pre_eq_preRow];exact lifted os started H enc acM)
theorem plain (f:FuncId) (fn:Func) (hf:Tryz.pinned.checked.prog.funcNamed "loop.example/g00472/laws.FnExactExtract" = some f) (kc:Tryz.pinned.checked.prog.funcs[f]?=some fn) :
  false=Tryz.pinned.checked.prog.looks []/\∀ (j:Nat) t,fn.params[j]?=some t->Tryz.pinned.checked.prog.wantsStandIn t=false:=by
 obtain rfl:f=5:=Option.some.inj ((show Tryz.prog.funcNamed "loop.example/g00472/laws.FnExactExtract" = some 5 by kernel_rfl).symm.trans hf) |>.symm;obtain rfl:fn=Tryz.f5:=(Option.some.inj (Tryz.func5.symm.trans kc)).symm;refine ⟨by kernel_rfl,fun j t ht=>?_⟩;rw [Tryz.params5] at ht
 have hp0:Tryz.prog.wantsStandIn 27=false:=by kernel_rfl
 have lE:Tryz.prog.wantsStandIn 3=false:=by kernel_rfl
 rcases (show t=27\/t=3 by simpa using Array.mem_of_getElem? ht) with rfl | rfl
 ·exact hp0
 ·exact lE
theorem proved:Rows.FnExactExtractCardSaid :=
 Claim7.holds_tied_plain_at .later [] _ _ _ _ said (fun _ h=>by cases h) (by kernel_rfl) (fun _ h=>by cases h) fnExactExtract_row_tie rfl ⟨rfl,rfl⟩ (by kernel_rfl) rfl plain (by kernel_rfl)
#print axioms proved
end Go.Proofs.YtbfmholmeiegoaaGreatDoor.fnExactExtract
