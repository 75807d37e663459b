/- The law FnExactComes: for every source and all other arguments the program's Comes answers what the reference's answers, and the source reads as it did. No condition but the row's own: the library's tables are as the program's text lays them. -/
import Derived.Test.YtcoplmnahnipiaaGreatDoorY13
import Derived.Test.YtcoplmnahnipiaaGreatDoorY14
import Derived.Test.YtcoplmnahnipiaaGreatDoorY15
import Derived.Test.YtcoplmnahnipiaaGreatDoorY16
import Derived.Test.YtcoplmnahnipiaaGreatDoorY17
import Derived.Test.YtcoplmnahnipiaaGreatDoorCards
import Derived.Test.YtcoplmnahnipiaaGreatDoorTie
import Derived.Test.YtcoplmnahnipiaaGreatDoorY5
import Derived.Test.YtcoplmnahnipiaaGreatDoorY12
import Derived.Test.YtcoplmnahnipiaaGreatDoorY7
import Derived.WalkKit
import Derived.ProofKit
import Derived.OpenShut
import Derived.ShutString
import Derived.Carry
import Derived.Deep.DeepHandedRow
import Derived.Deep.DeepWitnessRowRef
set_option linter.unusedVariables false
set_option linter.unusedSimpArgs false
set_option maxRecDepth 100000
namespace Go.Proofs.YtcoplmnahnipiaaGreatDoor.fnExactComes
open Go.ChangeShapes Go.WideShapes Go.ChangeAt Go.RowKit
open Go.ChangeMaps (open_string shut_string)
theorem an {a b:Bool} (h:a=true) (k:b=true):(a&&b)=true:=by rw [h,k];rfl
theorem facts:joinedFacts Tryz.prog 4 Tryz.f4 Rows.fnExactComesSpec Rows.fnExactComesRow=true:=by
 unfold joinedFacts;exact (an (an (an (an (an (an (an (an (an (an (an (an (an (an (an (an (an (an (an (an (an (an (an (an (an (an (an (an (an (an (an EU EV) EW) EX) EY) EZ) E0) E7) E8) E9) Ae) Af) Ag) Ah) Ai) Aj) Ak) Al) Am) An) Ao) Ap) Aq) Au) Av) Aw) Ax) Ay) Az) AA) AB) AD)
theorem said:Rows.FnExactComesSaid :=
 OpenClaim.holds_of_cond 4 Tryz.f4 rfl rfl rfl rfl rfl rfl rfl ⟨rfl,rfl,rfl,rfl,rfl⟩ rfl rfl rfl rfl rfl (by kernel_rfl) Tryz.func4 facts
  (of_decide_eq_true (by kernel_rfl)) (by unfold Func.isWrapper;first | (rw [if_pos (by decide +kernel)];kernel_rfl) | (rw [if_neg (by decide +kernel)];exact ⟨rfl,rfl⟩))
  (fun os started H enc _ F=>by rw [OpenClaim.pre_eq_preRow];exact lifted os started H enc F)
theorem plain (f:FuncId) (fn:Func) (hf:Tryz.pinned.checked.prog.funcNamed "loop.example/g00472/laws.FnExactComes" = some f) (fG:Tryz.pinned.checked.prog.funcs[f]?=some fn) :
  false=Tryz.pinned.checked.prog.looks []/\∀ (j:Nat) t,fn.params[j]?=some t->Tryz.pinned.checked.prog.wantsStandIn t=false:=by
 obtain rfl:f=4:=Option.some.inj ((show Tryz.prog.funcNamed "loop.example/g00472/laws.FnExactComes" = some 4 by kernel_rfl).symm.trans hf) |>.symm;obtain rfl:fn=Tryz.f4:=(Option.some.inj (Tryz.func4.symm.trans fG)).symm;refine ⟨by kernel_rfl,fun j t ht=>?_⟩;rw [Tryz.params4] at ht
 have FJ:Tryz.prog.wantsStandIn 27=false:=by kernel_rfl
 have ji:Tryz.prog.wantsStandIn 3=false:=by kernel_rfl
 rcases (show t=27\/t=3\/t=3 by simpa using Array.mem_of_getElem? ht) with rfl | rfl | rfl
 ·exact FJ
 ·exact ji
 ·exact ji
theorem proved:Rows.FnExactComesCardSaid :=
 Claim7.holds_tied_plain_at .later [] _ _ _ _ said (fun _ h=>by cases h) (by kernel_rfl) (fun _ h=>by cases h) fnExactComes_row_tie rfl ⟨rfl,rfl⟩ (by kernel_rfl) rfl plain (by kernel_rfl)
#print axioms proved
end Go.Proofs.YtcoplmnahnipiaaGreatDoor.fnExactComes
