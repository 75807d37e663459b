/- The law FnExactBound: for every source and all other arguments the program's Bound answers what the reference's answers, and the source reads as it did. No condition but the row's own: the library's tables are as the program's text lays them. -/
import Derived.Test.YtfdcdcleipmmdaaGreatDoorQ19
import Derived.Test.YtfdcdcleipmmdaaGreatDoorQ20
import Derived.Test.YtfdcdcleipmmdaaGreatDoorQ21
import Derived.Test.YtfdcdcleipmmdaaGreatDoorQ22
import Derived.Test.YtfdcdcleipmmdaaGreatDoorQ23
import Derived.Test.YtfdcdcleipmmdaaGreatDoorCards
import Derived.Test.YtfdcdcleipmmdaaGreatDoorTie
import Derived.Test.YtfdcdcleipmmdaaGreatDoorQ5
import Derived.Test.YtfdcdcleipmmdaaGreatDoorQ18
import Derived.Test.YtfdcdcleipmmdaaGreatDoorQ7
import Derived.WalkKit
import Derived.ProofKit
import Derived.OpenShut
import Derived.ShutString
import Derived.Carry
import Derived.Deep.DeepHandedRow
import Derived.Deep.DeepWitnessRowRef
set_option linter.unusedVariables false
set_option linter.unusedSimpArgs false
set_option maxRecDepth 100000
namespace Go.Proofs.YtfdcdcleipmmdaaGreatDoor.fnExactBound
open Go.ChangeShapes Go.WideShapes Go.ChangeAt Go.RowKit
open Go.ChangeMaps (open_string shut_string)
theorem an {a b:Bool} (h:a=true) (k:b=true):(a&&b)=true:=by rw [h,k];rfl
theorem facts:joinedFacts Tryz.prog 4 Tryz.f4 Rows.fnExactBoundSpec Rows.fnExactBoundRow=true:=by
 unfold joinedFacts;exact (an (an (an (an (an (an (an (an (an (an (an (an (an (an (an (an (an (an (an (an (an (an (an (an (an (an (an (an (an (an (an Gw Gx) Gy) Gz) GB) GD) GG) GH) GJ) GK) A9) Ba) Bb) Bc) Bd) Be) Bf) Bg) Bh) Bi) Bj) Bl) Bm) Bn) Bo) Bp) Bq) Br) Bu) Bv) Bw) Bx)
theorem said:Rows.FnExactBoundSaid :=
 OpenClaim.holds_of_cond 4 Tryz.f4 rfl rfl rfl rfl rfl rfl rfl ⟨rfl,rfl,rfl,rfl,rfl⟩ rfl rfl rfl rfl rfl (by kernel_rfl) Tryz.func4 facts
  (of_decide_eq_true (by kernel_rfl)) (by unfold Func.isWrapper;first | (rw [if_pos (by decide +kernel)];kernel_rfl) | (rw [if_neg (by decide +kernel)];exact ⟨rfl,rfl⟩))
  (fun os started H enc _ abh=>by rw [OpenClaim.pre_eq_preRow];exact lifted os started H enc abh)
theorem plain (f:FuncId) (fn:Func) (hf:Tryz.pinned.checked.prog.funcNamed "loop.example/g00472/laws.FnExactBound" = some f) (fL:Tryz.pinned.checked.prog.funcs[f]?=some fn) :
  false=Tryz.pinned.checked.prog.looks []/\∀ (j:Nat) t,fn.params[j]?=some t->Tryz.pinned.checked.prog.wantsStandIn t=false:=by
 obtain rfl:f=4:=Option.some.inj ((show Tryz.prog.funcNamed "loop.example/g00472/laws.FnExactBound" = some 4 by kernel_rfl).symm.trans hf) |>.symm;obtain rfl:fn=Tryz.f4:=(Option.some.inj (Tryz.func4.symm.trans fL)).symm;refine ⟨by kernel_rfl,fun j t ht=>?_⟩;rw [Tryz.params4] at ht
 have E7:Tryz.prog.wantsStandIn 27=false:=by kernel_rfl
 have th:t=27:=by simpa using Array.mem_of_getElem? ht
 subst th;exact E7
theorem proved:Rows.FnExactBoundCardSaid :=
 Claim7.holds_tied_plain_at .later [] _ _ _ _ said (fun _ h=>by cases h) (by kernel_rfl) (fun _ h=>by cases h) fnExactBound_row_tie rfl ⟨rfl,rfl⟩ (by kernel_rfl) rfl plain (by kernel_rfl)
#print axioms proved
end Go.Proofs.YtfdcdcleipmmdaaGreatDoor.fnExactBound
