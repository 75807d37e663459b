/- Part 16 of proofs that are told in their last texts. -/
import Derived.Test.YtfmnfhpifpjljaaGreatDoorZ11
import Derived.Test.YtfmnfhpifpjljaaGreatDoorZ12
import Derived.Test.YtfmnfhpifpjljaaGreatDoorZ13
import Derived.Test.YtfmnfhpifpjljaaGreatDoorZ14
import Derived.Test.YtfmnfhpifpjljaaGreatDoorZ15
set_option linter.unusedVariables false
set_option linter.unusedSimpArgs false
set_option maxRecDepth 100000
namespace Go.Proofs.YtfmnfhpifpjljaaGreatDoor.fnBound
open Go.ChangeShapes Go.WideShapes Go.ChangeAt Go.RowKit
theorem an{a b:Bool}(h:a=true)(k:b=true):(a&&b)=true:=by rw[h,k];rfl
theorem facts:joinedFacts Tryz.prog 7 Tryz.f7 Rows.fnBoundSpec Rows.fnBoundRow=true:=by
 unfold joinedFacts;exact(an (an (an (an (an (an (an (an (an (an (an (an (an (an (an (an (an (an (an (an (an (an (an (an (an (an (an (an (an (an (an fa0 fa1) fa2) fa3) fa4) fa5) fa6) fa7) fa8) fa9) aan) aao) aap) aaq) aar) aas) aat) aau) aav) aaw) aax) aay) aaz) aaA) aaB) aaC) aaD) aaE) aaF) aaG) aaH) aaI)
theorem said:Rows.FnBoundSaid :=
 OpenClaim.holds_of_cond 7 Tryz.f7 rfl rfl rfl rfl rfl rfl rfl ⟨rfl,rfl,rfl,rfl,rfl⟩ rfl rfl rfl rfl rfl (by kernel_rfl) Tryz.func7 facts
  (oe (by kernel_rfl)) (by unfold Func.isWrapper;first|(rw[ae (by decide +kernel)];kernel_rfl)|(rw[D (by decide +kernel)];exact⟨rfl,rfl⟩))
  (fun os started H enc _ F=>by rw[OpenClaim.pre_eq_preRow];exact lifted os started H enc F)
theorem plain(f:FuncId)(fn:Func)(hf:Tryz.pinned.checked.prog.funcNamed "loop.example/g00472/laws.FnBound" = some f)(FJ:Tryz.pinned.checked.prog.funcs[f]?=some fn) :
  false=Tryz.pinned.checked.prog.looks []/\∀(j:Nat)t,fn.params[j]?=some t->Tryz.pinned.checked.prog.wantsStandIn t=false:=by
 obtain rfl:f=7:=uX ((show Tryz.prog.funcNamed "loop.example/g00472/laws.FnBound" = some 7 by kernel_rfl).symm.trans hf) |>.symm;obtain rfl:fn=Tryz.f7:=(uX (Tryz.func7.symm.trans FJ)).symm;refine⟨by kernel_rfl,fun j t ht=>?_⟩;rw[Tryz.params7]at ht
 have hp0:Tryz.prog.wantsStandIn 22=false:=by kernel_rfl
 have Xj:t=22:=by simpa using Array.mem_of_getElem? ht
 subst Xj;exact hp0
end Go.Proofs.YtfmnfhpifpjljaaGreatDoor.fnBound
namespace Go.Pn
open Go.RowKit Go.Proofs Go.Proofs.YtfmnfhpifpjljaaGreatDoor
theorem NJ{P:Program}{c:OpenClaim}(ng:P.funcs.any Func.goes=false)(q:c.start=.entering):false=c.goesBy P:=by
 have k:∀g:FuncId,(P.funcs[g]?).any Func.goes=false:=fun g=>by
  cases h:P.funcs[g]? with
  |none=>rfl
  |some fn =>
   have:=Array.any_eq_false'.1 ng fn (Array.mem_of_getElem? h);show Func.goes fn=false;simpa using this
 have o:∀f,P.goes f=false:=fun f=>by
  unfold Program.goes;rw[ng,Bool.and_false,Bool.or_false,List.any_eq_false];intro x hx;rw[k x];decide
 unfold OpenClaim.goesBy Program.goesAt Program.goesFrom;rw[q]
 cases P.funcNamed c.func with
 |none=>rfl
 |some f=>show false=(P.goes f ||false);rw[o f];rfl
theorem ng:Tryz.pinned.checked.prog.funcs.any Func.goes=false:=by kernel_rfl
end Go.Pn
