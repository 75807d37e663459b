/- Part 16 of proofs that are told in their last texts. -/
import Derived.Test.YtfmnfhpifpjljaaGreatDoorO11
import Derived.Test.YtfmnfhpifpjljaaGreatDoorO12
import Derived.Test.YtfmnfhpifpjljaaGreatDoorO13
import Derived.Test.YtfmnfhpifpjljaaGreatDoorO14
import Derived.Test.YtfmnfhpifpjljaaGreatDoorO15
set_option linter.unusedVariables false
set_option linter.unusedSimpArgs false
set_option maxRecDepth 100000
namespace Go.Proofs.YtfmnfhpifpjljaaGreatDoor.fnLink
open Go.ChangeShapes Go.WideShapes Go.ChangeAt Go.RowKit
theorem an{a b:Bool}(h:a=true)(k:b=true):(a&&b)=true:=by rw[h,k];rfl
theorem facts:joinedFacts Tryz.prog 5 Tryz.f5 Rows.fnLinkSpec Rows.fnLinkRow=true:=by
 unfold joinedFacts;exact(an (an (an (an (an (an (an (an (an (an (an (an (an (an (an (an (an (an (an (an (an (an (an (an (an (an (an (an (an (an (an ZA ZB) ZC) ZD) ZE) ZF) ZG) ZH) ZI) ZJ) Yf) Yg) Yh) Yi) Yj) Yk) Yl) Ym) Yn) Yo) Yp) Yq) Yr) Ys) Yt) Yu) Yv) Yw) Yx) Yy) Yz) YA)
theorem said:Rows.FnLinkSaid :=
 OpenClaim.holds_of_cond 5 Tryz.f5 rfl rfl rfl rfl rfl rfl rfl ⟨rfl,rfl,rfl,rfl,rfl⟩ rfl rfl rfl rfl rfl (by kernel_rfl) Tryz.func5 facts
  (qu (by kernel_rfl)) (by unfold Func.isWrapper;first|(rw[ai (by decide +kernel)];kernel_rfl)|(rw[ab (by decide +kernel)];exact⟨rfl,rfl⟩))
  (fun os started H enc _ F=>by rw[OpenClaim.pre_eq_preRow];exact lifted os started H enc F)
theorem plain(f:FuncId)(fn:Func)(hf:Tryz.pinned.checked.prog.funcNamed "loop.example/g00472/laws.FnLink" = some f)(Lr:Tryz.pinned.checked.prog.funcs[f]?=some fn) :
  false=Tryz.pinned.checked.prog.looks []/\∀(j:Nat)t,fn.params[j]?=some t->Tryz.pinned.checked.prog.wantsStandIn t=false:=by
 obtain rfl:f=5:=su ((show Tryz.prog.funcNamed "loop.example/g00472/laws.FnLink" = some 5 by kernel_rfl).symm.trans hf) |>.symm;obtain rfl:fn=Tryz.f5:=(su (Tryz.func5.symm.trans Lr)).symm;refine⟨by kernel_rfl,fun j t ht=>?_⟩;rw[Tryz.params5]at ht
 have hp0:Tryz.prog.wantsStandIn 22=false:=by kernel_rfl
 have Ut:t=22:=by simpa using Array.mem_of_getElem? ht
 subst Ut;exact hp0
end Go.Proofs.YtfmnfhpifpjljaaGreatDoor.fnLink
