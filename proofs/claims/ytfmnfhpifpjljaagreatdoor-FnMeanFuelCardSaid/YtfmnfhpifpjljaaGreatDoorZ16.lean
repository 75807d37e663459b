/- Part 16 of proofs that are told in their last texts. -/
import Derived.Test.YtfmnfhpifpjljaaGreatDoorZ11
import Derived.Test.YtfmnfhpifpjljaaGreatDoorZ12
import Derived.Test.YtfmnfhpifpjljaaGreatDoorZ13
import Derived.Test.YtfmnfhpifpjljaaGreatDoorZ14
import Derived.Test.YtfmnfhpifpjljaaGreatDoorZ15
set_option linter.unusedVariables false
set_option linter.unusedSimpArgs false
set_option maxRecDepth 100000
namespace Go.Proofs.YtfmnfhpifpjljaaGreatDoor.fnMeanFuel
open Go.ChangeShapes Go.WideShapes Go.ChangeAt Go.RowKit
theorem an{a b:Bool}(h:a=true)(k:b=true):(a&&b)=true:=by rw[h,k];rfl
theorem facts:joinedFacts Tryz.prog 3 Tryz.f3 Rows.fnMeanFuelSpec Rows.fnMeanFuelRow=true:=by
 unfold joinedFacts;exact(an (an (an (an (an (an (an (an (an (an (an (an (an (an (an (an (an (an (an (an (an (an (an (an (an (an (an (an (an (an (an fa0 fa1) fa2) fa3) fa4) fa5) fa6) fa7) fa8) fa9) ZH) ZI) ZJ) ZK) ZL) ZM) ZN) ZO) ZP) ZQ) ZR) ZS) ZT) ZU) ZV) ZW) ZX) ZY) ZZ) Z0) Z1) Z2)
theorem said:Rows.FnMeanFuelSaid :=
 OpenClaim.holds_of_cond 3 Tryz.f3 rfl rfl rfl rfl rfl rfl rfl ⟨rfl,rfl,rfl,rfl,rfl⟩ rfl rfl rfl rfl rfl (by kernel_rfl) Tryz.func3 facts
  (pN (by kernel_rfl)) (by unfold Func.isWrapper;first|(rw[ae (by decide +kernel)];kernel_rfl)|(rw[ab (by decide +kernel)];exact⟨rfl,rfl⟩))
  (fun os started H enc _ F=>by rw[OpenClaim.pre_eq_preRow];exact lifted os started H enc F)
theorem plain(f:FuncId)(fn:Func)(hf:Tryz.pinned.checked.prog.funcNamed "loop.example/g00472/laws.FnMeanFuel" = some f)(HO:Tryz.pinned.checked.prog.funcs[f]?=some fn) :
  false=Tryz.pinned.checked.prog.looks []/\∀(j:Nat)t,fn.params[j]?=some t->Tryz.pinned.checked.prog.wantsStandIn t=false:=by
 obtain rfl:f=3:=sA ((show Tryz.prog.funcNamed "loop.example/g00472/laws.FnMeanFuel" = some 3 by kernel_rfl).symm.trans hf) |>.symm;obtain rfl:fn=Tryz.f3:=(sA (Tryz.func3.symm.trans HO)).symm;refine⟨by kernel_rfl,fun j t ht=>?_⟩;rw[Tryz.params3]at ht
 have hp0:Tryz.prog.wantsStandIn 22=false:=by kernel_rfl
 have Vy:t=22:=by simpa using Array.mem_of_getElem? ht
 subst Vy;exact hp0
end Go.Proofs.YtfmnfhpifpjljaaGreatDoor.fnMeanFuel
