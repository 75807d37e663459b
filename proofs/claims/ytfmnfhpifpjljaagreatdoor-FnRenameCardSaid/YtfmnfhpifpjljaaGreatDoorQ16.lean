/- Part 16 of proofs that are told in their last texts. -/
import Derived.Test.YtfmnfhpifpjljaaGreatDoorQ11
import Derived.Test.YtfmnfhpifpjljaaGreatDoorQ12
import Derived.Test.YtfmnfhpifpjljaaGreatDoorQ13
import Derived.Test.YtfmnfhpifpjljaaGreatDoorQ14
import Derived.Test.YtfmnfhpifpjljaaGreatDoorQ15
set_option linter.unusedVariables false
set_option linter.unusedSimpArgs false
set_option maxRecDepth 100000
namespace Go.Proofs.YtfmnfhpifpjljaaGreatDoor.fnRename
open Go.ChangeShapes Go.WideShapes Go.ChangeAt Go.RowKit
theorem an{a b:Bool}(h:a=true)(k:b=true):(a&&b)=true:=by rw[h,k];rfl
theorem facts:joinedFacts Tryz.prog 4 Tryz.f4 Rows.fnRenameSpec Rows.fnRenameRow=true:=by
 unfold joinedFacts;exact(an (an (an (an (an (an (an (an (an (an (an (an (an (an (an (an (an (an (an (an (an (an (an (an (an (an (an (an (an (an (an fa0 fa1) fa2) fa3) fa4) fa5) fa6) fa7) fa8) fa9) aas) aat) aau) aav) aaw) aax) aay) aaz) aaA) aaB) aaC) aaD) aaE) aaF) aaG) aaH) aaI) aaJ) aaK) aaL) aaM) aaN)
theorem said:Rows.FnRenameSaid :=
 OpenClaim.holds_of_cond 4 Tryz.f4 rfl rfl rfl rfl rfl rfl rfl ⟨rfl,rfl,rfl,rfl,rfl⟩ rfl rfl rfl rfl rfl (by kernel_rfl) Tryz.func4 facts
  (q9 (by kernel_rfl)) (by unfold Func.isWrapper;first|(rw[ak (by decide +kernel)];kernel_rfl)|(rw[ae (by decide +kernel)];exact⟨rfl,rfl⟩))
  (fun os started H enc _ F=>by rw[OpenClaim.pre_eq_preRow];exact lifted os started H enc F)
theorem plain(f:FuncId)(fn:Func)(hf:Tryz.pinned.checked.prog.funcNamed "loop.example/g00472/laws.FnRename" = some f)(NH:Tryz.pinned.checked.prog.funcs[f]?=some fn) :
  false=Tryz.pinned.checked.prog.looks []/\∀(j:Nat)t,fn.params[j]?=some t->Tryz.pinned.checked.prog.wantsStandIn t=false:=by
 obtain rfl:f=4:=sZ ((show Tryz.prog.funcNamed "loop.example/g00472/laws.FnRename" = some 4 by kernel_rfl).symm.trans hf) |>.symm;obtain rfl:fn=Tryz.f4:=(sZ (Tryz.func4.symm.trans NH)).symm;refine⟨by kernel_rfl,fun j t ht=>?_⟩;rw[Tryz.params4]at ht
 have hp0:Tryz.prog.wantsStandIn 22=false:=by kernel_rfl
 have Xt:t=22:=by simpa using Array.mem_of_getElem? ht
 subst Xt;exact hp0
end Go.Proofs.YtfmnfhpifpjljaaGreatDoor.fnRename
