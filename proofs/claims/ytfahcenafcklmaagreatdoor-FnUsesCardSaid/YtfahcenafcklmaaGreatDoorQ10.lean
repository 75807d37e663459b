/- Part 10 of proofs that are told in their last texts. -/
import Derived.Test.YtfahcenafcklmaaGreatDoorQ6
import Derived.Test.YtfahcenafcklmaaGreatDoorQ8
set_option linter.unusedVariables false
set_option linter.unusedSimpArgs false
set_option maxRecDepth 100000
set_option maxHeartbeats 4000000
namespace Go.Xg
open Go.RowKit Go.Xw Go.Proofs Tryz Go.Im
open Go.Sp (Src)
attribute [local irreducible] GW GL GO YG GC GA aU aW
theorem YB (p:Src) (fn:Int) (w g:Bool) (jZ:p.fns.length<=1048576) (hg:GF prog 46 [.agg (aq p)] [] (.v (.bool g)) [])
  (hW:GF prog 57 [.v (ii fn),.v (ii 0),.v (ii (((p.fns.map aw).length:Int) - 1))] [] (.v (.bool w)) []):GF prog 49 [.agg (aq p),.v (ii fn)] [] (.v (.bool (w&&g))) []:=by
 have mT:(p.fns.map aw).length=p.fns.length:=by simp
 cases w with
 | false =>
  refine ai func49 ntmps49 ?_;refine V [] hW ?_;exact al
 | true =>
  refine ai func49 ntmps49 ?_;refine V [] hW ?_;exact zfy
theorem zO (p:Src) (fn:Int) (hw:b7 p<=1048576) (hn:ma p):GF prog 49 [.agg (aq p),.v (ii fn)] [] (.v (.bool (eG p fn))) []:=by
 obtain ⟨⟨a1,a2⟩,⟨b1,b2⟩,⟨c1,c2⟩,⟨d1,d2⟩⟩:=dU p;have h:=YB p fn _ _ X (yJ p hw hn) (Lw fn 0 _)
 have e:eG p fn=((decide ((0:Int)<=fn)&&decide (fn<=(((p.fns.map aw).length:Int) - 1)))&&de p):=by
  unfold eG;rw [show decide (fn<=(((p.fns.map aw).length:Int) - 1))=decide (fn < (p.fns.length:Int)) by rw [bM];apply decide_eq_decide.2;omega]
  cases de p <;> cases decide ((0:Int)<=fn) <;> cases decide (fn < (p.fns.length:Int)) <;> rfl
 rw [e];exact h
end Go.Xg
namespace Go.Xg
open Go.RowKit Go.Xw Go.Proofs Go.Im
open Go.Sp (Src)
attribute [local irreducible] GW GL GO YG GC GA aU aW
theorem sQ {p:Src} {fn:Int} (h:eG p fn=true):de p=true:=by
 unfold eG at h;simp only [aK,decide_eq_true_eq] at h;exact h.1.1
open Tryz Go.Sp
attribute [local irreducible] pE sI qJ
theorem ET (code:ae) (hl:code.length<=1099511627776) (c:dx) (hc:c.i<=code.length) (p:Src) (hw:b7 p<=1048576) :
  GC prog 42 [.loc 0 0,.agg (aq p)] [gS code c] fun g Δ=>∃ (z:Int) (c':dx),c'.i<=code.length/\(-9223372036854775808<=z/\z<=9223372036854775807)/\g=.v (ii z)/\Δ=[gS code c']:=by
 have ki:=(sF p).2.2.1;have eH:(p.fns.map aw).length=p.fns.length:=bM _;have I:=cW code 9 c hl hc;have i1:=cw (code:=code) 9 hc;generalize bd code 9 c=a at *;obtain ⟨k,c1⟩:=a;simp only at I i1
 by_cases hk:k=0
 ·have fm:(k==0)=true:=by simpa using hk
  have G:=J7 code c1 hl i1;have r2:=xf code c1;have i2:=BM (code:=code) i1;generalize uL code c1=a at *;obtain ⟨z,c2⟩:=a;simp only at G r2 i2;refine ai func42 ntmps42 ?_;refine zfI ?_;refine V [0] G ?_;refine bY ?_;exact ⟨z,c2,i2,r2,rfl,rfl⟩
 ·have fm:(k==0)=false:=by simpa using hk
  have G:=cW code (((p.fns.map aw).length+1:Nat):Int) c1 hl i1;have r2:=cK code c1 (n:=(((p.fns.map aw).length+1:Nat):Int)) X;have i2:=cw (code:=code) (((p.fns.map aw).length+1:Nat):Int) i1;generalize bd code (((p.fns.map aw).length+1:Nat):Int) c1=a at *;obtain ⟨z,c2⟩:=a;simp only at G r2 i2;refine ai func42 ntmps42 ?_;refine zfI ?_;refine V [0] G ?_;refine bY ?_;exact ⟨z,c2,i2,⟨by omega,by omega⟩,rfl,rfl⟩
end Go.Xg
namespace Go.Xg
open Go.RowKit Go.Xw Go.Proofs Go.Sp Go.Im
def ZE (g:GV) (Δ:List Ob):Prop:=Δ=[]/\∃ (p:Src) (z:Int),b7 p<=1048576/\ma p/\(-9223372036854775808<=z/\z<=9223372036854775807)/\g=.tup [.agg (aq p),.v (ii z)]
attribute [local irreducible] GW GL GO YG GC GA aU aW pE sI qJ
end Go.Xg
