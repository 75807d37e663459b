/- Part 10 of proofs that are told in their last texts. -/
import Derived.Test.YtbfmholmeiegoaaGreatDoorY2
import Derived.Test.YtbfmholmeiegoaaGreatDoorY5
import Derived.Test.YtbfmholmeiegoaaGreatDoorY9
import Derived.Test.YtbfmholmeiegoaaGreatDoorY8
set_option linter.unusedVariables false
set_option linter.unusedSimpArgs false
set_option maxRecDepth 100000
set_option maxHeartbeats 2000000
namespace Go.Xg
open GV (U)
open Go.RowKit Go.Xw Go.Proofs Tryz
open Go.Xp (Nd Ar)
open Go.Sp (Src)
open Go.Im (wS fC bC pj tG iY eM ph pg pf)
attribute [local irreducible] GW GL GO YG GC GA be bg
theorem SH (l:List Int) (left:Nat) (hl:l.length<=9223372036854775807) (xV:left<=1048576):GF prog 134 [ints l,.v (ii (left:Nat))] [] (.v (ii (tG l.length left))) []:=by
 have hm:(l.map fun i=>[GV.v (ii i)]).length=l.length:=by simp
 by_cases h0:left < l.length
 ·have hd:decide ((left:Int) - ((l.map fun i=>[GV.v (ii i)]).length:Int) < 0)=true:=by rw [hm];simpa using by omega
  rw [eM h0];refine ah func134 ntmps134 ?_;exact aj
 ·have hd:decide ((left:Int) - ((l.map fun i=>[GV.v (ii i)]).length:Int) < 0)=false:=by rw [hm];simpa using by omega
  rw [iY G,show ((left - l.length:Nat):Int)=(left:Int) - ((l.map fun i=>[GV.v (ii i)]).length:Int) by rw [hm];omega];refine ah func134 ntmps134 ?_;exact aj
theorem Bp (l:List ae) (left:Nat) (hl:l.length<=9223372036854775807) (he:∀ x∈l,x.length<=9223372036854775807) (xV:left<=1048576):GF prog 17 [strs l,.v (ii (left:Nat))] [] (.v (ii (tG (wS l) left))) []:=by
 have hm:(l.map (fun s=>[GV.v (sv s)])).length=l.length:=by simp
 have ht:wS l=l.length+bC (fun x:ae=>x.length) l:=ph _ l
 by_cases h0:left < l.length
 ·have hd:decide ((left:Int) - ((l.map (fun s=>[GV.v (sv s)])).length:Int) < 0)=true:=by rw [hm];simpa using by omega
  rw [eM G];refine ah func17 ntmps17 ?_;exact aj
 have hd:decide ((left:Int) - ((l.map (fun s=>[GV.v (sv s)])).length:Int) < 0)=false:=by rw [hm];simpa using by omega
 rw [ht];refine ah func17 ntmps17 ?_;refine GW.loop (fun k:Nat × Int=>l.length - k.1) (fun k fr Γ=>fr=[strs l,.v (ii k.2),U,U,U,.v (ii (k.1:Nat)),U,U,U,U,U,U,U,U,U,U,U,U,U,U,U,U,U,U,U,U,U,U]/\Γ=[]/\k.1<=l.length/\k.2=(left:Int) - ((l.length+bC (fun x:ae=>x.length) (l.take k.1):Nat):Int)/\0<=k.2) (0,(left:Int) - ((l.map (fun s=>[GV.v (sv s)])).length:Int)) ?_ ?_
 ·exact ⟨_,_,Wk.aH ar,rfl,rfl,aM _,by rw [hm];simp [bC],by rw [hm];simp only;omega⟩
 rintro ⟨k,z⟩ _ _ ⟨rfl,rfl,hk,hz,GX⟩;simp only at hk hz GX
 have Pa:z<=1048576:=by omega
 by_cases ak:k < l.length
 ·have hx:l[k]?=some l[k]:=by simp [ak]
  have hr:(l.map (fun s=>[GV.v (sv s)]))[k]?=some ([GV.v (sv l[k])]):=by rw [aP,hx];rfl
  have dZ:decide ((k:Int) < ((l.map (fun s=>[GV.v (sv s)])).length:Int))=true:=by rw [hm];simpa using ak
  have jU:=pg (w:=fun x:ae=>x.length) hx;have hle:=pj (fun x:ae=>x.length) l (k+1);have hex:=he _ (bA hx);generalize l[k]=x at *
  by_cases F:z < ((x.length:Nat):Int)
  ·have CP:decide (z - ((x.length:Nat):Int) < 0)=true:=by simpa using by omega
   rw [eM G];exact ay
  ·have CP:decide (z - ((x.length:Nat):Int) < 0)=false:=by simpa using by omega
   refine D ?_;exact ⟨(k+1,z - ((x.length:Nat):Int)),⟨_,_,Wk.aH ar,rfl,rfl,ak,by simp only;omega,by simp only;omega⟩,by simp only;omega⟩
 ·have dZ:decide ((k:Int) < ((l.map (fun s=>[GV.v (sv s)])).length:Int))=false:=by rw [hm];simpa using ak
  have mY:k=l.length:=by omega
  subst mY;rw [bW] at hz;rw [iY G,show ((left - (l.length+bC (fun x:ae=>x.length) l):Nat):Int)=z by omega];refine cw ?_;exact ay
theorem Qj (x:Ar) (left:Nat) (hs:x.name.length<=9223372036854775807) (xV:left<=1048576):GF prog 76 [.agg (az x),.v (ii (left:Nat))] [] (.v (ii (tG (x.name.length) left))) []:=by
 by_cases h0:left < x.name.length
 ·have hd:decide ((left:Int) - ((x.name.length:Nat):Int) < 0)=true:=by simpa using by omega
  rw [eM G];refine ah func76 ntmps76 ?_;exact aj
 have hd:decide ((left:Int) - ((x.name.length:Nat):Int) < 0)=false:=by simpa using by omega
 rw [iY G,show ((left - (x.name.length):Nat):Int)=(left:Int) - ((x.name.length:Nat):Int) by omega];refine ah func76 ntmps76 ?_;exact aj
theorem MS (l:List Ar) (left:Nat) (hl:l.length<=9223372036854775807) (he:∀ x∈l,x.name.length<=9223372036854775807) (xV:left<=1048576):GF prog 18 [.sl 2 (l.map az),.v (ii (left:Nat))] [] (.v (ii (tG (bC (fun a:Ar=>a.name.length+1) l) left))) []:=by
 have hm:(l.map az).length=l.length:=by simp
 have ht:bC (fun a:Ar=>a.name.length+1) l=l.length+bC (fun x:Ar=>x.name.length) l:=ph _ l
 by_cases h0:left < l.length
 ·have hd:decide ((left:Int) - ((l.map az).length:Int) < 0)=true:=by rw [hm];simpa using by omega
  rw [eM G];refine ah func18 ntmps18 ?_;exact aj
 have hd:decide ((left:Int) - ((l.map az).length:Int) < 0)=false:=by rw [hm];simpa using by omega
 rw [ht];refine ah func18 ntmps18 ?_;refine GW.loop (fun k:Nat × Int=>l.length - k.1) (fun k fr Γ=>fr=[.sl 2 (l.map az),.v (ii k.2),U,U,U,.v (ii (k.1:Nat)),U,U,U,U,U,U,U,U,U,U,U,U,U,U,U,U,U,U,U,U,U]/\Γ=[]/\k.1<=l.length/\k.2=(left:Int) - ((l.length+bC (fun x:Ar=>x.name.length) (l.take k.1):Nat):Int)/\0<=k.2) (0,(left:Int) - ((l.map az).length:Int)) ?_ ?_
 ·exact ⟨_,_,Wk.aH ar,rfl,rfl,aM _,by rw [hm];simp [bC],by rw [hm];simp only;omega⟩
 rintro ⟨k,z⟩ _ _ ⟨rfl,rfl,hk,hz,GX⟩;simp only at hk hz GX
 have Pa:z<=1048576:=by omega
 by_cases ak:k < l.length
 ·have hx:l[k]?=some l[k]:=by simp [ak]
  have hr:(l.map az)[k]?=some (az l[k]):=by rw [aP,hx];rfl
  have dZ:decide ((k:Int) < ((l.map az).length:Int))=true:=by rw [hm];simpa using ak
  have jU:=pg (w:=fun x:Ar=>x.name.length) hx;have hle:=pj (fun x:Ar=>x.name.length) l (k+1);have hex:=he _ (bA hx);generalize l[k]=x at *;obtain ⟨y,rfl⟩:∃ y:Nat,z=(y:Int):=⟨z.toNat,by omega⟩;have hc:=Qj x y G G
  by_cases F:y < x.name.length
  ·rw [eM F] at hc;rw [eM G];refine D ?_;refine V [] hc ?_;exact aj
  ·rw [iY G] at hc
   have CP:decide (((y - (x.name.length):Nat):Int) < 0)=false:=by simp
   refine D ?_;refine V [] hc ?_;exact ⟨(k+1,((y - (x.name.length):Nat):Int)),⟨_,_,Wk.aH ar,rfl,rfl,ak,by simp only;omega,by simp only;omega⟩,by simp only;omega⟩
 ·have dZ:decide ((k:Int) < ((l.map az).length:Int))=false:=by rw [hm];simpa using ak
  have mY:k=l.length:=by omega
  subst mY;rw [bW] at hz;rw [iY G,show ((left - (l.length+bC (fun x:Ar=>x.name.length) l):Nat):Int)=z by omega];refine cw ?_;exact ay
theorem YK (x:Go.Sp.Fn) (left:Nat) (hs:x.name.length<=9223372036854775807) (hp:x.params.length<=9223372036854775807) (hq:∀ s∈x.params,s.length<=9223372036854775807) (xV:left<=1048576):GF prog 77 [.agg (au x),.v (ii (left:Nat))] [] (.v (ii (tG (x.name.length+wS x.params) left))) []:=by
 by_cases h0:left < x.name.length
 ·have hd:decide ((left:Int) - ((x.name.length:Nat):Int) < 0)=true:=by simpa using by omega
  rw [eM G];refine ah func77 ntmps77 ?_;exact aj
 have hd:decide ((left:Int) - ((x.name.length:Nat):Int) < 0)=false:=by simpa using by omega
 have hc:=Bp x.params (left - x.name.length) hp hq G;rw [show ((left - x.name.length:Nat):Int)=(left:Int) - ((x.name.length:Nat):Int) by omega] at hc
 by_cases F:left - x.name.length < wS x.params
 ·rw [eM G] at hc |-;refine ah func77 ntmps77 ?_;refine V [] hc ?_;exact aj
 ·rw [iY G] at hc |-;rw [show left - x.name.length - wS x.params=left - (x.name.length+wS x.params) by omega] at hc
  have dZ:decide (((left - (x.name.length+wS x.params):Nat):Int) < 0)=false:=by simp
  refine ah func77 ntmps77 ?_;refine V [] hc ?_;exact aj
theorem VK (l:List Go.Sp.Fn) (left:Nat) (hl:l.length<=9223372036854775807) (he:∀ x∈l,x.name.length<=9223372036854775807/\x.params.length<=9223372036854775807/\∀ s∈x.params,s.length<=9223372036854775807) (xV:left<=1048576):GF prog 19 [.sl 3 (l.map au),.v (ii (left:Nat))] [] (.v (ii (tG (bC (fun f:Go.Sp.Fn=>f.name.length+wS f.params+1) l) left))) []:=by
 have hm:(l.map au).length=l.length:=by simp
 have ht:bC (fun f:Go.Sp.Fn=>f.name.length+wS f.params+1) l=l.length+bC (fun x:Go.Sp.Fn=>x.name.length+wS x.params) l:=ph _ l
 by_cases h0:left < l.length
 ·have hd:decide ((left:Int) - ((l.map au).length:Int) < 0)=true:=by rw [hm];simpa using by omega
  rw [eM G];refine ah func19 ntmps19 ?_;exact aj
 have hd:decide ((left:Int) - ((l.map au).length:Int) < 0)=false:=by rw [hm];simpa using by omega
 rw [ht];refine ah func19 ntmps19 ?_;refine GW.loop (fun k:Nat × Int=>l.length - k.1) (fun k fr Γ=>fr=[.sl 3 (l.map au),.v (ii k.2),U,U,U,.v (ii (k.1:Nat)),U,U,U,U,U,U,U,U,U,U,U,U,U,U,U,U,U,U,U,U,U]/\Γ=[]/\k.1<=l.length/\k.2=(left:Int) - ((l.length+bC (fun x:Go.Sp.Fn=>x.name.length+wS x.params) (l.take k.1):Nat):Int)/\0<=k.2) (0,(left:Int) - ((l.map au).length:Int)) ?_ ?_
 ·exact ⟨_,_,Wk.aH ar,rfl,rfl,aM _,by rw [hm];simp [bC],by rw [hm];simp only;omega⟩
 rintro ⟨k,z⟩ _ _ ⟨rfl,rfl,hk,hz,GX⟩;simp only at hk hz GX
 have Pa:z<=1048576:=by omega
 by_cases ak:k < l.length
 ·have hx:l[k]?=some l[k]:=by simp [ak]
  have hr:(l.map au)[k]?=some (au l[k]):=by rw [aP,hx];rfl
  have dZ:decide ((k:Int) < ((l.map au).length:Int))=true:=by rw [hm];simpa using ak
  have jU:=pg (w:=fun x:Go.Sp.Fn=>x.name.length+wS x.params) hx;have hle:=pj (fun x:Go.Sp.Fn=>x.name.length+wS x.params) l (k+1);have hex:=he _ (bA hx);generalize l[k]=x at *;obtain ⟨y,rfl⟩:∃ y:Nat,z=(y:Int):=⟨z.toNat,by omega⟩;have hc:=YK x y hex.1 hex.2.1 hex.2.2 G
  by_cases F:y < x.name.length+wS x.params
  ·rw [eM F] at hc;rw [eM G];refine D ?_;refine V [] hc ?_;exact aj
  ·rw [iY G] at hc
   have CP:decide (((y - (x.name.length+wS x.params):Nat):Int) < 0)=false:=by simp
   refine D ?_;refine V [] hc ?_;exact ⟨(k+1,((y - (x.name.length+wS x.params):Nat):Int)),⟨_,_,Wk.aH ar,rfl,rfl,ak,by simp only;omega,by simp only;omega⟩,by simp only;omega⟩
 ·have dZ:decide ((k:Int) < ((l.map au).length:Int))=false:=by rw [hm];simpa using ak
  have mY:k=l.length:=by omega
  subst mY;rw [bW] at hz;rw [iY G,show ((left - (l.length+bC (fun x:Go.Sp.Fn=>x.name.length+wS x.params) l):Nat):Int)=z by omega];refine cw ?_;exact ay
theorem SJ (x:Nd) (left:Nat) (hs:x.s.length<=9223372036854775807) (hp:x.kids.length<=9223372036854775807) (xV:left<=1048576):GF prog 78 [.agg (ax x),.v (ii (left:Nat))] [] (.v (ii (tG (x.s.length+x.kids.length) left))) []:=by
 by_cases h0:left < x.s.length
 ·have hd:decide ((left:Int) - ((x.s.length:Nat):Int) < 0)=true:=by simpa using by omega
  rw [eM G];refine ah func78 ntmps78 ?_;exact aj
 have hd:decide ((left:Int) - ((x.s.length:Nat):Int) < 0)=false:=by simpa using by omega
 have hc:=SH x.kids (left - x.s.length) hp G;rw [show ((left - x.s.length:Nat):Int)=(left:Int) - ((x.s.length:Nat):Int) by omega] at hc
 by_cases F:left - x.s.length < x.kids.length
 ·rw [eM G] at hc |-;refine ah func78 ntmps78 ?_;refine V [] hc ?_;exact aj
 ·rw [iY G] at hc |-;rw [show left - x.s.length - x.kids.length=left - (x.s.length+x.kids.length) by omega] at hc
  have dZ:decide (((left - (x.s.length+x.kids.length):Nat):Int) < 0)=false:=by simp
  refine ah func78 ntmps78 ?_;refine V [] hc ?_;exact aj
theorem Qk (l:List Nd) (left:Nat) (hl:l.length<=9223372036854775807) (he:∀ x∈l,x.s.length<=9223372036854775807/\x.kids.length<=9223372036854775807) (xV:left<=1048576):GF prog 20 [.sl 5 (l.map ax),.v (ii (left:Nat))] [] (.v (ii (tG (bC (fun n:Nd=>n.s.length+n.kids.length+1) l) left))) []:=by
 have hm:(l.map ax).length=l.length:=by simp
 have ht:bC (fun n:Nd=>n.s.length+n.kids.length+1) l=l.length+bC (fun x:Nd=>x.s.length+x.kids.length) l:=ph _ l
 by_cases h0:left < l.length
 ·have hd:decide ((left:Int) - ((l.map ax).length:Int) < 0)=true:=by rw [hm];simpa using by omega
  rw [eM G];refine ah func20 ntmps20 ?_;exact aj
 have hd:decide ((left:Int) - ((l.map ax).length:Int) < 0)=false:=by rw [hm];simpa using by omega
 rw [ht];refine ah func20 ntmps20 ?_;refine GW.loop (fun k:Nat × Int=>l.length - k.1) (fun k fr Γ=>fr=[.sl 5 (l.map ax),.v (ii k.2),U,U,U,.v (ii (k.1:Nat)),U,U,U,U,U,U,U,U,U,U,U,U,U,U,U,U,U,U,U,U,U]/\Γ=[]/\k.1<=l.length/\k.2=(left:Int) - ((l.length+bC (fun x:Nd=>x.s.length+x.kids.length) (l.take k.1):Nat):Int)/\0<=k.2) (0,(left:Int) - ((l.map ax).length:Int)) ?_ ?_
 ·exact ⟨_,_,Wk.aH ar,rfl,rfl,aM _,by rw [hm];simp [bC],by rw [hm];simp only;omega⟩
 rintro ⟨k,z⟩ _ _ ⟨rfl,rfl,hk,hz,GX⟩;simp only at hk hz GX
 have Pa:z<=1048576:=by omega
 by_cases ak:k < l.length
 ·have hx:l[k]?=some l[k]:=by simp [ak]
  have hr:(l.map ax)[k]?=some (ax l[k]):=by rw [aP,hx];rfl
  have dZ:decide ((k:Int) < ((l.map ax).length:Int))=true:=by rw [hm];simpa using ak
  have jU:=pg (w:=fun x:Nd=>x.s.length+x.kids.length) hx;have hle:=pj (fun x:Nd=>x.s.length+x.kids.length) l (k+1);have hex:=he _ (bA hx);generalize l[k]=x at *;obtain ⟨y,rfl⟩:∃ y:Nat,z=(y:Int):=⟨z.toNat,by omega⟩;have hc:=SJ x y hex.1 hex.2 G
  by_cases F:y < x.s.length+x.kids.length
  ·rw [eM F] at hc;rw [eM G];refine D ?_;refine V [] hc ?_;exact aj
  ·rw [iY G] at hc
   have CP:decide (((y - (x.s.length+x.kids.length):Nat):Int) < 0)=false:=by simp
   refine D ?_;refine V [] hc ?_;exact ⟨(k+1,((y - (x.s.length+x.kids.length):Nat):Int)),⟨_,_,Wk.aH ar,rfl,rfl,ak,by simp only;omega,by simp only;omega⟩,by simp only;omega⟩
 ·have dZ:decide ((k:Int) < ((l.map ax).length:Int))=false:=by rw [hm];simpa using ak
  have mY:k=l.length:=by omega
  subst mY;rw [bW] at hz;rw [iY G,show ((left - (l.length+bC (fun x:Nd=>x.s.length+x.kids.length) l):Nat):Int)=z by omega];refine cw ?_;exact ay
theorem MU (p:Src) (acA:Nat) (hL:acA<=1048576) (hb:Go.Im.Small p 9223372036854775807):GF prog 6 [.agg (av p),.v (ii (acA:Nat))] [] (.v (ii (tG (fC p) acA))) []:=by
 obtain ⟨⟨a1,a2⟩,⟨b1,b2⟩,⟨c1,c2⟩,⟨d1,d2⟩⟩:=hb;have F:=Bp p.globals acA a1 a2 hL;unfold fC;generalize wS p.globals=w1 at *
 by_cases q1:acA < w1
 ·rw [eM q1] at F;rw [eM G];refine ah func6 ntmps6 ?_;refine V [] F ?_;exact aj
 rw [iY G] at F
 have e1:decide (((acA - w1:Nat):Int) < 0)=false:=by simp
 have I:=MS p.arrays (acA - w1) b1 b2 G;generalize bC (fun a:Ar=>a.name.length+1) p.arrays=w2 at *
 by_cases q2:acA - w1 < w2
 ·rw [eM q2] at I;rw [eM G];refine ah func6 ntmps6 ?_;refine V [] F ?_;refine V [] I ?_;exact aj
 rw [iY G] at I
 have e2:decide (((acA - w1 - w2:Nat):Int) < 0)=false:=by simp
 have h3:=VK p.fns (acA - w1 - w2) c1 c2 G;generalize bC (fun f:Go.Sp.Fn=>f.name.length+wS f.params+1) p.fns=w3 at *
 by_cases q3:acA - w1 - w2 < w3
 ·rw [eM q3] at h3;rw [eM G];refine ah func6 ntmps6 ?_;refine V [] F ?_;refine V [] I ?_;refine V [] h3 ?_;exact aj
 rw [iY G] at h3
 have e3:decide (((acA - w1 - w2 - w3:Nat):Int) < 0)=false:=by simp
 have h4:=Qk p.nodes (acA - w1 - w2 - w3) d1 d2 G;generalize bC (fun n:Nd=>n.s.length+n.kids.length+1) p.nodes=w4 at *
 by_cases q4:acA - w1 - w2 - w3 < w4
 ·rw [eM q4] at h4;rw [eM G];refine ah func6 ntmps6 ?_;refine V [] F ?_;refine V [] I ?_;refine V [] h3 ?_;refine V [] h4 ?_;exact aj
 rw [iY G] at h4
 have e4:decide (((acA - w1 - w2 - w3 - w4:Nat):Int) < 0)=false:=by simp
 rw [iY G,show acA - (w1+w2+w3+w4)=acA - w1 - w2 - w3 - w4 by omega];refine ah func6 ntmps6 ?_;refine V [] F ?_;refine V [] I ?_;refine V [] h3 ?_;refine V [] h4 ?_;exact aj
theorem MT (p:Src) (hb:Go.Im.Small p 9223372036854775807):GF prog 6 [.agg (av p),.v (ii 1048576)] [] (.v (ii (tG (fC p) 1048576))) []:=MU p 1048576 (aE _) hb
end Go.Xg
set_option maxHeartbeats 4000000
namespace Go.Xg
open Go.RowKit Go.Xw Go.Proofs Tryz
open Go.Xp (Nd Ar)
open Go.Sp (Src bf)
open Go.Im
attribute [local irreducible] GW GL GO YG GC GA be bg
theorem yQ (p:Src) (fo nw:Go.Xp.ae) (uU:decide ((1048576:Int) < ((fo.length:Nat):Int))=true):GF prog 3 [.agg (av p),.v (sv fo),.v (sv nw)] [] (.v (.bool true)) []:=by
 refine ah func3 ntmps3 ?_;exact aj
theorem yR (p:Src) (fo nw:Go.Xp.ae) (uU:decide ((1048576:Int) < ((fo.length:Nat):Int))=false) (xW:decide ((1048576:Int) < ((nw.length:Nat):Int))=true):GF prog 3 [.agg (av p),.v (sv fo),.v (sv nw)] [] (.v (.bool true)) []:=by
 refine ah func3 ntmps3 ?_;exact aj
theorem AM (p:Src) (fo nw:Go.Xp.ae) (uU:decide ((1048576:Int) < ((fo.length:Nat):Int))=false) (xW:decide ((1048576:Int) < ((nw.length:Nat):Int))=false) (hS:GF prog 6 [.agg (av p),.v (ii 1048576)] [] (.v (ii (-1))) []):GF prog 3 [.agg (av p),.v (sv fo),.v (sv nw)] [] (.v (.bool true)) []:=by
 refine ah func3 ntmps3 ?_;refine V [] hS ?_;exact aj
theorem Bz (p q:Src) (cd:Int) (fo nw:Go.Xp.ae) (uU:decide ((1048576:Int) < ((fo.length:Nat):Int))=false) (xW:decide ((1048576:Int) < ((nw.length:Nat):Int))=false) (n:Nat) (hw:fC p<=1048576)
  (qi:q.globals.length<=1048576) (C0:q.arrays.length<=1048576) (hq3:q.fns.length<=1048576) (hq4:q.nodes.length<=1048576) (hqt:1+nT q<=1099511627776) (l8:p.globals.length<=1048576) (ef:p.arrays.length<=1048576) (yL:p.fns.length<=1048576) (Kn:p.nodes.length<=1048576)
  (hS:GF prog 6 [.agg (av p),.v (ii 1048576)] [] (.v (ii (n:Nat))) [])
  (hT:GF prog 8 [.agg (av p)] [] (.agg (av p)) [])
  (hO:GC prog 8 [.agg (av p)] [] fun g Δ=>∃ hg ha hf hn fs ns,ra p hg ha hf hn fs ns/\g=.agg [.v hg,.v ha,.v hf,.v hn]/\Δ=gI p hg ha hf hn fs ns)
  (hG:GF prog 7 [.agg (av p),.v (sv fo),.v (sv nw)] [] (.tup [.agg (av q),.v (ii cd)]) [])
  (hI:GC prog 9 [.agg (av p),.v (sv fo),.v (sv nw)] [] (uC q cd))
  (hE:GF prog 10 [.agg (av p),.agg (av p)] [] (.v (.bool true)) [])
  (hQ:GF prog 10 [.agg (av q),.agg (av q)] [] (.v (.bool true)) []) :
  GF prog 3 [.agg (av p),.v (sv fo),.v (sv nw)] [] (.v (.bool true)) []:=by
 have hd:decide (((n:Nat):Int) < 0)=false:=by simp
 have hHd:=G9 q 1 qi C0 hq3 hq4 hqt;have dZ:decide (((1+nT q:Nat):Int) < 0)=false:=decide_eq_false G
 have CP:(((1+nT q:Nat):Int) != ((1+nT q:Nat):Int))=false:=by simp
 have hd4:(cd != cd)=false:=by simp
 refine ah func3 ntmps3 ?_;refine V [] hS ?_;refine V [] hT ?_;refine fR [] hG ?_;refine lU ?_;refine GL.wm rfl rfl rfl rfl rfl rfl rfl ?_;refine bm ?_;refine D ?_;refine cM [] hO ?_;rintro _ _ ⟨hg,ha,hf,hn,fs,ns,H,rfl,rfl⟩;have WV:=nP p hg ha hf hn fs ns;have tX:=Lq p;have hM:=zK p hg ha hf hn fs ns H 1 l8 ef yL Kn G;obtain ⟨⟨q0,q1,rfl⟩,⟨q2,q3,rfl⟩,⟨q4,q5,rfl⟩,⟨q6,q7,rfl⟩,-,-,-,-⟩:=id H;rw [xb WV];refine dH ?_;refine GL.wm rfl rfl rfl rfl rfl rfl rfl ?_;refine bm ?_;refine D ?_;refine GL.UB hI (fun g Δ h=>h.plain) (fun B K β w l hI hF=>Gu H (A:=[_]) (C:=[]) (by rw [cY];exact hI) hF rfl rfl rfl) ?_;rintro _ _ ⟨fU,Fb,TF,b9,Oh,FA,HQ,rfl,rfl⟩;have hSQ:=nP q fU Fb TF b9 Oh FA;have Tw:=zK q fU Fb TF b9 Oh FA HQ 1 qi C0 hq3 hq4 hqt;obtain ⟨⟨r0,r1,rfl⟩,⟨r2,r3,rfl⟩,⟨r4,r5,rfl⟩,⟨r6,r7,rfl⟩,-,-,-,-⟩:=id HQ;refine bm ?_;refine lU ?_;refine GL.wm rfl rfl rfl rfl rfl rfl rfl ?_;refine bm ?_;refine D ?_;refine GL.borrow hQ (fun B K β w l hI hF=>sU HQ (A:=_::gI p _ _ _ _ fs ns) (C:=[]) (by rw [cY];exact hI) hF rfl rfl) ?_;refine bm ?_;refine D ?_;refine aL (.q 0 (.q 1 (.a 2 (.a 3 (.q 4 .nil))))) ?_;refine ao ?_;refine yB [] hT ?_;simp only [cY];refine ao ?_;refine OA rfl rfl (GL.borrow hE (fun B K β w l hI hF=>sU H (A:=[_]) hI hF rfl rfl) ?_);refine dd ?_;refine bx ?_;refine GL.uq [_] (gI p _ _ _ _ fs ns) (gI q _ _ _ _ Oh FA) hM rfl WV (fun _=>rfl) (lD) ?_;rintro _ Δ ⟨rfl,RA⟩
 have aby:∀ x∈Δ,x.ko=true:=by rw [RA];exact nP _ _ _ _ _ _ _
 refine ⟨by rw [RA,qU (H.mk' 1),qU H,show (oI 1 p).fns.length=p.fns.length from eU _ _,show (oI 1 p).nodes.length=p.nodes.length from eU _ _],aby,fun _=>rfl,?_⟩;have hdk:decide (((1+nT p:Nat):Int) < 0)=false:=decide_eq_false G;clear RA;refine bm ?_;refine D ?_;refine GL.borrow hQ (fun B K β w l hI hF=>sU HQ (A:=_::Δ) (C:=[]) (by rw [cY];exact hI) hF rfl rfl) ?_;refine bm ?_;refine D ?_;refine GL.uq (_::Δ) (gI q _ _ _ _ Oh FA) [] Tw (by rw [cY];rfl) hSQ (fun _=>rfl) (lD) ?_;rintro _ _ ⟨rfl,rfl⟩;have HM:=HQ.mk' 1;refine ⟨by rw [qU HM,qU HQ,show (oI 1 q).fns.length=q.fns.length from eU _ _,show (oI 1 q).nodes.length=q.nodes.length from eU _ _],nP _ _ _ _ _ _ _,fun _=>rfl,?_⟩;refine bm ?_;refine D ?_;refine GL.borrow hHd (fun B K β w l hI hF=>yW HM (A:=_::Δ) (C:=[]) hI hF rfl rfl) ?_;refine bm ?_;refine D ?_;refine fR [] hT ?_;simp only [cY];refine D ?_;refine cM [] hI ?_;rintro _ _ ⟨Xf,ha3,hf3,Xr,fs3,ns3,HQ3,rfl,rfl⟩;rw [xb (nP q Xf ha3 hf3 Xr fs3 ns3)];obtain ⟨⟨s0,s1,rfl⟩,⟨s2,s3,rfl⟩,⟨s4,s5,rfl⟩,⟨s6,s7,rfl⟩,-,-,-,-⟩:=id HQ3;refine dH ?_;refine lU ?_;refine GL.wm rfl rfl rfl rfl rfl rfl rfl ?_;refine bm ?_;refine D ?_;refine GL.borrow hQ (fun B K β w l hI hF=>sU HQ3 (A:=_::(Δ++gI (oI 1 q) _ _ _ _ Oh FA)) (C:=[]) (by rw [cY];exact hI) hF rfl rfl) ?_;refine bm ?_;refine D ?_;refine GL.borrow hHd (fun B K β w l hI hF=>yW HM (A:=_::Δ) (C:=gI q _ _ _ _ fs3 ns3) (by rw [<-cS];exact hI) hF rfl rfl) ?_;refine bm ?_;exact ay
theorem Jb {fo nw:Go.Xp.ae} {p:Src} {l:List Go.Xp.T} (h:Go.Im.Good p l):(iv fo nw p l).nodes.length=p.nodes.length:=by
 have:=congrArg List.length (rI fo nw h);simpa using this
theorem MF {fo nw:Go.Xp.ae} {p:Src} {l:List Go.Xp.T} (h:Go.Im.Good p l) {m:Nat} (hk:∀ n∈p.nodes,n.kids.length<=m):∀ n∈(iv fo nw p l).nodes,n.kids.length<=m:=fun n hn=>by
 have hm:n.kids∈(iv fo nw p l).nodes.map (fun n=>n.kids):=mP.2 ⟨n,hn,rfl⟩;rw [rI fo nw h] at hm;obtain ⟨x,hx,e⟩:=mP.1 hm;have:=hk x hx;rw [<-e];exact this
theorem SQ {fo nw:Go.Xp.ae} {p:Src} {l:List Go.Xp.T} (h:Go.Im.Good p l):nT (iv fo nw p l)=nT p:=by
 have F:(iv fo nw p l).globals.length=p.globals.length:=by show (p.globals.map _).length=_;rw [bP]
 have I:bG wA (iv fo nw p l).arrays=bG wA p.arrays:=II (fun _=>rfl) _;have h3:bG wF (iv fo nw p l).fns=bG wF p.fns:=II (fun _=>rfl) _
 have h4:bG wN (iv fo nw p l).nodes=bG wN p.nodes:=by
  have key:∀ l:List Nd,bG wN l=((l.map fun n=>n.kids).map fun k=>4+k.length).sum:=fun l=>by unfold bG;rw [List.map_map];rfl
  rw [key,key,rI fo nw h]
 unfold nT;rw [F,I,h3,h4]
theorem Vq (p:Src) (fo nw:Go.Xp.ae) (hw:fC p<=1048576):(renameI p fo nw).1.globals.length<=1048576/\(renameI p fo nw).1.arrays.length<=1048576/\(renameI p fo nw).1.fns.length<=1048576/\(renameI p fo nw).1.nodes.length<=1048576/\nT (renameI p fo nw).1<=4194304 /\
  (∀ f∈(renameI p fo nw).1.fns,f.params.length<=1048576)/\∀ n∈(renameI p fo nw).1.nodes,n.kids.length<=1048576:=by
 obtain ⟨⟨a1,a2⟩,⟨b1,b2⟩,⟨c1,c2⟩,⟨d1,d2⟩⟩:=jO p;have tZ:=Lq p
 have vB:∀ f∈p.fns,f.params.length<=1048576:=fun f h=>by have:=(c2 f h).2.1;omega
 have wW:∀ n∈p.nodes,n.kids.length<=1048576:=fun n h=>by have:=(d2 n h).2;omega
 have h0:∀ c:Int,(eu,c).1.globals.length<=1048576/\(eu,c).1.arrays.length<=1048576/\(eu,c).1.fns.length<=1048576/\(eu,c).1.nodes.length<=1048576/\nT (eu,c).1<=4194304/\(∀ f∈(eu,c).1.fns,f.params.length<=1048576)/\∀ n∈(eu,c).1.nodes,n.kids.length<=1048576:=fun c =>
  ⟨aM _,aM _,aM _,aM _,aM _,fun f h=>by simp [eu] at h,fun f h=>by simp [eu] at h⟩
 by_cases hb:((lC p&&bf nw)&&!gE nw)=true
 ·have eA:=hb;rw [aC,aC] at eA;obtain ⟨l,ek⟩:=D4 eA.1.1;unfold renameI;rw [ab hb,ek.EO];simp only;split
  ·exact h0 2
  split
  ·exact h0 3
  split
  ·exact h0 4
  refine ⟨?_,?_,?_,?_,?_,?_,MF ek wW⟩
  ·show (p.globals.map _).length<=_;rw [bP];omega
  ·show (p.arrays.map _).length<=_;rw [bP];omega
  ·show (p.fns.map _).length<=_;rw [bP];omega
  ·show (iv fo nw p l).nodes.length<=_;rw [Jb ek];omega
  ·show nT (iv fo nw p l)<=_;rw [SQ ek];omega
  ·intro f hf;obtain ⟨x,hx,rfl⟩:=mP.1 hf;exact vB x hx
 ·unfold renameI;rw [L hb];exact h0 1
theorem CA (p:Src) (hb:Small p 9223372036854775807) (hn:xD p) (fo nw:Go.Xp.ae):GF prog 3 [.agg (av p),.v (sv fo),.v (sv nw)] [] (.v (.bool true)) []:=by
 have hS:=MT p hb
 by_cases uU:decide ((1048576:Int) < ((fo.length:Nat):Int))=true
 ·exact yQ p fo nw uU
 have uU:decide ((1048576:Int) < ((fo.length:Nat):Int))=false:=by simpa using uU
 by_cases xW:decide ((1048576:Int) < ((nw.length:Nat):Int))=true
 ·exact yR p fo nw uU xW
 have xW:decide ((1048576:Int) < ((nw.length:Nat):Int))=false:=by simpa using xW
 by_cases hw:1048576 < fC p
 ·rw [eM hw] at hS;exact AM p fo nw uU xW hS
 ·rw [iY G] at hS
  have hw:fC p<=1048576:=by omega
  obtain ⟨⟨a1,a2⟩,⟨b1,b2⟩,⟨c1,c2⟩,⟨d1,d2⟩⟩:=jO p
  have vB:∀ f∈p.fns,f.params.length<=1048576:=fun f h=>by have:=(c2 f h).2.1;omega
  have wW:∀ n∈p.nodes,n.kids.length<=1048576:=fun n h=>by have:=(d2 n h).2;omega
  have l1:fo.length<=1048576:=by have:=of_decide_eq_false uU;omega
  have l2:nw.length<=1048576:=by have:=of_decide_eq_false xW;omega
  obtain ⟨q1,q2,q3,q4,q5,q6,q7⟩:=Vq p fo nw hw;exact Bz p (renameI p fo nw).1 (renameI p fo nw).2 fo nw uU xW _ hw q1 q2 q3 q4 G G G G G hS (MX p G G G vB G wW) (MY p G G G vB G wW) (Np p hw fo nw l2) (QV p hw hn fo nw l1 l2) (CF p G G G vB G wW) (CF (renameI p fo nw).1 q1 q2 q3 q6 q4 q7)
end Go.Xg
