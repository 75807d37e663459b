/- Part 10 of proofs that are told in their last texts. -/
import Derived.Test.YtbfmholmeiegoaaGreatDoorQ2
import Derived.Test.YtbfmholmeiegoaaGreatDoorQ5
import Derived.Test.YtbfmholmeiegoaaGreatDoorQ9
import Derived.Test.YtbfmholmeiegoaaGreatDoorQ8
open List (nil_append)
set_option linter.unusedVariables false
set_option linter.unusedSimpArgs false
set_option maxRecDepth 100000
set_option maxHeartbeats 2000000
namespace Go.Xg
open GV (U)
open Go.RowKit Go.Xw Go.Proofs Tryz
open Go.Xp (Nd Ar)
open Go.Sp (Src)
open Go.Im (wS df bj oD sE gE dY oC oB oA)
attribute [local irreducible] GW GL GO YG GC GA be bd
theorem Qd (l:List Int) (left:Nat) (hl:l.length<=9223372036854775807) (xa:left<=1048576):GF prog 134 [ints l,.v (ii (left:Nat))] [] (.v (ii (sE l.length left))) []:=by
 have hm:(l.map fun i=>[GV.v (ii i)]).length=l.length:=by simp
 by_cases h0:left < l.length
 ·have hd:decide ((left:Int) - ((l.map fun i=>[GV.v (ii i)]).length:Int) < 0)=true:=by rw [hm];simpa using by omega
  rw [dY h0];refine ah func134 ntmps134 ?_;exact al
 ·have hd:decide ((left:Int) - ((l.map fun i=>[GV.v (ii i)]).length:Int) < 0)=false:=by rw [hm];simpa using by omega
  rw [gE G,show ((left - l.length:Nat):Int)=(left:Int) - ((l.map fun i=>[GV.v (ii i)]).length:Int) by rw [hm];omega];refine ah func134 ntmps134 ?_;exact al
theorem Ak (l:List ae) (left:Nat) (hl:l.length<=9223372036854775807) (he:∀ x∈l,x.length<=9223372036854775807) (xa:left<=1048576):GF prog 17 [strs l,.v (ii (left:Nat))] [] (.v (ii (sE (wS l) left))) []:=by
 have hm:(l.map (fun s=>[GV.v (sv s)])).length=l.length:=by simp
 have ht:wS l=l.length+bj (fun x:ae=>x.length) l:=oC _ l
 by_cases h0:left < l.length
 ·have hd:decide ((left:Int) - ((l.map (fun s=>[GV.v (sv s)])).length:Int) < 0)=true:=by rw [hm];simpa using by omega
  rw [dY G];refine ah func17 ntmps17 ?_;exact al
 have hd:decide ((left:Int) - ((l.map (fun s=>[GV.v (sv s)])).length:Int) < 0)=false:=by rw [hm];simpa using by omega
 rw [ht];refine ah func17 ntmps17 ?_;refine GW.loop (fun k:Nat × Int=>l.length - k.1) (fun k fr F=>fr=[strs l,.v (ii k.2),U,U,U,.v (ii (k.1:Nat)),U,U,U,U,U,U,U,U,U,U,U,U,U,U,U,U,U,U,U,U,U,U]/\F=[]/\k.1<=l.length/\k.2=(left:Int) - ((l.length+bj (fun x:ae=>x.length) (l.take k.1):Nat):Int)/\0<=k.2) (0,(left:Int) - ((l.map (fun s=>[GV.v (sv s)])).length:Int)) ?_ ?_
 ·exact ⟨_,_,Wk.aE ao,rfl,rfl,aM _,by rw [hm];simp [bj],by rw [hm];simp only;omega⟩
 rintro ⟨k,z⟩ _ _ ⟨rfl,rfl,hk,hz,Fp⟩;simp only at hk hz Fp
 have MT:z<=1048576:=by omega
 by_cases ak:k < l.length
 ·have hx:l[k]?=some l[k]:=by simp [ak]
  have hr:(l.map (fun s=>[GV.v (sv s)]))[k]?=some ([GV.v (sv l[k])]):=by rw [aV,hx];rfl
  have dH:decide ((k:Int) < ((l.map (fun s=>[GV.v (sv s)])).length:Int))=true:=by rw [hm];simpa using ak
  have ji:=oB (w:=fun x:ae=>x.length) hx;have hle:=oD (fun x:ae=>x.length) l (k+1);have hex:=he _ (bF hx);generalize l[k]=x at *
  by_cases L:z < ((x.length:Nat):Int)
  ·have Bz:decide (z - ((x.length:Nat):Int) < 0)=true:=by simpa using by omega
   rw [dY G];exact ay
  ·have Bz:decide (z - ((x.length:Nat):Int) < 0)=false:=by simpa using by omega
   refine D ?_;exact ⟨(k+1,z - ((x.length:Nat):Int)),⟨_,_,Wk.aE ao,rfl,rfl,ak,by simp only;omega,by simp only;omega⟩,by simp only;omega⟩
 ·have dH:decide ((k:Int) < ((l.map (fun s=>[GV.v (sv s)])).length:Int))=false:=by rw [hm];simpa using ak
  have my:k=l.length:=by omega
  subst my;rw [b7] at hz;rw [gE G,show ((left - (l.length+bj (fun x:ae=>x.length) l):Nat):Int)=z by omega];refine cl ?_;exact ay
theorem NV (x:Ar) (left:Nat) (hs:x.name.length<=9223372036854775807) (xa:left<=1048576):GF prog 76 [.agg (az x),.v (ii (left:Nat))] [] (.v (ii (sE (x.name.length) left))) []:=by
 by_cases h0:left < x.name.length
 ·have hd:decide ((left:Int) - ((x.name.length:Nat):Int) < 0)=true:=by simpa using by omega
  rw [dY G];refine ah func76 ntmps76 ?_;exact al
 have hd:decide ((left:Int) - ((x.name.length:Nat):Int) < 0)=false:=by simpa using by omega
 rw [gE G,show ((left - (x.name.length):Nat):Int)=(left:Int) - ((x.name.length:Nat):Int) by omega];refine ah func76 ntmps76 ?_;exact al
theorem Ld (l:List Ar) (left:Nat) (hl:l.length<=9223372036854775807) (he:∀ x∈l,x.name.length<=9223372036854775807) (xa:left<=1048576):GF prog 18 [.sl 2 (l.map az),.v (ii (left:Nat))] [] (.v (ii (sE (bj (fun a:Ar=>a.name.length+1) l) left))) []:=by
 have hm:(l.map az).length=l.length:=by simp
 have ht:bj (fun a:Ar=>a.name.length+1) l=l.length+bj (fun x:Ar=>x.name.length) l:=oC _ l
 by_cases h0:left < l.length
 ·have hd:decide ((left:Int) - ((l.map az).length:Int) < 0)=true:=by rw [hm];simpa using by omega
  rw [dY G];refine ah func18 ntmps18 ?_;exact al
 have hd:decide ((left:Int) - ((l.map az).length:Int) < 0)=false:=by rw [hm];simpa using by omega
 rw [ht];refine ah func18 ntmps18 ?_;refine GW.loop (fun k:Nat × Int=>l.length - k.1) (fun k fr F=>fr=[.sl 2 (l.map az),.v (ii k.2),U,U,U,.v (ii (k.1:Nat)),U,U,U,U,U,U,U,U,U,U,U,U,U,U,U,U,U,U,U,U,U]/\F=[]/\k.1<=l.length/\k.2=(left:Int) - ((l.length+bj (fun x:Ar=>x.name.length) (l.take k.1):Nat):Int)/\0<=k.2) (0,(left:Int) - ((l.map az).length:Int)) ?_ ?_
 ·exact ⟨_,_,Wk.aE ao,rfl,rfl,aM _,by rw [hm];simp [bj],by rw [hm];simp only;omega⟩
 rintro ⟨k,z⟩ _ _ ⟨rfl,rfl,hk,hz,Fp⟩;simp only at hk hz Fp
 have MT:z<=1048576:=by omega
 by_cases ak:k < l.length
 ·have hx:l[k]?=some l[k]:=by simp [ak]
  have hr:(l.map az)[k]?=some (az l[k]):=by rw [aV,hx];rfl
  have dH:decide ((k:Int) < ((l.map az).length:Int))=true:=by rw [hm];simpa using ak
  have ji:=oB (w:=fun x:Ar=>x.name.length) hx;have hle:=oD (fun x:Ar=>x.name.length) l (k+1);have hex:=he _ (bF hx);generalize l[k]=x at *;obtain ⟨y,rfl⟩:∃ y:Nat,z=(y:Int):=⟨z.toNat,by omega⟩;have hc:=NV x y G G
  by_cases L:y < x.name.length
  ·rw [dY L] at hc;rw [dY G];refine D ?_;refine V [] hc ?_;exact al
  ·rw [gE G] at hc
   have Bz:decide (((y - (x.name.length):Nat):Int) < 0)=false:=by simp
   refine D ?_;refine V [] hc ?_;exact ⟨(k+1,((y - (x.name.length):Nat):Int)),⟨_,_,Wk.aE ao,rfl,rfl,ak,by simp only;omega,by simp only;omega⟩,by simp only;omega⟩
 ·have dH:decide ((k:Int) < ((l.map az).length:Int))=false:=by rw [hm];simpa using ak
  have my:k=l.length:=by omega
  subst my;rw [b7] at hz;rw [gE G,show ((left - (l.length+bj (fun x:Ar=>x.name.length) l):Nat):Int)=z by omega];refine cl ?_;exact ay
theorem VC (x:Go.Sp.Fn) (left:Nat) (hs:x.name.length<=9223372036854775807) (hp:x.params.length<=9223372036854775807) (hq:∀ s∈x.params,s.length<=9223372036854775807) (xa:left<=1048576):GF prog 77 [.agg (au x),.v (ii (left:Nat))] [] (.v (ii (sE (x.name.length+wS x.params) left))) []:=by
 by_cases h0:left < x.name.length
 ·have hd:decide ((left:Int) - ((x.name.length:Nat):Int) < 0)=true:=by simpa using by omega
  rw [dY G];refine ah func77 ntmps77 ?_;exact al
 have hd:decide ((left:Int) - ((x.name.length:Nat):Int) < 0)=false:=by simpa using by omega
 have hc:=Ak x.params (left - x.name.length) hp hq G;rw [show ((left - x.name.length:Nat):Int)=(left:Int) - ((x.name.length:Nat):Int) by omega] at hc
 by_cases L:left - x.name.length < wS x.params
 ·rw [dY G] at hc |-;refine ah func77 ntmps77 ?_;refine V [] hc ?_;exact al
 ·rw [gE G] at hc |-;rw [show left - x.name.length - wS x.params=left - (x.name.length+wS x.params) by omega] at hc
  have dH:decide (((left - (x.name.length+wS x.params):Nat):Int) < 0)=false:=by simp
  refine ah func77 ntmps77 ?_;refine V [] hc ?_;exact al
theorem S4 (l:List Go.Sp.Fn) (left:Nat) (hl:l.length<=9223372036854775807) (he:∀ x∈l,x.name.length<=9223372036854775807/\x.params.length<=9223372036854775807/\∀ s∈x.params,s.length<=9223372036854775807) (xa:left<=1048576):GF prog 19 [.sl 3 (l.map au),.v (ii (left:Nat))] [] (.v (ii (sE (bj (fun f:Go.Sp.Fn=>f.name.length+wS f.params+1) l) left))) []:=by
 have hm:(l.map au).length=l.length:=by simp
 have ht:bj (fun f:Go.Sp.Fn=>f.name.length+wS f.params+1) l=l.length+bj (fun x:Go.Sp.Fn=>x.name.length+wS x.params) l:=oC _ l
 by_cases h0:left < l.length
 ·have hd:decide ((left:Int) - ((l.map au).length:Int) < 0)=true:=by rw [hm];simpa using by omega
  rw [dY G];refine ah func19 ntmps19 ?_;exact al
 have hd:decide ((left:Int) - ((l.map au).length:Int) < 0)=false:=by rw [hm];simpa using by omega
 rw [ht];refine ah func19 ntmps19 ?_;refine GW.loop (fun k:Nat × Int=>l.length - k.1) (fun k fr F=>fr=[.sl 3 (l.map au),.v (ii k.2),U,U,U,.v (ii (k.1:Nat)),U,U,U,U,U,U,U,U,U,U,U,U,U,U,U,U,U,U,U,U,U]/\F=[]/\k.1<=l.length/\k.2=(left:Int) - ((l.length+bj (fun x:Go.Sp.Fn=>x.name.length+wS x.params) (l.take k.1):Nat):Int)/\0<=k.2) (0,(left:Int) - ((l.map au).length:Int)) ?_ ?_
 ·exact ⟨_,_,Wk.aE ao,rfl,rfl,aM _,by rw [hm];simp [bj],by rw [hm];simp only;omega⟩
 rintro ⟨k,z⟩ _ _ ⟨rfl,rfl,hk,hz,Fp⟩;simp only at hk hz Fp
 have MT:z<=1048576:=by omega
 by_cases ak:k < l.length
 ·have hx:l[k]?=some l[k]:=by simp [ak]
  have hr:(l.map au)[k]?=some (au l[k]):=by rw [aV,hx];rfl
  have dH:decide ((k:Int) < ((l.map au).length:Int))=true:=by rw [hm];simpa using ak
  have ji:=oB (w:=fun x:Go.Sp.Fn=>x.name.length+wS x.params) hx;have hle:=oD (fun x:Go.Sp.Fn=>x.name.length+wS x.params) l (k+1);have hex:=he _ (bF hx);generalize l[k]=x at *;obtain ⟨y,rfl⟩:∃ y:Nat,z=(y:Int):=⟨z.toNat,by omega⟩;have hc:=VC x y hex.1 hex.2.1 hex.2.2 G
  by_cases L:y < x.name.length+wS x.params
  ·rw [dY L] at hc;rw [dY G];refine D ?_;refine V [] hc ?_;exact al
  ·rw [gE G] at hc
   have Bz:decide (((y - (x.name.length+wS x.params):Nat):Int) < 0)=false:=by simp
   refine D ?_;refine V [] hc ?_;exact ⟨(k+1,((y - (x.name.length+wS x.params):Nat):Int)),⟨_,_,Wk.aE ao,rfl,rfl,ak,by simp only;omega,by simp only;omega⟩,by simp only;omega⟩
 ·have dH:decide ((k:Int) < ((l.map au).length:Int))=false:=by rw [hm];simpa using ak
  have my:k=l.length:=by omega
  subst my;rw [b7] at hz;rw [gE G,show ((left - (l.length+bj (fun x:Go.Sp.Fn=>x.name.length+wS x.params) l):Nat):Int)=z by omega];refine cl ?_;exact ay
theorem Qf (x:Nd) (left:Nat) (hs:x.s.length<=9223372036854775807) (hp:x.kids.length<=9223372036854775807) (xa:left<=1048576):GF prog 78 [.agg (aw x),.v (ii (left:Nat))] [] (.v (ii (sE (x.s.length+x.kids.length) left))) []:=by
 by_cases h0:left < x.s.length
 ·have hd:decide ((left:Int) - ((x.s.length:Nat):Int) < 0)=true:=by simpa using by omega
  rw [dY G];refine ah func78 ntmps78 ?_;exact al
 have hd:decide ((left:Int) - ((x.s.length:Nat):Int) < 0)=false:=by simpa using by omega
 have hc:=Qd x.kids (left - x.s.length) hp G;rw [show ((left - x.s.length:Nat):Int)=(left:Int) - ((x.s.length:Nat):Int) by omega] at hc
 by_cases L:left - x.s.length < x.kids.length
 ·rw [dY G] at hc |-;refine ah func78 ntmps78 ?_;refine V [] hc ?_;exact al
 ·rw [gE G] at hc |-;rw [show left - x.s.length - x.kids.length=left - (x.s.length+x.kids.length) by omega] at hc
  have dH:decide (((left - (x.s.length+x.kids.length):Nat):Int) < 0)=false:=by simp
  refine ah func78 ntmps78 ?_;refine V [] hc ?_;exact al
theorem NW (l:List Nd) (left:Nat) (hl:l.length<=9223372036854775807) (he:∀ x∈l,x.s.length<=9223372036854775807/\x.kids.length<=9223372036854775807) (xa:left<=1048576):GF prog 20 [.sl 5 (l.map aw),.v (ii (left:Nat))] [] (.v (ii (sE (bj (fun n:Nd=>n.s.length+n.kids.length+1) l) left))) []:=by
 have hm:(l.map aw).length=l.length:=by simp
 have ht:bj (fun n:Nd=>n.s.length+n.kids.length+1) l=l.length+bj (fun x:Nd=>x.s.length+x.kids.length) l:=oC _ l
 by_cases h0:left < l.length
 ·have hd:decide ((left:Int) - ((l.map aw).length:Int) < 0)=true:=by rw [hm];simpa using by omega
  rw [dY G];refine ah func20 ntmps20 ?_;exact al
 have hd:decide ((left:Int) - ((l.map aw).length:Int) < 0)=false:=by rw [hm];simpa using by omega
 rw [ht];refine ah func20 ntmps20 ?_;refine GW.loop (fun k:Nat × Int=>l.length - k.1) (fun k fr F=>fr=[.sl 5 (l.map aw),.v (ii k.2),U,U,U,.v (ii (k.1:Nat)),U,U,U,U,U,U,U,U,U,U,U,U,U,U,U,U,U,U,U,U,U]/\F=[]/\k.1<=l.length/\k.2=(left:Int) - ((l.length+bj (fun x:Nd=>x.s.length+x.kids.length) (l.take k.1):Nat):Int)/\0<=k.2) (0,(left:Int) - ((l.map aw).length:Int)) ?_ ?_
 ·exact ⟨_,_,Wk.aE ao,rfl,rfl,aM _,by rw [hm];simp [bj],by rw [hm];simp only;omega⟩
 rintro ⟨k,z⟩ _ _ ⟨rfl,rfl,hk,hz,Fp⟩;simp only at hk hz Fp
 have MT:z<=1048576:=by omega
 by_cases ak:k < l.length
 ·have hx:l[k]?=some l[k]:=by simp [ak]
  have hr:(l.map aw)[k]?=some (aw l[k]):=by rw [aV,hx];rfl
  have dH:decide ((k:Int) < ((l.map aw).length:Int))=true:=by rw [hm];simpa using ak
  have ji:=oB (w:=fun x:Nd=>x.s.length+x.kids.length) hx;have hle:=oD (fun x:Nd=>x.s.length+x.kids.length) l (k+1);have hex:=he _ (bF hx);generalize l[k]=x at *;obtain ⟨y,rfl⟩:∃ y:Nat,z=(y:Int):=⟨z.toNat,by omega⟩;have hc:=Qf x y hex.1 hex.2 G
  by_cases L:y < x.s.length+x.kids.length
  ·rw [dY L] at hc;rw [dY G];refine D ?_;refine V [] hc ?_;exact al
  ·rw [gE G] at hc
   have Bz:decide (((y - (x.s.length+x.kids.length):Nat):Int) < 0)=false:=by simp
   refine D ?_;refine V [] hc ?_;exact ⟨(k+1,((y - (x.s.length+x.kids.length):Nat):Int)),⟨_,_,Wk.aE ao,rfl,rfl,ak,by simp only;omega,by simp only;omega⟩,by simp only;omega⟩
 ·have dH:decide ((k:Int) < ((l.map aw).length:Int))=false:=by rw [hm];simpa using ak
  have my:k=l.length:=by omega
  subst my;rw [b7] at hz;rw [gE G,show ((left - (l.length+bj (fun x:Nd=>x.s.length+x.kids.length) l):Nat):Int)=z by omega];refine cl ?_;exact ay
theorem Cg (p:Src) (aaH:Nat) (hL:aaH<=1048576) (hb:Go.Im.Small p 9223372036854775807):GF prog 6 [.agg (ar p),.v (ii (aaH:Nat))] [] (.v (ii (sE (df p) aaH))) []:=by
 obtain ⟨⟨a1,a2⟩,⟨b1,b2⟩,⟨c1,c2⟩,⟨d1,d2⟩⟩:=hb;have L:=Ak p.globals aaH a1 a2 hL;unfold df;generalize wS p.globals=w1 at *
 by_cases q1:aaH < w1
 ·rw [dY q1] at L;rw [dY G];refine ah func6 ntmps6 ?_;refine V [] L ?_;exact al
 rw [gE G] at L
 have e1:decide (((aaH - w1:Nat):Int) < 0)=false:=by simp
 have I:=Ld p.arrays (aaH - w1) b1 b2 G;generalize bj (fun a:Ar=>a.name.length+1) p.arrays=w2 at *
 by_cases q2:aaH - w1 < w2
 ·rw [dY q2] at I;rw [dY G];refine ah func6 ntmps6 ?_;refine V [] L ?_;refine V [] I ?_;exact al
 rw [gE G] at I
 have e2:decide (((aaH - w1 - w2:Nat):Int) < 0)=false:=by simp
 have h3:=S4 p.fns (aaH - w1 - w2) c1 c2 G;generalize bj (fun f:Go.Sp.Fn=>f.name.length+wS f.params+1) p.fns=w3 at *
 by_cases q3:aaH - w1 - w2 < w3
 ·rw [dY q3] at h3;rw [dY G];refine ah func6 ntmps6 ?_;refine V [] L ?_;refine V [] I ?_;refine V [] h3 ?_;exact al
 rw [gE G] at h3
 have e3:decide (((aaH - w1 - w2 - w3:Nat):Int) < 0)=false:=by simp
 have h4:=NW p.nodes (aaH - w1 - w2 - w3) d1 d2 G;generalize bj (fun n:Nd=>n.s.length+n.kids.length+1) p.nodes=w4 at *
 by_cases q4:aaH - w1 - w2 - w3 < w4
 ·rw [dY q4] at h4;rw [dY G];refine ah func6 ntmps6 ?_;refine V [] L ?_;refine V [] I ?_;refine V [] h3 ?_;refine V [] h4 ?_;exact al
 rw [gE G] at h4
 have e4:decide (((aaH - w1 - w2 - w3 - w4:Nat):Int) < 0)=false:=by simp
 rw [gE G,show aaH - (w1+w2+w3+w4)=aaH - w1 - w2 - w3 - w4 by omega];refine ah func6 ntmps6 ?_;refine V [] L ?_;refine V [] I ?_;refine V [] h3 ?_;refine V [] h4 ?_;exact al
theorem Le (p:Src) (hb:Go.Im.Small p 9223372036854775807):GF prog 6 [.agg (ar p),.v (ii 1048576)] [] (.v (ii (sE (df p) 1048576))) []:=Cg p 1048576 (aD _) hb
end Go.Xg
set_option maxHeartbeats 4000000
namespace Go.Xg
open GV (U)
open Go.RowKit Go.Xw Go.Proofs Tryz
open Go.Xp (Nd Ar)
open Go.Sp (Src)
open Go.Im
section
variable {B:Bs} {K:Fz} {β:Bt} {w:World} {fr:List GV} {l:List Value} {A:List Ob} {p q:Src} {hg ha hf hn gg ga gf gn:Value} {fs ns es ms:List Value}
theorem JX {x y:Operand} (H:nO p hg ha hf hn fs ns) (J:nO q gg ga gf gn es ms) (hI:Inv B K β (A++(dK p hg ha hf hn fs ns++dK q gg ga gf gn es ms)) w) (hF:FR K β fr l) (hx:ba fr x=.agg [.v hg,.v ha,.v hf,.v hn]) (hy:ba fr y=.agg [.v gg,.v ga,.v gf,.v gn]) :
  ∃ K1,kC K1 w/\jl K1 (fun _=>.no) w/\bh K1 (fun _=>.no) ([x,y].map (ev l)) [.agg (ar p),.agg (ar q)]:=by
 obtain ⟨K1,Γ1,k1,i1,r1,o1⟩:=GM (s:=A.length) H (fun i x h=>by
  rw [LG (bp h).1];exact h) hI
 obtain ⟨K2,Cv,k2,i2,r2,o2⟩:=GM (s:=A.length+(dK p hg ha hf hn fs ns).length) J (fun i x h=>by
  rw [o1 _ (.inr G),<-cK,eE (by rw [aU];omega),aU,Nat.add_sub_cancel_left];exact h) i1
 have hr:=hF.ev x;rw [hx] at hr;have hs:=hF.ev y;rw [hy] at hs;refine ⟨K2,i2.fz,i2.VD,?_⟩;show bh K2 _ [ev l x,ev l y] _;rw [tQ hr,tQ hs];exact .cons (tR (r1.mono k2 (dp.refl _))) (.cons (tR r2) .nil)
end
theorem vF (X Y:List Ob) (b:Ob):((X++[b])++Y)[X.length]?=some b:=by rw [cK];exact Bf X Y b
theorem Dd (X Y:List Ob) (b z:Ob):oset ((X++[b])++Y) X.length z=(X++[z])++Y:=by rw [cK,cK];exact xu X Y b z
attribute [local irreducible] GW GL GO YG GC GA be bd
theorem Ap (a b:Src) (hS:GF prog 6 [.agg (ar a),.v (ii 1048576)] [] (.v (ii (-1))) []):GF prog 4 [.agg (ar a),.agg (ar b)] [] (.v (.bool true)) []:=by
 refine cY func4 ntmps4 ?_;refine GW.seq ?_;refine GW.region ?_;refine GL.kE rfl rfl ?_;refine bJ ?_;refine GL.kE rfl rfl ?_;refine bJ ?_;refine D ?_;refine V [] hS ?_;exact al
theorem Aq (a b:Src) (n:Nat) (hS:GF prog 6 [.agg (ar a),.v (ii 1048576)] [] (.v (ii (n:Nat))) []) (DL:GF prog 6 [.agg (ar b),.v (ii (n:Nat))] [] (.v (ii (-1))) []):GF prog 4 [.agg (ar a),.agg (ar b)] [] (.v (.bool true)) []:=by
 have hd:decide (((n:Nat):Int) < 0)=false:=by simp
 refine cY func4 ntmps4 ?_;refine GW.seq ?_;refine GW.region ?_;refine GL.kE rfl rfl ?_;refine bJ ?_;refine GL.kE rfl rfl ?_;refine bJ ?_;refine D ?_;refine V [] hS ?_;refine V [] DL ?_;exact al
theorem Cw (a b q:Src) (cd:Int) (n n2:Nat) (hw:df a+df b<=1048576)
  (pD:q.globals.length<=1048576) (BI:q.arrays.length<=1048576) (XB:q.fns.length<=1048576) (XC:q.nodes.length<=1048576) (XE:1+nV q<=1099511627776)
  (hS:GF prog 6 [.agg (ar a),.v (ii 1048576)] [] (.v (ii (n:Nat))) []) (DL:GF prog 6 [.agg (ar b),.v (ii (n:Nat))] [] (.v (ii (n2:Nat))) [])
  (hT:GF prog 8 [.agg (ar a)] [] (.agg (ar a)) []) (Ft:GF prog 8 [.agg (ar b)] [] (.agg (ar b)) [])
  (hO:GC prog 8 [.agg (ar a)] [] fun g Δ=>∃ hg ha hf hn fs ns,nO a hg ha hf hn fs ns/\g=.agg [.v hg,.v ha,.v hf,.v hn]/\Δ=dK a hg ha hf hn fs ns)
  (hO2:GC prog 8 [.agg (ar b)] [] fun g Δ=>∃ hg ha hf hn fs ns,nO b hg ha hf hn fs ns/\g=.agg [.v hg,.v ha,.v hf,.v hn]/\Δ=dK b hg ha hf hn fs ns)
  (hG:GF prog 13 [.agg (ar a),.agg (ar b)] [] (.tup [.agg (ar q),.v (ii cd)]) [])
  (hI:GC prog 14 [.agg (ar a),.agg (ar b)] [] (Av q cd))
  (hE:GF prog 10 [.agg (ar a),.agg (ar a)] [] (.v (.bool true)) []) (hE2:GF prog 10 [.agg (ar b),.agg (ar b)] [] (.v (.bool true)) [])
  (hQ:GF prog 10 [.agg (ar q),.agg (ar q)] [] (.v (.bool true)) []) :
  GF prog 4 [.agg (ar a),.agg (ar b)] [] (.v (.bool true)) []:=by
 obtain ⟨⟨a1,a2⟩,⟨b1,b2⟩,⟨c1,c2⟩,⟨d1,d2⟩⟩:=ju a;obtain ⟨⟨a3,a4⟩,⟨b3,b4⟩,⟨c3,c4⟩,⟨d3,d4⟩⟩:=ju b
 have hd:decide (((n:Nat):Int) < 0)=false:=by simp
 have hdb:decide (((n2:Nat):Int) < 0)=false:=by simp
 have Xd:=Fy q 1 pD BI XB XC XE;have dH:decide (((1+nV q:Nat):Int) < 0)=false:=decide_eq_false G
 have Bz:(((1+nV q:Nat):Int) != ((1+nV q:Nat):Int))=false:=by simp
 have hd4:(cd != cd)=false:=by simp
 refine cY func4 ntmps4 ?_;refine GW.seq ?_;refine GW.region ?_;refine GL.kE rfl rfl ?_;refine bJ ?_;refine GL.kE rfl rfl ?_;refine bJ ?_;refine D ?_;refine V [] hS ?_;refine V [] DL ?_;refine GW.join (fun fr F=>fr=[U,U,.box (ar a) 0,.box (ar b) 0,U,U,.box (ar q) 0,.v (ii cd),U,U,U,U,U,U,U,U,U,U,U,U,U,U,U,U,U,U,U,U,U,U,U,U,U,U,U,U,U,U,U,U,U,U,U,U,U,U,U,U,U,U,U,U,U,U,U,U,U,U,U,U,U,U,U,U,U,U,U,U,U,U,U,U,U,U,U,U,U,U,U,U,U,U,U,U,U,U,U,U,U,U,U,U,U,U,U,U,U,U,U,U,U,U,U,U,U,U,U,U,U,U,U,U,U,U,U,U,U,U,U]/\F=[]) ?_ ?_
 ·refine aK (.q 0 (.q 2 (.f 1 (.f 3 (.f 4 (aC 5 3 (.a 8 (.a 9 (.q 10 .nil)))) 8 (.a 4 (aC 5 3 (.a 9 (.q 10 .nil))))) 8 (.a 3 (.a 4 (aC 5 3 (.a 9 (.q 10 .nil)))))) 8 (.a 1 (.a 3 (.a 4 (aC 5 3 (.a 9 (.q 10 .nil))))))))) ?_;refine aj ?_;refine GO.fork ?_ ?_
  ·refine aI [] hT ?_;refine GO.fork ?_ ?_
   ·refine aI [] Ft ?_;refine GO.fork ?_ ?_
    ·refine aI [] hG ?_;exact aW ⟨_,_,(Wk.freeze (i:=0) rfl rfl rfl (aD _)).trans ((Wk.cut (n:=0) (aD _) rfl).trans (Wk.aE ao)),rfl,rfl⟩
    ·refine aj ?_;refine aI [] hG ?_;exact aW ⟨_,_,(Wk.freeze (i:=0) rfl rfl rfl (aD _)).trans ((Wk.cut (n:=0) (aD _) rfl).trans (Wk.aE ao)),rfl,rfl⟩
   ·refine aj ?_;refine aI [] Ft ?_;refine aI [] hG ?_;exact aW ⟨_,_,(Wk.freeze (i:=0) rfl rfl rfl (aD _)).trans ((Wk.cut (n:=0) (aD _) rfl).trans (Wk.aE ao)),rfl,rfl⟩
  ·refine aj ?_;refine aI [] hT ?_;refine aI [] Ft ?_;refine aI [] hG ?_;exact aW ⟨_,_,(Wk.freeze (i:=0) rfl rfl rfl (aD _)).trans ((Wk.cut (n:=0) (aD _) rfl).trans (Wk.aE ao)),rfl,rfl⟩
 rintro _ _ ⟨rfl,rfl⟩;refine D ?_;refine cD [] hO ?_;rintro _ _ ⟨hg,ha,hf,hn,fs,ns,H,rfl,rfl⟩;have Ua:=gQ a hg ha hf hn fs ns;have sY:=Dk a;have aau:=Dk b;have hM:=uv a hg ha hf hn fs ns H 1 G G G G G;obtain ⟨⟨q0,q1,rfl⟩,⟨q2,q3,rfl⟩,⟨q4,q5,rfl⟩,⟨q6,q7,rfl⟩,-,-,-,-⟩:=id H;rw [oR Ua];refine eO ?_;refine GL.A1 rfl rfl rfl rfl rfl rfl rfl ?_;refine bJ ?_;refine D ?_;refine cD [] hO2 ?_;rintro _ _ ⟨hg,ha,hf,hn,Iz,Jc,J,rfl,rfl⟩;have Xi:=gQ b hg ha hf hn Iz Jc;have Mr:=uv b hg ha hf hn Iz Jc J (1+nV a) G G G G G;obtain ⟨⟨p0,p1,rfl⟩,⟨p2,p3,rfl⟩,⟨p4,p5,rfl⟩,⟨p6,p7,rfl⟩,-,-,-,-⟩:=id J;rw [oR Xi];refine eO ?_;refine GL.A1 rfl rfl rfl rfl rfl rfl rfl ?_;refine bJ ?_;refine D ?_;refine GL.RW hI (fun g Δ h=>h.plain) (fun B K β w l hI hF=>JX H J (A:=[]) hI hF rfl rfl) ?_;rintro _ _ ⟨fu,DM,BA,bV,nZ,xO,HQ,rfl,rfl⟩;have hSQ:=gQ q fu DM BA bV nZ xO;have hMk:=uv q fu DM BA bV nZ xO HQ 1 pD BI XB XC XE;obtain ⟨⟨r0,r1,rfl⟩,⟨r2,r3,rfl⟩,⟨r4,r5,rfl⟩,⟨r6,r7,rfl⟩,-,-,-,-⟩:=id HQ;refine bJ ?_;refine tK ?_;refine GL.A1 rfl rfl rfl rfl rfl rfl rfl ?_;refine bJ ?_;refine D ?_;refine GL.borrow hQ (fun B K β w l hI hF=>po HQ (A:=dK a _ _ _ _ fs ns++dK b _ _ _ _ Iz Jc) (C:=[]) (by rw [cq];exact hI) hF rfl rfl) ?_;refine bJ ?_;refine D ?_;refine aK (.q 0 (.q 1 (.a 2 (.a 3 (.q 4 .nil))))) ?_;refine aj ?_;refine iH [] hT ?_;simp only [cq];refine aj ?_;refine OA rfl rfl (GL.borrow hE (fun B K β w l hI hF=>po H (A:=[]) (C:=dK b _ _ _ _ Iz Jc++dK q _ _ _ _ nZ xO) (by rw [nil_append,<-cK];exact hI) hF rfl rfl) ?_);refine cj ?_;refine bq ?_;refine aK (.q 0 (.q 1 (.a 2 (.a 3 (.q 4 .nil))))) ?_;refine aj ?_;refine iH [] Ft ?_;simp only [cq];refine aj ?_;refine OA rfl rfl (GL.borrow hE2 (fun B K β w l hI hF=>po J (A:=dK a _ _ _ _ fs ns) (C:=dK q _ _ _ _ nZ xO) (by rw [<-cK];exact hI) hF rfl rfl) ?_);refine cj ?_;refine bq ?_;refine GL.rA [] (dK a _ _ _ _ fs ns) (dK b _ _ _ _ Iz Jc++dK q _ _ _ _ nZ xO) hM (by rw [nil_append,cK]) Ua (fun _=>rfl) (kU) ?_;rintro _ Δ ⟨rfl,AN⟩
 have Zn:∀ x∈Δ,x.gC=true:=by rw [AN];exact gQ _ _ _ _ _ _ _
 refine ⟨by rw [AN,mW (H.mk' 1),mW H,show (lM 1 a).fns.length=a.fns.length from dR _ _,show (lM 1 a).nodes.length=a.nodes.length from dR _ _],Zn,fun _=>rfl,?_⟩;rw [nil_append];clear AN;refine bJ ?_;refine D ?_;refine GL.rA Δ (dK b _ _ _ _ Iz Jc) (dK q _ _ _ _ nZ xO) Mr rfl Xi (fun _=>rfl) (kU) ?_;rintro _ X8 ⟨rfl,AN⟩
 have Wm:∀ x∈X8,x.gC=true:=by rw [AN];exact gQ _ _ _ _ _ _ _
 refine ⟨by rw [AN,mW (J.mk' _),mW J,show (lM (1+nV a) b).fns.length=b.fns.length from dR _ _,show (lM (1+nV a) b).nodes.length=b.nodes.length from dR _ _],Wm,fun _=>rfl,?_⟩;have hdk:decide (((1+nV a+nV b:Nat):Int) < 0)=false:=decide_eq_false G;clear AN;rw [<-cK];generalize Δ++X8=Z at *;refine bJ ?_;refine D ?_;refine GL.borrow hQ (fun B K β w l hI hF=>po HQ (A:=Z) (C:=[]) (by rw [cq];exact hI) hF rfl rfl) ?_;refine bJ ?_;refine D ?_;refine GL.rA Z (dK q _ _ _ _ nZ xO) [] hMk (by rw [cq]) hSQ (fun _=>rfl) (kU) ?_;rintro _ _ ⟨rfl,rfl⟩;have HM:=HQ.mk' 1;refine ⟨by rw [mW HM,mW HQ,show (lM 1 q).fns.length=q.fns.length from dR _ _,show (lM 1 q).nodes.length=q.nodes.length from dR _ _],gQ _ _ _ _ _ _ _,fun _=>rfl,?_⟩;refine bJ ?_;refine D ?_;refine GL.borrow Xd (fun B K β w l hI hF=>xZ HM (A:=Z) (C:=[]) hI hF rfl rfl) ?_;refine bJ ?_;refine D ?_;obtain ⟨X,hX⟩:∃ X,X=Z++(dK (lM 1 q) (.slice r0 q.globals.length r1) (.slice r2 q.arrays.length r3) (.slice r4 q.fns.length r5) (.slice r6 q.nodes.length r7) nZ xO):=⟨_,rfl⟩;rw [cq,<-hX];refine GW.join (fun fr F=>∃ j A C A2 C2 x0 x1 x2 x3 es ms,fr=[U,U,U,U,U,U,.box (ar q) 0,.v (ii cd),U,U,.box [.v (.slice r0 q.globals.length r1),.v (.slice r2 q.arrays.length r3),.v (.slice r4 q.fns.length r5),.v (.slice r6 q.nodes.length r7)] 0,U,U,.v (ii ((1+nV q:Nat):Int)),U,.loc j 0,.v (ii cd),U,U,U,U,U,U,U,U,U,U,U,U,U,U,U,U,U,U,U,U,U,U,U,U,U,U,U,U,U,U,U,U,U,U,U,U,U,U,U,U,U,U,U,U,U,U,U,U,U,U,U,U,U,U,U,U,U,U,U,U,U,U,U,U,U,U,U,U,U,U,U,U,U,U,U,U,U,U,U,U,U,U,U,U,U,U,U,U,U,U,U,U,U,U,U,U,U,U,U,U,U,U]/\nO q x0 x1 x2 x3 es ms/\F[j]?=some (.box 33 [.v x0,.v x1,.v x2,.v x3])/\F=A++(dK q x0 x1 x2 x3 es ms++C)/\F=A2++(dK (lM 1 q) (.slice r0 q.globals.length r1) (.slice r2 q.arrays.length r3) (.slice r4 q.fns.length r5) (.slice r6 q.nodes.length r7) nZ xO++C2)) ?_ ?_
 ·refine aK (.q 0 (.q 2 (.f 1 (.f 3 (.f 4 (aC 5 3 (.a 8 (.a 9 (.q 10 .nil)))) 8 (.a 4 (aC 5 3 (.a 9 (.q 10 .nil))))) 8 (.a 3 (.a 4 (aC 5 3 (.a 9 (.q 10 .nil)))))) 8 (.a 1 (.a 3 (.a 4 (aC 5 3 (.a 9 (.q 10 .nil))))))))) ?_;refine aj ?_;refine GO.fork ?_ ?_
  ·refine iH [] hT ?_;simp only [cq];refine aj ?_;refine GO.fork ?_ ?_
   ·refine iH [] Ft ?_;simp only [cq];refine aj ?_;refine GO.fork ?_ ?_
    ·refine OA rfl rfl ?_;refine cD [] hI ?_;rintro _ _ ⟨x0,x1,x2,x3,es,ms,vB,rfl,rfl⟩;rw [oR (gQ q x0 x1 x2 x3 es ms)];obtain ⟨⟨s0,s1,rfl⟩,⟨s2,s3,rfl⟩,⟨s4,s5,rfl⟩,⟨s6,s7,rfl⟩,-,-,-,-⟩:=id vB;refine ⟨by simp,?_⟩;simp only [dm];refine cj ?_;refine aj ?_;refine OA rfl rfl ?_;refine GL.st rfl (Bf _ [] _) rfl rfl rfl rfl ?_;rw [xu];refine cj ?_;refine aj ?_;exact aW ⟨_,_,Wk.aE ao,(X++dK q _ _ _ _ es ms).length,X,_,Z,_,_,_,_,_,es,ms,rfl,vB,Bf _ [] _,cK _ _ _,by rw [hX,cK,cK]⟩
    ·refine aj ?_;refine OA rfl rfl ?_;refine cD [] hI ?_;rintro _ _ ⟨x0,x1,x2,x3,es,ms,vB,rfl,rfl⟩;rw [oR (gQ q x0 x1 x2 x3 es ms)];obtain ⟨⟨s0,s1,rfl⟩,⟨s2,s3,rfl⟩,⟨s4,s5,rfl⟩,⟨s6,s7,rfl⟩,-,-,-,-⟩:=id vB;refine ⟨by simp,?_⟩;simp only [dm];refine cj ?_;refine aj ?_;refine OA rfl rfl ?_;refine GL.st rfl (vF _ _ _) rfl rfl rfl rfl ?_;rw [Dd];refine cj ?_;refine aj ?_;exact aW ⟨_,_,Wk.aE ao,X.length,_,[],Z,_,_,_,_,_,es,ms,rfl,vB,vF _ _ _,by rw [cq],by rw [hX,cK,cK]⟩
   ·refine aj ?_;refine iH [] Ft ?_;simp only [cq];refine aj ?_;refine OA rfl rfl ?_;refine cD [] hI ?_;rintro _ _ ⟨x0,x1,x2,x3,es,ms,vB,rfl,rfl⟩;rw [oR (gQ q x0 x1 x2 x3 es ms)];obtain ⟨⟨s0,s1,rfl⟩,⟨s2,s3,rfl⟩,⟨s4,s5,rfl⟩,⟨s6,s7,rfl⟩,-,-,-,-⟩:=id vB;refine ⟨by simp,?_⟩;simp only [dm];refine cj ?_;refine aj ?_;refine OA rfl rfl ?_;refine GL.st rfl (vF _ _ _) rfl rfl rfl rfl ?_;rw [Dd];refine cj ?_;refine aj ?_;exact aW ⟨_,_,Wk.aE ao,X.length,_,[],Z,_,_,_,_,_,es,ms,rfl,vB,vF _ _ _,by rw [cq],by rw [hX,cK,cK]⟩
  ·refine aj ?_;refine iH [] hT ?_;simp only [cq];refine aj ?_;refine iH [] Ft ?_;simp only [cq];refine aj ?_;refine OA rfl rfl ?_;refine cD [] hI ?_;rintro _ _ ⟨x0,x1,x2,x3,es,ms,vB,rfl,rfl⟩;rw [oR (gQ q x0 x1 x2 x3 es ms)];obtain ⟨⟨s0,s1,rfl⟩,⟨s2,s3,rfl⟩,⟨s4,s5,rfl⟩,⟨s6,s7,rfl⟩,-,-,-,-⟩:=id vB;refine ⟨by simp,?_⟩;simp only [dm];refine cj ?_;refine aj ?_;refine OA rfl rfl ?_;refine GL.st rfl (vF _ _ _) rfl rfl rfl rfl ?_;rw [Dd];refine cj ?_;refine aj ?_;exact aW ⟨_,_,Wk.aE ao,X.length,_,[],Z,_,_,_,_,_,es,ms,rfl,vB,vF _ _ _,by rw [cq],by rw [hX,cK,cK]⟩
 rintro _ _ ⟨j,A,C,A2,C2,x0,x1,x2,x3,es,ms,rfl,vB,hj,e1,e2⟩;refine D ?_;refine GL.q (YG.PD rfl hj rfl rfl) ?_;refine bJ ?_;refine D ?_;refine GL.borrow hQ (fun B K β w l hI hF=>po vB (A:=A) (C:=C) (by rw [<-e1];exact hI) hF rfl rfl) ?_;refine bJ ?_;refine D ?_;refine GL.borrow Xd (fun B K β w l hI hF=>xZ HM (A:=A2) (C:=C2) (by rw [<-e2];exact hI) hF rfl rfl) ?_;refine bJ ?_;exact ay
theorem Eo (a b:Src) (ha:Small a 9223372036854775807) (hb:Small b 9223372036854775807) (na:qm a) (nb:qm b):GF prog 4 [.agg (ar a),.agg (ar b)] [] (.v (.bool true)) []:=by
 have hS:=Le a ha
 by_cases L:1048576 < df a
 ·rw [dY L] at hS;exact Ap a b hS
 rw [gE G] at hS;have DL:=Cg b (1048576 - df a) (Nat.sub_le _ _) hb
 by_cases I:1048576 - df a < df b
 ·rw [dY I] at DL;exact Aq a b _ hS DL
 rw [gE G] at DL
 have hw:df a+df b<=1048576:=by omega
 have Q2:=U4 a b;have hqs:=Dk (pO a b).1
 have key:∀ p:Src,df p<=1048576->(p.globals.length<=1048576/\p.arrays.length<=1048576/\p.fns.length<=1048576/\p.nodes.length<=1048576)/\(∀ f∈p.fns,f.params.length<=1048576)/\∀ n∈p.nodes,n.kids.length<=1048576:=fun p h=>by
  obtain ⟨⟨a1,a2⟩,⟨b1,b2⟩,⟨c1,c2⟩,⟨d1,d2⟩⟩:=ju p;exact ⟨⟨by omega,by omega,by omega,by omega⟩,fun f h=>by have:=(c2 f h).2.1;omega,fun n h=>by have:=(d2 n h).2;omega⟩
 obtain ⟨⟨a1,a2,a3,a4⟩,a5,a6⟩:=key a G;obtain ⟨⟨b1,b2,b3,b4⟩,b5,b6⟩:=key b G;obtain ⟨⟨q1,q2,q3,q4⟩,q5,q6⟩:=key (pO a b).1 G;exact Cw a b (pO a b).1 (pO a b).2 _ _ hw q1 q2 q3 q4 G hS DL (Ch a a1 a2 a3 a5 a4 a6) (Ch b b1 b2 b3 b5 b4 b6) (Ci a a1 a2 a3 a5 a4 a6) (Ci b b1 b2 b3 b5 b4 b6) (RO a b hw) (Th a b hw na nb) (wX a a1 a2 a3 a5 a4 a6) (wX b b1 b2 b3 b5 b4 b6) (wX _ q1 q2 q3 q5 q4 q6)
end Go.Xg
