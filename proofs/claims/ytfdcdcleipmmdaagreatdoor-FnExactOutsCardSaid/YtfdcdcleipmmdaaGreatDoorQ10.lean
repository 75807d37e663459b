/- Part 10 of proofs that are told in their last texts. -/
import Derived.Test.YtfdcdcleipmmdaaGreatDoorQ2
import Derived.Test.YtfdcdcleipmmdaaGreatDoorQ5
set_option linter.unusedVariables false
set_option linter.unusedSimpArgs false
set_option maxRecDepth 100000
set_option maxHeartbeats 2000000
namespace Go.Xg
open GV (U)
open Go.RowKit Go.Xw Go.Proofs Tryz
open Go.Xp (Nd Ar)
open Go.Sp (Src)
open Go.Im (wS dk bs oI sN gi dB oH oG oF)
attribute [local irreducible] GW GL GO YG GC GA ba bc
theorem RD (l:List Int) (left:Nat) (hl:l.length<=9223372036854775807) (xj:left<=1048576):GF prog 58 [ints l,.v (ii (left:Nat))] [] (.v (ii (sN l.length left))) []:=by
 have hm:(l.map fun i=>[GV.v (ii i)]).length=l.length:=by simp
 by_cases h0:left < l.length
 ·have hd:decide ((left:Int) - ((l.map fun i=>[GV.v (ii i)]).length:Int) < 0)=true:=by rw [hm];simpa using by omega
  rw [dB h0];refine ai func58 ntmps58 ?_;exact ak
 ·have hd:decide ((left:Int) - ((l.map fun i=>[GV.v (ii i)]).length:Int) < 0)=false:=by rw [hm];simpa using by omega
  rw [gi ag,show ((left - l.length:Nat):Int)=(left:Int) - ((l.map fun i=>[GV.v (ii i)]).length:Int) by rw [hm];omega];refine ai func58 ntmps58 ?_;exact ak
theorem AQ (l:List ah) (left:Nat) (hl:l.length<=9223372036854775807) (he:∀ x∈l,x.length<=9223372036854775807) (xj:left<=1048576):GF prog 18 [strs l,.v (ii (left:Nat))] [] (.v (ii (sN (wS l) left))) []:=by
 have hm:(l.map (fun s=>[GV.v (sv s)])).length=l.length:=by simp
 have ht:wS l=l.length+bs (fun x:ah=>x.length) l:=oH _ l
 by_cases h0:left < l.length
 ·have hd:decide ((left:Int) - ((l.map (fun s=>[GV.v (sv s)])).length:Int) < 0)=true:=by rw [hm];simpa using by omega
  rw [dB ag];refine ai func18 ntmps18 ?_;exact ak
 have hd:decide ((left:Int) - ((l.map (fun s=>[GV.v (sv s)])).length:Int) < 0)=false:=by rw [hm];simpa using by omega
 rw [ht];refine ai func18 ntmps18 ?_;refine GW.loop (fun k:Nat × Int=>l.length - k.1) (fun k fr Γ=>fr=[strs l,.v (ii k.2),U,U,U,.v (ii (k.1:Nat)),U,U,U,U,U,U,U,U,U,U,U,U,U,U,U,U,U,U,U,U,U,U]/\Γ=[]/\k.1<=l.length/\k.2=(left:Int) - ((l.length+bs (fun x:ah=>x.length) (l.take k.1):Nat):Int)/\0<=k.2) (0,(left:Int) - ((l.map (fun s=>[GV.v (sv s)])).length:Int)) ?_ ?_
 ·exact ⟨_,_,Wk.aK av,rfl,rfl,aX _,by rw [hm];simp [bs],by rw [hm];simp only;omega⟩
 rintro ⟨k,z⟩ _ _ ⟨rfl,rfl,hk,hz,G7⟩;simp only at hk hz G7
 have Wn:z<=1048576:=by omega
 by_cases ar:k < l.length
 ·have hx:l[k]?=some l[k]:=by simp [ar]
  have hr:(l.map (fun s=>[GV.v (sv s)]))[k]?=some ([GV.v (sv l[k])]):=by rw [aV,hx];rfl
  have fw:decide ((k:Int) < ((l.map (fun s=>[GV.v (sv s)])).length:Int))=true:=by rw [hm];simpa using ar
  have lL:=oG (w:=fun x:ah=>x.length) hx;have hle:=oI (fun x:ah=>x.length) l (k+1);have hex:=he _ (bm hx);generalize l[k]=x at *
  by_cases I:z < ((x.length:Nat):Int)
  ·have EX:decide (z - ((x.length:Nat):Int) < 0)=true:=by simpa using by omega
   rw [dB ag];exact ax
  ·have EX:decide (z - ((x.length:Nat):Int) < 0)=false:=by simpa using by omega
   refine G ?_;exact ⟨(k+1,z - ((x.length:Nat):Int)),⟨_,_,Wk.aK av,rfl,rfl,ar,by simp only;omega,by simp only;omega⟩,by simp only;omega⟩
 ·have fw:decide ((k:Int) < ((l.map (fun s=>[GV.v (sv s)])).length:Int))=false:=by rw [hm];simpa using ar
  have sC:k=l.length:=by omega
  subst sC;rw [cy] at hz;rw [gi ag,show ((left - (l.length+bs (fun x:ah=>x.length) l):Nat):Int)=z by omega];refine dd ?_;exact ax
theorem Pq (x:Ar) (left:Nat) (hs:x.name.length<=9223372036854775807) (xj:left<=1048576):GF prog 38 [.agg (aL x),.v (ii (left:Nat))] [] (.v (ii (sN (x.name.length) left))) []:=by
 by_cases h0:left < x.name.length
 ·have hd:decide ((left:Int) - ((x.name.length:Nat):Int) < 0)=true:=by simpa using by omega
  rw [dB ag];refine ai func38 ntmps38 ?_;exact ak
 have hd:decide ((left:Int) - ((x.name.length:Nat):Int) < 0)=false:=by simpa using by omega
 rw [gi ag,show ((left - (x.name.length):Nat):Int)=(left:Int) - ((x.name.length:Nat):Int) by omega];refine ai func38 ntmps38 ?_;exact ak
theorem Mr (l:List Ar) (left:Nat) (hl:l.length<=9223372036854775807) (he:∀ x∈l,x.name.length<=9223372036854775807) (xj:left<=1048576):GF prog 19 [.sl 2 (l.map aL),.v (ii (left:Nat))] [] (.v (ii (sN (bs (fun a:Ar=>a.name.length+1) l) left))) []:=by
 have hm:(l.map aL).length=l.length:=by simp
 have ht:bs (fun a:Ar=>a.name.length+1) l=l.length+bs (fun x:Ar=>x.name.length) l:=oH _ l
 by_cases h0:left < l.length
 ·have hd:decide ((left:Int) - ((l.map aL).length:Int) < 0)=true:=by rw [hm];simpa using by omega
  rw [dB ag];refine ai func19 ntmps19 ?_;exact ak
 have hd:decide ((left:Int) - ((l.map aL).length:Int) < 0)=false:=by rw [hm];simpa using by omega
 rw [ht];refine ai func19 ntmps19 ?_;refine GW.loop (fun k:Nat × Int=>l.length - k.1) (fun k fr Γ=>fr=[.sl 2 (l.map aL),.v (ii k.2),U,U,U,.v (ii (k.1:Nat)),U,U,U,U,U,U,U,U,U,U,U,U,U,U,U,U,U,U,U,U,U]/\Γ=[]/\k.1<=l.length/\k.2=(left:Int) - ((l.length+bs (fun x:Ar=>x.name.length) (l.take k.1):Nat):Int)/\0<=k.2) (0,(left:Int) - ((l.map aL).length:Int)) ?_ ?_
 ·exact ⟨_,_,Wk.aK av,rfl,rfl,aX _,by rw [hm];simp [bs],by rw [hm];simp only;omega⟩
 rintro ⟨k,z⟩ _ _ ⟨rfl,rfl,hk,hz,G7⟩;simp only at hk hz G7
 have Wn:z<=1048576:=by omega
 by_cases ar:k < l.length
 ·have hx:l[k]?=some l[k]:=by simp [ar]
  have hr:(l.map aL)[k]?=some (aL l[k]):=by rw [aV,hx];rfl
  have fw:decide ((k:Int) < ((l.map aL).length:Int))=true:=by rw [hm];simpa using ar
  have lL:=oG (w:=fun x:Ar=>x.name.length) hx;have hle:=oI (fun x:Ar=>x.name.length) l (k+1);have hex:=he _ (bm hx);generalize l[k]=x at *;obtain ⟨y,rfl⟩:∃ y:Nat,z=(y:Int):=⟨z.toNat,by omega⟩;have hc:=Pq x y ag ag
  by_cases I:y < x.name.length
  ·rw [dB I] at hc;rw [dB ag];refine G ?_;refine D [] hc ?_;exact ak
  ·rw [gi ag] at hc
   have EX:decide (((y - (x.name.length):Nat):Int) < 0)=false:=by simp
   refine G ?_;refine D [] hc ?_;exact ⟨(k+1,((y - (x.name.length):Nat):Int)),⟨_,_,Wk.aK av,rfl,rfl,ar,by simp only;omega,by simp only;omega⟩,by simp only;omega⟩
 ·have fw:decide ((k:Int) < ((l.map aL).length:Int))=false:=by rw [hm];simpa using ar
  have sC:k=l.length:=by omega
  subst sC;rw [cy] at hz;rw [gi ag,show ((left - (l.length+bs (fun x:Ar=>x.name.length) l):Nat):Int)=z by omega];refine dd ?_;exact ax
theorem Xd (x:Go.Sp.Fn) (left:Nat) (hs:x.name.length<=9223372036854775807) (hp:x.params.length<=9223372036854775807) (hq:∀ s∈x.params,s.length<=9223372036854775807) (xj:left<=1048576):GF prog 39 [.agg (ay x),.v (ii (left:Nat))] [] (.v (ii (sN (x.name.length+wS x.params) left))) []:=by
 by_cases h0:left < x.name.length
 ·have hd:decide ((left:Int) - ((x.name.length:Nat):Int) < 0)=true:=by simpa using by omega
  rw [dB ag];refine ai func39 ntmps39 ?_;exact ak
 have hd:decide ((left:Int) - ((x.name.length:Nat):Int) < 0)=false:=by simpa using by omega
 have hc:=AQ x.params (left - x.name.length) hp hq ag;rw [show ((left - x.name.length:Nat):Int)=(left:Int) - ((x.name.length:Nat):Int) by omega] at hc
 by_cases I:left - x.name.length < wS x.params
 ·rw [dB ag] at hc |-;refine ai func39 ntmps39 ?_;refine D [] hc ?_;exact ak
 ·rw [gi ag] at hc |-;rw [show left - x.name.length - wS x.params=left - (x.name.length+wS x.params) by omega] at hc
  have fw:decide (((left - (x.name.length+wS x.params):Nat):Int) < 0)=false:=by simp
  refine ai func39 ntmps39 ?_;refine D [] hc ?_;exact ak
theorem UR (l:List Go.Sp.Fn) (left:Nat) (hl:l.length<=9223372036854775807) (he:∀ x∈l,x.name.length<=9223372036854775807/\x.params.length<=9223372036854775807/\∀ s∈x.params,s.length<=9223372036854775807) (xj:left<=1048576):GF prog 20 [.sl 3 (l.map ay),.v (ii (left:Nat))] [] (.v (ii (sN (bs (fun f:Go.Sp.Fn=>f.name.length+wS f.params+1) l) left))) []:=by
 have hm:(l.map ay).length=l.length:=by simp
 have ht:bs (fun f:Go.Sp.Fn=>f.name.length+wS f.params+1) l=l.length+bs (fun x:Go.Sp.Fn=>x.name.length+wS x.params) l:=oH _ l
 by_cases h0:left < l.length
 ·have hd:decide ((left:Int) - ((l.map ay).length:Int) < 0)=true:=by rw [hm];simpa using by omega
  rw [dB ag];refine ai func20 ntmps20 ?_;exact ak
 have hd:decide ((left:Int) - ((l.map ay).length:Int) < 0)=false:=by rw [hm];simpa using by omega
 rw [ht];refine ai func20 ntmps20 ?_;refine GW.loop (fun k:Nat × Int=>l.length - k.1) (fun k fr Γ=>fr=[.sl 3 (l.map ay),.v (ii k.2),U,U,U,.v (ii (k.1:Nat)),U,U,U,U,U,U,U,U,U,U,U,U,U,U,U,U,U,U,U,U,U]/\Γ=[]/\k.1<=l.length/\k.2=(left:Int) - ((l.length+bs (fun x:Go.Sp.Fn=>x.name.length+wS x.params) (l.take k.1):Nat):Int)/\0<=k.2) (0,(left:Int) - ((l.map ay).length:Int)) ?_ ?_
 ·exact ⟨_,_,Wk.aK av,rfl,rfl,aX _,by rw [hm];simp [bs],by rw [hm];simp only;omega⟩
 rintro ⟨k,z⟩ _ _ ⟨rfl,rfl,hk,hz,G7⟩;simp only at hk hz G7
 have Wn:z<=1048576:=by omega
 by_cases ar:k < l.length
 ·have hx:l[k]?=some l[k]:=by simp [ar]
  have hr:(l.map ay)[k]?=some (ay l[k]):=by rw [aV,hx];rfl
  have fw:decide ((k:Int) < ((l.map ay).length:Int))=true:=by rw [hm];simpa using ar
  have lL:=oG (w:=fun x:Go.Sp.Fn=>x.name.length+wS x.params) hx;have hle:=oI (fun x:Go.Sp.Fn=>x.name.length+wS x.params) l (k+1);have hex:=he _ (bm hx);generalize l[k]=x at *;obtain ⟨y,rfl⟩:∃ y:Nat,z=(y:Int):=⟨z.toNat,by omega⟩;have hc:=Xd x y hex.1 hex.2.1 hex.2.2 ag
  by_cases I:y < x.name.length+wS x.params
  ·rw [dB I] at hc;rw [dB ag];refine G ?_;refine D [] hc ?_;exact ak
  ·rw [gi ag] at hc
   have EX:decide (((y - (x.name.length+wS x.params):Nat):Int) < 0)=false:=by simp
   refine G ?_;refine D [] hc ?_;exact ⟨(k+1,((y - (x.name.length+wS x.params):Nat):Int)),⟨_,_,Wk.aK av,rfl,rfl,ar,by simp only;omega,by simp only;omega⟩,by simp only;omega⟩
 ·have fw:decide ((k:Int) < ((l.map ay).length:Int))=false:=by rw [hm];simpa using ar
  have sC:k=l.length:=by omega
  subst sC;rw [cy] at hz;rw [gi ag,show ((left - (l.length+bs (fun x:Go.Sp.Fn=>x.name.length+wS x.params) l):Nat):Int)=z by omega];refine dd ?_;exact ax
theorem RF (x:Nd) (left:Nat) (hs:x.s.length<=9223372036854775807) (hp:x.kids.length<=9223372036854775807) (xj:left<=1048576):GF prog 40 [.agg (aB x),.v (ii (left:Nat))] [] (.v (ii (sN (x.s.length+x.kids.length) left))) []:=by
 by_cases h0:left < x.s.length
 ·have hd:decide ((left:Int) - ((x.s.length:Nat):Int) < 0)=true:=by simpa using by omega
  rw [dB ag];refine ai func40 ntmps40 ?_;exact ak
 have hd:decide ((left:Int) - ((x.s.length:Nat):Int) < 0)=false:=by simpa using by omega
 have hc:=RD x.kids (left - x.s.length) hp ag;rw [show ((left - x.s.length:Nat):Int)=(left:Int) - ((x.s.length:Nat):Int) by omega] at hc
 by_cases I:left - x.s.length < x.kids.length
 ·rw [dB ag] at hc |-;refine ai func40 ntmps40 ?_;refine D [] hc ?_;exact ak
 ·rw [gi ag] at hc |-;rw [show left - x.s.length - x.kids.length=left - (x.s.length+x.kids.length) by omega] at hc
  have fw:decide (((left - (x.s.length+x.kids.length):Nat):Int) < 0)=false:=by simp
  refine ai func40 ntmps40 ?_;refine D [] hc ?_;exact ak
theorem Pr (l:List Nd) (left:Nat) (hl:l.length<=9223372036854775807) (he:∀ x∈l,x.s.length<=9223372036854775807/\x.kids.length<=9223372036854775807) (xj:left<=1048576):GF prog 21 [.sl 5 (l.map aB),.v (ii (left:Nat))] [] (.v (ii (sN (bs (fun n:Nd=>n.s.length+n.kids.length+1) l) left))) []:=by
 have hm:(l.map aB).length=l.length:=by simp
 have ht:bs (fun n:Nd=>n.s.length+n.kids.length+1) l=l.length+bs (fun x:Nd=>x.s.length+x.kids.length) l:=oH _ l
 by_cases h0:left < l.length
 ·have hd:decide ((left:Int) - ((l.map aB).length:Int) < 0)=true:=by rw [hm];simpa using by omega
  rw [dB ag];refine ai func21 ntmps21 ?_;exact ak
 have hd:decide ((left:Int) - ((l.map aB).length:Int) < 0)=false:=by rw [hm];simpa using by omega
 rw [ht];refine ai func21 ntmps21 ?_;refine GW.loop (fun k:Nat × Int=>l.length - k.1) (fun k fr Γ=>fr=[.sl 5 (l.map aB),.v (ii k.2),U,U,U,.v (ii (k.1:Nat)),U,U,U,U,U,U,U,U,U,U,U,U,U,U,U,U,U,U,U,U,U]/\Γ=[]/\k.1<=l.length/\k.2=(left:Int) - ((l.length+bs (fun x:Nd=>x.s.length+x.kids.length) (l.take k.1):Nat):Int)/\0<=k.2) (0,(left:Int) - ((l.map aB).length:Int)) ?_ ?_
 ·exact ⟨_,_,Wk.aK av,rfl,rfl,aX _,by rw [hm];simp [bs],by rw [hm];simp only;omega⟩
 rintro ⟨k,z⟩ _ _ ⟨rfl,rfl,hk,hz,G7⟩;simp only at hk hz G7
 have Wn:z<=1048576:=by omega
 by_cases ar:k < l.length
 ·have hx:l[k]?=some l[k]:=by simp [ar]
  have hr:(l.map aB)[k]?=some (aB l[k]):=by rw [aV,hx];rfl
  have fw:decide ((k:Int) < ((l.map aB).length:Int))=true:=by rw [hm];simpa using ar
  have lL:=oG (w:=fun x:Nd=>x.s.length+x.kids.length) hx;have hle:=oI (fun x:Nd=>x.s.length+x.kids.length) l (k+1);have hex:=he _ (bm hx);generalize l[k]=x at *;obtain ⟨y,rfl⟩:∃ y:Nat,z=(y:Int):=⟨z.toNat,by omega⟩;have hc:=RF x y hex.1 hex.2 ag
  by_cases I:y < x.s.length+x.kids.length
  ·rw [dB I] at hc;rw [dB ag];refine G ?_;refine D [] hc ?_;exact ak
  ·rw [gi ag] at hc
   have EX:decide (((y - (x.s.length+x.kids.length):Nat):Int) < 0)=false:=by simp
   refine G ?_;refine D [] hc ?_;exact ⟨(k+1,((y - (x.s.length+x.kids.length):Nat):Int)),⟨_,_,Wk.aK av,rfl,rfl,ar,by simp only;omega,by simp only;omega⟩,by simp only;omega⟩
 ·have fw:decide ((k:Int) < ((l.map aB).length:Int))=false:=by rw [hm];simpa using ar
  have sC:k=l.length:=by omega
  subst sC;rw [cy] at hz;rw [gi ag,show ((left - (l.length+bs (fun x:Nd=>x.s.length+x.kids.length) l):Nat):Int)=z by omega];refine dd ?_;exact ax
theorem Ms (p:Src) (L:Nat) (hL:L<=1048576) (hb:Go.Im.Small p 9223372036854775807):GF prog 7 [.agg (ao p),.v (ii (L:Nat))] [] (.v (ii (sN (dk p) L))) []:=by
 obtain ⟨⟨a1,a2⟩,⟨b1,b2⟩,⟨c1,c2⟩,⟨d1,d2⟩⟩:=hb;have I:=AQ p.globals L a1 a2 hL;unfold dk;generalize wS p.globals=w1 at *
 by_cases q1:L < w1
 ·rw [dB q1] at I;rw [dB ag];refine ai func7 ntmps7 ?_;refine D [] I ?_;exact ak
 rw [gi ag] at I
 have e1:decide (((L - w1:Nat):Int) < 0)=false:=by simp
 have F:=Mr p.arrays (L - w1) b1 b2 ag;generalize bs (fun a:Ar=>a.name.length+1) p.arrays=w2 at *
 by_cases q2:L - w1 < w2
 ·rw [dB q2] at F;rw [dB ag];refine ai func7 ntmps7 ?_;refine D [] I ?_;refine D [] F ?_;exact ak
 rw [gi ag] at F
 have e2:decide (((L - w1 - w2:Nat):Int) < 0)=false:=by simp
 have h3:=UR p.fns (L - w1 - w2) c1 c2 ag;generalize bs (fun f:Go.Sp.Fn=>f.name.length+wS f.params+1) p.fns=w3 at *
 by_cases q3:L - w1 - w2 < w3
 ·rw [dB q3] at h3;rw [dB ag];refine ai func7 ntmps7 ?_;refine D [] I ?_;refine D [] F ?_;refine D [] h3 ?_;exact ak
 rw [gi ag] at h3
 have e3:decide (((L - w1 - w2 - w3:Nat):Int) < 0)=false:=by simp
 have h4:=Pr p.nodes (L - w1 - w2 - w3) d1 d2 ag;generalize bs (fun n:Nd=>n.s.length+n.kids.length+1) p.nodes=w4 at *
 by_cases q4:L - w1 - w2 - w3 < w4
 ·rw [dB q4] at h4;rw [dB ag];refine ai func7 ntmps7 ?_;refine D [] I ?_;refine D [] F ?_;refine D [] h3 ?_;refine D [] h4 ?_;exact ak
 rw [gi ag] at h4
 have e4:decide (((L - w1 - w2 - w3 - w4:Nat):Int) < 0)=false:=by simp
 rw [gi ag,show L - (w1+w2+w3+w4)=L - w1 - w2 - w3 - w4 by omega];refine ai func7 ntmps7 ?_;refine D [] I ?_;refine D [] F ?_;refine D [] h3 ?_;refine D [] h4 ?_;exact ak
theorem tF (p:Src) (hb:Go.Im.Small p 9223372036854775807):GF prog 7 [.agg (ao p),.v (ii 1048576)] [] (.v (ii (sN (dk p) 1048576))) []:=Ms p 1048576 (aH _) hb
theorem Qk (l:List Int) (hl:l.length<=1048576):GF prog 72 [ints l,ints l] [] (.v (.bool true)) []:=by
 have hm:(l.map (fun i=>[GV.v (ii i)])).length=l.length:=by simp
 have hd:(((l.map (fun i=>[GV.v (ii i)])).length:Int) != ((l.map (fun i=>[GV.v (ii i)])).length:Int))=false:=by simp
 refine ai func72 ntmps72 ?_;refine GW.loop (fun k:Nat=>l.length - k) (fun k fr Γ=>fr=[ints l,ints l,U,U,U,.v (ii (k:Nat)),U,U,U,U,U,U,U,U,U,U,U,U,U,U,U,U,U,U,U,U]/\Γ=[]/\k<=l.length) 0 ?_ ?_
 ·exact ⟨_,_,Wk.aK av,rfl,rfl,aX _⟩
 rintro k _ _ ⟨rfl,rfl,hk⟩
 by_cases ar:k < l.length
 ·have hx:l[k]?=some l[k]:=by simp [ar]
  have hr:(l.map (fun i=>[GV.v (ii i)]))[k]?=some ([GV.v (ii l[k])]):=by rw [aV,hx];rfl
  have fw:decide ((k:Int) < ((l.map (fun i=>[GV.v (ii i)])).length:Int))=true:=by rw [hm];simpa using ar
  generalize l[k]=x at *
  have hs:(x != x)=false:=by simp
  refine G ?_;refine aJ (aD 0 9 .nil) ?_;refine bj ?_;exact ⟨k+1,⟨_,_,Wk.aK av,rfl,rfl,ar⟩,by show l.length - (k+1) < l.length - k;omega⟩
 ·have fw:decide ((k:Int) < ((l.map (fun i=>[GV.v (ii i)])).length:Int))=false:=by rw [hm];simpa using ar
  refine dd ?_;exact ax
theorem Au (l:List ah) (hl:l.length<=1048576):GF prog 30 [strs l,strs l] [] (.v (.bool true)) []:=by
 have hm:(l.map (fun s=>[GV.v (sv s)])).length=l.length:=by simp
 have hd:(((l.map (fun s=>[GV.v (sv s)])).length:Int) != ((l.map (fun s=>[GV.v (sv s)])).length:Int))=false:=by simp
 refine ai func30 ntmps30 ?_;refine GW.loop (fun k:Nat=>l.length - k) (fun k fr Γ=>fr=[strs l,strs l,U,U,U,.v (ii (k:Nat)),U,U,U,U,U,U,U,U,U,U,U,U,U,U,U,U,U,U,U,U]/\Γ=[]/\k<=l.length) 0 ?_ ?_
 ·exact ⟨_,_,Wk.aK av,rfl,rfl,aX _⟩
 rintro k _ _ ⟨rfl,rfl,hk⟩
 by_cases ar:k < l.length
 ·have hx:l[k]?=some l[k]:=by simp [ar]
  have hr:(l.map (fun s=>[GV.v (sv s)]))[k]?=some ([GV.v (sv l[k])]):=by rw [aV,hx];rfl
  have fw:decide ((k:Int) < ((l.map (fun s=>[GV.v (sv s)])).length:Int))=true:=by rw [hm];simpa using ar
  generalize l[k]=x at *
  have hs:(!(x==x))=false:=by simp
  refine G ?_;refine aJ (aD 0 9 .nil) ?_;refine bj ?_;exact ⟨k+1,⟨_,_,Wk.aK av,rfl,rfl,ar⟩,by show l.length - (k+1) < l.length - k;omega⟩
 ·have fw:decide ((k:Int) < ((l.map (fun s=>[GV.v (sv s)])).length:Int))=false:=by rw [hm];simpa using ar
  refine dd ?_;exact ax
theorem Nr (x:Ar):GF prog 52 [.agg (aL x),.agg (aL x)] [] (.v (.bool true)) []:=by
 have e0:(!(x.name==x.name))=false:=by simp
 have e1:(x.size != x.size)=false:=by simp
 refine ai func52 ntmps52 ?_;exact ak
theorem Ls (l:List Ar) (hl:l.length<=1048576):GF prog 31 [.sl 2 (l.map aL),.sl 2 (l.map aL)] [] (.v (.bool true)) []:=by
 have hm:(l.map aL).length=l.length:=by simp
 have hd:(((l.map aL).length:Int) != ((l.map aL).length:Int))=false:=by simp
 refine ai func31 ntmps31 ?_;refine GW.loop (fun k:Nat=>l.length - k) (fun k fr Γ=>fr=[.sl 2 (l.map aL),.sl 2 (l.map aL),U,U,U,.v (ii (k:Nat)),U,U,U,U,U,U,U,U,U,U,U,U,U,U,U,U,U,U,U,U,U]/\Γ=[]/\k<=l.length) 0 ?_ ?_
 ·exact ⟨_,_,Wk.aK av,rfl,rfl,aX _⟩
 rintro k _ _ ⟨rfl,rfl,hk⟩
 by_cases ar:k < l.length
 ·have hx:l[k]?=some l[k]:=by simp [ar]
  have hr:(l.map aL)[k]?=some (aL l[k]):=by rw [aV,hx];rfl
  have fw:decide ((k:Int) < ((l.map aL).length:Int))=true:=by rw [hm];simpa using ar
  have hc:=Nr l[k];generalize l[k]=x at *;refine G ?_;refine aJ (aD 0 8 (.a 8 (.q 9 .nil))) ?_;refine au ?_;refine az [] hc ?_;refine G ?_;exact ⟨k+1,⟨_,_,Wk.aK av,rfl,rfl,ar⟩,by show l.length - (k+1) < l.length - k;omega⟩
 ·have fw:decide ((k:Int) < ((l.map aL).length:Int))=false:=by rw [hm];simpa using ar
  refine dd ?_;exact ax
theorem Vn (x:Go.Sp.Fn) (hp:x.params.length<=1048576):GF prog 53 [.agg (ay x),.agg (ay x)] [] (.v (.bool true)) []:=by
 have e0:(!(x.name==x.name))=false:=by simp
 have e1:(x.body != x.body)=false:=by simp
 have h0:=Au x.params hp;refine ai func53 ntmps53 ?_;refine D [] h0 ?_;exact ak
theorem TP (l:List Go.Sp.Fn) (hl:l.length<=1048576) (he:∀ x∈l,x.params.length<=1048576):GF prog 32 [.sl 3 (l.map ay),.sl 3 (l.map ay)] [] (.v (.bool true)) []:=by
 have hm:(l.map ay).length=l.length:=by simp
 have hd:(((l.map ay).length:Int) != ((l.map ay).length:Int))=false:=by simp
 refine ai func32 ntmps32 ?_;refine GW.loop (fun k:Nat=>l.length - k) (fun k fr Γ=>fr=[.sl 3 (l.map ay),.sl 3 (l.map ay),U,U,U,.v (ii (k:Nat)),U,U,U,U,U,U,U,U,U,U,U,U,U,U,U,U,U,U,U,U,U]/\Γ=[]/\k<=l.length) 0 ?_ ?_
 ·exact ⟨_,_,Wk.aK av,rfl,rfl,aX _⟩
 rintro k _ _ ⟨rfl,rfl,hk⟩
 by_cases ar:k < l.length
 ·have hx:l[k]?=some l[k]:=by simp [ar]
  have hr:(l.map ay)[k]?=some (ay l[k]):=by rw [aV,hx];rfl
  have fw:decide ((k:Int) < ((l.map ay).length:Int))=true:=by rw [hm];simpa using ar
  have hex:=he _ (bm hx);have hc:=Vn l[k] hex;generalize l[k]=x at *;refine G ?_;refine aJ (aD 0 8 (.a 8 (.q 9 .nil))) ?_;refine au ?_;refine az [] hc ?_;refine G ?_;exact ⟨k+1,⟨_,_,Wk.aK av,rfl,rfl,ar⟩,by show l.length - (k+1) < l.length - k;omega⟩
 ·have fw:decide ((k:Int) < ((l.map ay).length:Int))=false:=by rw [hm];simpa using ar
  refine dd ?_;exact ax
theorem Ql (x:Nd) (hp:x.kids.length<=1048576):GF prog 54 [.agg (aB x),.agg (aB x)] [] (.v (.bool true)) []:=by
 have e0:(x.kind != x.kind)=false:=by simp
 have e1:(x.at_ != x.at_)=false:=by simp
 have e2:(x.n != x.n)=false:=by simp
 have e3:(!(x.s==x.s))=false:=by simp
 have h0:=Qk x.kids hp;refine ai func54 ntmps54 ?_;refine D [] h0 ?_;exact ak
theorem Ns (l:List Nd) (hl:l.length<=1048576) (he:∀ x∈l,x.kids.length<=1048576):GF prog 33 [.sl 5 (l.map aB),.sl 5 (l.map aB)] [] (.v (.bool true)) []:=by
 have hm:(l.map aB).length=l.length:=by simp
 have hd:(((l.map aB).length:Int) != ((l.map aB).length:Int))=false:=by simp
 refine ai func33 ntmps33 ?_;refine GW.loop (fun k:Nat=>l.length - k) (fun k fr Γ=>fr=[.sl 5 (l.map aB),.sl 5 (l.map aB),U,U,U,.v (ii (k:Nat)),U,U,U,U,U,U,U,U,U,U,U,U,U,U,U,U,U,U,U,U,U]/\Γ=[]/\k<=l.length) 0 ?_ ?_
 ·exact ⟨_,_,Wk.aK av,rfl,rfl,aX _⟩
 rintro k _ _ ⟨rfl,rfl,hk⟩
 by_cases ar:k < l.length
 ·have hx:l[k]?=some l[k]:=by simp [ar]
  have hr:(l.map aB)[k]?=some (aB l[k]):=by rw [aV,hx];rfl
  have fw:decide ((k:Int) < ((l.map aB).length:Int))=true:=by rw [hm];simpa using ar
  have hex:=he _ (bm hx);have hc:=Ql l[k] hex;generalize l[k]=x at *;refine G ?_;refine aJ (aD 0 8 (.a 8 (.q 9 .nil))) ?_;refine au ?_;refine az [] hc ?_;refine G ?_;exact ⟨k+1,⟨_,_,Wk.aK av,rfl,rfl,ar⟩,by show l.length - (k+1) < l.length - k;omega⟩
 ·have fw:decide ((k:Int) < ((l.map aB).length:Int))=false:=by rw [hm];simpa using ar
  refine dd ?_;exact ax
theorem tA (x:Src) (hg:x.globals.length<=1048576) (ha:x.arrays.length<=1048576) (hf:x.fns.length<=1048576) (uw:∀ f∈x.fns,f.params.length<=1048576) (hn:x.nodes.length<=1048576) (sF:∀ n∈x.nodes,n.kids.length<=1048576):GF prog 11 [.agg (ao x),.agg (ao x)] [] (.v (.bool true)) []:=by
 have h0:=Au x.globals hg;have I:=Ls x.arrays ha;have F:=TP x.fns hf uw;have h3:=Ns x.nodes hn sF;refine ai func11 ntmps11 ?_;refine D [] h0 ?_;refine D [] I ?_;refine D [] F ?_;refine D [] h3 ?_;exact ak
end Go.Xg
