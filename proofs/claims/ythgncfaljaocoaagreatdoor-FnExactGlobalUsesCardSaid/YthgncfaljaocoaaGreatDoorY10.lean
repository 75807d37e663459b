/- Part 10 of proofs that are told in their last texts. -/
import Derived.Test.YthgncfaljaocoaaGreatDoorY2
import Derived.Test.YthgncfaljaocoaaGreatDoorY5
open List (getElem?_map mem_of_getElem? take_length)
set_option linter.unusedVariables false
set_option linter.unusedSimpArgs false
set_option maxRecDepth 100000
set_option maxHeartbeats 2000000
namespace Go.Xg
open Go.RowKit Go.Xw Go.Proofs
open Go.Xp (Nd Ar)
open Go.Sp (Src)
open Go.Im (wS cj aW nA rM eU c7 nz kB ny)
attribute [local irreducible] GW GL GO YG GC GA aQ aR
theorem OV (l:List Int) (left:Nat) (hl:l.length<=9223372036854775807) (v8:left<=1048576):GF Tryz.prog 79 [ints l,.v (ii (left:Nat))] [] (.v (ii (rM l.length left))) []:=by
 have hm:(l.map fun i=>[GV.v (ii i)]).length=l.length:=by simp
 by_cases h0:left < l.length
 ·have hd:decide ((left:Int) - ((l.map fun i=>[GV.v (ii i)]).length:Int) < 0)=true:=by rw [hm];simpa using by omega
  rw [c7 h0];refine ah Tryz.func79 Tryz.ntmps79 ?_;exact al
 ·have hd:decide ((left:Int) - ((l.map fun i=>[GV.v (ii i)]).length:Int) < 0)=false:=by rw [hm];simpa using by omega
  rw [eU (by omega),show ((left - l.length:Nat):Int)=(left:Int) - ((l.map fun i=>[GV.v (ii i)]).length:Int) by rw [hm];omega];refine ah Tryz.func79 Tryz.ntmps79 ?_;exact al
theorem zo (l:List ae) (left:Nat) (hl:l.length<=9223372036854775807) (he:∀ x∈l,x.length<=9223372036854775807) (v8:left<=1048576):GF Tryz.prog 25 [strs l,.v (ii (left:Nat))] [] (.v (ii (rM (wS l) left))) []:=by
 have hm:(l.map (fun s=>[GV.v (sv s)])).length=l.length:=by simp
 have ht:wS l=l.length+aW (fun x:ae=>x.length) l:=nz _ l
 by_cases h0:left < l.length
 ·have hd:decide ((left:Int) - ((l.map (fun s=>[GV.v (sv s)])).length:Int) < 0)=true:=by rw [hm];simpa using by omega
  rw [c7 (by omega)];refine ah Tryz.func25 Tryz.ntmps25 ?_;exact al
 have hd:decide ((left:Int) - ((l.map (fun s=>[GV.v (sv s)])).length:Int) < 0)=false:=by rw [hm];simpa using by omega
 rw [ht];refine ah Tryz.func25 Tryz.ntmps25 ?_;refine GW.loop (fun k:Nat × Int=>l.length - k.1) (fun k fr Γ=>fr=[strs l,.v (ii k.2),.any,.any,.any,.v (ii (k.1:Nat)),.any,.any,.any,.any,.any,.any,.any,.any,.any,.any,.any,.any,.any,.any,.any,.any,.any,.any,.any,.any,.any,.any]/\Γ=[]/\k.1<=l.length/\k.2=(left:Int) - ((l.length+aW (fun x:ae=>x.length) (l.take k.1):Nat):Int)/\0<=k.2) (0,(left:Int) - ((l.map (fun s=>[GV.v (sv s)])).length:Int)) ?_ ?_
 ·exact ⟨_,_,Wk.av aj,rfl,rfl,Nat.zero_le _,by rw [hm];simp [aW],by rw [hm];simp only;omega⟩
 rintro ⟨k,z⟩ _ _ ⟨rfl,rfl,hk,hz,Ei⟩;simp only at hk hz Ei
 have Tm:z<=1048576:=by omega
 by_cases ao:k < l.length
 ·have hx:l[k]?=some l[k]:=by simp [ao]
  have hr:(l.map (fun s=>[GV.v (sv s)]))[k]?=some ([GV.v (sv l[k])]):=by rw [getElem?_map,hx];rfl
  have dq:decide ((k:Int) < ((l.map (fun s=>[GV.v (sv s)])).length:Int))=true:=by rw [hm];simpa using ao
  have jR:=kB (w:=fun x:ae=>x.length) hx;have hle:=nA (fun x:ae=>x.length) l (k+1);have hex:=he _ (mem_of_getElem? hx);generalize l[k]=x at *
  by_cases h1:z < ((x.length:Nat):Int)
  ·have AL:decide (z - ((x.length:Nat):Int) < 0)=true:=by simpa using by omega
   rw [c7 (by omega)];exact ar
  ·have AL:decide (z - ((x.length:Nat):Int) < 0)=false:=by simpa using by omega
   refine ab ?_;exact ⟨(k+1,z - ((x.length:Nat):Int)),⟨_,_,Wk.av aj,rfl,rfl,ao,by simp only;omega,by simp only;omega⟩,by simp only;omega⟩
 ·have dq:decide ((k:Int) < ((l.map (fun s=>[GV.v (sv s)])).length:Int))=false:=by rw [hm];simpa using ao
  have lp:k=l.length:=by omega
  subst lp;rw [take_length] at hz;rw [eU (by omega),show ((left - (l.length+aW (fun x:ae=>x.length) l):Nat):Int)=z by omega];refine ab ?_;refine aS ?_;exact ar
theorem ML (x:Ar) (left:Nat) (hs:x.name.length<=9223372036854775807) (v8:left<=1048576):GF Tryz.prog 54 [.agg (ay x),.v (ii (left:Nat))] [] (.v (ii (rM (x.name.length) left))) []:=by
 by_cases h0:left < x.name.length
 ·have hd:decide ((left:Int) - ((x.name.length:Nat):Int) < 0)=true:=by simpa using by omega
  rw [c7 (by omega)];refine ah Tryz.func54 Tryz.ntmps54 ?_;exact al
 have hd:decide ((left:Int) - ((x.name.length:Nat):Int) < 0)=false:=by simpa using by omega
 rw [eU (by omega),show ((left - (x.name.length):Nat):Int)=(left:Int) - ((x.name.length:Nat):Int) by omega];refine ah Tryz.func54 Tryz.ntmps54 ?_;exact al
theorem JZ (l:List Ar) (left:Nat) (hl:l.length<=9223372036854775807) (he:∀ x∈l,x.name.length<=9223372036854775807) (v8:left<=1048576):GF Tryz.prog 26 [.sl 2 (l.map ay),.v (ii (left:Nat))] [] (.v (ii (rM (aW (fun a:Ar=>a.name.length+1) l) left))) []:=by
 have hm:(l.map ay).length=l.length:=by simp
 have ht:aW (fun a:Ar=>a.name.length+1) l=l.length+aW (fun x:Ar=>x.name.length) l:=nz _ l
 by_cases h0:left < l.length
 ·have hd:decide ((left:Int) - ((l.map ay).length:Int) < 0)=true:=by rw [hm];simpa using by omega
  rw [c7 (by omega)];refine ah Tryz.func26 Tryz.ntmps26 ?_;exact al
 have hd:decide ((left:Int) - ((l.map ay).length:Int) < 0)=false:=by rw [hm];simpa using by omega
 rw [ht];refine ah Tryz.func26 Tryz.ntmps26 ?_;refine GW.loop (fun k:Nat × Int=>l.length - k.1) (fun k fr Γ=>fr=[.sl 2 (l.map ay),.v (ii k.2),.any,.any,.any,.v (ii (k.1:Nat)),.any,.any,.any,.any,.any,.any,.any,.any,.any,.any,.any,.any,.any,.any,.any,.any,.any,.any,.any,.any,.any]/\Γ=[]/\k.1<=l.length/\k.2=(left:Int) - ((l.length+aW (fun x:Ar=>x.name.length) (l.take k.1):Nat):Int)/\0<=k.2) (0,(left:Int) - ((l.map ay).length:Int)) ?_ ?_
 ·exact ⟨_,_,Wk.av aj,rfl,rfl,Nat.zero_le _,by rw [hm];simp [aW],by rw [hm];simp only;omega⟩
 rintro ⟨k,z⟩ _ _ ⟨rfl,rfl,hk,hz,Ei⟩;simp only at hk hz Ei
 have Tm:z<=1048576:=by omega
 by_cases ao:k < l.length
 ·have hx:l[k]?=some l[k]:=by simp [ao]
  have hr:(l.map ay)[k]?=some (ay l[k]):=by rw [getElem?_map,hx];rfl
  have dq:decide ((k:Int) < ((l.map ay).length:Int))=true:=by rw [hm];simpa using ao
  have jR:=kB (w:=fun x:Ar=>x.name.length) hx;have hle:=nA (fun x:Ar=>x.name.length) l (k+1);have hex:=he _ (mem_of_getElem? hx);generalize l[k]=x at *;obtain ⟨y,rfl⟩:∃ y:Nat,z=(y:Int):=⟨z.toNat,by omega⟩;have hc:=ML x y (by omega) (by omega)
  by_cases h1:y < x.name.length
  ·rw [c7 h1] at hc;rw [c7 (by omega)];refine ab ?_;refine U [] (hc) ?_;exact al
  ·rw [eU (by omega)] at hc
   have AL:decide (((y - (x.name.length):Nat):Int) < 0)=false:=by simp
   refine ab ?_;refine U [] (hc) ?_;exact ⟨(k+1,((y - (x.name.length):Nat):Int)),⟨_,_,Wk.av aj,rfl,rfl,ao,by simp only;omega,by simp only;omega⟩,by simp only;omega⟩
 ·have dq:decide ((k:Int) < ((l.map ay).length:Int))=false:=by rw [hm];simpa using ao
  have lp:k=l.length:=by omega
  subst lp;rw [take_length] at hz;rw [eU (by omega),show ((left - (l.length+aW (fun x:Ar=>x.name.length) l):Nat):Int)=z by omega];refine ab ?_;refine aS ?_;exact ar
theorem Ub (x:Go.Sp.Fn) (left:Nat) (hs:x.name.length<=9223372036854775807) (hp:x.params.length<=9223372036854775807) (hq:∀ s∈x.params,s.length<=9223372036854775807) (v8:left<=1048576):GF Tryz.prog 55 [.agg (aq x),.v (ii (left:Nat))] [] (.v (ii (rM (x.name.length+wS x.params) left))) []:=by
 by_cases h0:left < x.name.length
 ·have hd:decide ((left:Int) - ((x.name.length:Nat):Int) < 0)=true:=by simpa using by omega
  rw [c7 (by omega)];refine ah Tryz.func55 Tryz.ntmps55 ?_;exact al
 have hd:decide ((left:Int) - ((x.name.length:Nat):Int) < 0)=false:=by simpa using by omega
 have hc:=zo x.params (left - x.name.length) hp hq (by omega);rw [show ((left - x.name.length:Nat):Int)=(left:Int) - ((x.name.length:Nat):Int) by omega] at hc
 by_cases h1:left - x.name.length < wS x.params
 ·rw [c7 (by omega)] at hc |-;refine ah Tryz.func55 Tryz.ntmps55 ?_;refine U [] (hc) ?_;exact al
 ·rw [eU (by omega)] at hc |-;rw [show left - x.name.length - wS x.params=left - (x.name.length+wS x.params) by omega] at hc
  have dq:decide (((left - (x.name.length+wS x.params):Nat):Int) < 0)=false:=by simp
  refine ah Tryz.func55 Tryz.ntmps55 ?_;refine U [] (hc) ?_;exact al
theorem RG (l:List Go.Sp.Fn) (left:Nat) (hl:l.length<=9223372036854775807) (he:∀ x∈l,x.name.length<=9223372036854775807/\x.params.length<=9223372036854775807/\∀ s∈x.params,s.length<=9223372036854775807) (v8:left<=1048576):GF Tryz.prog 27 [.sl 3 (l.map aq),.v (ii (left:Nat))] [] (.v (ii (rM (aW (fun f:Go.Sp.Fn=>f.name.length+wS f.params+1) l) left))) []:=by
 have hm:(l.map aq).length=l.length:=by simp
 have ht:aW (fun f:Go.Sp.Fn=>f.name.length+wS f.params+1) l=l.length+aW (fun x:Go.Sp.Fn=>x.name.length+wS x.params) l:=nz _ l
 by_cases h0:left < l.length
 ·have hd:decide ((left:Int) - ((l.map aq).length:Int) < 0)=true:=by rw [hm];simpa using by omega
  rw [c7 (by omega)];refine ah Tryz.func27 Tryz.ntmps27 ?_;exact al
 have hd:decide ((left:Int) - ((l.map aq).length:Int) < 0)=false:=by rw [hm];simpa using by omega
 rw [ht];refine ah Tryz.func27 Tryz.ntmps27 ?_;refine GW.loop (fun k:Nat × Int=>l.length - k.1) (fun k fr Γ=>fr=[.sl 3 (l.map aq),.v (ii k.2),.any,.any,.any,.v (ii (k.1:Nat)),.any,.any,.any,.any,.any,.any,.any,.any,.any,.any,.any,.any,.any,.any,.any,.any,.any,.any,.any,.any,.any]/\Γ=[]/\k.1<=l.length/\k.2=(left:Int) - ((l.length+aW (fun x:Go.Sp.Fn=>x.name.length+wS x.params) (l.take k.1):Nat):Int)/\0<=k.2) (0,(left:Int) - ((l.map aq).length:Int)) ?_ ?_
 ·exact ⟨_,_,Wk.av aj,rfl,rfl,Nat.zero_le _,by rw [hm];simp [aW],by rw [hm];simp only;omega⟩
 rintro ⟨k,z⟩ _ _ ⟨rfl,rfl,hk,hz,Ei⟩;simp only at hk hz Ei
 have Tm:z<=1048576:=by omega
 by_cases ao:k < l.length
 ·have hx:l[k]?=some l[k]:=by simp [ao]
  have hr:(l.map aq)[k]?=some (aq l[k]):=by rw [getElem?_map,hx];rfl
  have dq:decide ((k:Int) < ((l.map aq).length:Int))=true:=by rw [hm];simpa using ao
  have jR:=kB (w:=fun x:Go.Sp.Fn=>x.name.length+wS x.params) hx;have hle:=nA (fun x:Go.Sp.Fn=>x.name.length+wS x.params) l (k+1);have hex:=he _ (mem_of_getElem? hx);generalize l[k]=x at *;obtain ⟨y,rfl⟩:∃ y:Nat,z=(y:Int):=⟨z.toNat,by omega⟩;have hc:=Ub x y hex.1 hex.2.1 hex.2.2 (by omega)
  by_cases h1:y < x.name.length+wS x.params
  ·rw [c7 h1] at hc;rw [c7 (by omega)];refine ab ?_;refine U [] (hc) ?_;exact al
  ·rw [eU (by omega)] at hc
   have AL:decide (((y - (x.name.length+wS x.params):Nat):Int) < 0)=false:=by simp
   refine ab ?_;refine U [] (hc) ?_;exact ⟨(k+1,((y - (x.name.length+wS x.params):Nat):Int)),⟨_,_,Wk.av aj,rfl,rfl,ao,by simp only;omega,by simp only;omega⟩,by simp only;omega⟩
 ·have dq:decide ((k:Int) < ((l.map aq).length:Int))=false:=by rw [hm];simpa using ao
  have lp:k=l.length:=by omega
  subst lp;rw [take_length] at hz;rw [eU (by omega),show ((left - (l.length+aW (fun x:Go.Sp.Fn=>x.name.length+wS x.params) l):Nat):Int)=z by omega];refine ab ?_;refine aS ?_;exact ar
theorem OX (x:Nd) (left:Nat) (hs:x.s.length<=9223372036854775807) (hp:x.kids.length<=9223372036854775807) (v8:left<=1048576):GF Tryz.prog 56 [.agg (au x),.v (ii (left:Nat))] [] (.v (ii (rM (x.s.length+x.kids.length) left))) []:=by
 by_cases h0:left < x.s.length
 ·have hd:decide ((left:Int) - ((x.s.length:Nat):Int) < 0)=true:=by simpa using by omega
  rw [c7 (by omega)];refine ah Tryz.func56 Tryz.ntmps56 ?_;exact al
 have hd:decide ((left:Int) - ((x.s.length:Nat):Int) < 0)=false:=by simpa using by omega
 have hc:=OV x.kids (left - x.s.length) hp (by omega);rw [show ((left - x.s.length:Nat):Int)=(left:Int) - ((x.s.length:Nat):Int) by omega] at hc
 by_cases h1:left - x.s.length < x.kids.length
 ·rw [c7 (by omega)] at hc |-;refine ah Tryz.func56 Tryz.ntmps56 ?_;refine U [] (hc) ?_;exact al
 ·rw [eU (by omega)] at hc |-;rw [show left - x.s.length - x.kids.length=left - (x.s.length+x.kids.length) by omega] at hc
  have dq:decide (((left - (x.s.length+x.kids.length):Nat):Int) < 0)=false:=by simp
  refine ah Tryz.func56 Tryz.ntmps56 ?_;refine U [] (hc) ?_;exact al
theorem MM (l:List Nd) (left:Nat) (hl:l.length<=9223372036854775807) (he:∀ x∈l,x.s.length<=9223372036854775807/\x.kids.length<=9223372036854775807) (v8:left<=1048576):GF Tryz.prog 28 [.sl 5 (l.map au),.v (ii (left:Nat))] [] (.v (ii (rM (aW (fun n:Nd=>n.s.length+n.kids.length+1) l) left))) []:=by
 have hm:(l.map au).length=l.length:=by simp
 have ht:aW (fun n:Nd=>n.s.length+n.kids.length+1) l=l.length+aW (fun x:Nd=>x.s.length+x.kids.length) l:=nz _ l
 by_cases h0:left < l.length
 ·have hd:decide ((left:Int) - ((l.map au).length:Int) < 0)=true:=by rw [hm];simpa using by omega
  rw [c7 (by omega)];refine ah Tryz.func28 Tryz.ntmps28 ?_;exact al
 have hd:decide ((left:Int) - ((l.map au).length:Int) < 0)=false:=by rw [hm];simpa using by omega
 rw [ht];refine ah Tryz.func28 Tryz.ntmps28 ?_;refine GW.loop (fun k:Nat × Int=>l.length - k.1) (fun k fr Γ=>fr=[.sl 5 (l.map au),.v (ii k.2),.any,.any,.any,.v (ii (k.1:Nat)),.any,.any,.any,.any,.any,.any,.any,.any,.any,.any,.any,.any,.any,.any,.any,.any,.any,.any,.any,.any,.any]/\Γ=[]/\k.1<=l.length/\k.2=(left:Int) - ((l.length+aW (fun x:Nd=>x.s.length+x.kids.length) (l.take k.1):Nat):Int)/\0<=k.2) (0,(left:Int) - ((l.map au).length:Int)) ?_ ?_
 ·exact ⟨_,_,Wk.av aj,rfl,rfl,Nat.zero_le _,by rw [hm];simp [aW],by rw [hm];simp only;omega⟩
 rintro ⟨k,z⟩ _ _ ⟨rfl,rfl,hk,hz,Ei⟩;simp only at hk hz Ei
 have Tm:z<=1048576:=by omega
 by_cases ao:k < l.length
 ·have hx:l[k]?=some l[k]:=by simp [ao]
  have hr:(l.map au)[k]?=some (au l[k]):=by rw [getElem?_map,hx];rfl
  have dq:decide ((k:Int) < ((l.map au).length:Int))=true:=by rw [hm];simpa using ao
  have jR:=kB (w:=fun x:Nd=>x.s.length+x.kids.length) hx;have hle:=nA (fun x:Nd=>x.s.length+x.kids.length) l (k+1);have hex:=he _ (mem_of_getElem? hx);generalize l[k]=x at *;obtain ⟨y,rfl⟩:∃ y:Nat,z=(y:Int):=⟨z.toNat,by omega⟩;have hc:=OX x y hex.1 hex.2 (by omega)
  by_cases h1:y < x.s.length+x.kids.length
  ·rw [c7 h1] at hc;rw [c7 (by omega)];refine ab ?_;refine U [] (hc) ?_;exact al
  ·rw [eU (by omega)] at hc
   have AL:decide (((y - (x.s.length+x.kids.length):Nat):Int) < 0)=false:=by simp
   refine ab ?_;refine U [] (hc) ?_;exact ⟨(k+1,((y - (x.s.length+x.kids.length):Nat):Int)),⟨_,_,Wk.av aj,rfl,rfl,ao,by simp only;omega,by simp only;omega⟩,by simp only;omega⟩
 ·have dq:decide ((k:Int) < ((l.map au).length:Int))=false:=by rw [hm];simpa using ao
  have lp:k=l.length:=by omega
  subst lp;rw [take_length] at hz;rw [eU (by omega),show ((left - (l.length+aW (fun x:Nd=>x.s.length+x.kids.length) l):Nat):Int)=z by omega];refine ab ?_;refine aS ?_;exact ar
theorem pO (p:Src) (hb:Go.Im.Small p 9223372036854775807):GF Tryz.prog 8 [.agg (ak p),.v (ii 1048576)] [] (.v (ii (rM (cj p) 1048576))) []:=by
 obtain ⟨⟨a1,a2⟩,⟨b1,b2⟩,⟨c1,c2⟩,⟨d1,d2⟩⟩:=hb;have h1:=zo p.globals 1048576 a1 a2 (Nat.le_refl _);unfold cj;generalize wS p.globals=w1 at *
 by_cases q1:1048576 < w1
 ·rw [c7 q1] at h1;rw [c7 (by omega)];refine ah Tryz.func8 Tryz.ntmps8 ?_;refine U [] (h1) ?_;exact al
 rw [eU (by omega)] at h1
 have e1:decide (((1048576 - w1:Nat):Int) < 0)=false:=by simp
 have h2:=JZ p.arrays (1048576 - w1) b1 b2 (by omega);generalize aW (fun a:Ar=>a.name.length+1) p.arrays=w2 at *
 by_cases q2:1048576 - w1 < w2
 ·rw [c7 q2] at h2;rw [c7 (by omega)];refine ah Tryz.func8 Tryz.ntmps8 ?_;refine U [] (h1) ?_;refine U [] (h2) ?_;exact al
 rw [eU (by omega)] at h2
 have e2:decide (((1048576 - w1 - w2:Nat):Int) < 0)=false:=by simp
 have h3:=RG p.fns (1048576 - w1 - w2) c1 c2 (by omega);generalize aW (fun f:Go.Sp.Fn=>f.name.length+wS f.params+1) p.fns=w3 at *
 by_cases q3:1048576 - w1 - w2 < w3
 ·rw [c7 q3] at h3;rw [c7 (by omega)];refine ah Tryz.func8 Tryz.ntmps8 ?_;refine U [] (h1) ?_;refine U [] (h2) ?_;refine U [] (h3) ?_;exact al
 rw [eU (by omega)] at h3
 have e3:decide (((1048576 - w1 - w2 - w3:Nat):Int) < 0)=false:=by simp
 have h4:=MM p.nodes (1048576 - w1 - w2 - w3) d1 d2 (by omega);generalize aW (fun n:Nd=>n.s.length+n.kids.length+1) p.nodes=w4 at *
 by_cases q4:1048576 - w1 - w2 - w3 < w4
 ·rw [c7 q4] at h4;rw [c7 (by omega)];refine ah Tryz.func8 Tryz.ntmps8 ?_;refine U [] (h1) ?_;refine U [] (h2) ?_;refine U [] (h3) ?_;refine U [] (h4) ?_;exact al
 rw [eU (by omega)] at h4
 have e4:decide (((1048576 - w1 - w2 - w3 - w4:Nat):Int) < 0)=false:=by simp
 rw [eU (by omega),show 1048576 - (w1+w2+w3+w4)=1048576 - w1 - w2 - w3 - w4 by omega];refine ah Tryz.func8 Tryz.ntmps8 ?_;refine U [] (h1) ?_;refine U [] (h2) ?_;refine U [] (h3) ?_;refine U [] (h4) ?_;exact al
end Go.Xg
namespace Go.Xg
open Go.RowKit Go.Xw Go.Proofs
open Go.Xp (Nd Ar)
open Go.Sp (Src)
open Go.Im (wS cj aW nA rM eU c7 nz kB ny)
attribute [local irreducible] GW GL GO YG GC GA aQ aR
theorem NH (l:List Int) (hl:l.length<=1048576):GF Tryz.prog 86 [ints l,ints l] [] (.v (.bool true)) []:=by
 have hm:(l.map (fun i=>[GV.v (ii i)])).length=l.length:=by simp
 have hd:(((l.map (fun i=>[GV.v (ii i)])).length:Int) != ((l.map (fun i=>[GV.v (ii i)])).length:Int))=false:=by simp
 refine ah Tryz.func86 Tryz.ntmps86 ?_;refine GW.loop (fun k:Nat=>l.length - k) (fun k fr Γ=>fr=[ints l,ints l,.any,.any,.any,.v (ii (k:Nat)),.any,.any,.any,.any,.any,.any,.any,.any,.any,.any,.any,.any,.any,.any,.any,.any,.any,.any,.any,.any]/\Γ=[]/\k<=l.length) 0 ?_ ?_
 ·exact ⟨_,_,Wk.av aj,rfl,rfl,Nat.zero_le _⟩
 rintro k _ _ ⟨rfl,rfl,hk⟩
 by_cases ao:k < l.length
 ·have hx:l[k]?=some l[k]:=by simp [ao]
  have hr:(l.map (fun i=>[GV.v (ii i)]))[k]?=some ([GV.v (ii l[k])]):=by rw [getElem?_map,hx];rfl
  have dq:decide ((k:Int) < ((l.map (fun i=>[GV.v (ii i)])).length:Int))=true:=by rw [hm];simpa using ao
  generalize l[k]=x at *
  have hs:(x != x)=false:=by simp
  refine ab ?_;refine GW.draw (.q 0 (.q 1 (.q 2 (.q 3 (.q 4 (.q 5 (.q 6 (.q 7 (.q 8 .nil))))))))) (by kernel_rfl) (by kernel_rfl) ?_;refine ai ?_;refine ab ?_;exact ⟨k+1,⟨_,_,Wk.av aj,rfl,rfl,ao⟩,by show l.length - (k+1) < l.length - k;omega⟩
 ·have dq:decide ((k:Int) < ((l.map (fun i=>[GV.v (ii i)])).length:Int))=false:=by rw [hm];simpa using ao
  refine ab ?_;refine aS ?_;exact ar
theorem uv (l:List ae) (hl:l.length<=1048576):GF Tryz.prog 21 [strs l,strs l] [] (.v (.bool true)) []:=by
 have hm:(l.map (fun s=>[GV.v (sv s)])).length=l.length:=by simp
 have hd:(((l.map (fun s=>[GV.v (sv s)])).length:Int) != ((l.map (fun s=>[GV.v (sv s)])).length:Int))=false:=by simp
 refine ah Tryz.func21 Tryz.ntmps21 ?_;refine GW.loop (fun k:Nat=>l.length - k) (fun k fr Γ=>fr=[strs l,strs l,.any,.any,.any,.v (ii (k:Nat)),.any,.any,.any,.any,.any,.any,.any,.any,.any,.any,.any,.any,.any,.any,.any,.any,.any,.any,.any,.any]/\Γ=[]/\k<=l.length) 0 ?_ ?_
 ·exact ⟨_,_,Wk.av aj,rfl,rfl,Nat.zero_le _⟩
 rintro k _ _ ⟨rfl,rfl,hk⟩
 by_cases ao:k < l.length
 ·have hx:l[k]?=some l[k]:=by simp [ao]
  have hr:(l.map (fun s=>[GV.v (sv s)]))[k]?=some ([GV.v (sv l[k])]):=by rw [getElem?_map,hx];rfl
  have dq:decide ((k:Int) < ((l.map (fun s=>[GV.v (sv s)])).length:Int))=true:=by rw [hm];simpa using ao
  generalize l[k]=x at *
  have hs:(!(x==x))=false:=by simp
  refine ab ?_;refine GW.draw (.q 0 (.q 1 (.q 2 (.q 3 (.q 4 (.q 5 (.q 6 (.q 7 (.q 8 .nil))))))))) (by kernel_rfl) (by kernel_rfl) ?_;refine ai ?_;refine ab ?_;exact ⟨k+1,⟨_,_,Wk.av aj,rfl,rfl,ao⟩,by show l.length - (k+1) < l.length - k;omega⟩
 ·have dq:decide ((k:Int) < ((l.map (fun s=>[GV.v (sv s)])).length:Int))=false:=by rw [hm];simpa using ao
  refine ab ?_;refine aS ?_;exact ar
theorem KM (x:Ar):GF Tryz.prog 68 [.agg (ay x),.agg (ay x)] [] (.v (.bool true)) []:=by
 have e0:(!(x.name==x.name))=false:=by simp
 have e1:(x.size != x.size)=false:=by simp
 refine ah Tryz.func68 Tryz.ntmps68 ?_;exact al
theorem I3 (l:List Ar) (hl:l.length<=1048576):GF Tryz.prog 37 [.sl 2 (l.map ay),.sl 2 (l.map ay)] [] (.v (.bool true)) []:=by
 have hm:(l.map ay).length=l.length:=by simp
 have hd:(((l.map ay).length:Int) != ((l.map ay).length:Int))=false:=by simp
 refine ah Tryz.func37 Tryz.ntmps37 ?_;refine GW.loop (fun k:Nat=>l.length - k) (fun k fr Γ=>fr=[.sl 2 (l.map ay),.sl 2 (l.map ay),.any,.any,.any,.v (ii (k:Nat)),.any,.any,.any,.any,.any,.any,.any,.any,.any,.any,.any,.any,.any,.any,.any,.any,.any,.any,.any,.any,.any]/\Γ=[]/\k<=l.length) 0 ?_ ?_
 ·exact ⟨_,_,Wk.av aj,rfl,rfl,Nat.zero_le _⟩
 rintro k _ _ ⟨rfl,rfl,hk⟩
 by_cases ao:k < l.length
 ·have hx:l[k]?=some l[k]:=by simp [ao]
  have hr:(l.map ay)[k]?=some (ay l[k]):=by rw [getElem?_map,hx];rfl
  have dq:decide ((k:Int) < ((l.map ay).length:Int))=true:=by rw [hm];simpa using ao
  have hc:=KM l[k];generalize l[k]=x at *;refine ab ?_;refine GW.draw (.q 0 (.q 1 (.q 2 (.q 3 (.q 4 (.q 5 (.q 6 (.q 7 (.a 8 (.q 9 .nil)))))))))) (by kernel_rfl) (by kernel_rfl) ?_;refine ai ?_;refine ax [] (hc) ?_;refine ab ?_;exact ⟨k+1,⟨_,_,Wk.av aj,rfl,rfl,ao⟩,by show l.length - (k+1) < l.length - k;omega⟩
 ·have dq:decide ((k:Int) < ((l.map ay).length:Int))=false:=by rw [hm];simpa using ao
  refine ab ?_;refine aS ?_;exact ar
theorem Sa (x:Go.Sp.Fn) (hp:x.params.length<=1048576):GF Tryz.prog 69 [.agg (aq x),.agg (aq x)] [] (.v (.bool true)) []:=by
 have e0:(!(x.name==x.name))=false:=by simp
 have e1:(x.body != x.body)=false:=by simp
 have h0:=uv x.params hp;refine ah Tryz.func69 Tryz.ntmps69 ?_;refine U [] (h0) ?_;exact al
theorem QJ (l:List Go.Sp.Fn) (hl:l.length<=1048576) (he:∀ x∈l,x.params.length<=1048576):GF Tryz.prog 38 [.sl 3 (l.map aq),.sl 3 (l.map aq)] [] (.v (.bool true)) []:=by
 have hm:(l.map aq).length=l.length:=by simp
 have hd:(((l.map aq).length:Int) != ((l.map aq).length:Int))=false:=by simp
 refine ah Tryz.func38 Tryz.ntmps38 ?_;refine GW.loop (fun k:Nat=>l.length - k) (fun k fr Γ=>fr=[.sl 3 (l.map aq),.sl 3 (l.map aq),.any,.any,.any,.v (ii (k:Nat)),.any,.any,.any,.any,.any,.any,.any,.any,.any,.any,.any,.any,.any,.any,.any,.any,.any,.any,.any,.any,.any]/\Γ=[]/\k<=l.length) 0 ?_ ?_
 ·exact ⟨_,_,Wk.av aj,rfl,rfl,Nat.zero_le _⟩
 rintro k _ _ ⟨rfl,rfl,hk⟩
 by_cases ao:k < l.length
 ·have hx:l[k]?=some l[k]:=by simp [ao]
  have hr:(l.map aq)[k]?=some (aq l[k]):=by rw [getElem?_map,hx];rfl
  have dq:decide ((k:Int) < ((l.map aq).length:Int))=true:=by rw [hm];simpa using ao
  have hex:=he _ (mem_of_getElem? hx);have hc:=Sa l[k] hex;generalize l[k]=x at *;refine ab ?_;refine GW.draw (.q 0 (.q 1 (.q 2 (.q 3 (.q 4 (.q 5 (.q 6 (.q 7 (.a 8 (.q 9 .nil)))))))))) (by kernel_rfl) (by kernel_rfl) ?_;refine ai ?_;refine ax [] (hc) ?_;refine ab ?_;exact ⟨k+1,⟨_,_,Wk.av aj,rfl,rfl,ao⟩,by show l.length - (k+1) < l.length - k;omega⟩
 ·have dq:decide ((k:Int) < ((l.map aq).length:Int))=false:=by rw [hm];simpa using ao
  refine ab ?_;refine aS ?_;exact ar
theorem NI (x:Nd) (hp:x.kids.length<=1048576):GF Tryz.prog 70 [.agg (au x),.agg (au x)] [] (.v (.bool true)) []:=by
 have e0:(x.kind != x.kind)=false:=by simp
 have e1:(x.at_ != x.at_)=false:=by simp
 have e2:(x.n != x.n)=false:=by simp
 have e3:(!(x.s==x.s))=false:=by simp
 have h0:=NH x.kids hp;refine ah Tryz.func70 Tryz.ntmps70 ?_;refine U [] (h0) ?_;exact al
theorem KN (l:List Nd) (hl:l.length<=1048576) (he:∀ x∈l,x.kids.length<=1048576):GF Tryz.prog 39 [.sl 5 (l.map au),.sl 5 (l.map au)] [] (.v (.bool true)) []:=by
 have hm:(l.map au).length=l.length:=by simp
 have hd:(((l.map au).length:Int) != ((l.map au).length:Int))=false:=by simp
 refine ah Tryz.func39 Tryz.ntmps39 ?_;refine GW.loop (fun k:Nat=>l.length - k) (fun k fr Γ=>fr=[.sl 5 (l.map au),.sl 5 (l.map au),.any,.any,.any,.v (ii (k:Nat)),.any,.any,.any,.any,.any,.any,.any,.any,.any,.any,.any,.any,.any,.any,.any,.any,.any,.any,.any,.any,.any]/\Γ=[]/\k<=l.length) 0 ?_ ?_
 ·exact ⟨_,_,Wk.av aj,rfl,rfl,Nat.zero_le _⟩
 rintro k _ _ ⟨rfl,rfl,hk⟩
 by_cases ao:k < l.length
 ·have hx:l[k]?=some l[k]:=by simp [ao]
  have hr:(l.map au)[k]?=some (au l[k]):=by rw [getElem?_map,hx];rfl
  have dq:decide ((k:Int) < ((l.map au).length:Int))=true:=by rw [hm];simpa using ao
  have hex:=he _ (mem_of_getElem? hx);have hc:=NI l[k] hex;generalize l[k]=x at *;refine ab ?_;refine GW.draw (.q 0 (.q 1 (.q 2 (.q 3 (.q 4 (.q 5 (.q 6 (.q 7 (.a 8 (.q 9 .nil)))))))))) (by kernel_rfl) (by kernel_rfl) ?_;refine ai ?_;refine ax [] (hc) ?_;refine ab ?_;exact ⟨k+1,⟨_,_,Wk.av aj,rfl,rfl,ao⟩,by show l.length - (k+1) < l.length - k;omega⟩
 ·have dq:decide ((k:Int) < ((l.map au).length:Int))=false:=by rw [hm];simpa using ao
  refine ab ?_;refine aS ?_;exact ar
theorem pf (x:Src) (hg:x.globals.length<=1048576) (ha:x.arrays.length<=1048576) (hf:x.fns.length<=1048576) (oh:∀ f∈x.fns,f.params.length<=1048576) (hn:x.nodes.length<=1048576) (ni:∀ n∈x.nodes,n.kids.length<=1048576):GF Tryz.prog 12 [.agg (ak x),.agg (ak x)] [] (.v (.bool true)) []:=by
 have h0:=uv x.globals hg;have h1:=I3 x.arrays ha;have h2:=QJ x.fns hf oh;have h3:=KN x.nodes hn ni;refine ah Tryz.func12 Tryz.ntmps12 ?_;refine U [] (h0) ?_;refine U [] (h1) ?_;refine U [] (h2) ?_;refine U [] (h3) ?_;exact al
end Go.Xg
