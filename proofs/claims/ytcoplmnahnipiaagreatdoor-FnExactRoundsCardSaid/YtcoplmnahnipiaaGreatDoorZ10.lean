/- Part 10 of proofs that are told in their last texts. -/
import Derived.Test.YtcoplmnahnipiaaGreatDoorZ2
import Derived.Test.YtcoplmnahnipiaaGreatDoorZ5
import Derived.Test.YtcoplmnahnipiaaGreatDoorZ6
import Derived.Test.YtcoplmnahnipiaaGreatDoorZ7
import Derived.Test.YtcoplmnahnipiaaGreatDoorZ8
open List (append_assoc append_nil getElem?_append_right getElem?_cons_succ getElem?_eq_getElem getElem?_eq_none getElem?_map getElem?_set length_append length_zipWith map_nil mem_of_getElem? range'_succ take_length)
set_option linter.unusedVariables false
set_option linter.unusedSimpArgs false
set_option maxRecDepth 100000
set_option maxHeartbeats 2000000
namespace Go.Xg
open Go.RowKit Go.Xw Go.Proofs
open Go.Xp (Nd Ar)
open Go.Sp (Src)
open Go.Im (wS dN bb mY rq fC dm mW kl mV)
attribute [local irreducible] GW GL GO YG GC GA aW aZ
theorem PI (l:List Int) (left:Nat) (hl:l.length<=9223372036854775807) (vo:left<=1048576):GF Tryz.prog 128 [ints l,.v (ii (left:Nat))] [] (.v (ii (rq l.length left))) []:=by
 have hm:(l.map fun i=>[GV.v (ii i)]).length=l.length:=by simp
 by_cases h0:left < l.length
 ·have hd:decide ((left:Int) - ((l.map fun i=>[GV.v (ii i)]).length:Int) < 0)=true:=by rw [hm];simpa using by omega
  rw [dm h0];refine aj Tryz.func128 Tryz.ntmps128 ?_;exact aq
 ·have hd:decide ((left:Int) - ((l.map fun i=>[GV.v (ii i)]).length:Int) < 0)=false:=by rw [hm];simpa using by omega
  rw [fC ah,show ((left - l.length:Nat):Int)=(left:Int) - ((l.map fun i=>[GV.v (ii i)]).length:Int) by rw [hm];omega];refine aj Tryz.func128 Tryz.ntmps128 ?_;exact aq
theorem yR (l:List ai) (left:Nat) (hl:l.length<=9223372036854775807) (he:∀ x∈l,x.length<=9223372036854775807) (vo:left<=1048576):GF Tryz.prog 35 [strs l,.v (ii (left:Nat))] [] (.v (ii (rq (wS l) left))) []:=by
 have hm:(l.map (fun s=>[GV.v (sv s)])).length=l.length:=by simp
 have ht:wS l=l.length+bb (fun x:ai=>x.length) l:=mW _ l
 by_cases h0:left < l.length
 ·have hd:decide ((left:Int) - ((l.map (fun s=>[GV.v (sv s)])).length:Int) < 0)=true:=by rw [hm];simpa using by omega
  rw [dm ah];refine aj Tryz.func35 Tryz.ntmps35 ?_;exact aq
 have hd:decide ((left:Int) - ((l.map (fun s=>[GV.v (sv s)])).length:Int) < 0)=false:=by rw [hm];simpa using by omega
 rw [ht];refine aj Tryz.func35 Tryz.ntmps35 ?_;refine GW.loop (fun k:Nat × Int=>l.length - k.1) (fun k fr Γ=>fr=[strs l,.v (ii k.2),.U,.U,.U,.v (ii (k.1:Nat)),.U,.U,.U,.U,.U,.U,.U,.U,.U,.U,.U,.U,.U,.U,.U,.U,.U,.U,.U,.U,.U,.U]/\Γ=[]/\k.1<=l.length/\k.2=(left:Int) - ((l.length+bb (fun x:ai=>x.length) (l.take k.1):Nat):Int)/\0<=k.2) (0,(left:Int) - ((l.map (fun s=>[GV.v (sv s)])).length:Int)) ?_ ?_
 ·exact ⟨_,_,Wk.ax ao,rfl,rfl,Nat.zero_le _,by rw [hm];simp [bb],by rw [hm];simp only;omega⟩
 rintro ⟨k,z⟩ _ _ ⟨rfl,rfl,hk,hz,Eg⟩;simp only at hk hz Eg
 have Ul:z<=1048576:=by omega
 by_cases ar:k < l.length
 ·have hx:l[k]?=some l[k]:=by simp [ar]
  have hr:(l.map (fun s=>[GV.v (sv s)]))[k]?=some ([GV.v (sv l[k])]):=by rw [getElem?_map,hx];rfl
  have db:decide ((k:Int) < ((l.map (fun s=>[GV.v (sv s)])).length:Int))=true:=by rw [hm];simpa using ar
  have jD:=kl (w:=fun x:ai=>x.length) hx;have hle:=mY (fun x:ai=>x.length) l (k+1);have hex:=he _ (mem_of_getElem? hx);generalize l[k]=x at *
  by_cases h1:z < ((x.length:Nat):Int)
  ·have yB:decide (z - ((x.length:Nat):Int) < 0)=true:=by simpa using by omega
   rw [dm ah];exact aw
  ·have yB:decide (z - ((x.length:Nat):Int) < 0)=false:=by simpa using by omega
   refine ae ?_;exact ⟨(k+1,z - ((x.length:Nat):Int)),⟨_,_,Wk.ax ao,rfl,rfl,ar,by simp only;omega,by simp only;omega⟩,by simp only;omega⟩
 ·have db:decide ((k:Int) < ((l.map (fun s=>[GV.v (sv s)])).length:Int))=false:=by rw [hm];simpa using ar
  have kT:k=l.length:=by omega
  subst kT;rw [take_length] at hz;rw [fC ah,show ((left - (l.length+bb (fun x:ai=>x.length) l):Nat):Int)=z by omega];refine ae ?_;refine aX ?_;exact aw
theorem Nc (x:Ar) (left:Nat) (hs:x.name.length<=9223372036854775807) (vo:left<=1048576):GF Tryz.prog 94 [.agg (aB x),.v (ii (left:Nat))] [] (.v (ii (rq (x.name.length) left))) []:=by
 by_cases h0:left < x.name.length
 ·have hd:decide ((left:Int) - ((x.name.length:Nat):Int) < 0)=true:=by simpa using by omega
  rw [dm ah];refine aj Tryz.func94 Tryz.ntmps94 ?_;exact aq
 have hd:decide ((left:Int) - ((x.name.length:Nat):Int) < 0)=false:=by simpa using by omega
 rw [fC ah,show ((left - (x.name.length):Nat):Int)=(left:Int) - ((x.name.length:Nat):Int) by omega];refine aj Tryz.func94 Tryz.ntmps94 ?_;exact aq
theorem Kd (l:List Ar) (left:Nat) (hl:l.length<=9223372036854775807) (he:∀ x∈l,x.name.length<=9223372036854775807) (vo:left<=1048576):GF Tryz.prog 36 [.sl 2 (l.map aB),.v (ii (left:Nat))] [] (.v (ii (rq (bb (fun a:Ar=>a.name.length+1) l) left))) []:=by
 have hm:(l.map aB).length=l.length:=by simp
 have ht:bb (fun a:Ar=>a.name.length+1) l=l.length+bb (fun x:Ar=>x.name.length) l:=mW _ l
 by_cases h0:left < l.length
 ·have hd:decide ((left:Int) - ((l.map aB).length:Int) < 0)=true:=by rw [hm];simpa using by omega
  rw [dm ah];refine aj Tryz.func36 Tryz.ntmps36 ?_;exact aq
 have hd:decide ((left:Int) - ((l.map aB).length:Int) < 0)=false:=by rw [hm];simpa using by omega
 rw [ht];refine aj Tryz.func36 Tryz.ntmps36 ?_;refine GW.loop (fun k:Nat × Int=>l.length - k.1) (fun k fr Γ=>fr=[.sl 2 (l.map aB),.v (ii k.2),.U,.U,.U,.v (ii (k.1:Nat)),.U,.U,.U,.U,.U,.U,.U,.U,.U,.U,.U,.U,.U,.U,.U,.U,.U,.U,.U,.U,.U]/\Γ=[]/\k.1<=l.length/\k.2=(left:Int) - ((l.length+bb (fun x:Ar=>x.name.length) (l.take k.1):Nat):Int)/\0<=k.2) (0,(left:Int) - ((l.map aB).length:Int)) ?_ ?_
 ·exact ⟨_,_,Wk.ax ao,rfl,rfl,Nat.zero_le _,by rw [hm];simp [bb],by rw [hm];simp only;omega⟩
 rintro ⟨k,z⟩ _ _ ⟨rfl,rfl,hk,hz,Eg⟩;simp only at hk hz Eg
 have Ul:z<=1048576:=by omega
 by_cases ar:k < l.length
 ·have hx:l[k]?=some l[k]:=by simp [ar]
  have hr:(l.map aB)[k]?=some (aB l[k]):=by rw [getElem?_map,hx];rfl
  have db:decide ((k:Int) < ((l.map aB).length:Int))=true:=by rw [hm];simpa using ar
  have jD:=kl (w:=fun x:Ar=>x.name.length) hx;have hle:=mY (fun x:Ar=>x.name.length) l (k+1);have hex:=he _ (mem_of_getElem? hx);generalize l[k]=x at *;obtain ⟨y,rfl⟩:∃ y:Nat,z=(y:Int):=⟨z.toNat,by omega⟩;have hc:=Nc x y ah ah
  by_cases h1:y < x.name.length
  ·rw [dm h1] at hc;rw [dm ah];refine ae ?_;refine ab [] (hc) ?_;exact aq
  ·rw [fC ah] at hc
   have yB:decide (((y - (x.name.length):Nat):Int) < 0)=false:=by simp
   refine ae ?_;refine ab [] (hc) ?_;exact ⟨(k+1,((y - (x.name.length):Nat):Int)),⟨_,_,Wk.ax ao,rfl,rfl,ar,by simp only;omega,by simp only;omega⟩,by simp only;omega⟩
 ·have db:decide ((k:Int) < ((l.map aB).length:Int))=false:=by rw [hm];simpa using ar
  have kT:k=l.length:=by omega
  subst kT;rw [take_length] at hz;rw [fC ah,show ((left - (l.length+bb (fun x:Ar=>x.name.length) l):Nat):Int)=z by omega];refine ae ?_;refine aX ?_;exact aw
theorem U5 (x:Go.Sp.Fn) (left:Nat) (hs:x.name.length<=9223372036854775807) (hp:x.params.length<=9223372036854775807) (hq:∀ s∈x.params,s.length<=9223372036854775807) (vo:left<=1048576):GF Tryz.prog 95 [.agg (au x),.v (ii (left:Nat))] [] (.v (ii (rq (x.name.length+wS x.params) left))) []:=by
 by_cases h0:left < x.name.length
 ·have hd:decide ((left:Int) - ((x.name.length:Nat):Int) < 0)=true:=by simpa using by omega
  rw [dm ah];refine aj Tryz.func95 Tryz.ntmps95 ?_;exact aq
 have hd:decide ((left:Int) - ((x.name.length:Nat):Int) < 0)=false:=by simpa using by omega
 have hc:=yR x.params (left - x.name.length) hp hq ah;rw [show ((left - x.name.length:Nat):Int)=(left:Int) - ((x.name.length:Nat):Int) by omega] at hc
 by_cases h1:left - x.name.length < wS x.params
 ·rw [dm ah] at hc |-;refine aj Tryz.func95 Tryz.ntmps95 ?_;refine ab [] (hc) ?_;exact aq
 ·rw [fC ah] at hc |-;rw [show left - x.name.length - wS x.params=left - (x.name.length+wS x.params) by omega] at hc
  have db:decide (((left - (x.name.length+wS x.params):Nat):Int) < 0)=false:=by simp
  refine aj Tryz.func95 Tryz.ntmps95 ?_;refine ab [] (hc) ?_;exact aq
theorem St (l:List Go.Sp.Fn) (left:Nat) (hl:l.length<=9223372036854775807) (he:∀ x∈l,x.name.length<=9223372036854775807/\x.params.length<=9223372036854775807/\∀ s∈x.params,s.length<=9223372036854775807) (vo:left<=1048576):GF Tryz.prog 37 [.sl 3 (l.map au),.v (ii (left:Nat))] [] (.v (ii (rq (bb (fun f:Go.Sp.Fn=>f.name.length+wS f.params+1) l) left))) []:=by
 have hm:(l.map au).length=l.length:=by simp
 have ht:bb (fun f:Go.Sp.Fn=>f.name.length+wS f.params+1) l=l.length+bb (fun x:Go.Sp.Fn=>x.name.length+wS x.params) l:=mW _ l
 by_cases h0:left < l.length
 ·have hd:decide ((left:Int) - ((l.map au).length:Int) < 0)=true:=by rw [hm];simpa using by omega
  rw [dm ah];refine aj Tryz.func37 Tryz.ntmps37 ?_;exact aq
 have hd:decide ((left:Int) - ((l.map au).length:Int) < 0)=false:=by rw [hm];simpa using by omega
 rw [ht];refine aj Tryz.func37 Tryz.ntmps37 ?_;refine GW.loop (fun k:Nat × Int=>l.length - k.1) (fun k fr Γ=>fr=[.sl 3 (l.map au),.v (ii k.2),.U,.U,.U,.v (ii (k.1:Nat)),.U,.U,.U,.U,.U,.U,.U,.U,.U,.U,.U,.U,.U,.U,.U,.U,.U,.U,.U,.U,.U]/\Γ=[]/\k.1<=l.length/\k.2=(left:Int) - ((l.length+bb (fun x:Go.Sp.Fn=>x.name.length+wS x.params) (l.take k.1):Nat):Int)/\0<=k.2) (0,(left:Int) - ((l.map au).length:Int)) ?_ ?_
 ·exact ⟨_,_,Wk.ax ao,rfl,rfl,Nat.zero_le _,by rw [hm];simp [bb],by rw [hm];simp only;omega⟩
 rintro ⟨k,z⟩ _ _ ⟨rfl,rfl,hk,hz,Eg⟩;simp only at hk hz Eg
 have Ul:z<=1048576:=by omega
 by_cases ar:k < l.length
 ·have hx:l[k]?=some l[k]:=by simp [ar]
  have hr:(l.map au)[k]?=some (au l[k]):=by rw [getElem?_map,hx];rfl
  have db:decide ((k:Int) < ((l.map au).length:Int))=true:=by rw [hm];simpa using ar
  have jD:=kl (w:=fun x:Go.Sp.Fn=>x.name.length+wS x.params) hx;have hle:=mY (fun x:Go.Sp.Fn=>x.name.length+wS x.params) l (k+1);have hex:=he _ (mem_of_getElem? hx);generalize l[k]=x at *;obtain ⟨y,rfl⟩:∃ y:Nat,z=(y:Int):=⟨z.toNat,by omega⟩;have hc:=U5 x y hex.1 hex.2.1 hex.2.2 ah
  by_cases h1:y < x.name.length+wS x.params
  ·rw [dm h1] at hc;rw [dm ah];refine ae ?_;refine ab [] (hc) ?_;exact aq
  ·rw [fC ah] at hc
   have yB:decide (((y - (x.name.length+wS x.params):Nat):Int) < 0)=false:=by simp
   refine ae ?_;refine ab [] (hc) ?_;exact ⟨(k+1,((y - (x.name.length+wS x.params):Nat):Int)),⟨_,_,Wk.ax ao,rfl,rfl,ar,by simp only;omega,by simp only;omega⟩,by simp only;omega⟩
 ·have db:decide ((k:Int) < ((l.map au).length:Int))=false:=by rw [hm];simpa using ar
  have kT:k=l.length:=by omega
  subst kT;rw [take_length] at hz;rw [fC ah,show ((left - (l.length+bb (fun x:Go.Sp.Fn=>x.name.length+wS x.params) l):Nat):Int)=z by omega];refine ae ?_;refine aX ?_;exact aw
theorem PK (x:Nd) (left:Nat) (hs:x.s.length<=9223372036854775807) (hp:x.kids.length<=9223372036854775807) (vo:left<=1048576):GF Tryz.prog 96 [.agg (ay x),.v (ii (left:Nat))] [] (.v (ii (rq (x.s.length+x.kids.length) left))) []:=by
 by_cases h0:left < x.s.length
 ·have hd:decide ((left:Int) - ((x.s.length:Nat):Int) < 0)=true:=by simpa using by omega
  rw [dm ah];refine aj Tryz.func96 Tryz.ntmps96 ?_;exact aq
 have hd:decide ((left:Int) - ((x.s.length:Nat):Int) < 0)=false:=by simpa using by omega
 have hc:=PI x.kids (left - x.s.length) hp ah;rw [show ((left - x.s.length:Nat):Int)=(left:Int) - ((x.s.length:Nat):Int) by omega] at hc
 by_cases h1:left - x.s.length < x.kids.length
 ·rw [dm ah] at hc |-;refine aj Tryz.func96 Tryz.ntmps96 ?_;refine ab [] (hc) ?_;exact aq
 ·rw [fC ah] at hc |-;rw [show left - x.s.length - x.kids.length=left - (x.s.length+x.kids.length) by omega] at hc
  have db:decide (((left - (x.s.length+x.kids.length):Nat):Int) < 0)=false:=by simp
  refine aj Tryz.func96 Tryz.ntmps96 ?_;refine ab [] (hc) ?_;exact aq
theorem Nf (l:List Nd) (left:Nat) (hl:l.length<=9223372036854775807) (he:∀ x∈l,x.s.length<=9223372036854775807/\x.kids.length<=9223372036854775807) (vo:left<=1048576):GF Tryz.prog 38 [.sl 5 (l.map ay),.v (ii (left:Nat))] [] (.v (ii (rq (bb (fun n:Nd=>n.s.length+n.kids.length+1) l) left))) []:=by
 have hm:(l.map ay).length=l.length:=by simp
 have ht:bb (fun n:Nd=>n.s.length+n.kids.length+1) l=l.length+bb (fun x:Nd=>x.s.length+x.kids.length) l:=mW _ l
 by_cases h0:left < l.length
 ·have hd:decide ((left:Int) - ((l.map ay).length:Int) < 0)=true:=by rw [hm];simpa using by omega
  rw [dm ah];refine aj Tryz.func38 Tryz.ntmps38 ?_;exact aq
 have hd:decide ((left:Int) - ((l.map ay).length:Int) < 0)=false:=by rw [hm];simpa using by omega
 rw [ht];refine aj Tryz.func38 Tryz.ntmps38 ?_;refine GW.loop (fun k:Nat × Int=>l.length - k.1) (fun k fr Γ=>fr=[.sl 5 (l.map ay),.v (ii k.2),.U,.U,.U,.v (ii (k.1:Nat)),.U,.U,.U,.U,.U,.U,.U,.U,.U,.U,.U,.U,.U,.U,.U,.U,.U,.U,.U,.U,.U]/\Γ=[]/\k.1<=l.length/\k.2=(left:Int) - ((l.length+bb (fun x:Nd=>x.s.length+x.kids.length) (l.take k.1):Nat):Int)/\0<=k.2) (0,(left:Int) - ((l.map ay).length:Int)) ?_ ?_
 ·exact ⟨_,_,Wk.ax ao,rfl,rfl,Nat.zero_le _,by rw [hm];simp [bb],by rw [hm];simp only;omega⟩
 rintro ⟨k,z⟩ _ _ ⟨rfl,rfl,hk,hz,Eg⟩;simp only at hk hz Eg
 have Ul:z<=1048576:=by omega
 by_cases ar:k < l.length
 ·have hx:l[k]?=some l[k]:=by simp [ar]
  have hr:(l.map ay)[k]?=some (ay l[k]):=by rw [getElem?_map,hx];rfl
  have db:decide ((k:Int) < ((l.map ay).length:Int))=true:=by rw [hm];simpa using ar
  have jD:=kl (w:=fun x:Nd=>x.s.length+x.kids.length) hx;have hle:=mY (fun x:Nd=>x.s.length+x.kids.length) l (k+1);have hex:=he _ (mem_of_getElem? hx);generalize l[k]=x at *;obtain ⟨y,rfl⟩:∃ y:Nat,z=(y:Int):=⟨z.toNat,by omega⟩;have hc:=PK x y hex.1 hex.2 ah
  by_cases h1:y < x.s.length+x.kids.length
  ·rw [dm h1] at hc;rw [dm ah];refine ae ?_;refine ab [] (hc) ?_;exact aq
  ·rw [fC ah] at hc
   have yB:decide (((y - (x.s.length+x.kids.length):Nat):Int) < 0)=false:=by simp
   refine ae ?_;refine ab [] (hc) ?_;exact ⟨(k+1,((y - (x.s.length+x.kids.length):Nat):Int)),⟨_,_,Wk.ax ao,rfl,rfl,ar,by simp only;omega,by simp only;omega⟩,by simp only;omega⟩
 ·have db:decide ((k:Int) < ((l.map ay).length:Int))=false:=by rw [hm];simpa using ar
  have kT:k=l.length:=by omega
  subst kT;rw [take_length] at hz;rw [fC ah,show ((left - (l.length+bb (fun x:Nd=>x.s.length+x.kids.length) l):Nat):Int)=z by omega];refine ae ?_;refine aX ?_;exact aw
theorem AY (p:Src) (hb:Go.Im.Small p 9223372036854775807):GF Tryz.prog 10 [.agg (av p),.v (ii 1048576)] [] (.v (ii (rq (dN p) 1048576))) []:=by
 obtain ⟨⟨a1,a2⟩,⟨b1,b2⟩,⟨c1,c2⟩,⟨d1,d2⟩⟩:=hb;have h1:=yR p.globals 1048576 a1 a2 (Nat.le_refl _);unfold dN;generalize wS p.globals=w1 at *
 by_cases q1:1048576 < w1
 ·rw [dm q1] at h1;rw [dm ah];refine aj Tryz.func10 Tryz.ntmps10 ?_;refine ab [] (h1) ?_;exact aq
 rw [fC ah] at h1
 have e1:decide (((1048576 - w1:Nat):Int) < 0)=false:=by simp
 have h2:=Kd p.arrays (1048576 - w1) b1 b2 ah;generalize bb (fun a:Ar=>a.name.length+1) p.arrays=w2 at *
 by_cases q2:1048576 - w1 < w2
 ·rw [dm q2] at h2;rw [dm ah];refine aj Tryz.func10 Tryz.ntmps10 ?_;refine ab [] (h1) ?_;refine ab [] (h2) ?_;exact aq
 rw [fC ah] at h2
 have e2:decide (((1048576 - w1 - w2:Nat):Int) < 0)=false:=by simp
 have h3:=St p.fns (1048576 - w1 - w2) c1 c2 ah;generalize bb (fun f:Go.Sp.Fn=>f.name.length+wS f.params+1) p.fns=w3 at *
 by_cases q3:1048576 - w1 - w2 < w3
 ·rw [dm q3] at h3;rw [dm ah];refine aj Tryz.func10 Tryz.ntmps10 ?_;refine ab [] (h1) ?_;refine ab [] (h2) ?_;refine ab [] (h3) ?_;exact aq
 rw [fC ah] at h3
 have e3:decide (((1048576 - w1 - w2 - w3:Nat):Int) < 0)=false:=by simp
 have h4:=Nf p.nodes (1048576 - w1 - w2 - w3) d1 d2 ah;generalize bb (fun n:Nd=>n.s.length+n.kids.length+1) p.nodes=w4 at *
 by_cases q4:1048576 - w1 - w2 - w3 < w4
 ·rw [dm q4] at h4;rw [dm ah];refine aj Tryz.func10 Tryz.ntmps10 ?_;refine ab [] (h1) ?_;refine ab [] (h2) ?_;refine ab [] (h3) ?_;refine ab [] (h4) ?_;exact aq
 rw [fC ah] at h4
 have e4:decide (((1048576 - w1 - w2 - w3 - w4:Nat):Int) < 0)=false:=by simp
 rw [fC ah,show 1048576 - (w1+w2+w3+w4)=1048576 - w1 - w2 - w3 - w4 by omega];refine aj Tryz.func10 Tryz.ntmps10 ?_;refine ab [] (h1) ?_;refine ab [] (h2) ?_;refine ab [] (h3) ?_;refine ab [] (h4) ?_;exact aq
end Go.Xg
namespace Go.Xg
open Go.RowKit Go.Xw Go.Proofs
open Go.Xp (Nd Ar)
open Go.Sp (Src)
open Go.Im (wS dN bb mY rq fC dm mW kl mV)
attribute [local irreducible] GW GL GO YG GC GA aW aZ
theorem zc (l:List Int) (hl:l.length<=1048576):GF Tryz.prog 19 [ints l,ints l] [] (.v (.bool true)) []:=by
 have hm:(l.map (fun i=>[GV.v (ii i)])).length=l.length:=by simp
 have hd:(((l.map (fun i=>[GV.v (ii i)])).length:Int) != ((l.map (fun i=>[GV.v (ii i)])).length:Int))=false:=by simp
 refine aj Tryz.func19 Tryz.ntmps19 ?_;refine GW.loop (fun k:Nat=>l.length - k) (fun k fr Γ=>fr=[ints l,ints l,.U,.U,.U,.v (ii (k:Nat)),.U,.U,.U,.U,.U,.U,.U,.U,.U,.U,.U,.U,.U,.U,.U,.U,.U,.U,.U,.U]/\Γ=[]/\k<=l.length) 0 ?_ ?_
 ·exact ⟨_,_,Wk.ax ao,rfl,rfl,Nat.zero_le _⟩
 rintro k _ _ ⟨rfl,rfl,hk⟩
 by_cases ar:k < l.length
 ·have hx:l[k]?=some l[k]:=by simp [ar]
  have hr:(l.map (fun i=>[GV.v (ii i)]))[k]?=some ([GV.v (ii l[k])]):=by rw [getElem?_map,hx];rfl
  have db:decide ((k:Int) < ((l.map (fun i=>[GV.v (ii i)])).length:Int))=true:=by rw [hm];simpa using ar
  generalize l[k]=x at *
  have hs:(x != x)=false:=by simp
  refine ae ?_;refine aE (aH [0,1,2,3,4,5,6,7,8] .nil) ?_;refine ak ?_;refine ae ?_;exact ⟨k+1,⟨_,_,Wk.ax ao,rfl,rfl,ar⟩,by show l.length - (k+1) < l.length - k;omega⟩
 ·have db:decide ((k:Int) < ((l.map (fun i=>[GV.v (ii i)])).length:Int))=false:=by rw [hm];simpa using ar
  refine ae ?_;refine aX ?_;exact aw
theorem yu (l:List ai) (hl:l.length<=1048576):GF Tryz.prog 47 [strs l,strs l] [] (.v (.bool true)) []:=by
 have hm:(l.map (fun s=>[GV.v (sv s)])).length=l.length:=by simp
 have hd:(((l.map (fun s=>[GV.v (sv s)])).length:Int) != ((l.map (fun s=>[GV.v (sv s)])).length:Int))=false:=by simp
 refine aj Tryz.func47 Tryz.ntmps47 ?_;refine GW.loop (fun k:Nat=>l.length - k) (fun k fr Γ=>fr=[strs l,strs l,.U,.U,.U,.v (ii (k:Nat)),.U,.U,.U,.U,.U,.U,.U,.U,.U,.U,.U,.U,.U,.U,.U,.U,.U,.U,.U,.U]/\Γ=[]/\k<=l.length) 0 ?_ ?_
 ·exact ⟨_,_,Wk.ax ao,rfl,rfl,Nat.zero_le _⟩
 rintro k _ _ ⟨rfl,rfl,hk⟩
 by_cases ar:k < l.length
 ·have hx:l[k]?=some l[k]:=by simp [ar]
  have hr:(l.map (fun s=>[GV.v (sv s)]))[k]?=some ([GV.v (sv l[k])]):=by rw [getElem?_map,hx];rfl
  have db:decide ((k:Int) < ((l.map (fun s=>[GV.v (sv s)])).length:Int))=true:=by rw [hm];simpa using ar
  generalize l[k]=x at *
  have hs:(!(x==x))=false:=by simp
  refine ae ?_;refine aE (aH [0,1,2,3,4,5,6,7,8] .nil) ?_;refine ak ?_;refine ae ?_;exact ⟨k+1,⟨_,_,Wk.ax ao,rfl,rfl,ar⟩,by show l.length - (k+1) < l.length - k;omega⟩
 ·have db:decide ((k:Int) < ((l.map (fun s=>[GV.v (sv s)])).length:Int))=false:=by rw [hm];simpa using ar
  refine ae ?_;refine aX ?_;exact aw
theorem Lg (x:Ar):GF Tryz.prog 107 [.agg (aB x),.agg (aB x)] [] (.v (.bool true)) []:=by
 have e0:(!(x.name==x.name))=false:=by simp
 have e1:(x.size != x.size)=false:=by simp
 refine aj Tryz.func107 Tryz.ntmps107 ?_;exact aq
theorem Jb (l:List Ar) (hl:l.length<=1048576):GF Tryz.prog 48 [.sl 2 (l.map aB),.sl 2 (l.map aB)] [] (.v (.bool true)) []:=by
 have hm:(l.map aB).length=l.length:=by simp
 have hd:(((l.map aB).length:Int) != ((l.map aB).length:Int))=false:=by simp
 refine aj Tryz.func48 Tryz.ntmps48 ?_;refine GW.loop (fun k:Nat=>l.length - k) (fun k fr Γ=>fr=[.sl 2 (l.map aB),.sl 2 (l.map aB),.U,.U,.U,.v (ii (k:Nat)),.U,.U,.U,.U,.U,.U,.U,.U,.U,.U,.U,.U,.U,.U,.U,.U,.U,.U,.U,.U,.U]/\Γ=[]/\k<=l.length) 0 ?_ ?_
 ·exact ⟨_,_,Wk.ax ao,rfl,rfl,Nat.zero_le _⟩
 rintro k _ _ ⟨rfl,rfl,hk⟩
 by_cases ar:k < l.length
 ·have hx:l[k]?=some l[k]:=by simp [ar]
  have hr:(l.map aB)[k]?=some (aB l[k]):=by rw [getElem?_map,hx];rfl
  have db:decide ((k:Int) < ((l.map aB).length:Int))=true:=by rw [hm];simpa using ar
  have hc:=Lg l[k];generalize l[k]=x at *;refine ae ?_;refine aE (aH [0,1,2,3,4,5,6,7] (.a 8 (.q 9 .nil))) ?_;refine ak ?_;refine aC [] (hc) ?_;refine ae ?_;exact ⟨k+1,⟨_,_,Wk.ax ao,rfl,rfl,ar⟩,by show l.length - (k+1) < l.length - k;omega⟩
 ·have db:decide ((k:Int) < ((l.map aB).length:Int))=false:=by rw [hm];simpa using ar
  refine ae ?_;refine aX ?_;exact aw
theorem SX (x:Go.Sp.Fn) (hp:x.params.length<=1048576):GF Tryz.prog 108 [.agg (au x),.agg (au x)] [] (.v (.bool true)) []:=by
 have e0:(!(x.name==x.name))=false:=by simp
 have e1:(x.body != x.body)=false:=by simp
 have h0:=yu x.params hp;refine aj Tryz.func108 Tryz.ntmps108 ?_;refine ab [] (h0) ?_;exact aq
theorem Rv (l:List Go.Sp.Fn) (hl:l.length<=1048576) (he:∀ x∈l,x.params.length<=1048576):GF Tryz.prog 49 [.sl 3 (l.map au),.sl 3 (l.map au)] [] (.v (.bool true)) []:=by
 have hm:(l.map au).length=l.length:=by simp
 have hd:(((l.map au).length:Int) != ((l.map au).length:Int))=false:=by simp
 refine aj Tryz.func49 Tryz.ntmps49 ?_;refine GW.loop (fun k:Nat=>l.length - k) (fun k fr Γ=>fr=[.sl 3 (l.map au),.sl 3 (l.map au),.U,.U,.U,.v (ii (k:Nat)),.U,.U,.U,.U,.U,.U,.U,.U,.U,.U,.U,.U,.U,.U,.U,.U,.U,.U,.U,.U,.U]/\Γ=[]/\k<=l.length) 0 ?_ ?_
 ·exact ⟨_,_,Wk.ax ao,rfl,rfl,Nat.zero_le _⟩
 rintro k _ _ ⟨rfl,rfl,hk⟩
 by_cases ar:k < l.length
 ·have hx:l[k]?=some l[k]:=by simp [ar]
  have hr:(l.map au)[k]?=some (au l[k]):=by rw [getElem?_map,hx];rfl
  have db:decide ((k:Int) < ((l.map au).length:Int))=true:=by rw [hm];simpa using ar
  have hex:=he _ (mem_of_getElem? hx);have hc:=SX l[k] hex;generalize l[k]=x at *;refine ae ?_;refine aE (aH [0,1,2,3,4,5,6,7] (.a 8 (.q 9 .nil))) ?_;refine ak ?_;refine aC [] (hc) ?_;refine ae ?_;exact ⟨k+1,⟨_,_,Wk.ax ao,rfl,rfl,ar⟩,by show l.length - (k+1) < l.length - k;omega⟩
 ·have db:decide ((k:Int) < ((l.map au).length:Int))=false:=by rw [hm];simpa using ar
  refine ae ?_;refine aX ?_;exact aw
theorem N2 (x:Nd) (hp:x.kids.length<=1048576):GF Tryz.prog 109 [.agg (ay x),.agg (ay x)] [] (.v (.bool true)) []:=by
 have e0:(x.kind != x.kind)=false:=by simp
 have e1:(x.at_ != x.at_)=false:=by simp
 have e2:(x.n != x.n)=false:=by simp
 have e3:(!(x.s==x.s))=false:=by simp
 have h0:=zc x.kids hp;refine aj Tryz.func109 Tryz.ntmps109 ?_;refine ab [] (h0) ?_;exact aq
theorem Lh (l:List Nd) (hl:l.length<=1048576) (he:∀ x∈l,x.kids.length<=1048576):GF Tryz.prog 50 [.sl 5 (l.map ay),.sl 5 (l.map ay)] [] (.v (.bool true)) []:=by
 have hm:(l.map ay).length=l.length:=by simp
 have hd:(((l.map ay).length:Int) != ((l.map ay).length:Int))=false:=by simp
 refine aj Tryz.func50 Tryz.ntmps50 ?_;refine GW.loop (fun k:Nat=>l.length - k) (fun k fr Γ=>fr=[.sl 5 (l.map ay),.sl 5 (l.map ay),.U,.U,.U,.v (ii (k:Nat)),.U,.U,.U,.U,.U,.U,.U,.U,.U,.U,.U,.U,.U,.U,.U,.U,.U,.U,.U,.U,.U]/\Γ=[]/\k<=l.length) 0 ?_ ?_
 ·exact ⟨_,_,Wk.ax ao,rfl,rfl,Nat.zero_le _⟩
 rintro k _ _ ⟨rfl,rfl,hk⟩
 by_cases ar:k < l.length
 ·have hx:l[k]?=some l[k]:=by simp [ar]
  have hr:(l.map ay)[k]?=some (ay l[k]):=by rw [getElem?_map,hx];rfl
  have db:decide ((k:Int) < ((l.map ay).length:Int))=true:=by rw [hm];simpa using ar
  have hex:=he _ (mem_of_getElem? hx);have hc:=N2 l[k] hex;generalize l[k]=x at *;refine ae ?_;refine aE (aH [0,1,2,3,4,5,6,7] (.a 8 (.q 9 .nil))) ?_;refine ak ?_;refine aC [] (hc) ?_;refine ae ?_;exact ⟨k+1,⟨_,_,Wk.ax ao,rfl,rfl,ar⟩,by show l.length - (k+1) < l.length - k;omega⟩
 ·have db:decide ((k:Int) < ((l.map ay).length:Int))=false:=by rw [hm];simpa using ar
  refine ae ?_;refine aX ?_;exact aw
theorem zW (x:Src) (hg:x.globals.length<=1048576) (ha:x.arrays.length<=1048576) (hf:x.fns.length<=1048576) (uv:∀ f∈x.fns,f.params.length<=1048576) (hn:x.nodes.length<=1048576) (sk:∀ n∈x.nodes,n.kids.length<=1048576):GF Tryz.prog 14 [.agg (av x),.agg (av x)] [] (.v (.bool true)) []:=by
 have h0:=yu x.globals hg;have h1:=Jb x.arrays ha;have h2:=Rv x.fns hf uv;have h3:=Lh x.nodes hn sk;refine aj Tryz.func14 Tryz.ntmps14 ?_;refine ab [] (h0) ?_;refine ab [] (h1) ?_;refine ab [] (h2) ?_;refine ab [] (h3) ?_;exact aq
end Go.Xg
namespace Go.Im
open Go.Xp
def wo (n:Nat):ai:=109::cm n
theorem Bn {n:Nat} (h:n < 10):cm n=[UInt8.ofNat (48+n)]:=by rw [cm,dif_pos h]
theorem Hi {n:Nat} (h:¬ n < 10):cm n=cm (n / 10)++[UInt8.ofNat (48+n % 10)]:=by rw [cm,dif_neg h]
end Go.Im
namespace Go.Xg
open Go.RowKit Go.Xw Go.Proofs
open Go.Xp (Nd Ar cm oq)
open Go.Sp (Src)
open Go.Im (wo Bn Hi)
attribute [local irreducible] GW GL GO YG GC GA aW aZ
theorem rA (n:Nat) (hn:n<=1099511627776):GF Tryz.prog 111 [.v (ii (n:Int))] [] (.v (sv (wo n))) []:=by
 unfold wo
 by_cases h0:n=0
 ·subst h0;rw [Bn ah];refine aj Tryz.func111 Tryz.ntmps111 ?_;exact aq
 have hd0:decide ((n:Int)<=0)=false:=by simpa using by omega
 have TG:=oq n;refine aj Tryz.func111 Tryz.ntmps111 ?_;refine GW.loop (fun st:Nat × ai=>st.1) (fun st fr Γ=>fr=[.v (ii (st.1:Nat)),.U,.U,.v (sv st.2),.U,.U,.U,.U,.U,.U,.U,.U,.U,.U,.U,.U,.U,.U,.U,.U]/\Γ=[]/\st.1<=n/\st.2.length<=n+1/\(st.1=0->st.2=cm n)/\(st.1 > 0->cm st.1++st.2=cm n)) (n,[]) ?_ ?_
 ·exact ⟨_,_,Wk.ax ao,rfl,rfl,Nat.le_refl _,Nat.zero_le _,fun h=>absurd h h0,fun _=>by simp⟩
 rintro ⟨k,y⟩ _ _ ⟨rfl,rfl,hk,EO,hz,hp⟩;simp only at hk EO hz hp
 by_cases ar:k > 0
 ·have hd:decide ((0:Int) < (k:Int))=true:=by simpa using ar
  have hq:=hp ar;have hw:=xr (48+k % 10) ah;rw [Int.natCast_add] at hw
  have bt:(k / 10=0->[UInt8.ofNat (48+k % 10)]++y=cm n)/\(k / 10 > 0->cm (k / 10)++([UInt8.ofNat (48+k % 10)]++y)=cm n):=by
   by_cases kF:k < 10
   ·rw [Bn kF] at hq;refine ⟨fun _=>?_,fun h=>by omega⟩;rw [Nat.mod_eq_of_lt kF];exact hq
   ·rw [Hi kF,append_assoc] at hq;exact ⟨fun h=>by omega,fun _=>hq⟩
  have qN:([UInt8.ofNat (48+k % 10)]++y).length<=n+1:=by
   by_cases kF:k / 10=0
   ·rw [bt.1 kF];exact TG
   ·have:=congrArg List.length (bt.2 ah);rw [length_append] at this;omega
  refine ae ?_;refine bE ?_;refine ae ?_;exact ⟨(k / 10,[UInt8.ofNat (48+k % 10)]++y),⟨_,_,Wk.ax ao,rfl,rfl,by show k / 10<=n;omega,qN,bt.1,bt.2⟩,by show k / 10 < k;omega⟩
 ·have hd:decide ((0:Int) < (k:Int))=false:=by simpa using ar
  have hy:=hz ah;subst hy;refine ae ?_;refine aX ?_;exact aw
def marks (k n:Nat):List (List GV):=(List.range n).map fun i=>[GV.v (sv (wo (k+i)))]
theorem tz (k n:Nat):(marks k n).length=n:=by simp [marks]
theorem JP (k n:Nat):marks k (n+1)=marks k n++[[.v (sv (wo (k+n)))]]:=by simp [marks,List.range_succ]
theorem MJ (k:Nat) (rows:List (List GV)) {i:Nat} (h:i < rows.length):(marks k i++rows.drop i).set i [.v (sv (wo (k+i)))]=marks k (i+1)++rows.drop (i+1):=by
 rw [List.drop_eq_getElem_cons h,List.set_append_right _ _ (by rw [tz];exact Nat.le_refl _),tz,Nat.sub_self,List.set_cons_zero,JP,append_assoc];rfl
theorem wm (a:Option Addr) (c n k:Nat) (rows:List (List GV)) (hn:rows.length=n) (hb:k+n<=1099511627776) :
  GF Tryz.prog 57 [.v (.slice a n c),.v (ii (k:Nat))] [.vech 9 1 rows (.slice a n c)] (.v (ii ((k+n:Nat):Int))) [.vech 9 1 (marks k n) (.slice a n c)]:=by
 refine aj Tryz.func57 Tryz.ntmps57 ?_;refine GW.loop (fun i:Nat=>n - i) (fun i fr Γ=>∃ R,fr=[.v (.slice a n c),.v (ii ((k+i:Nat):Int)),.U,.U,.U,.v (ii (i:Nat)),.U,.U,.U,.U,.U,.U,.U,.U,.U,.U,.U,.U,.U,.U]/\Γ=[.vech 9 1 R (.slice a n c)]/\i<=n/\R=marks k i++rows.drop i) 0 ?_ ?_
 ·exact ⟨_,_,Wk.ax ao,_,rfl,rfl,Nat.zero_le _,rfl⟩
 rintro i _ _ ⟨R,rfl,rfl,hi,hR⟩
 have et:R.length=n:=by rw [hR,length_append,tz,List.length_drop];omega
 by_cases ar:i < n
 ·have hd:decide ((i:Int) < (n:Int))=true:=by simpa using ar
  have hc:=rA (k+i) ah;have b8:=MJ k rows (i:=i) ah;rw [<-hR] at b8;clear hR;generalize wo (k+i)=x at *;refine ae ?_;refine ab [] (hc) ?_;refine jj ?_;refine ae ?_;exact ⟨i+1,⟨_,_,Wk.ax ao,_,rfl,rfl,ar,b8⟩,by show n - (i+1) < n - i;omega⟩
 ·have hd:decide ((i:Int) < (n:Int))=false:=by simpa using ar
  have gI:i=n:=by omega
  subst gI;rw [List.drop_of_length_le ah,append_nil] at hR;subst hR;refine ae ?_;refine aX ?_;exact aw
end Go.Xg
namespace Go.Xg
open Go.RowKit Go.Xw Go.Proofs
open Go.Xp (Nd Ar cm oq)
open Go.Sp (Src)
open Go.Im (wo)
attribute [local irreducible] GW GL GO YG GC GA aW aZ
theorem R4 {p:Nat->Bool} {Γ:List Ob} (h:∀ x∈Γ,x.mq=true):C0 p Γ=true:=by
 induction Γ with
 | nil=>rfl
 | cons x r ih =>
  rw [C0,ih fun y hy=>h y (List.mem_cons_of_mem _ hy),Bool.and_true];have:=h x List.mem_cons_self
  cases x <;> first | rfl | cases this
section
variable {P:Program} {fn:Func} {m:Nat} {R:GV->List Ob->Prop} {fr:List GV} {Γ:List Ob} {e:Exit}
theorem Jf {t:Tmp} {x:Value} (hr:fn.results=#[.tmp t]) (he:e=.normal\/e=.ret) (hg:cq fr t=.v x) (hm:m=Γ.length) (ha:∀ x∈Γ,x.mq=true) (h:R (.v x) Γ):r7 P fn m R e fr Γ :=
 o7 (n:=Γ.length) hr he hg ah (by rw [take_length];exact R4 ha) rfl (by rw [take_length];exact h)
end
def iI (f:Nat->Nat):Nat->Nat
 | 0=>0
 | i+1=>iI f i+f i
theorem FX (f:Nat->Nat) {i n:Nat} (h:i<=n):iI f i<=iI f n:=by
 induction n with
 | zero =>
  have:i=0:=by omega
  subst this;exact Nat.le_refl _
 | succ n ih =>
  by_cases e:i=n+1
  ·subst e;exact Nat.le_refl _
  ·have:=ih ah;rw [iI];omega
theorem Ye {r:List GV} (h:r.length=2):∃ x y,r=[x,y]:=by
 match r,h with
 | [x,y],_=>exact ⟨x,y,rfl⟩
theorem oR {rows:List (List GV)} {i o:Nat} {g:GV} {r:List GV} (hr:rows[i]?=some r):(dr rows i o g)[i]?=some (bo r o g):=by rw [rL hr,if_pos rfl]
theorem Db {k:Nat} {rows:List (List GV)} {i o:Nat} {g:GV} {r:List GV} (hr:rows[i]?=some r) (h:∀ r∈rows,r.length=k):∀ r∈dr rows i o g,r.length=k:=fun q hq=>by
 obtain ⟨j,hj⟩:=List.getElem?_of_mem hq;rw [rL hr] at hj;split at hj
 ·cases hj;rw [zj];exact h r (mem_of_getElem? hr)
 ·exact h q (mem_of_getElem? hj)
theorem JN (a:Option Addr) (c n k:Nat) (rows:List (List GV)) (hn:rows.length=n) (hb:k+n<=1099511627776) :
  GC Tryz.prog 21 [.v (.slice a n c),.v (ii (k:Nat))] [.vech 3 1 rows (.slice a n c)] fun g Δ=>g=.v (ii ((k+n:Nat):Int))/\∃ R,R.length=n/\Δ=[.vech 3 1 R (.slice a n c)]:=by
 refine aj Tryz.func21 Tryz.ntmps21 ?_;refine GW.loop (fun i:Nat=>n - i) (fun i fr Γ=>∃ R,fr=[.v (.slice a n c),.v (ii ((k+i:Nat):Int)),.U,.U,.U,.v (ii (i:Nat)),.U,.U,.U,.U,.U,.U,.U,.U,.U,.U,.U,.U,.U]/\Γ=[.vech 3 1 R (.slice a n c)]/\i<=n/\R.length=n) 0 ?_ ?_
 ·exact ⟨_,_,Wk.ax ao,_,rfl,rfl,Nat.zero_le _,hn⟩
 rintro i _ _ ⟨R,rfl,rfl,hi,et⟩
 by_cases ar:i < n
 ·have hd:decide ((i:Int) < (n:Int))=true:=by simpa using ar
  refine ae ?_;refine jj ?_;refine ae ?_;exact ⟨i+1,⟨_,_,Wk.ax ao,_,rfl,rfl,ar,by simp [et]⟩,by show n - (i+1) < n - i;omega⟩
 ·have hd:decide ((i:Int) < (n:Int))=false:=by simpa using ar
  have gI:i=n:=by omega
  subst gI;refine ae ?_;refine aX ?_;refine ae ?_;refine bI ?_;exact ⟨rfl,R,et,rfl⟩
theorem Fa (a:Option Addr) (c n k:Nat) (rows:List (List GV)) (hn:rows.length=n) (h2:∀ r∈rows,r.length=2) (hb:k+2 * n<=1099511627776) :
  GC Tryz.prog 58 [.v (.slice a n c),.v (ii (k:Nat))] [.vech 88 2 rows (.slice a n c)] fun g Δ=>g=.v (ii ((k+2 * n:Nat):Int))/\∃ R,Δ=[.vech 88 2 R (.slice a n c)]:=by
 refine aj Tryz.func58 Tryz.ntmps58 ?_;refine GW.loop (fun i:Nat=>n - i) (fun i fr Γ=>∃ R,fr=[.v (.slice a n c),.v (ii ((k+2 * i:Nat):Int)),.U,.U,.U,.v (ii (i:Nat)),.U,.U,.U,.U,.U,.U,.U,.U,.U,.U,.U,.U,.U,.U,.U,.U,.U,.U,.U,.U,.U,.U]/\Γ=[.vech 88 2 R (.slice a n c)]/\i<=n/\R.length=n/\∀ r∈R,r.length=2) 0 ?_ ?_
 ·exact ⟨_,_,Wk.ax ao,_,rfl,rfl,Nat.zero_le _,hn,h2⟩
 rintro i _ _ ⟨R,rfl,rfl,hi,et,Qr⟩
 by_cases ar:i < n
 ·have hd:decide ((i:Int) < (n:Int))=true:=by simpa using ar
  have hc:=rA (k+2 * i) ah;have hr:R[i]?=some (R[i]'ah):=getElem?_eq_getElem _;obtain ⟨x0,y0,iF⟩:=Ye (Qr _ (mem_of_getElem? hr));rw [iF] at hr;clear iF;generalize wo (k+2 * i)=x at *;have fR:=oR (o:=0) (g:=.v (sv x)) hr;simp only [bo] at fR
  have eX:(dr R i (0+0) (.v (sv x))).length=n:=by rw [fp];exact et
  have Tv:=Db (o:=0) (g:=.v (sv x)) hr Qr;refine ae ?_;refine ab [] (hc) ?_;refine oc ?_;refine ae ?_;refine oc ?_;refine ae ?_;exact ⟨i+1,⟨_,_,Wk.ax ao,_,rfl,rfl,ar,by rw [fp];exact eX,Db fR Tv⟩,by show n - (i+1) < n - i;omega⟩
 ·have hd:decide ((i:Int) < (n:Int))=false:=by simpa using ar
  have gI:i=n:=by omega
  subst gI;refine ae ?_;refine aX ?_;refine ae ?_;refine bI ?_;exact ⟨rfl,R,rfl⟩
theorem Fb {R:List (List GV)} {hs:Nat->Value} {n i o:Nat} {g x y:GV} (hi:i < n) (ho:o=0\/o=2) (hr:R[i]?=some [x,.v (hs i),y]) (h:∀ j,j < n->∃ x y,R[j]?=some [x,.v (hs j),y]):∀ j,j < n->∃ x y,(dr R i o g)[j]?=some [x,.v (hs j),y]:=fun j hj=>by
 rw [rL hr]
 by_cases e:j=i
 ·subst e;rw [if_pos rfl]
  rcases ho with rfl | rfl
  ·exact ⟨_,_,rfl⟩
  ·exact ⟨_,_,rfl⟩
 ·rw [if_neg e];exact h j hj
theorem MH (a:Option Addr) (c n k:Nat) (hs:Nat->Value) (pl:Nat->Nat) (rows:List (List GV)) (L:List Ob) (hn:rows.length=n) (hh:∀ i,i < n->Hd (pl i) (hs i)) (bs:∀ i,i < n->∃ x y,rows[i]?=some [x,.v (hs i),y])
  (hL:L.length=n) (jH:∀ i,i < n->∃ ks,ks.length=pl i/\L[i]?=some (.vech 9 1 ks (hs i))) (hb:k+2 * n+iI pl n<=1099511627776) :
  GC Tryz.prog 59 [.v (.slice a n c),.v (ii (k:Nat))] (.vech 60 3 rows (.slice a n c)::L) fun g Δ=>g=.v (ii ((k+2 * n+iI pl n:Nat):Int))/\∃ R L',Δ=.vech 60 3 R (.slice a n c)::L'/\L'.length=n/\∀ x∈L',x.mq=true:=by
 have LO:∀ (M:List Ob),M.length=n->(∀ i,i < n->∃ ks,ks.length=pl i/\M[i]?=some (.vech 9 1 ks (hs i)))->∀ x∈M,x.mq=true:=fun M hM hk x hx=>by
  obtain ⟨i,hi⟩:=List.getElem?_of_mem hx;obtain ⟨ks,_,h2⟩:=hk i (by have:=(List.getElem?_eq_some_iff.1 hi).1;omega);rw [hi] at h2;cases h2;rfl
 have QB:(Ob.vech 60 3 rows (.slice a n c)::L).length=n+1:=by simp [hL]
 refine da Tryz.func59 Tryz.ntmps59 ?_;rw [QB];refine ae ?_;refine GW.loop (fun z:Nat × Nat=>n - z.1) (fun z fr Γ=>∃ R L,fr=[.v (.slice a n c),.v (ii ((z.2:Nat):Int)),.U,.U,.U,.v (ii (z.1:Nat)),.U,.U,.U,.U,.U,.U,.U,.U,.U,.U,.U,.U,.U,.U,.U,.U,.U,.U,.U,.U,.U,.U,.U,.U,.U,.U,.U,.U,.U]/\Γ=.vech 60 3 R (.slice a n c)::L/\z.1<=n/\z.2=k+2 * z.1+iI pl z.1/\R.length=n/\L.length=n/\(∀ i,i < n->∃ x y,R[i]?=some [x,.v (hs i),y])/\∀ i,i < n->∃ ks,ks.length=pl i/\L[i]?=some (.vech 9 1 ks (hs i))) (0,k) ?_ ?_
 ·exact ⟨_,_,Wk.ax ao,_,_,rfl,rfl,Nat.zero_le _,rfl,hn,hL,bs,jH⟩
 rintro ⟨i,kk⟩ _ _ ⟨R,L,rfl,rfl,hi,kU,et,qI,LR,Ad⟩;simp only at hi kU
 by_cases ar:i < n
 ·have hd:decide ((i:Int) < (n:Int))=true:=by simpa using ar
  have Uf:iI pl (i+1)=iI pl i+pl i:=rfl;have X5:=FX pl (i:=i+1) (n:=n) ar;have hc:=rA kk ah;obtain ⟨x0,y0,hr⟩:=LR i ar;obtain ⟨ks,CH,LP⟩:=Ad i ar;obtain ⟨a1,c1,Hm⟩:=hh i ar;have eV:=wm a1 c1 (pl i) (kk+1) ks CH ah;generalize wo kk=x at *;have Tu:=Fb (g:=.v (sv x)) ar (.inl rfl) hr LR;have fR:=oR (o:=0) (g:=.v (sv x)) hr;simp only [bo] at fR;rw [Hm] at fR LP
  have eX:(dr R i (0+0) (.v (sv x))).length=n:=by rw [fp];exact et
  refine ae ?_;refine gA [] (hc) ?_;simp only [append_nil];refine ae ?_;refine oc ?_;refine ae ?_;refine GL.zS [i+1] eV (ko) (by simp [gR,Nat.blt_eq];omega) ⟨LP,trivial⟩ ?_;rintro _ _ ⟨rfl,rfl⟩;refine ⟨by simp,?_⟩;simp only [dJ,oset,List.map_cons,map_nil,Ob.dk,append_nil];refine bZ ?_;refine ae ?_;refine oc ?_;refine ae ?_
  have c6:(dr R i 0 (.v (sv x)))[i]?=some [.v (sv x),.v (hs i),y0]:=by rw [Hm];exact fR
  refine ⟨(i+1,kk+1+pl i+1),⟨_,_,Wk.ax ao,_,_,rfl,rfl,ar,by simp only;omega,by rw [fp];exact eX,by rw [ba,List.length_set];exact qI,Fb ar (.inr rfl) c6 Tu,fun j hj=>?_⟩,by show n - (i+1) < n - i;omega⟩;rw [ba,getElem?_set]
  by_cases e:i=j
  ·subst e;rw [if_pos rfl,if_pos ah];exact ⟨marks (kk+1) (pl i),tz _ _,by rw [Hm]⟩
  ·rw [if_neg e];exact Ad j hj
 ·have hd:decide ((i:Int) < (n:Int))=false:=by simpa using ar
  have gI:i=n:=by omega
  subst gI;rw [<-kU];refine ae ?_;refine aX ?_;refine ae ?_
  (repeat (first | refine GW.ret ?_ | refine cr ?_ | refine cn ?_ | refine aK ?_ | refine bS ?_))
  refine Jf rfl (by first | exact .inr rfl | exact .inl rfl) rfl (by simp [qI]) ?_ ⟨rfl,R,L,rfl,qI,LO L qI Ad⟩;intro x hx
  rcases List.mem_cons.1 hx with rfl | hx
  ·rfl
  ·exact LO L qI Ad x hx
theorem tw {R:List (List GV)} {hs:Nat->Value} {n i o:Nat} {g x0 x1 x2 x3:GV} (hi:i < n) (ho:o < 4) (hr:R[i]?=some [x0,x1,x2,x3,.v (hs i)]) (h:∀ j,j < n->∃ x0 x1 x2 x3,R[j]?=some [x0,x1,x2,x3,.v (hs j)]):∀ j,j < n->∃ x0 x1 x2 x3,(dr R i o g)[j]?=some [x0,x1,x2,x3,.v (hs j)]:=fun j hj=>by
 rw [rL hr]
 by_cases e:j=i
 ·subst e;rw [if_pos rfl]
  obtain rfl | rfl | rfl | rfl:o=0\/o=1\/o=2\/o=3:=by omega
  ·exact ⟨_,_,_,_,rfl⟩
  ·exact ⟨_,_,_,_,rfl⟩
  ·exact ⟨_,_,_,_,rfl⟩
  ·exact ⟨_,_,_,_,rfl⟩
 ·rw [if_neg e];exact h j hj
theorem GJ (a:Option Addr) (c n k:Nat) (hs:Nat->Value) (pl:Nat->Nat) (rows:List (List GV)) (L:List Ob) (hn:rows.length=n) (hh:∀ i,i < n->Hd (pl i) (hs i)) (bs:∀ i,i < n->∃ x0 x1 x2 x3,rows[i]?=some [x0,x1,x2,x3,.v (hs i)])
  (hL:L.length=n) (jH:∀ i,i < n->∃ ks,ks.length=pl i/\L[i]?=some (.vech 3 1 ks (hs i))) (hb:k+4 * n+iI pl n<=1099511627776) :
  GC Tryz.prog 60 [.v (.slice a n c),.v (ii (k:Nat))] (.vech 91 5 rows (.slice a n c)::L) fun g Δ=>g=.v (ii ((k+4 * n+iI pl n:Nat):Int))/\∃ R L',Δ=.vech 91 5 R (.slice a n c)::L'/\L'.length=n/\∀ x∈L',x.mq=true:=by
 have LO:∀ (M:List Ob),M.length=n->(∀ i,i < n->∃ ks,ks.length=pl i/\M[i]?=some (.vech 3 1 ks (hs i)))->∀ x∈M,x.mq=true:=fun M hM hk x hx=>by
  obtain ⟨i,hi⟩:=List.getElem?_of_mem hx;obtain ⟨ks,_,h2⟩:=hk i (by have:=(List.getElem?_eq_some_iff.1 hi).1;omega);rw [hi] at h2;cases h2;rfl
 have QB:(Ob.vech 91 5 rows (.slice a n c)::L).length=n+1:=by simp [hL]
 refine da Tryz.func60 Tryz.ntmps60 ?_;rw [QB];refine ae ?_;refine GW.loop (fun z:Nat × Nat=>n - z.1) (fun z fr Γ=>∃ R L,fr=[.v (.slice a n c),.v (ii ((z.2:Nat):Int)),.U,.U,.U,.v (ii (z.1:Nat)),.U,.U,.U,.U,.U,.U,.U,.U,.U,.U,.U,.U,.U,.U,.U,.U,.U,.U,.U,.U,.U,.U,.U,.U,.U,.U,.U,.U,.U,.U,.U,.U,.U,.U,.U,.U,.U,.U,.U,.U,.U,.U,.U]/\Γ=.vech 91 5 R (.slice a n c)::L/\z.1<=n/\z.2=k+4 * z.1+iI pl z.1/\R.length=n/\L.length=n/\(∀ i,i < n->∃ x0 x1 x2 x3,R[i]?=some [x0,x1,x2,x3,.v (hs i)])/\∀ i,i < n->∃ ks,ks.length=pl i/\L[i]?=some (.vech 3 1 ks (hs i))) (0,k) ?_ ?_
 ·exact ⟨_,_,Wk.ax ao,_,_,rfl,rfl,Nat.zero_le _,rfl,hn,hL,bs,jH⟩
 rintro ⟨i,kk⟩ _ _ ⟨R,L,rfl,rfl,hi,kU,et,qI,LR,Ad⟩;simp only at hi kU
 by_cases ar:i < n
 ·have hd:decide ((i:Int) < (n:Int))=true:=by simpa using ar
  have Uf:iI pl (i+1)=iI pl i+pl i:=rfl;have X5:=FX pl (i:=i+1) (n:=n) ar;have hc:=rA (kk+1+1+1) ah;obtain ⟨x0,x1,x2,x3,hr⟩:=LR i ar;obtain ⟨ks,CH,LP⟩:=Ad i ar;obtain ⟨a1,c1,Hm⟩:=hh i ar;have eV:=JN a1 c1 (pl i) (kk+1+1+1+1) ks CH ah;generalize wo (kk+1+1+1)=x at *;have Tu:=tw (g:=.v (ii (kk:Nat))) ar (Nat.zero_lt_succ 3) hr LR;have fR:=oR (o:=0) (g:=.v (ii (kk:Nat))) hr;simp only [bo] at fR;have Qr:=tw (g:=.v (ii ((kk+1:Nat):Int))) ar (show 1 < 4 by omega) fR Tu;have c6:=oR (o:=1) (g:=.v (ii ((kk+1:Nat):Int))) fR;simp only [bo] at c6;have Tv:=tw (g:=.v (ii ((kk+1+1:Nat):Int))) ar (show 2 < 4 by omega) c6 Qr;have Md:=oR (o:=2) (g:=.v (ii ((kk+1+1:Nat):Int))) c6;simp only [bo] at Md;have Y8:=tw (g:=.v (sv x)) ar (show 3 < 4 by omega) Md Tv;have WU:=oR (o:=3) (g:=.v (sv x)) Md;simp only [bo] at WU;rw [Hm] at fR c6 Md WU LP
  have eX:(dr R i (0+0) (.v (ii (kk:Nat)))).length=n:=by rw [fp];exact et
  have ja:(dr (dr R i (0+0) (.v (ii (kk:Nat)))) i (0+1) (.v (ii ((kk+1:Nat):Int)))).length=n:=by rw [fp];exact eX
  have TL:(dr (dr (dr R i (0+0) (.v (ii (kk:Nat)))) i (0+1) (.v (ii ((kk+1:Nat):Int)))) i (0+2) (.v (ii ((kk+1+1:Nat):Int)))).length=n:=by rw [fp];exact ja
  have Zq:(dr (dr (dr (dr R i (0+0) (.v (ii (kk:Nat)))) i (0+1) (.v (ii ((kk+1:Nat):Int)))) i (0+2) (.v (ii ((kk+1+1:Nat):Int)))) i (0+3) (.v (sv x))).length=n:=by rw [fp];exact TL
  refine ae ?_;refine oc ?_;refine ae ?_;refine oc ?_;refine ae ?_;refine oc ?_;refine ae ?_;refine gA [] (hc) ?_;simp only [append_nil];refine ae ?_;refine oc ?_;refine ae ?_;refine GL.zS [i+1] eV (ko) (by simp [gR,Nat.blt_eq];omega) ⟨LP,trivial⟩ ?_;rintro _ _ ⟨rfl,R',Xz,rfl⟩;refine ⟨by simp,?_⟩;simp only [dJ,oset,List.map_cons,map_nil,Ob.dk,append_nil];refine bZ ?_;refine ae ?_;refine ⟨(i+1,kk+1+1+1+1+pl i),⟨_,_,Wk.ax ao,_,_,rfl,rfl,ar,by simp only;omega,Zq,by rw [ba,List.length_set];exact qI,Y8,fun j hj=>?_⟩,by show n - (i+1) < n - i;omega⟩;rw [ba,getElem?_set]
  by_cases e:i=j
  ·subst e;rw [if_pos rfl,if_pos ah];exact ⟨R',Xz,by rw [Hm]⟩
  ·rw [if_neg e];exact Ad j hj
 ·have hd:decide ((i:Int) < (n:Int))=false:=by simpa using ar
  have gI:i=n:=by omega
  subst gI;rw [<-kU];refine ae ?_;refine aX ?_;refine ae ?_
  (repeat (first | refine GW.ret ?_ | refine cr ?_ | refine cn ?_ | refine aK ?_ | refine bS ?_))
  refine Jf rfl (by first | exact .inr rfl | exact .inl rfl) rfl (by simp [qI]) ?_ ⟨rfl,R,L,rfl,qI,LO L qI Ad⟩;intro x hx
  rcases List.mem_cons.1 hx with rfl | hx
  ·rfl
  ·exact LO L qI Ad x hx
end Go.Xg
namespace Go.Xg
open Go.RowKit Go.Xw Go.Proofs
open Go.Xp (Nd Ar cm oq)
open Go.Sp (Src)
open Go.Im (wo)
theorem Iq {x:Ob} (h:x.mq=true) (f:Nat->Nat):x.dk f=x:=by cases x <;> first | rfl | cases h
theorem BN {X:List Ob} (h:∀ x∈X,x.mq=true) (f:Nat->Nat):X.map (Ob.dk f)=X :=
 (List.map_congr_left fun x hx=>Iq (h x hx) f).trans (List.map_id _)
theorem GQ (s n N:Nat) (h:s+n<=N):gR (List.range' s n) N=true:=by
 induction n generalizing s with
 | zero=>rfl
 | succ n ih =>
  rw [range'_succ,gR,ih (s+1) ah]
  have h1:Nat.blt s N=true:=by rw [Nat.blt_eq];omega
  have h2:(List.range' (s+1) n).contains s=false:=by
   cases hc:(List.range' (s+1) n).contains s with
   | false=>rfl
   | true =>
    have:=List.mem_range'_1.1 (List.contains_iff_mem.1 hc);omega
  rw [h1,h2];rfl
theorem AU (f:Nat->Nat):∀ (X A C:List Ob),(∀ x∈X,x.mq=true)->seen f (A++(X++C)) (List.range' A.length X.length) X
 | [],A,C,_=>trivial
 | x::X,A,C,h=>by
  rw [List.length_cons,range'_succ,seen];refine ⟨by rw [getElem?_append_right (Nat.le_refl _),Nat.sub_self,Iq (h x List.mem_cons_self)];rfl,?_⟩
  have:=AU f X (A++[x]) C fun y hy=>h y (List.mem_cons_of_mem _ hy)
  rw [length_append,List.length_singleton,append_assoc] at this;exact this
theorem xv:∀ (X A C Δ:List Ob),Δ.length=X.length->dJ (A++(X++C)) (List.range' A.length X.length) Δ=A++(Δ++C)
 | [],A,C,Δ,h=>by
  have:Δ=[]:=List.eq_nil_of_length_eq_zero h;subst this;show dJ (A++C) [] []=_;rw [dJ,append_nil];rfl
 | x::X,A,C,[],h=>by cases h
 | x::X,A,C,y::Δ,h=>by
  rw [List.length_cons,range'_succ,dJ]
  have e:oset (A++(x::X++C)) A.length y=(A++[y])++(X++C):=by
   rw [ba,List.set_append_right _ _ (Nat.le_refl _),Nat.sub_self];simp
  have:=xv X (A++[y]) C Δ (by simpa using h);rw [length_append,List.length_singleton] at this;rw [e,this];simp
section
variable {P:Program} {m:Nat} {Q:dH} {fr:List GV} {Γ:List Ob} {ops:Array Oper} {rest:List Oper} {d:Option Tmp} {op:Op} {ty:TypeId} {pos:String} {af:Array Edge}
theorem GL.oC {f:FuncId} [hf:aD P f] (A X C:List Ob) {args:List Operand} {lW:Array TypeId} {gs:List GV} {R:GV->List Ob->Prop} (hc:GC P f gs X R) (bu:Γ=A++(X++C)) (hX:∀ x∈X,x.mq=true) (Zk:∀ r,kY r gs=gs) (ha:kp (args.map (aS fr)) gs)
  (h:∀ g Δ,R g Δ->Δ.length=X.length/\(∀ x∈Δ,x.mq=true)/\(∀ r,dk r g=g)/\GL P m ops Q rest (bm fr d g) (A++(Δ++C))) :
  GL P m ops Q (⟨d,.call ⟨.value (.func f),args.toArray,lW⟩,ty,pos,af,none⟩::rest) fr Γ:=by
 subst bu
 refine GL.zS (List.range' A.length X.length) hc (by rw [Zk];exact ha) (GQ _ _ _ (by simp only [length_append];omega)) (AU _ X A C hX) fun g Δ hr=>?_
 obtain ⟨h1,h2,h3,h4⟩:=h g Δ hr;refine ⟨by rw [List.length_range',h1];exact Nat.le_refl _,?_⟩;rw [BN h2,xv _ _ _ _ h1,h3];exact h4
end
attribute [local irreducible] GW GL GO YG GC GA aW aZ
theorem VA (p:Src):iI (fun i=>match p.fns[i]? with | some f=>f.params.length | none=>0) p.fns.length=Go.Im.bb (fun f:Go.Sp.Fn=>f.params.length) p.fns:=by
 have key:∀ n,n<=p.fns.length->iI (fun i=>match p.fns[i]? with | some f=>f.params.length | none=>0) n=Go.Im.bb (fun f:Go.Sp.Fn=>f.params.length) (p.fns.take n):=by
  intro n
  induction n with
  | zero=>intro _;rfl
  | succ n ih =>
   intro h
   have hx:p.fns[n]?=some p.fns[n]:=by simp [show n < p.fns.length by omega]
   rw [iI,ih ah,Go.Im.kl hx,hx]
 rw [key _ (Nat.le_refl _),take_length]
theorem V5 (p:Src):iI (fun i=>match p.nodes[i]? with | some f=>f.kids.length | none=>0) p.nodes.length=Go.Im.bb (fun f:Nd=>f.kids.length) p.nodes:=by
 have key:∀ n,n<=p.nodes.length->iI (fun i=>match p.nodes[i]? with | some f=>f.kids.length | none=>0) n=Go.Im.bb (fun f:Nd=>f.kids.length) (p.nodes.take n):=by
  intro n
  induction n with
  | zero=>intro _;rfl
  | succ n ih =>
   intro h
   have hx:p.nodes[n]?=some p.nodes[n]:=by simp [show n < p.nodes.length by omega]
   rw [iI,ih ah,Go.Im.kl hx,hx]
 rw [key _ (Nat.le_refl _),take_length]
theorem q9 {α γ:Type} {f:α->Value->γ} {l:List α} {hs:List Value} {i:Nat} {x:α} {h:Value} (h1:l[i]?=some x) (h2:hs[i]?=some h):(List.zipWith f l hs)[i]?=some (f x h):=by rw [List.getElem?_zipWith,h1,h2]
theorem xo (p:Src) (hg ha hf hn:Value) (fs ns:List Value) (H:wB p hg ha hf hn fs ns) (k:Nat) (hw:Go.Im.dN p<=1048576) (hk:k<=1048576) :
  GC Tryz.prog 20 [.agg [.v hg,.v ha,.v hf,.v hn],.v (ii (k:Nat))] (gw p hg ha hf hn fs ns) fun g Δ=>∃ k':Nat,g=.v (ii (k':Nat))/\Δ.length=(gw p hg ha hf hn fs ns).length/\∀ x∈Δ,x.mq=true:=by
 obtain ⟨⟨b1,_⟩,⟨b2,_⟩,⟨b3,_⟩,⟨b4,_⟩⟩:=Go.Im.eJ p
 have fF:Go.Im.bb (fun f:Go.Sp.Fn=>f.params.length) p.fns<=1 * Go.Im.bb (fun f:Go.Sp.Fn=>f.name.length+Go.Im.wS f.params+1) p.fns:=Go.Im.mU fun f _=>by have:=Go.Im.F3 f.params;omega
 have iC:Go.Im.bb (fun f:Nd=>f.kids.length) p.nodes<=1 * Go.Im.bb (fun n:Nd=>n.s.length+n.kids.length+1) p.nodes:=Go.Im.mU fun f _=>by omega
 have pO:Go.Im.bb (fun f:Go.Sp.Fn=>f.name.length+Go.Im.wS f.params+1) p.fns<=1048576:=by unfold Go.Im.dN at hw;omega
 have wj:Go.Im.bb (fun n:Nd=>n.s.length+n.kids.length+1) p.nodes<=1048576:=by unfold Go.Im.dN at hw;omega
 have ZI:=VA p;have ZL:=V5 p;obtain ⟨⟨a0,c0,rfl⟩,⟨a1,c1,rfl⟩,⟨a2,c2,rfl⟩,⟨a3,c3,rfl⟩,jm,qN,Zg,Zy⟩:=H
 have Uh:∀ i,i < p.fns.length->∃ f h,p.fns[i]?=some f/\fs[i]?=some h:=fun i hi=>⟨p.fns[i],fs[i]'ah,by simp [hi],by simp [show i < fs.length by omega]⟩
 have Ui:∀ i,i < p.nodes.length->∃ f h,p.nodes[i]?=some f/\ns[i]?=some h:=fun i hi=>⟨p.nodes[i],ns[i]'ah,by simp [hi],by simp [show i < ns.length by omega]⟩
 have Ei:(List.zipWith qA p.fns fs).length=p.fns.length:=by rw [length_zipWith];omega
 have qI:(List.zipWith l9 p.nodes ns).length=p.nodes.length:=by rw [length_zipWith];omega
 have e0:=wm a0 c0 p.globals.length k (bW p.globals) (by simp [bW]) ah
 have e1:=fun k hk=>Fa a1 c1 p.arrays.length k (p.arrays.map aB) (by simp) (fun r hr=>by obtain ⟨x,_,rfl⟩:=List.mem_map.1 hr;rfl) hk
 have e2:=fun k hk=>MH a2 c2 p.fns.length k (fun i=>match fs[i]? with | some h=>h | none=>undef) (fun i=>match p.fns[i]? with | some f=>f.params.length | none=>0) (List.zipWith pA p.fns fs) (List.zipWith qA p.fns fs) (by rw [length_zipWith];omega)
  (fun i hi=>by obtain ⟨f,h,h1,h2⟩:=Uh i hi;rw [h1,h2];exact Zg i f h h1 h2) (fun i hi=>by obtain ⟨f,h,h1,h2⟩:=Uh i hi;rw [h2];exact ⟨_,_,q9 h1 h2⟩) Ei
  (fun i hi=>by obtain ⟨f,h,h1,h2⟩:=Uh i hi;rw [h1,h2];exact ⟨bW f.params,by simp [bW],q9 h1 h2⟩) hk
 have e3:=fun k hk=>GJ a3 c3 p.nodes.length k (fun i=>match ns[i]? with | some h=>h | none=>undef) (fun i=>match p.nodes[i]? with | some f=>f.kids.length | none=>0) (List.zipWith lf p.nodes ns) (List.zipWith l9 p.nodes ns) (by rw [length_zipWith];omega)
  (fun i hi=>by obtain ⟨f,h,h1,h2⟩:=Ui i hi;rw [h1,h2];exact Zy i f h h1 h2) (fun i hi=>by obtain ⟨f,h,h1,h2⟩:=Ui i hi;rw [h2];exact ⟨_,_,_,_,q9 h1 h2⟩) qI
  (fun i hi=>by obtain ⟨f,h,h1,h2⟩:=Ui i hi;rw [h1,h2];exact ⟨bp f.kids,by simp [bp],q9 h1 h2⟩) hk
 rw [ZI] at e2;rw [ZL] at e3;have e1:=e1 (k+p.globals.length) ah;have e2:=e2 (k+p.globals.length+2 * p.arrays.length) ah;have e3:=e3 (k+p.globals.length+2 * p.arrays.length+2 * p.fns.length+Go.Im.bb (fun f:Go.Sp.Fn=>f.params.length) p.fns) ah;have aR:=vO p (.slice a0 p.globals.length c0) (.slice a1 p.arrays.length c1) (.slice a2 p.fns.length c2) (.slice a3 p.nodes.length c3) fs ns;generalize hm:(gw p (.slice a0 p.globals.length c0) (.slice a1 p.arrays.length c1) (.slice a2 p.fns.length c2) (.slice a3 p.nodes.length c3) fs ns).length=M;unfold gw at hm aR |-;generalize hF:List.zipWith qA p.fns fs=LF at *;generalize hN:List.zipWith l9 p.nodes ns=LN at *;refine da Tryz.func20 Tryz.ntmps20 ?_;rw [hm];refine GW.seq ?_;refine GW.region ?_;refine GL.Xl rfl rfl ?_;refine bZ ?_;refine ae ?_;refine GL.oC [] [_] _ e0 rfl (by intro x hx;rw [List.mem_singleton.1 hx];rfl) (fun _=>rfl) (ko) ?_;rintro _ _ ⟨rfl,rfl⟩;refine ⟨rfl,by intro x hx;rw [List.mem_singleton.1 hx];rfl,fun _=>rfl,?_⟩;refine bZ ?_;refine ae ?_;refine GL.oC [_] [_] _ e1 rfl (by intro x hx;rw [List.mem_singleton.1 hx];rfl) (fun _=>rfl) (ko) ?_;rintro _ _ ⟨rfl,R1,rfl⟩;refine ⟨rfl,by intro x hx;rw [List.mem_singleton.1 hx];rfl,fun _=>rfl,?_⟩;refine bZ ?_;refine ae ?_;refine GL.oC [_,_] (_::LF) (_::LN) e2 rfl (by intro x hx;exact aR x (by simp only [List.mem_cons,List.mem_append] at hx |-;rcases hx with h | h;(· exact .inr (.inr (.inl h)));exact .inr (.inr (.inr (.inl h))))) (fun _=>rfl) (ko) ?_;rintro _ _ ⟨rfl,R2,L2,rfl,WD,Qp⟩;refine ⟨by simp [WD,Ei],by intro x hx;rcases List.mem_cons.1 hx with rfl | hx;(· rfl);exact Qp x hx,fun _=>rfl,?_⟩;refine bZ ?_;refine ae ?_;refine GL.oC (_::_::_::L2) (_::LN) [] e3 (by rw [append_nil];rfl) (by intro x hx;exact aR x (by simp only [List.mem_cons,List.mem_append] at hx |-;exact .inr (.inr (.inr (.inr hx))))) (fun _=>rfl) (ko) ?_;rintro _ _ ⟨rfl,R3,L3,rfl,WE,Qq⟩;refine ⟨by simp [WE,qI],by intro x hx;rcases List.mem_cons.1 hx with rfl | hx;(· rfl);exact Qq x hx,fun _=>rfl,?_⟩;rw [append_nil]
 refine bZ ?_;refine ae ?_
 (repeat (first | refine GW.ret ?_ | refine cr ?_ | refine cn ?_ | refine aK ?_ | refine bS ?_))
 have hH:∀ x∈(Ob.vech 9 1 (marks k p.globals.length) (.slice a0 p.globals.length c0)::Ob.vech 88 2 R1 (.slice a1 p.arrays.length c1)::Ob.vech 60 3 R2 (.slice a2 p.fns.length c2)::(L2++Ob.vech 91 5 R3 (.slice a3 p.nodes.length c3)::L3)),x.mq=true:=by
  intro x hx
  rcases List.mem_cons.1 hx with rfl | hx
  ·rfl
  rcases List.mem_cons.1 hx with rfl | hx
  ·rfl
  rcases List.mem_cons.1 hx with rfl | hx
  ·rfl
  rcases List.mem_append.1 hx with hx | hx
  ·exact Qp x hx
  rcases List.mem_cons.1 hx with rfl | hx
  ·rfl
  ·exact Qq x hx
 have hM:M=(Ob.vech 9 1 (marks k p.globals.length) (.slice a0 p.globals.length c0)::Ob.vech 88 2 R1 (.slice a1 p.arrays.length c1)::Ob.vech 60 3 R2 (.slice a2 p.fns.length c2)::(L2++Ob.vech 91 5 R3 (.slice a3 p.nodes.length c3)::L3)).length:=by
  rw [<-hm];simp [WD,WE,Ei,qI]
 exact Jf rfl (by first | exact .inr rfl | exact .inl rfl) rfl hM hH ⟨_,rfl,hM.symm,hH⟩
end Go.Xg
namespace Go.Xg
open Go.RowKit Go.Xw Go.Proofs
open Go.Xp (Nd Ar)
open Go.Sp (Src)
open Go.Im
theorem ub {A X C:List Ob} {j:Nat} (h:j < X.length):(A++(X++C))[A.length+j]?=X[j]?:=by
 rw [getElem?_append_right ah,Nat.add_sub_cancel_left,List.getElem?_append_left h]
def Hz (p:Src) (i:Nat):Go.Sp.Fn:=(p.fns[i]?).getD ⟨[],[],0⟩
def Ie (p:Src) (i:Nat):Nd:=(p.nodes[i]?).getD ⟨0,0,0,[],[]⟩
def yV (l:List Value) (i:Nat):Value:=(l[i]?).getD undef
theorem sG {B:Bs} {K:Fz} {β:Bt} {w:World} {A C:List Ob} {p:Src} {hg ha hf hn:Value} {fs ns:List Value} (H:wB p hg ha hf hn fs ns) (hI:Inv B K β (A++(gw p hg ha hf hn fs ns++C)) w) :
  ∃ K1,cj K K1/\iO K1 w/\fH K1 (fun _=>.no) w/\aY K1 (fun _=>.no) [hg,ha,hf,hn] (av p):=by
 obtain ⟨_,_,_,_,jm,qN,_,_⟩:=H
 have Ei:(List.zipWith qA p.fns fs).length=p.fns.length:=by rw [length_zipWith];omega
 have qI:(List.zipWith l9 p.nodes ns).length=p.nodes.length:=by rw [length_zipWith];omega
 have hlen:(gw p hg ha hf hn fs ns).length=4+p.fns.length+p.nodes.length:=by simp [gw,Ei,qI];omega
 have hF:∀ i,i < p.fns.length->p.fns[i]?=some (Hz p i)/\fs[i]?=some (yV fs i):=fun i hi=>by
  unfold Hz yV;rw [getElem?_eq_getElem hi,getElem?_eq_getElem (show i < fs.length by omega)];exact ⟨rfl,rfl⟩
 have hN:∀ i,i < p.nodes.length->p.nodes[i]?=some (Ie p i)/\ns[i]?=some (yV ns i):=fun i hi=>by
  unfold Ie yV;rw [getElem?_eq_getElem hi,getElem?_eq_getElem (show i < ns.length by omega)];exact ⟨rfl,rfl⟩
 have g0:(A++(gw p hg ha hf hn fs ns++C))[A.length+0]?=some (.vech 9 1 (bW p.globals) hg):=by rw [ub ah];rfl
 have g1:(A++(gw p hg ha hf hn fs ns++C))[A.length+1]?=some (.vech 88 2 (p.arrays.map aB) ha):=by rw [ub ah];rfl
 have g2:(A++(gw p hg ha hf hn fs ns++C))[A.length+2]?=some (.vech 60 3 (List.zipWith pA p.fns fs) hf):=by rw [ub ah];rfl
 have gF:∀ i,i < p.fns.length->(A++(gw p hg ha hf hn fs ns++C))[A.length+(3+i)]?=some (.vech 9 1 (bW (Hz p i).params) (yV fs i)):=fun i hi=>by
  rw [ub ah];unfold gw;rw [show 3+i=i+1+1+1 by omega,getElem?_cons_succ,getElem?_cons_succ,getElem?_cons_succ,List.getElem?_append_left ah,q9 (hF i hi).1 (hF i hi).2];rfl
 have g3:(A++(gw p hg ha hf hn fs ns++C))[A.length+(3+p.fns.length)]?=some (.vech 91 5 (List.zipWith lf p.nodes ns) hn):=by
  rw [ub ah];unfold gw;rw [show 3+p.fns.length=p.fns.length+1+1+1 by omega,getElem?_cons_succ,getElem?_cons_succ,getElem?_cons_succ,getElem?_append_right ah,Ei,Nat.sub_self];rfl
 have gN:∀ i,i < p.nodes.length->(A++(gw p hg ha hf hn fs ns++C))[A.length+(4+p.fns.length+i)]?=some (.vech 3 1 (bp (Ie p i).kids) (yV ns i)):=fun i hi=>by
  rw [ub ah];unfold gw;rw [show 4+p.fns.length+i=(p.fns.length+(i+1))+1+1+1 by omega,getElem?_cons_succ,getElem?_cons_succ,getElem?_cons_succ,getElem?_append_right ah,Ei,Nat.add_sub_cancel_left,getElem?_cons_succ,q9 (hN i hi).1 (hN i hi).2];rfl
 generalize A.length=s at *;generalize (A++(gw p hg ha hf hn fs ns++C))=Γ at *;obtain ⟨K1,Γ1,R1,k1,i1,f1,l1,r1,o1⟩:=hI.FE (jf:=s+2) (N:=p.fns.length) (o:=1) (E:=9) (k':=1) (raw:=fun i=>pA (Hz p i) (yV fs i)) (fin:=fun i=>au (Hz p i)) (ks:=fun i=>bW (Hz p i).params) (hd:=fun i=>yV fs i) (jp:=fun i=>s+(3+i)) g2
  ⟨by rw [length_zipWith];omega,fun i hi=>q9 (hF i hi).1 (hF i hi).2⟩ (fun i hi=>⟨rfl,rfl⟩) gF (fun i hi=>by omega) (fun i j _ _ h=>by omega)
 obtain ⟨K2,Dk,R2,k2,i2,f2,l2,r2,o2⟩:=i1.FE (jf:=s+(3+p.fns.length)) (N:=p.nodes.length) (o:=4) (E:=3) (k':=1) (raw:=fun i=>lf (Ie p i) (yV ns i)) (fin:=fun i=>ay (Ie p i)) (ks:=fun i=>bp (Ie p i).kids) (hd:=fun i=>yV ns i) (jp:=fun i=>s+(4+p.fns.length+i))
  (by rw [o1 _ ah fun i hi=>by omega];exact g3) ⟨by rw [length_zipWith];omega,fun i hi=>q9 (hN i hi).1 (hN i hi).2⟩ (fun i hi=>⟨rfl,rfl⟩) (fun i hi=>by rw [o1 _ ah fun j hj=>by omega];exact gN i hi) (fun i hi=>by omega) (fun i j _ _ h=>by omega)
 have e1:R1=p.fns.map au:=by
  apply List.ext_getElem?;intro i
  by_cases hi:i < p.fns.length
  ·rw [r1 i hi,getElem?_map,(hF i hi).1];rfl
  ·rw [getElem?_eq_none ah,getElem?_eq_none (by rw [List.length_map];omega)]
 have e2:R2=p.nodes.map ay:=by
  apply List.ext_getElem?;intro i
  by_cases hi:i < p.nodes.length
  ·rw [r2 i hi,getElem?_map,(hN i hi).1];rfl
  ·rw [getElem?_eq_none ah,getElem?_eq_none (by rw [List.length_map];omega)]
 rw [e1] at f1;rw [e2] at f2
 have YH:Dk[s+2]?=some (.vech 60 3 (p.fns.map au) hf):=by rw [o2 _ ah fun i hi=>by omega];exact f1
 have YJ:Dk[s+0]?=some (.vech 9 1 (bW p.globals) hg):=by rw [o2 _ ah fun i hi=>by omega,o1 _ ah fun i hi=>by omega];exact g0
 have YK:Dk[s+1]?=some (.vech 88 2 (p.arrays.map aB) ha):=by rw [o2 _ ah fun i hi=>by omega,o1 _ ah fun i hi=>by omega];exact g1
 obtain ⟨K3,k3,q0,i3⟩:=i2.qz YJ;obtain ⟨K4,k4,q1,i4⟩:=i3.qz (i:=s+1) (by rw [ba,getElem?_set,if_neg ah];exact YK);obtain ⟨K5,k5,q2,i5⟩:=i4.qz (i:=s+2) (by rw [ba,ba,getElem?_set,if_neg ah,getElem?_set,if_neg ah];exact YH);obtain ⟨K6,k6,q3,i6⟩:=i5.qz (i:=s+(3+p.fns.length)) (by rw [ba,ba,ba,getElem?_set,if_neg ah,getElem?_set,if_neg ah,getElem?_set,if_neg ah];exact f2);have b:cX β β:=cX.refl β;refine ⟨K6,k1.trans (k2.trans (k3.trans (k4.trans (k5.trans k6)))),i6.fz,i6.Yl,?_⟩;exact .cons ((q0.mono (k4.trans (k5.trans k6)) b).pc rfl) (.cons ((q1.mono (k5.trans k6) b).pc rfl) (.cons ((q2.mono k6 b).pc rfl) (.cons (q3.pc rfl) .nil)))
theorem y8 {K:Fz} {β:Bt} {v a b c d:Value} (h:Rel K β v (.agg [.v a,.v b,.v c,.v d])):v=.agg #[a,b,c,d]:=by
 cases h with
 | agg vs cs hl h =>
  match vs,hl with
  | [x,y,z,u],_ =>
   rw [Rel.eo (h 0 x _ rfl rfl),Rel.eo (h 1 y _ rfl rfl),Rel.eo (h 2 z _ rfl rfl),Rel.eo (h 3 u _ rfl rfl)]
theorem y9 {K:Fz} {a b c d:Value} {gs:List GV} (h:aY K (fun _=>.no) [a,b,c,d] gs):Rel K (fun _=>.no) (.agg #[a,b,c,d]) (.agg gs):=.agg [a,b,c,d] gs h.1 h.2
section
variable {B:Bs} {K:Fz} {β:Bt} {w:World} {l:List Value} {fr:List GV} {A C X:List Ob} {p:Src} {hg ha hf hn:Value} {fs ns:List Value}
theorem Gn {x:Operand} (H:wB p hg ha hf hn fs ns) (hI:Inv B K β (A++(gw p hg ha hf hn fs ns++C)) w) (hF:FR K β fr l) (hx:aS fr x=.agg [.v hg,.v ha,.v hf,.v hn]) :
  ∃ K1,iO K1 w/\fH K1 (fun _=>.no) w/\aY K1 (fun _=>.no) ([x].map (ev l)) [.agg (av p)]:=by
 obtain ⟨K1,_,h1,h2,h3⟩:=sG H hI;have hr:=hF.ev x;rw [hx] at hr;have e:=y8 hr;refine ⟨K1,h1,h2,?_⟩;show aY K1 _ [ev l x] _;rw [e];exact .cons (y9 h3) .nil
theorem DT {x y:Operand} {z:Value} (H:wB p hg ha hf hn fs ns) (hI:Inv B K β (A++(gw p hg ha hf hn fs ns++C)) w) (hF:FR K β fr l) (hx:aS fr x=.agg [.v hg,.v ha,.v hf,.v hn]) (hy:aS fr y=.v z) :
  ∃ K1,iO K1 w/\fH K1 (fun _=>.no) w/\aY K1 (fun _=>.no) ([x,y].map (ev l)) [.agg (av p),.v z]:=by
 obtain ⟨K1,_,h1,h2,h3⟩:=sG H hI;have hr:=hF.ev x;rw [hx] at hr;have e:=y8 hr;refine ⟨K1,h1,h2,?_⟩;show aY K1 _ [ev l x,ev l y] _;rw [e,hF.gD hy];exact .cons (y9 h3) (.cons (.v _) .nil)
theorem Ly {K K1:Fz} {v:Value} {gs:List GV} (hk:cj K K1) (hp:∀ g∈gs,g.pc=true) (h:Rel K β v (.agg gs)):Rel K1 (fun _=>.no) v (.agg gs):=by
 cases h with
 | agg vs cs hl h =>
  exact .agg vs gs hl fun i v g h1 h2=>((h i v g h1 h2).mono hk (cX.refl β)).pc (hp g (mem_of_getElem? h2))
theorem Le (p:Src):∀ g∈av p,g.pc=true:=fun g hg=>by
 simp only [av,List.mem_cons,List.not_mem_nil,or_false] at hg
 rcases hg with rfl | rfl | rfl | rfl <;> rfl
theorem yo {x y:Operand} (H:wB p hg ha hf hn fs ns) (hI:Inv B K β (A++(gw p hg ha hf hn fs ns++C)) w) (hF:FR K β fr l) (hx:aS fr x=.agg [.v hg,.v ha,.v hf,.v hn]) (hy:aS fr y=.agg (av p)) :
  ∃ K1,iO K1 w/\fH K1 (fun _=>.no) w/\aY K1 (fun _=>.no) ([x,y].map (ev l)) [.agg (av p),.agg (av p)]:=by
 obtain ⟨K1,hk,h1,h2,h3⟩:=sG H hI;have hr:=hF.ev x;rw [hx] at hr;have e:=y8 hr;have c6:=hF.ev y;rw [hy] at c6;refine ⟨K1,h1,h2,?_⟩;show aY K1 _ [ev l x,ev l y] _;rw [e];exact .cons (y9 h3) (.cons (Ly hk (Le p) c6) .nil)
end
end Go.Xg
set_option maxHeartbeats 4000000
namespace Go.Xg
open Go.RowKit Go.Xw Go.Proofs
open Go.Xp (Nd Ar)
open Go.Sp (Src)
open Go.Im
attribute [local irreducible] GW GL GO YG GC GA aW aZ
def gW (k n:Nat):List (List GV):=(List.range n).map fun i=>[GV.v (ii ((k+i:Nat):Int))]
theorem rB (k n:Nat):(gW k n).length=n:=by simp [gW]
theorem GK (k n:Nat):gW k (n+1)=gW k n++[[.v (ii ((k+n:Nat):Int))]]:=by simp [gW,List.range_succ]
theorem MI {k n i:Nat} (h:i < n):(gW k n)[i]?=some [.v (ii ((k+i:Nat):Int))]:=by simp [gW,h]
theorem JO (k:Nat) (rows:List (List GV)) {i:Nat} (h:i < rows.length):(gW k i++rows.drop i).set i [.v (ii ((k+i:Nat):Int))]=gW k (i+1)++rows.drop (i+1):=by
 rw [List.drop_eq_getElem_cons h,List.set_append_right _ _ (by rw [rB];exact Nat.le_refl _),rB,Nat.sub_self,List.set_cons_zero,GK,append_assoc];rfl
theorem AF (a:Option Addr) (c n k:Nat) (rows:List (List GV)) (hn:rows.length=n) (hb:k+n<=1099511627776) :
  GF Tryz.prog 21 [.v (.slice a n c),.v (ii (k:Nat))] [.vech 3 1 rows (.slice a n c)] (.v (ii ((k+n:Nat):Int))) [.vech 3 1 (gW k n) (.slice a n c)]:=by
 refine aj Tryz.func21 Tryz.ntmps21 ?_;refine GW.loop (fun i:Nat=>n - i) (fun i fr Γ=>∃ R,fr=[.v (.slice a n c),.v (ii ((k+i:Nat):Int)),.U,.U,.U,.v (ii (i:Nat)),.U,.U,.U,.U,.U,.U,.U,.U,.U,.U,.U,.U,.U]/\Γ=[.vech 3 1 R (.slice a n c)]/\i<=n/\R=gW k i++rows.drop i) 0 ?_ ?_
 ·exact ⟨_,_,Wk.ax ao,_,rfl,rfl,Nat.zero_le _,rfl⟩
 rintro i _ _ ⟨R,rfl,rfl,hi,hR⟩
 have et:R.length=n:=by rw [hR,length_append,rB,List.length_drop];omega
 by_cases ar:i < n
 ·have hd:decide ((i:Int) < (n:Int))=true:=by simpa using ar
  have b8:=JO k rows (i:=i) ah;rw [<-hR] at b8;clear hR;refine ae ?_;refine jj ?_;refine ae ?_;exact ⟨i+1,⟨_,_,Wk.ax ao,_,rfl,rfl,ar,b8⟩,by show n - (i+1) < n - i;omega⟩
 ·have hd:decide ((i:Int) < (n:Int))=false:=by simpa using ar
  have gI:i=n:=by omega
  subst gI;rw [List.drop_of_length_le ah,append_nil] at hR;subst hR;refine ae ?_;refine aX ?_;exact aw
theorem Af (k n:Nat) (hb:k+n<=1099511627776):GF Tryz.prog 22 [.sl 1 (gW k n),.v (ii (k:Nat))] [] (.v (ii ((k+n:Nat):Int))) []:=by
 have hm:=rB k n;refine aj Tryz.func22 Tryz.ntmps22 ?_;refine GW.loop (fun i:Nat=>n - i) (fun i fr Γ=>fr=[.sl 1 (gW k n),.v (ii ((k+i:Nat):Int)),.U,.U,.U,.v (ii (i:Nat)),.U,.U,.U,.U,.U,.U,.U,.U,.U,.U,.U,.U,.U,.U,.U]/\Γ=[]/\i<=n) 0 ?_ ?_
 ·exact ⟨_,_,Wk.ax ao,rfl,rfl,Nat.zero_le _⟩
 rintro i _ _ ⟨rfl,rfl,hi⟩
 by_cases ar:i < n
 ·have hd:decide ((i:Int) < ((gW k n).length:Int))=true:=by rw [hm];simpa using ar
  have hr:=MI (k:=k) ar
  have hs:(((k+i:Nat):Int) != ((k+i:Nat):Int))=false:=by simp
  refine ae ?_;exact ⟨i+1,⟨_,_,Wk.ax ao,rfl,rfl,ar⟩,by show n - (i+1) < n - i;omega⟩
 ·have hd:decide ((i:Int) < ((gW k n).length:Int))=false:=by rw [hm];simpa using ar
  have gI:i=n:=by omega
  subst gI;refine ae ?_;refine aX ?_;exact aw
section
variable {B:Bs} {K:Fz} {β:Bt} {w:World} {fr:List GV} {l:List Value} {A X C:List Ob}
theorem nR {x y:Operand} {r:List Int} {h:Value} (hI:Inv B K β (A++(X++[.vech 3 1 (bp r) h])) w) (hF:FR K β fr l) (hx:aS fr x=.v h) (hy:aS fr y=ints r) :
  ∃ K1,iO K1 w/\fH K1 (fun _=>.no) w/\aY K1 (fun _=>.no) ([x,y].map (ev l)) [ints r,ints r]:=by
 obtain ⟨K1,hk,h1,h2,h3⟩:=hI.view (i:=A.length+X.length) (E:=3) (k:=1) (rows:=bp r) (x:=h) (by rw [<-append_assoc,getElem?_append_right (by rw [length_append];exact Nat.le_refl _),length_append,Nat.sub_self];rfl);have hr:=hF.ev y;rw [hy] at hr;refine ⟨K1,h1,h2,?_⟩;show aY K1 _ [ev l x,ev l y] _;rw [hF.gD hx];exact .cons h3 (.cons ((hr.mono hk (cX.refl β)).pc rfl) .nil)
theorem wE {x y:Operand} {r:List Int} {h:Value} {o:Ob} (hI:Inv B K β (A++(X++[o,.vech 3 1 (bp r) h])) w) (hF:FR K β fr l) (hx:aS fr x=.v h) (hy:aS fr y=ints r) :
  ∃ K1,iO K1 w/\fH K1 (fun _=>.no) w/\aY K1 (fun _=>.no) ([x,y].map (ev l)) [ints r,ints r]:=by
 refine nR (B:=B) (A:=A) (X:=X++[o]) (h:=h) ?_ hF hx hy;rw [append_assoc];exact hI
theorem oe {x y:Operand} {n:Nat} {h z:Value} (hI:Inv B K β (A++(X++(.vech 3 1 (gW 1 n) h::C))) w) (hF:FR K β fr l) (hx:aS fr x=.v h) (hy:aS fr y=.v z) :
  ∃ K1,iO K1 w/\fH K1 (fun _=>.no) w/\aY K1 (fun _=>.no) ([x,y].map (ev l)) [.sl 1 (gW 1 n),.v z]:=by
 obtain ⟨K1,hk,h1,h2,h3⟩:=hI.view (i:=A.length+X.length) (E:=3) (k:=1) (rows:=gW 1 n) (x:=h) (by rw [<-append_assoc,getElem?_append_right (by rw [length_append];exact Nat.le_refl _),length_append,Nat.sub_self];rfl);refine ⟨K1,h1,h2,?_⟩;show aY K1 _ [ev l x,ev l y] _;rw [hF.gD hx,hF.gD hy];exact .cons h3 (.cons (.v _) .nil)
end
theorem ET (l:List Int):(bp l).length=l.length:=by simp [bp]
end Go.Xg
