/- Part 10 of proofs that are told in their last texts. -/
import Derived.Test.YtcoplmnahnipiaaGreatDoorO2
import Derived.Test.YtcoplmnahnipiaaGreatDoorO5
import Derived.Test.YtcoplmnahnipiaaGreatDoorO8
import Derived.Test.YtcoplmnahnipiaaGreatDoorO9
import Derived.Test.YtcoplmnahnipiaaGreatDoorO6
open List (append_assoc append_nil getElem?_append_right getElem?_cons_succ getElem?_eq_none getElem?_map getElem?_set length_append length_zipWith mem_of_getElem? take_length)
set_option linter.unusedVariables false
set_option linter.unusedSimpArgs false
set_option maxRecDepth 100000
set_option maxHeartbeats 2000000
namespace Go.Xg
open Go.RowKit Go.Xw Go.Proofs
open Go.Xp (Nd Ar)
open Go.Sp (Src)
open Go.Im (wS dB bf nK rS gq dJ nJ kQ nI)
attribute [local irreducible] GW GL GO YG GC GA aY ba
theorem Qj (l:List Int) (left:Nat) (hl:l.length<=9223372036854775807) (vY:left<=1048576):GF Tryz.prog 128 [ints l,.v (ii (left:Nat))] [] (.v (ii (rS l.length left))) []:=by
 have hm:(l.map fun i=>[GV.v (ii i)]).length=l.length:=by simp
 by_cases h0:left < l.length
 ·have hd:decide ((left:Int) - ((l.map fun i=>[GV.v (ii i)]).length:Int) < 0)=true:=by rw [hm];simpa using by omega
  rw [dJ h0];refine aj Tryz.func128 Tryz.ntmps128 ?_;exact al
 ·have hd:decide ((left:Int) - ((l.map fun i=>[GV.v (ii i)]).length:Int) < 0)=false:=by rw [hm];simpa using by omega
  rw [gq ah,show ((left - l.length:Nat):Int)=(left:Int) - ((l.map fun i=>[GV.v (ii i)]).length:Int) by rw [hm];omega];refine aj Tryz.func128 Tryz.ntmps128 ?_;exact al
theorem zu (l:List ai) (left:Nat) (hl:l.length<=9223372036854775807) (he:∀ x∈l,x.length<=9223372036854775807) (vY:left<=1048576):GF Tryz.prog 35 [strs l,.v (ii (left:Nat))] [] (.v (ii (rS (wS l) left))) []:=by
 have hm:(l.map (fun s=>[GV.v (sv s)])).length=l.length:=by simp
 have ht:wS l=l.length+bf (fun x:ai=>x.length) l:=nJ _ l
 by_cases h0:left < l.length
 ·have hd:decide ((left:Int) - ((l.map (fun s=>[GV.v (sv s)])).length:Int) < 0)=true:=by rw [hm];simpa using by omega
  rw [dJ ah];refine aj Tryz.func35 Tryz.ntmps35 ?_;exact al
 have hd:decide ((left:Int) - ((l.map (fun s=>[GV.v (sv s)])).length:Int) < 0)=false:=by rw [hm];simpa using by omega
 rw [ht];refine aj Tryz.func35 Tryz.ntmps35 ?_;refine GW.loop (fun k:Nat × Int=>l.length - k.1) (fun k fr Γ=>fr=[strs l,.v (ii k.2),.U,.U,.U,.v (ii (k.1:Nat)),.U,.U,.U,.U,.U,.U,.U,.U,.U,.U,.U,.U,.U,.U,.U,.U,.U,.U,.U,.U,.U,.U]/\Γ=[]/\k.1<=l.length/\k.2=(left:Int) - ((l.length+bf (fun x:ai=>x.length) (l.take k.1):Nat):Int)/\0<=k.2) (0,(left:Int) - ((l.map (fun s=>[GV.v (sv s)])).length:Int)) ?_ ?_
 ·exact ⟨_,_,Wk.aD ar,rfl,rfl,Nat.zero_le _,by rw [hm];simp [bf],by rw [hm];simp only;omega⟩
 rintro ⟨k,z⟩ _ _ ⟨rfl,rfl,hk,hz,ES⟩;simp only at hk hz ES
 have U5:z<=1048576:=by omega
 by_cases ao:k < l.length
 ·have hx:l[k]?=some l[k]:=by simp [ao]
  have hr:(l.map (fun s=>[GV.v (sv s)]))[k]?=some ([GV.v (sv l[k])]):=by rw [getElem?_map,hx];rfl
  have dr:decide ((k:Int) < ((l.map (fun s=>[GV.v (sv s)])).length:Int))=true:=by rw [hm];simpa using ao
  have ki:=kQ (w:=fun x:ai=>x.length) hx;have hle:=nK (fun x:ai=>x.length) l (k+1);have hex:=he _ (mem_of_getElem? hx);generalize l[k]=x at *
  by_cases h1:z < ((x.length:Nat):Int)
  ·have AV:decide (z - ((x.length:Nat):Int) < 0)=true:=by simpa using by omega
   rw [dJ ah];exact aw
  ·have AV:decide (z - ((x.length:Nat):Int) < 0)=false:=by simpa using by omega
   refine ae ?_;exact ⟨(k+1,z - ((x.length:Nat):Int)),⟨_,_,Wk.aD ar,rfl,rfl,ao,by simp only;omega,by simp only;omega⟩,by simp only;omega⟩
 ·have dr:decide ((k:Int) < ((l.map (fun s=>[GV.v (sv s)])).length:Int))=false:=by rw [hm];simpa using ao
  have lA:k=l.length:=by omega
  subst lA;rw [take_length] at hz;rw [gq ah,show ((left - (l.length+bf (fun x:ai=>x.length) l):Nat):Int)=z by omega];refine bH ?_;exact aw
theorem N0 (x:Ar) (left:Nat) (hs:x.name.length<=9223372036854775807) (vY:left<=1048576):GF Tryz.prog 94 [.agg (aH x),.v (ii (left:Nat))] [] (.v (ii (rS (x.name.length) left))) []:=by
 by_cases h0:left < x.name.length
 ·have hd:decide ((left:Int) - ((x.name.length:Nat):Int) < 0)=true:=by simpa using by omega
  rw [dJ ah];refine aj Tryz.func94 Tryz.ntmps94 ?_;exact al
 have hd:decide ((left:Int) - ((x.name.length:Nat):Int) < 0)=false:=by simpa using by omega
 rw [gq ah,show ((left - (x.name.length):Nat):Int)=(left:Int) - ((x.name.length:Nat):Int) by omega];refine aj Tryz.func94 Tryz.ntmps94 ?_;exact al
theorem KP (l:List Ar) (left:Nat) (hl:l.length<=9223372036854775807) (he:∀ x∈l,x.name.length<=9223372036854775807) (vY:left<=1048576):GF Tryz.prog 36 [.sl 2 (l.map aH),.v (ii (left:Nat))] [] (.v (ii (rS (bf (fun a:Ar=>a.name.length+1) l) left))) []:=by
 have hm:(l.map aH).length=l.length:=by simp
 have ht:bf (fun a:Ar=>a.name.length+1) l=l.length+bf (fun x:Ar=>x.name.length) l:=nJ _ l
 by_cases h0:left < l.length
 ·have hd:decide ((left:Int) - ((l.map aH).length:Int) < 0)=true:=by rw [hm];simpa using by omega
  rw [dJ ah];refine aj Tryz.func36 Tryz.ntmps36 ?_;exact al
 have hd:decide ((left:Int) - ((l.map aH).length:Int) < 0)=false:=by rw [hm];simpa using by omega
 rw [ht];refine aj Tryz.func36 Tryz.ntmps36 ?_;refine GW.loop (fun k:Nat × Int=>l.length - k.1) (fun k fr Γ=>fr=[.sl 2 (l.map aH),.v (ii k.2),.U,.U,.U,.v (ii (k.1:Nat)),.U,.U,.U,.U,.U,.U,.U,.U,.U,.U,.U,.U,.U,.U,.U,.U,.U,.U,.U,.U,.U]/\Γ=[]/\k.1<=l.length/\k.2=(left:Int) - ((l.length+bf (fun x:Ar=>x.name.length) (l.take k.1):Nat):Int)/\0<=k.2) (0,(left:Int) - ((l.map aH).length:Int)) ?_ ?_
 ·exact ⟨_,_,Wk.aD ar,rfl,rfl,Nat.zero_le _,by rw [hm];simp [bf],by rw [hm];simp only;omega⟩
 rintro ⟨k,z⟩ _ _ ⟨rfl,rfl,hk,hz,ES⟩;simp only at hk hz ES
 have U5:z<=1048576:=by omega
 by_cases ao:k < l.length
 ·have hx:l[k]?=some l[k]:=by simp [ao]
  have hr:(l.map aH)[k]?=some (aH l[k]):=by rw [getElem?_map,hx];rfl
  have dr:decide ((k:Int) < ((l.map aH).length:Int))=true:=by rw [hm];simpa using ao
  have ki:=kQ (w:=fun x:Ar=>x.name.length) hx;have hle:=nK (fun x:Ar=>x.name.length) l (k+1);have hex:=he _ (mem_of_getElem? hx);generalize l[k]=x at *;obtain ⟨y,rfl⟩:∃ y:Nat,z=(y:Int):=⟨z.toNat,by omega⟩;have hc:=N0 x y ah ah
  by_cases h1:y < x.name.length
  ·rw [dJ h1] at hc;rw [dJ ah];refine ae ?_;refine ab [] hc ?_;exact al
  ·rw [gq ah] at hc
   have AV:decide (((y - (x.name.length):Nat):Int) < 0)=false:=by simp
   refine ae ?_;refine ab [] hc ?_;exact ⟨(k+1,((y - (x.name.length):Nat):Int)),⟨_,_,Wk.aD ar,rfl,rfl,ao,by simp only;omega,by simp only;omega⟩,by simp only;omega⟩
 ·have dr:decide ((k:Int) < ((l.map aH).length:Int))=false:=by rw [hm];simpa using ao
  have lA:k=l.length:=by omega
  subst lA;rw [take_length] at hz;rw [gq ah,show ((left - (l.length+bf (fun x:Ar=>x.name.length) l):Nat):Int)=z by omega];refine bH ?_;exact aw
theorem VP (x:Go.Sp.Fn) (left:Nat) (hs:x.name.length<=9223372036854775807) (hp:x.params.length<=9223372036854775807) (hq:∀ s∈x.params,s.length<=9223372036854775807) (vY:left<=1048576):GF Tryz.prog 95 [.agg (ax x),.v (ii (left:Nat))] [] (.v (ii (rS (x.name.length+wS x.params) left))) []:=by
 by_cases h0:left < x.name.length
 ·have hd:decide ((left:Int) - ((x.name.length:Nat):Int) < 0)=true:=by simpa using by omega
  rw [dJ ah];refine aj Tryz.func95 Tryz.ntmps95 ?_;exact al
 have hd:decide ((left:Int) - ((x.name.length:Nat):Int) < 0)=false:=by simpa using by omega
 have hc:=zu x.params (left - x.name.length) hp hq ah;rw [show ((left - x.name.length:Nat):Int)=(left:Int) - ((x.name.length:Nat):Int) by omega] at hc
 by_cases h1:left - x.name.length < wS x.params
 ·rw [dJ ah] at hc |-;refine aj Tryz.func95 Tryz.ntmps95 ?_;refine ab [] hc ?_;exact al
 ·rw [gq ah] at hc |-;rw [show left - x.name.length - wS x.params=left - (x.name.length+wS x.params) by omega] at hc
  have dr:decide (((left - (x.name.length+wS x.params):Nat):Int) < 0)=false:=by simp
  refine aj Tryz.func95 Tryz.ntmps95 ?_;refine ab [] hc ?_;exact al
theorem Tg (l:List Go.Sp.Fn) (left:Nat) (hl:l.length<=9223372036854775807) (he:∀ x∈l,x.name.length<=9223372036854775807/\x.params.length<=9223372036854775807/\∀ s∈x.params,s.length<=9223372036854775807) (vY:left<=1048576):GF Tryz.prog 37 [.sl 3 (l.map ax),.v (ii (left:Nat))] [] (.v (ii (rS (bf (fun f:Go.Sp.Fn=>f.name.length+wS f.params+1) l) left))) []:=by
 have hm:(l.map ax).length=l.length:=by simp
 have ht:bf (fun f:Go.Sp.Fn=>f.name.length+wS f.params+1) l=l.length+bf (fun x:Go.Sp.Fn=>x.name.length+wS x.params) l:=nJ _ l
 by_cases h0:left < l.length
 ·have hd:decide ((left:Int) - ((l.map ax).length:Int) < 0)=true:=by rw [hm];simpa using by omega
  rw [dJ ah];refine aj Tryz.func37 Tryz.ntmps37 ?_;exact al
 have hd:decide ((left:Int) - ((l.map ax).length:Int) < 0)=false:=by rw [hm];simpa using by omega
 rw [ht];refine aj Tryz.func37 Tryz.ntmps37 ?_;refine GW.loop (fun k:Nat × Int=>l.length - k.1) (fun k fr Γ=>fr=[.sl 3 (l.map ax),.v (ii k.2),.U,.U,.U,.v (ii (k.1:Nat)),.U,.U,.U,.U,.U,.U,.U,.U,.U,.U,.U,.U,.U,.U,.U,.U,.U,.U,.U,.U,.U]/\Γ=[]/\k.1<=l.length/\k.2=(left:Int) - ((l.length+bf (fun x:Go.Sp.Fn=>x.name.length+wS x.params) (l.take k.1):Nat):Int)/\0<=k.2) (0,(left:Int) - ((l.map ax).length:Int)) ?_ ?_
 ·exact ⟨_,_,Wk.aD ar,rfl,rfl,Nat.zero_le _,by rw [hm];simp [bf],by rw [hm];simp only;omega⟩
 rintro ⟨k,z⟩ _ _ ⟨rfl,rfl,hk,hz,ES⟩;simp only at hk hz ES
 have U5:z<=1048576:=by omega
 by_cases ao:k < l.length
 ·have hx:l[k]?=some l[k]:=by simp [ao]
  have hr:(l.map ax)[k]?=some (ax l[k]):=by rw [getElem?_map,hx];rfl
  have dr:decide ((k:Int) < ((l.map ax).length:Int))=true:=by rw [hm];simpa using ao
  have ki:=kQ (w:=fun x:Go.Sp.Fn=>x.name.length+wS x.params) hx;have hle:=nK (fun x:Go.Sp.Fn=>x.name.length+wS x.params) l (k+1);have hex:=he _ (mem_of_getElem? hx);generalize l[k]=x at *;obtain ⟨y,rfl⟩:∃ y:Nat,z=(y:Int):=⟨z.toNat,by omega⟩;have hc:=VP x y hex.1 hex.2.1 hex.2.2 ah
  by_cases h1:y < x.name.length+wS x.params
  ·rw [dJ h1] at hc;rw [dJ ah];refine ae ?_;refine ab [] hc ?_;exact al
  ·rw [gq ah] at hc
   have AV:decide (((y - (x.name.length+wS x.params):Nat):Int) < 0)=false:=by simp
   refine ae ?_;refine ab [] hc ?_;exact ⟨(k+1,((y - (x.name.length+wS x.params):Nat):Int)),⟨_,_,Wk.aD ar,rfl,rfl,ao,by simp only;omega,by simp only;omega⟩,by simp only;omega⟩
 ·have dr:decide ((k:Int) < ((l.map ax).length:Int))=false:=by rw [hm];simpa using ao
  have lA:k=l.length:=by omega
  subst lA;rw [take_length] at hz;rw [gq ah,show ((left - (l.length+bf (fun x:Go.Sp.Fn=>x.name.length+wS x.params) l):Nat):Int)=z by omega];refine bH ?_;exact aw
theorem Ql (x:Nd) (left:Nat) (hs:x.s.length<=9223372036854775807) (hp:x.kids.length<=9223372036854775807) (vY:left<=1048576):GF Tryz.prog 96 [.agg (az x),.v (ii (left:Nat))] [] (.v (ii (rS (x.s.length+x.kids.length) left))) []:=by
 by_cases h0:left < x.s.length
 ·have hd:decide ((left:Int) - ((x.s.length:Nat):Int) < 0)=true:=by simpa using by omega
  rw [dJ ah];refine aj Tryz.func96 Tryz.ntmps96 ?_;exact al
 have hd:decide ((left:Int) - ((x.s.length:Nat):Int) < 0)=false:=by simpa using by omega
 have hc:=Qj x.kids (left - x.s.length) hp ah;rw [show ((left - x.s.length:Nat):Int)=(left:Int) - ((x.s.length:Nat):Int) by omega] at hc
 by_cases h1:left - x.s.length < x.kids.length
 ·rw [dJ ah] at hc |-;refine aj Tryz.func96 Tryz.ntmps96 ?_;refine ab [] hc ?_;exact al
 ·rw [gq ah] at hc |-;rw [show left - x.s.length - x.kids.length=left - (x.s.length+x.kids.length) by omega] at hc
  have dr:decide (((left - (x.s.length+x.kids.length):Nat):Int) < 0)=false:=by simp
  refine aj Tryz.func96 Tryz.ntmps96 ?_;refine ab [] hc ?_;exact al
theorem N1 (l:List Nd) (left:Nat) (hl:l.length<=9223372036854775807) (he:∀ x∈l,x.s.length<=9223372036854775807/\x.kids.length<=9223372036854775807) (vY:left<=1048576):GF Tryz.prog 38 [.sl 5 (l.map az),.v (ii (left:Nat))] [] (.v (ii (rS (bf (fun n:Nd=>n.s.length+n.kids.length+1) l) left))) []:=by
 have hm:(l.map az).length=l.length:=by simp
 have ht:bf (fun n:Nd=>n.s.length+n.kids.length+1) l=l.length+bf (fun x:Nd=>x.s.length+x.kids.length) l:=nJ _ l
 by_cases h0:left < l.length
 ·have hd:decide ((left:Int) - ((l.map az).length:Int) < 0)=true:=by rw [hm];simpa using by omega
  rw [dJ ah];refine aj Tryz.func38 Tryz.ntmps38 ?_;exact al
 have hd:decide ((left:Int) - ((l.map az).length:Int) < 0)=false:=by rw [hm];simpa using by omega
 rw [ht];refine aj Tryz.func38 Tryz.ntmps38 ?_;refine GW.loop (fun k:Nat × Int=>l.length - k.1) (fun k fr Γ=>fr=[.sl 5 (l.map az),.v (ii k.2),.U,.U,.U,.v (ii (k.1:Nat)),.U,.U,.U,.U,.U,.U,.U,.U,.U,.U,.U,.U,.U,.U,.U,.U,.U,.U,.U,.U,.U]/\Γ=[]/\k.1<=l.length/\k.2=(left:Int) - ((l.length+bf (fun x:Nd=>x.s.length+x.kids.length) (l.take k.1):Nat):Int)/\0<=k.2) (0,(left:Int) - ((l.map az).length:Int)) ?_ ?_
 ·exact ⟨_,_,Wk.aD ar,rfl,rfl,Nat.zero_le _,by rw [hm];simp [bf],by rw [hm];simp only;omega⟩
 rintro ⟨k,z⟩ _ _ ⟨rfl,rfl,hk,hz,ES⟩;simp only at hk hz ES
 have U5:z<=1048576:=by omega
 by_cases ao:k < l.length
 ·have hx:l[k]?=some l[k]:=by simp [ao]
  have hr:(l.map az)[k]?=some (az l[k]):=by rw [getElem?_map,hx];rfl
  have dr:decide ((k:Int) < ((l.map az).length:Int))=true:=by rw [hm];simpa using ao
  have ki:=kQ (w:=fun x:Nd=>x.s.length+x.kids.length) hx;have hle:=nK (fun x:Nd=>x.s.length+x.kids.length) l (k+1);have hex:=he _ (mem_of_getElem? hx);generalize l[k]=x at *;obtain ⟨y,rfl⟩:∃ y:Nat,z=(y:Int):=⟨z.toNat,by omega⟩;have hc:=Ql x y hex.1 hex.2 ah
  by_cases h1:y < x.s.length+x.kids.length
  ·rw [dJ h1] at hc;rw [dJ ah];refine ae ?_;refine ab [] hc ?_;exact al
  ·rw [gq ah] at hc
   have AV:decide (((y - (x.s.length+x.kids.length):Nat):Int) < 0)=false:=by simp
   refine ae ?_;refine ab [] hc ?_;exact ⟨(k+1,((y - (x.s.length+x.kids.length):Nat):Int)),⟨_,_,Wk.aD ar,rfl,rfl,ao,by simp only;omega,by simp only;omega⟩,by simp only;omega⟩
 ·have dr:decide ((k:Int) < ((l.map az).length:Int))=false:=by rw [hm];simpa using ao
  have lA:k=l.length:=by omega
  subst lA;rw [take_length] at hz;rw [gq ah,show ((left - (l.length+bf (fun x:Nd=>x.s.length+x.kids.length) l):Nat):Int)=z by omega];refine bH ?_;exact aw
theorem KQ (p:Src) (hb:Go.Im.Small p 9223372036854775807):GF Tryz.prog 10 [.agg (ay p),.v (ii 1048576)] [] (.v (ii (rS (dB p) 1048576))) []:=by
 obtain ⟨⟨a1,a2⟩,⟨b1,b2⟩,⟨c1,c2⟩,⟨d1,d2⟩⟩:=hb;have h1:=zu p.globals 1048576 a1 a2 (Nat.le_refl _);unfold dB;generalize wS p.globals=w1 at *
 by_cases q1:1048576 < w1
 ·rw [dJ q1] at h1;rw [dJ ah];refine aj Tryz.func10 Tryz.ntmps10 ?_;refine ab [] h1 ?_;exact al
 rw [gq ah] at h1
 have e1:decide (((1048576 - w1:Nat):Int) < 0)=false:=by simp
 have h2:=KP p.arrays (1048576 - w1) b1 b2 ah;generalize bf (fun a:Ar=>a.name.length+1) p.arrays=w2 at *
 by_cases q2:1048576 - w1 < w2
 ·rw [dJ q2] at h2;rw [dJ ah];refine aj Tryz.func10 Tryz.ntmps10 ?_;refine ab [] h1 ?_;refine ab [] h2 ?_;exact al
 rw [gq ah] at h2
 have e2:decide (((1048576 - w1 - w2:Nat):Int) < 0)=false:=by simp
 have h3:=Tg p.fns (1048576 - w1 - w2) c1 c2 ah;generalize bf (fun f:Go.Sp.Fn=>f.name.length+wS f.params+1) p.fns=w3 at *
 by_cases q3:1048576 - w1 - w2 < w3
 ·rw [dJ q3] at h3;rw [dJ ah];refine aj Tryz.func10 Tryz.ntmps10 ?_;refine ab [] h1 ?_;refine ab [] h2 ?_;refine ab [] h3 ?_;exact al
 rw [gq ah] at h3
 have e3:decide (((1048576 - w1 - w2 - w3:Nat):Int) < 0)=false:=by simp
 have h4:=N1 p.nodes (1048576 - w1 - w2 - w3) d1 d2 ah;generalize bf (fun n:Nd=>n.s.length+n.kids.length+1) p.nodes=w4 at *
 by_cases q4:1048576 - w1 - w2 - w3 < w4
 ·rw [dJ q4] at h4;rw [dJ ah];refine aj Tryz.func10 Tryz.ntmps10 ?_;refine ab [] h1 ?_;refine ab [] h2 ?_;refine ab [] h3 ?_;refine ab [] h4 ?_;exact al
 rw [gq ah] at h4
 have e4:decide (((1048576 - w1 - w2 - w3 - w4:Nat):Int) < 0)=false:=by simp
 rw [gq ah,show 1048576 - (w1+w2+w3+w4)=1048576 - w1 - w2 - w3 - w4 by omega];refine aj Tryz.func10 Tryz.ntmps10 ?_;refine ab [] h1 ?_;refine ab [] h2 ?_;refine ab [] h3 ?_;refine ab [] h4 ?_;exact al
theorem Ez (l:List Int) (hl:l.length<=1048576):GF Tryz.prog 19 [ints l,ints l] [] (.v (.bool true)) []:=by
 have hm:(l.map (fun i=>[GV.v (ii i)])).length=l.length:=by simp
 have hd:(((l.map (fun i=>[GV.v (ii i)])).length:Int) != ((l.map (fun i=>[GV.v (ii i)])).length:Int))=false:=by simp
 refine aj Tryz.func19 Tryz.ntmps19 ?_;refine GW.loop (fun k:Nat=>l.length - k) (fun k fr Γ=>fr=[ints l,ints l,.U,.U,.U,.v (ii (k:Nat)),.U,.U,.U,.U,.U,.U,.U,.U,.U,.U,.U,.U,.U,.U,.U,.U,.U,.U,.U,.U]/\Γ=[]/\k<=l.length) 0 ?_ ?_
 ·exact ⟨_,_,Wk.aD ar,rfl,rfl,Nat.zero_le _⟩
 rintro k _ _ ⟨rfl,rfl,hk⟩
 by_cases ao:k < l.length
 ·have hx:l[k]?=some l[k]:=by simp [ao]
  have hr:(l.map (fun i=>[GV.v (ii i)]))[k]?=some ([GV.v (ii l[k])]):=by rw [getElem?_map,hx];rfl
  have dr:decide ((k:Int) < ((l.map (fun i=>[GV.v (ii i)])).length:Int))=true:=by rw [hm];simpa using ao
  generalize l[k]=x at *
  have hs:(x != x)=false:=by simp
  refine ae ?_;refine aJ (aC 0 9 .nil) ?_;refine bg ?_;exact ⟨k+1,⟨_,_,Wk.aD ar,rfl,rfl,ao⟩,by show l.length - (k+1) < l.length - k;omega⟩
 ·have dr:decide ((k:Int) < ((l.map (fun i=>[GV.v (ii i)])).length:Int))=false:=by rw [hm];simpa using ao
  refine bH ?_;exact aw
theorem y8 (l:List ai) (hl:l.length<=1048576):GF Tryz.prog 47 [strs l,strs l] [] (.v (.bool true)) []:=by
 have hm:(l.map (fun s=>[GV.v (sv s)])).length=l.length:=by simp
 have hd:(((l.map (fun s=>[GV.v (sv s)])).length:Int) != ((l.map (fun s=>[GV.v (sv s)])).length:Int))=false:=by simp
 refine aj Tryz.func47 Tryz.ntmps47 ?_;refine GW.loop (fun k:Nat=>l.length - k) (fun k fr Γ=>fr=[strs l,strs l,.U,.U,.U,.v (ii (k:Nat)),.U,.U,.U,.U,.U,.U,.U,.U,.U,.U,.U,.U,.U,.U,.U,.U,.U,.U,.U,.U]/\Γ=[]/\k<=l.length) 0 ?_ ?_
 ·exact ⟨_,_,Wk.aD ar,rfl,rfl,Nat.zero_le _⟩
 rintro k _ _ ⟨rfl,rfl,hk⟩
 by_cases ao:k < l.length
 ·have hx:l[k]?=some l[k]:=by simp [ao]
  have hr:(l.map (fun s=>[GV.v (sv s)]))[k]?=some ([GV.v (sv l[k])]):=by rw [getElem?_map,hx];rfl
  have dr:decide ((k:Int) < ((l.map (fun s=>[GV.v (sv s)])).length:Int))=true:=by rw [hm];simpa using ao
  generalize l[k]=x at *
  have hs:(!(x==x))=false:=by simp
  refine ae ?_;refine aJ (aC 0 9 .nil) ?_;refine bg ?_;exact ⟨k+1,⟨_,_,Wk.aD ar,rfl,rfl,ao⟩,by show l.length - (k+1) < l.length - k;omega⟩
 ·have dr:decide ((k:Int) < ((l.map (fun s=>[GV.v (sv s)])).length:Int))=false:=by rw [hm];simpa using ao
  refine bH ?_;exact aw
theorem LZ (x:Ar):GF Tryz.prog 107 [.agg (aH x),.agg (aH x)] [] (.v (.bool true)) []:=by
 have e0:(!(x.name==x.name))=false:=by simp
 have e1:(x.size != x.size)=false:=by simp
 refine aj Tryz.func107 Tryz.ntmps107 ?_;exact al
theorem JF (l:List Ar) (hl:l.length<=1048576):GF Tryz.prog 48 [.sl 2 (l.map aH),.sl 2 (l.map aH)] [] (.v (.bool true)) []:=by
 have hm:(l.map aH).length=l.length:=by simp
 have hd:(((l.map aH).length:Int) != ((l.map aH).length:Int))=false:=by simp
 refine aj Tryz.func48 Tryz.ntmps48 ?_;refine GW.loop (fun k:Nat=>l.length - k) (fun k fr Γ=>fr=[.sl 2 (l.map aH),.sl 2 (l.map aH),.U,.U,.U,.v (ii (k:Nat)),.U,.U,.U,.U,.U,.U,.U,.U,.U,.U,.U,.U,.U,.U,.U,.U,.U,.U,.U,.U,.U]/\Γ=[]/\k<=l.length) 0 ?_ ?_
 ·exact ⟨_,_,Wk.aD ar,rfl,rfl,Nat.zero_le _⟩
 rintro k _ _ ⟨rfl,rfl,hk⟩
 by_cases ao:k < l.length
 ·have hx:l[k]?=some l[k]:=by simp [ao]
  have hr:(l.map aH)[k]?=some (aH l[k]):=by rw [getElem?_map,hx];rfl
  have dr:decide ((k:Int) < ((l.map aH).length:Int))=true:=by rw [hm];simpa using ao
  have hc:=LZ l[k];generalize l[k]=x at *;refine ae ?_;refine aJ (aC 0 8 (.a 8 (.q 9 .nil))) ?_;refine au ?_;refine aE [] hc ?_;refine ae ?_;exact ⟨k+1,⟨_,_,Wk.aD ar,rfl,rfl,ao⟩,by show l.length - (k+1) < l.length - k;omega⟩
 ·have dr:decide ((k:Int) < ((l.map aH).length:Int))=false:=by rw [hm];simpa using ao
  refine bH ?_;exact aw
theorem TL (x:Go.Sp.Fn) (hp:x.params.length<=1048576):GF Tryz.prog 108 [.agg (ax x),.agg (ax x)] [] (.v (.bool true)) []:=by
 have e0:(!(x.name==x.name))=false:=by simp
 have e1:(x.body != x.body)=false:=by simp
 have h0:=y8 x.params hp;refine aj Tryz.func108 Tryz.ntmps108 ?_;refine ab [] h0 ?_;exact al
theorem Sh (l:List Go.Sp.Fn) (hl:l.length<=1048576) (he:∀ x∈l,x.params.length<=1048576):GF Tryz.prog 49 [.sl 3 (l.map ax),.sl 3 (l.map ax)] [] (.v (.bool true)) []:=by
 have hm:(l.map ax).length=l.length:=by simp
 have hd:(((l.map ax).length:Int) != ((l.map ax).length:Int))=false:=by simp
 refine aj Tryz.func49 Tryz.ntmps49 ?_;refine GW.loop (fun k:Nat=>l.length - k) (fun k fr Γ=>fr=[.sl 3 (l.map ax),.sl 3 (l.map ax),.U,.U,.U,.v (ii (k:Nat)),.U,.U,.U,.U,.U,.U,.U,.U,.U,.U,.U,.U,.U,.U,.U,.U,.U,.U,.U,.U,.U]/\Γ=[]/\k<=l.length) 0 ?_ ?_
 ·exact ⟨_,_,Wk.aD ar,rfl,rfl,Nat.zero_le _⟩
 rintro k _ _ ⟨rfl,rfl,hk⟩
 by_cases ao:k < l.length
 ·have hx:l[k]?=some l[k]:=by simp [ao]
  have hr:(l.map ax)[k]?=some (ax l[k]):=by rw [getElem?_map,hx];rfl
  have dr:decide ((k:Int) < ((l.map ax).length:Int))=true:=by rw [hm];simpa using ao
  have hex:=he _ (mem_of_getElem? hx);have hc:=TL l[k] hex;generalize l[k]=x at *;refine ae ?_;refine aJ (aC 0 8 (.a 8 (.q 9 .nil))) ?_;refine au ?_;refine aE [] hc ?_;refine ae ?_;exact ⟨k+1,⟨_,_,Wk.aD ar,rfl,rfl,ao⟩,by show l.length - (k+1) < l.length - k;omega⟩
 ·have dr:decide ((k:Int) < ((l.map ax).length:Int))=false:=by rw [hm];simpa using ao
  refine bH ?_;exact aw
theorem OZ (x:Nd) (hp:x.kids.length<=1048576):GF Tryz.prog 109 [.agg (az x),.agg (az x)] [] (.v (.bool true)) []:=by
 have e0:(x.kind != x.kind)=false:=by simp
 have e1:(x.at_ != x.at_)=false:=by simp
 have e2:(x.n != x.n)=false:=by simp
 have e3:(!(x.s==x.s))=false:=by simp
 have h0:=Ez x.kids hp;refine aj Tryz.func109 Tryz.ntmps109 ?_;refine ab [] h0 ?_;exact al
theorem L1 (l:List Nd) (hl:l.length<=1048576) (he:∀ x∈l,x.kids.length<=1048576):GF Tryz.prog 50 [.sl 5 (l.map az),.sl 5 (l.map az)] [] (.v (.bool true)) []:=by
 have hm:(l.map az).length=l.length:=by simp
 have hd:(((l.map az).length:Int) != ((l.map az).length:Int))=false:=by simp
 refine aj Tryz.func50 Tryz.ntmps50 ?_;refine GW.loop (fun k:Nat=>l.length - k) (fun k fr Γ=>fr=[.sl 5 (l.map az),.sl 5 (l.map az),.U,.U,.U,.v (ii (k:Nat)),.U,.U,.U,.U,.U,.U,.U,.U,.U,.U,.U,.U,.U,.U,.U,.U,.U,.U,.U,.U,.U]/\Γ=[]/\k<=l.length) 0 ?_ ?_
 ·exact ⟨_,_,Wk.aD ar,rfl,rfl,Nat.zero_le _⟩
 rintro k _ _ ⟨rfl,rfl,hk⟩
 by_cases ao:k < l.length
 ·have hx:l[k]?=some l[k]:=by simp [ao]
  have hr:(l.map az)[k]?=some (az l[k]):=by rw [getElem?_map,hx];rfl
  have dr:decide ((k:Int) < ((l.map az).length:Int))=true:=by rw [hm];simpa using ao
  have hex:=he _ (mem_of_getElem? hx);have hc:=OZ l[k] hex;generalize l[k]=x at *;refine ae ?_;refine aJ (aC 0 8 (.a 8 (.q 9 .nil))) ?_;refine au ?_;refine aE [] hc ?_;refine ae ?_;exact ⟨k+1,⟨_,_,Wk.aD ar,rfl,rfl,ao⟩,by show l.length - (k+1) < l.length - k;omega⟩
 ·have dr:decide ((k:Int) < ((l.map az).length:Int))=false:=by rw [hm];simpa using ao
  refine bH ?_;exact aw
theorem JG (x:Src) (hg:x.globals.length<=1048576) (ha:x.arrays.length<=1048576) (hf:x.fns.length<=1048576) (AX:∀ f∈x.fns,f.params.length<=1048576) (hn:x.nodes.length<=1048576) (xH:∀ n∈x.nodes,n.kids.length<=1048576):GF Tryz.prog 14 [.agg (ay x),.agg (ay x)] [] (.v (.bool true)) []:=by
 have h0:=y8 x.globals hg;have h1:=JF x.arrays ha;have h2:=Sh x.fns hf AX;have h3:=L1 x.nodes hn xH;refine aj Tryz.func14 Tryz.ntmps14 ?_;refine ab [] h0 ?_;refine ab [] h1 ?_;refine ab [] h2 ?_;refine ab [] h3 ?_;exact al
end Go.Xg
namespace Go.Xg
open Go.RowKit Go.Xw Go.Proofs
open Go.Xp (Nd Ar)
open Go.Sp (Src)
open Go.Im
theorem uM {A X C:List Ob} {j:Nat} (h:j < X.length):(A++(X++C))[A.length+j]?=X[j]?:=by
 rw [getElem?_append_right ah,Nat.add_sub_cancel_left,List.getElem?_append_left h]
def H0 (p:Src) (i:Nat):Go.Sp.Fn:=(p.fns[i]?).getD ⟨[],[],0⟩
def IK (p:Src) (i:Nat):Nd:=(p.nodes[i]?).getD ⟨0,0,0,[],[]⟩
def zz (l:List Value) (i:Nat):Value:=(l[i]?).getD undef
theorem Ak {B:Bs} {K:Fz} {β:Bt} {w:World} {A C:List Ob} {p:Src} {hg ha hf hn:Value} {fs ns:List Value} (H:BI p hg ha hf hn fs ns) (hI:Inv B K β (A++(jn p hg ha hf hn fs ns++C)) w) :
  ∃ K1,cq K K1/\ir K1 w/\fQ K1 (fun _=>.no) w/\bb K1 (fun _=>.no) [hg,ha,hf,hn] (ay p):=by
 obtain ⟨_,_,_,_,jB,rl,_,_⟩:=H
 have EU:(List.zipWith qV p.fns fs).length=p.fns.length:=by rw [length_zipWith];omega
 have re:(List.zipWith mQ p.nodes ns).length=p.nodes.length:=by rw [length_zipWith];omega
 have hlen:(jn p hg ha hf hn fs ns).length=4+p.fns.length+p.nodes.length:=by simp [jn,EU,re];omega
 have hF:∀ i,i < p.fns.length->p.fns[i]?=some (H0 p i)/\fs[i]?=some (zz fs i):=fun i hi=>by
  unfold H0 zz;rw [List.getElem?_eq_getElem hi,List.getElem?_eq_getElem (show i < fs.length by omega)];exact ⟨rfl,rfl⟩
 have hN:∀ i,i < p.nodes.length->p.nodes[i]?=some (IK p i)/\ns[i]?=some (zz ns i):=fun i hi=>by
  unfold IK zz;rw [List.getElem?_eq_getElem hi,List.getElem?_eq_getElem (show i < ns.length by omega)];exact ⟨rfl,rfl⟩
 have g0:(A++(jn p hg ha hf hn fs ns++C))[A.length+0]?=some (.vech 9 1 (cl p.globals) hg):=by rw [uM ah];rfl
 have g1:(A++(jn p hg ha hf hn fs ns++C))[A.length+1]?=some (.vech 88 2 (p.arrays.map aH) ha):=by rw [uM ah];rfl
 have g2:(A++(jn p hg ha hf hn fs ns++C))[A.length+2]?=some (.vech 60 3 (List.zipWith p8 p.fns fs) hf):=by rw [uM ah];rfl
 have gF:∀ i,i < p.fns.length->(A++(jn p hg ha hf hn fs ns++C))[A.length+(3+i)]?=some (.vech 9 1 (cl (H0 p i).params) (zz fs i)):=fun i hi=>by
  rw [uM ah];unfold jn;rw [show 3+i=i+1+1+1 by omega,getElem?_cons_succ,getElem?_cons_succ,getElem?_cons_succ,List.getElem?_append_left ah,rD (hF i hi).1 (hF i hi).2];rfl
 have g3:(A++(jn p hg ha hf hn fs ns++C))[A.length+(3+p.fns.length)]?=some (.vech 91 5 (List.zipWith lJ p.nodes ns) hn):=by
  rw [uM ah];unfold jn;rw [show 3+p.fns.length=p.fns.length+1+1+1 by omega,getElem?_cons_succ,getElem?_cons_succ,getElem?_cons_succ,getElem?_append_right ah,EU,Nat.sub_self];rfl
 have gN:∀ i,i < p.nodes.length->(A++(jn p hg ha hf hn fs ns++C))[A.length+(4+p.fns.length+i)]?=some (.vech 3 1 (aZ (IK p i).kids) (zz ns i)):=fun i hi=>by
  rw [uM ah];unfold jn;rw [show 4+p.fns.length+i=(p.fns.length+(i+1))+1+1+1 by omega,getElem?_cons_succ,getElem?_cons_succ,getElem?_cons_succ,getElem?_append_right ah,EU,Nat.add_sub_cancel_left,getElem?_cons_succ,rD (hN i hi).1 (hN i hi).2];rfl
 generalize A.length=s at *;generalize (A++(jn p hg ha hf hn fs ns++C))=Γ at *;obtain ⟨K1,RR,R1,k1,i1,f1,l1,r1,o1⟩:=hI.Ag (jf:=s+2) (N:=p.fns.length) (o:=1) (E:=9) (k':=1) (raw:=fun i=>p8 (H0 p i) (zz fs i)) (fin:=fun i=>ax (H0 p i)) (ks:=fun i=>cl (H0 p i).params) (hd:=fun i=>zz fs i) (jp:=fun i=>s+(3+i)) g2
  ⟨by rw [length_zipWith];omega,fun i hi=>rD (hF i hi).1 (hF i hi).2⟩ (fun i hi=>⟨rfl,rfl⟩) gF (fun i hi=>by omega) (fun i j _ _ h=>by omega)
 obtain ⟨K2,DM,R2,k2,i2,f2,l2,r2,o2⟩:=i1.Ag (jf:=s+(3+p.fns.length)) (N:=p.nodes.length) (o:=4) (E:=3) (k':=1) (raw:=fun i=>lJ (IK p i) (zz ns i)) (fin:=fun i=>az (IK p i)) (ks:=fun i=>aZ (IK p i).kids) (hd:=fun i=>zz ns i) (jp:=fun i=>s+(4+p.fns.length+i))
  (by rw [o1 _ ah fun i hi=>by omega];exact g3) ⟨by rw [length_zipWith];omega,fun i hi=>rD (hN i hi).1 (hN i hi).2⟩ (fun i hi=>⟨rfl,rfl⟩) (fun i hi=>by rw [o1 _ ah fun j hj=>by omega];exact gN i hi) (fun i hi=>by omega) (fun i j _ _ h=>by omega)
 have e1:R1=p.fns.map ax:=by
  apply List.ext_getElem?;intro i
  by_cases hi:i < p.fns.length
  ·rw [r1 i hi,getElem?_map,(hF i hi).1];rfl
  ·rw [getElem?_eq_none ah,getElem?_eq_none (by rw [List.length_map];omega)]
 have e2:R2=p.nodes.map az:=by
  apply List.ext_getElem?;intro i
  by_cases hi:i < p.nodes.length
  ·rw [r2 i hi,getElem?_map,(hN i hi).1];rfl
  ·rw [getElem?_eq_none ah,getElem?_eq_none (by rw [List.length_map];omega)]
 rw [e1] at f1;rw [e2] at f2
 have Z7:DM[s+2]?=some (.vech 60 3 (p.fns.map ax) hf):=by rw [o2 _ ah fun i hi=>by omega];exact f1
 have g0':DM[s+0]?=some (.vech 9 1 (cl p.globals) hg):=by rw [o2 _ ah fun i hi=>by omega,o1 _ ah fun i hi=>by omega];exact g0
 have g1':DM[s+1]?=some (.vech 88 2 (p.arrays.map aH) ha):=by rw [o2 _ ah fun i hi=>by omega,o1 _ ah fun i hi=>by omega];exact g1
 obtain ⟨K3,k3,q0,i3⟩:=i2.pZ g0';obtain ⟨K4,k4,q1,i4⟩:=i3.pZ (i:=s+1) (by rw [bc,getElem?_set,if_neg ah];exact g1');obtain ⟨K5,k5,q2,i5⟩:=i4.pZ (i:=s+2) (by rw [bc,bc,getElem?_set,if_neg ah,getElem?_set,if_neg ah];exact Z7);obtain ⟨K6,k6,q3,i6⟩:=i5.pZ (i:=s+(3+p.fns.length)) (by rw [bc,bc,bc,getElem?_set,if_neg ah,getElem?_set,if_neg ah,getElem?_set,if_neg ah];exact f2);have b:cZ β β:=cZ.refl β;refine ⟨K6,k1.trans (k2.trans (k3.trans (k4.trans (k5.trans k6)))),i6.fz,i6.ZK,?_⟩;exact .cons ((q0.mono (k4.trans (k5.trans k6)) b).pc rfl) (.cons ((q1.mono (k5.trans k6) b).pc rfl) (.cons ((q2.mono k6 b).pc rfl) (.cons (q3.pc rfl) .nil)))
theorem Ei {K:Fz} {β:Bt} {v a b c d:Value} (h:Rel K β v (.agg [.v a,.v b,.v c,.v d])):v=.agg #[a,b,c,d]:=by
 cases h with
 | agg vs cs hl h =>
  match vs,hl with
  | [x,y,z,u],_ =>
   rw [Rel.eD (h 0 x _ rfl rfl),Rel.eD (h 1 y _ rfl rfl),Rel.eD (h 2 z _ rfl rfl),Rel.eD (h 3 u _ rfl rfl)]
theorem Ej {K:Fz} {a b c d:Value} {gs:List GV} (h:bb K (fun _=>.no) [a,b,c,d] gs):Rel K (fun _=>.no) (.agg #[a,b,c,d]) (.agg gs):=.agg [a,b,c,d] gs h.1 h.2
section
variable {B:Bs} {K:Fz} {β:Bt} {w:World} {l:List Value} {fr:List GV} {A C X:List Ob} {p:Src} {hg ha hf hn:Value} {fs ns:List Value}
theorem G0 {x:Operand} (H:BI p hg ha hf hn fs ns) (hI:Inv B K β (A++(jn p hg ha hf hn fs ns++C)) w) (hF:FR K β fr l) (hx:aV fr x=.agg [.v hg,.v ha,.v hf,.v hn]) :
  ∃ K1,ir K1 w/\fQ K1 (fun _=>.no) w/\bb K1 (fun _=>.no) ([x].map (ev l)) [.agg (ay p)]:=by
 obtain ⟨K1,_,h1,h2,h3⟩:=Ak H hI;have hr:=hF.ev x;rw [hx] at hr;have e:=Ei hr;refine ⟨K1,h1,h2,?_⟩;show bb K1 _ [ev l x] _;rw [e];exact .cons (Ej h3) .nil
theorem Ml {K K1:Fz} {v:Value} {gs:List GV} (hk:cq K K1) (hp:∀ g∈gs,g.pc=true) (h:Rel K β v (.agg gs)):Rel K1 (fun _=>.no) v (.agg gs):=by
 cases h with
 | agg vs cs hl h =>
  exact .agg vs gs hl fun i v g h1 h2=>((h i v g h1 h2).mono hk (cZ.refl β)).pc (hp g (mem_of_getElem? h2))
theorem LX (p:Src):∀ g∈ay p,g.pc=true:=fun g hg=>by
 simp only [ay,List.mem_cons,List.not_mem_nil,or_false] at hg
 rcases hg with rfl | rfl | rfl | rfl <;> rfl
theorem G1 {x y:Operand} (H:BI p hg ha hf hn fs ns) (hI:Inv B K β (A++(jn p hg ha hf hn fs ns++C)) w) (hF:FR K β fr l) (hx:aV fr x=.agg [.v hg,.v ha,.v hf,.v hn]) (hy:aV fr y=.agg (ay p)) :
  ∃ K1,ir K1 w/\fQ K1 (fun _=>.no) w/\bb K1 (fun _=>.no) ([x,y].map (ev l)) [.agg (ay p),.agg (ay p)]:=by
 obtain ⟨K1,hk,h1,h2,h3⟩:=Ak H hI;have hr:=hF.ev x;rw [hx] at hr;have e:=Ei hr;have dd:=hF.ev y;rw [hy] at dd;refine ⟨K1,h1,h2,?_⟩;show bb K1 _ [ev l x,ev l y] _;rw [e];exact .cons (Ej h3) (.cons (Ml hk (LX p) dd) .nil)
end
end Go.Xg
set_option maxHeartbeats 4000000
namespace Go.Xg
open Go.RowKit Go.Xw Go.Proofs
open Go.Xp (Nd Ar)
open Go.Sp (Src)
open Go.Im
attribute [local irreducible] GW GL GO YG GC GA aY ba
def iq (k n:Nat):List (List GV):=(List.range n).map fun i=>[GV.v (ii ((k+i:Nat):Int))]
theorem rZ (k n:Nat):(iq k n).length=n:=by simp [iq]
theorem Hj (k n:Nat):iq k (n+1)=iq k n++[[.v (ii ((k+n:Nat):Int))]]:=by simp [iq,List.range_succ]
theorem Nw {k n i:Nat} (h:i < n):(iq k n)[i]?=some [.v (ii ((k+i:Nat):Int))]:=by simp [iq,h]
theorem Kl (k:Nat) (rows:List (List GV)) {i:Nat} (h:i < rows.length):(iq k i++rows.drop i).set i [.v (ii ((k+i:Nat):Int))]=iq k (i+1)++rows.drop (i+1):=by
 rw [List.drop_eq_getElem_cons h,List.set_append_right _ _ (by rw [rZ];exact Nat.le_refl _),rZ,Nat.sub_self,List.set_cons_zero,Hj,append_assoc];rfl
theorem Kj (a:Option Addr) (c n k:Nat) (rows:List (List GV)) (hn:rows.length=n) (hb:k+n<=1099511627776) :
  GF Tryz.prog 21 [.v (.slice a n c),.v (ii (k:Nat))] [.vech 3 1 rows (.slice a n c)] (.v (ii ((k+n:Nat):Int))) [.vech 3 1 (iq k n) (.slice a n c)]:=by
 refine aj Tryz.func21 Tryz.ntmps21 ?_;refine GW.loop (fun i:Nat=>n - i) (fun i fr Γ=>∃ R,fr=[.v (.slice a n c),.v (ii ((k+i:Nat):Int)),.U,.U,.U,.v (ii (i:Nat)),.U,.U,.U,.U,.U,.U,.U,.U,.U,.U,.U,.U,.U]/\Γ=[.vech 3 1 R (.slice a n c)]/\i<=n/\R=iq k i++rows.drop i) 0 ?_ ?_
 ·exact ⟨_,_,Wk.aD ar,_,rfl,rfl,Nat.zero_le _,rfl⟩
 rintro i _ _ ⟨R,rfl,rfl,hi,hR⟩
 have eG:R.length=n:=by rw [hR,length_append,rZ,List.length_drop];omega
 by_cases ao:i < n
 ·have hd:decide ((i:Int) < (n:Int))=true:=by simpa using ao
  have b9:=Kl k rows (i:=i) ah;rw [<-hR] at b9;clear hR;refine ae ?_;refine jK ?_;refine ae ?_;exact ⟨i+1,⟨_,_,Wk.aD ar,_,rfl,rfl,ao,b9⟩,by show n - (i+1) < n - i;omega⟩
 ·have hd:decide ((i:Int) < (n:Int))=false:=by simpa using ao
  have gV:i=n:=by omega
  subst gV;rw [List.drop_of_length_le ah,append_nil] at hR;subst hR;refine bH ?_;exact aw
theorem JO (k n:Nat) (hb:k+n<=1099511627776):GF Tryz.prog 22 [.sl 1 (iq k n),.v (ii (k:Nat))] [] (.v (ii ((k+n:Nat):Int))) []:=by
 have hm:=rZ k n;refine aj Tryz.func22 Tryz.ntmps22 ?_;refine GW.loop (fun i:Nat=>n - i) (fun i fr Γ=>fr=[.sl 1 (iq k n),.v (ii ((k+i:Nat):Int)),.U,.U,.U,.v (ii (i:Nat)),.U,.U,.U,.U,.U,.U,.U,.U,.U,.U,.U,.U,.U,.U,.U]/\Γ=[]/\i<=n) 0 ?_ ?_
 ·exact ⟨_,_,Wk.aD ar,rfl,rfl,Nat.zero_le _⟩
 rintro i _ _ ⟨rfl,rfl,hi⟩
 by_cases ao:i < n
 ·have hd:decide ((i:Int) < ((iq k n).length:Int))=true:=by rw [hm];simpa using ao
  have hr:=Nw (k:=k) ao
  have hs:(((k+i:Nat):Int) != ((k+i:Nat):Int))=false:=by simp
  refine ae ?_;exact ⟨i+1,⟨_,_,Wk.aD ar,rfl,rfl,ao⟩,by show n - (i+1) < n - i;omega⟩
 ·have hd:decide ((i:Int) < ((iq k n).length:Int))=false:=by rw [hm];simpa using ao
  have gV:i=n:=by omega
  subst gV;refine bH ?_;exact aw
section
variable {B:Bs} {K:Fz} {β:Bt} {w:World} {fr:List GV} {l:List Value} {A X C:List Ob}
theorem uv {x y:Operand} {r:List Int} {h:Value} (hI:Inv B K β (A++(X++[.vech 3 1 (aZ r) h])) w) (hF:FR K β fr l) (hx:aV fr x=.v h) (hy:aV fr y=ints r) :
  ∃ K1,ir K1 w/\fQ K1 (fun _=>.no) w/\bb K1 (fun _=>.no) ([x,y].map (ev l)) [ints r,ints r]:=by
 obtain ⟨K1,hk,h1,h2,h3⟩:=hI.view (i:=A.length+X.length) (E:=3) (k:=1) (rows:=aZ r) (x:=h) (by rw [<-append_assoc,getElem?_append_right (by rw [length_append];exact Nat.le_refl _),length_append,Nat.sub_self];rfl);have hr:=hF.ev y;rw [hy] at hr;refine ⟨K1,h1,h2,?_⟩;show bb K1 _ [ev l x,ev l y] _;rw [hF.gy hx];exact .cons h3 (.cons ((hr.mono hk (cZ.refl β)).pc rfl) .nil)
theorem Ep {x y:Operand} {r:List Int} {h:Value} {o:Ob} (hI:Inv B K β (A++(X++[o,.vech 3 1 (aZ r) h])) w) (hF:FR K β fr l) (hx:aV fr x=.v h) (hy:aV fr y=ints r) :
  ∃ K1,ir K1 w/\fQ K1 (fun _=>.no) w/\bb K1 (fun _=>.no) ([x,y].map (ev l)) [ints r,ints r]:=by
 refine uv (B:=B) (A:=A) (X:=X++[o]) (h:=h) ?_ hF hx hy;rw [append_assoc];exact hI
theorem wM {x y:Operand} {n:Nat} {h z:Value} (hI:Inv B K β (A++(X++(.vech 3 1 (iq 1 n) h::C))) w) (hF:FR K β fr l) (hx:aV fr x=.v h) (hy:aV fr y=.v z) :
  ∃ K1,ir K1 w/\fQ K1 (fun _=>.no) w/\bb K1 (fun _=>.no) ([x,y].map (ev l)) [.sl 1 (iq 1 n),.v z]:=by
 obtain ⟨K1,hk,h1,h2,h3⟩:=hI.view (i:=A.length+X.length) (E:=3) (k:=1) (rows:=iq 1 n) (x:=h) (by rw [<-append_assoc,getElem?_append_right (by rw [length_append];exact Nat.le_refl _),length_append,Nat.sub_self];rfl);refine ⟨K1,h1,h2,?_⟩;show bb K1 _ [ev l x,ev l y] _;rw [hF.gy hx,hF.gy hy];exact .cons h3 (.cons (.v _) .nil)
end
theorem Pt (l:List Int):(aZ l).length=l.length:=by simp [aZ]
end Go.Xg
namespace Go.Xg
open Go.RowKit Go.Xw Go.Proofs
open Go.Sp (Src)
open Go.Im
attribute [local irreducible] GW GL GO YG GC GA aY ba
theorem vI (p:Src) (hS:GF Tryz.prog 10 [.agg (ay p),.v (ii 1048576)] [] (.v (ii (-1))) []):GF Tryz.prog 8 [.agg (ay p)] [] (.v (.bool true)) []:=by
 refine aj Tryz.func8 Tryz.ntmps8 ?_;refine ab [] hS ?_;exact al
theorem xb (p:Src) (n:Nat) (r:List Int) (hw:dB p<=1048576) (hr:r.length<=1048576) (hS:GF Tryz.prog 10 [.agg (ay p),.v (ii 1048576)] [] (.v (ii (n:Nat))) [])
  (hT:GF Tryz.prog 12 [.agg (ay p)] [] (.agg (ay p)) [])
  (hO:GC Tryz.prog 12 [.agg (ay p)] [] fun g Δ=>∃ hg ha hf hn fs ns,BI p hg ha hf hn fs ns/\g=.agg [.v hg,.v ha,.v hf,.v hn]/\Δ=jn p hg ha hf hn fs ns)
  (hG:GF Tryz.prog 30 [.agg (ay p)] [] (ints r) [])
  (hI:GC Tryz.prog 31 [.agg (ay p)] [] fun g Δ=>∃ a c,g=.v (.slice a r.length c)/\Δ=[.vech 3 1 (aZ r) (.slice a r.length c)])
  (hE:GF Tryz.prog 14 [.agg (ay p),.agg (ay p)] [] (.v (.bool true)) []) :
  GF Tryz.prog 8 [.agg (ay p)] [] (.v (.bool true)) []:=by
 have hd:decide (((n:Nat):Int) < 0)=false:=by simp
 have hQ:=Ez r hr;have hMk:=Kj;have Xv:=JO 1 r.length ah;have dr:decide (((1+r.length:Nat):Int) < 0)=false:=decide_eq_false ah
 have AV:(((1+r.length:Nat):Int) != ((1+r.length:Nat):Int))=false:=by simp
 have vb:=Pt r;refine aj Tryz.func8 Tryz.ntmps8 ?_;refine ab [] hS ?_;refine ab [] hT ?_;refine ab [] hG ?_;refine cv [] hO ?_;rintro _ _ ⟨hg,ha,hf,hn,fs,ns,H,rfl,rfl⟩;have XB:=Aj p hg ha hf hn fs ns;have hM:=FI p hg ha hf hn fs ns H 1 hw ah;have hV:=@Ak;obtain ⟨⟨q0,q1,rfl⟩,⟨q2,q3,rfl⟩,⟨q4,q5,rfl⟩,⟨q6,q7,rfl⟩,hH1,Ug,Uh,hH4⟩:=id H;rw [IH XB];refine c8 ?_;refine GL.Ko rfl rfl rfl rfl rfl rfl rfl ?_;refine b8 ?_;refine ae ?_;refine GL.R4 hI vb (fun r hr g hg=>by obtain ⟨s,_,rfl⟩:=List.mem_map.1 hr;rw [List.mem_singleton.1 hg];exact ⟨_,rfl⟩) (fun B K β w l hI hF=>G0 H (A:=[_]) (C:=[]) (by rw [append_nil];exact hI) hF rfl) ?_;intro ag cg;refine b8 ?_;refine ae ?_;refine GL.borrow hQ (fun B K β w l hI hF=>uv (A:=[_]) (X:=jn p _ _ _ _ fs ns) hI hF rfl rfl) ?_;refine b8 ?_;refine ae ?_;refine aJ (.q 0 (.q 1 (.a 2 (.a 3 (.q 4 .nil))))) ?_;refine au ?_;refine wJ [] hT ?_;simp only [append_nil];refine au ?_;refine OA rfl rfl (GL.borrow hE (fun B K β w l hI hF=>G1 H (A:=[_]) hI hF rfl rfl) ?_);refine dj ?_;refine bg ?_;refine GL.sc [_] (jn p _ _ _ _ fs ns) [_] hM rfl XB (fun _=>rfl) (me) ?_;rintro _ Δ ⟨k',rfl,hΔ,Zu⟩;refine ⟨hΔ,Zu,fun _=>rfl,?_⟩
 have hdk:decide (((k':Nat):Int) < 0)=false:=by simp
 refine b8 ?_;refine ae ?_;refine GL.borrow hQ (fun B K β w l hI hF=>uv (A:=[_]) (X:=Δ) hI hF rfl rfl) ?_;refine b8 ?_;refine ae ?_;refine GL.sc (_::Δ) [_] [] (hMk ag cg r.length 1 (aZ r) vb ah) rfl (by intro x hx;rw [List.mem_singleton.1 hx];rfl) (fun _=>rfl) (me) ?_;rintro _ _ ⟨rfl,rfl⟩;refine ⟨rfl,by intro x hx;rw [List.mem_singleton.1 hx];rfl,fun _=>rfl,?_⟩;refine b8 ?_;refine ae ?_;refine GL.borrow Xv (fun B K β w l hI hF=>wM (A:=[_]) (X:=Δ) (C:=[]) hI hF rfl rfl) ?_;refine b8 ?_;refine ae ?_;refine gQ [] hT ?_;simp only [append_nil];refine ae ?_;refine cv [] hI ?_;rintro _ _ ⟨a2,c2,rfl,rfl⟩;refine c8 ?_;refine ae ?_;refine GL.borrow hQ (fun B K β w l hI hF=>by rw [append_assoc] at hI;exact Ep (A:=[_]) (X:=Δ) hI hF rfl rfl) ?_;refine b8 ?_;refine ae ?_;refine GL.borrow Xv (fun B K β w l hI hF=>by rw [append_assoc] at hI;exact wM (A:=[_]) (X:=Δ) hI hF rfl rfl) ?_;refine b8 ?_;exact aw
theorem xc (p:Src) (hb:Small p 9223372036854775807) (hn:xe p):GF Tryz.prog 8 [.agg (ay p)] [] (.v (.bool true)) []:=by
 have hS:=KQ p hb
 by_cases hw:1048576 < dB p
 ·rw [dJ hw] at hS;exact vI p hS
 ·rw [gq ah] at hS
  have hw:dB p<=1048576:=by omega
  obtain ⟨⟨a1,a2⟩,⟨b1,b2⟩,⟨c1,c2⟩,⟨d1,d2⟩⟩:=fg p
  have AX:∀ f∈p.fns,f.params.length<=1048576:=fun f h=>by have:=(c2 f h).2.1;omega
  have xH:∀ n∈p.nodes,n.kids.length<=1048576:=fun n h=>by have:=(d2 n h).2;omega
  exact xb p _ (rX p) hw (Nl hw) hS (KT p ah ah ah AX ah xH) (KU p ah ah ah AX ah xH) (GX p hw) (GY p hw hn) (JG p ah ah ah AX ah xH)
end Go.Xg
