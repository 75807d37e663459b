/- Part 10 of proofs that are told in their last texts. -/
import Derived.Test.YtcoplmnahnipiaaGreatDoorY2
import Derived.Test.YtcoplmnahnipiaaGreatDoorY5
open List (getElem?_map mem_of_getElem? take_length)
set_option linter.unusedVariables false
set_option linter.unusedSimpArgs false
set_option maxRecDepth 100000
set_option maxHeartbeats 2000000
namespace Go.Xg
open Go.RowKit Go.Xw Go.Proofs
open Go.Xp (Nd Ar)
open Go.Sp (Src)
open Go.Im (wS cM aZ nc rK fc c7 nb kp na)
attribute [local irreducible] GW GL GO YG GC GA aS aW
theorem P3 (l:List Int) (left:Nat) (hl:l.length<=9223372036854775807) (we:left<=1048576):GF Tryz.prog 128 [ints l,.v (ii (left:Nat))] [] (.v (ii (rK l.length left))) []:=by
 have hm:(l.map fun i=>[GV.v (ii i)]).length=l.length:=by simp
 by_cases h0:left < l.length
 ·have hd:decide ((left:Int) - ((l.map fun i=>[GV.v (ii i)]).length:Int) < 0)=true:=by rw [hm];simpa using by omega
  rw [c7 h0];refine ai Tryz.func128 Tryz.ntmps128 ?_;exact ao
 ·have hd:decide ((left:Int) - ((l.map fun i=>[GV.v (ii i)]).length:Int) < 0)=false:=by rw [hm];simpa using by omega
  rw [fc ae,show ((left - l.length:Nat):Int)=(left:Int) - ((l.map fun i=>[GV.v (ii i)]).length:Int) by rw [hm];omega];refine ai Tryz.func128 Tryz.ntmps128 ?_;exact ao
theorem zN (l:List ah) (left:Nat) (hl:l.length<=9223372036854775807) (he:∀ x∈l,x.length<=9223372036854775807) (we:left<=1048576):GF Tryz.prog 35 [strs l,.v (ii (left:Nat))] [] (.v (ii (rK (wS l) left))) []:=by
 have hm:(l.map (fun s=>[GV.v (sv s)])).length=l.length:=by simp
 have ht:wS l=l.length+aZ (fun x:ah=>x.length) l:=nb _ l
 by_cases h0:left < l.length
 ·have hd:decide ((left:Int) - ((l.map (fun s=>[GV.v (sv s)])).length:Int) < 0)=true:=by rw [hm];simpa using by omega
  rw [c7 ae];refine ai Tryz.func35 Tryz.ntmps35 ?_;exact ao
 have hd:decide ((left:Int) - ((l.map (fun s=>[GV.v (sv s)])).length:Int) < 0)=false:=by rw [hm];simpa using by omega
 rw [ht];refine ai Tryz.func35 Tryz.ntmps35 ?_;refine GW.loop (fun k:Nat × Int=>l.length - k.1) (fun k fr Γ=>fr=[strs l,.v (ii k.2),.aaF,.aaF,.aaF,.v (ii (k.1:Nat)),.aaF,.aaF,.aaF,.aaF,.aaF,.aaF,.aaF,.aaF,.aaF,.aaF,.aaF,.aaF,.aaF,.aaF,.aaF,.aaF,.aaF,.aaF,.aaF,.aaF,.aaF,.aaF]/\Γ=[]/\k.1<=l.length/\k.2=(left:Int) - ((l.length+aZ (fun x:ah=>x.length) (l.take k.1):Nat):Int)/\0<=k.2) (0,(left:Int) - ((l.map (fun s=>[GV.v (sv s)])).length:Int)) ?_ ?_
 ·exact ⟨_,_,Wk.aw al,rfl,rfl,Nat.zero_le _,by rw [hm];simp [aZ],by rw [hm];simp only;omega⟩
 rintro ⟨k,z⟩ _ _ ⟨rfl,rfl,hk,hz,Fm⟩;simp only at hk hz Fm
 have Uv:z<=1048576:=by omega
 by_cases aq:k < l.length
 ·have hx:l[k]?=some l[k]:=by simp [aq]
  have hr:(l.map (fun s=>[GV.v (sv s)]))[k]?=some ([GV.v (sv l[k])]):=by rw [getElem?_map,hx];rfl
  have dc:decide ((k:Int) < ((l.map (fun s=>[GV.v (sv s)])).length:Int))=true:=by rw [hm];simpa using aq
  have jJ:=kp (w:=fun x:ah=>x.length) hx;have hle:=nc (fun x:ah=>x.length) l (k+1);have hex:=he _ (mem_of_getElem? hx);generalize l[k]=x at *
  by_cases h1:z < ((x.length:Nat):Int)
  ·have zx:decide (z - ((x.length:Nat):Int) < 0)=true:=by simpa using by omega
   rw [c7 ae];exact av
  ·have zx:decide (z - ((x.length:Nat):Int) < 0)=false:=by simpa using by omega
   refine ab ?_;exact ⟨(k+1,z - ((x.length:Nat):Int)),⟨_,_,Wk.aw al,rfl,rfl,aq,by simp only;omega,by simp only;omega⟩,by simp only;omega⟩
 ·have dc:decide ((k:Int) < ((l.map (fun s=>[GV.v (sv s)])).length:Int))=false:=by rw [hm];simpa using aq
  have kZ:k=l.length:=by omega
  subst kZ;rw [take_length] at hz;rw [fc ae,show ((left - (l.length+aZ (fun x:ah=>x.length) l):Nat):Int)=z by omega];refine ab ?_;refine aU ?_;exact av
theorem NU (x:Ar) (left:Nat) (hs:x.name.length<=9223372036854775807) (we:left<=1048576):GF Tryz.prog 94 [.agg (aB x),.v (ii (left:Nat))] [] (.v (ii (rK (x.name.length) left))) []:=by
 by_cases h0:left < x.name.length
 ·have hd:decide ((left:Int) - ((x.name.length:Nat):Int) < 0)=true:=by simpa using by omega
  rw [c7 ae];refine ai Tryz.func94 Tryz.ntmps94 ?_;exact ao
 have hd:decide ((left:Int) - ((x.name.length:Nat):Int) < 0)=false:=by simpa using by omega
 rw [fc ae,show ((left - (x.name.length):Nat):Int)=(left:Int) - ((x.name.length:Nat):Int) by omega];refine ai Tryz.func94 Tryz.ntmps94 ?_;exact ao
theorem KZ (l:List Ar) (left:Nat) (hl:l.length<=9223372036854775807) (he:∀ x∈l,x.name.length<=9223372036854775807) (we:left<=1048576):GF Tryz.prog 36 [.sl 2 (l.map aB),.v (ii (left:Nat))] [] (.v (ii (rK (aZ (fun a:Ar=>a.name.length+1) l) left))) []:=by
 have hm:(l.map aB).length=l.length:=by simp
 have ht:aZ (fun a:Ar=>a.name.length+1) l=l.length+aZ (fun x:Ar=>x.name.length) l:=nb _ l
 by_cases h0:left < l.length
 ·have hd:decide ((left:Int) - ((l.map aB).length:Int) < 0)=true:=by rw [hm];simpa using by omega
  rw [c7 ae];refine ai Tryz.func36 Tryz.ntmps36 ?_;exact ao
 have hd:decide ((left:Int) - ((l.map aB).length:Int) < 0)=false:=by rw [hm];simpa using by omega
 rw [ht];refine ai Tryz.func36 Tryz.ntmps36 ?_;refine GW.loop (fun k:Nat × Int=>l.length - k.1) (fun k fr Γ=>fr=[.sl 2 (l.map aB),.v (ii k.2),.aaF,.aaF,.aaF,.v (ii (k.1:Nat)),.aaF,.aaF,.aaF,.aaF,.aaF,.aaF,.aaF,.aaF,.aaF,.aaF,.aaF,.aaF,.aaF,.aaF,.aaF,.aaF,.aaF,.aaF,.aaF,.aaF,.aaF]/\Γ=[]/\k.1<=l.length/\k.2=(left:Int) - ((l.length+aZ (fun x:Ar=>x.name.length) (l.take k.1):Nat):Int)/\0<=k.2) (0,(left:Int) - ((l.map aB).length:Int)) ?_ ?_
 ·exact ⟨_,_,Wk.aw al,rfl,rfl,Nat.zero_le _,by rw [hm];simp [aZ],by rw [hm];simp only;omega⟩
 rintro ⟨k,z⟩ _ _ ⟨rfl,rfl,hk,hz,Fm⟩;simp only at hk hz Fm
 have Uv:z<=1048576:=by omega
 by_cases aq:k < l.length
 ·have hx:l[k]?=some l[k]:=by simp [aq]
  have hr:(l.map aB)[k]?=some (aB l[k]):=by rw [getElem?_map,hx];rfl
  have dc:decide ((k:Int) < ((l.map aB).length:Int))=true:=by rw [hm];simpa using aq
  have jJ:=kp (w:=fun x:Ar=>x.name.length) hx;have hle:=nc (fun x:Ar=>x.name.length) l (k+1);have hex:=he _ (mem_of_getElem? hx);generalize l[k]=x at *;obtain ⟨y,rfl⟩:∃ y:Nat,z=(y:Int):=⟨z.toNat,by omega⟩;have hc:=NU x y ae ae
  by_cases h1:y < x.name.length
  ·rw [c7 h1] at hc;rw [c7 ae];refine ab ?_;refine U [] (hc) ?_;exact ao
  ·rw [fc ae] at hc
   have zx:decide (((y - (x.name.length):Nat):Int) < 0)=false:=by simp
   refine ab ?_;refine U [] (hc) ?_;exact ⟨(k+1,((y - (x.name.length):Nat):Int)),⟨_,_,Wk.aw al,rfl,rfl,aq,by simp only;omega,by simp only;omega⟩,by simp only;omega⟩
 ·have dc:decide ((k:Int) < ((l.map aB).length:Int))=false:=by rw [hm];simpa using aq
  have kZ:k=l.length:=by omega
  subst kZ;rw [take_length] at hz;rw [fc ae,show ((left - (l.length+aZ (fun x:Ar=>x.name.length) l):Nat):Int)=z by omega];refine ab ?_;refine aU ?_;exact av
theorem Vf (x:Go.Sp.Fn) (left:Nat) (hs:x.name.length<=9223372036854775807) (hp:x.params.length<=9223372036854775807) (hq:∀ s∈x.params,s.length<=9223372036854775807) (we:left<=1048576):GF Tryz.prog 95 [.agg (au x),.v (ii (left:Nat))] [] (.v (ii (rK (x.name.length+wS x.params) left))) []:=by
 by_cases h0:left < x.name.length
 ·have hd:decide ((left:Int) - ((x.name.length:Nat):Int) < 0)=true:=by simpa using by omega
  rw [c7 ae];refine ai Tryz.func95 Tryz.ntmps95 ?_;exact ao
 have hd:decide ((left:Int) - ((x.name.length:Nat):Int) < 0)=false:=by simpa using by omega
 have hc:=zN x.params (left - x.name.length) hp hq ae;rw [show ((left - x.name.length:Nat):Int)=(left:Int) - ((x.name.length:Nat):Int) by omega] at hc
 by_cases h1:left - x.name.length < wS x.params
 ·rw [c7 ae] at hc |-;refine ai Tryz.func95 Tryz.ntmps95 ?_;refine U [] (hc) ?_;exact ao
 ·rw [fc ae] at hc |-;rw [show left - x.name.length - wS x.params=left - (x.name.length+wS x.params) by omega] at hc
  have dc:decide (((left - (x.name.length+wS x.params):Nat):Int) < 0)=false:=by simp
  refine ai Tryz.func95 Tryz.ntmps95 ?_;refine U [] (hc) ?_;exact ao
theorem SO (l:List Go.Sp.Fn) (left:Nat) (hl:l.length<=9223372036854775807) (he:∀ x∈l,x.name.length<=9223372036854775807/\x.params.length<=9223372036854775807/\∀ s∈x.params,s.length<=9223372036854775807) (we:left<=1048576):GF Tryz.prog 37 [.sl 3 (l.map au),.v (ii (left:Nat))] [] (.v (ii (rK (aZ (fun f:Go.Sp.Fn=>f.name.length+wS f.params+1) l) left))) []:=by
 have hm:(l.map au).length=l.length:=by simp
 have ht:aZ (fun f:Go.Sp.Fn=>f.name.length+wS f.params+1) l=l.length+aZ (fun x:Go.Sp.Fn=>x.name.length+wS x.params) l:=nb _ l
 by_cases h0:left < l.length
 ·have hd:decide ((left:Int) - ((l.map au).length:Int) < 0)=true:=by rw [hm];simpa using by omega
  rw [c7 ae];refine ai Tryz.func37 Tryz.ntmps37 ?_;exact ao
 have hd:decide ((left:Int) - ((l.map au).length:Int) < 0)=false:=by rw [hm];simpa using by omega
 rw [ht];refine ai Tryz.func37 Tryz.ntmps37 ?_;refine GW.loop (fun k:Nat × Int=>l.length - k.1) (fun k fr Γ=>fr=[.sl 3 (l.map au),.v (ii k.2),.aaF,.aaF,.aaF,.v (ii (k.1:Nat)),.aaF,.aaF,.aaF,.aaF,.aaF,.aaF,.aaF,.aaF,.aaF,.aaF,.aaF,.aaF,.aaF,.aaF,.aaF,.aaF,.aaF,.aaF,.aaF,.aaF,.aaF]/\Γ=[]/\k.1<=l.length/\k.2=(left:Int) - ((l.length+aZ (fun x:Go.Sp.Fn=>x.name.length+wS x.params) (l.take k.1):Nat):Int)/\0<=k.2) (0,(left:Int) - ((l.map au).length:Int)) ?_ ?_
 ·exact ⟨_,_,Wk.aw al,rfl,rfl,Nat.zero_le _,by rw [hm];simp [aZ],by rw [hm];simp only;omega⟩
 rintro ⟨k,z⟩ _ _ ⟨rfl,rfl,hk,hz,Fm⟩;simp only at hk hz Fm
 have Uv:z<=1048576:=by omega
 by_cases aq:k < l.length
 ·have hx:l[k]?=some l[k]:=by simp [aq]
  have hr:(l.map au)[k]?=some (au l[k]):=by rw [getElem?_map,hx];rfl
  have dc:decide ((k:Int) < ((l.map au).length:Int))=true:=by rw [hm];simpa using aq
  have jJ:=kp (w:=fun x:Go.Sp.Fn=>x.name.length+wS x.params) hx;have hle:=nc (fun x:Go.Sp.Fn=>x.name.length+wS x.params) l (k+1);have hex:=he _ (mem_of_getElem? hx);generalize l[k]=x at *;obtain ⟨y,rfl⟩:∃ y:Nat,z=(y:Int):=⟨z.toNat,by omega⟩;have hc:=Vf x y hex.1 hex.2.1 hex.2.2 ae
  by_cases h1:y < x.name.length+wS x.params
  ·rw [c7 h1] at hc;rw [c7 ae];refine ab ?_;refine U [] (hc) ?_;exact ao
  ·rw [fc ae] at hc
   have zx:decide (((y - (x.name.length+wS x.params):Nat):Int) < 0)=false:=by simp
   refine ab ?_;refine U [] (hc) ?_;exact ⟨(k+1,((y - (x.name.length+wS x.params):Nat):Int)),⟨_,_,Wk.aw al,rfl,rfl,aq,by simp only;omega,by simp only;omega⟩,by simp only;omega⟩
 ·have dc:decide ((k:Int) < ((l.map au).length:Int))=false:=by rw [hm];simpa using aq
  have kZ:k=l.length:=by omega
  subst kZ;rw [take_length] at hz;rw [fc ae,show ((left - (l.length+aZ (fun x:Go.Sp.Fn=>x.name.length+wS x.params) l):Nat):Int)=z by omega];refine ab ?_;refine aU ?_;exact av
theorem P5 (x:Nd) (left:Nat) (hs:x.s.length<=9223372036854775807) (hp:x.kids.length<=9223372036854775807) (we:left<=1048576):GF Tryz.prog 96 [.agg (ax x),.v (ii (left:Nat))] [] (.v (ii (rK (x.s.length+x.kids.length) left))) []:=by
 by_cases h0:left < x.s.length
 ·have hd:decide ((left:Int) - ((x.s.length:Nat):Int) < 0)=true:=by simpa using by omega
  rw [c7 ae];refine ai Tryz.func96 Tryz.ntmps96 ?_;exact ao
 have hd:decide ((left:Int) - ((x.s.length:Nat):Int) < 0)=false:=by simpa using by omega
 have hc:=P3 x.kids (left - x.s.length) hp ae;rw [show ((left - x.s.length:Nat):Int)=(left:Int) - ((x.s.length:Nat):Int) by omega] at hc
 by_cases h1:left - x.s.length < x.kids.length
 ·rw [c7 ae] at hc |-;refine ai Tryz.func96 Tryz.ntmps96 ?_;refine U [] (hc) ?_;exact ao
 ·rw [fc ae] at hc |-;rw [show left - x.s.length - x.kids.length=left - (x.s.length+x.kids.length) by omega] at hc
  have dc:decide (((left - (x.s.length+x.kids.length):Nat):Int) < 0)=false:=by simp
  refine ai Tryz.func96 Tryz.ntmps96 ?_;refine U [] (hc) ?_;exact ao
theorem NV (l:List Nd) (left:Nat) (hl:l.length<=9223372036854775807) (he:∀ x∈l,x.s.length<=9223372036854775807/\x.kids.length<=9223372036854775807) (we:left<=1048576):GF Tryz.prog 38 [.sl 5 (l.map ax),.v (ii (left:Nat))] [] (.v (ii (rK (aZ (fun n:Nd=>n.s.length+n.kids.length+1) l) left))) []:=by
 have hm:(l.map ax).length=l.length:=by simp
 have ht:aZ (fun n:Nd=>n.s.length+n.kids.length+1) l=l.length+aZ (fun x:Nd=>x.s.length+x.kids.length) l:=nb _ l
 by_cases h0:left < l.length
 ·have hd:decide ((left:Int) - ((l.map ax).length:Int) < 0)=true:=by rw [hm];simpa using by omega
  rw [c7 ae];refine ai Tryz.func38 Tryz.ntmps38 ?_;exact ao
 have hd:decide ((left:Int) - ((l.map ax).length:Int) < 0)=false:=by rw [hm];simpa using by omega
 rw [ht];refine ai Tryz.func38 Tryz.ntmps38 ?_;refine GW.loop (fun k:Nat × Int=>l.length - k.1) (fun k fr Γ=>fr=[.sl 5 (l.map ax),.v (ii k.2),.aaF,.aaF,.aaF,.v (ii (k.1:Nat)),.aaF,.aaF,.aaF,.aaF,.aaF,.aaF,.aaF,.aaF,.aaF,.aaF,.aaF,.aaF,.aaF,.aaF,.aaF,.aaF,.aaF,.aaF,.aaF,.aaF,.aaF]/\Γ=[]/\k.1<=l.length/\k.2=(left:Int) - ((l.length+aZ (fun x:Nd=>x.s.length+x.kids.length) (l.take k.1):Nat):Int)/\0<=k.2) (0,(left:Int) - ((l.map ax).length:Int)) ?_ ?_
 ·exact ⟨_,_,Wk.aw al,rfl,rfl,Nat.zero_le _,by rw [hm];simp [aZ],by rw [hm];simp only;omega⟩
 rintro ⟨k,z⟩ _ _ ⟨rfl,rfl,hk,hz,Fm⟩;simp only at hk hz Fm
 have Uv:z<=1048576:=by omega
 by_cases aq:k < l.length
 ·have hx:l[k]?=some l[k]:=by simp [aq]
  have hr:(l.map ax)[k]?=some (ax l[k]):=by rw [getElem?_map,hx];rfl
  have dc:decide ((k:Int) < ((l.map ax).length:Int))=true:=by rw [hm];simpa using aq
  have jJ:=kp (w:=fun x:Nd=>x.s.length+x.kids.length) hx;have hle:=nc (fun x:Nd=>x.s.length+x.kids.length) l (k+1);have hex:=he _ (mem_of_getElem? hx);generalize l[k]=x at *;obtain ⟨y,rfl⟩:∃ y:Nat,z=(y:Int):=⟨z.toNat,by omega⟩;have hc:=P5 x y hex.1 hex.2 ae
  by_cases h1:y < x.s.length+x.kids.length
  ·rw [c7 h1] at hc;rw [c7 ae];refine ab ?_;refine U [] (hc) ?_;exact ao
  ·rw [fc ae] at hc
   have zx:decide (((y - (x.s.length+x.kids.length):Nat):Int) < 0)=false:=by simp
   refine ab ?_;refine U [] (hc) ?_;exact ⟨(k+1,((y - (x.s.length+x.kids.length):Nat):Int)),⟨_,_,Wk.aw al,rfl,rfl,aq,by simp only;omega,by simp only;omega⟩,by simp only;omega⟩
 ·have dc:decide ((k:Int) < ((l.map ax).length:Int))=false:=by rw [hm];simpa using aq
  have kZ:k=l.length:=by omega
  subst kZ;rw [take_length] at hz;rw [fc ae,show ((left - (l.length+aZ (fun x:Nd=>x.s.length+x.kids.length) l):Nat):Int)=z by omega];refine ab ?_;refine aU ?_;exact av
theorem rV (p:Src) (hb:Go.Im.Small p 9223372036854775807):GF Tryz.prog 10 [.agg (ar p),.v (ii 1048576)] [] (.v (ii (rK (cM p) 1048576))) []:=by
 obtain ⟨⟨a1,a2⟩,⟨b1,b2⟩,⟨c1,c2⟩,⟨d1,d2⟩⟩:=hb;have h1:=zN p.globals 1048576 a1 a2 (Nat.le_refl _);unfold cM;generalize wS p.globals=w1 at *
 by_cases q1:1048576 < w1
 ·rw [c7 q1] at h1;rw [c7 ae];refine ai Tryz.func10 Tryz.ntmps10 ?_;refine U [] (h1) ?_;exact ao
 rw [fc ae] at h1
 have e1:decide (((1048576 - w1:Nat):Int) < 0)=false:=by simp
 have h2:=KZ p.arrays (1048576 - w1) b1 b2 ae;generalize aZ (fun a:Ar=>a.name.length+1) p.arrays=w2 at *
 by_cases q2:1048576 - w1 < w2
 ·rw [c7 q2] at h2;rw [c7 ae];refine ai Tryz.func10 Tryz.ntmps10 ?_;refine U [] (h1) ?_;refine U [] (h2) ?_;exact ao
 rw [fc ae] at h2
 have e2:decide (((1048576 - w1 - w2:Nat):Int) < 0)=false:=by simp
 have h3:=SO p.fns (1048576 - w1 - w2) c1 c2 ae;generalize aZ (fun f:Go.Sp.Fn=>f.name.length+wS f.params+1) p.fns=w3 at *
 by_cases q3:1048576 - w1 - w2 < w3
 ·rw [c7 q3] at h3;rw [c7 ae];refine ai Tryz.func10 Tryz.ntmps10 ?_;refine U [] (h1) ?_;refine U [] (h2) ?_;refine U [] (h3) ?_;exact ao
 rw [fc ae] at h3
 have e3:decide (((1048576 - w1 - w2 - w3:Nat):Int) < 0)=false:=by simp
 have h4:=NV p.nodes (1048576 - w1 - w2 - w3) d1 d2 ae;generalize aZ (fun n:Nd=>n.s.length+n.kids.length+1) p.nodes=w4 at *
 by_cases q4:1048576 - w1 - w2 - w3 < w4
 ·rw [c7 q4] at h4;rw [c7 ae];refine ai Tryz.func10 Tryz.ntmps10 ?_;refine U [] (h1) ?_;refine U [] (h2) ?_;refine U [] (h3) ?_;refine U [] (h4) ?_;exact ao
 rw [fc ae] at h4
 have e4:decide (((1048576 - w1 - w2 - w3 - w4:Nat):Int) < 0)=false:=by simp
 rw [fc ae,show 1048576 - (w1+w2+w3+w4)=1048576 - w1 - w2 - w3 - w4 by omega];refine ai Tryz.func10 Tryz.ntmps10 ?_;refine U [] (h1) ?_;refine U [] (h2) ?_;refine U [] (h3) ?_;refine U [] (h4) ?_;exact ao
end Go.Xg
namespace Go.Xg
open Go.RowKit Go.Xw Go.Proofs
open Go.Xp (Nd Ar)
open Go.Sp (Src)
open Go.Im (wS cM aZ nc rK fc c7 nb kp na)
attribute [local irreducible] GW GL GO YG GC GA aS aW
theorem Aa (l:List Int) (hl:l.length<=1048576):GF Tryz.prog 19 [ints l,ints l] [] (.v (.bool true)) []:=by
 have hm:(l.map (fun i=>[GV.v (ii i)])).length=l.length:=by simp
 have hd:(((l.map (fun i=>[GV.v (ii i)])).length:Int) != ((l.map (fun i=>[GV.v (ii i)])).length:Int))=false:=by simp
 refine ai Tryz.func19 Tryz.ntmps19 ?_;refine GW.loop (fun k:Nat=>l.length - k) (fun k fr Γ=>fr=[ints l,ints l,.aaF,.aaF,.aaF,.v (ii (k:Nat)),.aaF,.aaF,.aaF,.aaF,.aaF,.aaF,.aaF,.aaF,.aaF,.aaF,.aaF,.aaF,.aaF,.aaF,.aaF,.aaF,.aaF,.aaF,.aaF,.aaF]/\Γ=[]/\k<=l.length) 0 ?_ ?_
 ·exact ⟨_,_,Wk.aw al,rfl,rfl,Nat.zero_le _⟩
 rintro k _ _ ⟨rfl,rfl,hk⟩
 by_cases aq:k < l.length
 ·have hx:l[k]?=some l[k]:=by simp [aq]
  have hr:(l.map (fun i=>[GV.v (ii i)]))[k]?=some ([GV.v (ii l[k])]):=by rw [getElem?_map,hx];rfl
  have dc:decide ((k:Int) < ((l.map (fun i=>[GV.v (ii i)])).length:Int))=true:=by rw [hm];simpa using aq
  generalize l[k]=x at *
  have hs:(x != x)=false:=by simp
  refine ab ?_;refine GW.draw (.q 0 (.q 1 (.q 2 (.q 3 (.q 4 (.q 5 (.q 6 (.q 7 (.q 8 .nil))))))))) (by kernel_rfl) (by kernel_rfl) ?_;refine aj ?_;refine ab ?_;exact ⟨k+1,⟨_,_,Wk.aw al,rfl,rfl,aq⟩,by show l.length - (k+1) < l.length - k;omega⟩
 ·have dc:decide ((k:Int) < ((l.map (fun i=>[GV.v (ii i)])).length:Int))=false:=by rw [hm];simpa using aq
  refine ab ?_;refine aU ?_;exact av
theorem zo (l:List ah) (hl:l.length<=1048576):GF Tryz.prog 47 [strs l,strs l] [] (.v (.bool true)) []:=by
 have hm:(l.map (fun s=>[GV.v (sv s)])).length=l.length:=by simp
 have hd:(((l.map (fun s=>[GV.v (sv s)])).length:Int) != ((l.map (fun s=>[GV.v (sv s)])).length:Int))=false:=by simp
 refine ai Tryz.func47 Tryz.ntmps47 ?_;refine GW.loop (fun k:Nat=>l.length - k) (fun k fr Γ=>fr=[strs l,strs l,.aaF,.aaF,.aaF,.v (ii (k:Nat)),.aaF,.aaF,.aaF,.aaF,.aaF,.aaF,.aaF,.aaF,.aaF,.aaF,.aaF,.aaF,.aaF,.aaF,.aaF,.aaF,.aaF,.aaF,.aaF,.aaF]/\Γ=[]/\k<=l.length) 0 ?_ ?_
 ·exact ⟨_,_,Wk.aw al,rfl,rfl,Nat.zero_le _⟩
 rintro k _ _ ⟨rfl,rfl,hk⟩
 by_cases aq:k < l.length
 ·have hx:l[k]?=some l[k]:=by simp [aq]
  have hr:(l.map (fun s=>[GV.v (sv s)]))[k]?=some ([GV.v (sv l[k])]):=by rw [getElem?_map,hx];rfl
  have dc:decide ((k:Int) < ((l.map (fun s=>[GV.v (sv s)])).length:Int))=true:=by rw [hm];simpa using aq
  generalize l[k]=x at *
  have hs:(!(x==x))=false:=by simp
  refine ab ?_;refine GW.draw (.q 0 (.q 1 (.q 2 (.q 3 (.q 4 (.q 5 (.q 6 (.q 7 (.q 8 .nil))))))))) (by kernel_rfl) (by kernel_rfl) ?_;refine aj ?_;refine ab ?_;exact ⟨k+1,⟨_,_,Wk.aw al,rfl,rfl,aq⟩,by show l.length - (k+1) < l.length - k;omega⟩
 ·have dc:decide ((k:Int) < ((l.map (fun s=>[GV.v (sv s)])).length:Int))=false:=by rw [hm];simpa using aq
  refine ab ?_;refine aU ?_;exact av
theorem LZ (x:Ar):GF Tryz.prog 107 [.agg (aB x),.agg (aB x)] [] (.v (.bool true)) []:=by
 have e0:(!(x.name==x.name))=false:=by simp
 have e1:(x.size != x.size)=false:=by simp
 refine ai Tryz.func107 Tryz.ntmps107 ?_;exact ao
theorem JV (l:List Ar) (hl:l.length<=1048576):GF Tryz.prog 48 [.sl 2 (l.map aB),.sl 2 (l.map aB)] [] (.v (.bool true)) []:=by
 have hm:(l.map aB).length=l.length:=by simp
 have hd:(((l.map aB).length:Int) != ((l.map aB).length:Int))=false:=by simp
 refine ai Tryz.func48 Tryz.ntmps48 ?_;refine GW.loop (fun k:Nat=>l.length - k) (fun k fr Γ=>fr=[.sl 2 (l.map aB),.sl 2 (l.map aB),.aaF,.aaF,.aaF,.v (ii (k:Nat)),.aaF,.aaF,.aaF,.aaF,.aaF,.aaF,.aaF,.aaF,.aaF,.aaF,.aaF,.aaF,.aaF,.aaF,.aaF,.aaF,.aaF,.aaF,.aaF,.aaF,.aaF]/\Γ=[]/\k<=l.length) 0 ?_ ?_
 ·exact ⟨_,_,Wk.aw al,rfl,rfl,Nat.zero_le _⟩
 rintro k _ _ ⟨rfl,rfl,hk⟩
 by_cases aq:k < l.length
 ·have hx:l[k]?=some l[k]:=by simp [aq]
  have hr:(l.map aB)[k]?=some (aB l[k]):=by rw [getElem?_map,hx];rfl
  have dc:decide ((k:Int) < ((l.map aB).length:Int))=true:=by rw [hm];simpa using aq
  have hc:=LZ l[k];generalize l[k]=x at *;refine ab ?_;refine GW.draw (.q 0 (.q 1 (.q 2 (.q 3 (.q 4 (.q 5 (.q 6 (.q 7 (.a 8 (.q 9 .nil)))))))))) (by kernel_rfl) (by kernel_rfl) ?_;refine aj ?_;refine az [] (hc) ?_;refine ab ?_;exact ⟨k+1,⟨_,_,Wk.aw al,rfl,rfl,aq⟩,by show l.length - (k+1) < l.length - k;omega⟩
 ·have dc:decide ((k:Int) < ((l.map aB).length:Int))=false:=by rw [hm];simpa using aq
  refine ab ?_;refine aU ?_;exact av
theorem Ti (x:Go.Sp.Fn) (hp:x.params.length<=1048576):GF Tryz.prog 108 [.agg (au x),.agg (au x)] [] (.v (.bool true)) []:=by
 have e0:(!(x.name==x.name))=false:=by simp
 have e1:(x.body != x.body)=false:=by simp
 have h0:=zo x.params hp;refine ai Tryz.func108 Tryz.ntmps108 ?_;refine U [] (h0) ?_;exact ao
theorem RR (l:List Go.Sp.Fn) (hl:l.length<=1048576) (he:∀ x∈l,x.params.length<=1048576):GF Tryz.prog 49 [.sl 3 (l.map au),.sl 3 (l.map au)] [] (.v (.bool true)) []:=by
 have hm:(l.map au).length=l.length:=by simp
 have hd:(((l.map au).length:Int) != ((l.map au).length:Int))=false:=by simp
 refine ai Tryz.func49 Tryz.ntmps49 ?_;refine GW.loop (fun k:Nat=>l.length - k) (fun k fr Γ=>fr=[.sl 3 (l.map au),.sl 3 (l.map au),.aaF,.aaF,.aaF,.v (ii (k:Nat)),.aaF,.aaF,.aaF,.aaF,.aaF,.aaF,.aaF,.aaF,.aaF,.aaF,.aaF,.aaF,.aaF,.aaF,.aaF,.aaF,.aaF,.aaF,.aaF,.aaF,.aaF]/\Γ=[]/\k<=l.length) 0 ?_ ?_
 ·exact ⟨_,_,Wk.aw al,rfl,rfl,Nat.zero_le _⟩
 rintro k _ _ ⟨rfl,rfl,hk⟩
 by_cases aq:k < l.length
 ·have hx:l[k]?=some l[k]:=by simp [aq]
  have hr:(l.map au)[k]?=some (au l[k]):=by rw [getElem?_map,hx];rfl
  have dc:decide ((k:Int) < ((l.map au).length:Int))=true:=by rw [hm];simpa using aq
  have hex:=he _ (mem_of_getElem? hx);have hc:=Ti l[k] hex;generalize l[k]=x at *;refine ab ?_;refine GW.draw (.q 0 (.q 1 (.q 2 (.q 3 (.q 4 (.q 5 (.q 6 (.q 7 (.a 8 (.q 9 .nil)))))))))) (by kernel_rfl) (by kernel_rfl) ?_;refine aj ?_;refine az [] (hc) ?_;refine ab ?_;exact ⟨k+1,⟨_,_,Wk.aw al,rfl,rfl,aq⟩,by show l.length - (k+1) < l.length - k;omega⟩
 ·have dc:decide ((k:Int) < ((l.map au).length:Int))=false:=by rw [hm];simpa using aq
  refine ab ?_;refine aU ?_;exact av
theorem OO (x:Nd) (hp:x.kids.length<=1048576):GF Tryz.prog 109 [.agg (ax x),.agg (ax x)] [] (.v (.bool true)) []:=by
 have e0:(x.kind != x.kind)=false:=by simp
 have e1:(x.at_ != x.at_)=false:=by simp
 have e2:(x.n != x.n)=false:=by simp
 have e3:(!(x.s==x.s))=false:=by simp
 have h0:=Aa x.kids hp;refine ai Tryz.func109 Tryz.ntmps109 ?_;refine U [] (h0) ?_;exact ao
theorem L1 (l:List Nd) (hl:l.length<=1048576) (he:∀ x∈l,x.kids.length<=1048576):GF Tryz.prog 50 [.sl 5 (l.map ax),.sl 5 (l.map ax)] [] (.v (.bool true)) []:=by
 have hm:(l.map ax).length=l.length:=by simp
 have hd:(((l.map ax).length:Int) != ((l.map ax).length:Int))=false:=by simp
 refine ai Tryz.func50 Tryz.ntmps50 ?_;refine GW.loop (fun k:Nat=>l.length - k) (fun k fr Γ=>fr=[.sl 5 (l.map ax),.sl 5 (l.map ax),.aaF,.aaF,.aaF,.v (ii (k:Nat)),.aaF,.aaF,.aaF,.aaF,.aaF,.aaF,.aaF,.aaF,.aaF,.aaF,.aaF,.aaF,.aaF,.aaF,.aaF,.aaF,.aaF,.aaF,.aaF,.aaF,.aaF]/\Γ=[]/\k<=l.length) 0 ?_ ?_
 ·exact ⟨_,_,Wk.aw al,rfl,rfl,Nat.zero_le _⟩
 rintro k _ _ ⟨rfl,rfl,hk⟩
 by_cases aq:k < l.length
 ·have hx:l[k]?=some l[k]:=by simp [aq]
  have hr:(l.map ax)[k]?=some (ax l[k]):=by rw [getElem?_map,hx];rfl
  have dc:decide ((k:Int) < ((l.map ax).length:Int))=true:=by rw [hm];simpa using aq
  have hex:=he _ (mem_of_getElem? hx);have hc:=OO l[k] hex;generalize l[k]=x at *;refine ab ?_;refine GW.draw (.q 0 (.q 1 (.q 2 (.q 3 (.q 4 (.q 5 (.q 6 (.q 7 (.a 8 (.q 9 .nil)))))))))) (by kernel_rfl) (by kernel_rfl) ?_;refine aj ?_;refine az [] (hc) ?_;refine ab ?_;exact ⟨k+1,⟨_,_,Wk.aw al,rfl,rfl,aq⟩,by show l.length - (k+1) < l.length - k;omega⟩
 ·have dc:decide ((k:Int) < ((l.map ax).length:Int))=false:=by rw [hm];simpa using aq
  refine ab ?_;refine aU ?_;exact av
theorem rO (x:Src) (hg:x.globals.length<=1048576) (ha:x.arrays.length<=1048576) (hf:x.fns.length<=1048576) (pz:∀ f∈x.fns,f.params.length<=1048576) (hn:x.nodes.length<=1048576) (oa:∀ n∈x.nodes,n.kids.length<=1048576):GF Tryz.prog 14 [.agg (ar x),.agg (ar x)] [] (.v (.bool true)) []:=by
 have h0:=zo x.globals hg;have h1:=JV x.arrays ha;have h2:=RR x.fns hf pz;have h3:=L1 x.nodes hn oa;refine ai Tryz.func14 Tryz.ntmps14 ?_;refine U [] (h0) ?_;refine U [] (h1) ?_;refine U [] (h2) ?_;refine U [] (h3) ?_;exact ao
end Go.Xg
