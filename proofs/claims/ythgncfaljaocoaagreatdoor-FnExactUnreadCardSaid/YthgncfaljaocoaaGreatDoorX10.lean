/- Part 10 of proofs that are told in their last texts. -/
import Derived.Test.YthgncfaljaocoaaGreatDoorX2
import Derived.Test.YthgncfaljaocoaaGreatDoorX5
import Derived.Test.YthgncfaljaocoaaGreatDoorX6
import Derived.Test.YthgncfaljaocoaaGreatDoorX7
import Derived.Test.YthgncfaljaocoaaGreatDoorX9
open List (append_assoc append_nil getElem?_append_right getElem?_cons_succ getElem?_eq_getElem getElem?_eq_none getElem?_map getElem?_set length_append length_zipWith map_nil mem_of_getElem? range'_succ take_length)
set_option linter.unusedVariables false
set_option linter.unusedSimpArgs false
set_option maxRecDepth 100000
set_option maxHeartbeats 2000000
namespace Go.Xg
open Go.RowKit Go.Xw Go.Proofs
open Go.Xp (Nd Ar)
open Go.Sp (Src)
open Go.Im (wS ek aY mP qZ fP dF mO ke mN)
attribute [local irreducible] GW GL GO YG GC GA aS aW
theorem NO (l:List Int) (left:Nat) (hl:l.length<=9223372036854775807) (vk:left<=1048576):GF Tryz.prog 79 [ints l,.v (ii (left:Nat))] [] (.v (ii (qZ l.length left))) []:=by
 have hm:(l.map fun i=>[GV.v (ii i)]).length=l.length:=by simp
 by_cases h0:left < l.length
 ·have hd:decide ((left:Int) - ((l.map fun i=>[GV.v (ii i)]).length:Int) < 0)=true:=by rw [hm];simpa using by omega
  rw [dF h0];refine ai Tryz.func79 Tryz.ntmps79 ?_;exact ao
 ·have hd:decide ((left:Int) - ((l.map fun i=>[GV.v (ii i)]).length:Int) < 0)=false:=by rw [hm];simpa using by omega
  rw [fP ah,show ((left - l.length:Nat):Int)=(left:Int) - ((l.map fun i=>[GV.v (ii i)]).length:Int) by rw [hm];omega];refine ai Tryz.func79 Tryz.ntmps79 ?_;exact ao
theorem yk (l:List ae) (left:Nat) (hl:l.length<=9223372036854775807) (he:∀ x∈l,x.length<=9223372036854775807) (vk:left<=1048576):GF Tryz.prog 25 [strs l,.v (ii (left:Nat))] [] (.v (ii (qZ (wS l) left))) []:=by
 have hm:(l.map (fun s=>[GV.v (sv s)])).length=l.length:=by simp
 have ht:wS l=l.length+aY (fun x:ae=>x.length) l:=mO _ l
 by_cases h0:left < l.length
 ·have hd:decide ((left:Int) - ((l.map (fun s=>[GV.v (sv s)])).length:Int) < 0)=true:=by rw [hm];simpa using by omega
  rw [dF ah];refine ai Tryz.func25 Tryz.ntmps25 ?_;exact ao
 have hd:decide ((left:Int) - ((l.map (fun s=>[GV.v (sv s)])).length:Int) < 0)=false:=by rw [hm];simpa using by omega
 rw [ht];refine ai Tryz.func25 Tryz.ntmps25 ?_;refine GW.loop (fun k:Nat × Int=>l.length - k.1) (fun k fr Γ=>fr=[strs l,.v (ii k.2),.Zy,.Zy,.Zy,.v (ii (k.1:Nat)),.Zy,.Zy,.Zy,.Zy,.Zy,.Zy,.Zy,.Zy,.Zy,.Zy,.Zy,.Zy,.Zy,.Zy,.Zy,.Zy,.Zy,.Zy,.Zy,.Zy,.Zy,.Zy]/\Γ=[]/\k.1<=l.length/\k.2=(left:Int) - ((l.length+aY (fun x:ae=>x.length) (l.take k.1):Nat):Int)/\0<=k.2) (0,(left:Int) - ((l.map (fun s=>[GV.v (sv s)])).length:Int)) ?_ ?_
 ·exact ⟨_,_,Wk.ax al,rfl,rfl,Nat.zero_le _,by rw [hm];simp [aY],by rw [hm];simp only;omega⟩
 rintro ⟨k,z⟩ _ _ ⟨rfl,rfl,hk,hz,Di⟩;simp only at hk hz Di
 have Sc:z<=1048576:=by omega
 by_cases aq:k < l.length
 ·have hx:l[k]?=some l[k]:=by simp [aq]
  have hr:(l.map (fun s=>[GV.v (sv s)]))[k]?=some ([GV.v (sv l[k])]):=by rw [getElem?_map,hx];rfl
  have dk:decide ((k:Int) < ((l.map (fun s=>[GV.v (sv s)])).length:Int))=true:=by rw [hm];simpa using aq
  have jz:=ke (w:=fun x:ae=>x.length) hx;have hle:=mP (fun x:ae=>x.length) l (k+1);have hex:=he _ (mem_of_getElem? hx);generalize l[k]=x at *
  by_cases h1:z < ((x.length:Nat):Int)
  ·have zA:decide (z - ((x.length:Nat):Int) < 0)=true:=by simpa using by omega
   rw [dF ah];exact av
  ·have zA:decide (z - ((x.length:Nat):Int) < 0)=false:=by simpa using by omega
   refine ab ?_;exact ⟨(k+1,z - ((x.length:Nat):Int)),⟨_,_,Wk.ax al,rfl,rfl,aq,by simp only;omega,by simp only;omega⟩,by simp only;omega⟩
 ·have dk:decide ((k:Int) < ((l.map (fun s=>[GV.v (sv s)])).length:Int))=false:=by rw [hm];simpa using aq
  have kQ:k=l.length:=by omega
  subst kQ;rw [take_length] at hz;rw [fP ah,show ((left - (l.length+aY (fun x:ae=>x.length) l):Nat):Int)=z by omega];refine ab ?_;refine aU ?_;exact av
theorem LI (x:Ar) (left:Nat) (hs:x.name.length<=9223372036854775807) (vk:left<=1048576):GF Tryz.prog 54 [.agg (az x),.v (ii (left:Nat))] [] (.v (ii (qZ (x.name.length) left))) []:=by
 by_cases h0:left < x.name.length
 ·have hd:decide ((left:Int) - ((x.name.length:Nat):Int) < 0)=true:=by simpa using by omega
  rw [dF ah];refine ai Tryz.func54 Tryz.ntmps54 ?_;exact ao
 have hd:decide ((left:Int) - ((x.name.length:Nat):Int) < 0)=false:=by simpa using by omega
 rw [fP ah,show ((left - (x.name.length):Nat):Int)=(left:Int) - ((x.name.length:Nat):Int) by omega];refine ai Tryz.func54 Tryz.ntmps54 ?_;exact ao
theorem IY (l:List Ar) (left:Nat) (hl:l.length<=9223372036854775807) (he:∀ x∈l,x.name.length<=9223372036854775807) (vk:left<=1048576):GF Tryz.prog 26 [.sl 2 (l.map az),.v (ii (left:Nat))] [] (.v (ii (qZ (aY (fun a:Ar=>a.name.length+1) l) left))) []:=by
 have hm:(l.map az).length=l.length:=by simp
 have ht:aY (fun a:Ar=>a.name.length+1) l=l.length+aY (fun x:Ar=>x.name.length) l:=mO _ l
 by_cases h0:left < l.length
 ·have hd:decide ((left:Int) - ((l.map az).length:Int) < 0)=true:=by rw [hm];simpa using by omega
  rw [dF ah];refine ai Tryz.func26 Tryz.ntmps26 ?_;exact ao
 have hd:decide ((left:Int) - ((l.map az).length:Int) < 0)=false:=by rw [hm];simpa using by omega
 rw [ht];refine ai Tryz.func26 Tryz.ntmps26 ?_;refine GW.loop (fun k:Nat × Int=>l.length - k.1) (fun k fr Γ=>fr=[.sl 2 (l.map az),.v (ii k.2),.Zy,.Zy,.Zy,.v (ii (k.1:Nat)),.Zy,.Zy,.Zy,.Zy,.Zy,.Zy,.Zy,.Zy,.Zy,.Zy,.Zy,.Zy,.Zy,.Zy,.Zy,.Zy,.Zy,.Zy,.Zy,.Zy,.Zy]/\Γ=[]/\k.1<=l.length/\k.2=(left:Int) - ((l.length+aY (fun x:Ar=>x.name.length) (l.take k.1):Nat):Int)/\0<=k.2) (0,(left:Int) - ((l.map az).length:Int)) ?_ ?_
 ·exact ⟨_,_,Wk.ax al,rfl,rfl,Nat.zero_le _,by rw [hm];simp [aY],by rw [hm];simp only;omega⟩
 rintro ⟨k,z⟩ _ _ ⟨rfl,rfl,hk,hz,Di⟩;simp only at hk hz Di
 have Sc:z<=1048576:=by omega
 by_cases aq:k < l.length
 ·have hx:l[k]?=some l[k]:=by simp [aq]
  have hr:(l.map az)[k]?=some (az l[k]):=by rw [getElem?_map,hx];rfl
  have dk:decide ((k:Int) < ((l.map az).length:Int))=true:=by rw [hm];simpa using aq
  have jz:=ke (w:=fun x:Ar=>x.name.length) hx;have hle:=mP (fun x:Ar=>x.name.length) l (k+1);have hex:=he _ (mem_of_getElem? hx);generalize l[k]=x at *;obtain ⟨y,rfl⟩:∃ y:Nat,z=(y:Int):=⟨z.toNat,by omega⟩;have hc:=LI x y ah ah
  by_cases h1:y < x.name.length
  ·rw [dF h1] at hc;rw [dF ah];refine ab ?_;refine U [] (hc) ?_;exact ao
  ·rw [fP ah] at hc
   have zA:decide (((y - (x.name.length):Nat):Int) < 0)=false:=by simp
   refine ab ?_;refine U [] (hc) ?_;exact ⟨(k+1,((y - (x.name.length):Nat):Int)),⟨_,_,Wk.ax al,rfl,rfl,aq,by simp only;omega,by simp only;omega⟩,by simp only;omega⟩
 ·have dk:decide ((k:Int) < ((l.map az).length:Int))=false:=by rw [hm];simpa using aq
  have kQ:k=l.length:=by omega
  subst kQ;rw [take_length] at hz;rw [fP ah,show ((left - (l.length+aY (fun x:Ar=>x.name.length) l):Nat):Int)=z by omega];refine ab ?_;refine aU ?_;exact av
theorem SY (x:Go.Sp.Fn) (left:Nat) (hs:x.name.length<=9223372036854775807) (hp:x.params.length<=9223372036854775807) (hq:∀ s∈x.params,s.length<=9223372036854775807) (vk:left<=1048576):GF Tryz.prog 55 [.agg (au x),.v (ii (left:Nat))] [] (.v (ii (qZ (x.name.length+wS x.params) left))) []:=by
 by_cases h0:left < x.name.length
 ·have hd:decide ((left:Int) - ((x.name.length:Nat):Int) < 0)=true:=by simpa using by omega
  rw [dF ah];refine ai Tryz.func55 Tryz.ntmps55 ?_;exact ao
 have hd:decide ((left:Int) - ((x.name.length:Nat):Int) < 0)=false:=by simpa using by omega
 have hc:=yk x.params (left - x.name.length) hp hq ah;rw [show ((left - x.name.length:Nat):Int)=(left:Int) - ((x.name.length:Nat):Int) by omega] at hc
 by_cases h1:left - x.name.length < wS x.params
 ·rw [dF ah] at hc |-;refine ai Tryz.func55 Tryz.ntmps55 ?_;refine U [] (hc) ?_;exact ao
 ·rw [fP ah] at hc |-;rw [show left - x.name.length - wS x.params=left - (x.name.length+wS x.params) by omega] at hc
  have dk:decide (((left - (x.name.length+wS x.params):Nat):Int) < 0)=false:=by simp
  refine ai Tryz.func55 Tryz.ntmps55 ?_;refine U [] (hc) ?_;exact ao
theorem Qv (l:List Go.Sp.Fn) (left:Nat) (hl:l.length<=9223372036854775807) (he:∀ x∈l,x.name.length<=9223372036854775807/\x.params.length<=9223372036854775807/\∀ s∈x.params,s.length<=9223372036854775807) (vk:left<=1048576):GF Tryz.prog 27 [.sl 3 (l.map au),.v (ii (left:Nat))] [] (.v (ii (qZ (aY (fun f:Go.Sp.Fn=>f.name.length+wS f.params+1) l) left))) []:=by
 have hm:(l.map au).length=l.length:=by simp
 have ht:aY (fun f:Go.Sp.Fn=>f.name.length+wS f.params+1) l=l.length+aY (fun x:Go.Sp.Fn=>x.name.length+wS x.params) l:=mO _ l
 by_cases h0:left < l.length
 ·have hd:decide ((left:Int) - ((l.map au).length:Int) < 0)=true:=by rw [hm];simpa using by omega
  rw [dF ah];refine ai Tryz.func27 Tryz.ntmps27 ?_;exact ao
 have hd:decide ((left:Int) - ((l.map au).length:Int) < 0)=false:=by rw [hm];simpa using by omega
 rw [ht];refine ai Tryz.func27 Tryz.ntmps27 ?_;refine GW.loop (fun k:Nat × Int=>l.length - k.1) (fun k fr Γ=>fr=[.sl 3 (l.map au),.v (ii k.2),.Zy,.Zy,.Zy,.v (ii (k.1:Nat)),.Zy,.Zy,.Zy,.Zy,.Zy,.Zy,.Zy,.Zy,.Zy,.Zy,.Zy,.Zy,.Zy,.Zy,.Zy,.Zy,.Zy,.Zy,.Zy,.Zy,.Zy]/\Γ=[]/\k.1<=l.length/\k.2=(left:Int) - ((l.length+aY (fun x:Go.Sp.Fn=>x.name.length+wS x.params) (l.take k.1):Nat):Int)/\0<=k.2) (0,(left:Int) - ((l.map au).length:Int)) ?_ ?_
 ·exact ⟨_,_,Wk.ax al,rfl,rfl,Nat.zero_le _,by rw [hm];simp [aY],by rw [hm];simp only;omega⟩
 rintro ⟨k,z⟩ _ _ ⟨rfl,rfl,hk,hz,Di⟩;simp only at hk hz Di
 have Sc:z<=1048576:=by omega
 by_cases aq:k < l.length
 ·have hx:l[k]?=some l[k]:=by simp [aq]
  have hr:(l.map au)[k]?=some (au l[k]):=by rw [getElem?_map,hx];rfl
  have dk:decide ((k:Int) < ((l.map au).length:Int))=true:=by rw [hm];simpa using aq
  have jz:=ke (w:=fun x:Go.Sp.Fn=>x.name.length+wS x.params) hx;have hle:=mP (fun x:Go.Sp.Fn=>x.name.length+wS x.params) l (k+1);have hex:=he _ (mem_of_getElem? hx);generalize l[k]=x at *;obtain ⟨y,rfl⟩:∃ y:Nat,z=(y:Int):=⟨z.toNat,by omega⟩;have hc:=SY x y hex.1 hex.2.1 hex.2.2 ah
  by_cases h1:y < x.name.length+wS x.params
  ·rw [dF h1] at hc;rw [dF ah];refine ab ?_;refine U [] (hc) ?_;exact ao
  ·rw [fP ah] at hc
   have zA:decide (((y - (x.name.length+wS x.params):Nat):Int) < 0)=false:=by simp
   refine ab ?_;refine U [] (hc) ?_;exact ⟨(k+1,((y - (x.name.length+wS x.params):Nat):Int)),⟨_,_,Wk.ax al,rfl,rfl,aq,by simp only;omega,by simp only;omega⟩,by simp only;omega⟩
 ·have dk:decide ((k:Int) < ((l.map au).length:Int))=false:=by rw [hm];simpa using aq
  have kQ:k=l.length:=by omega
  subst kQ;rw [take_length] at hz;rw [fP ah,show ((left - (l.length+aY (fun x:Go.Sp.Fn=>x.name.length+wS x.params) l):Nat):Int)=z by omega];refine ab ?_;refine aU ?_;exact av
theorem NQ (x:Nd) (left:Nat) (hs:x.s.length<=9223372036854775807) (hp:x.kids.length<=9223372036854775807) (vk:left<=1048576):GF Tryz.prog 56 [.agg (aw x),.v (ii (left:Nat))] [] (.v (ii (qZ (x.s.length+x.kids.length) left))) []:=by
 by_cases h0:left < x.s.length
 ·have hd:decide ((left:Int) - ((x.s.length:Nat):Int) < 0)=true:=by simpa using by omega
  rw [dF ah];refine ai Tryz.func56 Tryz.ntmps56 ?_;exact ao
 have hd:decide ((left:Int) - ((x.s.length:Nat):Int) < 0)=false:=by simpa using by omega
 have hc:=NO x.kids (left - x.s.length) hp ah;rw [show ((left - x.s.length:Nat):Int)=(left:Int) - ((x.s.length:Nat):Int) by omega] at hc
 by_cases h1:left - x.s.length < x.kids.length
 ·rw [dF ah] at hc |-;refine ai Tryz.func56 Tryz.ntmps56 ?_;refine U [] (hc) ?_;exact ao
 ·rw [fP ah] at hc |-;rw [show left - x.s.length - x.kids.length=left - (x.s.length+x.kids.length) by omega] at hc
  have dk:decide (((left - (x.s.length+x.kids.length):Nat):Int) < 0)=false:=by simp
  refine ai Tryz.func56 Tryz.ntmps56 ?_;refine U [] (hc) ?_;exact ao
theorem LJ (l:List Nd) (left:Nat) (hl:l.length<=9223372036854775807) (he:∀ x∈l,x.s.length<=9223372036854775807/\x.kids.length<=9223372036854775807) (vk:left<=1048576):GF Tryz.prog 28 [.sl 5 (l.map aw),.v (ii (left:Nat))] [] (.v (ii (qZ (aY (fun n:Nd=>n.s.length+n.kids.length+1) l) left))) []:=by
 have hm:(l.map aw).length=l.length:=by simp
 have ht:aY (fun n:Nd=>n.s.length+n.kids.length+1) l=l.length+aY (fun x:Nd=>x.s.length+x.kids.length) l:=mO _ l
 by_cases h0:left < l.length
 ·have hd:decide ((left:Int) - ((l.map aw).length:Int) < 0)=true:=by rw [hm];simpa using by omega
  rw [dF ah];refine ai Tryz.func28 Tryz.ntmps28 ?_;exact ao
 have hd:decide ((left:Int) - ((l.map aw).length:Int) < 0)=false:=by rw [hm];simpa using by omega
 rw [ht];refine ai Tryz.func28 Tryz.ntmps28 ?_;refine GW.loop (fun k:Nat × Int=>l.length - k.1) (fun k fr Γ=>fr=[.sl 5 (l.map aw),.v (ii k.2),.Zy,.Zy,.Zy,.v (ii (k.1:Nat)),.Zy,.Zy,.Zy,.Zy,.Zy,.Zy,.Zy,.Zy,.Zy,.Zy,.Zy,.Zy,.Zy,.Zy,.Zy,.Zy,.Zy,.Zy,.Zy,.Zy,.Zy]/\Γ=[]/\k.1<=l.length/\k.2=(left:Int) - ((l.length+aY (fun x:Nd=>x.s.length+x.kids.length) (l.take k.1):Nat):Int)/\0<=k.2) (0,(left:Int) - ((l.map aw).length:Int)) ?_ ?_
 ·exact ⟨_,_,Wk.ax al,rfl,rfl,Nat.zero_le _,by rw [hm];simp [aY],by rw [hm];simp only;omega⟩
 rintro ⟨k,z⟩ _ _ ⟨rfl,rfl,hk,hz,Di⟩;simp only at hk hz Di
 have Sc:z<=1048576:=by omega
 by_cases aq:k < l.length
 ·have hx:l[k]?=some l[k]:=by simp [aq]
  have hr:(l.map aw)[k]?=some (aw l[k]):=by rw [getElem?_map,hx];rfl
  have dk:decide ((k:Int) < ((l.map aw).length:Int))=true:=by rw [hm];simpa using aq
  have jz:=ke (w:=fun x:Nd=>x.s.length+x.kids.length) hx;have hle:=mP (fun x:Nd=>x.s.length+x.kids.length) l (k+1);have hex:=he _ (mem_of_getElem? hx);generalize l[k]=x at *;obtain ⟨y,rfl⟩:∃ y:Nat,z=(y:Int):=⟨z.toNat,by omega⟩;have hc:=NQ x y hex.1 hex.2 ah
  by_cases h1:y < x.s.length+x.kids.length
  ·rw [dF h1] at hc;rw [dF ah];refine ab ?_;refine U [] (hc) ?_;exact ao
  ·rw [fP ah] at hc
   have zA:decide (((y - (x.s.length+x.kids.length):Nat):Int) < 0)=false:=by simp
   refine ab ?_;refine U [] (hc) ?_;exact ⟨(k+1,((y - (x.s.length+x.kids.length):Nat):Int)),⟨_,_,Wk.ax al,rfl,rfl,aq,by simp only;omega,by simp only;omega⟩,by simp only;omega⟩
 ·have dk:decide ((k:Int) < ((l.map aw).length:Int))=false:=by rw [hm];simpa using aq
  have kQ:k=l.length:=by omega
  subst kQ;rw [take_length] at hz;rw [fP ah,show ((left - (l.length+aY (fun x:Nd=>x.s.length+x.kids.length) l):Nat):Int)=z by omega];refine ab ?_;refine aU ?_;exact av
theorem IZ (p:Src) (hb:Go.Im.Small p 9223372036854775807):GF Tryz.prog 8 [.agg (ar p),.v (ii 1048576)] [] (.v (ii (qZ (ek p) 1048576))) []:=by
 obtain ⟨⟨a1,a2⟩,⟨b1,b2⟩,⟨c1,c2⟩,⟨d1,d2⟩⟩:=hb;have h1:=yk p.globals 1048576 a1 a2 (Nat.le_refl _);unfold ek;generalize wS p.globals=w1 at *
 by_cases q1:1048576 < w1
 ·rw [dF q1] at h1;rw [dF ah];refine ai Tryz.func8 Tryz.ntmps8 ?_;refine U [] (h1) ?_;exact ao
 rw [fP ah] at h1
 have e1:decide (((1048576 - w1:Nat):Int) < 0)=false:=by simp
 have h2:=IY p.arrays (1048576 - w1) b1 b2 ah;generalize aY (fun a:Ar=>a.name.length+1) p.arrays=w2 at *
 by_cases q2:1048576 - w1 < w2
 ·rw [dF q2] at h2;rw [dF ah];refine ai Tryz.func8 Tryz.ntmps8 ?_;refine U [] (h1) ?_;refine U [] (h2) ?_;exact ao
 rw [fP ah] at h2
 have e2:decide (((1048576 - w1 - w2:Nat):Int) < 0)=false:=by simp
 have h3:=Qv p.fns (1048576 - w1 - w2) c1 c2 ah;generalize aY (fun f:Go.Sp.Fn=>f.name.length+wS f.params+1) p.fns=w3 at *
 by_cases q3:1048576 - w1 - w2 < w3
 ·rw [dF q3] at h3;rw [dF ah];refine ai Tryz.func8 Tryz.ntmps8 ?_;refine U [] (h1) ?_;refine U [] (h2) ?_;refine U [] (h3) ?_;exact ao
 rw [fP ah] at h3
 have e3:decide (((1048576 - w1 - w2 - w3:Nat):Int) < 0)=false:=by simp
 have h4:=LJ p.nodes (1048576 - w1 - w2 - w3) d1 d2 ah;generalize aY (fun n:Nd=>n.s.length+n.kids.length+1) p.nodes=w4 at *
 by_cases q4:1048576 - w1 - w2 - w3 < w4
 ·rw [dF q4] at h4;rw [dF ah];refine ai Tryz.func8 Tryz.ntmps8 ?_;refine U [] (h1) ?_;refine U [] (h2) ?_;refine U [] (h3) ?_;refine U [] (h4) ?_;exact ao
 rw [fP ah] at h4
 have e4:decide (((1048576 - w1 - w2 - w3 - w4:Nat):Int) < 0)=false:=by simp
 rw [fP ah,show 1048576 - (w1+w2+w3+w4)=1048576 - w1 - w2 - w3 - w4 by omega];refine ai Tryz.func8 Tryz.ntmps8 ?_;refine U [] (h1) ?_;refine U [] (h2) ?_;refine U [] (h3) ?_;refine U [] (h4) ?_;exact ao
end Go.Xg
namespace Go.Xg
open Go.RowKit Go.Xw Go.Proofs
open Go.Xp (Nd Ar)
open Go.Sp (Src)
open Go.Im (wS ek aY mP qZ fP dF mO ke mN)
attribute [local irreducible] GW GL GO YG GC GA aS aW
theorem ME (l:List Int) (hl:l.length<=1048576):GF Tryz.prog 86 [ints l,ints l] [] (.v (.bool true)) []:=by
 have hm:(l.map (fun i=>[GV.v (ii i)])).length=l.length:=by simp
 have hd:(((l.map (fun i=>[GV.v (ii i)])).length:Int) != ((l.map (fun i=>[GV.v (ii i)])).length:Int))=false:=by simp
 refine ai Tryz.func86 Tryz.ntmps86 ?_;refine GW.loop (fun k:Nat=>l.length - k) (fun k fr Γ=>fr=[ints l,ints l,.Zy,.Zy,.Zy,.v (ii (k:Nat)),.Zy,.Zy,.Zy,.Zy,.Zy,.Zy,.Zy,.Zy,.Zy,.Zy,.Zy,.Zy,.Zy,.Zy,.Zy,.Zy,.Zy,.Zy,.Zy,.Zy]/\Γ=[]/\k<=l.length) 0 ?_ ?_
 ·exact ⟨_,_,Wk.ax al,rfl,rfl,Nat.zero_le _⟩
 rintro k _ _ ⟨rfl,rfl,hk⟩
 by_cases aq:k < l.length
 ·have hx:l[k]?=some l[k]:=by simp [aq]
  have hr:(l.map (fun i=>[GV.v (ii i)]))[k]?=some ([GV.v (ii l[k])]):=by rw [getElem?_map,hx];rfl
  have dk:decide ((k:Int) < ((l.map (fun i=>[GV.v (ii i)])).length:Int))=true:=by rw [hm];simpa using aq
  generalize l[k]=x at *
  have hs:(x != x)=false:=by simp
  refine ab ?_;refine GW.draw (.q 0 (.q 1 (.q 2 (.q 3 (.q 4 (.q 5 (.q 6 (.q 7 (.q 8 .nil))))))))) (by kernel_rfl) (by kernel_rfl) ?_;refine aj ?_;refine ab ?_;exact ⟨k+1,⟨_,_,Wk.ax al,rfl,rfl,aq⟩,by show l.length - (k+1) < l.length - k;omega⟩
 ·have dk:decide ((k:Int) < ((l.map (fun i=>[GV.v (ii i)])).length:Int))=false:=by rw [hm];simpa using aq
  refine ab ?_;refine aU ?_;exact av
theorem tJ (l:List ae) (hl:l.length<=1048576):GF Tryz.prog 21 [strs l,strs l] [] (.v (.bool true)) []:=by
 have hm:(l.map (fun s=>[GV.v (sv s)])).length=l.length:=by simp
 have hd:(((l.map (fun s=>[GV.v (sv s)])).length:Int) != ((l.map (fun s=>[GV.v (sv s)])).length:Int))=false:=by simp
 refine ai Tryz.func21 Tryz.ntmps21 ?_;refine GW.loop (fun k:Nat=>l.length - k) (fun k fr Γ=>fr=[strs l,strs l,.Zy,.Zy,.Zy,.v (ii (k:Nat)),.Zy,.Zy,.Zy,.Zy,.Zy,.Zy,.Zy,.Zy,.Zy,.Zy,.Zy,.Zy,.Zy,.Zy,.Zy,.Zy,.Zy,.Zy,.Zy,.Zy]/\Γ=[]/\k<=l.length) 0 ?_ ?_
 ·exact ⟨_,_,Wk.ax al,rfl,rfl,Nat.zero_le _⟩
 rintro k _ _ ⟨rfl,rfl,hk⟩
 by_cases aq:k < l.length
 ·have hx:l[k]?=some l[k]:=by simp [aq]
  have hr:(l.map (fun s=>[GV.v (sv s)]))[k]?=some ([GV.v (sv l[k])]):=by rw [getElem?_map,hx];rfl
  have dk:decide ((k:Int) < ((l.map (fun s=>[GV.v (sv s)])).length:Int))=true:=by rw [hm];simpa using aq
  generalize l[k]=x at *
  have hs:(!(x==x))=false:=by simp
  refine ab ?_;refine GW.draw (.q 0 (.q 1 (.q 2 (.q 3 (.q 4 (.q 5 (.q 6 (.q 7 (.q 8 .nil))))))))) (by kernel_rfl) (by kernel_rfl) ?_;refine aj ?_;refine ab ?_;exact ⟨k+1,⟨_,_,Wk.ax al,rfl,rfl,aq⟩,by show l.length - (k+1) < l.length - k;omega⟩
 ·have dk:decide ((k:Int) < ((l.map (fun s=>[GV.v (sv s)])).length:Int))=false:=by rw [hm];simpa using aq
  refine ab ?_;refine aU ?_;exact av
theorem JK (x:Ar):GF Tryz.prog 68 [.agg (az x),.agg (az x)] [] (.v (.bool true)) []:=by
 have e0:(!(x.name==x.name))=false:=by simp
 have e1:(x.size != x.size)=false:=by simp
 refine ai Tryz.func68 Tryz.ntmps68 ?_;exact ao
theorem HR (l:List Ar) (hl:l.length<=1048576):GF Tryz.prog 37 [.sl 2 (l.map az),.sl 2 (l.map az)] [] (.v (.bool true)) []:=by
 have hm:(l.map az).length=l.length:=by simp
 have hd:(((l.map az).length:Int) != ((l.map az).length:Int))=false:=by simp
 refine ai Tryz.func37 Tryz.ntmps37 ?_;refine GW.loop (fun k:Nat=>l.length - k) (fun k fr Γ=>fr=[.sl 2 (l.map az),.sl 2 (l.map az),.Zy,.Zy,.Zy,.v (ii (k:Nat)),.Zy,.Zy,.Zy,.Zy,.Zy,.Zy,.Zy,.Zy,.Zy,.Zy,.Zy,.Zy,.Zy,.Zy,.Zy,.Zy,.Zy,.Zy,.Zy,.Zy,.Zy]/\Γ=[]/\k<=l.length) 0 ?_ ?_
 ·exact ⟨_,_,Wk.ax al,rfl,rfl,Nat.zero_le _⟩
 rintro k _ _ ⟨rfl,rfl,hk⟩
 by_cases aq:k < l.length
 ·have hx:l[k]?=some l[k]:=by simp [aq]
  have hr:(l.map az)[k]?=some (az l[k]):=by rw [getElem?_map,hx];rfl
  have dk:decide ((k:Int) < ((l.map az).length:Int))=true:=by rw [hm];simpa using aq
  have hc:=JK l[k];generalize l[k]=x at *;refine ab ?_;refine GW.draw (.q 0 (.q 1 (.q 2 (.q 3 (.q 4 (.q 5 (.q 6 (.q 7 (.a 8 (.q 9 .nil)))))))))) (by kernel_rfl) (by kernel_rfl) ?_;refine aj ?_;refine aC [] (hc) ?_;refine ab ?_;exact ⟨k+1,⟨_,_,Wk.ax al,rfl,rfl,aq⟩,by show l.length - (k+1) < l.length - k;omega⟩
 ·have dk:decide ((k:Int) < ((l.map az).length:Int))=false:=by rw [hm];simpa using aq
  refine ab ?_;refine aU ?_;exact av
theorem QV (x:Go.Sp.Fn) (hp:x.params.length<=1048576):GF Tryz.prog 69 [.agg (au x),.agg (au x)] [] (.v (.bool true)) []:=by
 have e0:(!(x.name==x.name))=false:=by simp
 have e1:(x.body != x.body)=false:=by simp
 have h0:=tJ x.params hp;refine ai Tryz.func69 Tryz.ntmps69 ?_;refine U [] (h0) ?_;exact ao
theorem Py (l:List Go.Sp.Fn) (hl:l.length<=1048576) (he:∀ x∈l,x.params.length<=1048576):GF Tryz.prog 38 [.sl 3 (l.map au),.sl 3 (l.map au)] [] (.v (.bool true)) []:=by
 have hm:(l.map au).length=l.length:=by simp
 have hd:(((l.map au).length:Int) != ((l.map au).length:Int))=false:=by simp
 refine ai Tryz.func38 Tryz.ntmps38 ?_;refine GW.loop (fun k:Nat=>l.length - k) (fun k fr Γ=>fr=[.sl 3 (l.map au),.sl 3 (l.map au),.Zy,.Zy,.Zy,.v (ii (k:Nat)),.Zy,.Zy,.Zy,.Zy,.Zy,.Zy,.Zy,.Zy,.Zy,.Zy,.Zy,.Zy,.Zy,.Zy,.Zy,.Zy,.Zy,.Zy,.Zy,.Zy,.Zy]/\Γ=[]/\k<=l.length) 0 ?_ ?_
 ·exact ⟨_,_,Wk.ax al,rfl,rfl,Nat.zero_le _⟩
 rintro k _ _ ⟨rfl,rfl,hk⟩
 by_cases aq:k < l.length
 ·have hx:l[k]?=some l[k]:=by simp [aq]
  have hr:(l.map au)[k]?=some (au l[k]):=by rw [getElem?_map,hx];rfl
  have dk:decide ((k:Int) < ((l.map au).length:Int))=true:=by rw [hm];simpa using aq
  have hex:=he _ (mem_of_getElem? hx);have hc:=QV l[k] hex;generalize l[k]=x at *;refine ab ?_;refine GW.draw (.q 0 (.q 1 (.q 2 (.q 3 (.q 4 (.q 5 (.q 6 (.q 7 (.a 8 (.q 9 .nil)))))))))) (by kernel_rfl) (by kernel_rfl) ?_;refine aj ?_;refine aC [] (hc) ?_;refine ab ?_;exact ⟨k+1,⟨_,_,Wk.ax al,rfl,rfl,aq⟩,by show l.length - (k+1) < l.length - k;omega⟩
 ·have dk:decide ((k:Int) < ((l.map au).length:Int))=false:=by rw [hm];simpa using aq
  refine ab ?_;refine aU ?_;exact av
theorem MF (x:Nd) (hp:x.kids.length<=1048576):GF Tryz.prog 70 [.agg (aw x),.agg (aw x)] [] (.v (.bool true)) []:=by
 have e0:(x.kind != x.kind)=false:=by simp
 have e1:(x.at_ != x.at_)=false:=by simp
 have e2:(x.n != x.n)=false:=by simp
 have e3:(!(x.s==x.s))=false:=by simp
 have h0:=ME x.kids hp;refine ai Tryz.func70 Tryz.ntmps70 ?_;refine U [] (h0) ?_;exact ao
theorem JL (l:List Nd) (hl:l.length<=1048576) (he:∀ x∈l,x.kids.length<=1048576):GF Tryz.prog 39 [.sl 5 (l.map aw),.sl 5 (l.map aw)] [] (.v (.bool true)) []:=by
 have hm:(l.map aw).length=l.length:=by simp
 have hd:(((l.map aw).length:Int) != ((l.map aw).length:Int))=false:=by simp
 refine ai Tryz.func39 Tryz.ntmps39 ?_;refine GW.loop (fun k:Nat=>l.length - k) (fun k fr Γ=>fr=[.sl 5 (l.map aw),.sl 5 (l.map aw),.Zy,.Zy,.Zy,.v (ii (k:Nat)),.Zy,.Zy,.Zy,.Zy,.Zy,.Zy,.Zy,.Zy,.Zy,.Zy,.Zy,.Zy,.Zy,.Zy,.Zy,.Zy,.Zy,.Zy,.Zy,.Zy,.Zy]/\Γ=[]/\k<=l.length) 0 ?_ ?_
 ·exact ⟨_,_,Wk.ax al,rfl,rfl,Nat.zero_le _⟩
 rintro k _ _ ⟨rfl,rfl,hk⟩
 by_cases aq:k < l.length
 ·have hx:l[k]?=some l[k]:=by simp [aq]
  have hr:(l.map aw)[k]?=some (aw l[k]):=by rw [getElem?_map,hx];rfl
  have dk:decide ((k:Int) < ((l.map aw).length:Int))=true:=by rw [hm];simpa using aq
  have hex:=he _ (mem_of_getElem? hx);have hc:=MF l[k] hex;generalize l[k]=x at *;refine ab ?_;refine GW.draw (.q 0 (.q 1 (.q 2 (.q 3 (.q 4 (.q 5 (.q 6 (.q 7 (.a 8 (.q 9 .nil)))))))))) (by kernel_rfl) (by kernel_rfl) ?_;refine aj ?_;refine aC [] (hc) ?_;refine ab ?_;exact ⟨k+1,⟨_,_,Wk.ax al,rfl,rfl,aq⟩,by show l.length - (k+1) < l.length - k;omega⟩
 ·have dk:decide ((k:Int) < ((l.map aw).length:Int))=false:=by rw [hm];simpa using aq
  refine ab ?_;refine aU ?_;exact av
theorem HS (x:Src) (hg:x.globals.length<=1048576) (ha:x.arrays.length<=1048576) (hf:x.fns.length<=1048576) (zB:∀ f∈x.fns,f.params.length<=1048576) (hn:x.nodes.length<=1048576) (wF:∀ n∈x.nodes,n.kids.length<=1048576):GF Tryz.prog 12 [.agg (ar x),.agg (ar x)] [] (.v (.bool true)) []:=by
 have h0:=tJ x.globals hg;have h1:=HR x.arrays ha;have h2:=Py x.fns hf zB;have h3:=JL x.nodes hn wF;refine ai Tryz.func12 Tryz.ntmps12 ?_;refine U [] (h0) ?_;refine U [] (h1) ?_;refine U [] (h2) ?_;refine U [] (h3) ?_;exact ao
end Go.Xg
namespace Go.Im
open Go.Xp
def tt (n:Nat):ae:=109::ca n
theorem AF {n:Nat} (h:n < 10):ca n=[UInt8.ofNat (48+n)]:=by rw [ca,dif_pos h]
theorem FW {n:Nat} (h:¬ n < 10):ca n=ca (n / 10)++[UInt8.ofNat (48+n % 10)]:=by rw [ca,dif_neg h]
end Go.Im
namespace Go.Xg
open Go.RowKit Go.Xw Go.Proofs
open Go.Xp (Nd Ar ca n8)
open Go.Sp (Src)
open Go.Im (tt AF FW)
attribute [local irreducible] GW GL GO YG GC GA aS aW
theorem oX (n:Nat) (hn:n<=1099511627776):GF Tryz.prog 53 [.v (ii (n:Int))] [] (.v (sv (tt n))) []:=by
 unfold tt
 by_cases h0:n=0
 ·subst h0;rw [AF ah];refine ai Tryz.func53 Tryz.ntmps53 ?_;exact ao
 have Zg:decide ((n:Int)<=0)=false:=by simpa using by omega
 have Ry:=n8 n;refine ai Tryz.func53 Tryz.ntmps53 ?_;refine GW.loop (fun st:Nat × ae=>st.1) (fun st fr Γ=>fr=[.v (ii (st.1:Nat)),.Zy,.Zy,.v (sv st.2),.Zy,.Zy,.Zy,.Zy,.Zy,.Zy,.Zy,.Zy,.Zy,.Zy,.Zy,.Zy,.Zy,.Zy,.Zy,.Zy]/\Γ=[]/\st.1<=n/\st.2.length<=n+1/\(st.1=0->st.2=ca n)/\(st.1 > 0->ca st.1++st.2=ca n)) (n,[]) ?_ ?_
 ·exact ⟨_,_,Wk.ax al,rfl,rfl,Nat.le_refl _,Nat.zero_le _,fun h=>absurd h h0,fun _=>by simp⟩
 rintro ⟨k,y⟩ _ _ ⟨rfl,rfl,hk,U8,hz,hp⟩;simp only at hk U8 hz hp
 by_cases aq:k > 0
 ·have hd:decide ((0:Int) < (k:Int))=true:=by simpa using aq
  have hq:=hp aq;have hw:=wZ (48+k % 10) ah;rw [Int.natCast_add] at hw
  have bp:(k / 10=0->[UInt8.ofNat (48+k % 10)]++y=ca n)/\(k / 10 > 0->ca (k / 10)++([UInt8.ofNat (48+k % 10)]++y)=ca n):=by
   by_cases ky:k < 10
   ·rw [AF ky] at hq;refine ⟨fun _=>?_,fun h=>by omega⟩;rw [Nat.mod_eq_of_lt ky];exact hq
   ·rw [FW ky,append_assoc] at hq;exact ⟨fun h=>by omega,fun _=>hq⟩
  have uu:([UInt8.ofNat (48+k % 10)]++y).length<=n+1:=by
   by_cases ky:k / 10=0
   ·rw [bp.1 ky];exact Ry
   ·have:=congrArg List.length (bp.2 ah);rw [length_append] at this;omega
  refine ab ?_;refine bJ ?_;refine ab ?_;exact ⟨(k / 10,[UInt8.ofNat (48+k % 10)]++y),⟨_,_,Wk.ax al,rfl,rfl,by show k / 10<=n;omega,uu,bp.1,bp.2⟩,by show k / 10 < k;omega⟩
 ·have hd:decide ((0:Int) < (k:Int))=false:=by simpa using aq
  have hy:=hz ah;subst hy;refine ab ?_;refine aU ?_;exact av
def marks (k n:Nat):List (List GV):=(List.range n).map fun i=>[GV.v (sv (tt (k+i)))]
theorem qG (k n:Nat):(marks k n).length=n:=by simp [marks]
theorem Iz (k n:Nat):marks k (n+1)=marks k n++[[.v (sv (tt (k+n)))]]:=by simp [marks,List.range_succ]
theorem Nr {k n i:Nat} (h:i < n):(marks k n)[i]?=some [.v (sv (tt (k+i)))]:=by simp [marks,h]
theorem Lf (k:Nat) (rows:List (List GV)) {i:Nat} (h:i < rows.length):(marks k i++rows.drop i).set i [.v (sv (tt (k+i)))]=marks k (i+1)++rows.drop (i+1):=by
 rw [List.drop_eq_getElem_cons h,List.set_append_right _ _ (by rw [qG];exact Nat.le_refl _),qG,Nat.sub_self,List.set_cons_zero,Iz,append_assoc];rfl
theorem qQ (a:Option Addr) (c n k:Nat) (rows:List (List GV)) (hn:rows.length=n) (hb:k+n<=1099511627776) :
  GF Tryz.prog 23 [.v (.slice a n c),.v (ii (k:Nat))] [.vech 9 1 rows (.slice a n c)] (.v (ii ((k+n:Nat):Int))) [.vech 9 1 (marks k n) (.slice a n c)]:=by
 refine ai Tryz.func23 Tryz.ntmps23 ?_;refine GW.loop (fun i:Nat=>n - i) (fun i fr Γ=>∃ R,fr=[.v (.slice a n c),.v (ii ((k+i:Nat):Int)),.Zy,.Zy,.Zy,.v (ii (i:Nat)),.Zy,.Zy,.Zy,.Zy,.Zy,.Zy,.Zy,.Zy,.Zy,.Zy,.Zy,.Zy,.Zy,.Zy]/\Γ=[.vech 9 1 R (.slice a n c)]/\i<=n/\R=marks k i++rows.drop i) 0 ?_ ?_
 ·exact ⟨_,_,Wk.ax al,_,rfl,rfl,Nat.zero_le _,rfl⟩
 rintro i _ _ ⟨R,rfl,rfl,hi,hR⟩
 have ew:R.length=n:=by rw [hR,length_append,qG,List.length_drop];omega
 by_cases aq:i < n
 ·have hd:decide ((i:Int) < (n:Int))=true:=by simpa using aq
  have hc:=oX (k+i) ah;have cl:=Lf k rows (i:=i) ah;rw [<-hR] at cl;clear hR;generalize tt (k+i)=x at *;refine ab ?_;refine U [] (hc) ?_;refine jK ?_;refine ab ?_;exact ⟨i+1,⟨_,_,Wk.ax al,_,rfl,rfl,aq,cl⟩,by show n - (i+1) < n - i;omega⟩
 ·have hd:decide ((i:Int) < (n:Int))=false:=by simpa using aq
  have gz:i=n:=by omega
  subst gz;rw [List.drop_of_length_le ah,append_nil] at hR;subst hR;refine ab ?_;refine aU ?_;exact av
theorem CA (k n:Nat) (hb:k+n<=1099511627776):GF Tryz.prog 24 [.sl 1 (marks k n),.v (ii (k:Nat))] [] (.v (ii ((k+n:Nat):Int))) []:=by
 have hm:=qG k n;refine ai Tryz.func24 Tryz.ntmps24 ?_;refine GW.loop (fun i:Nat=>n - i) (fun i fr Γ=>fr=[.sl 1 (marks k n),.v (ii ((k+i:Nat):Int)),.Zy,.Zy,.Zy,.v (ii (i:Nat)),.Zy,.Zy,.Zy,.Zy,.Zy,.Zy,.Zy,.Zy,.Zy,.Zy,.Zy,.Zy,.Zy,.Zy,.Zy,.Zy]/\Γ=[]/\i<=n) 0 ?_ ?_
 ·exact ⟨_,_,Wk.ax al,rfl,rfl,Nat.zero_le _⟩
 rintro i _ _ ⟨rfl,rfl,hi⟩
 by_cases aq:i < n
 ·have hd:decide ((i:Int) < ((marks k n).length:Int))=true:=by rw [hm];simpa using aq
  have hc:=oX (k+i) ah;have hr:=Nr (k:=k) aq;generalize tt (k+i)=x at *
  have hs:(!(x==x))=false:=by simp
  refine ab ?_;refine GW.draw (.q 0 (.q 1 (.q 2 (.q 3 (.q 4 (.a 5 (.q 6 .nil))))))) (by kernel_rfl) (by kernel_rfl) ?_;refine aj ?_;refine aC [] (hc) ?_;refine ab ?_;exact ⟨i+1,⟨_,_,Wk.ax al,rfl,rfl,aq⟩,by show n - (i+1) < n - i;omega⟩
 ·have hd:decide ((i:Int) < ((marks k n).length:Int))=false:=by rw [hm];simpa using aq
  have gz:i=n:=by omega
  subst gz;refine ab ?_;refine aU ?_;exact av
end Go.Xg
namespace Go.Xg
open Go.RowKit Go.Xw Go.Proofs
open Go.Xp (Nd Ar ca n8)
open Go.Sp (Src)
open Go.Im (tt)
attribute [local irreducible] GW GL GO YG GC GA aS aW
theorem P9 {p:Nat->Bool} {Γ:List Ob} (h:∀ x∈Γ,x.mi=true):B7 p Γ=true:=by
 induction Γ with
 | nil=>rfl
 | cons x r ih =>
  rw [B7,ih fun y hy=>h y (List.mem_cons_of_mem _ hy),Bool.and_true];have:=h x List.mem_cons_self
  cases x <;> first | rfl | cases this
section
variable {P:Program} {fn:Func} {m:Nat} {R:GV->List Ob->Prop} {fr:List GV} {Γ:List Ob} {e:Exit}
theorem HV {t:Tmp} {x:Value} (hr:fn.results=#[.tmp t]) (he:e=.normal\/e=.ret) (hg:cj fr t=.v x) (hm:m=Γ.length) (ha:∀ x∈Γ,x.mi=true) (h:R (.v x) Γ):rR P fn m R e fr Γ :=
 pM (n:=Γ.length) hr he hg ah (by rw [take_length];exact P9 ha) rfl (by rw [take_length];exact h)
end
def ir (f:Nat->Nat):Nat->Nat
 | 0=>0
 | i+1=>ir f i+f i
theorem EA (f:Nat->Nat) {i n:Nat} (h:i<=n):ir f i<=ir f n:=by
 induction n with
 | zero =>
  have:i=0:=by omega
  subst this;exact Nat.le_refl _
 | succ n ih =>
  by_cases e:i=n+1
  ·subst e;exact Nat.le_refl _
  ·have:=ih ah;rw [ir];omega
theorem Wn {r:List GV} (h:r.length=2):∃ x y,r=[x,y]:=by
 match r,h with
 | [x,y],_=>exact ⟨x,y,rfl⟩
theorem oz {rows:List (List GV)} {i o:Nat} {g:GV} {r:List GV} (hr:rows[i]?=some r):(dw rows i o g)[i]?=some (bj r o g):=by rw [rv hr,if_pos rfl]
theorem Ci {k:Nat} {rows:List (List GV)} {i o:Nat} {g:GV} {r:List GV} (hr:rows[i]?=some r) (h:∀ r∈rows,r.length=k):∀ r∈dw rows i o g,r.length=k:=fun q hq=>by
 obtain ⟨j,hj⟩:=List.getElem?_of_mem hq;rw [rv hr] at hj;split at hj
 ·cases hj;rw [yG];exact h r (mem_of_getElem? hr)
 ·exact h q (mem_of_getElem? hj)
theorem Iy (a:Option Addr) (c n k:Nat) (rows:List (List GV)) (hn:rows.length=n) (hb:k+n<=1099511627776) :
  GC Tryz.prog 78 [.v (.slice a n c),.v (ii (k:Nat))] [.vech 3 1 rows (.slice a n c)] fun g Δ=>g=.v (ii ((k+n:Nat):Int))/\∃ R,R.length=n/\Δ=[.vech 3 1 R (.slice a n c)]:=by
 refine ai Tryz.func78 Tryz.ntmps78 ?_;refine GW.loop (fun i:Nat=>n - i) (fun i fr Γ=>∃ R,fr=[.v (.slice a n c),.v (ii ((k+i:Nat):Int)),.Zy,.Zy,.Zy,.v (ii (i:Nat)),.Zy,.Zy,.Zy,.Zy,.Zy,.Zy,.Zy,.Zy,.Zy,.Zy,.Zy,.Zy,.Zy]/\Γ=[.vech 3 1 R (.slice a n c)]/\i<=n/\R.length=n) 0 ?_ ?_
 ·exact ⟨_,_,Wk.ax al,_,rfl,rfl,Nat.zero_le _,hn⟩
 rintro i _ _ ⟨R,rfl,rfl,hi,ew⟩
 by_cases aq:i < n
 ·have hd:decide ((i:Int) < (n:Int))=true:=by simpa using aq
  refine ab ?_;refine jK ?_;refine ab ?_;exact ⟨i+1,⟨_,_,Wk.ax al,_,rfl,rfl,aq,by simp [ew]⟩,by show n - (i+1) < n - i;omega⟩
 ·have hd:decide ((i:Int) < (n:Int))=false:=by simpa using aq
  have gz:i=n:=by omega
  subst gz;refine ab ?_;refine aU ?_;refine ab ?_;refine bK ?_;exact ⟨rfl,R,ew,rfl⟩
theorem DX (a:Option Addr) (c n k:Nat) (rows:List (List GV)) (hn:rows.length=n) (h2:∀ r∈rows,r.length=2) (hb:k+2 * n<=1099511627776) :
  GC Tryz.prog 50 [.v (.slice a n c),.v (ii (k:Nat))] [.vech 86 2 rows (.slice a n c)] fun g Δ=>g=.v (ii ((k+2 * n:Nat):Int))/\∃ R,Δ=[.vech 86 2 R (.slice a n c)]:=by
 refine ai Tryz.func50 Tryz.ntmps50 ?_;refine GW.loop (fun i:Nat=>n - i) (fun i fr Γ=>∃ R,fr=[.v (.slice a n c),.v (ii ((k+2 * i:Nat):Int)),.Zy,.Zy,.Zy,.v (ii (i:Nat)),.Zy,.Zy,.Zy,.Zy,.Zy,.Zy,.Zy,.Zy,.Zy,.Zy,.Zy,.Zy,.Zy,.Zy,.Zy,.Zy,.Zy,.Zy,.Zy,.Zy,.Zy,.Zy]/\Γ=[.vech 86 2 R (.slice a n c)]/\i<=n/\R.length=n/\∀ r∈R,r.length=2) 0 ?_ ?_
 ·exact ⟨_,_,Wk.ax al,_,rfl,rfl,Nat.zero_le _,hn,h2⟩
 rintro i _ _ ⟨R,rfl,rfl,hi,ew,Oy⟩
 by_cases aq:i < n
 ·have hd:decide ((i:Int) < (n:Int))=true:=by simpa using aq
  have hc:=oX (k+2 * i) ah;have hr:R[i]?=some (R[i]'ah):=getElem?_eq_getElem _;obtain ⟨x0,y0,iR⟩:=Wn (Oy _ (mem_of_getElem? hr));rw [iR] at hr;clear iR;generalize tt (k+2 * i)=x at *;have gg:=oz (o:=0) (g:=.v (sv x)) hr;simp only [bj] at gg
  have eP:(dw R i (0+0) (.v (sv x))).length=n:=by rw [fk];exact ew
  have Rm:=Ci (o:=0) (g:=.v (sv x)) hr Oy;refine ab ?_;refine U [] (hc) ?_;refine nU ?_;refine ab ?_;refine nU ?_;refine ab ?_;exact ⟨i+1,⟨_,_,Wk.ax al,_,rfl,rfl,aq,by rw [fk];exact eP,Ci gg Rm⟩,by show n - (i+1) < n - i;omega⟩
 ·have hd:decide ((i:Int) < (n:Int))=false:=by simpa using aq
  have gz:i=n:=by omega
  subst gz;refine ab ?_;refine aU ?_;refine ab ?_;refine bK ?_;exact ⟨rfl,R,rfl⟩
theorem DZ {R:List (List GV)} {hs:Nat->Value} {n i o:Nat} {g x y:GV} (hi:i < n) (ho:o=0\/o=2) (hr:R[i]?=some [x,.v (hs i),y]) (h:∀ j,j < n->∃ x y,R[j]?=some [x,.v (hs j),y]):∀ j,j < n->∃ x y,(dw R i o g)[j]?=some [x,.v (hs j),y]:=fun j hj=>by
 rw [rv hr]
 by_cases e:j=i
 ·subst e;rw [if_pos rfl]
  rcases ho with rfl | rfl
  ·exact ⟨_,_,rfl⟩
  ·exact ⟨_,_,rfl⟩
 ·rw [if_neg e];exact h j hj
theorem Le (a:Option Addr) (c n k:Nat) (hs:Nat->Value) (pl:Nat->Nat) (rows:List (List GV)) (L:List Ob) (hn:rows.length=n) (hh:∀ i,i < n->Hd (pl i) (hs i)) (bo:∀ i,i < n->∃ x y,rows[i]?=some [x,.v (hs i),y])
  (hL:L.length=n) (jD:∀ i,i < n->∃ ks,ks.length=pl i/\L[i]?=some (.vech 9 1 ks (hs i))) (hb:k+2 * n+ir pl n<=1099511627776) :
  GC Tryz.prog 51 [.v (.slice a n c),.v (ii (k:Nat))] (.vech 85 3 rows (.slice a n c)::L) fun g Δ=>g=.v (ii ((k+2 * n+ir pl n:Nat):Int))/\∃ R L',Δ=.vech 85 3 R (.slice a n c)::L'/\L'.length=n/\∀ x∈L',x.mi=true:=by
 have Kf:∀ (M:List Ob),M.length=n->(∀ i,i < n->∃ ks,ks.length=pl i/\M[i]?=some (.vech 9 1 ks (hs i)))->∀ x∈M,x.mi=true:=fun M hM hk x hx=>by
  obtain ⟨i,hi⟩:=List.getElem?_of_mem hx;obtain ⟨ks,_,h2⟩:=hk i (by have:=(List.getElem?_eq_some_iff.1 hi).1;omega);rw [hi] at h2;cases h2;rfl
 have RH:(Ob.vech 85 3 rows (.slice a n c)::L).length=n+1:=by simp [hL]
 refine cP Tryz.func51 Tryz.ntmps51 ?_;rw [RH];refine ab ?_;refine GW.loop (fun z:Nat × Nat=>n - z.1) (fun z fr Γ=>∃ R L,fr=[.v (.slice a n c),.v (ii ((z.2:Nat):Int)),.Zy,.Zy,.Zy,.v (ii (z.1:Nat)),.Zy,.Zy,.Zy,.Zy,.Zy,.Zy,.Zy,.Zy,.Zy,.Zy,.Zy,.Zy,.Zy,.Zy,.Zy,.Zy,.Zy,.Zy,.Zy,.Zy,.Zy,.Zy,.Zy,.Zy,.Zy,.Zy,.Zy,.Zy,.Zy]/\Γ=.vech 85 3 R (.slice a n c)::L/\z.1<=n/\z.2=k+2 * z.1+ir pl z.1/\R.length=n/\L.length=n/\(∀ i,i < n->∃ x y,R[i]?=some [x,.v (hs i),y])/\∀ i,i < n->∃ ks,ks.length=pl i/\L[i]?=some (.vech 9 1 ks (hs i))) (0,k) ?_ ?_
 ·exact ⟨_,_,Wk.ax al,_,_,rfl,rfl,Nat.zero_le _,rfl,hn,hL,bo,jD⟩
 rintro ⟨i,kk⟩ _ _ ⟨R,L,rfl,rfl,hi,jy,ew,qx,Ki,zx⟩;simp only at hi jy
 by_cases aq:i < n
 ·have hd:decide ((i:Int) < (n:Int))=true:=by simpa using aq
  have R5:ir pl (i+1)=ir pl i+pl i:=rfl;have Wc:=EA pl (i:=i+1) (n:=n) aq;have hc:=oX kk ah;obtain ⟨x0,y0,hr⟩:=Ki i aq;obtain ⟨ks,ou,Kg⟩:=zx i aq;obtain ⟨a1,c1,F0⟩:=hh i aq;have fq:=qQ a1 c1 (pl i) (kk+1) ks ou ah;generalize tt kk=x at *;have Rl:=DZ (g:=.v (sv x)) aq (.inl rfl) hr Ki;have gg:=oz (o:=0) (g:=.v (sv x)) hr;simp only [bj] at gg;rw [F0] at gg Kg
  have eP:(dw R i (0+0) (.v (sv x))).length=n:=by rw [fk];exact ew
  refine ab ?_;refine fQ [] (hc) ?_;simp only [append_nil];refine ab ?_;refine nU ?_;refine ab ?_;refine GL.zk [i+1] fq (lG) (by simp [gE,Nat.blt_eq];omega) ⟨Kg,trivial⟩ ?_;rintro _ _ ⟨rfl,rfl⟩;refine ⟨by simp,?_⟩;simp only [dL,oset,List.map_cons,map_nil,Ob.dr,append_nil];refine cy ?_;refine ab ?_;refine nU ?_;refine ab ?_
  have dd:(dw R i 0 (.v (sv x)))[i]?=some [.v (sv x),.v (hs i),y0]:=by rw [F0];exact gg
  refine ⟨(i+1,kk+1+pl i+1),⟨_,_,Wk.ax al,_,_,rfl,rfl,aq,by simp only;omega,by rw [fk];exact eP,by rw [aX,List.length_set];exact qx,DZ aq (.inr rfl) dd Rl,fun j hj=>?_⟩,by show n - (i+1) < n - i;omega⟩;rw [aX,getElem?_set]
  by_cases e:i=j
  ·subst e;rw [if_pos rfl,if_pos ah];exact ⟨marks (kk+1) (pl i),qG _ _,by rw [F0]⟩
  ·rw [if_neg e];exact zx j hj
 ·have hd:decide ((i:Int) < (n:Int))=false:=by simpa using aq
  have gz:i=n:=by omega
  subst gz;rw [<-jy];refine ab ?_;refine aU ?_;refine ab ?_
  (repeat (first | refine GW.ret ?_ | refine cI ?_ | refine cH ?_ | refine aL ?_ | refine bX ?_))
  refine HV rfl (by first | exact .inr rfl | exact .inl rfl) rfl (by simp [qx]) ?_ ⟨rfl,R,L,rfl,qx,Kf L qx zx⟩;intro x hx
  rcases List.mem_cons.1 hx with rfl | hx
  ·rfl
  ·exact Kf L qx zx x hx
theorem tq {R:List (List GV)} {hs:Nat->Value} {n i o:Nat} {g x0 x1 x2 x3:GV} (hi:i < n) (ho:o < 4) (hr:R[i]?=some [x0,x1,x2,x3,.v (hs i)]) (h:∀ j,j < n->∃ x0 x1 x2 x3,R[j]?=some [x0,x1,x2,x3,.v (hs j)]):∀ j,j < n->∃ x0 x1 x2 x3,(dw R i o g)[j]?=some [x0,x1,x2,x3,.v (hs j)]:=fun j hj=>by
 rw [rv hr]
 by_cases e:j=i
 ·subst e;rw [if_pos rfl]
  obtain rfl | rfl | rfl | rfl:o=0\/o=1\/o=2\/o=3:=by omega
  ·exact ⟨_,_,_,_,rfl⟩
  ·exact ⟨_,_,_,_,rfl⟩
  ·exact ⟨_,_,_,_,rfl⟩
  ·exact ⟨_,_,_,_,rfl⟩
 ·rw [if_neg e];exact h j hj
theorem Fv (a:Option Addr) (c n k:Nat) (hs:Nat->Value) (pl:Nat->Nat) (rows:List (List GV)) (L:List Ob) (hn:rows.length=n) (hh:∀ i,i < n->Hd (pl i) (hs i)) (bo:∀ i,i < n->∃ x0 x1 x2 x3,rows[i]?=some [x0,x1,x2,x3,.v (hs i)])
  (hL:L.length=n) (jD:∀ i,i < n->∃ ks,ks.length=pl i/\L[i]?=some (.vech 3 1 ks (hs i))) (hb:k+4 * n+ir pl n<=1099511627776) :
  GC Tryz.prog 52 [.v (.slice a n c),.v (ii (k:Nat))] (.vech 53 5 rows (.slice a n c)::L) fun g Δ=>g=.v (ii ((k+4 * n+ir pl n:Nat):Int))/\∃ R L',Δ=.vech 53 5 R (.slice a n c)::L'/\L'.length=n/\∀ x∈L',x.mi=true:=by
 have Kf:∀ (M:List Ob),M.length=n->(∀ i,i < n->∃ ks,ks.length=pl i/\M[i]?=some (.vech 3 1 ks (hs i)))->∀ x∈M,x.mi=true:=fun M hM hk x hx=>by
  obtain ⟨i,hi⟩:=List.getElem?_of_mem hx;obtain ⟨ks,_,h2⟩:=hk i (by have:=(List.getElem?_eq_some_iff.1 hi).1;omega);rw [hi] at h2;cases h2;rfl
 have RH:(Ob.vech 53 5 rows (.slice a n c)::L).length=n+1:=by simp [hL]
 refine cP Tryz.func52 Tryz.ntmps52 ?_;rw [RH];refine ab ?_;refine GW.loop (fun z:Nat × Nat=>n - z.1) (fun z fr Γ=>∃ R L,fr=[.v (.slice a n c),.v (ii ((z.2:Nat):Int)),.Zy,.Zy,.Zy,.v (ii (z.1:Nat)),.Zy,.Zy,.Zy,.Zy,.Zy,.Zy,.Zy,.Zy,.Zy,.Zy,.Zy,.Zy,.Zy,.Zy,.Zy,.Zy,.Zy,.Zy,.Zy,.Zy,.Zy,.Zy,.Zy,.Zy,.Zy,.Zy,.Zy,.Zy,.Zy,.Zy,.Zy,.Zy,.Zy,.Zy,.Zy,.Zy,.Zy,.Zy,.Zy,.Zy,.Zy,.Zy,.Zy]/\Γ=.vech 53 5 R (.slice a n c)::L/\z.1<=n/\z.2=k+4 * z.1+ir pl z.1/\R.length=n/\L.length=n/\(∀ i,i < n->∃ x0 x1 x2 x3,R[i]?=some [x0,x1,x2,x3,.v (hs i)])/\∀ i,i < n->∃ ks,ks.length=pl i/\L[i]?=some (.vech 3 1 ks (hs i))) (0,k) ?_ ?_
 ·exact ⟨_,_,Wk.ax al,_,_,rfl,rfl,Nat.zero_le _,rfl,hn,hL,bo,jD⟩
 rintro ⟨i,kk⟩ _ _ ⟨R,L,rfl,rfl,hi,jy,ew,qx,Ki,zx⟩;simp only at hi jy
 by_cases aq:i < n
 ·have hd:decide ((i:Int) < (n:Int))=true:=by simpa using aq
  have R5:ir pl (i+1)=ir pl i+pl i:=rfl;have Wc:=EA pl (i:=i+1) (n:=n) aq;have hc:=oX (kk+1+1+1) ah;obtain ⟨x0,x1,x2,x3,hr⟩:=Ki i aq;obtain ⟨ks,ou,Kg⟩:=zx i aq;obtain ⟨a1,c1,F0⟩:=hh i aq;have fq:=Iy a1 c1 (pl i) (kk+1+1+1+1) ks ou ah;generalize tt (kk+1+1+1)=x at *;have Rl:=tq (g:=.v (ii (kk:Nat))) aq (Nat.zero_lt_succ 3) hr Ki;have gg:=oz (o:=0) (g:=.v (ii (kk:Nat))) hr;simp only [bj] at gg;have Oy:=tq (g:=.v (ii ((kk+1:Nat):Int))) aq (show 1 < 4 by omega) gg Rl;have dd:=oz (o:=1) (g:=.v (ii ((kk+1:Nat):Int))) gg;simp only [bj] at dd;have Rm:=tq (g:=.v (ii ((kk+1+1:Nat):Int))) aq (show 2 < 4 by omega) dd Oy;have Ky:=oz (o:=2) (g:=.v (ii ((kk+1+1:Nat):Int))) dd;simp only [bj] at Ky;have Xh:=tq (g:=.v (sv x)) aq (show 3 < 4 by omega) Ky Rm;have UW:=oz (o:=3) (g:=.v (sv x)) Ky;simp only [bj] at UW;rw [F0] at gg dd Ky UW Kg
  have eP:(dw R i (0+0) (.v (ii (kk:Nat)))).length=n:=by rw [fk];exact ew
  have jR:(dw (dw R i (0+0) (.v (ii (kk:Nat)))) i (0+1) (.v (ii ((kk+1:Nat):Int)))).length=n:=by rw [fk];exact eP
  have RE:(dw (dw (dw R i (0+0) (.v (ii (kk:Nat)))) i (0+1) (.v (ii ((kk+1:Nat):Int)))) i (0+2) (.v (ii ((kk+1+1:Nat):Int)))).length=n:=by rw [fk];exact jR
  have XA:(dw (dw (dw (dw R i (0+0) (.v (ii (kk:Nat)))) i (0+1) (.v (ii ((kk+1:Nat):Int)))) i (0+2) (.v (ii ((kk+1+1:Nat):Int)))) i (0+3) (.v (sv x))).length=n:=by rw [fk];exact RE
  refine ab ?_;refine nU ?_;refine ab ?_;refine nU ?_;refine ab ?_;refine nU ?_;refine ab ?_;refine fQ [] (hc) ?_;simp only [append_nil];refine ab ?_;refine nU ?_;refine ab ?_;refine GL.zk [i+1] fq (lG) (by simp [gE,Nat.blt_eq];omega) ⟨Kg,trivial⟩ ?_;rintro _ _ ⟨rfl,R',VE,rfl⟩;refine ⟨by simp,?_⟩;simp only [dL,oset,List.map_cons,map_nil,Ob.dr,append_nil];refine cy ?_;refine ab ?_;refine ⟨(i+1,kk+1+1+1+1+pl i),⟨_,_,Wk.ax al,_,_,rfl,rfl,aq,by simp only;omega,XA,by rw [aX,List.length_set];exact qx,Xh,fun j hj=>?_⟩,by show n - (i+1) < n - i;omega⟩;rw [aX,getElem?_set]
  by_cases e:i=j
  ·subst e;rw [if_pos rfl,if_pos ah];exact ⟨R',VE,by rw [F0]⟩
  ·rw [if_neg e];exact zx j hj
 ·have hd:decide ((i:Int) < (n:Int))=false:=by simpa using aq
  have gz:i=n:=by omega
  subst gz;rw [<-jy];refine ab ?_;refine aU ?_;refine ab ?_
  (repeat (first | refine GW.ret ?_ | refine cI ?_ | refine cH ?_ | refine aL ?_ | refine bX ?_))
  refine HV rfl (by first | exact .inr rfl | exact .inl rfl) rfl (by simp [qx]) ?_ ⟨rfl,R,L,rfl,qx,Kf L qx zx⟩;intro x hx
  rcases List.mem_cons.1 hx with rfl | hx
  ·rfl
  ·exact Kf L qx zx x hx
end Go.Xg
namespace Go.Xg
open Go.RowKit Go.Xw Go.Proofs
open Go.Xp (Nd Ar ca n8)
open Go.Sp (Src)
open Go.Im (tt)
theorem G9 {x:Ob} (h:x.mi=true) (f:Nat->Nat):x.dr f=x:=by cases x <;> first | rfl | cases h
theorem GY {X:List Ob} (h:∀ x∈X,x.mi=true) (f:Nat->Nat):X.map (Ob.dr f)=X :=
 (List.map_congr_left fun x hx=>G9 (h x hx) f).trans (List.map_id _)
theorem Fy (s n N:Nat) (h:s+n<=N):gE (List.range' s n) N=true:=by
 induction n generalizing s with
 | zero=>rfl
 | succ n ih =>
  rw [range'_succ,gE,ih (s+1) ah]
  have h1:Nat.blt s N=true:=by rw [Nat.blt_eq];omega
  have h2:(List.range' (s+1) n).contains s=false:=by
   cases hc:(List.range' (s+1) n).contains s with
   | false=>rfl
   | true =>
    have:=List.mem_range'_1.1 (List.contains_iff_mem.1 hc);omega
  rw [h1,h2];rfl
theorem Ae (f:Nat->Nat):∀ (X A C:List Ob),(∀ x∈X,x.mi=true)->seen f (A++(X++C)) (List.range' A.length X.length) X
 | [],A,C,_=>trivial
 | x::X,A,C,h=>by
  rw [List.length_cons,range'_succ,seen];refine ⟨by rw [getElem?_append_right (Nat.le_refl _),Nat.sub_self,G9 (h x List.mem_cons_self)];rfl,?_⟩
  have:=Ae f X (A++[x]) C fun y hy=>h y (List.mem_cons_of_mem _ hy)
  rw [length_append,List.length_singleton,append_assoc] at this;exact this
theorem w6:∀ (X A C Δ:List Ob),Δ.length=X.length->dL (A++(X++C)) (List.range' A.length X.length) Δ=A++(Δ++C)
 | [],A,C,Δ,h=>by
  have:Δ=[]:=List.eq_nil_of_length_eq_zero h;subst this;show dL (A++C) [] []=_;rw [dL,append_nil];rfl
 | x::X,A,C,[],h=>by cases h
 | x::X,A,C,y::Δ,h=>by
  rw [List.length_cons,range'_succ,dL]
  have e:oset (A++(x::X++C)) A.length y=(A++[y])++(X++C):=by
   rw [aX,List.set_append_right _ _ (Nat.le_refl _),Nat.sub_self];simp
  have:=w6 X (A++[y]) C Δ (by simpa using h);rw [length_append,List.length_singleton] at this;rw [e,this];simp
section
variable {P:Program} {m:Nat} {Q:dQ} {fr:List GV} {Γ:List Ob} {ops:Array Oper} {rest:List Oper} {d:Option Tmp} {op:Op} {ty:TypeId} {pos:String} {af:Array Edge}
theorem GL.rl {f:FuncId} [hf:aB P f] (A X C:List Ob) {args:List Operand} {lR:Array TypeId} {gs:List GV} {R:GV->List Ob->Prop} (hc:GC P f gs X R) (br:Γ=A++(X++C)) (hX:∀ x∈X,x.mi=true) (Xs:∀ r,kU r gs=gs) (ha:ki (args.map (aP fr)) gs)
  (h:∀ g Δ,R g Δ->Δ.length=X.length/\(∀ x∈Δ,x.mi=true)/\(∀ r,dr r g=g)/\GL P m ops Q rest (bh fr d g) (A++(Δ++C))) :
  GL P m ops Q (⟨d,.call ⟨.value (.func f),args.toArray,lR⟩,ty,pos,af,none⟩::rest) fr Γ:=by
 subst br
 refine GL.zk (List.range' A.length X.length) hc (by rw [Xs];exact ha) (Fy _ _ _ (by simp only [length_append];omega)) (Ae _ X A C hX) fun g Δ hr=>?_
 obtain ⟨h1,h2,h3,h4⟩:=h g Δ hr;refine ⟨by rw [List.length_range',h1];exact Nat.le_refl _,?_⟩;rw [GY h2,w6 _ _ _ _ h1,h3];exact h4
end
attribute [local irreducible] GW GL GO YG GC GA aS aW
theorem Tt (p:Src):ir (fun i=>match p.fns[i]? with | some f=>f.params.length | none=>0) p.fns.length=Go.Im.aY (fun f:Go.Sp.Fn=>f.params.length) p.fns:=by
 have key:∀ n,n<=p.fns.length->ir (fun i=>match p.fns[i]? with | some f=>f.params.length | none=>0) n=Go.Im.aY (fun f:Go.Sp.Fn=>f.params.length) (p.fns.take n):=by
  intro n
  induction n with
  | zero=>intro _;rfl
  | succ n ih =>
   intro h
   have hx:p.fns[n]?=some p.fns[n]:=by simp [show n < p.fns.length by omega]
   rw [ir,ih ah,Go.Im.ke hx,hx]
 rw [key _ (Nat.le_refl _),take_length]
theorem T8 (p:Src):ir (fun i=>match p.nodes[i]? with | some f=>f.kids.length | none=>0) p.nodes.length=Go.Im.aY (fun f:Nd=>f.kids.length) p.nodes:=by
 have key:∀ n,n<=p.nodes.length->ir (fun i=>match p.nodes[i]? with | some f=>f.kids.length | none=>0) n=Go.Im.aY (fun f:Nd=>f.kids.length) (p.nodes.take n):=by
  intro n
  induction n with
  | zero=>intro _;rfl
  | succ n ih =>
   intro h
   have hx:p.nodes[n]?=some p.nodes[n]:=by simp [show n < p.nodes.length by omega]
   rw [ir,ih ah,Go.Im.ke hx,hx]
 rw [key _ (Nat.le_refl _),take_length]
theorem qM {α γ:Type} {f:α->Value->γ} {l:List α} {hs:List Value} {i:Nat} {x:α} {h:Value} (h1:l[i]?=some x) (h2:hs[i]?=some h):(List.zipWith f l hs)[i]?=some (f x h):=by rw [List.getElem?_zipWith,h1,h2]
theorem DY (p:Src) (hg ha hf hn:Value) (fs ns:List Value) (H:Ap p hg ha hf hn fs ns) (k:Nat) (hw:Go.Im.ek p<=1048576) (hk:k<=1048576) :
  GC Tryz.prog 22 [.agg [.v hg,.v ha,.v hf,.v hn],.v (ii (k:Nat))] (iD p hg ha hf hn fs ns) fun g Δ=>∃ k':Nat,g=.v (ii (k':Nat))/\Δ.length=(iD p hg ha hf hn fs ns).length/\∀ x∈Δ,x.mi=true:=by
 obtain ⟨⟨b1,_⟩,⟨b2,_⟩,⟨b3,_⟩,⟨b4,_⟩⟩:=Go.Im.ja p
 have fH:Go.Im.aY (fun f:Go.Sp.Fn=>f.params.length) p.fns<=1 * Go.Im.aY (fun f:Go.Sp.Fn=>f.name.length+Go.Im.wS f.params+1) p.fns:=Go.Im.mM fun f _=>by have:=Go.Im.EM f.params;omega
 have iQ:Go.Im.aY (fun f:Nd=>f.kids.length) p.nodes<=1 * Go.Im.aY (fun n:Nd=>n.s.length+n.kids.length+1) p.nodes:=Go.Im.mM fun f _=>by omega
 have qX:Go.Im.aY (fun f:Go.Sp.Fn=>f.name.length+Go.Im.wS f.params+1) p.fns<=1048576:=by unfold Go.Im.ek at hw;omega
 have vS:Go.Im.aY (fun n:Nd=>n.s.length+n.kids.length+1) p.nodes<=1048576:=by unfold Go.Im.ek at hw;omega
 have XR:=Tt p;have UZ:=T8 p;obtain ⟨⟨a0,c0,rfl⟩,⟨a1,c1,rfl⟩,⟨a2,c2,rfl⟩,⟨a3,c3,rfl⟩,iP,uu,Xn,XH⟩:=H
 have R7:∀ i,i < p.fns.length->∃ f h,p.fns[i]?=some f/\fs[i]?=some h:=fun i hi=>⟨p.fns[i],fs[i]'ah,by simp [hi],by simp [show i < fs.length by omega]⟩
 have R8:∀ i,i < p.nodes.length->∃ f h,p.nodes[i]?=some f/\ns[i]?=some h:=fun i hi=>⟨p.nodes[i],ns[i]'ah,by simp [hi],by simp [show i < ns.length by omega]⟩
 have Dj:(List.zipWith qn p.fns fs).length=p.fns.length:=by rw [length_zipWith];omega
 have qx:(List.zipWith lX p.nodes ns).length=p.nodes.length:=by rw [length_zipWith];omega
 have e0:=qQ a0 c0 p.globals.length k (aZ p.globals) (by simp [aZ]) ah
 have e1:=fun k hk=>DX a1 c1 p.arrays.length k (p.arrays.map az) (by simp) (fun r hr=>by obtain ⟨x,_,rfl⟩:=List.mem_map.1 hr;rfl) hk
 have e2:=fun k hk=>Le a2 c2 p.fns.length k (fun i=>match fs[i]? with | some h=>h | none=>undef) (fun i=>match p.fns[i]? with | some f=>f.params.length | none=>0) (List.zipWith pd p.fns fs) (List.zipWith qn p.fns fs) (by rw [length_zipWith];omega)
  (fun i hi=>by obtain ⟨f,h,h1,h2⟩:=R7 i hi;rw [h1,h2];exact Xn i f h h1 h2) (fun i hi=>by obtain ⟨f,h,h1,h2⟩:=R7 i hi;rw [h2];exact ⟨_,_,qM h1 h2⟩) Dj
  (fun i hi=>by obtain ⟨f,h,h1,h2⟩:=R7 i hi;rw [h1,h2];exact ⟨aZ f.params,by simp [aZ],qM h1 h2⟩) hk
 have e3:=fun k hk=>Fv a3 c3 p.nodes.length k (fun i=>match ns[i]? with | some h=>h | none=>undef) (fun i=>match p.nodes[i]? with | some f=>f.kids.length | none=>0) (List.zipWith kY p.nodes ns) (List.zipWith lX p.nodes ns) (by rw [length_zipWith];omega)
  (fun i hi=>by obtain ⟨f,h,h1,h2⟩:=R8 i hi;rw [h1,h2];exact XH i f h h1 h2) (fun i hi=>by obtain ⟨f,h,h1,h2⟩:=R8 i hi;rw [h2];exact ⟨_,_,_,_,qM h1 h2⟩) qx
  (fun i hi=>by obtain ⟨f,h,h1,h2⟩:=R8 i hi;rw [h1,h2];exact ⟨AX f.kids,by simp [AX],qM h1 h2⟩) hk
 rw [XR] at e2;rw [UZ] at e3;have e1:=e1 (k+p.globals.length) ah;have e2:=e2 (k+p.globals.length+2 * p.arrays.length) ah;have e3:=e3 (k+p.globals.length+2 * p.arrays.length+2 * p.fns.length+Go.Im.aY (fun f:Go.Sp.Fn=>f.params.length) p.fns) ah;have aM:=y7 p (.slice a0 p.globals.length c0) (.slice a1 p.arrays.length c1) (.slice a2 p.fns.length c2) (.slice a3 p.nodes.length c3) fs ns;generalize hm:(iD p (.slice a0 p.globals.length c0) (.slice a1 p.arrays.length c1) (.slice a2 p.fns.length c2) (.slice a3 p.nodes.length c3) fs ns).length=M;unfold iD at hm aM |-;generalize hF:List.zipWith qn p.fns fs=LF at *;generalize hN:List.zipWith lX p.nodes ns=LN at *;refine cP Tryz.func22 Tryz.ntmps22 ?_;rw [hm];refine GW.seq ?_;refine GW.region ?_;refine GL.Vr rfl rfl ?_;refine cy ?_;refine ab ?_;refine GL.rl [] [_] _ e0 rfl (by intro x hx;rw [List.mem_singleton.1 hx];rfl) (fun _=>rfl) (lG) ?_;rintro _ _ ⟨rfl,rfl⟩;refine ⟨rfl,by intro x hx;rw [List.mem_singleton.1 hx];rfl,fun _=>rfl,?_⟩;refine cy ?_;refine ab ?_;refine GL.rl [_] [_] _ e1 rfl (by intro x hx;rw [List.mem_singleton.1 hx];rfl) (fun _=>rfl) (lG) ?_;rintro _ _ ⟨rfl,R1,rfl⟩;refine ⟨rfl,by intro x hx;rw [List.mem_singleton.1 hx];rfl,fun _=>rfl,?_⟩;refine cy ?_;refine ab ?_;refine GL.rl [_,_] (_::LF) (_::LN) e2 rfl (by intro x hx;exact aM x (by simp only [List.mem_cons,List.mem_append] at hx |-;rcases hx with h | h;(· exact .inr (.inr (.inl h)));exact .inr (.inr (.inr (.inl h))))) (fun _=>rfl) (lG) ?_;rintro _ _ ⟨rfl,R2,L2,rfl,UH,Ri⟩;refine ⟨by simp [UH,Dj],by intro x hx;rcases List.mem_cons.1 hx with rfl | hx;(· rfl);exact Ri x hx,fun _=>rfl,?_⟩;refine cy ?_;refine ab ?_;refine GL.rl (_::_::_::L2) (_::LN) [] e3 (by rw [append_nil];rfl) (by intro x hx;exact aM x (by simp only [List.mem_cons,List.mem_append] at hx |-;exact .inr (.inr (.inr (.inr hx))))) (fun _=>rfl) (lG) ?_;rintro _ _ ⟨rfl,R3,L3,rfl,UI,Rj⟩;refine ⟨by simp [UI,qx],by intro x hx;rcases List.mem_cons.1 hx with rfl | hx;(· rfl);exact Rj x hx,fun _=>rfl,?_⟩;rw [append_nil]
 refine cy ?_;refine ab ?_
 (repeat (first | refine GW.ret ?_ | refine cI ?_ | refine cH ?_ | refine aL ?_ | refine bX ?_))
 have hH:∀ x∈(Ob.vech 9 1 (marks k p.globals.length) (.slice a0 p.globals.length c0)::Ob.vech 86 2 R1 (.slice a1 p.arrays.length c1)::Ob.vech 85 3 R2 (.slice a2 p.fns.length c2)::(L2++Ob.vech 53 5 R3 (.slice a3 p.nodes.length c3)::L3)),x.mi=true:=by
  intro x hx
  rcases List.mem_cons.1 hx with rfl | hx
  ·rfl
  rcases List.mem_cons.1 hx with rfl | hx
  ·rfl
  rcases List.mem_cons.1 hx with rfl | hx
  ·rfl
  rcases List.mem_append.1 hx with hx | hx
  ·exact Ri x hx
  rcases List.mem_cons.1 hx with rfl | hx
  ·rfl
  ·exact Rj x hx
 have hM:M=(Ob.vech 9 1 (marks k p.globals.length) (.slice a0 p.globals.length c0)::Ob.vech 86 2 R1 (.slice a1 p.arrays.length c1)::Ob.vech 85 3 R2 (.slice a2 p.fns.length c2)::(L2++Ob.vech 53 5 R3 (.slice a3 p.nodes.length c3)::L3)).length:=by
  rw [<-hm];simp [UH,UI,Dj,qx]
 exact HV rfl (by first | exact .inr rfl | exact .inl rfl) rfl hM hH ⟨_,rfl,hM.symm,hH⟩
end Go.Xg
namespace Go.Xg
open Go.RowKit Go.Xw Go.Proofs
open Go.Xp (Nd Ar)
open Go.Sp (Src)
open Go.Im
theorem tZ {A X C:List Ob} {j:Nat} (h:j < X.length):(A++(X++C))[A.length+j]?=X[j]?:=by
 rw [getElem?_append_right ah,Nat.add_sub_cancel_left,List.getElem?_append_left h]
def Gc (p:Src) (i:Nat):Go.Sp.Fn:=(p.fns[i]?).getD ⟨[],[],0⟩
def G1 (p:Src) (i:Nat):Nd:=(p.nodes[i]?).getD ⟨0,0,0,[],[]⟩
def yo (l:List Value) (i:Nat):Value:=(l[i]?).getD undef
theorem y8 {B:Bs} {K:Fz} {β:Bt} {w:World} {A C:List Ob} {p:Src} {hg ha hf hn:Value} {fs ns:List Value} (H:Ap p hg ha hf hn fs ns) (hI:Inv B K β (A++(iD p hg ha hf hn fs ns++C)) w) :
  ∃ K1,cm K K1/\iI K1 w/\gB K1 (fun _=>.no) w/\aV K1 (fun _=>.no) [hg,ha,hf,hn] (ar p):=by
 obtain ⟨_,_,_,_,iP,uu,_,_⟩:=H
 have Dj:(List.zipWith qn p.fns fs).length=p.fns.length:=by rw [length_zipWith];omega
 have qx:(List.zipWith lX p.nodes ns).length=p.nodes.length:=by rw [length_zipWith];omega
 have hlen:(iD p hg ha hf hn fs ns).length=4+p.fns.length+p.nodes.length:=by simp [iD,Dj,qx];omega
 have hF:∀ i,i < p.fns.length->p.fns[i]?=some (Gc p i)/\fs[i]?=some (yo fs i):=fun i hi=>by
  unfold Gc yo;rw [getElem?_eq_getElem hi,getElem?_eq_getElem (show i < fs.length by omega)];exact ⟨rfl,rfl⟩
 have hN:∀ i,i < p.nodes.length->p.nodes[i]?=some (G1 p i)/\ns[i]?=some (yo ns i):=fun i hi=>by
  unfold G1 yo;rw [getElem?_eq_getElem hi,getElem?_eq_getElem (show i < ns.length by omega)];exact ⟨rfl,rfl⟩
 have g0:(A++(iD p hg ha hf hn fs ns++C))[A.length+0]?=some (.vech 9 1 (aZ p.globals) hg):=by rw [tZ ah];rfl
 have g1:(A++(iD p hg ha hf hn fs ns++C))[A.length+1]?=some (.vech 86 2 (p.arrays.map az) ha):=by rw [tZ ah];rfl
 have g2:(A++(iD p hg ha hf hn fs ns++C))[A.length+2]?=some (.vech 85 3 (List.zipWith pd p.fns fs) hf):=by rw [tZ ah];rfl
 have gF:∀ i,i < p.fns.length->(A++(iD p hg ha hf hn fs ns++C))[A.length+(3+i)]?=some (.vech 9 1 (aZ (Gc p i).params) (yo fs i)):=fun i hi=>by
  rw [tZ ah];unfold iD;rw [show 3+i=i+1+1+1 by omega,getElem?_cons_succ,getElem?_cons_succ,getElem?_cons_succ,List.getElem?_append_left ah,qM (hF i hi).1 (hF i hi).2];rfl
 have g3:(A++(iD p hg ha hf hn fs ns++C))[A.length+(3+p.fns.length)]?=some (.vech 53 5 (List.zipWith kY p.nodes ns) hn):=by
  rw [tZ ah];unfold iD;rw [show 3+p.fns.length=p.fns.length+1+1+1 by omega,getElem?_cons_succ,getElem?_cons_succ,getElem?_cons_succ,getElem?_append_right ah,Dj,Nat.sub_self];rfl
 have gN:∀ i,i < p.nodes.length->(A++(iD p hg ha hf hn fs ns++C))[A.length+(4+p.fns.length+i)]?=some (.vech 3 1 (AX (G1 p i).kids) (yo ns i)):=fun i hi=>by
  rw [tZ ah];unfold iD;rw [show 4+p.fns.length+i=(p.fns.length+(i+1))+1+1+1 by omega,getElem?_cons_succ,getElem?_cons_succ,getElem?_cons_succ,getElem?_append_right ah,Dj,Nat.add_sub_cancel_left,getElem?_cons_succ,qM (hN i hi).1 (hN i hi).2];rfl
 generalize A.length=s at *;generalize (A++(iD p hg ha hf hn fs ns++C))=Γ at *;obtain ⟨K1,Zx,R1,k1,i1,f1,l1,r1,o1⟩:=hI.Ek (jf:=s+2) (N:=p.fns.length) (o:=1) (E:=9) (k':=1) (raw:=fun i=>pd (Gc p i) (yo fs i)) (fin:=fun i=>au (Gc p i)) (ks:=fun i=>aZ (Gc p i).params) (hd:=fun i=>yo fs i) (jp:=fun i=>s+(3+i)) g2
  ⟨by rw [length_zipWith];omega,fun i hi=>qM (hF i hi).1 (hF i hi).2⟩ (fun i hi=>⟨rfl,rfl⟩) gF (fun i hi=>by omega) (fun i j _ _ h=>by omega)
 obtain ⟨K2,Cv,R2,k2,i2,f2,l2,r2,o2⟩:=i1.Ek (jf:=s+(3+p.fns.length)) (N:=p.nodes.length) (o:=4) (E:=3) (k':=1) (raw:=fun i=>kY (G1 p i) (yo ns i)) (fin:=fun i=>aw (G1 p i)) (ks:=fun i=>AX (G1 p i).kids) (hd:=fun i=>yo ns i) (jp:=fun i=>s+(4+p.fns.length+i))
  (by rw [o1 _ ah fun i hi=>by omega];exact g3) ⟨by rw [length_zipWith];omega,fun i hi=>qM (hN i hi).1 (hN i hi).2⟩ (fun i hi=>⟨rfl,rfl⟩) (fun i hi=>by rw [o1 _ ah fun j hj=>by omega];exact gN i hi) (fun i hi=>by omega) (fun i j _ _ h=>by omega)
 have e1:R1=p.fns.map au:=by
  apply List.ext_getElem?;intro i
  by_cases hi:i < p.fns.length
  ·rw [r1 i hi,getElem?_map,(hF i hi).1];rfl
  ·rw [getElem?_eq_none ah,getElem?_eq_none (by rw [List.length_map];omega)]
 have e2:R2=p.nodes.map aw:=by
  apply List.ext_getElem?;intro i
  by_cases hi:i < p.nodes.length
  ·rw [r2 i hi,getElem?_map,(hN i hi).1];rfl
  ·rw [getElem?_eq_none ah,getElem?_eq_none (by rw [List.length_map];omega)]
 rw [e1] at f1;rw [e2] at f2
 have WT:Cv[s+2]?=some (.vech 85 3 (p.fns.map au) hf):=by rw [o2 _ ah fun i hi=>by omega];exact f1
 have WV:Cv[s+0]?=some (.vech 9 1 (aZ p.globals) hg):=by rw [o2 _ ah fun i hi=>by omega,o1 _ ah fun i hi=>by omega];exact g0
 have WW:Cv[s+1]?=some (.vech 86 2 (p.arrays.map az) ha):=by rw [o2 _ ah fun i hi=>by omega,o1 _ ah fun i hi=>by omega];exact g1
 obtain ⟨K3,k3,q0,i3⟩:=i2.rh WV;obtain ⟨K4,k4,q1,i4⟩:=i3.rh (i:=s+1) (by rw [aX,getElem?_set,if_neg ah];exact WW);obtain ⟨K5,k5,q2,i5⟩:=i4.rh (i:=s+2) (by rw [aX,aX,getElem?_set,if_neg ah,getElem?_set,if_neg ah];exact WT);obtain ⟨K6,k6,q3,i6⟩:=i5.rh (i:=s+(3+p.fns.length)) (by rw [aX,aX,aX,getElem?_set,if_neg ah,getElem?_set,if_neg ah,getElem?_set,if_neg ah];exact f2);have b:dc β β:=dc.refl β;refine ⟨K6,k1.trans (k2.trans (k3.trans (k4.trans (k5.trans k6)))),i6.fz,i6.Ww,?_⟩;exact .cons ((q0.mono (k4.trans (k5.trans k6)) b).pc rfl) (.cons ((q1.mono (k5.trans k6) b).pc rfl) (.cons ((q2.mono k6 b).pc rfl) (.cons (q3.pc rfl) .nil)))
theorem CW {K:Fz} {β:Bt} {v a b c d:Value} (h:Rel K β v (.agg [.v a,.v b,.v c,.v d])):v=.agg #[a,b,c,d]:=by
 cases h with
 | agg vs cs hl h =>
  match vs,hl with
  | [x,y,z,u],_ =>
   rw [Rel.eT (h 0 x _ rfl rfl),Rel.eT (h 1 y _ rfl rfl),Rel.eT (h 2 z _ rfl rfl),Rel.eT (h 3 u _ rfl rfl)]
theorem CX {K:Fz} {a b c d:Value} {gs:List GV} (h:aV K (fun _=>.no) [a,b,c,d] gs):Rel K (fun _=>.no) (.agg #[a,b,c,d]) (.agg gs):=.agg [a,b,c,d] gs h.1 h.2
section
variable {B:Bs} {K:Fz} {β:Bt} {w:World} {l:List Value} {fr:List GV} {A C X:List Ob} {p:Src} {hg ha hf hn:Value} {fs ns:List Value}
theorem C0 {x y:Operand} {z:Value} (H:Ap p hg ha hf hn fs ns) (hI:Inv B K β (A++(iD p hg ha hf hn fs ns++C)) w) (hF:FR K β fr l) (hx:aP fr x=.agg [.v hg,.v ha,.v hf,.v hn]) (hy:aP fr y=.v z) :
  ∃ K1,iI K1 w/\gB K1 (fun _=>.no) w/\aV K1 (fun _=>.no) ([x,y].map (ev l)) [.agg (ar p),.v z]:=by
 obtain ⟨K1,_,h1,h2,h3⟩:=y8 H hI;have hr:=hF.ev x;rw [hx] at hr;have e:=CW hr;refine ⟨K1,h1,h2,?_⟩;show aV K1 _ [ev l x,ev l y] _;rw [e,hF.gy hy];exact .cons (CX h3) (.cons (.v _) .nil)
theorem J3 {K K1:Fz} {v:Value} {gs:List GV} (hk:cm K K1) (hp:∀ g∈gs,g.pc=true) (h:Rel K β v (.agg gs)):Rel K1 (fun _=>.no) v (.agg gs):=by
 cases h with
 | agg vs cs hl h =>
  exact .agg vs gs hl fun i v g h1 h2=>((h i v g h1 h2).mono hk (dc.refl β)).pc (hp g (mem_of_getElem? h2))
theorem JI (p:Src):∀ g∈ar p,g.pc=true:=fun g hg=>by
 simp only [ar,List.mem_cons,List.not_mem_nil,or_false] at hg
 rcases hg with rfl | rfl | rfl | rfl <;> rfl
theorem Fe {x y:Operand} (H:Ap p hg ha hf hn fs ns) (hI:Inv B K β (A++(iD p hg ha hf hn fs ns++C)) w) (hF:FR K β fr l) (hx:aP fr x=.agg [.v hg,.v ha,.v hf,.v hn]) (hy:aP fr y=.agg (ar p)) :
  ∃ K1,iI K1 w/\gB K1 (fun _=>.no) w/\aV K1 (fun _=>.no) ([x,y].map (ev l)) [.agg (ar p),.agg (ar p)]:=by
 obtain ⟨K1,hk,h1,h2,h3⟩:=y8 H hI;have hr:=hF.ev x;rw [hx] at hr;have e:=CW hr;have dd:=hF.ev y;rw [hy] at dd;refine ⟨K1,h1,h2,?_⟩;show aV K1 _ [ev l x,ev l y] _;rw [e];exact .cons (CX h3) (.cons (J3 hk (JI p) dd) .nil)
theorem tE {x y:Operand} {r:List ae} {h:Value} (hI:Inv B K β (A++(X++[.vech 9 1 (aZ r) h])) w) (hF:FR K β fr l) (hx:aP fr x=.v h) (hy:aP fr y=strs r) :
  ∃ K1,iI K1 w/\gB K1 (fun _=>.no) w/\aV K1 (fun _=>.no) ([x,y].map (ev l)) [strs r,strs r]:=by
 obtain ⟨K1,hk,h1,h2,h3⟩:=hI.view (i:=A.length+X.length) (E:=9) (k:=1) (rows:=aZ r) (x:=h) (by rw [<-append_assoc,getElem?_append_right (by rw [length_append];exact Nat.le_refl _),length_append,Nat.sub_self];rfl);have hr:=hF.ev y;rw [hy] at hr;refine ⟨K1,h1,h2,?_⟩;show aV K1 _ [ev l x,ev l y] _;rw [hF.gy hx];exact .cons h3 (.cons ((hr.mono hk (dc.refl β)).pc rfl) .nil)
theorem C1 {x y:Operand} {r:List ae} {h:Value} {o:Ob} (hI:Inv B K β (A++(X++[o,.vech 9 1 (aZ r) h])) w) (hF:FR K β fr l) (hx:aP fr x=.v h) (hy:aP fr y=strs r) :
  ∃ K1,iI K1 w/\gB K1 (fun _=>.no) w/\aV K1 (fun _=>.no) ([x,y].map (ev l)) [strs r,strs r]:=by
 refine tE (B:=B) (A:=A) (X:=X++[o]) (h:=h) ?_ hF hx hy;rw [append_assoc];exact hI
theorem vY {x y:Operand} {n:Nat} {h z:Value} (hI:Inv B K β (A++(X++(.vech 9 1 (marks 1 n) h::C))) w) (hF:FR K β fr l) (hx:aP fr x=.v h) (hy:aP fr y=.v z) :
  ∃ K1,iI K1 w/\gB K1 (fun _=>.no) w/\aV K1 (fun _=>.no) ([x,y].map (ev l)) [.sl 1 (marks 1 n),.v z]:=by
 obtain ⟨K1,hk,h1,h2,h3⟩:=hI.view (i:=A.length+X.length) (E:=9) (k:=1) (rows:=marks 1 n) (x:=h) (by rw [<-append_assoc,getElem?_append_right (by rw [length_append];exact Nat.le_refl _),length_append,Nat.sub_self];rfl);refine ⟨K1,h1,h2,?_⟩;show aV K1 _ [ev l x,ev l y] _;rw [hF.gy hx,hF.gy hy];exact .cons h3 (.cons (.v _) .nil)
end
end Go.Xg
set_option maxHeartbeats 4000000
namespace Go.Xg
open Go.RowKit Go.Xw Go.Proofs
open Go.Sp (Src)
open Go.Im
attribute [local irreducible] GW GL GO YG GC GA aS aW
theorem xM (p:Src) (i1:Int) (hS:GF Tryz.prog 8 [.agg (ar p),.v (ii 1048576)] [] (.v (ii (-1))) []):GF Tryz.prog 7 [.agg (ar p),.v (ii i1)] [] (.v (.bool true)) []:=by
 refine ai Tryz.func7 Tryz.ntmps7 ?_;refine U [] (hS) ?_;exact ao
theorem yu (p:Src) (i1:Int) (n:Nat) (r:List ae) (hw:ek p<=1048576) (hr:r.length<=1048576) (hS:GF Tryz.prog 8 [.agg (ar p),.v (ii 1048576)] [] (.v (ii (n:Nat))) [])
  (hT:GF Tryz.prog 10 [.agg (ar p)] [] (.agg (ar p)) [])
  (hO:GC Tryz.prog 10 [.agg (ar p)] [] fun g Δ=>∃ hg ha hf hn fs ns,Ap p hg ha hf hn fs ns/\g=.agg [.v hg,.v ha,.v hf,.v hn]/\Δ=iD p hg ha hf hn fs ns)
  (hG:GF Tryz.prog 19 [.agg (ar p),.v (ii i1)] [] (strs r) [])
  (hI:GC Tryz.prog 20 [.agg (ar p),.v (ii i1)] [] fun g Δ=>∃ a c,g=.v (.slice a r.length c)/\Δ=[.vech 9 1 (aZ r) (.slice a r.length c)])
  (hE:GF Tryz.prog 12 [.agg (ar p),.agg (ar p)] [] (.v (.bool true)) []) :
  GF Tryz.prog 7 [.agg (ar p),.v (ii i1)] [] (.v (.bool true)) []:=by
 have hd:decide (((n:Nat):Int) < 0)=false:=by simp
 have hQ:=tJ r hr;have Xe:=qQ;have UG:=CA 1 r.length ah;have dk:decide (((1+r.length:Nat):Int) < 0)=false:=decide_eq_false ah
 have zA:(((1+r.length:Nat):Int) != ((1+r.length:Nat):Int))=false:=by simp
 have rZ:=mJ r;refine ai Tryz.func7 Tryz.ntmps7 ?_;refine U [] (hS) ?_;refine U [] (hT) ?_;refine U [] (hG) ?_;refine bZ [] (hO) ?_;rintro _ _ ⟨hg,ha,hf,hn,fs,ns,H,rfl,rfl⟩;have UK:=y7 p hg ha hf hn fs ns;have hM:=DY p hg ha hf hn fs ns H 1 hw ah;have hV:=@y8;obtain ⟨⟨q0,q1,rfl⟩,⟨q2,q3,rfl⟩,⟨q4,q5,rfl⟩,⟨q6,q7,rfl⟩,Zc,Ri,Rj,Zd⟩:=id H;rw [GY UK];refine da ?_;refine GL.Wq rfl rfl rfl rfl rfl rfl rfl ?_;refine cy ?_;refine ab ?_;refine GL.Pq hI rZ (fun r hr g hg=>by obtain ⟨s,_,rfl⟩:=List.mem_map.1 hr;rw [List.mem_singleton.1 hg];exact ⟨_,rfl⟩) (fun B K β w l hI hF=>C0 H (A:=[_]) (C:=[]) (by rw [append_nil];exact hI) hF rfl rfl) ?_;intro ag cg;refine cy ?_;refine ab ?_;refine GL.borrow hQ (fun B K β w l hI hF=>tE (A:=[_]) (X:=iD p _ _ _ _ fs ns) hI hF rfl rfl) ?_;refine cy ?_;refine ab ?_;refine GW.draw (.q 0 (.q 1 (.a 2 (.a 3 (.q 4 .nil))))) (by kernel_rfl) (by kernel_rfl) ?_;refine aj ?_;refine vK [] (hT) ?_;simp only [append_nil];refine aj ?_;refine OA rfl rfl (GL.borrow hE (fun B K β w l hI hF=>Fe H (A:=[_]) hI hF rfl rfl) ?_);refine de ?_;refine aj ?_;refine ab ?_;refine GL.rl [_] (iD p _ _ _ _ fs ns) [_] hM rfl UK (fun _=>rfl) (lG) ?_;rintro _ Δ ⟨k',rfl,X5,Wh⟩;refine ⟨X5,Wh,fun _=>rfl,?_⟩
 have Zh:decide (((k':Nat):Int) < 0)=false:=by simp
 refine cy ?_;refine ab ?_;refine GL.borrow hQ (fun B K β w l hI hF=>tE (A:=[_]) (X:=Δ) hI hF rfl rfl) ?_;refine cy ?_;refine ab ?_;refine GL.rl (_::Δ) [_] [] (Xe ag cg r.length 1 (aZ r) rZ ah) rfl (by intro x hx;rw [List.mem_singleton.1 hx];rfl) (fun _=>rfl) (lG) ?_;rintro _ _ ⟨rfl,rfl⟩;refine ⟨rfl,by intro x hx;rw [List.mem_singleton.1 hx];rfl,fun _=>rfl,?_⟩;refine cy ?_;refine ab ?_;refine GL.borrow UG (fun B K β w l hI hF=>vY (A:=[_]) (X:=Δ) (C:=[]) hI hF rfl rfl) ?_;refine cy ?_;refine ab ?_;refine fQ [] (hT) ?_;simp only [append_nil];refine ab ?_;refine bZ [] (hI) ?_;rintro _ _ ⟨a2,c2,rfl,rfl⟩;refine da ?_;refine ab ?_;refine GL.borrow hQ (fun B K β w l hI hF=>by rw [append_assoc] at hI;exact C1 (A:=[_]) (X:=Δ) hI hF rfl rfl) ?_;refine cy ?_;refine ab ?_;refine GL.borrow UG (fun B K β w l hI hF=>by rw [append_assoc] at hI;exact vY (A:=[_]) (X:=Δ) hI hF rfl rfl) ?_;refine cy ?_;exact av
theorem zg (p:Src) (hb:Small p 9223372036854775807) (hn:rE p) (i1:Int):GF Tryz.prog 7 [.agg (ar p),.v (ii i1)] [] (.v (.bool true)) []:=by
 have hS:=IZ p hb
 by_cases hw:1048576 < ek p
 ·rw [dF hw] at hS;exact xM p i1 hS
 ·rw [fP ah] at hS
  have hw:ek p<=1048576:=by omega
  obtain ⟨⟨a1,a2⟩,⟨b1,b2⟩,⟨c1,c2⟩,⟨d1,d2⟩⟩:=ja p
  have zB:∀ f∈p.fns,f.params.length<=1048576:=fun f h=>by have:=(c2 f h).2.1;omega
  have wF:∀ n∈p.nodes,n.kids.length<=1048576:=fun n h=>by have:=(d2 n h).2;omega
  exact yu p i1 _ (vI p i1) hw (NZ hw) hS (I2 p ah ah ah zB ah wF) (I3 p ah ah ah zB ah wF) (Mm p hw i1) (Mn p hw hn i1) (HS p ah ah ah zB ah wF)
end Go.Xg
