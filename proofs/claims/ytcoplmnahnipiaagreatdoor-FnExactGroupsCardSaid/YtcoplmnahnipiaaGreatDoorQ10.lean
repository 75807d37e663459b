/- Part 10 of proofs that are told in their last texts. -/
import Derived.Test.YtcoplmnahnipiaaGreatDoorQ2
import Derived.Test.YtcoplmnahnipiaaGreatDoorQ5
import Derived.Test.YtcoplmnahnipiaaGreatDoorQ9
import Derived.Test.YtcoplmnahnipiaaGreatDoorQ6
open List (append_nil getElem?_map length_cons mem_of_getElem? take_length)
set_option linter.unusedVariables false
set_option linter.unusedSimpArgs false
set_option maxRecDepth 100000
set_option maxHeartbeats 2000000
namespace Go.Xg
open Go.RowKit Go.Xw Go.Proofs
open Go.Xp (Nd Ar)
open Go.Sp (Src)
open Go.Im (wS eh be nL si gk dH nK kG nJ)
attribute [local irreducible] GW GL GO YG GC GA aU aZ
theorem Qp (l:List Int) (left:Nat) (hl:l.length<=9223372036854775807) (we:left<=1048576):GF Tryz.prog 128 [ints l,.v (ii (left:Nat))] [] (.v (ii (si l.length left))) []:=by
 have hm:(l.map fun i=>[GV.v (ii i)]).length=l.length:=by simp
 by_cases h0:left < l.length
 ·have hd:decide ((left:Int) - ((l.map fun i=>[GV.v (ii i)]).length:Int) < 0)=true:=by rw [hm];simpa using by omega
  rw [dH h0];refine ai Tryz.func128 Tryz.ntmps128 ?_;exact al
 ·have hd:decide ((left:Int) - ((l.map fun i=>[GV.v (ii i)]).length:Int) < 0)=false:=by rw [hm];simpa using by omega
  rw [gk ag,show ((left - l.length:Nat):Int)=(left:Int) - ((l.map fun i=>[GV.v (ii i)]).length:Int) by rw [hm];omega];refine ai Tryz.func128 Tryz.ntmps128 ?_;exact al
theorem zz (l:List ah) (left:Nat) (hl:l.length<=9223372036854775807) (he:∀ x∈l,x.length<=9223372036854775807) (we:left<=1048576):GF Tryz.prog 35 [strs l,.v (ii (left:Nat))] [] (.v (ii (si (wS l) left))) []:=by
 have hm:(l.map (fun s=>[GV.v (sv s)])).length=l.length:=by simp
 have ht:wS l=l.length+be (fun x:ah=>x.length) l:=nK _ l
 by_cases h0:left < l.length
 ·have hd:decide ((left:Int) - ((l.map (fun s=>[GV.v (sv s)])).length:Int) < 0)=true:=by rw [hm];simpa using by omega
  rw [dH ag];refine ai Tryz.func35 Tryz.ntmps35 ?_;exact al
 have hd:decide ((left:Int) - ((l.map (fun s=>[GV.v (sv s)])).length:Int) < 0)=false:=by rw [hm];simpa using by omega
 rw [ht];refine ai Tryz.func35 Tryz.ntmps35 ?_;refine GW.loop (fun k:Nat × Int=>l.length - k.1) (fun k fr Γ=>fr=[strs l,.v (ii k.2),.U,.U,.U,.v (ii (k.1:Nat)),.U,.U,.U,.U,.U,.U,.U,.U,.U,.U,.U,.U,.U,.U,.U,.U,.U,.U,.U,.U,.U,.U]/\Γ=[]/\k.1<=l.length/\k.2=(left:Int) - ((l.length+be (fun x:ah=>x.length) (l.take k.1):Nat):Int)/\0<=k.2) (0,(left:Int) - ((l.map (fun s=>[GV.v (sv s)])).length:Int)) ?_ ?_
 ·exact ⟨_,_,Wk.aC aq,rfl,rfl,Nat.zero_le _,by rw [hm];simp [be],by rw [hm];simp only;omega⟩
 rintro ⟨k,z⟩ _ _ ⟨rfl,rfl,hk,hz,ET⟩;simp only at hk hz ET
 have U9:z<=1048576:=by omega
 by_cases ak:k < l.length
 ·have hx:l[k]?=some l[k]:=by simp [ak]
  have hr:(l.map (fun s=>[GV.v (sv s)]))[k]?=some ([GV.v (sv l[k])]):=by rw [getElem?_map,hx];rfl
  have dd:decide ((k:Int) < ((l.map (fun s=>[GV.v (sv s)])).length:Int))=true:=by rw [hm];simpa using ak
  have jZ:=kG (w:=fun x:ah=>x.length) hx;have hle:=nL (fun x:ah=>x.length) l (k+1);have hex:=he _ (mem_of_getElem? hx);generalize l[k]=x at *
  by_cases h1:z < ((x.length:Nat):Int)
  ·have AW:decide (z - ((x.length:Nat):Int) < 0)=true:=by simpa using by omega
   rw [dH ag];exact av
  ·have AW:decide (z - ((x.length:Nat):Int) < 0)=false:=by simpa using by omega
   refine ae ?_;exact ⟨(k+1,z - ((x.length:Nat):Int)),⟨_,_,Wk.aC aq,rfl,rfl,ak,by simp only;omega,by simp only;omega⟩,by simp only;omega⟩
 ·have dd:decide ((k:Int) < ((l.map (fun s=>[GV.v (sv s)])).length:Int))=false:=by rw [hm];simpa using ak
  have lz:k=l.length:=by omega
  subst lz;rw [take_length] at hz;rw [gk ag,show ((left - (l.length+be (fun x:ah=>x.length) l):Nat):Int)=z by omega];refine bH ?_;exact av
theorem N4 (x:Ar) (left:Nat) (hs:x.name.length<=9223372036854775807) (we:left<=1048576):GF Tryz.prog 94 [.agg (aD x),.v (ii (left:Nat))] [] (.v (ii (si (x.name.length) left))) []:=by
 by_cases h0:left < x.name.length
 ·have hd:decide ((left:Int) - ((x.name.length:Nat):Int) < 0)=true:=by simpa using by omega
  rw [dH ag];refine ai Tryz.func94 Tryz.ntmps94 ?_;exact al
 have hd:decide ((left:Int) - ((x.name.length:Nat):Int) < 0)=false:=by simpa using by omega
 rw [gk ag,show ((left - (x.name.length):Nat):Int)=(left:Int) - ((x.name.length:Nat):Int) by omega];refine ai Tryz.func94 Tryz.ntmps94 ?_;exact al
theorem KV (l:List Ar) (left:Nat) (hl:l.length<=9223372036854775807) (he:∀ x∈l,x.name.length<=9223372036854775807) (we:left<=1048576):GF Tryz.prog 36 [.sl 2 (l.map aD),.v (ii (left:Nat))] [] (.v (ii (si (be (fun a:Ar=>a.name.length+1) l) left))) []:=by
 have hm:(l.map aD).length=l.length:=by simp
 have ht:be (fun a:Ar=>a.name.length+1) l=l.length+be (fun x:Ar=>x.name.length) l:=nK _ l
 by_cases h0:left < l.length
 ·have hd:decide ((left:Int) - ((l.map aD).length:Int) < 0)=true:=by rw [hm];simpa using by omega
  rw [dH ag];refine ai Tryz.func36 Tryz.ntmps36 ?_;exact al
 have hd:decide ((left:Int) - ((l.map aD).length:Int) < 0)=false:=by rw [hm];simpa using by omega
 rw [ht];refine ai Tryz.func36 Tryz.ntmps36 ?_;refine GW.loop (fun k:Nat × Int=>l.length - k.1) (fun k fr Γ=>fr=[.sl 2 (l.map aD),.v (ii k.2),.U,.U,.U,.v (ii (k.1:Nat)),.U,.U,.U,.U,.U,.U,.U,.U,.U,.U,.U,.U,.U,.U,.U,.U,.U,.U,.U,.U,.U]/\Γ=[]/\k.1<=l.length/\k.2=(left:Int) - ((l.length+be (fun x:Ar=>x.name.length) (l.take k.1):Nat):Int)/\0<=k.2) (0,(left:Int) - ((l.map aD).length:Int)) ?_ ?_
 ·exact ⟨_,_,Wk.aC aq,rfl,rfl,Nat.zero_le _,by rw [hm];simp [be],by rw [hm];simp only;omega⟩
 rintro ⟨k,z⟩ _ _ ⟨rfl,rfl,hk,hz,ET⟩;simp only at hk hz ET
 have U9:z<=1048576:=by omega
 by_cases ak:k < l.length
 ·have hx:l[k]?=some l[k]:=by simp [ak]
  have hr:(l.map aD)[k]?=some (aD l[k]):=by rw [getElem?_map,hx];rfl
  have dd:decide ((k:Int) < ((l.map aD).length:Int))=true:=by rw [hm];simpa using ak
  have jZ:=kG (w:=fun x:Ar=>x.name.length) hx;have hle:=nL (fun x:Ar=>x.name.length) l (k+1);have hex:=he _ (mem_of_getElem? hx);generalize l[k]=x at *;obtain ⟨y,rfl⟩:∃ y:Nat,z=(y:Int):=⟨z.toNat,by omega⟩;have hc:=N4 x y ag ag
  by_cases h1:y < x.name.length
  ·rw [dH h1] at hc;rw [dH ag];refine ae ?_;refine ab [] hc ?_;exact al
  ·rw [gk ag] at hc
   have AW:decide (((y - (x.name.length):Nat):Int) < 0)=false:=by simp
   refine ae ?_;refine ab [] hc ?_;exact ⟨(k+1,((y - (x.name.length):Nat):Int)),⟨_,_,Wk.aC aq,rfl,rfl,ak,by simp only;omega,by simp only;omega⟩,by simp only;omega⟩
 ·have dd:decide ((k:Int) < ((l.map aD).length:Int))=false:=by rw [hm];simpa using ak
  have lz:k=l.length:=by omega
  subst lz;rw [take_length] at hz;rw [gk ag,show ((left - (l.length+be (fun x:Ar=>x.name.length) l):Nat):Int)=z by omega];refine bH ?_;exact av
theorem VX (x:Go.Sp.Fn) (left:Nat) (hs:x.name.length<=9223372036854775807) (hp:x.params.length<=9223372036854775807) (hq:∀ s∈x.params,s.length<=9223372036854775807) (we:left<=1048576):GF Tryz.prog 95 [.agg (aw x),.v (ii (left:Nat))] [] (.v (ii (si (x.name.length+wS x.params) left))) []:=by
 by_cases h0:left < x.name.length
 ·have hd:decide ((left:Int) - ((x.name.length:Nat):Int) < 0)=true:=by simpa using by omega
  rw [dH ag];refine ai Tryz.func95 Tryz.ntmps95 ?_;exact al
 have hd:decide ((left:Int) - ((x.name.length:Nat):Int) < 0)=false:=by simpa using by omega
 have hc:=zz x.params (left - x.name.length) hp hq ag;rw [show ((left - x.name.length:Nat):Int)=(left:Int) - ((x.name.length:Nat):Int) by omega] at hc
 by_cases h1:left - x.name.length < wS x.params
 ·rw [dH ag] at hc |-;refine ai Tryz.func95 Tryz.ntmps95 ?_;refine ab [] hc ?_;exact al
 ·rw [gk ag] at hc |-;rw [show left - x.name.length - wS x.params=left - (x.name.length+wS x.params) by omega] at hc
  have dd:decide (((left - (x.name.length+wS x.params):Nat):Int) < 0)=false:=by simp
  refine ai Tryz.func95 Tryz.ntmps95 ?_;refine ab [] hc ?_;exact al
theorem Tk (l:List Go.Sp.Fn) (left:Nat) (hl:l.length<=9223372036854775807) (he:∀ x∈l,x.name.length<=9223372036854775807/\x.params.length<=9223372036854775807/\∀ s∈x.params,s.length<=9223372036854775807) (we:left<=1048576):GF Tryz.prog 37 [.sl 3 (l.map aw),.v (ii (left:Nat))] [] (.v (ii (si (be (fun f:Go.Sp.Fn=>f.name.length+wS f.params+1) l) left))) []:=by
 have hm:(l.map aw).length=l.length:=by simp
 have ht:be (fun f:Go.Sp.Fn=>f.name.length+wS f.params+1) l=l.length+be (fun x:Go.Sp.Fn=>x.name.length+wS x.params) l:=nK _ l
 by_cases h0:left < l.length
 ·have hd:decide ((left:Int) - ((l.map aw).length:Int) < 0)=true:=by rw [hm];simpa using by omega
  rw [dH ag];refine ai Tryz.func37 Tryz.ntmps37 ?_;exact al
 have hd:decide ((left:Int) - ((l.map aw).length:Int) < 0)=false:=by rw [hm];simpa using by omega
 rw [ht];refine ai Tryz.func37 Tryz.ntmps37 ?_;refine GW.loop (fun k:Nat × Int=>l.length - k.1) (fun k fr Γ=>fr=[.sl 3 (l.map aw),.v (ii k.2),.U,.U,.U,.v (ii (k.1:Nat)),.U,.U,.U,.U,.U,.U,.U,.U,.U,.U,.U,.U,.U,.U,.U,.U,.U,.U,.U,.U,.U]/\Γ=[]/\k.1<=l.length/\k.2=(left:Int) - ((l.length+be (fun x:Go.Sp.Fn=>x.name.length+wS x.params) (l.take k.1):Nat):Int)/\0<=k.2) (0,(left:Int) - ((l.map aw).length:Int)) ?_ ?_
 ·exact ⟨_,_,Wk.aC aq,rfl,rfl,Nat.zero_le _,by rw [hm];simp [be],by rw [hm];simp only;omega⟩
 rintro ⟨k,z⟩ _ _ ⟨rfl,rfl,hk,hz,ET⟩;simp only at hk hz ET
 have U9:z<=1048576:=by omega
 by_cases ak:k < l.length
 ·have hx:l[k]?=some l[k]:=by simp [ak]
  have hr:(l.map aw)[k]?=some (aw l[k]):=by rw [getElem?_map,hx];rfl
  have dd:decide ((k:Int) < ((l.map aw).length:Int))=true:=by rw [hm];simpa using ak
  have jZ:=kG (w:=fun x:Go.Sp.Fn=>x.name.length+wS x.params) hx;have hle:=nL (fun x:Go.Sp.Fn=>x.name.length+wS x.params) l (k+1);have hex:=he _ (mem_of_getElem? hx);generalize l[k]=x at *;obtain ⟨y,rfl⟩:∃ y:Nat,z=(y:Int):=⟨z.toNat,by omega⟩;have hc:=VX x y hex.1 hex.2.1 hex.2.2 ag
  by_cases h1:y < x.name.length+wS x.params
  ·rw [dH h1] at hc;rw [dH ag];refine ae ?_;refine ab [] hc ?_;exact al
  ·rw [gk ag] at hc
   have AW:decide (((y - (x.name.length+wS x.params):Nat):Int) < 0)=false:=by simp
   refine ae ?_;refine ab [] hc ?_;exact ⟨(k+1,((y - (x.name.length+wS x.params):Nat):Int)),⟨_,_,Wk.aC aq,rfl,rfl,ak,by simp only;omega,by simp only;omega⟩,by simp only;omega⟩
 ·have dd:decide ((k:Int) < ((l.map aw).length:Int))=false:=by rw [hm];simpa using ak
  have lz:k=l.length:=by omega
  subst lz;rw [take_length] at hz;rw [gk ag,show ((left - (l.length+be (fun x:Go.Sp.Fn=>x.name.length+wS x.params) l):Nat):Int)=z by omega];refine bH ?_;exact av
theorem Qr (x:Nd) (left:Nat) (hs:x.s.length<=9223372036854775807) (hp:x.kids.length<=9223372036854775807) (we:left<=1048576):GF Tryz.prog 96 [.agg (ay x),.v (ii (left:Nat))] [] (.v (ii (si (x.s.length+x.kids.length) left))) []:=by
 by_cases h0:left < x.s.length
 ·have hd:decide ((left:Int) - ((x.s.length:Nat):Int) < 0)=true:=by simpa using by omega
  rw [dH ag];refine ai Tryz.func96 Tryz.ntmps96 ?_;exact al
 have hd:decide ((left:Int) - ((x.s.length:Nat):Int) < 0)=false:=by simpa using by omega
 have hc:=Qp x.kids (left - x.s.length) hp ag;rw [show ((left - x.s.length:Nat):Int)=(left:Int) - ((x.s.length:Nat):Int) by omega] at hc
 by_cases h1:left - x.s.length < x.kids.length
 ·rw [dH ag] at hc |-;refine ai Tryz.func96 Tryz.ntmps96 ?_;refine ab [] hc ?_;exact al
 ·rw [gk ag] at hc |-;rw [show left - x.s.length - x.kids.length=left - (x.s.length+x.kids.length) by omega] at hc
  have dd:decide (((left - (x.s.length+x.kids.length):Nat):Int) < 0)=false:=by simp
  refine ai Tryz.func96 Tryz.ntmps96 ?_;refine ab [] hc ?_;exact al
theorem N5 (l:List Nd) (left:Nat) (hl:l.length<=9223372036854775807) (he:∀ x∈l,x.s.length<=9223372036854775807/\x.kids.length<=9223372036854775807) (we:left<=1048576):GF Tryz.prog 38 [.sl 5 (l.map ay),.v (ii (left:Nat))] [] (.v (ii (si (be (fun n:Nd=>n.s.length+n.kids.length+1) l) left))) []:=by
 have hm:(l.map ay).length=l.length:=by simp
 have ht:be (fun n:Nd=>n.s.length+n.kids.length+1) l=l.length+be (fun x:Nd=>x.s.length+x.kids.length) l:=nK _ l
 by_cases h0:left < l.length
 ·have hd:decide ((left:Int) - ((l.map ay).length:Int) < 0)=true:=by rw [hm];simpa using by omega
  rw [dH ag];refine ai Tryz.func38 Tryz.ntmps38 ?_;exact al
 have hd:decide ((left:Int) - ((l.map ay).length:Int) < 0)=false:=by rw [hm];simpa using by omega
 rw [ht];refine ai Tryz.func38 Tryz.ntmps38 ?_;refine GW.loop (fun k:Nat × Int=>l.length - k.1) (fun k fr Γ=>fr=[.sl 5 (l.map ay),.v (ii k.2),.U,.U,.U,.v (ii (k.1:Nat)),.U,.U,.U,.U,.U,.U,.U,.U,.U,.U,.U,.U,.U,.U,.U,.U,.U,.U,.U,.U,.U]/\Γ=[]/\k.1<=l.length/\k.2=(left:Int) - ((l.length+be (fun x:Nd=>x.s.length+x.kids.length) (l.take k.1):Nat):Int)/\0<=k.2) (0,(left:Int) - ((l.map ay).length:Int)) ?_ ?_
 ·exact ⟨_,_,Wk.aC aq,rfl,rfl,Nat.zero_le _,by rw [hm];simp [be],by rw [hm];simp only;omega⟩
 rintro ⟨k,z⟩ _ _ ⟨rfl,rfl,hk,hz,ET⟩;simp only at hk hz ET
 have U9:z<=1048576:=by omega
 by_cases ak:k < l.length
 ·have hx:l[k]?=some l[k]:=by simp [ak]
  have hr:(l.map ay)[k]?=some (ay l[k]):=by rw [getElem?_map,hx];rfl
  have dd:decide ((k:Int) < ((l.map ay).length:Int))=true:=by rw [hm];simpa using ak
  have jZ:=kG (w:=fun x:Nd=>x.s.length+x.kids.length) hx;have hle:=nL (fun x:Nd=>x.s.length+x.kids.length) l (k+1);have hex:=he _ (mem_of_getElem? hx);generalize l[k]=x at *;obtain ⟨y,rfl⟩:∃ y:Nat,z=(y:Int):=⟨z.toNat,by omega⟩;have hc:=Qr x y hex.1 hex.2 ag
  by_cases h1:y < x.s.length+x.kids.length
  ·rw [dH h1] at hc;rw [dH ag];refine ae ?_;refine ab [] hc ?_;exact al
  ·rw [gk ag] at hc
   have AW:decide (((y - (x.s.length+x.kids.length):Nat):Int) < 0)=false:=by simp
   refine ae ?_;refine ab [] hc ?_;exact ⟨(k+1,((y - (x.s.length+x.kids.length):Nat):Int)),⟨_,_,Wk.aC aq,rfl,rfl,ak,by simp only;omega,by simp only;omega⟩,by simp only;omega⟩
 ·have dd:decide ((k:Int) < ((l.map ay).length:Int))=false:=by rw [hm];simpa using ak
  have lz:k=l.length:=by omega
  subst lz;rw [take_length] at hz;rw [gk ag,show ((left - (l.length+be (fun x:Nd=>x.s.length+x.kids.length) l):Nat):Int)=z by omega];refine bH ?_;exact av
theorem KX (p:Src) (hb:Go.Im.Small p 9223372036854775807):GF Tryz.prog 10 [.agg (ax p),.v (ii 1048576)] [] (.v (ii (si (eh p) 1048576))) []:=by
 obtain ⟨⟨a1,a2⟩,⟨b1,b2⟩,⟨c1,c2⟩,⟨d1,d2⟩⟩:=hb;have h1:=zz p.globals 1048576 a1 a2 (Nat.le_refl _);unfold eh;generalize wS p.globals=w1 at *
 by_cases q1:1048576 < w1
 ·rw [dH q1] at h1;rw [dH ag];refine ai Tryz.func10 Tryz.ntmps10 ?_;refine ab [] h1 ?_;exact al
 rw [gk ag] at h1
 have e1:decide (((1048576 - w1:Nat):Int) < 0)=false:=by simp
 have h2:=KV p.arrays (1048576 - w1) b1 b2 ag;generalize be (fun a:Ar=>a.name.length+1) p.arrays=w2 at *
 by_cases q2:1048576 - w1 < w2
 ·rw [dH q2] at h2;rw [dH ag];refine ai Tryz.func10 Tryz.ntmps10 ?_;refine ab [] h1 ?_;refine ab [] h2 ?_;exact al
 rw [gk ag] at h2
 have e2:decide (((1048576 - w1 - w2:Nat):Int) < 0)=false:=by simp
 have h3:=Tk p.fns (1048576 - w1 - w2) c1 c2 ag;generalize be (fun f:Go.Sp.Fn=>f.name.length+wS f.params+1) p.fns=w3 at *
 by_cases q3:1048576 - w1 - w2 < w3
 ·rw [dH q3] at h3;rw [dH ag];refine ai Tryz.func10 Tryz.ntmps10 ?_;refine ab [] h1 ?_;refine ab [] h2 ?_;refine ab [] h3 ?_;exact al
 rw [gk ag] at h3
 have e3:decide (((1048576 - w1 - w2 - w3:Nat):Int) < 0)=false:=by simp
 have h4:=N5 p.nodes (1048576 - w1 - w2 - w3) d1 d2 ag;generalize be (fun n:Nd=>n.s.length+n.kids.length+1) p.nodes=w4 at *
 by_cases q4:1048576 - w1 - w2 - w3 < w4
 ·rw [dH q4] at h4;rw [dH ag];refine ai Tryz.func10 Tryz.ntmps10 ?_;refine ab [] h1 ?_;refine ab [] h2 ?_;refine ab [] h3 ?_;refine ab [] h4 ?_;exact al
 rw [gk ag] at h4
 have e4:decide (((1048576 - w1 - w2 - w3 - w4:Nat):Int) < 0)=false:=by simp
 rw [gk ag,show 1048576 - (w1+w2+w3+w4)=1048576 - w1 - w2 - w3 - w4 by omega];refine ai Tryz.func10 Tryz.ntmps10 ?_;refine ab [] h1 ?_;refine ab [] h2 ?_;refine ab [] h3 ?_;refine ab [] h4 ?_;exact al
end Go.Xg
set_option maxHeartbeats 4000000
namespace Go.Xg
open Go.RowKit Go.Xw Go.Proofs
open Go.Sp (Src)
open Go.Im
attribute [local irreducible] GW GL GO YG GC GA aU aZ
theorem Gw:∀ {gs:List (List Int)} {i:Nat} {g:List Int} (g':List Int),gs[i]?=some g->eg (gs.set i g')+g.length=eg gs+g'.length
 | [],i,g,g',h=>by simp at h
 | x::gs,0,g,g',h=>by cases h;simp [eg];omega
 | x::gs,i+1,g,g',h=>by
  have:=Gw (gs:=gs) (i:=i) (g:=g) g' (by simpa using h);simp only [eg,List.set_cons_succ,List.map_cons,List.sum_cons] at *;omega
theorem Gv (F:Int->List Int):∀ k,eg (fo F k)=k
 | 0=>rfl
 | k+1=>by
  have ih:=Gv F k;rw [fo];unfold lq;split
  ·rename_i i hi;obtain ⟨h1,-,-⟩:=List.findIdx?_eq_some_iff_getElem.1 hi;have hg:(fo F k)[i]?=some (fo F k)[i]:=List.getElem?_eq_getElem h1;have:=Gw (((fo F k)[i]?.getD [])++[(k:Int)]) hg;rw [hg,Option.getD_some,List.length_append,List.length_singleton] at this;rw [hg,Option.getD_some];omega
  ·rw [DM];simp only [length_cons,List.length_nil];omega
theorem yW (p:Src) (hS:GF Tryz.prog 10 [.agg (ax p),.v (ii 1048576)] [] (.v (ii (-1))) []):GF Tryz.prog 6 [.agg (ax p)] [] (.v (.bool true)) []:=by
 refine ai Tryz.func6 Tryz.ntmps6 ?_;refine ab [] hS ?_;exact al
theorem zF (p:Src) (n:Nat) (r:List (List Int)) (hw:eh p<=1048576) (hr:r.length<=1048576) (hrk:∀ g∈r,g.length<=1048576) (Rj:eg r<=1048576) (hS:GF Tryz.prog 10 [.agg (ax p),.v (ii 1048576)] [] (.v (ii (n:Nat))) [])
  (hT:GF Tryz.prog 12 [.agg (ax p)] [] (.agg (ax p)) [])
  (hO:GC Tryz.prog 12 [.agg (ax p)] [] fun g Δ=>∃ hg ha hf hn fs ns,BI p hg ha hf hn fs ns/\g=.agg [.v hg,.v ha,.v hf,.v hn]/\Δ=jm p hg ha hf hn fs ns)
  (hG:GF Tryz.prog 23 [.agg (ax p)] [] (.sl 1 (cR r)) [])
  (hI:GC Tryz.prog 24 [.agg (ax p)] [] fun g Δ=>∃ h hs,n8 r h hs/\g=.v h/\Δ=iG r h hs)
  (hE:GF Tryz.prog 14 [.agg (ax p),.agg (ax p)] [] (.v (.bool true)) []) :
  GF Tryz.prog 6 [.agg (ax p)] [] (.v (.bool true)) []:=by
 have hd:decide (((n:Nat):Int) < 0)=false:=by simp
 have hQ:=L8 r hr hrk;have XF:=Hb r 1 ag hr;have dd:decide (((1+eg r:Nat):Int) < 0)=false:=decide_eq_false ag
 have AW:(((1+eg r:Nat):Int) != ((1+eg r:Nat):Int))=false:=by simp
 have hPl:∀ g Δ,(∃ h hs,n8 r h hs/\g=.v h/\Δ=iG r h hs)->GV.Plain g/\∀ o∈Δ,Ob.plain o:=by
  rintro _ _ ⟨h,hs,H,rfl,rfl⟩;exact ⟨GV.SZ _,MC⟩
 refine ai Tryz.func6 Tryz.ntmps6 ?_;refine ab [] hS ?_;refine ab [] hT ?_;refine ab [] hG ?_;refine cm [] hO ?_;rintro _ _ ⟨hg,ha,hf,hn,fs,ns,H,rfl,rfl⟩;have XJ:=Al p hg ha hf hn fs ns;have hM:=FL p hg ha hf hn fs ns H 1 hw ag;have hV:=@Am;obtain ⟨⟨q0,q1,rfl⟩,⟨q2,q3,rfl⟩,⟨q4,q5,rfl⟩,⟨q6,q7,rfl⟩,hH1,EU,Un,hH4⟩:=id H;rw [yG XJ];refine cW ?_;refine GL.Vu rfl rfl rfl rfl rfl rfl rfl ?_;refine cr ?_;refine ae ?_;refine GL.R9 hI hPl (fun B K β w l hI hF=>G4 H (A:=[_]) (C:=[]) (by rw [append_nil];exact hI) hF rfl) ?_;rintro _ _ ⟨h,hs,HG,rfl,rfl⟩;have hMk:=Hn r h hs HG 1 ag hr;refine cr ?_;refine ae ?_;refine GL.borrow hQ (fun B K β w l hI hF=>xj (A:=_::jm p _ _ _ _ fs ns) (C:=[]) HG (by rw [append_nil];exact hI) hF rfl rfl) ?_;refine cr ?_;refine ae ?_;refine aI (.q 0 (.q 1 (.a 2 (.a 3 (.q 4 .nil))))) ?_;refine ar ?_;refine wQ [] hT ?_;simp only [append_nil];refine ar ?_;refine OA rfl rfl (GL.borrow hE (fun B K β w l hI hF=>G5 H (A:=[_]) hI hF rfl rfl) ?_);refine dy ?_;refine bf ?_;refine GL.sA [_] (jm p _ _ _ _ fs ns) (iG r h hs) hM rfl XJ (fun _=>rfl) (kH) ?_;rintro _ Δ ⟨k',rfl,Va,Zy⟩;refine ⟨Va,Zy,fun _=>rfl,?_⟩
 have hdk:decide (((k':Nat):Int) < 0)=false:=by simp
 refine cr ?_;refine ae ?_;refine GL.borrow hQ (fun B K β w l hI hF=>xj (A:=_::Δ) (C:=[]) HG (by rw [append_nil];exact hI) hF rfl rfl) ?_;refine cr ?_;refine ae ?_;refine GL.sA (_::Δ) (iG r h hs) [] hMk (by rw [append_nil];rfl) ph (fun _=>rfl) (kH) ?_;rintro _ _ ⟨rfl,rfl⟩;have HM:=HG.mk' 1;refine ⟨by unfold iG;rw [length_cons,length_cons,py HM.len,py HG.len,lB],ph,fun _=>rfl,?_⟩;refine cr ?_;refine ae ?_;refine GL.borrow XF (fun B K β w l hI hF=>CO (A:=_::Δ) (C:=[]) HM hI hF rfl rfl) ?_;refine cr ?_;refine ae ?_;refine iz [] hT ?_;simp only [append_nil];refine ae ?_;refine cm [] hI ?_;rintro _ _ ⟨h2,iR,ZU,rfl,rfl⟩;rw [yG ph];refine cW ?_;refine ae ?_;refine GL.borrow hQ (fun B K β w l hI hF=>xj (A:=_::(Δ++iG (mF 1 r) h hs)) (C:=[]) ZU (by rw [append_nil];exact hI) hF rfl rfl) ?_;refine cr ?_;refine ae ?_;refine GL.borrow XF (fun B K β w l hI hF=>CO (A:=_::Δ) (C:=iG r h2 iR) HM (by rw [<-List.append_assoc];exact hI) hF rfl rfl) ?_;refine cr ?_;exact av
theorem AB (p:Src) (hb:Small p 9223372036854775807) (hn:xh p):GF Tryz.prog 6 [.agg (ax p)] [] (.v (.bool true)) []:=by
 have hS:=KX p hb
 by_cases hw:1048576 < eh p
 ·rw [dH hw] at hS;exact yW p hS
 ·rw [gk ag] at hS
  have hw:eh p<=1048576:=by omega
  obtain ⟨⟨a1,a2⟩,⟨b1,b2⟩,⟨c1,c2⟩,⟨d1,d2⟩⟩:=gR p
  have AY:∀ f∈p.fns,f.params.length<=1048576:=fun f h=>by have:=(c2 f h).2.1;omega
  have xL:∀ n∈p.nodes,n.kids.length<=1048576:=fun n h=>by have:=(d2 n h).2;omega
  have kx:=wb (b6 p) p.fns.length;have fL:=wa (F:=b6 p) p.fns.length;have XO:=Gv (b6 p) p.fns.length
  have jq:(iQ p).length<=1048576:=by unfold iQ;split;(· omega);(· simp)
  have MR:∀ g∈iQ p,g.length<=1048576:=by unfold iQ;split;(· intro g h;have:=fL g h;omega);(· simp)
  have w6:eg (iQ p)<=1048576:=by unfold iQ;split;(· omega);(· simp [eg])
  exact zF p _ (iQ p) hw jq MR w6 hS (K7 p ag ag ag AY ag xL) (K8 p ag ag ag AY ag xL) (OK p hw) (OL p hw hn) (JL p ag ag ag AY ag xL)
end Go.Xg
