/- Part 9 of proofs that are told in their last texts. -/
import Derived.Test.YtaopilmekfecpaaGreatDoorQ3
import Derived.Test.YtaopilmekfecpaaGreatDoorQ5
import Derived.Test.YtaopilmekfecpaaGreatDoorQ7
import Derived.Laws.OwnMore
set_option linter.unusedVariables false
set_option linter.unusedSimpArgs false
set_option maxHeartbeats 2000000
set_option maxRecDepth 100000
namespace Go.Xg
open Go.RowKit Go.Xw Go.Proofs
open Go.Xp (Nd Ar)
open Go.Sp (Src)
open Go.Im (wS wSrc sumL sumL_take szR szR_ok szR_no sumL_succ sumL_snoc sumL_mem)
attribute [local irreducible] GW GL GO YG GC GA gthn ginb
theorem szIntS_g (l:List Int) (left:Nat) (hl:l.length≤9223372036854775807) (hleft:left≤1048576):GF Tryz.prog 145 [ints l,.v (ii (left:Nat))] [] (.v (ii (szR l.length left))) []:=by
 have hm:(l.map fun i=>[GV.v (ii i)]).length=l.length:=by simp
 by_cases h0:left < l.length
 ·have hd:decide ((left:Int) - ((l.map fun i=>[GV.v (ii i)]).length:Int) < 0)=true:=by rw [hm];simpa using by omega
  rw [szR_no h0]
  refine GC.enter Tryz.func145 Tryz.ntmps145 rfl (by simp only [gframe,grep,Nat.reduceSub];rfl) ?_
  refine w_grun ?_
  refine w_gret ?_
  exact ⟨rfl,rfl⟩
 ·have hd:decide ((left:Int) - ((l.map fun i=>[GV.v (ii i)]).length:Int) < 0)=false:=by rw [hm];simpa using by omega
  rw [szR_ok (by omega),show ((left - l.length:Nat):Int)=(left:Int) - ((l.map fun i=>[GV.v (ii i)]).length:Int) by rw [hm];omega]
  refine GC.enter Tryz.func145 Tryz.ntmps145 rfl (by simp only [gframe,grep,Nat.reduceSub];rfl) ?_
  refine w_grun ?_
  refine w_gret ?_
  exact ⟨rfl,rfl⟩
theorem szStringS_g (l:List Str) (left:Nat) (hl:l.length≤9223372036854775807) (he:∀ x∈l,x.length≤9223372036854775807) (hleft:left≤1048576):GF Tryz.prog 44 [strs l,.v (ii (left:Nat))] [] (.v (ii (szR (wS l) left))) []:=by
 have hm:(l.map (fun s=>[GV.v (sv s)])).length=l.length:=by simp
 have ht:wS l=l.length+sumL (fun x:Str=>x.length) l:=sumL_succ _ l
 by_cases h0:left < l.length
 ·have hd:decide ((left:Int) - ((l.map (fun s=>[GV.v (sv s)])).length:Int) < 0)=true:=by rw [hm];simpa using by omega
  rw [szR_no (by omega)]
  refine GC.enter Tryz.func44 Tryz.ntmps44 rfl (by simp only [gframe,grep,Nat.reduceSub];rfl) ?_
  refine w_grun ?_
  refine w_gret ?_
  exact ⟨rfl,rfl⟩
 have hd:decide ((left:Int) - ((l.map (fun s=>[GV.v (sv s)])).length:Int) < 0)=false:=by rw [hm];simpa using by omega
 rw [ht]
 refine GC.enter Tryz.func44 Tryz.ntmps44 rfl (by simp only [gframe,grep,Nat.reduceSub];rfl) ?_
 refine w_grun ?_
 refine GW.loop (fun k:Nat × Int=>l.length - k.1) (fun k fr Γ=>fr=[strs l,.v (ii k.2),.any,.any,.any,.v (ii (k.1:Nat)),.any,.any,.any,.any,.any,.any,.any,.any,.any,.any,.any,.any,.any,.any,.any,.any,.any,.any,.any,.any,.any,.any]∧Γ=[]∧k.1≤l.length∧k.2=(left:Int) - ((l.length+sumL (fun x:Str=>x.length) (l.take k.1):Nat):Int)∧0≤k.2) (0,(left:Int) - ((l.map (fun s=>[GV.v (sv s)])).length:Int)) ?_ ?_
 ·exact ⟨_,_,Wk.frm w_wkf,rfl,rfl,Nat.zero_le _,by rw [hm];simp [sumL],by rw [hm];simp only;omega⟩
 rintro ⟨k,z⟩ _ _ ⟨rfl,rfl,hk,hz,h0z⟩
 simp only at hk hz h0z
 have hz2:z≤1048576:=by omega
 by_cases hlt:k < l.length
 ·have hx:l[k]?=some l[k]:=by simp [hlt]
  have hr:(l.map (fun s=>[GV.v (sv s)]))[k]?=some ([GV.v (sv l[k])]):=by rw [List.getElem?_map,hx];rfl
  have hd2:decide ((k:Int) < ((l.map (fun s=>[GV.v (sv s)])).length:Int))=true:=by rw [hm];simpa using hlt
  have htk:=sumL_snoc (w:=fun x:Str=>x.length) hx
  have hle:=sumL_take (fun x:Str=>x.length) l (k+1)
  have hex:=he _ (List.mem_of_getElem? hx)
  generalize l[k]=x at *
  by_cases h1:z < ((x.length:Nat):Int)
  ·have hd3:decide (z - ((x.length:Nat):Int) < 0)=true:=by simpa using by omega
   rw [szR_no (by omega)]
   refine w_grun ?_
   refine w_gret ?_
   exact ⟨rfl,rfl⟩
  ·have hd3:decide (z - ((x.length:Nat):Int) < 0)=false:=by simpa using by omega
   refine w_grun ?_
   exact ⟨(k+1,z - ((x.length:Nat):Int)),⟨_,_,Wk.frm w_wkf,rfl,rfl,hlt,by simp only;omega,by simp only;omega⟩,by simp only;omega⟩
 ·have hd2:decide ((k:Int) < ((l.map (fun s=>[GV.v (sv s)])).length:Int))=false:=by rw [hm];simpa using hlt
  have hke:k=l.length:=by omega
  subst hke
  rw [List.take_length] at hz
  rw [szR_ok (by omega),show ((left - (l.length+sumL (fun x:Str=>x.length) l):Nat):Int)=z by omega]
  refine w_grun ?_
  refine w_gexit ?_
  refine w_grun ?_
  refine w_gret ?_
  exact ⟨rfl,rfl⟩
theorem szArray_g (x:Ar) (left:Nat) (hs:x.name.length≤9223372036854775807) (hleft:left≤1048576):GF Tryz.prog 96 [.agg (encAr x),.v (ii (left:Nat))] [] (.v (ii (szR (x.name.length) left))) []:=by
 by_cases h0:left < x.name.length
 ·have hd:decide ((left:Int) - ((x.name.length:Nat):Int) < 0)=true:=by simpa using by omega
  rw [szR_no (by omega)]
  refine GC.enter Tryz.func96 Tryz.ntmps96 rfl (by simp only [gframe,grep,Nat.reduceSub];rfl) ?_
  refine w_grun ?_
  refine w_gret ?_
  exact ⟨rfl,rfl⟩
 have hd:decide ((left:Int) - ((x.name.length:Nat):Int) < 0)=false:=by simpa using by omega
 rw [szR_ok (by omega),show ((left - (x.name.length):Nat):Int)=(left:Int) - ((x.name.length:Nat):Int) by omega]
 refine GC.enter Tryz.func96 Tryz.ntmps96 rfl (by simp only [gframe,grep,Nat.reduceSub];rfl) ?_
 refine w_grun ?_
 refine w_gret ?_
 exact ⟨rfl,rfl⟩
theorem szArrayS_g (l:List Ar) (left:Nat) (hl:l.length≤9223372036854775807) (he:∀ x∈l,x.name.length≤9223372036854775807) (hleft:left≤1048576):GF Tryz.prog 45 [.sl 2 (l.map encAr),.v (ii (left:Nat))] [] (.v (ii (szR (sumL (fun a:Ar=>a.name.length+1) l) left))) []:=by
 have hm:(l.map encAr).length=l.length:=by simp
 have ht:sumL (fun a:Ar=>a.name.length+1) l=l.length+sumL (fun x:Ar=>x.name.length) l:=sumL_succ _ l
 by_cases h0:left < l.length
 ·have hd:decide ((left:Int) - ((l.map encAr).length:Int) < 0)=true:=by rw [hm];simpa using by omega
  rw [szR_no (by omega)]
  refine GC.enter Tryz.func45 Tryz.ntmps45 rfl (by simp only [gframe,grep,Nat.reduceSub];rfl) ?_
  refine w_grun ?_
  refine w_gret ?_
  exact ⟨rfl,rfl⟩
 have hd:decide ((left:Int) - ((l.map encAr).length:Int) < 0)=false:=by rw [hm];simpa using by omega
 rw [ht]
 refine GC.enter Tryz.func45 Tryz.ntmps45 rfl (by simp only [gframe,grep,Nat.reduceSub];rfl) ?_
 refine w_grun ?_
 refine GW.loop (fun k:Nat × Int=>l.length - k.1) (fun k fr Γ=>fr=[.sl 2 (l.map encAr),.v (ii k.2),.any,.any,.any,.v (ii (k.1:Nat)),.any,.any,.any,.any,.any,.any,.any,.any,.any,.any,.any,.any,.any,.any,.any,.any,.any,.any,.any,.any,.any]∧Γ=[]∧k.1≤l.length∧k.2=(left:Int) - ((l.length+sumL (fun x:Ar=>x.name.length) (l.take k.1):Nat):Int)∧0≤k.2) (0,(left:Int) - ((l.map encAr).length:Int)) ?_ ?_
 ·exact ⟨_,_,Wk.frm w_wkf,rfl,rfl,Nat.zero_le _,by rw [hm];simp [sumL],by rw [hm];simp only;omega⟩
 rintro ⟨k,z⟩ _ _ ⟨rfl,rfl,hk,hz,h0z⟩
 simp only at hk hz h0z
 have hz2:z≤1048576:=by omega
 by_cases hlt:k < l.length
 ·have hx:l[k]?=some l[k]:=by simp [hlt]
  have hr:(l.map encAr)[k]?=some (encAr l[k]):=by rw [List.getElem?_map,hx];rfl
  have hd2:decide ((k:Int) < ((l.map encAr).length:Int))=true:=by rw [hm];simpa using hlt
  have htk:=sumL_snoc (w:=fun x:Ar=>x.name.length) hx
  have hle:=sumL_take (fun x:Ar=>x.name.length) l (k+1)
  have hex:=he _ (List.mem_of_getElem? hx)
  generalize l[k]=x at *
  obtain ⟨y,rfl⟩:∃ y:Nat,z=(y:Int):=⟨z.toNat,by omega⟩
  have hc:=szArray_g x y (by omega) (by omega)
  by_cases h1:y < x.name.length
  ·rw [szR_no h1] at hc
   rw [szR_no (by omega)]
   refine w_grun ?_
   refine w_gcall [] (hc) ?_
   refine w_grun ?_
   refine w_gret ?_
   exact ⟨rfl,rfl⟩
  ·rw [szR_ok (by omega)] at hc
   have hd3:decide (((y - (x.name.length):Nat):Int) < 0)=false:=by simp
   refine w_grun ?_
   refine w_gcall [] (hc) ?_
   refine w_grun ?_
   exact ⟨(k+1,((y - (x.name.length):Nat):Int)),⟨_,_,Wk.frm w_wkf,rfl,rfl,hlt,by simp only;omega,by simp only;omega⟩,by simp only;omega⟩
 ·have hd2:decide ((k:Int) < ((l.map encAr).length:Int))=false:=by rw [hm];simpa using hlt
  have hke:k=l.length:=by omega
  subst hke
  rw [List.take_length] at hz
  rw [szR_ok (by omega),show ((left - (l.length+sumL (fun x:Ar=>x.name.length) l):Nat):Int)=z by omega]
  refine w_grun ?_
  refine w_gexit ?_
  refine w_grun ?_
  refine w_gret ?_
  exact ⟨rfl,rfl⟩
theorem szFn_g (x:Go.Sp.Fn) (left:Nat) (hs:x.name.length≤9223372036854775807) (hp:x.params.length≤9223372036854775807) (hq:∀ s∈x.params,s.length≤9223372036854775807) (hleft:left≤1048576):GF Tryz.prog 97 [.agg (encFn x),.v (ii (left:Nat))] [] (.v (ii (szR (x.name.length+wS x.params) left))) []:=by
 by_cases h0:left < x.name.length
 ·have hd:decide ((left:Int) - ((x.name.length:Nat):Int) < 0)=true:=by simpa using by omega
  rw [szR_no (by omega)]
  refine GC.enter Tryz.func97 Tryz.ntmps97 rfl (by simp only [gframe,grep,Nat.reduceSub];rfl) ?_
  refine w_grun ?_
  refine w_gret ?_
  exact ⟨rfl,rfl⟩
 have hd:decide ((left:Int) - ((x.name.length:Nat):Int) < 0)=false:=by simpa using by omega
 have hc:=szStringS_g x.params (left - x.name.length) hp hq (by omega)
 rw [show ((left - x.name.length:Nat):Int)=(left:Int) - ((x.name.length:Nat):Int) by omega] at hc
 by_cases h1:left - x.name.length < wS x.params
 ·rw [szR_no (by omega)] at hc ⊢
  refine GC.enter Tryz.func97 Tryz.ntmps97 rfl (by simp only [gframe,grep,Nat.reduceSub];rfl) ?_
  refine w_grun ?_
  refine w_gcall [] (hc) ?_
  refine w_grun ?_
  refine w_gret ?_
  exact ⟨rfl,rfl⟩
 ·rw [szR_ok (by omega)] at hc ⊢
  rw [show left - x.name.length - wS x.params=left - (x.name.length+wS x.params) by omega] at hc
  have hd2:decide (((left - (x.name.length+wS x.params):Nat):Int) < 0)=false:=by simp
  refine GC.enter Tryz.func97 Tryz.ntmps97 rfl (by simp only [gframe,grep,Nat.reduceSub];rfl) ?_
  refine w_grun ?_
  refine w_gcall [] (hc) ?_
  refine w_grun ?_
  refine w_gret ?_
  exact ⟨rfl,rfl⟩
theorem szFnS_g (l:List Go.Sp.Fn) (left:Nat) (hl:l.length≤9223372036854775807) (he:∀ x∈l,x.name.length≤9223372036854775807∧x.params.length≤9223372036854775807∧∀ s∈x.params,s.length≤9223372036854775807) (hleft:left≤1048576):GF Tryz.prog 46 [.sl 3 (l.map encFn),.v (ii (left:Nat))] [] (.v (ii (szR (sumL (fun f:Go.Sp.Fn=>f.name.length+wS f.params+1) l) left))) []:=by
 have hm:(l.map encFn).length=l.length:=by simp
 have ht:sumL (fun f:Go.Sp.Fn=>f.name.length+wS f.params+1) l=l.length+sumL (fun x:Go.Sp.Fn=>x.name.length+wS x.params) l:=sumL_succ _ l
 by_cases h0:left < l.length
 ·have hd:decide ((left:Int) - ((l.map encFn).length:Int) < 0)=true:=by rw [hm];simpa using by omega
  rw [szR_no (by omega)]
  refine GC.enter Tryz.func46 Tryz.ntmps46 rfl (by simp only [gframe,grep,Nat.reduceSub];rfl) ?_
  refine w_grun ?_
  refine w_gret ?_
  exact ⟨rfl,rfl⟩
 have hd:decide ((left:Int) - ((l.map encFn).length:Int) < 0)=false:=by rw [hm];simpa using by omega
 rw [ht]
 refine GC.enter Tryz.func46 Tryz.ntmps46 rfl (by simp only [gframe,grep,Nat.reduceSub];rfl) ?_
 refine w_grun ?_
 refine GW.loop (fun k:Nat × Int=>l.length - k.1) (fun k fr Γ=>fr=[.sl 3 (l.map encFn),.v (ii k.2),.any,.any,.any,.v (ii (k.1:Nat)),.any,.any,.any,.any,.any,.any,.any,.any,.any,.any,.any,.any,.any,.any,.any,.any,.any,.any,.any,.any,.any]∧Γ=[]∧k.1≤l.length∧k.2=(left:Int) - ((l.length+sumL (fun x:Go.Sp.Fn=>x.name.length+wS x.params) (l.take k.1):Nat):Int)∧0≤k.2) (0,(left:Int) - ((l.map encFn).length:Int)) ?_ ?_
 ·exact ⟨_,_,Wk.frm w_wkf,rfl,rfl,Nat.zero_le _,by rw [hm];simp [sumL],by rw [hm];simp only;omega⟩
 rintro ⟨k,z⟩ _ _ ⟨rfl,rfl,hk,hz,h0z⟩
 simp only at hk hz h0z
 have hz2:z≤1048576:=by omega
 by_cases hlt:k < l.length
 ·have hx:l[k]?=some l[k]:=by simp [hlt]
  have hr:(l.map encFn)[k]?=some (encFn l[k]):=by rw [List.getElem?_map,hx];rfl
  have hd2:decide ((k:Int) < ((l.map encFn).length:Int))=true:=by rw [hm];simpa using hlt
  have htk:=sumL_snoc (w:=fun x:Go.Sp.Fn=>x.name.length+wS x.params) hx
  have hle:=sumL_take (fun x:Go.Sp.Fn=>x.name.length+wS x.params) l (k+1)
  have hex:=he _ (List.mem_of_getElem? hx)
  generalize l[k]=x at *
  obtain ⟨y,rfl⟩:∃ y:Nat,z=(y:Int):=⟨z.toNat,by omega⟩
  have hc:=szFn_g x y hex.1 hex.2.1 hex.2.2 (by omega)
  by_cases h1:y < x.name.length+wS x.params
  ·rw [szR_no h1] at hc
   rw [szR_no (by omega)]
   refine w_grun ?_
   refine w_gcall [] (hc) ?_
   refine w_grun ?_
   refine w_gret ?_
   exact ⟨rfl,rfl⟩
  ·rw [szR_ok (by omega)] at hc
   have hd3:decide (((y - (x.name.length+wS x.params):Nat):Int) < 0)=false:=by simp
   refine w_grun ?_
   refine w_gcall [] (hc) ?_
   refine w_grun ?_
   exact ⟨(k+1,((y - (x.name.length+wS x.params):Nat):Int)),⟨_,_,Wk.frm w_wkf,rfl,rfl,hlt,by simp only;omega,by simp only;omega⟩,by simp only;omega⟩
 ·have hd2:decide ((k:Int) < ((l.map encFn).length:Int))=false:=by rw [hm];simpa using hlt
  have hke:k=l.length:=by omega
  subst hke
  rw [List.take_length] at hz
  rw [szR_ok (by omega),show ((left - (l.length+sumL (fun x:Go.Sp.Fn=>x.name.length+wS x.params) l):Nat):Int)=z by omega]
  refine w_grun ?_
  refine w_gexit ?_
  refine w_grun ?_
  refine w_gret ?_
  exact ⟨rfl,rfl⟩
theorem szNode_g (x:Nd) (left:Nat) (hs:x.s.length≤9223372036854775807) (hp:x.kids.length≤9223372036854775807) (hleft:left≤1048576):GF Tryz.prog 98 [.agg (encNode x),.v (ii (left:Nat))] [] (.v (ii (szR (x.s.length+x.kids.length) left))) []:=by
 by_cases h0:left < x.s.length
 ·have hd:decide ((left:Int) - ((x.s.length:Nat):Int) < 0)=true:=by simpa using by omega
  rw [szR_no (by omega)]
  refine GC.enter Tryz.func98 Tryz.ntmps98 rfl (by simp only [gframe,grep,Nat.reduceSub];rfl) ?_
  refine w_grun ?_
  refine w_gret ?_
  exact ⟨rfl,rfl⟩
 have hd:decide ((left:Int) - ((x.s.length:Nat):Int) < 0)=false:=by simpa using by omega
 have hc:=szIntS_g x.kids (left - x.s.length) hp (by omega)
 rw [show ((left - x.s.length:Nat):Int)=(left:Int) - ((x.s.length:Nat):Int) by omega] at hc
 by_cases h1:left - x.s.length < x.kids.length
 ·rw [szR_no (by omega)] at hc ⊢
  refine GC.enter Tryz.func98 Tryz.ntmps98 rfl (by simp only [gframe,grep,Nat.reduceSub];rfl) ?_
  refine w_grun ?_
  refine w_gcall [] (hc) ?_
  refine w_grun ?_
  refine w_gret ?_
  exact ⟨rfl,rfl⟩
 ·rw [szR_ok (by omega)] at hc ⊢
  rw [show left - x.s.length - x.kids.length=left - (x.s.length+x.kids.length) by omega] at hc
  have hd2:decide (((left - (x.s.length+x.kids.length):Nat):Int) < 0)=false:=by simp
  refine GC.enter Tryz.func98 Tryz.ntmps98 rfl (by simp only [gframe,grep,Nat.reduceSub];rfl) ?_
  refine w_grun ?_
  refine w_gcall [] (hc) ?_
  refine w_grun ?_
  refine w_gret ?_
  exact ⟨rfl,rfl⟩
theorem szNodeS_g (l:List Nd) (left:Nat) (hl:l.length≤9223372036854775807) (he:∀ x∈l,x.s.length≤9223372036854775807∧x.kids.length≤9223372036854775807) (hleft:left≤1048576):GF Tryz.prog 47 [.sl 5 (l.map encNode),.v (ii (left:Nat))] [] (.v (ii (szR (sumL (fun n:Nd=>n.s.length+n.kids.length+1) l) left))) []:=by
 have hm:(l.map encNode).length=l.length:=by simp
 have ht:sumL (fun n:Nd=>n.s.length+n.kids.length+1) l=l.length+sumL (fun x:Nd=>x.s.length+x.kids.length) l:=sumL_succ _ l
 by_cases h0:left < l.length
 ·have hd:decide ((left:Int) - ((l.map encNode).length:Int) < 0)=true:=by rw [hm];simpa using by omega
  rw [szR_no (by omega)]
  refine GC.enter Tryz.func47 Tryz.ntmps47 rfl (by simp only [gframe,grep,Nat.reduceSub];rfl) ?_
  refine w_grun ?_
  refine w_gret ?_
  exact ⟨rfl,rfl⟩
 have hd:decide ((left:Int) - ((l.map encNode).length:Int) < 0)=false:=by rw [hm];simpa using by omega
 rw [ht]
 refine GC.enter Tryz.func47 Tryz.ntmps47 rfl (by simp only [gframe,grep,Nat.reduceSub];rfl) ?_
 refine w_grun ?_
 refine GW.loop (fun k:Nat × Int=>l.length - k.1) (fun k fr Γ=>fr=[.sl 5 (l.map encNode),.v (ii k.2),.any,.any,.any,.v (ii (k.1:Nat)),.any,.any,.any,.any,.any,.any,.any,.any,.any,.any,.any,.any,.any,.any,.any,.any,.any,.any,.any,.any,.any]∧Γ=[]∧k.1≤l.length∧k.2=(left:Int) - ((l.length+sumL (fun x:Nd=>x.s.length+x.kids.length) (l.take k.1):Nat):Int)∧0≤k.2) (0,(left:Int) - ((l.map encNode).length:Int)) ?_ ?_
 ·exact ⟨_,_,Wk.frm w_wkf,rfl,rfl,Nat.zero_le _,by rw [hm];simp [sumL],by rw [hm];simp only;omega⟩
 rintro ⟨k,z⟩ _ _ ⟨rfl,rfl,hk,hz,h0z⟩
 simp only at hk hz h0z
 have hz2:z≤1048576:=by omega
 by_cases hlt:k < l.length
 ·have hx:l[k]?=some l[k]:=by simp [hlt]
  have hr:(l.map encNode)[k]?=some (encNode l[k]):=by rw [List.getElem?_map,hx];rfl
  have hd2:decide ((k:Int) < ((l.map encNode).length:Int))=true:=by rw [hm];simpa using hlt
  have htk:=sumL_snoc (w:=fun x:Nd=>x.s.length+x.kids.length) hx
  have hle:=sumL_take (fun x:Nd=>x.s.length+x.kids.length) l (k+1)
  have hex:=he _ (List.mem_of_getElem? hx)
  generalize l[k]=x at *
  obtain ⟨y,rfl⟩:∃ y:Nat,z=(y:Int):=⟨z.toNat,by omega⟩
  have hc:=szNode_g x y hex.1 hex.2 (by omega)
  by_cases h1:y < x.s.length+x.kids.length
  ·rw [szR_no h1] at hc
   rw [szR_no (by omega)]
   refine w_grun ?_
   refine w_gcall [] (hc) ?_
   refine w_grun ?_
   refine w_gret ?_
   exact ⟨rfl,rfl⟩
  ·rw [szR_ok (by omega)] at hc
   have hd3:decide (((y - (x.s.length+x.kids.length):Nat):Int) < 0)=false:=by simp
   refine w_grun ?_
   refine w_gcall [] (hc) ?_
   refine w_grun ?_
   exact ⟨(k+1,((y - (x.s.length+x.kids.length):Nat):Int)),⟨_,_,Wk.frm w_wkf,rfl,rfl,hlt,by simp only;omega,by simp only;omega⟩,by simp only;omega⟩
 ·have hd2:decide ((k:Int) < ((l.map encNode).length:Int))=false:=by rw [hm];simpa using hlt
  have hke:k=l.length:=by omega
  subst hke
  rw [List.take_length] at hz
  rw [szR_ok (by omega),show ((left - (l.length+sumL (fun x:Nd=>x.s.length+x.kids.length) l):Nat):Int)=z by omega]
  refine w_grun ?_
  refine w_gexit ?_
  refine w_grun ?_
  refine w_gret ?_
  exact ⟨rfl,rfl⟩
theorem szSource_g (p:Src) (hb:Go.Im.Small p 9223372036854775807):GF Tryz.prog 13 [.agg (encSrc p),.v (ii 1048576)] [] (.v (ii (szR (wSrc p) 1048576))) []:=by
 obtain ⟨⟨a1,a2⟩,⟨b1,b2⟩,⟨c1,c2⟩,⟨d1,d2⟩⟩:=hb
 have h1:=szStringS_g p.globals 1048576 a1 a2 (Nat.le_refl _)
 unfold wSrc
 generalize wS p.globals=w1 at *
 by_cases q1:1048576 < w1
 ·rw [szR_no q1] at h1
  rw [szR_no (by omega)]
  refine GC.enter Tryz.func13 Tryz.ntmps13 rfl (by simp only [gframe,grep,Nat.reduceSub];rfl) ?_
  refine w_grun ?_
  refine w_gcall [] (h1) ?_
  refine w_grun ?_
  refine w_gret ?_
  exact ⟨rfl,rfl⟩
 rw [szR_ok (by omega)] at h1
 have e1:decide (((1048576 - w1:Nat):Int) < 0)=false:=by simp
 have h2:=szArrayS_g p.arrays (1048576 - w1) b1 b2 (by omega)
 generalize sumL (fun a:Ar=>a.name.length+1) p.arrays=w2 at *
 by_cases q2:1048576 - w1 < w2
 ·rw [szR_no q2] at h2
  rw [szR_no (by omega)]
  refine GC.enter Tryz.func13 Tryz.ntmps13 rfl (by simp only [gframe,grep,Nat.reduceSub];rfl) ?_
  refine w_grun ?_
  refine w_gcall [] (h1) ?_
  refine w_grun ?_
  refine w_gcall [] (h2) ?_
  refine w_grun ?_
  refine w_gret ?_
  exact ⟨rfl,rfl⟩
 rw [szR_ok (by omega)] at h2
 have e2:decide (((1048576 - w1 - w2:Nat):Int) < 0)=false:=by simp
 have h3:=szFnS_g p.fns (1048576 - w1 - w2) c1 c2 (by omega)
 generalize sumL (fun f:Go.Sp.Fn=>f.name.length+wS f.params+1) p.fns=w3 at *
 by_cases q3:1048576 - w1 - w2 < w3
 ·rw [szR_no q3] at h3
  rw [szR_no (by omega)]
  refine GC.enter Tryz.func13 Tryz.ntmps13 rfl (by simp only [gframe,grep,Nat.reduceSub];rfl) ?_
  refine w_grun ?_
  refine w_gcall [] (h1) ?_
  refine w_grun ?_
  refine w_gcall [] (h2) ?_
  refine w_grun ?_
  refine w_gcall [] (h3) ?_
  refine w_grun ?_
  refine w_gret ?_
  exact ⟨rfl,rfl⟩
 rw [szR_ok (by omega)] at h3
 have e3:decide (((1048576 - w1 - w2 - w3:Nat):Int) < 0)=false:=by simp
 have h4:=szNodeS_g p.nodes (1048576 - w1 - w2 - w3) d1 d2 (by omega)
 generalize sumL (fun n:Nd=>n.s.length+n.kids.length+1) p.nodes=w4 at *
 by_cases q4:1048576 - w1 - w2 - w3 < w4
 ·rw [szR_no q4] at h4
  rw [szR_no (by omega)]
  refine GC.enter Tryz.func13 Tryz.ntmps13 rfl (by simp only [gframe,grep,Nat.reduceSub];rfl) ?_
  refine w_grun ?_
  refine w_gcall [] (h1) ?_
  refine w_grun ?_
  refine w_gcall [] (h2) ?_
  refine w_grun ?_
  refine w_gcall [] (h3) ?_
  refine w_grun ?_
  refine w_gcall [] (h4) ?_
  refine w_grun ?_
  refine w_gret ?_
  exact ⟨rfl,rfl⟩
 rw [szR_ok (by omega)] at h4
 have e4:decide (((1048576 - w1 - w2 - w3 - w4:Nat):Int) < 0)=false:=by simp
 rw [szR_ok (by omega),show 1048576 - (w1+w2+w3+w4)=1048576 - w1 - w2 - w3 - w4 by omega]
 refine GC.enter Tryz.func13 Tryz.ntmps13 rfl (by simp only [gframe,grep,Nat.reduceSub];rfl) ?_
 refine w_grun ?_
 refine w_gcall [] (h1) ?_
 refine w_grun ?_
 refine w_gcall [] (h2) ?_
 refine w_grun ?_
 refine w_gcall [] (h3) ?_
 refine w_grun ?_
 refine w_gcall [] (h4) ?_
 refine w_grun ?_
 refine w_gret ?_
 exact ⟨rfl,rfl⟩
end Go.Xg
namespace Go.Xg
open Go.RowKit Go.Xw
theorem setR_take:∀ (us vs:List Value) (o n:Nat),o+us.length≤n→(setR vs o us).take n=setR (vs.take n) o us
 | [],vs,o,n,_=>rfl
 | u::us,vs,o,n,h=>by
  rw [List.length_cons] at h
  rw [setR,setR,setR_take us _ _ _ (by omega),upd_take _ _ _ (by omega)]
theorem gsetR_app (a:List GV):∀ (gs b:List GV) (o:Nat),gsetR (a++b) (a.length+o) gs=a++gsetR b o gs
 | [],b,o=>rfl
 | g::gs,b,o=>by rw [gsetR,gsetR,gupd_app,Nat.add_assoc,gsetR_app a gs]
theorem gsetR_over:∀ (gs a b:List GV),a.length=gs.length→gsetR (a++b) 0 gs=gs++b
 | [],[],b,_=>rfl
 | [],x::a,b,h=>by simp at h
 | g::gs,[],b,h=>by simp at h
 | g::gs,x::a,b,h=>by
  rw [gsetR,List.cons_append,gupd]
  have:=gsetR_app [g] gs (a++b) 0
  simp only [List.length_cons,List.length_nil,List.cons_append,List.nil_append,Nat.zero_add,Nat.add_zero] at this ⊢
  rw [this,gsetR_over gs a b (by simpa using h)]
theorem rows_set {k:Nat} {gs:List GV} (hg:gs.length=k):∀ {rows:List (List GV)} {i:Nat},rowsOk k rows→i < rows.length→gsetR rows.flatten (i * k) gs=(rows.set i gs).flatten
 | [],_,_,h=>by simp at h
 | r::rs,0,hk,_=>by
  rw [List.flatten_cons,List.set_cons_zero,List.flatten_cons,Nat.zero_mul,gsetR_over gs r _ (by rw [hg];exact (hk r List.mem_cons_self).1)]
 | r::rs,n+1,hk,h=>by
  have hr:=(hk r List.mem_cons_self).1
  rw [List.flatten_cons,List.set_cons_succ,List.flatten_cons,←rows_set hg (fun r hr=>hk r (List.mem_cons_of_mem _ hr)) (by simpa using h),show (n+1) * k=r.length+n * k by rw [Nat.succ_mul];omega,gsetR_app]
theorem rows_setOk {k:Nat} {gs:List GV} (hg:gs.length=k) (hp:pcs gs=true) {rows:List (List GV)} {i:Nat} (h:rowsOk k rows):rowsOk k (rows.set i gs):=fun r hr=>by
 rcases List.mem_or_eq_of_mem_set hr with hr | rfl
 ·exact h r hr
 ·exact ⟨hg,pcs_mem hp⟩
section
variable {P:Program} {m:Nat} {ops:Array Oper} {Q:GPost} {rest:List Oper} {fr:List GV} {Γ:List Ob} {d:Option Tmp} {ty:TypeId} {pos:String} {af:Array Edge}
theorem GL.stHN {x y:Operand} {t:TypeId} {agg:Bool} {k:Nat} [hT:Ty P t agg k] {i n idx E:Nat} {rows:List (List GV)} {v:Value} {gs:List GV} (hx:gev fr x=.vp i n k idx 0) (hΓ:Γ[i]?=some (.vech E k rows v)) (hn:rows.length=n) (hlt:idx < rows.length)
  (hy:gcells (gev fr y)=some gs) (hk:Nat.beq gs.length k=true) (h1:ones1 gs=true) (hp:pcs gs=true) (h:GL P m ops Q rest (gput fr d (.v undef)) (oset Γ i (.vech E k (rows.set idx gs) v))):GL P m ops Q (⟨d,.store t x y,ty,pos,af,none⟩::rest) fr Γ:=fun B K β w l hm hI hF=>by
 have hk:gs.length=k:=by simpa using hk
 have hrr:=hF.ev x;rw [hx] at hrr
 generalize hv:ev l x=u at hrr
 cases hrr with
 | vp _ _ _ _ _ _ hh =>
  obtain ⟨h0,mm,e1,e2,e3⟩:=hh
  obtain ⟨xs,h4,h5,h6,h7,h8⟩:=hI.ob i _ hΓ
  rw [e1] at h4;cases h4
  obtain ⟨b,hb,rfl⟩:=e3 hn
  obtain ⟨us,hu1,hu2⟩:=(hF.ev y).cells hy
  have hul:us.length=k:=by rw [hu2.1,hk]
  have hq:idx * k+k≤rows.length * k:=by
   have:(idx+1) * k≤rows.length * k:=Nat.mul_le_mul_right k hlt
   rw [Nat.succ_mul] at this;omega
  rcases h5.2 with ⟨e5,e6⟩ | ⟨g0,cap,cur,e5,ebase,hg,hnc,hcm,hsz,htk⟩
  ·omega
  ·subst e5
   simp only [Value.ownBlock,Option.some.injEq] at hb;subst hb
   have hcap:rows.length * k≤cap * k:=Nat.mul_le_mul_right k hnc
   refine WL.st (t:=t) (k:=k) hv rfl hg (by rw [hu1];simpa using hul) (by rw [Nat.add_zero];omega) (by rw [hu1];simpa using hu2.ones h1) fun w' hs=>?_
   rw [hu1,List.toList_toArray,Nat.add_zero] at hs
   obtain ⟨cur⟩:=cur
   rw [setL_setR] at hs
   simp only [List.size_toArray,List.toList_toArray] at hsz htk
   have how:Own w' 0 E k (.slice (some ⟨g0,0,none⟩) rows.length cap) rows.length (setR xs (idx * k) us) :=
    ⟨by rw [setR_len];exact h5.1,.inr ⟨g0,cap,_,rfl,ebase,hs.blk,hnc,hcm,by simp [setR_len,hsz],by rw [List.toList_toArray,setR_take _ _ _ _ (by omega),htk]⟩⟩
   have hrel:RelL K β (setR xs (idx * k) us) (gsetR rows.flatten (idx * k) gs):=hu2.setR _ h6
   rw [rows_set hk h7 hlt] at hrel
   have hbk:(β i).blk=some g0:=by rw [e1];rfl
   have hI':Inv B K β (oset Γ i (.vech E k (rows.set idx gs) (.slice (some ⟨g0,0,none⟩) rows.length cap))) w':=by
    refine ⟨hI.ext.step hs.ext (fun j hj=>?_),hI.kle,hI.ble,hI.loc,hI.fz.ext hs.ext (fun b' o' g' hg' he=>?_),fun j y hj=>?_,fun j hj=>hI.out j (by simpa [oset_eq] using hj),hI.dis,hI.own,hI.kn,hI.tab.step hs.ext (fun j hj=>⟨i,by subst hj;exact hbk⟩) (KLe.refl K) (fun i b2 h=>.inl ⟨i,h⟩)⟩
    ·subst hj;exact (hI.own i _ hbk).symm
    ·subst he;rw [h8 _ rfl] at hg';cases hg'
    ·rw [oset_eq,List.getElem?_set] at hj
     split at hj
     ·rename_i hij
      split at hj
      ·cases hj;subst hij
       exact ⟨_,by rw [List.length_set];exact e1,by rw [List.length_set];exact how,hrel,rows_setOk hk hp h7,h8⟩
      ·cases hj
     ·rename_i hij
      refine (hI.ob j y hj).ext hs.ext (fun b' hb' he=>?_) (KLe.refl K) (BLe.refl β) rfl (fun _ _ _ h=>h)
      subst he
      exact hij (hI.dis i j _ hbk hb')
   exact h B K β w' _ hm hI' (hF.put d (.v _))
theorem zs_rows (n:Nat) (z:List Value):(List.replicate n (vs1 z)).flatten=zs n z:=by
 induction n with
 | zero=>rfl
 | succ n ih=>rw [List.replicate_succ,List.flatten_cons,ih,zs]
theorem GL.mkN {x:Operand} {t e k by':Nat} {z:List Value} [hT:ApT P t e k by'] [hZ:SlZ P t e k z] {dt:Tmp} {n:Nat} (hx:gev fr x=.v (ii (n:Nat))) (hb:n≤1099511627776∧by' * n≤281474976710656)
  (h:∀ a c,GL P m ops Q rest (gput fr (some dt) (.v (.slice a n c))) (Γ++[.vech e k (List.replicate n (vs1 z)) (.slice a n c)])) :
  GL P m ops Q (⟨some dt,.makeSlice t x x,ty,pos,af,none⟩::rest) fr Γ:=fun B K β w l hm hI hF=>by
 obtain ⟨hu,⟨i,z0,hi,hz,hzs,hsz,hby⟩,hk⟩:=hT.parts
 have hxv:ev l x=ii (n:Nat):=hF.evv hx
 obtain ⟨w',hr,h2,h3⟩:=run_make_full (P:=P) (w:=w) 0 t e i z0 k hu hi hz hsz .i64 .i64 n (by rw [hby];exact hb.2) (by simp only [maxLen];omega) (Nat.zero_le _)
 have hz0:z0.cells.toList=z:=by
  have h4:=hZ.zero
  rw [hi] at h4
  simp only [Option.bind_some,hz,Option.some.injEq] at h4
  have hl:=hZ.zl
  by_cases h1:k=1
  ·rw [if_pos h1] at h4
   rw [h4,hZ.one h1]
   subst h1
   match z,hl with
   | [a],_=>rfl
  ·rw [if_neg h1] at h4
   rw [h4];rfl
 have hcells:(madeCells z0.cells (n * k)).toList=(List.range (n * k)).map fun j=>z.getD (j % k) undef:=by
  unfold madeCells
  rw [Array.toList_map,Array.toList_range]
  apply List.map_congr_left
  intro j _
  have hlt:j % k < z0.cells.size:=by rw [hzs];exact Nat.mod_lt _ hk
  rw [hzs,getElem!_pos z0.cells (j % k) hlt,←hz0,List.getD_eq_getElem?_getD,Array.getElem?_toList,Array.getElem?_eq_getElem hlt]
  rfl
 rw [hcells] at h2
 have hrel:=zs_rel (K:=K) (β:=β) (n:=n) hZ.zl hZ.pos
 rw [←zs_rows] at hrel
 have hok:rowsOk k (List.replicate n (vs1 z)):=fun r hr=>by
  have:=List.eq_of_mem_replicate hr
  subst this
  refine ⟨by rw [←hZ.zl];simp [vs1],fun g hg=>?_⟩
  unfold vs1 at hg
  obtain ⟨v,_,rfl⟩:=List.mem_map.1 hg
  rfl
 have hext:Ext none' w w':=⟨h3.os,h3.tape,h3.output,h3.size,fun j hj _=>h3.block j hj (by simp)⟩
 have hI':=hI.addV (x:=.slice (some ⟨w.heap.size,0,none⟩) n n) (rows:=List.replicate n (vs1 z)) hext (by rw [List.length_replicate];exact h2) (fun b hb=>by cases hb;exact Nat.le_refl _) hrel hok
 have hget:(Γ++[Ob.vec e k 0 (List.replicate n (vs1 z))])[Γ.length]?=some (Ob.vec e k 0 (List.replicate n (vs1 z))):=by simp
 obtain ⟨a,c,hbβ,hI2⟩:=hI'.hide hget
 rw [setβ_same] at hbβ
 injection hbβ with hb1 hb2
 injection hb1 with hb3 hb4 hb5
 subst hb3 hb5
 have hos:oset (Γ++[.vec e k 0 (List.replicate n (vs1 z))]) Γ.length (.vech e k (List.replicate n (vs1 z)) (.slice (some ⟨w.heap.size,0,none⟩) (List.replicate n (vs1 z)).length n))=Γ++[.vech e k (List.replicate n (vs1 z)) (.slice (some ⟨w.heap.size,0,none⟩) (List.replicate n (vs1 z)).length n)]:=by
  rw [oset_eq];simp
 rw [hos,List.length_replicate] at hI2
 refine WL.val (v:=.slice (some ⟨w.heap.size,0,none⟩) n n) (w':=w') (by simp [execOp,hxv,hr]) ?_
 exact h _ _ B K _ w' _ hm hI2 ((hF.mono (KLe.refl K) (setβ_le (by rw [hI.out _ (Nat.le_refl _)];trivial))).put (some dt) (.v _))
end
end Go.Xg
namespace Go.Xg
open Go.RowKit Go.Xw Go.Proofs
open Go.Xp (Nd Ar)
open Go.Sp (Src)
open Go.Im (wS wSrc sumL sumL_take szR szR_ok szR_no sumL_succ sumL_snoc sumL_mem)
open Go.Im (fill_set fill_len fill_all)
attribute [local irreducible] GW GL GO YG GC GA gthn ginb
theorem toIntS_g (l:List Int) (hl:l.length≤1048576):GF Tryz.prog 146 [ints l] [] (ints l) []:=by
 have hm:(l.map (fun i=>[GV.v (ii i)])).length=l.length:=by simp
 refine GC.enter Tryz.func146 Tryz.ntmps146 rfl (by simp only [gframe,grep,Nat.reduceSub];rfl) ?_
 refine w_grun ?_
 refine GL.mkN rfl ⟨by omega,by omega⟩ ?_;intro a c;refine w_gnmb ?_
 refine w_grun ?_
 refine GW.loop (fun k:Nat=>l.length - k) (fun k fr Γ=>∃ R Z,fr=[ints l,.any,.any,.v (.slice a (l.map (fun i=>[GV.v (ii i)])).length c),.v (ii (k:Nat)),.any,.any,.any,.any,.any,.any,.any,.any,.any,.any,.any,.any,.any,.any,.any,.any,.any]∧Γ=[.vech 3 1 R (.slice a (l.map (fun i=>[GV.v (ii i)])).length c)]∧k≤l.length∧R=(l.take k).map (fun i=>[GV.v (ii i)])++List.replicate (l.length - k) Z) 0 ?_ ?_
 ·exact ⟨_,_,Wk.frm w_wkf,_,_,rfl,rfl,Nat.zero_le _,by rw [hm];rfl⟩
 rintro k _ _ ⟨R,Z,rfl,rfl,hk,hR⟩
 have hRl:R.length=l.length:=by rw [hR];exact fill_len hk
 have hRn:R.length=(l.map (fun i=>[GV.v (ii i)])).length:=by rw [hm];exact hRl
 by_cases hlt:k < l.length
 ·have hx:l[k]?=some l[k]:=by simp [hlt]
  have hr:(l.map (fun i=>[GV.v (ii i)]))[k]?=some ([GV.v (ii l[k])]):=by rw [List.getElem?_map,hx];rfl
  have hd2:decide ((k:Int) < ((l.map (fun i=>[GV.v (ii i)])).length:Int))=true:=by rw [hm];simpa using hlt
  have hset:=fill_set (f:=(fun i=>[GV.v (ii i)])) (Z:=Z) hx
  rw [←hR] at hset
  clear hR
  generalize l[k]=x at *
  refine w_grun ?_
  refine w_gsthn ?_
  refine w_grun ?_
  exact ⟨k+1,⟨_,_,Wk.frm w_wkf,_,Z,rfl,rfl,hlt,hset⟩,by show l.length - (k+1) < l.length - k;omega⟩
 ·have hd2:decide ((k:Int) < ((l.map (fun i=>[GV.v (ii i)])).length:Int))=false:=by rw [hm];simpa using hlt
  have hke:k=l.length:=by omega
  subst hke
  rw [fill_all] at hR
  subst hR
  refine w_grun ?_
  refine w_gexit ?_
  refine GW.wk (by apply Wk.sealH (t:=3) (i:=0) <;> rfl) ?_
  simp only [oset,gupd]
  refine w_grun ?_
  refine w_gret ?_
  exact ⟨rfl,rfl⟩
theorem toStringS_g (l:List Str) (hl:l.length≤1048576):GF Tryz.prog 48 [strs l] [] (strs l) []:=by
 have hm:(l.map (fun s=>[GV.v (sv s)])).length=l.length:=by simp
 refine GC.enter Tryz.func48 Tryz.ntmps48 rfl (by simp only [gframe,grep,Nat.reduceSub];rfl) ?_
 refine w_grun ?_
 refine GL.mkN rfl ⟨by omega,by omega⟩ ?_;intro a c;refine w_gnmb ?_
 refine w_grun ?_
 refine GW.loop (fun k:Nat=>l.length - k) (fun k fr Γ=>∃ R Z,fr=[strs l,.any,.any,.v (.slice a (l.map (fun s=>[GV.v (sv s)])).length c),.v (ii (k:Nat)),.any,.any,.any,.any,.any,.any,.any,.any,.any,.any,.any,.any,.any,.any,.any,.any,.any]∧Γ=[.vech 9 1 R (.slice a (l.map (fun s=>[GV.v (sv s)])).length c)]∧k≤l.length∧R=(l.take k).map (fun s=>[GV.v (sv s)])++List.replicate (l.length - k) Z) 0 ?_ ?_
 ·exact ⟨_,_,Wk.frm w_wkf,_,_,rfl,rfl,Nat.zero_le _,by rw [hm];rfl⟩
 rintro k _ _ ⟨R,Z,rfl,rfl,hk,hR⟩
 have hRl:R.length=l.length:=by rw [hR];exact fill_len hk
 have hRn:R.length=(l.map (fun s=>[GV.v (sv s)])).length:=by rw [hm];exact hRl
 by_cases hlt:k < l.length
 ·have hx:l[k]?=some l[k]:=by simp [hlt]
  have hr:(l.map (fun s=>[GV.v (sv s)]))[k]?=some ([GV.v (sv l[k])]):=by rw [List.getElem?_map,hx];rfl
  have hd2:decide ((k:Int) < ((l.map (fun s=>[GV.v (sv s)])).length:Int))=true:=by rw [hm];simpa using hlt
  have hset:=fill_set (f:=(fun s=>[GV.v (sv s)])) (Z:=Z) hx
  rw [←hR] at hset
  clear hR
  generalize l[k]=x at *
  refine w_grun ?_
  refine w_gsthn ?_
  refine w_grun ?_
  exact ⟨k+1,⟨_,_,Wk.frm w_wkf,_,Z,rfl,rfl,hlt,hset⟩,by show l.length - (k+1) < l.length - k;omega⟩
 ·have hd2:decide ((k:Int) < ((l.map (fun s=>[GV.v (sv s)])).length:Int))=false:=by rw [hm];simpa using hlt
  have hke:k=l.length:=by omega
  subst hke
  rw [fill_all] at hR
  subst hR
  refine w_grun ?_
  refine w_gexit ?_
  refine GW.wk (by apply Wk.sealH (t:=3) (i:=0) <;> rfl) ?_
  simp only [oset,gupd]
  refine w_grun ?_
  refine w_gret ?_
  exact ⟨rfl,rfl⟩
theorem toArray_g (x:Ar):GF Tryz.prog 99 [.agg (encAr x)] [] (.agg (encAr x)) []:=by
 refine GC.enter Tryz.func99 Tryz.ntmps99 rfl (by simp only [gframe,grep,Nat.reduceSub];rfl) ?_
 refine w_grun ?_
 refine w_gretc ?_
 exact ⟨rfl,rfl⟩
theorem toArrayS_g (l:List Ar) (hl:l.length≤1048576):GF Tryz.prog 49 [.sl 2 (l.map encAr)] [] (.sl 2 (l.map encAr)) []:=by
 have hm:(l.map encAr).length=l.length:=by simp
 refine GC.enter Tryz.func49 Tryz.ntmps49 rfl (by simp only [gframe,grep,Nat.reduceSub];rfl) ?_
 refine w_grun ?_
 refine GL.mkN rfl ⟨by omega,by omega⟩ ?_;intro a c;refine w_gnmb ?_
 refine w_grun ?_
 refine GW.loop (fun k:Nat=>l.length - k) (fun k fr Γ=>∃ R Z,fr=[.sl 2 (l.map encAr),.any,.any,.v (.slice a (l.map encAr).length c),.v (ii (k:Nat)),.any,.any,.any,.any,.any,.any,.any,.any,.any,.any,.any,.any,.any,.any,.any,.any,.any,.any]∧Γ=[.vech 87 2 R (.slice a (l.map encAr).length c)]∧k≤l.length∧R=(l.take k).map encAr++List.replicate (l.length - k) Z) 0 ?_ ?_
 ·exact ⟨_,_,Wk.frm w_wkf,_,_,rfl,rfl,Nat.zero_le _,by rw [hm];rfl⟩
 rintro k _ _ ⟨R,Z,rfl,rfl,hk,hR⟩
 have hRl:R.length=l.length:=by rw [hR];exact fill_len hk
 have hRn:R.length=(l.map encAr).length:=by rw [hm];exact hRl
 by_cases hlt:k < l.length
 ·have hx:l[k]?=some l[k]:=by simp [hlt]
  have hr:(l.map encAr)[k]?=some (encAr l[k]):=by rw [List.getElem?_map,hx];rfl
  have hd2:decide ((k:Int) < ((l.map encAr).length:Int))=true:=by rw [hm];simpa using hlt
  have hset:=fill_set (f:=encAr) (Z:=Z) hx
  rw [←hR] at hset
  have hc:=toArray_g l[k]
  clear hR
  generalize l[k]=x at *
  refine w_grun ?_
  refine w_gcall [] (hc) ?_
  refine w_grun ?_
  refine w_gsthn ?_
  refine w_grun ?_
  exact ⟨k+1,⟨_,_,Wk.frm w_wkf,_,Z,rfl,rfl,hlt,hset⟩,by show l.length - (k+1) < l.length - k;omega⟩
 ·have hd2:decide ((k:Int) < ((l.map encAr).length:Int))=false:=by rw [hm];simpa using hlt
  have hke:k=l.length:=by omega
  subst hke
  rw [fill_all] at hR
  subst hR
  refine w_grun ?_
  refine w_gexit ?_
  refine GW.wk (by apply Wk.sealH (t:=3) (i:=0) <;> rfl) ?_
  simp only [oset,gupd]
  refine w_grun ?_
  refine w_gret ?_
  exact ⟨rfl,rfl⟩
theorem toFn_g (x:Go.Sp.Fn) (hp:x.params.length≤1048576):GF Tryz.prog 100 [.agg (encFn x)] [] (.agg (encFn x)) []:=by
 have h0:=toStringS_g x.params hp
 refine GC.enter Tryz.func100 Tryz.ntmps100 rfl (by simp only [gframe,grep,Nat.reduceSub];rfl) ?_
 refine w_grun ?_
 refine w_gcall [] (h0) ?_
 refine w_grun ?_
 refine w_gretc ?_
 exact ⟨rfl,rfl⟩
theorem toFnS_g (l:List Go.Sp.Fn) (hl:l.length≤1048576) (he:∀ x∈l,x.params.length≤1048576):GF Tryz.prog 50 [.sl 3 (l.map encFn)] [] (.sl 3 (l.map encFn)) []:=by
 have hm:(l.map encFn).length=l.length:=by simp
 refine GC.enter Tryz.func50 Tryz.ntmps50 rfl (by simp only [gframe,grep,Nat.reduceSub];rfl) ?_
 refine w_grun ?_
 refine GL.mkN rfl ⟨by omega,by omega⟩ ?_;intro a c;refine w_gnmb ?_
 refine w_grun ?_
 refine GW.loop (fun k:Nat=>l.length - k) (fun k fr Γ=>∃ R Z,fr=[.sl 3 (l.map encFn),.any,.any,.v (.slice a (l.map encFn).length c),.v (ii (k:Nat)),.any,.any,.any,.any,.any,.any,.any,.any,.any,.any,.any,.any,.any,.any,.any,.any,.any,.any]∧Γ=[.vech 89 3 R (.slice a (l.map encFn).length c)]∧k≤l.length∧R=(l.take k).map encFn++List.replicate (l.length - k) Z) 0 ?_ ?_
 ·exact ⟨_,_,Wk.frm w_wkf,_,_,rfl,rfl,Nat.zero_le _,by rw [hm];rfl⟩
 rintro k _ _ ⟨R,Z,rfl,rfl,hk,hR⟩
 have hRl:R.length=l.length:=by rw [hR];exact fill_len hk
 have hRn:R.length=(l.map encFn).length:=by rw [hm];exact hRl
 by_cases hlt:k < l.length
 ·have hx:l[k]?=some l[k]:=by simp [hlt]
  have hr:(l.map encFn)[k]?=some (encFn l[k]):=by rw [List.getElem?_map,hx];rfl
  have hd2:decide ((k:Int) < ((l.map encFn).length:Int))=true:=by rw [hm];simpa using hlt
  have hset:=fill_set (f:=encFn) (Z:=Z) hx
  rw [←hR] at hset
  have hex:=he _ (List.mem_of_getElem? hx)
  have hc:=toFn_g l[k] hex
  clear hR
  generalize l[k]=x at *
  refine w_grun ?_
  refine w_gcall [] (hc) ?_
  refine w_grun ?_
  refine w_gsthn ?_
  refine w_grun ?_
  exact ⟨k+1,⟨_,_,Wk.frm w_wkf,_,Z,rfl,rfl,hlt,hset⟩,by show l.length - (k+1) < l.length - k;omega⟩
 ·have hd2:decide ((k:Int) < ((l.map encFn).length:Int))=false:=by rw [hm];simpa using hlt
  have hke:k=l.length:=by omega
  subst hke
  rw [fill_all] at hR
  subst hR
  refine w_grun ?_
  refine w_gexit ?_
  refine GW.wk (by apply Wk.sealH (t:=3) (i:=0) <;> rfl) ?_
  simp only [oset,gupd]
  refine w_grun ?_
  refine w_gret ?_
  exact ⟨rfl,rfl⟩
theorem toNode_g (x:Nd) (hp:x.kids.length≤1048576):GF Tryz.prog 101 [.agg (encNode x)] [] (.agg (encNode x)) []:=by
 have h0:=toIntS_g x.kids hp
 refine GC.enter Tryz.func101 Tryz.ntmps101 rfl (by simp only [gframe,grep,Nat.reduceSub];rfl) ?_
 refine w_grun ?_
 refine w_gcall [] (h0) ?_
 refine w_grun ?_
 refine w_gretc ?_
 exact ⟨rfl,rfl⟩
theorem toNodeS_g (l:List Nd) (hl:l.length≤1048576) (he:∀ x∈l,x.kids.length≤1048576):GF Tryz.prog 51 [.sl 5 (l.map encNode)] [] (.sl 5 (l.map encNode)) []:=by
 have hm:(l.map encNode).length=l.length:=by simp
 refine GC.enter Tryz.func51 Tryz.ntmps51 rfl (by simp only [gframe,grep,Nat.reduceSub];rfl) ?_
 refine w_grun ?_
 refine GL.mkN rfl ⟨by omega,by omega⟩ ?_;intro a c;refine w_gnmb ?_
 refine w_grun ?_
 refine GW.loop (fun k:Nat=>l.length - k) (fun k fr Γ=>∃ R Z,fr=[.sl 5 (l.map encNode),.any,.any,.v (.slice a (l.map encNode).length c),.v (ii (k:Nat)),.any,.any,.any,.any,.any,.any,.any,.any,.any,.any,.any,.any,.any,.any,.any,.any,.any,.any]∧Γ=[.vech 61 5 R (.slice a (l.map encNode).length c)]∧k≤l.length∧R=(l.take k).map encNode++List.replicate (l.length - k) Z) 0 ?_ ?_
 ·exact ⟨_,_,Wk.frm w_wkf,_,_,rfl,rfl,Nat.zero_le _,by rw [hm];rfl⟩
 rintro k _ _ ⟨R,Z,rfl,rfl,hk,hR⟩
 have hRl:R.length=l.length:=by rw [hR];exact fill_len hk
 have hRn:R.length=(l.map encNode).length:=by rw [hm];exact hRl
 by_cases hlt:k < l.length
 ·have hx:l[k]?=some l[k]:=by simp [hlt]
  have hr:(l.map encNode)[k]?=some (encNode l[k]):=by rw [List.getElem?_map,hx];rfl
  have hd2:decide ((k:Int) < ((l.map encNode).length:Int))=true:=by rw [hm];simpa using hlt
  have hset:=fill_set (f:=encNode) (Z:=Z) hx
  rw [←hR] at hset
  have hex:=he _ (List.mem_of_getElem? hx)
  have hc:=toNode_g l[k] hex
  clear hR
  generalize l[k]=x at *
  refine w_grun ?_
  refine w_gcall [] (hc) ?_
  refine w_grun ?_
  refine w_gsthn ?_
  refine w_grun ?_
  exact ⟨k+1,⟨_,_,Wk.frm w_wkf,_,Z,rfl,rfl,hlt,hset⟩,by show l.length - (k+1) < l.length - k;omega⟩
 ·have hd2:decide ((k:Int) < ((l.map encNode).length:Int))=false:=by rw [hm];simpa using hlt
  have hke:k=l.length:=by omega
  subst hke
  rw [fill_all] at hR
  subst hR
  refine w_grun ?_
  refine w_gexit ?_
  refine GW.wk (by apply Wk.sealH (t:=3) (i:=0) <;> rfl) ?_
  simp only [oset,gupd]
  refine w_grun ?_
  refine w_gret ?_
  exact ⟨rfl,rfl⟩
theorem toSource_g (x:Src) (hg:x.globals.length≤1048576) (ha:x.arrays.length≤1048576) (hf:x.fns.length≤1048576) (hfp:∀ f∈x.fns,f.params.length≤1048576) (hn:x.nodes.length≤1048576) (hnk:∀ n∈x.nodes,n.kids.length≤1048576):GF Tryz.prog 14 [.agg (encSrc x)] [] (.agg (encSrc x)) []:=by
 have h0:=toStringS_g x.globals hg
 have h1:=toArrayS_g x.arrays ha
 have h2:=toFnS_g x.fns hf hfp
 have h3:=toNodeS_g x.nodes hn hnk
 refine GC.enter Tryz.func14 Tryz.ntmps14 rfl (by simp only [gframe,grep,Nat.reduceSub];rfl) ?_
 refine w_grun ?_
 refine w_gcall [] (h0) ?_
 refine w_grun ?_
 refine w_gcall [] (h1) ?_
 refine w_grun ?_
 refine w_gcall [] (h2) ?_
 refine w_grun ?_
 refine w_gcall [] (h3) ?_
 refine w_grun ?_
 refine w_gretc ?_
 exact ⟨rfl,rfl⟩
end Go.Xg
namespace Go.Xg
open Go.RowKit Go.Xw Go.Proofs
open Go.Xp (Nd Ar)
open Go.Sp (Src)
open Go.Im (wS wSrc sumL sumL_take szR szR_ok szR_no sumL_succ sumL_snoc sumL_mem)
attribute [local irreducible] GW GL GO YG GC GA gthn ginb
theorem eqIntS_g (l:List Int) (hl:l.length≤1048576):GF Tryz.prog 147 [ints l,ints l] [] (.v (.bool true)) []:=by
 have hm:(l.map (fun i=>[GV.v (ii i)])).length=l.length:=by simp
 have hd:(((l.map (fun i=>[GV.v (ii i)])).length:Int) != ((l.map (fun i=>[GV.v (ii i)])).length:Int))=false:=by simp
 refine GC.enter Tryz.func147 Tryz.ntmps147 rfl (by simp only [gframe,grep,Nat.reduceSub];rfl) ?_
 refine w_grun ?_
 refine GW.loop (fun k:Nat=>l.length - k) (fun k fr Γ=>fr=[ints l,ints l,.any,.any,.any,.v (ii (k:Nat)),.any,.any,.any,.any,.any,.any,.any,.any,.any,.any,.any,.any,.any,.any,.any,.any,.any,.any,.any,.any]∧Γ=[]∧k≤l.length) 0 ?_ ?_
 ·exact ⟨_,_,Wk.frm w_wkf,rfl,rfl,Nat.zero_le _⟩
 rintro k _ _ ⟨rfl,rfl,hk⟩
 by_cases hlt:k < l.length
 ·have hx:l[k]?=some l[k]:=by simp [hlt]
  have hr:(l.map (fun i=>[GV.v (ii i)]))[k]?=some ([GV.v (ii l[k])]):=by rw [List.getElem?_map,hx];rfl
  have hd2:decide ((k:Int) < ((l.map (fun i=>[GV.v (ii i)])).length:Int))=true:=by rw [hm];simpa using hlt
  generalize l[k]=x at *
  have hs:(x != x)=false:=by simp
  refine w_grun ?_
  refine GW.draw (.q 0 (.q 1 (.q 2 (.q 3 (.q 4 (.q 5 (.q 6 (.q 7 (.q 8 .nil))))))))) (by kernel_rfl) (by kernel_rfl) ?_
  refine w_gorun ?_
  refine w_grun ?_
  exact ⟨k+1,⟨_,_,Wk.frm w_wkf,rfl,rfl,hlt⟩,by show l.length - (k+1) < l.length - k;omega⟩
 ·have hd2:decide ((k:Int) < ((l.map (fun i=>[GV.v (ii i)])).length:Int))=false:=by rw [hm];simpa using hlt
  refine w_grun ?_
  refine w_gexit ?_
  refine w_grun ?_
  refine w_gret ?_
  exact ⟨rfl,rfl⟩
theorem eqStringS_g (l:List Str) (hl:l.length≤1048576):GF Tryz.prog 18 [strs l,strs l] [] (.v (.bool true)) []:=by
 have hm:(l.map (fun s=>[GV.v (sv s)])).length=l.length:=by simp
 have hd:(((l.map (fun s=>[GV.v (sv s)])).length:Int) != ((l.map (fun s=>[GV.v (sv s)])).length:Int))=false:=by simp
 refine GC.enter Tryz.func18 Tryz.ntmps18 rfl (by simp only [gframe,grep,Nat.reduceSub];rfl) ?_
 refine w_grun ?_
 refine GW.loop (fun k:Nat=>l.length - k) (fun k fr Γ=>fr=[strs l,strs l,.any,.any,.any,.v (ii (k:Nat)),.any,.any,.any,.any,.any,.any,.any,.any,.any,.any,.any,.any,.any,.any,.any,.any,.any,.any,.any,.any]∧Γ=[]∧k≤l.length) 0 ?_ ?_
 ·exact ⟨_,_,Wk.frm w_wkf,rfl,rfl,Nat.zero_le _⟩
 rintro k _ _ ⟨rfl,rfl,hk⟩
 by_cases hlt:k < l.length
 ·have hx:l[k]?=some l[k]:=by simp [hlt]
  have hr:(l.map (fun s=>[GV.v (sv s)]))[k]?=some ([GV.v (sv l[k])]):=by rw [List.getElem?_map,hx];rfl
  have hd2:decide ((k:Int) < ((l.map (fun s=>[GV.v (sv s)])).length:Int))=true:=by rw [hm];simpa using hlt
  generalize l[k]=x at *
  have hs:(!(x==x))=false:=by simp
  refine w_grun ?_
  refine GW.draw (.q 0 (.q 1 (.q 2 (.q 3 (.q 4 (.q 5 (.q 6 (.q 7 (.q 8 .nil))))))))) (by kernel_rfl) (by kernel_rfl) ?_
  refine w_gorun ?_
  refine w_grun ?_
  exact ⟨k+1,⟨_,_,Wk.frm w_wkf,rfl,rfl,hlt⟩,by show l.length - (k+1) < l.length - k;omega⟩
 ·have hd2:decide ((k:Int) < ((l.map (fun s=>[GV.v (sv s)])).length:Int))=false:=by rw [hm];simpa using hlt
  refine w_grun ?_
  refine w_gexit ?_
  refine w_grun ?_
  refine w_gret ?_
  exact ⟨rfl,rfl⟩
theorem eqArray_g (x:Ar):GF Tryz.prog 102 [.agg (encAr x),.agg (encAr x)] [] (.v (.bool true)) []:=by
 have e0:(!(x.name==x.name))=false:=by simp
 have e1:(x.size != x.size)=false:=by simp
 refine GC.enter Tryz.func102 Tryz.ntmps102 rfl (by simp only [gframe,grep,Nat.reduceSub];rfl) ?_
 refine w_grun ?_
 refine w_gret ?_
 exact ⟨rfl,rfl⟩
theorem eqArrayS_g (l:List Ar) (hl:l.length≤1048576):GF Tryz.prog 52 [.sl 2 (l.map encAr),.sl 2 (l.map encAr)] [] (.v (.bool true)) []:=by
 have hm:(l.map encAr).length=l.length:=by simp
 have hd:(((l.map encAr).length:Int) != ((l.map encAr).length:Int))=false:=by simp
 refine GC.enter Tryz.func52 Tryz.ntmps52 rfl (by simp only [gframe,grep,Nat.reduceSub];rfl) ?_
 refine w_grun ?_
 refine GW.loop (fun k:Nat=>l.length - k) (fun k fr Γ=>fr=[.sl 2 (l.map encAr),.sl 2 (l.map encAr),.any,.any,.any,.v (ii (k:Nat)),.any,.any,.any,.any,.any,.any,.any,.any,.any,.any,.any,.any,.any,.any,.any,.any,.any,.any,.any,.any,.any]∧Γ=[]∧k≤l.length) 0 ?_ ?_
 ·exact ⟨_,_,Wk.frm w_wkf,rfl,rfl,Nat.zero_le _⟩
 rintro k _ _ ⟨rfl,rfl,hk⟩
 by_cases hlt:k < l.length
 ·have hx:l[k]?=some l[k]:=by simp [hlt]
  have hr:(l.map encAr)[k]?=some (encAr l[k]):=by rw [List.getElem?_map,hx];rfl
  have hd2:decide ((k:Int) < ((l.map encAr).length:Int))=true:=by rw [hm];simpa using hlt
  have hc:=eqArray_g l[k]
  generalize l[k]=x at *
  refine w_grun ?_
  refine GW.draw (.q 0 (.q 1 (.q 2 (.q 3 (.q 4 (.q 5 (.q 6 (.q 7 (.a 8 (.q 9 .nil)))))))))) (by kernel_rfl) (by kernel_rfl) ?_
  refine w_gorun ?_
  refine w_gocall [] (hc) ?_
  refine w_gorun ?_
  refine w_grun ?_
  exact ⟨k+1,⟨_,_,Wk.frm w_wkf,rfl,rfl,hlt⟩,by show l.length - (k+1) < l.length - k;omega⟩
 ·have hd2:decide ((k:Int) < ((l.map encAr).length:Int))=false:=by rw [hm];simpa using hlt
  refine w_grun ?_
  refine w_gexit ?_
  refine w_grun ?_
  refine w_gret ?_
  exact ⟨rfl,rfl⟩
theorem eqFn_g (x:Go.Sp.Fn) (hp:x.params.length≤1048576):GF Tryz.prog 103 [.agg (encFn x),.agg (encFn x)] [] (.v (.bool true)) []:=by
 have e0:(!(x.name==x.name))=false:=by simp
 have e1:(x.body != x.body)=false:=by simp
 have h0:=eqStringS_g x.params hp
 refine GC.enter Tryz.func103 Tryz.ntmps103 rfl (by simp only [gframe,grep,Nat.reduceSub];rfl) ?_
 refine w_grun ?_
 refine w_gcall [] (h0) ?_
 refine w_grun ?_
 refine w_gret ?_
 exact ⟨rfl,rfl⟩
theorem eqFnS_g (l:List Go.Sp.Fn) (hl:l.length≤1048576) (he:∀ x∈l,x.params.length≤1048576):GF Tryz.prog 53 [.sl 3 (l.map encFn),.sl 3 (l.map encFn)] [] (.v (.bool true)) []:=by
 have hm:(l.map encFn).length=l.length:=by simp
 have hd:(((l.map encFn).length:Int) != ((l.map encFn).length:Int))=false:=by simp
 refine GC.enter Tryz.func53 Tryz.ntmps53 rfl (by simp only [gframe,grep,Nat.reduceSub];rfl) ?_
 refine w_grun ?_
 refine GW.loop (fun k:Nat=>l.length - k) (fun k fr Γ=>fr=[.sl 3 (l.map encFn),.sl 3 (l.map encFn),.any,.any,.any,.v (ii (k:Nat)),.any,.any,.any,.any,.any,.any,.any,.any,.any,.any,.any,.any,.any,.any,.any,.any,.any,.any,.any,.any,.any]∧Γ=[]∧k≤l.length) 0 ?_ ?_
 ·exact ⟨_,_,Wk.frm w_wkf,rfl,rfl,Nat.zero_le _⟩
 rintro k _ _ ⟨rfl,rfl,hk⟩
 by_cases hlt:k < l.length
 ·have hx:l[k]?=some l[k]:=by simp [hlt]
  have hr:(l.map encFn)[k]?=some (encFn l[k]):=by rw [List.getElem?_map,hx];rfl
  have hd2:decide ((k:Int) < ((l.map encFn).length:Int))=true:=by rw [hm];simpa using hlt
  have hex:=he _ (List.mem_of_getElem? hx)
  have hc:=eqFn_g l[k] hex
  generalize l[k]=x at *
  refine w_grun ?_
  refine GW.draw (.q 0 (.q 1 (.q 2 (.q 3 (.q 4 (.q 5 (.q 6 (.q 7 (.a 8 (.q 9 .nil)))))))))) (by kernel_rfl) (by kernel_rfl) ?_
  refine w_gorun ?_
  refine w_gocall [] (hc) ?_
  refine w_gorun ?_
  refine w_grun ?_
  exact ⟨k+1,⟨_,_,Wk.frm w_wkf,rfl,rfl,hlt⟩,by show l.length - (k+1) < l.length - k;omega⟩
 ·have hd2:decide ((k:Int) < ((l.map encFn).length:Int))=false:=by rw [hm];simpa using hlt
  refine w_grun ?_
  refine w_gexit ?_
  refine w_grun ?_
  refine w_gret ?_
  exact ⟨rfl,rfl⟩
theorem eqNode_g (x:Nd) (hp:x.kids.length≤1048576):GF Tryz.prog 104 [.agg (encNode x),.agg (encNode x)] [] (.v (.bool true)) []:=by
 have e0:(x.kind != x.kind)=false:=by simp
 have e1:(x.at_ != x.at_)=false:=by simp
 have e2:(x.n != x.n)=false:=by simp
 have e3:(!(x.s==x.s))=false:=by simp
 have h0:=eqIntS_g x.kids hp
 refine GC.enter Tryz.func104 Tryz.ntmps104 rfl (by simp only [gframe,grep,Nat.reduceSub];rfl) ?_
 refine w_grun ?_
 refine w_gcall [] (h0) ?_
 refine w_grun ?_
 refine w_gret ?_
 exact ⟨rfl,rfl⟩
theorem eqNodeS_g (l:List Nd) (hl:l.length≤1048576) (he:∀ x∈l,x.kids.length≤1048576):GF Tryz.prog 54 [.sl 5 (l.map encNode),.sl 5 (l.map encNode)] [] (.v (.bool true)) []:=by
 have hm:(l.map encNode).length=l.length:=by simp
 have hd:(((l.map encNode).length:Int) != ((l.map encNode).length:Int))=false:=by simp
 refine GC.enter Tryz.func54 Tryz.ntmps54 rfl (by simp only [gframe,grep,Nat.reduceSub];rfl) ?_
 refine w_grun ?_
 refine GW.loop (fun k:Nat=>l.length - k) (fun k fr Γ=>fr=[.sl 5 (l.map encNode),.sl 5 (l.map encNode),.any,.any,.any,.v (ii (k:Nat)),.any,.any,.any,.any,.any,.any,.any,.any,.any,.any,.any,.any,.any,.any,.any,.any,.any,.any,.any,.any,.any]∧Γ=[]∧k≤l.length) 0 ?_ ?_
 ·exact ⟨_,_,Wk.frm w_wkf,rfl,rfl,Nat.zero_le _⟩
 rintro k _ _ ⟨rfl,rfl,hk⟩
 by_cases hlt:k < l.length
 ·have hx:l[k]?=some l[k]:=by simp [hlt]
  have hr:(l.map encNode)[k]?=some (encNode l[k]):=by rw [List.getElem?_map,hx];rfl
  have hd2:decide ((k:Int) < ((l.map encNode).length:Int))=true:=by rw [hm];simpa using hlt
  have hex:=he _ (List.mem_of_getElem? hx)
  have hc:=eqNode_g l[k] hex
  generalize l[k]=x at *
  refine w_grun ?_
  refine GW.draw (.q 0 (.q 1 (.q 2 (.q 3 (.q 4 (.q 5 (.q 6 (.q 7 (.a 8 (.q 9 .nil)))))))))) (by kernel_rfl) (by kernel_rfl) ?_
  refine w_gorun ?_
  refine w_gocall [] (hc) ?_
  refine w_gorun ?_
  refine w_grun ?_
  exact ⟨k+1,⟨_,_,Wk.frm w_wkf,rfl,rfl,hlt⟩,by show l.length - (k+1) < l.length - k;omega⟩
 ·have hd2:decide ((k:Int) < ((l.map encNode).length:Int))=false:=by rw [hm];simpa using hlt
  refine w_grun ?_
  refine w_gexit ?_
  refine w_grun ?_
  refine w_gret ?_
  exact ⟨rfl,rfl⟩
theorem eqSource_g (x:Src) (hg:x.globals.length≤1048576) (ha:x.arrays.length≤1048576) (hf:x.fns.length≤1048576) (hfp:∀ f∈x.fns,f.params.length≤1048576) (hn:x.nodes.length≤1048576) (hnk:∀ n∈x.nodes,n.kids.length≤1048576):GF Tryz.prog 15 [.agg (encSrc x),.agg (encSrc x)] [] (.v (.bool true)) []:=by
 have h0:=eqStringS_g x.globals hg
 have h1:=eqArrayS_g x.arrays ha
 have h2:=eqFnS_g x.fns hf hfp
 have h3:=eqNodeS_g x.nodes hn hnk
 refine GC.enter Tryz.func15 Tryz.ntmps15 rfl (by simp only [gframe,grep,Nat.reduceSub];rfl) ?_
 refine w_grun ?_
 refine w_gcall [] (h0) ?_
 refine w_grun ?_
 refine w_gcall [] (h1) ?_
 refine w_grun ?_
 refine w_gcall [] (h2) ?_
 refine w_grun ?_
 refine w_gcall [] (h3) ?_
 refine w_grun ?_
 refine w_gret ?_
 exact ⟨rfl,rfl⟩
end Go.Xg
