/- The law FnExactNames: for every source the program's Names answers what the reference's answers, and the source reads as it did. No condition but the row's own: the library's tables are as the program's text lays them. -/
import Derived.Test.YtaopilmekfecpaaGreatDoorZ3
import Derived.Test.YtaopilmekfecpaaGreatDoorZ5
import Derived.Test.YtaopilmekfecpaaGreatDoorZ6
import Derived.Test.YtaopilmekfecpaaGreatDoorZ9
import Derived.Test.YtaopilmekfecpaaGreatDoorCards
import Derived.Test.YtaopilmekfecpaaGreatDoorTie
import Derived.Test.YtaopilmekfecpaaGreatDoorZ8
import Derived.WalkKit
import Derived.ProofKit
import Derived.OpenShut
import Derived.ShutString
import Derived.Carry
import Derived.Deep.DeepHandedRow
import Derived.Deep.DeepWitnessRowRef
set_option linter.unusedVariables false
set_option linter.unusedSimpArgs false
set_option maxHeartbeats 2000000
set_option maxRecDepth 100000
namespace Go.Xg
open Go.RowKit Go.Xw Go.Proofs
open Go.Xp (Nd Ar)
open Go.Sp (Src)
open Go.Im (wS wSrc sumL sumL_take szR szR_ok szR_no sumL_succ sumL_snoc sumL_mem)
attribute [local irreducible] GW GL GO YG GC GA gthn ginb
theorem szIntS_g (l:List Int) (left:Nat) (hl:l.length≤9223372036854775807) (hleft:left≤1048576):GF Tryz.prog 145 [ints l,.v (ii (left:Nat))] [] (.v (ii (szR l.length left))) []:=by
 have hm:(l.map fun i=>[GV.v (ii i)]).length=l.length:=by simp
 by_cases h0:left < l.length
 ·have hd:decide ((left:Int) - ((l.map fun i=>[GV.v (ii i)]).length:Int) < 0)=true:=by rw [hm];simpa using by omega
  rw [szR_no h0]
  refine GC.enter Tryz.func145 Tryz.ntmps145 rfl (by simp only [gframe,grep,Nat.reduceSub];rfl) ?_
  refine w_grun ?_
  refine w_gret ?_
  exact ⟨rfl,rfl⟩
 ·have hd:decide ((left:Int) - ((l.map fun i=>[GV.v (ii i)]).length:Int) < 0)=false:=by rw [hm];simpa using by omega
  rw [szR_ok (by omega),show ((left - l.length:Nat):Int)=(left:Int) - ((l.map fun i=>[GV.v (ii i)]).length:Int) by rw [hm];omega]
  refine GC.enter Tryz.func145 Tryz.ntmps145 rfl (by simp only [gframe,grep,Nat.reduceSub];rfl) ?_
  refine w_grun ?_
  refine w_gret ?_
  exact ⟨rfl,rfl⟩
theorem szStringS_g (l:List Str) (left:Nat) (hl:l.length≤9223372036854775807) (he:∀ x∈l,x.length≤9223372036854775807) (hleft:left≤1048576):GF Tryz.prog 44 [strs l,.v (ii (left:Nat))] [] (.v (ii (szR (wS l) left))) []:=by
 have hm:(l.map (fun s=>[GV.v (sv s)])).length=l.length:=by simp
 have ht:wS l=l.length+sumL (fun x:Str=>x.length) l:=sumL_succ _ l
 by_cases h0:left < l.length
 ·have hd:decide ((left:Int) - ((l.map (fun s=>[GV.v (sv s)])).length:Int) < 0)=true:=by rw [hm];simpa using by omega
  rw [szR_no (by omega)]
  refine GC.enter Tryz.func44 Tryz.ntmps44 rfl (by simp only [gframe,grep,Nat.reduceSub];rfl) ?_
  refine w_grun ?_
  refine w_gret ?_
  exact ⟨rfl,rfl⟩
 have hd:decide ((left:Int) - ((l.map (fun s=>[GV.v (sv s)])).length:Int) < 0)=false:=by rw [hm];simpa using by omega
 rw [ht]
 refine GC.enter Tryz.func44 Tryz.ntmps44 rfl (by simp only [gframe,grep,Nat.reduceSub];rfl) ?_
 refine w_grun ?_
 refine GW.loop (fun k:Nat × Int=>l.length - k.1) (fun k fr Γ=>fr=[strs l,.v (ii k.2),.any,.any,.any,.v (ii (k.1:Nat)),.any,.any,.any,.any,.any,.any,.any,.any,.any,.any,.any,.any,.any,.any,.any,.any,.any,.any,.any,.any,.any,.any]∧Γ=[]∧k.1≤l.length∧k.2=(left:Int) - ((l.length+sumL (fun x:Str=>x.length) (l.take k.1):Nat):Int)∧0≤k.2) (0,(left:Int) - ((l.map (fun s=>[GV.v (sv s)])).length:Int)) ?_ ?_
 ·exact ⟨_,_,Wk.frm w_wkf,rfl,rfl,Nat.zero_le _,by rw [hm];simp [sumL],by rw [hm];simp only;omega⟩
 rintro ⟨k,z⟩ _ _ ⟨rfl,rfl,hk,hz,h0z⟩
 simp only at hk hz h0z
 have hz2:z≤1048576:=by omega
 by_cases hlt:k < l.length
 ·have hx:l[k]?=some l[k]:=by simp [hlt]
  have hr:(l.map (fun s=>[GV.v (sv s)]))[k]?=some ([GV.v (sv l[k])]):=by rw [List.getElem?_map,hx];rfl
  have hd2:decide ((k:Int) < ((l.map (fun s=>[GV.v (sv s)])).length:Int))=true:=by rw [hm];simpa using hlt
  have htk:=sumL_snoc (w:=fun x:Str=>x.length) hx
  have hle:=sumL_take (fun x:Str=>x.length) l (k+1)
  have hex:=he _ (List.mem_of_getElem? hx)
  generalize l[k]=x at *
  by_cases h1:z < ((x.length:Nat):Int)
  ·have hd3:decide (z - ((x.length:Nat):Int) < 0)=true:=by simpa using by omega
   rw [szR_no (by omega)]
   refine w_grun ?_
   refine w_gret ?_
   exact ⟨rfl,rfl⟩
  ·have hd3:decide (z - ((x.length:Nat):Int) < 0)=false:=by simpa using by omega
   refine w_grun ?_
   exact ⟨(k+1,z - ((x.length:Nat):Int)),⟨_,_,Wk.frm w_wkf,rfl,rfl,hlt,by simp only;omega,by simp only;omega⟩,by simp only;omega⟩
 ·have hd2:decide ((k:Int) < ((l.map (fun s=>[GV.v (sv s)])).length:Int))=false:=by rw [hm];simpa using hlt
  have hke:k=l.length:=by omega
  subst hke
  rw [List.take_length] at hz
  rw [szR_ok (by omega),show ((left - (l.length+sumL (fun x:Str=>x.length) l):Nat):Int)=z by omega]
  refine w_grun ?_
  refine w_gexit ?_
  refine w_grun ?_
  refine w_gret ?_
  exact ⟨rfl,rfl⟩
theorem szArray_g (x:Ar) (left:Nat) (hs:x.name.length≤9223372036854775807) (hleft:left≤1048576):GF Tryz.prog 96 [.agg (encAr x),.v (ii (left:Nat))] [] (.v (ii (szR (x.name.length) left))) []:=by
 by_cases h0:left < x.name.length
 ·have hd:decide ((left:Int) - ((x.name.length:Nat):Int) < 0)=true:=by simpa using by omega
  rw [szR_no (by omega)]
  refine GC.enter Tryz.func96 Tryz.ntmps96 rfl (by simp only [gframe,grep,Nat.reduceSub];rfl) ?_
  refine w_grun ?_
  refine w_gret ?_
  exact ⟨rfl,rfl⟩
 have hd:decide ((left:Int) - ((x.name.length:Nat):Int) < 0)=false:=by simpa using by omega
 rw [szR_ok (by omega),show ((left - (x.name.length):Nat):Int)=(left:Int) - ((x.name.length:Nat):Int) by omega]
 refine GC.enter Tryz.func96 Tryz.ntmps96 rfl (by simp only [gframe,grep,Nat.reduceSub];rfl) ?_
 refine w_grun ?_
 refine w_gret ?_
 exact ⟨rfl,rfl⟩
theorem szArrayS_g (l:List Ar) (left:Nat) (hl:l.length≤9223372036854775807) (he:∀ x∈l,x.name.length≤9223372036854775807) (hleft:left≤1048576):GF Tryz.prog 45 [.sl 2 (l.map encAr),.v (ii (left:Nat))] [] (.v (ii (szR (sumL (fun a:Ar=>a.name.length+1) l) left))) []:=by
 have hm:(l.map encAr).length=l.length:=by simp
 have ht:sumL (fun a:Ar=>a.name.length+1) l=l.length+sumL (fun x:Ar=>x.name.length) l:=sumL_succ _ l
 by_cases h0:left < l.length
 ·have hd:decide ((left:Int) - ((l.map encAr).length:Int) < 0)=true:=by rw [hm];simpa using by omega
  rw [szR_no (by omega)]
  refine GC.enter Tryz.func45 Tryz.ntmps45 rfl (by simp only [gframe,grep,Nat.reduceSub];rfl) ?_
  refine w_grun ?_
  refine w_gret ?_
  exact ⟨rfl,rfl⟩
 have hd:decide ((left:Int) - ((l.map encAr).length:Int) < 0)=false:=by rw [hm];simpa using by omega
 rw [ht]
 refine GC.enter Tryz.func45 Tryz.ntmps45 rfl (by simp only [gframe,grep,Nat.reduceSub];rfl) ?_
 refine w_grun ?_
 refine GW.loop (fun k:Nat × Int=>l.length - k.1) (fun k fr Γ=>fr=[.sl 2 (l.map encAr),.v (ii k.2),.any,.any,.any,.v (ii (k.1:Nat)),.any,.any,.any,.any,.any,.any,.any,.any,.any,.any,.any,.any,.any,.any,.any,.any,.any,.any,.any,.any,.any]∧Γ=[]∧k.1≤l.length∧k.2=(left:Int) - ((l.length+sumL (fun x:Ar=>x.name.length) (l.take k.1):Nat):Int)∧0≤k.2) (0,(left:Int) - ((l.map encAr).length:Int)) ?_ ?_
 ·exact ⟨_,_,Wk.frm w_wkf,rfl,rfl,Nat.zero_le _,by rw [hm];simp [sumL],by rw [hm];simp only;omega⟩
 rintro ⟨k,z⟩ _ _ ⟨rfl,rfl,hk,hz,h0z⟩
 simp only at hk hz h0z
 have hz2:z≤1048576:=by omega
 by_cases hlt:k < l.length
 ·have hx:l[k]?=some l[k]:=by simp [hlt]
  have hr:(l.map encAr)[k]?=some (encAr l[k]):=by rw [List.getElem?_map,hx];rfl
  have hd2:decide ((k:Int) < ((l.map encAr).length:Int))=true:=by rw [hm];simpa using hlt
  have htk:=sumL_snoc (w:=fun x:Ar=>x.name.length) hx
  have hle:=sumL_take (fun x:Ar=>x.name.length) l (k+1)
  have hex:=he _ (List.mem_of_getElem? hx)
  generalize l[k]=x at *
  obtain ⟨y,rfl⟩:∃ y:Nat,z=(y:Int):=⟨z.toNat,by omega⟩
  have hc:=szArray_g x y (by omega) (by omega)
  by_cases h1:y < x.name.length
  ·rw [szR_no h1] at hc
   rw [szR_no (by omega)]
   refine w_grun ?_
   refine w_gcall [] (hc) ?_
   refine w_grun ?_
   refine w_gret ?_
   exact ⟨rfl,rfl⟩
  ·rw [szR_ok (by omega)] at hc
   have hd3:decide (((y - (x.name.length):Nat):Int) < 0)=false:=by simp
   refine w_grun ?_
   refine w_gcall [] (hc) ?_
   refine w_grun ?_
   exact ⟨(k+1,((y - (x.name.length):Nat):Int)),⟨_,_,Wk.frm w_wkf,rfl,rfl,hlt,by simp only;omega,by simp only;omega⟩,by simp only;omega⟩
 ·have hd2:decide ((k:Int) < ((l.map encAr).length:Int))=false:=by rw [hm];simpa using hlt
  have hke:k=l.length:=by omega
  subst hke
  rw [List.take_length] at hz
  rw [szR_ok (by omega),show ((left - (l.length+sumL (fun x:Ar=>x.name.length) l):Nat):Int)=z by omega]
  refine w_grun ?_
  refine w_gexit ?_
  refine w_grun ?_
  refine w_gret ?_
  exact ⟨rfl,rfl⟩
theorem szFn_g (x:Go.Sp.Fn) (left:Nat) (hs:x.name.length≤9223372036854775807) (hp:x.params.length≤9223372036854775807) (hq:∀ s∈x.params,s.length≤9223372036854775807) (hleft:left≤1048576):GF Tryz.prog 97 [.agg (encFn x),.v (ii (left:Nat))] [] (.v (ii (szR (x.name.length+wS x.params) left))) []:=by
 by_cases h0:left < x.name.length
 ·have hd:decide ((left:Int) - ((x.name.length:Nat):Int) < 0)=true:=by simpa using by omega
  rw [szR_no (by omega)]
  refine GC.enter Tryz.func97 Tryz.ntmps97 rfl (by simp only [gframe,grep,Nat.reduceSub];rfl) ?_
  refine w_grun ?_
  refine w_gret ?_
  exact ⟨rfl,rfl⟩
 have hd:decide ((left:Int) - ((x.name.length:Nat):Int) < 0)=false:=by simpa using by omega
 have hc:=szStringS_g x.params (left - x.name.length) hp hq (by omega)
 rw [show ((left - x.name.length:Nat):Int)=(left:Int) - ((x.name.length:Nat):Int) by omega] at hc
 by_cases h1:left - x.name.length < wS x.params
 ·rw [szR_no (by omega)] at hc ⊢
  refine GC.enter Tryz.func97 Tryz.ntmps97 rfl (by simp only [gframe,grep,Nat.reduceSub];rfl) ?_
  refine w_grun ?_
  refine w_gcall [] (hc) ?_
  refine w_grun ?_
  refine w_gret ?_
  exact ⟨rfl,rfl⟩
 ·rw [szR_ok (by omega)] at hc ⊢
  rw [show left - x.name.length - wS x.params=left - (x.name.length+wS x.params) by omega] at hc
  have hd2:decide (((left - (x.name.length+wS x.params):Nat):Int) < 0)=false:=by simp
  refine GC.enter Tryz.func97 Tryz.ntmps97 rfl (by simp only [gframe,grep,Nat.reduceSub];rfl) ?_
  refine w_grun ?_
  refine w_gcall [] (hc) ?_
  refine w_grun ?_
  refine w_gret ?_
  exact ⟨rfl,rfl⟩
theorem szFnS_g (l:List Go.Sp.Fn) (left:Nat) (hl:l.length≤9223372036854775807) (he:∀ x∈l,x.name.length≤9223372036854775807∧x.params.length≤9223372036854775807∧∀ s∈x.params,s.length≤9223372036854775807) (hleft:left≤1048576):GF Tryz.prog 46 [.sl 3 (l.map encFn),.v (ii (left:Nat))] [] (.v (ii (szR (sumL (fun f:Go.Sp.Fn=>f.name.length+wS f.params+1) l) left))) []:=by
 have hm:(l.map encFn).length=l.length:=by simp
 have ht:sumL (fun f:Go.Sp.Fn=>f.name.length+wS f.params+1) l=l.length+sumL (fun x:Go.Sp.Fn=>x.name.length+wS x.params) l:=sumL_succ _ l
 by_cases h0:left < l.length
 ·have hd:decide ((left:Int) - ((l.map encFn).length:Int) < 0)=true:=by rw [hm];simpa using by omega
  rw [szR_no (by omega)]
  refine GC.enter Tryz.func46 Tryz.ntmps46 rfl (by simp only [gframe,grep,Nat.reduceSub];rfl) ?_
  refine w_grun ?_
  refine w_gret ?_
  exact ⟨rfl,rfl⟩
 have hd:decide ((left:Int) - ((l.map encFn).length:Int) < 0)=false:=by rw [hm];simpa using by omega
 rw [ht]
 refine GC.enter Tryz.func46 Tryz.ntmps46 rfl (by simp only [gframe,grep,Nat.reduceSub];rfl) ?_
 refine w_grun ?_
 refine GW.loop (fun k:Nat × Int=>l.length - k.1) (fun k fr Γ=>fr=[.sl 3 (l.map encFn),.v (ii k.2),.any,.any,.any,.v (ii (k.1:Nat)),.any,.any,.any,.any,.any,.any,.any,.any,.any,.any,.any,.any,.any,.any,.any,.any,.any,.any,.any,.any,.any]∧Γ=[]∧k.1≤l.length∧k.2=(left:Int) - ((l.length+sumL (fun x:Go.Sp.Fn=>x.name.length+wS x.params) (l.take k.1):Nat):Int)∧0≤k.2) (0,(left:Int) - ((l.map encFn).length:Int)) ?_ ?_
 ·exact ⟨_,_,Wk.frm w_wkf,rfl,rfl,Nat.zero_le _,by rw [hm];simp [sumL],by rw [hm];simp only;omega⟩
 rintro ⟨k,z⟩ _ _ ⟨rfl,rfl,hk,hz,h0z⟩
 simp only at hk hz h0z
 have hz2:z≤1048576:=by omega
 by_cases hlt:k < l.length
 ·have hx:l[k]?=some l[k]:=by simp [hlt]
  have hr:(l.map encFn)[k]?=some (encFn l[k]):=by rw [List.getElem?_map,hx];rfl
  have hd2:decide ((k:Int) < ((l.map encFn).length:Int))=true:=by rw [hm];simpa using hlt
  have htk:=sumL_snoc (w:=fun x:Go.Sp.Fn=>x.name.length+wS x.params) hx
  have hle:=sumL_take (fun x:Go.Sp.Fn=>x.name.length+wS x.params) l (k+1)
  have hex:=he _ (List.mem_of_getElem? hx)
  generalize l[k]=x at *
  obtain ⟨y,rfl⟩:∃ y:Nat,z=(y:Int):=⟨z.toNat,by omega⟩
  have hc:=szFn_g x y hex.1 hex.2.1 hex.2.2 (by omega)
  by_cases h1:y < x.name.length+wS x.params
  ·rw [szR_no h1] at hc
   rw [szR_no (by omega)]
   refine w_grun ?_
   refine w_gcall [] (hc) ?_
   refine w_grun ?_
   refine w_gret ?_
   exact ⟨rfl,rfl⟩
  ·rw [szR_ok (by omega)] at hc
   have hd3:decide (((y - (x.name.length+wS x.params):Nat):Int) < 0)=false:=by simp
   refine w_grun ?_
   refine w_gcall [] (hc) ?_
   refine w_grun ?_
   exact ⟨(k+1,((y - (x.name.length+wS x.params):Nat):Int)),⟨_,_,Wk.frm w_wkf,rfl,rfl,hlt,by simp only;omega,by simp only;omega⟩,by simp only;omega⟩
 ·have hd2:decide ((k:Int) < ((l.map encFn).length:Int))=false:=by rw [hm];simpa using hlt
  have hke:k=l.length:=by omega
  subst hke
  rw [List.take_length] at hz
  rw [szR_ok (by omega),show ((left - (l.length+sumL (fun x:Go.Sp.Fn=>x.name.length+wS x.params) l):Nat):Int)=z by omega]
  refine w_grun ?_
  refine w_gexit ?_
  refine w_grun ?_
  refine w_gret ?_
  exact ⟨rfl,rfl⟩
theorem szNode_g (x:Nd) (left:Nat) (hs:x.s.length≤9223372036854775807) (hp:x.kids.length≤9223372036854775807) (hleft:left≤1048576):GF Tryz.prog 98 [.agg (encNode x),.v (ii (left:Nat))] [] (.v (ii (szR (x.s.length+x.kids.length) left))) []:=by
 by_cases h0:left < x.s.length
 ·have hd:decide ((left:Int) - ((x.s.length:Nat):Int) < 0)=true:=by simpa using by omega
  rw [szR_no (by omega)]
  refine GC.enter Tryz.func98 Tryz.ntmps98 rfl (by simp only [gframe,grep,Nat.reduceSub];rfl) ?_
  refine w_grun ?_
  refine w_gret ?_
  exact ⟨rfl,rfl⟩
 have hd:decide ((left:Int) - ((x.s.length:Nat):Int) < 0)=false:=by simpa using by omega
 have hc:=szIntS_g x.kids (left - x.s.length) hp (by omega)
 rw [show ((left - x.s.length:Nat):Int)=(left:Int) - ((x.s.length:Nat):Int) by omega] at hc
 by_cases h1:left - x.s.length < x.kids.length
 ·rw [szR_no (by omega)] at hc ⊢
  refine GC.enter Tryz.func98 Tryz.ntmps98 rfl (by simp only [gframe,grep,Nat.reduceSub];rfl) ?_
  refine w_grun ?_
  refine w_gcall [] (hc) ?_
  refine w_grun ?_
  refine w_gret ?_
  exact ⟨rfl,rfl⟩
 ·rw [szR_ok (by omega)] at hc ⊢
  rw [show left - x.s.length - x.kids.length=left - (x.s.length+x.kids.length) by omega] at hc
  have hd2:decide (((left - (x.s.length+x.kids.length):Nat):Int) < 0)=false:=by simp
  refine GC.enter Tryz.func98 Tryz.ntmps98 rfl (by simp only [gframe,grep,Nat.reduceSub];rfl) ?_
  refine w_grun ?_
  refine w_gcall [] (hc) ?_
  refine w_grun ?_
  refine w_gret ?_
  exact ⟨rfl,rfl⟩
theorem szNodeS_g (l:List Nd) (left:Nat) (hl:l.length≤9223372036854775807) (he:∀ x∈l,x.s.length≤9223372036854775807∧x.kids.length≤9223372036854775807) (hleft:left≤1048576):GF Tryz.prog 47 [.sl 5 (l.map encNode),.v (ii (left:Nat))] [] (.v (ii (szR (sumL (fun n:Nd=>n.s.length+n.kids.length+1) l) left))) []:=by
 have hm:(l.map encNode).length=l.length:=by simp
 have ht:sumL (fun n:Nd=>n.s.length+n.kids.length+1) l=l.length+sumL (fun x:Nd=>x.s.length+x.kids.length) l:=sumL_succ _ l
 by_cases h0:left < l.length
 ·have hd:decide ((left:Int) - ((l.map encNode).length:Int) < 0)=true:=by rw [hm];simpa using by omega
  rw [szR_no (by omega)]
  refine GC.enter Tryz.func47 Tryz.ntmps47 rfl (by simp only [gframe,grep,Nat.reduceSub];rfl) ?_
  refine w_grun ?_
  refine w_gret ?_
  exact ⟨rfl,rfl⟩
 have hd:decide ((left:Int) - ((l.map encNode).length:Int) < 0)=false:=by rw [hm];simpa using by omega
 rw [ht]
 refine GC.enter Tryz.func47 Tryz.ntmps47 rfl (by simp only [gframe,grep,Nat.reduceSub];rfl) ?_
 refine w_grun ?_
 refine GW.loop (fun k:Nat × Int=>l.length - k.1) (fun k fr Γ=>fr=[.sl 5 (l.map encNode),.v (ii k.2),.any,.any,.any,.v (ii (k.1:Nat)),.any,.any,.any,.any,.any,.any,.any,.any,.any,.any,.any,.any,.any,.any,.any,.any,.any,.any,.any,.any,.any]∧Γ=[]∧k.1≤l.length∧k.2=(left:Int) - ((l.length+sumL (fun x:Nd=>x.s.length+x.kids.length) (l.take k.1):Nat):Int)∧0≤k.2) (0,(left:Int) - ((l.map encNode).length:Int)) ?_ ?_
 ·exact ⟨_,_,Wk.frm w_wkf,rfl,rfl,Nat.zero_le _,by rw [hm];simp [sumL],by rw [hm];simp only;omega⟩
 rintro ⟨k,z⟩ _ _ ⟨rfl,rfl,hk,hz,h0z⟩
 simp only at hk hz h0z
 have hz2:z≤1048576:=by omega
 by_cases hlt:k < l.length
 ·have hx:l[k]?=some l[k]:=by simp [hlt]
  have hr:(l.map encNode)[k]?=some (encNode l[k]):=by rw [List.getElem?_map,hx];rfl
  have hd2:decide ((k:Int) < ((l.map encNode).length:Int))=true:=by rw [hm];simpa using hlt
  have htk:=sumL_snoc (w:=fun x:Nd=>x.s.length+x.kids.length) hx
  have hle:=sumL_take (fun x:Nd=>x.s.length+x.kids.length) l (k+1)
  have hex:=he _ (List.mem_of_getElem? hx)
  generalize l[k]=x at *
  obtain ⟨y,rfl⟩:∃ y:Nat,z=(y:Int):=⟨z.toNat,by omega⟩
  have hc:=szNode_g x y hex.1 hex.2 (by omega)
  by_cases h1:y < x.s.length+x.kids.length
  ·rw [szR_no h1] at hc
   rw [szR_no (by omega)]
   refine w_grun ?_
   refine w_gcall [] (hc) ?_
   refine w_grun ?_
   refine w_gret ?_
   exact ⟨rfl,rfl⟩
  ·rw [szR_ok (by omega)] at hc
   have hd3:decide (((y - (x.s.length+x.kids.length):Nat):Int) < 0)=false:=by simp
   refine w_grun ?_
   refine w_gcall [] (hc) ?_
   refine w_grun ?_
   exact ⟨(k+1,((y - (x.s.length+x.kids.length):Nat):Int)),⟨_,_,Wk.frm w_wkf,rfl,rfl,hlt,by simp only;omega,by simp only;omega⟩,by simp only;omega⟩
 ·have hd2:decide ((k:Int) < ((l.map encNode).length:Int))=false:=by rw [hm];simpa using hlt
  have hke:k=l.length:=by omega
  subst hke
  rw [List.take_length] at hz
  rw [szR_ok (by omega),show ((left - (l.length+sumL (fun x:Nd=>x.s.length+x.kids.length) l):Nat):Int)=z by omega]
  refine w_grun ?_
  refine w_gexit ?_
  refine w_grun ?_
  refine w_gret ?_
  exact ⟨rfl,rfl⟩
theorem szSource_g (p:Src) (hb:Go.Im.Small p 9223372036854775807):GF Tryz.prog 13 [.agg (encSrc p),.v (ii 1048576)] [] (.v (ii (szR (wSrc p) 1048576))) []:=by
 obtain ⟨⟨a1,a2⟩,⟨b1,b2⟩,⟨c1,c2⟩,⟨d1,d2⟩⟩:=hb
 have h1:=szStringS_g p.globals 1048576 a1 a2 (Nat.le_refl _)
 unfold wSrc
 generalize wS p.globals=w1 at *
 by_cases q1:1048576 < w1
 ·rw [szR_no q1] at h1
  rw [szR_no (by omega)]
  refine GC.enter Tryz.func13 Tryz.ntmps13 rfl (by simp only [gframe,grep,Nat.reduceSub];rfl) ?_
  refine w_grun ?_
  refine w_gcall [] (h1) ?_
  refine w_grun ?_
  refine w_gret ?_
  exact ⟨rfl,rfl⟩
 rw [szR_ok (by omega)] at h1
 have e1:decide (((1048576 - w1:Nat):Int) < 0)=false:=by simp
 have h2:=szArrayS_g p.arrays (1048576 - w1) b1 b2 (by omega)
 generalize sumL (fun a:Ar=>a.name.length+1) p.arrays=w2 at *
 by_cases q2:1048576 - w1 < w2
 ·rw [szR_no q2] at h2
  rw [szR_no (by omega)]
  refine GC.enter Tryz.func13 Tryz.ntmps13 rfl (by simp only [gframe,grep,Nat.reduceSub];rfl) ?_
  refine w_grun ?_
  refine w_gcall [] (h1) ?_
  refine w_grun ?_
  refine w_gcall [] (h2) ?_
  refine w_grun ?_
  refine w_gret ?_
  exact ⟨rfl,rfl⟩
 rw [szR_ok (by omega)] at h2
 have e2:decide (((1048576 - w1 - w2:Nat):Int) < 0)=false:=by simp
 have h3:=szFnS_g p.fns (1048576 - w1 - w2) c1 c2 (by omega)
 generalize sumL (fun f:Go.Sp.Fn=>f.name.length+wS f.params+1) p.fns=w3 at *
 by_cases q3:1048576 - w1 - w2 < w3
 ·rw [szR_no q3] at h3
  rw [szR_no (by omega)]
  refine GC.enter Tryz.func13 Tryz.ntmps13 rfl (by simp only [gframe,grep,Nat.reduceSub];rfl) ?_
  refine w_grun ?_
  refine w_gcall [] (h1) ?_
  refine w_grun ?_
  refine w_gcall [] (h2) ?_
  refine w_grun ?_
  refine w_gcall [] (h3) ?_
  refine w_grun ?_
  refine w_gret ?_
  exact ⟨rfl,rfl⟩
 rw [szR_ok (by omega)] at h3
 have e3:decide (((1048576 - w1 - w2 - w3:Nat):Int) < 0)=false:=by simp
 have h4:=szNodeS_g p.nodes (1048576 - w1 - w2 - w3) d1 d2 (by omega)
 generalize sumL (fun n:Nd=>n.s.length+n.kids.length+1) p.nodes=w4 at *
 by_cases q4:1048576 - w1 - w2 - w3 < w4
 ·rw [szR_no q4] at h4
  rw [szR_no (by omega)]
  refine GC.enter Tryz.func13 Tryz.ntmps13 rfl (by simp only [gframe,grep,Nat.reduceSub];rfl) ?_
  refine w_grun ?_
  refine w_gcall [] (h1) ?_
  refine w_grun ?_
  refine w_gcall [] (h2) ?_
  refine w_grun ?_
  refine w_gcall [] (h3) ?_
  refine w_grun ?_
  refine w_gcall [] (h4) ?_
  refine w_grun ?_
  refine w_gret ?_
  exact ⟨rfl,rfl⟩
 rw [szR_ok (by omega)] at h4
 have e4:decide (((1048576 - w1 - w2 - w3 - w4:Nat):Int) < 0)=false:=by simp
 rw [szR_ok (by omega),show 1048576 - (w1+w2+w3+w4)=1048576 - w1 - w2 - w3 - w4 by omega]
 refine GC.enter Tryz.func13 Tryz.ntmps13 rfl (by simp only [gframe,grep,Nat.reduceSub];rfl) ?_
 refine w_grun ?_
 refine w_gcall [] (h1) ?_
 refine w_grun ?_
 refine w_gcall [] (h2) ?_
 refine w_grun ?_
 refine w_gcall [] (h3) ?_
 refine w_grun ?_
 refine w_gcall [] (h4) ?_
 refine w_grun ?_
 refine w_gret ?_
 exact ⟨rfl,rfl⟩
end Go.Xg
namespace Go.Xg
open Go.RowKit Go.Xw Go.Proofs
open Go.Xp (Nd Ar)
open Go.Sp (Src)
open Go.Im (wS wSrc sumL sumL_take szR szR_ok szR_no sumL_succ sumL_snoc sumL_mem)
attribute [local irreducible] GW GL GO YG GC GA gthn ginb
theorem eqIntS_g (l:List Int) (hl:l.length≤1048576):GF Tryz.prog 147 [ints l,ints l] [] (.v (.bool true)) []:=by
 have hm:(l.map (fun i=>[GV.v (ii i)])).length=l.length:=by simp
 have hd:(((l.map (fun i=>[GV.v (ii i)])).length:Int) != ((l.map (fun i=>[GV.v (ii i)])).length:Int))=false:=by simp
 refine GC.enter Tryz.func147 Tryz.ntmps147 rfl (by simp only [gframe,grep,Nat.reduceSub];rfl) ?_
 refine w_grun ?_
 refine GW.loop (fun k:Nat=>l.length - k) (fun k fr Γ=>fr=[ints l,ints l,.any,.any,.any,.v (ii (k:Nat)),.any,.any,.any,.any,.any,.any,.any,.any,.any,.any,.any,.any,.any,.any,.any,.any,.any,.any,.any,.any]∧Γ=[]∧k≤l.length) 0 ?_ ?_
 ·exact ⟨_,_,Wk.frm w_wkf,rfl,rfl,Nat.zero_le _⟩
 rintro k _ _ ⟨rfl,rfl,hk⟩
 by_cases hlt:k < l.length
 ·have hx:l[k]?=some l[k]:=by simp [hlt]
  have hr:(l.map (fun i=>[GV.v (ii i)]))[k]?=some ([GV.v (ii l[k])]):=by rw [List.getElem?_map,hx];rfl
  have hd2:decide ((k:Int) < ((l.map (fun i=>[GV.v (ii i)])).length:Int))=true:=by rw [hm];simpa using hlt
  generalize l[k]=x at *
  have hs:(x != x)=false:=by simp
  refine w_grun ?_
  refine GW.draw (.q 0 (.q 1 (.q 2 (.q 3 (.q 4 (.q 5 (.q 6 (.q 7 (.q 8 .nil))))))))) (by kernel_rfl) (by kernel_rfl) ?_
  refine w_gorun ?_
  refine w_grun ?_
  exact ⟨k+1,⟨_,_,Wk.frm w_wkf,rfl,rfl,hlt⟩,by show l.length - (k+1) < l.length - k;omega⟩
 ·have hd2:decide ((k:Int) < ((l.map (fun i=>[GV.v (ii i)])).length:Int))=false:=by rw [hm];simpa using hlt
  refine w_grun ?_
  refine w_gexit ?_
  refine w_grun ?_
  refine w_gret ?_
  exact ⟨rfl,rfl⟩
theorem eqStringS_g (l:List Str) (hl:l.length≤1048576):GF Tryz.prog 18 [strs l,strs l] [] (.v (.bool true)) []:=by
 have hm:(l.map (fun s=>[GV.v (sv s)])).length=l.length:=by simp
 have hd:(((l.map (fun s=>[GV.v (sv s)])).length:Int) != ((l.map (fun s=>[GV.v (sv s)])).length:Int))=false:=by simp
 refine GC.enter Tryz.func18 Tryz.ntmps18 rfl (by simp only [gframe,grep,Nat.reduceSub];rfl) ?_
 refine w_grun ?_
 refine GW.loop (fun k:Nat=>l.length - k) (fun k fr Γ=>fr=[strs l,strs l,.any,.any,.any,.v (ii (k:Nat)),.any,.any,.any,.any,.any,.any,.any,.any,.any,.any,.any,.any,.any,.any,.any,.any,.any,.any,.any,.any]∧Γ=[]∧k≤l.length) 0 ?_ ?_
 ·exact ⟨_,_,Wk.frm w_wkf,rfl,rfl,Nat.zero_le _⟩
 rintro k _ _ ⟨rfl,rfl,hk⟩
 by_cases hlt:k < l.length
 ·have hx:l[k]?=some l[k]:=by simp [hlt]
  have hr:(l.map (fun s=>[GV.v (sv s)]))[k]?=some ([GV.v (sv l[k])]):=by rw [List.getElem?_map,hx];rfl
  have hd2:decide ((k:Int) < ((l.map (fun s=>[GV.v (sv s)])).length:Int))=true:=by rw [hm];simpa using hlt
  generalize l[k]=x at *
  have hs:(!(x==x))=false:=by simp
  refine w_grun ?_
  refine GW.draw (.q 0 (.q 1 (.q 2 (.q 3 (.q 4 (.q 5 (.q 6 (.q 7 (.q 8 .nil))))))))) (by kernel_rfl) (by kernel_rfl) ?_
  refine w_gorun ?_
  refine w_grun ?_
  exact ⟨k+1,⟨_,_,Wk.frm w_wkf,rfl,rfl,hlt⟩,by show l.length - (k+1) < l.length - k;omega⟩
 ·have hd2:decide ((k:Int) < ((l.map (fun s=>[GV.v (sv s)])).length:Int))=false:=by rw [hm];simpa using hlt
  refine w_grun ?_
  refine w_gexit ?_
  refine w_grun ?_
  refine w_gret ?_
  exact ⟨rfl,rfl⟩
theorem eqArray_g (x:Ar):GF Tryz.prog 102 [.agg (encAr x),.agg (encAr x)] [] (.v (.bool true)) []:=by
 have e0:(!(x.name==x.name))=false:=by simp
 have e1:(x.size != x.size)=false:=by simp
 refine GC.enter Tryz.func102 Tryz.ntmps102 rfl (by simp only [gframe,grep,Nat.reduceSub];rfl) ?_
 refine w_grun ?_
 refine w_gret ?_
 exact ⟨rfl,rfl⟩
theorem eqArrayS_g (l:List Ar) (hl:l.length≤1048576):GF Tryz.prog 52 [.sl 2 (l.map encAr),.sl 2 (l.map encAr)] [] (.v (.bool true)) []:=by
 have hm:(l.map encAr).length=l.length:=by simp
 have hd:(((l.map encAr).length:Int) != ((l.map encAr).length:Int))=false:=by simp
 refine GC.enter Tryz.func52 Tryz.ntmps52 rfl (by simp only [gframe,grep,Nat.reduceSub];rfl) ?_
 refine w_grun ?_
 refine GW.loop (fun k:Nat=>l.length - k) (fun k fr Γ=>fr=[.sl 2 (l.map encAr),.sl 2 (l.map encAr),.any,.any,.any,.v (ii (k:Nat)),.any,.any,.any,.any,.any,.any,.any,.any,.any,.any,.any,.any,.any,.any,.any,.any,.any,.any,.any,.any,.any]∧Γ=[]∧k≤l.length) 0 ?_ ?_
 ·exact ⟨_,_,Wk.frm w_wkf,rfl,rfl,Nat.zero_le _⟩
 rintro k _ _ ⟨rfl,rfl,hk⟩
 by_cases hlt:k < l.length
 ·have hx:l[k]?=some l[k]:=by simp [hlt]
  have hr:(l.map encAr)[k]?=some (encAr l[k]):=by rw [List.getElem?_map,hx];rfl
  have hd2:decide ((k:Int) < ((l.map encAr).length:Int))=true:=by rw [hm];simpa using hlt
  have hc:=eqArray_g l[k]
  generalize l[k]=x at *
  refine w_grun ?_
  refine GW.draw (.q 0 (.q 1 (.q 2 (.q 3 (.q 4 (.q 5 (.q 6 (.q 7 (.a 8 (.q 9 .nil)))))))))) (by kernel_rfl) (by kernel_rfl) ?_
  refine w_gorun ?_
  refine w_gocall [] (hc) ?_
  refine w_gorun ?_
  refine w_grun ?_
  exact ⟨k+1,⟨_,_,Wk.frm w_wkf,rfl,rfl,hlt⟩,by show l.length - (k+1) < l.length - k;omega⟩
 ·have hd2:decide ((k:Int) < ((l.map encAr).length:Int))=false:=by rw [hm];simpa using hlt
  refine w_grun ?_
  refine w_gexit ?_
  refine w_grun ?_
  refine w_gret ?_
  exact ⟨rfl,rfl⟩
theorem eqFn_g (x:Go.Sp.Fn) (hp:x.params.length≤1048576):GF Tryz.prog 103 [.agg (encFn x),.agg (encFn x)] [] (.v (.bool true)) []:=by
 have e0:(!(x.name==x.name))=false:=by simp
 have e1:(x.body != x.body)=false:=by simp
 have h0:=eqStringS_g x.params hp
 refine GC.enter Tryz.func103 Tryz.ntmps103 rfl (by simp only [gframe,grep,Nat.reduceSub];rfl) ?_
 refine w_grun ?_
 refine w_gcall [] (h0) ?_
 refine w_grun ?_
 refine w_gret ?_
 exact ⟨rfl,rfl⟩
theorem eqFnS_g (l:List Go.Sp.Fn) (hl:l.length≤1048576) (he:∀ x∈l,x.params.length≤1048576):GF Tryz.prog 53 [.sl 3 (l.map encFn),.sl 3 (l.map encFn)] [] (.v (.bool true)) []:=by
 have hm:(l.map encFn).length=l.length:=by simp
 have hd:(((l.map encFn).length:Int) != ((l.map encFn).length:Int))=false:=by simp
 refine GC.enter Tryz.func53 Tryz.ntmps53 rfl (by simp only [gframe,grep,Nat.reduceSub];rfl) ?_
 refine w_grun ?_
 refine GW.loop (fun k:Nat=>l.length - k) (fun k fr Γ=>fr=[.sl 3 (l.map encFn),.sl 3 (l.map encFn),.any,.any,.any,.v (ii (k:Nat)),.any,.any,.any,.any,.any,.any,.any,.any,.any,.any,.any,.any,.any,.any,.any,.any,.any,.any,.any,.any,.any]∧Γ=[]∧k≤l.length) 0 ?_ ?_
 ·exact ⟨_,_,Wk.frm w_wkf,rfl,rfl,Nat.zero_le _⟩
 rintro k _ _ ⟨rfl,rfl,hk⟩
 by_cases hlt:k < l.length
 ·have hx:l[k]?=some l[k]:=by simp [hlt]
  have hr:(l.map encFn)[k]?=some (encFn l[k]):=by rw [List.getElem?_map,hx];rfl
  have hd2:decide ((k:Int) < ((l.map encFn).length:Int))=true:=by rw [hm];simpa using hlt
  have hex:=he _ (List.mem_of_getElem? hx)
  have hc:=eqFn_g l[k] hex
  generalize l[k]=x at *
  refine w_grun ?_
  refine GW.draw (.q 0 (.q 1 (.q 2 (.q 3 (.q 4 (.q 5 (.q 6 (.q 7 (.a 8 (.q 9 .nil)))))))))) (by kernel_rfl) (by kernel_rfl) ?_
  refine w_gorun ?_
  refine w_gocall [] (hc) ?_
  refine w_gorun ?_
  refine w_grun ?_
  exact ⟨k+1,⟨_,_,Wk.frm w_wkf,rfl,rfl,hlt⟩,by show l.length - (k+1) < l.length - k;omega⟩
 ·have hd2:decide ((k:Int) < ((l.map encFn).length:Int))=false:=by rw [hm];simpa using hlt
  refine w_grun ?_
  refine w_gexit ?_
  refine w_grun ?_
  refine w_gret ?_
  exact ⟨rfl,rfl⟩
theorem eqNode_g (x:Nd) (hp:x.kids.length≤1048576):GF Tryz.prog 104 [.agg (encNode x),.agg (encNode x)] [] (.v (.bool true)) []:=by
 have e0:(x.kind != x.kind)=false:=by simp
 have e1:(x.at_ != x.at_)=false:=by simp
 have e2:(x.n != x.n)=false:=by simp
 have e3:(!(x.s==x.s))=false:=by simp
 have h0:=eqIntS_g x.kids hp
 refine GC.enter Tryz.func104 Tryz.ntmps104 rfl (by simp only [gframe,grep,Nat.reduceSub];rfl) ?_
 refine w_grun ?_
 refine w_gcall [] (h0) ?_
 refine w_grun ?_
 refine w_gret ?_
 exact ⟨rfl,rfl⟩
theorem eqNodeS_g (l:List Nd) (hl:l.length≤1048576) (he:∀ x∈l,x.kids.length≤1048576):GF Tryz.prog 54 [.sl 5 (l.map encNode),.sl 5 (l.map encNode)] [] (.v (.bool true)) []:=by
 have hm:(l.map encNode).length=l.length:=by simp
 have hd:(((l.map encNode).length:Int) != ((l.map encNode).length:Int))=false:=by simp
 refine GC.enter Tryz.func54 Tryz.ntmps54 rfl (by simp only [gframe,grep,Nat.reduceSub];rfl) ?_
 refine w_grun ?_
 refine GW.loop (fun k:Nat=>l.length - k) (fun k fr Γ=>fr=[.sl 5 (l.map encNode),.sl 5 (l.map encNode),.any,.any,.any,.v (ii (k:Nat)),.any,.any,.any,.any,.any,.any,.any,.any,.any,.any,.any,.any,.any,.any,.any,.any,.any,.any,.any,.any,.any]∧Γ=[]∧k≤l.length) 0 ?_ ?_
 ·exact ⟨_,_,Wk.frm w_wkf,rfl,rfl,Nat.zero_le _⟩
 rintro k _ _ ⟨rfl,rfl,hk⟩
 by_cases hlt:k < l.length
 ·have hx:l[k]?=some l[k]:=by simp [hlt]
  have hr:(l.map encNode)[k]?=some (encNode l[k]):=by rw [List.getElem?_map,hx];rfl
  have hd2:decide ((k:Int) < ((l.map encNode).length:Int))=true:=by rw [hm];simpa using hlt
  have hex:=he _ (List.mem_of_getElem? hx)
  have hc:=eqNode_g l[k] hex
  generalize l[k]=x at *
  refine w_grun ?_
  refine GW.draw (.q 0 (.q 1 (.q 2 (.q 3 (.q 4 (.q 5 (.q 6 (.q 7 (.a 8 (.q 9 .nil)))))))))) (by kernel_rfl) (by kernel_rfl) ?_
  refine w_gorun ?_
  refine w_gocall [] (hc) ?_
  refine w_gorun ?_
  refine w_grun ?_
  exact ⟨k+1,⟨_,_,Wk.frm w_wkf,rfl,rfl,hlt⟩,by show l.length - (k+1) < l.length - k;omega⟩
 ·have hd2:decide ((k:Int) < ((l.map encNode).length:Int))=false:=by rw [hm];simpa using hlt
  refine w_grun ?_
  refine w_gexit ?_
  refine w_grun ?_
  refine w_gret ?_
  exact ⟨rfl,rfl⟩
theorem eqSource_g (x:Src) (hg:x.globals.length≤1048576) (ha:x.arrays.length≤1048576) (hf:x.fns.length≤1048576) (hfp:∀ f∈x.fns,f.params.length≤1048576) (hn:x.nodes.length≤1048576) (hnk:∀ n∈x.nodes,n.kids.length≤1048576):GF Tryz.prog 15 [.agg (encSrc x),.agg (encSrc x)] [] (.v (.bool true)) []:=by
 have h0:=eqStringS_g x.globals hg
 have h1:=eqArrayS_g x.arrays ha
 have h2:=eqFnS_g x.fns hf hfp
 have h3:=eqNodeS_g x.nodes hn hnk
 refine GC.enter Tryz.func15 Tryz.ntmps15 rfl (by simp only [gframe,grep,Nat.reduceSub];rfl) ?_
 refine w_grun ?_
 refine w_gcall [] (h0) ?_
 refine w_grun ?_
 refine w_gcall [] (h1) ?_
 refine w_grun ?_
 refine w_gcall [] (h2) ?_
 refine w_grun ?_
 refine w_gcall [] (h3) ?_
 refine w_grun ?_
 refine w_gret ?_
 exact ⟨rfl,rfl⟩
end Go.Xg
namespace Go.Im
open Go.Xp
def mkT (n:Nat):Str:=109::digs n
theorem digs_lo {n:Nat} (h:n < 10):digs n=[UInt8.ofNat (48+n)]:=by rw [digs,dif_pos h]
theorem digs_hi {n:Nat} (h:¬ n < 10):digs n=digs (n / 10)++[UInt8.ofNat (48+n % 10)]:=by rw [digs,dif_neg h]
end Go.Im
namespace Go.Xg
open Go.RowKit Go.Xw Go.Proofs
open Go.Xp (Nd Ar digs digs_len)
open Go.Sp (Src)
open Go.Im (mkT digs_lo digs_hi)
attribute [local irreducible] GW GL GO YG GC GA gthn ginb
theorem markText_g (n:Nat) (hn:n≤1099511627776):GF Tryz.prog 59 [.v (ii (n:Int))] [] (.v (sv (mkT n))) []:=by
 unfold mkT
 by_cases h0:n=0
 ·subst h0
  rw [digs_lo (by omega)]
  refine GC.enter Tryz.func59 Tryz.ntmps59 rfl (by simp only [gframe,grep,Nat.reduceSub];rfl) ?_
  refine w_grun ?_
  refine w_gret ?_
  exact ⟨rfl,rfl⟩
 have hd0:decide ((n:Int)≤0)=false:=by simpa using by omega
 have hdl:=digs_len n
 refine GC.enter Tryz.func59 Tryz.ntmps59 rfl (by simp only [gframe,grep,Nat.reduceSub];rfl) ?_
 refine w_grun ?_
 refine GW.loop (fun st:Nat × Str=>st.1) (fun st fr Γ=>fr=[.v (ii (st.1:Nat)),.any,.any,.v (sv st.2),.any,.any,.any,.any,.any,.any,.any,.any,.any,.any,.any,.any,.any,.any,.any,.any]∧Γ=[]∧st.1≤n∧st.2.length≤n+1∧(st.1=0→st.2=digs n)∧(st.1 > 0→digs st.1++st.2=digs n)) (n,[]) ?_ ?_
 ·exact ⟨_,_,Wk.frm w_wkf,rfl,rfl,Nat.le_refl _,Nat.zero_le _,fun h=>absurd h h0,fun _=>by simp⟩
 rintro ⟨k,y⟩ _ _ ⟨rfl,rfl,hk,hyl,hz,hp⟩
 simp only at hk hyl hz hp
 by_cases hlt:k > 0
 ·have hd:decide ((0:Int) < (k:Int))=true:=by simpa using hlt
  have hq:=hp hlt
  have hw:=ofNat_row (48+k % 10) (by omega)
  rw [Int.natCast_add] at hw
  have hnext:(k / 10=0→[UInt8.ofNat (48+k % 10)]++y=digs n)∧(k / 10 > 0→digs (k / 10)++([UInt8.ofNat (48+k % 10)]++y)=digs n):=by
   by_cases h10:k < 10
   ·rw [digs_lo h10] at hq
    refine ⟨fun _=>?_,fun h=>by omega⟩
    rw [Nat.mod_eq_of_lt h10];exact hq
   ·rw [digs_hi h10,List.append_assoc] at hq
    exact ⟨fun h=>by omega,fun _=>hq⟩
  have hnl:([UInt8.ofNat (48+k % 10)]++y).length≤n+1:=by
   by_cases h10:k / 10=0
   ·rw [hnext.1 h10];exact hdl
   ·have:=congrArg List.length (hnext.2 (by omega))
    rw [List.length_append] at this;omega
  refine w_grun ?_
  refine w_gmk ?_
  refine w_grun ?_
  exact ⟨(k / 10,[UInt8.ofNat (48+k % 10)]++y),⟨_,_,Wk.frm w_wkf,rfl,rfl,by show k / 10≤n;omega,hnl,hnext.1,hnext.2⟩,by show k / 10 < k;omega⟩
 ·have hd:decide ((0:Int) < (k:Int))=false:=by simpa using hlt
  have hy:=hz (by omega)
  subst hy
  refine w_grun ?_
  refine w_gexit ?_
  refine w_grun ?_
  refine w_gret ?_
  exact ⟨rfl,rfl⟩
def marks (k n:Nat):List (List GV):=(List.range n).map fun i=>[GV.v (sv (mkT (k+i)))]
theorem marks_len (k n:Nat):(marks k n).length=n:=by simp [marks]
theorem marks_succ (k n:Nat):marks k (n+1)=marks k n++[[.v (sv (mkT (k+n)))]]:=by simp [marks,List.range_succ]
theorem marks_at {k n i:Nat} (h:i < n):(marks k n)[i]?=some [.v (sv (mkT (k+i)))]:=by simp [marks,h]
theorem marks_set (k:Nat) (rows:List (List GV)) {i:Nat} (h:i < rows.length):(marks k i++rows.drop i).set i [.v (sv (mkT (k+i)))]=marks k (i+1)++rows.drop (i+1):=by
 rw [List.drop_eq_getElem_cons h,List.set_append_right _ _ (by rw [marks_len];exact Nat.le_refl _),marks_len,Nat.sub_self,List.set_cons_zero,marks_succ,List.append_assoc];rfl
theorem markStringS_g (a:Option Addr) (c n k:Nat) (rows:List (List GV)) (hn:rows.length=n) (hb:k+n≤1099511627776) :
  GF Tryz.prog 20 [.v (.slice a n c),.v (ii (k:Nat))] [.vech 9 1 rows (.slice a n c)] (.v (ii ((k+n:Nat):Int))) [.vech 9 1 (marks k n) (.slice a n c)]:=by
 refine GC.enter Tryz.func20 Tryz.ntmps20 rfl (by simp only [gframe,grep,Nat.reduceSub];rfl) ?_
 refine w_grun ?_
 refine GW.loop (fun i:Nat=>n - i) (fun i fr Γ=>∃ R,fr=[.v (.slice a n c),.v (ii ((k+i:Nat):Int)),.any,.any,.any,.v (ii (i:Nat)),.any,.any,.any,.any,.any,.any,.any,.any,.any,.any,.any,.any,.any,.any]∧Γ=[.vech 9 1 R (.slice a n c)]∧i≤n∧R=marks k i++rows.drop i) 0 ?_ ?_
 ·exact ⟨_,_,Wk.frm w_wkf,_,rfl,rfl,Nat.zero_le _,rfl⟩
 rintro i _ _ ⟨R,rfl,rfl,hi,hR⟩
 have hRn:R.length=n:=by rw [hR,List.length_append,marks_len,List.length_drop];omega
 by_cases hlt:i < n
 ·have hd:decide ((i:Int) < (n:Int))=true:=by simpa using hlt
  have hc:=markText_g (k+i) (by omega)
  have hset:=marks_set k rows (i:=i) (by omega)
  rw [←hR] at hset
  clear hR
  generalize mkT (k+i)=x at *
  refine w_grun ?_
  refine w_gcall [] (hc) ?_
  refine w_grun ?_
  refine w_gsthn ?_
  refine w_grun ?_
  exact ⟨i+1,⟨_,_,Wk.frm w_wkf,_,rfl,rfl,hlt,hset⟩,by show n - (i+1) < n - i;omega⟩
 ·have hd:decide ((i:Int) < (n:Int))=false:=by simpa using hlt
  have hin:i=n:=by omega
  subst hin
  rw [List.drop_of_length_le (by omega),List.append_nil] at hR
  subst hR
  refine w_grun ?_
  refine w_gexit ?_
  refine w_grun ?_
  refine w_gret ?_
  exact ⟨rfl,rfl⟩
theorem heldStringS_g (k n:Nat) (hb:k+n≤1099511627776):GF Tryz.prog 21 [.sl 1 (marks k n),.v (ii (k:Nat))] [] (.v (ii ((k+n:Nat):Int))) []:=by
 have hm:=marks_len k n
 refine GC.enter Tryz.func21 Tryz.ntmps21 rfl (by simp only [gframe,grep,Nat.reduceSub];rfl) ?_
 refine w_grun ?_
 refine GW.loop (fun i:Nat=>n - i) (fun i fr Γ=>fr=[.sl 1 (marks k n),.v (ii ((k+i:Nat):Int)),.any,.any,.any,.v (ii (i:Nat)),.any,.any,.any,.any,.any,.any,.any,.any,.any,.any,.any,.any,.any,.any,.any,.any]∧Γ=[]∧i≤n) 0 ?_ ?_
 ·exact ⟨_,_,Wk.frm w_wkf,rfl,rfl,Nat.zero_le _⟩
 rintro i _ _ ⟨rfl,rfl,hi⟩
 by_cases hlt:i < n
 ·have hd:decide ((i:Int) < ((marks k n).length:Int))=true:=by rw [hm];simpa using hlt
  have hc:=markText_g (k+i) (by omega)
  have hr:=marks_at (k:=k) hlt
  generalize mkT (k+i)=x at *
  have hs:(!(x==x))=false:=by simp
  refine w_grun ?_
  refine GW.draw (.q 0 (.q 1 (.q 2 (.q 3 (.q 4 (.a 5 (.q 6 .nil))))))) (by kernel_rfl) (by kernel_rfl) ?_
  refine w_gorun ?_
  refine w_gocall [] (hc) ?_
  refine w_gorun ?_
  refine w_grun ?_
  exact ⟨i+1,⟨_,_,Wk.frm w_wkf,rfl,rfl,hlt⟩,by show n - (i+1) < n - i;omega⟩
 ·have hd:decide ((i:Int) < ((marks k n).length:Int))=false:=by rw [hm];simpa using hlt
  have hin:i=n:=by omega
  subst hin
  refine w_grun ?_
  refine w_gexit ?_
  refine w_grun ?_
  refine w_gret ?_
  exact ⟨rfl,rfl⟩
end Go.Xg
namespace Go.Xg
open Go.RowKit Go.Xw Go.Proofs
open Go.Xp (Nd Ar digs digs_len)
open Go.Sp (Src)
open Go.Im (mkT)
attribute [local irreducible] GW GL GO YG GC GA gthn ginb
theorem oOk_isH {p:Nat→Bool} {Γ:List Ob} (h:∀ x∈Γ,x.isH=true):oOk p Γ=true:=by
 induction Γ with
 | nil=>rfl
 | cons x r ih =>
  rw [oOk,ih fun y hy=>h y (List.mem_cons_of_mem _ hy),Bool.and_true]
  have:=h x List.mem_cons_self
  cases x <;> first | rfl | cases this
section
variable {P:Program} {fn:Func} {m:Nat} {R:GV→List Ob→Prop} {fr:List GV} {Γ:List Ob} {e:Exit}
theorem gbp1K {t:Tmp} {x:Value} (hr:fn.results=#[.tmp t]) (he:e=.normal∨e=.ret) (hg:gnth fr t=.v x) (hm:m=Γ.length) (ha:∀ x∈Γ,x.isH=true) (h:R (.v x) Γ):gbp P fn m R e fr Γ :=
 gbp1 (n:=Γ.length) hr he hg (by omega) (by rw [List.take_length];exact oOk_isH ha) rfl (by rw [List.take_length];exact h)
end
def sumTo (f:Nat→Nat):Nat→Nat
 | 0=>0
 | i+1=>sumTo f i+f i
theorem sumTo_le (f:Nat→Nat) {i n:Nat} (h:i≤n):sumTo f i≤sumTo f n:=by
 induction n with
 | zero =>
  have:i=0:=by omega
  subst this;exact Nat.le_refl _
 | succ n ih =>
  by_cases e:i=n+1
  ·subst e;exact Nat.le_refl _
  ·have:=ih (by omega);rw [sumTo];omega
theorem len2 {r:List GV} (h:r.length=2):∃ x y,r=[x,y]:=by
 match r,h with
 | [x,y],_=>exact ⟨x,y,rfl⟩
theorem rset_here {rows:List (List GV)} {i o:Nat} {g:GV} {r:List GV} (hr:rows[i]?=some r):(rset rows i o g)[i]?=some (gupd r o g):=by rw [rset_at hr,if_pos rfl]
theorem rset_lens {k:Nat} {rows:List (List GV)} {i o:Nat} {g:GV} {r:List GV} (hr:rows[i]?=some r) (h:∀ r∈rows,r.length=k):∀ r∈rset rows i o g,r.length=k:=fun q hq=>by
 obtain ⟨j,hj⟩:=List.getElem?_of_mem hq
 rw [rset_at hr] at hj
 split at hj
 ·cases hj;rw [gupd_len];exact h r (List.mem_of_getElem? hr)
 ·exact h q (List.mem_of_getElem? hj)
theorem markIntS_o (a:Option Addr) (c n k:Nat) (rows:List (List GV)) (hn:rows.length=n) (hb:k+n≤1099511627776) :
  GC Tryz.prog 105 [.v (.slice a n c),.v (ii (k:Nat))] [.vech 3 1 rows (.slice a n c)] fun g Δ=>g=.v (ii ((k+n:Nat):Int))∧∃ R,R.length=n∧Δ=[.vech 3 1 R (.slice a n c)]:=by
 refine GC.enter Tryz.func105 Tryz.ntmps105 rfl (by simp only [gframe,grep,Nat.reduceSub];rfl) ?_
 refine w_grun ?_
 refine GW.loop (fun i:Nat=>n - i) (fun i fr Γ=>∃ R,fr=[.v (.slice a n c),.v (ii ((k+i:Nat):Int)),.any,.any,.any,.v (ii (i:Nat)),.any,.any,.any,.any,.any,.any,.any,.any,.any,.any,.any,.any,.any]∧Γ=[.vech 3 1 R (.slice a n c)]∧i≤n∧R.length=n) 0 ?_ ?_
 ·exact ⟨_,_,Wk.frm w_wkf,_,rfl,rfl,Nat.zero_le _,hn⟩
 rintro i _ _ ⟨R,rfl,rfl,hi,hRn⟩
 by_cases hlt:i < n
 ·have hd:decide ((i:Int) < (n:Int))=true:=by simpa using hlt
  refine w_grun ?_
  refine w_gsthn ?_
  refine w_grun ?_
  exact ⟨i+1,⟨_,_,Wk.frm w_wkf,_,rfl,rfl,hlt,by simp [hRn]⟩,by show n - (i+1) < n - i;omega⟩
 ·have hd:decide ((i:Int) < (n:Int))=false:=by simpa using hlt
  have hin:i=n:=by omega
  subst hin
  refine w_grun ?_
  refine w_gexit ?_
  refine w_grun ?_
  refine w_gret ?_
  exact ⟨rfl,R,hRn,rfl⟩
theorem markArrayS_o (a:Option Addr) (c n k:Nat) (rows:List (List GV)) (hn:rows.length=n) (h2:∀ r∈rows,r.length=2) (hb:k+2 * n≤1099511627776) :
  GC Tryz.prog 56 [.v (.slice a n c),.v (ii (k:Nat))] [.vech 87 2 rows (.slice a n c)] fun g Δ=>g=.v (ii ((k+2 * n:Nat):Int))∧∃ R,Δ=[.vech 87 2 R (.slice a n c)]:=by
 refine GC.enter Tryz.func56 Tryz.ntmps56 rfl (by simp only [gframe,grep,Nat.reduceSub];rfl) ?_
 refine w_grun ?_
 refine GW.loop (fun i:Nat=>n - i) (fun i fr Γ=>∃ R,fr=[.v (.slice a n c),.v (ii ((k+2 * i:Nat):Int)),.any,.any,.any,.v (ii (i:Nat)),.any,.any,.any,.any,.any,.any,.any,.any,.any,.any,.any,.any,.any,.any,.any,.any,.any,.any,.any,.any,.any,.any]∧Γ=[.vech 87 2 R (.slice a n c)]∧i≤n∧R.length=n∧∀ r∈R,r.length=2) 0 ?_ ?_
 ·exact ⟨_,_,Wk.frm w_wkf,_,rfl,rfl,Nat.zero_le _,hn,h2⟩
 rintro i _ _ ⟨R,rfl,rfl,hi,hRn,hR2⟩
 by_cases hlt:i < n
 ·have hd:decide ((i:Int) < (n:Int))=true:=by simpa using hlt
  have hc:=markText_g (k+2 * i) (by omega)
  have hr:R[i]?=some (R[i]'(by omega)):=List.getElem?_eq_getElem _
  obtain ⟨x0,y0,hxy⟩:=len2 (hR2 _ (List.mem_of_getElem? hr))
  rw [hxy] at hr
  clear hxy
  generalize mkT (k+2 * i)=x at *
  have hr1:=rset_here (o:=0) (g:=.v (sv x)) hr
  simp only [gupd] at hr1
  have hl1:(rset R i (0+0) (.v (sv x))).length=n:=by rw [rset_len];exact hRn
  have hR3:=rset_lens (o:=0) (g:=.v (sv x)) hr hR2
  refine w_grun ?_
  refine w_gcall [] (hc) ?_
  refine w_grun ?_
  refine w_gsth ?_
  refine w_grun ?_
  refine w_gsth ?_
  refine w_grun ?_
  exact ⟨i+1,⟨_,_,Wk.frm w_wkf,_,rfl,rfl,hlt,by rw [rset_len];exact hl1,rset_lens hr1 hR3⟩,by show n - (i+1) < n - i;omega⟩
 ·have hd:decide ((i:Int) < (n:Int))=false:=by simpa using hlt
  have hin:i=n:=by omega
  subst hin
  refine w_grun ?_
  refine w_gexit ?_
  refine w_grun ?_
  refine w_gret ?_
  exact ⟨rfl,R,rfl⟩
theorem mark_row {R:List (List GV)} {hs:Nat→Value} {n i o:Nat} {g x y:GV} (hi:i < n) (ho:o=0∨o=2) (hr:R[i]?=some [x,.v (hs i),y]) (h:∀ j,j < n→∃ x y,R[j]?=some [x,.v (hs j),y]):∀ j,j < n→∃ x y,(rset R i o g)[j]?=some [x,.v (hs j),y]:=fun j hj=>by
 rw [rset_at hr]
 by_cases e:j=i
 ·subst e
  rw [if_pos rfl]
  rcases ho with rfl | rfl
  ·exact ⟨_,_,rfl⟩
  ·exact ⟨_,_,rfl⟩
 ·rw [if_neg e];exact h j hj
theorem markFnS_o (a:Option Addr) (c n k:Nat) (hs:Nat→Value) (pl:Nat→Nat) (rows:List (List GV)) (L:List Ob) (hn:rows.length=n) (hh:∀ i,i < n→Hd (pl i) (hs i)) (hrow:∀ i,i < n→∃ x y,rows[i]?=some [x,.v (hs i),y])
  (hL:L.length=n) (hkid:∀ i,i < n→∃ ks,ks.length=pl i∧L[i]?=some (.vech 9 1 ks (hs i))) (hb:k+2 * n+sumTo pl n≤1099511627776) :
  GC Tryz.prog 57 [.v (.slice a n c),.v (ii (k:Nat))] (.vech 89 3 rows (.slice a n c)::L) fun g Δ=>g=.v (ii ((k+2 * n+sumTo pl n:Nat):Int))∧∃ R L',Δ=.vech 89 3 R (.slice a n c)::L'∧L'.length=n∧∀ x∈L',x.isH=true:=by
 have hLH:∀ (M:List Ob),M.length=n→(∀ i,i < n→∃ ks,ks.length=pl i∧M[i]?=some (.vech 9 1 ks (hs i)))→∀ x∈M,x.isH=true:=fun M hM hk x hx=>by
  obtain ⟨i,hi⟩:=List.getElem?_of_mem hx
  obtain ⟨ks,_,h2⟩:=hk i (by have:=(List.getElem?_eq_some_iff.1 hi).1;omega)
  rw [hi] at h2
  cases h2;rfl
 have hm0:(Ob.vech 89 3 rows (.slice a n c)::L).length=n+1:=by simp [hL]
 refine GC.enter Tryz.func57 Tryz.ntmps57 rfl (by simp only [gframe,grep,Nat.reduceSub];rfl) ?_
 rw [hm0]
 refine w_grun ?_
 refine GW.loop (fun z:Nat × Nat=>n - z.1) (fun z fr Γ=>∃ R L,fr=[.v (.slice a n c),.v (ii ((z.2:Nat):Int)),.any,.any,.any,.v (ii (z.1:Nat)),.any,.any,.any,.any,.any,.any,.any,.any,.any,.any,.any,.any,.any,.any,.any,.any,.any,.any,.any,.any,.any,.any,.any,.any,.any,.any,.any,.any,.any]∧Γ=.vech 89 3 R (.slice a n c)::L∧z.1≤n∧z.2=k+2 * z.1+sumTo pl z.1∧R.length=n∧L.length=n∧(∀ i,i < n→∃ x y,R[i]?=some [x,.v (hs i),y])∧∀ i,i < n→∃ ks,ks.length=pl i∧L[i]?=some (.vech 9 1 ks (hs i))) (0,k) ?_ ?_
 ·exact ⟨_,_,Wk.frm w_wkf,_,_,rfl,rfl,Nat.zero_le _,rfl,hn,hL,hrow,hkid⟩
 rintro ⟨i,kk⟩ _ _ ⟨R,L,rfl,rfl,hi,hkk,hRn,hLn,hRr,hLk⟩
 simp only at hi hkk
 by_cases hlt:i < n
 ·have hd:decide ((i:Int) < (n:Int))=true:=by simpa using hlt
  have hsum:sumTo pl (i+1)=sumTo pl i+pl i:=rfl
  have hsle:=sumTo_le pl (i:=i+1) (n:=n) hlt
  have hc:=markText_g kk (by omega)
  obtain ⟨x0,y0,hr⟩:=hRr i hlt
  obtain ⟨ks,hks,hLi⟩:=hLk i hlt
  obtain ⟨a1,c1,ehs⟩:=hh i hlt
  have hcs:=markStringS_g a1 c1 (pl i) (kk+1) ks hks (by omega)
  generalize mkT kk=x at *
  have hR1:=mark_row (g:=.v (sv x)) hlt (.inl rfl) hr hRr
  have hr1:=rset_here (o:=0) (g:=.v (sv x)) hr
  simp only [gupd] at hr1
  rw [ehs] at hr1 hLi
  have hl1:(rset R i (0+0) (.v (sv x))).length=n:=by rw [rset_len];exact hRn
  refine w_grun ?_
  refine w_gcall [] (hc) ?_
  simp only [List.append_nil]
  refine w_grun ?_
  refine w_gsth ?_
  refine w_grun ?_
  refine GL.call' [i+1] hcs (w_gls) (by simp [okSel,Nat.blt_eq];omega) ⟨hLi,trivial⟩ ?_
  rintro _ _ ⟨rfl,rfl⟩
  refine ⟨by simp,?_⟩
  simp only [setAll,oset,List.map_cons,List.map_nil,Ob.ren,List.append_nil]
  refine w_gnm ?_
  refine w_grun ?_
  refine w_gsth ?_
  refine w_grun ?_
  have hr2:(rset R i 0 (.v (sv x)))[i]?=some [.v (sv x),.v (hs i),y0]:=by rw [ehs];exact hr1
  refine ⟨(i+1,kk+1+pl i+1),⟨_,_,Wk.frm w_wkf,_,_,rfl,rfl,hlt,by simp only;omega,by rw [rset_len];exact hl1,by rw [oset_eq,List.length_set];exact hLn,mark_row hlt (.inr rfl) hr2 hR1,fun j hj=>?_⟩,by show n - (i+1) < n - i;omega⟩
  rw [oset_eq,List.getElem?_set]
  by_cases e:i=j
  ·subst e
   rw [if_pos rfl,if_pos (by omega)]
   exact ⟨marks (kk+1) (pl i),marks_len _ _,by rw [ehs]⟩
  ·rw [if_neg e];exact hLk j hj
 ·have hd:decide ((i:Int) < (n:Int))=false:=by simpa using hlt
  have hin:i=n:=by omega
  subst hin
  rw [←hkk]
  refine w_grun ?_
  refine w_gexit ?_
  refine w_grun ?_
  (repeat (first | refine GW.ret ?_ | refine gthn_r ?_ | refine ginb_r ?_ | refine gthn_n ?_ | refine ginb_n ?_))
  refine gbp1K rfl (by first | exact .inr rfl | exact .inl rfl) rfl (by simp [hLn]) ?_ ⟨rfl,R,L,rfl,hLn,hLH L hLn hLk⟩
  intro x hx
  rcases List.mem_cons.1 hx with rfl | hx
  ·rfl
  ·exact hLH L hLn hLk x hx
theorem mark_row5 {R:List (List GV)} {hs:Nat→Value} {n i o:Nat} {g x0 x1 x2 x3:GV} (hi:i < n) (ho:o < 4) (hr:R[i]?=some [x0,x1,x2,x3,.v (hs i)]) (h:∀ j,j < n→∃ x0 x1 x2 x3,R[j]?=some [x0,x1,x2,x3,.v (hs j)]):∀ j,j < n→∃ x0 x1 x2 x3,(rset R i o g)[j]?=some [x0,x1,x2,x3,.v (hs j)]:=fun j hj=>by
 rw [rset_at hr]
 by_cases e:j=i
 ·subst e
  rw [if_pos rfl]
  obtain rfl | rfl | rfl | rfl:o=0∨o=1∨o=2∨o=3:=by omega
  ·exact ⟨_,_,_,_,rfl⟩
  ·exact ⟨_,_,_,_,rfl⟩
  ·exact ⟨_,_,_,_,rfl⟩
  ·exact ⟨_,_,_,_,rfl⟩
 ·rw [if_neg e];exact h j hj
theorem markNodeS_o (a:Option Addr) (c n k:Nat) (hs:Nat→Value) (pl:Nat→Nat) (rows:List (List GV)) (L:List Ob) (hn:rows.length=n) (hh:∀ i,i < n→Hd (pl i) (hs i)) (hrow:∀ i,i < n→∃ x0 x1 x2 x3,rows[i]?=some [x0,x1,x2,x3,.v (hs i)])
  (hL:L.length=n) (hkid:∀ i,i < n→∃ ks,ks.length=pl i∧L[i]?=some (.vech 3 1 ks (hs i))) (hb:k+4 * n+sumTo pl n≤1099511627776) :
  GC Tryz.prog 58 [.v (.slice a n c),.v (ii (k:Nat))] (.vech 61 5 rows (.slice a n c)::L) fun g Δ=>g=.v (ii ((k+4 * n+sumTo pl n:Nat):Int))∧∃ R L',Δ=.vech 61 5 R (.slice a n c)::L'∧L'.length=n∧∀ x∈L',x.isH=true:=by
 have hLH:∀ (M:List Ob),M.length=n→(∀ i,i < n→∃ ks,ks.length=pl i∧M[i]?=some (.vech 3 1 ks (hs i)))→∀ x∈M,x.isH=true:=fun M hM hk x hx=>by
  obtain ⟨i,hi⟩:=List.getElem?_of_mem hx
  obtain ⟨ks,_,h2⟩:=hk i (by have:=(List.getElem?_eq_some_iff.1 hi).1;omega)
  rw [hi] at h2
  cases h2;rfl
 have hm0:(Ob.vech 61 5 rows (.slice a n c)::L).length=n+1:=by simp [hL]
 refine GC.enter Tryz.func58 Tryz.ntmps58 rfl (by simp only [gframe,grep,Nat.reduceSub];rfl) ?_
 rw [hm0]
 refine w_grun ?_
 refine GW.loop (fun z:Nat × Nat=>n - z.1) (fun z fr Γ=>∃ R L,fr=[.v (.slice a n c),.v (ii ((z.2:Nat):Int)),.any,.any,.any,.v (ii (z.1:Nat)),.any,.any,.any,.any,.any,.any,.any,.any,.any,.any,.any,.any,.any,.any,.any,.any,.any,.any,.any,.any,.any,.any,.any,.any,.any,.any,.any,.any,.any,.any,.any,.any,.any,.any,.any,.any,.any,.any,.any,.any,.any,.any,.any]∧Γ=.vech 61 5 R (.slice a n c)::L∧z.1≤n∧z.2=k+4 * z.1+sumTo pl z.1∧R.length=n∧L.length=n∧(∀ i,i < n→∃ x0 x1 x2 x3,R[i]?=some [x0,x1,x2,x3,.v (hs i)])∧∀ i,i < n→∃ ks,ks.length=pl i∧L[i]?=some (.vech 3 1 ks (hs i))) (0,k) ?_ ?_
 ·exact ⟨_,_,Wk.frm w_wkf,_,_,rfl,rfl,Nat.zero_le _,rfl,hn,hL,hrow,hkid⟩
 rintro ⟨i,kk⟩ _ _ ⟨R,L,rfl,rfl,hi,hkk,hRn,hLn,hRr,hLk⟩
 simp only at hi hkk
 by_cases hlt:i < n
 ·have hd:decide ((i:Int) < (n:Int))=true:=by simpa using hlt
  have hsum:sumTo pl (i+1)=sumTo pl i+pl i:=rfl
  have hsle:=sumTo_le pl (i:=i+1) (n:=n) hlt
  have hc:=markText_g (kk+1+1+1) (by omega)
  obtain ⟨x0,x1,x2,x3,hr⟩:=hRr i hlt
  obtain ⟨ks,hks,hLi⟩:=hLk i hlt
  obtain ⟨a1,c1,ehs⟩:=hh i hlt
  have hcs:=markIntS_o a1 c1 (pl i) (kk+1+1+1+1) ks hks (by omega)
  generalize mkT (kk+1+1+1)=x at *
  have hR1:=mark_row5 (g:=.v (ii (kk:Nat))) hlt (Nat.zero_lt_succ 3) hr hRr
  have hr1:=rset_here (o:=0) (g:=.v (ii (kk:Nat))) hr
  simp only [gupd] at hr1
  have hR2:=mark_row5 (g:=.v (ii ((kk+1:Nat):Int))) hlt (show 1 < 4 by omega) hr1 hR1
  have hr2:=rset_here (o:=1) (g:=.v (ii ((kk+1:Nat):Int))) hr1
  simp only [gupd] at hr2
  have hR3:=mark_row5 (g:=.v (ii ((kk+1+1:Nat):Int))) hlt (show 2 < 4 by omega) hr2 hR2
  have hr3:=rset_here (o:=2) (g:=.v (ii ((kk+1+1:Nat):Int))) hr2
  simp only [gupd] at hr3
  have hR4:=mark_row5 (g:=.v (sv x)) hlt (show 3 < 4 by omega) hr3 hR3
  have hr4:=rset_here (o:=3) (g:=.v (sv x)) hr3
  simp only [gupd] at hr4
  rw [ehs] at hr1 hr2 hr3 hr4 hLi
  have hl1:(rset R i (0+0) (.v (ii (kk:Nat)))).length=n:=by rw [rset_len];exact hRn
  have hl2:(rset (rset R i (0+0) (.v (ii (kk:Nat)))) i (0+1) (.v (ii ((kk+1:Nat):Int)))).length=n:=by rw [rset_len];exact hl1
  have hl3:(rset (rset (rset R i (0+0) (.v (ii (kk:Nat)))) i (0+1) (.v (ii ((kk+1:Nat):Int)))) i (0+2) (.v (ii ((kk+1+1:Nat):Int)))).length=n:=by rw [rset_len];exact hl2
  have hl4:(rset (rset (rset (rset R i (0+0) (.v (ii (kk:Nat)))) i (0+1) (.v (ii ((kk+1:Nat):Int)))) i (0+2) (.v (ii ((kk+1+1:Nat):Int)))) i (0+3) (.v (sv x))).length=n:=by rw [rset_len];exact hl3
  refine w_grun ?_
  refine w_gsth ?_
  refine w_grun ?_
  refine w_gsth ?_
  refine w_grun ?_
  refine w_gsth ?_
  refine w_grun ?_
  refine w_gcall [] (hc) ?_
  simp only [List.append_nil]
  refine w_grun ?_
  refine w_gsth ?_
  refine w_grun ?_
  refine GL.call' [i+1] hcs (w_gls) (by simp [okSel,Nat.blt_eq];omega) ⟨hLi,trivial⟩ ?_
  rintro _ _ ⟨rfl,R',hR'l,rfl⟩
  refine ⟨by simp,?_⟩
  simp only [setAll,oset,List.map_cons,List.map_nil,Ob.ren,List.append_nil]
  refine w_gnm ?_
  refine w_grun ?_
  refine ⟨(i+1,kk+1+1+1+1+pl i),⟨_,_,Wk.frm w_wkf,_,_,rfl,rfl,hlt,by simp only;omega,hl4,by rw [oset_eq,List.length_set];exact hLn,hR4,fun j hj=>?_⟩,by show n - (i+1) < n - i;omega⟩
  rw [oset_eq,List.getElem?_set]
  by_cases e:i=j
  ·subst e
   rw [if_pos rfl,if_pos (by omega)]
   exact ⟨R',hR'l,by rw [ehs]⟩
  ·rw [if_neg e];exact hLk j hj
 ·have hd:decide ((i:Int) < (n:Int))=false:=by simpa using hlt
  have hin:i=n:=by omega
  subst hin
  rw [←hkk]
  refine w_grun ?_
  refine w_gexit ?_
  refine w_grun ?_
  (repeat (first | refine GW.ret ?_ | refine gthn_r ?_ | refine ginb_r ?_ | refine gthn_n ?_ | refine ginb_n ?_))
  refine gbp1K rfl (by first | exact .inr rfl | exact .inl rfl) rfl (by simp [hLn]) ?_ ⟨rfl,R,L,rfl,hLn,hLH L hLn hLk⟩
  intro x hx
  rcases List.mem_cons.1 hx with rfl | hx
  ·rfl
  ·exact hLH L hLn hLk x hx
end Go.Xg
namespace Go.Xg
open Go.RowKit Go.Xw Go.Proofs
open Go.Xp (Nd Ar digs digs_len)
open Go.Sp (Src)
open Go.Im (mkT)
theorem ren_isH {x:Ob} (h:x.isH=true) (f:Nat→Nat):x.ren f=x:=by cases x <;> first | rfl | cases h
theorem map_isH {X:List Ob} (h:∀ x∈X,x.isH=true) (f:Nat→Nat):X.map (Ob.ren f)=X :=
 (List.map_congr_left fun x hx=>ren_isH (h x hx) f).trans (List.map_id _)
theorem okSel_range (s n N:Nat) (h:s+n≤N):okSel (List.range' s n) N=true:=by
 induction n generalizing s with
 | zero=>rfl
 | succ n ih =>
  rw [List.range'_succ,okSel,ih (s+1) (by omega)]
  have h1:Nat.blt s N=true:=by rw [Nat.blt_eq];omega
  have h2:(List.range' (s+1) n).contains s=false:=by
   cases hc:(List.range' (s+1) n).contains s with
   | false=>rfl
   | true =>
    have:=List.mem_range'_1.1 (List.contains_iff_mem.1 hc)
    omega
  rw [h1,h2];rfl
theorem seen_range (f:Nat→Nat):∀ (X A C:List Ob),(∀ x∈X,x.isH=true)→seen f (A++(X++C)) (List.range' A.length X.length) X
 | [],A,C,_=>trivial
 | x::X,A,C,h=>by
  rw [List.length_cons,List.range'_succ,seen]
  refine ⟨by rw [List.getElem?_append_right (Nat.le_refl _),Nat.sub_self,ren_isH (h x List.mem_cons_self)];rfl,?_⟩
  have:=seen_range f X (A++[x]) C fun y hy=>h y (List.mem_cons_of_mem _ hy)
  rw [List.length_append,List.length_singleton,List.append_assoc] at this
  exact this
theorem setAll_range:∀ (X A C Δ:List Ob),Δ.length=X.length→setAll (A++(X++C)) (List.range' A.length X.length) Δ=A++(Δ++C)
 | [],A,C,Δ,h=>by
  have:Δ=[]:=List.eq_nil_of_length_eq_zero h
  subst this
  show setAll (A++C) [] []=_
  rw [setAll,List.append_nil];rfl
 | x::X,A,C,[],h=>by cases h
 | x::X,A,C,y::Δ,h=>by
  rw [List.length_cons,List.range'_succ,setAll]
  have e:oset (A++(x::X++C)) A.length y=(A++[y])++(X++C):=by
   rw [oset_eq,List.set_append_right _ _ (Nat.le_refl _),Nat.sub_self];simp
  have:=setAll_range X (A++[y]) C Δ (by simpa using h)
  rw [List.length_append,List.length_singleton] at this
  rw [e,this];simp
section
variable {P:Program} {m:Nat} {Q:GPost} {fr:List GV} {Γ:List Ob} {ops:Array Oper} {rest:List Oper} {d:Option Tmp} {op:Op} {ty:TypeId} {pos:String} {af:Array Edge}
theorem GL.callBlk {f:FuncId} [hf:Fun P f] (A X C:List Ob) {args:List Operand} {tys:Array TypeId} {gs:List GV} {R:GV→List Ob→Prop} (hc:GC P f gs X R) (hΓ:Γ=A++(X++C)) (hX:∀ x∈X,x.isH=true) (hgs:∀ r,renL r gs=gs) (ha:GLeL (args.map (gev fr)) gs)
  (h:∀ g Δ,R g Δ→Δ.length=X.length∧(∀ x∈Δ,x.isH=true)∧(∀ r,ren r g=g)∧GL P m ops Q rest (gput fr d g) (A++(Δ++C))) :
  GL P m ops Q (⟨d,.call ⟨.value (.func f),args.toArray,tys⟩,ty,pos,af,none⟩::rest) fr Γ:=by
 subst hΓ
 refine GL.call' (List.range' A.length X.length) hc (by rw [hgs];exact ha) (okSel_range _ _ _ (by simp only [List.length_append];omega)) (seen_range _ X A C hX) fun g Δ hr=>?_
 obtain ⟨h1,h2,h3,h4⟩:=h g Δ hr
 refine ⟨by rw [List.length_range',h1];exact Nat.le_refl _,?_⟩
 rw [map_isH h2,setAll_range _ _ _ _ h1,h3]
 exact h4
end
attribute [local irreducible] GW GL GO YG GC GA gthn ginb
theorem fn_pl (p:Src):sumTo (fun i=>match p.fns[i]? with | some f=>f.params.length | none=>0) p.fns.length=Go.Im.sumL (fun f:Go.Sp.Fn=>f.params.length) p.fns:=by
 have key:∀ n,n≤p.fns.length→sumTo (fun i=>match p.fns[i]? with | some f=>f.params.length | none=>0) n=Go.Im.sumL (fun f:Go.Sp.Fn=>f.params.length) (p.fns.take n):=by
  intro n
  induction n with
  | zero=>intro _;rfl
  | succ n ih =>
   intro h
   have hx:p.fns[n]?=some p.fns[n]:=by simp [show n < p.fns.length by omega]
   rw [sumTo,ih (by omega),Go.Im.sumL_snoc hx,hx]
 rw [key _ (Nat.le_refl _),List.take_length]
theorem nd_pl (p:Src):sumTo (fun i=>match p.nodes[i]? with | some f=>f.kids.length | none=>0) p.nodes.length=Go.Im.sumL (fun f:Nd=>f.kids.length) p.nodes:=by
 have key:∀ n,n≤p.nodes.length→sumTo (fun i=>match p.nodes[i]? with | some f=>f.kids.length | none=>0) n=Go.Im.sumL (fun f:Nd=>f.kids.length) (p.nodes.take n):=by
  intro n
  induction n with
  | zero=>intro _;rfl
  | succ n ih =>
   intro h
   have hx:p.nodes[n]?=some p.nodes[n]:=by simp [show n < p.nodes.length by omega]
   rw [sumTo,ih (by omega),Go.Im.sumL_snoc hx,hx]
 rw [key _ (Nat.le_refl _),List.take_length]
theorem zip_at {α γ:Type} {f:α→Value→γ} {l:List α} {hs:List Value} {i:Nat} {x:α} {h:Value} (h1:l[i]?=some x) (h2:hs[i]?=some h):(List.zipWith f l hs)[i]?=some (f x h):=by rw [List.getElem?_zipWith,h1,h2]
theorem markSource_o (p:Src) (hg ha hf hn:Value) (fs ns:List Value) (H:SrcH p hg ha hf hn fs ns) (k:Nat) (hw:Go.Im.wSrc p≤1048576) (hk:k≤1048576) :
  GC Tryz.prog 19 [.agg [.v hg,.v ha,.v hf,.v hn],.v (ii (k:Nat))] (srcO p hg ha hf hn fs ns) fun g Δ=>∃ k':Nat,g=.v (ii (k':Nat))∧Δ.length=(srcO p hg ha hf hn fs ns).length∧∀ x∈Δ,x.isH=true:=by
 obtain ⟨⟨b1,_⟩,⟨b2,_⟩,⟨b3,_⟩,⟨b4,_⟩⟩:=Go.Im.small_w p
 have hs1:Go.Im.sumL (fun f:Go.Sp.Fn=>f.params.length) p.fns≤1 * Go.Im.sumL (fun f:Go.Sp.Fn=>f.name.length+Go.Im.wS f.params+1) p.fns:=Go.Im.sumL_lin fun f _=>by have:=Go.Im.wS_len f.params;omega
 have hs2:Go.Im.sumL (fun f:Nd=>f.kids.length) p.nodes≤1 * Go.Im.sumL (fun n:Nd=>n.s.length+n.kids.length+1) p.nodes:=Go.Im.sumL_lin fun f _=>by omega
 have hs3:Go.Im.sumL (fun f:Go.Sp.Fn=>f.name.length+Go.Im.wS f.params+1) p.fns≤1048576:=by unfold Go.Im.wSrc at hw;omega
 have hs4:Go.Im.sumL (fun n:Nd=>n.s.length+n.kids.length+1) p.nodes≤1048576:=by unfold Go.Im.wSrc at hw;omega
 have hsf:=fn_pl p
 have hsn:=nd_pl p
 obtain ⟨⟨a0,c0,rfl⟩,⟨a1,c1,rfl⟩,⟨a2,c2,rfl⟩,⟨a3,c3,rfl⟩,hfl,hnl,hfh,hnh⟩:=H
 have hxF:∀ i,i < p.fns.length→∃ f h,p.fns[i]?=some f∧fs[i]?=some h:=fun i hi=>⟨p.fns[i],fs[i]'(by omega),by simp [hi],by simp [show i < fs.length by omega]⟩
 have hxN:∀ i,i < p.nodes.length→∃ f h,p.nodes[i]?=some f∧ns[i]?=some h:=fun i hi=>⟨p.nodes[i],ns[i]'(by omega),by simp [hi],by simp [show i < ns.length by omega]⟩
 have hLf:(List.zipWith toFnO p.fns fs).length=p.fns.length:=by rw [List.length_zipWith];omega
 have hLn:(List.zipWith toNodeO p.nodes ns).length=p.nodes.length:=by rw [List.length_zipWith];omega
 have e0:=markStringS_g a0 c0 p.globals.length k (strR p.globals) (by simp [strR]) (by omega)
 have e1:=fun k hk=>markArrayS_o a1 c1 p.arrays.length k (p.arrays.map encAr) (by simp) (fun r hr=>by obtain ⟨x,_,rfl⟩:=List.mem_map.1 hr;rfl) hk
 have e2:=fun k hk=>markFnS_o a2 c2 p.fns.length k (fun i=>match fs[i]? with | some h=>h | none=>undef) (fun i=>match p.fns[i]? with | some f=>f.params.length | none=>0) (List.zipWith toFnR p.fns fs) (List.zipWith toFnO p.fns fs) (by rw [List.length_zipWith];omega)
  (fun i hi=>by obtain ⟨f,h,h1,h2⟩:=hxF i hi;rw [h1,h2];exact hfh i f h h1 h2) (fun i hi=>by obtain ⟨f,h,h1,h2⟩:=hxF i hi;rw [h2];exact ⟨_,_,zip_at h1 h2⟩) hLf
  (fun i hi=>by obtain ⟨f,h,h1,h2⟩:=hxF i hi;rw [h1,h2];exact ⟨strR f.params,by simp [strR],zip_at h1 h2⟩) hk
 have e3:=fun k hk=>markNodeS_o a3 c3 p.nodes.length k (fun i=>match ns[i]? with | some h=>h | none=>undef) (fun i=>match p.nodes[i]? with | some f=>f.kids.length | none=>0) (List.zipWith toNodeR p.nodes ns) (List.zipWith toNodeO p.nodes ns) (by rw [List.length_zipWith];omega)
  (fun i hi=>by obtain ⟨f,h,h1,h2⟩:=hxN i hi;rw [h1,h2];exact hnh i f h h1 h2) (fun i hi=>by obtain ⟨f,h,h1,h2⟩:=hxN i hi;rw [h2];exact ⟨_,_,_,_,zip_at h1 h2⟩) hLn
  (fun i hi=>by obtain ⟨f,h,h1,h2⟩:=hxN i hi;rw [h1,h2];exact ⟨intR f.kids,by simp [intR],zip_at h1 h2⟩) hk
 rw [hsf] at e2
 rw [hsn] at e3
 have e1:=e1 (k+p.globals.length) (by omega)
 have e2:=e2 (k+p.globals.length+2 * p.arrays.length) (by omega)
 have e3:=e3 (k+p.globals.length+2 * p.arrays.length+2 * p.fns.length+Go.Im.sumL (fun f:Go.Sp.Fn=>f.params.length) p.fns) (by omega)
 have hall:=srcO_isH p (.slice a0 p.globals.length c0) (.slice a1 p.arrays.length c1) (.slice a2 p.fns.length c2) (.slice a3 p.nodes.length c3) fs ns
 generalize hm:(srcO p (.slice a0 p.globals.length c0) (.slice a1 p.arrays.length c1) (.slice a2 p.fns.length c2) (.slice a3 p.nodes.length c3) fs ns).length=M
 unfold srcO at hm hall ⊢
 generalize hF:List.zipWith toFnO p.fns fs=LF at *
 generalize hN:List.zipWith toNodeO p.nodes ns=LN at *
 refine GC.enter Tryz.func19 Tryz.ntmps19 rfl (by simp only [gframe,grep,Nat.reduceSub];rfl) ?_
 rw [hm]
 refine GW.seq ?_
 refine GW.region ?_
 refine GL.boxF rfl rfl ?_
 refine w_gnm ?_
 refine w_grun ?_
 refine GL.callBlk [] [_] _ e0 rfl (by intro x hx;rw [List.mem_singleton.1 hx];rfl) (fun _=>rfl) (w_gls) ?_
 rintro _ _ ⟨rfl,rfl⟩
 refine ⟨rfl,by intro x hx;rw [List.mem_singleton.1 hx];rfl,fun _=>rfl,?_⟩
 refine w_gnm ?_
 refine w_grun ?_
 refine GL.callBlk [_] [_] _ e1 rfl (by intro x hx;rw [List.mem_singleton.1 hx];rfl) (fun _=>rfl) (w_gls) ?_
 rintro _ _ ⟨rfl,R1,rfl⟩
 refine ⟨rfl,by intro x hx;rw [List.mem_singleton.1 hx];rfl,fun _=>rfl,?_⟩
 refine w_gnm ?_
 refine w_grun ?_
 refine GL.callBlk [_,_] (_::LF) (_::LN) e2 rfl (by intro x hx;exact hall x (by simp only [List.mem_cons,List.mem_append] at hx ⊢;rcases hx with h | h;(· exact .inr (.inr (.inl h)));exact .inr (.inr (.inr (.inl h))))) (fun _=>rfl) (w_gls) ?_
 rintro _ _ ⟨rfl,R2,L2,rfl,hL2,hH2⟩
 refine ⟨by simp [hL2,hLf],by intro x hx;rcases List.mem_cons.1 hx with rfl | hx;(· rfl);exact hH2 x hx,fun _=>rfl,?_⟩
 refine w_gnm ?_
 refine w_grun ?_
 refine GL.callBlk (_::_::_::L2) (_::LN) [] e3 (by rw [List.append_nil];rfl) (by intro x hx;exact hall x (by simp only [List.mem_cons,List.mem_append] at hx ⊢;exact .inr (.inr (.inr (.inr hx))))) (fun _=>rfl) (w_gls) ?_
 rintro _ _ ⟨rfl,R3,L3,rfl,hL3,hH3⟩
 refine ⟨by simp [hL3,hLn],by intro x hx;rcases List.mem_cons.1 hx with rfl | hx;(· rfl);exact hH3 x hx,fun _=>rfl,?_⟩
 rw [List.append_nil]
 refine w_gnm ?_
 refine w_grun ?_
 (repeat (first | refine GW.ret ?_ | refine gthn_r ?_ | refine ginb_r ?_ | refine gthn_n ?_ | refine ginb_n ?_))
 have hH:∀ x∈(Ob.vech 9 1 (marks k p.globals.length) (.slice a0 p.globals.length c0)::Ob.vech 87 2 R1 (.slice a1 p.arrays.length c1)::Ob.vech 89 3 R2 (.slice a2 p.fns.length c2)::(L2++Ob.vech 61 5 R3 (.slice a3 p.nodes.length c3)::L3)),x.isH=true:=by
  intro x hx
  rcases List.mem_cons.1 hx with rfl | hx
  ·rfl
  rcases List.mem_cons.1 hx with rfl | hx
  ·rfl
  rcases List.mem_cons.1 hx with rfl | hx
  ·rfl
  rcases List.mem_append.1 hx with hx | hx
  ·exact hH2 x hx
  rcases List.mem_cons.1 hx with rfl | hx
  ·rfl
  ·exact hH3 x hx
 have hM:M=(Ob.vech 9 1 (marks k p.globals.length) (.slice a0 p.globals.length c0)::Ob.vech 87 2 R1 (.slice a1 p.arrays.length c1)::Ob.vech 89 3 R2 (.slice a2 p.fns.length c2)::(L2++Ob.vech 61 5 R3 (.slice a3 p.nodes.length c3)::L3)).length:=by
  rw [←hm];simp [hL2,hL3,hLf,hLn]
 exact gbp1K rfl (by first | exact .inr rfl | exact .inl rfl) rfl hM hH ⟨_,rfl,hM.symm,hH⟩
end Go.Xg
namespace Go.Xg
open Go.RowKit Go.Xw Go.Proofs
open Go.Xp (Nd Ar)
open Go.Sp (Src)
open Go.Im
theorem at_blk {A X C:List Ob} {j:Nat} (h:j < X.length):(A++(X++C))[A.length+j]?=X[j]?:=by
 rw [List.getElem?_append_right (by omega),Nat.add_sub_cancel_left,List.getElem?_append_left h]
def fnD (p:Src) (i:Nat):Go.Sp.Fn:=(p.fns[i]?).getD ⟨[],[],0⟩
def ndD (p:Src) (i:Nat):Nd:=(p.nodes[i]?).getD ⟨0,0,0,[],[]⟩
def vaD (l:List Value) (i:Nat):Value:=(l[i]?).getD undef
theorem src_view {B:Bs} {K:Fz} {β:Bt} {w:World} {A C:List Ob} {p:Src} {hg ha hf hn:Value} {fs ns:List Value} (H:SrcH p hg ha hf hn fs ns) (hI:Inv B K β (A++(srcO p hg ha hf hn fs ns++C)) w) :
  ∃ K1,KLe K K1∧FzOk K1 w∧Tabs K1 (fun _=>.no) w∧RelL K1 (fun _=>.no) [hg,ha,hf,hn] (encSrc p):=by
 obtain ⟨_,_,_,_,hfl,hnl,_,_⟩:=H
 have hLf:(List.zipWith toFnO p.fns fs).length=p.fns.length:=by rw [List.length_zipWith];omega
 have hLn:(List.zipWith toNodeO p.nodes ns).length=p.nodes.length:=by rw [List.length_zipWith];omega
 have hlen:(srcO p hg ha hf hn fs ns).length=4+p.fns.length+p.nodes.length:=by simp [srcO,hLf,hLn];omega
 have hF:∀ i,i < p.fns.length→p.fns[i]?=some (fnD p i)∧fs[i]?=some (vaD fs i):=fun i hi=>by
  unfold fnD vaD
  rw [List.getElem?_eq_getElem hi,List.getElem?_eq_getElem (show i < fs.length by omega)];exact ⟨rfl,rfl⟩
 have hN:∀ i,i < p.nodes.length→p.nodes[i]?=some (ndD p i)∧ns[i]?=some (vaD ns i):=fun i hi=>by
  unfold ndD vaD
  rw [List.getElem?_eq_getElem hi,List.getElem?_eq_getElem (show i < ns.length by omega)];exact ⟨rfl,rfl⟩
 have g0:(A++(srcO p hg ha hf hn fs ns++C))[A.length+0]?=some (.vech 9 1 (strR p.globals) hg):=by rw [at_blk (by omega)];rfl
 have g1:(A++(srcO p hg ha hf hn fs ns++C))[A.length+1]?=some (.vech 87 2 (p.arrays.map encAr) ha):=by rw [at_blk (by omega)];rfl
 have g2:(A++(srcO p hg ha hf hn fs ns++C))[A.length+2]?=some (.vech 89 3 (List.zipWith toFnR p.fns fs) hf):=by rw [at_blk (by omega)];rfl
 have gF:∀ i,i < p.fns.length→(A++(srcO p hg ha hf hn fs ns++C))[A.length+(3+i)]?=some (.vech 9 1 (strR (fnD p i).params) (vaD fs i)):=fun i hi=>by
  rw [at_blk (by omega)]
  unfold srcO
  rw [show 3+i=i+1+1+1 by omega,List.getElem?_cons_succ,List.getElem?_cons_succ,List.getElem?_cons_succ,List.getElem?_append_left (by omega),zip_at (hF i hi).1 (hF i hi).2];rfl
 have g3:(A++(srcO p hg ha hf hn fs ns++C))[A.length+(3+p.fns.length)]?=some (.vech 61 5 (List.zipWith toNodeR p.nodes ns) hn):=by
  rw [at_blk (by omega)]
  unfold srcO
  rw [show 3+p.fns.length=p.fns.length+1+1+1 by omega,List.getElem?_cons_succ,List.getElem?_cons_succ,List.getElem?_cons_succ,List.getElem?_append_right (by omega),hLf,Nat.sub_self];rfl
 have gN:∀ i,i < p.nodes.length→(A++(srcO p hg ha hf hn fs ns++C))[A.length+(4+p.fns.length+i)]?=some (.vech 3 1 (intR (ndD p i).kids) (vaD ns i)):=fun i hi=>by
  rw [at_blk (by omega)]
  unfold srcO
  rw [show 4+p.fns.length+i=(p.fns.length+(i+1))+1+1+1 by omega,List.getElem?_cons_succ,List.getElem?_cons_succ,List.getElem?_cons_succ,List.getElem?_append_right (by omega),hLf,Nat.add_sub_cancel_left,List.getElem?_cons_succ,zip_at (hN i hi).1 (hN i hi).2];rfl
 generalize A.length=s at *
 generalize (A++(srcO p hg ha hf hn fs ns++C))=Γ at *
 obtain ⟨K1,Γ1,R1,k1,i1,f1,l1,r1,o1⟩:=hI.sealKids (jf:=s+2) (N:=p.fns.length) (o:=1) (E:=9) (k':=1) (raw:=fun i=>toFnR (fnD p i) (vaD fs i)) (fin:=fun i=>encFn (fnD p i)) (ks:=fun i=>strR (fnD p i).params) (hd:=fun i=>vaD fs i) (jp:=fun i=>s+(3+i)) g2
  ⟨by rw [List.length_zipWith];omega,fun i hi=>zip_at (hF i hi).1 (hF i hi).2⟩ (fun i hi=>⟨rfl,rfl⟩) gF (fun i hi=>by omega) (fun i j _ _ h=>by omega)
 obtain ⟨K2,Γ2,R2,k2,i2,f2,l2,r2,o2⟩:=i1.sealKids (jf:=s+(3+p.fns.length)) (N:=p.nodes.length) (o:=4) (E:=3) (k':=1) (raw:=fun i=>toNodeR (ndD p i) (vaD ns i)) (fin:=fun i=>encNode (ndD p i)) (ks:=fun i=>intR (ndD p i).kids) (hd:=fun i=>vaD ns i) (jp:=fun i=>s+(4+p.fns.length+i))
  (by rw [o1 _ (by omega) fun i hi=>by omega];exact g3) ⟨by rw [List.length_zipWith];omega,fun i hi=>zip_at (hN i hi).1 (hN i hi).2⟩ (fun i hi=>⟨rfl,rfl⟩) (fun i hi=>by rw [o1 _ (by omega) fun j hj=>by omega];exact gN i hi) (fun i hi=>by omega) (fun i j _ _ h=>by omega)
 have e1:R1=p.fns.map encFn:=by
  apply List.ext_getElem?
  intro i
  by_cases hi:i < p.fns.length
  ·rw [r1 i hi,List.getElem?_map,(hF i hi).1];rfl
  ·rw [List.getElem?_eq_none (by omega),List.getElem?_eq_none (by rw [List.length_map];omega)]
 have e2:R2=p.nodes.map encNode:=by
  apply List.ext_getElem?
  intro i
  by_cases hi:i < p.nodes.length
  ·rw [r2 i hi,List.getElem?_map,(hN i hi).1];rfl
  ·rw [List.getElem?_eq_none (by omega),List.getElem?_eq_none (by rw [List.length_map];omega)]
 rw [e1] at f1
 rw [e2] at f2
 have f1':Γ2[s+2]?=some (.vech 89 3 (p.fns.map encFn) hf):=by rw [o2 _ (by omega) fun i hi=>by omega];exact f1
 have g0':Γ2[s+0]?=some (.vech 9 1 (strR p.globals) hg):=by rw [o2 _ (by omega) fun i hi=>by omega,o1 _ (by omega) fun i hi=>by omega];exact g0
 have g1':Γ2[s+1]?=some (.vech 87 2 (p.arrays.map encAr) ha):=by rw [o2 _ (by omega) fun i hi=>by omega,o1 _ (by omega) fun i hi=>by omega];exact g1
 obtain ⟨K3,k3,q0,i3⟩:=i2.shutH g0'
 obtain ⟨K4,k4,q1,i4⟩:=i3.shutH (i:=s+1) (by rw [oset_eq,List.getElem?_set,if_neg (by omega)];exact g1')
 obtain ⟨K5,k5,q2,i5⟩:=i4.shutH (i:=s+2) (by rw [oset_eq,oset_eq,List.getElem?_set,if_neg (by omega),List.getElem?_set,if_neg (by omega)];exact f1')
 obtain ⟨K6,k6,q3,i6⟩:=i5.shutH (i:=s+(3+p.fns.length)) (by rw [oset_eq,oset_eq,oset_eq,List.getElem?_set,if_neg (by omega),List.getElem?_set,if_neg (by omega),List.getElem?_set,if_neg (by omega)];exact f2)
 have b:BLe β β:=BLe.refl β
 refine ⟨K6,k1.trans (k2.trans (k3.trans (k4.trans (k5.trans k6)))),i6.fz,i6.tab0,?_⟩
 exact .cons ((q0.mono (k4.trans (k5.trans k6)) b).pc rfl) (.cons ((q1.mono (k5.trans k6) b).pc rfl) (.cons ((q2.mono k6 b).pc rfl) (.cons (q3.pc rfl) .nil)))
theorem agg4_inv {K:Fz} {β:Bt} {v a b c d:Value} (h:Rel K β v (.agg [.v a,.v b,.v c,.v d])):v=.agg #[a,b,c,d]:=by
 cases h with
 | agg vs cs hl h =>
  match vs,hl with
  | [x,y,z,u],_ =>
   rw [Rel.v_inv (h 0 x _ rfl rfl),Rel.v_inv (h 1 y _ rfl rfl),Rel.v_inv (h 2 z _ rfl rfl),Rel.v_inv (h 3 u _ rfl rfl)]
theorem agg4_rel {K:Fz} {a b c d:Value} {gs:List GV} (h:RelL K (fun _=>.no) [a,b,c,d] gs):Rel K (fun _=>.no) (.agg #[a,b,c,d]) (.agg gs):=.agg [a,b,c,d] gs h.1 h.2
section
variable {B:Bs} {K:Fz} {β:Bt} {w:World} {l:List Value} {fr:List GV} {A C X:List Ob} {p:Src} {hg ha hf hn:Value} {fs ns:List Value}
theorem borrow_args {x:Operand} (H:SrcH p hg ha hf hn fs ns) (hI:Inv B K β (A++(srcO p hg ha hf hn fs ns++C)) w) (hF:FR K β fr l) (hx:gev fr x=.agg [.v hg,.v ha,.v hf,.v hn]) :
  ∃ K1,FzOk K1 w∧Tabs K1 (fun _=>.no) w∧RelL K1 (fun _=>.no) ([x].map (ev l)) [.agg (encSrc p)]:=by
 obtain ⟨K1,_,h1,h2,h3⟩:=src_view H hI
 have hr:=hF.ev x
 rw [hx] at hr
 have e:=agg4_inv hr
 refine ⟨K1,h1,h2,?_⟩
 show RelL K1 _ [ev l x] _
 rw [e]
 exact .cons (agg4_rel h3) .nil
theorem frozen_pc {K K1:Fz} {v:Value} {gs:List GV} (hk:KLe K K1) (hp:∀ g∈gs,g.pc=true) (h:Rel K β v (.agg gs)):Rel K1 (fun _=>.no) v (.agg gs):=by
 cases h with
 | agg vs cs hl h =>
  exact .agg vs gs hl fun i v g h1 h2=>((h i v g h1 h2).mono hk (BLe.refl β)).pc (hp g (List.mem_of_getElem? h2))
theorem encSrc_pc (p:Src):∀ g∈encSrc p,g.pc=true:=fun g hg=>by
 simp only [encSrc,List.mem_cons,List.not_mem_nil,or_false] at hg
 rcases hg with rfl | rfl | rfl | rfl <;> rfl
theorem borrow_srcs {x y:Operand} (H:SrcH p hg ha hf hn fs ns) (hI:Inv B K β (A++(srcO p hg ha hf hn fs ns++C)) w) (hF:FR K β fr l) (hx:gev fr x=.agg [.v hg,.v ha,.v hf,.v hn]) (hy:gev fr y=.agg (encSrc p)) :
  ∃ K1,FzOk K1 w∧Tabs K1 (fun _=>.no) w∧RelL K1 (fun _=>.no) ([x,y].map (ev l)) [.agg (encSrc p),.agg (encSrc p)]:=by
 obtain ⟨K1,hk,h1,h2,h3⟩:=src_view H hI
 have hr:=hF.ev x
 rw [hx] at hr
 have e:=agg4_inv hr
 have hr2:=hF.ev y
 rw [hy] at hr2
 refine ⟨K1,h1,h2,?_⟩
 show RelL K1 _ [ev l x,ev l y] _
 rw [e]
 exact .cons (agg4_rel h3) (.cons (frozen_pc hk (encSrc_pc p) hr2) .nil)
theorem borrow_strs {x y:Operand} {r:List Str} {h:Value} (hI:Inv B K β (A++(X++[.vech 9 1 (strR r) h])) w) (hF:FR K β fr l) (hx:gev fr x=.v h) (hy:gev fr y=strs r) :
  ∃ K1,FzOk K1 w∧Tabs K1 (fun _=>.no) w∧RelL K1 (fun _=>.no) ([x,y].map (ev l)) [strs r,strs r]:=by
 obtain ⟨K1,hk,h1,h2,h3⟩:=hI.view (i:=A.length+X.length) (E:=9) (k:=1) (rows:=strR r) (x:=h) (by rw [←List.append_assoc,List.getElem?_append_right (by rw [List.length_append];exact Nat.le_refl _),List.length_append,Nat.sub_self];rfl)
 have hr:=hF.ev y
 rw [hy] at hr
 refine ⟨K1,h1,h2,?_⟩
 show RelL K1 _ [ev l x,ev l y] _
 rw [hF.evv hx]
 exact .cons h3 (.cons ((hr.mono hk (BLe.refl β)).pc rfl) .nil)
theorem borrow_strs2 {x y:Operand} {r:List Str} {h:Value} {o:Ob} (hI:Inv B K β (A++(X++[o,.vech 9 1 (strR r) h])) w) (hF:FR K β fr l) (hx:gev fr x=.v h) (hy:gev fr y=strs r) :
  ∃ K1,FzOk K1 w∧Tabs K1 (fun _=>.no) w∧RelL K1 (fun _=>.no) ([x,y].map (ev l)) [strs r,strs r]:=by
 refine borrow_strs (B:=B) (A:=A) (X:=X++[o]) (h:=h) ?_ hF hx hy
 rw [List.append_assoc];exact hI
theorem borrow_marks {x y:Operand} {n:Nat} {h z:Value} (hI:Inv B K β (A++(X++(.vech 9 1 (marks 1 n) h::C))) w) (hF:FR K β fr l) (hx:gev fr x=.v h) (hy:gev fr y=.v z) :
  ∃ K1,FzOk K1 w∧Tabs K1 (fun _=>.no) w∧RelL K1 (fun _=>.no) ([x,y].map (ev l)) [.sl 1 (marks 1 n),.v z]:=by
 obtain ⟨K1,hk,h1,h2,h3⟩:=hI.view (i:=A.length+X.length) (E:=9) (k:=1) (rows:=marks 1 n) (x:=h) (by rw [←List.append_assoc,List.getElem?_append_right (by rw [List.length_append];exact Nat.le_refl _),List.length_append,Nat.sub_self];rfl)
 refine ⟨K1,h1,h2,?_⟩
 show RelL K1 _ [ev l x,ev l y] _
 rw [hF.evv hx,hF.evv hy]
 exact .cons h3 (.cons (.v _) .nil)
end
theorem nmI_len {p:Src} (hw:wSrc p≤1048576):(nmI p).length≤1048576:=by
 unfold nmI
 split
 ·rw [namesI_len]
  unfold wSrc at hw
  have h1:=wS_len p.globals
  have h2:=sumL_len (fun a:Ar=>a.name.length+1) p.arrays fun a _=>by omega
  have h3:=sumL_len (fun f:Go.Sp.Fn=>f.name.length+wS f.params+1) p.fns fun f _=>by omega
  omega
 ·simp
end Go.Xg
set_option maxHeartbeats 4000000
namespace Go.Xg
open Go.RowKit Go.Xw Go.Proofs
open Go.Sp (Src)
open Go.Im
attribute [local irreducible] GW GL GO YG GC GA gthn ginb
theorem FnExactNames_big (p:Src) (hS:GF Tryz.prog 13 [.agg (encSrc p),.v (ii 1048576)] [] (.v (ii (-1))) []):GF Tryz.prog 5 [.agg (encSrc p)] [] (.v (.bool true)) []:=by
 refine GC.enter Tryz.func5 Tryz.ntmps5 rfl (by simp only [gframe,grep,Nat.reduceSub];rfl) ?_
 refine w_grun ?_
 refine w_gcall [] (hS) ?_
 refine w_grun ?_
 refine w_gret ?_
 exact ⟨rfl,rfl⟩
theorem FnExactNames_ok (p:Src) (n:Nat) (r:List Str) (hw:wSrc p≤1048576) (hr:r.length≤1048576) (hS:GF Tryz.prog 13 [.agg (encSrc p),.v (ii 1048576)] [] (.v (ii (n:Nat))) [])
  (hT:GF Tryz.prog 14 [.agg (encSrc p)] [] (.agg (encSrc p)) [])
  (hO:GC Tryz.prog 14 [.agg (encSrc p)] [] fun g Δ=>∃ hg ha hf hn fs ns,SrcH p hg ha hf hn fs ns∧g=.agg [.v hg,.v ha,.v hf,.v hn]∧Δ=srcO p hg ha hf hn fs ns)
  (hG:GF Tryz.prog 16 [.agg (encSrc p)] [] (strs r) [])
  (hI:GC Tryz.prog 17 [.agg (encSrc p)] [] fun g Δ=>∃ a c,g=.v (.slice a r.length c)∧Δ=[.vech 9 1 (strR r) (.slice a r.length c)])
  (hE:GF Tryz.prog 15 [.agg (encSrc p),.agg (encSrc p)] [] (.v (.bool true)) []) :
  GF Tryz.prog 5 [.agg (encSrc p)] [] (.v (.bool true)) []:=by
 have hd:decide (((n:Nat):Int) < 0)=false:=by simp
 have hQ:=eqStringS_g r hr
 have hMk:=markStringS_g
 have hHd:=heldStringS_g 1 r.length (by omega)
 have hd2:decide (((1+r.length:Nat):Int) < 0)=false:=decide_eq_false (by omega)
 have hd3:(((1+r.length:Nat):Int) != ((1+r.length:Nat):Int))=false:=by simp
 have hrl:=strR_len r
 refine GC.enter Tryz.func5 Tryz.ntmps5 rfl (by simp only [gframe,grep,Nat.reduceSub];rfl) ?_
 refine w_grun ?_
 refine w_gcall [] (hS) ?_
 refine w_grun ?_
 refine w_gcall [] (hT) ?_
 refine w_grun ?_
 refine w_gcall [] (hG) ?_
 refine w_grun ?_
 refine w_gcallr [] (hO) ?_
 rintro _ _ ⟨hg,ha,hf,hn,fs,ns,H,rfl,rfl⟩
 have hSH:=srcO_isH p hg ha hf hn fs ns
 have hM:=markSource_o p hg ha hf hn fs ns H 1 hw (by omega)
 have hV:=@src_view
 obtain ⟨⟨q0,q1,rfl⟩,⟨q2,q3,rfl⟩,⟨q4,q5,rfl⟩,⟨q6,q7,rfl⟩,hH1,hH2,hH3,hH4⟩:=id H
 rw [map_isH hSH]
 refine w_gsim ?_
 refine GL.newF rfl rfl rfl rfl rfl rfl rfl ?_
 refine w_gnm ?_
 refine w_grun ?_
 refine GL.borrowN hI hrl (fun r hr g hg=>by obtain ⟨s,_,rfl⟩:=List.mem_map.1 hr;rw [List.mem_singleton.1 hg];exact ⟨_,rfl⟩) (fun B K β w l hI hF=>borrow_args H (A:=[_]) (C:=[]) (by rw [List.append_nil];exact hI) hF rfl) ?_
 intro ag cg
 refine w_gnm ?_
 refine w_grun ?_
 refine GL.borrow hQ (fun B K β w l hI hF=>borrow_strs (A:=[_]) (X:=srcO p _ _ _ _ fs ns) hI hF rfl rfl) ?_
 refine w_gnm ?_
 refine w_grun ?_
 refine GW.draw (.q 0 (.q 1 (.a 2 (.a 3 (.q 4 .nil))))) (by kernel_rfl) (by kernel_rfl) ?_
 refine w_gorun ?_
 refine w_gocall [] (hT) ?_
 simp only [List.append_nil]
 refine w_gorun ?_
 refine OA rfl rfl (GL.borrow hE (fun B K β w l hI hF=>borrow_srcs H (A:=[_]) hI hF rfl rfl) ?_)
 refine w_gaft ?_
 refine w_gorun ?_
 refine w_grun ?_
 refine GL.callBlk [_] (srcO p _ _ _ _ fs ns) [_] hM rfl hSH (fun _=>rfl) (w_gls) ?_
 rintro _ Δ ⟨k',rfl,hΔ,hΔH⟩
 refine ⟨hΔ,hΔH,fun _=>rfl,?_⟩
 have hdk:decide (((k':Nat):Int) < 0)=false:=by simp
 refine w_gnm ?_
 refine w_grun ?_
 refine GL.borrow hQ (fun B K β w l hI hF=>borrow_strs (A:=[_]) (X:=Δ) hI hF rfl rfl) ?_
 refine w_gnm ?_
 refine w_grun ?_
 refine GL.callBlk (_::Δ) [_] [] (hMk ag cg r.length 1 (strR r) hrl (by omega)) rfl (by intro x hx;rw [List.mem_singleton.1 hx];rfl) (fun _=>rfl) (w_gls) ?_
 rintro _ _ ⟨rfl,rfl⟩
 refine ⟨rfl,by intro x hx;rw [List.mem_singleton.1 hx];rfl,fun _=>rfl,?_⟩
 refine w_gnm ?_
 refine w_grun ?_
 refine GL.borrow hHd (fun B K β w l hI hF=>borrow_marks (A:=[_]) (X:=Δ) (C:=[]) hI hF rfl rfl) ?_
 refine w_gnm ?_
 refine w_grun ?_
 refine w_gcall [] (hT) ?_
 simp only [List.append_nil]
 refine w_grun ?_
 refine w_gcallr [] (hI) ?_
 rintro _ _ ⟨a2,c2,rfl,rfl⟩
 refine w_gsim ?_
 refine w_grun ?_
 refine GL.borrow hQ (fun B K β w l hI hF=>by rw [List.append_assoc] at hI;exact borrow_strs2 (A:=[_]) (X:=Δ) hI hF rfl rfl) ?_
 refine w_gnm ?_
 refine w_grun ?_
 refine GL.borrow hHd (fun B K β w l hI hF=>by rw [List.append_assoc] at hI;exact borrow_marks (A:=[_]) (X:=Δ) hI hF rfl rfl) ?_
 refine w_gnm ?_
 refine w_grun ?_
 refine w_gret ?_
 exact ⟨rfl,rfl⟩
theorem FnExactNames_g (p:Src) (hb:Small p 9223372036854775807) (hn:Nums p):GF Tryz.prog 5 [.agg (encSrc p)] [] (.v (.bool true)) []:=by
 have hS:=szSource_g p hb
 by_cases hw:1048576 < wSrc p
 ·rw [szR_no hw] at hS
  exact FnExactNames_big p hS
 ·rw [szR_ok (by omega)] at hS
  have hw:wSrc p≤1048576:=by omega
  obtain ⟨⟨a1,a2⟩,⟨b1,b2⟩,⟨c1,c2⟩,⟨d1,d2⟩⟩:=small_w p
  have hfp:∀ f∈p.fns,f.params.length≤1048576:=fun f h=>by have:=(c2 f h).2.1;omega
  have hnk:∀ n∈p.nodes,n.kids.length≤1048576:=fun n h=>by have:=(d2 n h).2;omega
  exact FnExactNames_ok p _ (nmI p) hw (nmI_len hw) hS (toSource_g p (by omega) (by omega) (by omega) hfp (by omega) hnk) (toSource_o p (by omega) (by omega) (by omega) hfp (by omega) hnk) (Names_g p hw) (Names_i p hw hn) (eqSource_g p (by omega) (by omega) (by omega) hfp (by omega) hnk)
end Go.Xg
namespace Go.Proofs.YtaopilmekfecpaaGreatDoor.fnExactNames
open Go.ChangeShapes Go.WideShapes Go.ChangeAt Go.RowKit
open Go.ChangeMaps (open_string shut_string)
theorem own:ownKnob Tryz.prog.godebug=none:=by kernel_rfl
theorem walk (W:World) (v:Value) (p:Go.Sp.Src) (hv:Go.Xg.Rel (Go.Xg.KW W) (fun _=>.no) v (.agg (Go.Xg.encSrc p))) (hb:Go.Im.Small p 9223372036854775807) (hn:Go.Im.Nums p) (hT:Go.Xg.Tabs (Go.Xg.KW W) (fun _=>.no) W) :
  Calls Tryz.prog 5 #[v] W fun e w'=>e=.returned (.bool true)∧Below W.heap.size W w':=by
 have h:=(Go.Xg.FnExactNames_g p hb hn).calls (W:=W) (vs:=[v]) (.cons hv .nil) hT
 refine Calls.mono h ?_
 rintro e w' ⟨x,rfl,hx,K,β,hr⟩
 exact ⟨by rw [hr.v_inv],hx⟩
theorem contract (H:Type) (enc:TypeId × Value→H) (W:World) (base:Nat) (args:Array Value) (ds gs:List (DataW H)) (before:List MemPlace)
  (hval:∀ (j:Nat) t v,Tryz.f5.params[j]?=some t→args[j]?=some v→Value.okWide Tryz.prog W .any base t v)
  (hW:DataW.Whole enc Tryz.prog Tryz.f5.params.toList Rows.fnExactNamesSpec.vars false W args.toList ds gs before) (hL:laidMetH Tryz.prog Rows.fnExactNamesRow.laid W) (hS:W.ShapedOpen Tryz.prog) :
  Calls Tryz.prog 5 args W fun e W'=>∃ v,e=.returned v∧Rows.fnExactNamesSpec.post enc Tryz.prog Tryz.f5 false true false false W args v W':=by
 have hW':=hW
 obtain ⟨p,q,hA0,hV,rfl,hfz,hnd⟩:=hW
 have hA:DataW.TrodAll enc Tryz.prog W 0 (fun _=>true) true Tryz.f5.params.toList args.toList ds p:=hA0
 rw [Tryz.params5] at hA hval
 obtain ⟨v0,vs0,d0,ds0,p0,q0,hargs,rfl,rfl,h0,r0⟩:=trodAll_cons hA
 obtain ⟨rfl,rfl,rfl⟩:=trodAll_nil r0
 obtain rfl:args=#[v0]:=by cases args;simp_all
 obtain ⟨rfl,rfl⟩:=trodVars_none hV
 obtain ⟨s,hs1,hs2,hs3⟩:=Go.Xg.open_src (fun _=>.no) (hval 0 39 v0 rfl rfl) h0
 clear hA0 hval
 simp only [List.append_nil] at hW'
 have hlt:∀ x∈p0,x.block < W.heap.size:=fun x hx=>hW'.lt x (by simpa using hx)
 have hT:Go.Xg.Tabs (Go.Xg.KW W) (fun _=>.no) W:=by
  have hl:laidMet Tryz.prog Rows.fnExactNamesRow.laid W:=hL
  exact Go.Xg.tabs_of (Go.Lib.laidMet.reads hl (.tail _ (.tail _ (.head _)))) (Go.Lib.laidMet.reads hl (.tail _ (.tail _ (.tail _ (.tail _ (.head _)))))) hS
 refine (walk W v0 s hs1 hs2 hs3 hT).mono fun e W' ⟨he,hg⟩=>?_
 subst he
 exact ⟨_,rfl,Go.Xw.post_of_below (pa:=p0) (pv:=[]) hW' (fun _ _ _=>(trodAll_cons_mk (shut_bool Tryz.underlying4 _) trodAll_mk0))
  (fun sp hsp=>by
   have:=trodAll_cons_mk (WideElems.Trod_stays (by kernel_rfl) (by kernel_rfl) (of_decide_eq_true (by kernel_rfl)) h0 (fun x hx=>hg.same (hlt x hx)) (fun x hx=>hsp x (by simpa using hx))) (trodAll_mk0)
   simp only [List.append_nil] at this
   exact this)
  (fun _ _=>rfl) (by simp) hg (ok_one (by kernel_rfl) rfl (okWide_bool_mk Tryz.underlying4 _))⟩
open Go.ChangeShapes Go.WideShapes Go.ChangeAt Go.RowKit
noncomputable def laidWorld (os:Os):World :=
 let N:=(World.settled Tryz.prog os).heap.size
 let w0:=World.holding Tryz.prog os ⟨#[.cells #[.int .u16 9,.int .u16 13,.int .u16 1,.int .u16 32,.int .u16 133,.int .u16 101,.int .u16 160,.int .u16 5760,.int .u16 5600,.int .u16 8192,.int .u16 8202,.int .u16 1,.int .u16 8232,.int .u16 8233,.int .u16 1,.int .u16 8239,.int .u16 8287,.int .u16 48,.int .u16 12288,.int .u16 12288,.int .u16 1] 247,
  .cells #[.slice (some ⟨N,0,none⟩) 7 7,.slice none 0 0,.int .i64 2] 244],#[],[]⟩
 let put (h:Array Obj) (g:Nat) (cs:Array Value):Array Obj:=h.modify g fun
  | .cells _ t frozen=>.cells cs t frozen
  | o=>o
 let ints (d:DataW Unit):Array Value:=match d with
  | .agg l=>(l.map fun x=>match x with | .lit (.int k z)=>Value.int k z | _=>.bool false).toArray
  | _=>#[]
 let h1:=put w0.heap 4 (ints Rows.laid_math_bits_deBruijn32tab)
 let h2:=put h1 5 (ints Rows.laid_math_bits_deBruijn64tab)
 let h3:=put h2 1 (ints Rows.laid_internal_strconv_uint64pow10)
 let h4:=put h3 2 (ints Rows.laid_strings_asciiSpace)
 let h5:=put h4 3 #[.pointer (some ⟨N+1,0,none⟩)]
 { w0 with heap:=h5 }
def wargs:Array Value:=#[.agg #[.slice none 0 0,.slice none 0 0,.slice none 0 0,.slice none 0 0]]
theorem laid_met (os:Os):laidMet Tryz.prog Rows.fnExactNamesRow.laid ((laidWorld os).forCall (fun _ _=>0) ⟨#[],wargs,[]⟩).memory :=
 laidMet_of_run' 10 (by kernel_rfl) (by kernel_rfl)
theorem witness_row (os:Os) {H:Type} (enc:TypeId × Value→H) :
  (OpenSpec.ofChange Rows.fnExactNamesSpec).preRow enc Tryz.prog Tryz.f5 Rows.fnExactNamesRow.domain false Rows.fnExactNamesRow.laid ((laidWorld os).forCall (fun _ _=>0) ⟨#[],wargs,[]⟩).memory wargs:=by
 have hw:(DataW.whole enc Tryz.prog ((laidWorld os).forCall (fun _ _=>0) ⟨#[],wargs,[]⟩).memory Tryz.f5.params.toList Rows.fnExactNamesSpec.vars false wargs.toList 8).map (fun x=>(x.1,x.2.1)) =
   some ([.agg [.nil,.nil,.nil,.nil]],[]):=by kernel_rfl
 obtain ⟨⟨x1,x2,x3⟩,hx,hx1⟩:=Option.map_eq_some_iff.1 hw
 simp only [Prod.mk.injEq] at hx1
 obtain ⟨rfl,rfl⟩:=hx1
 exact OpenSpec.preRow_of_cond 8 hx (by kernel_rfl) (fun k hk=>by cases hk) (by kernel_rfl) (laid_met os)
set_option maxRecDepth 100000 in
theorem lifted (os:Os) (started:os.Started) (H:Type) (enc:TypeId × Value→H) (F:Stop.Interp) :
  ReturnsInHanded {} Tryz.checked os 5 .any ((OpenSpec.ofChange Rows.fnExactNamesSpec).preRow enc Tryz.prog Tryz.f5 Rows.fnExactNamesRow.domain false Rows.fnExactNamesRow.laid) (((OpenSpec.ofChange Rows.fnExactNamesSpec).at F).post enc Tryz.prog Tryz.f5 false true false false):=by
 refine returnsInHanded_of_row (C:=Tryz.checked) (s:=OpenSpec.ofChange Rows.fnExactNamesSpec) own started (by kernel_rfl) Tryz.func5
  (witness_row_atRef (enc:=enc) (C:=Tryz.checked) false (laidWorld os) wargs rfl (by kernel_rfl) (by kernel_rfl) (by kernel_rfl) (witness_row os enc)) ?_
 intro W base args ds gs before hval hW _ _ _ hL hS _
 exact contract H enc W base args ds gs before hval hW hL hS
theorem said:Rows.FnExactNamesSaid :=
 OpenClaim.holds_of_cond 5 Tryz.f5 rfl rfl rfl rfl rfl rfl rfl ⟨rfl,rfl,rfl,rfl,rfl⟩ rfl rfl rfl rfl rfl (by kernel_rfl) Tryz.func5 (by kernel_rfl)
  (of_decide_eq_true (by kernel_rfl)) (by unfold Func.isWrapper;first | (rw [if_pos (by decide +kernel)];kernel_rfl) | (rw [if_neg (by decide +kernel)];exact ⟨rfl,rfl⟩))
  (fun os started H enc _ F=>by rw [OpenClaim.pre_eq_preRow];exact lifted os started H enc F)
theorem plain (f:FuncId) (fn:Func) (hf:Tryz.pinned.checked.prog.funcNamed "loop.example/g00472/laws.FnExactNames" = some f) (hfn:Tryz.pinned.checked.prog.funcs[f]?=some fn) :
  false=Tryz.pinned.checked.prog.looks []∧∀ (j:Nat) t,fn.params[j]?=some t→Tryz.pinned.checked.prog.wantsStandIn t=false:=by
 obtain rfl:f=5:=Option.some.inj ((show Tryz.prog.funcNamed "loop.example/g00472/laws.FnExactNames" = some 5 by kernel_rfl).symm.trans hf) |>.symm
 obtain rfl:fn=Tryz.f5:=(Option.some.inj (Tryz.func5.symm.trans hfn)).symm
 refine ⟨by kernel_rfl,fun j t ht=>?_⟩
 rw [Tryz.params5] at ht
 have hp0:Tryz.prog.wantsStandIn 39=false:=by kernel_rfl
 have ht':t=39:=by simpa using Array.mem_of_getElem? ht
 subst ht';exact hp0
theorem proved:Rows.FnExactNamesCardSaid :=
 Claim7.holds_tied_plain_at .later [] _ _ _ _ said (fun _ h=>by cases h) (by kernel_rfl) (fun _ h=>by cases h) fnExactNames_row_tie rfl ⟨rfl,rfl⟩ (by kernel_rfl) rfl plain (by kernel_rfl)
#print axioms proved
end Go.Proofs.YtaopilmekfecpaaGreatDoor.fnExactNames
