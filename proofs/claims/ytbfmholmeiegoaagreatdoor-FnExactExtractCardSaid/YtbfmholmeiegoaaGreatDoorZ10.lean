/- Part 10 of proofs that are told in their last texts. -/
import Derived.Test.YtbfmholmeiegoaaGreatDoorZ2
import Derived.Test.YtbfmholmeiegoaaGreatDoorZ5
import Derived.Test.YtbfmholmeiegoaaGreatDoorZ9
import Derived.Test.YtbfmholmeiegoaaGreatDoorZ8
set_option linter.unusedVariables false
set_option linter.unusedSimpArgs false
set_option maxRecDepth 100000
set_option maxHeartbeats 2000000
namespace Go
theorem zc4 {A B:Prop} (h:B) (s:PLift B->A:=by intro hQ;refine zaW ?_;refine GL.q (YG.YH (by kernel_rfl) rfl rfl) ?_;refine zaW ?_;exact hQ.1):A:=s ⟨h⟩
end Go
namespace Go.Xg
open Go.RowKit Go.Xw Go.Proofs Tryz
open GV (U)
open Go.Xp (Nd Ar)
open Go.Sp (Src)
open Go.Im (wS eo bj pK ud iY eM pJ pI pH)
attribute [local irreducible] GW GL GO YG GC GA aW aZ
theorem Tp (l:List Int) (left:Nat) (hl:l.length<=9223372036854775807) (yr:left<=1048576):GF prog 134 [ints l,.v (ii (left:Nat))] [] (.v (ii (ud l.length left))) []:=by
 have hm:(l.map fun i=>[GV.v (ii i)]).length=l.length:=by simp
 by_cases h0:left < l.length
 ·have hd:decide ((left:Int) - ((l.map fun i=>[GV.v (ii i)]).length:Int) < 0)=true:=by rw [hm];simpa using by omega
  rw [eM h0];refine ah func134 ntmps134 ?_;exact al
 ·have hd:decide ((left:Int) - ((l.map fun i=>[GV.v (ii i)]).length:Int) < 0)=false:=by rw [hm];simpa using by omega
  rw [iY G,show ((left - l.length:Nat):Int)=(left:Int) - ((l.map fun i=>[GV.v (ii i)]).length:Int) by rw [hm];omega];refine ah func134 ntmps134 ?_;exact al
theorem BU (l:List ae) (left:Nat) (hl:l.length<=9223372036854775807) (he:∀ x∈l,x.length<=9223372036854775807) (yr:left<=1048576):GF prog 17 [strs l,.v (ii (left:Nat))] [] (.v (ii (ud (wS l) left))) []:=by
 have hm:(l.map (fun s=>[GV.v (sv s)])).length=l.length:=by simp
 have ht:wS l=l.length+bj (fun x:ae=>x.length) l:=pJ _ l
 by_cases h0:left < l.length
 ·have hd:decide ((left:Int) - ((l.map (fun s=>[GV.v (sv s)])).length:Int) < 0)=true:=by rw [hm];simpa using by omega
  rw [eM G];refine ah func17 ntmps17 ?_;exact al
 have hd:decide ((left:Int) - ((l.map (fun s=>[GV.v (sv s)])).length:Int) < 0)=false:=by rw [hm];simpa using by omega
 rw [ht];refine ah func17 ntmps17 ?_;refine GW.loop (fun k:Nat × Int=>l.length - k.1) (fun k fr Γ=>fr=[strs l,.v (ii k.2),U,U,U,.v (ii (k.1:Nat)),U,U,U,U,U,U,U,U,U,U,U,U,U,U,U,U,U,U,U,U,U,U]/\Γ=[]/\k.1<=l.length/\k.2=(left:Int) - ((l.length+bj (fun x:ae=>x.length) (l.take k.1):Nat):Int)/\0<=k.2) (0,(left:Int) - ((l.map (fun s=>[GV.v (sv s)])).length:Int)) ?_ ?_
 ·exact zaZ
 rintro ⟨k,z⟩ _ _ ⟨rfl,rfl,hk,hz,Hn⟩;simp only at hk hz Hn
 have PG:z<=1048576:=by omega
 by_cases aj:k < l.length
 ·have hx:l[k]?=some l[k]:=by simp [aj]
  have hr:(l.map (fun s=>[GV.v (sv s)]))[k]?=some ([GV.v (sv l[k])]):=by rw [aS,hx];rfl
  have dW:decide ((k:Int) < ((l.map (fun s=>[GV.v (sv s)])).length:Int))=true:=by rw [hm];simpa using aj
  have jQ:=pI (w:=fun x:ae=>x.length) hx;have hle:=pK (fun x:ae=>x.length) l (k+1);have hex:=he _ (br hx);generalize l[k]=x at *
  by_cases I:z < ((x.length:Nat):Int)
  ·have Db:decide (z - ((x.length:Nat):Int) < 0)=true:=by simpa using by omega
   rw [eM G];exact ax
  ·have Db:decide (z - ((x.length:Nat):Int) < 0)=false:=by simpa using by omega
   refine D ?_;exact ⟨(k+1,z - ((x.length:Nat):Int)),⟨_,_,Wk.aC ak,rfl,rfl,aj,by simp only;omega,by simp only;omega⟩,by simp only;omega⟩
 ·have dW:decide ((k:Int) < ((l.map (fun s=>[GV.v (sv s)])).length:Int))=false:=by rw [hm];simpa using aj
  have nA:k=l.length:=by omega
  subst nA;rw [bH] at hz;rw [iY G,show ((left - (l.length+bj (fun x:ae=>x.length) l):Nat):Int)=z by omega];exact zaF
theorem QP (x:Ar) (left:Nat) (hs:x.name.length<=9223372036854775807) (yr:left<=1048576):GF prog 76 [.agg (aB x),.v (ii (left:Nat))] [] (.v (ii (ud (x.name.length) left))) []:=by
 by_cases h0:left < x.name.length
 ·have hd:decide ((left:Int) - ((x.name.length:Nat):Int) < 0)=true:=by simpa using by omega
  rw [eM G];refine ah func76 ntmps76 ?_;exact al
 have hd:decide ((left:Int) - ((x.name.length:Nat):Int) < 0)=false:=by simpa using by omega
 rw [iY G,show ((left - (x.name.length):Nat):Int)=(left:Int) - ((x.name.length:Nat):Int) by omega];refine ah func76 ntmps76 ?_;exact al
theorem Nt (l:List Ar) (left:Nat) (hl:l.length<=9223372036854775807) (he:∀ x∈l,x.name.length<=9223372036854775807) (yr:left<=1048576):GF prog 18 [.sl 2 (l.map aB),.v (ii (left:Nat))] [] (.v (ii (ud (bj (fun a:Ar=>a.name.length+1) l) left))) []:=by
 have hm:(l.map aB).length=l.length:=by simp
 have ht:bj (fun a:Ar=>a.name.length+1) l=l.length+bj (fun x:Ar=>x.name.length) l:=pJ _ l
 by_cases h0:left < l.length
 ·have hd:decide ((left:Int) - ((l.map aB).length:Int) < 0)=true:=by rw [hm];simpa using by omega
  rw [eM G];refine ah func18 ntmps18 ?_;exact al
 have hd:decide ((left:Int) - ((l.map aB).length:Int) < 0)=false:=by rw [hm];simpa using by omega
 rw [ht];refine ah func18 ntmps18 ?_;refine GW.loop (fun k:Nat × Int=>l.length - k.1) (fun k fr Γ=>fr=[.sl 2 (l.map aB),.v (ii k.2),U,U,U,.v (ii (k.1:Nat)),U,U,U,U,U,U,U,U,U,U,U,U,U,U,U,U,U,U,U,U,U]/\Γ=[]/\k.1<=l.length/\k.2=(left:Int) - ((l.length+bj (fun x:Ar=>x.name.length) (l.take k.1):Nat):Int)/\0<=k.2) (0,(left:Int) - ((l.map aB).length:Int)) ?_ ?_
 ·exact zaZ
 rintro ⟨k,z⟩ _ _ ⟨rfl,rfl,hk,hz,Hn⟩;simp only at hk hz Hn
 have PG:z<=1048576:=by omega
 by_cases aj:k < l.length
 ·have hx:l[k]?=some l[k]:=by simp [aj]
  have hr:(l.map aB)[k]?=some (aB l[k]):=by rw [aS,hx];rfl
  have dW:decide ((k:Int) < ((l.map aB).length:Int))=true:=by rw [hm];simpa using aj
  have jQ:=pI (w:=fun x:Ar=>x.name.length) hx;have hle:=pK (fun x:Ar=>x.name.length) l (k+1);have hex:=he _ (br hx);generalize l[k]=x at *;obtain ⟨y,rfl⟩:∃ y:Nat,z=(y:Int):=⟨z.toNat,by omega⟩;have hc:=QP x y G G
  by_cases I:y < x.name.length
  ·exact zdq
  ·rw [iY G] at hc
   have Db:decide (((y - (x.name.length):Nat):Int) < 0)=false:=by simp
   refine zaR ?_;exact ⟨(k+1,((y - (x.name.length):Nat):Int)),⟨_,_,Wk.aC ak,rfl,rfl,aj,by simp only;omega,by simp only;omega⟩,by simp only;omega⟩
 ·have dW:decide ((k:Int) < ((l.map aB).length:Int))=false:=by rw [hm];simpa using aj
  have nA:k=l.length:=by omega
  subst nA;rw [bH] at hz;rw [iY G,show ((left - (l.length+bj (fun x:Ar=>x.name.length) l):Nat):Int)=z by omega];exact zaF
theorem Ze (x:Go.Sp.Fn) (left:Nat) (hs:x.name.length<=9223372036854775807) (hp:x.params.length<=9223372036854775807) (hq:∀ s∈x.params,s.length<=9223372036854775807) (yr:left<=1048576):GF prog 77 [.agg (au x),.v (ii (left:Nat))] [] (.v (ii (ud (x.name.length+wS x.params) left))) []:=by
 by_cases h0:left < x.name.length
 ·have hd:decide ((left:Int) - ((x.name.length:Nat):Int) < 0)=true:=by simpa using by omega
  rw [eM G];refine ah func77 ntmps77 ?_;exact al
 have hd:decide ((left:Int) - ((x.name.length:Nat):Int) < 0)=false:=by simpa using by omega
 have hc:=BU x.params (left - x.name.length) hp hq G;rw [show ((left - x.name.length:Nat):Int)=(left:Int) - ((x.name.length:Nat):Int) by omega] at hc
 by_cases I:left - x.name.length < wS x.params
 ·rw [eM G] at hc |-;refine ah func77 ntmps77 ?_;exact zbe
 ·rw [iY G] at hc |-;rw [show left - x.name.length - wS x.params=left - (x.name.length+wS x.params) by omega] at hc
  have dW:decide (((left - (x.name.length+wS x.params):Nat):Int) < 0)=false:=by simp
  refine ah func77 ntmps77 ?_;exact zbe
theorem Wt (l:List Go.Sp.Fn) (left:Nat) (hl:l.length<=9223372036854775807) (he:∀ x∈l,x.name.length<=9223372036854775807/\x.params.length<=9223372036854775807/\∀ s∈x.params,s.length<=9223372036854775807) (yr:left<=1048576):GF prog 19 [.sl 3 (l.map au),.v (ii (left:Nat))] [] (.v (ii (ud (bj (fun f:Go.Sp.Fn=>f.name.length+wS f.params+1) l) left))) []:=by
 have hm:(l.map au).length=l.length:=by simp
 have ht:bj (fun f:Go.Sp.Fn=>f.name.length+wS f.params+1) l=l.length+bj (fun x:Go.Sp.Fn=>x.name.length+wS x.params) l:=pJ _ l
 by_cases h0:left < l.length
 ·have hd:decide ((left:Int) - ((l.map au).length:Int) < 0)=true:=by rw [hm];simpa using by omega
  rw [eM G];refine ah func19 ntmps19 ?_;exact al
 have hd:decide ((left:Int) - ((l.map au).length:Int) < 0)=false:=by rw [hm];simpa using by omega
 rw [ht];refine ah func19 ntmps19 ?_;refine GW.loop (fun k:Nat × Int=>l.length - k.1) (fun k fr Γ=>fr=[.sl 3 (l.map au),.v (ii k.2),U,U,U,.v (ii (k.1:Nat)),U,U,U,U,U,U,U,U,U,U,U,U,U,U,U,U,U,U,U,U,U]/\Γ=[]/\k.1<=l.length/\k.2=(left:Int) - ((l.length+bj (fun x:Go.Sp.Fn=>x.name.length+wS x.params) (l.take k.1):Nat):Int)/\0<=k.2) (0,(left:Int) - ((l.map au).length:Int)) ?_ ?_
 ·exact zaZ
 rintro ⟨k,z⟩ _ _ ⟨rfl,rfl,hk,hz,Hn⟩;simp only at hk hz Hn
 have PG:z<=1048576:=by omega
 by_cases aj:k < l.length
 ·have hx:l[k]?=some l[k]:=by simp [aj]
  have hr:(l.map au)[k]?=some (au l[k]):=by rw [aS,hx];rfl
  have dW:decide ((k:Int) < ((l.map au).length:Int))=true:=by rw [hm];simpa using aj
  have jQ:=pI (w:=fun x:Go.Sp.Fn=>x.name.length+wS x.params) hx;have hle:=pK (fun x:Go.Sp.Fn=>x.name.length+wS x.params) l (k+1);have hex:=he _ (br hx);generalize l[k]=x at *;obtain ⟨y,rfl⟩:∃ y:Nat,z=(y:Int):=⟨z.toNat,by omega⟩;have hc:=Ze x y hex.1 hex.2.1 hex.2.2 G
  by_cases I:y < x.name.length+wS x.params
  ·exact zdq
  ·rw [iY G] at hc
   have Db:decide (((y - (x.name.length+wS x.params):Nat):Int) < 0)=false:=by simp
   refine zaR ?_;exact ⟨(k+1,((y - (x.name.length+wS x.params):Nat):Int)),⟨_,_,Wk.aC ak,rfl,rfl,aj,by simp only;omega,by simp only;omega⟩,by simp only;omega⟩
 ·have dW:decide ((k:Int) < ((l.map au).length:Int))=false:=by rw [hm];simpa using aj
  have nA:k=l.length:=by omega
  subst nA;rw [bH] at hz;rw [iY G,show ((left - (l.length+bj (fun x:Go.Sp.Fn=>x.name.length+wS x.params) l):Nat):Int)=z by omega];exact zaF
theorem Tr (x:Nd) (left:Nat) (hs:x.s.length<=9223372036854775807) (hp:x.kids.length<=9223372036854775807) (yr:left<=1048576):GF prog 78 [.agg (ay x),.v (ii (left:Nat))] [] (.v (ii (ud (x.s.length+x.kids.length) left))) []:=by
 by_cases h0:left < x.s.length
 ·have hd:decide ((left:Int) - ((x.s.length:Nat):Int) < 0)=true:=by simpa using by omega
  rw [eM G];refine ah func78 ntmps78 ?_;exact al
 have hd:decide ((left:Int) - ((x.s.length:Nat):Int) < 0)=false:=by simpa using by omega
 have hc:=Tp x.kids (left - x.s.length) hp G;rw [show ((left - x.s.length:Nat):Int)=(left:Int) - ((x.s.length:Nat):Int) by omega] at hc
 by_cases I:left - x.s.length < x.kids.length
 ·rw [eM G] at hc |-;refine ah func78 ntmps78 ?_;exact zbe
 ·rw [iY G] at hc |-;rw [show left - x.s.length - x.kids.length=left - (x.s.length+x.kids.length) by omega] at hc
  have dW:decide (((left - (x.s.length+x.kids.length):Nat):Int) < 0)=false:=by simp
  refine ah func78 ntmps78 ?_;exact zbe
theorem QQ (l:List Nd) (left:Nat) (hl:l.length<=9223372036854775807) (he:∀ x∈l,x.s.length<=9223372036854775807/\x.kids.length<=9223372036854775807) (yr:left<=1048576):GF prog 20 [.sl 5 (l.map ay),.v (ii (left:Nat))] [] (.v (ii (ud (bj (fun n:Nd=>n.s.length+n.kids.length+1) l) left))) []:=by
 have hm:(l.map ay).length=l.length:=by simp
 have ht:bj (fun n:Nd=>n.s.length+n.kids.length+1) l=l.length+bj (fun x:Nd=>x.s.length+x.kids.length) l:=pJ _ l
 by_cases h0:left < l.length
 ·have hd:decide ((left:Int) - ((l.map ay).length:Int) < 0)=true:=by rw [hm];simpa using by omega
  rw [eM G];refine ah func20 ntmps20 ?_;exact al
 have hd:decide ((left:Int) - ((l.map ay).length:Int) < 0)=false:=by rw [hm];simpa using by omega
 rw [ht];refine ah func20 ntmps20 ?_;refine GW.loop (fun k:Nat × Int=>l.length - k.1) (fun k fr Γ=>fr=[.sl 5 (l.map ay),.v (ii k.2),U,U,U,.v (ii (k.1:Nat)),U,U,U,U,U,U,U,U,U,U,U,U,U,U,U,U,U,U,U,U,U]/\Γ=[]/\k.1<=l.length/\k.2=(left:Int) - ((l.length+bj (fun x:Nd=>x.s.length+x.kids.length) (l.take k.1):Nat):Int)/\0<=k.2) (0,(left:Int) - ((l.map ay).length:Int)) ?_ ?_
 ·exact zaZ
 rintro ⟨k,z⟩ _ _ ⟨rfl,rfl,hk,hz,Hn⟩;simp only at hk hz Hn
 have PG:z<=1048576:=by omega
 by_cases aj:k < l.length
 ·have hx:l[k]?=some l[k]:=by simp [aj]
  have hr:(l.map ay)[k]?=some (ay l[k]):=by rw [aS,hx];rfl
  have dW:decide ((k:Int) < ((l.map ay).length:Int))=true:=by rw [hm];simpa using aj
  have jQ:=pI (w:=fun x:Nd=>x.s.length+x.kids.length) hx;have hle:=pK (fun x:Nd=>x.s.length+x.kids.length) l (k+1);have hex:=he _ (br hx);generalize l[k]=x at *;obtain ⟨y,rfl⟩:∃ y:Nat,z=(y:Int):=⟨z.toNat,by omega⟩;have hc:=Tr x y hex.1 hex.2 G
  by_cases I:y < x.s.length+x.kids.length
  ·exact zdq
  ·rw [iY G] at hc
   have Db:decide (((y - (x.s.length+x.kids.length):Nat):Int) < 0)=false:=by simp
   refine zaR ?_;exact ⟨(k+1,((y - (x.s.length+x.kids.length):Nat):Int)),⟨_,_,Wk.aC ak,rfl,rfl,aj,by simp only;omega,by simp only;omega⟩,by simp only;omega⟩
 ·have dW:decide ((k:Int) < ((l.map ay).length:Int))=false:=by rw [hm];simpa using aj
  have nA:k=l.length:=by omega
  subst nA;rw [bH] at hz;rw [iY G,show ((left - (l.length+bj (fun x:Nd=>x.s.length+x.kids.length) l):Nat):Int)=z by omega];exact zaF
theorem Nv (p:Src) (L:Nat) (hL:L<=1048576) (hb:Go.Im.Small p 9223372036854775807):GF prog 6 [.agg (ar p),.v (ii (L:Nat))] [] (.v (ii (ud (eo p) L))) []:=by
 obtain ⟨⟨a1,a2⟩,⟨b1,b2⟩,⟨c1,c2⟩,⟨d1,d2⟩⟩:=hb;have I:=BU p.globals L a1 a2 hL;unfold eo;generalize wS p.globals=w1 at *
 by_cases q1:L < w1
 ·rw [eM q1] at I;rw [eM G];refine ah func6 ntmps6 ?_;refine V [] I ?_;exact al
 rw [iY G] at I
 have e1:decide (((L - w1:Nat):Int) < 0)=false:=by simp
 have M:=Nt p.arrays (L - w1) b1 b2 G;generalize bj (fun a:Ar=>a.name.length+1) p.arrays=w2 at *
 by_cases q2:L - w1 < w2
 ·rw [eM q2] at M;rw [eM G];refine ah func6 ntmps6 ?_;refine V [] I ?_;refine V [] M ?_;exact al
 rw [iY G] at M
 have e2:decide (((L - w1 - w2:Nat):Int) < 0)=false:=by simp
 have h3:=Wt p.fns (L - w1 - w2) c1 c2 G;generalize bj (fun f:Go.Sp.Fn=>f.name.length+wS f.params+1) p.fns=w3 at *
 by_cases q3:L - w1 - w2 < w3
 ·rw [eM q3] at h3;rw [eM G];refine ah func6 ntmps6 ?_;refine zci ?_;exact al
 rw [iY G] at h3
 have e3:decide (((L - w1 - w2 - w3:Nat):Int) < 0)=false:=by simp
 have h4:=QQ p.nodes (L - w1 - w2 - w3) d1 d2 G;generalize bj (fun n:Nd=>n.s.length+n.kids.length+1) p.nodes=w4 at *
 by_cases q4:L - w1 - w2 - w3 < w4
 ·rw [eM q4] at h4;rw [eM G];exact zeN
 rw [iY G] at h4
 have e4:decide (((L - w1 - w2 - w3 - w4:Nat):Int) < 0)=false:=by simp
 rw [iY G,show L - (w1+w2+w3+w4)=L - w1 - w2 - w3 - w4 by omega];exact zeN
theorem Nu (p:Src) (hb:Go.Im.Small p 9223372036854775807):GF prog 6 [.agg (ar p),.v (ii 1048576)] [] (.v (ii (ud (eo p) 1048576))) []:=Nv p 1048576 (aD _) hb
end Go.Xg
set_option maxHeartbeats 4000000
namespace Go.Xg
open Go.RowKit Go.Xw Go.Proofs Tryz Go.Im
open Go.Xp (Nd Ar)
open Go.Sp (Src)
theorem zp.plain {q:Src} {c:Bool} {g:GV} {Δ:List Ob} (h:zp q c g Δ):GV.Plain g/\∀ o∈Δ,Ob.plain o:=by
 obtain ⟨hg,ha,hf,hn,fs,ns,H,rfl,rfl⟩:=h;refine ⟨GV.Qs fun x hx=>?_,Nq⟩;simp only [List.mem_cons,List.not_mem_nil,or_false] at hx
 rcases hx with rfl | rfl
 ·refine GV.Qr fun x hx=>?_
  simp only [List.mem_cons,List.not_mem_nil,or_false] at hx
  rcases hx with rfl | rfl | rfl | rfl <;> exact GV.Lu _
 ·exact GV.Lu _
attribute [local irreducible] GW GL GO YG GC GA aW aZ
theorem zm (p:Src) (fn:Int) (hS:GF prog 6 [.agg (ar p),.v (ii 1048576)] [] (.v (ii (-1))) []):GF prog 5 [.agg (ar p),.v (ii fn)] [] (.v (.bool true)) []:=by
 refine ah func5 ntmps5 ?_;refine V [] hS ?_;exact al
theorem Bg (p q:Src) (cd:Bool) (fn:Int) (n:Nat) (hw:eo p<=1048576)
  (qC:q.globals.length<=1048576) (Dk:q.arrays.length<=1048576) (hq3:q.fns.length<=1048576) (hq4:q.nodes.length<=1048576) (hqt:1+tu q<=1099511627776) (lE:p.globals.length<=1048576) (et:p.arrays.length<=1048576) (ze:p.fns.length<=1048576) (KL:p.nodes.length<=1048576)
  (hS:GF prog 6 [.agg (ar p),.v (ii 1048576)] [] (.v (ii (n:Nat))) [])
  (hT:GF prog 8 [.agg (ar p)] [] (.agg (ar p)) [])
  (hO:GC prog 8 [.agg (ar p)] [] fun g Δ=>∃ hg ha hf hn fs ns,sO p hg ha hf hn fs ns/\g=.agg [.v hg,.v ha,.v hf,.v hn]/\Δ=iz p hg ha hf hn fs ns)
  (hG:GF prog 15 [.agg (ar p),.v (ii fn)] [] (.tup [.agg (ar q),.v (.bool cd)]) [])
  (hI:GC prog 16 [.agg (ar p),.v (ii fn)] [] (zp q cd))
  (hE:GF prog 10 [.agg (ar p),.agg (ar p)] [] (.v (.bool true)) [])
  (hQ:GF prog 10 [.agg (ar q),.agg (ar q)] [] (.v (.bool true)) []) :
  GF prog 5 [.agg (ar p),.v (ii fn)] [] (.v (.bool true)) []:=by
 have hd:decide (((n:Nat):Int) < 0)=false:=by simp
 have hHd:=Hy q 1 qC Dk hq3 hq4 hqt;have dW:decide (((1+tu q:Nat):Int) < 0)=false:=decide_eq_false G
 have Db:(((1+tu q:Nat):Int) != ((1+tu q:Nat):Int))=false:=by simp
 have hd4:(!(cd==cd))=false:=by simp
 refine ah func5 ntmps5 ?_;refine V [] hS ?_;refine V [] hT ?_;refine iq [] hG ?_;refine zab ?_;refine bP [] hO ?_;rintro _ _ ⟨hg,ha,hf,hn,fs,ns,H,rfl,rfl⟩;have XD:=na p hg ha hf hn fs ns;have uD:=LR p;have hM:=Af p hg ha hf hn fs ns H 1 lE et ze KL G;obtain ⟨⟨q0,q1,rfl⟩,⟨q2,q3,rfl⟩,⟨q4,q5,rfl⟩,⟨q6,q7,rfl⟩,-,-,-,-⟩:=id H;rw [xD XD];refine cI ?_;refine GL.qV rfl rfl rfl rfl rfl rfl rfl ?_;refine zaW ?_;refine GL.Vg hI (fun g Δ h=>h.plain) (fun B K β w l hI hF=>vf H (A:=[_]) (C:=[]) zgw hF rfl rfl) ?_;rintro _ _ ⟨fR,Fs,Dc,b8,ri,FN,HQ,rfl,rfl⟩;have hSQ:=na q fR Fs Dc b8 ri FN;have hMk:=Af q fR Fs Dc b8 ri FN HQ 1 qC Dk hq3 hq4 hqt;obtain ⟨⟨r0,r1,rfl⟩,⟨r2,r3,rfl⟩,⟨r4,r5,rfl⟩,⟨r6,r7,rfl⟩,-,-,-,-⟩:=id HQ;refine bL ?_;refine zab ?_;refine GL.borrow hQ (fun B K β w l hI hF=>tE HQ (A:=_::iz p _ _ _ _ fs ns) (C:=[]) zgw hF rfl rfl) ?_;refine zc4 ?_;refine aL (.q 0 (.q 1 (.a 2 (.a 3 (.q 4 .nil))))) ?_;refine ao ?_;refine qZ [] hT ?_;simp only [bO];refine ao ?_;refine OA rfl rfl (GL.borrow hE (fun B K β w l hI hF=>tE H (A:=[_]) hI hF rfl rfl) ?_);refine zbh ?_;refine GL.uS [_] (iz p _ _ _ _ fs ns) (iz q _ _ _ _ ri FN) hM rfl XD (fun _=>rfl) (mI) ?_;rintro _ Δ ⟨rfl,Sj⟩
 have abP:∀ x∈Δ,x.iJ=true:=by rw [Sj];exact na _ _ _ _ _ _ _
 refine ⟨by rw [Sj,rD (H.mk' 1),rD H,show (oT 1 p).fns.length=p.fns.length from eQ _ _,show (oT 1 p).nodes.length=p.nodes.length from eQ _ _],abP,fun _=>rfl,?_⟩;have hdk:decide (((1+tu p:Nat):Int) < 0)=false:=decide_eq_false G;clear Sj;refine zaW ?_;refine GL.borrow hQ (fun B K β w l hI hF=>tE HQ (A:=_::Δ) (C:=[]) zgw hF rfl rfl) ?_;refine zc4 ?_;refine GL.uS (_::Δ) (iz q _ _ _ _ ri FN) [] hMk (by rw [bO];rfl) hSQ (fun _=>rfl) (mI) ?_;rintro _ _ ⟨rfl,rfl⟩;have HM:=HQ.mk' 1;refine ⟨by rw [rD HM,rD HQ,show (oT 1 q).fns.length=q.fns.length from eQ _ _,show (oT 1 q).nodes.length=q.nodes.length from eQ _ _],na _ _ _ _ _ _ _,fun _=>rfl,?_⟩;refine zaW ?_;refine GL.borrow hHd (fun B K β w l hI hF=>vf HM (A:=_::Δ) (C:=[]) hI hF rfl rfl) ?_;refine zaW ?_;refine iq [] hT ?_;simp only [bO];refine D ?_;refine bP [] hI ?_;rintro _ _ ⟨XT,ha3,hf3,Pt,fs3,ns3,HQ3,rfl,rfl⟩;rw [xD (na q XT ha3 hf3 Pt fs3 ns3)];obtain ⟨⟨s0,s1,rfl⟩,⟨s2,s3,rfl⟩,⟨s4,s5,rfl⟩,⟨s6,s7,rfl⟩,-,-,-,-⟩:=id HQ3;refine cI ?_;refine zab ?_;refine GL.borrow hQ (fun B K β w l hI hF=>tE HQ3 (A:=_::(Δ++iz (oT 1 q) _ _ _ _ ri FN)) (C:=[]) zgw hF rfl rfl) ?_;refine zc4 ?_;refine GL.borrow hHd (fun B K β w l hI hF=>vf HM (A:=_::Δ) (C:=iz q _ _ _ _ fs3 ns3) (by rw [<-de];exact hI) hF rfl rfl) ?_;refine bL ?_;exact ax
theorem B4 (p:Src) (hb:Small p 9223372036854775807) (hn:u7 p) (fn:Int):GF prog 5 [.agg (ar p),.v (ii fn)] [] (.v (.bool true)) []:=by
 have hS:=Nu p hb
 by_cases hw:1048576 < eo p
 ·rw [eM hw] at hS;exact zm p fn hS
 rw [iY G] at hS
 have hw:eo p<=1048576:=by omega
 have Ur:=ZG p fn;have hqs:=LR (uo p fn).1
 have key:∀ p:Src,eo p<=1048576->(p.globals.length<=1048576/\p.arrays.length<=1048576/\p.fns.length<=1048576/\p.nodes.length<=1048576)/\(∀ f∈p.fns,f.params.length<=1048576)/\∀ n∈p.nodes,n.kids.length<=1048576:=fun p h=>by
  obtain ⟨⟨a1,a2⟩,⟨b1,b2⟩,⟨c1,c2⟩,⟨d1,d2⟩⟩:=jD p;exact ⟨⟨by omega,by omega,by omega,by omega⟩,fun f h=>by have:=(c2 f h).2.1;omega,fun n h=>by have:=(d2 n h).2;omega⟩
 obtain ⟨⟨a1,a2,a3,a4⟩,a5,a6⟩:=key p hw;obtain ⟨⟨q1,q2,q3,q4⟩,q5,q6⟩:=key (uo p fn).1 G;exact Bg p (uo p fn).1 (uo p fn).2 fn _ hw q1 q2 q3 q4 G a1 a2 a3 a4 hS (Ny p a1 a2 a3 a5 a4 a6) (Nz p a1 a2 a3 a5 a4 a6) (L5 p hw fn) (NN p hw hn fn) (C0 p a1 a2 a3 a5 a4 a6) (C0 _ q1 q2 q3 q5 q4 q6)
end Go.Xg
