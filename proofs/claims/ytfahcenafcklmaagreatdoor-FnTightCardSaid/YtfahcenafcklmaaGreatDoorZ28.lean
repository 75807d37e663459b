/- Part 28 of proofs that are told in their last texts. -/
import Derived.Test.YtfahcenafcklmaaGreatDoorZ16
import Derived.Test.YtfahcenafcklmaaGreatDoorZ20
import Derived.Test.YtfahcenafcklmaaGreatDoorZ18
import Derived.Test.YtfahcenafcklmaaGreatDoorZ13
import Derived.Test.YtfahcenafcklmaaGreatDoorZ6
import Derived.Test.YtfahcenafcklmaaGreatDoorZ11
import Derived.Test.YtfahcenafcklmaaGreatDoorZ12
import Derived.Test.YtfahcenafcklmaaGreatDoorZ14
import Derived.Lib.OwnBridge
import Derived.Lib.AppendIntMem
set_option linter.unusedVariables false
set_option linter.unusedSimpArgs false
set_option maxRecDepth 100000
set_option maxHeartbeats 1000000
namespace Go.Xg
open Go.RowKit Go.Xw Go.Proofs Tryz Go.Im
attribute [local irreducible] GW GL GO YG GC GA bu bs
theorem qZ (n lo hi:Int):GF prog 57 [.v (ii n),.v (ii lo),.v (ii hi)] [] (.v (.bool (decide (lo<=n)&&decide (n<=hi)))) []:=by
 cases h:decide (lo<=n)
 all_goals
  refine aj func57 ntmps57 ?_;exact ao
end Go.Xg
set_option maxHeartbeats 4000000
namespace Go.Xg
open Go.RowKit Go.Xw Go.Proofs Tryz Go.Sp Go.Im
def WS (g:GV) (Δ:List Ob):Prop:=Δ=[]/\∃ (p:Src) (z:Int),cv p<=1048576/\gY p/\(-9223372036854775808<=z/\z<=9223372036854775807)/\g=.tup [.agg (aL p),.v (ii z)]
attribute [local irreducible] GW GL GO YG GC GA bu bs pS uE qo
theorem Ag (code:ae) (hl:code.length<=1099511627776):GC prog 30 [.sl 1 (bI code)] [] WS:=by
 refine aj func30 ntmps30 ?_;refine dW [] (Fb code hl) ?_;rintro _ _ ⟨h,rfl,rfl⟩;refine zc5 ?_;refine dW [1] (Ff code hl ⟨0,h⟩ (aY _)) ?_;rintro _ _ ⟨c1,p,i1,hw,hn,rfl,rfl⟩;refine gg ?_;have Db:=(wJ p).2.2.2;have jc:(p.nodes.map aO).length=p.nodes.length:=cU _;have D:=dB code (((p.nodes.map aO).length+1:Nat):Int) c1 hl i1;have r1:=cQ code c1 (n:=(((p.nodes.map aO).length+1:Nat):Int)) X;have i2:=cP (code:=code) (((p.nodes.map aO).length+1:Nat):Int) i1;generalize aW code (((p.nodes.map aO).length+1:Nat):Int) c1=a at *;obtain ⟨z,c2⟩:=a;simp only at D r1 i2;have I:=dB code 9 c2 hl i2;have i3:=cP (code:=code) 9 i2;generalize aW code 9 c2=a at *;obtain ⟨k,c3⟩:=a;simp only at I i3;have h3:=Fc code c3 hl i3;have r3:=tC code c3;generalize qU code c3=a at *;obtain ⟨y,c4⟩:=a;simp only at h3 r3;refine ab ?_;refine V [1] D ?_;refine V [1] I ?_
 by_cases hk:k=0
 ·have eZ:(k==0)=true:=by simpa using hk
  refine ab ?_;refine V [1] h3 ?_;refine mG ?_;exact ⟨rfl,p,y,hw,hn,r3,rfl⟩
 ·have eZ:(k==0)=false:=by simpa using hk
  refine ab ?_;refine mG ?_;exact ⟨rfl,p,z,hw,hn,⟨by omega,by omega⟩,rfl⟩
end Go.Xg
set_option maxHeartbeats 1000000
namespace Go.Xg
open Go.RowKit Go.Xw Go.Proofs Tryz Go.Im
open Go.Xp (Nd T aQ)
open Go.Sp (Src)
attribute [local irreducible] GW GL GO YG GC GA bu bs
theorem DH (p:Src) (i:Int) (hl:p.nodes.length<=1048576) (hi:i < 0\/(p.nodes.length:Int)<=i):GF prog 31 [.agg (aL p),.v (ii i)] [] (.v (sv [])) []:=by
 have hm:(p.nodes.map aO).length=p.nodes.length:=by simp
 have hW:=qZ i 0 (((p.nodes.map aO).length:Int) - 1);rw [show (decide ((0:Int)<=i)&&decide (i<=((p.nodes.map aO).length:Int) - 1))=false by rw [hm,Bool.and_eq_false_iff];rcases hi with hi | hi;left;simpa using hi;right;simpa using by omega] at hW;refine aj func31 ntmps31 ?_;refine V [] hW ?_;exact ao
theorem DF (p:Src) (i:Nat) (hl:p.nodes.length<=1048576) (hi:i < p.nodes.length) (hF:GF prog 62 [.agg (aL p)] [] (.v (.bool false)) []):GF prog 31 [.agg (aL p),.v (ii (i:Nat))] [] (.v (sv [])) []:=by
 have hm:(p.nodes.map aO).length=p.nodes.length:=by simp
 have hW:=qZ i 0 (((p.nodes.map aO).length:Int) - 1);rw [show (decide ((0:Int)<=(i:Nat))&&decide (((i:Nat):Int)<=((p.nodes.map aO).length:Int) - 1))=true by rw [hm,au];exact ⟨by simp,by simpa using by omega⟩] at hW;refine aj func31 ntmps31 ?_;refine V [] hW ?_;exact zb5
theorem Ak (p:Src) (i:Nat) (n:Nd) (hl:p.nodes.length<=1048576) (hi:p.nodes[i]?=some n) (hF:GF prog 62 [.agg (aL p)] [] (.v (.bool true)) []) (hk:(decide ((1:Int)<=n.kind)&&decide (n.kind<=6))=false):GF prog 31 [.agg (aL p),.v (ii (i:Nat))] [] (.v (sv [])) []:=by
 have ar:=(bh hi).1
 have hm:(p.nodes.map aO).length=p.nodes.length:=by simp
 have hr:(p.nodes.map aO)[i]?=some (aO n):=by rw [bP,hi];rfl
 have hW:=qZ i 0 (((p.nodes.map aO).length:Int) - 1);rw [show (decide ((0:Int)<=(i:Nat))&&decide (((i:Nat):Int)<=((p.nodes.map aO).length:Int) - 1))=true by rw [hm,au];exact ⟨by simp,by simpa using by omega⟩] at hW;have hK:=qZ n.kind 1 6;rw [hk] at hK;refine aj func31 ntmps31 ?_;refine V [] hW ?_;refine V [] hF ?_;refine V [] hK ?_;exact ao
theorem BE (p:Src) (i:Nat) (n:Nd) (u:T) (e:Nat) (hl:p.nodes.length<=1048576) (hi:p.nodes[i]?=some n) (hF:GF prog 62 [.agg (aL p)] [] (.v (.bool true)) []) (hk:(decide ((1:Int)<=n.kind)&&decide (n.kind<=6))=true)
  (hT:GF prog 79 [.sl 5 (p.nodes.map aO),.v (ii (i:Nat))] [] (.tup [uT u,.v (ii (e:Nat)),.v (.bool true)]) []) (hX:GF prog 80 [uT u] [] (.v (sv (cM u))) []):GF prog 31 [.agg (aL p),.v (ii (i:Nat))] [] (.v (sv (cM u))) []:=by
 have ar:=(bh hi).1
 have hm:(p.nodes.map aO).length=p.nodes.length:=by simp
 have hr:(p.nodes.map aO)[i]?=some (aO n):=by rw [bP,hi];rfl
 have hW:=qZ i 0 (((p.nodes.map aO).length:Int) - 1);rw [show (decide ((0:Int)<=(i:Nat))&&decide (((i:Nat):Int)<=((p.nodes.map aO).length:Int) - 1))=true by rw [hm,au];exact ⟨by simp,by simpa using by omega⟩] at hW;have hK:=qZ n.kind 1 6;rw [hk] at hK;refine aj func31 ntmps31 ?_;refine V [] hW ?_;refine V [] hF ?_;refine V [] hK ?_;refine V [] hT ?_;refine V [] hX ?_;exact ao
theorem yO (p:Src) (hw:cv p<=1048576) (hn:gY p) (i:Int):GF prog 31 [.agg (aL p),.v (ii i)] [] (.v (sv (tE p i))) []:=by
 have hF:=rl p hw hn;obtain ⟨_,_,_,s7,s8⟩:=sI p
 by_cases ho:i < 0\/(p.nodes.length:Int)<=i
 ·rw [Bn ho];exact DH p i X ho
 obtain ⟨k,rfl⟩:∃ k:Nat,i=(k:Int):=⟨i.toNat,by omega⟩
 have ar:k < p.nodes.length:=by omega
 have hi:p.nodes[k]?=some p.nodes[k]:=by simp [ar]
 cases hf:fI p with
 | false=>rw [hf] at hF;rw [J5 hf];exact DF p k X ar hF
 | true =>
  rw [hf] at hF
  cases hk:Go.Sp.fa p.nodes[k].kind with
  | false=>rw [CL hi hk];exact Ak p k _ X hi hF hk
  | true =>
   obtain ⟨l,hl⟩:=kL hf;obtain ⟨u,a,hx⟩:=Jd hl hn hi hk;obtain ⟨e,he⟩:=hx.tr;have Zw:=hx.wt;have hT:=Ga p.nodes X (fun n h=>by have:=(s8 n h).2;omega) (p.nodes.length - k+1) k (aD _) X;rw [he] at hT;rw [Bo hi hf hk he];exact BE p k _ u e X hi hF hk hT (CO (aQ u) u (aD _) hx.k hx.num X)
open Go.Sp
open Go.Xp (er wt)
theorem D9 (p:Src) (i:Int) (hF:GF prog 81 [.agg (aL p)] [] (.v (.bool false)) []):GF prog 32 [.agg (aL p),.v (ii i)] [] (.v (sv [])) []:=by
 exact zd4
theorem DG (p:Src) (i:Int) (hF:GF prog 81 [.agg (aL p)] [] (.v (.bool true)) []) (hi:i < 0):GF prog 32 [.agg (aL p),.v (ii i)] [] (.v (sv [])) []:=by
 have D:decide (i < 0)=true:=by simpa using hi
 exact zd4
theorem DE (p:Src) (i:Int) (hF:GF prog 81 [.agg (aL p)] [] (.v (.bool true)) []) (hi:0<=i) (hl:(p.nodes.length:Int)<=i):GF prog 32 [.agg (aL p),.v (ii i)] [] (.v (sv [])) []:=by
 have D:decide (i < 0)=false:=by simpa using hi
 have I:decide (((p.nodes.map aO).length:Int)<=i)=true:=by simpa using hl
 exact zd4
theorem BG (p:Src) (i:Nat) (n:Nd) (hF:GF prog 81 [.agg (aL p)] [] (.v (.bool true)) []) (hi:p.nodes[i]?=some n) (hk:fa n.kind=false):GF prog 32 [.agg (aL p),.v (ii (i:Nat))] [] (.v (sv [])) []:=by
 have ar:=(bh hi).1
 have D:decide (((i:Nat):Int) < 0)=false:=by simp
 have I:decide (((p.nodes.map aO).length:Int)<=(i:Nat))=false:=by simpa using ar
 have hr:(p.nodes.map aO)[i]?=some (aO n):=by rw [bP,hi];rfl
 have hE:=uy n.kind;rw [hk] at hE;refine aj func32 ntmps32 ?_;refine V [] hF ?_;refine V [] hE ?_;exact ao
theorem DI (p:Src) (i:Nat) (n:Nd) (u:T) (x:Go.Xp.ae) (hF:GF prog 81 [.agg (aL p)] [] (.v (.bool true)) []) (hi:p.nodes[i]?=some n) (hk:fa n.kind=true)
  (hS:GF prog 84 [.agg (aL p),.v (ii (i:Nat))] [] (.agg (cT u)) []) (hL:GF prog 83 [.agg (cT u),.v (ii 0)] [] (.v (sv x)) []):GF prog 32 [.agg (aL p),.v (ii (i:Nat))] [] (.v (sv x)) []:=by
 have ar:=(bh hi).1
 have D:decide (((i:Nat):Int) < 0)=false:=by simp
 have I:decide (((p.nodes.map aO).length:Int)<=(i:Nat))=false:=by simpa using ar
 have hr:(p.nodes.map aO)[i]?=some (aO n):=by rw [bP,hi];rfl
 have hE:=uy n.kind;rw [hk] at hE;refine aj func32 ntmps32 ?_;refine V [] hF ?_;refine V [] hE ?_;refine V [] hS ?_;refine V [] hL ?_;exact ao
theorem Gx (p:Src) (hw:cv p<=1048576) (hn:gY p) (i:Int):GF prog 32 [.agg (aL p),.v (ii i)] [] (.v (sv (tE p i))) []:=by
 have hF:=CX p hw;have iy:=CC hw
 cases hf:fI p with
 | false=>rw [hf] at hF;rw [J5 hf];exact D9 p i hF
 | true =>
  rw [hf] at hF
  by_cases h0:i < 0
  ·rw [Bn (.inl h0)];exact DG p i hF h0
  by_cases D:(p.nodes.length:Int)<=i
  ·rw [Bn (.inr D)];exact DE p i hF X D
  obtain ⟨k,rfl⟩:∃ k:Nat,i=(k:Int):=⟨i.toNat,by omega⟩
  have ar:k < p.nodes.length:=by omega
  have hi:p.nodes[k]?=some p.nodes[k]:=by simp [ar]
  cases hk:fa p.nodes[k].kind with
  | false=>rw [CL hi hk];exact BG p k _ hF hi hk
  | true =>
   obtain ⟨l,hl⟩:=kL hf;obtain ⟨u,a,hx⟩:=Jd hl hn hi hk;obtain ⟨e,he⟩:=hx.tr;have Zv:=Bx u;have Zw:=hx.wt
   have Qd:wt a.tree<=lim:=by rw [<-hx.er,Go.Xp.DV];unfold lim;omega
   have hL:=oR a u 0 hx.ok hx.er Qd;rw [Bo hi hf hk he,hx.txt];refine DI p k _ u a.txt hF hi hk (DU p (fun n hn=>(iy.nodes.2 n hn).2) _ k u hx.sub) ?_;exact hL
end Go.Xg
set_option maxHeartbeats 4000000
namespace Go.Xg
open Go.RowKit Go.Xw Go.Proofs Tryz Go.Sp Go.Im
attribute [local irreducible] GW GL GO YG GC GA bu bs
theorem Ke (code:ae):GF prog 7 [.sl 1 (bI code)] [] (.v (.bool true)) []:=by
 have gD:=tV code
 rcases Nat.lt_or_ge 1048576 code.length with ar | hO
 ·have hd:decide ((1048576:Int) < ((bI code).length:Int))=true:=decide_eq_true X;refine aj func7 ntmps7 ?_;exact ao
 ·have hd:decide ((1048576:Int) < ((bI code).length:Int))=false:=decide_eq_false X;refine aj func7 ntmps7 ?_;refine dW [] (Ag code X) ?_;rintro _ _ ⟨rfl,p,z,hw,hn,hz,rfl⟩;refine gg ?_;have hI:=yO p hw hn z;have hG:=Gx p hw hn z;have ea:=@J6 p z hn;have EK:=@IC p z hn;generalize hx:tE p z=x at *
  have bZ:(x != x)=false:=by simp
  cases he:x==[] with
  | true =>
   refine za4 ?_;exact ao
  | false =>
   have kc:x≠[]:=by simpa using he
   obtain ⟨a,ha,Zx,-,qb⟩:=EK kc;rw [<-Zx] at qb;have u3:=G9 (oI x) (by unfold oI;simp only [aJ,List.length_cons,List.length_nil];omega);unfold oI at u3 ea
   rcases ea kc with ⟨y,hy,LM⟩ | ⟨q,hq,ze,Zf,Zq⟩
   ·rw [hy] at u3;generalize (qd _).1=r at u3;generalize (qd _).2.2=w at u3
    rcases LM with rfl | rfl
    ·refine za4 ?_;refine V [] u3 ?_;exact ao
    ·refine za4 ?_;refine V [] u3 ?_;exact ao
   ·rw [hq] at u3;have hT:=yO q ze Zf 2;rw [Zq] at hT
    have LL:(x==x)=true:=by simp
    refine za4 ?_;refine V [] u3 ?_;refine V [] hT ?_;exact zdQ
end Go.Xg
