/- Part 9 of proofs that are told in their last texts. -/
import Derived.Test.YtfahcenafcklmaaGreatDoorY8
import Derived.Test.YtfahcenafcklmaaGreatDoorY3
import Derived.Test.YtfahcenafcklmaaGreatDoorY6
import Derived.Test.YtfahcenafcklmaaGreatDoorY5
open List (cons_append length_cons nil_append)
set_option linter.unusedVariables false
set_option linter.unusedSimpArgs false
set_option maxRecDepth 100000
set_option maxHeartbeats 4000000
namespace Go
theorem zcm {A B:Prop} (h:B) (s:PLift B->A:=by intro hQ;refine GW.seq ?_;refine GW.region ?_;refine GL.Me rfl rfl ?_;exact hQ.1):A:=s ⟨h⟩
end Go
namespace Go.Im
open Go.Xp Go.Sp
def nT (l ks:List Int):List Int:=ks.foldl ke l
theorem Nh (l a b:List Int):nT l (a++b)=nT (nT l a) b:=List.foldl_append
theorem Ni (l ks:List Int):(nT l ks).length<=l.length+ks.length:=zi ks l
theorem Og (p:Src) {l:List T} {k:Nat} {u:T} (h:l[k]?=some u) (o:List Int) (n:Nd):nT o (wj p n++jM p (l.take (k+1)))=nT (nT o (wj p n++jM p (l.take k))) (qM p u):=by
 rw [Oh p h,<-fP,Nh]
def jS (p:Src) (fn:Int):List Int:=if jZ p fn=true then (match kC p.nodes p.fns 0 [] with | some (l,_)=>nI p l fn | none=>[]) else []
theorem Oa {p:Src} {fn:Int} (h:jZ p fn=false):jS p fn=[]:=by unfold jS;rw [h];rfl
theorem Mh {p:Src} {l:List T} {i:Nat} {f:Go.Sp.Fn} {t:T} (hh:jZ p (i:Int)=true) (h:tR p l i f t):jS p (i:Int)=cv p t:=by
 unfold jS;rw [ae hh,h.good.Fk];simp only;unfold nI;rw [jR,h.gt]
theorem Nj (ks:List Int):nT [] ks=qW ks:=rfl
theorem uX {p:Src} {i:Nat} (hg:en p=true) (hi:i < p.fns.length):jZ p (i:Int)=true:=by
 unfold jZ;rw [hg,decide_eq_true (show (0:Int)<=(i:Int) by omega),decide_eq_true (show (i:Int) < (p.fns.length:Int) by omega)];rfl
def bB (p:Src) (fn:Int):List Int:=if jZ p fn=true then (match kC p.nodes p.fns 0 [] with | some (l,_)=>rV p l (nI p l fn) | none=>[]) else []
theorem wq {p:Src} {l:List T} {i:Nat} {f:Go.Sp.Fn} {t:T} (hh:jZ p (i:Int)=true) (h:tR p l i f t):bB p (i:Int)=rV p l (cv p t):=by
 unfold bB;rw [ae hh,h.good.Fk];simp only;unfold nI;rw [jR,h.gt]
theorem yy {p:Src} {fn:Int} (h:jZ p fn=false):bB p fn=[]:=by unfold bB;rw [h];rfl
theorem iP {p:Src} {fn:Int}:Trail p (bB p fn):=by
 cases hh:jZ p fn with
 | false=>rw [yy hh];exact ⟨List.Pairwise.nil,by simp⟩
 | true =>
  obtain ⟨i,l,f,t,rfl,h⟩:=sV hh;rw [wq hh h];exact D5 _ _ _ ⟨vO (qg p t),pe p t⟩
def iN (p:Src) (a b:Int):Bool:=(bB p a).contains b
theorem Mj {p:Src} {a b:Int} (h:¬ (0<=b/\b < (p.fns.length:Int))):iN p a b=false:=by
 unfold iN
 cases hc:(bB p a).contains b with
 | false=>rfl
 | true=>exact absurd (iP.rng b (dz.1 hc)) h
theorem Fp {p:Src} {a b:Int} (h:jZ p a=false):iN p a b=false:=by unfold iN;rw [yy h];rfl
theorem IM (l:List Int) (x:Int):(gV l).contains x=l.contains x:=by
 cases h:l.contains x with
 | true=>exact dz.2 (vV.2 (dz.1 h))
 | false =>
  cases X:(gV l).contains x with
  | false=>rfl
  | true=>rw [dz.2 (vV.1 (dz.1 X))] at h;cases h
end Go.Im
namespace Go.Xg
open Go.RowKit Go.Xw Go.Proofs Tryz Go.Im
open GV (U)
open Go.Xp (Nd T bc aD iu)
open Go.Sp (Src)
attribute [local irreducible] GW GL GO YG GC GA bg bj
def Wx (l r:List Int) (a:Option Addr) (c:Nat) (g:GV) (Δ:List Ob):Prop :=
 (r=l/\g=.v (.slice a l.length c)/\Δ=[.vech 3 1 (aU l) (.slice a l.length c)]) \/
 (∃ a' c',g=.v (.slice a' r.length c')/\Δ=[.vech 3 1 (aU l) (.slice a l.length c),.vech 3 1 (aU r) (.slice a' r.length c')])
theorem PU (l:List Int) (n:Int) (a:Option Addr) (c:Nat) (hl:l.length<=8388608) :
  GC prog 177 [.v (.slice a l.length c),.v (ii n)] [.vech 3 1 (aU l) (.slice a l.length c)] (Wx l (ke l n) a c):=by
 refine (Sr l n a c hl).mono fun g Δ h=>?_
 rcases h with ⟨D,X,h3⟩ | ⟨D,a',c',X,h3⟩
 ·exact .inl ⟨VX D,X,h3⟩
 ·exact .inr ⟨a',c',X,h3⟩
theorem MS (p:Src) (kr:p.fns.length<=1099511627776):∀ (N:Nat) (t:T),bc t<=N->∀ (l:List Int) (a:Option Addr) (c:Nat),l.length+bc t<=8388608 ->
  GC prog 113 [.v (.slice a l.length c),.agg (av p),.agg (cT t)] [.vech 3 1 (aU l) (.slice a l.length c)] (Wx l (nT l (qM p t)) a c):=by
 intro N
 induction N with
 | zero=>intro t h;exact zeB
 | succ N ih =>
 intro t hN l a c oS
 cases t with
 | mk n ks =>
 rw [Go.Xp.bc] at hN oS;have qx:=iu ks;have fB:(bd ks).length=ks.length:=be ks;have hF:=En p n.s kr;have e0:cx (fun x:Go.Sp.Fn=>x.name==n.s) p.fns=qj p n.s:=rfl;rw [e0] at hF;have hP:=PU l (qj p n.s) a c G
 have jH:wj p n=if n.kind=4/\0<=qj p n.s then [qj p n.s] else []:=rfl
 rw [qM];generalize qj p n.s=z at *;refine ai func113 ntmps113 ?_;refine V [] hF ?_
 refine GL.ZN (fun fr Γ=>∃ h L,fr=[.v h,U,U,U,.loc 1 0,.loc 2 0,U,U,U,U,U,U,U,U,U,U,U,U,U,U,U,U,U,U,U,U,U,U,U,U,U,U,U,U,U,U,U,U,U]/\L=nT l (wj p n) /\
  ((L=l/\h=.slice a l.length c/\Γ=[.vech 3 1 (aU l) (.slice a l.length c),.box 28 (av p),.box 86 (cT (.mk n ks))]) \/
   (∃ a' c',h=.slice a' L.length c'/\Γ=[.vech 3 1 (aU l) (.slice a l.length c),.box 28 (av p),.box 86 (cT (.mk n ks)),.vech 3 1 (aU L) (.slice a' L.length c')]))) ?_ ?_
 ·cases q4:(n.kind==4) with
  | false =>
   rw [ab (fun h=>by rw [h.1] at q4;cases q4)] at jH;exact zdv
  | true =>
   cases q5:decide ((0:Int)<=z) with
   | false =>
    rw [ab (fun h=>by have:=of_decide_eq_false q5;exact this h.2)] at jH;exact zdv
   | true =>
    rw [ae ⟨by simpa using q4,by simpa using q5⟩] at jH;refine I ?_;refine bU [0] hP ?_;rintro _ _ (⟨D,rfl,rfl⟩ | ⟨a',c',rfl,rfl⟩)
    ·refine zaC ?_;exact ⟨_,_,Wk.aJ ar,_,l,rfl,by rw [jH];exact D.symm,.inl ⟨rfl,rfl,rfl⟩⟩
    ·refine zaC ?_;exact ⟨_,_,Wk.aJ ar,_,ke l z,rfl,by rw [jH];rfl,.inr ⟨a',c',rfl,rfl⟩⟩
 ·rintro _ _ ⟨h,L0,rfl,hL0,KB⟩;have ab9:=Ec p n
  rcases KB with ⟨e1,rfl,rfl⟩ | ⟨a0,c0,rfl,rfl⟩
  all_goals
   refine I ?_
   refine GW.range (bd ks).length (fun k fr Γ=>∃ h L,fr=[.v h,U,U,U,.loc 1 0,.loc 2 0,U,U,U,U,U,U,U,U,U,U,U,U,U,U,U,U,U,U,U,U,U,.sl 6 (bd ks),.v (ii ((bd ks).length:Int)),.v (ii (k:Nat)),U,U,U,U,U,U,U,U,U]/\L=nT l (wj p n++jM p (ks.take k)) /\
    ((L=l/\h=.slice a l.length c/\Γ=[.vech 3 1 (aU l) (.slice a l.length c),.box 28 (av p),.box 86 (cT (.mk n ks))]) \/
     (∃ a' c',h=.slice a' L.length c'/\Γ=[.vech 3 1 (aU l) (.slice a l.length c),.box 28 (av p),.box 86 (cT (.mk n ks)),.vech 3 1 (aU L) (.slice a' L.length c')]))) ?_ G ?_ ?_ ?_
   ·exact ⟨_,_,Wk.aJ ar,_,L0,rfl,by rw [List.take_zero,jM,ef];exact hL0,by first | exact .inl ⟨e1,rfl,rfl⟩ | exact .inr ⟨_,_,rfl,rfl⟩⟩
   ·rintro k _ _ ⟨h,L,rfl,_,KB⟩;exact ea
   ·rintro k _ _ au ⟨h,L,rfl,hL,KB⟩;rw [fB] at au;obtain ⟨u,hu⟩:∃ u,ks[k]?=some u:=⟨ks[k],by simp [au]⟩;have hr:=dB hu;have dR:=tz hu
    have hLl:L.length<=l.length+1+aD (ks.take k):=by
     have:=Ni l (wj p n++jM p (ks.take k));have:=G4 p (ks.take k);rw [aO] at *;rw [hL];omega
    have oT:=Og p hu l n;rw [<-hL] at oT;rw [oT]
    rcases KB with ⟨e2,rfl,rfl⟩ | ⟨a',c',rfl,rfl⟩
    ·subst e2;have hi:=ih u G L a c G;generalize nT L (qM p u)=L2 at *;refine I ?_;refine bU [0] hi ?_;rintro _ _ (⟨D,rfl,rfl⟩ | ⟨a2,c2,rfl,rfl⟩)
     ·refine zaC ?_;exact ⟨rfl,rfl,_,_,(Wk.cut (n:=3) (dP rfl) rfl).trans (Wk.aJ ar),_,L2,rfl,rfl,.inl ⟨D,rfl,rfl⟩⟩
     ·refine zaC ?_;exact ⟨rfl,rfl,_,_,(Wk.keep (n:=3) (j:=4) (dP rfl) aC rfl rfl rfl).trans (Wk.aJ ar),_,L2,rfl,rfl,.inr ⟨a2,c2,rfl,rfl⟩⟩
    ·have hi:=ih u G L a' c' G;generalize nT L (qM p u)=L2 at *;refine I ?_;refine bU [3] hi ?_;rintro _ _ (⟨rfl,rfl,rfl⟩ | ⟨a2,c2,rfl,rfl⟩)
     ·refine zaC ?_;exact ⟨rfl,rfl,_,_,(Wk.cut (n:=4) (dP rfl) rfl).trans (Wk.aJ ar),_,_,rfl,rfl,.inr ⟨a',c',rfl,rfl⟩⟩
     ·refine zaC ?_;exact ⟨rfl,rfl,_,_,(Wk.keep (n:=3) (j:=5) (dP rfl) aC rfl rfl rfl).trans (Wk.aJ ar),_,L2,rfl,rfl,.inr ⟨a2,c2,rfl,rfl⟩⟩
   ·rintro _ _ ⟨h,L,rfl,hL,KB⟩;rw [fB,di] at hL;rw [<-hL];refine bh ?_
    rcases KB with ⟨e2,rfl,rfl⟩ | ⟨a',c',rfl,rfl⟩
    ·refine zdm ?_;exact rl (n:=1) rfl dO rfl (dP rfl) rfl rfl (.inl ⟨e2,rfl,rfl⟩)
    ·refine GW.wk (Wk.keep (n:=1) (j:=3) (aH _) aC rfl rfl rfl) ?_;refine GW.OD (cX:=[.v (.slice a' L.length c'),U,U,U,U,U,U,U,U,U,U,U,U,U,U,U,U,U,U,U,U,U,U,U,U,U,U,U,U,U,U,U,U,U,U,U,U,U,U]) (aV:=[.vech 3 1 (aU l) (.slice a l.length c),.vech 3 1 (aU L) (.slice a' L.length c')]) ar rfl ?_;refine zdm ?_;exact rl (n:=2) rfl dO rfl (dP rfl) rfl rfl (.inr ⟨a',c',rfl,rfl⟩)
theorem CH (p:Src) (hw:cQ p<=1048576) {l:List T} {i:Nat} {f:Go.Sp.Fn} {t:T} (hg:en p=true) (h:tR p l i f t) :
  GC prog 56 [.agg (av p),.v (ii (i:Nat))] [] fun g Δ=>∃ a c,g=.v (.slice a (cv p t).length c)/\Δ=[.vech 3 1 (aU (cv p t)) (.slice a (cv p t).length c)]:=by
 obtain ⟨⟨a1,a2⟩,⟨b1,b2⟩,⟨c1,c2⟩,⟨d1,d2⟩⟩:=gn p;have hG:=Ky p hw;rw [hg] at hG
 have lV:(p.fns.map ax).length=p.fns.length:=by simp
 have hi:=(bu h.gf).1
 have hr:(p.fns.map ax)[i]?=some (ax f):=by rw [bp,h.gf];rfl
 have q2:decide ((i:Int) < 0)=false:=decide_eq_false G;have q3:decide (((p.fns.map ax).length:Int)<=(i:Int))=false:=decide_eq_false (by rw [lV];omega);have hS:=YV p (fun n hn=>by have:=(d2 n hn).2;omega) f t h.body h.st
 have hC:=fun a c=>MS p G _ t (aH _) [] a c (by have:=h.sz;show 0+_<=_;omega)
 rw [Nj] at hC;unfold cv;unfold ax at hr;generalize qW (qM p t)=rr at *;refine ai func56 ntmps56 ?_;refine V [] hG ?_;refine aM (ay 1 8 (.f 0 (.a 9 (.a 10 (.q 11 .nil))) 9 (.a 0 (.a 10 (.q 11 .nil))))) ?_;refine ak ?_;refine GO.fork ?_ ?_
 ·refine OA rfl rfl (GL.Uy rfl rfl rfl rfl ?_);refine GL.xa (t:=19) rfl rfl rfl rfl ?_;intro a1 c1;refine dM ?_;refine ak ?_;refine aB [] hS ?_;refine OA rfl rfl ?_;refine bU [1] (hC a1 c1) ?_;rintro _ _ (⟨D,rfl,rfl⟩ | ⟨a',c',rfl,rfl⟩)
  ·refine ⟨by simp,?_⟩;refine dM ?_;subst D;refine bq ?_;refine n8 ?_;refine CR 1 rfl dO rfl ?_ ?_
   ·intro x hx;rw [AK hx];rfl
   ·exact zeH
  ·refine ⟨by simp,?_⟩;refine zbI ?_;refine n8 ?_;refine CR 2 rfl dO rfl ?_ ?_
   ·intro x hx;rw [AK hx];rfl
   ·exact zeH
 ·refine aB [] hS ?_;refine OA rfl rfl (GL.Uy rfl rfl rfl rfl ?_);refine GL.xa (t:=19) rfl rfl rfl rfl ?_;intro a1 c1;refine dM ?_;refine ak ?_;refine OA rfl rfl ?_;refine bU [1] (hC a1 c1) ?_;rintro _ _ (⟨D,rfl,rfl⟩ | ⟨a',c',rfl,rfl⟩)
  ·refine ⟨by simp,?_⟩;refine dM ?_;subst D;refine bq ?_;refine n8 ?_;refine CR 1 rfl dO rfl ?_ ?_
   ·intro x hx;rw [AK hx];rfl
   ·exact zeH
  ·refine ⟨by simp,?_⟩;refine zbI ?_;refine n8 ?_;refine CR 2 rfl dO rfl ?_ ?_
   ·intro x hx;rw [AK hx];rfl
   ·exact zeH
theorem tO (p:Src) (t:T):Trail p (cv p t):=⟨vO (qg p t),pe p t⟩
theorem PZ (p:Src) (hw:cQ p<=1048576) (iq:en p=true) {l:List T} {i0:Nat} {f0:Go.Sp.Fn} {t0:T} (h0:tR p l i0 f0 t0) :
  GF prog 115 [.agg (av p),.v (ii (i0:Nat))] [] (ints (rV p l (cv p t0))) []:=by
 obtain ⟨⟨a1,a2⟩,⟨b1,b2⟩,⟨c1,c2⟩,⟨d1,d2⟩⟩:=gn p;have hlen:=h0.good.len;have hg:=h0.good;have hL:=tO p t0;have wy:=hL.len;have hC0:=CH p hw iq h0;generalize cv p t0=L0 at *;obtain ⟨N,hN⟩:∃ N,p.fns.length=N:=⟨_,rfl⟩;have z6:=eZ L0;refine ai func115 ntmps115 ?_;refine bU [] hC0 ?_;rintro _ _ ⟨ad,cp,rfl,rfl⟩;refine zaC ?_;refine GW.loop (fun s:Nat × List Int=>N - s.1) (fun s fr Γ=>∃ a c n S,fr=[U,U,.loc 0 0,U,U,.v (.slice a n c),.v (ii (s.1:Nat)),U,U,U,U,U,U,U,U,U,U,U,U,U,U,U,U,U,U,U,U,U,U,U,U,U,U,U,U,U,U,U,U]/\Γ=[.box 28 (av p),.vech 3 1 S (.slice a n c)]/\S.length=n/\S=aU s.2/\Trail p s.2/\s.1<=s.2.length/\nH (nI p l) (N+1 - s.1) s.1 s.2=rV p l L0) (0,L0) ?_ ?_
 ·exact ⟨_,_,Wk.aJ ar,ad,cp,_,_,rfl,rfl,z6,rfl,hL,aX _,by rw [<-hN];rfl⟩
 rintro ⟨i,L⟩ _ _ ⟨a,c,n,S,rfl,rfl,lU,hS,hW,hi,he⟩;simp only at hS hW hi he;have qx:=hW.len
 have sH:n=L.length:=by rw [<-lU,hS,eZ]
 by_cases au:i < L.length
 ·have hd:decide ((i:Int) < (n:Int))=true:=decide_eq_true G;obtain ⟨x,hx⟩:∃ x,L[i]?=some x:=⟨L[i],by simp [au]⟩
  have hrx:S[i]?=some [.v (ii x)]:=by rw [hS];unfold aU;rw [bp,hx];rfl
  have rH:=hW.rng x (br hx);obtain ⟨j,hj⟩:∃ j:Nat,x=(j:Int):=⟨x.toNat,by omega⟩;subst hj
  have oR:j < p.fns.length:=by omega
  obtain ⟨f,hf⟩:∃ f,p.fns[j]?=some f:=⟨p.fns[j],by simp [oR]⟩;obtain ⟨t,ht⟩:∃ t,l[j]?=some t:=⟨l[j]'G,ct _⟩;have hC:=CH p hw iq (hg.fn hf ht)
  have iT:nI p l (j:Int)=cv p t:=by unfold nI;rw [jR,ht]
  have oT:nH (nI p l) (N+1 - (i+1)) (i+1) (addN L (cv p t))=rV p l L0:=by
   exact zfp
  have vr:=pe p t;have fC:=Bx p t
  have Po:((cv p t).map fun i=>[GV.v (ii i)]).length=(cv p t).length:=by simp
  have Dd:i+1<=(addN L (cv p t)).length:=by
   obtain ⟨m,hm⟩:=yj (cv p t) L;rw [hm,aO];omega
  generalize cv p t=ks at *;refine I ?_;refine aM (ay 0 5 (.q 7 (.a 5 (.q 6 .nil)))) ?_;refine ak ?_;refine OA rfl rfl ?_;refine bU [] hC ?_;rintro _ _ ⟨a2,c2,rfl,rfl⟩;refine ⟨by simp,?_⟩;refine GL.wk (Wk.Bd (t:=23) (i:=2) rfl rfl rfl) ?_;refine zbI ?_;refine GW.range (ks.map fun i=>[GV.v (ii i)]).length (fun k fr Γ=>∃ a c n S B,fr=[U,U,.loc 0 0,U,U,.v (.slice a n c),.v (ii (i:Nat)),U,U,U,U,U,U,U,U,U,U,U,U,U,U,U,U,ints ks,.v (ii ((ks.map fun i=>[GV.v (ii i)]).length:Int)),.v (ii (k:Nat)),U,U,U,U,U,U,U,U,U,U,U,U,U]/\Γ=[.box 28 (av p),.vech 3 1 S (.slice a n c),B]/\S.length=n/\S=aU (addN L (ks.take k))) ?_ G ?_ ?_ ?_
  ·exact ⟨_,_,Wk.aJ ar,a,c,n,S,_,rfl,rfl,lU,hS⟩
  ·rintro k _ _ ⟨a,c,n,S,B,rfl,rfl,_⟩;exact ea
  ·rintro k _ _ hk ⟨a,c,n,S,B,rfl,rfl,lU,hS⟩;rw [Po] at hk;obtain ⟨y,hy⟩:∃ y,ks[k]?=some y:=⟨ks[k],by simp [hk]⟩
   have hry:(ks.map fun i=>[GV.v (ii i)])[k]?=some [.v (ii y)]:=by rw [bp,hy];rfl
   have Xl:=hW.add (ks:=ks.take k) fun y hy=>vr y (List.mem_of_mem_take hy)
   have hWl:=Xl.len
   have C3:GF prog 55 [.sl 1 S,.v (ii y)] [] (.v (.bool ((addN L (ks.take k)).contains y))) []:=by
    rw [hS];exact Ct (addN L (ks.take k)) y G
   have R1:=Fg L ks k y hy
   have wz:n<=1048576:=by rw [<-lU,hS,eZ];omega
   rw [R1]
   cases hb:(addN L (ks.take k)).contains y with
   | true =>
    rw [hb] at C3;rw [ae rfl];refine I ?_;refine GL.borrow C3 (fun B K β w l hI hF=>jG (A:=[_]) (C:=[_]) hI hF rfl rfl) ?_;refine zaS ?_;exact ⟨rfl,rfl,_,_,Wk.aJ ar,a,c,n,S,B,rfl,rfl,lU,hS⟩
   | false =>
    rw [hb] at C3;rw [ab aC]
    have ue:aU (addN L (ks.take k)++[y])=S++[[.v (ii y)]]:=by rw [hS];simp [aU]
    rw [ue];clear hS;refine I ?_;refine GL.borrow C3 (fun B K β w l hI hF=>jG (A:=[_]) (C:=[_]) hI hF rfl rfl) ?_;refine cM ?_;refine zah ?_;intro a2 c2;refine za2 ?_;exact ⟨rfl,rfl,_,_,Wk.aJ ar,a2,c2,_,_,B,rfl,rfl,by simp [lU],rfl⟩
  ·rintro _ _ ⟨a,c,n,S,B,rfl,rfl,lU,hS⟩;rw [Po,di] at hS;refine iQ (bh ?_);refine I ?_;exact ⟨(i+1,addN L ks),⟨_,_,(Wk.cut (n:=2) (aX _) rfl).trans (Wk.aJ ar),a,c,n,S,rfl,rfl,lU,hS,hW.add vr,Dd,oT⟩,by show N - (i+1) < N - i;omega⟩
 ·have hd:decide ((i:Int) < (n:Int))=false:=decide_eq_false G;have hb:=G1 (cs:=nI p l) (f:=N+1 - i) (i:=i) (L:=L) G;rw [hb] at he;rw [<-he];subst hS;refine za1 ?_;refine GW.wk (Wk.Bd (t:=4) (i:=1) rfl rfl rfl) ?_;exact al
theorem Kb (p:Src) (hw:cQ p<=1048576) (iq:en p=true) {l:List T} {i:Nat} {f:Go.Sp.Fn} {t:T} (h:tR p l i f t) (z2:Int) :
  GF prog 58 [.agg (av p),.v (ii (i:Nat)),.v (ii z2)] [] (.v (.bool (iN p (i:Int) z2))) []:=by
 obtain ⟨⟨a1,a2⟩,⟨b1,b2⟩,⟨c1,c2⟩,⟨d1,d2⟩⟩:=gn p;have hi:=(bu h.gf).1;have hC:=AO p hw h;have hT:=Fq p hw h.good (cv p t) (tO p t);have hWl:=(D5 (p:=p) (l:=l) (p.fns.length+1) 0 _ (tO p t)).len
 have hH:GF prog 52 [ints (gV (rV p l (cv p t))),.v (ii z2)] [] (.v (.bool (iN p (i:Int) z2))) []:=by
  have:=qI (gV (rV p l (cv p t))) z2 (by rw [oC];unfold rV;omega);rw [IM] at this;unfold iN;rw [wq (uX iq hi) h];exact this
 generalize gV (rV p l (cv p t))=L at *;generalize cv p t=ks at *;generalize iN p (i:Int) z2=b at *;refine ai func58 ntmps58 ?_;refine aM (ay 0 3 (.q 5 (.a 3 (.a 4 (.a 6 (.q 7 .nil)))))) ?_;refine ak ?_;refine aB [] hC ?_;refine aB [] hT ?_;refine aB [] hH ?_;exact aw
theorem UU (p:Src) (hw:cQ p<=1048576) (hn:pj p) (a b:Int) :
  GF prog 21 [.agg (av p),.v (ii a),.v (ii b)] [] (.v (.bool (iN p a b))) []:=by
 obtain ⟨⟨a1,a2⟩,⟨b1,b2⟩,⟨c1,c2⟩,⟨d1,d2⟩⟩:=gn p
 have pA:(p.fns.map ax).length=p.fns.length:=by simp
 have hG:=Ei p hw hn
 have hW:=fun x=>I9 x 0 (((p.fns.map ax).length:Int) - 1)
 have hA:=hW a;have hB:=hW b
 cases q1:(decide ((0:Int)<=a)&&decide (a<=((p.fns.map ax).length:Int) - 1)) with
 | false =>
  rw [q1] at hA
  have hh:jZ p a=false:=by
   unfold jZ;rw [pA] at q1
   cases hc:((en p&&decide ((0:Int)<=a))&&decide (a < (p.fns.length:Int))) with
   | false=>rfl
   | true =>
    simp only [aI,decide_eq_true_eq] at hc;rw [decide_eq_true hc.1.2,decide_eq_true (show a<=(p.fns.length:Int) - 1 by omega)] at q1;cases q1
  rw [Fp hh];refine ai func21 ntmps21 ?_;refine V [] hA ?_;exact al
 | true =>
  rw [q1] at hA;rw [pA] at q1;simp only [aI,decide_eq_true_eq] at q1
  cases q2:(decide ((0:Int)<=b)&&decide (b<=((p.fns.map ax).length:Int) - 1)) with
  | false =>
   rw [q2] at hB;rw [pA] at q2;rw [Mj (by rintro ⟨D,X⟩;rw [decide_eq_true D,decide_eq_true (show b<=(p.fns.length:Int) - 1 by omega)] at q2;cases q2)];refine ai func21 ntmps21 ?_;refine V [] hA ?_;refine V [] hB ?_;exact al
  | true =>
   rw [q2] at hB
   cases q3:en p with
   | false =>
    rw [q3] at hG;rw [Fp (by unfold jZ;rw [q3];rfl)];refine ai func21 ntmps21 ?_;refine V [] hA ?_;refine V [] hB ?_;refine V [] hG ?_;exact al
   | true =>
    rw [q3] at hG
    have hh:jZ p a=true:=by unfold jZ;rw [q3,decide_eq_true q1.1,decide_eq_true (show a < (p.fns.length:Int) by omega)];rfl
    obtain ⟨i,l,f,t,rfl,h⟩:=sV hh;have hC:=Kb p hw q3 h b;generalize iN p (i:Int) b=z at *;refine ai func21 ntmps21 ?_;refine V [] hA ?_;refine V [] hB ?_;refine V [] hG ?_;exact zcX
end Go.Xg
namespace Go.Im
open Go.Xp Go.Sp
theorem Kc (p:Src) (l:List T) (x:Int):Trail p (nI p l x):=by
 refine ⟨?_,Ed p l x⟩;unfold nI;split
 ·exact vO (qg p _)
 ·exact List.Pairwise.nil
theorem rE (p:Src):zA (bB p):=by
 intro a b hb c hc
 have ha:jZ p a=true:=by
  cases h:jZ p a with
  | true=>rfl
  | false=>rw [yy h] at hb;cases hb
 have bH:jZ p b=true:=by
  cases h:jZ p b with
  | true=>rfl
  | false=>rw [yy h] at hc;cases hc
 obtain ⟨i,l,f,t,rfl,h⟩:=sV ha
 have hF:∀ x,jZ p x=true->bB p x=rV p l (nI p l x):=by
  intro x hx;unfold bB;rw [ae hx,h.good.Fk]
 rw [hF _ ha] at hb |-;rw [hF _ bH] at hc;have hw:=Kc p l (i:Int);have xB:=CN (nI p l) p.fns.length (Ed p l) (p.fns.length+1) 0 (nI p l (i:Int)) hw.nodup hw.rng zfw (fun j x hj=>by omega);exact Fj (nI p l) (fun x=>x∈rV p l (nI p l (i:Int))) (fun x hx y hy=>xB x hx y hy) _ 0 (nI p l b) (fun x hx=>xB b hb x hx) c hc
def dY (p:Src):List Int:=if en p=true then fX (bB p) p.fns.length p.fns.length else []
theorem Mk {p:Src} {a b:Int} (h:a≠b):(iN p a b&&iN p b a)=gq (bB p) a b:=by
 unfold gq iN;rw [show (a==b)=false from by simpa using h,Bool.false_or]
def vY (F:Int->List Int) (n:Nat) (told:List Int) (k:Int):Bool:=(F k).any fun x=>!(q9 F n x==q9 F n k)&&!told.contains x
theorem NC {F:Int->List Int} (ht:zA F) {n:Nat} (hr:∀ a,∀ y∈F a,0<=y/\y < (n:Int)) {told:List Int} {k:Int} (hk:0<=k/\k < (n:Int)) (hn:told.contains k=false) :
  (!vY F n told k)=ot F told k:=by
 have hi:(!vY F n told k)=true↔ot F told k=true:=by
  rw [wm,Bool.not_eq_true'];unfold vY;rw [List.any_eq_false];constructor
  ·refine fun h=>⟨fun g hg=>?_,fun h=>by rw [dz.2 h] at hn;cases hn⟩
   have:=h g hg;rw [aI,Bool.not_eq_true',Bool.not_eq_true'] at this
   cases hc:told.contains g with
   | true=>exact .inl (dz.1 hc)
   | false =>
    refine .inr ?_
    have he:(q9 F n g==q9 F n k)=true:=by
     cases hq:q9 F n g==q9 F n k with
     | true=>rfl
     | false=>exact absurd ⟨hq,hc⟩ this
    exact so ((CW ht (hr k g hg) hk).1 (beq_iff_eq.1 he))
  ·rintro ⟨h,-⟩ g hg;rw [aI,Bool.not_eq_true',Bool.not_eq_true'];rintro ⟨D,X⟩
   rcases h g hg with h3 | h3
   ·rw [dz.2 h3] at X;cases X
   ·rw [beq_eq_false_iff_ne] at D;exact D ((CW ht (hr k g hg) hk).2 (so h3))
 cases ha:!vY F n told k <;> cases hb:ot F told k <;> simp_all
end Go.Im
namespace Go.Xg
open Go.RowKit Go.Xw Go.Proofs Tryz Go.Im
open GV (U)
open Go.Sp (Src)
attribute [local irreducible] GW GL GO YG GC GA bg bj
theorem Ho (p:Src) (hw:cQ p<=1048576) (iq:en p=true) {i:Nat} (hi:i < p.fns.length) :
  GF prog 115 [.agg (av p),.v (ii (i:Nat))] [] (ints (bB p (i:Int))) []:=by
 obtain ⟨i',l,f,t,he,h⟩:=sV (uX iq hi)
 have:i'=i:=by omega
 subst this;rw [wq (uX iq hi) h];exact PZ p hw iq h
theorem B4 (p:Src) (x:Int):(bB p x).length<=p.fns.length:=(iP (p:=p) (fn:=x)).len
theorem Fy (p:Src) (hw:cQ p<=1048576) (a b:Int):GF prog 55 [ints (bB p a),.v (ii b)] [] (.v (.bool ((bB p a).contains b))) []:=by
 obtain ⟨⟨a1,a2⟩,⟨b1,b2⟩,⟨c1,c2⟩,⟨d1,d2⟩⟩:=gn p;have:=B4 p a;exact Ct (bB p a) b G
theorem P0 (p:Src) (hw:cQ p<=1048576) (iq:en p=true) {a b:Nat} (ha:a < p.fns.length) (hb:b < p.fns.length) :
  GF prog 61 [.agg (av p),.v (ii (a:Nat)),.v (ii (b:Nat))] [] (.v (.bool (gq (bB p) (a:Int) (b:Int)))) []:=by
 have hA:=Ho p hw iq ha;have hB:=Ho p hw iq hb;have TO:=Fy p hw (a:Int) (b:Int);have hHb:=Fy p hw (b:Int) (a:Int);unfold gq;generalize bB p (a:Int)=La at *;generalize bB p (b:Int)=Lb at *
 cases he:((a:Int)==(b:Int)) with
 | true =>
  rw [Bool.true_or];refine ai func61 ntmps61 ?_;exact al
 | false =>
  rw [Bool.false_or]
  cases D:La.contains (b:Int) with
  | false =>
   rw [D] at TO;rw [Bool.false_and];refine ai func61 ntmps61 ?_;refine V [] hA ?_;refine V [] TO ?_;exact al
  | true =>
   rw [D] at TO;rw [Bool.true_and];generalize Lb.contains (a:Int)=z at *;refine ai func61 ntmps61 ?_;refine V [] hA ?_;refine V [] TO ?_;refine V [] hB ?_;refine V [] hHb ?_;exact al
theorem PY (p:Src) (hw:cQ p<=1048576) (iq:en p=true) {f:Nat} (hf:f < p.fns.length) (told:List Int) (nz:told.length<=1048576) :
  GF prog 75 [.agg (av p),.v (ii (f:Nat)),ints told] [] (.v (.bool (ot (bB p) told (f:Int)))) []:=by
 obtain ⟨⟨a1,a2⟩,⟨b1,b2⟩,⟨c1,c2⟩,⟨d1,d2⟩⟩:=gn p;have hA:=Ho p hw iq hf;have hLl:=B4 p (f:Int);have hLr:∀ y∈bB p (f:Int),0<=y/\y < (p.fns.length:Int):=(iP (p:=p) (fn:=(f:Int))).rng
 have zm:∀ b:Nat,b < p.fns.length->GF prog 61 [.agg (av p),.v (ii (f:Nat)),.v (ii (b:Nat))] [] (.v (.bool (gq (bB p) (f:Int) (b:Int)))) []:=fun b hb=>P0 p hw iq hf hb
 have hT:∀ y:Int,GF prog 55 [ints told,.v (ii y)] [] (.v (.bool (told.contains y))) []:=fun y=>Ct told y G
 have hTf:=hT (f:Int);unfold ot;generalize hL:bB p (f:Int)=L at *
 have dK:(L.map fun i=>[GV.v (ii i)]).length=L.length:=by simp
 refine ai func75 ntmps75 ?_;refine V [] hA ?_;refine GW.range (L.map fun i=>[GV.v (ii i)]).length (fun k fr Γ=>fr=[U,.v (ii (f:Nat)),ints told,.loc 0 0,U,U,U,U,U,U,U,ints L,.v (ii ((L.map fun i=>[GV.v (ii i)]).length:Int)),.v (ii (k:Nat)),U,U,U,U,U,U,U,U,U,U,U,U,U,U,U,U,U,U,U]/\Γ=[.box 28 (av p)]/\(L.take k).all (fun g=>told.contains g || gq (bB p) (f:Int) g)=true) ?_ G ?_ ?_ ?_
 ·exact jQ
 ·exact gO
 ·rintro k _ _ au ⟨rfl,rfl,hc⟩;rw [dK] at au;obtain ⟨y,cS⟩:∃ y,L[k]?=some y:=⟨L[k],by simp [au]⟩;have hr:=qm cS
  have bL:(L.take (k+1)).all (fun g=>told.contains g || gq (bB p) (f:Int) g)=(told.contains y || gq (bB p) (f:Int) y):=by
   rw [dh,cS,List.all_append,hc,Bool.true_and];simp
  have hm:=br cS;have hyr:=hLr y hm;obtain ⟨j,hj⟩:∃ j:Nat,y=(j:Int):=⟨y.toNat,by omega⟩;subst hj;have hS:=zm j G;have Pa:=hT (j:Int)
  cases D:told.contains (j:Int) with
  | true =>
   rw [D] at Pa bL;refine I ?_;refine V [] Pa ?_;exact ⟨rfl,rfl,_,_,Wk.aJ ar,rfl,rfl,by rw [bL];rfl⟩
  | false =>
   rw [D] at Pa bL
   cases X:gq (bB p) (f:Int) (j:Int) with
   | true =>
    rw [X] at hS bL;refine I ?_;refine V [] Pa ?_;refine V [] hS ?_;exact ⟨rfl,rfl,_,_,Wk.aJ ar,rfl,rfl,by rw [bL];rfl⟩
   | false =>
    rw [X] at hS
    have cl:L.all (fun g=>told.contains g || gq (bB p) (f:Int) g)=false:=by
     rw [List.all_eq_false];exact ⟨(j:Int),hm,by rw [D,X];decide⟩
    rw [cl,Bool.false_and];refine I ?_;refine V [] Pa ?_;refine V [] hS ?_;exact al
 ·rintro _ _ ⟨rfl,rfl,hc⟩;rw [dK,di] at hc;rw [hc,Bool.true_and];generalize told.contains (f:Int)=z at *;refine I ?_;refine V [] hTf ?_;exact al
theorem Jm (p:Src) (hw:cQ p<=1048576) :
  GF prog 29 [.agg (av p)] [] (ints (dY p)) []:=by
 obtain ⟨⟨a1,a2⟩,⟨b1,b2⟩,⟨c1,c2⟩,⟨d1,d2⟩⟩:=gn p
 have pA:(p.fns.map ax).length=p.fns.length:=by simp
 have hG:=Ky p hw;unfold dY
 cases iq:en p with
 | false =>
  rw [iq] at hG;rw [ab aC];refine ai func29 ntmps29 ?_;refine zal ?_;refine V [] hG ?_;exact al
 | true =>
  rw [iq] at hG;rw [ae rfl];have XK:=vJ (rE p) (n:=p.fns.length) (fun a=>(iP (p:=p) (fn:=a)).nodup) (fun a=>(iP (p:=p) (fn:=a)).rng);refine ai func29 ntmps29 ?_;refine n7 ?_;refine GL.xa (t:=5) rfl rfl rfl rfl ?_;intro ad0 cp0;refine za2 ?_;refine V [] hG ?_;refine GW.range (p.fns.map ax).length (fun k fr Γ=>∃ a c n S,fr=[U,.loc 0 0,U,.v (.slice a n c),U,U,U,U,U,U,U,.sl 3 (p.fns.map ax),.v (ii ((p.fns.map ax).length:Int)),.v (ii (k:Nat)),U,U,U,U,U,U,U,U,U,U,U,U,U,U,U,U,U,U]/\Γ=[.box 28 (av p),.vech 3 1 S (.slice a n c)]/\S.length=n/\S=aU (fX (bB p) p.fns.length k)) ?_ G ?_ ?_ ?_
  ·exact ⟨_,_,Wk.aJ ar,ad0,cp0,0,[],rfl,rfl,rfl,rfl⟩
  ·rintro k _ _ ⟨a,c,n,S,rfl,rfl,_⟩;exact ea
  ·rintro k _ _ hk ⟨a,c,n,S,rfl,rfl,lU,hS⟩;rw [pA] at hk;have wy:=XK k G;obtain ⟨f,-,hf,mM,cl,cU⟩:=wI (rE p) (n:=p.fns.length) (fun a=>(iP (p:=p) (fn:=a)).nodup) (fun a=>(iP (p:=p) (fn:=a)).rng) (told:=fX (bB p) p.fns.length k) G;have oT:fX (bB p) p.fns.length (k+1)=fX (bB p) p.fns.length k++[(f:Int)]:=cU
   have hFr:∀ j:Nat,j < p.fns.length->GF prog 75 [.agg (av p),.v (ii (j:Nat)),.sl 1 S] [] (.v (.bool (ot (bB p) (fX (bB p) p.fns.length k) (j:Int)))) []:=fun j hj=>by
    rw [hS];exact PY p hw iq hj _ G
   have ue:aU (fX (bB p) p.fns.length (k+1))=S++[[.v (ii (f:Int))]]:=by rw [oT,hS];simp [aU]
   have wz:n<=1048576:=by rw [<-lU,hS,eZ];omega
   rw [ue];clear hS cU oT ue;generalize fX (bB p) p.fns.length k=o at *;refine I ?_;refine GW.range (p.fns.map ax).length (fun j fr Γ=>j<=f/\fr=[U,.loc 0 0,U,.v (.slice a n c),U,U,U,U,U,U,U,.sl 3 (p.fns.map ax),.v (ii ((p.fns.map ax).length:Int)),.v (ii (k:Nat)),U,U,.sl 3 (p.fns.map ax),.v (ii ((p.fns.map ax).length:Int)),.v (ii (j:Nat)),U,U,U,U,U,U,U,U,U,U,U,U,U]/\Γ=[.box 28 (av p),.vech 3 1 S (.slice a n c)]) ?_ G ?_ ?_ ?_
   ·exact ⟨_,_,Wk.aJ ar,aX _,rfl,rfl⟩
   ·rintro j _ _ ⟨_,rfl,rfl⟩;exact ea
   ·rintro j _ _ hj ⟨FG,rfl,rfl⟩;rw [pA] at hj;have hC:=hFr j hj
    by_cases he:j=f
    ·subst he;rw [mM] at hC;refine I ?_;refine GL.borrow hC (fun B K β w l hI hF=>mI (A:=[_]) (C:=[]) hI hF rfl rfl rfl) ?_;refine cM ?_;refine zah ?_;intro a2 c2;refine cY ?_;refine za1 ?_;exact zer
    ·rw [cl j G] at hC;refine I ?_;refine GL.borrow hC (fun B K β w l hI hF=>mI (A:=[_]) (C:=[]) hI hF rfl rfl rfl) ?_;refine zaS ?_;exact zc8
   ·rintro _ _ ⟨FG,rfl,rfl⟩;rw [pA] at FG;omega
  ·rintro _ _ ⟨a,c,n,S,rfl,rfl,lU,hS⟩;rw [pA] at hS;subst hS;refine bh ?_;refine I ?_;refine GW.wk (Wk.Bd (t:=2) (i:=1) rfl rfl rfl) ?_;exact al
end Go.Xg
namespace Go.Im
open Go.Xp Go.Sp
theorem Mr {p:Src} {fn x:Int} (h:x∈jS p fn):x∈bB p fn:=by
 unfold jS at h;unfold bB
 by_cases hh:jZ p fn=true
 ·rw [ae hh] at h |-
  cases hb:kC p.nodes p.fns 0 [] with
  | none=>rw [hb] at h;simp at h
  | some q =>
   obtain ⟨l,n⟩:=q;rw [hb] at h;exact J4 (nI p l) _ 0 _ x h
 ·rw [ab hh] at h;simp at h
theorem HZ {F:Int->List Int} (ht:zA F) {n:Nat} (hn:∀ a,(F a).Nodup) (hr:∀ a,∀ y∈F a,0<=y/\y < (n:Int)):∀ k,k<=n->∀ i f,(fX F n k)[i]?=some f->ot F ((fX F n k).take i) f=true
 | 0,_,i,f,h=>by simp [fX] at h
 | k+1,hk,i,f,h=>by
  have hl:=vJ ht hn hr k zfw;obtain ⟨g,-,-,mM,-,he⟩:=wI ht hn hr (told:=fX F n k) zfw;rw [fX,he] at h |-
  rcases Nat.lt_or_ge i k with hi | hi
  ·rw [ff zfw] at h;rw [List.take_append_of_le_length zfw];exact HZ ht hn hr k zfw i f h
  ·have XG:i < k+1:=by
    have:=(bu h).1;rw [aO,hl] at this;exact zbT
   have XG:i=k:=by omega
   rw [XG,fA zfw,hl,qt] at h;rw [XG,List.take_append_of_le_length zfw,mn zfw]
   cases h;exact mM
theorem MV {p:Src} (hg:en p=true):(dY p).length=p.fns.length:=by
 unfold dY;rw [ae hg];exact vJ (rE p) (fun a=>(iP (p:=p) (fn:=a)).nodup) (fun a=>(iP (p:=p) (fn:=a)).rng) _ (aH _)
theorem VE {p:Src} {i:Nat} {f:Int} (h:(dY p)[i]?=some f):(∀ g∈jS p f,((dY p).take i).contains g=true\/g=f\/iN p g f=true)/\((dY p).take i).contains f=false:=by
 unfold dY at h |-
 by_cases hg:en p=true
 ·rw [ae hg] at h |-;have hf:=HZ (rE p) (fun a=>(iP (p:=p) (fn:=a)).nodup) (fun a=>(iP (p:=p) (fn:=a)).rng) _ (aH _) i f h;obtain ⟨D,X⟩:=wm.1 hf;refine ⟨fun g hg=>?_,?_⟩
  ·rcases D g (Mr hg) with h3 | h3
   ·exact .inl (dz.2 h3)
   ·rcases lK.1 h3 with h4 | h4
    ·exact .inr (.inl h4.symm)
    ·exact .inr (.inr (dz.2 h4.2))
  ·cases hc:((fX (bB p) p.fns.length p.fns.length).take i).contains f with
   | false=>rfl
   | true=>exact absurd (dz.1 hc) X
 ·rw [ab hg] at h;simp at h
theorem Sz {p:Src} (hg:en p=false):dY p=[]:=by unfold dY;rw [ab (by rw [hg];decide)]
end Go.Im
namespace Go.Im
open Go.Sp
theorem Mg {p:Src} (hw:cQ p<=1048576) (fn:Int):(jS p fn).length<=1048576:=by
 have:=(vU p).2.2.1;unfold jS;split
 ·split
  ·rename_i l n h;have:=(Kc p l fn).len;omega
  ·exact aX _
 ·exact aX _
end Go.Im
namespace Go.Xg
open Go.RowKit Go.Xw Go.Proofs Tryz Go.Sp Go.Im
open GV (U)
open Go.Xp (aD)
theorem GC.aak {P:Program} {f:FuncId} {args:List GV} {E k n:Nat} {rows:List (List GV)} (h:GC P f args [] fun g Δ=>∃ a c,g=.v (.slice a n c)/\Δ=[.vech E k rows (.slice a n c)]):GF P f args [] (.sl k rows) []:=fun B K β w vs hm hI hF =>
 (h B K β w vs hm hI hF).mono fun v w' ⟨K',bR,g,aV,bA,hr,a,c,hg,bD⟩=>by
  subst hg;subst bD;obtain ⟨K2,k2,r2,i2⟩:=bA.rh (i:=0) rfl;have hv:=Rel.eE hr;refine ⟨K2,_,.sl k rows,[],i2.cut (n:=0) zgy rfl,?_,rfl,rfl⟩;rw [hv];exact r2.pc rfl
attribute [local irreducible] GW GL GO YG GC GA bg bj
theorem Rc (p:Src) (hw:cQ p<=1048576) (hn:pj p):∃ c z,GF prog 26 [.agg (av p)] [] (.tup [.v (ii c),.v (ii z)]) []/\(c==0)=en p:=by
 obtain ⟨⟨a1,a2⟩,⟨b1,b2⟩,⟨c1,c2⟩,⟨d1,d2⟩⟩:=gn p;have hF:=Fc p hw hn
 cases hf:fI p with
 | false =>
  rw [hf] at hF;exact ⟨_,_,Fb p hF,by rw [B6 hf];rfl⟩
 | true =>
  rw [hf] at hF;obtain ⟨l,hl⟩:=tY hf;have hlen:=gz.len hl.fns;have sH:=yR p;have kq:=zB hl
  have hc:=CI p l (dr p) G hlen G hF (CM p hw) (Gh p G G fun a ha=>⟨(kq a ha).1,by have:=(kq a ha).2;omega⟩) fun i f t D X=>by
   obtain ⟨e1,_⟩:=gz.at_ hl.fns i f t D X;have h7:=eg.ix l 0 i _ hl.st X;rw [ed] at e1 h7
   have hb:f.body.toNat=aD (l.take i):=by rw [e1,jR]
   exact zbn
  exact ⟨_,_,hc,(zS hf hl).symm⟩
theorem UT (p:Src) (hw:cQ p<=1048576) (hn:pj p) (fn:Int):GF prog 20 [.agg (av p),.v (ii fn)] [] (ints (jS p fn)) []:=by
 have hH:=RW p fn hw hn
 cases hh:jZ p fn with
 | false =>
  rw [hh] at hH;rw [Oa hh];refine ai func20 ntmps20 ?_;refine V [] hH ?_;refine Wo ?_;exact ⟨ints [],iw,rfl,rfl⟩
 | true =>
  rw [hh] at hH;obtain ⟨i,l,f,t,rfl,hf⟩:=sV hh;rw [Mh hh hf];have hC:=AO p hw hf;refine ai func20 ntmps20 ?_;refine V [] hH ?_;exact zcX
theorem Hu (xs:List Int) (z:Int) (hl:xs.length<=1099511627776):GF prog 19 [ints xs,.v (ii z)] [] (.v (.bool (xs.contains z))) []:=by
 have uw:∀ {k:Nat} {x:Int},xs[k]?=some x->(xs.take (k+1)).contains z=((xs.take k).contains z || (x==z)):=fun {k x} h=>by
  rw [dh,h,List.contains_append];show (_ || [x].contains z)=_
  congr 1
  exact zbV
 refine ai func19 ntmps19 ?_;refine GW.range (xs.map fun i=>[GV.v (ii i)]).length (fun k fr Γ=>fr=[ints xs,.v (ii z),U,U,U,U,U,ints xs,.v (ii ((xs.map fun i=>[GV.v (ii i)]).length:Int)),.v (ii (k:Nat)),U,U,U,U,U,U,U]/\Γ=[]/\(xs.take k).contains z=false) ?_ zfz ?_ ?_ ?_
 ·exact jQ
 ·exact gO
 ·rintro k _ _ au ⟨rfl,rfl,hc⟩
  have au:k < xs.length:=by simpa using au
  have hx:xs[k]?=some xs[k]:=by simp [au]
  have hr:(xs.map fun i=>[GV.v (ii i)])[k]?=some [.v (ii xs[k])]:=by simp [au]
  have iT:=uw hx;refine I ?_;refine GW.cond rfl (fun X=>?_) (fun X=>?_)
  ·refine zb5 ?_
   have h3:xs[k]=z:=by simpa using X
   have:z∈xs:=by rw [<-h3];exact List.getElem_mem _
   exact ze1
  ·exact zdW
 ·rintro _ _ ⟨rfl,rfl,hc⟩;refine zb5 ?_
  have hc:xs.contains z=false:=by rw [cj,di] at hc;exact hc
  refine ⟨?_,rfl⟩;show GV.v (.bool false)=_;rw [hc]
end Go.Xg
namespace Go.Xg
open Go.RowKit Go.Xw Go.Proofs Go.Im
def eL (gs:List (List Int)):List (List GV):=gs.map fun g=>[.sl 1 (aU g)]
theorem Inv.Tw {B:Bs} {K:Fz} {β:Bt} {w:World} {Γ:List Ob} {jf base:Nat} {T E:TypeId} {h:Value} {rows:List (List GV)} {gs:List (List Int)} {hd:Nat->Value} (hI:Inv B K β Γ w)
  (FG:Γ[jf]?=some (.vech T 1 rows h)) (hlen:rows.length=gs.length) (bx:∀ i,i < gs.length->rows[i]?=some [.v (hd i)])
  (jN:∀ i (g:List Int),gs[i]?=some g->Γ[base+i]?=some (.vech E 1 (aU g) (hd i))) (au:jf < base) :
  ∃ K1 Zc,cW K K1/\Inv B K1 β Zc w/\Zc[jf]?=some (.vech T 1 (eL gs) h):=by
 obtain ⟨K',aV,rows',a1,a2,a3,a4,a5,-⟩:=hI.IB (T:=T) (k:=1) (o:=0) (E:=E) (k':=1) (jf:=jf) (N:=gs.length) (h:=h) (raw:=fun i=>[.v (hd i)]) (fin:=fun i=>[.sl 1 (aU (gs[i]?.getD []))]) (ks:=fun i=>aU (gs[i]?.getD [])) (hd:=hd) (jp:=fun i=>base+i) FG ⟨hlen,bx⟩
  (fun i hi=>⟨rfl,rfl⟩) (fun i hi=>by
   have hg:gs[i]?=some gs[i]:=ct hi;have:=jN i _ hg;rw [this]
   simp only [hg,Option.getD_some]) (fun i hi=>by omega) (fun i i' _ _ h=>by omega)
 have he:rows'=eL gs:=by
  refine List.ext_getElem? fun i=>?_
  unfold eL;rw [bp]
  by_cases hi:i < gs.length
  ·rw [a5 i hi,ct hi];rfl
  ·rw [List.getElem?_eq_none G,List.getElem?_eq_none G];rfl
 subst he;exact ⟨K',aV,a1,a2,a3⟩
theorem Inv.deep {B:Bs} {K:Fz} {β:Bt} {w:World} {Γ:List Ob} {jf base:Nat} {T E:TypeId} {h:Value} {rows:List (List GV)} {gs:List (List Int)} {hd:Nat->Value} (hI:Inv B K β Γ w)
  (FG:Γ[jf]?=some (.vech T 1 rows h)) (hlen:rows.length=gs.length) (bx:∀ i,i < gs.length->rows[i]?=some [.v (hd i)])
  (jN:∀ i (g:List Int),gs[i]?=some g->Γ[base+i]?=some (.vech E 1 (aU g) (hd i))) (au:jf < base) :
  ∃ K1,cW K K1/\nE K1 w/\lP K1 (fun _=>.no) w/\Rel K1 (fun _=>.no) h (.sl 1 (eL gs)):=by
 obtain ⟨K',aV,a1,a2,a3⟩:=hI.Tw FG hlen bx jN au;obtain ⟨K1,b1,b2,b3,b4⟩:=a2.view a3;exact ⟨K1,a1.trans b1,b2,b3,b4⟩
open Tryz
open GV (U)
open Go.Sp (Src)
attribute [local irreducible] GW GL GO YG GC GA bg bj
theorem G5 (p:Src) (hw:cQ p<=1048576) (iq:en p=true) {a:Nat} (ha:a < p.fns.length) (z:Int) :
  GF prog 58 [.agg (av p),.v (ii (a:Nat)),.v (ii z)] [] (.v (.bool (iN p (a:Int) z))) []:=by
 obtain ⟨i',l,f,t,he,h⟩:=sV (uX iq ha)
 have:i'=a:=by omega
 subst this;exact Kb p hw iq h z
theorem O5 (p:Src) (hw:cQ p<=1048576) (iq:en p=true) {a k:Nat} (ha:a < p.fns.length) (hk:k < p.fns.length) (r:List Int) :
  GF prog 114 [.sl 1 (aU ((a:Int)::r)),.box (av p) 0,.box [.v (ii (k:Nat))] 0] [] (.v (.bool (iN p (a:Int) (k:Int)&&iN p (k:Int) (a:Int)))) []:=by
 have hA:=G5 p hw iq ha (k:Int);have hB:=G5 p hw iq hk (a:Int);have hr:(aU ((a:Int)::r))[0]?=some [.v (ii (a:Int))]:=rfl
 have KM:0 < (aU ((a:Int)::r)).length:=by simp [aU]
 generalize aU ((a:Int)::r)=R at *
 cases D:iN p (a:Int) (k:Int) with
 | false =>
  rw [D] at hA;rw [Bool.false_and];refine ai func114 ntmps114 ?_;refine ze4 ?_;exact aw
 | true =>
  rw [D] at hA;rw [Bool.true_and];generalize iN p (k:Int) (a:Int)=z at *;refine ai func114 ntmps114 ?_;refine ze4 ?_;refine bV [] hB ?_;exact aw
theorem GR {lS:FuncId} [aP prog lS] (pr:List Int->Bool) (c1 c2:List GV) (ls:List (List Int)) (hn:ls.length<=1099511627776) (hc:∀ l∈ls,GF prog lS [.sl 1 (aU l),.box c1 0,.box c2 0] [] (.v (.bool (pr l))) []) :
  GF prog 70 [.sl 1 (eL ls),.fn (.func lS) [] [.box c1 0,.box c2 0]] [] (.v (ii (cx pr ls))) []:=by
 have dK:(eL ls).length=ls.length:=by simp [eL]
 refine ai func70 ntmps70 ?_;refine GW.range (eL ls).length (fun k fr Γ=>fr=[.sl 1 (eL ls),.fn (.func lS) [] [.box c1 0,.box c2 0],U,U,U,U,U,.v (ii ((eL ls).length:Int)),.v (ii (k:Nat)),U,U,U,U,U,U,U,U,U,U]/\Γ=[]/\(ls.take k).all (fun y=>!pr y)=true) ?_ G ?_ ?_ ?_
 ·exact jQ
 ·exact gO
 ·rintro k _ _ au ⟨rfl,rfl,ba⟩;rw [dK] at au;obtain ⟨x,cS⟩:∃ x,ls[k]?=some x:=⟨ls[k],by simp [au]⟩
  have hr:(eL ls)[k]?=some [.sl 1 (aU x)]:=by unfold eL;rw [bp,cS];rfl
  have h:=hc x (br cS);have bL:=lQ (f:=pr) cS
  have hit:=fun h0=>lD (f:=pr) cS h0 ba
  generalize aU x=acJ at *
  cases hb:pr x with
  | true =>
   exact zbv
  | false =>
   exact zbN
 ·rintro _ _ ⟨rfl,rfl,ba⟩;exact zaV
end Go.Xg
namespace Go.Xg
open Go.RowKit Go.Xw Go.Proofs Tryz Go.Im
open GV (U)
def lG (gs:List (List Int)) (hs:List Value):List Ob:=List.zipWith (fun g h=>Ob.vech 3 1 (aU g) h) gs hs
def qQ (hs:List Value):List (List GV):=hs.map fun h=>[.v h]
def CY (gs:List (List Int)) (h:Value) (hs:List Value):List Ob:=.vech 36 1 (qQ hs) h::lG gs hs
structure Bu (gs:List (List Int)) (h:Value) (hs:List Value):Prop where
 head:∃ a c,h=.slice a gs.length c
 len:hs.length=gs.length
 kid:∀ (i:Nat) g x,gs[i]?=some g->hs[i]?=some x->∃ a c,x=.slice a g.length c
theorem PK {gs:List (List Int)} {hs:List Value} (h:hs.length=gs.length):(lG gs hs).length=gs.length:=by simp [lG,h]
theorem KG (hs:List Value):(qQ hs).length=hs.length:=by simp [qQ]
theorem Ao {gs:List (List Int)} {hs:List Value} {i:Nat} {g:List Int} {h:Value} (hg:gs[i]?=some g) (hh:hs[i]?=some h):(lG gs hs)[i]?=some (.vech 3 1 (aU g) h):=by
 unfold lG;rw [List.getElem?_zipWith,hg,hh]
theorem PJ {gs:List (List Int)} {hs:List Value}:∀ x∈lG gs hs,x.uH=true:=fun x hx=>by
 unfold lG at hx;obtain ⟨i,hi⟩:=List.mem_iff_getElem?.1 hx;rw [List.getElem?_zipWith] at hi;split at hi
 ·cases hi;rfl
 ·cases hi
theorem Vs {gs:List (List Int)} {h:Value} {hs:List Value}:∀ x∈CY gs h hs,x.uH=true:=fun x hx=>by
 rcases eF hx with rfl | hx
 ·rfl
 ·exact PJ x hx
theorem Qm (A:List Ob) (x y:Ob):oset (A++[x]) A.length y=A++[y]:=by
 induction A with
 | nil=>rfl
 | cons a A ih=>simp only [cons_append,length_cons,oset,ih]
theorem Dq:∀ {gs:List (List Int)} {hs:List Value} (g:List Int) (h:Value),hs.length=gs.length->lG gs hs++[.vech 3 1 (aU g) h]=lG (gs++[g]) (hs++[h])
 | [],[],g,h,_=>rfl
 | x::gs,y::hs,g,h,hl=>by
  have:=Dq (gs:=gs) (hs:=hs) g h zfz;unfold lG at this |-;simp only [cons_append,List.zipWith_cons_cons,this]
 | [],y::hs,g,h,hl=>by simp at hl
 | x::gs,[],g,h,hl=>by simp at hl
theorem FQ:∀ (gs:List (List Int)) (hs:List Value) (i:Nat) (g:List Int) (h:Value),oset (lG gs hs) i (.vech 3 1 (aU g) h)=lG (gs.set i g) (hs.set i h)
 | [],hs,i,g,h=>by simp [lG,oset]
 | x::gs,[],i,g,h=>by simp [lG,oset]
 | x::gs,y::hs,0,g,h=>rfl
 | x::gs,y::hs,i+1,g,h=>by
  have:=FQ gs hs i g h;unfold lG at this |-;simp only [List.zipWith_cons_cons,List.set_cons_succ,oset,this]
theorem KH:∀ (hs:List Value) (i:Nat) (h:Value),gF (qQ hs) i 0 (.v h)=qQ (hs.set i h)
 | [],i,h=>rfl
 | y::hs,0,h=>rfl
 | y::hs,i+1,h=>by
  have:=KH hs i h;unfold qQ at this |-;simp only [List.map_cons,List.set_cons_succ,gF,this]
theorem Bu.snoc {gs:List (List Int)} {h:Value} {hs:List Value} (H:Bu gs h hs) (g:List Int) {a b:Option Addr} {c d:Nat}:Bu (gs++[g]) (.slice a (gs.length+1) c) (hs++[.slice b g.length d]):=by
 refine ⟨⟨a,c,by simp⟩,by simp [H.len],fun i g' x D X=>?_⟩;have hl:=H.len
 rcases Nat.lt_or_ge i gs.length with hi | hi
 ·rw [ff hi] at D;rw [ff G] at X;exact H.kid i g' x D X
 ·rw [fA hi] at D;rw [fA G] at X;rw [hl] at X
  cases hk:i - gs.length with
  | zero =>
   rw [hk] at D X
   cases D;cases X
   exact zaD
  | succ k=>rw [hk] at D;simp at D
theorem Bu.set {gs:List (List Int)} {h:Value} {hs:List Value} (H:Bu gs h hs) {i:Nat} (g:List Int) {b:Option Addr} {d n:Nat} (hn:n=g.length):Bu (gs.set i g) h (hs.set i (.slice b n d)):=by
 subst hn;obtain ⟨a,c,e⟩:=H.head;refine ⟨⟨a,c,by rw [e];simp⟩,by simp [H.len],fun j g' x D X=>?_⟩;rw [eG] at D X
 by_cases fj:i=j
 ·rw [ae fj] at D X;split at D
  ·cases D;split at X
   ·cases X;exact zaD
   ·cases X
  ·cases D
 ·rw [ab fj] at D X;exact H.kid j g' x D X
theorem B8 (F:Int->List Int):∀ k,(iD F k).length<=k
 | 0=>by simp [iD]
 | k+1=>by
  have:=B8 F k;rw [iD];unfold uW;split
  ·rw [List.length_set];omega
  ·rw [aO];simp only [length_cons,List.length_nil];omega
theorem B7 {F:Int->List Int}:∀ (k:Nat),∀ g∈iD F k,g.length<=k
 | 0,g,h=>by simp [iD] at h
 | k+1,g,h=>by
  have ih:=B7 (F:=F) k;rw [iD] at h;unfold uW at h;split at h
  ·rename_i i _
   rcases List.mem_or_eq_of_mem_set h with h | rfl
   ·have:=ih g h;omega
   ·cases hg:(iD F k)[i]? with
    | none=>simp
    | some l =>
     have:=ih l (br hg);simp only [Option.getD_some,aO,length_cons,List.length_nil];omega
  ·rcases nt h with h | h
   ·have:=ih g h;omega
   ·rw [List.mem_singleton] at h;subst h;simp
theorem Zw {K K1:Fz} {β:Bt} {v:Value} {f:Fn} {cap:List GV} (hk:cW K K1) (hp:∀ g∈cap,g.pc=true) (h:Rel K β v (.fn f [] cap)):Rel K1 (fun _=>.no) v (.fn f [] cap):=by
 cases h with
 | fn f xs ys first cap hl kG h h' =>
  exact .fn f xs ys [] cap hl kG (fun i v g _ hg=>by simp at hg) (fun i v g D X=>((h' i v g D X).mono hk (dI.refl β)).pc (hp g (br X)))
theorem RT {B:Bs} {K:Fz} {β:Bt} {w:World} {gs:List (List Int)} {h:Value} {hs:List Value} {A C:List Ob} (H:Bu gs h hs) (hI:Inv B K β (A++(CY gs h hs++C)) w) :
  ∃ K1,cW K K1/\nE K1 w/\lP K1 (fun _=>.no) w/\Rel K1 (fun _=>.no) h (.sl 1 (eL gs)):=by
 have hl:=H.len;have fC:=PK hl;refine hI.deep (jf:=A.length) (base:=A.length+1) (T:=36) (E:=3) (rows:=qQ hs) (hd:=fun i=>hs[i]?.getD (.slice none 0 0)) ?_ (by simp [qQ,hl]) (fun i hi=>?_) (fun i g hg=>?_) G
 ·rw [fA (aH _),qt];rfl
 ·have:hs[i]?=some hs[i]:=ct G;simp [qQ,this]
 ·have hi:=(bu hg).1;have:hs[i]?=some hs[i]:=ct G;rw [fA G,show A.length+1+i - A.length=i+1 by omega];unfold CY;rw [cons_append,List.getElem?_cons_succ,ff G];simp only [this,Option.getD_some];exact Ao hg this
theorem GC.YK {f:FuncId} {args:List GV} {acK:List (List Int)} (h:GC prog f args [] fun g Δ=>∃ h hs,Bu acK h hs/\g=.v h/\Δ=CY acK h hs):GF prog f args [] (.sl 1 (eL acK)) []:=fun B K β w vs hm hI hF =>
 (h B K β w vs hm hI hF).mono fun v w' ⟨K',bR,g,aV,bA,hr,x,hs,H,hg,bD⟩=>by
  subst hg;subst bD;have hl:=H.len
  obtain ⟨K1,Zc,k1,i1,j1⟩:=bA.Tw (jf:=0) (base:=1) (T:=36) (E:=3) (rows:=qQ hs) (gs:=acK) (h:=x) (hd:=fun i=>hs[i]?.getD (.slice none 0 0)) rfl (by simp [qQ,hl]) (fun i hi=>by
   have:hs[i]?=some hs[i]:=ct G
   simp [qQ,this]) (fun i g hg=>by
   have hi:=(bu hg).1;have:hs[i]?=some hs[i]:=ct G;rw [Nat.add_comm];unfold CY;simp only [List.getElem?_cons_succ,this,Option.getD_some]
   exact Ao hg this) G
  obtain ⟨K2,k2,r2,i2⟩:=i1.rh j1;have hv:=Rel.eE hr;refine ⟨K2,_,.sl 1 (eL acK),[],i2.cut (n:=0) zgy rfl,?_,rfl,rfl⟩;rw [hv];exact r2.pc rfl
open Go.Sp (Src)
attribute [local irreducible] GW GL GO YG GC GA bg bj
theorem RR (p:Src) (hw:cQ p<=1048576) (iq:en p=true) :
  GC prog 60 [.agg (av p)] [] fun g Δ=>∃ h hs,Bu (iD (bB p) p.fns.length) h hs/\g=.v h/\Δ=CY (iD (bB p) p.fns.length) h hs:=by
 obtain ⟨⟨a1,a2⟩,⟨b1,b2⟩,⟨c1,c2⟩,⟨d1,d2⟩⟩:=gn p
 have pA:(p.fns.map ax).length=p.fns.length:=by simp
 refine ei func60 ntmps60 ?_;refine zcm ?_;refine zaS ?_;refine GW.wk (Wk.ln 36 1) ?_;simp only [nil_append];refine GW.range (p.fns.map ax).length (fun k fr Γ=>∃ h hs,fr=[U,.box (av p) 0,U,.v h,U,U,U,.sl 3 (p.fns.map ax),.v (ii ((p.fns.map ax).length:Int)),.v (ii (k:Nat)),U,U,U,U,U,U,U,U,U,U,U,U,U,U,U,U,U,U,U,U,U,U,U,U]/\Bu (iD (bB p) k) h hs/\Γ=CY (iD (bB p) k) h hs) ?_ G ?_ ?_ ?_
 ·exact ⟨_,_,Wk.aJ ar,.slice none 0 0,[],rfl,⟨⟨none,0,rfl⟩,rfl,fun i g x h=>by simp [iD] at h⟩,rfl⟩
 ·rintro k _ _ ⟨h,hs,rfl,_,rfl⟩;exact ea
 ·rintro k _ _ hk ⟨h,hs,rfl,H,rfl⟩;rw [pA] at hk;have KL:iD (bB p) (k+1)=uW (bB p) (iD (bB p) k) (k:Int):=rfl;have KK:=A1 (rE p) k;have lI:=B8 (bB p) k;have hgk:=B7 (F:=bB p) k;rw [KL];clear KL;generalize iD (bB p) k=gs at *
  have hIx:GF prog 70 [.sl 1 (eL gs),.fn (.func 114) [] [.box (av p) 0,.box [.v (ii (k:Nat))] 0]] [] (.v (ii (cx (fun g=>gq (bB p) (g.headD 0) (k:Int)) gs))) []:=by
   refine GR _ _ _ gs G fun g hg=>?_
   obtain ⟨a,r,rfl⟩:∃ a r,g=a::r:=List.exists_cons_of_ne_nil (KK.ne g hg);obtain ⟨r1,r2,-⟩:=KK.mem _ hg a zfu;obtain ⟨j,rfl⟩:∃ j:Nat,a=(j:Int):=⟨a.toNat,by omega⟩;have:=O5 p hw iq (a:=j) (k:=k) G hk r;rw [Mk G] at this;exact this
  refine Bi ?_;refine zcH ?_;refine GL.borrow hIx (fun B K β w l hI hF=>?_) ?_
  ·obtain ⟨K1,wx,D,X,h3⟩:=RT (A:=[]) (C:=[]) H (by rw [ef];exact hI);refine ⟨K1,D,X,?_⟩;have hr:=hF.ev (.tmp 13);show bs K1 _ [ev l (.tmp 12),ev l (.tmp 13)] _;rw [hF.ko (x:=.tmp 12) (a:=h) rfl];exact .cons h3 (.cons (Zw wx (cap:=[.box (av p) 0,.box [.v (ii (k:Int))] 0]) (by intro g hg;simp only [List.mem_cons,List.not_mem_nil,or_false] at hg;rcases hg with rfl | rfl <;> rfl) hr) .nil)
  refine cM ?_;unfold uW CV cx
  cases hz:gs.findIdx? (fun g=>gq (bB p) (g.headD 0) (k:Int)) with
  | none =>
   obtain ⟨a0,c0,e0⟩:=H.head;have hl:=H.len
   have xI:(qQ hs).length=gs.length:=by rw [KG,hl]
   simp only;refine I ?_;refine n7 ?_
   have uD:(Ob.vech 36 1 (qQ hs) h::(lG gs hs++[.vec 3 1 0 (chunk 1 1 [.v (ii (k:Nat))])]))[(lG gs hs).length+1]?=some (.vec 3 1 0 (chunk 1 1 [.v (ii (k:Nat))])):=by simp
   refine GL.xa (t:=19) rfl rfl uD rfl ?_;intro a1 c1;refine tQ rfl (Qm (Ob.vech 36 1 (qQ hs) h::lG gs hs) _ _) ?_;refine cM ?_;refine GL.hO 0 rfl rfl rfl rfl rfl rfl rfl rfl xI kO ?_;intro a2 c2;refine za2 ?_;refine ⟨rfl,rfl,_,_,Wk.aJ ar,_,hs++[.slice a1 1 c1],rfl,H.snoc [(k:Int)],?_⟩;unfold CY;rw [<-Dq _ _ hl];show _=_;simp only [qQ,mo,List.map_cons,List.map_nil];rfl
  | some i =>
   obtain ⟨a0,c0,e0⟩:=H.head;have hl:=H.len
   have xI:(qQ hs).length=gs.length:=by rw [KG,hl]
   obtain ⟨hi,-,-⟩:=List.findIdx?_eq_some_iff_getElem.1 hz;have Mz:gs[i]?=some gs[i]:=ct hi;have xD:hs[i]?=some (hs[i]'G):=ct _;obtain ⟨a1,c1,e1⟩:=H.kid i _ _ Mz xD;have hgb:=hgk _ (br Mz);generalize gs[i]=g at *;generalize hs[i]'G=x at *;subst e1
   have vz:(qQ hs)[i]?=some [.v (.slice a1 g.length c1)]:=by simp [qQ,xD]
   have Dd:i < (qQ hs).length:=by omega
   have jN:(Ob.vech 36 1 (qQ hs) h::lG gs hs)[i+1]?=some (.vech 3 1 (aU g) (.slice a1 g.length c1)):=by rw [List.getElem?_cons_succ];exact Ao Mz xD
   have abn:(aU g).length=g.length:=by simp [aU]
   simp only;rw [Mz,Option.getD_some];refine I ?_;refine aM (ay 0 7 (.a 7 (.a 8 (.q 9 (.a 10 .nil))))) ?_;refine zdE ?_;refine OA rfl rfl (GL.pk (i+1) (news:=[[.v (ii (k:Nat))]]) rfl rfl jN abn rfl rfl ⟨by show g.length+1<=_;omega,by show (g.length+1) * _<=_;omega⟩ ?_);intro a2 c2;refine dM ?_;refine ak ?_;refine OA rfl rfl (GL.DL rfl rfl rfl vz rfl rfl rfl rfl ?_);refine zbI ?_;refine ⟨rfl,rfl,_,_,Wk.aJ ar,h,hs.set i (.slice a2 (g.length+1) c2),rfl,H.set (g++[(k:Int)]) zfu,?_⟩;unfold CY;rw [<-FQ,<-KH,show aU (g++[(k:Int)])=aU g++[[.v (ii (k:Nat))]] by simp [aU]];rfl
 ·rintro _ _ ⟨h,hs,rfl,H,rfl⟩;rw [pA] at H;rw [pA];refine bh ?_;refine zdm ?_;refine CR 0 rfl dO rfl Vs ⟨h,hs,H,rfl,rfl⟩
end Go.Xg
namespace Go.Im
open Go.Xp Go.Sp
theorem OL {α:Type} (f g:α->Bool) (l:List α):(cx f l != cx g l)=!(l.findIdx? f==l.findIdx? g):=by
 unfold cx
 cases l.findIdx? f with
 | none =>
  cases l.findIdx? g with
  | none=>rfl
  | some j=>simp
 | some i =>
  cases l.findIdx? g with
  | none=>simp
  | some j =>
   by_cases e:i=j
   ·subst e;simp
   ·have h:(i:Int)≠(j:Int):=by omega
    have D:((i:Int) != (j:Int))=true:=by simpa using h
    have X:(some i==some j)=false:=by simpa using e
    show ((i:Int) != (j:Int))=!(some i==some j);rw [D,X];rfl
theorem Rq {α:Type} {f:α->Bool} {l m:List α} (h:∀ x,x∈l↔x∈m):l.any f=m.any f:=by
 cases hm:m.any f with
 | true =>
  obtain ⟨x,hx,hf⟩:=pG.1 hm;exact pG.2 ⟨x,(h x).2 hx,hf⟩
 | false =>
  rw [List.any_eq_false] at hm |-
  exact fun x hx=>hm x ((h x).1 hx)
end Go.Im
namespace Go.Xg
open Go.RowKit Go.Xw Go.Proofs Tryz Go.Im
open GV (U)
open Go.Sp (Src)
attribute [local irreducible] GW GL GO YG GC GA bg bj
theorem RQ (p:Src) (hw:cQ p<=1048576) (iq:en p=true) :
  GF prog 60 [.agg (av p)] [] (.sl 1 (eL (iD (bB p) p.fns.length))) []:=GC.YK (RR p hw iq)
theorem GQ {lS:FuncId} [aP prog lS] (pr:List Int->Bool) (c1:List GV) (ls:List (List Int)) (hn:ls.length<=1099511627776) (hc:∀ l∈ls,GF prog lS [.sl 1 (aU l),.box c1 0] [] (.v (.bool (pr l))) []) :
  GF prog 70 [.sl 1 (eL ls),.fn (.func lS) [] [.box c1 0]] [] (.v (ii (cx pr ls))) []:=by
 have dK:(eL ls).length=ls.length:=by simp [eL]
 refine ai func70 ntmps70 ?_;refine GW.range (eL ls).length (fun k fr Γ=>fr=[.sl 1 (eL ls),.fn (.func lS) [] [.box c1 0],U,U,U,U,U,.v (ii ((eL ls).length:Int)),.v (ii (k:Nat)),U,U,U,U,U,U,U,U,U,U]/\Γ=[]/\(ls.take k).all (fun y=>!pr y)=true) ?_ G ?_ ?_ ?_
 ·exact jQ
 ·exact gO
 ·rintro k _ _ au ⟨rfl,rfl,ba⟩;rw [dK] at au;obtain ⟨x,cS⟩:∃ x,ls[k]?=some x:=⟨ls[k],by simp [au]⟩
  have hr:(eL ls)[k]?=some [.sl 1 (aU x)]:=by unfold eL;rw [bp,cS];rfl
  have h:=hc x (br cS);have bL:=lQ (f:=pr) cS
  have hit:=fun h0=>lD (f:=pr) cS h0 ba
  generalize aU x=acJ at *
  cases hb:pr x with
  | true =>
   exact zbv
  | false =>
   exact zbN
 ·rintro _ _ ⟨rfl,rfl,ba⟩;exact zaV
theorem Sy (l:List Int) (x:Int) (hl:l.length<=1099511627776) :
  GF prog 71 [.sl 1 (aU l),.box [.v (ii x)] 0] [] (.v (.bool (l.contains x))) []:=by
 have hC:=qI l x hl;generalize l.contains x=b at *;refine ai func71 ntmps71 ?_;exact zcX
theorem Le (acK:List (List Int)) (x:Int) (hn:acK.length<=1099511627776) (hl:∀ l∈acK,l.length<=1099511627776) :
  GF prog 69 [.v (ii x),.box [.sl 1 (eL acK)] 0] [] (.v (ii (cx (fun l=>l.contains x) acK))) []:=by
 have hC:=GQ (lS:=71) (fun l=>l.contains x) [.v (ii x)] acK hn fun l h=>Sy l x (hl l h)
 generalize cx (fun l=>l.contains x) acK=b at *;generalize eL acK=R at *;refine ei func69 ntmps69 ?_;refine zcm ?_;refine zaS ?_;exact zcX
def nC (R S:List (List GV)) (h:Value):List Ob:=[.vech 3 1 S h,.box 70 [.fn (.func 69) [] [.box [.sl 1 R] 0]],.box 36 [.v h]]
theorem Bw {B:Bs} {K:Fz} {β:Bt} {w:World} {fr:List GV} {l:List Value} {A C:List Ob} {x y:Operand} {S:List (List GV)} {h z:Value} (hI:Inv B K β (A++(.vech 3 1 S h::C)) w) (hF:FR K β fr l) (hx:bf fr x=.v h) (hy:bf fr y=.v z) :
  ∃ K1,nE K1 w/\lP K1 (fun _=>.no) w/\bs K1 (fun _=>.no) ([x,y].map (ev l)) [.sl 1 S,.v z]:=by
 obtain ⟨K1,hk,D,X,h3⟩:=hI.view (i:=A.length) (E:=3) (k:=1) (rows:=S) (x:=h) zgk;exact zcs
theorem VD (acK:List (List Int)) (told:List Int) (x k:Int) (h:Value) (hn:acK.length<=1099511627776) (hl:∀ l∈acK,l.length<=1099511627776) (ht:told.length<=1099511627776) :
  GF prog 74 [.v (ii x),.loc 1 0,.box [.v (ii k)] 0,.loc 2 0] (nC (eL acK) (aU told) h)
   (.v (.bool (!(acK.findIdx? (fun l=>l.contains x)==acK.findIdx? (fun l=>l.contains k))&&!told.contains x))) (nC (eL acK) (aU told) h):=by
 have D:=Le acK x hn hl;have X:=Le acK k hn hl;have h3:=qI told x ht;have bT:=OL (fun l:List Int=>l.contains x) (fun l=>l.contains k) acK;rw [<-bT];generalize cx (fun l:List Int=>l.contains x) acK=a at *;generalize cx (fun l:List Int=>l.contains k) acK=b at *;generalize told.contains x=z at *;generalize eL acK=R at *;have e3:ints told=.sl 1 (aU told):=rfl;rw [e3] at h3;generalize aU told=S at *;unfold nC
 cases Pc:(a != b) with
 | false =>
  rw [Bool.false_and];refine ai func74 ntmps74 ?_;refine zcz ?_;exact zbJ
 | true =>
  rw [Bool.true_and];refine ai func74 ntmps74 ?_;refine zcz ?_;refine ak ?_;refine NS rfl rfl rfl zf9 (GL.borrow h3 (fun B K β w l hI hF=>Bw (A:=[]) hI hF rfl rfl) ?_);refine dM ?_;exact zbJ
theorem GS (pr:Int->Bool) (R S:List (List GV)) (h:Value) (c1:List GV) (ls:List Int) (hn:ls.length<=1099511627776)
  (hc:∀ x∈ls,GF prog 74 [.v (ii x),.loc 1 0,.box c1 0,.loc 2 0] (nC R S h) (.v (.bool (pr x))) (nC R S h)) :
  GF prog 132 [ints ls,.fn (.func 74) [] [.loc 1 0,.box c1 0,.loc 2 0]] (nC R S h) (.v (ii (cx pr ls))) (nC R S h):=by
 have dK:(aU ls).length=ls.length:=by simp [aU]
 have e3:ints ls=.sl 1 (aU ls):=rfl;rw [e3];unfold nC at *;refine ai func132 ntmps132 ?_;refine GW.range (aU ls).length (fun k fr Γ=>fr=[.sl 1 (aU ls),.fn (.func 74) [] [.loc 1 0,.box c1 0,.loc 2 0],U,U,U,U,U,.v (ii ((aU ls).length:Int)),.v (ii (k:Nat)),U,U,U,U,U,U,U,U,U,U]/\Γ=[.vech 3 1 S h,.box 70 [.fn (.func 69) [] [.box [.sl 1 R] 0]],.box 36 [.v h]]/\(ls.take k).all (fun y=>!pr y)=true) ?_ G ?_ ?_ ?_
 ·exact jQ
 ·exact gO
 ·rintro k _ _ au ⟨rfl,rfl,ba⟩;rw [dK] at au;obtain ⟨x,cS⟩:∃ x,ls[k]?=some x:=⟨ls[k],by simp [au]⟩
  have hr:(aU ls)[k]?=some [.v (ii x)]:=by unfold aU;rw [bp,cS];rfl
  have D:=hc x (br cS);have bL:=lQ (f:=pr) cS
  have hit:=fun h0=>lD (f:=pr) cS h0 ba
  cases hb:pr x with
  | true =>
   rw [hb] at D;rw [hit hb];refine I ?_;refine jB [0,1,2] D ?_;exact aw
  | false =>
   rw [hb] at D bL;refine I ?_;refine jB [0,1,2] D ?_;exact zam
 ·rintro _ _ ⟨rfl,rfl,ba⟩;exact zaV
theorem CJ (pr:Int->Bool) (R S:List (List GV)) (h:Value) (c1:List GV) (ls:List Int) (hn:ls.length<=1099511627776)
  (hc:∀ x∈ls,GF prog 74 [.v (ii x),.loc 1 0,.box c1 0,.loc 2 0] (nC R S h) (.v (.bool (pr x))) (nC R S h)) :
  GF prog 72 [ints ls,.fn (.func 74) [] [.loc 1 0,.box c1 0,.loc 2 0]] (nC R S h) (.v (.bool (ls.any pr))) (nC R S h):=by
 have hi:=GS pr R S h c1 ls hn hc;rw [<-zP];generalize cx pr ls=z at *;unfold nC at *;refine ai func72 ntmps72 ?_;refine V [0,1,2] hi ?_;exact al
theorem Wp (p:Src) (hw:cQ p<=1048576) (iq:en p=true) (told:List Int) (ht:told.length<=1048576) {k:Nat} (hk:k < p.fns.length) (h:Value) :
  GF prog 72 [ints (gV (bB p (k:Int))),.fn (.func 74) [] [.loc 1 0,.box [.v (ii (k:Nat))] 0,.loc 2 0]]
   (nC (eL (iD (bB p) p.fns.length)) (aU told) h) (.v (.bool (vY (bB p) p.fns.length told (k:Int)))) (nC (eL (iD (bB p) p.fns.length)) (aU told) h):=by
 obtain ⟨⟨a1,a2⟩,⟨b1,b2⟩,⟨c1,c2⟩,⟨d1,d2⟩⟩:=gn p;have lI:=B8 (bB p) p.fns.length;have fC:=B7 (F:=bB p) p.fns.length;have lV:=B4 p (k:Int);have hq:=CJ (fun x=>!((iD (bB p) p.fns.length).findIdx? (fun l=>l.contains x)==(iD (bB p) p.fns.length).findIdx? (fun l=>l.contains (k:Int)))&&!told.contains x) (eL (iD (bB p) p.fns.length)) (aU told) h [.v (ii (k:Nat))] (gV (bB p (k:Int))) (by rw [oC];omega)
  fun x _=>VD _ told x (k:Int) h G (fun l hl=>by have:=fC l hl;omega) G
 rw [Rq (fun x=>vV)] at hq;exact hq
theorem Oc (p:Src) (hw:cQ p<=1048576) (iq:en p=true) {k:Nat} (hk:k < p.fns.length) :
  ∃ ks,GF prog 53 [.agg (av p),.v (ii (k:Nat))] [] (ints ks) []/\GF prog 73 [.agg (av p),ints ks] [] (ints (gV (bB p (k:Int)))) []:=by
 obtain ⟨i',l,f,t,he,h⟩:=sV (uX iq hk)
 have:i'=k:=by omega
 subst this;refine ⟨_,AO p hw h,?_⟩;rw [wq (uX iq hk) h];exact Fq p hw h.good (cv p t) (tO p t)
theorem Jn (p:Src) (hw:cQ p<=1048576) (hn:pj p) :
  GC prog 28 [.agg (av p)] [] fun g Δ=>∃ a c,g=.v (.slice a (dY p).length c)/\Δ=[.vech 3 1 (aU (dY p)) (.slice a (dY p).length c)]:=by
 obtain ⟨⟨a1,a2⟩,⟨b1,b2⟩,⟨c1,c2⟩,⟨d1,d2⟩⟩:=gn p
 have pA:(p.fns.map ax).length=p.fns.length:=by simp
 have hG:=Ei p hw hn;unfold dY
 cases iq:en p with
 | false =>
  rw [iq] at hG;rw [ab aC];refine ei func28 ntmps28 ?_;refine GW.wk (Wk.ln 3 1) ?_;simp only [nil_append];refine I ?_;refine V [] hG ?_;refine n8 ?_;exact rl (n:=1) rfl dO rfl (dP rfl) rfl rfl ⟨none,0,rfl,rfl⟩
 | true =>
  rw [iq] at hG;rw [ae rfl];have hA:=RQ p hw iq;have R7:=rE p
  have XL:=fun a=>(iP (p:=p) (fn:=a)).nodup
  have KP:=fun a=>(iP (p:=p) (fn:=a)).rng
  have XK:=vJ R7 (n:=p.fns.length) XL KP;refine ei func28 ntmps28 ?_;refine GW.wk (Wk.ln 3 1) ?_;simp only [nil_append];refine zcm ?_;refine zaS ?_;refine V [] hG ?_;refine kj [] hA ?_;refine zcH ?_
  have Xm:=fun (told:List Int) (ht:told.length<=1048576) (k:Nat) (hk:k < p.fns.length) (h:Value)=>Wp p hw iq told ht hk h
  have hwf:=fun (told:List Int) (k:Nat) (hk:k < p.fns.length) (hc:told.contains (k:Int)=false)=>NC (F:=bB p) R7 (n:=p.fns.length) KP (told:=told) (k:=(k:Int)) G hc
  unfold nC at Xm;generalize eL (iD (bB p) p.fns.length)=R at *;refine GW.loop (fun j:Nat=>p.fns.length - j) (fun j fr Γ=>∃ a c S,j<=p.fns.length/\fr=[U,.box (av p) 0,U,.box [.sl 1 R] 0,.loc 1 0,.loc 2 0,U,U,U,U,U,U,U,U,U,U,U,U,U,U,U,U,U,U,U,U,U,U,U,U,U,U,U,U,U,U,U,U,U,U,U,U,U,U]/\Γ=[.vech 3 1 S (.slice a j c),.box 70 [.fn (.func 69) [] [.box [.sl 1 R] 0]],.box 36 [.v (.slice a j c)]]/\S=aU (fX (bB p) p.fns.length j)) 0 ?_ ?_
  ·exact ⟨_,_,Wk.aJ ar,none,0,[],aX _,rfl,rfl,rfl⟩
  ·rintro j _ _ ⟨a,c,S,hj,rfl,rfl,hS⟩;have XJ:=XK j hj
   have lU:S.length=j:=by rw [hS,eZ,XJ]
   by_cases au:j < p.fns.length
   ·have hd:decide ((j:Int) < ((p.fns.map ax).length:Int))=true:=by rw [pA];simpa using au
    obtain ⟨f,-,hf,mM,cl,cU⟩:=wI R7 (n:=p.fns.length) XL KP (told:=fX (bB p) p.fns.length j) G;have oT:fX (bB p) p.fns.length (j+1)=fX (bB p) p.fns.length j++[(f:Int)]:=cU
    have ue:aU (fX (bB p) p.fns.length (j+1))=S++[[.v (ii (f:Int))]]:=by rw [oT,hS];simp [aU]
    clear cU oT;have Xn:=Xm (fX (bB p) p.fns.length j) G;have abJ:=hwf (fX (bB p) p.fns.length j);rw [<-hS] at Xn
    have hCt:∀ k:Nat,GF prog 52 [.sl 1 S,.v (ii (k:Nat))] [] (.v (.bool ((fX (bB p) p.fns.length j).contains (k:Int)))) []:=fun k=>by
     rw [hS];exact qI _ (k:Int) G
    have TW:(fX (bB p) p.fns.length j).contains (f:Int)=false:=by
     have:=(wm.1 mM).2
     cases hc:(fX (bB p) p.fns.length j).contains (f:Int) with
     | false=>rfl
     | true=>exact absurd (dz.1 hc) this
    clear hS Xm hwf;generalize fX (bB p) p.fns.length j=o at *;refine I ?_;refine GW.range (p.fns.map ax).length (fun k fr Γ=>k<=f/\fr=[U,.box (av p) 0,U,.box [.sl 1 R] 0,.loc 1 0,.loc 2 0,U,U,U,U,U,U,U,U,U,U,U,U,U,U,U,.sl 3 (p.fns.map ax),.v (ii ((p.fns.map ax).length:Int)),.v (ii (k:Nat)),U,U,U,U,U,U,U,U,U,U,U,U,U,U,U,U,U,U,U,U]/\Γ=[.vech 3 1 S (.slice a j c),.box 70 [.fn (.func 69) [] [.box [.sl 1 R] 0]],.box 36 [.v (.slice a j c)]]) ?_ G ?_ ?_ ?_
    ·exact ⟨_,_,Wk.aJ ar,aX _,rfl,rfl⟩
    ·rintro k _ _ ⟨_,rfl,rfl⟩;exact ea
    ·rintro k _ _ hk ⟨hkf,rfl,rfl⟩;rw [pA] at hk;have hC:=hCt k;have hW:=Xn k hk (.slice a j c);obtain ⟨ks,xB,TU⟩:=Oc p hw iq hk;refine Bi ?_;refine zcH ?_;refine GL.borrow hC (fun B K β w l hI hF=>Bw (A:=[]) hI hF rfl rfl) ?_;refine cM ?_
     cases hc:o.contains (k:Int) with
     | true =>
      have uD:k≠f:=fun e=>by subst e;rw [TW] at hc;cases hc
      refine za1 ?_;exact zc8
     | false =>
      have FL:=abJ k hk hc
      by_cases he:k=f
      ·subst he;rw [mM] at FL
       have FL:vY (bB p) p.fns.length o (k:Int)=false:=by simpa using FL
       rw [FL] at hW;refine zcA ?_;refine I ?_;refine GL.hO 0 rfl rfl rfl rfl rfl rfl rfl rfl lU kO ?_;intro a2 c2;refine cY ?_;refine za1 ?_;exact ⟨j+1,⟨_,_,Wk.aJ ar,a2,c2,_,au,rfl,rfl,ue.symm⟩,by show p.fns.length - (j+1) < p.fns.length - j;omega⟩
      ·rw [cl k G] at FL
       have FL:vY (bB p) p.fns.length o (k:Int)=true:=by simpa using FL
       rw [FL] at hW;refine zcA ?_;refine I ?_;exact zc8
    ·rintro _ _ ⟨hkf,rfl,rfl⟩;rw [pA] at hkf;omega
   ·have hd:decide ((j:Int) < ((p.fns.map ax).length:Int))=false:=by rw [pA];simpa using au
    have hjn:j=p.fns.length:=by omega
    subst hjn;refine za1 ?_;refine n8 ?_;exact rl (n:=1) rfl dO rfl (dP rfl) rfl rfl ⟨a,c,by rw [XJ];rfl,by rw [XJ,<-hS];rfl⟩
open Go.Sp
theorem wB (l:List Int) (k:Nat):(aU l).take k=aU (l.take k):=by unfold aU;rw [List.map_take]
theorem Gi (code:ah):GF prog 6 [.sl 1 (bS code)] [] (.v (.bool true)) []:=by
 have kE:=zE code
 rcases Nat.lt_or_ge 1048576 code.length with au | kF
 ·have hd:decide ((1048576:Int) < ((bS code).length:Int))=true:=decide_eq_true G;refine ai func6 ntmps6 ?_;exact al
 ·have hd:decide ((1048576:Int) < ((bS code).length:Int))=false:=decide_eq_false G;refine ai func6 ntmps6 ?_;refine bU [] (CK code G) ?_;rintro _ _ ⟨rfl,p,hw,hn,rfl⟩;refine cV ?_;have hI:=GC.aak (Jn p hw hn);have hG:=Jm p hw;obtain ⟨c,z,hC,TS⟩:=Rc p hw hn;have ab4:=vU p;have Ua:(p.fns.map ax).length=p.fns.length:=cj _;have dK:(aU (dY p)).length=(dY p).length:=cj _
  have bT:(((aU (dY p)).length:Int) != ((aU (dY p)).length:Int))=false:=by simp
  refine I ?_;refine V [] hI ?_;refine V [] hG ?_;refine V [] hC ?_
  cases iq:en p with
  | false =>
   rw [iq] at TS
   have dw:(c != 0)=true:=by unfold bne;rw [TS];rfl
   have Mx:(((aU (dY p)).length:Int)==0)=true:=by rw [dK,Sz iq];rfl
   exact zes
  | true =>
   rw [iq] at TS
   have dw:(c != 0)=false:=by unfold bne;rw [TS];rfl
   have FH:=MV iq;refine I ?_;refine GW.range (aU (dY p)).length (fun k fr Γ=>fr=[U,U,U,.loc 0 0,.sl 1 (aU (dY p)),U,U,U,U,U,U,U,U,U,U,U,U,U,U,U,U,U,U,U,U,U,U,U,U,U,U,U,U,U,.sl 1 (aU (dY p)),.v (ii ((aU (dY p)).length:Int)),.v (ii (k:Nat)),U,U,U,U,U,U,U,U,U,U,U,U,U,U,U,U,U,U,U,U,U,U,U,U,U,U,U,U,U,U,U,U,U,U,U,U,U,U,U,U,U,U,U]/\Γ=[.box 28 (av p)]) ?_ G ?_ ?_ ?_
   ·exact jP
   ·rintro k _ _ ⟨rfl,rfl⟩;exact ea
   ·rintro k _ _ hk ⟨rfl,rfl⟩
    have Aa:k < (dY p).length:=by omega
    obtain ⟨f,hf⟩:∃ x,(dY p)[k]?=some x:=⟨(dY p)[k],ct Aa⟩
    have hr:(aU (dY p))[k]?=some [.v (ii f)]:=by unfold aU;rw [bp,hf];rfl
    obtain ⟨u1,u2⟩:=VE hf;have hCl:=UT p hw hn f;have xB:=Mg hw f;have hmc:(aU (jS p f)).length=(jS p f).length:=cj _
    have nz:((dY p).take k).length<=1099511627776:=by rw [gy];omega
    have hH2:=Hu ((dY p).take k) f nz;rw [u2] at hH2;refine I ?_;refine V [] hCl ?_;refine GW.A4 (fun fr Γ=>fr=[U,U,U,.loc 0 0,.sl 1 (aU (dY p)),U,U,.v (ii (k:Nat)),.v (ii f),U,U,U,U,U,U,U,U,U,U,U,U,U,U,U,U,U,U,U,U,U,U,U,U,U,.sl 1 (aU (dY p)),.v (ii ((aU (dY p)).length:Int)),.v (ii (k:Nat)),U,U,U,U,U,U,U,U,U,U,U,U,U,U,U,U,U,U,U,U,U,U,U,U,U,U,U,U,U,U,U,U,U,U,U,U,U,U,U,U,U,U,U]/\Γ=[.box 28 (av p)]) ?_ ?_
    ·refine GW.range (aU (jS p f)).length (fun i fr Γ=>fr=[U,U,U,.loc 0 0,.sl 1 (aU (dY p)),U,U,.v (ii (k:Nat)),.v (ii f),U,U,U,U,U,U,U,U,U,U,U,U,U,U,U,U,U,U,U,U,U,U,U,U,U,.sl 1 (aU (dY p)),.v (ii ((aU (dY p)).length:Int)),.v (ii (k:Nat)),U,U,U,U,U,U,.sl 1 (aU (jS p f)),.v (ii ((aU (jS p f)).length:Int)),.v (ii (i:Nat)),U,U,U,U,U,U,U,U,U,U,U,U,U,U,U,U,U,U,U,U,U,U,U,U,U,U,U,U,U,U,U,U,U,U]/\Γ=[.box 28 (av p)]) ?_ G ?_ ?_ ?_
     ·exact jP
     ·rintro k _ _ ⟨rfl,rfl⟩;exact ea
     ·rintro i _ _ hi ⟨rfl,rfl⟩;rw [hmc] at hi;obtain ⟨g,hg⟩:∃ x,(jS p f)[i]?=some x:=⟨(jS p f)[i],ct hi⟩
      have et:(aU (jS p f))[i]?=some [.v (ii g)]:=by unfold aU;rw [bp,hg];rfl
      have hH:=Hu ((dY p).take k) g nz;have hM:=UU p hw hn g f;have uF:=u1 g (br hg)
      cases hb:((dY p).take k).contains g with
      | true =>
       rw [hb] at hH;refine zby ?_;refine V [] hH ?_;exact zaU
      | false =>
       rw [hb] at hH uF
       by_cases Da:g=f
       ·have abm:(g != f)=false:=by rw [Da];simp
        refine zby ?_;refine V [] hH ?_;exact zaU
       ·have abm:(g != f)=true:=by simpa using Da
        have zo:iN p g f=true:=by
         rcases uF with h | h | h
         ·cases h
         ·exact absurd h Da
         ·exact h
        rw [zo] at hM;refine zby ?_;refine V [] hH ?_;refine V [] hM ?_;exact zaU
     ·rintro _ _ ⟨rfl,rfl⟩;refine bh ?_;exact jP
    ·rintro _ _ ⟨rfl,rfl⟩;refine zby ?_;refine V [] hH2 ?_;exact zaU
   ·rintro _ _ ⟨rfl,rfl⟩;refine bh ?_
    have Mx:(((aU (dY p)).length:Int)==((p.fns.map ax).length:Int))=true:=by rw [dK,Ua,FH];simp
    exact zes
end Go.Xg
namespace Go.Xg
open Go.RowKit Go.Xw Go.Proofs Go.WideShapes Go.Deep
def Y1 (c:UInt8):Value:=.int .u8 (c.toNat:Int)
theorem Vk (c:UInt8):flat (Y1 c):=fun a n d e=>by cases e
theorem wf_u8 {z:Int} (h:(Lit.int .u8 z).wf=true):∃ c:UInt8,z=((c.toNat:Nat):Int):=by
 simp only [Lit.wf,aI,decide_eq_true_eq] at h
 have D:IntKind.min .u8=0:=by decide
 have X:IntKind.max .u8=255:=by decide
 rw [D,X] at h;refine ⟨UInt8.ofNat z.toNat,?_⟩
 have h3:z.toNat < 256:=by omega
 have h4:(UInt8.ofNat z.toNat).toNat=z.toNat:=by simp [Nat.mod_eq_of_lt h3]
 rw [h4];omega
section
variable {H:Type} {enc:TypeId × Value->H} {P:Program} {W:World}
theorem Qi {t e:TypeId} {n:Nat} {v:Value} {y:DataW H × List MemPlace} (ht:P.underlying t=some (.slice e)) (he:P.underlying e=some (.int .u8)) (hc:P.cellsOf e=1) (h:DataW.trod enc P W 0 (fun _=>true) true n t [v]=some y) :
  ∃ l:ah,Rh W v (l.map Y1)/\l.length<=9223372036854775807:=by
 rcases open_slice1 ht hc h with ⟨iT,_⟩ | ⟨a,len,cap,m,n',acG,acH,Pl,iT,_,hl,hm,xF,_,hx⟩
 ·injection iT with hv;subst hv
  exact ⟨[],⟨none,0,rfl,.inl rfl⟩,aX _⟩
 ·injection iT with hv _;subst hv
  simp only [if_true] at xF
  obtain ⟨l,D,X⟩:=BB (n:=len) (Q:=fun i (c:UInt8)=>W.cell? (a.add i)=some (Y1 c)) (fun i hi=>by
   obtain ⟨c1,c2⟩:=hx i G;obtain ⟨z,hs,_,hz⟩:=DataW.trod_int he c2
   injection hs with hs _
   rw [hs] at c1;obtain ⟨c,rfl⟩:=wf_u8 hz
   exact ⟨c,c1⟩)
  refine ⟨l,⟨some a,cap,by rw [cj,D],?_⟩,by rw [D];exact max_le (jg hl hm)⟩
  by_cases h0:len=0
  ·have:l=[]:=gx G;subst this;exact .inl rfl
  ·refine .inr ⟨a.block,a.off,?_,by rw [cj,D];exact hl,fun i x hi=>?_⟩
   ·have wy:l[0]?=some (l[0]'G):=ct _;have:=Rn (X 0 _ wy);obtain ⟨b,o,s⟩:=a;simp only at this;rw [this]
   ·rw [bp] at hi
    cases Dd:l[i]? with
    | none=>rw [Dd] at hi;cases hi
    | some c =>
     rw [Dd] at hi;cases hi;exact ⟨Ru (X i c Dd),Vk c⟩
theorem Qj (β:Bt) {t e:TypeId} {v:Value} {d:DataW H} {ps:List MemPlace} {r:Reach} {b0:Nat} (ht:P.underlying t=some (.slice e)) (he:P.underlying e=some (.int .u8)) (hc:P.cellsOf e=1) (hv:Value.okWide P W r b0 t v) (h:DataW.Trod enc P W 0 (fun _=>true) true t v d ps) :
  ∃ l:ah,Rel (KW W) β v (.sl 1 (bS l))/\l.length<=9223372036854775807:=by
 obtain ⟨a0,len,cap,rfl⟩:=okWide_slice ht hv;obtain ⟨fuel,hf⟩:=h;obtain ⟨l,D,X⟩:=Qi ht he hc hf;refine ⟨l,?_,X⟩;have:=Qt D β;rw [List.map_map] at this;exact this
end
end Go.Xg
