/- Part 10 of proofs that are told in their last texts. -/
import Derived.Test.YtfmnfhpifpjljaaGreatDoorCards
import Derived.ProofKit
import Derived.Test.YtfmnfhpifpjljaaGreatDoorZ9
open List (cons_append nil_append)
set_option linter.unusedVariables false
set_option linter.unusedSimpArgs false
set_option linter.defProp false
set_option maxRecDepth 100000
set_option maxHeartbeats 4000000
namespace Go
def zcB{A B:Prop}(h:B)(s:PLift B->A:=by intro hQ;refine GW.seq ?_;refine GW.region ?_;refine GL.vP rfl rfl ?_;exact hQ.1):A:=s ⟨h⟩
end Go
namespace Go.Xg
open Go.RowKit Go.Xw Go.Proofs Tryz Go.Im Go.Mn
open Go.Xp (Nd T bg)
open Go.Sp (Src)
attribute [local irreducible] GW GL GO V GC GA bh bm
section
variable{p:Src}{l0:List T}{F:Nat}{H:MH}{al:Option Addr}{cl:Nat}
theorem X6(W:RW p l0 F H){G:Nat}(ih:∀g',g'<=G->GX p l0 F H g'){b ls:List ai}{n:Nd}{l:List T}{s s':M}{v:Int}(hN:uP p b (.mk n l) ls)(EA:b.length<=40)(hkd:7<=n.aj)(hm:jy p F s)(hr:Rg s)(E:s.over=false)
  (h:ev jY F (jd p l0) (G+1) (qB p (.mk n l) ls) s=some (v,s')):wV p F H al cl b.length (km b (.mk n l) ls) s s':=by
 have⟨⟨a1,a2⟩,⟨b1,b2⟩,⟨c1,c2⟩,⟨d1,d2⟩⟩:=iR p;have hw:=W.w;have J:=W.F;rw[km];rw[Go.Mn.ev]at h;split at h
 ·rename_i o;simp only[Option.some.injEq,Prod.mk.injEq]at h;obtain⟨rfl,rfl⟩:=h;exact Sq E o _
 rename_i o
 have O:=hm.next o
 have R:=hr.step (k:=s.ay+1);have Q:({ s with ay:=s.ay+1 }:M).over=false:=E;have⟨hf,hk,yV,hz,BN⟩:=hN.node;have⟨k1,k2⟩:=DD hk;have Ew:=sf b l ls;have xe:(eg b n ls).aj=n.aj:=Uw;have CM:(eg b n ls).s=n.s:=ON;have wQ:=BN.length_le;have xm:=pX p l ls
 have ui:b8 (.mk n l)=false:=by
  refine zc1 ?_
  grind
 rw[qB]at h
 cases G with
 |zero=>simp only[bB]at h;cases h
 |succ g =>
 have K:=fun(j:Nat)(hj:j<l.length)=>wb W ih hN ui EA hj (al:=al) (cl:=cl)
 unfold nY at h;rw[ab (show ¬n.aj=1 by omega),ab (show ¬n.aj=2 by omega),ab (show ¬n.aj=3 by omega),ab (show ¬n.aj=4 by omega),ab (show ¬n.aj=5 by omega),ab (show ¬n.aj=6 by omega)]at h
 by_cases e7:n.aj=7
 ·rw[ae e7]at h;have yS:=pH hk (.inr (.inr (.inl e7)));obtain⟨u,N,-,abq,-⟩:=K 0 Z;have i:bn b l ls=[u]:=tG Z N
  cases hc:ls.contains n.s with
  |true =>
   rw[ae hc]at h;simp only[bB]at h;have⟨x,t,e8,h⟩:=br h;have⟨r1,r2,r3,r4,x',r5,A⟩:=abq Z (.inl rfl) _ _ _ g Z O R Q e8
   by_cases m:t.over=true
   ·exact zbC
   ·have e:t.over=false:=by simpa using m
    rw[ab m]at h;simp only[Option.some.injEq,Prod.mk.injEq]at h;obtain⟨rfl,rfl⟩:=h;obtain rfl:=r5 e;have Md:=AB hc;have Au:=r2.locs;refine Ab (t:=.mk (eg b n ls) (bn b l ls)) E o J (xe.trans e7) i A ?_;refine zco ?_;rw[QL BN (.inr e7) hc];exact IQ (ed e).1 _ Z Z Z _
  |false =>
   rw[ab (by rw[hc];decide)]at h;simp only[bB]at h;have⟨x,t,e8,h⟩:=br h;have⟨r1,r2,r3,r4,x',r5,A⟩:=abq Z (.inl rfl) _ _ _ g Z O R Q e8
   by_cases m:t.over=true
   ·exact zbC
   ·have e:t.over=false:=by simpa using m
    rw[ab m]at h;simp only[Option.some.injEq,Prod.mk.injEq]at h;obtain⟨rfl,rfl⟩:=h;obtain rfl:=r5 e;have Ma:=yn hf (.inr e7) hc;have Md:=AB Ma;have vc:=r2.bF;refine Ab (t:=.mk (eg b n ls) (bn b l ls)) E o J (xe.trans e7) i A ?_;refine zco ?_;rw[QM (.inr e7) hc];show GF prog 234 [.loc 0 0,.loc 5 0,.agg (tZ n n.n),y4 x'] _ _ _;rw[hz Z];exact P8 (ed e).1 _ (EL (List.prefix_refl _) Ma) Z Z _
 rw[ab e7]at h
 by_cases S:n.aj=13
 ·rw[ab Z,ab Z,ab Z,ab Z,ab Z,ae S]at h;have yS:=pH hk (.inr (.inr (.inr (.inr (.inr S)))));obtain⟨u,N,-,abq,-⟩:=K 0 Z;have i:bn b l ls=[u]:=tG Z N;have⟨hv1,hv2⟩:=hN.var S;simp only[bB]at h;have⟨x,t,e8,h⟩:=br h;have⟨r1,r2,r3,r4,x',r5,A⟩:=abq Z (.inl rfl) _ _ _ g Z O R Q e8
  by_cases m:t.over=true
  ·rw[ae m]at h;simp only[Option.some.injEq,Prod.mk.injEq]at h;obtain⟨rfl,rfl⟩:=h;exact Lw (t:=.mk (eg b n ls) (bn b l ls)) E o J (xe.trans S) i A (zO (jP m r1) _ _ _)
  ·have e:t.over=false:=by simpa using m
   rw[ab m]at h;simp only[Option.some.injEq,Prod.mk.injEq]at h;obtain⟨rfl,rfl⟩:=h;obtain rfl:=r5 e;have Au:=r2.locs;refine Lw (t:=.mk (eg b n ls) (bn b l ls)) E o J (xe.trans S) i A ?_;refine zco ?_;rw[Ux S hv1];exact IQ (ed e).1 _ hv2 Z Z _
 have Vb:eg b n ls=n:=JA ⟨by omega,by omega,by omega⟩;rw[Vb]
 by_cases e8:n.aj=8
 ·rw[ae e8]at h;have xi:=yf hk (.inr (.inl e8));obtain⟨u,N,-,abq,-⟩:=K 0 Z;obtain⟨w,vd,-,V2,-⟩:=K 1 Z;have i:bn b l ls=[u,w]:=NT Z N vd;have⟨q,ar,f1,f2⟩:=sC (AN hf (.inr e8));have hq:=(bG f2).1;have hh:=W.hs;rw[f1,eV]at h;simp only[bB]at h;have⟨x,t,e9,h⟩:=br h;have⟨r1,r2,r3,r4,x',r5,A⟩:=abq Z (.inl rfl) _ _ _ g Z O R Q e9;have HN:=r2.cells
  by_cases m:t.over=true
  ·rw[ae m]at h;simp only[Option.some.injEq,Prod.mk.injEq]at h;obtain⟨rfl,rfl⟩:=h;exact Hm (t:=.mk n (bn b l ls)) (c:=t.fin) (d:=t.why) E o J e8 i f1 Z A (Az (jP m r1) q x')
  have e:t.over=false:=by simpa using m
  rw[ab m]at h;obtain rfl:=r5 e
  by_cases hi:nV (row t q) x'=true
  ·rw[ae hi]at h;have⟨y,z,C,h⟩:=br h;obtain⟨m1,m2,m3,m4,y',m5,m6⟩:=V2 Z (.inr ⟨by omega,by omega⟩) _ _ _ g Z r2 r3 e C;have Aw:=zW.ev C
   by_cases r:z.over=true
   ·rw[ae r]at h;simp only[Option.some.injEq,Prod.mk.injEq]at h;obtain⟨rfl,rfl⟩:=h;exact Ss (t:=.mk n (bn b l ls)) E o J e8 i f1 Z A (ed e).1 Z Z hi m6 (jP r m1)
   ·have EH:z.over=false:=by simpa using r
    rw[ab r]at h;simp only[Option.some.injEq,Prod.mk.injEq]at h;obtain⟨rfl,rfl⟩:=h;obtain rfl:=m5 EH;exact St (t:=.mk n (bn b l ls)) E o J e8 i f1 Z A (ed e).1 Z Z hi m6 (ed EH).1 Aw.cells (Aw.rows q)
  ·rw[ab hi]at h;simp only[Option.some.injEq,Prod.mk.injEq]at h;obtain⟨rfl,rfl⟩:=h;exact Hm (t:=.mk n (bn b l ls)) E o J e8 i f1 Z A (CQ (ed e).1 Z Z (by simpa using hi))
 rw[ab e8]at h
 by_cases e9:n.aj=9
 ·rw[ae e9]at h;have hl3:=VM hk e9;obtain⟨u,N,-,abq,-⟩:=K 0 Z;obtain⟨w,vd,-,-,abn⟩:=K 1 Z;have abn:=abn (.inr ⟨.inl e9,by omega⟩)
  by_cases h3:l.length=3
  ·rw[ae h3]at h;obtain⟨w2,xn,-,-,D2⟩:=K 2 Z;have D2:=D2 (.inr ⟨.inl e9,by omega⟩);simp only[bB]at h;have⟨x,t,C,h⟩:=br h;have⟨r1,r2,r3,r4,x',r5,A⟩:=abq Z (.inl rfl) _ _ _ g Z O R Q C
   by_cases m:t.over=true
   ·rw[ae m]at h;simp only[Option.some.injEq,Prod.mk.injEq]at h;obtain⟨rfl,rfl⟩:=h
    by_cases hx:x'=0
    ·exact Lv (t:=.mk n (bn b l ls)) E o J e9 N A hx xn (u0 m _) (Ew.trans h3)
    ·exact ze4
   have e:t.over=false:=by simpa using m
   rw[ab m]at h;obtain rfl:=r5 e
   by_cases hx:x'≠0
   ·exact zbm
   ·rw[ab hx]at h;have⟨y,z,B,h⟩:=br h;simp only[Option.some.injEq,Prod.mk.injEq]at h;obtain⟨rfl,rfl⟩:=h;exact Lv (t:=.mk n (bn b l ls)) E o J e9 N A Z xn (D2 _ _ _ g Z r2 r3 e B).2.2 (Ew.trans h3)
  ·rw[ab h3]at h;simp only[bB]at h;have⟨x,t,C,h⟩:=br h;have⟨r1,r2,r3,r4,x',r5,A⟩:=abq Z (.inl rfl) _ _ _ g Z O R Q C
   by_cases m:t.over=true
   ·rw[ae m]at h;simp only[Option.some.injEq,Prod.mk.injEq]at h;obtain⟨rfl,rfl⟩:=h
    by_cases hx:x'=0
    ·exact Lu (t:=.mk n (bn b l ls)) E o J e9 N A hx (fun q=>h3 (Ew.symm.trans q))
    ·exact ze4
   have e:t.over=false:=by simpa using m
   rw[ab m]at h;obtain rfl:=r5 e
   by_cases hx:x'≠0
   ·exact zbm
   ·rw[ab hx]at h;simp only[Option.some.injEq,Prod.mk.injEq]at h;obtain⟨rfl,rfl⟩:=h;exact Lu (t:=.mk n (bn b l ls)) E o J e9 N A Z (fun q=>h3 (Ew.symm.trans q))
 rw[ab e9]at h
 by_cases C:n.aj=10
 ·rw[ae C]at h;have xi:=yf hk (.inr (.inr C));obtain⟨u,N,-,abq,-⟩:=K 0 Z;obtain⟨w,vd,-,-,abn⟩:=K 1 Z;have abn:=abn (.inr ⟨.inr C,by omega⟩);have abq:=abq Z (.inl rfl);simp only[bB]at h;have⟨w0,t,B,h⟩:=br h;simp only[Option.some.injEq,Prod.mk.injEq]at h;obtain⟨rfl,rfl⟩:=h;refine T8 (t:=.mk n (bn b l ls)) (g:=g) (I:=fun g2 s1=>s1.over=false/\jy p F s1/\Rg s1/\g2<=g/\lW jY F (jd p l0) g2 (r0 (eA p l ls) 0) (r0 (eA p l ls) 1) s1=some ((),t)) E o J C N vd ⟨Q,O,R,a8 _,B⟩ ?_;rintro g2 s1⟨q1,q2,q3,q4,q5⟩;refine⟨q1,?_⟩
  cases g2 with
  |zero=>simp only[lW]at q5;cases q5
  |succ g2 =>
  rw[lW]at q5;have⟨x,z,q6,q5⟩:=br q5;have⟨r1,r2,r3,r4,x',r5,A⟩:=abq _ _ _ g2 Z q2 q3 q1 q6;refine⟨x',z,A,fun hx=>?_,fun hx=>?_⟩
  ·by_cases r:z.over=true
   ·rw[ae r]at q5;cases q5;rfl
   ·rw[ab r,ae (by rw[<-r5 (by simpa using r)];exact hx)]at q5;cases q5;rfl
  ·by_cases r:z.over=true
   ·rw[ae r]at q5;cases q5;exact⟨t,u0 r _,.inl ⟨r,rfl⟩⟩
   ·have EH:z.over=false:=by simpa using r
    rw[ab r,ab (by rw[<-r5 EH];exact hx)]at q5;have⟨y,z2,q7,q5⟩:=br q5;have⟨d1,d2,d3⟩:=abn _ _ _ g2 Z r2 r3 EH q7;refine⟨z2,d3,?_⟩
    by_cases Ax:z2.over=true
    ·rw[ae Ax]at q5;cases q5;exact .inl ⟨Ax,rfl⟩
    ·rw[ab Ax]at q5;exact .inr ⟨g2,by omega,by simpa using Ax,d1,d2,by omega,q5⟩
 rw[ab C]at h
 by_cases B:n.aj=11
 ·rw[ae B]at h;have yS:=pH hk (.inr (.inr (.inr (.inl B))));obtain⟨u,N,-,abq,-⟩:=K 0 Z;have i:bn b l ls=[u]:=tG Z N;simp only[bB]at h;have⟨x,t,Hq,h⟩:=br h;have⟨r1,r2,r3,r4,x',r5,A⟩:=abq Z (.inl rfl) _ _ _ g Z O R Q Hq
  by_cases m:t.over=true
  ·rw[ae m]at h;simp only[Option.some.injEq,Prod.mk.injEq]at h;obtain⟨rfl,rfl⟩:=h;exact Su (t:=.mk n (bn b l ls)) (s2:=s) E o J B i A (jP m r1)
  ·have e:t.over=false:=by simpa using m
   rw[ab m]at h;simp only[Option.some.injEq,Prod.mk.injEq]at h;obtain⟨rfl,rfl⟩:=h;obtain rfl:=r5 e;exact Sv (t:=.mk n (bn b l ls)) (s2:=s) E o J B i A (ed e).1
 rw[ab B]at h
 by_cases Hq:n.aj=12
 ·rw[ae Hq]at h;have yS:=pH hk (.inr (.inr (.inr (.inr (.inl Hq)))));obtain⟨u,N,-,abq,-⟩:=K 0 Z;have i:bn b l ls=[u]:=tG Z N;simp only[bB]at h;have⟨x,t,S,h⟩:=br h;have⟨r1,r2,r3,r4,x',r5,A⟩:=abq Z (.inl rfl) _ _ _ g Z O R Q S;simp only[Option.some.injEq,Prod.mk.injEq]at h;obtain⟨rfl,rfl⟩:=h;exact Xo (t:=.mk n (bn b l ls)) (s2:=s) E o J Hq i A
 rw[ab Hq,ab S]at h
 have YB:n.aj=14:=by omega
 simp only[bB]at h;have⟨w0,t,YC,h⟩:=br h;simp only[Option.some.injEq,Prod.mk.injEq]at h;obtain⟨rfl,rfl⟩:=h;have ps:=hN.sz;have Me:=Go.Xp.fH l;rw[Go.Xp.bg]at ps;refine Xf (t:=.mk n (bn b l ls)) (I:=fun j s1=>s1.over=true/\s1=t\/s1.over=false/\jy p F s1/\Rg s1/\∃g2,g2<=g/\jz jY F (jd p l0) g2 ((eA p l ls).drop j) s1=some ((),t)) E o J YB zf8 (.inr ⟨Q,O,R,g,a8 _,YC⟩) ?_ ?_
 ·intro j u s1 N hI
  have hj:j<l.length:=by rw[<-Ew];exact(bG N).1
  obtain⟨u',Mm,xk,-,abn⟩:=K j hj;rw[show(bn b l ls)[j]?=some u from N]at Mm;cases Mm
  rcases hI with⟨o1,o2⟩|⟨o1,o2,o3,g2,o4,o5⟩
  ·exact⟨s1,u0 o1 u,.inl ⟨o1,o2⟩⟩
  ·rw[kP Z]at o5;rw[cq Z]at xk;rw[sA xk]at o5
   cases g2 with
   |zero=>simp only[jz]at o5;cases o5
   |succ g2 =>
   simp only[jz]at o5;have⟨w,z,q1,q2⟩:=br o5;have⟨d1,d2,d3⟩:=abn (.inl YB) _ _ _ g2 Z o2 o3 o1 q1;refine⟨z,d3,?_⟩
   by_cases r:z.over=true
   ·rw[ae r]at q2;cases q2;exact .inl ⟨r,rfl⟩
   ·rw[ab r]at q2;exact .inr ⟨by simpa using r,d1,d2,g2,by omega,q2⟩
 ·intro s1 hI
  rcases hI with⟨-,o2⟩|⟨o1,o2,o3,g2,o4,o5⟩
  ·exact o2
  ·rw[show(T.mk n (bn b l ls)).au.length=(eA p l ls).length by show(bn b l ls).length=_;omega,List.drop_length]at o5
   cases g2 with
   |zero=>simp only[jz]at o5;cases o5
   |succ g2=>simp only[jz]at o5;cases o5;rfl
def Kd(W:RW p l0 F H):∀g r,r<=g->GX p l0 F H r
 |0,r,J=>by
  obtain rfl:r=0:=by omega
  intro M t E s v j _ _ _ _ _ h;simp only[Go.Mn.ev]at h;cases h
 |G+1,r,J=>by
  by_cases h:r<=G
  ·exact Kd W G r h
  ·obtain rfl:r=G+1:=by omega
   rintro M⟨n,l⟩E s v j u m N i S h al cl;exact⟨fun I=>V7 W (Kd W G) u m I N i S h,fun I=>X6 W (Kd W G) u m I N i S h⟩
end
end Go.Xg
namespace Go.Xg
open Go.RowKit Go.Xw Go.Proofs Tryz Go.Im Go.Mn
open GV (U)
open Go.Xp (T)
open Go.Sp (Src)
def swp(i:Nat):Nat:=if i=0 then 1 else if i=1 then 0 else i
def Wk.swap{fr:am}{R:ap}{E k t k' fz:Nat}{rows d:List am}{v:Value}(q:qz (fun i=>Nat.ble 2 i) R=true) :
  Wk 0 fr (.vech E k rows v::.vec t k' fz d::R) (Fh (fun i=>Nat.ble 2 i) fr) (.vec t k' fz d::.vech E k rows v::R):=fun B K o w l hB c O=>by
 have z:∀i,swp (swp i)=i:=fun i=>by unfold swp;by_cases h:i=0<;>by_cases e:i=1<;>simp[h,e]
 have m:∀i,2<=i->swp i=i:=fun i h=>by unfold swp;rw[ab Z,ab Z]
 have n:dO (dH (fun i=>Nat.ble 2 i) o) (fun i=>o (swp i)):=fun i=>by
  by_cases h:2<=i
  ·rw[qh (Nat.ble_eq_true_of_le h)];show kz (o i) (o (swp i));rw[m i h];exact kz.refl _
  ·rw[sN (Bool.eq_false_iff.2 fun M=>h (dT M))];trivial
 refine⟨K,fun i=>o (swp i),⟨c.ext,c.kle,fun i=>by rw[c.loc i Z];trivial,c.loc,c.fz,fun i x hx=>?_,fun i e=>?_,fun i j b e N=>?_,fun i b e=>c.own _ b e,c.kn,c.tab.step (S:=fT) (Ext.refl w) (fun _ h=>h.elim) (c7.refl K) (fun i b2 m=>.inl ⟨swp i,m⟩)⟩,O.res.mono (c7.refl K) n⟩
 ·match i,hx with
  |0,hx =>
   cases hx;have⟨q,s,Q,T,W,A,o5,o6⟩:=c.ob 1 _ rfl;exact⟨q,s,Q,T,W.oA A.flat,A,o5,o6⟩
  |1,hx =>
   cases hx;have⟨s,C,G,I,u,J⟩:=c.ob 0 _ rfl;exact⟨s,C,G,I.oA u.flat,u,J⟩
  |i+2,hx =>
   have r:=B0 q (bR (show R[i]?=some x from hx));exact((c.ob (i+2) x hx).res (p:=fun i=>Nat.ble 2 i) zfm r).ext (S:=fT) (Ext.refl w) (fun _ _ h=>h) (c7.refl K) n (by rw[m _ Z,qh zfm]) (fun _ _ _ h=>h)
 ·simp only[List.length_cons]at e;rw[m i Z];exact c.out i (by simp only[List.length_cons];omega)
 ·have:=c.dis _ _ b e N;rw[<-z i,<-z j,this]
attribute [local irreducible] GW GL GO V GC GA bh bm
section
variable(p:Src)(F:Nat)(H:MH)
def Hh(s:M)(x:Int):Ob:=.box 68 [strs p.aw,.sl 2 (p.aq.map bc),.sl 3 (p.az.map aO),.sl 5 (p.ak.map aU),ints s.inp,y4 (F:Nat),
 y4 s.fin,y4 s.why,y4 x,.vec 1 s.out.length,y4 (s.ay:Nat),.v y6,.v (.slice H.ag s.bF.length H.cg),.v (.slice H.ac s.cells.length H.cc),y4 (s.aY:Nat)]
def QO(s:M)(c w x:Int):GF prog 106 [.loc 0 0,y4 c,y4 w] [Hh p F H s x,cP s] (.tup []) [Hh p F H (qD s c w) x,cP s]:=by
 unfold qD
 by_cases h:s.fin=0
 ·have W:(s.fin==0)=true:=by simpa using h
  rw[ae h];unfold Hh cP;exact zc3
 ·have W:(s.fin==0)=false:=by simpa using h
  rw[ab h];unfold Hh cP;exact zc3
end
def Zy(e:Int)(g:GV)(W:ap):Prop:=g=.loc 2 0/\∃(J N Q C M z:GV)(w x:Int)(n:Nat)(y:Int)(r:List am)(I l G:GV)(u O R S i T:Ob),W=[u,O,.box 68 [J,N,Q,C,M,z,y4 e,y4 w,y4 x,.vec 3 n,y4 y,.sl 1 r,I,l,G],R,S,i,T]
def Yr(p:Src)(hw:dE p<=1048576)(YR:il p=true){l:List T}(hg:Go.Im.Good p l)(d:List Int)(Aq:d.length<=1048576)(F:Nat)(hF:F<=20000) :
  GC prog 39 [.agg (aQ p),ints d,y4 (F:Nat)] [] (Zy (nC (my p l d F)).fin):=by
 have⟨⟨a1,a2⟩,⟨b1,b2⟩,⟨c1,c2⟩,⟨d1,d2⟩⟩:=iR p;have vc:(p.aw.map fun s=>[GV.v (sv s)]).length=p.aw.length:=bI _;have Eu:(p.aq.map bc).length=p.aq.length:=bI _;have Et:=yg p jn Z;have e1:bP (fun x:Go.Sp.Fn=>x.name==jn) p.az=jF p jn:=rfl;rw[e1]at Et;have⟨i,f,t,I,YL,JT⟩:=CI YR hg;rw[I]at Et;have hd1:decide ((F:Int)<0)=false:=decide_eq_false Z;have hd2:decide ((20000:Int)<(F:Int))=false:=decide_eq_false Z;have J:kK (bE d)=true:=vm d;have G:(bE d).length=d.length:=bI _;refine ef func39 ntmps39 ?_;refine zcB ?_;refine zap ?_
 refine GW.join (fun fr Γ=>∃r w,fr=U::U::U::.box (aQ p) 0::U::U::U::.loc 2 0::zU 66 [] /\
  Γ=[.vec 3 1 (bE d).length (bE d),.vech 3 1 (bE (List.replicate p.aw.length 0)) (.slice r p.aw.length w),.box 68 [strs p.aw,.sl 2 (p.aq.map bc),.sl 3 (p.az.map aO),.sl 5 (p.ak.map aU),ints d,y4 (F:Nat),y4 0,y4 0,y4 0,.v y6,y4 0,.v y6,.v (.slice r p.aw.length w),.v y6,y4 0]]) ?_ ?_
 ·refine aX (.q 0 (.q 2 (aI 4 4 (.f 1 (.f 3 (.a 8 (.q 9 (.a 10 (.q 11 .nil)))) 8 (.a 3 (.q 9 (.a 10 (.q 11 .nil))))) 8 (.a 1 (.a 3 (.q 9 (.a 10 (.q 11 .nil))))))))) ?_;refine av ?_;refine GO.fork ?_ ?_
  ·refine o7 ?_;refine av ?_;refine GO.fork ?_ ?_
   ·refine OA rfl rfl (GL.zg (i:=0) rfl rfl rfl J rfl (by rw[G];refine⟨?_,?_⟩<;>omega) ?_);refine za1 ?_;refine OA rfl rfl ?_;refine GL.M0 (n:=(p.aw.map fun s=>[GV.v (sv s)]).length) rfl ⟨by omega,by omega⟩ ?_;intro r w;rw[vc,pW];exact zeM
   ·refine OA rfl rfl ?_;refine GL.M0 (n:=(p.aw.map fun s=>[GV.v (sv s)]).length) rfl ⟨by omega,by omega⟩ ?_;intro r w;rw[vc,pW];refine za1 ?_;refine OA rfl rfl (GL.zg (i:=0) rfl rfl rfl J rfl (by rw[G];refine⟨?_,?_⟩<;>omega) ?_);exact zeM
  ·refine OA rfl rfl ?_;refine GL.M0 (n:=(p.aw.map fun s=>[GV.v (sv s)]).length) rfl ⟨by omega,by omega⟩ ?_;intro r w;rw[vc,pW];refine za1 ?_;refine o7 ?_;refine av ?_;refine OA rfl rfl (GL.zg (i:=1) rfl rfl rfl J rfl (by rw[G];refine⟨?_,?_⟩<;>omega) ?_);refine za1 ?_;refine bx ?_;exact⟨_,_,(Wk.swap rfl).trans (Wk.bb aD),r,w,rfl,rfl⟩
 ·rintro _ _⟨r,w,rfl,rfl⟩;refine GW.wk (Wk.zE (i:=2) (o:=9) 3 1 rfl rfl) ?_;simp only[bN,oset,cons_append,nil_append];refine GW.wk (Wk.kH 29 1) ?_;refine zbh ?_
  refine GW.range (p.aq.map bc).length (fun k fr Γ=>∃(N:Option Addr)(Q:Nat)(e:List (Nat × Nat)),e.length=k/\fr=U::U::U::.box (aQ p) 0::U::U::U::.loc 2 0::zU 19 (.sl 2 (p.aq.map bc)::y4 ((p.aq.map bc).length:Int)::y4 (k:Nat)::zU 44 []) /\
   Γ=.vec 3 1 (bE d).length (bE d)::.vech 3 1 (bE (List.replicate p.aw.length 0)) (.slice r p.aw.length w)::.box 68 [strs p.aw,.sl 2 (p.aq.map bc),.sl 3 (p.az.map aO),.sl 5 (p.ak.map aU),ints d,y4 (F:Nat),y4 0,y4 0,y4 0,.vec 3 0,y4 0,.v y6,.v (.slice r p.aw.length w),.v (.slice N k Q),y4 0]::.vec 3 1 0 [] ::
    .vech 29 1 (List.zipWith om ((dj p).take k) e) (.slice N k Q)::List.zipWith o9 ((dj p).take k) e) ?_ Z ?_ ?_ ?_
  ·exact⟨_,_,Wk.bb aD,none,0,[],rfl,rfl,rfl⟩
  ·rintro k _ _⟨N,Q,e,-,rfl,rfl⟩;exact eB
  ·rintro k _ _ hk⟨N,Q,e,C,rfl,rfl⟩;rw[Eu]at hk;have vb:p.aq[k]?=some p.aq[k]:=cq hk;have ps:=xV hg vb;have Mg:=tH vb;obtain⟨m,hm⟩:∃m:Nat,(p.aq[k]).size=(m:Int):=⟨(p.aq[k]).size.toNat,by omega⟩;unfold bc at Mg;rw[hm]at Mg ps
   have An:(dj p).take (k+1)=(dj p).take k++[List.replicate m 0]:=by
    rw[dI]
    congr 1
    unfold dj;rw[b6,vb,Option.map_some,hm,eV];rfl
   have HN:((dj p).take k).length=e.length:=by
    rw[iX,C];unfold dj;rw[bI];omega
   have VE:=fun b c=>wL om ((dj p).take k) e (List.replicate m 0) (b,c) HN
   have Ax:=fun b c=>wL o9 ((dj p).take k) e (List.replicate m 0) (b,c) HN
   have VF:(List.zipWith om ((dj p).take k) e).length=k:=by rw[rE,HN,Nat.min_self];exact C
   generalize List.zipWith om ((dj p).take k) e=R at *;generalize List.zipWith o9 ((dj p).take k) e=abo at *
   have ug:m<=2147483647:=by omega
   refine yz ?_;refine zbB ?_;intro b c;rw[pW];refine za1 ?_;refine zaI ?_;refine OA rfl rfl (GL.nu 4 (news:=[[.v (.slice (some ⟨b,0,none⟩) m c)]]) rfl rfl rfl aM rfl rfl (by refine⟨?_,?_⟩;(· show _+1<=_;omega);(· show(_+1)*_<=_;omega)) ?_);intro Uo UB;refine zbF ?_;refine⟨rfl,rfl,_,_,Wk.bb aD,Uo,UB,e++[(b,c)],by simp[C],rfl,?_⟩;rw[An,VE,Ax];unfold om o9 Ao;simp only[List.length_replicate,VF];rfl
  ·rintro _ _⟨N,Q,e,C,rfl,rfl⟩;rw[Eu]at C |-;have An:(dj p).take p.aq.length=dj p:=mz (by unfold dj;rw[bI];exact a8 _);rw[An];have Pd:(dj p).length=p.aq.length:=bI _;refine bx ?_;refine GW.wk ((Wk.pack [.vec 3 1 (bE d).length (bE d),.vech 3 1 (bE (List.replicate p.aw.length 0)) (.slice r p.aw.length w),.box 68 [strs p.aw,.sl 2 (p.aq.map bc),.sl 3 (p.az.map aO),.sl 5 (p.ak.map aU),ints d,y4 (F:Nat),y4 0,y4 0,y4 0,.vec 3 0,y4 0,.v y6,.v (.slice r p.aw.length w),.v (.slice N p.aq.length Q),y4 0],.vec 3 1 0 [],.vech 29 1 (List.zipWith om (dj p) e) (.slice N p.aq.length Q)] (List.zipWith o9 (dj p) e) rfl (bj _) (G4 _ _) rfl).trans (Wk.bb (dh:=U::U::U::.box (aQ p) 0::U::U::U::.loc 2 0::zU 66 []) aD)) ?_;refine zdP ?_
   let H:MH:=⟨r,w,N,Q,e⟩
   have W:RW p l F H:=⟨hw,YR,hg,hF,C⟩
   let E:M:={ mW p d with aY:=0 }
   have⟨v,Ap⟩:=vw (O:=jY) (F:=F) (B:=jd p l) (jd p l i) (mW p d)
   have EC:pY jY F (jd p l) (jd p l i) (mW p d)=my p l d F:=by unfold my;rw[I,eV]
   rw[EC]at Ap;have A:jy p F (mW p d):=xK hg d F
   have EB:Rg E:=⟨fun x hx=>by rw[List.eq_of_mem_replicate hx];exact rO,fun a ha x hx=>by
    obtain⟨y,_,rfl⟩:=yE.1 ha
    rw[List.eq_of_mem_replicate hx];exact rO,fun x hx=>by rw[List.eq_of_mem_replicate hx];exact rO,rO⟩
   have hC:qm p F H i [] E (E.leave (my p l d F)) (my p l d F).gT:=Lg W (Kd W (3*F+1)) (a8 _) (bG YL.gf).1 ⟨A.bF,A.cells,A.rows,by show 40<=(List.replicate 40 (0:Int)).length;rw[List.length_replicate];exact a8 _,A.ay,A.out⟩ EB (fun x hx=>by cases hx) rfl (by show 0<100;omega) (fun f' YP=>by rw[YL.gf]at YP;cases YP;simp[JT]) Ap;have Q7:=A.ev Ap;generalize my p l d F=u at *;have Mc:E.bF.length=p.aw.length:=List.length_replicate;have L9:E.cells.length=p.aq.length:=Pd
   have Vc:cv p F H E=.box 68 [strs p.aw,.sl 2 (p.aq.map bc),.sl 3 (p.az.map aO),.sl 5 (p.ak.map aU),ints d,y4 (F:Nat),y4 0,y4 0,y4 0,.vec 1 0,y4 0,.v y6,.v (.slice r p.aw.length w),.v (.slice N p.aq.length Q),y4 0]:=by
    unfold cv;rw[Mc,L9];rfl
   have Vf:dJ H E=.vech 3 1 (bE (List.replicate p.aw.length 0)) (.slice r p.aw.length w):=by
    unfold dJ;rw[Mc];rfl
   have L6:dC H E=.vech 29 1 (List.zipWith om (dj p) e) (.slice N p.aq.length Q):=by
    unfold dC;rw[L9];rfl
   unfold qm rC at hC;rw[Vc,Vf,L6]at hC;have EE:(bE (E.leave u).bF).length=p.aw.length:=(bI _).trans Q7.bF
   cases z:(u.fin==0)with
   |true =>
    have S:=QO p F H (E.leave u) 1 0 u.gT;unfold qD at S;rw[ae (show(E.leave u).fin=0 by show u.fin=0;simpa using z)]at S
    have hr:(nC u).fin=1:=by unfold nC;rw[ae zfv]
    rw[hr];unfold cv at hC;unfold Hh at S;refine X ?_;refine zcD ?_;refine zc4 ?_;refine GL.zg (i:=6) rfl rfl rfl (vm _) rfl ?_ ?_
    ·rw[EE];exact zex
    exact zcs
   |false =>
    have S:=QO p F H (E.leave u) 1 0 0;unfold qD at S;rw[ab (show ¬(E.leave u).fin=0 by show ¬u.fin=0;simpa using z)]at S
    have hr:(nC u).fin=u.fin:=by unfold nC;rw[ab zfv]
    rw[hr];unfold cv at hC;unfold Hh at S;refine X ?_;refine zcD ?_;refine zc4 ?_;refine GL.zg (i:=6) rfl rfl rfl (vm _) rfl ?_ ?_
    ·rw[EE];exact zex
    exact zcs
def Ug(p:Src)(i:dE p<=1048576)(hn:mA p)(w:List Int)(W:w.length<=1048576)(F:Nat)(j:F<=20000):GF prog 10 [.agg (aQ p),ints w,y4 (F:Nat)] [] (.agg [.v (ii (jG p w (F:Nat)).fin),U,U,U,U,U]) []:=by
 have b:=SR p i
 cases J:il p with
 |false =>
  rw[J]at b
  have e:jG p w (F:Nat)=DU:=by unfold jG;rw[ab zf2]
  rw[e];refine ef func10 ntmps10 ?_;refine zcB ?_;refine zap ?_;refine D [] b ?_;exact zd4
 |true =>
  rw[J]at b;have⟨l,G⟩:=va J;have M:=Yr p i J G w W F j
  have e:iN (F:Nat)=F:=by unfold iN;omega
  rw[qy G J,e];generalize(nC (my p l w F)).fin=z at *;refine ef func10 ntmps10 ?_;refine zcB ?_;refine zap ?_;refine D [] b ?_;refine cN [] M ?_;rintro _ _⟨rfl,N,O,Q,C,R,A,s,E,T,S,r,H,m,I,u,c,d,k,n,o,rfl⟩;refine zaR ?_;refine GW.wk (Wk.cells 0 (ds:=[y4 z,U,U,U,U,U]) rfl gU) ?_;exact eQ
end Go.Xg
namespace Go.Im
open Go.Xp Go.Sp Go.Mn
def CD{f:Nat}(h:f<=20000):iN (f:Int)=f:=by unfold iN;omega
def IG{t:M}:(nC t).fin=3↔t.fin=3:=by
 unfold nC
 by_cases h:t.fin=0
 ·rw[ae h,h];exact⟨fun h=>zfu,fun h=>zfu⟩
 ·rw[ab h]
def yu{t:M}:(nC t).out=t.out/\(nC t).ay=t.ay:=by unfold nC;split<;>exact⟨rfl,rfl⟩
def EY(p:Src)(w:List Int)(S:Int):(jG p w S).out.length<=20000:=by
 cases J:il p with
 |false=>unfold jG;rw[ab zf2];exact bj _
 |true =>
  have⟨l,W⟩:=va J;rw[qy W J,yu.1];have⟨v,A⟩:=vw (O:=jY) (F:=iN S) (B:=jd p l) (jd p l (jF p jn).toNat) (mW p w);have z:=(xK W w (iN S)).ev A;have I:=z.out;have c:=z.ay
  have G:iN S<=20000:=by unfold iN;omega
  unfold my;omega
def MX(p:Src)(v:List Int){f:Nat}(hf:f<=2000):((jG p v f).fin=3->(jG p v f).out <+: (jG p v ((f:Int)+100)).out/\(jG p v f).ay=f)/\((jG p v f).fin≠3->jG p v ((f:Int)+100)=jG p v f/\(jG p v f).ay<=f):=by
 cases J:il p with
 |false =>
  have e:∀z,jG p v z=DU:=fun z=>by unfold jG;rw[ab zf2]
  rw[e,e];exact⟨fun h=>zfu,fun _=>⟨rfl,bj _⟩⟩
 |true =>
  have⟨l,W⟩:=va J;rw[qy W J,qy W J,CD zfn,show((f:Int)+100)=((f+100:Nat):Int) by omega,CD zfn];obtain⟨A,w⟩:=P2 (O:=jY) (B:=jd p l) (F:=f) (F':=f+100) zfn (jd p l (jF p jn).toNat) (mW p v) (fun h=>by cases h) (bj _);unfold my;generalize pY jY f (jd p l) (jd p l (jF p jn).toNat) (mW p v)=a at *;generalize pY jY (f+100) (jd p l) (jd p l (jF p jn).toNat) (mW p v)=b at *;rw[yu.1,yu.1,yu.2];refine⟨fun h=>?_,fun h=>?_⟩
  ·rw[IG]at h
   rcases w with⟨I,_⟩|⟨_,I,c⟩
   ·exact absurd h I
   ·exact⟨c,I⟩
  ·rw[Ne,IG]at h
   rcases w with⟨_,I⟩|⟨I,_⟩
   ·exact⟨by rw[I],A⟩
   ·exact absurd I h
end Go.Im
namespace Go.Xg
open Go.RowKit Go.Xw Go.Proofs Tryz Go.Sp Go.Im Go.Mn
open GV (U)
attribute [local irreducible] GW GL GO V GC GA bh bm
def DI(code:ai):GF prog 3 [.sl 1 (cW code)] [] (.v (.bool true)) []:=by
 have J:=wY code
 rcases Nat.lt_or_ge 1048576 code.length with j|N
 ·have t:decide ((1048576:Int)<((cW code).length:Int))=true:=decide_eq_true Z;refine ah func3 ntmps3 ?_;exact ax
 ·have t:decide ((1048576:Int)<((cW code).length:Int))=false:=decide_eq_false Z;refine ah func3 ntmps3 ?_;refine cN [] (Jl code Z) ?_;rintro _ _⟨rfl,p,w,F,e,Q,W,l,rfl⟩;refine dA ?_;have u:decide ((F:Int)<0)=false:=decide_eq_false Z;refine X ?_;refine GW.join (fun s d=>∃f:Nat,f<=2000/\s=U::U::U::.loc 0 0::ints w::y4 (f:Nat)::zU 62 []/\d=[.box 28 (aQ p)]) ?_ ?_
  ·by_cases C:2000<F
   ·have M:decide ((2000:Int)<(F:Int))=true:=decide_eq_true Z;refine X ?_;exact⟨_,_,Wk.bb aD,700,by omega,rfl,rfl⟩
   ·have M:decide ((2000:Int)<(F:Int))=false:=decide_eq_false Z;refine X ?_;exact⟨_,_,Wk.bb aD,F,by omega,rfl,rfl⟩
  rintro _ _⟨f,z,rfl,rfl⟩;have H:=KU p e Q w (f:Nat);have o:=KU p e Q w ((f:Int)+100);have R:=Ug p e Q w Z f Z;have k:=EY p w (f:Nat);have S:=EY p w ((f:Int)+100);have⟨A,c⟩:=MX p w z;generalize jG p w (f:Nat)=a at *;generalize jG p w ((f:Int)+100)=b at *
  have T:(a.fin != a.fin)=false:=by simp
  unfold uM at H o
  by_cases I:a.fin=3
  ·have⟨B,r⟩:=A I;have m:=OC Z Z B;unfold uM at m
   have n:(((a.ay:Nat):Int)==((f:Nat):Int))=true:=by rw[r];simp
   have G:(a.fin==3)=true:=by simpa using I
   refine zdw ?_;refine X ?_;refine D [] m ?_;refine ct ?_;exact⟨congrArg (fun b=>GV.v (.bool b)) n,rfl⟩
  ·obtain⟨rfl,r⟩:=c I;have O:=Ul b (b:=b) Z rfl rfl rfl rfl;unfold uM at O
   have n:(((b.ay:Nat):Int)==((b.ay:Nat):Int))=true:=by simp
   have G:(b.fin==3)=false:=by simpa using I
   have i:decide (((b.ay:Nat):Int)<=((f:Nat):Int))=true:=decide_eq_true Z;refine zdw ?_;refine X ?_;refine D [] O ?_;refine ct ?_;exact⟨congrArg (fun b=>GV.v (.bool b)) i,rfl⟩
end Go.Xg
namespace Go.Xg
open Go.RowKit Go.Xw Go.Proofs Go.WideShapes Go.Deep
def WQ(c:UInt8):Value:=.int .u8 (c.toNat:Int)
def SK(c:UInt8):flat (WQ c):=fun a n d e=>by cases e
def wf_u8{z:Int}(h:(Lit.int .u8 z).wf=true):∃c:UInt8,z=((c.toNat:Nat):Int):=by
 simp only[Lit.wf,a6,decide_eq_true_eq]at h
 have A:IntKind.min .u8=0:=by decide
 have v:IntKind.max .u8=255:=by decide
 rw[A,v]at h;refine⟨UInt8.ofNat z.toNat,?_⟩
 have I:z.toNat<256:=by omega
 have d:(UInt8.ofNat z.toNat).toNat=z.toNat:=by simp[Nat.mod_eq_of_lt I]
 rw[d];omega
section
variable{H:Type}{enc:TypeId × Value->H}{P:Program}{W:World}
def Nf{t e:TypeId}{n:Nat}{v:Value}{y:DataW H × List MemPlace}(J:P.underlying t=some (.slice e))(j:P.underlying e=some (.int .u8))(r:P.cellsOf e=1)(h:DataW.trod enc P W 0 (fun _=>true) true n t [v]=some y) :
  ∃l:ai,Oy W v (l.map WQ)/\l.length<=9223372036854775807:=by
 rcases open_slice1 J r h with⟨M,_⟩|⟨a,len,E,m,B,abq,abn,T,M,_,d,S,I,_,hx⟩
 ·injection M with hv;subst hv
  exact⟨[],⟨none,0,rfl,.inl rfl⟩,bj _⟩
 ·injection M with hv _;subst hv
  simp only[if_true]at I
  obtain⟨l,A,w⟩:=yO (n:=len) (Q:=fun i(c:UInt8)=>W.cell? (a.add i)=some (WQ c)) (fun i N=>by
   have⟨O,R⟩:=hx i Z;have⟨z,q,_,F⟩:=DataW.trod_int j R
   injection q with q _
   rw[q]at O;obtain⟨c,rfl⟩:=wf_u8 F
   exact⟨c,O⟩)
  refine⟨l,⟨some a,E,by rw[bI,A],?_⟩,by rw[A];exact max_le (ju d S)⟩
  by_cases k:len=0
  ·have:l=[]:=ky Z;subst this;exact .inl rfl
  ·refine .inr ⟨a.block,a.off,?_,by rw[bI,A];exact d,fun i x N=>?_⟩
   ·have u:l[0]?=some (l[0]'Z):=cq _;have:=OH (w 0 _ u);obtain⟨b,o,s⟩:=a;simp only at this;rw[this]
   ·rw[b6]at N
    cases C:l[i]? with
    |none=>rw[C]at N;cases N
    |some c =>
     rw[C]at N;cases N;exact⟨OS (w i c C),SK c⟩
def Ng(β:Bt){t e:TypeId}{v:Value}{d:DataW H}{m:List MemPlace}{r:Reach}{E:Nat}(I:P.underlying t=some (.slice e))(i:P.underlying e=some (.int .u8))(o:P.cellsOf e=1)(N:Value.okWide P W r E t v)(h:DataW.Trod enc P W 0 (fun _=>true) true t v d m) :
  ∃l:ai,Rel (KW W) β v (.sl 1 (cW l))/\l.length<=9223372036854775807:=by
 obtain⟨F,len,C,rfl⟩:=okWide_slice I N;have⟨S,s⟩:=h;have⟨l,z,w⟩:=Nf I i o s;refine⟨l,?_,w⟩;have:=Nt z β;rw[List.map_map]at this;exact this
end
end Go.Xg
namespace Go.Pn
open Go.RowKit Go.Proofs Go.Proofs.YtfmnfhpifpjljaaGreatDoor
def L1{P:Program}{c:OpenClaim}(ng:P.funcs.any Func.goes=false)(o:c.start=.entering):false=c.goesBy P:=by
 have W:∀g:FuncId,(P.funcs[g]?).any Func.goes=false:=fun g=>by
  cases h:P.funcs[g]? with
  |none=>rfl
  |some fn =>
   have:=Array.any_eq_false'.1 ng fn (Array.mem_of_getElem? h);show Func.goes fn=false;exact zdM
 have m:∀f,P.goes f=false:=fun f=>by
  unfold Program.goes;rw[ng,Bool.and_false,Bool.or_false,List.any_eq_false];intro x hx;rw[W x];decide
 unfold OpenClaim.goesBy Program.goesAt Program.goesFrom;rw[o]
 cases P.funcNamed c.func with
 |none=>rfl
 |some f=>show false=(P.goes f ||false);rw[m f];rfl
def ng:Tryz.pinned.checked.prog.funcs.any Func.goes=false:=by kernel_rfl
end Go.Pn
