/- Part 10 of proofs that are told in their last texts. -/
import Derived.Test.YtfmnfhpifpjljaaGreatDoorCards
import Derived.ProofKit
import Derived.Test.YtfmnfhpifpjljaaGreatDoorQ9
import Derived.Lib.Repeat
open List (any_eq_false foldl_cons getElem?_of_mem length_cons length_nil length_replicate map_id map_map mem_append mem_append_left mem_append_right mem_cons_self mem_map_of_mem nil_append take_succ_cons take_zero)
set_option linter.unusedVariables false
set_option linter.unusedSimpArgs false
set_option linter.defProp false
set_option maxRecDepth 100000
set_option maxHeartbeats 4000000
namespace Go
def za2{A B:Prop}(h:B)(s:PLift B->A:=by intro hQ;refine GW.seq ?_;refine GW.region ?_;refine GL.k0 rfl rfl ?_;refine zad ?_;exact hQ.1):A:=s ⟨h⟩
end Go
namespace Go.Im
open Go.Xp Go.Sp Go.Mn
def LV{s:ab}(h:eD s=true):s=[124,124]\/s=[38,38]\/s∈Go.Xg.rn:=by
 have R:∀l∈levels,∀x∈l,x=[124,124]\/x=[38,38]\/x∈Go.Xg.rn:=by decide
 grind[eD,mh,p6]
def wE{l:List ab}{s:ab}(h:l.contains s=true):bN (fun x=>x==s) l=((zu l s:Nat):Int)/\zu l s<l.length:=by
 have o:=ZF h
 have b:0<=bN (fun x=>x==s) l:=by
  grind[bN]
 grind[zu]
theorem Fc{l:List ab}{s:ab}(h:l.contains s=false):bN (fun x=>x==s) l<0:=by
 grind[bN]
section
variable{p:Src}{n:Nd}{l:List T}{ls:List ab}
theorem JH(h:bG p (.mk n l) ls=0)(N:n.ai=2\/n.ai=7)(M:ls.contains n.s=false):p.aq.contains n.s=true:=by
 unfold bG at h;rw[ae (show ¬(T.mk n l).n.ai=13 by grind[T.n]),ak (show(T.mk n l).n.ai=2\/(T.mk n l).n.ai=7 from N)]at h
 cases X:p.aq.contains n.s with
 |true=>rfl
 |false=>rw[ak (show ls.contains (T.mk n l).n.s=false/\p.aq.contains (T.mk n l).n.s=false from⟨M,X⟩)]at h;cases h
theorem ON(h:bG p (.mk n l) ls=0)(N:n.ai=3\/n.ai=8):0<=fo p n.s:=by
 unfold bG at h;rw[ae (show ¬(T.mk n l).n.ai=13 by grind[T.n]),ae (show ¬((T.mk n l).n.ai=2\/(T.mk n l).n.ai=7) by grind[T.n]),ak (show(T.mk n l).n.ai=3\/(T.mk n l).n.ai=8 from N)]at h
 by_cases W:ls.contains n.s=true\/fo p n.s<0
 ·rw[ak (show ls.contains (T.mk n l).n.s=true\/fo p (T.mk n l).n.s<0 from W)]at h;cases h
 ·omega
def X9(h:bG p (.mk n l) ls=0)(N:n.ai=13):ls.length<40:=by
 unfold bG at h;rw[ak (show(T.mk n l).n.ai=13 from N)]at h;omega
end
section
variable{k:Int}{n:Nat}
theorem yO(h:eG k n=true)(N:k=3\/k=5\/k=7\/k=11\/k=12\/k=13):n=1:=by
 unfold eG at h
 grind
theorem Lk(h:eG k n=true)(N:k=6\/k=8\/k=10):n=2:=by
 unfold eG at h
 grind
theorem abe(h:eG k n=true)(N:k=9):n=2\/n=3:=by
 unfold eG at h;rw[ae (show ¬(k=1\/k=2) by omega),ae (show ¬(k=4\/k=14) by omega),ae (show ¬(k=3\/k=5\/k=7\/k=11\/k=12\/k=13) by omega),ae (show ¬(k=6\/k=8\/k=10) by omega),ak N]at h
 grind
theorem Tq(h:eG k n=true):1<=k/\k<=14:=by
 grind[eG]
end
def lM{l:List R}{k:Nat}(h:k<l.length):l[k]?=some (r0 l k):=by
 grind[r0]
def Nx{p:Src}(h:eu p=true):∀f∈p.av,f.params.length<=40:=fun f m=>by
 have⟨l,M⟩:=rA h;unfold eu at h;rw[M.st.si]at h;simp only[aI,decide_eq_true_eq]at h;have b:=h.2;unfold xj at b;rw[ae zff]at b
 by_cases N:fD p=true
 ·grind
 simp_all[fD,Bool.or_eq_true,not_or,Bool.not_eq_true,any_eq_false,decide_eq_true_eq]
end Go.Im
namespace Go.Xg
open Go.RowKit Go.Xw Go.Proofs Tryz Go.Im Go.Mn
open Go.Xp (Nd T)
open Go.Sp (Src)
attribute [local irreducible] GW GL GO YG GC GA bo bq
def Ij(p:Src)(l0:List T)(own:List Int)(F:Nat)(H:MH)(g:Nat):Prop:=∀(a:Nat)(t:T)(u:List ab)(s:M)(v:Int)(q:M),xu p own a t u->nN p F s->s.over=false->ev qP F (qR p l0) g (uO p t u) s=some (v,q)->∀(al:Option Addr)(cl:Nat),
 GF prog 176 [.loc 0 0,.loc 5 0,y4 (a:Nat)] (mS p own F H al cl s) (y4 v) (mS p own F H al cl q)
section
variable{p:Src}{l0:List T}{own:List Int}{F:Nat}{H:MH}{al:Option Addr}{cl:Nat}
def XK{G a:Nat}{n:Nd}{l:List T}{ls:List ab}(S:∀Q,Q<=G->Ij p l0 own F H Q)(C:xu p own a (.mk n l) ls)(m:bU (.mk n l)=false):EI p own F H al cl (qR p l0) a (jl p l ls) G:=fun k r s t v Q J N j O e=>by
 have c:=ub p l ls;have i:=(bY N).1;have R:l[k]?=some (l[k]'V):=cK V;have⟨o,b,M⟩:=C.kid m R;rw[N]at M;cases M;exact VV C.node.1 b (S Q J _ _ _ _ _ _ o j O e al cl)
def SM(W:MW p l0 own F H){i:Nat}{f:Go.Sp.Fn}{t:T}(hf:p.av[i]?=some f)(M:l0[i]?=some t):xu p own f.body.toNat t f.params/\0<=f.body:=by
 have⟨a1,G,A,b,r⟩:=W.gl.at_ i f t hf M;exact⟨⟨b,W.ow i f t hf M,a1,G,XJ W.gl M,W.gl.sx M,Nx W.gd f (bP hf)⟩,r⟩
def QE{s:M}{args:List Int}(h:nN p F s):nN p F (s.enter args):=⟨h.cS,h.cells,h.rows,by simp[M.locs,M.enter],h.be,h.out⟩
theorem Wq(W:MW p l0 own F H){g a:Nat}{n:Nd}{l:List T}{ls:List ab}{s s':M}{v:Int}(hN:xu p own a (.mk n l) ls)(h7:7<=n.ai)(acm:EI p own F H al cl (qR p l0) a (jl p l ls) (g+1))(hm:nN p F s)(hle:¬F<=s.be)(hs:s.over=false)
  (h:cQ qP F (qR p l0) (g+1) (qS p n l ls (jl p l ls)) { s with be:=s.be+1 }=some (v,s')) :
  GF prog 176 [.loc 0 0,.loc 5 0,y4 (a:Nat)] (mS p own F H al cl s) (y4 v) (mS p own F H al cl s'):=by
 have⟨⟨a1,a2⟩,⟨b1,b2⟩,⟨c1,c2⟩,⟨d1,d2⟩⟩:=gn p;have hw:=W.w;have hF:=W.F
 have ps:s.be<F:=by omega
 have b:=hm.next hle
 have o:({ s with be:=s.be+1 }:M).over=false:=hs;generalize zt:({ s with be:=s.be+1 }:M)=s1 at *;have⟨i,A,hf,R,NT,zr⟩:=hN.node;have xo:=ub p l ls;have⟨k1,k2⟩:=Tq R;unfold qS at h;rw[ae (show ¬n.ai=1 by omega),ae (show ¬n.ai=2 by omega),ae (show ¬n.ai=3 by omega),ae (show ¬n.ai=4 by omega),ae (show ¬n.ai=5 by omega),ae (show ¬n.ai=6 by omega)]at h
 have ST:∀{s':M},n.ai<=13->GF prog 232 [.loc 0 0,.loc 5 0,y4 (a:Nat)] (mS p own F H al cl s1) (.tup []) (mS p own F H al cl s')->GF prog 176 [.loc 0 0,.loc 5 0,y4 (a:Nat)] (mS p own F H al cl s) (y4 0) (mS p own F H al cl s'):=fun SV N=>Zi i ⟨h7,SV⟩ ps hF (by rw[zt];exact N)
 by_cases Q:n.ai=7
 ·rw[ak Q]at h;have S:=yO R (.inr (.inr (.inl Q)));unfold w9 at A;rw[ae (show ¬n.ai=13 by omega)]at A
  by_cases N:ls.contains n.s=true
  ·rw[ak N]at h;simp only[cQ]at h;have⟨x,t,G,h⟩:=c8 h;have j:=acm 0 _ _ t x g V (lM V) b o G;have⟨X,f2⟩:=wE N;rw[X]at A;have SW:=hN.len;have Jg:=(b.ev G).locs
   by_cases e:t.over=true
   ·exact zbS
   ·rw[ae e]at h;simp only[Option.some.injEq,Prod.mk.injEq]at h;obtain⟨rfl,rfl⟩:=h;exact ST V (rO i (.inl Q) j (fun h=>absurd h e) fun _=>Pg A V x)
  ·rw[ae N]at h;simp only[cQ]at h;have⟨x,t,G,h⟩:=c8 h;have j:=acm 0 _ _ t x g V (lM V) b o G
   have Z:ls.contains n.s=false:=by grind
   have⟨X,f2⟩:=wE (JH hf (.inr Q) Z);have vw:=(b.ev G).cS
   by_cases e:t.over=true
   ·exact zbS
   ·rw[ae e]at h;simp only[Option.some.injEq,Prod.mk.injEq]at h;obtain⟨rfl,rfl⟩:=h;exact ST V (rO i (.inl Q) j (fun h=>absurd h e) fun _=>Yv V i A (Fc Z) X V x)
 rw[ae Q]at h
 by_cases G:n.ai=8
 ·rw[ak G]at h;have Dr:=Lk R (.inr (.inl G));simp only[cQ]at h;have⟨x,t,J,h⟩:=c8 h;have j:=acm 0 _ _ t x g V (lM V) b o J;have z:=b.ev J;have⟨k,ar,X,f2⟩:=BZ (ON hf (.inr G));rw[X,ik]at h;have hh:=W.hs;have N:=MG V i X f2 (B0 W.gl f2) z hh j
  have Xa:k<t.cells.length:=by rw[z.cells];grind
  have W7:H.hs[k]?=some (H.hs.getD k (0,0)):=by grind
  unfold Ek Ej at N
  have Y:∀(t':M),GF prog 226 [.loc 0 0,.loc 5 0,y4 (a:Nat)] (mS p own F H al cl s1) (.v (.pointer none)) (mS p own F H al cl t')->GF prog 232 [.loc 0 0,.loc 5 0,y4 (a:Nat)] (mS p own F H al cl s1) (.tup []) (mS p own F H al cl t'):=fun t' N=>G2 (k:=0) (h:=(0,0)) (u:=t') (v:=0) i G N (.inl rfl) t' ⟨fun _=>rfl,fun q hq=>(by cases hq)⟩
  by_cases e:t.over=true
  ·rw[ak e]at h;simp only[Option.some.injEq,Prod.mk.injEq]at h;obtain⟨rfl,rfl⟩:=h
   simp_all
  ·rw[ae e]at h;rw[ae e,ae e]at N
   by_cases hi:vB (row t k) x=true
   ·rw[ak hi]at h;rw[ak hi,ak hi]at N;unfold vB at hi;simp only[aI,decide_eq_true_eq]at hi;have⟨y,u,c,h⟩:=c8 h;have hw:=acm 1 _ _ u y g V (lM V) z zff c;have Jk:=EN.ev c
    have hxq:((x.toNat:Nat):Int)=x:=by omega
    have B:=G2 (k:=k) (h:=H.hs.getD k (0,0)) (u:=u) (v:=y) i G N (.inr ⟨x.toNat,rfl,by omega,Xa,W7,hw,fun _=>⟨Jk.rows k,Jk.cells⟩⟩) (if u.over=true then u else rM u k (x.toNat:Int) y) ⟨fun hq=>(by cases hq),fun q hq=>zff⟩;rw[hxq]at B
    by_cases hu:u.over=true
    ·rw[ak hu]at h B;exact zdq
    ·rw[ae hu]at h B;exact zdq
   simp_all
 rw[ae G]at h
 by_cases J:n.ai=9
 ·rw[ak J]at h;have hl3:=abe R J
  by_cases h3:l.length=3
  ·rw[ak h3]at h;simp only[cQ]at h;have⟨x,t,c,h⟩:=c8 h;have j:=acm 0 _ _ t x g V (lM V) b o c;have z:=b.ev c
   by_cases e:t.over=true
   ·exact zbV
   ·rw[ae e]at h
    by_cases hx:x≠0
    ·exact za4
    ·rw[ae hx]at h;have⟨y,u,d,h⟩:=c8 h;simp only[Option.some.injEq,Prod.mk.injEq]at h;obtain⟨rfl,rfl⟩:=h;exact ST V (tu i J j (fun h=>absurd h e) fun E=>.inr (.inl ⟨by omega,by omega,y,acm 2 _ _ _ y g V (lM V) z E d⟩))
  ·rw[ae h3]at h;simp only[cQ]at h;have⟨x,t,c,h⟩:=c8 h;have j:=acm 0 _ _ t x g V (lM V) b o c;have z:=b.ev c
   by_cases e:t.over=true
   ·exact zbV
   ·rw[ae e]at h
    by_cases hx:x≠0
    ·exact za4
    ·rw[ae hx]at h;simp only[Option.some.injEq,Prod.mk.injEq]at h;obtain⟨rfl,rfl⟩:=h;exact ST V (tu i J j (fun h=>absurd h e) fun E=>.inr (.inr ⟨by omega,by omega,rfl⟩))
 rw[ae J]at h
 by_cases c:n.ai=10
 ·rw[ak c]at h;have Dr:=Lk R (.inr (.inr c));simp only[cQ]at h;have⟨w0,t,d,h⟩:=c8 h;simp only[Option.some.injEq,Prod.mk.injEq]at h;obtain⟨rfl,rfl⟩:=h;exact ST V (L0 i c (fun k r s t v g' xO=>acm k r s t v g' V) (lM V) (lM V) b o d)
 rw[ae c]at h
 by_cases d:n.ai=11
 ·rw[ak d]at h;have S:=yO R (.inr (.inr (.inr (.inl d))));simp only[cQ]at h;have⟨x,t,C,h⟩:=c8 h;have j:=acm 0 _ _ t x g V (lM V) b o C;have B:=G3 i (.inl d) j;rw[ak d]at B
  by_cases e:t.over=true
  ·simp_all
  simp_all
 rw[ae d]at h
 by_cases C:n.ai=12
 ·rw[ak C]at h;have S:=yO R (.inr (.inr (.inr (.inr (.inl C)))));simp only[cQ]at h;have⟨x,t,m,h⟩:=c8 h;have j:=acm 0 _ _ t x g V (lM V) b o m;have B:=G3 i (.inr C) j
  simp_all
 rw[ae C]at h
 by_cases m:n.ai=13
 ·rw[ak m]at h;have S:=yO R (.inr (.inr (.inr (.inr (.inr m)))));unfold w9 at A;rw[ak m]at A;simp only[cQ]at h;have⟨x,t,O,h⟩:=c8 h;have j:=acm 0 _ _ t x g V (lM V) b o O;have SW:=X9 hf m;have Jg:=(b.ev O).locs
  by_cases e:t.over=true
  ·rw[ak e]at h;simp only[Option.some.injEq,Prod.mk.injEq]at h;obtain⟨rfl,rfl⟩:=h;exact ST V (rO i (.inr m) j (fun _=>rfl) fun h=>absurd h zff)
  ·rw[ae e]at h;simp only[Option.some.injEq,Prod.mk.injEq]at h;obtain⟨rfl,rfl⟩:=h;exact ST V (rO i (.inr m) j (fun h=>absurd h e) fun _=>Pg A V x)
 rw[ae m]at h
 have O:n.ai=14:=by omega
 simp only[cQ]at h;have⟨w0,t,e15,h⟩:=c8 h;simp only[Option.some.injEq,Prod.mk.injEq]at h;obtain⟨rfl,rfl⟩:=h;have vy:=(d2 n (bP i)).2;exact QD (g:=g) i O ps hF V V (fun k r s t v g' xO=>acm k r s t v g' V) zff hs zff
theorem Uo(W:MW p l0 own F H){G:Nat}(ih:∀g',g'<=G->Ij p l0 own F H g'):Ij p l0 own F H (G+1):=fun a t ls s v s' hN hm hs h al cl=>by
 have⟨⟨a1,a2⟩,⟨b1,b2⟩,⟨c1,c2⟩,⟨d1,d2⟩⟩:=gn p;have hw:=W.w;have R:=W.F;rw[Go.Mn.ev]at h;split at h
 ·grind[Option.some.injEq,Prod.mk.injEq,Wn]
 rename_i hle
 have d:s.be<F:=by omega
 have b:=hm.next hle
 have j:({ s with be:=s.be+1 }:M).over=false:=hs;have⟨n,l⟩:=t;rw[uO]at h;have⟨z,X,hf,hk,NT,zr⟩:=hN.node
 have hV:bU (.mk n l)=false->EI p own F H al cl (qR p l0) a (jl p l ls) G:=fun hz=>XK ih hN hz
 have Fq:n.ai≠4->bU (.mk n l)=false:=fun h4=>by grind[T.n,bU]
 have xo:=ub p l ls;have⟨k1,k2⟩:=Tq hk
 cases G with
 |zero=>grind[cQ]
 |succ g =>
 by_cases e1:n.ai=1
 ·unfold qS at h;rw[ak e1]at h
  grind[cQ,Option.some.injEq,Prod.mk.injEq,Wp]
 by_cases e2:n.ai=2
 ·unfold qS at h;rw[ae e1,ak e2]at h;unfold w9 at X;rw[ae (show ¬n.ai=13 by omega)]at X
  by_cases o:ls.contains n.s=true
  ·rw[ak o]at h;simp only[cQ,Option.some.injEq,Prod.mk.injEq]at h;obtain⟨rfl,rfl⟩:=h;have⟨B,N⟩:=wE o;rw[B]at X;have SW:=hN.len;have Jg:=hm.locs
   grind[Wo]
  ·rw[ae o]at h;simp only[cQ,Option.some.injEq,Prod.mk.injEq]at h;obtain⟨rfl,rfl⟩:=h
   have hc':ls.contains n.s=false:=by grind
   have⟨B,N⟩:=wE (JH hf (.inl e2) hc');have vw:=hm.cS
   grind[Un,Fc]
 by_cases A:n.ai=3
 ·have acm:=hV (Fq V);unfold qS at h;rw[ae e1,ae e2,ak A]at h;have Xb:=yO hk (.inl A);simp only[cQ]at h;have⟨x,t,m,h⟩:=c8 h;have hv:=acm 0 _ _ t x g V (lM V) b j m;have E:=b.ev m;have⟨k,ar,B,N⟩:=BZ (ON hf (.inl A));rw[B,ik]at h;have hh:=W.hs;have o:=MG V z B N (B0 W.gl N) E hh hv
  have Xa:k<t.cells.length:=by rw[E.cells];grind
  have W7:H.hs[k]?=some (H.hs.getD k (0,0)):=by grind
  unfold Ek Ej at o
  by_cases e:t.over=true
  ·rw[ak e]at h;simp only[Option.some.injEq,Prod.mk.injEq]at h;obtain⟨rfl,rfl⟩:=h;rw[ak e,ak e]at o;exact zeo
  ·rw[ae e]at h;rw[ae e,ae e]at o
   by_cases C:vB (row t k) x=true
   ·rw[ak C]at h;simp only[Option.some.injEq,Prod.mk.injEq]at h;obtain⟨rfl,rfl⟩:=h;rw[ak C,ak C]at o;unfold vB at C;simp only[aI,decide_eq_true_eq]at C;exact K7 (k:=k) (q:=x.toNat) (h:=H.hs.getD k (0,0)) z A d R o _ (.inr ⟨rfl,by omega,Xa,W7,rfl⟩)
   ·rw[ae C]at h;simp only[Option.some.injEq,Prod.mk.injEq]at h;obtain⟨rfl,rfl⟩:=h;rw[ae C,ae C]at o;exact zeo
 by_cases m:n.ai=4
 ·by_cases hz:n.s=dY
  ·unfold qS at h;rw[ae e1,ae e2,ae A,ak m,ak hz]at h;simp only[cQ,Option.some.injEq,Prod.mk.injEq]at h;obtain⟨rfl,rfl⟩:=h;exact IK z m d R (Ly W hN m hz _)
  ·have XB:bU (.mk n l)=false:=by
    unfold bU;show((n.ai==4&&n.s==dY)&&_)=false
    grind
   have acm:=hV XB;have⟨g',xO,hA⟩:=Ru m hz hf j h;refine IK z m d R (U2 W (G:=g+1) hN m hz (fun k r s t v g2 hg2 hk hm hs he=>acm k r s t v g2 V hk hm hs he) (fun i args t g2 w u hg2 hto hd Ja E C Fo=>?_) hA b j)
   have Je:i<p.av.length:=by
    have:=zV (f:=fun f:Go.Sp.Fn=>f.name==n.s) (l:=p.av) (by grind[iN])
    grind[bN,iN]
   have hlen:=W.gl.len;have S:p.av[i]?=some p.av[i]:=cK Je;have hti:l0[i]?=some (l0[i]'V):=cK V;have⟨hNf,hbf⟩:=SM W S hti;have O:=Fo;rw[Pd S hti]at O;have Jk:=EN.ev Fo
   refine IG S hbf hd Ja Jk.a6 fun al cl=>ih g2 V _ _ _ _ _ _ hNf (QE E) ?_ O al cl
   grind[M.over,M.enter]
 have acm:=hV (Fq m)
 by_cases e5:n.ai=5
 ·unfold qS at h;rw[ae e1,ae e2,ae A,ae m,ak e5]at h;have Xb:=yO hk (.inr (.inl e5));simp only[cQ]at h;have⟨x,t,e6,h⟩:=c8 h;simp only[Option.some.injEq,Prod.mk.injEq]at h;obtain⟨rfl,rfl⟩:=h;exact Zj z e5 d R (NT.2.1 e5) (acm 0 _ _ t x g V (lM V) b j e6)
 by_cases e6:n.ai=6
 ·unfold qS at h;rw[ae e1,ae e2,ae A,ae m,ae e5,ak e6]at h;have Dr:=Lk hk (.inl e6);have Y:=lM (l:=jl p l ls) (k:=0) V;have Z:=lM (l:=jl p l ls) (k:=1) V;refine Wm z e6 d R ?_;have zt:=LV (NT.2.2 e6)
  by_cases B:n.s=[38,38]
  ·rw[ak B]at h;simp only[cQ]at h;have⟨x,t,J,h⟩:=c8 h;have hv:=acm 0 _ _ t x g V Y b j J
   by_cases e:t.over=true
   ·rw[ak e]at h
    exact zdU
   ·rw[ae e]at h
    have c:t.over=false:=by grind
    by_cases hx:x=0
    ·rw[ak hx]at h;simp only[Option.some.injEq,Prod.mk.injEq]at h;obtain⟨rfl,rfl⟩:=h;have:=EU z hv c (.inr ⟨B,hx⟩);subst hx;exact this
    ·rw[ae hx]at h;have⟨y,u,e8,h⟩:=c8 h;have hw:=acm 1 _ _ u y g V Z (b.ev J) c e8
     by_cases Q:u.over=true
     ·rw[ak Q]at h
      exact zdV
     ·rw[ae Q]at h
      grind[Option.some.injEq,Prod.mk.injEq,EV,oT]
  rw[ae B]at h
  by_cases N:n.s=[124,124]
  ·rw[ak N]at h;simp only[cQ]at h;have⟨x,t,J,h⟩:=c8 h;have hv:=acm 0 _ _ t x g V Y b j J
   by_cases e:t.over=true
   ·rw[ak e]at h
    exact zdU
   ·rw[ae e]at h
    have c:t.over=false:=by grind
    by_cases hx:x≠0
    ·rw[ak hx]at h;simp only[Option.some.injEq,Prod.mk.injEq]at h;obtain⟨rfl,rfl⟩:=h;have:=EU z hv c (.inl ⟨N,hx⟩)
     simp_all[oT,ak]
    ·rw[ae hx]at h;have⟨y,u,e8,h⟩:=c8 h;have hw:=acm 1 _ _ u y g V Z (b.ev J) c e8
     have XA:x=0:=by omega
     by_cases Q:u.over=true
     ·rw[ak Q]at h
      exact zdV
     ·rw[ae Q]at h
      grind[Option.some.injEq,Prod.mk.injEq,EV,oT]
  rw[ae N]at h
  have S5:n.s∈rn:=by grind
  simp only[cQ]at h;have⟨x,t,J,h⟩:=c8 h;have hv:=acm 0 _ _ t x g V Y b j J
  by_cases e:t.over=true
  ·rw[ak e]at h
   exact zdU
  ·rw[ae e]at h
   have c:t.over=false:=by grind
   have⟨y,u,e8,h⟩:=c8 h;have hw:=acm 1 _ _ u y g V Z (b.ev J) c e8
   by_cases Q:u.over=true
   ·rw[ak Q]at h
    exact zdV
   ·rw[ae Q]at h;have:=Qn z hv c S5 hw zff;have h:(if(rm n.s x y).2≠0 then some ((0:Int),u.stop 2 (rm n.s x y).2)else some ((rm n.s x y).1,u))=some (v,s'):=h
    grind
 grind[Wq]
theorem aap(W:MW p l0 own F H):∀g,Ij p l0 own F H g:=by
 have R:∀N g,g<=N->Ij p l0 own F H g:=by
  intro N
  induction N with
  |zero =>
   grind[Go.Mn.ev,Ij]
  |succ N O =>
   intro g X
   cases g with
   |zero=>grind
   |succ g=>grind[Uo]
 exact fun g=>R g g (aY g)
end
end Go.Xg
namespace Go.Im
open Go.Xp Go.Sp
def DT(s:List Int)(a:Nat)(t:T)(ls:List ab):(gm s a t ls).length=s.length:=by unfold gm;rw[List.length_set]
mutual
def Uw:∀(t:T)(a:Nat)(s:List Int)(ls:List ab),(eo gm t a s ls).1.length=s.length
 |.mk n l,a,s,ls=>by rw[eo];show(c6 gm l (a+1) _ ls).1.length=_;rw[zR l,DT]
def zR:∀(l:List T)(a:Nat)(s:List Int)(ls:List ab),(c6 gm l a s ls).1.length=s.length
 |[],a,s,ls=>by rw[c6]
 |t::r,a,s,ls=>by rw[c6,zR r,Uw t]
end
end Go.Im
namespace Go.Xg
open Go.RowKit Go.Xw Go.Proofs Tryz Go.Im
open Go.Xp (Nd T)
open Go.Sp (Src)
attribute [local irreducible] GW GL GO YG GC GA bo bq
def ya:∀(l:List Int)(k:Nat)(x:Int),df (cI l) k 0 (y4 x)=cI (l.set k x)
 |[],k,x=>rfl
 |a::l,0,x=>rfl
 |a::l,k+1,x=>by
  show[y4 a]::df (cI l) k 0 (y4 x)=_;rw[ya l k x];rfl
def VM(p:Src)(G:Option Addr)(N:Nat)(a:Nat)(n:Nd)(l:List T)(ls:List ab)(s:List Int)(k:TypeId)(S:Option Addr)(c:Nat)(hn:p.ah[a]?=some n)(m:ls.length<=1099511627776)(H:s.length=p.ah.length) :
  GF prog 175 [y4 (a:Nat),.v (.slice S ls.length c),.box (aB p) 0,.loc 0 0] [.box k [.v (.slice G p.ah.length N)],.vech 3 1 (cI s) (.slice G p.ah.length N),.vech 9 1 (bs ls) (.slice S ls.length c)] (.tup [])
   [.box k [.v (.slice G p.ah.length N)],.vech 3 1 (cI (gm s a (.mk n l) ls)) (.slice G p.ah.length N),.vech 9 1 (bs ls) (.slice S ls.length c)]:=by
 have z:=cr hn;have t:=(bY hn).1;have i:=gO ls n.s m;rw[xP]at i;have r:strs ls=.sl 1 (bs ls):=rfl;rw[r]at i;have hx:(cI s)[a]?=some [.v (ii s[a])]:=ic (cK V)
 have M:a<(cI s).length:=by rw[ct];omega
 have j:(cI s).length=p.ah.length:=by rw[ct];exact H
 have e:cI (gm s a (.mk n l) ls)=if(n.ai==13)=true then df (df (cI s) a 0 (y4 (bN (fun x=>x==n.s) ls))) a 0 (y4 (ls.length:Nat))else df (cI s) a 0 (y4 (bN (fun x=>x==n.s) ls)):=by
  rw[ya,ya];unfold gm w9;show cI (s.set a (if n.ai=13 then(ls.length:Int)else _))=_
  by_cases h:n.ai=13
  ·rw[ak h,ak (by simpa using h),List.set_set]
  ·rw[ae h,ae (by simpa using h)];rfl
 rw[e];generalize bN (fun x=>x==n.s) ls=q at *
 have E:(df (cI s) a 0 (y4 q))[a]?=some [y4 q]:=by rw[yW hx,ak rfl];rfl
 have Y:a<(df (cI s) a 0 (y4 q)).length:=by rw[dR];exact M
 have b:(df (cI s) a 0 (.v (ii q))).length=p.ah.length:=by rw[dR];exact j
 unfold aN at z
 cases Q:(n.ai==13)with
 |true =>
  rw[ak rfl];refine au func175 ntmps175 ?_;refine aV (aL 0 5 (.a 5 (.q 6 (.a 7 .nil)))) ?_;refine zc2 ?_;refine GL.borrow i (fun B K o w l i O=>fm (A:=[_,_]) (C:=[_]) i O rfl rfl) ?_;refine cD ?_;refine zc2 ?_;refine GL.xr rfl rfl rfl aQ rfl rfl rfl rfl ?_;refine zdy ?_;refine pP ?_;exact dF
 |false =>
  rw[ae aR];refine au func175 ntmps175 ?_;refine aV (aL 0 5 (.a 5 (.q 6 (.a 7 .nil)))) ?_;refine zc2 ?_;refine GL.borrow i (fun B K o w l i O=>fm (A:=[_,_]) (C:=[_]) i O rfl rfl) ?_;refine cD ?_;refine zc2 ?_;refine GL.xr rfl rfl rfl aQ rfl rfl rfl rfl ?_;refine cD ?_;refine ax ?_;exact dF
open GV (U)
open Go.Xp (aU aM dw)
def Hj(p:Src)(G:Option Addr)(N:Nat):GV:=.fn (.func 175) [] [.box (aB p) 0,.loc 0 0]
def TP(p:Src):GV:=.fn (.func 115) [] [.loc 2 0,.loc 3 0,.box (aB p) 0,.loc 4 0]
def DK(p:Src)(G:Option Addr)(N:Nat)(j k X z:TypeId)(s:List Int)(ls:List ab)(S:Option Addr)(c:Nat):ap :=
 [.box j [.v (.slice G p.ah.length N)],.vech 3 1 (cI (s)) (.slice G p.ah.length N),.box k [Hj p G N],.box X [.v (.slice S ls.length c)],.box z [TP p],.vech 9 1 (bs ls) (.slice S ls.length c)]
def Sh(p:Src)(B:Option Addr)(C:Nat)(A F G H:TypeId)(hp:p.ah.length<=1048576)(O:∀n∈p.ah,n.aw.length<=1099511627776):∀(N:Nat)(t:T),aU t<=N->∀(a:Nat)(s:List Int)(ls:List ab)(m:Option Addr)(o:Nat),dM p.ah a t->ls.length+aU t<=8388608->s.length=p.ah.length ->
  GC prog 115 [y4 (a:Nat),.loc 2 0,.loc 3 0,.box (aB p) 0,.loc 4 0] (DK p B C A F G H s ls m o) fun g Δ=>g=.tup []/\∃b c,Δ=DK p B C A F G H (eo gm t a s ls).1 (eo gm t a s ls).2 b c:=by
 intro N
 induction N with
 |zero=>intro t h;exact zd6
 |succ N ih =>
 intro t hN a s ls m o q Q hs
 cases t with
 |mk n l =>
 rw[Go.Xp.aU]at hN Q;have Z:=q;rw[dM]at q;have⟨R,Y,S⟩:=q;rw[eo];have hr:=cr R;have Ta:=O n (bP R);have ht:=VM p B C a n l ls s A m o R V hs;have Tc:=DT s a (.mk n l) ls;generalize Fu:gm s a (.mk n l) ls=j at *
 have d:n.aw.length=l.length:=by rw[Y,dw]
 unfold aN at hr;unfold DK Hj TP;refine au func115 ntmps115 ?_;refine GL.oV [0,1,5] ht rfl rfl rfl (by repeat (first|exact trivial|refine⟨rfl,?_⟩)) ?_;rintro _ _⟨rfl,rfl⟩;refine zas ?_;refine GW.range (n.aw.map fun i=>[GV.v (ii i)]).length (fun k fr Γ=>∃b c,fr=[y4 (a:Nat),.loc 2 0,.loc 3 0,.box (aB p) 0,.loc 4 0,U,U,U,U,U,U,U,U,U,U,U,U,ints n.aw,y4 ((n.aw.map fun i=>[GV.v (ii i)]).length:Int),y4 (k:Nat),U,U,U,U,U,U,U,U,U,U,U,U,U,U,U,U,U,U,U,U,U,U,U]/\Γ=DK p B C A F G H (c6 gm (l.take k) (a+1) j ls).1 (c6 gm (l.take k) (a+1) j ls).2 b c) ?_ zff ?_ ?_ ?_
 ·exact⟨_,_,Wk.aZ az,m,o,rfl,rfl⟩
 ·rintro k _ _⟨m,o,rfl,rfl⟩;exact dO
 ·rintro k _ _ z⟨m,o,rfl,rfl⟩;rw[ct,d]at z;obtain⟨u,E⟩:∃u,l[k]?=some u:=⟨l[k],by simp[z]⟩;have r:=qw (n:=a+1) E;rw[<-Y]at r;have Th:=ic r;have sM:=mz E;have W:dM p.ah (a+1+aM (l.take k)) u:=dn.ix l (a+1) k u S E
  have w:(c6 gm (l.take k) (a+1) j ls).2.length<=ls.length+aM (l.take k):=by
   exact zeU
  have hm1:=zR (l.take k) (a+1) j ls;rw[wC _ E];generalize(c6 gm (l.take k) (a+1) j ls).1=s2 at *;generalize(c6 gm (l.take k) (a+1) j ls).2=e at *;have X:=ih u V (a+1+aM (l.take k)) s2 e m o W V V;unfold DK Hj TP at X |-;refine I ?_;refine GL.oV [0,1,2,3,4,5] X rfl rfl rfl (by repeat (first|exact trivial|refine⟨rfl,?_⟩)) ?_;rintro _ _⟨rfl,b,c,rfl⟩;exact zeV
 ·rintro _ _⟨m,o,rfl,rfl⟩;rw[ct,d,dD]
  have w:(c6 gm l (a+1) j ls).2.length<=ls.length+aM l:=by
   exact zeU
  generalize(c6 gm l (a+1) j ls).1=s2 at *;generalize(c6 gm l (a+1) j ls).2=e at *;have AV:(bs e).length=e.length:=pg e;unfold DK Hj TP;refine bh ?_
  cases X:(n.ai==13)with
  |false =>
   exact zel
  |true =>
   rw[ak zff];refine zbs ?_;refine OA rfl rfl (GL.ml 5 (news:=[[.v (sv n.s)]]) rfl rfl rfl aQ rfl rfl (by refine⟨?_,?_⟩;(· show _+1<=_;omega);(· show(_+1)*_<=_;omega)) ?_);intro J M;refine zaO ?_;exact⟨rfl,J,M,by simp[bs]⟩
def Ur(p:Src)(G:Option Addr)(N:Nat)(j:TypeId)(i:Nat)(f:Go.Sp.Fn)(t:T)(s:List Int)(X:p.ah.length<=1048576)(e:∀n∈p.ah,n.aw.length<=1099511627776)
  (hf:p.av[i]?=some f)(W:f.params.length<=1048576)(l:0<=f.body)(r:dM p.ah f.body.toNat t)(z:aU t<=1048576)(H:s.length=p.ah.length) :
  GF prog 53 [.agg (aB p),y4 (i:Nat),Hj p G N] [.box j [.v (.slice G p.ah.length N)],.vech 3 1 (cI (s)) (.slice G p.ah.length N)] (.tup []) [.box j [.v (.slice G p.ah.length N)],.vech 3 1 (cI ((eo gm t f.body.toNat s f.params).1)) (.slice G p.ah.length N)]:=by
 have w:(p.av.map aD)[i]?=some (aD f):=by grind
 have d:(f.params.map fun s=>[GV.v (sv s)]).length=f.params.length:=by simp
 have F:=mu f.params;obtain⟨b,m⟩:∃b:Nat,f.body=(b:Int):=⟨f.body.toNat,by omega⟩;rw[m,ik]at r |-;unfold aD at w;rw[m]at w;unfold Hj;refine dc func53 ntmps53 ?_;refine zal ?_;refine GL.oQ 4 rfl rfl rfl rfl F V ?_;intro S c;rw[d];refine zdX ?_;refine GW.Df (dh:=U::y4 (i:Nat)::U::.box (aB p) 0::U::.loc 3 0::.loc 5 0::.loc 6 0::zU 16 []) (bM:=[.box j [.v (.slice G p.ah.length N)],.vech 3 1 (cI (s)) (.slice G p.ah.length N),.gone,.box _ [.fn (.func 175) [] [.box (aB p) 0,.loc 0 0]],.vech 9 1 (bs f.params) (.slice S f.params.length c),.box _ [.v (.slice S f.params.length c)],.box _ [.fn (.func 115) [] [.loc 3 0,.loc 5 0,.box (aB p) 0,.loc 6 0]]]) az rfl ?_;refine zeq ?_;have k:=Sh p G N j;refine OA rfl rfl (GL.oV [0,1,3,5,6,4] (k _ _ _ X e _ t (aY _) b s f.params S c r V H) rfl rfl rfl (by repeat (first|exact trivial|refine⟨rfl,?_⟩)) ?_);rintro _ _⟨rfl,u,Y,rfl⟩;refine⟨by simp[DK],?_⟩;unfold DK;refine zaO ?_;simp
end Go.Xg
set_option maxHeartbeats 8000000
namespace Go.Im
open Go.Xp Go.Sp Go.Mn
def DM:∀(v:List Go.Sp.Fn)(l:List T)(k:Nat)(f:Go.Sp.Fn)(t:T)(a:Nat)(s:List Int),v[k]?=some f->l[k]?=some t->qj (v.take (k+1)) (l.take (k+1)) a s=(eo gm t (a+aM (l.take k)) (qj (v.take k) (l.take k) a s) f.params).1
 |[],l,k,f,t,a,s,h,_=>by simp at h
 |g::v,[],k,f,t,a,s,_,h=>by simp at h
 |g::v,u::l,0,f,t,a,s,o,b=>by
  cases o;cases b
  rw[take_succ_cons,take_succ_cons,take_zero,take_zero,qj,take_zero,take_zero,aM];rfl
 |g::v,u::l,k+1,f,t,a,s,o,b=>by
  rw[take_succ_cons,take_succ_cons,qj,DM v l k f t _ _ zfp zfE,take_succ_cons,take_succ_cons,qj,aM,mg]
def LF(p:Src)(l:List T):List Int:=qj p.av l 0 (List.replicate p.ah.length 0)
def Vc{p:Src}{l:List T}(h:Good p l):∀(i:Nat)f t,p.av[i]?=some f->l[i]?=some t->tz (LF p l) f.body.toNat t f.params:=fun i f t m M=>by
 have j:=(h.st.av.at_ i f t m M).1;have N:=h.st.len;have:=(CD p.av l 0 (List.replicate p.ah.length 0) (by rw[length_replicate];omega)).2 i f t m M;rw[j,ik];exact this
def DS{p:Src}{l:List T}(h:Good p l)(v:List Int)(F:Nat):nN p F ((⟨v,[],List.replicate p.aq.length 0,p.aj.map fun a=>List.replicate a.size.toNat 0,0,0,0,0,[],false,0⟩:M).enter []):=by
 refine⟨length_replicate,ct _,fun k a w=>?_,aY _,bp _,aY _⟩;have:=ea.1 h.st.aj a (bP w);unfold kc at this;simp only[aI,Bool.not_eq_true',decide_eq_false_iff_not]at this;unfold row M.enter;rw[List.getD_eq_getElem?_getD,dB,w];show((List.replicate a.size.toNat (0:Int)).length:Int)=a.size;rw[length_replicate];omega
end Go.Im
namespace Go.Xg
open Go.RowKit Go.Xw Go.Proofs Tryz Go.Im Go.Mn
open GV (U)
open Go.Xp (T aM)
open Go.Sp (Src)
attribute [local irreducible] GW GL GO YG GC GA bo bq
def Ak(n:Nat):List.replicate n (gZ [ii 0])=cI (List.replicate n 0):=by
 unfold cI;rw[List.map_replicate];rfl
def Eg(p:Src)(S:cU p<=1048576){l:List T}(hg:Go.Im.Good p l)(u:eu p=true) :
  GC prog 103 [.agg (aB p)] [] fun g A=>∃a c,g=.v (.slice a p.ah.length c)/\A=[.vech 3 1 (cI (LF p l)) (.slice a p.ah.length c)]:=by
 have⟨⟨a1,F⟩,⟨B,C⟩,⟨E,Q⟩,⟨R,W⟩⟩:=gn p;have r:(p.ah.map aN).length=p.ah.length:=ct _;have b:(p.av.map aD).length=p.av.length:=ct _;have d:=hg.len;have s:=hg.st.len
 have e:∀k,(qj (p.av.take k) (l.take k) 0 (List.replicate p.ah.length 0)).length=p.ah.length:=fun k=>by
  have X:=Go.Xp.pL l k;have:=(CD (p.av.take k) (l.take k) 0 (List.replicate p.ah.length 0) (by rw[length_replicate];omega)).1.len;rw[this,length_replicate]
 refine dc func103 ntmps103 ?_;refine za2 ?_;refine GL.mkN (n:=(p.ah.map aN).length) rfl ⟨by omega,by omega⟩ ?_;intro G O;rw[r,Ak];refine zb0 ?_;refine GW.range (p.av.map aD).length (fun k J z=>J=[U,.box (aB p) 0,U,.loc 1 0,U,U,U,U,U,U,.sl 3 (p.av.map aD),y4 ((p.av.map aD).length:Int),y4 (k:Nat),U,U,U,U,U,U,U,U]/\z=[.vech 3 1 (cI (qj (p.av.take k) (l.take k) 0 (List.replicate p.ah.length 0))) (.slice G p.ah.length O),.box 29 [.v (.slice G p.ah.length O)]]) ?_ V ?_ ?_ ?_
 ·exact fV
 ·rintro k _ _⟨rfl,rfl⟩;exact dO
 ·rintro k _ _ N⟨rfl,rfl⟩;rw[b]at N;have m:p.av[k]?=some p.av[k]:=cK N;have M:l[k]?=some (l[k]'V):=cK V;have H:=hg.fn m M;have t:=(hg.st.av.at_ k _ _ m M).1;rw[DM p.av l k _ _ 0 _ m M];have o:=Ur p G O 29 k _ _ (qj (p.av.take k) (l.take k) 0 (List.replicate p.ah.length 0)) V (fun n h=>by have:=(W n h).2;omega) m (by have:=(Q _ (bP m)).2.1;omega) H.body H.st (by have:=H.sz;omega) (e k)
  have q:(p.av[k]).body.toNat=0+aM (l.take k):=by rw[t,ik]
  rw[q]at o;unfold Hj at o;refine I ?_;refine D [1,0] o ?_;exact zaT
 ·rintro _ _⟨rfl,rfl⟩;rw[b,dD,d,dD];refine bh ?_;refine zd1 ?_;refine SO [0] [_] rfl ir rfl rfl aR (fun j x hx=>?_) ⟨G,O,rfl,rfl⟩
  cases j with
  |zero=>cases hx;exact⟨rfl,fun i w=>by cases w;rfl⟩
  |succ j=>simp at hx
def Gu(r:eZ):am:=[y4 r.fin,y4 r.why,y4 r.n,ints r.out,y4 (r.be:Nat),ints r.cS]
def mR(p:Src)(own:List Int)(F:Nat)(H:MH)(s:M)(r:eZ):ap:=[.box 64 [strs p.aq,.sl 2 (p.aj.map aW),.sl 3 (p.av.map aD),.sl 5 (p.ah.map aN),ints own,ints s.inp,y4 (F:Nat),
 y4 r.fin,y4 r.why,y4 r.n,.vec 1 r.out.length,y4 (r.be:Nat),.v (.slice H.ag r.cS.length H.cg),.v (.slice H.ac s.cells.length H.cc),y4 (s.a6:Nat)],.vec 3 1 0 (cI r.out),.vec 3 1 (cI own).length (cI own),.vech 3 1 (cI r.cS) (.slice H.ag r.cS.length H.cg),qJ H s,sj H s]
def Zl(p:Src)(z:List Int)(F:Nat)(c w:Int):GF prog 102 [.loc 0 0,y4 c,y4 w] [.box 64 [strs p.aq,.sl 2 (p.aj.map aW),.sl 3 (p.av.map aD),.sl 5 (p.ah.map aN),.v y6,ints z,y4 (F:Nat),y4 0,y4 0,y4 0,.v y6,y4 0,.v y6,.v y6,y4 0]] (y4 0)
  [.box 64 [strs p.aq,.sl 2 (p.aj.map aW),.sl 3 (p.av.map aD),.sl 5 (p.ah.map aN),.v y6,ints z,y4 (F:Nat),y4 c,y4 w,y4 0,.v y6,y4 0,.v y6,.v y6,y4 0]]:=by
 refine au func102 ntmps102 ?_;exact ay
def E1(R:Int):(if(20000:Int)<(if R<0 then 0 else R)then 20000 else(if R<0 then 0 else R))=((lB R:Nat):Int):=by
 grind[lB]
def Rq(p:Src)(m:cU p<=1048576)(hn:kF p)(k:eu p=false)(w:List Int)(R:Int):GF prog 37 [.agg (aB p),ints w,y4 R] [] (.loc 0 0)
  [.box 64 [strs p.aq,.sl 2 (p.aj.map aW),.sl 3 (p.av.map aD),.sl 5 (p.ah.map aN),.v y6,ints w,y4 (lB R:Nat),y4 4,y4 0,y4 0,.v y6,y4 0,.v y6,.v y6,y4 0]]:=by
 have H:=yM p m hn;rw[k]at H;have l:=Zl p w (lB R) 4 0;have j:=E1 R;refine dc func37 ntmps37 ?_;refine za2 ?_;refine GL.q (YG.max rfl rfl) ?_;refine bb ?_;refine GL.q (YG.min rfl rfl) ?_;rw[j];refine zad ?_;refine D [] H ?_;refine D [0] l ?_;refine nq ?_;exact qc (n:=1) rfl zfg rfl (bp _) rfl rfl ⟨rfl,rfl⟩
def iZ(p:Src):List (List Int):=p.aj.map fun a=>List.replicate a.size.toNat 0
def Hy{R β S:Type}(f:R->β->S)(l:List R)(m:List β)(a:R)(b:β)(h:l.length=m.length):List.zipWith f (l++[a]) (m++[b])=List.zipWith f l m++[f a b]:=by
 rw[List.zipWith_append h];rfl
def Uc(l:List (List Int))(m:List (Nat × Nat)):∀x∈List.zipWith tE l m,x.FH:=fun x hx=>by
 have⟨i,j⟩:=getElem?_of_mem hx;rw[List.getElem?_zipWith]at j
 cases o:l[i]? with
 |none=>grind
 |some a =>
  cases c:m[i]? with
  |none=>grind
  |some b =>
   rw[o,c]at j;cases j;simp[Ob.FH,tE]
def OG(p:Src)(hw:cU p<=1048576)(hn:kF p)(J:eu p=true){l:List T}(hg:Go.Im.Good p l)(d:List Int)(e:Int):GC prog 37 [.agg (aB p),ints d,y4 e] [] fun g Δ=>g=.loc 0 0/\∃(H:MH)(s:M),Δ=mR p (LF p l) (lB e) H s (ua (sT p l d (lB e))):=by
 have⟨⟨a1,a2⟩,⟨b1,b2⟩,⟨c1,c2⟩,⟨d1,d2⟩⟩:=gn p;have hG:=yM p hw hn;rw[J]at hG;have G:=E1 e
 have hF:lB e<=20000:=by omega
 generalize hFe:lB e=F at *;have hNL:=Eg p hw hg J;have aa3:=Vc hg;generalize hOe:LF p l=own at *;have vw:(p.aq.map fun s=>[GV.v (sv s)]).length=p.aq.length:=ct _;have S:(p.aj.map aW).length=p.aj.length:=ct _;have E:=AN p iI V;have e1:bN (fun x:Go.Sp.Fn=>x.name==iI) p.av=iN p iI:=rfl;rw[e1]at E;have⟨i,f,t,AW,w,wI⟩:=Dk J hg;rw[AW]at E;have hrb:qR p l i=uO p t f.params:=Pd w.gf w.gt;refine dc func37 ntmps37 ?_;refine za2 ?_;refine GL.q (YG.max rfl rfl) ?_;refine bb ?_;refine GL.q (YG.min rfl rfl) ?_;rw[G];refine zad ?_;refine D [] hG ?_;refine GL.wk (Wk.tV (i:=0) (o:=10) 3 1 rfl rfl) ?_;refine dA ?_;refine b6 [] hNL ?_;rintro _ _⟨ao,co,rfl,rfl⟩;refine zas ?_;refine GL.wk (Wk.o9 (i:=0) (o:=4) (j:=2) rfl rfl rfl rfl) ?_;refine dA ?_;refine GL.mkN (n:=(p.aq.map fun s=>[GV.v (sv s)]).length) rfl ⟨by omega,by omega⟩ ?_;intro Y Z;rw[vw,Ak];refine zb0 ?_;refine GW.wk (Wk.gz 29 1) ?_;simp only[List.cons_append,nil_append]
 refine GW.range (p.aj.map aW).length (fun k fr Γ=>∃(z:Option Addr)(A:Nat)(r:List (Nat × Nat)),r.length=k/\fr=U::U::U::.box (aB p) 0::U::U::U::.loc 0 0::zU 30 (.sl 2 (p.aj.map aW)::y4 ((p.aj.map aW).length:Int)::y4 (k:Nat)::zU 34 []) /\
  Γ=.box 64 [strs p.aq,.sl 2 (p.aj.map aW),.sl 3 (p.av.map aD),.sl 5 (p.ah.map aN),ints own,ints d,y4 (F:Nat),y4 0,y4 0,y4 0,.vec 1 0,y4 0,.v (.slice Y p.aq.length Z),.v (.slice z k A),y4 0]::.vec 3 1 0 []::.vec 3 1 (cI own).length (cI own)::.vech 3 1 (cI (List.replicate p.aq.length 0)) (.slice Y p.aq.length Z) ::
   .vech 29 1 (List.zipWith uB ((iZ p).take k) r) (.slice z k A)::List.zipWith tE ((iZ p).take k) r) ?_ V ?_ ?_ ?_
 ·exact⟨_,_,Wk.aZ az,none,0,[],rfl,rfl,rfl⟩
 ·rintro k _ _⟨z,A,r,-,rfl,rfl⟩;exact dO
 ·rintro k _ _ hk⟨z,A,r,N,rfl,rfl⟩;rw[S]at hk;have Fl:p.aj[k]?=some p.aj[k]:=cK hk;have sM:=B0 hg Fl;have hra:=vT Fl;obtain⟨m,hm⟩:∃m:Nat,(p.aj[k]).size=(m:Int):=⟨(p.aj[k]).size.toNat,by omega⟩;unfold aW at hra;rw[hm]at hra sM
  have NG:(iZ p).take (k+1)=(iZ p).take k++[List.replicate m 0]:=by
   grind[dd,dB,ik,iZ]
  have G:((iZ p).take k).length=r.length:=by
   grind[iZ]
  have XC:=fun b c=>Hy uB ((iZ p).take k) r (List.replicate m 0) (b,c) G
  have hz2:=fun b c=>Hy tE ((iZ p).take k) r (List.replicate m 0) (b,c) G
  have hzl:(List.zipWith uB ((iZ p).take k) r).length=k:=by grind
  generalize List.zipWith uB ((iZ p).take k) r=R at *;generalize List.zipWith tE ((iZ p).take k) r=X at *
  have xM:m<=2147483647:=by omega
  refine zaY ?_;refine zad ?_;refine aV (aL 0 7 (.a 7 (.a 8 (.a 9 (.q 10 (.q 11 (.a 12 .nil))))))) ?_;refine zc2 ?_;refine GL.abm (n:=m) rfl ⟨by omega,by omega⟩ ?_;intro b c;rw[Ak];refine cD ?_;refine zdP ?_;refine OA rfl rfl (GL.ml 4 (news:=[[.v (.slice (some ⟨b,0,none⟩) m c)]]) rfl rfl rfl aQ rfl rfl (by refine⟨?_,?_⟩;(· show _+1<=_;omega);(· show(_+1)*_<=_;omega)) ?_);intro ac2 cc2;refine zdy ?_;refine⟨rfl,rfl,_,_,Wk.aZ az,ac2,cc2,r++[(b,c)],by simp[N],rfl,?_⟩;rw[NG,XC,hz2];unfold uB tE Fm
  grind
 ·rintro _ _⟨z,A,r,N,rfl,rfl⟩;rw[S]at N |-;have NG:(iZ p).take p.aj.length=iZ p:=ln (by simp[iZ,Src.aj]);rw[NG];have aaS:(iZ p).length=p.aj.length:=ct _;refine bh ?_;refine GW.wk ((Wk.pack [.box 64 [strs p.aq,.sl 2 (p.aj.map aW),.sl 3 (p.av.map aD),.sl 5 (p.ah.map aN),ints own,ints d,y4 (F:Nat),y4 0,y4 0,y4 0,.vec 1 0,y4 0,.v (.slice Y p.aq.length Z),.v (.slice z p.aj.length A),y4 0],.vec 3 1 0 [],.vec 3 1 (cI own).length (cI own),.vech 3 1 (cI (List.replicate p.aq.length 0)) (.slice Y p.aq.length Z),.vech 29 1 (List.zipWith uB (iZ p) r) (.slice z p.aj.length A)] (List.zipWith tE (iZ p) r) rfl (bp _) (Uc _ _) rfl).trans (Wk.aZ (dh:=U::U::U::.box (aB p) 0::U::U::U::.loc 0 0::zU 67 []) az)) ?_;refine GW.wk (Wk.gz 3 1) ?_;simp only[List.cons_append,nil_append]
  let H:MH:=⟨Y,Z,z,A,r⟩
  have W:MW p l own F H:=⟨hw,J,hg,aa3,hF,N⟩
  let C:M:=⟨d,[],List.replicate p.aq.length 0,iZ p,0,0,0,0,[],false,0⟩
  have⟨v,Fo⟩:=J3 (O:=qP) (F:=F) (B:=qR p l) (qR p l i) (qW p d)
  have QT:LN qP F (qR p l) (qR p l i) (qW p d)=sT p l d F:=by unfold sT;grind
  rw[QT]at Fo;have Tc:nN p F (qW p d):=DS hg d F;have hmt:=Tc.ev Fo;have Jk:=EN.ev Fo;generalize sT p l d F=u at *
  have hdo:=fun al cl=>aap W (3*F+1) f.body.toNat t f.params (qW p d) v u (SM W w.gf w.gt).1 Tc rfl zff al cl
  have hC:Az p own F H i [] C (C.leave u) u.q5:=IG w.gf w.body zff (bp _) Jk.a6 hdo;have hC:=hC none 0;have hgz:C.cS.length=p.aq.length:=length_replicate;have hcz:C.cells.length=p.aj.length:=aaS;have Q:=AL p own F H (C.leave u) 1 0;unfold mC at hC
  have hbx:dE p own F H C=.box 64 [strs p.aq,.sl 2 (p.aj.map aW),.sl 3 (p.av.map aD),.sl 5 (p.ah.map aN),ints own,ints d,y4 (F:Nat),y4 0,y4 0,y4 0,.vec 1 0,y4 0,.v (.slice Y p.aq.length Z),.v (.slice z p.aj.length A),y4 0]:=by
   unfold dE;grind
  have hgo:rh H C=.vech 3 1 (cI (List.replicate p.aq.length 0)) (.slice Y p.aq.length Z):=by
   unfold rh;rw[hgz]
  have W5:qJ H C=.vech 29 1 (List.zipWith uB (iZ p) r) (.slice z p.aj.length A):=by
   unfold qJ;rw[hcz]
  rw[hbx,hgo,W5]at hC;unfold dE at hC Q
  cases hfin:(u.fin==0)with
  |true =>
   have hr:ua u=⟨1,0,u.q5,u.out,u.be,u.cS⟩:=by unfold ua;grind
   rw[hr];refine I ?_;refine D [] E ?_;refine D4 [0,1,3,4,5,6] hC ?_;rintro _ _⟨rfl,o,rfl⟩;refine zas ?_;refine D [0,1] Q ?_;exact zdj
  |false =>
   have hr:ua u=⟨u.fin,u.why,0,u.out,u.be,u.cS⟩:=by unfold ua;grind
   rw[hr];refine I ?_;refine D [] E ?_;refine D4 [0,1,3,4,5,6] hC ?_;rintro _ _⟨rfl,o,rfl⟩;refine zas ?_;exact zdj
def Mg(p:Src)(m:cU p<=1048576)(hn:kF p)(w:List Int)(R:Int):GF prog 9 [.agg (aB p),ints w,y4 R] [] (.agg (Gu (pV p w R))) []:=by
 cases k:eu p with
 |false =>
  have c:=Rq p m hn k w R
  have e:pV p w R=ET:=by grind[pV,ET]
  rw[e];refine dc func9 ntmps9 ?_;refine za2 ?_;refine D [] c ?_;exact zeJ
 |true =>
  have⟨l,X⟩:=rA k;have c:=OG p m hn k X w R;rw[sS X k];generalize ua (sT p l w (lB R))=r at *;refine dc func9 ntmps9 ?_;refine za2 ?_;refine b6 [] c ?_;rintro _ _⟨rfl,H,s,rfl⟩;unfold mR;refine zas ?_;have z:(cI r.out).length=r.out.length:=ct _;refine GW.wk (Wk.pd (i:=0) (o:=3) (j:=2) rfl rfl rfl rfl z) ?_;refine GW.wk (Wk.o9 (i:=0) (o:=5) (j:=4) rfl rfl rfl rfl) ?_;exact lJ
end Go.Xg
set_option maxHeartbeats 4000000
namespace Go.Xg
open Go.RowKit Go.Xw Go.Proofs Tryz Go.Im Go.Mn
attribute [local irreducible] GW GL GO YG GC GA bo bq
def E7:∀l:List Int,fG (fun x y=>x==y) l l=true
 |[]=>by simp[fG]
 |a::l=>by simp[fG,E7 l]
def V5(a:eZ){b:eZ}(ha:a.out.length<=1099511627776)(o:b.fin=a.fin)(c:b.why=a.why)(G:b.n=a.n)(C:b.out=a.out):GF prog 12 [.agg (Gu a),.agg (Gu b)] [] (.v (.bool true)) []:=by
 have j:=Il a.out a.out ha ha;rw[E7]at j;have w:(a.fin==a.fin)=true:=beq_self_eq_true _;have R:(a.why==a.why)=true:=beq_self_eq_true _;have q:(a.n==a.n)=true:=beq_self_eq_true _;unfold Gu;rw[o,c,G,C];refine au func12 ntmps12 ?_;refine D [] j ?_;exact ay
end Go.Xg
namespace Go.Im
open Go.Xp Go.Sp Go.Mn
structure mI(p:Src)(l:List T)(fr nw:ab):Prop where
 good:eu p=true
 gl:Good p l
 has:(bA p).contains fr=true
 main:fr≠iI
 no:(bA p).contains nw=false
 ok:bm nw=true
 rdy:dx nw=false
 loc:∀(i:Nat)f t,p.av[i]?=some f->l[i]?=some t->(f.params++bW t).contains nw=false
section
variable{p:Src}{l:List T}{fr nw:ab}
theorem DA{p:Src}{l:List T}(h:Good p l){s:ab}(G:(bA p).contains s=true):dx s=false:=by
 have j:s∈bA p:=by grind
 have⟨k,N⟩:=getElem?_of_mem j;have:=h.names;unfold ey at this;rw[any_eq_false]at this;have b:=this k (List.mem_range.2 (bY N).1)
 simp_all[lx,Bool.or_eq_true,not_or,Bool.not_eq_true]
theorem mI.word(h:mI p l fr nw):word fr=true:=h.gl.words (by simpa using h.has)
def mI.Pa(h:mI p l fr nw):zg p (de fr nw p l) fr nw:=Go.Im.Pa h.no (DA h.gl h.has) h.rdy h.word
theorem Vn(i:Nat):iq (de fr nw p l) i=iq p i:=by
 grind[lG,bd,dB,iq,de]
theorem RF(s:ab)(h:p.aq.contains s=true):(de fr nw p l).aq.contains (bd fr nw s)=true:=by
 grind[de]
def x8:bA (de fr nw p l)=(bA p).map (bd fr nw):=by
 unfold bA eE ia;rw[gJ,gJ,map_map,map_map];show(p.aq.map (bd fr nw)++(p.aj.map fun a=>nz a (bd fr nw a.name)).map _)++(p.av.map fun f=>lG f (bd fr nw f.name)).map _=_;rw[map_map,map_map];rfl
def Db:∀(c:List Ar)(z:Int),(c.map fun a=>nz a (bd fr nw a.name)).foldl (fun n a=>n+a.size) z=c.foldl (fun n a=>n+a.size) z
 |[],z=>rfl
 |a::c,z=>by rw[List.map_cons,foldl_cons,foldl_cons];exact Db c _
theorem RH:fD (de fr nw p l)=fD p:=by
 unfold fD ez;show((p.aj.map fun a=>nz a (bd fr nw a.name)).any _ ||((((decide ((p.av.map fun f=>lG f (bd fr nw f.name)).length>40) ||decide ((p.aq.map (bd fr nw)).length>29)) ||decide ((p.aj.map fun a=>nz a (bd fr nw a.name)).foldl _ 0>8000))) ||(p.av.map fun f=>lG f (bd fr nw f.name)).any _))=_;simp only[Db,ct,List.any_map];rfl
theorem RG(h:fr≠iI)(j:p.av.any kd=true):(de fr nw p l).av.any kd=true:=by
 have⟨f,m,b⟩:=mh.1 j;refine mh.2 ⟨lG f (bd fr nw f.name),mem_map_of_mem m,?_⟩;unfold kd at b |-;simp only[aI,beq_iff_eq]at b |-;refine⟨?_,b.2⟩;show bd fr nw f.name=iI
 grind[bd]
theorem Cn(h:Good p l)(hg:eu p=true):ey (bA p)=false/\fD p=false/\p.av.any kd=true/\(eU p p.av l 0).1=0:=by
 unfold eu at hg;rw[h.st.si]at hg;simp only[aI,decide_eq_true_eq]at hg
 grind[xj]
theorem mI.Lb(h:mI p l fr nw):eu (de fr nw p l)=true/\Good (de fr nw p l) (cq fr nw p.av l):=by
 have⟨q,M,w,G⟩:=Cn h.gl h.good;have r:=Bo h.gl.st h.word h.ok;have m:=Yr h.gl.st h.gl.test h.word h.ok
 have X:eu (de fr nw p l)=true:=by
  unfold eu;rw[m,r.si];simp only[Bool.true_and,decide_eq_true_eq];unfold xj;rw[ae (by rw[x8,OJ q h.no h.rdy];decide),ae (by grind[RH]),ae (by rw[RG h.main w];decide)];exact I3 h.Pa Vn RF p.av l 0 G h.loc
 refine⟨X,?_⟩;have⟨z,b⟩:=rA X;rw[r.uniq b.st];exact b
theorem AJ{a b:List ab}{s:ab}(h:(a++b).contains s=false):a.contains s=false/\b.contains s=false:=by
 grind
theorem mI.body(h:mI p l fr nw):qR (de fr nw p l) (cq fr nw p.av l)=qR p l:=by
 funext i
 unfold qR;show(match(p.av.map fun f=>lG f (bd fr nw f.name))[i]?,(cq fr nw p.av l)[i]? with|some g,some t=>uO (de fr nw p l) t g.params|_,_=>.num 0)=_;rw[dB];have c:=h.gl.len
 cases m:p.av[i]? with
 |none=>rfl
 |some f =>
  have C:=(bY m).1;have M:l[i]?=some (l[i]'zfh):=cK zfh;generalize l[i]'zfh=t at M;rw[tX fr nw m M,M];have⟨a1,F,A,b,r⟩:=h.gl.at_ i f t m M;have⟨q,N⟩:=AJ (h.loc i f t m M);exact Pe h.Pa t f.params a1 (h.gl.sg M) q N
def mI.abl(h:mI p l fr nw)(v:List Int)(R:Int):pV (de fr nw p l) v R=pV p v R:=by
 have⟨J,b⟩:=h.Lb;have⟨i,f,t,j,q,S⟩:=Dk h.good h.gl
 have w:iN (de fr nw p l) iI=iN p iI:=by
  have:=h.Pa.fn iI zfh
  rwa[show bd fr nw iI=iI by unfold bd;rw[ae (by simp;exact fun e=>h.main e.symm)]]at this
 have T:qW (de fr nw p l) v=qW p v:=by
  simp[bd,nz,ct,map_map,qW,de]
 rw[sS h.gl h.good,sS b J];unfold sT;rw[h.body,w,T]
end
section
variable{p:Src}{l:List T}{fr nw:ab}
theorem DC{n:Nd}{ls:List ab}(h:n.ai=13\/n.s≠nw)(M:ls.contains nw=false):dK nw fr (dK fr nw n ls) ls=n:=by
 by_cases W:n.ai=13
 ·grind[ti]
 ·have G:n.s≠nw:=h.resolve_left W
  by_cases X:jS fr n ls=true
  ·have m:n.s=fr:=by grind[jS]
   have e:dK fr nw n ls=⟨n.ai,n.at_,n.n,nw,n.aw⟩:=by unfold dK;grind
   rw[e];unfold dK jS;rw[ak zff];rw[<-m]
  ·have e:dK fr nw n ls=n:=by grind[dK]
   grind[CF]
theorem U5(hn:(bA p).contains nw=false):p.aq.contains nw=false:=by
 grind[bA,mem_append_left]
theorem OO(hn:(bA p).contains nw=false):fo p nw<0:=by
 by_cases h:fo p nw<0
 ·exact h
 ·exfalso;obtain⟨x,hx,e⟩:=xI (show 0<=bN (fun x:Ar=>x.name==nw) p.aj by grind[fo]);simp only[beq_iff_eq]at e
  have:nw∈bA p:=by rw[<-e];exact mem_append_left _ (mem_append_right _ (mem_map_of_mem hx))
  grind
theorem U6(hn:(bA p).contains nw=false)(hr:dx nw=false):gD p nw = -1:=by
 have⟨a1,F,A⟩:=sy hr;unfold gD;rw[ae F,ae zff]
 cases J:p.av.findIdx? (fun f:Go.Sp.Fn=>f.name==nw)with
 |none=>rfl
 |some i =>
  exfalso;have⟨o,b,_⟩:=List.findIdx?_eq_some_iff_getElem.1 J;rw[beq_iff_eq]at b
  have:nw∈bA p:=by rw[<-b];exact mem_append_right _ (mem_map_of_mem (List.getElem_mem o))
  grind
theorem QH(hn:(bA p).contains nw=false)(hr:dx nw=false)(hw:word nw=true){n:Nd}{l:List T}{ls:List ab}(M:ls.contains nw=false)(A:bG p (.mk n l) ls=0)
  (H:n.ai=2\/n.ai=3\/n.ai=4\/n.ai=7\/n.ai=8\/n.ai=13\/word n.s=false):n.ai=13\/n.s≠nw:=by
 by_cases W:n.ai=13
 ·omega
 refine .inr fun e=>?_
 unfold bG at A;simp only[show(T.mk n l).n=n from rfl]at A;rw[ae W]at A
 by_cases b:n.ai=2\/n.ai=7
 ·grind[U5]
 rw[ae b]at A
 by_cases G:n.ai=3\/n.ai=8
 ·simp_all[ak,OO]
 rw[ae G]at A
 by_cases C:n.ai=4
 ·rw[ak C]at A;unfold dv at A
  have m:¬bU (.mk n l)=true:=by
   unfold bU;simp only[show(T.mk n l).n=n from rfl,aI,beq_iff_eq]
   grind[sy]
  rw[ae m]at A;simp only[show(T.mk n l).n=n from rfl]at A
  simp_all[U6,ak]
 grind
variable(hn:(bA p).contains nw=false)(hr:dx nw=false)(hw:word nw=true)
include hn hr hw
mutual
def Mv:∀(t:T)(ls:List ab),ri p t ls->ky t->gh t->ls.contains nw=false->(bW t).contains nw=false->di nw fr (di fr nw t ls) ls=t
 |.mk n l,ls,A,G,q,o,b=>by
  rw[ri]at A;rw[ky]at G;have r:=q;rw[gh]at q
  have w:(bC l).contains nw=false:=by
   grind[bW,AJ]
  rw[di,di,DC (QH hn hr hw o A.1 G.1) o]
  congr 1
  by_cases z:bU (.mk n l)=true
  ·have C:=z;unfold bU at C;simp only[aI,beq_iff_eq]at C;obtain⟨k,E,S,m,j,X,-⟩:=CM r A.1 C.1.1 C.1.2;have⟨B,u⟩:=k;have E:l=[.mk B u]:=E;have m:u=[]:=m;subst m;subst E
   have v:B.s≠nw:=fun e=>by
    have j:0<=fo p B.s:=j;rw[e]at j;have:=OO hn;omega
   grind[di,DC,bE]
  ·exact Ix l ls (A.2 zff) G.2 q.2.2 o w
def Ix:∀(l:List T)(ls:List ab),pB p l ls->eQ l->eK l->ls.contains nw=false->(bC l).contains nw=false->bE nw fr (bE fr nw l ls) ls=l
 |[],ls,_,_,_,_,_=>by rfl
 |t::r,ls,A,G,m,o,b=>by
  rw[pB]at A;rw[eQ]at G;rw[eK]at m;rw[bC]at b;have⟨q,M⟩:=AJ b
  have e:(ls++bW t).contains nw=false:=by
   grind
  rw[bE,bE,Mv t ls A.1 G.1 m.1 o q,Aj,Ix r _ A.2 G.2 m.2 e M]
end
end
section
variable{p:Src}{l:List T}{fr nw:ab}
theorem yi{s:ab}(h:s≠nw):bd nw fr (bd fr nw s)=s:=by
 grind[bd]
theorem mI.ne(h:mI p l fr nw){s:ab}(G:s∈bA p):s≠nw:=fun e=>by
 have:=h.no
 grind
theorem mI.wnw(h:mI p l fr nw):Go.Sp.word nw=true:=by
 have:=h.ok
 simp_all[bm,aI]
def Mu(h:mI p l fr nw):∀(v:List Go.Sp.Fn)(ts:List T),(∀(i:Nat)f t,v[i]?=some f->ts[i]?=some t->∃j:Nat,p.av[j]?=some f/\l[j]?=some t)->cq nw fr (v.map fun f=>lG f (bd fr nw f.name)) (cq fr nw v ts)=ts
 |[],ts,_=>by rfl
 |f::v,[],_=>rfl
 |f::v,t::ts,N=>by
  have⟨j,m,M⟩:=N 0 f t rfl rfl;have⟨a1,F,A,b,r⟩:=h.gl.at_ j f t m M;have⟨q,O⟩:=AJ (h.loc j f t m M);rw[cq,List.map_cons,cq,show(lG f (bd fr nw f.name)).params=f.params from rfl,Mv h.no h.rdy h.wnw t f.params a1 (h.gl.sg M) F q O,Mu h v ts fun i Z k o c=>N (i+1) Z k zff zff]
def mI.back(h:mI p l fr nw):de nw fr (de fr nw p l) (cq fr nw p.av l)=p:=by
 have w:(p.aq.map (bd fr nw)).map (bd nw fr)=p.aq:=by
  rw[map_map];exact(List.map_congr_left fun s G=>yi (h.ne (mem_append_left _ (mem_append_left _ G)))).trans (map_id _)
 have R:(p.aj.map fun a=>nz a (bd fr nw a.name)).map (fun a=>nz a (bd nw fr a.name))=p.aj:=by
  rw[map_map];refine(List.map_congr_left fun a v=>?_).trans (map_id _);show nz _ (bd nw fr (bd fr nw a.name))=id a;rw[yi (h.ne (mem_append_left _ (mem_append_right _ (mem_map_of_mem v))))];rfl
 have q:(p.av.map fun f=>lG f (bd fr nw f.name)).map (fun f=>lG f (bd nw fr f.name))=p.av:=by
  rw[map_map];refine(List.map_congr_left fun a v=>?_).trans (map_id _);show lG _ (bd nw fr (bd fr nw a.name))=id a;rw[yi (h.ne (mem_append_right _ (mem_map_of_mem v)))];rfl
 have E:=Mu h p.av l fun i f t o b=>⟨i,o,b⟩
 show Src.mk ((p.aq.map (bd fr nw)).map (bd nw fr)) ((p.aj.map fun a=>nz a (bd fr nw a.name)).map fun a=>nz a (bd nw fr a.name)) ((p.av.map fun f=>lG f (bd fr nw f.name)).map fun f=>lG f (bd nw fr f.name)) (bZ 0 (cq nw fr (p.av.map fun f=>lG f (bd fr nw f.name)) (cq fr nw p.av l)))=p;rw[w,R,q,E,<-yI h.gl]
theorem mI.ret(h:mI p l fr nw):(renameI (de fr nw p l) nw fr).2=4\/renameI (de fr nw p l) nw fr=(p,0):=by
 have⟨J,c⟩:=h.Lb
 have C:fr∈bA p:=by simpa using h.has
 have E:bm fr=true:=by
  have hm:=C;unfold bA at hm
  rcases oO hm with hm|hm
  ·rcases oO hm with hm|hm
   ·exact ea.1 (show p.aq.all bm=true from h.gl.st.aq) fr hm
   ·obtain⟨a,v,rfl⟩:=ra.1 hm;have:=ea.1 h.gl.st.aj a v
    simp_all[kc,aI]
  ·obtain⟨f,m,rfl⟩:=ra.1 hm;have⟨i,j⟩:=getElem?_of_mem m;have F:=(bY j).1;have d:=h.gl.len;exact((en.at_ h.gl.st.av i f (l[i]'zfh) j (cK zfh)).2).name
 have A:nw≠wX:=fun e=>by
  have⟨q,M,w,G⟩:=Cn h.gl h.good;have⟨f,m,b⟩:=mh.1 w;unfold kd at b;simp only[aI,beq_iff_eq]at b;refine h.ne (mem_append_right _ (mem_map_of_mem m)) ?_;rw[b.1,e];rfl
 have o:(bA (de fr nw p l)).contains nw=true:=by
  rw[x8,List.contains_eq_mem]
  grind[bd]
 have b:(bA (de fr nw p l)).contains fr=false:=by
  rw[x8,List.contains_eq_mem]
  refine decide_eq_false fun hm=>?_
  have⟨s,H,e⟩:=ra.1 hm;unfold bd at e
  by_cases r:s=fr
  ·rw[ak (by simp[r])]at e;exact h.ne C e.symm
  grind
 unfold renameI;rw[ak (by rw[J,E,DA h.gl h.has];rfl),c.st.si];simp only;rw[ae zff,ae zff]
 by_cases W:mU (mT (de fr nw p l) (cq fr nw p.av l)) fr=true
 ·grind
 ·rw[ae W,h.back];simp
theorem LL{p:Src}{fr nw:ab}(h:(renameI p fr nw).2=0):∃l,mI p l fr nw/\(renameI p fr nw).1=de fr nw p l:=by
 unfold renameI at h |-
 by_cases o:((eu p&&bm nw)&&!dx nw)=true
 ·rw[ak o]at h |-;simp only[aI,Bool.not_eq_true']at o;have⟨l,X⟩:=rA o.1.1;rw[X.st.si]at h |-;simp only at h |-
  by_cases b:((!(bA p).contains fr) ||fr==wX)=true
  ·grind
  ·rw[ae b]at h |-
   by_cases G:(bA p).contains nw=true
   ·grind
   ·rw[ae G]at h |-
    by_cases C:mU (mT p l) nw=true
    ·grind
    ·rw[ae C];simp only[Bool.or_eq_true,not_or,Bool.not_eq_true,Bool.not_eq_false',beq_eq_false_iff_ne]at b;refine⟨l,⟨o.1.1,X,b.1,b.2,by grind,o.1.2,o.2,fun i f t m M=>?_⟩,rfl⟩
     cases hx:(f.params++bW t).contains nw with
     |false=>rfl
     |true=>exact absurd (wW (xU m M) hx) C
 grind
end
theorem fp{s:ab}(h:bm s=true):s.length<=12:=by
 simp_all[bm,aI]
def RV{s:ab}(h:eD s=true):s.length<=12:=by
 have R:∀l∈levels,∀x∈l,x.length<=12:=by decide
 grind[eD,mh]
def OZ{n:Nd}{k:Nat}{l:Nat->Bool}{o:Bool}(h:own n k l o=true):n.s.length<=12/\0<=n.n/\n.n<=2147483647:=by
 unfold own at h
 have Z:n.s=[]->n.s.length<=12:=fun e=>by grind
 by_cases c:decide (n.at_<0)=true
 ·grind
 rw[ae c]at h
 by_cases q:(n.ai != 1&&n.n != 0)=true
 ·grind
 rw[ae q]at h
 have m:n.ai≠1->n.n=0:=fun e=>by
  grind
 by_cases R:(n.ai==1)=true
 ·grind
 rw[ae R]at h;have m:=m zff;refine⟨?_,by omega,by omega⟩
 by_cases O:(n.ai==2)=true
 ·exact zc8
 rw[ae O]at h
 by_cases S:(n.ai==3 ||n.ai==7 ||n.ai==13)=true
 ·exact zc8
 rw[ae S]at h
 by_cases v:(n.ai==4)=true
 ·exact zc8
 rw[ae v]at h
 by_cases d:(n.ai==5)=true
 ·rw[ak d]at h
  grind
 rw[ae d]at h
 by_cases N:(n.ai==6)=true
 ·simp_all[ak,RV,Bool.and_eq_true_iff]
 rw[ae N]at h
 by_cases r:(n.ai==8)=true
 ·exact zc8
 grind
def D3(n:Nd):Nat:=n.s.length+n.aw.length+1
mutual
def QJ:∀(t:T)(a:Nat),dC t=true->b9 D3 (dW a t)+1<=14*aU t/\∀n∈dW a t,0<=n.n/\n.n<=2147483647
 |.mk n l,a,h=>by
  rw[dC,aI]at h;have⟨H,R⟩:=xJ l (a+1) h.1;have⟨w,M⟩:=OZ h.2;have w:n.s.length<=12:=w;have N:(bx (a+1) l).length=l.length:=dw _ _;rw[dW,aU];refine⟨?_,fun m hm=>?_⟩
  ·rw[b9];show n.s.length+(bx (a+1) l).length+1+_+1<=_;omega
  ·rcases iY hm with rfl|hm
   ·exact M
   grind
def xJ:∀(l:List T)(a:Nat),c9 l=true->b9 D3 (bZ a l)+l.length<=14*aM l/\∀n∈bZ a l,0<=n.n/\n.n<=2147483647
 |[],a,_=>by rw[bZ];simp[b9,D3,aM,Nd.n]
 |t::r,a,h=>by
  rw[c9,aI]at h;have⟨H,R⟩:=QJ t a h.1;have⟨d,u⟩:=xJ r (a+aU t) h.2;rw[bZ,aM]
  grind[qk,length_cons]
end
def yh{R:Type}{f:R->Nat}{c:Nat}:∀{l:List R},(∀x∈l,f x<=c)->b9 f l<=c*l.length
 |[],_=>by simp[b9]
 |a::l,h=>by
  have o:=h a mem_cons_self
  have b:=yh (l:=l) fun x hx=>h x (ec _ hx)
  rw[b9,length_cons,Nat.mul_add];omega
def AH:∀(l:List Ar)(z:Int),(∀a∈l,1<=a.size)->z+(l.length:Int)<=l.foldl (fun n a=>n+a.size) z
 |[],z,_=>by simp
 |a::l,z,h=>by
  rw[foldl_cons,length_cons];have o:=h a mem_cons_self
  have b:=AH l (z+a.size) fun x hx=>h x (ec _ hx)
  omega
def Le{p:Src}{l:List T}(h:Good p l)(hg:eu p=true):cU p<=1048576/\kF p:=by
 have⟨W,q,X,Y⟩:=Cn h hg;have b:=h.st
 have d:c9 l=true:=by
  have:∀(o:List T),(∀t∈o,dC t=true)->c9 o=true:=by
   intro o
   induction o with
   |nil=>intro _;rfl
   |cons t r ih=>grind[dC,c9]
  refine this l fun t H=>?_
  have⟨i,e⟩:=getElem?_of_mem H;have u:=(bY e).1;have j:=h.len;exact((en.at_ b.av i (p.av[i]'zfh) t (cK zfh) e).2).all
 have⟨J,M⟩:=xJ l 0 d;have v:=yI h;rw[<-v]at J M;have A:=b.few;have j:=b.len;unfold fD at q;simp only[Bool.or_eq_false_iff,decide_eq_false_iff_not,any_eq_false]at q;have⟨B,⟨⟨Z,d3⟩,C⟩,d5⟩:=q
 have z:∀a∈p.aj,1<=a.size:=fun a c=>by
  have h1:=B a c;have m:=ea.1 b.aj a c;unfold kc at m
  grind
 have E:=AH p.aj 0 z;unfold ez at C
 have a1:wS p.aq<=13*p.aq.length:=yh fun s w=>by have:=fp (ea.1 (show p.aq.all bm=true from b.aq) s w);omega
 have N:b9 (fun a:Ar=>a.name.length+1) p.aj<=13*p.aj.length:=yh fun a c=>by
  have m:=ea.1 b.aj a c
  simp_all[kc,aI,fp]
 have O:b9 (fun f:Go.Sp.Fn=>f.name.length+wS f.params+1) p.av<=600*p.av.length:=yh fun f F=>by
  have⟨i,e⟩:=getElem?_of_mem F;have u:=(bY e).1;have G:=h.len;have k:=(en.at_ b.av i f (l[i]'zfh) e (cK zfh)).2;have R:=fp k.name
  have S:wS f.params<=13*f.params.length:=yh fun s w=>by have:=fp (ea.1 (show f.params.all bm=true from k.params) s w);omega
  grind
 refine⟨?_,⟨fun a c=>?_,fun n hn=>by grind⟩⟩
 ·have Q:b9 (fun n:Nd=>n.s.length+n.aw.length+1) p.ah<=14*aM l:=by show b9 D3 p.ah<=_;omega
  grind[cU]
 ·have m:=ea.1 b.aj a c;unfold kc at m
  grind
def LK{p:Src}{fr nw:ab}(h:(renameI p fr nw).2≠0):(renameI p fr nw).1=fH:=by
 grind[renameI,fH]
end Go.Im
set_option maxHeartbeats 1000000
namespace Go.Xg
open Go.RowKit Go.Xw Go.Proofs Tryz Go.Im
open Go.Xp (T cE aU aM)
open Go.Sp (Src)
attribute [local irreducible] GW GL GO YG GC GA bo bq
def WI:∀(N:Nat)(t:T),aU t<=N->iG t=true->qi t->jc t<=1099511627776->GF prog 140 [uT t] [] (.v (sv (gw t))) []:=by
 intro N
 induction N with
 |zero=>intro t h;exact zed
 |succ N ih =>
 intro t Y R A hw;have c:=Go.Im.vq _ t (aY _) A;rw[Go.Xp.eI]at Y;rw[Go.Im.vD,aI,Go.Im.qd,ea]at R;rw[Go.Im.mY]at A
 have d:∀a∈t.aw,GF prog 140 [uT a] [] (.v (sv (gw a))) []/\(gw a).length<=1099511627776:=fun a j=>by
  have o:=Go.Im.rS j;rw[Go.Im.kZ]at hw;have C:=Go.Im.gx A.2 j
  have J:aU a<=aM t.aw:=by
   have:∀(l:List T),a∈l->aU a<=aM l:=by
    intro l
    induction l with
    |nil=>simp
    |cons b l B =>
     grind[aU,aM]
   grind
  grind[Go.Im.vq]
 rw[Go.Im.Nj]at c |-;unfold AP at c |-;have z:=R.1;have u:=@Tr t z;have w:=@Ts t z;have F:=EH t.n.n A.1.1 A.1.2
 have E:t.aw.length<=1099511627776:=by
  grind[Go.Im.FW,Go.Im.kZ]
 have e:=fun Z=>F0 140 gw t.aw (fun a j=>(d a j).1) Z E
 rw[<-Go.Im.Cm]at e
 have hsl:t.n.s.length<=1099511627776:=by grind[Go.Im.kZ]
 have r:(cE (lq t.aw)).length<=1099511627776:=by
  have o:=Go.Im.rC (lq t.aw)
  have J:((lq t.aw).map fun y=>y.length+2).sum<=gM t.aw:=by
   have:∀(l:List T),pX l->((lq l).map fun y=>y.length+2).sum<=gM l:=by
    intro l
    induction l with
    |nil=>grind[lq]
    |cons a l B =>
     intro h;rw[pX]at h;have o:=Go.Im.vq _ a (aY _) h.1;have J:=B h.2;rw[lq,gM,List.map_cons,List.sum_cons];omega
   grind
  grind[Go.Im.kZ]
 have e:=e r;clear r;unfold uT;generalize Tb:t.n.ai=k at *
 by_cases o:k=1
 ·subst o
  have cL:((1:Int)==1)=true:=by decide
  rw[ak rfl];refine au func140 ntmps140 ?_;refine D [] F ?_;exact ay
 rw[ae o]at c |-
 have g1:(k==1)=false:=by grind
 by_cases C:k=3
 ·subst C
  have cL:((3:Int)==1)=false:=by decide
  have nE:((3:Int)==3)=true:=by decide
  rw[ak rfl]at c |-;have⟨a,j⟩:=u (.inl rfl);rw[j]at d c |-;have⟨m,G⟩:=d a (List.mem_singleton.2 rfl)
  have S:(cW [a])[0]?=some [uT a]:=by rw[jU];rfl
  simp only[lq,List.getD_cons_zero]at c |-;generalize cW [a]=i at *;generalize gw a=x at *;exact zcp
 rw[ae C]at c |-
 have g3:(k==3)=false:=by grind
 by_cases M:k=4
 ·subst M
  have cL:((4:Int)==1)=false:=by decide
  have nE:((4:Int)==3)=false:=by decide
  have H:((4:Int)==4)=true:=by decide
  rw[ak rfl]at c |-;generalize cW t.aw=i at *;generalize cE (lq t.aw)=x at *;simp only[br,length_cons,length_nil]at c;refine au func140 ntmps140 ?_;exact zdn
 rw[ae M]at c |-
 have g4:(k==4)=false:=by grind
 by_cases O:k=5
 ·subst O
  have cL:((5:Int)==1)=false:=by decide
  have nE:((5:Int)==3)=false:=by decide
  have H:((5:Int)==4)=false:=by decide
  have X:((5:Int)==5)=true:=by decide
  rw[ak rfl]at c |-;have⟨a,j⟩:=u (.inr rfl);rw[j]at d c |-;have⟨m,G⟩:=d a (List.mem_singleton.2 rfl)
  have S:(cW [a])[0]?=some [uT a]:=by rw[jU];rfl
  simp only[lq,List.getD_cons_zero]at c |-;generalize cW [a]=i at *;generalize gw a=x at *;simp only[br,length_cons,length_nil]at c;exact zcp
 rw[ae O]at c |-
 have g5:(k==5)=false:=by grind
 by_cases Q:k=6
 ·subst Q
  have cL:((6:Int)==1)=false:=by decide
  have nE:((6:Int)==3)=false:=by decide
  have H:((6:Int)==4)=false:=by decide
  have X:((6:Int)==5)=false:=by decide
  have f6:((6:Int)==6)=true:=by decide
  rw[ak rfl]at c |-;have⟨a,b,j⟩:=w rfl;rw[j]at d c |-;have⟨m,G⟩:=d a (mem_cons_self);have⟨W,d2⟩:=d b (ec _ mem_cons_self)
  have S:(cW [a,b])[0]?=some [uT a]:=by rw[jU];rfl
  have Tg:(cW [a,b])[1]?=some [uT b]:=by rw[jU];rfl
  simp only[lq,List.getD_cons_zero,List.getD_cons_succ]at c |-;generalize cW [a,b]=i at *;generalize gw a=x at *;generalize gw b=y at *;simp only[br,length_cons,length_nil]at c;refine au func140 ntmps140 ?_;refine aV (aL 0 6 (aL 9 5 (aL 16 6 (.a 6 (.q 7 (.q 8 (.q 14 (.q 15 (.a 22 (aL 23 3 .nil)))))))))) ?_;refine ax ?_;refine aP [] m ?_;refine aP [] W ?_;exact aK
 rw[ae Q]
 have g6:(k==6)=false:=by grind
 refine au func140 ntmps140 ?_;exact ay
def VY:Wr 140 127 gw ef :=
 ⟨fun a o b G=>WI _ a (aY _) o b G,fun l d o b G=>FD l d o b,fun l d s h=>FE h⟩
theorem AD(p:Src)(O:GF prog 64 [.agg (aB p)] [] (.v (.bool false)) []):GF prog 69 [.agg (aB p)] [] (.v (sv [])) []:=by
 refine au func69 ntmps69 ?_;exact ze2
def zK(p:Src)(l:List T)(x:ab)(O:GF prog 64 [.agg (aB p)] [] (.v (.bool true)) [])(N:GF prog 74 [.agg (aB p)] [] (.tup [.sl 1 (cW l),.v (.bool true)]) [])
  (q:GF prog 125 [.agg (aB p),.sl 1 (cW l),.v (jH 140),.v (jH 127)] [] (.v (sv x)) []) :
  GF prog 69 [.agg (aB p)] [] (.v (sv x)) []:=by
 refine au func69 ntmps69 ?_;refine D [] O ?_;refine D [] N ?_;refine D [] q ?_;exact ay
def D8(p:Src)(o:cU p<=1048576)(hn:kF p):GF prog 69 [.agg (aB p)] [] (.v (sv (Bn p))) []:=by
 have O:=uo p o hn
 cases m:fI p with
 |false=>grind[Yl,AD]
 |true =>
  rw[m]at O;have⟨l,G⟩:=om m;have⟨u,j⟩:=G.uy;have c:=JQ hn o;rw[JR m G j,<-A9 j]at c |-;have⟨⟨B,z⟩,⟨A,w⟩,⟨F,C⟩,⟨E,d⟩⟩:=gn p;have N:=tG p V (fun n h=>by grind) V;rw[G.si]at N;unfold zO at N;simp only at N;rw[show((p.ah.length:Int)==(p.ah.length:Int))=true by simp]at N;have s:=G.len;have b:=G.st;have r:=Au b s;have q:=en.len G.av;have Y:=dn.num hn.ah l 0 b;have Q:=G.k
  refine zK p l _ O N (FN 140 127 gw ef VY p l V V V V V hn.aj (fun f h=>by grind)
   (fun t M=>⟨ea.1 Q t M,gx Y M,by grind,by grind⟩))
def BS(a b:Src)(x y:ab)(hx:x.length<=1099511627776)(B:y.length<=1099511627776)(o:GF prog 69 [.agg (aB a)] [] (.v (sv x)) [])(c:GF prog 69 [.agg (aB b)] [] (.v (sv y)) [])
  (G:GF prog 64 [.agg (aB a)] [] (.v (.bool true)) [])(C:GF prog 64 [.agg (aB b)] [] (.v (.bool true)) []):GF prog 17 [.agg (aB a),.agg (aB b)] [] (.v (.bool (x==y))) []:=by
 refine au func17 ntmps17 ?_;refine D [] o ?_;refine D [] G ?_;refine D [] C ?_;exact ze1
end Go.Xg
set_option maxHeartbeats 4000000
namespace Go.Xg
open Go.RowKit Go.Xw Go.Proofs Tryz Go.Sp Go.Im
def RA{K:Fz}{β:Bt}{v a b c d x:Value}(h:Rel K β v (.tup [.agg [.v a,.v b,.v c,.v d],.v x])):v=.tuple #[.agg #[a,b,c,d],x]:=by
 cases h with
 |tup l O M h =>
  match l,M with
  |[X,v1],_ =>
   have o:=EP (h 0 _ _ rfl rfl);have q:=(h 1 _ _ rfl rfl).eW
   grind
def RB{K:Fz}(β:Bt){hg ha hf hn x:Value}{p:Src}(e:bF K (fun _=>Bk.no) [hg,ha,hf,hn] (aB p)):Rel K β (.tuple #[.agg #[hg,ha,hf,hn],x]) (.tup [.agg (aB p),.v x]):=by
 have W:bF K β [.agg #[hg,ha,hf,hn],x] [.agg (aB p),.v x]:=.cons (Ua β e) (.cons (.v _) .nil);exact .tup [.agg #[hg,ha,hf,hn],x] _ W.1 W.2
def GC.J5{P:Program}{f:FuncId}{args:am}{q:Src}{c:Int}(h:GC P f args [] (wm q c)):GF P f args [] (.tup [.agg (aB q),y4 c]) []:=fun B K r w m k j Q =>
 (h B K r w m k j Q).mono fun v b ⟨S,u,g,A,F,z,X,E,t,d,C,G,H,J,o⟩=>by
  subst J;subst o;obtain⟨O,Z,T,R,e,_⟩:=YA (s:=0) H (fun i x hx=>by grind) F;have l:=RA z;subst l;refine⟨O,_,.tup [.agg (aB q),y4 c],[],R.cut (n:=0) zff rfl,?_,rfl,rfl⟩;exact RB _ e
attribute [local irreducible] GW GL GO YG GC GA bo bq p9 uk qD
def Oq(code:ab)(M:code.length<=1099511627776)(c:dk)(W:c.i<=code.length) :
  GC prog 43 [.loc 0 0] [fi code c] (V7 code):=by
 have⟨k,q,o,H,d⟩:=nV M W 12 V;refine au func43 ntmps43 ?_;refine zac ?_;refine D [0] o ?_;refine GL.yU 1000 rfl rfl zfw (by show k<12;omega) rfl ?_;intro s G;exact zc0
def DrN(g:GV)(k:ap):Prop:=k=[]/\∃(p:Src)(s t:ab),cU p<=1048576/\kF p/\s.length<=1000/\t.length<=1000/\g=.tup [.agg (aB p),.v (sv s),.v (sv t)]
def EB(code:ab)(M:code.length<=1099511627776):GC prog 13 [.sl 1 (dy code)] [] DrN:=by
 refine au func13 ntmps13 ?_;refine b6 [] (Q1 code M) ?_;rintro _ _⟨h,rfl,rfl⟩;refine zas ?_;refine b6 [1] (HY code M ⟨0,h⟩ (bp _)) ?_;rintro _ _⟨q,p,J,l,c,rfl,rfl⟩;refine ch ?_
 have l:cU p<=1048576:=by omega
 refine I ?_;refine b6 [1] (Oq code M q J) ?_;rintro _ _⟨s,O,R,H,rfl,rfl⟩;refine zas ?_;have⟨k,w,G,d,e⟩:=nV M R 8 V;refine zac ?_;refine D [1] G ?_;refine GL.yU 1000 rfl rfl zfw (by show k<8;omega) rfl ?_;intro t N;refine zad ?_;refine me ?_;exact⟨rfl,p,s,t,l,c,H,N,rfl⟩
end Go.Xg
namespace Go.Im
open Go.Xp Go.Sp Go.Mn
section
variable{p:Src}{names:List ab}{n:Nd}{l:List T}{ls:List ab}
end
section
variable{names:List ab}{n:Nd}{ls:List ab}
end
def Vo{t:M}:(ua t).out=t.out/\(ua t).be=t.be:=by unfold ua;grind
def Rr(p:Src)(w:List Int)(R:Int):(pV p w R).out.length<=20000:=by
 cases j:eu p with
 |false=>unfold pV;rw[ae zff];grind[ET]
 |true =>
  have⟨l,M⟩:=rA j;rw[sS M j,Vo.1];have⟨v,o⟩:=J3 (O:=qP) (F:=lB R) (B:=qR p l) (qR p l (iN p iI).toNat) (qW p w);have b:=(DS M w (lB R)).ev o;have G:=b.out;have C:=b.be
  have e:lB R<=20000:=by grind[lB]
  grind[sT]
end Go.Im
namespace Go.Xg
open Go.RowKit Go.Xw Go.Proofs Go.Im Go.Mn
open Go.Xp (Nd T)
open Go.Sp (Src)
attribute [local irreducible] GW GL GO YG GC GA bo bq
section
variable{p:Src}{l0:List T}{F:Nat}{H:MH}{al:Option Addr}{cl:Nat}
end
end Go.Xg
namespace Go.Xg
open Go.RowKit Go.Xw Go.Proofs Tryz Go.Sp Go.Im
open Go.Xp (aM)
attribute [local irreducible] GW GL GO YG GC GA bo bq
def P9(p:Src)(q:cU p<=1048576)(hn:kF p):∃c z,GF prog 16 [.agg (aB p)] [] (.tup [y4 c,y4 z]) []/\(c==0)=eu p:=by
 have⟨⟨a1,F⟩,⟨r,s⟩,⟨u,R⟩,⟨E,W⟩⟩:=gn p;have O:=uo p q hn
 cases m:fI p with
 |false =>
  rw[m]at O;exact⟨_,_,C7 p O,by rw[zY m];rfl⟩
 |true =>
  rw[m]at O;have⟨l,M⟩:=om m;have d:=en.len M.av;have k:=sU p;have N:=xv M
  have X:=AA p l (bA p) V d V O (wo p q) (D1 p V V fun a A=>⟨(N a A).1,by have:=(N a A).2;omega⟩) fun i f t o b=>by
   have⟨w,_⟩:=en.at_ M.av i f t o b;have Q:=dn.ix l 0 i _ M.st b;rw[dJ]at w Q
   have j:f.body.toNat=aM (l.take i):=by rw[w,ik]
   have B:=CV (bP b);exact zbQ
  exact⟨_,_,X,(xL m M).symm⟩
open Go.Mn
def KB(code:ab):GF prog 4 [.sl 1 (dy code)] [] (.v (.bool true)) []:=by
 have T:=xw code
 rcases Nat.lt_or_ge 1048576 code.length with ps|Y
 ·have X:decide ((1048576:Int)<((dy code).length:Int))=true:=decide_eq_true V;refine au func4 ntmps4 ?_;refine bB ?_
  grind[bD]
 ·have X:decide ((1048576:Int)<((dy code).length:Int))=false:=decide_eq_false V;refine au func4 ntmps4 ?_;refine b6 [] (EB code V) ?_;rintro _ _⟨rfl,p,s,t,r,A,hs,ht,rfl⟩;refine ch ?_;have n:=GC.J5 (EM p r A s t V V);have o:=Mj p r s t V
  by_cases G:(renameI p s t).2=0
  ·have⟨l,E,e⟩:=LL G;have⟨hq,J⟩:=E.Lb;have⟨m,k⟩:=Le J hq;rw[G,e]at n o;have⟨Q,z,N,Z⟩:=P9 _ m k
   have w:Q=0:=by grind
   subst w;have i:=Mg p r A [3,4] 500;have d:=Mg _ m k [3,4] 500;rw[E.abl]at d;have C:=GC.J5 (EM _ m k t s V V);have ho:=Rr p [3,4] 500;have j:=V5 (pV p [3,4] 500) (b:=pV p [3,4] 500) V rfl rfl rfl rfl;have B:=E.ret;have O:=D8 p r A;have F:=uo p r A;have H:fI p=true:=E.gl.test;rw[H]at F;have vz:=JQ A r;have u:=BS p p _ _ V V O O F F
   have M:(Bn p==Bn p)=true:=by simp
   rw[M]at u;generalize de s t p l=q at *;generalize pV p [3,4] 500=a at *;unfold Gu ints at i d j
   have e2:(((a.be:Nat):Int)==((a.be:Nat):Int))=true:=by simp
   rcases B with S|R
   ·rw[S]at C;generalize(renameI q t s).1=bk at *;refine I ?_;refine zfb ?_;refine D [] d ?_;refine D [] C ?_;refine D [] j ?_;exact ay
   ·rw[R]at C;refine I ?_;refine zfb ?_;refine D [] d ?_;refine D [] C ?_;refine D [] j ?_;refine D [] u ?_;exact ay
  ·rw[LK G]at n o
   have w:((renameI p s t).2 != 0)=true:=by grind
   have W:((renameI p s t).2 != (renameI p s t).2)=false:=by simp
   generalize(renameI p s t).2=c at *;unfold fH aB at n o;refine I ?_;refine D [] n ?_;exact zcH
end Go.Xg
namespace Go.Xg
open Go.RowKit Go.Xw Go.Proofs Go.WideShapes Go.Deep
def YU(c:UInt8):Value:=.int .u8 (c.toNat:Int)
def Uz(c:UInt8):flat (YU c):=fun a n d e=>by cases e
def wf_u8{z:Int}(h:(Lit.int .u8 z).wf=true):∃c:UInt8,z=((c.toNat:Nat):Int):=by
 simp only[Lit.wf,aI,decide_eq_true_eq]at h
 have o:IntKind.min .u8=0:=by decide
 have b:IntKind.max .u8=255:=by decide
 rw[o,b]at h;refine⟨UInt8.ofNat z.toNat,?_⟩
 have G:z.toNat<256:=by omega
 have C:(UInt8.ofNat z.toNat).toNat=z.toNat:=by simp[Nat.mod_eq_of_lt G]
 rw[C];omega
section
variable{H:Type}{enc:TypeId × Value->H}{P:Program}{W:World}
def OV{t e:TypeId}{n:Nat}{v:Value}{y:DataW H × List MemPlace}(O:P.underlying t=some (.slice e))(B:P.underlying e=some (.int .u8))(X:P.cellsOf e=1)(h:DataW.trod enc P W 0 (fun _=>true) true n t [v]=some y) :
  ∃l:ab,Qc W v (l.map YU)/\l.length<=9223372036854775807:=by
 rcases open_slice1 O X h with⟨w,_⟩|⟨a,len,d,m,R,acm,acj,F,w,_,M,C,T,_,hx⟩
 ·injection w with hv;subst hv
  exact⟨[],⟨none,0,rfl,.inl rfl⟩,bp _⟩
 ·injection w with hv _;subst hv
  simp only[if_true]at T
  obtain⟨l,r,k⟩:=zn (n:=len) (Q:=fun i(c:UInt8)=>W.cell? (a.add i)=some (YU c)) (fun i j=>by
   have⟨A,N⟩:=hx i V;have⟨z,G,_,E⟩:=DataW.trod_int B N
   injection G with G _
   rw[G]at A;obtain⟨c,rfl⟩:=wf_u8 E
   exact⟨c,A⟩)
  refine⟨l,⟨some a,d,by rw[ct,r],?_⟩,by rw[r];exact max_le (jk M C)⟩
  by_cases J:len=0
  ·have:l=[]:=ll V;subst this;exact .inl rfl
  ·refine .inr ⟨a.block,a.off,?_,by rw[ct,r];exact M,fun i x j=>?_⟩
   ·have u:l[0]?=some (l[0]'V):=cK _;have:=Qk (k 0 _ u);obtain⟨b,o,s⟩:=a;simp only at this;rw[this]
   ·rw[dB]at j
    cases q:l[i]? with
    |none=>rw[q]at j;cases j
    |some c =>
     rw[q]at j;cases j;exact⟨Qs (k i c q),Uz c⟩
def OW(β:Bt){t e:TypeId}{v:Value}{d:DataW H}{k:List MemPlace}{r:Reach}{S:Nat}(M:P.underlying t=some (.slice e))(i:P.underlying e=some (.int .u8))(X:P.cellsOf e=1)(j:Value.okWide P W r S t v)(h:DataW.Trod enc P W 0 (fun _=>true) true t v d k) :
  ∃l:ab,Rel (KW W) β v (.sl 1 (dy l))/\l.length<=9223372036854775807:=by
 obtain⟨Y,len,c,rfl⟩:=okWide_slice M j;have⟨R,m⟩:=h;have⟨l,o,b⟩:=OV M i X m;refine⟨l,?_,b⟩;have:=O8 o β;rw[map_map]at this;exact this
end
end Go.Xg
namespace Go.Pn
open Go.RowKit Go.Proofs Go.Proofs.YtfmnfhpifpjljaaGreatDoor
def Nv{P:Program}{c:OpenClaim}(ng:P.funcs.any Func.goes=false)(G:c.start=.entering):false=c.goesBy P:=by
 have n:∀g:FuncId,(P.funcs[g]?).any Func.goes=false:=fun g=>by
  cases h:P.funcs[g]? with
  |none=>rfl
  |some fn =>
   have:=Array.any_eq_false'.1 ng fn (Array.mem_of_getElem? h);show Func.goes fn=false;exact zdk
 have Q:∀f,P.goes f=false:=fun f=>by
  unfold Program.goes;rw[ng,Bool.and_false,Bool.or_false,List.any_eq_false];intro x hx;rw[n x];decide
 unfold OpenClaim.goesBy Program.goesAt Program.goesFrom;rw[G]
 cases P.funcNamed c.func with
 |none=>rfl
 |some f=>show false=(P.goes f ||false);rw[Q f];rfl
def ng:Tryz.pinned.checked.prog.funcs.any Func.goes=false:=by kernel_rfl
end Go.Pn
