/- Part 9 of proofs that are told in their last texts. -/
import Derived.Test.YtfmnfhpifpjljaaGreatDoorO8
import Derived.Lib.Repeat
import Derived.Shelf.Slices.CompactS
open List (cons_append getElem?_zipWith length_cons length_nil length_set nil_append take_succ_cons take_zero)
set_option linter.unusedVariables false
set_option linter.unusedSimpArgs false
set_option maxRecDepth 100000
set_option maxHeartbeats 4000000
namespace Go
theorem zac{A B:Prop}(h:B)(s:PLift B->A:=by intro hQ;refine GW.seq ?_;refine GW.region ?_;refine GL.l8 rfl rfl ?_;refine bh ?_;exact hQ.1):A:=s ⟨h⟩
theorem zaA{A:Prop}(s:A:=by exact GW.kL (fn:=f19) rfl rfl (by simp) rfl rfl (fun _ _ h=>by repeat (first|exact h|refine iZ ?_|refine iY ?_))):A:=s
theorem zaV{A:Prop}(s:A:=by exact GW.Jz (fn:=f98) rfl rfl (by simp) rfl rfl rfl rfl (fun _ _ h=>by repeat (first|exact h|refine iZ ?_|refine iY ?_))):A:=s
theorem zcK{A B:Prop}(h:B)(s:PLift B->A:=by intro hQ;refine GW.wk (Wk.eS 9 1) ?_;refine GW.wk (Wk.eS 79 2) ?_;exact hQ.1):A:=s ⟨h⟩
theorem zey{A B:Prop}(h:B)(s:PLift B->A:=by intro hQ;refine GW.wk (Wk.eS 53 3) ?_;refine GW.wk (Wk.eS 82 5) ?_;exact hQ.1):A:=s ⟨h⟩
end Go
namespace Go.Xg
open Go.RowKit Go.Xw Go.Proofs Tryz Go.Sp Go.Im
open GV (U)
open Go.Xp (Nd T be fR ju)
attribute [local irreducible] GW GL GO D GC GA bo bn
def Zj(p:RS)(av:List Go.Sp.Fn)(aY:List Nd)(hg ha:Value)(g:GV)(k:ap):Prop :=
 ∃q n m o r S,p.to q/\Hd n.length o/\mP m r S/\(q.code=0->p.i<q.i/\∀gl e,PB ⟨gl,e,av,aY⟩ p.i->PB ⟨gl,e,n,m⟩ q.i) /\
  g=.agg [.v hg,.v ha,.v o,.v r]/\k=[cb q,.vech 53 3 (n.map aI) o,blob (b9 m r S)]
theorem R0(p:RS)(J:p.ok)(hb:SB p)(h6:p.l.length<=6000)(av:List Go.Sp.Fn)(aY:List Nd)(hg ha hf hn:Value)(ns:List Value){ng na:Nat}(Hg:Hd ng hg)(Ha:Hd na ha)(Hf:Hd av.length hf)(Hn:mP aY hn ns)(hfl:av.length<=1000000)(Ho:aY.length<=1000000) :
  GC prog 170 [.loc 0 0,.agg [.v hg,.v ha,.v hf,.v hn]] [cb p,.vech 53 3 (av.map aI) hf,blob (b9 aY hn ns)] (Zj p av aY hg ha):=by
 obtain⟨ag,cg,rfl⟩:=Hg;obtain⟨aa,ca,rfl⟩:=Ha;obtain⟨F,G,rfl⟩:=Hf;have aaj:(av.map aI).length=av.length:=bS _
 have S:=fun(t:T)(h:be t<=1000000)=>GC.blob (OI (be t) t (a8 _) aY hn ns Hn L) (fun g Δ hR=>by
  grind[zS])
 obtain⟨⟨an,H,rfl⟩,Hn2,Hn3⟩:=id Hn;have m1:=cX p ju J aU;have t1:=bU J (s:=ju) aU;have o1:=t1.ok J;have i1:(p.ba ju).code=0->p.i<(p.ba ju).i:=zQ aU;generalize p.ba ju=k at *;have m2:=oi k o1;have t2:=t1.trans (eU o1);have o2:=t2.ok J;have nl:=oj k
 have ne:¬k.code=0->¬k.name.2.code=0:=fun h=>by grind[RS.name]
 have le2:=(eU o1).2.2.2;generalize k.name=nm at *;have⟨s,p2⟩:=nm;simp only at m2 t2 o2 nl ne le2;have m3:=cX p2 [40] o2 aU;have t3:=t2.trans (bU o2 (s:=[40]) aU);have m:=t3.ok J
 have ne3:¬k.code=0->¬(p2.ba [40]).code=0:=fun h=>Ky aU (ne h)
 have le3:=(bU o2 (s:=[40]) aU).2.2.2;generalize p2.ba [40]=d at *;have m4:=dk d 0 m aU;refine ak func170 ntmps170 ?_;refine I [0] m1 ?_;refine GW.join (fun R Γ=>R=.loc 0 0::U::U::.loc 3 0::.loc 4 0::.loc 5 0::zU 59 []/\Γ=[cb p2,.vech 53 3 (av.map aI) (.slice F av.length G),blob (b9 aY (.slice an aY.length H) ns),.box 28 [.v (.slice ag ng cg),.v (.slice aa na ca),.v (.slice F av.length G),.v (.slice an aY.length H)],.box 28 [.v (.slice none 0 0),.v (.slice none 0 0),.v (.slice none 0 0),.v (.slice none 0 0)],.box 53 [.v (sv s),.v (.slice none 0 0),.v (ii (aY.length:Nat))]]) ?_ ?_
 ·refine aV (.q 0 (aM 2 3 (.f 1 (.q 5 (.a 6 (.a 7 .nil))) 6 (.a 1 (.q 5 (.a 7 .nil)))))) ?_;refine ay ?_;refine GO.fork ?_ ?_
  ·refine aX [0] m2 ?_;exact gZ
  ·refine OA rfl rfl (GL.alloc rfl ?_);refine zbu ?_;refine aX [0] m2 ?_;exact gZ
 rintro _ _⟨rfl,rfl⟩;refine V ?_;refine I [0] m3 ?_;refine GL.wk (Wk.eS 9 1) ?_;refine zbe ?_;refine I [0] m4 ?_
 refine GW.join (fun R Γ=>∃q b a c,R=.loc 0 0::U::U::.loc 3 0::.loc 4 0::.loc 5 0::zU 59 []/\Γ=[cb q,.vech 53 3 (av.map aI) (.slice F av.length G),blob (b9 aY (.slice an aY.length H) ns),.box 28 [.v (.slice ag ng cg),.v (.slice aa na ca),.v (.slice F av.length G),.v (.slice an aY.length H)],.box 28 [.v (.slice none 0 0),.v (.slice none 0 0),.v (.slice none 0 0),.v (.slice none 0 0)],.box 53 [.v (sv s),.v (.slice a b.length c),.v (ii (aY.length:Nat))],.vech 9 1 (bs b) (.slice a b.length c)] /\
  d.to q/\b.length+d.i<=q.i+1/\(∀s∈b,s.length<=12)/\(¬k.code=0->¬q.code=0)) ?_ ?_
 ·by_cases hs:d.aJ 0=[41]
  ·have hs':(!(d.aJ 0==[41]))=false:=by grind
   refine V ?_;exact⟨_,_,Wk.a6 aC,d,[],none,0,rfl,rfl,jU m,by simp,fun s h=>zfa,ne3⟩
  ·have hs':(!(d.aJ 0==[41]))=true:=by grind
   have Y:=oi d m;have B:=eU m;have M:=B.ok m;have nl5:=oj d
   have X0:¬k.code=0->¬d.name.2.code=0:=fun h=>by grind[RS.name]
   generalize d.name=nm at *;have⟨s5,p5⟩:=nm;simp only at Y B M nl5 X0;refine V ?_;have hl0:([]:List am).length=0:=rfl;refine zbE ?_;refine aX [0] Y ?_;refine zar ?_;refine OA rfl rfl (GL.mr 6 (news:=[[.v (sv s5)]]) rfl rfl rfl aH rfl rfl (by refine⟨?_,?_⟩;(· show _+1<=_;omega);(· show(_+1)*_<=_;omega)) ?_);intro a c;refine zaM ?_
   refine GW.loop (fun x:Nat=>6000-x) (fun x R Γ=>∃q b a c,R=.loc 0 0::U::U::.loc 3 0::.loc 4 0::.loc 5 0::zU 59 []/\Γ=[cb q,.vech 53 3 (av.map aI) (.slice F av.length G),blob (b9 aY (.slice an aY.length H) ns),.box 28 [.v (.slice ag ng cg),.v (.slice aa na ca),.v (.slice F av.length G),.v (.slice an aY.length H)],.box 28 [.v (.slice none 0 0),.v (.slice none 0 0),.v (.slice none 0 0),.v (.slice none 0 0)],.box 53 [.v (sv s),.v (.slice a b.length c),.v (ii (aY.length:Nat))],.vech 9 1 (bs b) (.slice a b.length c)] /\
    d.to q/\b.length+d.i<=q.i+1/\(∀s∈b,s.length<=12)/\(¬k.code=0->¬q.code=0)/\x=q.i) p5.i ?_ ?_
   ·exact⟨_,_,(Wk.cut (n:=7) (eF rfl) rfl).trans (Wk.a6 aC),p5,[s5],a,c,rfl,rfl,B,by have:=B.2.2.2;grind,fun s h=>by grind,X0,rfl⟩
   ·rintro _ _ _⟨q,b,a,c,rfl,rfl,E,u,w,X,rfl⟩;have N:=E.ok m;have Z:=dk q 0 N aU
    have XF:q.l.length<=6000:=by rw[E.1,t3.1];exact h6
    have oq1:=N.1;have XK:(bs b).length=b.length:=bS _
    by_cases hc:q.aJ 0=[44]
    ·have z:(q.aJ 0==[44])=true:=by grind
     have e:=dv hc aU;have hq0:=e.2;have e:=e.1;rw[Nat.add_zero]at e;have tn:=cR e;have on:=tn.ok N
     have m7:GF prog 224 [.loc 0 0] [cb q.next] (.v (sv q.next.name.1)) [cb q.next.name.2]:=oi q.next on
     have t7:=E.trans (tn.trans (eU on))
     have nl7:=oj q.next
     have le7:=(eU on).2.2.2
     have hni:q.next.i=q.i+1:=rfl
     have Hj:=(t7.ok m).1
     have Lv:q.next.name.2.l.length<=6000:=by rw[t7.1,t3.1];exact h6
     have A:k.code=0:=by
      omega
     generalize q.next.name=nm at *
     have⟨s7,p7⟩:=nm;simp only at m7 t7 nl7 le7 Hj Lv;refine V ?_;refine I [0] Z ?_;refine zbE ?_;refine aX [0] m7 ?_;refine zar ?_;refine OA rfl rfl (GL.mr 6 (news:=[[.v (sv s7)]]) rfl rfl rfl aH rfl rfl (by refine⟨?_,?_⟩;(· show _+1<=_;omega);(· show(_+1)*_<=_;omega)) ?_);intro a2 c2;refine zaM ?_
     exact⟨p7.i,⟨_,_,(Wk.cut (n:=7) (eF rfl) rfl).trans (Wk.a6 aC),p7,b++[s7],a2,c2,rfl,by simp[bs],t7,by grind,fun s h=>by
      grind,fun h=>absurd A h,rfl⟩,by omega⟩
    ·have z:(q.aJ 0==[44])=false:=by
      grind
     refine V ?_;refine I [0] Z ?_;refine jF ?_;exact⟨_,_,Wk.a6 aC,q,b,a,c,rfl,rfl,E,u,w,X⟩
 ·rintro _ _⟨q,b,a,c,rfl,rfl,E,u,w,X⟩;have N:=E.ok m;have Y:=cX q [41] N aU;have B:=E.trans (bU N (s:=[41]) aU);have M:=B.ok m;have C:=t3.trans B;have sb5:=hb.to C
  have mk:(q.ba [41]).code=0->q.code=0/\(q.ba [41]).i=q.i+1:=fun h=>by
   obtain⟨h1,h2,-⟩:=qM aU h;exact⟨h2,by rw[h1];rfl⟩
  generalize q.ba [41]=r at *
  have hr6:r.l.length<=6000:=by rw[C.1];exact h6
  have⟨t,v,hS⟩:=(L8 (5*r.left+4)).1 1 r M (a8 _)
  have Qm:r.left<=6000:=by grind[RS.left]
  have Z:=(X2 (5*r.left+4)).block 1 r t v M L hS;have t6:=((pr (5*r.left+4)).1 _ _ _ _ M (fun a d' h=>by cases h) hS);have⟨bt,bz,bi⟩:=(QG (5*r.left+4)).1 1 r t v M sb5 hS;have tv:=C.trans t6;have ov:=tv.ok J
  have hv6:v.l.length<=6000:=by rw[tv.1];exact h6
  have hvi:=ov.1;have hL:=S t L
  have Q:v.code=0->r.code=0:=fun h=>by
   grind[Eh]
  by_cases hc:v.code=0
  ·have z:(v.code==0)=true:=by grind
   refine V ?_;refine I [0] Y ?_;refine I [0] Z ?_;refine bP [2] hL ?_;rintro _ _⟨_,⟨hn',ns',O,rfl,rfl⟩,rfl⟩;obtain⟨⟨Zv,Zy,rfl⟩,-,-⟩:=id O;refine ch ?_;refine GL.wk (Wk.nV (i:=5) (o:=1) (j:=6) rfl rfl rfl rfl) ?_;refine zbt ?_;refine zbH ?_;intro a3 c3;refine zbt ?_;refine dX ?_;have hr:=Q hc;have⟨hq0,Ur⟩:=mk hr
   have A:k.code=0:=by
    omega
   have hi:=i1 A
   have W:p.i<v.i:=by omega
   refine⟨v,av++[⟨s,b,aY.length⟩],aY++fR aY.length t,_,_,ns',tv,⟨a3,c3,by simp⟩,O,fun _=>⟨W,fun gl ars h=>h.fn ⟨s,b,aY.length⟩ t nl w bt b.length (v.i-r.i) (a8 _) bz L⟩,rfl,by rw[jK];rfl⟩
  ·have z:(v.code==0)=false:=by grind
   refine V ?_;refine I [0] Y ?_;refine I [0] Z ?_;refine dX ?_;exact⟨v,av,aY,_,_,ns,tv,⟨_,_,rfl⟩,Hn,fun h=>absurd h hc,rfl,rfl⟩
open Go.Xp (jh)
def ql(p:Src)(hg ha hf hn:Value)(ns:List Value):ap :=
 [.vech 9 1 (bs p.au) hg,.vech 79 2 (p.aq.map bb) ha,.vech 53 3 (p.av.map aI) hf,blob (b9 p.ae hn ns)]
structure rT(p:Src)(hg ha hf hn:Value)(ns:List Value):Prop where
 g:Hd p.au.length hg
 a:Hd p.aq.length ha
 f:Hd p.av.length hf
 n:mP p.ae hn ns
theorem H8:rT Eu (.slice none 0 0) (.slice none 0 0) (.slice none 0 0) (.slice none 0 0) []:=⟨⟨none,0,rfl⟩,⟨none,0,rfl⟩,⟨none,0,rfl⟩,mP.nil⟩
def ND(g:GV)(k:ap):Prop:=∃p X w l d o c z,rT p X w l d o/\cH p<=340000/\iN p/\g=.tup [.agg [.v X,.v w,.v l,.v d],.v (ii c),.v (ii z)]/\k=ql p X w l d o
theorem Su(c z:Int):ND (.tup [.agg [.v (.slice none 0 0),.v (.slice none 0 0),.v (.slice none 0 0),.v (.slice none 0 0)],.v (ii c),.v (ii z)]) (ql Eu (.slice none 0 0) (.slice none 0 0) (.slice none 0 0) (.slice none 0 0) []) :=
 ⟨Eu,_,_,_,_,[],c,z,H8,bl _,PB.no.num,rfl,rfl⟩
theorem Pt{p:Src}{hg ha hf hn:Value}{ns:List Value}:∀x∈ql p hg ha hf hn ns,x.rJ=true:=fun x hx=>by
 unfold ql at hx
 grind[Ob.rJ]
theorem GW.Jz{P:Program}{fn:Func}{Q:dQ}{t u s:Tmp}{T:TypeId}[q:Ty P T true 4]{i:Nat}{E:TypeId}{c z:Int}{fr:am}{Γ:ap}(w:fn.results=#[.cell t T,.tmp u,.tmp s])(hg:bx (rW (Γ.length+3) fr) t=.loc i 0)(hi:i<Γ.length)(o:Γ[i]?=some (.box E [.v (.slice none 0 0),.v (.slice none 0 0),.v (.slice none 0 0),.v (.slice none 0 0)]))(A:bx (rW (Γ.length+3) fr) u=.v (ii c))(m:bx (rW (Γ.length+3) fr) s=.v (ii z))
  (n:qh (Γ.length+3) Γ=true)(J:∀fr Γ,oZ P fn 0 ND .ret fr Γ->Q .ret fr Γ):GW P 0 .ret Q fr Γ:=by
 refine zcK ?_;refine GW.wk (Wk.eS 53 3) ?_;simp only[gK,cons_append,nil_append]
 have M:(Γ++[Ob.vech 9 1 [] (.slice none 0 0),.vech 79 2 [] (.slice none 0 0),.vech 53 3 [] (.slice none 0 0)]).length=Γ.length+3:=by simp
 refine GW.wk (Wk.Jy (bl _) (by rw[M];show oq (below _) (Γ++_)=true;rw[Ba,show oq (below (Γ.length+3)) Γ=true from n];rfl)) ?_;rw[M];refine GW.ret ?_;refine J _ _ ?_;refine G9 (k:=4) Γ.length w (.inr rfl) hg (by rw[gK,gA hi];exact o) rfl rfl A m ?_ ?_
 ·simp[blob,b9,Ob.rJ]
 ·rw[gK,List.drop_left];exact Su c z
theorem Ap(s:ah)(hs:s.length<=1000000000000):GC prog 98 [.v (sv s)] [] ND:=by
 refine ak func98 ntmps98 ?_;refine bP [] (VQ s hs) ?_;rintro _ _⟨rfl,l,c,z,rfl,hL⟩;refine ch ?_
 by_cases B:c=0
 ·subst B;have⟨hs6,hl6,W⟩:=hL rfl;have B1:(l.map da).length=l.length:=bS _;refine V ?_
  refine GW.zJ (fun O Γ=>∃q p hg ha hf hn ns,O=U::U::.loc 0 0::U::U::U::U::U::.loc 1 0::.loc 2 0::zU 67 []/\Γ=.box 28 [.v (.slice none 0 0),.v (.slice none 0 0),.v (.slice none 0 0),.v (.slice none 0 0)]::cb q::.box 28 [.v hg,.v ha,.v hf,.v hn]::ql p hg ha hf hn ns /\
   rT p hg ha hf hn ns/\RS.to ⟨l,0,s.length,0,0⟩ q/\(q.code=0->PB p q.i)) ?_ ?_
  ·refine GW.loop (fun x:Nat=>x) (fun x O Γ=>∃q p hg ha hf hn ns,O=U::U::.loc 0 0::U::U::Go.Xg.ir l::U::U::.loc 1 0::.loc 2 0::zU 67 []/\Γ=.box 28 [.v (.slice none 0 0),.v (.slice none 0 0),.v (.slice none 0 0),.v (.slice none 0 0)]::cb q::.box 28 [.v hg,.v ha,.v hf,.v hn]::ql p hg ha hf hn ns /\
    rT p hg ha hf hn ns/\RS.to ⟨l,0,s.length,0,0⟩ q/\(q.code=0->PB p q.i)/\x=if q.code=0 then 6001-q.i else 0) 6001 ?_ ?_
   ·exact⟨_,_,((((Wk.eS 9 1).trans (Wk.eS 79 2)).trans (Wk.eS 53 3)).trans (Wk.Jy (bl _) rfl)).trans (Wk.a6 aC),⟨l,0,s.length,0,0⟩,Eu,_,_,_,_,[],rfl,rfl,H8,jU ⟨bl _,by grind⟩,fun _=>PB.no,rfl⟩
   ·rintro x _ _⟨q,p,hg,ha,hf,hn,ns,rfl,rfl,J,e,b,hx⟩;have o0:RS.ok ⟨l,0,s.length,0,0⟩:=⟨bl _,by grind⟩;have u:=e.ok o0;have sb0:SB ⟨l,0,s.length,0,0⟩:=⟨W,by grind⟩;have G:=sb0.to e;have XF:q.l=l:=e.1
    have X:q.i<=l.length:=by have:=u.1;grind
    unfold ql;have⟨n,j,m,o⟩:=J;obtain⟨ag,cg,rfl⟩:=id n;obtain⟨aa,ca,rfl⟩:=id j;obtain⟨af,cf,rfl⟩:=id m;obtain⟨⟨an,cn,rfl⟩,M,N⟩:=id o
    by_cases B:q.code=0
    ·have r:(q.code==0)=true:=by grind
     rw[ai B]at hx
     by_cases hi:q.i<l.length
     ·have hd:decide ((q.i:Int)<((l.map da).length:Int))=true:=by grind
      have Y:=dk q 0 u aU;have b:=b B;have hw:=b.w
      have d:p.au.length<=1000000/\p.aq.length<=1000000/\p.av.length<=1000000/\p.ae.length<=1000000:=by
       grind[zd]
      by_cases h1:q.aJ 0=jh
      ·have R:(q.aJ 0==[105,110,116])=true:=by rw[h1];rfl
       refine V ?_;refine I [1] Y ?_;refine bP [1,3,4] (OG q u G p.au p.aq _ _ _ _ n j m o.head d.1 d.2.1) ?_;rintro _ _⟨t,Q,C,_,_,H,⟨ag2,cg2,rfl⟩,⟨aa2,ca2,rfl⟩,A,rfl,rfl⟩;refine ch ?_;refine zbW ?_;refine⟨if t.code=0 then 6001-t.i else 0,⟨_,_,Wk.a6 aC,t,⟨Q,C,p.av,p.ae⟩,_,_,_,_,ns,rfl,rfl,⟨⟨_,_,rfl⟩,⟨_,_,rfl⟩,m,o⟩,e.trans H,fun h=>(A h).2 _ _ b,rfl⟩,?_⟩
       grind
      ·have R:(q.aJ 0==[105,110,116])=false:=by
        cases h:(q.aJ 0==[105,110,116])with
        |false=>rfl
        |true=>exact absurd (eq_of_beq h) h1
       by_cases h2:q.aJ 0=ju
       ·have S:(q.aJ 0==[102,117,110,99])=true:=by rw[h2];rfl
        refine V ?_;refine I [1] Y ?_;refine bP [1,5,6] (R0 q u G ze2 p.av p.ae _ _ _ _ ns n j m o d.2.2.1 d.2.2.2) ?_;rintro _ _⟨t,E,F,_,_,Z,H,⟨af2,cf2,rfl⟩,⟨⟨Zv,Zy,rfl⟩,N2,N3⟩,A,rfl,rfl⟩;refine ch ?_;refine zbW ?_;refine⟨if t.code=0 then 6001-t.i else 0,⟨_,_,Wk.a6 aC,t,⟨p.au,p.aq,E,F⟩,_,_,_,_,Z,rfl,rfl,⟨n,j,⟨_,_,rfl⟩,⟨⟨_,_,rfl⟩,N2,N3⟩⟩,e.trans H,fun h=>(A h).2 _ _ b,rfl⟩,?_⟩
        grind
       ·have S:(q.aJ 0==[102,117,110,99])=false:=by
         cases h:(q.aJ 0==[102,117,110,99])with
         |false=>rfl
         |true=>exact absurd (eq_of_beq h) h2
        have m2:=j0 q u;have m3:=kd q 7 q.place;have H:=mI u 7 q.place
        have h7:¬(q.fail 7 q.place).code=0:=by
         grind[RS.fail]
        generalize q.fail 7 q.place=t at *;refine V ?_;refine I [1] Y ?_;refine I [1] m2 ?_;refine I [1] m3 ?_;refine jF ?_;refine V ?_;refine⟨0,⟨_,_,Wk.a6 aC,t,p,_,_,_,_,ns,rfl,rfl,⟨n,j,m,o⟩,e.trans H,fun h=>absurd h h7,by grind⟩,by omega⟩
     ·have hd:decide ((q.i:Int)<((l.map da).length:Int))=false:=by grind
      exact zdC
    ·have r:(q.code==0)=false:=by grind
     exact zdC
  ·rintro _ _⟨q,p,hg,ha,hf,hn,ns,rfl,rfl,J,e,b⟩;have u:=e.ok ⟨bl _,by grind⟩
   have X:q.i<=l.length:=by have:=u.1;rw[e.1]at this;exact this
   unfold ql
   by_cases B:q.code=0
   ·have r:(q.code != 0)=false:=by grind
    have b:=b B;have hw:=b.w;have⟨n,j,m,o⟩:=J;obtain⟨ag,cg,rfl⟩:=id n;obtain⟨aa,ca,rfl⟩:=id j;obtain⟨af,cf,rfl⟩:=id m;obtain⟨⟨an,cn,rfl⟩,M,N⟩:=id o
    by_cases h8:p.ae.length<=800
    ·have T:decide ((800:Int)<(p.ae.length:Int))=false:=decide_eq_false L;refine zew ?_;refine G9 (k:=4) 3 rfl ze3 rfl rfl rfl rfl rfl rfl (fun x hx=>Pt (p:=p) (hg:=.slice ag p.au.length cg) (ha:=.slice aa p.aq.length ca) (hf:=.slice af p.av.length cf) (hn:=.slice an p.ae.length cn) (ns:=ns) x hx) ?_;exact⟨p,_,_,_,_,ns,0,0,⟨n,j,m,o⟩,by omega,b.num,rfl,rfl⟩
    ·have T:decide ((800:Int)<(p.ae.length:Int))=true:=decide_eq_true L;refine V ?_;exact zaV
   ·have r:(q.code != 0)=true:=by grind
    refine V ?_;refine aV (aM 0 9 (.a 9 (.q 10 (.q 11 .nil)))) ?_;refine bj ?_;exact zaV
 ·have r:(c != 0)=true:=by grind
  refine V ?_;exact zaV
attribute [local irreducible] oQ r7 ph
theorem LQ(code:ah)(N:code.length<=1099511627776)(c:c9)(W:c.i<=code.length) :
  GC prog 99 [.loc 0 0] [eL code c] fun g k=>∃(s:ah)(J:c9),J.i<=code.length/\s.length<=1000000000/\g=.v (sv s)/\k=[eL code J]:=by
 have o:=vT code N 2 c L W;have m:=xU code 2 c;have H:=C3 (code:=code) 2 W;have S:xi 2=25800:=rfl;have r:xi 3=155400:=rfl;have E:wo 2=49:=rfl;rw[S]at m;generalize vq code 2 c=a at *;have⟨B,q⟩:=a;simp only at o m H;have b:=Hy code N 2 q L H;have n:=mx code 2 q;have R:=xE (code:=code) 2 H;rw[E]at n;generalize jG code 2 q=a at *;have⟨A,M⟩:=a;simp only at b n R;have G:=vT code N 3 M L R;have w:=xU code 3 M;have d:=C3 (code:=code) 3 R;rw[r]at w;generalize vq code 3 M=a at *;have⟨C,z⟩:=a;simp only at G w d;refine ak func99 ntmps99 ?_;refine I [0] o ?_;refine I [0] b ?_;refine I [0] G ?_;refine bA ?_;exact⟨_,z,d,by simp only[bp,length_cons,length_nil];omega,rfl,rfl⟩
theorem CI:GC prog 97 [] [] fun g k=>k=[]/\∃rows,g=.sl 1 rows/\rows.length=14/\rows.all (JC 1000)=true:=by
 refine ak func97 ntmps97 ?_;refine zab ?_;refine bA ?_;exact⟨rfl,_,rfl,by decide +kernel,by decide +kernel⟩
def X8(code:ah)(g:GV)(k:ap):Prop:=∃(c:c9)(p:Src)(X w l d:Value)(o:List Value),c.i<=code.length/\rT p X w l d o/\cH p<=340000/\iN p/\g=.agg [.v X,.v w,.v l,.v d]/\k=eL code c::ql p X w l d o
theorem FV(code:ah)(B:code.length<=1099511627776)(c:c9)(hc:c.i<=code.length) :
  GC prog 32 [.loc 0 0] [eL code c] (X8 code):=by
 have⟨k,c1,h1,i1,r1⟩:=oF B hc 14 L;have⟨j,t,h2,H,r2⟩:=nI B i1 3 L;have h3:=LQ code B t H;refine ak func32 ntmps32 ?_;refine bP [] CI ?_;rintro _ _⟨rfl,M,rfl,l,C⟩;refine zas ?_;rw[l];refine I [0] h1 ?_;refine GL.zY 1000 rfl rfl C (by rw[l];omega) rfl ?_;intro s hs;refine bh ?_;refine bP [] (Ap s L) ?_;rintro _ _⟨p,_,_,_,_,J,z1,z2,⟨⟨W,Z,rfl⟩,⟨S,X,rfl⟩,⟨T,Y,rfl⟩,⟨⟨an,cn,rfl⟩,Q,R⟩⟩,hw,e,rfl,rfl⟩;refine ch ?_;unfold ql;refine V ?_;refine I [0] h2 ?_
 by_cases G:j=0
 ·have A:(j==0)=true:=by simpa using G
  refine V ?_;refine bP [0] h3 ?_;rintro _ _⟨s2,F,i3,DV,rfl,rfl⟩;refine zas ?_;refine bP [] (Ap s2 L) ?_;rintro _ _⟨d,_,_,_,_,m,z3,z4,⟨⟨q,w,rfl⟩,⟨n,u,rfl⟩,⟨o,v,rfl⟩,⟨⟨r,z,rfl⟩,N,O⟩⟩,E,b,rfl,rfl⟩;refine ch ?_;unfold ql;refine zew ?_;refine P9 [0,7,8,9,10] (eL code F::ql d (.slice q d.au.length w) (.slice n d.aq.length u) (.slice o d.av.length v) (.slice r d.ae.length z) m) rfl fH rfl rfl rfl rfl aU rfl ⟨⟨rfl,rfl⟩,⟨rfl,rfl⟩,⟨rfl,rfl⟩,⟨rfl,rfl⟩,⟨rfl,rfl⟩,trivial⟩ ?_;exact⟨F,d,_,_,_,_,m,i3,⟨⟨_,_,rfl⟩,⟨_,_,rfl⟩,⟨_,_,rfl⟩,⟨⟨_,_,rfl⟩,N,O⟩⟩,E,b,rfl,rfl⟩
 ·have A:(j==0)=false:=by simpa using G
  refine zew ?_;refine P9 [0,2,3,4,5] (eL code t::ql p (.slice W p.au.length Z) (.slice S p.aq.length X) (.slice T p.av.length Y) (.slice an p.ae.length cn) J) rfl fH rfl rfl rfl rfl aU rfl ⟨⟨rfl,rfl⟩,⟨rfl,rfl⟩,⟨rfl,rfl⟩,⟨rfl,rfl⟩,⟨rfl,rfl⟩,trivial⟩ ?_;exact⟨t,p,_,_,_,_,J,H,⟨⟨_,_,rfl⟩,⟨_,_,rfl⟩,⟨_,_,rfl⟩,⟨⟨_,_,rfl⟩,Q,R⟩⟩,hw,e,rfl,rfl⟩
end Go.Xg
namespace Go.Sp
open Go.Xp Go.Im
theorem E5{R:Type}(f:R->Nat):∀(l:List R)(i:Nat)(x y:R),l[i]?=some x->cj f (l.set i y)+f x=cj f l+f y
 |[],i,x,y,h=>by simp at h
 |z::l,0,x,y,h=>by grind[cj]
 |z::l,i+1,x,y,h=>by have:=E5 f l i x y ze2;grind[cj]
theorem Q2(p:Src)(i:Nat)(x y:Nd)(h:p.ae[i]?=some x):cH ⟨p.au,p.aq,p.av,p.ae.set i y⟩+(x.s.length+x.aw.length+1)=cH p+(y.s.length+y.aw.length+1):=by
 have:=E5 (fun n:Nd=>n.s.length+n.aw.length+1) p.ae i x y h;unfold cH;grind
end Go.Sp
namespace Go.Xg
open Go.RowKit Go.Xw Go.Proofs Tryz Go.Sp Go.Im
open GV (U)
open Go.Xp (Nd)
theorem EJ{o:Nat}{g:GV}{x m:Nd}(hg:∀y,bB (db x y) o g=db m y):∀{aY:List Nd}{ns:List Value}{i:Nat},ns.length=aY.length->aY[i]?=some x->dI (List.zipWith db aY ns) i o g=List.zipWith db (aY.set i m) ns
 |[],ns,i,M,h=>by simp at h
 |n::aY,[],i,M,h=>by simp at M
 |n::aY,v::ns,0,M,h=>by
  grind[List.zipWith_cons_cons,dI,db]
 |n::aY,v::ns,i+1,M,h=>by
  have:=EJ hg (aY:=aY) (ns:=ns) (i:=i) ze2 ze2;rw[List.zipWith_cons_cons,dI,this];rfl
theorem Fu{x m:Nd}(N:m.aw=x.aw):∀{aY:List Nd}{ns:List Value}{i:Nat},aY[i]?=some x->List.zipWith eT (aY.set i m) ns=List.zipWith eT aY ns
 |[],ns,i,h=>by simp at h
 |n::aY,[],i,h=>by simp
 |n::aY,v::ns,0,h=>by
  grind[List.zipWith_cons_cons,eT]
 |n::aY,v::ns,i+1,h=>by
  have:=Fu N (aY:=aY) (ns:=ns) (i:=i) ze2
  simp_all
theorem mP.same{aY:List Nd}{h:Value}{ns:List Value}(H:mP aY h ns){i:Nat}{x m:Nd}(hx:aY[i]?=some x)(N:m.aw=x.aw):mP (aY.set i m) h ns:=by
 have⟨a,c,e⟩:=H.head;refine⟨⟨a,c,by grind⟩,by rw[length_set];exact H.len,fun j y v o b=>?_⟩;rw[eR]at o
 by_cases S:i=j
 ·rw[ai S]at o;split at o
  ·cases o;subst S;rw[N];exact H.kid i x v hx b
  grind
 ·rw[ab S]at o;exact H.kid j y v o b
abbrev pZ(code:ah)(c:c9)(p:Src)(hg ha hf hn:Value)(ns:List Value):ap :=
 [eL code c,.box 28 [.v (.slice none 0 0),.v (.slice none 0 0),.v (.slice none 0 0),.v (.slice none 0 0)],.vech 9 1 (bs p.au) hg,.vech 79 2 (p.aq.map bb) ha,.vech 53 3 (p.av.map aI) hf,.gone,.box 28 [.v hg,.v ha,.v hf,.v hn]]++b9 p.ae hn ns
theorem Wk.H4{m:Nat}{fr:am}{code:ah}{c:c9}{p:Src}{hg ha hf hn:Value}{ns:List Value}(u:rT p hg ha hf hn ns)(k:m<=7) :
  Wk m fr (pZ code c p hg ha hf hn ns) (rW 7 fr) [eL code c,.box 28 [.v (.slice none 0 0),.v (.slice none 0 0),.v (.slice none 0 0),.v (.slice none 0 0)],.vec 9 1 (bs p.au).length (bs p.au),.vec 79 2 (p.aq.map bb).length (p.aq.map bb),.vec 53 3 (p.av.map aI).length (p.av.map aI),.gone,.box 28 (aB p)]:=by
 refine(Wk.nV (i:=6) (o:=0) (j:=2) (x:=hg) rfl rfl rfl rfl).trans ?_;refine(Wk.nV (i:=6) (o:=1) (j:=3) (x:=ha) rfl rfl rfl rfl).trans ?_;refine(Wk.nV (i:=6) (o:=2) (j:=4) (x:=hf) rfl rfl rfl rfl).trans ?_;exact Wk.ui (i:=6) (o:=3) [eL code c,.box 28 [.v (.slice none 0 0),.v (.slice none 0 0),.v (.slice none 0 0),.v (.slice none 0 0)],.vec 9 1 (bs p.au).length (bs p.au),.vec 79 2 (p.aq.map bb).length (p.aq.map bb),.vec 53 3 (p.av.map aI).length (p.av.map aI),.gone,.box 28 [.sl 1 (bs p.au),.sl 2 (p.aq.map bb),.sl 3 (p.av.map aI),.v hn]] u.n rfl k rfl rfl rfl
def Aq(code:ah)(g:GV)(k:ap):Prop:=∃(c:c9)(p:Src),c.i<=code.length/\cH p<=345000/\iN p/\g=.agg (aB p)/\k=[eL code c]
def gU(code:ah)(k i j:Nat)(fr:am)(Γ:ap):Prop:=∃(c:c9)(p:Src)(X w l d:Value)(o:List Value),fr=.loc 0 0::U::.loc 1 0::.loc 6 0::.v (ii (k:Nat))::.v (ii (i:Nat))::zU 97 []/\Γ=pZ code c p X w l d o /\
 c.i<=code.length/\rT p X w l d o/\cH p<=340000+10*j/\iN p/\i<p.ae.length
theorem gU.next{code:ah}{k i j:Nat}{fr:am}{Γ:ap}(h:gU code k i j fr Γ):gU code k i (j+1) fr Γ:=by
 grind[gU]
theorem gU.go{code:ah}{k i j:Nat}{P:am->ap->Prop}(h:∀(c:c9)(p:Src)(z:Option Addr)(A:Nat)(d:Option Addr)(T:Nat)(m:Option Addr)(o:Nat)(an:Option Addr)(l:Nat)(ns:List Value),c.i<=code.length->rT p (.slice z p.au.length A) (.slice d p.aq.length T) (.slice m p.av.length o) (.slice an p.ae.length l) ns->cH p<=340000+10*j->iN p->i<p.ae.length->P (.loc 0 0::U::.loc 1 0::.loc 6 0::.v (ii (k:Nat))::.v (ii (i:Nat))::zU 97 []) (pZ code c p (.slice z p.au.length A) (.slice d p.aq.length T) (.slice m p.av.length o) (.slice an p.ae.length l) ns)):∀fr Γ,gU code k i j fr Γ->P fr Γ:=by
 rintro _ _⟨c,p,_,_,_,_,ns,rfl,rfl,e,⟨⟨z,A,rfl⟩,⟨d,T,rfl⟩,⟨m,o,rfl⟩,⟨⟨an,l,rfl⟩,W,n⟩⟩,r,Y,q⟩;exact h c p z A d T m o an l ns e ⟨⟨_,_,rfl⟩,⟨_,_,rfl⟩,⟨_,_,rfl⟩,⟨⟨_,_,rfl⟩,W,n⟩⟩ r Y q
theorem gU.put{code:ah}{k i j:Nat}{c:c9}{p:Src}{hg ha hf hn:Value}{ns:List Value}{x:Nd}(y:Nd){o:Nat}{g:GV}(hx:p.ae[i]?=some x)(N:y.aw=x.aw)(G:y.s.length<=x.s.length+9)(B : -9223372036854775808<=y.n/\y.n<=9223372036854775807)(M:∀v,bB (db x v) o g=db y v)(d:c.i<=code.length)(u:rT p hg ha hf hn ns)(l:cH p<=340000+10*j)(Y:iN p)(hi:i<p.ae.length) :
  gU code k i (j+1) (.loc 0 0::U::.loc 1 0::.loc 6 0::.v (ii (k:Nat))::.v (ii (i:Nat))::zU 97 []) ([eL code c,.box 28 [.v (.slice none 0 0),.v (.slice none 0 0),.v (.slice none 0 0),.v (.slice none 0 0)],.vech 9 1 (bs p.au) hg,.vech 79 2 (p.aq.map bb) ha,.vech 53 3 (p.av.map aI) hf,.gone,.box 28 [.v hg,.v ha,.v hf,.v hn],.vech 82 5 (dI (List.zipWith db p.ae ns) i o g) hn]++List.zipWith eT p.ae ns):=by
 refine⟨c,⟨p.au,p.aq,p.av,p.ae.set i y⟩,hg,ha,hf,hn,ns,rfl,?_,d,⟨u.g,u.a,u.f,u.n.same hx N⟩,?_,HP Y i B,by grind⟩
 ·unfold pZ b9;simp only;rw[<-EJ M u.n.len hx,Fu N hx];rfl
 grind[Q2]
theorem uH{aY:List Nd}{h:Value}{ns:List Value}(H:mP aY h ns){i:Nat}(hi:i<aY.length):∃x y,aY[i]?=some x/\ns[i]?=some y/\(List.zipWith db aY ns)[i]?=some [.v (ii x.aj),.v (ii x.at_),.v (ii x.n),.v (sv x.s),.v y]/\(List.zipWith db aY ns).length=aY.length:=by
 have hx:aY[i]?=some aY[i]:=cY _;have B:ns[i]?=some (ns[i]'(by rw[H.len];exact hi)):=cY _;exact⟨_,_,hx,B,by rw[getElem?_zipWith,hx,B];rfl,by rw[py,H.len,Nat.min_self]⟩
attribute [local irreducible] GW GL GO D GC GA bo bn oQ r7 ph
theorem D4(code:ah)(T:code.length<=1099511627776)(c:c9)(hc:c.i<=code.length) :
  GC prog 71 [.loc 0 0] [eL code c] (Aq code):=by
 refine ak func71 ntmps71 ?_;refine bP [0] (FV code T c hc) ?_;rintro _ _⟨c1,p,_,_,_,_,C,i1,⟨⟨O,R,rfl⟩,⟨N,Q,rfl⟩,⟨J,M,rfl⟩,⟨⟨an,S,rfl⟩,N2,N3⟩⟩,F,e,rfl,rfl⟩;unfold ql;refine zas ?_;have u:rT p (.slice O p.au.length R) (.slice N p.aq.length Q) (.slice J p.av.length M) (.slice an p.ae.length S) C:=⟨⟨_,_,rfl⟩,⟨_,_,rfl⟩,⟨_,_,rfl⟩,⟨⟨_,_,rfl⟩,N2,N3⟩⟩;have⟨k,c2,g1,i2,r1⟩:=oF T i1 14 L;refine GL.wk (Wk.unpack 5 rfl) ?_;simp only[oset,cons_append,nil_append];unfold b9;refine ja [0] g1 ?_;simp only[gL]
 by_cases h0:p.ae.length=0
 ·have Xa:(((p.ae.map aR).length:Int)==0)=true:=by grind
  refine GL.wk (c8:=.loc 0 0::U::.loc 1 0::.loc 6 0::U::U::U::U::U::.v (ii (k:Nat))::zU 93 []) (bE:=[eL code c2,.box 28 [.v (.slice none 0 0),.v (.slice none 0 0),.v (.slice none 0 0),.v (.slice none 0 0)],.vec 9 1 (bs p.au).length (bs p.au),.vec 79 2 (p.aq.map bb).length (p.aq.map bb),.vec 53 3 (p.av.map aI).length (p.av.map aI),.gone,.box 28 (aB p)]) ?_ ?_
  ·refine Wk.trans (Wk.H4 (code:=code) (c:=c2) u ?_) ?_
   ·simp
   ·exact Wk.a6 aC
  refine V ?_;refine dX ?_;exact⟨c2,p,i2,by omega,e,rfl,rfl⟩
 ·have Xa:((p.ae.length:Int)==0)=false:=by grind
  have⟨i,c3,g2,i3,r2⟩:=oF T i2 (p.ae.length:Int) L
  have o:i<p.ae.length:=by omega
  have F:cH p<=340000+10*0:=F;refine V ?_;refine ja [0] g2 ?_;simp only[gL];refine V ?_;refine GW.join (gU code k i 1) ?_ ?_
  ·by_cases hk:(k:Int)=0
   ·have B:((k:Int)==0)=true:=by grind
    have⟨x,y,hx,hy,A,j⟩:=uH u.n o;have⟨z,W,H,E,r3⟩:=nI T i3 16 L;refine zbg ?_;refine OA rfl rfl (GL.xj rfl rfl j A rfl rfl rfl rfl ?_);refine GL.nil (bg (df.mk ze0 ?_))
    refine iM dd eb ?_;refine bj ?_;exact⟨_,_,Wk.a6 aC,gU.put { x with aj:=z } hx rfl (Nat.le_add_right _ _) (e.ae x (bN hx)) (fun _=>rfl) E u F e o⟩
   ·have B:((k:Int)==0)=false:=by grind
    refine V ?_;exact⟨_,_,Wk.a6 aC,gU.next ⟨c3,p,_,_,_,_,C,rfl,rfl,i3,u,F,e,o⟩⟩
  refine gU.go fun c p O R N Q J M an S C G u F e o=>?_
  refine zcT ?_;refine GW.join (gU code k i 2) ?_ ?_
  ·by_cases hk:(k:Int)=1
   ·have B:((k:Int)==1)=true:=by grind
    have⟨x,y,hx,hy,A,j⟩:=uH u.n o;have⟨z,W,H,E,r3⟩:=nI T G 6 L;obtain⟨q,rfl⟩:∃q:Nat,z=(q:Int):=⟨z.toNat,by omega⟩;have hr:=ot (l:=[[],[88],[119,104,105,108,101],[111,107],[43],[45]]) (m:=q) ze2;have hp:=me (l:=[[],[88],[119,104,105,108,101],[111,107],[43],[45]]) (n:=5) aU (q:Int);generalize lr [[],[88],[119,104,105,108,101],[111,107],[43],[45]] (q:Int)=sg at *;refine V ?_;refine aV (aM 0 3 (.q 4 (.f 3 (.a 5 (aM 6 4 (.a 10 .nil))) 5 (.a 3 (aM 6 4 (.a 10 .nil)))))) ?_;refine ay ?_;refine GO.fork ?_ ?_
    ·refine zar ?_;refine jz [0] H ?_;simp only[gL];refine zaK ?_;refine OA rfl rfl (GL.xj rfl rfl j A rfl rfl rfl rfl ?_);refine GL.nil (bg (df.mk ze0 ?_))
     exact zbX
    ·refine jz [0] H ?_;simp only[gL];refine zca ?_;refine OQ rfl (D.jg 7 rfl rfl rfl j o) ?_;refine lx ?_;refine ay ?_;refine OA rfl rfl (GL.xj rfl rfl j A rfl rfl rfl rfl ?_);refine GL.nil (bg (df.mk ze0 ?_))
     exact zbX
   ·have B:((k:Int)==1)=false:=by grind
    exact zax
  refine gU.go fun c p O R N Q J M an S C G u F e o=>?_
  refine zcT ?_;refine GW.join (gU code k i 3) ?_ ?_
  ·by_cases hk:(k:Int)=2
   ·have B:((k:Int)==2)=true:=by grind
    have⟨x,y,hx,hy,A,j⟩:=uH u.n o;have⟨z,W,H,E,r3⟩:=CY T G;refine zbg ?_;refine OA rfl rfl (GL.xj rfl rfl j A rfl rfl rfl rfl ?_);refine GL.nil (bg (df.mk ze0 ?_))
    refine iM dd eb ?_;refine bj ?_;exact⟨_,_,Wk.a6 aC,gU.put { x with n:=z } hx rfl (Nat.le_add_right _ _) r3 (fun _=>rfl) E u F e o⟩
   ·have B:((k:Int)==2)=false:=by grind
    exact zax
  refine gU.go fun c p O R N Q J M an S C G u F e o=>?_
  refine zcT ?_;refine GW.join (gU code k i 4) ?_ ?_
  ·by_cases hk:(k:Int)=3
   ·have B:((k:Int)==3)=true:=by grind
    have⟨x,y,hx,hy,A,j⟩:=uH u.n o;obtain⟨a3,d3,rfl⟩:=u.n.kid i x y hx hy
    have Ho:p.ae.length<=1000000:=by grind[zd]
    have aar:x.aw.length<=1000000:=by have:=Y5 hx;omega
    have wy:(fO x.aw).length=x.aw.length:=by simp[fO]
    have YF:(List.zipWith eT p.ae C)[i]?=some (.vech 3 1 (fO x.aw) (.slice a3 x.aw.length d3)):=by rw[getElem?_zipWith,hx,hy];rfl
    have DU:=fun(y:Value)=>uh (x.aw++[((p.ae.length:Int)-1)]) y u.n.len hx
    have tV:=fun(y:Value)=>uf (x.aw++[((p.ae.length:Int)-1)]) y u.n.len hx
    have Ls:fO (x.aw++[((p.ae.length:Int)-1)])=fO x.aw++[[.v (ii ((p.ae.length:Int)-1))]]:=by simp[fO]
    rw[Ls]at tV
    have YR:=fun(a:Option Addr)(c:Nat)=>u.n.put hx (x.aw++[((p.ae.length:Int)-1)]) (b:=a) (d:=c) (n:=(fO x.aw).length+1) ze2
    have Z:∀x0 x1 x2 x3 x4 x5 x6 x7:Ob,(x0::x1::x2::x3::x4::x5::x6::x7::List.zipWith eT p.ae C)[i+8]?=some (.vech 3 1 (fO x.aw) (.slice a3 x.aw.length d3)):=fun _ _ _ _ _ _ _ _=>YF
    refine V ?_;refine aV (aM 0 13 (.a 13 (.a 14 (.q 15 (.q 16 (.a 17 .nil)))))) ?_;refine zaK ?_;refine OA rfl rfl (GL.Ce rfl rfl rfl rfl (GL.nil (bg (df.mk ze1 ?_))))
    refine iM dd eb ?_;refine ay ?_;refine OA rfl rfl (GL.mr (i+8) (news:=[[.v (ii ((p.ae.length:Int)-1))]]) rfl rfl (Z _ _ _ _ _ _ _ _) rfl rfl rfl ⟨by grind,by grind⟩ ?_);intro a4 W;refine GL.nil (bg (df.mk ze1 ?_))
    refine iM dd (by simp only[oset];rw[tV]) ?_;refine zaK ?_;refine OA rfl rfl (GL.xj rfl rfl j A rfl rfl rfl rfl ?_);refine GL.nil (bg (df.mk ze0 ?_))
    refine iM dd eb ?_;refine bj ?_;rw[DU];refine⟨_,_,Wk.a6 aC,c,⟨p.au,p.aq,p.av,p.ae.set i (cZ x (x.aw++[((p.ae.length:Int)-1)]))⟩,_,_,_,_,_,rfl,rfl,G,⟨u.g,u.a,u.f,YR _ _⟩,?_,HP e i ?_,by grind⟩
    ·have:=Q2 p i x (cZ x (x.aw++[((p.ae.length:Int)-1)])) hx;unfold cZ at *
     grind
    ·exact e.ae x (bN hx)
   ·have B:((k:Int)==3)=false:=by grind
    exact zax
  refine gU.go fun c p O R N Q J M an S C G u F e o=>?_
  refine zcT ?_;refine GW.join (gU code k i 5) ?_ ?_
  ·by_cases hk:(k:Int)=4
   ·have B:((k:Int)==4)=true:=by grind
    have⟨x,y,hx,hy,A,j⟩:=uH u.n o;have⟨z,W,H,E,r3⟩:=CY T G;refine zbg ?_;refine OA rfl rfl (GL.xj rfl rfl j A rfl rfl rfl rfl ?_);refine GL.nil (bg (df.mk ze0 ?_))
    refine iM dd eb ?_;refine bj ?_;exact⟨_,_,Wk.a6 aC,gU.put { x with at_:=z } hx rfl (Nat.le_add_right _ _) (e.ae x (bN hx)) (fun _=>rfl) E u F e o⟩
   ·have B:((k:Int)==4)=false:=by grind
    exact zax
  refine gU.go fun c p O R N Q J M an S C G u F e o=>?_
  unfold pZ b9;refine zbe ?_;refine GW.seq ?_;refine GW.seq ?_;refine GW.join (fun fr Γ=>∃(b:Bool)(c:c9)(p:Src)(hg X hf hn:Value)(C:List Value),fr=.loc 0 0::U::.loc 1 0::.loc 6 0::.v (ii (k:Nat))::.v (ii (i:Nat))::zU 79 (.v (.bool b)::zU 17 [])/\Γ=pZ code c p hg X hf hn C/\c.i<=code.length/\rT p hg X hf hn C/\cH p<=340000+10*5/\iN p/\i<p.ae.length/\(b=true->0<p.av.length)) ?_ ?_
  ·by_cases hk:(k:Int)=5
   ·have B:((k:Int)==5)=true:=by grind
    refine V ?_;exact⟨_,_,Wk.a6 aC,decide ((0:Int)<(p.av.length:Int)),c,p,_,_,_,_,C,rfl,rfl,G,u,F,e,o,fun h=>by grind⟩
   ·have B:((k:Int)==5)=false:=by grind
    refine V ?_;exact⟨_,_,Wk.a6 aC,false,c,p,_,_,_,_,C,rfl,rfl,G,u,F,e,o,fun h=>by cases h⟩
  rintro _ _⟨b,c,p,_,_,_,_,C,rfl,rfl,G,⟨⟨O,R,rfl⟩,⟨N,Q,rfl⟩,⟨J,M,rfl⟩,⟨⟨an,S,rfl⟩,N2,N3⟩⟩,F,e,o,Qm⟩;have u:rT p (.slice O p.au.length R) (.slice N p.aq.length Q) (.slice J p.av.length M) (.slice an p.ae.length S) C:=⟨⟨_,_,rfl⟩,⟨_,_,rfl⟩,⟨_,_,rfl⟩,⟨⟨_,_,rfl⟩,N2,N3⟩⟩;refine zcT ?_;refine GW.join (gU code k i 6) ?_ ?_
  ·cases b with
   |true =>
    have Qm:=Qm rfl
    obtain⟨f,r,Y⟩:∃f r,p.av=f::r:=by
     cases hq:p.av with
     |nil=>grind
     |cons f r=>simp
    have⟨z,W,H,E,r3⟩:=CY T G
    have A:(p.av.map aI)[0]?=some [.v (sv f.name),strs f.params,.v (ii f.body)]:=by rw[Y];rfl
    have B1:0<(p.av.map aI).length:=by grind
    refine V ?_;refine aV (aM 0 3 (.a 3 (.q 4 (.q 5 (.a 6 .nil))))) ?_;refine ay ?_;refine jz [0] H ?_;simp only[gL];refine ay ?_;refine OA rfl rfl (GL.xj rfl rfl rfl A rfl rfl rfl rfl ?_);refine GL.nil (bg (df.mk (by repeat (first|exact cw.n|(apply cw.w;(· decide +kernel))|(apply cw.y;(· first|(apply YQ.t;(· exact rfl);(· exact rfl);(· (first|exact D.QA 4 0 rfl rfl rfl rfl (ea _ _ _ _) B1|(first|exact dY|(apply K.idx;first|exact D.idxV rfl rfl rfl aH L|exact D.aS 0 rfl rfl rfl aE|exact D.aS 1 rfl rfl rfl aE|exact D.aS 2 rfl rfl rfl aE|exact D.aS 3 rfl rfl rfl aE|exact D.aS 4 rfl rfl rfl aE|exact D.aS 5 rfl rfl rfl aE|exact D.aS 6 rfl rfl rfl aE)|exact dZ|exact D.dV 1 rfl rfl aH aH|exact D.mv|exact D.iU|(apply K.bin;first|exact D.go rfl|exact D.gB rfl rfl L|exact D.fj rfl rfl|exact D.fm rfl rfl|exact D.kc rfl rfl|exact D.ke rfl rfl|exact D.cat rfl rfl L|exact D.cat rfl rfl zfv|exact D.gM rfl rfl L|exact D.add rfl rfl L|exact D.sub rfl rfl L|exact D.mul rfl rfl L|exact D.iq rfl rfl L|exact D.quo rfl rfl L|exact D.rem rfl rfl L|exact D.eP rfl rfl)|exact dP|exact dO|exact ey|exact dz|exact dG|(apply K.idx;first|exact D.eD rfl rfl aN|exact D.bM rfl rfl aN rfl|exact D.bM rfl rfl aN L|exact D.gi rfl rfl L)|exact D.ext rfl rfl|exact D.go rfl|(apply K.kF;first|exact D.im rfl rfl rfl L|exact D.il rfl rfl L|exact D.ik rfl rfl L|exact D.eg 1 rfl rfl rfl aH)|exact D.fM rfl rfl aN|exact D.idxSC rfl rfl aN rfl|exact dH|exact D.build rfl|exact D.neg rfl L|exact D.fL rfl rfl|exact D.jL rfl zfh|exact D.str rfl aH))))|(apply YQ.t;(· exact rfl);(· apply my;(· exact rfl);(· first|exact rfl|assumption));(· (first|exact D.QA 4 0 rfl rfl rfl rfl (ea _ _ _ _) B1|(first|exact dY|(apply K.idx;first|exact D.idxV rfl rfl rfl aH L|exact D.aS 0 rfl rfl rfl aE|exact D.aS 1 rfl rfl rfl aE|exact D.aS 2 rfl rfl rfl aE|exact D.aS 3 rfl rfl rfl aE|exact D.aS 4 rfl rfl rfl aE|exact D.aS 5 rfl rfl rfl aE|exact D.aS 6 rfl rfl rfl aE)|exact dZ|exact D.dV 1 rfl rfl aH aH|exact D.mv|exact D.iU|(apply K.bin;first|exact D.go rfl|exact D.gB rfl rfl L|exact D.fj rfl rfl|exact D.fm rfl rfl|exact D.kc rfl rfl|exact D.ke rfl rfl|exact D.cat rfl rfl L|exact D.cat rfl rfl zfv|exact D.gM rfl rfl L|exact D.add rfl rfl L|exact D.sub rfl rfl L|exact D.mul rfl rfl L|exact D.iq rfl rfl L|exact D.quo rfl rfl L|exact D.rem rfl rfl L|exact D.eP rfl rfl)|exact dP|exact dO|exact ey|exact dz|exact dG|(apply K.idx;first|exact D.eD rfl rfl aN|exact D.bM rfl rfl aN rfl|exact D.bM rfl rfl aN L|exact D.gi rfl rfl L)|exact D.ext rfl rfl|exact D.go rfl|(apply K.kF;first|exact D.im rfl rfl rfl L|exact D.il rfl rfl L|exact D.ik rfl rfl L|exact D.eg 1 rfl rfl rfl aH)|exact D.fM rfl rfl aN|exact D.idxSC rfl rfl aN rfl|exact dH|exact D.build rfl|exact D.neg rfl L|exact D.fL rfl rfl|exact D.jL rfl zfh|exact D.str rfl aH))))|(apply YQ.f;(· exact rfl);(· apply nf;(· exact rfl);(· first|exact rfl|assumption))))))) ?_))
    refine iM dd eb ?_;refine bj ?_;refine⟨_,_,Wk.a6 aC,W,⟨p.au,p.aq,({ name:=f.name,params:=f.params,body:=z }:Go.Sp.Fn)::r,p.ae⟩,_,_,.slice J p.av.length M,_,C,rfl,?_,E,⟨u.g,u.a,?_,u.n⟩,?_,⟨e.aq,e.ae⟩,o⟩
    ·unfold pZ b9;simp only;rw[Y];rfl
    ·exact⟨_,_,by rw[Y];rfl⟩
    grind[W3]
   |false =>
    exact zax
  refine gU.go fun c p O R N Q J M an S C G u F e o=>?_
  refine zcT ?_;refine GW.join (gU code k i 7) ?_ ?_
  ·by_cases hk:(k:Int)=6
   ·have B:((k:Int)==6)=true:=by grind
    have⟨z,W,H,E,r3⟩:=CY T G
    have He:p.aq.length<=1000000:=by grind[zd]
    have j:(p.aq.map bb).length=p.aq.length:=bS _;refine V ?_;refine aV (aM 0 3 (.a 3 (.q 4 (.a 5 (.a 6 (.q 7 (.a 8 .nil))))))) ?_;refine ay ?_;refine jz [0] H ?_;simp only[gL];refine zca ?_;refine OA rfl rfl (GL.mr 3 (news:=[[.v (sv [122,122]),.v (ii z)]]) rfl rfl rfl j rfl rfl ⟨by grind,by grind⟩ ?_);intro a5 c5;refine zaM ?_;refine⟨_,_,Wk.a6 aC,W,⟨p.au,p.aq++[⟨[122,122],z⟩],p.av,p.ae⟩,_,.slice a5 (p.aq.length+1) c5,_,_,C,rfl,?_,E,⟨u.g,⟨a5,c5,?_⟩,u.f,u.n⟩,?_,⟨fun a X=>?_,e.ae⟩,o⟩
    ·unfold pZ b9;simp only;rw[jK];rfl
    ·simp
    ·grind[W2,length_cons,length_nil]
    ·rcases pG X with X|X
     ·exact e.aq a X
     grind
   ·have B:((k:Int)==6)=false:=by grind
    exact zax
  refine gU.go fun c p O R N Q J M an S C G u F e o=>?_
  refine GW.wk (c8:=.loc 0 0::U::.loc 1 0::.loc 6 0::zU 99 []) (bE:=[eL code c,.box 28 [.v (.slice none 0 0),.v (.slice none 0 0),.v (.slice none 0 0),.v (.slice none 0 0)],.vec 9 1 (bs p.au).length (bs p.au),.vec 79 2 (p.aq.map bb).length (p.aq.map bb),.vec 53 3 (p.av.map aI).length (p.av.map aI),.gone,.box 28 (aB p)]) ?_ ?_
  ·refine Wk.trans (Wk.H4 (code:=code) (c:=c) u ?_) ?_
   ·simp
   ·exact Wk.a6 aC
  refine V ?_;refine dX ?_;exact⟨c,p,G,by omega,e,rfl,rfl⟩
end Go.Xg
namespace Go.Xg
open Go.RowKit Go.Xw Go.Proofs Tryz Go.Sp Go.Im
open GV (U)
theorem Sv{K:Fz}{β:Bt}{v a b c d x y:Value}(h:Rel K β v (.tup [.agg [.v a,.v b,.v c,.v d],.v x,.v y])):v=.tuple #[.agg #[a,b,c,d],x,y]:=by
 cases h with
 |tup l O M h =>
  match l,M with
  |[X,v1,v2],_ =>
   have o:=yC (h 0 _ _ rfl rfl);have q:=(h 1 _ _ rfl rfl).eE;have e:=(h 2 _ _ rfl rfl).eE
   grind
theorem Sw{K:Fz}(β:Bt){hg ha hf hn x y:Value}{p:Src}(e:bu K (fun _=>Bk.no) [hg,ha,hf,hn] (aB p)):Rel K β (.tuple #[.agg #[hg,ha,hf,hn],x,y]) (.tup [.agg (aB p),.v x,.v y]):=by
 have R:bu K β [hg,ha,hf,hn] (aB p):=bu.lY e (BQ p);have W:bu K β [.agg #[hg,ha,hf,hn],x,y] [.agg (aB p),.v x,.v y]:=.cons (.agg [hg,ha,hf,hn] _ R.1 R.2) (.cons (.v _) (.cons (.v _) .nil));exact .tup [.agg #[hg,ha,hf,hn],x,y] _ W.1 W.2
theorem uE(s:ah)(Q:s.length<=1000000000000):GC prog 98 [.v (sv s)] [] fun g Δ=>Δ=[]/\∃p c z,cH p<=340000/\iN p/\g=.tup [.agg (aB p),.v (ii c),.v (ii z)]:=fun B K β w vs M J H =>
 (Ap s Q B K β w vs M J H).mono fun v w' ⟨K',fX,g,bE,j,O,p,u,r,t,C,ns,c,z,G,S,d,l,m⟩=>by
  subst l;subst m;have⟨β2,b1,_,_,T⟩:=j.unpack (i:=3) (N:=b9 p.ae C ns) rfl;have⟨K1,k1,q1,W⟩:=T.nW (i:=0) (E:=9) (k:=1) (rows:=bs p.au) (x:=u) rfl;have⟨K2,k2,q2,X⟩:=W.nW (i:=1) (E:=79) (k:=2) (rows:=p.aq.map bb) (x:=r) rfl;have⟨K3,F,q3,Y⟩:=X.nW (i:=2) (E:=53) (k:=3) (rows:=p.av.map aI) (x:=t) rfl;have⟨q,o,q4,Z⟩:=Y.ui (A:=[.vec 9 1 (bs p.au).length (bs p.au),.vec 79 2 (p.aq.map bb).length (p.aq.map bb),.vec 53 3 (p.av.map aI).length (p.av.map aI),.gone]) G.n rfl ze2 rfl;have R:=Sv O;subst R;have b:=dJ.refl (fun _=>Bk.no);refine⟨q,_,.tup [.agg (aB p),.v (ii c),.v (ii z)],[],Z.cut (n:=0) ze2 rfl,?_,rfl,p,c,z,S,d,rfl⟩;have e:bu q (fun _=>Bk.no) [u,r,t,C] (aB p):=.cons ((q1.pc (fX:=fun _=>Bk.no) rfl).mono (k2.trans (F.trans o)) b) (.cons ((q2.pc (fX:=fun _=>Bk.no) rfl).mono (F.trans o) b) (.cons ((q3.pc (fX:=fun _=>Bk.no) rfl).mono o b) (.cons q4 .nil)));exact Sw _ e
def W7(code:ah)(g:GV)(k:ap):Prop:=∃(s:ah)(c:c9),c.i<=code.length/\s.length<=1000/\g=.v (sv s)/\k=[eL code c]
attribute [local irreducible] GW GL GO D GC GA bo bn oQ r7 ph
theorem LV(code:ah)(M:code.length<=1099511627776)(c:c9)(W:c.i<=code.length) :
  GC prog 101 [.loc 0 0] [eL code c] (W7 code):=by
 have⟨k,q,o,H,d⟩:=oF M W 25 L;refine ak func101 ntmps101 ?_;refine zab ?_;refine I [0] o ?_;refine GL.zY 1000 rfl rfl zfl (by show k<25;omega) rfl ?_;intro s G;refine zak ?_;refine bA ?_;exact⟨s,q,H,G,rfl,rfl⟩
theorem LW(code:ah)(M:code.length<=1099511627776)(c:c9)(W:c.i<=code.length) :
  GC prog 237 [.loc 0 0] [eL code c] (W7 code):=by
 have⟨k,q,o,H,d⟩:=oF M W 8 L;refine ak func237 ntmps237 ?_;refine zab ?_;refine I [0] o ?_;refine GL.zY 1000 rfl rfl zfl (by show k<8;omega) rfl ?_;intro s G;refine zak ?_;refine bA ?_;exact⟨s,q,H,G,rfl,rfl⟩
theorem yo(code:ah)(N:code.length<=1099511627776)(c:c9)(W:c.i<=code.length) :
  GC prog 34 [.loc 0 0] [eL code c] (Aq code):=by
 obtain⟨k,q,o,H,-⟩:=nI N W 3 L
 by_cases O:0<k
 ·have R:decide ((0:Int)<k)=true:=by grind
  refine ak func34 ntmps34 ?_;refine I [0] o ?_;refine bP [0] (D4 code N q H) ?_;rintro _ _⟨M,p,S,l,d,rfl,rfl⟩;refine zek ?_;exact⟨M,p,S,l,d,rfl,rfl⟩
 ·have R:decide ((0:Int)<k)=false:=by grind
  refine ak func34 ntmps34 ?_;refine I [0] o ?_;refine bP [0] (LV code N q H) ?_;rintro _ _⟨s,M,S,G,rfl,rfl⟩;exact zb1
theorem FZ(code:ah)(N:code.length<=1099511627776)(c:c9)(W:c.i<=code.length) :
  GC prog 178 [.loc 0 0] [eL code c] (Aq code):=by
 obtain⟨k,q,o,H,-⟩:=nI N W 2 L
 by_cases O:k=0
 ·have R:(k==0)=true:=by grind
  refine ak func178 ntmps178 ?_;refine I [0] o ?_;refine bP [0] (yo code N q H) ?_;rintro _ _⟨M,p,S,l,d,rfl,rfl⟩;refine zek ?_;exact⟨M,p,S,l,d,rfl,rfl⟩
 ·have R:(k==0)=false:=by grind
  refine ak func178 ntmps178 ?_;refine I [0] o ?_;refine bP [0] (LW code N q H) ?_;rintro _ _⟨s,M,S,G,rfl,rfl⟩;exact zb1
def nC:List ah:=[[97],[98],[100],[101],[109,97,105,110]]
theorem F0(code:ah)(j:code.length<=1099511627776)(c:c9)(b:c.i<=code.length) :
  GC prog 107 [.loc 0 0] [eL code c] (Aq code):=by
 obtain⟨k,z,A,C,-⟩:=nI j b 3 L
 by_cases Q:k=0
 ·have r:(k==0)=true:=by grind
  refine ak func107 ntmps107 ?_;refine I [0] A ?_;refine bP [0] (FZ code j z C) ?_;rintro _ _⟨o,p,w,B,s,rfl,rfl⟩;refine zek ?_;exact⟨o,p,w,B,s,rfl,rfl⟩
 ·have r:(k==0)=false:=by grind
  refine ak func107 ntmps107 ?_;refine I [0] A ?_;refine zab ?_;refine GW.range 5 (fun k d e=>∃out c,d=.loc 0 0::U::.loc 1 0::.v (sv out)::strs nC::zU 12 (strs nC::.v (ii ((5:Nat):Int))::.v (ii (k:Nat))::zU 32 [])/\e=[eL code c,.box 28 [.v (.slice none 0 0),.v (.slice none 0 0),.v (.slice none 0 0),.v (.slice none 0 0)]]/\c.i<=code.length/\out.length<=100*k) ?_ L ?_ ?_ ?_
  ·exact⟨_,_,Wk.a6 aC,[],z,rfl,rfl,C,bl _⟩
  ·rintro k _ _⟨out,c,rfl,rfl,_,_⟩;exact dS
  ·rintro k _ _ H⟨out,c,rfl,rfl,b,t⟩;have S:=ot (l:=nC) (m:=k) (by show k<5;omega);have R:=me (l:=nC) (n:=4) aU (k:Int);generalize lr nC (k:Int)=T at *;have⟨n,o,F,w,X⟩:=oF j b 3 L;refine V ?_;refine I [0] F ?_;refine GW.zJ (fun d e=>∃out c,d=.loc 0 0::U::.loc 1 0::.v (sv out)::strs nC::zU 12 (strs nC::.v (ii ((5:Nat):Int))::.v (ii (k:Nat))::zU 32 [])/\e=[eL code c,.box 28 [.v (.slice none 0 0),.v (.slice none 0 0),.v (.slice none 0 0),.v (.slice none 0 0)]]/\c.i<=code.length/\out.length<=100*k+90) ?_ ?_
   ·refine GW.loop (fun x:Nat=>x) (fun x d e=>∃out c,d=.loc 0 0::U::.loc 1 0::.v (sv out)::strs nC::U::U::.v (ii (x:Nat))::U::U::U::U::U::U::U::U::U::strs nC::.v (ii ((5:Nat):Int))::.v (ii (k:Nat))::zU 32 []/\e=[eL code c,.box 28 [.v (.slice none 0 0),.v (.slice none 0 0),.v (.slice none 0 0),.v (.slice none 0 0)]]/\c.i<=code.length/\out.length+10*x<=100*k+90) n ?_ ?_
    ·exact⟨_,_,Wk.a6 aC,_,o,rfl,rfl,w,by grind⟩
    ·rintro x _ _⟨out,c,rfl,rfl,b,t⟩
     cases x with
     |zero =>
      refine ew ?_;exact⟨_,_,Wk.a6 aC,out,c,rfl,rfl,b,by omega⟩
     |succ x =>
      have N:decide ((0:Int)<((x+1:Nat):Int))=true:=decide_eq_true L
      have u:(((x+1:Nat):Int)-1)=(x:Int):=by omega
      have⟨q,E,G,O,Y⟩:=oF j b 5 L;have M:=ot (l:=nC) (m:=q) (by show q<5;omega);have J:=me (l:=nC) (n:=4) aU (q:Int);generalize lr nC (q:Int)=W at *;refine V ?_;refine I [0] G ?_;rw[u];exact⟨x,⟨_,_,Wk.a6 aC,_,E,rfl,rfl,O,by grind⟩,by omega⟩
   ·rintro _ _⟨out,c,rfl,rfl,b,t⟩;refine V ?_;exact⟨rfl,rfl,_,_,Wk.a6 aC,_,c,rfl,rfl,b,by grind⟩
  ·rintro _ _⟨out,c,rfl,rfl,b,t⟩;refine zcl ?_;refine bP [] (uE out L) ?_;rintro _ _⟨rfl,p,Z,z2,B,s,rfl⟩;refine zek ?_;exact⟨c,p,b,by omega,s,rfl,rfl⟩
theorem F1(code:ah)(N:code.length<=1099511627776)(c:c9)(W:c.i<=code.length) :
  GC prog 42 [.loc 0 0] [eL code c] (Aq code):=by
 obtain⟨k,r,o,H,-⟩:=nI N W 4 L
 by_cases O:k=0
 ·have S:(k==0)=true:=by grind
  refine ak func42 ntmps42 ?_;refine I [0] o ?_;refine bP [0] (F0 code N r H) ?_;rintro _ _⟨M,p,R,l,d,rfl,rfl⟩;refine zek ?_;exact⟨M,p,R,l,d,rfl,rfl⟩
 ·have S:(k==0)=false:=by grind
  by_cases v:k=1
  ·have m:(k==1)=true:=by grind
   have⟨q,M,b,R,T⟩:=oF N H 3 L;refine ak func42 ntmps42 ?_;refine I [0] o ?_;refine zab ?_;refine I [0] b ?_;refine GL.zY 1000 rfl rfl zfl (by show q<3;omega) rfl ?_;intro s G;refine bh ?_;refine bP [] (uE s L) ?_;rintro _ _⟨rfl,p,Z,e,l,d,rfl⟩;refine zek ?_;exact⟨M,p,R,by omega,d,rfl,rfl⟩
  ·have m:(k==1)=false:=by grind
   refine ak func42 ntmps42 ?_;refine I [0] o ?_;refine bP [0] (yo code N r H) ?_;rintro _ _⟨M,p,R,l,d,rfl,rfl⟩;refine zek ?_;exact⟨M,p,R,l,d,rfl,rfl⟩
end Go.Xg
namespace Go.Xg
open Go.RowKit Go.Xw Go.Proofs Go.Sp Go.Im
theorem Rk{K:Fz}(β:Bt){hg ha hf hn:Value}{p:Src}(e:bu K (fun _=>Bk.no) [hg,ha,hf,hn] (aB p)):Rel K β (.agg #[hg,ha,hf,hn]) (.agg (aB p)):=by
 have R:bu K β [hg,ha,hf,hn] (aB p):=bu.lY e (BQ p);exact .agg [hg,ha,hf,hn] _ R.1 R.2
attribute [local irreducible] GW GL GO D GC GA bo bn oQ r7 ph
end Go.Xg
namespace Go.Xg
open Go.RowKit Go.Xw Go.Proofs Go.Im
section
variable{P:Program}{m:Nat}{Q:dQ}{fr:am}{Γ:ap}{ops:Array Oper}{rest:List Oper}{d:Option Tmp}{op:Op}{ty:TypeId}{pos:String}{af:Array Edge}
theorem BZ:∀(fr:am)(t:Nat)(a b:GV),bB (bB fr t a) t b=bB fr t b
 |[],t,a,b=>rfl
 |x::fr,0,a,b=>rfl
 |x::fr,t+1,a,b=>by simp only[bB,BZ fr t a b]
theorem BU:∀(fr:am)(t:Nat)(g:GV),iy fr t=true->bx (bB fr t g) t=g
 |[],t,g,h=>by cases h
 |x::fr,0,g,h=>rfl
 |x::fr,t+1,g,h=>BU fr t g h
theorem D0:∀(fr:am)(t u:Nat)(g:GV),iy (bB fr t g) u=iy fr u
 |[],t,u,g=>rfl
 |x::fr,0,0,g=>rfl
 |x::fr,0,u+1,g=>rfl
 |x::fr,t+1,0,g=>rfl
 |x::fr,t+1,u+1,g=>D0 fr t u g
theorem GL.Dj{s x:Operand}{t e k l:Nat}[u:mO P t e k l]{i fz:Nat}{O:Tmp}{news:List am}(hx:bf fr x=.sl k news)(G:bf fr s=.vec i 0)(o:Γ[i]?=some (.vec e k fz []))(r:iz news=true)(q:iy fr O=true)
  (j:0+news.length<=9223372036854775807/\(0+news.length)*l<=140737488355328)
  (h:GL P m ops Q rest (bI fr (some O) (.sl k news)) (oset Γ i (.vec e k news.length news))) :
  GL P m ops Q (⟨some O,.call ⟨.builtin .append,#[s,x],#[t,t]⟩,ty,pos,af,none⟩::rest) fr Γ:=by
 refine GL.vB hx G o rfl r j ?_;have v:=(b6 o).1;refine GL.wk (Wk.jJ (t:=O) (i:=i) (n:=0+news.length) (E:=e) (k:=k) (fz:=fz) (rows:=[]++news) (BU fr O _ q) (by show iy (bB fr O _) O=true;grind[D0]) ?_ ze3) ?_
 ·simp_all[bD,eR,ai]
 ·show GL P m ops Q rest (bB (bB fr O _) O _) _;rw[BZ,bD,bD,List.set_set,nil_append,dy,<-bD];exact h
end
end Go.Xg
namespace Go.Im
open Go.Xp Go.Sp Go.Mn
theorem SE{t:M}:(rZ t).out=t.out/\(rZ t).bd=t.bd:=by unfold rZ;grind
theorem O5(p:Src)(S:List Int)(A:Int):(lT p S A).out.length<=20000:=by
 cases c:fk p with
 |false=>unfold lT;rw[ab ze2];grind[Dl]
 |true =>
  have⟨l,X⟩:=sE c;rw[si X c,SE.1];have⟨v,Q⟩:=xS (O:=oP) (F:=kE A) (B:=mF p l) (mF p l (jd p lQ).toNat) (pe p S);have w:=(Cu X S (kE A)).ev Q;have z:=w.out;have R:=w.bd
  have W:kE A<=20000:=by grind[kE]
  grind[sj]
end Go.Im
namespace Go.Im
open Go.Xp Go.Sp
theorem Oi{p:Src}(h:fk p=true):∀f∈p.av,f.params.length<=40:=by
 unfold fk at h;rw[aZ]at h;have⟨m,h⟩:=h;have⟨l,M⟩:=jH m;rw[M.r8]at h;simp only[decide_eq_true_eq]at h;unfold wI at h;split at h
 ·cases h
 split at h
 ·cases h
 rename_i b
 have G:gS p=false:=by simpa using b
 unfold gS at G;simp only[Bool.or_eq_false_iff,List.any_eq_false,decide_eq_true_eq]at G;intro f m;have:=G.2.2 f m;omega
end Go.Im
namespace Go.Xg
open Go.RowKit Go.Xw Go.Proofs Tryz Go.Sp Go.Im
open Go.Xp (aP)
theorem GC.JL{P:Program}{f:FuncId}{args:am}{E k n:Nat}{rows:List am}(h:GC P f args [] fun g r=>∃a c,g=.v (.slice a n c)/\r=[.vech E k rows (.slice a n c)]):GF P f args [] (.sl k rows) []:=fun B K s w q j l O =>
 (h B K s w q j l O).mono fun v Z ⟨T,u,g,A,F,z,a,c,X,o⟩=>by
  subst X;subst o;have⟨M,Q,S,R⟩:=F.nW (i:=0) rfl;have m:=Rel.eE z;refine⟨M,_,.sl k rows,[],R.cut (n:=0) (by rw[j];exact a8 _) rfl,?_,rfl,rfl⟩;rw[m];exact S.pc rfl
attribute [local irreducible] GW GL GO D GC GA bo bn
theorem C7(p:Src)(q:cH p<=1048576)(hn:iN p):∃c z,GF prog 16 [.agg (aB p)] [] (.tup [.v (ii c),.v (ii z)]) []/\(c==0)=fk p:=by
 have⟨⟨a1,F⟩,⟨r,s⟩,⟨u,R⟩,⟨E,W⟩⟩:=gg p;have O:=nY p q hn
 cases m:fI p with
 |false =>
  rw[m]at O;exact⟨_,_,BJ p O,by rw[yO m];rfl⟩
 |true =>
  rw[m]at O;have⟨l,M⟩:=jH m;have d:=eo.len M.av;have k:=lU p;have N:=wE M
  have X:=zi p l (bO p) L d L O (pY p q) (CB p L L fun a A=>⟨(N a A).1,by have:=(N a A).2;omega⟩) fun i f t o b=>by
   have⟨w,_⟩:=eo.at_ M.av i f t o b;have Q:=cJ.ix l 0 i _ M.st b;rw[dy]at w Q
   have j:f.body.toNat=aP (l.take i):=by rw[w,eV]
   have B:=xV (bN b);exact zbD
  exact⟨_,_,X,(wT m M).symm⟩
end Go.Xg
namespace Go.Xg
open Go.RowKit Go.Xw Go.Proofs Go.Im
open Go.Xp (T)
open Go.Sp (Src)
attribute [local irreducible] GW GL GO D GC GA bo bn
def Dh(q:Src)(c:Int)(g:GV)(k:ap):Prop:=∃X w l d z o,Dg q X w l d z o/\g=.tup [.agg [.v X,.v w,.v l,.v d],.v (ii c)]/\k=qm q X w l d z o
theorem SV(c:Int):Dh kL c (.tup [.agg [.v (.slice none 0 0),.v (.slice none 0 0),.v (.slice none 0 0),.v (.slice none 0 0)],.v (ii c)]) [.vech 9 1 [] (.slice none 0 0),.vech 79 2 [] (.slice none 0 0),.vech 53 3 [] (.slice none 0 0),.vech 82 5 [] (.slice none 0 0)] :=
 ⟨_,_,_,_,[],[],⟨⟨none,0,rfl⟩,⟨none,0,rfl⟩,⟨none,0,rfl⟩,⟨none,0,rfl⟩,rfl,rfl,(fun i x y h=>by simp[kL]at h),fun i x y h=>by simp[kL]at h⟩,rfl,rfl⟩
theorem O7:∀x∈[Ob.vech 9 1 [] (.slice none 0 0),.vech 79 2 [] (.slice none 0 0),.vech 53 3 [] (.slice none 0 0),.vech 82 5 [] (.slice none 0 0)],x.kl=true:=fun x hx=>by
 simp only[List.mem_cons,List.not_mem_nil,or_false]at hx
 rcases hx with rfl|rfl|rfl|rfl<;>rfl
theorem GW.kL{P:Program}{fn:Func}{Q:dQ}{t u:Tmp}{T:TypeId}[n:Ty P T true 4]{i:Nat}{E:TypeId}{c:Int}{fr:am}{Γ:ap}(w:fn.results=#[.cell t T,.tmp u])(hg:bx fr t=.loc i 0)(hi:i<Γ.length)(o:Γ[i]?=some (.box E [.v (.slice none 0 0),.v (.slice none 0 0),.v (.slice none 0 0),.v (.slice none 0 0)]))(z:bx fr u=.v (ii c))
  (J:∀fr Γ,oZ P fn 0 (Dh Go.Im.kL c) .ret fr Γ->Q .ret fr Γ):GW P 0 .ret Q fr Γ:=by
 refine zcK ?_;refine zey ?_;simp only[gK,cons_append,nil_append];refine GW.ret ?_;refine J _ _ ?_;exact Ld [] Γ _ w (.inr rfl) hg (by rw[gA hi];exact o) rfl rfl z rfl (fun x h=>by cases h) O7 (SV c)
end Go.Xg
namespace Go.Xg
open Go.RowKit Go.Xw Go.Proofs Go.Sp Go.Im
theorem Pb{K:Fz}{β:Bt}{v a b c d x:Value}(h:Rel K β v (.tup [.agg [.v a,.v b,.v c,.v d],.v x])):v=.tuple #[.agg #[a,b,c,d],x]:=by
 cases h with
 |tup l O M h =>
  match l,M with
  |[X,v1],_ =>
   have o:=yC (h 0 _ _ rfl rfl);have q:=(h 1 _ _ rfl rfl).eE
   grind
theorem Pc{K:Fz}(β:Bt){hg ha hf hn x:Value}{p:Src}(e:bu K (fun _=>Bk.no) [hg,ha,hf,hn] (aB p)):Rel K β (.tuple #[.agg #[hg,ha,hf,hn],x]) (.tup [.agg (aB p),.v x]):=by
 have W:bu K β [.agg #[hg,ha,hf,hn],x] [.agg (aB p),.v x]:=.cons (Rk β e) (.cons (.v _) .nil);exact .tup [.agg #[hg,ha,hf,hn],x] _ W.1 W.2
theorem GC.SM{P:Program}{f:FuncId}{args:am}{q:Src}{c:Int}(h:GC P f args [] (Dh q c)):GF P f args [] (.tup [.agg (aB q),.v (ii c)]) []:=fun B K r w m k j Q =>
 (h B K r w m k j Q).mono fun v b ⟨S,u,g,A,F,z,X,E,t,d,C,G,H,J,o⟩=>by
  subst J;subst o;obtain⟨O,Z,T,R,e,_⟩:=MN (s:=0) H (fun i x hx=>by grind) F;have l:=Pb z;subst l;refine⟨O,_,.tup [.agg (aB q),.v (ii c)],[],R.cut (n:=0) ze2 rfl,?_,rfl,rfl⟩;exact Pc _ e
attribute [local irreducible] GW GL GO D GC GA bo bn oQ r7 ph
end Go.Xg
set_option maxHeartbeats 2000000
namespace Go.Xg
open Go.RowKit Go.Xw Go.Proofs Tryz Go.Im
open GV (U)
open Go.Sp (Src)
attribute [local irreducible] GW GL GO D GC GA bo bn
theorem Ke(p:Src)(O:GF prog 76 [.agg (aB p)] [] (.v (.bool false)) []):GF prog 77 [.agg (aB p)] [] (strs []) []:=by
 refine GC.le (g:=.v (.slice none 0 0)) ?_ mq.nil;refine ak func77 ntmps77 ?_;exact zeQ
theorem IK(p:Src)(z:cH p<=1048576)(S:GF prog 76 [.agg (aB p)] [] (.v (.bool true)) []):GF prog 77 [.agg (aB p)] [] (strs (bO p)) []:=by
 have⟨⟨a1,G⟩,⟨o,q⟩,⟨r,M⟩,⟨E,W⟩⟩:=gg p
 have Q:(p.au.map fun s=>[GV.v (sv s)]).length=p.au.length:=by simp
 have F:iz (p.au.map fun s=>[GV.v (sv s)])=true:=sq p.au;refine ak func77 ntmps77 ?_;refine I [] S ?_;refine nF ?_;refine V ?_;refine GL.vB rfl rfl rfl rfl F (by refine⟨?_,?_⟩;(· rw[Q];omega);(· rw[Q];omega)) ?_;rw[Q];refine bh ?_;simp only[dy];refine V ?_;refine GW.range (p.aq.map bb).length (fun k J u=>∃R n,J=U::.loc 0 0::U::.vec 1 n::zU 12 (.sl 2 (p.aq.map bb)::.v (ii ((p.aq.map bb).length:Int))::.v (ii (k:Nat))::zU 23 [])/\u=[.box 28 (aB p),.vec 9 1 0 R]/\R.length=n/\R=bs (p.au++(dE p).take k)) ?_ zfq ?_ ?_ ?_
 ·exact⟨_,_,Wk.a6 aC,_,_,rfl,rfl,Q,by simp[bs,chunk]⟩
 ·rintro k _ _⟨R,n,rfl,rfl,_⟩;exact dS
 ·rintro k _ _ N⟨R,n,rfl,rfl,O,i⟩
  have N:k<p.aq.length:=by simpa using N
  have hx:p.aq[k]?=some p.aq[k]:=by simp[N]
  have w:=tt hx
  have l:bs (p.au++(dE p).take (k+1))=R++[[.v (sv p.aq[k].name)]]:=by
   have:(dE p)[k]?=some p.aq[k].name:=by rw[dE,dR,hx];rfl
   rw[c7,this,i];simp[bs]
  have j:n<=4194304:=by
   rw[<-O,i,ij,bp,iC];omega
  have m:n+1<=9223372036854775807/\(n+1)*16<=140737488355328:=by omega
  clear i;unfold bb at w;generalize p.aq[k]=x at *;exact zcg
 ·rintro _ _⟨R,n,rfl,rfl,O,i⟩;rw[bS,show p.aq.length=(dE p).length by simp[dE],dx]at i;refine zcl ?_;refine GW.range (p.av.map aI).length (fun k J u=>∃R n,J=U::.loc 0 0::U::.vec 1 n::zU 25 [.sl 3 (p.av.map aI),.v (ii ((p.av.map aI).length:Int)),.v (ii (k:Nat)),U,U,U,U,U,U,U,U,U,U]/\u=[.box 28 (aB p),.vec 9 1 0 R]/\R.length=n/\R=bs ((p.au++dE p)++(ez p).take k)) ?_ zfq ?_ ?_ ?_
  ·exact⟨_,_,Wk.a6 aC,_,_,rfl,rfl,O,by rw[i];simp⟩
  ·rintro k _ _⟨R,n,rfl,rfl,_⟩;exact dS
  ·rintro k _ _ N⟨R,n,rfl,rfl,O,i⟩
   have N:k<p.av.length:=by simpa using N
   have hx:p.av[k]?=some p.av[k]:=by simp[N]
   have w:=qi hx
   have l:bs ((p.au++dE p)++(ez p).take (k+1))=R++[[.v (sv p.av[k].name)]]:=by
    have:(ez p)[k]?=some p.av[k].name:=by rw[ez,dR,hx];rfl
    rw[c7,this,i];simp[bs]
   have j:n<=4194304:=by
    rw[<-O,i,ij,bp,bp,iC,dE,bS];omega
   have m:n+1<=9223372036854775807/\(n+1)*16<=140737488355328:=by omega
   clear i;unfold aI at w;generalize p.av[k]=x at *;exact zcg
  ·rintro _ _⟨R,n,rfl,rfl,O,i⟩;rw[bS,show p.av.length=(ez p).length by simp[ez],dx]at i;refine zcl ?_;refine GW.wk (Wk.jJ (t:=2) rfl rfl rfl O) ?_;refine zaW ?_;exact⟨by rw[i];rfl,rfl⟩
theorem Gn(p:Src)(m:cH p<=1048576):GF prog 77 [.agg (aB p)] [] (strs (qg p)) []:=by
 have O:=tI p m;unfold qg
 cases l:fI p with
 |false=>rw[l]at O;exact Ke p O
 |true=>rw[l]at O;exact IK p m O
theorem NC(p:Src)(O:GF prog 64 [.agg (aB p)] [] (.v (.bool false)) []):GC prog 22 [.agg (aB p)] [] fun g k=>∃a c,g=.v (.slice a 0 c)/\k=[.vech 9 1 [] (.slice a 0 c)]:=by
 refine dj func22 ntmps22 ?_;refine GW.wk (Wk.eS 9 1) ?_;simp only[nil_append];refine V ?_;refine I [] O ?_;refine lG ?_;exact qb (n:=1) rfl fH rfl (bl _) rfl rfl ⟨_,_,rfl,rfl⟩
theorem Kf(p:Src)(n:Nat)(R:List am)(O:GF prog 64 [.agg (aB p)] [] (.v (.bool true)) [])(m:GC prog 47 [.agg (aB p)] [] fun g k=>∃a c,g=.v (.slice a n c)/\k=[.vech 9 1 R (.slice a n c)]) :
  GC prog 22 [.agg (aB p)] [] fun g k=>∃a c,g=.v (.slice a n c)/\k=[.vech 9 1 R (.slice a n c)]:=by
 refine ak func22 ntmps22 ?_;refine I [] O ?_;refine bP [] m ?_;rintro _ _⟨a,c,rfl,rfl⟩;refine zas ?_;refine lG ?_;refine Wb 1 rfl fH rfl ?_ ?_
 ·intro x hx;rw[J0 hx];rfl
 ·exact⟨_,_,rfl,rfl⟩
theorem An(p:Src)(m:cH p<=1048576)(hn:iN p):GC prog 22 [.agg (aB p)] [] fun g k=>∃a c,g=.v (.slice a (qg p).length c)/\k=[.vech 9 1 (bs (qg p)) (.slice a (qg p).length c)]:=by
 have O:=nY p m hn;unfold qg
 cases l:fI p with
 |false=>rw[l]at O;exact NC p O
 |true=>rw[l]at O;exact Kf p _ _ O (pY p m)
end Go.Xg
set_option maxHeartbeats 4000000
namespace Go.Xg
open Go.RowKit Go.Xw Go.Proofs Tryz Go.Im
open GV (U)
open Go.Xp (T be aP dU fR cv ki bm qe lH jE jl iJ)
section
variable{P:Program}{m:Nat}{Q:dQ}{fr:am}{Γ:ap}{ops:Array Oper}{rest:List Oper}{d:Option Tmp}{op:Op}{ty:TypeId}{pos:String}{af:Array Edge}
theorem GL.WG{t:TypeId}{z:Value}{agg:Bool}{k:Nat}[hZ:oX P t z][hT:Ty P t agg k]{c ts i u:Tmp}{cs:am}{ty2 ty3:TypeId}{H J:String}{O S:Array Edge}{T:Option Tmp}(Qv:z.cells.size=k)(hy:lN (bx fr ts)=some cs)(C:(Nat.beq ts c ||Nat.beq ts i ||Nat.beq i c ||Nat.beq u c)=false)(X:iy fr c=true)(hk:cs.length=k)(h1:nq cs=true)(hp:lY cs=true)
  (h:GL P m ops Q rest (bI (bI (bI fr (some c) (.box cs 0)) (some i) (bx fr u)) T (.v undef)) Γ):GL P m ops Q (⟨some c,.alloc t,ty,pos,af,none⟩::⟨some i,.assign (.tmp u),ty3,J,S,none⟩::⟨T,.store t (.tmp c) (.tmp ts),ty2,H,O,none⟩::rest) fr Γ:=fun B K β w l hm hI M=>by
 refine WL.alloc (z:=z) fun b w1 A=>?_
 have⟨r,o,q⟩:=(M.nth ts).cells hy;simp only[Bool.or_eq_false_iff]at C;have⟨⟨⟨n1,n2⟩,n3⟩,n4⟩:=C
 have Y:ts≠c:=by intro e;subst e;simp at n1
 have Z:ts≠i:=by intro e;subst e;simp at n2
 have Uj:i≠c:=by intro e;subst e;simp at n3
 have Uk:u≠c:=by intro e;subst e;simp at n4
 refine WL.v R.iU ?_;have hu':ev (put l (some c) (.pointer (some ⟨b,0,none⟩))) (.tmp u)=nth l u:=j4 Uk _;rw[hu'];have XR:ev (put (put l (some c) (.pointer (some ⟨b,0,none⟩))) (some i) (nth l u)) (.tmp ts)=nth l ts:=(j4 Z _).trans (j4 Y _);have XP:ev (put (put l (some c) (.pointer (some ⟨b,0,none⟩))) (some i) (nth l u)) (.tmp c)=.pointer (some ⟨b,0,none⟩):=(j4 (fun e=>Uj e.symm) _).trans (sG (nz M X) _)
 have G:r.length=k:=by rw[q.1,hk]
 refine WL.st (t:=t) (k:=k) XP XR A.blk (by rw[o];simpa using G) L (by rw[o];simpa using q.lf h1) fun w2 N=>?_
 have F:setL z.cells 0 r=r.toArray:=by
  have:=uj r z.cells.toList 0;rw[Cs r _ (by rw[Array.length_toList,Qv,G])]at this;exact zdc
 rw[o,List.toList_toArray,F]at N;have E:tK w w2 b (.cells r.toArray t):=⟨A.fresh,by rw[N.size];exact A.size,N.blk,A.ext.step N.ext fun j hj=>.inl (by subst hj;rw[A.fresh];exact a8 _)⟩;have⟨s,W⟩:=hI.rH E q (kp hp);exact h B _ β w2 _ hm W ((((M.mono s (dJ.refl β)).put (some c) (Rel.box (K:=jQ K b cs) (β:=β) b 0 0 cs (fun j g hg=>by rw[dy];exact Gr hg))).put (some i) ((M.nth u).mono s (dJ.refl β))).put T (.v _))
end
def xc(β:Bt)(f:Nat->Nat)(N:Nat):Bt:=fun i=>if i<N then β (f i)else .no
section
variable{m n:Nat}{fr:am}{Γ Δ:ap}{f:Nat->Nat}
theorem Wk.perm(hm:m<=n)(hn:n<=Δ.length)(hf:∀i,i<n->f i=i)(hi:∀i j,i<Δ.length->j<Δ.length->f i=f j->i=j)(hx:∀(i:Nat)x,Δ[i]?=some x->Γ[f i]?=some x/\(n<=i->x.kl=true))(X:qh n (Γ.take n)=true):Wk m fr Γ (rW n fr) Δ:=fun B K r w l Z s W=>by
 have h:=s.cut (n:=n) L X
 have o:dJ (dD (below n) r) (xc r f Δ.length):=fun i=>by
  by_cases c:i<n
  ·rw[pN (sy c)];unfold xc;rw[ai L,hf i c];exact kb.refl _
  ·rw[sI (uI L)];trivial
 have u:∀i b,(xc r f Δ.length i).has b->i<Δ.length/\(r (f i)).has b:=fun i b hi=>by
  unfold xc at hi;split at hi
  ·rename_i h;exact⟨h,hi⟩
  ·cases hi
 refine⟨K,xc r f Δ.length,⟨h.ext,h.kle,h.ble.trans o,h.loc,h.fz,fun i x t=>?_,fun i e=>?_,fun i j b e z=>?_,fun i b e=>?_,h.kn,⟨h.tab.le,h.tab.pow,h.tab.spc,fun i b e=>?_⟩⟩,(W.res).mono (c6.refl K) o⟩
 ·have⟨e,z⟩:=hx i x t;have A:=(b6 t).1
  have q:xc r f Δ.length i=r (f i):=by unfold xc;rw[ai A]
  by_cases c:i<n
  ·rw[hf i c]at e q;exact(h.ob i x (by rw[List.getElem?_take,ai c];exact e)).ext (S:=gx) (Ext.refl w) (fun _ _ h=>h) (c6.refl K) o (by rw[q,pN (sy c)]) (fun _ _ _ h=>h)
  ·have T:=z L
   cases x with
   |vech E k F v =>
    have⟨Y,M,N,O,C,R⟩:=s.ob _ _ e;exact⟨Y,by rw[q];exact M,N,O.lY C.flat,C,R⟩
   |_=>cases T
 ·unfold xc;rw[ab L]
 ·have⟨a1,G⟩:=u i b e;have⟨H,J⟩:=u j b z;exact hi i j a1 H (s.dis _ _ b G J)
 ·exact s.own _ b (u i b e).2
 ·exact s.tab.free _ b (u i b e).2
end
theorem Wk.move{m:Nat}{fr:am}{Γ:ap}(A C:ap){x:Ob}(q:Γ=A++(C++[x]))(k:m<=A.length)(r:qh A.length A=true)(R:∀y∈C,y.kl=true)(hx:x.kl=true):Wk m fr Γ (rW A.length fr) (A++x::C):=by
 subst q;refine Wk.perm (n:=A.length) (f:=fun i=>if i<A.length then i else if i=A.length then A.length+C.length else i-1) k ze3 (fun i h=>by simp[h]) (fun i j o b h=>?_) (fun i y B=>?_) (by rw[List.take_left];exact r)
 ·simp only[bp,length_cons]at o b
  try simp only at h
  split at h<;>split at h<;>(try split at h)<;>(try split at h)<;>omega
 ·by_cases o:i<A.length
  ·rw[gA o]at B;refine⟨?_,fun h=>by omega⟩;simp only[o,if_true];rw[gA o];exact B
  ·rw[hO L]at B
   by_cases b:i=A.length
   ·subst b;rw[qs]at B;cases B;refine⟨?_,fun _=>hx⟩;simp only[Nat.lt_irrefl,if_false,if_true];rw[hO L,Nat.add_sub_cancel_left,hO (a8 _),qs];rfl
   ·obtain⟨j,rfl⟩:∃j,i=A.length+(j+1):=⟨i-A.length-1,by omega⟩;rw[Nat.add_sub_cancel_left,List.getElem?_cons_succ]at B;have Y:=(b6 B).1;refine⟨?_,fun _=>R y (bN B)⟩;simp only[o,b,if_false];rw[show A.length+(j+1)-1=A.length+j by omega,hO L,Nat.add_sub_cancel_left,gA Y];exact B
theorem Wk.WD{m:Nat}{fr:am}{a b c d e x:Ob}(F C:ap)(j:m<=F.length+5)(o:oq (below (F.length+5)) [a,b,c,d,e]=true)(i:∀q,oq q F=true)(R:∀y∈C,y.kl=true)(hx:x.kl=true):Wk m fr (a::b::c::d::e::((F++C)++[x])) (rW (F.length+5) fr) (a::b::c::d::e::(F++x::C)) :=
 Wk.move (a::b::c::d::e::F) C ze3 j (by show oq (below (F.length+5)) ([a,b,c,d,e]++F)=true;rw[Ba,o,i];rfl) R hx
theorem GL.NP{P:Program}{m:Nat}{Q:dQ}{fr:am}{ops:Array Oper}{rest:List Oper}{O:Option Tmp}{ty:TypeId}{pos:String}{af:Array Edge}{f:FuncId}[hf:fQ P f]{a b c d e x:Ob}(F X:ap){args:List Operand}{T:Array TypeId}{gs:am}{R:GV->ap->Prop}(W:GC P f gs X R)(q:∀x∈X,x.kl=true)(s:∀r,Go.Xg.iR r gs=gs)(ha:lC (args.map (bf fr)) gs)
  (h:∀g Δ,R g Δ->X.length<=Δ.length/\(∀x∈Δ,x.kl=true)/\(∀r,dC r g=g)/\GL P m ops Q rest (bI fr O g) (a::b::c::d::e::(F++x::Δ))) :
  GL P m ops Q (⟨O,.call ⟨.value (.func f),args.toArray,T⟩,ty,pos,af,none⟩::rest) fr (a::b::c::d::e::(F++x::X)) :=
 GL.AF (a::b::c::d::e::(F++[x])) X W ze3 q s ha fun g Δ v=>by
  have⟨o,i,G,C⟩:=h g Δ v;exact⟨o,i,G,by simpa using C⟩
attribute [local irreducible] GW GL GO D GC GA bo bn
theorem OH:∀(N:Nat)(t:T),be t<=N->∀(n:Nat)(rows:List am)(a:Option Addr)(c:Nat),rows.length=n->n+be t<=1099511627776 ->
  GC prog 61 [.v (.slice a n c),.agg (cT t)] [.vech 82 5 rows (.slice a n c)] fun g Δ=>∃a c,g=.v (.slice a (n+be t) c)/\Δ=[.vech 82 5 (rows++(fR n t).map aR) (.slice a (n+be t) c)]:=by
 intro N
 induction N with
 |zero=>intro t h;exact zeK
 |succ N ih =>
 intro t R n rows a c hn S;subst hn;rw[Go.Xp.fa]at R S;have Z:=dU t.aw;have u:(bq t.aw).length=t.aw.length:=bC t.aw;refine dj func61 ntmps61 ?_;refine zac ?_;refine V ?_;refine zcP ?_;intro a c;refine zbt ?_;refine GW.wk ((Wk.cut (n:=1) (a8 _) rfl).trans (Wk.eS 3 1)) ?_;simp only[take_succ_cons,take_zero,cons_append,nil_append]
 refine GW.range (bq t.aw).length (fun k fr Γ=>∃a c l q,fr=.v (.slice a (rows.length+1+aP (t.aw.take k)) c)::U::U::.box (cT t) 0::U::.v (ii (rows.length:Nat))::zU 13 (.sl 6 (bq t.aw)::.v (ii ((bq t.aw).length:Int))::.v (ii (k:Nat))::zU 21 []) /\
  Γ=[.vech 82 5 (rows++[.v (ii t.n.aj),.v (ii t.n.at_),.v (ii t.n.n),.v (sv t.n.s),.v (.slice l k q)]::(cv (rows.length+1) (t.aw.take k)).map aR) (.slice a (rows.length+1+aP (t.aw.take k)) c),.vech 3 1 ((bm (rows.length+1) (t.aw.take k)).map fun z=>[.v (ii z)]) (.slice l k q)]) ?_ L ?_ ?_ ?_
 ·exact⟨_,_,Wk.a6 aC,a,c,none,0,rfl,rfl⟩
 ·rintro k _ _⟨a,c,l,q,rfl,rfl⟩;exact dS
 ·rintro k _ _ B⟨a,c,l,q,rfl,rfl⟩;rw[u]at B;obtain⟨kid,e⟩:∃kid,t.aw[k]?=some kid:=⟨t.aw[k],by simp[B]⟩;have hr:=dK e;have rI:=jl e;have Y:=iJ t.aw (k+1)
  have F:t.aw.take (k+1)=t.aw.take k++[kid]:=by rw[c7,e];rfl
  have hX:((cv (rows.length+1) (t.aw.take k)).map aR).length=aP (t.aw.take k):=by rw[bS,ki]
  have w:((bm (rows.length+1) (t.aw.take k)).map fun z=>[GV.v (ii z)]).length=k:=by rw[bS,Go.Xp.cW,iC];omega
  rw[F,qe,lH,jE];simp only[bm,cv,aP,gL,Nat.add_zero,jK,List.map_cons,List.map_nil,<-kA]
  have C:=fun(rs:List am)a c h=>ih kid L (rows.length+1+aP (t.aw.take k)) rs a c h L
  generalize(cv (rows.length+1) (t.aw.take k)).map aR=X at *;generalize((bm (rows.length+1) (t.aw.take k)).map fun z=>[GV.v (ii z)])=G at *;generalize aP (t.aw.take k)=s at *;subst w
  have A:∀r:am,(rows++r::X).length=rows.length+1+s:=fun r=>by simp;omega
  have b:∀r:am,(rows++r::X)[rows.length]?=some r:=fun r=>by simp
  have W:=A [.v (ii t.n.aj),.v (ii t.n.at_),.v (ii t.n.n),.v (sv t.n.s),.v (.slice l G.length q)];have b:=b [.v (ii t.n.aj),.v (ii t.n.at_),.v (ii t.n.n),.v (sv t.n.s),.v (.slice l G.length q)];refine za6 ?_;refine zbH ?_;intro H M;refine zbt ?_;refine tE ?_;rw[wb];simp only[bB];refine V ?_;refine bP [0] (C _ _ _ (A _)) ?_;rintro _ _⟨J,O,rfl,rfl⟩;refine zas ?_;refine⟨rfl,rfl,_,_,Wk.a6 aC,J,O,H,M,rfl,?_⟩;rw[gK];rfl
 ·rintro _ _⟨a,c,l,q,rfl,rfl⟩;rw[u,dx];rw[Go.Xp.fa,Go.Xp.DG];have E:ints (bm (rows.length+1) t.aw)=.sl 1 ((bm (rows.length+1) t.aw).map fun z=>[GV.v (ii z)]):=rfl
  have w:((bm (rows.length+1) t.aw).map fun z=>[GV.v (ii z)]).length=t.aw.length:=by rw[bS,Go.Xp.cW]
  rw[List.map_cons];unfold aR;rw[E,show rows.length+(aP t.aw+1)=rows.length+1+aP t.aw by omega];generalize(cv (rows.length+1) t.aw).map _=X at *;generalize((bm (rows.length+1) t.aw).map fun z=>[GV.v (ii z)])=G at *;generalize aP t.aw=s at *
  have b:∀r:am,(rows++r::X)[rows.length]?=some r:=fun r=>by simp
  refine bg ?_;refine GW.wk (Wk.C0 (i:=0) (idx:=rows.length) (o:=4) (j:=1) rfl (b _) rfl rfl rfl) ?_;exact zeE
open Go.Xp (Nd)
theorem KU:∀(N:Nat)(t:T),be t<=N->∀(aY:List Nd)(h:Value)(ns:List Value),mP aY h ns->aY.length+be t<=8388608 ->
  GC prog 143 [.v h,qT t] (b9 aY h ns) fun g Δ=>∃j e,mP (aY++fR aY.length t) j e/\g=.v j/\Δ=b9 (aY++fR aY.length t) j e:=by
 intro N
 induction N with
 |zero=>intro t h;exact zeK
 |succ N ih =>
 intro t hN aY h ns H hb
 cases t with
 |mk n l =>
 rw[Go.Xp.be]at hN hb;have Lv:=dU l;have r:(jY l).length=l.length:=lI l;have Ui:=j3 H;have Ho:=H.len;obtain⟨a0,c0,rfl⟩:=H.head
 have Z:(List.zipWith db aY ns).length=aY.length:=by rw[py];omega
 have hOl:(List.zipWith eT aY ns).length=aY.length:=by rw[py];omega
 have Us:=fun(y h:Value)=>yv Ho (cZ n []) y h
 have X:=fun(a:Option Addr)(c:Nat)=>H.snoc (cZ n []) (a:=a) (c:=c) (b:=none) (d:=0)
 refine dj func143 ntmps143 ?_;rw[Ui];unfold b9;generalize List.zipWith db aY ns=R at *;generalize List.zipWith eT aY ns=O at *;refine V ?_;refine GL.jw 0 rfl rfl rfl rfl rfl rfl rfl rfl Z ll ?_;intro a1 c1;refine zbt ?_;refine GW.wk (Wk.eS 3 1) ?_;refine GW.range (jY l).length (fun k fr Γ=>∃j e,fr=.v j::qT (.mk n l)::U::U::U::.v (ii (aY.length:Nat))::zU 14 (.sl 1 (jY l)::.v (ii ((jY l).length:Int))::.v (ii (k:Nat))::zU 21 [])/\mP (fC aY n l k) j e/\Γ=b9 (fC aY n l k) j e) ?_ L ?_ ?_ ?_
 ·have e0:fC aY n l 0=aY++[cZ n []]:=by unfold fC;rw[take_zero];rfl
  rw[e0];refine⟨_,_,Wk.a6 aC,_,ns++[.slice none 0 0],rfl,X a1 c1,?_⟩;rw[Us];rfl
 ·rintro k _ _⟨j,e,rfl,_,rfl⟩;exact dS
 ·rintro k _ _ A⟨j,e,rfl,m,rfl⟩;rw[r]at A;obtain⟨u,hu⟩:∃u,l[k]?=some u:=⟨l[k],by simp[A]⟩;have hr:=xe hu;have rI:=oy hu;have hMl:=yY (aY:=aY) (n:=n) (l:=l) (k:=k);have i:=HJ (aY:=aY) (n:=n) (l:=l) (k:=k);have Y:=Cd (aY:=aY) (n:=n) hu;rw[<-Y];obtain⟨a2,c2,rfl⟩:=m.head;have o:=m.len;obtain⟨y,hy⟩:∃y,e[aY.length]?=some y:=⟨e[aY.length]'L,cY _⟩;obtain⟨S,W,rfl⟩:=m.kid _ _ _ i hy
  have E:=fun(a:Option Addr)(c:Nat)=>m.put i (bm (aY.length+1) (l.take k)++[(((fC aY n l k).length:Nat):Int)]) (b:=a) (d:=c) (n:=(bm (aY.length+1) (l.take k)).length+1) ze3
  have DU:=fun(y:Value)=>uh (bm (aY.length+1) (l.take k)++[(((fC aY n l k).length:Nat):Int)]) y o i
  have C:=fun(y:Value)=>uf (bm (aY.length+1) (l.take k)++[(((fC aY n l k).length:Nat):Int)]) y o i
  have F:(List.zipWith db (fC aY n l k) e)[aY.length]?=some (db (cZ n (bm (aY.length+1) (l.take k))) (.slice S (bm (aY.length+1) (l.take k)).length W)):=by rw[getElem?_zipWith,i,hy];rfl
  have w:(List.zipWith eT (fC aY n l k) e)[aY.length]?=some (.vech 3 1 (fO (bm (aY.length+1) (l.take k))) (.slice S (bm (aY.length+1) (l.take k)).length W)):=by rw[getElem?_zipWith,i,hy];rfl
  have hli:aY.length<(List.zipWith db (fC aY n l k) e).length:=by rw[py];omega
  have wy:(fO (bm (aY.length+1) (l.take k))).length=(bm (aY.length+1) (l.take k)).length:=by simp[fO]
  have Ls:fO (bm (aY.length+1) (l.take k)++[(((fC aY n l k).length:Nat):Int)])=fO (bm (aY.length+1) (l.take k))++[[.v (ii ((fC aY n l k).length:Nat))]]:=by simp[fO]
  have Lt:(bm (aY.length+1) (l.take k)).length<=8388608:=by
   rw[Go.Xp.cW,iC];omega
  rw[Ls]at C
  have s:=fun(h:Value)(J:List Value)Q=>ih u L ((fC aY n l k).set aY.length (cZ (cZ n (bm (aY.length+1) (l.take k))) (bm (aY.length+1) (l.take k)++[(((fC aY n l k).length:Nat):Int)]))) h J Q (by rw[length_set];omega)
  rw[length_set]at s;unfold b9;generalize Xt:bm (aY.length+1) (l.take k)=G at *;generalize hM:fC aY n l k=M at *;generalize hM2:M.set aY.length (cZ (cZ n G) (G++[((M.length:Nat):Int)]))=M2 at *
  have q:∀x:Ob,(x::List.zipWith eT M e)[aY.length+1]?=some (.vech 3 1 (fO G) (.slice S G.length W)):=fun x=>w
  generalize List.zipWith eT M e=O2 at *;generalize List.zipWith db M e=R2 at *;unfold db cZ at F;refine V ?_;refine GL.jw (aY.length+1) rfl rfl rfl rfl rfl rfl rfl (q _) wy ll ?_;intro a4 c4;refine qw ru (by simp only[oset];rw[C]) ?_;refine V ?_;refine tE ?_;simp only[dy];rw[DU];have Q:=E a4 c4;have zA:=j3 Q;refine V ?_;refine GL.AF [] (b9 M2 (.slice a2 M.length c2) (e.set aY.length (.slice a4 (G.length+1) c4))) (s _ _ Q) rfl j1 (fun _=>rfl) (nX) ?_;rintro _ _⟨h5,Mh,H5,rfl,rfl⟩;have z:=j3 H5;rw[bp]at z;refine⟨by rw[zA,z];omega,j1,fun _=>rfl,?_⟩;exact zdy
 ·rintro _ _⟨j,e,rfl,m,rfl⟩;rw[r]at m |-;rw[Ej]at m |-;have B:=j3 m;refine bg ?_;unfold b9;refine zew ?_;refine qb (n:=(b9 (aY++fR aY.length (.mk n l)) j e).length) rfl fH rfl (by rw[B,bp];omega) ?_ rfl ?_
  ·exact zeH
  ·show ∃h2 J,_/\_/\List.take _ (b9 _ _ _)=_;rw[dx];exact⟨j,e,m,rfl,rfl⟩
open Go.Xp (Ar)
open Go.Sp (Src)
theorem Be:∀l:List Go.Sp.Fn,iz (l.map aI)=true
 |[]=>rfl
 |a::l=>by
  have:=Be l;exact zdR
theorem HR:∀l:List T,iz (cB l)=true
 |[]=>rfl
 |t::l=>by
  have:=HR l;rw[cB,iz,this,QV];rfl
theorem Tt:∀(N:Nat)(t:T),be t<=N->be t<=1099511627776->GF prog 144 [uT t] [] (qT t) []:=by
 intro N
 induction N with
 |zero=>intro t h;exact zeK
 |succ N S =>
 intro t C w;have z:=dU t.aw;have X:=pP t.aw;rw[Go.Xp.fa]at C w;refine ak func144 ntmps144 ?_;refine GW.wk (Wk.A7 (i:=0) (o:=5) 132 1 rfl rfl) ?_;simp only[bB,oset,cons_append,nil_append]
 refine GW.range (cB t.aw).length (fun k J B=>∃m R,J=uT t::U::U::.loc 0 0::zU 15 (.sl 1 (cB t.aw)::.v (ii ((cB t.aw).length:Int))::.v (ii (k:Nat))::zU 16 []) /\
  B=[.box 191 [.v (ii t.n.aj),.v (ii t.n.at_),.v (ii t.n.n),.v (sv t.n.s),.v (.slice none 0 0),.vec 1 m],.vec 132 1 0 R]/\R.length=m/\R=jY (t.aw.take k)) ?_ L ?_ ?_ ?_
 ·exact⟨_,_,Wk.a6 aC,0,[],rfl,rfl,rfl,rfl⟩
 ·rintro k _ _⟨m,R,rfl,rfl,_⟩;exact dS
 ·rintro k _ _ O⟨m,R,rfl,rfl,r,l⟩;rw[X]at O;obtain⟨u,M⟩:∃u,t.aw[k]?=some u:=⟨t.aw[k],by simp[O]⟩;have E:=rO M;have A:=oy M;have W:=S u L L
  have d:m<=1099511627776:=by rw[<-r,l,lI,iC];omega
  have Q:jY (t.aw.take (k+1))=R++[[qT u]]:=by rw[c7,M,l,gX,gX,jK];rfl
  refine V ?_;refine zct ?_;refine aX [] W ?_;refine zar ?_;refine vy ?_;refine bj ?_;exact⟨rfl,rfl,_,_,Wk.a6 aC,_,_,rfl,rfl,by simp[r],Q.symm⟩
 ·rintro _ _⟨m,R,rfl,rfl,r,l⟩;rw[X,dx]at l;subst l;refine bg ?_;refine GW.wk (Wk.rm (i:=0) (o:=5) (j:=1) rfl rfl rfl rfl r) ?_;refine GW.wk (Wk.freeze (i:=0) rfl rfl rfl (a8 _)) ?_;exact aK
theorem NO(p:Src){l:List T}(r:cD p l)(Y:∀n∈p.ae,n.aw.length<=1099511627776) :
  GC prog 74 [.agg (aB p)] [] fun g C=>∃a c,g=.tup [.v (.slice a l.length c),.v (.bool true)]/\C=[.vech 132 1 (cB l) (.slice a l.length c)]:=by
 have j:=r.few;have e:=eo.len r.av
 have d:(p.av.map aI).length=p.av.length:=by simp
 have J:=r.len;have o:=dU l;refine dj func74 ntmps74 ?_;refine GW.wk (Wk.eS 132 1) ?_;simp only[nil_append];refine V ?_
 refine GW.range (p.av.map aI).length (fun k X B=>∃a c,X=U::.loc 1 0::U::U::.v (.slice a k c)::.v (ii (aP (l.take k):Nat))::U::U::U::U::U::U::.sl 3 (p.av.map aI)::.v (ii ((p.av.map aI).length:Int))::.v (ii (k:Nat))::zU 31 [] /\
  B=[.vech 132 1 (cB (l.take k)) (.slice a k c),.box 28 (aB p)]) ?_ L ?_ ?_ ?_
 ·exact⟨_,_,Wk.a6 aC,none,0,rfl,rfl⟩
 ·rintro k _ _⟨a,c,rfl,rfl⟩;exact dS
 ·rintro k _ _ N⟨a,c,rfl,rfl⟩;rw[d]at N;obtain⟨f,m⟩:∃f,p.av[k]?=some f:=⟨p.av[k],by simp[N]⟩;obtain⟨t,M⟩:∃t,l[k]?=some t:=⟨l[k]'L,cY _⟩;have Q:=qi m;obtain⟨z,-⟩:=eo.at_ r.av k f t m M;rw[dy]at z;have S:=cJ.ix l 0 k t r.st M;rw[dy]at S;have q:=jl M;have Z:=iJ l (k+1);have⟨_,_,b⟩:=(eo.mem r.av).2 t (bN M);have u:=Fg p.ae L Y (p.ae.length+1) (aP (l.take k)) L L;rw[MY (p.ae.length+1) t _ S (Di t b.all) L]at u
  have A:(f.body != ((aP (l.take k):Nat):Int))=false:=by simp[z]
  have i:(cB (l.take k)).length=k:=by rw[pP,iC];omega
  have O:cB (l.take (k+1))=cB (l.take k)++[[uT t]]:=by rw[c7,M,<-Bx];rfl
  rw[O,q];generalize cB (l.take k)=R at *;generalize aP (l.take k)=s at *;unfold aI at Q;unfold X3 at u;refine zcs ?_;refine zcP ?_;intro F W;refine cP ?_;rw[i];refine V ?_;exact⟨rfl,rfl,_,_,(Wk.cut (n:=2) (bl _) rfl).trans (Wk.a6 aC),F,W,rfl,rfl⟩
 ·rintro _ _⟨a,c,rfl,rfl⟩;rw[d,ml (show l.length<=p.av.length by omega)]
  have w:(((aP l:Nat):Int)==((p.ae.map aR).length:Int))=true:=by rw[J];simp
  rw[e];refine zcl ?_;refine aV (aM 0 8 .nil) ?_;refine bj ?_;rw[w];refine lG ?_;exact Og (n:=1) rfl fH rfl rfl (bl _) rfl rfl ⟨a,c,rfl,rfl⟩
theorem FN(gs:List Go.Xp.ah)(m:List Ar)(l:List Go.Sp.Fn)(ls:List T)(hl:l.length=ls.length)(h1:gs.length<=8388608)(h2:m.length<=8388608)(h3:l.length<=8388608)(h4:aP ls<=8388608)(hp:∀f∈l,f.params.length<=8388608) :
  GC prog 75 [strs gs,.sl 2 (m.map bb),.sl 3 (l.map aI),.sl 1 (cB ls)] [] fun g Δ=>∃hg ha hf hn n ns,Dg (xJ gs m l ls) hg ha hf hn n ns/\g=.agg [.v hg,.v ha,.v hf,.v hn]/\Δ=qm (xJ gs m l ls) hg ha hf hn n ns:=by
 have Xo:(bs gs).length=gs.length:=ij gs
 have W:(m.map bb).length=m.length:=by simp
 have Xm:(l.map aI).length=l.length:=by simp
 have hg1:iz (bs gs)=true:=mc gs;have ha1:=sH m;have e3:strs gs=.sl 1 (bs gs):=rfl;rw[e3];refine dj func75 ntmps75 ?_;refine zcK ?_;simp only[nil_append,cons_append];refine V ?_;refine GL.nb 0 rfl rfl rfl rfl hg1 (by rw[Xo];refine⟨?_,?_⟩<;>omega) ?_;intro ag cg;rw[Xo];refine zbx ?_;refine GL.nb 1 rfl rfl rfl rfl ha1 (by rw[W];refine⟨?_,?_⟩<;>omega) ?_;intro aa ca;rw[W];refine zbx ?_;refine zey ?_
 try simp only[nil_append,cons_append]
 generalize E:Ob.vech 9 1 (bs gs) (.slice ag gs.length cg)=G0 at *;generalize C:Ob.vech 79 2 (m.map bb) (.slice aa m.length ca)=A0 at *
 have Z8:∀q,Ob.ok q G0=true:=fun q=>by rw[<-E];rfl
 have Z3:∀q,Ob.ok q A0=true:=fun q=>by rw[<-C];rfl
 refine GW.range (l.map aI).length (fun k fr Γ=>∃A B n hn ns,fr=U::U::U::.sl 1 (cB ls)::U::U::U::U::.loc 2 0::.loc 3 0::U::U::U::U::U::U::U::.sl 3 (l.map aI)::.v (ii ((l.map aI).length:Int))::.v (ii (k:Nat))::zU 29 []/\n.length=k/\(∀(i:Nat)x y,(ek 0 (l.take k) (ls.take k))[i]?=some x->n[i]?=some y->Hd x.params.length y)/\mP (cv 0 (ls.take k)) hn ns /\
  Γ=G0::A0::.box 28 [.v (.slice none 0 0),.v (.slice none 0 0),.v (.slice none 0 0),.v (.slice none 0 0)]::.box 28 [.v (.slice ag gs.length cg),.v (.slice aa m.length ca),.v (.slice A k B),.v hn]::.vech 53 3 (List.zipWith rp (ek 0 (l.take k) (ls.take k)) n) (.slice A k B)::(List.zipWith rn (ek 0 (l.take k) (ls.take k)) n++b9 (cv 0 (ls.take k)) hn ns)) ?_ L ?_ ?_ ?_
 ·exact⟨_,_,Wk.a6 aC,none,0,[],.slice none 0 0,[],rfl,rfl,(fun i x y _ h=>by simp at h),⟨⟨none,0,rfl⟩,rfl,fun i x y h=>by simp[cv]at h⟩,rfl⟩
 ·rintro k _ _⟨A,B,n,hn,ns,rfl,_,_,_,rfl⟩;exact dS
 ·rintro k _ _ ny⟨A,B,n,hn,ns,rfl,u,o,w,rfl⟩;rw[Xm]at ny;obtain⟨f,hf⟩:∃f,l[k]?=some f:=⟨l[k],by simp[ny]⟩;obtain⟨t,ht⟩:∃t,ls[k]?=some t:=⟨ls[k]'L,cY _⟩;have hr:=qi hf;have hrt:=rO ht;have yl:=hp f (bN hf);have hz:=jl ht;have hle:=iJ ls (k+1)
  have Xv:(l.take k).length=(ls.take k).length:=by rw[iC,iC,hl]
  have r:=qc (l.take k) (ls.take k) 0 Xv;rw[iC,Nat.min_eq_left L]at r;have Q:(cv 0 (ls.take k)).length=aP (ls.take k):=ki _ _
  have O:ek 0 (l.take (k+1)) (ls.take (k+1))=ek 0 (l.take k) (ls.take k)++[⟨f.name,f.params,(((cv 0 (ls.take k)).length:Nat):Int)⟩]:=by
   rw[c7,c7,hf,ht];have:=uB f t (l.take k) (ls.take k) 0 Xv;rw[dy]at this;rw[Q];exact this
  have S:cv 0 (ls.take (k+1))=cv 0 (ls.take k)++fR (cv 0 (ls.take k)).length t:=by
   rw[c7,ht,show(some t).toList=[t]from rfl,lH,cv,cv,gL,dy,Q]
  have hB:=Tt _ t (a8 _) L
  have Z7:=fun hn ns H=>KU _ t (a8 _) (cv 0 (ls.take k)) hn ns H L
  have YM:=mc f.params
  have Hp:(f.params.map fun s=>[GV.v (sv s)]).length=f.params.length:=by simp
  rw[O,S];clear O S;generalize ek 0 (l.take k) (ls.take k)=J at *;generalize cv 0 (ls.take k)=N at *
  have hNb:N.length<=8388608:=by omega
  have Qf:(List.zipWith rp J n).length=k:=by rw[py];omega
  have hZR:∀x y,List.zipWith rp (J++[x]) (n++[y])=List.zipWith rp J n++[rp x y]:=fun x y=>List.zipWith_append L
  have hZO:∀x y,List.zipWith rn (J++[x]) (n++[y])=List.zipWith rn J n++[rn x y]:=fun x y=>List.zipWith_append L
  have Z5:∀x∈List.zipWith rn J n,x.kl=true:=q9 (fun _ _=>rfl)
  have Z6:∀q,oq q (List.zipWith rn J n)=true:=fun q=>xQ Z5
  have hNH:∀x∈b9 N hn ns,x.kl=true:=j1;obtain⟨G,M,rfl⟩:=w.head;generalize List.zipWith rp J n=R at *;generalize List.zipWith rn J n=FO at *;generalize hX:FO++b9 N (.slice G N.length M) ns=X
  have T6:∀a b c d e x:Ob,(a::b::c::d::e::(X++[x]))[X.length+5]?=some x:=fun a b c d e x=>o5e a b c d e x X []
  have Ly:∀a b c d e x y:Ob,oset (a::b::c::d::e::(X++[x])) (X.length+5) y=a::b::c::d::e::(X++[y]):=fun a b c d e x y=>o5f a b c d e x y X []
  refine GW.wk (Wk.eS 9 1) ?_;simp only[cons_append];unfold aI at hr;refine pS ?_;refine GL.WG rfl rfl rfl rfl rfl rfl rfl ?_;refine zak ?_;refine aV (aM 0 6 (aM 7 3 (.a 6 (.q 10 (.a 11 (.a 12 (.q 13 (.a 14 .nil)))))))) ?_;refine zbK ?_;refine GL.nb (X.length+5) rfl rfl (T6 _ _ _ _ _ _) rfl YM (by rw[Hp];refine⟨?_,?_⟩<;>omega) ?_;intro a1 c1;rw[Hp];simp only[nil_append,length_nil,dy];rw[Ly];refine zbu ?_;refine zar ?_;refine OA rfl rfl (GL.mr 4 rfl rfl rfl aH rfl rfl (by refine⟨?_,?_⟩;(· show _+1<=_;omega);(· show(_+1)*_<=_;omega)) ?_);intro a2 c2;refine b0 ?_;rw[Qf];refine bj ?_;subst hX;refine GW.wk ((Wk.WD FO (b9 N (.slice G N.length M) ns) (bl _) (by simp only[oq,Z8,Z3];rfl) Z6 hNH rfl).trans (Wk.a6 (c8:=U::U::U::.sl 1 (cB ls)::U::U::U::U::.loc 2 0::.loc 3 0::.v (ii (k:Nat))::U::U::U::U::U::U::.sl 3 (l.map aI)::.v (ii ((l.map aI).length:Int))::.v (ii (k:Nat))::zU 29 []) aC)) ?_;(try simp only[cons_append]);refine aV (aM 0 6 (.a 6 (.a 7 (.q 8 (.a 9 .nil))))) ?_;refine ay ?_;refine jz [] hB ?_;simp only[gL];refine zbK ?_;refine GL.NP FO (b9 N (.slice G N.length M) ns) (Z7 _ _ w) j1 (fun _=>rfl) (nX) ?_;rintro _ _⟨h5,Mh,H5,rfl,rfl⟩;obtain⟨m0,m1,rfl⟩:=id H5.head;refine⟨by rw[j3 H5,j3 w,bp];omega,j1,fun _=>rfl,?_⟩;refine zaM ?_;refine⟨rfl,rfl,_,_,Wk.a6 aC,a2,c2,n++[.slice a1 f.params.length c1],_,Mh,rfl,by simp[u],?_,H5,?_⟩
  ·intro i x y z F
   by_cases hi:i<k
   ·rw[gA L]at z F;exact o i x y z F
   ·rw[hO L]at z F;rw[r]at z;rw[u]at F
    cases hk:i-k with
    |zero=>rw[hk]at z F;cases z;cases F;exact⟨_,_,rfl⟩
    |succ j=>rw[hk]at z;simp at z
  ·rw[hZR,hZO,gK];rfl
 ·rintro _ _⟨A,B,n,hn,ns,rfl,u,o,w,rfl⟩;rw[Xm]at u o w |-;rw[ml (show ls.length<=l.length by omega)]at o w |-;rw[dx]at o |-;refine bg ?_;have r:=qc l ls 0 hl;obtain⟨G,M,rfl⟩:=w.head;refine zew ?_;refine We (X:=[G0,A0]) (Y:=[_,_]) (Z:=.vech 53 3 (List.zipWith rp (ek 0 l ls) n) (.slice A l.length B)::(List.zipWith rn (ek 0 l ls) n++b9 (cv 0 ls) (.slice G (cv 0 ls).length M) ns)) rfl fH rfl rfl rfl rfl rfl ?_ ?_ ?_
  ·intro x hx
   rcases lp hx with rfl|hx
   ·rw[<-E];rfl
   ·rw[J0 hx,<-C];rfl
  ·intro x hx
   rcases lp hx with rfl|hx
   ·rfl
   rcases pG hx with hx|hx
   ·exact zed
   ·exact j1 x hx
  ·refine⟨_,_,_,_,n,ns,⟨⟨ag,cg,rfl⟩,⟨aa,ca,rfl⟩,⟨A,B,by rw[show(xJ gs m l ls).av.length=l.length from r]⟩,⟨G,M,rfl⟩,by rw[u];exact r.symm,w.len,o,w.kid⟩,rfl,?_⟩;unfold qm;rw[<-E,<-C];rfl
theorem Js(R:List Go.Xp.ah)(s:Go.Xp.ah)(hn:R.length<=1099511627776):GF prog 73 [.v (sv s),.box [.sl 1 (bs R)] 0] [] (.v (.bool (R.contains s))) []:=by
 have h:=jm R s hn;have q:strs R=.sl 1 (bs R):=rfl;rw[q]at h;generalize R.contains s=b at *;refine ak func73 ntmps73 ?_;exact zcF
theorem L3(R l:List Go.Xp.ah)(q:R.length<=1099511627776)(hn:l.length<=1099511627776) :
  GF prog 72 [.sl 1 (bs l),.fn (.func 73) [] [.box [.sl 1 (bs R)] 0]] [] (.v (.bool (l.any fun s=>R.contains s))) []:=by
 have C:=ij l
 have j:GF prog 141 [.sl 1 (bs l),.fn (.func 73) [] [.box [.sl 1 (bs R)] 0]] [] (.v (ii (bL (fun s=>R.contains s) l))) []:=by
  refine ak func141 ntmps141 ?_;refine GW.range (bs l).length (fun k J u=>J=[.sl 1 (bs l),.fn (.func 73) [] [.box [.sl 1 (bs R)] 0],U,U,U,U,U,.v (ii ((bs l).length:Int)),.v (ii (k:Nat)),U,U,U,U,U,U,U,U,U,U]/\u=[]/\(l.take k).all (fun y=>!R.contains y)=true) ?_ L ?_ ?_ ?_
  ·exact kP
  ·exact jA
  ·rintro k _ _ N⟨rfl,rfl,n⟩;rw[C]at N;obtain⟨x,w⟩:∃x,l[k]?=some x:=⟨l[k],by simp[N]⟩
   have A:(bs l)[k]?=some [.v (sv x)]:=by unfold bs;rw[dR,w];rfl
   have h:=Js R x q;have m:=mZ (f:=fun s=>R.contains s) w
   have hit:=fun o=>nd (f:=fun s=>R.contains s) w o n
   cases i:R.contains x with
   |true =>
    exact zcp
   |false =>
    rw[i]at h m;refine V ?_;refine mi [] h ?_;exact zd7
  ·rintro _ _⟨rfl,rfl,n⟩;rw[C,dx]at n;rw[kR n];exact aK
 rw[<-wP];generalize bL _ l=z at *;refine ak func72 ntmps72 ?_;refine I [] j ?_;exact az
theorem Th(a b:Src)(h:(fI a&&fI b)=false)(m:GF prog 64 [.agg (aB a)] [] (.v (.bool (fI a))) [])(N:GF prog 64 [.agg (aB b)] [] (.v (.bool (fI b))) []) :
  GC prog 19 [.agg (aB a),.agg (aB b)] [] (Dh kL 1):=by
 generalize fI a=x at *;generalize fI b=y at *
 cases x with
 |false =>
  refine dj func19 ntmps19 ?_;refine zec ?_;exact zaA
 |true =>
  have h:y=false:=h;subst h;refine dj func19 ntmps19 ?_;refine zec ?_;refine I [] N ?_;exact zaA
theorem Ti(a b:Src)(hw:cH a+cH b<=1048576)(W:iN a)(X:iN b):GC prog 19 [.agg (aB a),.agg (aB b)] [] (Dh (nj a b).1 (nj a b).2):=by
 have o:=nY a L W;have r:=nY b L X;unfold nj
 by_cases c:(fI a&&fI b)=true
 ·rw[ai c];rw[aZ]at c;have⟨x,hx⟩:=jH c.1;have⟨y,e⟩:=jH c.2;rw[c.1]at o;rw[c.2]at r;rw[hx.r8,e.r8];simp only;have hjw:=AX hx e;have⟨⟨a1,a2⟩,⟨b1,b2⟩,⟨c1,c2⟩,⟨d1,d2⟩⟩:=gg a;have⟨⟨a3,a4⟩,⟨b3,b4⟩,⟨c3,c4⟩,⟨d3,d4⟩⟩:=gg b;have E:=pY a L;have F:=pY b L;have Lu:=lU a;have Xu:=lU b;have j:=L3 (bO a) (bO b) L L;have u:=NO a hx (fun n h=>by have:=(d2 n h).2;omega);have d:=sU b L (fun n h=>by have:=(d4 n h).2;omega) L;rw[e.r8]at d;unfold yG at d;have N:=eo.len hx.av;have O:=eo.len e.av;have UA:=hx.len;have hys:=e.len;have M:=zI hx e W X;have J:=AQ (ep a b x y) L M
  have z:=FN (a.au++b.au) (a.aq++b.aq) (a.av++b.av) (x++y) (by simp[N,O]) zfw zfw zfw (by rw[Go.Xp.jE];omega) (fun f c=>by
   rcases pG c with h|h
   ·have:=(c2 f h).2.1;omega
   ·have:=(c4 f h).2.1;omega)
  rw[show strs (a.au++b.au)=.sl 1 ((a.au.map fun s=>[GV.v (sv s)])++(b.au.map fun s=>[GV.v (sv s)])) by rw[<-jK],jK,jK,show cB (x++y)=cB x++cB y by rw[kx,kx,kx,jK]]at z;rw[show xJ (a.au++b.au) (a.aq++b.aq) (a.av++b.av) (x++y)=ep a b x y from rfl]at z;have g1:(a.au.map fun s=>[GV.v (sv s)]).length=a.au.length:=ij _;have Q:(b.au.map fun s=>[GV.v (sv s)]).length=b.au.length:=ij _;have k:(a.aq.map bb).length=a.aq.length:=bS ..;have R:(b.aq.map bb).length=b.aq.length:=bS ..;have m:(a.av.map aI).length=a.av.length:=bS ..;have S:(b.av.map aI).length=b.av.length:=bS ..;have g7:=pP x;have T:=pP y;have k1:=mc a.au;have k2:=mc b.au;have k3:=sH a.aq;have k4:=sH b.aq;have k5:=Be a.av;have k6:=Be b.av;have k8:=HR y;have q1:=Go.Xp.dU y;have q2:=Go.Xp.dU x;generalize(bO b).any (fun s=>(bO a).contains s)=v at *;generalize bO a=NA at *;generalize bO b=NB at *;refine dj func19 ntmps19 ?_;refine zac ?_;refine zaX ?_;refine I [] o ?_;refine I [] r ?_;refine bP [] E ?_;rintro _ _⟨an,cn,rfl,rfl⟩;refine ch ?_;refine GL.wk (Wk.sr (t:=25) (i:=1) rfl rfl rfl) ?_;refine cP ?_;refine za6 ?_;refine bP [] F ?_;rintro _ _⟨an,cn,rfl,rfl⟩;refine ch ?_;refine GL.wk (Wk.sr (t:=27) (i:=2) rfl rfl rfl) ?_;refine zbt ?_;refine ja [] j ?_
  cases v with
  |true =>
   simp only[if_true];refine V ?_;exact zaA
  |false =>
  refine zbJ ?_;refine GL.wk ((Wk.cut (n:=1) (bl _) rfl).trans (Wk.a6 (c8:=U::U::.box (aB a) 0::.box (aB b) 0::.loc 0 0::zU 24 (.v (.bool false)::zU 41 [])) aC)) ?_;simp only[take_succ_cons,take_zero];refine V ?_;refine bP [] u ?_;rintro _ _⟨ax,cx,rfl,rfl⟩;refine zas ?_;refine ja [] d ?_;refine GL.wk (Wk.eS 9 1) ?_;refine GL.wk (Wk.eS 79 2) ?_;refine GL.wk (Wk.eS 53 3) ?_;refine zbe ?_;refine V ?_;refine zcA ?_;refine OA rfl rfl (GL.nb 2 rfl rfl rfl rfl k1 (by rw[g1];refine⟨?_,?_⟩<;>omega) ?_);intro Y Z;rw[g1];simp only[nil_append,length_nil,dy];refine zbu ?_;refine OA rfl rfl (GL.nb 2 rfl rfl rfl g1 k2 (by rw[Q];refine⟨?_,?_⟩<;>omega) ?_);intro u3 u4;rw[Q];refine zaM ?_;refine zcA ?_;refine OA rfl rfl (GL.nb 3 rfl rfl rfl rfl k3 (by rw[k];refine⟨?_,?_⟩<;>omega) ?_);intro Y Z;rw[k];simp only[nil_append,length_nil,dy];refine zbu ?_;refine OA rfl rfl (GL.nb 3 rfl rfl rfl k k4 (by rw[R];refine⟨?_,?_⟩<;>omega) ?_);intro u5 u6;rw[R];refine zaM ?_;refine zcA ?_;refine OA rfl rfl (GL.nb 4 rfl rfl rfl rfl k5 (by rw[m];refine⟨?_,?_⟩<;>omega) ?_);intro Y Z;rw[m];simp only[nil_append,length_nil,dy];refine zbu ?_;refine OA rfl rfl (GL.nb 4 rfl rfl rfl m k6 (by rw[S];refine⟨?_,?_⟩<;>omega) ?_);intro u7 u8;rw[S];refine zaM ?_;refine GL.nb 1 rfl rfl rfl g7 k8 (by rw[T];refine⟨?_,?_⟩<;>omega) ?_;intro u9 u10;rw[T];refine bh ?_;refine GL.wk (Wk.sr (t:=59) (i:=2) rfl rfl rfl) ?_;refine GL.wk (Wk.sr (t:=60) (i:=3) rfl rfl rfl) ?_;refine GL.wk (Wk.sr (t:=61) (i:=4) rfl rfl rfl) ?_
  refine GL.wk (Wk.sr (t:=64) (i:=1) rfl rfl rfl) ?_;refine cP ?_;refine bP [] z ?_;rintro _ _⟨hg,ha,G,hn,hs,ns,H,rfl,rfl⟩;rw[HH (EY (ep a b x y) hg ha G hn hs ns)];obtain⟨⟨s0,s1,rfl⟩,⟨s2,s3,rfl⟩,⟨s4,s5,rfl⟩,⟨s6,s7,rfl⟩,-,-,-,-⟩:=id H;refine ch ?_;refine za6 ?_;refine GL.borrow J (fun B K β w l hI hF=>FH H (A:=[_,_,_,_,_]) (C:=[]) (by rw[gL];exact hI) hF rfl) ?_;refine bh ?_
  cases hg3:fk (ep a b x y)with
  |false =>
   refine zbJ ?_;refine V ?_;exact zaA
  |true =>
   simp only[if_true];refine zew ?_;exact Ld [] [_,_,_,_,_] _ rfl fH rfl rfl rfl rfl rfl (by simp only[nil_append,cons_append];rfl) (fun x h=>by cases h) (EY _ _ _ _ _ _ _) ⟨_,_,_,_,_,_,H,rfl,rfl⟩
 ·rw[ab c];exact Th a b zft o r
open Go.Xp (T be aP fR cv ki lH jE jl iJ)
def rj(n:Nat):List Int:=(List.range n).map fun i=>((i:Nat):Int)
theorem D7(p:Src)(h:p.av.length<=1048576):GF prog 79 [.agg (aB p)] [] (ints (rj p.av.length)) []:=by
 have d:(p.av.map aI).length=p.av.length:=by simp
 refine dj func79 ntmps79 ?_;refine zac ?_;refine V ?_;refine nF ?_;refine V ?_;refine GW.range (p.av.map aI).length (fun k M u=>∃R,M=[U,U,U,.vec 0 k,U,U,U,.sl 3 (p.av.map aI),.v (ii ((p.av.map aI).length:Int)),.v (ii (k:Nat)),U,U,U,U,U,U,U,U]/\u=[.vec 3 1 0 R]/\R.length=k/\R=(rj k).map fun i=>[.v (ii i)]) ?_ L ?_ ?_ ?_
 ·exact⟨_,_,Wk.a6 aC,[],rfl,rfl,rfl,rfl⟩
 ·rintro k _ _⟨R,rfl,rfl,_⟩;exact dS
 ·rintro k _ _ N⟨R,rfl,rfl,j,J⟩;rw[d]at N
  have O:((rj (k+1)).map fun i=>[GV.v (ii i)])=R++[[.v (ii (k:Nat))]]:=by rw[J];unfold rj;rw[List.range_succ];simp
  rw[O];clear J O;refine V ?_;refine zbG ?_;exact⟨rfl,rfl,_,_,Wk.a6 aC,_,rfl,rfl,by simp[j],rfl⟩
 ·rintro _ _⟨R,rfl,rfl,j,J⟩;rw[d]at j J |-;subst J;refine bg ?_;refine GW.wk (Wk.jJ (t:=3) rfl rfl rfl j) ?_;exact aK
theorem D6(p:Src)(hw:cH p<=1048576)(rg Z:List am)(bc:List Int)(d:List Go.Sp.Fn)(b:List T)(XK:bc.length<=1048576)(H:d.length=bc.length)(O:b.length=bc.length)
  (S:∀(k:Nat)x f t,bc[k]?=some x->d[k]?=some f->b[k]?=some t->∃i:Nat,x=(i:Int)/\p.av[i]?=some f/\0<=f.body/\dr p.ae f.body.toNat t/\be t<=1048576)
  (r:List Go.Sp.Fn)(ls:List T)(J:r.length=ls.length)(DO:r.length<=8388608)(wv:aP ls+aP b<=1073741824)(a1 j:Option Addr)(l m:Nat) :
  GC prog 78 [.agg [.sl 1 rg,.sl 2 Z,.v (.slice a1 r.length l),.v (.slice j (aP ls) m)],.agg (aB p),ints bc] [.vech 53 3 ((ek 0 r ls).map aI) (.slice a1 r.length l),.vech 82 5 ((cv 0 ls).map aR) (.slice j (aP ls) m)]
   fun g Δ=>∃a1 l j m,g=.agg [.sl 1 rg,.sl 2 Z,.v (.slice a1 (r++d).length l),.v (.slice j (aP (ls++b)) m)]/\Δ=[.vech 53 3 ((ek 0 (r++d) (ls++b)).map aI) (.slice a1 (r++d).length l),.vech 82 5 ((cv 0 (ls++b)).map aR) (.slice j (aP (ls++b)) m)]:=by
 have⟨⟨g1,g2⟩,⟨g3,g4⟩,⟨g5,g6⟩,⟨g7,g8⟩⟩:=gg p
 have W:(bc.map fun i=>[GV.v (ii i)]).length=bc.length:=by simp
 refine dj func78 ntmps78 ?_;refine GW.seq ?_;refine GW.region ?_;refine GL.box rfl ?_;refine cP ?_;refine zaX ?_
 refine GW.range (bc.map fun i=>[GV.v (ii i)]).length (fun k fr Γ=>∃a1 l j m N M A w,fr=[U,U,U,.loc 2 0,.box (aB p) 0,U,.loc 3 0,U,U,U,U,ints bc,.v (ii ((bc.map fun i=>[GV.v (ii i)]).length:Int)),.v (ii (k:Nat)),U,U,U,U,U,U,U,U,U,U,U,U,U,U,U,U,U,U,U,U,U,U,U,U,U,U,U,U,U,U,U,U,U,U] /\
  Γ=[.vech 53 3 A (.slice a1 N l),.vech 82 5 w (.slice j M m),.box 28 [.sl 1 rg,.sl 2 Z,.v (.slice a1 N l),.v (.slice j M m)],.box 28 [.v (.slice none 0 0),.v (.slice none 0 0),.v (.slice none 0 0),.v (.slice none 0 0)]] /\
  N=r.length+k/\M=aP (ls++b.take k)/\A=(ek 0 (r++d.take k) (ls++b.take k)).map aI/\w=(cv 0 (ls++b.take k)).map aR) ?_ L ?_ ?_ ?_
 ·exact⟨_,_,Wk.a6 aC,a1,l,j,m,_,_,_,_,rfl,rfl,rfl,by simp,by simp,by simp⟩
 ·rintro k _ _⟨a1,l,j,m,N,M,A,w,rfl,rfl,_⟩;exact dS
 ·rintro k _ _ Q⟨a1,l,j,m,N,M,A,w,rfl,rfl,hN,z,e,o⟩;rw[W]at Q;obtain⟨x,hx⟩:∃x,bc[k]?=some x:=⟨bc[k],by simp[Q]⟩;obtain⟨f,hf⟩:∃f,d[k]?=some f:=⟨d[k]'L,cY _⟩;obtain⟨t,ht⟩:∃t,b[k]?=some t:=⟨b[k]'L,cY _⟩;obtain⟨i,rfl,R,Xi,Ly,rI⟩:=S k x f t hx hf ht;have hrx:=gE hx;have hr:=qi R;have yl:=(g6 f (bN R)).2.1;have hS:=Vu p (fun n h=>by have:=(g8 n h).2;omega) f t Xi Ly;have hz:=jl ht;have hle:=iJ b (k+1)
  have X:b.take (k+1)=b.take k++[t]:=by rw[c7,ht];rfl
  have hfk:d.take (k+1)=d.take k++[f]:=by rw[c7,hf];rfl
  have G:M=aP ls+aP (b.take k):=by rw[z,jE]
  have hMz:M<=1073741824:=by omega
  have Qf:A.length=N:=by
   rw[e,bS,qc _ _ _ (by simp[J,H,O]),hN,bp,iC];omega
  have hNl:w.length=M:=by rw[o,bS,ki,z]
  have F:aP (ls++b.take (k+1))=M+be t:=by rw[jE,G,hz];omega
  have B:(ek 0 (r++d.take (k+1)) (ls++b.take (k+1))).map aI=A++[[.v (sv f.name),strs f.params,.v (ii (M:Nat))]]:=by
   rw[hfk,X,<-gK,<-gK,uB f t _ _ 0 (by simp[J,H,O]),jK,<-e,<-z,dy];rfl
  have C:(cv 0 (ls++b.take (k+1))).map aR=w++(fR M t).map aR:=by
   rw[X,<-gK,lH,cv,cv,gL,jK,<-o,dy,<-z]
  have hLy:=fun a c=>OH _ t (a8 _) M w a c hNl L
  rw[F,B,C];clear F B C e o z G;have u:=mc f.params
  have E:(f.params.map fun s=>[GV.v (sv s)]).length=f.params.length:=by simp
  unfold aI at hr;refine za6 ?_;refine GW.join (fun fr Γ=>∃Y,fr=[U,U,U,.loc 2 0,.box (aB p) 0,U,.loc 3 0,U,U,.box [.v (sv f.name),strs f.params,.v (ii f.body)] 0,.box [.v (sv f.name),strs f.params,.v (ii (M:Nat))] 0,ints bc,.v (ii ((bc.map fun i=>[GV.v (ii i)]).length:Int)),.v (ii (k:Nat)),U,U,U,U,U,U,U,U,U,U,U,U,U,U,U,U,U,U,U,U,U,U,U,U,U,U,U,U,U,U,U,U,U,U]/\Γ=.vech 53 3 A (.slice a1 N l)::.vech 82 5 w (.slice j M m)::.box 28 [.sl 1 rg,.sl 2 Z,.v (.slice a1 N l),.v (.slice j M m)]::.box 28 [.v (.slice none 0 0),.v (.slice none 0 0),.v (.slice none 0 0),.v (.slice none 0 0)]::Y/\Y=[]) ?_ ?_
  ·refine aV (.q 0 (.q 1 (.q 3 (.q 4 (aM 6 3 (.f 2 (.f 5 (.q 9 (.a 10 (.a 11 .nil))) 10 (.a 5 (.q 9 (.a 11 .nil)))) 10 (.a 2 (.a 5 (.q 9 (.a 11 .nil)))))))))) ?_;refine ay ?_;refine GO.fork ?_ ?_
   ·refine q5 ?_;refine ay ?_;refine GO.fork ?_ ?_
    ·refine OA rfl rfl ?_;refine GL.Dj (i:=4) rfl rfl rfl u rfl (by rw[E];refine⟨?_,?_⟩<;>omega) ?_;exact zbS
    ·refine zbK ?_;refine GL.Dj (i:=4) rfl rfl rfl u rfl (by rw[E];refine⟨?_,?_⟩<;>omega) ?_;exact zbS
   ·refine ay ?_;refine q5 ?_;refine zbK ?_;refine GL.Dj (i:=5) rfl rfl rfl u rfl (by rw[E];refine⟨?_,?_⟩<;>omega) ?_;refine zbu ?_;refine bg ⟨_,_,(Wk.freeze (i:=4) rfl rfl rfl (eF rfl)).trans ((Wk.cut (n:=4) (eF rfl) rfl).trans (Wk.a6 aC)),[],rfl,rfl,rfl⟩
  rintro _ _⟨_,rfl,rfl,rfl⟩;refine V ?_;refine aV (aM 0 5 (.a 5 (.a 6 (.q 7 (.a 8 .nil))))) ?_;refine ay ?_;refine jz [] hS ?_;simp only[gL];refine zbK ?_;refine bP [1] (hLy _ _) ?_;rintro _ _⟨a4,c4,rfl,rfl⟩;refine⟨by simp,?_⟩;refine zaM ?_;refine zcP ?_;intro a5 c5;refine zbt ?_;exact⟨rfl,rfl,_,_,Wk.a6 aC,a5,c5,a4,c4,_,_,_,_,rfl,rfl,by omega,rfl,rfl,rfl⟩
 ·rintro _ _⟨a1,l,j,m,N,M,A,w,rfl,rfl,hN,z,e,o⟩;have q1:d.take bc.length=d:=ml L;have q2:b.take bc.length=b:=ml L;rw[W]at hN z e o;rw[q2]at z e o;rw[q1]at e;subst e o z
  have hN2:N=(r++d).length:=by rw[bp];omega
  subst hN2;refine zcl ?_;refine lG ?_;exact Oh (n:=2) rfl fH rfl rfl rfl (a8 _) rfl rfl ⟨a1,l,j,m,rfl,rfl⟩
theorem Gt(p:Src){l:List T}(r:cD p l):∀(k:Nat)x f t,(rj p.av.length)[k]?=some x->p.av[k]?=some f->l[k]?=some t->∃i:Nat,x=(i:Int)/\p.av[i]?=some f/\0<=f.body/\dr p.ae f.body.toNat t/\be t<=1048576:=fun k x f t o b G=>by
 have j:=(b6 b).1;unfold rj at o;rw[dR,List.getElem?_range j]at o;cases o;obtain⟨w,-⟩:=eo.at_ r.av k f t b G;have O:=cJ.ix l 0 k t r.st G;rw[dy]at w O;have m:=xV (bN G);have S:=r.few;have d:=r.len;exact⟨k,rfl,b,by omega,by rw[w,eV];exact O,by omega⟩
theorem Rb(a b:Src)(h:(fI a&&fI b)=false)(m:GF prog 76 [.agg (aB a)] [] (.v (.bool (fI a))) [])(N:GF prog 76 [.agg (aB b)] [] (.v (.bool (fI b))) []) :
  GF prog 20 [.agg (aB a),.agg (aB b)] [] (.tup [.agg (aB kL),.v (ii 1)]) []:=by
 generalize fI a=x at *;generalize fI b=y at *
 cases x with
 |false =>
  refine dj func20 ntmps20 ?_;refine zec ?_;refine um ?_;exact zaH
 |true =>
  have h:y=false:=h;subst h;refine dj func20 ntmps20 ?_;refine zec ?_;refine I [] N ?_;refine um ?_;exact zaH
theorem Rm{R:Type}{f:R->Bool}{l:List R}{k:Nat}{x:R}(h:l[k]?=some x)(hx:f x=true):l.any f=true:=pz.2 ⟨x,bN h,hx⟩
theorem NJ{R:Type}{f:R->Bool}{l:List R}{k:Nat}{x:R}(h:l[k]?=some x):(l.take (k+1)).any f=((l.take k).any f ||f x):=by rw[c7,h,List.any_append];simp
theorem Rc(a b:Src)(hw:cH a+cH b<=1048576){x y:List T}(hx:cD a x)(J:cD b y)(c z:Int)
  (hA:GF prog 76 [.agg (aB a)] [] (.v (.bool true)) [])(hB:GF prog 76 [.agg (aB b)] [] (.v (.bool true)) [])
  (u:GF prog 77 [.agg (aB a)] [] (strs (bO a)) [])(w:GF prog 77 [.agg (aB b)] [] (strs (bO b)) [])
  (W:GF prog 80 [.agg (aB (ep a b x y))] [] (.tup [.v (ii c),.v (ii z)]) []) :
  GC prog 20 [.agg (aB a),.agg (aB b)] [] fun g Δ=>Δ=[]/\g=if((bO b).any fun s=>(bO a).contains s)=true then .tup [.agg (aB kL),.v (ii 2)]else if c=0 then .tup [.agg (aB (ep a b x y)),.v (ii 0)]else .tup [.agg (aB kL),.v (ii 3)]:=by
 have⟨⟨a1,F⟩,⟨b1,b2⟩,⟨G,H⟩,⟨d1,d2⟩⟩:=gg a;have⟨⟨a3,a4⟩,⟨b3,b4⟩,⟨c3,c4⟩,⟨d3,d4⟩⟩:=gg b;have Lu:=lU a;have Xu:=lU b;have B:=ij (bO b)
 have hH:=fun s=>jR (bO a) s L
 have M:=D7 a L;have N:=D7 b L;have r:=eo.len hx.av;have E:=eo.len J.av;have UA:=hx.len;have hys:=J.len;have e8:=hx.few;have e9:=J.few
 have e:∀n,(rj n).length=n:=fun n=>by simp[rj]
 have l:=fun rg R a1 G F H=>D6 a L rg R (rj a.av.length) a.av x (by rw[e];omega) (e _).symm (by rw[e];exact r.symm) (Gt a hx) [] [] rfl (bl _) (by simp only[aP];omega) a1 F G H
 have m:=fun rg R a1 G F H=>D6 b L rg R (rj b.av.length) b.av y (by rw[e];omega) (e _).symm (by rw[e];exact E.symm) (Gt b J) a.av x r L L a1 F G H
 simp only[nil_append]at l;have g1:(a.au.map fun s=>[GV.v (sv s)]).length=a.au.length:=ij _;have g2:(b.au.map fun s=>[GV.v (sv s)]).length=b.au.length:=ij _;have S:(a.aq.map bb).length=a.aq.length:=bS ..;have g4:(b.aq.map bb).length=b.aq.length:=bS ..;have k1:iz (bs a.au)=true:=mc _;have k2:iz (bs b.au)=true:=mc _;have k3:=sH a.aq;have k4:=sH b.aq;have X:strs (bO b)=.sl 1 (bs (bO b)):=rfl;rw[X]at w
 have Y:aB (ep a b x y)=[.sl 1 (bs a.au++bs b.au),.sl 2 (a.aq.map bb++b.aq.map bb),.sl 3 ((ek 0 (a.av++b.av) (x++y)).map aI),.sl 5 ((cv 0 (x++y)).map aR)]:=by
  unfold aB ep xJ strs bs;simp only[jK]
 rw[Y]at W |-
 have m1:((ek 0 (a.av++b.av) (x++y)).map aI).length=(a.av++b.av).length:=by rw[bS,qc _ _ _ (by simp[r,E])]
 have m2:((cv 0 (x++y)).map aR).length=aP (x++y):=by rw[bS,ki]
 generalize(ek 0 (a.av++b.av) (x++y)).map aI=J1 at *;generalize(cv 0 (x++y)).map aR=J2 at *;generalize(a.av++b.av).length=n1 at *;generalize aP (x++y)=n2 at *;generalize(ek 0 a.av x).map aI=I1 at *;generalize(cv 0 x).map aR=I2 at *;refine dj func20 ntmps20 ?_;refine zac ?_;refine zaX ?_;refine I [] hA ?_;refine I [] hB ?_;refine I [] w ?_;refine GW.range (bs (bO b)).length (fun k Z Γ=>Z=U::U::.box (aB a) 0::.box (aB b) 0::.loc 0 0::zU 16 (.sl 1 (bs (bO b))::.v (ii ((bs (bO b)).length:Int))::.v (ii (k:Nat))::zU 44 [])/\Γ=[.box 28 [.v (.slice none 0 0),.v (.slice none 0 0),.v (.slice none 0 0),.v (.slice none 0 0)]]/\((bO b).take k).any (fun s=>(bO a).contains s)=false) ?_ L ?_ ?_ ?_
 ·exact kP
 ·exact jA
 ·rintro k _ _ A⟨rfl,rfl,d⟩;rw[B]at A;obtain⟨s,Q⟩:∃s,(bO b)[k]?=some s:=⟨(bO b)[k],by simp[A]⟩
  have hr:(bs (bO b))[k]?=some [.v (sv s)]:=by unfold bs;rw[dR,Q];rfl
  have h:=hH s;have C:=NJ (f:=fun s=>(bO a).contains s) Q
  have hit:=fun t=>Rm (f:=fun s=>(bO a).contains s) Q t
  cases O:(bO a).contains s with
  |true =>
   rw[O]at h;rw[ai (hit O)];refine zcs ?_;refine I [] h ?_;refine um ?_;exact zaH
  |false =>
   rw[O]at h C;refine zcs ?_;refine I [] h ?_;exact⟨rfl,rfl,_,_,Wk.a6 aC,rfl,rfl,by rw[C,d];rfl⟩
 ·rintro _ _⟨rfl,rfl,d⟩;rw[B,dx]at d;rw[d];refine zbJ ?_;refine zcl ?_;refine zdv ?_;refine OA rfl rfl (GL.vB rfl rfl rfl rfl k1 (by rw[g1];refine⟨?_,?_⟩<;>omega) ?_);refine b0 ?_;simp only[nil_append,dy];refine ay ?_;refine OA rfl rfl (GL.vB rfl rfl rfl rfl k2 (by rw[g1,g2];refine⟨?_,?_⟩<;>omega) ?_);refine zbu ?_;refine bg ?_;refine GW.wk (Wk.rm (i:=1) (o:=0) (j:=2) rfl rfl rfl rfl (by simp[chunk])) ?_;refine GW.wk (Wk.cut (n:=2) aU rfl) ?_;simp only[bB,oset,take_succ_cons,take_zero];refine V ?_;refine zdv ?_;refine OA rfl rfl (GL.vB rfl rfl rfl rfl k3 (by rw[S];refine⟨?_,?_⟩<;>omega) ?_);refine b0 ?_;simp only[nil_append,dy];refine ay ?_;refine OA rfl rfl (GL.vB rfl rfl rfl rfl k4 (by rw[S,g4];refine⟨?_,?_⟩<;>omega) ?_);refine zbu ?_;refine bg ?_;refine GW.wk (Wk.rm (i:=1) (o:=1) (j:=2) rfl rfl rfl rfl (by simp[chunk])) ?_;refine GW.wk (Wk.cut (n:=2) aU rfl) ?_;refine GW.wk (Wk.a6 (c8:=U::U::.box (aB a) 0::.box (aB b) 0::.loc 0 0::U::U::U::.loc 1 0::zU 59 []) aC) ?_;refine zey ?_;simp only[bB,oset,take_succ_cons,take_zero,cons_append,nil_append];refine V ?_;refine aV (aM 0 3 (.q 5 (.q 6 (.a 3 (.a 4 (.a 7 (.a 8 (.a 9 .nil)))))))) ?_;refine ay ?_;refine jz [] M ?_
  try simp only[gL]
  refine zbK ?_;refine bP [2,3] (l _ _ _ _ _ _) ?_;rintro _ _⟨p1,p2,p3,p4,rfl,rfl⟩;refine⟨by simp,?_⟩;refine zbu ?_;refine jz [] N ?_
  try simp only[gL]
  refine zbK ?_;refine bP [2,3] (m _ _ _ _ _ _) ?_;rintro _ _⟨q1,q2,q3,q4,rfl,rfl⟩;refine⟨by simp,?_⟩;refine zbu ?_;refine bg ?_;refine GW.wk (Wk.nV (i:=1) (o:=2) (j:=2) rfl rfl rfl rfl) ?_;simp only[bB,oset];refine GW.wk (Wk.nV (i:=1) (o:=3) (j:=3) rfl rfl rfl rfl) ?_;simp only[bB,oset];refine GW.wk ((Wk.cut (n:=2) aU rfl).trans (Wk.a6 (c8:=U::U::U::U::.loc 0 0::U::U::U::.loc 1 0::zU 59 []) aC)) ?_;simp only[take_succ_cons,take_zero];refine V ?_;refine ja [] W ?_
  by_cases t:c=0
  ·subst t;rw[ai rfl];refine V ?_;refine oB ?_;exact zai
  ·have Hm:(c != 0)=true:=by simpa using t
   rw[ab t];refine V ?_;refine um ?_;exact zaH
theorem Re(a b:Src)(n:cH a+cH b<=1048576):GF prog 20 [.agg (aB a),.agg (aB b)] [] (.tup [.agg (aB (nj a b).1),.v (ii (nj a b).2)]) []:=by
 have m:=tI a L;have N:=tI b L;unfold nj
 by_cases l:(fI a&&fI b)=true
 ·rw[ai l];rw[aZ]at l;have⟨x,hx⟩:=jH l.1;have⟨y,B⟩:=jH l.2;have M:=Gn a L;have X:=Gn b L;unfold qg at M X;rw[ai l.1]at M;rw[ai l.2]at X;rw[l.1]at m;rw[l.2]at N;rw[hx.r8,B.r8];simp only;obtain⟨c,z,Q,e⟩:=Nt (ep a b x y) (by rw[AX hx B];exact n)
  refine(Rc a b n hx B c z m N M X Q).mono fun g k h=>?_
  have⟨q,d⟩:=h;refine⟨?_,q⟩;rw[d,<-e];split
  ·rfl
  ·by_cases o:c=0
   ·subst o;rfl
   ·rw[ab o,ab zfk]
 ·rw[ab l];exact Rb a b (by simpa using l) m N
end Go.Xg
namespace Go.Im
open Go.Xp Go.Sp
def tf(p:Src)(n:Nd)(ls:List ah)(b:Bool):Bool :=
 if n.aj=2\/n.aj=7 then ls.contains n.s ||(if b=true then decide (0<=fi p n.s)else p.au.contains n.s)
 else if n.aj=3\/n.aj=8 then decide (0<=fi p n.s)
 else if n.aj=4 then iO n.s ||decide (0<=jd p n.s)else true
def kU(s:List Int)(n:Nd):List Int:=if n.aj=4/\n.s=ef then s++n.aw else s
def fG(s:List Int)(_:Nat)(t:T)(_:List ah):List Int:=kU s t.n
mutual
def yx(p:Src):T->Nat->List Int->List ah->Prop
 |.mk n l,a,s,t=>tf p n t ((kU s n).contains (a:Int))=true/\xb p l (a+1) (kU s n) t
def xb(p:Src):List T->Nat->List Int->List ah->Prop
 |[],_,_,_=>True
 |t::r,a,s,u=>yx p t a s u/\xb p r (a+be t) (fy fG t a s u).1 (u++l6 t)
end
theorem Mj(p:Src):∀{l:List T}{a k:Nat}{s:List Int}{ls:List ah}{u:T},xb p l a s ls->l[k]?=some u->yx p u (a+aP (l.take k)) (dh fG (l.take k) a s ls).1 (dh fG (l.take k) a s ls).2
 |[],a,k,s,ls,u,_,h=>by simp at h
 |t::r,a,0,s,ls,u,h,N=>by cases N;rw[xb]at h;rw[take_zero,dh,aP];exact h.1
 |t::r,a,k+1,s,ls,u,h,N=>by
  rw[xb]at h;have:=Mj p (k:=k) h.2 (by simpa using N);rw[take_succ_cons,dh,aP,uR]
  rwa[kA]at this
end Go.Im
namespace Go.Xg
open Go.RowKit Go.Xw Go.Proofs Tryz Go.Im
open Go.Xp (Nd)
open Go.Sp (Src)
attribute [local irreducible] GW GL GO D GC GA bo bn
theorem Si(p:Src)(hg:p.au.length<=1099511627776)(ha:p.aq.length<=1099511627776)(hf:p.av.length<=1099511627776){a:Nat}{n:Nd}(hn:p.ae[a]?=some n)(ls:List Go.Xp.ah)(M:ls.length<=1099511627776)(b:Bool)(h:tf p n ls b=true) :
  GF prog 152 [.agg (aB p),.v (ii (a:Nat)),strs ls,.v (.bool b)] [] (.v (sv [])) []:=by
 have w:=cq hn;have Q:=jm ls n.s M;have R:=jm p.au n.s hg;have m:GF prog 51 [.agg (aB p),.v (sv n.s)] [] (.v (ii (fi p n.s))) []:=rC p n.s ha;have O:GF prog 52 [.agg (aB p),.v (sv n.s)] [] (.v (ii (jd p n.s))) []:=zu p n.s hf;have i:=B4 n.s;unfold aR at w;unfold tf at h;generalize fi p n.s=x at *;generalize jd p n.s=y at *;generalize iO n.s=r at *;generalize ls.contains n.s=c at *;generalize p.au.contains n.s=d at *
 by_cases S:n.aj=2
 ·have T:(n.aj==2)=true:=by simpa using S
  rw[ai (.inl S)]at h
  cases c with
  |true =>
   cases b
   all_goals
    exact zd3
  |false =>
   simp only[Bool.false_or]at h
   cases b with
   |true =>
    exact zc5
   |false =>
    exact zcV
 have T:(n.aj==2)=false:=by simpa using S
 by_cases o:n.aj=7
 ·have B:(n.aj==7)=true:=by simpa using o
  rw[ai (.inr o)]at h
  cases c with
  |true =>
   cases b
   all_goals
    exact zd3
  |false =>
   simp only[Bool.false_or]at h
   cases b with
   |true =>
    exact zc5
   |false =>
    exact zcV
 have B:(n.aj==7)=false:=by simpa using o
 rw[ab L]at h
 by_cases q:n.aj=3
 ·have W:(n.aj==3)=true:=by simpa using q
  rw[ai (.inl q)]at h;exact zeY
 have W:(n.aj==3)=false:=by simpa using q
 by_cases Z:n.aj=8
 ·have l:(n.aj==8)=true:=by simpa using Z
  rw[ai (.inr Z)]at h;exact zeY
 have l:(n.aj==8)=false:=by simpa using Z
 rw[ab L]at h
 by_cases E:n.aj=4
 ·have z:(n.aj==4)=true:=by simpa using E
  rw[ai E]at h
  cases r with
  |true =>
   refine ak func152 ntmps152 ?_;refine I [] Q ?_;refine I [] i ?_;exact az
  |false =>
   simp only[Bool.false_or]at h;refine ak func152 ntmps152 ?_;refine I [] Q ?_;refine I [] i ?_;exact zeQ
 have z:(n.aj==4)=false:=by simpa using E
 exact zd3
end Go.Xg
namespace Go.Xg
open Go.RowKit Go.Xw Go.Proofs Tryz Go.Im
open Go.Xp (Nd T be aP)
open Go.Sp (Src)
theorem uu{B:Bs}{K:Fz}{β:Bt}{w:World}{l:List Value}{fr:am}{A C:ap}{p:Src}{x y u v:Operand}{E k:Nat}{rows:List am}{h z e:Value}(j:Inv B K β (A++(.vech E k rows h::C)) w)(Q:FR K β fr l)(hx:bf fr x=.agg (aB p))(H:bf fr y=.v z)(M:bf fr u=.v h)(m:bf fr v=.v e) :
  ∃O,mo O w/\kH O (fun _=>.no) w/\bu O (fun _=>.no) ([x,y,u,v].map (ev l)) [.agg (aB p),.v z,.sl k rows,.v e]:=by
 have⟨O,N,o,b,G⟩:=j.view (i:=A.length) (E:=E) (k:=k) (rows:=rows) (x:=h) zfr;have F:=Q.ev x;rw[hx]at F;refine⟨O,o,b,?_⟩;show bu O _ [ev l x,ev l y,ev l u,ev l v] _;rw[Q.fE H,Q.fE M,Q.fE m];exact .cons (K6 N (zr p) F) (.cons (.v _) (.cons G (.cons (.v _) .nil)))
attribute [local irreducible] GW GL GO D GC GA bo bn
theorem S2(p:Src)(a:Nat)(n:Nd)(ls:List Go.Xp.ah)(s:List Int)(Q R:TypeId)(u:Option Addr)(z:Nat)(F:Option Addr)(G:Nat)(hn:p.ae[a]?=some n)(hg:p.au.length<=1099511627776)(ha:p.aq.length<=1099511627776)(hf:p.av.length<=1099511627776)(X:ls.length<=1099511627776)
  (hs:s.length<=1048576000)(hk:n.aw.length<=1048576)(h:tf p n ls ((kU s n).contains (a:Int))=true) :
  GC prog 151 [.v (ii (a:Nat)),.v (.slice F ls.length G),.box (aB p) 0,.loc 0 0,.loc 2 0] [.box Q [.v (.slice u s.length z)],.vech 3 1 (fO s) (.slice u s.length z),.box R [.v (.slice none 0 0)],.vech 9 1 (bs ls) (.slice F ls.length G)] fun g Δ=>g=.tup []/\∃k m,
   Δ=[.box Q [.v (.slice k (kU s n).length m)],.vech 3 1 (fO (kU s n)) (.slice k (kU s n).length m),.box R [.v (.slice none 0 0)],.vech 9 1 (bs ls) (.slice F ls.length G)]:=by
 have Y:=cq hn;have N:=RX s;have o:(n.aw.map fun i=>[GV.v (ii i)]).length=n.aw.length:=bS _;have r:=Ez n.aw;have j:=Fw (kU s n) (a:Int) (by unfold kU;split;(· rw[bp];omega);omega);have E:=Si p hg ha hf hn ls X _ h
 have S:∀x:List Go.Xp.ah,strs x=.sl 1 (bs x):=fun _=>rfl
 have T:∀x:List Int,ints x=.sl 1 (fO x):=fun _=>rfl
 rw[S]at E;rw[T]at j;generalize(kU s n).contains (a:Int)=b at *;unfold aR at Y
 cases M:(n.aj==4)with
 |false =>
  have e:kU s n=s:=by unfold kU;rw[ab fun h=>by rw[h.1]at M;cases M]
  exact zav
 |true =>
  have Z:n.aj=4:=by simpa using M
  cases O:(n.s==[115,105,122,101])with
  |false =>
   have e:kU s n=s:=by unfold kU;rw[ab fun h=>by rw[show(n.s==[115,105,122,101])=true by rw[h.2];rfl]at O;cases O]
   exact zav
  |true =>
   have e:kU s n=s++n.aw:=by unfold kU;rw[ai ⟨Z,(beq_iff_eq.1 O:n.s=[115,105,122,101])⟩]
   rw[e]at j |-
   have W:fO (s++n.aw)=fO s++n.aw.map fun i=>[GV.v (ii i)]:=by simp[fO]
   rw[W]at j |-;rw[bp];refine ak func151 ntmps151 ?_;refine GL.nb 1 rfl rfl rfl N r (by rw[o];refine⟨?_,?_⟩<;>omega) ?_;intro H J;rw[o];refine zak ?_;refine aV (aM 0 5 (.a 5 (.a 6 (.q 7 .nil)))) ?_;refine ay ?_;refine OA rfl rfl (GL.borrow j (fun B K t w l d c=>iV (A:=[_]) (C:=[_,_,_]) d c rfl rfl) ?_);refine zbu ?_;refine OA rfl rfl (GL.borrow E (fun B K t w l d c=>uu (A:=[_,_,_]) (C:=[_]) d c rfl rfl rfl rfl) ?_);refine zej ?_;exact⟨rfl,H,J,rfl⟩
open GV (U)
open Go.Xp (cW)
theorem cJ.take{ae:List Nd}:∀(l:List T)(a k:Nat),cJ ae a l->cJ ae a (l.take k)
 |[],a,k,h=>by rw[List.take_nil];exact h
 |t::r,a,0,h=>by rw[take_zero,cJ];trivial
 |t::r,a,k+1,h=>by rw[cJ]at h;rw[take_succ_cons,cJ];exact⟨h.1,cJ.take r _ k h.2⟩
theorem Pz{l:List T}{k:Nat}{u:T}(h:l[k]?=some u):aP (l.take k)+be u+(l.length-(k+1))<=aP l:=by
 have o:l=l.take k++(u::l.drop (k+1)):=by
  have O:=(b6 h);obtain⟨N,rfl⟩:=O;rw[<-lz N,List.take_append_drop]
 have b:=Go.Xp.dU (l.drop (k+1));rw[qt]at b
 have G:aP l=aP (l.take k)+(be u+aP (l.drop (k+1))):=by
  conv=>lhs;rw[o]
  rw[Go.Xp.jE,Go.Xp.aP]
 omega
mutual
theorem U1{ae:List Nd}:∀(t:T)(a:Nat)(s:List Int)(ls:List ah),dr ae a t->(fy fG t a s ls).1.length+1<=s.length+be t
 |.mk n l,a,s,ls,h=>by
  rw[dr]at h;have o:=A9 l (a+1) (kU s n) ls h.2.2
  have Z:n.aw.length=l.length:=by rw[h.2.1,cW]
  have b:(kU s n).length<=s.length+l.length:=by unfold kU;split;(· rw[bp];omega);omega
  rw[fy,Go.Xp.be];show(dh fG l (a+1) (kU s n) ls).1.length+1<=_;omega
theorem A9{ae:List Nd}:∀(l:List T)(a:Nat)(s:List Int)(ls:List ah),cJ ae a l->(dh fG l a s ls).1.length+l.length<=s.length+aP l
 |[],a,s,ls,_=>by rw[dh];simp[aP]
 |t::r,a,s,ls,h=>by
  rw[cJ]at h;have o:=U1 t a s ls h.1;have b:=A9 r (a+be t) (fy fG t a s ls).1 (fy fG t a s ls).2 h.2;rw[dh,Go.Xp.aP,length_cons];omega
end
def Fa(p:Src):GV:=.fn (.func 151) [] [.box (aB p) 0,.loc 0 0,.loc 2 0]
def QX(p:Src):GV:=.fn (.func 115) [] [.loc 3 0,.loc 4 0,.box (aB p) 0,.loc 5 0]
def QM(j Q:TypeId)(s:List Int)(H:Option Addr)(Z:Nat):ap:=[.box j [.v (.slice H s.length Z)],.vech 3 1 (fO s) (.slice H s.length Z),.box Q [.v (.slice none 0 0)]]
def Cn(p:Src)(j Q k X z:TypeId)(s:List Int)(ls:List ah)(S:Option Addr)(c:Nat)(H:Option Addr)(Z:Nat):ap :=
 [.box j [.v (.slice H s.length Z)],.vech 3 1 (fO s) (.slice H s.length Z),.box Q [.v (.slice none 0 0)],.box k [Fa p],.box X [.v (.slice S ls.length c)],.box z [QX p],.vech 9 1 (bs ls) (.slice S ls.length c)]
theorem PI(p:Src)(J M O Q R:TypeId)(hp:p.ae.length<=1048576)(wy:∀n∈p.ae,n.aw.length<=1048576)(Y:p.av.length<=1099511627776)(X:p.aq.length<=1099511627776)(Z:p.au.length<=1099511627776):∀(N:Nat)(t:T),be t<=N->∀(a:Nat)(s:List Int)(ls:List ah)(w:Option Addr)(z:Nat)(d:Option Addr)(j:Nat),dr p.ae a t->ls.length+be t<=8388608->s.length+be t<=8388608->yx p t a s ls ->
  GC prog 115 [.v (ii (a:Nat)),.loc 3 0,.loc 4 0,.box (aB p) 0,.loc 5 0] (Cn p J M O Q R s ls w z d j) fun g Δ=>g=.tup []/\∃b c e m,Δ=Cn p J M O Q R (fy fG t a s ls).1 (fy fG t a s ls).2 b c e m:=by
 intro N
 induction N with
 |zero=>intro t h;exact zeK
 |succ N ih =>
 intro t hN a s ls w z d j A Qn hss hz
 cases t with
 |mk n l =>
 rw[Go.Xp.be]at hN Qn hss;have aaN:=A;rw[yx]at hz;rw[dr]at A;have⟨hn,hk,G⟩:=A;rw[fy];have hr:=cq hn;have Lt:=wy n (bN hn);have ht:=S2 p a n ls s J M d j w z hn Z X Y L L Lt hz.1
 have o:n.aw.length=l.length:=by rw[hk,cW]
 have aaK:(kU s n).length<=s.length+l.length:=by unfold kU;split;(· rw[bp];omega);omega
 have Qu:=hz.2;rw[show fG s a (.mk n l) ls=kU s n from rfl];generalize kU s n=r at *;unfold aR at hr;unfold Cn Fa QX;refine ak func115 ntmps115 ?_;refine GL.re [0,1,2,6] ht rfl rfl rfl (by repeat (first|exact trivial|refine⟨rfl,?_⟩)) ?_;rintro _ _⟨rfl,d,j,rfl⟩;refine zas ?_;refine GW.range (n.aw.map fun i=>[GV.v (ii i)]).length (fun k fr Γ=>∃b c e m,fr=[.v (ii (a:Nat)),.loc 3 0,.loc 4 0,.box (aB p) 0,.loc 5 0,U,U,U,U,U,U,U,U,U,U,U,U,ints n.aw,.v (ii ((n.aw.map fun i=>[GV.v (ii i)]).length:Int)),.v (ii (k:Nat)),U,U,U,U,U,U,U,U,U,U,U,U,U,U,U,U,U,U,U,U,U,U,U]/\Γ=Cn p J M O Q R (dh fG (l.take k) (a+1) r ls).1 (dh fG (l.take k) (a+1) r ls).2 b c e m) ?_ zfq ?_ ?_ ?_
 ·exact⟨_,_,Wk.a6 aC,w,z,d,j,rfl,rfl⟩
 ·rintro k _ _⟨w,z,d,j,rfl,rfl⟩;exact dS
 ·rintro k _ _ F⟨w,z,d,j,rfl,rfl⟩;rw[bS,o]at F;obtain⟨u,B⟩:∃u,l[k]?=some u:=⟨l[k],by simp[F]⟩;have C:=rK (n:=a+1) B;rw[<-hk]at C;have Ur:=gE C;have rI:=oy B;have hsu:dr p.ae (a+1+aP (l.take k)) u:=cJ.ix l (a+1) k u G B
  have E:(dh fG (l.take k) (a+1) r ls).2.length<=ls.length+aP (l.take k):=by
   rw[oc,bp];have:=pQ (l.take k);omega
  have aab:(dh fG (l.take k) (a+1) r ls).1.length+k<=r.length+aP (l.take k):=by
   have:=A9 (l.take k) (a+1) r ls (cJ.take l (a+1) k G)
   rwa[iC,Nat.min_eq_left L]at this
  have hdr:=Pz (l:=l) (k:=k) B;have Qv:=Mj p Qu B;rw[yI _ B];generalize(dh fG (l.take k) (a+1) r ls).1=s2 at *;generalize(dh fG (l.take k) (a+1) r ls).2=q at *;have H:=ih u L (a+1+aP (l.take k)) s2 q w z d j hsu L L Qv;unfold Cn Fa QX at H |-;refine V ?_;refine GL.re [0,1,2,3,4,5,6] H rfl rfl rfl (by repeat (first|exact trivial|refine⟨rfl,?_⟩)) ?_;rintro _ _⟨rfl,b,c,e,m,rfl⟩;refine zas ?_;exact⟨rfl,rfl,_,_,Wk.a6 aC,b,c,e,m,rfl,rfl⟩
 ·rintro _ _⟨w,z,d,j,rfl,rfl⟩;rw[bS,o,dx]
  have E:(dh fG l (a+1) r ls).2.length<=ls.length+aP l:=by
   rw[oc,bp];have:=pQ l;omega
  generalize(dh fG l (a+1) r ls).1=s2 at *;generalize(dh fG l (a+1) r ls).2=q at *;have B1:(bs q).length=q.length:=nJ q;unfold Cn Fa QX;refine bg ?_
  cases H:(n.aj==13)with
  |false =>
   rw[ab (by simpa using H)];refine V ?_;refine cy ?_;exact⟨rfl,w,z,d,j,rfl⟩
  |true =>
   rw[ai (by simpa using H)];refine zcX ?_;refine OA rfl rfl (GL.mr 6 (news:=[[.v (sv n.s)]]) rfl rfl rfl aH rfl rfl (by refine⟨?_,?_⟩;(· show _+1<=_;omega);(· show(_+1)*_<=_;omega)) ?_);intro S W;refine zej ?_;exact⟨rfl,S,W,d,j,by simp[bs]⟩
theorem RD(p:Src)(j Q:TypeId)(i:Nat)(f:Go.Sp.Fn)(t:T)(s:List Int)(H:Option Addr)(Z:Nat)(z:p.ae.length<=1048576)(l:∀n∈p.ae,n.aw.length<=1048576)(o:p.av.length<=1099511627776)(N:p.aq.length<=1099511627776)(k:p.au.length<=1099511627776)
  (hf:p.av[i]?=some f)(W:f.params.length<=1048576)(E:0<=f.body)(r:dr p.ae f.body.toNat t)(A:be t<=1048576)(G:s.length+be t<=8388608)(q:yx p t f.body.toNat s f.params) :
  GC prog 53 [.agg (aB p),.v (ii (i:Nat)),Fa p] (QM j Q s H Z) fun g C=>g=.tup []/\∃X c,C=QM j Q (fy fG t f.body.toNat s f.params).1 X c:=by
 have w:(p.av.map aI)[i]?=some (aI f):=by rw[dR,hf];rfl
 have d:(f.params.map fun s=>[GV.v (sv s)]).length=f.params.length:=by simp
 have F:=mc f.params;obtain⟨b,m⟩:∃b:Nat,f.body=(b:Int):=⟨f.body.toNat,by omega⟩;rw[m,eV]at r q |-;unfold aI at w;rw[m]at w;unfold Fa QM;refine dj func53 ntmps53 ?_;refine za8 ?_;refine GL.nb 5 rfl rfl rfl rfl F (by refine⟨?_,?_⟩;(· rw[d];omega);(· rw[d];omega)) ?_;intro S e;rw[d];refine zbx ?_;refine GW.GY (c8:=U::.v (ii (i:Nat))::U::.box (aB p) 0::U::.loc 4 0::.loc 6 0::.loc 7 0::zU 16 []) (bE:=[.box j [.v (.slice H s.length Z)],.vech 3 1 (fO s) (.slice H s.length Z),.box Q [.v (.slice none 0 0)],.gone,.box _ [.fn (.func 151) [] [.box (aB p) 0,.loc 0 0,.loc 2 0]],.vech 9 1 (bs f.params) (.slice S f.params.length e),.box _ [.v (.slice S f.params.length e)],.box _ [.fn (.func 115) [] [.loc 4 0,.loc 6 0,.box (aB p) 0,.loc 7 0]]]) aC rfl ?_;refine aV (aM 0 7 (.a 7 .nil)) ?_;refine ay ?_;have B:=PI p j Q;refine OA rfl rfl (GL.re [0,1,2,4,6,7,5] (B _ _ _ z l o N k _ t (a8 _) b s f.params S e H Z r L G q) rfl rfl rfl (by repeat (first|exact trivial|refine⟨rfl,?_⟩)) ?_);rintro _ _⟨rfl,u,Y,X,c,rfl⟩;refine⟨by simp[Cn],?_⟩;unfold Cn;refine zej ?_;exact⟨rfl,X,c,rfl⟩
end Go.Xg
namespace Go.Im
open Go.Xp Go.Sp
theorem yi{R:Type}{f:R->Bool}{l:List R}(h:l.findIdx? f≠none):0<=bL f l:=by
 unfold bL;split<;>simp_all
theorem Lj{p:Src}{t:T}{ls:List ah}(h:bG p t ls=0):tf p t.n ls false=true:=by
 unfold bG at h;unfold tf
 by_cases b:t.n.aj=2\/t.n.aj=7
 ·rw[ai b];rw[ab ze4,ai b]at h;rw[ab (by decide)]
  cases G:ls.contains t.n.s<;>cases C:p.au.contains t.n.s<;>simp_all
 rw[ab b]
 by_cases G:t.n.aj=3\/t.n.aj=8
 ·rw[ai G];rw[ab ze4,ab b,ai G]at h
  by_cases C:ls.contains t.n.s=true\/fi p t.n.s<0
  ·rw[ai C]at h;omega
  ·exact decide_eq_true ze4
 rw[ab G]
 by_cases C:t.n.aj=4
 ·rw[ai C];rw[ab ze4,ab b,ab G,ai C]at h
  cases v:iO t.n.s with
  |true=>rfl
  |false =>
   unfold iO at v;simp only[Bool.or_eq_false_iff,beq_eq_false_iff_ne]at v;unfold dw b8 at h;rw[show(t.n.s==ef)=false by simpa using v.2,Bool.and_false,Bool.false_and,ab (by decide)]at h;unfold jv at h
   have r:¬(t.n.s=lR\/t.n.s=ef):=fun e=>e.elim v.1.2 v.2
   rw[ab v.1.1,ab r]at h;exact decide_eq_true (yi fun e=>by simp[e]at h)
 ·rw[ab C]
theorem B0{p:Src}{n:Nd}{ls:List ah}{b:Bool}(i:b=false)(h:tf p n ls false=true):tf p n ls b=true:=by rw[i];exact h
theorem ye{s:List Int}{a:Int}(h:∀x∈s,x≠a):s.contains a=false:=by
 cases W:s.contains a with
 |false=>rfl
 |true=>exact absurd rfl (h a (rv.1 W))
mutual
theorem QI{p:Src}:∀(t:T)(a:Nat)(s:List Int)(ls:List ah),dr p.ae a t->fS t->qz p t ls->(∀x∈s,x<(a:Int))->yx p t a s ls/\∀x∈(fy fG t a s ls).1,x<((a+be t:Nat):Int)
 |.mk n l,a,s,ls,r,u,A,G=>by
  rw[qz]at A;rw[dr]at r;have W:=Lj A.1;have B:=u;rw[fS]at u;rw[yx,fy,be]
  by_cases o:n.aj=4/\n.s=ef
  ·obtain⟨k,w,R,q,E,-,-⟩:=Bq B A.1 o.1 o.2;have w:l=[k]:=w;subst w;have⟨m,j⟩:=k;have q:j=[]:=q;subst q;have J:n.aw=[((a+1:Nat):Int)]:=r.2.1
   have c:kU s n=s++[((a+1:Nat):Int)]:=by unfold kU;rw[ai o,J]
   have v:kU (kU s n) m=kU s n:=by unfold kU;rw[ab (show ¬(m.aj=4/\_)from fun e=>by have R:m.aj=2:=R;omega)]
   have X:(kU s n).contains ((a+1:Nat):Int)=true:=by rw[c];simp
   refine⟨⟨B0 (ye fun x hx=>?_) W,?_⟩,fun x hx=>?_⟩
   ·rw[c]at hx
    rcases pG hx with hx|hx
    ·have:=G x hx;omega
    ·rw[J0 hx];omega
   ·rw[xb,xb,yx,xb,v,X];refine⟨⟨?_,trivial⟩,trivial⟩;unfold tf;rw[ai (.inl R),ai rfl];have E:0<=fi p m.s:=E;simp[E]
   ·rw[dh,dh,fy,dh]at hx;simp only[fG,T.n]at hx;rw[v,c]at hx;rw[aP,aP,be,aP]
    rcases pG hx with hx|hx
    ·have:=G x hx;omega
    ·rw[J0 hx];omega
  ·have c:kU s n=s:=ab o
   have C:b8 (.mk n l)=false:=by
    unfold b8
    cases F:(n.aj==4)<;>cases i:(n.s==ef)<;>simp_all[T.n]
   obtain⟨H,S⟩:=Mk l (a+1) s ls r.2.2 u.2.2 (A.2 C) fun x hx=>by have:=G x hx;omega
   rw[c];refine⟨⟨B0 (ye fun x hx=>by have:=G x hx;omega) W,H⟩,fun x hx=>?_⟩;have:=S x (by simpa[fG,T.n,c]using hx);omega
theorem Mk{p:Src}:∀(l:List T)(a:Nat)(s:List Int)(ls:List ah),cJ p.ae a l->eH l->oU p l ls->(∀x∈s,x<(a:Int))->xb p l a s ls/\∀x∈(dh fG l a s ls).1,x<((a+aP l:Nat):Int)
 |[],a,s,ls,_,_,_,G=>by rw[xb,dh,aP];exact⟨trivial,G⟩
 |t::r,a,s,ls,u,m,A,G=>by
  rw[cJ]at u;rw[eH]at m;rw[oU]at A;rw[xb,dh,aP];have⟨H,R⟩:=QI t a s ls u.1 m.1 A.1 G;rw[uR];have⟨d,v⟩:=Mk r (a+be t) (fy fG t a s ls).1 (ls++l6 t) u.2 m.2 A.2 R;exact⟨⟨H,d⟩,fun x hx=>by have:=v x hx;rwa[kA]at this⟩
end
end Go.Im
namespace Go.Proofs
open Go.Shelf
def Tryz.F5:Go.Shelf.Ren:=⟨fun|194=>155|n=>n,fun|31=>23|9=>9|3=>3|4=>4|0=>0|n=>n,fun|n=>n⟩
theorem Tryz.R7:Go.Proofs.Lays.n194 Tryz.prog Tryz.F5:=zsr
open Go.RowKit Go.Lib Go.Sort in
theorem Tryz.slices_Compact_string_empty(a:Option Addr)(c:Nat)(w:World) :
  Calls Tryz.prog 155 #[.slice a 0 c] w fun e w'=>e=.returned (.slice a 0 c)/\w'=w:=Any.slices_Compact_string_empty Tryz.R7 a c w
end Go.Proofs
namespace Go.Xg
open Go.RowKit Go.Xw Go.Proofs Tryz Go.Im
open GV (U)
open Go.Xp (T)
open Go.Sp (Src)
theorem Ri:GF prog 154 [.v (.slice none 0 0)] [] (.tup []) []:=fun B K l w n m j O=>by
 obtain rfl:=QL O;refine nZ.ue (Calls.mono (slices_Sort_string_none none 0 w) ?_);rintro e Z⟨k,rfl⟩;exact⟨_,k,K,l,.tup [],_,j,.tup [] [] rfl (fun i v g h=>by simp at h),rfl,rfl⟩
theorem Iw:GF prog 155 [.v (.slice none 0 0)] [] (.v (.slice none 0 0)) []:=fun B K l w m k i O=>by
 obtain rfl:=QL O;refine nZ.ue (Calls.mono (slices_Compact_string_empty none 0 w) ?_);rintro e Z⟨j,rfl⟩;exact⟨_,j,K,l,.v _,_,i,.v _,rfl,rfl⟩
attribute [local irreducible] GW GL GO D GC GA bo bn
theorem Rf(p:Src)(z:cH p<=1048576)(hn:iN p){l:List T}(O:fI p=true)(r:cD p l)(o:∀(i:Nat)f t,p.av[i]?=some f->l[i]?=some t->yx p t f.body.toNat [] f.params) :
  GF prog 81 [.agg (aB p)] [] (.v (.slice none 0 0)) []:=by
 have⟨⟨E,F⟩,⟨G,W⟩,⟨X,A⟩,⟨Y,d⟩⟩:=gg p
 have e:∀n∈p.ae,n.aw.length<=1048576:=fun n h=>by have:=(d n h).2;omega
 have q:=nY p z hn;rw[O]at q;have c:=eo.len r.av
 have b:(p.av.map aI).length=p.av.length:=by simp
 have S:=Ri;have R:=Iw;refine ak func81 ntmps81 ?_;refine I [] q ?_;refine GW.wk (Wk.freeze (i:=0) rfl rfl rfl (bl _)) ?_;refine GW.GY (c8:=[U,.box (aB p) 0,U,.loc 1 0,U,U,U,U,U,U,U,.v (ii ((p.av.map aI).length:Int)),.v (ii ((0:Nat):Int)),U,U,U,U,U,U,U,U,U,U,U]) (bE:=[.gone,.box 23 [.v (.slice none 0 0)]]) aC rfl ?_;refine GW.range (p.av.map aI).length (fun k J B=>J=[U,.box (aB p) 0,U,.loc 1 0,U,U,U,U,U,U,U,.v (ii ((p.av.map aI).length:Int)),.v (ii (k:Nat)),U,U,U,U,U,U,U,U,U,U,U]/\B=[.gone,.box 23 [.v (.slice none 0 0)]]) ?_ L ?_ ?_ ?_
 ·exact ji
 ·rintro k _ _⟨rfl,rfl⟩;exact dS
 ·rintro k _ _ N⟨rfl,rfl⟩;rw[b]at N;obtain⟨f,m⟩:∃f,p.av[k]?=some f:=⟨p.av[k],by simp[N]⟩;obtain⟨t,M⟩:∃t,l[k]?=some t:=⟨l[k]'L,cY _⟩;have j:=(eo.at_ r.av k f t m M).1;have C:=cJ.ix l 0 k _ r.st M;rw[dy]at j C;have o:=o k f t m M;rw[j,eV]at o;have w:=dr.le t _ C
  have s:=fun u Q=>RD p u Q k f t [] none 0 L e L L L m (by have:=(A f (bN m));omega) L (by rw[j,eV];exact C) L (by simp;omega) (by rw[j,eV];exact o)
  unfold QM Fa at s;refine V ?_;refine GL.wk (Wk.eS 3 1) ?_;refine bP [2,3,1] (s _ _) ?_;rintro _ _⟨rfl,H,Z,rfl⟩;refine zas ?_;exact⟨rfl,rfl,_,_,(Wk.cut (n:=2) (eF rfl) rfl).trans (Wk.a6 aC),rfl,rfl⟩
 ·rintro _ _⟨rfl,rfl⟩;refine zcl ?_;refine I [] S ?_;refine I [] R ?_;exact az
theorem Rj(p:Src)(m:cH p<=1048576)(hn:iN p){l:List T}(O:fI p=true)(r:cD p l)(n:∀(i:Nat)f t,p.av[i]?=some f->l[i]?=some t->yx p t f.body.toNat [] f.params) :
  GF prog 21 [.agg (aB p)] [] (.v (.bool true)) []:=by
 have q:=nY p m hn;rw[O]at q;have C:=Rf p m hn O r n;refine ak func21 ntmps21 ?_;refine I [] q ?_;refine I [] C ?_;exact az
theorem JZ(p:Src)(m:cH p<=1048576)(hn:iN p){l:List T}(hg:Go.Im.Good p l):GF prog 21 [.agg (aB p)] [] (.v (.bool true)) [] :=
 Rj p m hn hg.test hg.st fun i f t o c=>by
  have⟨a1,F,A,b,r⟩:=hg.at_ i f t o c;exact(QI t f.body.toNat [] f.params b F a1 ze3).1
end Go.Xg
namespace Go.Xg
open Go.RowKit Go.Xw Go.Proofs Tryz Go.Sp Go.Im
open GV (U)
section
variable{P:Program}{fn:Func}{m:Nat}{R:GV->ap->Prop}{fr:am}{Γ:ap}{e:Exit}
theorem Wc{n:Nat}{t u:Tmp}{T r:TypeId}{k k':Nat}[hT:Ty P T true k][X:Ty P r true k']{i j:Nat}{E S:TypeId}{cs ds:am}(hr:fn.results=#[.cell t T,.cell u r])(Z:e=.normal\/e=.ret)(hg:bx fr t=.loc i 0)(c:Γ[i]?=some (.box E cs))(N:cs.length=k)(s:bx fr u=.loc j 0)(d:Γ[j]?=some (.box S ds))(A:ds.length=k')
  (hm:m<=n)(hl:qh n (Γ.take n)=true)(z:(GV.tup [.agg cs,.agg ds]).lt n=true)(h:R (.tup [.agg cs,.agg ds]) (Γ.take n)):oZ P fn m R e fr Γ :=
 ⟨Z,fun B K C w l hB J W=>by
  have q:∀{t:Tmp}{T:TypeId}{k:Nat}[Ty P T true k]{i:Nat}{E:TypeId}{cs:am},bx fr t=.loc i 0->Γ[i]?=some (.box E cs)->cs.length=k->∃b vs,nth l t=.pointer (some ⟨b,0,none⟩)/\bu K C vs cs/\(loadVar T ⟨b,0,none⟩).run P w=.ok (.agg vs.toArray) w:=fun{t T k}_{i E cs}hg c N=>by
   have⟨b,vs,h1,h2,H,h4⟩:=J.ob i _ c
   have hp:nth l t=.pointer (some ⟨b,0,none⟩):=by
    have:=W.nth t;rw[hg]at this;generalize nth l t=v at this
    cases this with
    |loc _ _ b' Y=>grind
   refine⟨b,vs,hp,H,?_⟩
   have:=jx (P:=P) (w:=w) (t:=T) (b:=b) (o:=0) (vs:=vs) (k:=k) (by have:=H.1;omega) (fun j v hj=>by
    grind[World.cell?])
   exact this
  have⟨F,v1,p1,O,l1⟩:=q (T:=T) hg c N;have⟨G,v2,p2,Q,l2⟩:=q (T:=r) s d A
  have q1:l[t]?.getD undef=.pointer (some ⟨F,0,none⟩):=by
   have:l.toArray.getD t undef=.pointer (some ⟨F,0,none⟩):=by rw[gQ,p1]
   exact zdc
  have q2:l[u]?.getD undef=.pointer (some ⟨G,0,none⟩):=by
   have:l.toArray.getD u undef=.pointer (some ⟨G,0,none⟩):=by rw[gQ,p2]
   exact zdc
  refine⟨.tuple #[.agg v1.toArray,.agg v2.toArray],K,dD (below n) C,.tup [.agg cs,.agg ds],Γ.take n,?_,J.cut L hl,?_,h⟩
  ·simp[results,hr,q1,q2,asAddr,l1,l2]
  ·refine Rel.res ?_ z;have M:bu K C [.agg v1.toArray,.agg v2.toArray] [.agg cs,.agg ds]:=.cons (.agg v1 cs O.1 O.2) (.cons (.agg v2 ds Q.1 Q.2) .nil)
   exact .tup _ _ M.1 M.2⟩
end
attribute [local irreducible] GW GL GO D GC GA bo bn oQ r7 ph
theorem Ca(code:ah)(M:code.length<=1099511627776)(c:c9)(W:c.i<=code.length) :
  GC prog 70 [.loc 0 0] [eL code c] (Aq code):=by
 have⟨k,q,o,H,j⟩:=oF M W 8 L;refine ak func70 ntmps70 ?_;refine zab ?_;refine I [0] o ?_;refine GL.zY 1000 rfl rfl (by decide +kernel) (by show k<8;omega) rfl ?_;intro s G;refine bh ?_;refine bP [] (uE s L) ?_;rintro _ _⟨rfl,p,Z,b,l,d,rfl⟩;refine zek ?_;exact⟨q,p,H,by omega,d,rfl,rfl⟩
def Zi(g:GV)(k:ap):Prop:=k=[]/\∃a b,cH a+cH b<=1048576/\iN a/\iN b/\g=.tup [.agg (aB a),.agg (aB b)]
theorem ID(code:ah)(M:code.length<=1099511627776):GC prog 18 [.sl 1 (di code)] [] Zi:=by
 refine ak func18 ntmps18 ?_;refine bP [] (OB code M) ?_;rintro _ _⟨h,rfl,rfl⟩;refine zas ?_;refine bP [2] (F1 code M ⟨0,h⟩ (bl _)) ?_;rintro _ _⟨r,p,H,l,d,rfl,rfl⟩;refine zas ?_;have⟨k,N,n,S,T⟩:=nI M H 2 L;refine I [2] n ?_;refine GW.join (fun fr Γ=>∃c p,fr=U::U::.loc 0 0::.loc 1 0::.loc 2 0::.loc 3 0::zU 19 []/\Γ=[.box 28 [.v (.slice none 0 0),.v (.slice none 0 0),.v (.slice none 0 0),.v (.slice none 0 0)],.box 28 [.v (.slice none 0 0),.v (.slice none 0 0),.v (.slice none 0 0),.v (.slice none 0 0)],eL code c,.box 28 (aB p)]/\c.i<=code.length/\cH p<=345000/\iN p) ?_ ?_
 ·cases O:(k==0)with
  |true =>
   refine V ?_;refine bP [2] (Ca code M N S) ?_;rintro _ _⟨w,p,j,l,d,rfl,rfl⟩;refine zas ?_;exact⟨_,_,Wk.a6 aC,w,p,rfl,rfl,j,l,d⟩
  |false =>
   refine V ?_;exact⟨_,_,Wk.a6 aC,N,p,rfl,rfl,S,l,d⟩
 rintro _ _⟨r,a,rfl,rfl,H,E,o⟩;refine V ?_;refine bP [2] (Ca code M r H) ?_;rintro _ _⟨N,p,S,l,d,rfl,rfl⟩;refine zas ?_;have⟨k,w,J,j,u⟩:=nI M S 8 L;refine I [2] J ?_;refine GW.join (fun fr Γ=>∃c p,fr=U::U::.loc 0 0::.loc 1 0::U::.loc 3 0::.loc 4 0::zU 18 []/\Γ=[.box 28 [.v (.slice none 0 0),.v (.slice none 0 0),.v (.slice none 0 0),.v (.slice none 0 0)],.box 28 [.v (.slice none 0 0),.v (.slice none 0 0),.v (.slice none 0 0),.v (.slice none 0 0)],eL code c,.box 28 (aB a),.box 28 (aB p)]/\c.i<=code.length/\cH p<=345000/\iN p) ?_ ?_
 ·cases O:(k==0)with
  |true =>
   refine V ?_;refine bP [2] (D4 code M w j) ?_;rintro _ _⟨G,p,Y,l,d,rfl,rfl⟩;refine zas ?_;exact⟨_,_,Wk.a6 aC,G,p,rfl,rfl,Y,l,d⟩
  |false =>
   refine V ?_;exact⟨_,_,Wk.a6 aC,w,p,rfl,rfl,j,l,d⟩
 rintro _ _⟨c,b,rfl,rfl,t,z,s⟩;refine V ?_;refine aV (.q 0 (.q 1 (.a 2 (.a 3 .nil)))) ?_;refine bj ?_;refine lG ?_;refine Wc rfl fH rfl rfl rfl rfl rfl rfl (a8 _) rfl rfl ?_;exact⟨rfl,a,b,by omega,o,s,rfl⟩
end Go.Xg
namespace Go.Mn
open Go.Xp (ah)
def LL:Mo:=⟨id,id,id⟩
mutual
theorem R.iK:∀r:R,r.mp LL=r
 |.num n=>by simp only[R.mp]
 |.loc k=>by simp only[R.mp]
 |.glob k=>by simp only[R.mp,LL,id]
 |.at_ k i=>by simp only[R.mp,R.iK i];rfl
 |.size n=>by simp only[R.mp]
 |.get=>by simp only[R.mp]
 |.put a=>zel
 |.call f l=>by simp only[R.mp,R.El l];rfl
 |.un o a=>zel
 |.bin o a b=>by simp only[R.mp,R.iK a,R.iK b]
 |.and_ a b=>by simp only[R.mp,R.iK a,R.iK b]
 |.or_ a b=>by simp only[R.mp,R.iK a,R.iK b]
 |.setL k a=>zel
 |.setG k a=>by simp only[R.mp,R.iK a];rfl
 |.putA k i v=>by simp only[R.mp,R.iK i,R.iK v];rfl
 |.if1 c t=>by simp only[R.mp,R.iK c,R.iK t]
 |.if2 c t e=>by simp only[R.mp,R.iK c,R.iK t,R.iK e]
 |.while_ c b=>by simp only[R.mp,R.iK c,R.iK b]
 |.ret a=>zel
 |.do_ a=>zel
 |.block l=>by simp only[R.mp,R.El l]
theorem R.El:∀l:List R,R.wA LL l=l
 |[]=>by rw[R.wA]
 |r::l=>by rw[R.wA,R.iK r,R.El l]
end
def AJ(aaT:BK):Dm:=⟨(· < aaT.g),(· < aaT.a),(· < aaT.f)⟩
mutual
theorem R.gn{aaT:BK}:∀r:R,r.fit aaT->r.cl (AJ aaT)
 |.num n,h=>by rw[R.cl];trivial
 |.loc k,h=>by rw[R.cl];trivial
 |.glob k,h=>by rw[R.fit]at h;rw[R.cl];exact h
 |.at_ k i,h=>by rw[R.fit]at h;rw[R.cl];exact⟨h.1,i.gn h.2⟩
 |.size n,h=>by rw[R.cl];trivial
 |.get,h=>by rw[R.cl];trivial
 |.put a,h=>zcW
 |.call f l,h=>by rw[R.fit]at h;rw[R.cl];exact⟨h.1.1,R.AO l h.2⟩
 |.un o a,h=>zcW
 |.bin o a b,h=>zcO
 |.and_ a b,h=>zcO
 |.or_ a b,h=>zcO
 |.setL k a,h=>by rw[R.fit]at h;rw[R.cl];exact a.gn h.2
 |.setG k a,h=>by rw[R.fit]at h;rw[R.cl];exact⟨h.1,a.gn h.2⟩
 |.putA k i v,h=>by rw[R.fit]at h;rw[R.cl];exact⟨h.1,i.gn h.2.1,v.gn h.2.2⟩
 |.if1 c t,h=>by rw[R.fit]at h;rw[R.cl];exact⟨c.gn h.1,t.gn h.2⟩
 |.if2 c t e,h=>by rw[R.fit]at h;rw[R.cl];exact⟨c.gn h.1,t.gn h.2.1,e.gn h.2.2⟩
 |.while_ c b,h=>by rw[R.fit]at h;rw[R.cl];exact⟨c.gn h.1,b.gn h.2⟩
 |.ret a,h=>zcW
 |.do_ a,h=>zcW
 |.block l,h=>by rw[R.fit]at h;rw[R.cl];exact R.AO l h
theorem R.AO{aaT:BK}:∀l:List R,R.fits aaT l->R.cls (AJ aaT) l
 |[],h=>by rw[R.cls];trivial
 |r::l,h=>by rw[R.fits]at h;rw[R.cls];exact⟨r.gn h.1,R.AO l h.2⟩
end
end Go.Mn
namespace Go.Im
open Go.Xp Go.Sp Go.Mn
structure Sub(a p:Src):Prop where
 glob:∀s,a.au.contains s=true->wz p.au s=wz a.au s
 arr:∀s,0<=fi a s->fi p s=fi a s/\ss p s=ss a s
 fn:∀s,0<=jd a s->jd p s=jd a s
theorem HY{a p:Src}(H:Sub a p){n:Nd}{l:List T}{ls:List ah}(r:List R)(W:fS (.mk n l))(t:bG a (.mk n l) ls=0):qj p n l ls r=qj a n l ls r:=by
 have O:tf a n ls false=true:=Lj t;unfold tf at O
 have J:n.aj=2\/n.aj=7->ls.contains n.s=false->wz p.au n.s=wz a.au n.s:=fun h k=>by
  rw[ai h,k]at O;exact H.glob _ zfu
 have m:n.aj=3\/n.aj=8->fi p n.s=fi a n.s:=fun h=>by
  rw[ab ze4,ai h]at O;exact(H.arr _ zfu).1
 have v:n.aj=4->iO n.s=false->jd p n.s=jd a n.s:=fun h k=>by
  rw[ab ze4,ab ze4,ai h,k]at O;exact H.fn _ zfu
 have q:n.aj=4->n.s=ef->ss p (la (.mk n l)).s=ss a (la (.mk n l)).s:=fun h k=>by
  obtain⟨u,C,-,-,N,-,-⟩:=Bq W t h k;have C:l=[u]:=C;subst C;exact(H.arr _ N).2
 unfold qj
 grind[iO]
mutual
theorem ME{a p:Src}(H:Sub a p):∀(t:T)(ls:List ah),fS t->qz a t ls->sc p t ls=sc a t ls
 |.mk n l,ls,W,m=>by
  have k:=W;rw[qz]at m;rw[fS]at W;rw[sc,sc]
  cases o:b8 (.mk n l)with
  |false=>rw[H3 H l ls W.2.2 (m.2 o)];exact HY H _ k m.1
  |true =>
   rw[HY H _ k m.1]
   have Q:n.aj=4/\n.s=ef:=by
    unfold b8 at o;simp only[aZ,beq_iff_eq]at o;exact o.1
   unfold qj
   grind
theorem H3{a p:Src}(H:Sub a p):∀(l:List T)(ls:List ah),eH l->oU a l ls->gY p l ls=gY a l ls
 |[],ls,_,_=>by rw[gY,gY]
 |t::r,ls,W,k=>by
  rw[eH]at W;rw[oU]at k;rw[gY,gY,ME H t ls W.1 k.1,H3 H r _ W.2 k.2]
end
theorem wQ{W:Type}{f:W->Bool}{l:List W}(m:List W)(h:0<=bL f l):bL f (l++m)=bL f l:=by
 unfold bL at *;rw[List.findIdx?_append]
 cases n:l.findIdx? f with
 |none=>rw[n]at h;simp at h
 |some i=>rfl
theorem zv(p:Src)(s:ah):jd p s=bL (fun x:ah=>x==s) (ez p):=by
 unfold jd bL ez;rw[List.findIdx?_map];rfl
theorem wZ:∀(d:List Go.Sp.Fn)(ls:List T)(a:Nat),d.length=ls.length->(ek a d ls).map (fun f:Go.Sp.Fn=>f.name)=d.map fun f:Go.Sp.Fn=>f.name
 |[],[],a,_=>rfl
 |[],_::_,a,h=>by simp at h
 |_::_,[],a,h=>by simp at h
 |g::d,u::ls,a,h=>by rw[ek,List.map_cons,List.map_cons,wZ d ls _ ze8]
theorem B6:∀(d:List Go.Sp.Fn)(ls:List T)(a i:Nat){f:Go.Sp.Fn}{t:T},d[i]?=some f->ls[i]?=some t->(ek a d ls)[i]?=some ⟨f.name,f.params,((a+aP (ls.take i):Nat):Int)⟩
 |[],_,a,i,f,t,h,_=>by simp at h
 |_::_,[],a,i,f,t,_,h=>by simp at h
 |g::d,u::ls,a,0,f,t,h,k=>by cases h;cases k;rfl
 |g::d,u::ls,a,i+1,f,t,h,k=>by
  rw[ek,List.getElem?_cons_succ,B6 d ls (a+be u) i ze8 (by simpa using k),take_succ_cons,aP,kA]
mutual
theorem Ic{ae m:List Nd}:∀(t:T)(a:Nat),dr ae a t->dr (ae++m) a t
 |.mk n l,a,h=>by
  rw[dr]at h |-;refine⟨?_,h.2.1,E2 l _ h.2.2⟩;rw[gA (b6 h.1).1];exact h.1
theorem E2{ae m:List Nd}:∀(l:List T)(a:Nat),cJ ae a l->cJ (ae++m) a l
 |[],a,_=>by rw[cJ];trivial
 |t::r,a,h=>by rw[cJ]at h |-;exact⟨Ic t a h.1,E2 r _ h.2⟩
end
mutual
theorem Ie{ae:List Nd}:∀(t u:T)(a:Nat),dr ae a t->dr ae a u->t=u
 |.mk n l,.mk m k,a,h,N=>by
  rw[dr]at h N
  have e:n=m:=by have:=h.1;rw[N.1]at this;exact(su this).symm
  subst e
  have X:l.length=k.length:=by
   have:=h.2.1;rw[N.2.1]at this;have:=congrArg List.length this;rw[cW,cW]at this;omega
  rw[E3 l k _ X h.2.2 N.2.2]
theorem E3{ae:List Nd}:∀(l k:List T)(a:Nat),l.length=k.length->cJ ae a l->cJ ae a k->l=k
 |[],[],a,_,_,_=>rfl
 |[],_::_,a,h,_,_=>by simp at h
 |_::_,[],a,h,_,_=>by simp at h
 |t::r,u::k,a,h,O,v=>by
  rw[cJ]at O v;have e:=Ie t u a O.1 v.1;subst e;rw[E3 r k _ ze8 O.2 v.2]
end
section
variable{a b:Src}{x y:List T}
theorem zO(hx:cD a x)(J:cD b y):ez (ep a b x y)=ez a++ez b:=by
 have O:=eo.len hx.av;have v:=eo.len J.av;show(ek 0 (a.av++b.av) (x++y)).map (fun f:Go.Sp.Fn=>f.name)=_;rw[wZ _ _ 0 (by simp[O,v]),jK];rfl
theorem Eg(hx:cD a x)(J:cD b y):Sub a (ep a b x y):=by
 refine⟨fun s h=>?_,fun s h=>?_,fun s h=>?_⟩
 ·show(bL (fun x=>x==s) (a.au++b.au)).toNat=_
  have:0<=bL (fun x=>x==s) a.au:=by
   refine yi fun e=>?_
   rw[List.findIdx?_eq_none_iff]at e;have:=e s ze8;simp at this
  rw[wQ _ this];rfl
 ·have e:fi (ep a b x y) s=fi a s:=wQ _ h;refine⟨e,?_⟩;unfold ss;rw[e];show(match(a.aq++b.aq)[(fi a s).toNat]? with|some z=>z.size|none=>0)=_;rw[gA (show(fi a s).toNat<a.aq.length from qG h)];rfl
 ·rw[zv,zO hx J];rw[zv]at h |-;exact wQ _ h
theorem Cc(hx:Good a x)(J:cD b y){l:List T}(A:Good (ep a b x y) l){i:Nat}(hi:i<a.av.length):mF (ep a b x y) l i=mF a x i:=by
 have E:=hx.len;have q:=A.len;obtain⟨f,s⟩:∃f,a.av[i]?=some f:=⟨a.av[i],cY hi⟩;obtain⟨t,o⟩:∃t,x[i]?=some t:=⟨x[i]'ze4,cY ze4⟩
 have Z:i<x.length:=by omega
 have e:(ep a b x y).av[i]?=some ⟨f.name,f.params,((0+aP (x.take i):Nat):Int)⟩:=by
  have:=B6 (a.av++b.av) (x++y) 0 i (f:=f) (t:=t) (by rw[gA hi];exact s) (by rw[gA Z];exact o)
  rwa[List.take_append_of_le_length ze4]at this
 have k:=(b6 e).1;obtain⟨u,m⟩:∃u,l[i]?=some u:=⟨l[i]'ze4,cY ze4⟩;have⟨a1,O,w,Q,n⟩:=hx.at_ i f t s o;have⟨H,z,B,W,j⟩:=A.at_ i _ u e m;have v:=(eo.at_ hx.st.av i f t s o).1;rw[v,eV]at Q;rw[eV,yn hx.st J]at W;have N:u=t:=Ie _ _ _ W (Ic _ _ Q);subst N;unfold mF;rw[e,m,s,o];exact ME (Eg hx.st J) u f.params O a1
theorem Sb(hx:cD a x)(J:cD b y)(S:List Int):Li LL (AJ (rX a)) (pe a S) (pe (ep a b x y) S):=by
 refine⟨rfl,rfl,rfl,rfl,rfl,rfl,rfl,rfl,rfl,fun k l=>?_,fun k l=>?_⟩
 ·have l:k<a.au.length:=l;show(List.replicate (a.au++b.au).length (0:Int))[k]?=(List.replicate a.au.length (0:Int))[k]?;rw[List.getElem?_replicate,List.getElem?_replicate,ai l,ai zfw]
 ·have l:k<a.aq.length:=l;show((a.aq++b.aq).map _)[k]?=(a.aq.map _)[k]?;rw[dR,dR,gA l]
theorem L5(ha:fk a=true)(hx:Good a x)(s:cD b y)(J:fk (ep a b x y)=true)(d:List Int)(c:Int) :
  (lT (ep a b x y) d c).fin=(lT a d c).fin/\(lT (ep a b x y) d c).why=(lT a d c).why/\(lT (ep a b x y) d c).n=(lT a d c).n/\(lT (ep a b x y) d c).out=(lT a d c).out:=by
 have⟨l,z⟩:=sE J;have⟨i,f,t,Z,Y,N⟩:=BV ha hx;have W:=(Eg hx.st s).fn lQ ze4;have m:=(b6 Y.gf).1
 have k:∀(i:Nat)(f:Go.Sp.Fn)(t:T),a.av[i]?=some f->x[i]?=some t->(sc a t f.params).cl (AJ (rX a)):=fun i f t o u=>by
  obtain⟨a1,S,-⟩:=hx.at_ i f t o u;exact R.gn _ (MD t f.params a1 S (Oi ha f (bN o)))
 have e:∀i,i<a.av.length->(mF a x i).cl (AJ (rX a)):=fun i r=>by
  have H:=hx.len;have G:a.av[i]?=some a.av[i]:=cY r;have Q:x[i]?=some (x[i]'ze4):=cY ze4;rw[EI G Q];exact k _ _ _ G Q
 have X:Em LL (AJ (rX a)) (mF a x) (mF (ep a b x y) l):=⟨fun i j _ _ h=>h,fun i j _ _ h=>h,fun i r=>⟨by rw[R.iK];exact Cc hx s z r,e i r⟩⟩;rw[si z J,si hx ha];unfold sj;rw[W,Z,eV,Cc hx s z m];generalize kE c=F;have⟨v,o⟩:=xS (O:=oP) (F:=F) (B:=mF a x) (mF a x i) (pe a d);have⟨v',u⟩:=xS (O:=oP) (F:=F) (B:=mF (ep a b x y) l) (mF a x i) (pe (ep a b x y) d);have E:=(P0 (O:=oP) (F:=F) X (3*F+1)).1 (mF a x i) _ _ (e i m) (Sb hx.st s d);rw[R.iK,o,u]at E
 rcases E with⟨h,_⟩|⟨w,t1,t2,A,C,q⟩
 ·cases h
 ·simp only[Option.some.injEq,Prod.mk.injEq]at A C;rw[A.2,C.2];unfold rZ;rw[q.fin,q.why,q.jV,q.out];split<;>exact⟨rfl,rfl,rfl,rfl⟩
end
theorem OY{a b:Src}(h:(nj a b).2≠0):(nj a b).1=kL:=by
 unfold nj at *;split at h
 ·rename_i O;rw[ai O];split at h
  ·rename_i v;rw[ai v]
  ·rename_i v;rw[ab v];split at h
   ·split at h
    ·exact absurd rfl h
    ·rename_i w Q;rw[ab Q]
   ·rfl
 ·rename_i O;rw[ab O]
theorem OZ{a b:Src}(h:(nj a b).2=0):∃x y,(fI a=true/\cD a x)/\(fI b=true/\cD b y)/\fk (ep a b x y)=true/\nj a b=(ep a b x y,0):=by
 unfold nj at *
 by_cases s:(fI a&&fI b)=true
 ·rw[ai s]at h |-;rw[aZ]at s;have⟨x,hx⟩:=jH s.1;have⟨y,J⟩:=jH s.2;split at h
  ·cases h
  ·rename_i v;rw[ab v];rw[hx.r8,J.r8]at h |-;simp only at h |-
   by_cases B:fk (ep a b x y)=true
   ·exact⟨x,y,⟨s.1,hx⟩,⟨s.2,J⟩,B,by rw[ai B]⟩
   ·rw[ab B]at h;cases h
 ·rw[ab s]at h;cases h
theorem Jt{a b:Src}{x y:List T}(O:fI a=true)(v:fI b=true)(hx:cD a x)(J:cD b y)(hg:fI (ep a b x y)=true):(qg (ep a b x y)).length=(qg a).length+(qg b).length:=by
 unfold qg;rw[ai O,ai v,ai hg];unfold bO;rw[zO hx J];show(((a.au++b.au)++(a.aq++b.aq).map fun z:Ar=>z.name)++_).length=_;simp only[bp,bS,dE];omega
theorem L4{a:Src}{x:List T}(hx:cD a x)(hg:fk a=true):Good a x:=by
 have⟨l,X⟩:=sE hg;rw[hx.uniq X.st];exact X
end Go.Im
