/- Part 9 of proofs that are told in their last texts. -/
import Derived.Test.YtfmnfhpifpjljaaGreatDoorZ8
open List (cons_append getD_eq_getElem?_getD getElem?_zipWith length_cons length_nil length_set length_singleton mem_singleton nil_append set_cons_zero zipWith_cons_cons)
set_option linter.unusedVariables false
set_option linter.unusedSimpArgs false
set_option linter.defProp false
set_option maxRecDepth 100000
set_option maxHeartbeats 4000000
namespace Go
def za0{A:Prop}(s:A:=by exact GW.Kc (fn:=f98) rfl rfl (by simp) rfl rfl rfl rfl (fun _ _ h=>by repeat (first|exact h|refine lh ?_|refine lg ?_))):A:=s
end Go
namespace Go.Xg
open Go.RowKit Go.Xw Go.Proofs Tryz Go.Sp
open GV (U)
open Go.Xp (Tok)
attribute [local irreducible] GW GL GO V GC GA bh bm
def W5(s:ai)(hs:s.length<=1000000000000) :
  GC prog 167 [.v (sv s)] [] fun g Δ=>Δ=[]/\∃l c z,g=.tup [Go.Xg.ic l,y4 c,y4 z]/\(c=0->s.length<=6000/\l.length<=6000/\∀t∈l,Bn t):=by
 rcases Nat.lt_or_ge 6000 s.length with r|r
 ·have N:decide ((6000:Int)<(s.length:Int))=true:=by simpa using by omega
  refine ah func167 ntmps167 ?_;refine mu ?_;exact⟨.tup [Go.Xg.ic [],y4 1,y4 0],gU,rfl,[],1,0,rfl,fun h=>by omega⟩
 ·have N:decide ((6000:Int)<(s.length:Int))=false:=by simpa using by omega
  have G:=A6 s 0 Z (bj _);have H:=sQ s (s.length+1) 0 (bj _);generalize hS:skip s (s.length+1) 0=R at *;have⟨a0,z0⟩:=R;simp only at G H;refine ah func167 ntmps167 ?_;refine zc4 ?_;refine D [] G ?_;refine GW.DC (fun J W=>∃(a:Nat)(z:Int)(n:Nat)(b:List am)(d:List Tok),J=.v (sv s)::U::U::U::U::.vec 0 n::y4 (a:Nat)::y4 z::zU 47 []/\W=[.vec 205 4 0 b]/\b.length=n/\b=d.map db/\d.length<=6000/\∀t∈d,Bn t) ?_ ?_
  ·refine GW.loop (fun x:Nat=>s.length-x) (fun a J W=>∃(z:Int)(n:Nat)(b:List am)(d:List Tok),J=.v (sv s)::U::U::U::U::.vec 0 n::y4 (a:Nat)::y4 z::zU 47 []/\W=[.vec 205 4 0 b]/\b.length=n/\b=d.map db/\d.length<=a/\a<=s.length/\∀t∈d,Bn t) a0 ?_ ?_
   ·exact⟨_,_,Wk.bb aD,z0,0,[],[],rfl,rfl,rfl,rfl,bj _,H.2,fun t h=>by cases h⟩
   ·rintro a _ _⟨z,n,b,d,rfl,rfl,C,e,F,ha,E⟩
    cases B:s[a]? with
    |none =>
     have O:s.length<=a:=oK B
     have hd:decide ((a:Int)<(s.length:Int))=false:=by simpa using O
     exact zeg
    |some c =>
     have T:a<s.length:=(bG B).1
     have hd:decide ((a:Int)<(s.length:Int))=true:=by simpa using T
     by_cases I:z<0
     ·have A:decide (z<(0:Int))=true:=by simpa using I
      have w:=FL B;have q:=Ql B;have j:=TW B r;have i:=EM s a c Z B;generalize gD s a c=tk at *;have⟨t,nx⟩:=tk;simp only at w q j i
      by_cases Q:t.aj=0
      ·have S:(t.aj==0)=true:=by simpa using Q
       refine zbT ?_;refine mu ?_;exact⟨.tup [Go.Xg.ic [],y4 2,y4 (a:Nat)],gU,rfl,[],2,_,rfl,fun h=>by omega⟩
      ·have S:(t.aj==0)=false:=by simpa using Q
       have q:=q Q
       by_cases k:t.n<=2147483647
       ·have M:decide ((2147483647:Int)<t.n)=false:=by simpa using k
        have j:=j k;have m:=A6 s nx Z w.2;have o:=sQ s (s.length+1) nx w.2
        have Y2:n<=6000:=by rw[<-C,e,bI];omega
        generalize skip s (s.length+1) nx=R2 at *;have⟨a2,z2⟩:=R2;simp only at m o;refine zbT ?_;refine zbD ?_;refine D [] m ?_
        exact⟨a2,⟨_,_,(Wk.cut (n:=1) (dT rfl) rfl).trans (Wk.bb aD),z2,n+1,b++[db t],d++[t],rfl,rfl,by simp[C],by rw[jH,e];rfl,by rw[bl,length_singleton];omega,o.2,fun u hu=>by
         rcases sb hu with hu|hu
         ·exact E u hu
         ·rw[mem_singleton]at hu;subst hu;exact j⟩,by omega⟩
       ·have M:decide ((2147483647:Int)<t.n)=true:=by simpa using by omega
        refine zbT ?_;refine mu ?_;exact⟨.tup [Go.Xg.ic [],y4 3,y4 (a:Nat)],gU,rfl,[],3,_,rfl,fun h=>by omega⟩
     ·have A:decide (z<(0:Int))=false:=by simpa using I
      exact zeg
  ·rintro _ _⟨a,z,n,b,d,rfl,rfl,C,e,F,E⟩
   by_cases I:0<=z
   ·have A:decide ((0:Int)<=z)=true:=by simpa using I
    refine X ?_;refine mu ?_;exact⟨.tup [Go.Xg.ic [],y4 4,y4 z],gU,rfl,[],4,_,rfl,fun h=>by omega⟩
   ·have A:decide ((0:Int)<=z)=false:=by simpa using I
    subst e;refine X ?_;refine GW.wk (Wk.iC (t:=2) rfl rfl rfl C) ?_;refine Co ?_;exact⟨rfl,d,0,0,rfl,fun _=>⟨r,F,E⟩⟩
open Go.Im
open Go.Xp (Ar iV)
def Uf(p:RS)(gl:List ai)(A:List Ar)(hf hn:Value)(g:GV)(I:ap):Prop :=
 ∃q u E w F,p.to q/\Hd u.length w/\Hd E.length F/\(q.code=0->p.i<q.i/\∀M H,PB ⟨gl,A,M,H⟩ p.i->PB ⟨u,E,M,H⟩ q.i) /\
  g=.agg [.v w,.v F,.v hf,.v hn]/\I=[cj q,.vech 9 1 (b7 u) w,.vech 79 2 (E.map bc) F]
def AL{p:RS}{s:ai}(o:s≠[])(h:(p.ba s).code=0):p.i<(p.ba s).i:=by
 rw[(qY o h).1];exact Nat.lt_succ_self _
def Pv(p:RS)(r:p.ok)(hb:SB p)(gl:List ai)(d:List Ar)(hg ha hf hn:Value)(Hg:Hd gl.length hg)(Ha:Hd d.length ha){nf nn:Nat}(Hf:Hd nf hf)(Hn:Hd nn hn)(vc:gl.length<=1000000)(HL:d.length<=1000000) :
  GC prog 169 [.loc 0 0,.agg [.v hg,.v ha,.v hf,.v hn]] [cj p,.vech 9 1 (b7 gl) hg,.vech 79 2 (d.map bc) ha] (Uf p gl d hf hn):=by
 obtain⟨ag,cg,rfl⟩:=Hg;obtain⟨aa,ca,rfl⟩:=Ha;obtain⟨af,cf,rfl⟩:=Hf;obtain⟨an,cn,rfl⟩:=Hn;have aaW:(b7 gl).length=gl.length:=bI _;have m:(d.map bc).length=d.length:=bI _;have N:=cY p iV r aS;have t1:=bX r (s:=iV) aS;have o1:=t1.ok r;have i1:(p.ba iV).code=0->p.i<(p.ba iV).i:=AL aS;generalize p.ba iV=H at *;have C:=ou H o1;have I:=t1.trans (eT o1);have G:=I.ok r;have nl:=ox H
 have ne:¬H.code=0->¬H.name.2.code=0:=fun h=>by rw[zD h];exact h
 have le:=(eT o1).2.2.2;generalize H.name=nm at *;have⟨s,b⟩:=nm;simp only at C I G nl ne le;have O:=di b 0 G aS
 by_cases W:b.aH 0=[91]
 ·have Vx:(b.aH 0==[91])=true:=by rw[W];rfl
  have o:=dw W aS;have Ax:=o.2;have o:=o.1;rw[Nat.add_zero]at o;have wQ:=G.2;have t3:=I.trans (cS o);have o3:=t3.ok r;have R:=hb.to t3
  have li:b.next.i=b.i+1:=rfl
  have ls:b.next.l=b.l:=rfl
  have lc:b.next.code=b.code:=rfl
  have Q:GF prog 172 [.loc 0 0] [cj b.next] (y4 b.next.place) [cj b.next]:=j0 _ o3;have w:=t3.trans (I7 o3);have B:=w.ok r;have M:=Qf R;have u:=(I7 o3).2.2.2
  have j:∀(z:Int)(q:RS),pK b.next=(z,q)->GF prog 223 [.loc 0 0,.v (sv [93])] [cj q] (.tup []) [cj (q.ba [93])]/\GF prog 223 [.loc 0 0,.v (sv [59])] [cj (q.ba [93])] (.tup []) [cj ((q.ba [93]).ba [59])] /\
    ∀a c n,n=d.length->Uf p gl d (.slice af nf cf) (.slice an nn cn) (.agg [.v (.slice ag gl.length cg),.v (.slice a (n+1) c),.v (.slice af nf cf),.v (.slice an nn cn)]) [cj ((q.ba [93]).ba [59]),.vech 9 1 (b7 gl) (.slice ag gl.length cg),.vech 79 2 (d.map bc++[[.v (sv s),y4 z]]) (.slice a (n+1) c)]:=fun z q e=>by
   rw[e]at w B M u;simp only at w B M u;have t5:=w.trans (bX B (s:=[93]) aS);have o5:=t5.ok r;have t6:=t5.trans (bX o5 (s:=[59]) aS);refine⟨cY _ _ B aS,cY _ _ o5 aS,?_⟩;rintro a c n rfl;refine⟨_,gl,d++[⟨s,z⟩],_,_,t6,⟨_,_,rfl⟩,⟨a,c,by simp⟩,fun S=>?_,rfl,by rw[jH];rfl⟩;have a1:=AL aS S;have a2:=(bX B (s:=[93]) aS).2.2.2;have a3:=(bX o5 (s:=[59]) aS).2.2.2
   have k:p.i<((q.ba [93]).ba [59]).i:=by have:=t1.2.2.2;omega
   exact⟨k,fun fs be h=>h.arr ⟨s,z⟩ nl M k⟩
  clear w B M u
  cases A:b.l[b.i+1]? with
  |none =>
   have Mb:=oK A
   have hd:decide (((b.i+1:Nat):Int)<((b.l.map db).length:Int))=false:=by simp;omega
   have e:pK b.next=(0,b.next.fail 7 b.next.place):=by unfold pK;rw[show b.next.l[b.next.i]?=none from A]
   exact zax
  |some t =>
   have aa6:=(bG A).1
   have hd:decide (((b.i+1:Nat):Int)<((b.l.map db).length:Int))=true:=by simp;omega
   have hr:=kX A
   by_cases J:t.aj=1
   ·have T:(t.aj==1)=true:=by simpa using J
    have e:pK b.next=(t.n,b.next.next):=by unfold pK;rw[show b.next.l[b.next.i]?=some t from A];simp only;rw[ae J]
    have⟨E,F,j⟩:=j _ _ e;refine ah func169 ntmps169 ?_;refine D [0] N ?_;refine D [0] C ?_;refine D [0] O ?_;refine aX (aI 0 24 .nil) ?_;refine bA ?_;refine aX (aI 0 12 .nil) ?_;refine bA ?_;refine D [0] E ?_;refine GL.lz 2 rfl rfl rfl rfl rfl rfl rfl rfl aM nR ?_;intro a c;refine zbd ?_;refine D [0] F ?_;refine lO ?_;exact j _ _ _ m
   ·have T:(t.aj==1)=false:=by simpa using J
    have e:pK b.next=(0,b.next.fail 7 b.next.place):=by unfold pK;rw[show b.next.l[b.next.i]?=some t from A];simp only;rw[ab J]
    exact zax
 ·have Vx:(b.aH 0==[91])=false:=by
   cases h:(b.aH 0==[91])with
   |false=>rfl
   |true=>exact absurd (eq_of_beq h) W
  have Q:=cY b [59] G aS;have w:=I.trans (bX G (s:=[59]) aS);refine ah func169 ntmps169 ?_;refine D [0] N ?_;refine D [0] C ?_;refine D [0] O ?_;refine ze6 ?_;intro a c;refine zbd ?_;refine D [0] Q ?_;refine lO ?_;refine⟨_,gl++[s],d,_,_,w,⟨a,c,by simp[b7]⟩,⟨_,_,rfl⟩,fun S=>?_,rfl,by unfold b7;rw[jH];rfl⟩;have a1:=AL aS S;have a2:=I.2.2.2
  have k:p.i<(b.ba [59]).i:=by omega
  exact⟨k,fun fs be h=>h.glob s nl k⟩
open Go.Xp (Nd T bg jA jm)
def FnR(p:RS)(az:List Go.Sp.Fn)(be:List Nd)(hg ha:Value)(g:GV)(I:ap):Prop :=
 ∃q Q o j R z,p.to q/\Hd Q.length j/\o8 o R z/\(q.code=0->p.i<q.i/\∀gl A,PB ⟨gl,A,az,be⟩ p.i->PB ⟨gl,A,Q,o⟩ q.i) /\
  g=.agg [.v hg,.v ha,.v j,.v R]/\I=[cj q,.vech 53 3 (Q.map aO) j,blob (dc o R z)]
def SX(p:RS)(Q:p.ok)(hb:SB p)(h6:p.l.length<=6000)(az:List Go.Sp.Fn)(be:List Nd)(hg ha hf hn:Value)(ns:List Value){ng na:Nat}(Hg:Hd ng hg)(Ha:Hd na ha)(Hf:Hd az.length hf)(Hn:o8 be hn ns)(Q3:az.length<=1000000)(EA:be.length<=1000000) :
  GC prog 170 [.loc 0 0,.agg [.v hg,.v ha,.v hf,.v hn]] [cj p,.vech 53 3 (az.map aO) hf,blob (dc be hn ns)] (FnR p az be hg ha):=by
 obtain⟨ag,cg,rfl⟩:=Hg;obtain⟨aa,ca,rfl⟩:=Ha;obtain⟨M,N,rfl⟩:=Hf;have Z8:(az.map aO).length=az.length:=bI _
 have Z3:=fun(t:T)(h:bg t<=1000000)=>GC.blob (Pw (bg t) t (a8 _) be hn ns Hn Z) (fun g Δ hR=>by
  obtain⟨h',Zo,-,rfl,rfl⟩:=hR
  exact⟨AP,_,rfl⟩)
 obtain⟨⟨an,O,rfl⟩,Hn2,Hn3⟩:=id Hn;have m1:=cY p jm Q aS;have t1:=bX Q (s:=jm) aS;have o1:=t1.ok Q;have i1:(p.ba jm).code=0->p.i<(p.ba jm).i:=AL aS;generalize p.ba jm=e at *;have m2:=ou e o1;have t2:=t1.trans (eT o1);have o2:=t2.ok Q;have nl:=ox e
 have ne:¬e.code=0->¬e.name.2.code=0:=fun h=>by rw[zD h];exact h
 have le2:=(eT o1).2.2.2;generalize e.name=nm at *;have⟨s,p2⟩:=nm;simp only at m2 t2 o2 nl ne le2;have m3:=cY p2 [40] o2 aS;have t3:=t2.trans (bX o2 (s:=[40]) aS);have z:=t3.ok Q
 have G:¬e.code=0->¬(p2.ba [40]).code=0:=fun h=>Ll aS (ne h)
 have le3:=(bX o2 (s:=[40]) aS).2.2.2;generalize p2.ba [40]=k at *;have m4:=di k 0 z aS;refine ah func170 ntmps170 ?_;refine D [0] m1 ?_;refine GW.join (fun fr Γ=>fr=.loc 0 0::U::U::.loc 3 0::.loc 4 0::.loc 5 0::zU 59 []/\Γ=[cj p2,.vech 53 3 (az.map aO) (.slice M az.length N),blob (dc be (.slice an be.length O) ns),.box 28 [.v (.slice ag ng cg),.v (.slice aa na ca),.v (.slice M az.length N),.v (.slice an be.length O)],.box 28 [.v y6,.v y6,.v y6,.v y6],.box 53 [.v (sv s),.v y6,y4 (be.length:Nat)]]) ?_ ?_
 ·refine aX (.q 0 (aI 2 3 (.f 1 (.q 5 (.a 6 (.a 7 .nil))) 6 (.a 1 (.q 5 (.a 7 .nil)))))) ?_;refine av ?_;refine GO.fork ?_ ?_
  ·refine aN [0] m2 ?_;exact iF
  ·refine OA rfl rfl (GL.alloc rfl ?_);refine za1 ?_;refine aN [0] m2 ?_;exact iF
 rintro _ _⟨rfl,rfl⟩;refine X ?_;refine D [0] m3 ?_;refine GL.wk (Wk.kH 9 1) ?_;refine zdP ?_;refine D [0] m4 ?_
 refine GW.join (fun fr Γ=>∃q b a c,fr=.loc 0 0::U::U::.loc 3 0::.loc 4 0::.loc 5 0::zU 59 []/\Γ=[cj q,.vech 53 3 (az.map aO) (.slice M az.length N),blob (dc be (.slice an be.length O) ns),.box 28 [.v (.slice ag ng cg),.v (.slice aa na ca),.v (.slice M az.length N),.v (.slice an be.length O)],.box 28 [.v y6,.v y6,.v y6,.v y6],.box 53 [.v (sv s),.v (.slice a b.length c),y4 (be.length:Nat)],.vech 9 1 (b7 b) (.slice a b.length c)] /\
  k.to q/\b.length+k.i<=q.i+1/\(∀s∈b,s.length<=12)/\(¬e.code=0->¬q.code=0)) ?_ ?_
 ·by_cases hs:k.aH 0=[41]
  ·have Vx:(!(k.aH 0==[41]))=false:=by rw[hs];rfl
   refine X ?_;exact⟨_,_,Wk.bb aD,k,[],none,0,rfl,rfl,jV z,by simp,fun s h=>zfu,G⟩
  ·have Vx:(!(k.aH 0==[41]))=true:=by simpa using hs
   have m5:=ou k z;have H:=eT z;have R:=H.ok z;have Zm:=ox k
   have Zl:¬e.code=0->¬k.name.2.code=0:=fun h=>by rw[zD (G h)];exact G h
   generalize k.name=nm at *;have⟨s5,p5⟩:=nm;simp only at m5 H R Zm Zl;refine X ?_;have hl0:([]:List am).length=0:=rfl;refine zbU ?_;refine aN [0] m5 ?_;refine zaI ?_;refine OA rfl rfl (GL.nu 6 (news:=[[.v (sv s5)]]) rfl rfl rfl aM rfl rfl (by refine⟨?_,?_⟩;(· show _+1<=_;omega);(· show(_+1)*_<=_;omega)) ?_);intro a c;refine zbF ?_
   refine GW.loop (fun x:Nat=>6000-x) (fun x fr Γ=>∃q b a c,fr=.loc 0 0::U::U::.loc 3 0::.loc 4 0::.loc 5 0::zU 59 []/\Γ=[cj q,.vech 53 3 (az.map aO) (.slice M az.length N),blob (dc be (.slice an be.length O) ns),.box 28 [.v (.slice ag ng cg),.v (.slice aa na ca),.v (.slice M az.length N),.v (.slice an be.length O)],.box 28 [.v y6,.v y6,.v y6,.v y6],.box 53 [.v (sv s),.v (.slice a b.length c),y4 (be.length:Nat)],.vech 9 1 (b7 b) (.slice a b.length c)] /\
    k.to q/\b.length+k.i<=q.i+1/\(∀s∈b,s.length<=12)/\(¬e.code=0->¬q.code=0)/\x=q.i) p5.i ?_ ?_
   ·exact⟨_,_,(Wk.cut (n:=7) (dT rfl) rfl).trans (Wk.bb aD),p5,[s5],a,c,rfl,rfl,H,by have:=H.2.2.2;simp only[length_cons,length_nil];omega,fun s h=>by rw[mem_singleton]at h;subst h;exact Zm,Zl,rfl⟩
   ·rintro _ _ _⟨q,b,a,c,rfl,rfl,J,A,u,w,rfl⟩;have S:=J.ok z;have m6:=di q 0 S aS
    have hql:q.l.length<=6000:=by rw[J.1,t3.1];exact h6
    have oq1:=S.1;have Mj:(b7 b).length=b.length:=bI _
    by_cases B:q.aH 0=[44]
    ·have C:(q.aH 0==[44])=true:=by rw[B];rfl
     have m:=dw B aS;have F:=m.2;have m:=m.1;rw[Nat.add_zero]at m;have tn:=cS m;have on:=tn.ok S
     have m7:GF prog 224 [.loc 0 0] [cj q.next] (.v (sv q.next.name.1)) [cj q.next.name.2]:=ou q.next on
     have t7:=J.trans (tn.trans (eT on))
     have Zn:=ox q.next
     have le7:=(eT on).2.2.2
     have Y3:q.next.i=q.i+1:=rfl
     have Aq:=(t7.ok z).1
     have Ey:q.next.name.2.l.length<=6000:=by rw[t7.1,t3.1];exact h6
     have E:e.code=0:=by
      cases Int.decEq e.code 0 with
      |isTrue h=>exact h
      |isFalse h=>exact absurd F (w h)
     generalize q.next.name=nm at *
     have⟨s7,p7⟩:=nm;simp only at m7 t7 Zn le7 Aq Ey;refine X ?_;refine D [0] m6 ?_;refine zbU ?_;refine aN [0] m7 ?_;refine zaI ?_;refine OA rfl rfl (GL.nu 6 (news:=[[.v (sv s7)]]) rfl rfl rfl aM rfl rfl (by refine⟨?_,?_⟩;(· show _+1<=_;omega);(· show(_+1)*_<=_;omega)) ?_);intro a2 c2;refine zbF ?_
     exact⟨p7.i,⟨_,_,(Wk.cut (n:=7) (dT rfl) rfl).trans (Wk.bb aD),p7,b++[s7],a2,c2,rfl,by simp[b7],t7,by rw[bl,length_singleton];omega,fun s h=>by
      rcases sb h with h|h
      ·exact u s h
      ·rw[mem_singleton]at h;subst h;exact Zn,fun h=>absurd E h,rfl⟩,by omega⟩
    ·have C:(q.aH 0==[44])=false:=by
      cases h:(q.aH 0==[44])with
      |false=>rfl
      |true=>exact absurd (eq_of_beq h) B
     refine X ?_;refine D [0] m6 ?_;refine jx ?_;exact⟨_,_,Wk.bb aD,q,b,a,c,rfl,rfl,J,A,u,w⟩
 ·rintro _ _⟨q,b,a,c,rfl,rfl,J,A,u,w⟩;have S:=J.ok z;have m5:=cY q [41] S aS;have H:=J.trans (bX S (s:=[41]) aS);have R:=H.ok z;have I:=t3.trans H;have sb5:=hb.to I
  have mk:(q.ba [41]).code=0->q.code=0/\(q.ba [41]).i=q.i+1:=fun h=>by
   obtain⟨h1,h2,-⟩:=qY aS h;exact⟨h2,by rw[h1];rfl⟩
  generalize q.ba [41]=r at *
  have hr6:r.l.length<=6000:=by rw[I.1];exact h6
  have⟨t,v,hS⟩:=(MV (5*r.left+4)).1 1 r R (a8 _)
  have HT:r.left<=6000:=by unfold RS.left;omega
  have m6:=(Zq (5*r.left+4)).block 1 r t v R Z hS;have t6:=((pI (5*r.left+4)).1 _ _ _ _ R (fun a d' h=>by cases h) hS);have⟨bt,bz,bi⟩:=(Rv (5*r.left+4)).1 1 r t v R sb5 hS;have tv:=I.trans t6;have ov:=tv.ok Q
  have hv6:v.l.length<=6000:=by rw[tv.1];exact h6
  have hvi:=ov.1;have hL:=Z3 t Z
  have back:v.code=0->r.code=0:=fun h=>by
   cases Int.decEq r.code 0 with
   |isTrue h=>exact h
   |isFalse hr =>
    have:=EW hr (g:=5*r.left+4) (d:=1) Z;rw[this]at hS;cases hS;exact h
  by_cases B:v.code=0
  ·have C:(v.code==0)=true:=by simpa using B
   refine X ?_;refine D [0] m5 ?_;refine D [0] m6 ?_;refine cN [2] hL ?_;rintro _ _⟨_,⟨hn',Zo,W,rfl,rfl⟩,rfl⟩;obtain⟨⟨an2,cn2,rfl⟩,-,-⟩:=id W;refine dA ?_;refine GL.wk (Wk.nZ (i:=5) (o:=1) (j:=6) rfl rfl rfl rfl) ?_;refine zbd ?_;refine ze6 ?_;intro a3 c3;refine zbd ?_;refine lO ?_;have hr:=back B;have⟨F,Y6⟩:=mk hr
   have E:e.code=0:=by
    cases Int.decEq e.code 0 with
    |isTrue h=>exact h
    |isFalse h=>exact absurd F (w h)
   have hi:=i1 E
   have Ez:p.i<v.i:=by omega
   refine⟨v,az++[⟨s,b,be.length⟩],be++jA be.length t,_,_,Zo,tv,⟨a3,c3,by rw[Z8];simp⟩,W,fun _=>⟨Ez,fun gl ars h=>h.fn ⟨s,b,be.length⟩ t nl u bt b.length (v.i-r.i) (a8 _) bz Z⟩,rfl,by rw[jH];rfl⟩
  ·have C:(v.code==0)=false:=by simpa using B
   refine X ?_;refine D [0] m5 ?_;refine D [0] m6 ?_;refine lO ?_;exact⟨v,az,be,_,_,ns,tv,⟨_,_,rfl⟩,Hn,fun h=>absurd h B,rfl,rfl⟩
def qC(p:Src)(hg ha hf hn:Value)(ns:List Value):ap :=
 [.vech 9 1 (b7 p.aw) hg,.vech 79 2 (p.aq.map bc) ha,.vech 53 3 (p.az.map aO) hf,blob (dc p.ak hn ns)]
structure rZ(p:Src)(hg ha hf hn:Value)(ns:List Value):Prop where
 g:Hd p.aw.length hg
 a:Hd p.aq.length ha
 f:Hd p.az.length hf
 n:o8 p.ak hn ns
def IV:rZ CY y6 y6 y6 y6 []:=⟨⟨none,0,rfl⟩,⟨none,0,rfl⟩,⟨none,0,rfl⟩,o8.nil⟩
def OB(g:GV)(I:ap):Prop:=∃p F O s Q B c z,rZ p F O s Q B/\dE p<=600000/\mA p/\g=.tup [.agg [.v F,.v O,.v s,.v Q],y4 c,y4 z]/\I=qC p F O s Q B
def Tn(c z:Int):OB (.tup [.agg [.v y6,.v y6,.v y6,.v y6],y4 c,y4 z]) (qC CY y6 y6 y6 y6 []) :=
 ⟨CY,_,_,_,_,[],c,z,IV,bj _,PB.no.num,rfl,rfl⟩
def FA{p:Src}{hg ha hf hn:Value}{ns:List Value}:∀x∈qC p hg ha hf hn ns,x.tt=true:=fun x hx=>by
 unfold qC at hx;simp only[List.mem_cons,List.not_mem_nil,or_false]at hx
 rcases hx with rfl|rfl|rfl|rfl<;>rfl
def GW.Kc{P:Program}{fn:Func}{Q:dF}{t u s:Tmp}{T:TypeId}[H:Ty P T true 4]{i:Nat}{E:TypeId}{c z:Int}{fr:am}{Γ:ap}(j:fn.results=#[.cell t T,.tmp u,.tmp s])(hg:cQ (vT (Γ.length+3) fr) t=.loc i 0)(hi:i<Γ.length)(m:Γ[i]?=some (.box E [.v y6,.v y6,.v y6,.v y6]))(d:cQ (vT (Γ.length+3) fr) u=y4 c)(B:cQ (vT (Γ.length+3) fr) s=y4 z)
  (e:tD (Γ.length+3) Γ=true)(I:∀fr Γ,tl P fn 0 OB .ret fr Γ->Q .ret fr Γ):GW P 0 .ret Q fr Γ:=by
 refine GW.wk (Wk.kH 9 1) ?_;refine GW.wk (Wk.kH 79 2) ?_;refine GW.wk (Wk.kH 53 3) ?_;simp only[eU,cons_append,nil_append]
 have W:(Γ++[Ob.vech 9 1 [] y6,.vech 79 2 [] y6,.vech 53 3 [] y6]).length=Γ.length+3:=by simp
 refine GW.wk (Wk.Kb (bj _) (by rw[W];show qz (below _) (Γ++_)=true;rw[Iz,show qz (below (Γ.length+3)) Γ=true from e];rfl)) ?_;rw[W];refine GW.ret ?_;refine I _ _ ?_;refine HF (k:=4) Γ.length j (.inr rfl) hg (by rw[eU,n1 hi];exact m) rfl rfl d B ?_ ?_
 ·rw[eU,List.drop_left];exact FA (p:=CY)
 ·rw[eU,List.drop_left];exact Tn c z
def Bl(s:ai)(hs:s.length<=1000000000000):GC prog 98 [.v (sv s)] [] OB:=by
 refine ah func98 ntmps98 ?_;refine cN [] (W5 s hs) ?_;rintro _ _⟨rfl,l,c,z,rfl,hL⟩;refine dA ?_
 by_cases e:c=0
 ·subst e;have⟨hs6,hl6,hTB⟩:=hL rfl;have F:(l.map db).length=l.length:=bI _;refine X ?_
  refine GW.DC (fun Q Γ=>∃q p hg ha hf hn ns,Q=U::U::.loc 0 0::U::U::U::U::U::.loc 1 0::.loc 2 0::zU 67 []/\Γ=.box 28 [.v y6,.v y6,.v y6,.v y6]::cj q::.box 28 [.v hg,.v ha,.v hf,.v hn]::qC p hg ha hf hn ns /\
   rZ p hg ha hf hn ns/\RS.to ⟨l,0,s.length,0,0⟩ q/\(q.code=0->PB p q.i)) ?_ ?_
  ·refine GW.loop (fun x:Nat=>x) (fun x Q Γ=>∃q p hg ha hf hn ns,Q=U::U::.loc 0 0::U::U::Go.Xg.ic l::U::U::.loc 1 0::.loc 2 0::zU 67 []/\Γ=.box 28 [.v y6,.v y6,.v y6,.v y6]::cj q::.box 28 [.v hg,.v ha,.v hf,.v hn]::qC p hg ha hf hn ns /\
    rZ p hg ha hf hn ns/\RS.to ⟨l,0,s.length,0,0⟩ q/\(q.code=0->PB p q.i)/\x=if q.code=0 then 6001-q.i else 0) 6001 ?_ ?_
   ·exact⟨_,_,((((Wk.kH 9 1).trans (Wk.kH 79 2)).trans (Wk.kH 53 3)).trans (Wk.Kb (bj _) rfl)).trans (Wk.bb aD),⟨l,0,s.length,0,0⟩,CY,_,_,_,_,[],rfl,rfl,IV,jV ⟨bj _,by show l.length<=_;omega⟩,fun _=>PB.no,rfl⟩
   ·rintro x _ _⟨q,p,hg,ha,hf,hn,ns,rfl,rfl,M,m,b,hx⟩;have o0:RS.ok ⟨l,0,s.length,0,0⟩:=⟨bj _,by show l.length<=_;omega⟩;have B:=m.ok o0;have sb0:SB ⟨l,0,s.length,0,0⟩:=⟨hTB,by show(0:Int)<=(s.length:Int)/\(s.length:Int)<=6000;omega⟩;have I:=sb0.to m;have G:q.l=l:=m.1
    have hqi:q.i<=l.length:=by have:=B.1;rw[G]at this;exact this
    unfold qC;have⟨r,n,o,t⟩:=M;obtain⟨ag,cg,rfl⟩:=id r;obtain⟨aa,ca,rfl⟩:=id n;obtain⟨af,cf,rfl⟩:=id o;obtain⟨⟨an,cn,rfl⟩,N,O⟩:=id t
    by_cases e:q.code=0
    ·have u:(q.code==0)=true:=by simpa using e
     rw[ae e]at hx
     by_cases hi:q.i<l.length
     ·have hd:decide ((q.i:Int)<((l.map db).length:Int))=true:=by rw[F];simpa using hi
      have m1:=di q 0 B aS;have b:=b e;have hw:=b.w
      have d:p.aw.length<=1000000/\p.aq.length<=1000000/\p.az.length<=1000000/\p.ak.length<=1000000:=by
       have:=zP p;omega
      by_cases h1:q.aH 0=iV
      ·have S:(q.aH 0==[105,110,116])=true:=by rw[h1];rfl
       refine X ?_;refine D [1] m1 ?_;refine cN [1,3,4] (Pv q B I p.aw p.aq _ _ _ _ r n o t.head d.1 d.2.1) ?_;rintro _ _⟨A,R,C,_,_,J,⟨ag2,cg2,rfl⟩,⟨Un,UA,rfl⟩,j,rfl,rfl⟩;refine dA ?_;refine zbG ?_;refine⟨if A.code=0 then 6001-A.i else 0,⟨_,_,Wk.bb aD,A,⟨R,C,p.az,p.ak⟩,_,_,_,_,ns,rfl,rfl,⟨⟨_,_,rfl⟩,⟨_,_,rfl⟩,o,t⟩,m.trans J,fun h=>(j h).2 _ _ b,rfl⟩,?_⟩;split
       ·rename_i h;have:=(j h).1;omega
       ·omega
      ·have S:(q.aH 0==[105,110,116])=false:=by
        cases h:(q.aH 0==[105,110,116])with
        |false=>rfl
        |true=>exact absurd (eq_of_beq h) h1
       by_cases h2:q.aH 0=jm
       ·have T:(q.aH 0==[102,117,110,99])=true:=by rw[h2];rfl
        refine X ?_;refine D [1] m1 ?_;refine cN [1,5,6] (SX q B I (by rw[G];exact hl6) p.az p.ak _ _ _ _ ns r n o t d.2.2.1 d.2.2.2) ?_;rintro _ _⟨A,E,H,_,_,Ry,J,⟨af2,cf2,rfl⟩,⟨⟨an2,cn2,rfl⟩,N2,N3⟩,j,rfl,rfl⟩;refine dA ?_;refine zbG ?_;refine⟨if A.code=0 then 6001-A.i else 0,⟨_,_,Wk.bb aD,A,⟨p.aw,p.aq,E,H⟩,_,_,_,_,Ry,rfl,rfl,⟨r,n,⟨_,_,rfl⟩,⟨⟨_,_,rfl⟩,N2,N3⟩⟩,m.trans J,fun h=>(j h).2 _ _ b,rfl⟩,?_⟩;split
        ·rename_i h;have:=(j h).1;omega
        ·omega
       ·have T:(q.aH 0==[102,117,110,99])=false:=by
         cases h:(q.aH 0==[102,117,110,99])with
         |false=>rfl
         |true=>exact absurd (eq_of_beq h) h2
        have m2:=j0 q B;have m3:=kg q 7 q.place;have J:=mY B 7 q.place
        have h7:¬(q.fail 7 q.place).code=0:=by
         unfold RS.fail;rw[ae e];show ¬(7:Int)=0;omega
        generalize q.fail 7 q.place=A at *;refine X ?_;refine D [1] m1 ?_;refine D [1] m2 ?_;refine D [1] m3 ?_;refine jx ?_;refine X ?_;refine⟨0,⟨_,_,Wk.bb aD,A,p,_,_,_,_,ns,rfl,rfl,⟨r,n,o,t⟩,m.trans J,fun h=>absurd h h7,by rw[ab h7]⟩,by omega⟩
     ·have hd:decide ((q.i:Int)<((l.map db).length:Int))=false:=by rw[F];simpa using by omega
      exact zdU
    ·have u:(q.code==0)=false:=by simpa using e
     exact zdU
  ·rintro _ _⟨q,p,hg,ha,hf,hn,ns,rfl,rfl,M,m,b⟩;have B:=m.ok ⟨bj _,by show l.length<=_;omega⟩
   have hqi:q.i<=l.length:=by have:=B.1;rw[m.1]at this;exact this
   unfold qC
   by_cases e:q.code=0
   ·have u:(q.code != 0)=false:=by simpa using e
    have b:=b e;have hw:=b.w;have⟨r,n,o,t⟩:=M;obtain⟨ag,cg,rfl⟩:=id r;obtain⟨aa,ca,rfl⟩:=id n;obtain⟨af,cf,rfl⟩:=id o;obtain⟨⟨an,cn,rfl⟩,N,O⟩:=id t
    by_cases h8:p.ak.length<=800
    ·have W:decide ((800:Int)<(p.ak.length:Int))=false:=decide_eq_false Z;refine zd6 ?_;refine HF (k:=4) 3 rfl dY rfl rfl rfl rfl rfl rfl (fun x hx=>FA (p:=p) (hg:=.slice ag p.aw.length cg) (ha:=.slice aa p.aq.length ca) (hf:=.slice af p.az.length cf) (hn:=.slice an p.ak.length cn) (ns:=ns) x hx) ?_;exact⟨p,_,_,_,_,ns,0,0,⟨r,n,o,t⟩,by omega,b.num,rfl,rfl⟩
    ·have W:decide ((800:Int)<(p.ak.length:Int))=true:=decide_eq_true Z;refine X ?_;exact za0
   ·have u:(q.code != 0)=true:=by simpa using e
    refine X ?_;refine aX (aI 0 9 (.a 9 (.q 10 (.q 11 .nil)))) ?_;refine bA ?_;exact za0
 ·have u:(c != 0)=true:=by simpa using e
  refine X ?_;exact za0
attribute [local irreducible] oa tQ qI
def ME(code:ai)(W:code.length<=1099511627776)(c:c9)(o:c.i<=code.length) :
  GC prog 99 [.loc 0 0] [fm code c] fun g J=>∃(s:ai)(S:c9),S.i<=code.length/\s.length<=1000000000/\g=.v (sv s)/\J=[fm code S]:=by
 have z:=wm code W 2 c Z o;have j:=yw code 2 c;have l:=DF (code:=code) 2 o;have n:za 2=25800:=rfl;have F:za 3=155400:=rfl;have k:w8 2=49:=rfl;rw[n]at j;generalize vD code 2 c=a at *;have⟨M,N⟩:=a;simp only at z j l;have w:=Ie code W 2 N Z l;have T:=mG code 2 N;have C:=qt (code:=code) 2 l;rw[k]at T;generalize iG code 2 N=a at *;have⟨O,Q⟩:=a;simp only at w T C;have I:=wm code W 3 Q Z C;have R:=yw code 3 Q;have b:=DF (code:=code) 3 C;rw[F]at R;generalize vD code 3 Q=a at *;have⟨A,E⟩:=a;simp only at I R b;refine ah func99 ntmps99 ?_;refine D [0] z ?_;refine D [0] w ?_;refine D [0] I ?_;refine ct ?_;exact⟨_,E,b,by simp only[bl,length_cons,length_nil];omega,rfl,rfl⟩
def Dp:GC prog 97 [] [] fun g I=>I=[]/\∃rows,g=.sl 1 rows/\rows.length=14/\rows.all (Kg 1000)=true:=by
 refine ah func97 ntmps97 ?_;refine zad ?_;refine ct ?_;exact⟨rfl,_,rfl,by decide +kernel,by decide +kernel⟩
def Zz(code:ai)(g:GV)(I:ap):Prop:=∃(c:c9)(p:Src)(F O s Q:Value)(B:List Value),c.i<=code.length/\rZ p F O s Q B/\dE p<=600000/\mA p/\g=.agg [.v F,.v O,.v s,.v Q]/\I=fm code c::qC p F O s Q B
def yX(code:ai)(B:code.length<=1099511627776)(c:c9)(hc:c.i<=code.length) :
  GC prog 32 [.loc 0 0] [fm code c] (Zz code):=by
 have⟨k,c1,h1,i1,r1⟩:=sD B hc 14 Z;have⟨j,t,h2,H,r2⟩:=oN B i1 3 Z;have h3:=ME code B t H;refine ah func32 ntmps32 ?_;refine cN [] Dp ?_;rintro _ _⟨rfl,J,rfl,l,C⟩;refine zaR ?_;rw[l];refine D [0] h1 ?_;refine GL.RC 1000 rfl rfl C (by rw[l];omega) rfl ?_;intro s hs;refine bq ?_;refine cN [] (Bl s Z) ?_;rintro _ _⟨p,_,_,_,_,I,z1,z2,⟨⟨T,cg,rfl⟩,⟨R,W,rfl⟩,⟨S,cf,rfl⟩,⟨⟨an,cn,rfl⟩,O,Q⟩⟩,hw,e,rfl,rfl⟩;refine dA ?_;unfold qC;refine X ?_;refine D [0] h2 ?_
 by_cases G:j=0
 ·have A:(j==0)=true:=by simpa using G
  refine X ?_;refine cN [0] h3 ?_;rintro _ _⟨s2,F,i3,yU,rfl,rfl⟩;refine zaR ?_;refine cN [] (Bl s2 Z) ?_;rintro _ _⟨d,_,_,_,_,m,z3,z4,⟨⟨q,w,rfl⟩,⟨n,u,rfl⟩,⟨o,v,rfl⟩,⟨⟨r,z,rfl⟩,M,N⟩⟩,E,b,rfl,rfl⟩;refine dA ?_;unfold qC;refine zd6 ?_;refine QY [0,7,8,9,10] (fm code F::qC d (.slice q d.aw.length w) (.slice n d.aq.length u) (.slice o d.az.length v) (.slice r d.ak.length z) m) rfl dY rfl rfl rfl rfl aS rfl ⟨⟨rfl,rfl⟩,⟨rfl,rfl⟩,⟨rfl,rfl⟩,⟨rfl,rfl⟩,⟨rfl,rfl⟩,trivial⟩ ?_;exact⟨F,d,_,_,_,_,m,i3,⟨⟨_,_,rfl⟩,⟨_,_,rfl⟩,⟨_,_,rfl⟩,⟨⟨_,_,rfl⟩,M,N⟩⟩,E,b,rfl,rfl⟩
 ·have A:(j==0)=false:=by simpa using G
  refine zd6 ?_;refine QY [0,2,3,4,5] (fm code t::qC p (.slice T p.aw.length cg) (.slice R p.aq.length W) (.slice S p.az.length cf) (.slice an p.ak.length cn) I) rfl dY rfl rfl rfl rfl aS rfl ⟨⟨rfl,rfl⟩,⟨rfl,rfl⟩,⟨rfl,rfl⟩,⟨rfl,rfl⟩,⟨rfl,rfl⟩,trivial⟩ ?_;exact⟨t,p,_,_,_,_,I,H,⟨⟨_,_,rfl⟩,⟨_,_,rfl⟩,⟨_,_,rfl⟩,⟨⟨_,_,rfl⟩,O,Q⟩⟩,hw,e,rfl,rfl⟩
end Go.Xg
namespace Go.Sp
open Go.Xp Go.Im
def FF{C:Type}(f:C->Nat):∀(l:List C)(i:Nat)(x y:C),l[i]?=some x->cM f (l.set i y)+f x=cM f l+f y
 |[],i,x,y,h=>by simp at h
 |z::l,0,x,y,h=>by cases h;rw[set_cons_zero,cM,cM];omega
 |z::l,i+1,x,y,h=>by have:=FF f l i x y zfs;rw[List.set_cons_succ,cM,cM];omega
def RU(p:Src)(i:Nat)(x y:Nd)(h:p.ak[i]?=some x):dE ⟨p.aw,p.aq,p.az,p.ak.set i y⟩+(x.s.length+x.au.length+1)=dE p+(y.s.length+y.au.length+1):=by
 have:=FF (fun n:Nd=>n.s.length+n.au.length+1) p.ak i x y h;unfold dE;simp only at *;omega
end Go.Sp
namespace Go.Xg
open Go.RowKit Go.Xw Go.Proofs Tryz Go.Sp Go.Im
open GV (U)
open Go.Xp (Nd)
def Fj{o:Nat}{g:GV}{x k:Nd}(hg:∀y,bN (eS x y) o g=eS k y):∀{be:List Nd}{ns:List Value}{i:Nat},ns.length=be.length->be[i]?=some x->dk (List.zipWith eS be ns) i o g=List.zipWith eS (be.set i k) ns
 |[],ns,i,W,h=>by simp at h
 |n::be,[],i,W,h=>by simp at W
 |n::be,v::ns,0,W,h=>by
  cases h;rw[zipWith_cons_cons,set_cons_zero,zipWith_cons_cons,dk,hg]
 |n::be,v::ns,i+1,W,h=>by
  have:=Fj hg (be:=be) (ns:=ns) (i:=i) zfC zfs;rw[zipWith_cons_cons,dk,this];rfl
def F2{x k:Nd}(G:k.au=x.au):∀{be:List Nd}{ns:List Value}{i:Nat},be[i]?=some x->List.zipWith iT (be.set i k) ns=List.zipWith iT be ns
 |[],ns,i,h=>by simp at h
 |n::be,[],i,h=>by cases i<;>simp
 |n::be,v::ns,0,h=>by
  cases h;rw[set_cons_zero,zipWith_cons_cons,zipWith_cons_cons];unfold iT;rw[G]
 |n::be,v::ns,i+1,h=>by
  have:=F2 G (be:=be) (ns:=ns) (i:=i) zfs;rw[List.set_cons_succ,zipWith_cons_cons,this];rfl
def o8.same{be:List Nd}{h:Value}{ns:List Value}(H:o8 be h ns){i:Nat}{x k:Nd}(hx:be[i]?=some x)(G:k.au=x.au):o8 (be.set i k) h ns:=by
 have⟨a,c,e⟩:=H.head;refine⟨⟨a,c,by rw[e,length_set]⟩,by rw[length_set];exact H.len,fun j y v z w=>?_⟩;rw[iY]at z
 by_cases E:i=j
 ·rw[ae E]at z;split at z
  ·cases z;subst E;rw[G];exact H.kid i x v hx w
  ·cases z
 ·rw[ab E]at z;exact H.kid j y v z w
abbrev qp(code:ai)(c:c9)(p:Src)(hg ha hf hn:Value)(ns:List Value):ap :=
 [fm code c,.box 28 [.v y6,.v y6,.v y6,.v y6],.vech 9 1 (b7 p.aw) hg,.vech 79 2 (p.aq.map bc) ha,.vech 53 3 (p.az.map aO) hf,.gone,.box 28 [.v hg,.v ha,.v hf,.v hn]]++dc p.ak hn ns
def Wk.IL{m:Nat}{fr:am}{code:ai}{c:c9}{p:Src}{hg ha hf hn:Value}{ns:List Value}(q:rZ p hg ha hf hn ns)(N:m<=7) :
  Wk m fr (qp code c p hg ha hf hn ns) (vT 7 fr) [fm code c,.box 28 [.v y6,.v y6,.v y6,.v y6],.vec 9 1 (b7 p.aw).length (b7 p.aw),.vec 79 2 (p.aq.map bc).length (p.aq.map bc),.vec 53 3 (p.az.map aO).length (p.az.map aO),.gone,.box 28 (aQ p)]:=by
 refine(Wk.nZ (i:=6) (o:=0) (j:=2) (x:=hg) rfl rfl rfl rfl).trans ?_;refine(Wk.nZ (i:=6) (o:=1) (j:=3) (x:=ha) rfl rfl rfl rfl).trans ?_;refine(Wk.nZ (i:=6) (o:=2) (j:=4) (x:=hf) rfl rfl rfl rfl).trans ?_;exact Wk.rU (i:=6) (o:=3) [fm code c,.box 28 [.v y6,.v y6,.v y6,.v y6],.vec 9 1 (b7 p.aw).length (b7 p.aw),.vec 79 2 (p.aq.map bc).length (p.aq.map bc),.vec 53 3 (p.az.map aO).length (p.az.map aO),.gone,.box 28 [.sl 1 (b7 p.aw),.sl 2 (p.aq.map bc),.sl 3 (p.az.map aO),.v hn]] q.n rfl N rfl rfl rfl
def OE(code:ai)(g:GV)(I:ap):Prop:=∃(c:c9)(p:Src),c.i<=code.length/\dE p<=1048576/\mA p/\g=.agg (aQ p)/\I=[fm code c]
def gY(code:ai)(k i j:Nat)(fr:am)(Γ:ap):Prop:=∃(c:c9)(p:Src)(F O s Q:Value)(B:List Value),fr=.loc 0 0::U::.loc 1 0::.loc 6 0::y4 (k:Nat)::y4 (i:Nat)::zU 97 []/\Γ=qp code c p F O s Q B /\
 c.i<=code.length/\rZ p F O s Q B/\dE p<=600000+10*j/\mA p/\i<p.ak.length
theorem gY.next{code:ai}{k i j:Nat}{fr:am}{Γ:ap}(h:gY code k i j fr Γ):gY code k i (j+1) fr Γ:=by
 have⟨c,p,F,O,s,Q,B,z,v,I,d,G,H⟩:=h;exact⟨c,p,F,O,s,Q,B,z,v,I,d,by omega,H⟩
def gY.go{code:ai}{k i j:Nat}{P:am->ap->Prop}(h:∀(c:c9)(p:Src)(O:Option Addr)(C:Nat)(A:Option Addr)(N:Nat)(B:Option Addr)(o:Nat)(an:Option Addr)(w:Nat)(ns:List Value),c.i<=code.length->rZ p (.slice O p.aw.length C) (.slice A p.aq.length N) (.slice B p.az.length o) (.slice an p.ak.length w) ns->dE p<=600000+10*j->mA p->i<p.ak.length->P (.loc 0 0::U::.loc 1 0::.loc 6 0::y4 (k:Nat)::y4 (i:Nat)::zU 97 []) (qp code c p (.slice O p.aw.length C) (.slice A p.aq.length N) (.slice B p.az.length o) (.slice an p.ak.length w) ns)):∀fr Γ,gY code k i j fr Γ->P fr Γ:=by
 rintro _ _⟨c,p,_,_,_,_,ns,rfl,rfl,G,⟨⟨O,C,rfl⟩,⟨A,N,rfl⟩,⟨B,o,rfl⟩,⟨⟨an,w,rfl⟩,E,F⟩⟩,e,m,M⟩;exact h c p O C A N B o an w ns G ⟨⟨_,_,rfl⟩,⟨_,_,rfl⟩,⟨_,_,rfl⟩,⟨⟨_,_,rfl⟩,E,F⟩⟩ e m M
def gY.put{code:ai}{k i j:Nat}{c:c9}{p:Src}{hg ha hf hn:Value}{ns:List Value}{x:Nd}(y:Nd){o:Nat}{g:GV}(hx:p.ak[i]?=some x)(G:y.au=x.au)(t:y.s.length<=x.s.length+9)(r : -9223372036854775808<=y.n/\y.n<=9223372036854775807)(W:∀v,bN (eS x v) o g=eS y v)(F:c.i<=code.length)(q:rZ p hg ha hf hn ns)(e:dE p<=600000+10*j)(m:mA p)(hi:i<p.ak.length) :
  gY code k i (j+1) (.loc 0 0::U::.loc 1 0::.loc 6 0::y4 (k:Nat)::y4 (i:Nat)::zU 97 []) ([fm code c,.box 28 [.v y6,.v y6,.v y6,.v y6],.vech 9 1 (b7 p.aw) hg,.vech 79 2 (p.aq.map bc) ha,.vech 53 3 (p.az.map aO) hf,.gone,.box 28 [.v hg,.v ha,.v hf,.v hn],.vech 82 5 (dk (List.zipWith eS p.ak ns) i o g) hn]++List.zipWith iT p.ak ns):=by
 refine⟨c,⟨p.aw,p.aq,p.az,p.ak.set i y⟩,hg,ha,hf,hn,ns,rfl,?_,F,⟨q.g,q.a,q.f,q.n.same hx G⟩,?_,Iy m i r,by rw[length_set];exact hi⟩
 ·unfold qp dc;simp only;rw[<-Fj W q.n.len hx,F2 G hx];rfl
 ·have:=RU p i x y hx;rw[G]at this;omega
def uU{be:List Nd}{h:Value}{ns:List Value}(H:o8 be h ns){i:Nat}(hi:i<be.length):∃x y,be[i]?=some x/\ns[i]?=some y/\(List.zipWith eS be ns)[i]?=some [y4 x.aj,y4 x.at_,y4 x.n,.v (sv x.s),.v y]/\(List.zipWith eS be ns).length=be.length:=by
 have hx:be[i]?=some be[i]:=cq _;have m:ns[i]?=some (ns[i]'(by rw[H.len];exact hi)):=cq _;exact⟨_,_,hx,m,by rw[getElem?_zipWith,hx,m];rfl,by rw[rE,H.len,Nat.min_self]⟩
attribute [local irreducible] GW GL GO V GC GA bh bm oa tQ qI
def Pu(code:ai)(hl:code.length<=1099511627776)(c:c9)(hc:c.i<=code.length) :
  GC prog 71 [.loc 0 0] [fm code c] (OE code):=by
 refine ah func71 ntmps71 ?_;refine cN [0] (yX code hl c hc) ?_;rintro _ _⟨c1,p,_,_,_,_,C,i1,⟨⟨Q,S,rfl⟩,⟨O,R,rfl⟩,⟨J,M,rfl⟩,⟨⟨an,T,rfl⟩,N2,N3⟩⟩,F,e,rfl,rfl⟩;unfold qC;refine zaR ?_;have u:rZ p (.slice Q p.aw.length S) (.slice O p.aq.length R) (.slice J p.az.length M) (.slice an p.ak.length T) C:=⟨⟨_,_,rfl⟩,⟨_,_,rfl⟩,⟨_,_,rfl⟩,⟨⟨_,_,rfl⟩,N2,N3⟩⟩;have⟨k,c2,g1,i2,r1⟩:=sD hl i1 14 Z;refine GL.wk (Wk.unpack 5 rfl) ?_;simp only[oset,cons_append,nil_append];unfold dc;refine jw [0] g1 ?_;simp only[gw]
 by_cases h0:p.ak.length=0
 ·have YE:(((p.ak.map aU).length:Int)==0)=true:=by rw[bI,h0];rfl
  refine GL.wk (dh:=.loc 0 0::U::.loc 1 0::.loc 6 0::U::U::U::U::U::y4 (k:Nat)::zU 93 []) (bO:=[fm code c2,.box 28 [.v y6,.v y6,.v y6,.v y6],.vec 9 1 (b7 p.aw).length (b7 p.aw),.vec 79 2 (p.aq.map bc).length (p.aq.map bc),.vec 53 3 (p.az.map aO).length (p.az.map aO),.gone,.box 28 (aQ p)]) ?_ ?_
  ·refine Wk.trans (Wk.IL (code:=code) (c:=c2) u ?_) ?_
   ·exact dT rfl
   ·exact Wk.bb aD
  refine X ?_;refine lO ?_;exact⟨c2,p,i2,by omega,e,rfl,rfl⟩
 ·have YE:((p.ak.length:Int)==0)=false:=by simp only[beq_eq_false_iff_ne];omega
  have⟨i,c3,g2,i3,r2⟩:=sD hl i2 (p.ak.length:Int) Z
  have o:i<p.ak.length:=by omega
  have F:dE p<=600000+10*0:=F;refine X ?_;refine jw [0] g2 ?_;simp only[gw];refine X ?_;refine GW.join (gY code k i 1) ?_ ?_
  ·by_cases H:(k:Int)=0
   ·have B:((k:Int)==0)=true:=by rw[H];rfl
    have⟨x,y,hx,hy,A,j⟩:=uU u.n o;have⟨z,c4,I,E,r3⟩:=oN hl i3 16 Z;refine zbj ?_;refine OA rfl rfl (GL.vE rfl rfl j A rfl rfl rfl rfl ?_);refine GL.nil (bx (dy.mk zfh ?_))
    refine jC cZ dN ?_;refine bA ?_;exact⟨_,_,Wk.bb aD,gY.put { x with aj:=z } hx rfl (Nat.le_add_right _ _) (e.ak x (bR hx)) (fun _=>rfl) E u F e o⟩
   ·have B:((k:Int)==0)=false:=by simpa using H
    refine X ?_;exact⟨_,_,Wk.bb aD,gY.next ⟨c3,p,_,_,_,_,C,rfl,rfl,i3,u,F,e,o⟩⟩
  refine gY.go fun c p Q S O R J M an T C G u F e o=>?_
  unfold qp dc;refine zbh ?_;refine GW.join (gY code k i 2) ?_ ?_
  ·by_cases H:(k:Int)=1
   ·have B:((k:Int)==1)=true:=by rw[H];rfl
    have⟨x,y,hx,hy,A,j⟩:=uU u.n o;have⟨z,c4,I,E,r3⟩:=oN hl G 6 Z;obtain⟨q,rfl⟩:∃q:Nat,z=(q:Int):=⟨z.toNat,by omega⟩;have hr:=re (l:=[[],[88],[119,104,105,108,101],[111,107],[43],[45]]) (m:=q) (by show q<6;omega);have hp:=nB (l:=[[],[88],[119,104,105,108,101],[111,107],[43],[45]]) (n:=5) aS (q:Int);generalize nA [[],[88],[119,104,105,108,101],[111,107],[43],[45]] (q:Int)=sg at *;refine X ?_;refine aX (aI 0 3 (.q 4 (.f 3 (.a 5 (aI 6 4 (.a 10 .nil))) 5 (.a 3 (aI 6 4 (.a 10 .nil)))))) ?_;refine av ?_;refine GO.fork ?_ ?_
    ·refine zaI ?_;refine mr [0] I ?_;simp only[gw];refine zav ?_;refine OA rfl rfl (GL.vE rfl rfl j A rfl rfl rfl rfl ?_);refine GL.nil (bx (dy.mk zfh ?_))
     exact zbN
    ·refine mr [0] I ?_;simp only[gw];refine av ?_;refine c6 ?_;refine zav ?_;refine OA rfl rfl (GL.vE rfl rfl j A rfl rfl rfl rfl ?_);refine GL.nil (bx (dy.mk zfh ?_))
     exact zbN
   ·have B:((k:Int)==1)=false:=by simpa using H
    exact zaw
  refine gY.go fun c p Q S O R J M an T C G u F e o=>?_
  unfold qp dc;refine zbh ?_;refine GW.join (gY code k i 3) ?_ ?_
  ·by_cases H:(k:Int)=2
   ·have B:((k:Int)==2)=true:=by rw[H];rfl
    have⟨x,y,hx,hy,A,j⟩:=uU u.n o;have⟨z,c4,I,E,r3⟩:=yr hl G;refine zbj ?_;refine OA rfl rfl (GL.vE rfl rfl j A rfl rfl rfl rfl ?_);refine GL.nil (bx (dy.mk zfh ?_))
    refine jC cZ dN ?_;refine bA ?_;exact⟨_,_,Wk.bb aD,gY.put { x with n:=z } hx rfl (Nat.le_add_right _ _) r3 (fun _=>rfl) E u F e o⟩
   ·have B:((k:Int)==2)=false:=by simpa using H
    exact zaw
  refine gY.go fun c p Q S O R J M an T C G u F e o=>?_
  unfold qp dc;refine zbh ?_;refine GW.join (gY code k i 4) ?_ ?_
  ·by_cases H:(k:Int)=3
   ·have B:((k:Int)==3)=true:=by rw[H];rfl
    have⟨x,y,hx,hy,A,j⟩:=uU u.n o;obtain⟨a3,d3,rfl⟩:=u.n.kid i x y hx hy
    have EA:p.ak.length<=1000000:=by have:=(zP p).2.2.2;omega
    have aa3:x.au.length<=1000000:=by have:=aaw hx;omega
    have As:(mK x.au).length=x.au.length:=by simp[mK]
    have aaa:(List.zipWith iT p.ak C)[i]?=some (.vech 3 1 (mK x.au) (.slice a3 x.au.length d3)):=by rw[getElem?_zipWith,hx,hy];rfl
    have Mh:=fun(y:Value)=>xE (x.au++[((p.ak.length:Int)-1)]) y u.n.len hx
    have uh:=fun(y:Value)=>xz (x.au++[((p.ak.length:Int)-1)]) y u.n.len hx
    have Vk:mK (x.au++[((p.ak.length:Int)-1)])=mK x.au++[[y4 ((p.ak.length:Int)-1)]]:=by simp[mK]
    rw[Vk]at uh
    have aak:=fun(a:Option Addr)(c:Nat)=>u.n.put hx (x.au++[((p.ak.length:Int)-1)]) (b:=a) (d:=c) (n:=(mK x.au).length+1) (by simp[mK])
    have XJ:∀x0 x1 x2 x3 x4 x5 x6 x7:Ob,(x0::x1::x2::x3::x4::x5::x6::x7::List.zipWith iT p.ak C)[i+8]?=some (.vech 3 1 (mK x.au) (.slice a3 x.au.length d3)):=fun _ _ _ _ _ _ _ _=>aaa
    refine X ?_;refine aX (aI 0 13 (.a 13 (.a 14 (.q 15 (.q 16 (.a 17 .nil)))))) ?_;refine zav ?_;refine OA rfl rfl (GL.VZ rfl rfl rfl rfl (GL.nil (bx (dy.mk zfi ?_))))
    refine jC cZ dN ?_;refine av ?_;refine OA rfl rfl (GL.nu (i+8) (news:=[[y4 ((p.ak.length:Int)-1)]]) rfl rfl (XJ _ _ _ _ _ _ _ _) rfl rfl rfl ⟨by show _+1<=_;omega,by show(_+1)*_<=_;omega⟩ ?_);intro a4 c4;refine GL.nil (bx (dy.mk zfi ?_))
    refine jC cZ (by simp only[oset];rw[uh]) ?_;refine zav ?_;refine OA rfl rfl (GL.vE rfl rfl j A rfl rfl rfl rfl ?_);refine GL.nil (bx (dy.mk zfh ?_))
    refine jC cZ dN ?_;refine bA ?_;rw[Mh];refine⟨_,_,Wk.bb aD,c,⟨p.aw,p.aq,p.az,p.ak.set i (eR x (x.au++[((p.ak.length:Int)-1)]))⟩,_,_,_,_,_,rfl,rfl,G,⟨u.g,u.a,u.f,aak _ _⟩,?_,Iy e i ?_,by rw[length_set];exact o⟩
    ·have:=RU p i x (eR x (x.au++[((p.ak.length:Int)-1)])) hx;unfold eR at *;simp only[bl,length_cons,length_nil]at *;omega
    ·exact e.ak x (bR hx)
   ·have B:((k:Int)==3)=false:=by simpa using H
    exact zaw
  refine gY.go fun c p Q S O R J M an T C G u F e o=>?_
  unfold qp dc;refine zbh ?_;refine GW.join (gY code k i 5) ?_ ?_
  ·by_cases H:(k:Int)=4
   ·have B:((k:Int)==4)=true:=by rw[H];rfl
    have⟨x,y,hx,hy,A,j⟩:=uU u.n o;have⟨z,c4,I,E,r3⟩:=yr hl G;refine zbj ?_;refine OA rfl rfl (GL.vE rfl rfl j A rfl rfl rfl rfl ?_);refine GL.nil (bx (dy.mk zfh ?_))
    refine jC cZ dN ?_;refine bA ?_;exact⟨_,_,Wk.bb aD,gY.put { x with at_:=z } hx rfl (Nat.le_add_right _ _) (e.ak x (bR hx)) (fun _=>rfl) E u F e o⟩
   ·have B:((k:Int)==4)=false:=by simpa using H
    exact zaw
  refine gY.go fun c p Q S O R J M an T C G u F e o=>?_
  unfold qp dc;refine zdP ?_;refine GW.seq ?_;refine GW.seq ?_;refine GW.join (fun fr Γ=>∃(b:Bool)(c:c9)(p:Src)(hg W hf hn:Value)(C:List Value),fr=.loc 0 0::U::.loc 1 0::.loc 6 0::y4 (k:Nat)::y4 (i:Nat)::zU 79 (.v (.bool b)::zU 17 [])/\Γ=qp code c p hg W hf hn C/\c.i<=code.length/\rZ p hg W hf hn C/\dE p<=600000+10*5/\mA p/\i<p.ak.length/\(b=true->0<p.az.length)) ?_ ?_
  ·by_cases H:(k:Int)=5
   ·have B:((k:Int)==5)=true:=by rw[H];rfl
    refine X ?_;exact⟨_,_,Wk.bb aD,decide ((0:Int)<(p.az.length:Int)),c,p,_,_,_,_,C,rfl,rfl,G,u,F,e,o,fun h=>by have:=pN h;omega⟩
   ·have B:((k:Int)==5)=false:=by simpa using H
    refine X ?_;exact⟨_,_,Wk.bb aD,false,c,p,_,_,_,_,C,rfl,rfl,G,u,F,e,o,fun h=>by cases h⟩
  rintro _ _⟨b,c,p,_,_,_,_,C,rfl,rfl,G,⟨⟨Q,S,rfl⟩,⟨O,R,rfl⟩,⟨J,M,rfl⟩,⟨⟨an,T,rfl⟩,N2,N3⟩⟩,F,e,o,HT⟩;have u:rZ p (.slice Q p.aw.length S) (.slice O p.aq.length R) (.slice J p.az.length M) (.slice an p.ak.length T) C:=⟨⟨_,_,rfl⟩,⟨_,_,rfl⟩,⟨_,_,rfl⟩,⟨⟨_,_,rfl⟩,N2,N3⟩⟩;unfold qp dc;refine zbh ?_;refine GW.join (gY code k i 6) ?_ ?_
  ·cases b with
   |true =>
    have HT:=HT rfl
    obtain⟨f,r,N⟩:∃f r,p.az=f::r:=by
     cases hq:p.az with
     |nil=>rw[hq]at HT;exact absurd HT (Nat.lt_irrefl 0)
     |cons f r=>exact⟨f,r,rfl⟩
    have⟨z,c4,I,E,r3⟩:=yr hl G
    have A:(p.az.map aO)[0]?=some [.v (sv f.name),strs f.params,y4 f.body]:=by rw[N];rfl
    have HU:0<(p.az.map aO).length:=by rw[N];exact Nat.succ_pos _
    refine X ?_;refine aX (aI 0 3 (.a 3 (.q 4 (.q 5 (.a 6 .nil))))) ?_;refine av ?_;refine mr [0] I ?_;simp only[gw];refine av ?_;refine OA rfl rfl (GL.vE rfl rfl rfl A rfl rfl rfl rfl ?_);refine GL.nil (bx (dy.mk (by repeat (first|exact cX.n|(apply cX.w;(· decide +kernel))|(apply cX.y;(· first|(apply YQ.t;(· exact rfl);(· exact rfl);(· (first|exact V.Rm 4 0 rfl rfl rfl rfl (dm _ _ _ _) HU|(first|exact fa|(apply K.idx;first|exact V.idxV rfl rfl rfl aM Z|exact V.a7 0 rfl rfl rfl aP|exact V.a7 1 rfl rfl rfl aP|exact V.a7 2 rfl rfl rfl aP|exact V.a7 3 rfl rfl rfl aP|exact V.a7 4 rfl rfl rfl aP|exact V.a7 5 rfl rfl rfl aP|exact V.a7 6 rfl rfl rfl aP)|exact fb|exact V.eZ 1 rfl rfl aM aM|exact V.mv|exact V.kj|(apply K.bin;first|exact V.go rfl|exact V.iZ rfl rfl Z|exact V.gR rfl rfl|exact V.gS rfl rfl|exact V.lV rfl rfl|exact V.lZ rfl rfl|exact V.cat rfl rfl Z|exact V.cat rfl rfl zfp|exact V.ji rfl rfl Z|exact V.add rfl rfl Z|exact V.sub rfl rfl Z|exact V.mul rfl rfl Z|exact V.jU rfl rfl Z|exact V.quo rfl rfl Z|exact V.rem rfl rfl Z|exact V.gn rfl rfl)|exact eK|exact eJ|exact fJ|exact ei|exact eu|(apply K.idx;first|exact V.fR rfl rfl aV|exact V.cm rfl rfl aV rfl|exact V.cm rfl rfl aV Z|exact V.iI rfl rfl Z)|exact V.ext rfl rfl|exact V.go rfl|(apply K.mU;first|exact V.jT rfl rfl rfl Z|exact V.jS rfl rfl Z|exact V.jR rfl rfl Z|exact V.ft 1 rfl rfl rfl aM)|exact V.hY rfl rfl aV|exact V.idxSC rfl rfl aV rfl|exact ew|exact V.build rfl|exact V.neg rfl Z|exact V.hH rfl rfl|exact V.lf rfl zfo|exact V.str rfl aM))))|(apply YQ.t;(· exact rfl);(· apply oh;(· exact rfl);(· first|exact rfl|assumption));(· (first|exact V.Rm 4 0 rfl rfl rfl rfl (dm _ _ _ _) HU|(first|exact fa|(apply K.idx;first|exact V.idxV rfl rfl rfl aM Z|exact V.a7 0 rfl rfl rfl aP|exact V.a7 1 rfl rfl rfl aP|exact V.a7 2 rfl rfl rfl aP|exact V.a7 3 rfl rfl rfl aP|exact V.a7 4 rfl rfl rfl aP|exact V.a7 5 rfl rfl rfl aP|exact V.a7 6 rfl rfl rfl aP)|exact fb|exact V.eZ 1 rfl rfl aM aM|exact V.mv|exact V.kj|(apply K.bin;first|exact V.go rfl|exact V.iZ rfl rfl Z|exact V.gR rfl rfl|exact V.gS rfl rfl|exact V.lV rfl rfl|exact V.lZ rfl rfl|exact V.cat rfl rfl Z|exact V.cat rfl rfl zfp|exact V.ji rfl rfl Z|exact V.add rfl rfl Z|exact V.sub rfl rfl Z|exact V.mul rfl rfl Z|exact V.jU rfl rfl Z|exact V.quo rfl rfl Z|exact V.rem rfl rfl Z|exact V.gn rfl rfl)|exact eK|exact eJ|exact fJ|exact ei|exact eu|(apply K.idx;first|exact V.fR rfl rfl aV|exact V.cm rfl rfl aV rfl|exact V.cm rfl rfl aV Z|exact V.iI rfl rfl Z)|exact V.ext rfl rfl|exact V.go rfl|(apply K.mU;first|exact V.jT rfl rfl rfl Z|exact V.jS rfl rfl Z|exact V.jR rfl rfl Z|exact V.ft 1 rfl rfl rfl aM)|exact V.hY rfl rfl aV|exact V.idxSC rfl rfl aV rfl|exact ew|exact V.build rfl|exact V.neg rfl Z|exact V.hH rfl rfl|exact V.lf rfl zfo|exact V.str rfl aM))))|(apply YQ.f;(· exact rfl);(· apply pg;(· exact rfl);(· first|exact rfl|assumption))))))) ?_))
    refine jC cZ dN ?_;refine bA ?_;refine⟨_,_,Wk.bb aD,c4,⟨p.aw,p.aq,({ name:=f.name,params:=f.params,body:=z }:Go.Sp.Fn)::r,p.ak⟩,_,_,.slice J p.az.length M,_,C,rfl,?_,E,⟨u.g,u.a,?_,u.n⟩,?_,⟨e.aq,e.ak⟩,o⟩
    ·unfold qp dc;simp only;rw[N];rfl
    ·exact⟨_,_,by rw[N];rfl⟩
    ·have:=Yw p f ({ name:=f.name,params:=f.params,body:=z }:Go.Sp.Fn) r N rfl rfl;omega
   |false =>
    exact zaw
  refine gY.go fun c p Q S O R J M an T C G u F e o=>?_
  unfold qp dc;refine zbh ?_;refine GW.join (gY code k i 7) ?_ ?_
  ·by_cases H:(k:Int)=6
   ·have B:((k:Int)==6)=true:=by rw[H];rfl
    have⟨z,c4,I,E,r3⟩:=yr hl G
    have HL:p.aq.length<=1000000:=by have:=(zP p).2.1;omega
    have j:(p.aq.map bc).length=p.aq.length:=bI _;refine X ?_;refine aX (aI 0 3 (.a 3 (.q 4 (.a 5 (.a 6 (.q 7 (.a 8 .nil))))))) ?_;refine av ?_;refine mr [0] I ?_;simp only[gw];refine zdT ?_;refine OA rfl rfl (GL.nu 3 (news:=[[.v (sv [122,122]),y4 z]]) rfl rfl rfl j rfl rfl ⟨by show _+1<=_;omega,by show(_+1)*_<=_;omega⟩ ?_);intro a5 c5;refine zbF ?_;refine⟨_,_,Wk.bb aD,c4,⟨p.aw,p.aq++[⟨[122,122],z⟩],p.az,p.ak⟩,_,.slice a5 (p.aq.length+1) c5,_,_,C,rfl,?_,E,⟨u.g,⟨a5,c5,?_⟩,u.f,u.n⟩,?_,⟨fun a W=>?_,e.ak⟩,o⟩
    ·unfold qp dc;simp only;rw[jH];rfl
    ·simp
    ·rw[Yv];simp only[length_cons,length_nil];omega
    ·rcases sb W with W|W
     ·exact e.aq a W
     ·rw[mem_singleton]at W;subst W;exact r3
   ·have B:((k:Int)==6)=false:=by simpa using H
    exact zaw
  refine gY.go fun c p Q S O R J M an T C G u F e o=>?_
  refine GW.wk (dh:=.loc 0 0::U::.loc 1 0::.loc 6 0::zU 99 []) (bO:=[fm code c,.box 28 [.v y6,.v y6,.v y6,.v y6],.vec 9 1 (b7 p.aw).length (b7 p.aw),.vec 79 2 (p.aq.map bc).length (p.aq.map bc),.vec 53 3 (p.az.map aO).length (p.az.map aO),.gone,.box 28 (aQ p)]) ?_ ?_
  ·refine Wk.trans (Wk.IL (code:=code) (c:=c) u ?_) ?_
   ·exact dT rfl
   ·exact Wk.bb aD
  refine X ?_;refine lO ?_;exact⟨c,p,G,by omega,e,rfl,rfl⟩
end Go.Xg
namespace Go.Xg
open Go.RowKit Go.Xw Go.Proofs Tryz Go.Sp Go.Im
def To{K:Fz}{β:Bt}{v a b c d x y:Value}(h:Rel K β v (.tup [.agg [.v a,.v b,.v c,.v d],.v x,.v y])):v=.tuple #[.agg #[a,b,c,d],x,y]:=by
 cases h with
 |tup j k W h =>
  match j,W with
  |[l,v1,v2],_ =>
   have M:=DR (h 0 _ _ rfl rfl);have z:=(h 1 _ _ rfl rfl).fx;have w:=(h 2 _ _ rfl rfl).fx;subst M;subst z;subst w;rfl
def Tp{K:Fz}(β:Bt){hg ha hf hn x y:Value}{p:Src}(e:bJ K (fun _=>Bk.no) [hg,ha,hf,hn] (aQ p)):Rel K β (.tuple #[.agg #[hg,ha,hf,hn],x,y]) (.tup [.agg (aQ p),.v x,.v y]):=by
 have n:bJ K β [hg,ha,hf,hn] (aQ p):=bJ.oA e (CF p);have o:bJ K β [.agg #[hg,ha,hf,hn],x,y] [.agg (aQ p),.v x,.v y]:=.cons (.agg [hg,ha,hf,hn] _ n.1 n.2) (.cons (.v _) (.cons (.v _) .nil));exact .tup [.agg #[hg,ha,hf,hn],x,y] _ o.1 o.2
def R9(s:ai)(O:s.length<=1000000000000):GC prog 98 [.v (sv s)] [] fun g Δ=>Δ=[]/\∃p c z,dE p<=600000/\mA p/\g=.tup [.agg (aQ p),y4 c,y4 z]:=fun B K β w vs m J I =>
 (Bl s O B K β w vs m J I).mono fun v w' ⟨K',fu,g,bO,j,M,p,C,t,u,F,ns,c,z,H,R,d,l,o⟩=>by
  subst l;subst o;have⟨β2,b1,_,_,S⟩:=j.unpack (i:=3) (N:=dc p.ak F ns) rfl;have⟨K1,k1,q1,T⟩:=S.pJ (i:=0) (E:=9) (k:=1) (rows:=b7 p.aw) (x:=C) rfl;have⟨K2,k2,q2,W⟩:=T.pJ (i:=1) (E:=79) (k:=2) (rows:=p.aq.map bc) (x:=t) rfl;have⟨K3,G,q3,i4⟩:=W.pJ (i:=2) (E:=53) (k:=3) (rows:=p.az.map aO) (x:=u) rfl;obtain⟨r,q,q4,i5⟩:=i4.rU (A:=[.vec 9 1 (b7 p.aw).length (b7 p.aw),.vec 79 2 (p.aq.map bc).length (p.aq.map bc),.vec 53 3 (p.az.map aO).length (p.az.map aO),.gone]) H.n rfl (by rw[m];exact bj _) rfl;have Q:=To M;subst Q;have b:=dO.refl (fun _=>Bk.no);refine⟨r,_,.tup [.agg (aQ p),y4 c,y4 z],[],i5.cut (n:=0) (by rw[m];exact a8 _) rfl,?_,rfl,p,c,z,R,d,rfl⟩;have e:bJ r (fun _=>Bk.no) [C,t,u,F] (aQ p):=.cons ((q1.pc (fu:=fun _=>Bk.no) rfl).mono (k2.trans (G.trans q)) b) (.cons ((q2.pc (fu:=fun _=>Bk.no) rfl).mono (G.trans q) b) (.cons ((q3.pc (fu:=fun _=>Bk.no) rfl).mono q b) (.cons q4 .nil)));exact Tp _ e
def TxR(code:ai)(g:GV)(I:ap):Prop:=∃(s:ai)(c:c9),c.i<=code.length/\s.length<=1000/\g=.v (sv s)/\I=[fm code c]
attribute [local irreducible] GW GL GO V GC GA bh bm oa tQ qI
def MJ(code:ai)(W:code.length<=1099511627776)(c:c9)(o:c.i<=code.length) :
  GC prog 101 [.loc 0 0] [fm code c] (TxR code):=by
 have⟨k,N,z,l,n⟩:=sD W o 25 Z;refine ah func101 ntmps101 ?_;refine zad ?_;refine D [0] z ?_;refine GL.RC 1000 rfl rfl (by decide +kernel) (by show k<25;omega) rfl ?_;intro s q;refine zap ?_;refine ct ?_;exact⟨s,N,l,q,rfl,rfl⟩
def Gq(code:ai)(W:code.length<=1099511627776)(c:c9)(o:c.i<=code.length) :
  GC prog 34 [.loc 0 0] [fm code c] (OE code):=by
 obtain⟨k,O,z,l,-⟩:=oN W o 3 Z
 by_cases G:0<k
 ·have N:decide ((0:Int)<k)=true:=by simpa using G
  refine ah func34 ntmps34 ?_;refine D [0] z ?_;refine cN [0] (Pu code W O l) ?_;rintro _ _⟨Q,p,C,e,R,rfl,rfl⟩;refine zaR ?_;refine lO ?_;exact⟨Q,p,C,e,R,rfl,rfl⟩
 ·have N:decide ((0:Int)<k)=false:=by simpa using G
  refine ah func34 ntmps34 ?_;refine D [0] z ?_;refine cN [0] (MJ code W O l) ?_;rintro _ _⟨s,Q,C,q,rfl,rfl⟩;refine zaR ?_;refine cN [] (R9 s Z) ?_;rintro _ _⟨rfl,p,w,F,e,R,rfl⟩;refine zaR ?_;refine lO ?_;exact⟨Q,p,C,by omega,R,rfl,rfl⟩
end Go.Xg
namespace Go.Xg
open Go.RowKit Go.Xw Go.Proofs Tryz Go.Sp Go.Im
open GV (U)
def Sb{K:Fz}(β:Bt){hg ha hf hn:Value}{p:Src}(e:bJ K (fun _=>Bk.no) [hg,ha,hf,hn] (aQ p)):Rel K β (.agg #[hg,ha,hf,hn]) (.agg (aQ p)):=by
 have n:bJ K β [hg,ha,hf,hn] (aQ p):=bJ.oA e (CF p);exact .agg [hg,ha,hf,hn] _ n.1 n.2
def EN(code:ai)(O:code.length<=1099511627776)(c:c9)(M:c.i<=code.length):GC prog 32 [.loc 0 0] [fm code c] (OE code):=fun B K β w vs q J I =>
 (yX code O c M B K β w vs q J I).mono fun v w' ⟨K',fu,g,bO,l,Q,j,p,C,u,z,F,ns,m,H,hw,d,o,r⟩=>by
  subst o;subst r;have⟨β2,b1,_,_,S⟩:=l.unpack (i:=4) (N:=dc p.ak F ns) rfl;have⟨K1,k1,q1,T⟩:=S.pJ (i:=1) (E:=9) (k:=1) (rows:=b7 p.aw) (x:=C) rfl;have⟨K2,k2,q2,W⟩:=T.pJ (i:=2) (E:=79) (k:=2) (rows:=p.aq.map bc) (x:=u) rfl;have⟨K3,G,q3,i4⟩:=W.pJ (i:=3) (E:=53) (k:=3) (rows:=p.az.map aO) (x:=z) rfl;obtain⟨t,s,q4,i5⟩:=i4.rU (A:=[fm code j,.vec 9 1 (b7 p.aw).length (b7 p.aw),.vec 79 2 (p.aq.map bc).length (p.aq.map bc),.vec 53 3 (p.az.map aO).length (p.az.map aO),.gone]) H.n rfl (by rw[q];exact dT rfl) rfl;have R:=DR Q;subst R;have b:=dO.refl (fun _=>Bk.no);have e:bJ t (fun _=>Bk.no) [C,u,z,F] (aQ p):=.cons ((q1.pc (fu:=fun _=>Bk.no) rfl).mono (k2.trans (G.trans s)) b) (.cons ((q2.pc (fu:=fun _=>Bk.no) rfl).mono (G.trans s) b) (.cons ((q3.pc (fu:=fun _=>Bk.no) rfl).mono s b) (.cons q4 .nil)));refine⟨t,_,.agg (aQ p),[fm code j],i5.cut (n:=1) (by rw[q];exact a8 _) rfl,?_,j,p,m,by omega,d,rfl,rfl⟩;exact Sb _ e
attribute [local irreducible] GW GL GO V GC GA bh bm oa tQ qI
def InR(code:ai)(g:GV)(I:ap):Prop:=∃(c:c9)(v:List Int),c.i<=code.length/\v.length<=6/\g=ints v/\I=[fm code c]
def SW(code:ai)(W:code.length<=1099511627776)(c:c9)(q:c.i<=code.length):GC prog 35 [.loc 0 0] [fm code c] (InR code):=by
 have⟨k,N,A,s,B⟩:=sD W q 5 Z;refine ah func35 ntmps35 ?_;refine zc4 ?_;refine D [0] A ?_;refine GW.loop (fun z:Nat=>z) (fun z o e=>∃(R:c9)(w:List Int)(n:Nat),R.i<=code.length/\z+n<=4/\w.length=n/\o=.loc 0 0::U::U::.vec 1 n::y4 (z:Nat)::zU 21 []/\e=[fm code R,.vec 3 1 0 (w.map fun i=>[GV.v (ii i)])]) k ?_ ?_
 ·exact⟨_,_,Wk.bb aD,N,[],0,s,by omega,rfl,rfl,rfl⟩
 ·rintro z _ _⟨R,w,n,F,G,T,rfl,rfl⟩
  have C:(w.map fun i=>[GV.v (ii i)]).length=n:=by rw[bI];exact T
  cases z with
  |zero =>
   obtain⟨y,E,I,Q,-⟩:=oN W F 9 Z
   by_cases m:y=0
   ·have O:(y==0)=true:=by simpa using m
    obtain⟨u,J,d,b,-⟩:=yr W Q;refine zbG ?_;refine D [0] I ?_;refine D [0] d ?_;refine et ?_
    have S:((w.map fun i=>[GV.v (ii i)])++[[GV.v (ii u)]]).length=n+1:=by rw[bl,C];rfl
    refine GL.wk (Wk.iC (t:=24) (i:=1) rfl rfl rfl S) ?_;refine zbd ?_;refine ct ?_;exact⟨J,w++[u],b,by rw[bl];simp only[length_singleton];omega,by unfold ints;rw[jH];rfl,rfl⟩
   ·have O:(y==0)=false:=by simpa using m
    refine zbG ?_;refine jw [0] I ?_;refine GL.wk (Wk.iC (t:=3) (i:=1) rfl rfl rfl C) ?_;refine zbd ?_;refine ct ?_;exact⟨E,w,Q,by omega,rfl,rfl⟩
  |succ z =>
   have r:decide ((0:Int)<((z+1:Nat):Int))=true:=decide_eq_true Z
   have l:((z+1:Nat):Int)-1=(z:Int):=by omega
   obtain⟨y,E,I,Q,-⟩:=oN W F 40 Z;refine X ?_;refine D [0] I ?_;refine zbD ?_;rw[l];exact⟨z,⟨_,_,Wk.bb aD,E,w++[y],n+1,Q,by omega,by simp[T],rfl,by rw[jH];rfl⟩,by simp⟩
def DrM(g:GV)(I:ap):Prop:=I=[]/\∃(p:Src)(w:List Int)(F:Nat),dE p<=1048576/\mA p/\w.length<=6/\F<=4095/\g=.tup [.agg (aQ p),ints w,y4 (F:Nat)]
def Jl(code:ai)(b:code.length<=1099511627776):GC prog 8 [.sl 1 (cW code)] [] DrM:=by
 refine ah func8 ntmps8 ?_;refine cN [] (Pq code b) ?_;rintro _ _⟨h,rfl,rfl⟩;refine zaR ?_;refine cN [1] (EN code b ⟨0,h⟩ (bj _)) ?_;rintro _ _⟨T,p,G,e,d,rfl,rfl⟩;refine zaR ?_;obtain⟨k,n,B,j,-⟩:=oN b G 5 Z;refine D [1] B ?_
 refine GW.join (fun H S=>∃(c:c9)(p:Src),c.i<=code.length/\dE p<=1048576/\mA p/\H=U::U::.loc 0 0::U::U::.loc 1 0::.loc 2 0::zU 25 [] /\
  S=[.box 28 [.v y6,.v y6,.v y6,.v y6],fm code c,.box 28 (aQ p)]) ?_ ?_
 ·by_cases E:k=0
  ·have o:(k==0)=true:=by simpa using E
   refine X ?_;refine cN [1] (Gq code b n j) ?_;rintro _ _⟨A,R,w,s,r,rfl,rfl⟩;refine zaR ?_;exact⟨_,_,Wk.bb aD,A,R,w,s,r,rfl,rfl⟩
  ·have o:(k==0)=false:=by simpa using E
   refine X ?_;exact⟨_,_,Wk.bb aD,n,p,j,e,d,rfl,rfl⟩
 clear e d G B j;rintro _ _⟨c,p,N,e,d,rfl,rfl⟩;refine X ?_;refine cN [1] (SW code b c N) ?_;rintro _ _⟨n,l,j,C,rfl,rfl⟩;refine zaR ?_;have⟨y,A,I,w,r3⟩:=sD b j 900 Z;refine D [1] I ?_;obtain⟨z,W,J,Q,-⟩:=oN b w 9 Z;refine D [1] J ?_
 have u:(30:Int)+(y:Int)=((30+y:Nat):Int):=by omega
 rw[u]
 by_cases F:z=0
 ·have t:(z==0)=true:=by simpa using F
  obtain⟨x,c5,M,i5,-⟩:=yr b Q;refine X ?_;refine D [1] M ?_;have r5:=vK x 4095 Z;obtain⟨m,O⟩:∃m:Nat,oa x 4095=(m:Int):=⟨(oa x 4095).toNat,by omega⟩;refine GL.q (V.Bp rfl rfl) ?_;rw[O];refine zap ?_;refine kV ?_;exact⟨rfl,p,l,m,e,d,C,by omega,rfl⟩
 ·have t:(z==0)=false:=by simpa using F
  refine X ?_;refine kV ?_;exact⟨rfl,p,l,30+y,e,d,C,by omega,rfl⟩
end Go.Xg
namespace Go.Xg
open Go.RowKit Go.Xw Go.Proofs Tryz Go.Mn
open Go.Xp (bo)
def Xh(a b:Int):(BitVec.ofInt 64 a |||BitVec.ofInt 64 b).toNat=(a%18446744073709551616).toNat |||(b%18446744073709551616).toNat:=by rw[BitVec.toNat_or,BitVec.toNat_ofInt,BitVec.toNat_ofInt];rfl
def ym{n:Nat}(h:n<4294967296):((n:Int)%18446744073709551616).toNat=n:=by omega
def RP{n:Nat}(h:n<9223372036854775808):IntKind.i64.wrap (n:Int)=n:=zeH
section
variable{P:Program}{fr:am}{Γ:ap}{x y:Operand}{t t':TypeId}{a b:Nat}
def V.ZA(hx:bd fr x=y4 (a:Int))(m:bd fr y=y4 (b:Int))(ha:a<4294967296)(r:b<4294967296):V P (.binOp .and t x y t') fr Γ (y4 ((a &&& b:Nat):Int)):=by
 have h:=V.Bp (P:=P) (Γ:=Γ) (t:=t) (t':=t') hx m;unfold oa at h
 rwa[ym ha,ym r,RP (Nat.lt_of_le_of_lt Nat.and_le_left Z)]at h
def V.aaM(hx:bd fr x=y4 (a:Int))(m:bd fr y=y4 (b:Int))(ha:a<4294967296)(r:b<4294967296):V P (.binOp .xor t x y t') fr Γ (y4 ((a ^^^ b:Nat):Int)):=by
 have h:=V.QB (P:=P) (Γ:=Γ) (t:=t) (t':=t') hx m;unfold tQ at h
 rwa[ym ha,ym r,RP (Nat.lt_trans (Nat.xor_lt_two_pow (n:=32) ha r) aS)]at h
def V.orW{a b:Int}(hx:bd fr x=y4 a)(m:bd fr y=y4 b):V P (.binOp .or t x y t') fr Γ (y4 (IntKind.i64.wrap (((a%18446744073709551616).toNat |||(b%18446744073709551616).toNat:Nat):Int))) :=
 V.v2 hx m fun l w h k d H r B=>by
  simp[execOp,eqGuard,h,k,binOp,Op.intBits,IntKind.bits];exact congrArg (fun n:Nat=>IntKind.i64.wrap (n:Int)) (Xh a b)
def V.orN(hx:bd fr x=y4 (a:Int))(m:bd fr y=y4 (b:Int))(ha:a<4294967296)(r:b<4294967296):V P (.binOp .or t x y t') fr Γ (y4 ((a |||b:Nat):Int)):=by
 have h:=V.orW (P:=P) (Γ:=Γ) (t:=t) (t':=t') hx m
 rwa[ym ha,ym r,RP (Nat.lt_trans (Nat.or_lt_two_pow (n:=32) ha r) aS)]at h
def V.aaF{q:IntKind}(hx:bd fr x=y4 (a:Int))(m:bd fr y=.v (.int q (b:Int)))(ha:a<4294967296)(r:b<=31):V P (.binOp .shl t x y t') fr Γ (y4 ((a*2^b:Nat):Int)) :=
 V.v2 hx m fun l w h k d H s B=>by
  have:¬((b:Int)<0):=by omega
  have z:a*2^b<9223372036854775808:=by
   have I:2^b<=2^31:=Nat.pow_le_pow_right aS r;have c:a*2^b<=4294967295*2^31:=Nat.mul_le_mul Z I;omega
  have F:=RP z;simp[execOp,eqGuard,h,k,binOp,Op.shift,this,IntKind.bits,Nat.min_eq_left (show b<=64 by omega)];simpa using F
def V.aaI{q:IntKind}{a:Int}(hx:bd fr x=y4 a)(m:bd fr y=.v (.int q (b:Int)))(r:b<=31):V P (.binOp .shr t x y t') fr Γ (y4 (a.fdiv (2^b))):=by
 have h:=V.Cc (P:=P) (Γ:=Γ) (t:=t) (t':=t') hx m
 rwa[Nat.min_eq_left Z]at h
end
def nK(n:Int):GF prog 343 [y4 n] [] (y4 (jo n:Nat)) []:=by rw[Fc];exact Bm n
attribute [local irreducible] GW GL GO V GC GA bh bm
section
variable(a b:Int)
def W1:GF prog 363 [y4 a,y4 b] [] (y4 (zY a b)) []:=by
 unfold zY;have d:=iw a;have i:=iw b;have I:=iw (bo a+bo b);have O:=fc a;have r:=fc b;unfold cz at O r;generalize bo a=x at *;generalize bo b=y at *;refine ah func363 ntmps363 ?_;exact zaT
def QF:GF prog 301 [y4 a,y4 b] [] (y4 (wH a b)) []:=by
 unfold wH;have d:=iw a;have i:=iw b;have I:=iw (bo a-bo b);have O:=fc a;have r:=fc b;unfold cz at O r;generalize bo a=x at *;generalize bo b=y at *;refine ah func301 ntmps301 ?_;exact zaT
def W6:GF prog 364 [y4 a,y4 b] [] (y4 (AK a b)) []:=by
 unfold AK;have d:=iw a;have i:=iw b;have I:=iw (bo a*bo b);have O:=fc a;have r:=fc b;have N:=M1 O r;unfold cz at O r;generalize bo a=x at *;generalize bo b=y at *;refine ah func364 ntmps364 ?_;exact zaT
def Uc:GF prog 365 [y4 a,y4 b] [] (.tup [.v (ii (oP a b).1),.v (ii (oP a b).2)]) []:=by
 have i:=D6 a b;unfold oP at i |-;have d:=iw a;have j:=iw b;generalize bo a=x at *;generalize bo b=y at *
 by_cases M:y=0
 ·rw[ae M]
  have O:(y==0)=true:=by simpa using M
  refine ah func365 ntmps365 ?_;exact zcJ
 ·rw[ab M]at i |-
  have O:(y==0)=false:=by simpa using M
  by_cases z:x = -2147483648
  ·have W:(x == -2147483648)=true:=by simpa using z
   by_cases w:y = -1
   ·have N:(y == -1)=true:=by simpa using w
    rw[ae ⟨z,w⟩];refine ah func365 ntmps365 ?_;exact zcJ
   ·have N:(y == -1)=false:=by simpa using w
    rw[ab (fun h=>w h.2)]at i |-;refine ah func365 ntmps365 ?_;exact zaX
  ·have W:(x == -2147483648)=false:=by simpa using z
   rw[ab (fun h=>z h.1)]at i |-;refine ah func365 ntmps365 ?_;exact zaX
def Ui:GF prog 366 [y4 a,y4 b] [] (.tup [.v (ii (oU a b).1),.v (ii (oU a b).2)]) []:=by
 unfold oU;have d:=iw a;have i:=iw b;generalize bo a=x at *;generalize bo b=y at *
 by_cases M:y=0
 ·rw[ae M]
  have O:(y==0)=true:=by simpa using M
  refine ah func366 ntmps366 ?_;refine zb7 ?_;exact c8
 ·rw[ab M]
  have O:(y==0)=false:=by simpa using M
  refine ah func366 ntmps366 ?_;exact zeq
end
def np(b:Bool):GF prog 302 [.v (.bool b)] [] (y4 (iD b)) []:=by
 cases b with
 |true =>
  refine ah func302 ntmps302 ?_;exact ax
 |false =>
  refine ah func302 ntmps302 ?_;exact ax
section
variable(a b:Int)
def RZ:GF prog 303 [y4 1,y4 a,y4 b] [] (y4 (gF 1 a b)) []:=by
 have d:=nK a;have i:=nK b;have A:=fO a;have j:=fO b;unfold gF;generalize jo a=x at *;generalize jo b=y at *;have I:=iw ((x &&& y:Nat):Int);have G:((y:Nat):Int)%32=((y%32:Nat):Int):=rfl;refine ah func303 ntmps303 ?_;refine zb7 ?_;refine GL.q (V.ZA rfl rfl A j) ?_;exact zcw
def R1:GF prog 303 [y4 2,y4 a,y4 b] [] (y4 (gF 2 a b)) []:=by
 have d:=nK a;have i:=nK b;have A:=fO a;have j:=fO b;unfold gF;generalize jo a=x at *;generalize jo b=y at *;have I:=iw ((x |||y:Nat):Int);have G:((y:Nat):Int)%32=((y%32:Nat):Int):=rfl;refine ah func303 ntmps303 ?_;refine zb7 ?_;refine GL.q (V.orN rfl rfl A j) ?_;exact zcw
def GK:GF prog 303 [y4 3,y4 a,y4 b] [] (y4 (gF 3 a b)) []:=by
 have d:=nK a;have i:=nK b;have A:=fO a;have j:=fO b;unfold gF;generalize jo a=x at *;generalize jo b=y at *;have I:=iw ((x ^^^ y:Nat):Int);have G:((y:Nat):Int)%32=((y%32:Nat):Int):=rfl;refine ah func303 ntmps303 ?_;refine zb7 ?_;refine GL.q (V.aaM rfl rfl A j) ?_;exact zcw
def R4:GF prog 303 [y4 4,y4 a,y4 b] [] (y4 (gF 4 a b)) []:=by
 have d:=nK a;have i:=nK b;have A:=fO a;have j:=fO b;unfold gF sw;generalize jo a=x at *;generalize jo b=y at *;have I:=iw ((x*2^(y%32):Nat):Int);have G:((y:Nat):Int)%32=((y%32:Nat):Int):=rfl;refine ah func303 ntmps303 ?_;refine zb7 ?_;refine GL.q (V.aaF rfl rfl A (b:=y%32) Z) ?_;exact zcw
def R6:GF prog 303 [y4 5,y4 a,y4 b] [] (y4 (gF 5 a b)) []:=by
 have d:=nK a;have i:=nK b;have r:=iw a;have I:=iw ((bo a).fdiv (2^(jo b%32)));rw[ni (HC (fc a) _)]at I;unfold gF sw;generalize jo a=x at *;generalize jo b=y at *;generalize bo a=z at *;refine ah func303 ntmps303 ?_;refine zb7 ?_;refine D [] r ?_;refine GL.q (V.aaI (b:=y%32) rfl rfl Z) ?_;exact zcw
end
open Go.Im
open Go.Xp (Nd)
open Go.Sp (Src)
def cv(p:Src)(F:Nat)(H:MH)(s:M):Ob:=.box 68 [strs p.aw,.sl 2 (p.aq.map bc),.sl 3 (p.az.map aO),.sl 5 (p.ak.map aU),ints s.inp,y4 (F:Nat),
 y4 s.fin,y4 s.why,y4 0,.vec 1 s.out.length,y4 (s.ay:Nat),.v y6,.v (.slice H.ag s.bF.length H.cg),.v (.slice H.ac s.cells.length H.cc),y4 (s.aY:Nat)]
def fM(al:Option Addr)(cl k:Nat)(s:M):Ob:=.box 185 [.v (.slice al k cl),.v (.bool s.left),y4 s.gT]
def gX(al:Option Addr)(cl k:Nat)(s:M):Ob:=.vech 3 1 (bE (s.locs.take k)) (.slice al k cl)
def rS(p:Src)(F:Nat)(H:MH)(al:Option Addr)(cl k:Nat)(s:M):ap:=[cv p F H s,cP s,dJ H s,dC H s,fk H s,fM al cl k s,gX al cl k s]
def qD(s:M)(c w:Int):M:=if s.fin=0 then s.stop c w else s
section
variable(p:Src)(F:Nat)(H:MH)(al:Option Addr)(cl k:Nat)
def tw(s:M)(c w:Int):GF prog 106 [.loc 0 0,y4 c,y4 w] [cv p F H s,cP s] (.tup []) [cv p F H (qD s c w),cP s]:=by
 unfold qD
 by_cases h:s.fin=0
 ·have W:(s.fin==0)=true:=by simpa using h
  rw[ae h];unfold cv cP;exact zc3
 ·have W:(s.fin==0)=false:=by simpa using h
  rw[ab h];unfold cv cP;exact zc3
def z6{s:M}(h:s.over=true):GF prog 233 [.loc 0 0,.loc 2 0] [cv p F H s,cP s,fM al cl k s,gX al cl k s] (.v (.bool false)) [cv p F H s,cP s,fM al cl k s,gX al cl k s]:=by
 unfold M.over at h;unfold cv cP fM gX
 cases t:(s.fin != 0)with
 |true =>
  refine ah func233 ntmps233 ?_;exact ax
 |false =>
  have W:s.left=true:=by rw[t]at h;exact h
  rw[W];refine ah func233 ntmps233 ?_;exact ax
def zZ{s:M}(h:s.over=false)(o:F<=s.ay):GF prog 233 [.loc 0 0,.loc 2 0] [cv p F H s,cP s,fM al cl k s,gX al cl k s] (.v (.bool false)) [cv p F H (s.stop 3 0),cP s,fM al cl k s,gX al cl k s]:=by
 have e:=tw p F H s 3 0;unfold M.over at h;simp only[Bool.or_eq_false_iff]at h
 have t:s.fin=0:=by simpa using h.1
 unfold qD at e;rw[ae t]at e;have z:=h.1;have n:decide ((F:Int)<=(s.ay:Int))=true:=decide_eq_true Z;unfold cv cP fM gX at *;rw[h.2];refine ah func233 ntmps233 ?_;refine zaL ?_;exact zeu
def dx{s:M}(h:s.over=false)(o:¬F<=s.ay)(j:F<=20000):GF prog 233 [.loc 0 0,.loc 2 0] [cv p F H s,cP s,fM al cl k s,gX al cl k s] (.v (.bool true)) [cv p F H { s with ay:=s.ay+1 },cP s,fM al cl k s,gX al cl k s]:=by
 unfold M.over at h;simp only[Bool.or_eq_false_iff]at h;have z:=h.1;have n:decide ((F:Int)<=(s.ay:Int))=false:=decide_eq_false Z;unfold cv cP fM gX at *;rw[h.2];refine ah func233 ntmps233 ?_;exact zc8
variable{p F H al cl k}
def xf{s:M}{a:Nat}(ha:a<s.cells.length)(t:H.hs.length=s.cells.length):(List.zipWith om s.cells H.hs)[a]?=some [.v (.slice (some ⟨(H.hs.getD a (0,0)).1,0,none⟩) (row s a).length (H.hs.getD a (0,0)).2)]/\(List.zipWith om s.cells H.hs).length=s.cells.length:=by
 have o:=pQ ha
 have j:H.hs[a]?=some (H.hs.getD a (0,0)):=by
  rw[getD_eq_getElem?_getD,cq (by rw[t];exact ha)];rfl
 exact⟨by rw[getElem?_zipWith,o,j];rfl,by rw[rE,t,Nat.min_self]⟩
def Az{s:M}(h:s.fin≠0)(a:Nat)(v:Int):GF prog 236 [.loc 0 0,y4 (a:Nat),y4 v] [cv p F H s,cP s,dJ H s,dC H s] (.v (.bool false)) [cv p F H s,cP s,dJ H s,dC H s]:=by
 have W:(s.fin==0)=false:=by simpa using h
 unfold cv cP dJ dC;exact zc9
def CQ{s:M}(h:s.fin=0){a:Nat}(ha:a<s.cells.length)(t:H.hs.length=s.cells.length){v:Int}(Q:nV (row s a) v=false):GF prog 236 [.loc 0 0,y4 (a:Nat),y4 v] [cv p F H s,cP s,dJ H s,dC H s] (.v (.bool false)) [cv p F H (s.stop 2 6),cP s,dJ H s,dC H s]:=by
 have W:(s.fin==0)=true:=by simpa using h
 have e:=tw p F H s 2 6;unfold qD at e;rw[ae h]at e;have⟨E,w⟩:=xf (H:=H) ha t;unfold nV at Q;generalize row s a=l at *;unfold cv cP dJ dC at *
 by_cases N:v<0
 ·have O:decide (v<0)=true:=decide_eq_true N;refine ah func236 ntmps236 ?_;exact zeu
 ·have O:decide (v<0)=false:=decide_eq_false N
  have z:decide ((l.length:Int)<=v)=true:=by
   simp only[show decide (0<=v)=true from decide_eq_true Z,Bool.true_and,decide_eq_false_iff_not]at Q;exact decide_eq_true Z
  refine ah func236 ntmps236 ?_;exact zeu
def zu{s:M}(h:s.fin=0){a:Nat}(ha:a<s.cells.length)(t:H.hs.length=s.cells.length){v:Int}(N:nV (row s a) v=true):GF prog 236 [.loc 0 0,y4 (a:Nat),y4 v] [cv p F H s,cP s,dJ H s,dC H s] (.v (.bool true)) [cv p F H s,cP s,dJ H s,dC H s]:=by
 have W:(s.fin==0)=true:=by simpa using h
 have⟨E,w⟩:=xf (H:=H) ha t;unfold nV at N;simp only[a6,decide_eq_true_eq]at N;have O:decide (v<0)=false:=decide_eq_false Z;have z:decide (((row s a).length:Int)<=v)=false:=decide_eq_false Z;generalize row s a=l at *;unfold cv cP dJ dC at *;exact zc9
def tZ(n:Nd)(x:Int):am:=[y4 n.aj,y4 n.at_,y4 x,.v (sv n.s),ints n.au]
def zO{s:M}(h:s.fin≠0)(n:Nd)(x v:Int):GF prog 234 [.loc 0 0,.loc 5 0,.agg (tZ n x),y4 v] (rS p F H al cl k s) (.tup []) (rS p F H al cl k s):=by
 have W:(s.fin != 0)=true:=by simpa using h
 unfold rS cv cP tZ;refine ah func234 ntmps234 ?_;exact eP
def IQ{s:M}(h:s.fin=0)(n:Nd){i:Nat}(hi:i<k)(G:k<=s.locs.length)(r:k<=1000)(v:Int):GF prog 234 [.loc 0 0,.loc 5 0,.agg (tZ n ((i+1:Nat):Int)),y4 v] (rS p F H al cl k s) (.tup []) (rS p F H al cl k { s with locs:=s.locs.set i v }):=by
 have b:(s.fin != 0)=false:=by simpa using h
 have W:(bE (s.locs.take k)).length=k:=by rw[bI,iX];omega
 have C:(bE (s.locs.take k))[i]?=some [y4 (s.locs[i]'Z)]:=by
  rw[b6,List.getElem?_take_of_lt hi,cq Z];rfl
 have q:decide ((0:Int)<((i+1:Nat):Int))=true:=decide_eq_true Z
 have o:((i+1:Nat):Int)-1=(i:Int):=by omega
 have e:rS p F H al cl k { s with locs:=s.locs.set i v }=[cv p F H s,cP s,dJ H s,dC H s,fk H s,fM al cl k s,.vech 3 1 (dk (bE (s.locs.take k)) i 0 (y4 v)) (.slice al k cl)]:=by
  rw[qi,<-List.take_set];rfl
 rw[e];unfold rS cv cP fM gX tZ;refine ah func234 ntmps234 ?_;refine aX (aI 0 9 (.a 9 .nil)) ?_;refine av ?_;rw[o];refine OQ rfl (V.gi 6 rfl rfl rfl W hi) ?_;refine kO ?_;refine av ?_;refine OA rfl rfl (GL.vE rfl rfl W C rfl rfl rfl rfl ?_);refine GL.nil (bx (dy.mk (by repeat (first|exact cX.n|(apply cX.w;(· decide +kernel))|(apply cX.y;(· first|(apply YQ.t;(· exact rfl);(· exact rfl);(· (first|exact V.gi 6 rfl rfl rfl ((dm _ _ _ _).trans W) hi|(first|exact fa|(apply K.idx;first|exact V.idxV rfl rfl rfl aM Z|exact V.a7 0 rfl rfl rfl aP|exact V.a7 1 rfl rfl rfl aP|exact V.a7 2 rfl rfl rfl aP|exact V.a7 3 rfl rfl rfl aP|exact V.a7 4 rfl rfl rfl aP|exact V.a7 5 rfl rfl rfl aP|exact V.a7 6 rfl rfl rfl aP)|exact fb|exact V.eZ 1 rfl rfl aM aM|exact V.mv|exact V.kj|(apply K.bin;first|exact V.go rfl|exact V.iZ rfl rfl Z|exact V.gR rfl rfl|exact V.gS rfl rfl|exact V.lV rfl rfl|exact V.lZ rfl rfl|exact V.cat rfl rfl Z|exact V.cat rfl rfl zfp|exact V.ji rfl rfl Z|exact V.add rfl rfl Z|exact V.sub rfl rfl Z|exact V.mul rfl rfl Z|exact V.jU rfl rfl Z|exact V.quo rfl rfl Z|exact V.rem rfl rfl Z|exact V.gn rfl rfl)|exact eK|exact eJ|exact fJ|exact ei|exact eu|(apply K.idx;first|exact V.fR rfl rfl aV|exact V.cm rfl rfl aV rfl|exact V.cm rfl rfl aV Z|exact V.iI rfl rfl Z)|exact V.ext rfl rfl|exact V.go rfl|(apply K.mU;first|exact V.jT rfl rfl rfl Z|exact V.jS rfl rfl Z|exact V.jR rfl rfl Z|exact V.ft 1 rfl rfl rfl aM)|exact V.hY rfl rfl aV|exact V.idxSC rfl rfl aV rfl|exact ew|exact V.build rfl|exact V.neg rfl Z|exact V.hH rfl rfl|exact V.lf rfl zfo|exact V.str rfl aM))))|(apply YQ.t;(· exact rfl);(· apply oh;(· exact rfl);(· first|exact rfl|assumption));(· (first|exact V.gi 6 rfl rfl rfl ((dm _ _ _ _).trans W) hi|(first|exact fa|(apply K.idx;first|exact V.idxV rfl rfl rfl aM Z|exact V.a7 0 rfl rfl rfl aP|exact V.a7 1 rfl rfl rfl aP|exact V.a7 2 rfl rfl rfl aP|exact V.a7 3 rfl rfl rfl aP|exact V.a7 4 rfl rfl rfl aP|exact V.a7 5 rfl rfl rfl aP|exact V.a7 6 rfl rfl rfl aP)|exact fb|exact V.eZ 1 rfl rfl aM aM|exact V.mv|exact V.kj|(apply K.bin;first|exact V.go rfl|exact V.iZ rfl rfl Z|exact V.gR rfl rfl|exact V.gS rfl rfl|exact V.lV rfl rfl|exact V.lZ rfl rfl|exact V.cat rfl rfl Z|exact V.cat rfl rfl zfp|exact V.ji rfl rfl Z|exact V.add rfl rfl Z|exact V.sub rfl rfl Z|exact V.mul rfl rfl Z|exact V.jU rfl rfl Z|exact V.quo rfl rfl Z|exact V.rem rfl rfl Z|exact V.gn rfl rfl)|exact eK|exact eJ|exact fJ|exact ei|exact eu|(apply K.idx;first|exact V.fR rfl rfl aV|exact V.cm rfl rfl aV rfl|exact V.cm rfl rfl aV Z|exact V.iI rfl rfl Z)|exact V.ext rfl rfl|exact V.go rfl|(apply K.mU;first|exact V.jT rfl rfl rfl Z|exact V.jS rfl rfl Z|exact V.jR rfl rfl Z|exact V.ft 1 rfl rfl rfl aM)|exact V.hY rfl rfl aV|exact V.idxSC rfl rfl aV rfl|exact ew|exact V.build rfl|exact V.neg rfl Z|exact V.hH rfl rfl|exact V.lf rfl zfo|exact V.str rfl aM))))|(apply YQ.f;(· exact rfl);(· apply pg;(· exact rfl);(· first|exact rfl|assumption))))))) ?_))
 refine jC cZ dN ?_;refine av ?_;exact bY
end
end Go.Xg
namespace Go.Mn
def Xn(a b:Int):0<=(oP a b).2:=by grind[oP]
def Yp(a b:Int):0<=(oU a b).2:=by grind[oU]
end Go.Mn
namespace Go.Xg
open Go.RowKit Go.Xw Go.Proofs Tryz Go.Mn
open Go.Sp (Src)
attribute [local irreducible] GW GL GO V GC GA bh bm
def Yt(p:Src)(F:Nat)(H:MH){s:M}(hf:s.fin=0)(o:Go.Xp.ai){a b:Int}(ha:cz a)(t:cz b)(h:o∈nw) :
  GF prog 344 [.loc 0 0,.v (sv o),y4 a,y4 b] [cv p F H s,cP s] (.v (ii (mh o a b).1)) [cv p F H (if(mh o a b).2≠0 then s.stop 2 (mh o a b).2 else s),cP s]:=by
 unfold nw at h;simp only[List.mem_cons,List.not_mem_nil,or_false]at h
 rcases h with rfl|rfl|rfl|rfl|rfl|rfl|rfl|rfl|rfl|rfl|rfl|rfl|rfl|rfl|rfl|rfl
 ·have O:=Uc a b;have u:=Xn a b;have e:mh [47] a b=oP a b:=rfl;rw[e];generalize oP a b=r at *;have⟨q,c⟩:=r;have i:=tw p F H s 2 c;unfold qD at i;rw[ae hf]at i;simp only at O u |-
  by_cases N:c=0
  ·exact zew
  ·exact zcb
 ·have O:=Ui a b;have u:=Yp a b;have e:mh [37] a b=oU a b:=rfl;rw[e];generalize oU a b=r at *;have⟨q,c⟩:=r;have i:=tw p F H s 2 c;unfold qD at i;rw[ae hf]at i;simp only at O u |-
  by_cases N:c=0
  ·exact zew
  ·exact zcb
 ·have O:=W1 a b;exact zbI
 ·have O:=QF a b;exact zbI
 ·have O:=W6 a b;exact zbI
 ·have e:dM 1 a b=(a==b):=by unfold dM;rw[ni ha,ni t];rfl
  have O:=np (a==b);rw[ab (fun h=>h rfl)];show GF _ _ _ _ (y4 (iD (dM 1 a b))) _;rw[e];exact zae
 ·have e:dM 2 a b=(a != b):=by unfold dM;rw[ni ha,ni t];rfl
  have O:=np (a != b);rw[ab (fun h=>h rfl)];show GF _ _ _ _ (y4 (iD (dM 2 a b))) _;rw[e];exact zae
 ·have e:dM 3 a b=(decide (a<b)):=by unfold dM;rw[ni ha,ni t];rfl
  have O:=np (decide (a<b));rw[ab (fun h=>h rfl)];show GF _ _ _ _ (y4 (iD (dM 3 a b))) _;rw[e];exact zae
 ·have e:dM 5 a b=(decide (b<a)):=by unfold dM;rw[ni ha,ni t];rfl
  have O:=np (decide (b<a));rw[ab (fun h=>h rfl)];show GF _ _ _ _ (y4 (iD (dM 5 a b))) _;rw[e];exact zae
 ·have e:dM 7 a b=(decide (a<=b)):=by unfold dM;rw[ni ha,ni t];rfl
  have O:=np (decide (a<=b));rw[ab (fun h=>h rfl)];show GF _ _ _ _ (y4 (iD (dM 7 a b))) _;rw[e];exact zae
 ·have e:dM 9 a b=(decide (b<=a)):=by unfold dM;rw[ni ha,ni t];rfl
  have O:=np (decide (b<=a));rw[ab (fun h=>h rfl)];show GF _ _ _ _ (y4 (iD (dM 9 a b))) _;rw[e];exact zae
 ·have O:=RZ a b;exact zbI
 ·have O:=R1 a b;exact zbI
 ·have O:=GK a b;exact zbI
 ·have O:=R4 a b;exact zbI
 ·have O:=R6 a b;exact zbI
end Go.Xg
namespace Go.Im
open Go.Xp Go.Sp Go.Mn
section
variable{names ls:List ai}{s:ai}
def EL(h:ls <+: names)(o:ls.contains s=true):po names s=((yW ls s:Nat):Int):=by
 obtain⟨r,rfl⟩:=h;rw[<-(tj o).1];unfold po bP;rw[List.findIdx?_append]
 cases T:ls.findIdx? (fun x=>x==s)with
 |some i=>rfl
 |none =>
  rw[List.findIdx?_eq_none_iff]at T;have:=T s zfD;simp at this
def VL(h:ls++[s] <+: names)(o:ls.contains s=false):po names s=(ls.length:Int):=by
 obtain⟨r,rfl⟩:=h;unfold po bP
 have T:ls.findIdx? (fun x=>x==s)=none:=by
  rw[List.findIdx?_eq_none_iff];intro x hx
  cases t:x==s with
  |false=>rfl
  |true =>
   exfalso
   have:x=s:=by simpa using t
   subst this;simp[hx]at o
 rw[eU,List.findIdx?_append,T];simp[List.findIdx?_cons]
end
def Bb:∀{l:List T}{k:Nat}{u:T},l[k]?=some u->bL l=bL (l.take k)++(dn u++bL (l.drop (k+1)))
 |[],k,u,h=>by simp at h
 |t::l,0,u,h=>by cases h;rw[List.take_zero,bL,bL];rfl
 |t::l,k+1,u,h=>by
  rw[List.take_succ_cons,bL,bL,Bb (l:=l) (k:=k) zfs,eU];rfl
def Om:∀{l:List T}{k:Nat}{t:T},mx l->l[k]?=some t->zT t
 |[],k,t,h,G=>by simp at G
 |a::l,0,t,h,G=>by rw[mx]at h;cases G;exact h.1
 |a::l,k+1,t,h,G=>by rw[mx]at h;exact Om h.2 (by simpa using G)
def Cz(names:List ai):∀{l:List T}{ls:List ai}{k:Nat}{t:T},l[k]?=some t->(bn names l ls)[k]?=some (km names t (ls++bL (l.take k)))
 |[],ls,k,t,h=>by simp at h
 |u::l,ls,0,t,G=>by cases G;rw[bn,List.take_zero,bL,gw];rfl
 |u::l,ls,k+1,t,G=>by
  rw[bn,List.getElem?_cons_succ,Cz names (show l[k]?=some t by simpa using G),List.take_succ_cons,bL,<-eU]
structure uP(p:Src)(names:List ai)(t:T)(ls:List ai):Prop where
 ok:tF p t ls
 wf:gA t
 z:zT t
 k:gJ t=true
 sx:jK t
 kc:kR t
 pre:ls++dn t <+: names
 sz:bg t<=1048576
section
variable{p:Src}{names:List ai}{n:Nd}{l:List T}{ls:List ai}
def uP.kid(h:uP p names (.mk n l) ls)(E:b8 (.mk n l)=false){k:Nat}{u:T}(W:l[k]?=some u) :
  uP p names u (ls++bL (l.take k))/\(eA p l ls)[k]?=some (qB p u (ls++bL (l.take k)))/\(bn names l ls)[k]?=some (km names u (ls++bL (l.take k)))/\Ic n.aj (k:Nat) u.n.aj:=by
 have⟨I,c,F,H,b,O,B,G⟩:=h;rw[tF]at I;rw[Go.Xp.bg]at G;have N:=oE W;rw[gA]at c;rw[zT]at F;rw[gJ,a6]at H;rw[jK]at b;rw[kR]at O;have o:=Rn O W;rw[Int.zero_add]at o;refine⟨⟨zI (I.2 E) W,Cq c.2.2 W,Om F.2 W,Ib H.2 W,Ci b.2 W,o.2,?_,by omega⟩,B6 W,Cz names W,o.1⟩;refine List.IsPrefix.trans ?_ B;rw[dn,Bb W];exact⟨bL (l.drop (k+1))++(if n.aj=13 then[n.s]else[]),by simp[eU]⟩
def uP.node(h:uP p names (.mk n l) ls):bM p (.mk n l) ls=0/\df n.aj l.length=true/\NM n/\(n.aj≠1->n.n=0)/\ls <+: names:=by
 obtain⟨I,c,F,H,W,O,B,-⟩:=h;rw[tF]at I;rw[zT]at F;rw[gJ,a6]at H;rw[jK]at W;exact⟨I.1,H.1,W.1,F.1,(List.prefix_append _ _).trans B⟩
def uP.var(h:uP p names (.mk n l) ls)(G:n.aj=13):po names n.s=(ls.length:Int)/\ls.length<names.length:=by
 have t:=h.node.1
 have N:bL l=[]:=by
  have c:=h.wf;rw[gA]at c;exact zG l (c.1 G)
 have R:=h.pre;rw[dn,N,ae G,nil_append]at R;unfold bM at t;rw[ae (show(T.mk n l).n.aj=13 from G)]at t
 have o:ls.contains n.s=false:=by
  cases W:ls.contains n.s with
  |false=>rfl
  |true=>rw[ae (show ls.contains (T.mk n l).n.s=true from W)]at t;cases t
 refine⟨VL R o,?_⟩;have:=R.length_le;rw[bl]at this;exact this
end
end Go.Im
namespace Go.Xg
open Go.RowKit Go.Xw Go.Proofs Tryz Go.Im Go.Mn
open Go.Xp (T Ar)
open Go.Sp (Src)
attribute [local irreducible] GW GL GO V GC GA bh bm
section
variable{p:Src}{F:Nat}{H:MH}{al:Option Addr}{cl k:Nat}{s:M}{t:T}
def Qr(h:s.over=true)(t:T):GF prog 235 [.loc 0 0,.loc 5 0,.agg (cT t)] (rS p F H al cl k s) (y4 0) (rS p F H al cl k s):=by
 have r:=z6 p F H al cl k h;unfold rS;exact zcA
def Qp(h:s.over=false)(o:F<=s.ay)(t:T):GF prog 235 [.loc 0 0,.loc 5 0,.agg (cT t)] (rS p F H al cl k s) (y4 0) (rS p F H al cl k (s.stop 3 0)):=by
 have r:=zZ p F H al cl k h o;unfold rS;exact zcA
def u0(h:s.over=true)(t:T):GF prog 177 [.loc 0 0,.loc 5 0,.agg (cT t)] (rS p F H al cl k s) (.tup []) (rS p F H al cl k s):=by
 have r:=z6 p F H al cl k h;exact zd8
def Sq(h:s.over=false)(o:F<=s.ay)(t:T):GF prog 177 [.loc 0 0,.loc 5 0,.agg (cT t)] (rS p F H al cl k s) (.tup []) (rS p F H al cl k (s.stop 3 0)):=by
 have r:=zZ p F H al cl k h o;exact zd8
def T6(h:s.over=false)(o:¬F<=s.ay)(j:F<=20000)(G:t.n.aj=1):GF prog 235 [.loc 0 0,.loc 5 0,.agg (cT t)] (rS p F H al cl k s) (y4 t.n.n) (rS p F H al cl k { s with ay:=s.ay+1 }):=by
 have r:=dx p F H al cl k h o j;unfold rS cT;rw[G];exact zcA
def T0(h:s.over=false)(o:¬F<=s.ay)(j:F<=20000)(G:t.n.aj=2){i:Nat}(hn:t.n.n=((i+1:Nat):Int))(hi:i<k)(I:k<=s.locs.length)(S:k<=1000):GF prog 235 [.loc 0 0,.loc 5 0,.agg (cT t)] (rS p F H al cl k s) (y4 (s.locs.getD i 0)) (rS p F H al cl k { s with ay:=s.ay+1 }):=by
 have r:=dx p F H al cl k h o j
 have W:(bE (s.locs.take k)).length=k:=by rw[bI,iX];omega
 have C:(bE (s.locs.take k))[i]?=some [y4 (s.locs.getD i 0)]:=by
  rw[b6,List.getElem?_take_of_lt hi,cq Z,getD_eq_getElem?_getD,cq Z];rfl
 have q:decide ((0:Int)<((i+1:Nat):Int))=true:=decide_eq_true Z
 have J:((i+1:Nat):Int)-1=(i:Int):=by omega
 generalize s.locs.getD i 0=z at *;unfold rS fM gX at *;unfold cT;rw[G,hn];refine ah func235 ntmps235 ?_;refine zaJ ?_;refine aX (aI 0 11 .nil) ?_;refine av ?_;rw[J];exact zbe
def Qq(h:s.over=false)(q:¬F<=s.ay)(j:F<=20000)(G:t.n.aj=2)(hn:t.n.n=0){i:Nat}(hx:po p.aw t.n.s=(i:Int))(hi:i<s.bF.length)(hg:p.aw.length<=1099511627776):GF prog 235 [.loc 0 0,.loc 5 0,.agg (cT t)] (rS p F H al cl k s) (y4 (s.bF.getD i 0)) (rS p F H al cl k { s with ay:=s.ay+1 }):=by
 have r:=dx p F H al cl k h q j;have d:=BP p.aw t.n.s hg;rw[hx]at d
 have W:i<(bE s.bF).length:=by rw[bI];exact hi
 have C:(bE s.bF)[i]?=some [y4 (s.bF.getD i 0)]:=by
  rw[b6,getD_eq_getElem?_getD,cq hi];rfl
 have o:(bE s.bF).length=s.bF.length:=bI _;generalize E:s.bF.getD i 0=z at *;have e:rS p F H al cl k { s with ay:=s.ay+1 }=[cv p F H { s with ay:=s.ay+1 },cP s,dJ H s,dC H s,fk H s,fM al cl k s,gX al cl k s]:=rfl;rw[e];unfold rS cv dJ at *;unfold cT;rw[G,hn];refine ah func235 ntmps235 ?_;refine zaJ ?_;refine zeD ?_;refine aN [] d ?_;exact aC
def Dg(h:s.over=false)(o:¬F<=s.ay)(j:F<=20000)(G:t.n.aj=3){u:T}(W:t.au=[u]){a:Nat}(hx:bP (fun x:Ar=>x.name==t.n.s) p.aq=(a:Int))(S:p.aq.length<=1099511627776){s2:M}{v c w:Int}
  (N:GF prog 235 [.loc 0 0,.loc 5 0,.agg (cT u)] (rS p F H al cl k { s with ay:=s.ay+1 }) (y4 v) (rS p F H al cl k s2))
  (R:GF prog 236 [.loc 0 0,y4 (a:Nat),y4 v] [cv p F H s2,cP s2,dJ H s2,dC H s2] (.v (.bool false)) [cv p F H (s2.stop c w),cP s2,dJ H s2,dC H s2]) :
  GF prog 235 [.loc 0 0,.loc 5 0,.agg (cT t)] (rS p F H al cl k s) (y4 0) (rS p F H al cl k (s2.stop c w)):=by
 have r:=dx p F H al cl k h o j;have d:=lY p t.n.s S;rw[hx]at d
 have l:(aR t.au)[0]?=some (cT u):=by rw[W];exact bH rfl
 have C:0<(aR t.au).length:=(bG l).1;have e:rS p F H al cl k (s2.stop c w)=[cv p F H (s2.stop c w),cP s2,dJ H s2,dC H s2,fk H s2,fM al cl k s2,gX al cl k s2]:=rfl;have i:rS p F H al cl k { s with ay:=s.ay+1 }=[cv p F H { s with ay:=s.ay+1 },cP s,dJ H s,dC H s,fk H s,fM al cl k s,gX al cl k s]:=rfl;rw[e];rw[i]at N;unfold rS cv at *;unfold aQ at d;unfold cT;rw[G];refine ah func235 ntmps235 ?_;refine zeQ ?_;refine zay ?_;refine X ?_;refine aB [0,1,2,3] R ?_;exact aC
def NZ(h:s.over=false)(o:¬F<=s.ay)(l:F<=20000)(G:t.n.aj=3){u:T}(e:t.au=[u]){a:Nat}(hx:bP (fun x:Ar=>x.name==t.n.s) p.aq=(a:Int))(S:p.aq.length<=1099511627776){s2:M}{v:Int}
  (N:GF prog 235 [.loc 0 0,.loc 5 0,.agg (cT u)] (rS p F H al cl k { s with ay:=s.ay+1 }) (y4 v) (rS p F H al cl k s2))
  (B:s2.fin=0)(O:a<s2.cells.length)(w:H.hs.length=s2.cells.length)(A:nV (row s2 a) v=true) :
  GF prog 235 [.loc 0 0,.loc 5 0,.agg (cT t)] (rS p F H al cl k s) (y4 ((row s2 a).getD v.toNat 0)) (rS p F H al cl k s2):=by
 have R:=zu (p:=p) (F:=F) B O w A;have r:=dx p F H al cl k h o l;have d:=lY p t.n.s S;rw[hx]at d
 have i:(aR t.au)[0]?=some (cT u):=by rw[e];exact bH rfl
 have C:0<(aR t.au).length:=(bG i).1;have⟨J,E⟩:=xf (H:=H) O w
 have j:H.hs[a]?=some (H.hs.getD a (0,0)):=by
  rw[getD_eq_getElem?_getD,cq (by rw[w];exact O)];rfl
 have z:(List.zipWith o9 s2.cells H.hs)[a]?=some (.vech 3 1 (bE (row s2 a)) (.slice (some ⟨(H.hs.getD a (0,0)).1,0,none⟩) (row s2 a).length (H.hs.getD a (0,0)).2)):=by
  rw[getElem?_zipWith,pQ O,j];rfl
 unfold nV at A;simp only[a6,decide_eq_true_eq]at A;obtain⟨q,rfl⟩:∃q:Nat,v=(q:Int):=⟨v.toNat,by omega⟩
 have W:q<(row s2 a).length:=by omega
 have b:(bE (row s2 a))[q]?=some [y4 ((row s2 a).getD q 0)]:=iq (by rw[getD_eq_getElem?_getD,cq W];rfl);rw[eV];generalize H.hs.getD a (0,0)=I at *;have c:rS p F H al cl k { s with ay:=s.ay+1 }=[cv p F H { s with ay:=s.ay+1 },cP s,dJ H s,dC H s,fk H s,fM al cl k s,gX al cl k s]:=rfl;rw[c]at N;unfold rS cv dC fk at *;unfold aQ at d;unfold cT;rw[G];refine ah func235 ntmps235 ?_;refine zeQ ?_;refine zay ?_;refine X ?_;refine aB [0,1,2,3] R ?_;refine X ?_;refine GL.q (V.JW rfl rfl W) ?_;refine bq ?_;refine GL.q (V.Zi 4 a rfl rfl z b) ?_;exact zcv
def WS(h:s.over=false)(o:¬F<=s.ay)(j:F<=20000)(G:t.n.aj=5){u:T}(W:t.au=[u])(S:t.n.s=[45]\/t.n.s=[33]\/t.n.s=[126]){s2:M}{v:Int}
  (N:GF prog 235 [.loc 0 0,.loc 5 0,.agg (cT u)] (rS p F H al cl k { s with ay:=s.ay+1 }) (y4 v) (rS p F H al cl k s2)) :
  GF prog 235 [.loc 0 0,.loc 5 0,.agg (cT t)] (rS p F H al cl k s) (y4 (Ja t.n.s v)) (rS p F H al cl k s2):=by
 have r:=dx p F H al cl k h o j
 have i:(aR t.au)[0]?=some (cT u):=by rw[W];exact bH rfl
 have C:0<(aR t.au).length:=(bG i).1;have c:rS p F H al cl k { s with ay:=s.ay+1 }=[cv p F H { s with ay:=s.ay+1 },cP s,dJ H s,dC H s,fk H s,fM al cl k s,gX al cl k s]:=rfl;rw[c]at N;unfold rS;unfold cT;rw[G]
 rcases S with S|S|S
 ·have O:=QF 0 v;exact zbn
 ·have O:=np (v==0);exact zbn
 ·have O:=GK v (-1);exact zbn
def TZ(h:s.over=false)(o:¬F<=s.ay)(j:F<=20000)(G:t.n.aj=6){s2:M}{v:Int}
  (N:GF prog 304 [.loc 0 0,.loc 5 0,.agg (cT t)] (rS p F H al cl k { s with ay:=s.ay+1 }) (y4 v) (rS p F H al cl k s2)) :
  GF prog 235 [.loc 0 0,.loc 5 0,.agg (cT t)] (rS p F H al cl k s) (y4 v) (rS p F H al cl k s2):=by
 have r:=dx p F H al cl k h o j;have c:rS p F H al cl k { s with ay:=s.ay+1 }=[cv p F H { s with ay:=s.ay+1 },cP s,dJ H s,dC H s,fk H s,fM al cl k s,gX al cl k s]:=rfl;rw[c]at N;unfold rS;unfold cT at *;rw[G]at *;refine ah func235 ntmps235 ?_;refine zaJ ?_;refine zay ?_;exact aC
end
end Go.Xg
namespace Go.Xg
open Go.RowKit Go.Xw Go.Proofs Tryz
open Go.Xp (T Ar)
open Go.Sp (Src)
open Go.Im Go.Mn
attribute [local irreducible] GW GL GO V GC GA bh bm
section
variable{p:Src}{F:Nat}{H:MH}{al:Option Addr}{cl k:Nat}{s:M}{t:T}
section
variable{u w:T}
def zh(b:t.au=[u,w]){O:M}{v:Int}
  (N:GF prog 235 [.loc 0 0,.loc 5 0,.agg (cT u)] (rS p F H al cl k s) (y4 v) (rS p F H al cl k O))(z:O.fin≠0) :
  GF prog 304 [.loc 0 0,.loc 5 0,.agg (cT t)] (rS p F H al cl k s) (y4 0) (rS p F H al cl k O):=by
 have i:(aR t.au)[0]?=some (cT u):=by rw[b];exact bH rfl
 have W:(aR t.au)[1]?=some (cT w):=by rw[b];exact bH rfl
 have C:1<(aR t.au).length:=(bG W).1;unfold rS at *;unfold cv at *;unfold cT at i W N |-
 have c:(O.fin != 0)=true:=by simpa using z
 cases G:(t.n.s==[38,38])with
 |true =>
  cases o:(v==0)with
  |true =>
   exact zc5
  |false =>
   exact zc5
 |false =>
  exact zc5
def and_zero(b:t.au=[u,w]){N:M}{v:Int}
  (O:GF prog 235 [.loc 0 0,.loc 5 0,.agg (cT u)] (rS p F H al cl k s) (y4 v) (rS p F H al cl k N))(z:N.fin=0)(o:t.n.s=[38,38])(Q:v=0) :
  GF prog 304 [.loc 0 0,.loc 5 0,.agg (cT t)] (rS p F H al cl k s) (y4 0) (rS p F H al cl k N):=by
 have i:(aR t.au)[0]?=some (cT u):=by rw[b];exact bH rfl
 have W:(aR t.au)[1]?=some (cT w):=by rw[b];exact bH rfl
 have C:1<(aR t.au).length:=(bG W).1;unfold rS at *;unfold cv at *;unfold cT at i W O |-
 have c:(N.fin != 0)=false:=by simpa using z
 have G:(t.n.s==[38,38])=true:=by simpa using o
 have q:(v==0)=true:=by simpa using Q
 refine ah func304 ntmps304 ?_;refine zaN ?_;exact aC
def Wb(b:t.au=[u,w]){N:M}{v:Int}
  (O:GF prog 235 [.loc 0 0,.loc 5 0,.agg (cT u)] (rS p F H al cl k s) (y4 v) (rS p F H al cl k N))(z:N.fin=0)(o:t.n.s=[124,124])(Q:v≠0) :
  GF prog 304 [.loc 0 0,.loc 5 0,.agg (cT t)] (rS p F H al cl k s) (y4 1) (rS p F H al cl k N):=by
 have i:(aR t.au)[0]?=some (cT u):=by rw[b];exact bH rfl
 have W:(aR t.au)[1]?=some (cT w):=by rw[b];exact bH rfl
 have C:1<(aR t.au).length:=(bG W).1;unfold rS at *;unfold cv at *;unfold cT at i W O |-
 have c:(N.fin != 0)=false:=by simpa using z
 have G:(t.n.s==[38,38])=false:=by rw[o];rfl
 have I:(t.n.s==[124,124])=true:=by simpa using o
 have q:(v != 0)=true:=by simpa using Q
 refine ah func304 ntmps304 ?_;refine zaN ?_;exact aC
def Ip(b:t.au=[u,w]){N s2:M}{v v2:Int}
  (Q:GF prog 235 [.loc 0 0,.loc 5 0,.agg (cT u)] (rS p F H al cl k s) (y4 v) (rS p F H al cl k N))
  (I:GF prog 235 [.loc 0 0,.loc 5 0,.agg (cT w)] (rS p F H al cl k N) (y4 v2) (rS p F H al cl k s2))(z:N.fin=0)(o:t.n.s=[38,38]/\v≠0\/t.n.s=[124,124]/\v=0) :
  GF prog 304 [.loc 0 0,.loc 5 0,.agg (cT t)] (rS p F H al cl k s) (y4 (iD (v2 != 0))) (rS p F H al cl k s2):=by
 have i:(aR t.au)[0]?=some (cT u):=by rw[b];exact bH rfl
 have W:(aR t.au)[1]?=some (cT w):=by rw[b];exact bH rfl
 have C:1<(aR t.au).length:=(bG W).1;unfold rS at *;unfold cv at *;unfold cT at i W Q I |-
 have c:(N.fin != 0)=false:=by simpa using z
 have R:=np (v2 != 0)
 rcases o with⟨o,O⟩|⟨o,O⟩
 ·have G:(t.n.s==[38,38])=true:=by simpa using o
  have J:(t.n.s==[124,124])=false:=by rw[o];rfl
  have q:(v==0)=false:=by simpa using O
  exact zb1
 ·have G:(t.n.s==[38,38])=false:=by rw[o];rfl
  have J:(t.n.s==[124,124])=true:=by simpa using o
  have q:(v != 0)=false:=by simpa using O
  exact zb1
def K7(b:t.au=[u,w]){N s2:M}{v v2:Int}
  (O:GF prog 235 [.loc 0 0,.loc 5 0,.agg (cT u)] (rS p F H al cl k s) (y4 v) (rS p F H al cl k N))
  (I:GF prog 235 [.loc 0 0,.loc 5 0,.agg (cT w)] (rS p F H al cl k N) (y4 v2) (rS p F H al cl k s2))(z:N.fin=0)(o:t.n.s≠[38,38]/\t.n.s≠[124,124])(A:s2.fin≠0) :
  GF prog 304 [.loc 0 0,.loc 5 0,.agg (cT t)] (rS p F H al cl k s) (y4 0) (rS p F H al cl k s2):=by
 have i:(aR t.au)[0]?=some (cT u):=by rw[b];exact bH rfl
 have W:(aR t.au)[1]?=some (cT w):=by rw[b];exact bH rfl
 have C:1<(aR t.au).length:=(bG W).1;unfold rS at *;unfold cv at *;unfold cT at i W O I |-
 have c:(N.fin != 0)=false:=by simpa using z
 have G:(t.n.s==[38,38])=false:=by simpa using o.1
 have J:(t.n.s==[124,124])=false:=by simpa using o.2
 have Q:(s2.fin != 0)=true:=by simpa using A
 refine ah func304 ntmps304 ?_;refine zaN ?_;refine X ?_;refine aB [0,1,2,3,4,5,6] I ?_;exact aC
def G5(b:t.au=[u,w]){N s2:M}{v v2:Int}
  (O:GF prog 235 [.loc 0 0,.loc 5 0,.agg (cT u)] (rS p F H al cl k s) (y4 v) (rS p F H al cl k N))
  (I:GF prog 235 [.loc 0 0,.loc 5 0,.agg (cT w)] (rS p F H al cl k N) (y4 v2) (rS p F H al cl k s2))(z:N.fin=0)(o:t.n.s≠[38,38]/\t.n.s≠[124,124])(A:s2.fin=0){x c w0:Int}(J:GF prog 344 [.loc 0 0,.v (sv t.n.s),y4 v,y4 v2] [cv p F H s2,cP s2] (y4 x) [cv p F H (s2.stop c w0),cP s2]) :
  GF prog 304 [.loc 0 0,.loc 5 0,.agg (cT t)] (rS p F H al cl k s) (y4 x) (rS p F H al cl k (s2.stop c w0)):=by
 have i:(aR t.au)[0]?=some (cT u):=by rw[b];exact bH rfl
 have W:(aR t.au)[1]?=some (cT w):=by rw[b];exact bH rfl
 have C:1<(aR t.au).length:=(bG W).1;unfold rS at *;unfold cv at *;unfold cT at i W O I |-
 have d:(N.fin != 0)=false:=by simpa using z
 have G:(t.n.s==[38,38])=false:=by simpa using o.1
 have R:(t.n.s==[124,124])=false:=by simpa using o.2
 have Q:(s2.fin != 0)=false:=by simpa using A
 refine ah func304 ntmps304 ?_;refine zaN ?_;refine X ?_;refine aB [0,1,2,3,4,5,6] I ?_;refine X ?_;refine D [0,1] J ?_;exact ax
end
end
section
variable{p:Src}{F:Nat}{H:MH}{al:Option Addr}{cl k:Nat}{s:M}{t:T}
def Km(o:t.n.s=[103,101,116])(hi:s.inp=[]):GF prog 300 [.loc 0 0,.loc 5 0,.agg (cT t)] (rS p F H al cl k s) (y4 (-1)) (rS p F H al cl k s):=by
 unfold rS cv cT;rw[o,hi];refine ah func300 ntmps300 ?_;exact ax
def Kn(o:t.n.s=[103,101,116]){b:Int}{r:List Int}(hi:s.inp=b::r):GF prog 300 [.loc 0 0,.loc 5 0,.agg (cT t)] (rS p F H al cl k s) (y4 (Go.Xp.bo b)) (rS p F H al cl k { s with inp:=r }):=by
 have Q:(((bE (b::r)).length:Int)==0)=false:=by simp;omega
 have C:(bE (b::r))[0]?=some [y4 b]:=rfl;have u:=iw b;unfold rS cv cT;rw[o,hi];refine ah func300 ntmps300 ?_;refine D [] u ?_;refine GL.q (V.NJ rfl rfl) ?_;exact zcv
def Ko(o:t.n.s=[112,117,116]){u:T}(b:t.au=[u]){N:M}{v:Int}(z:N.fin≠0)
  (O:GF prog 235 [.loc 0 0,.loc 5 0,.agg (cT u)] (rS p F H al cl k s) (y4 v) (rS p F H al cl k N)) :
  GF prog 300 [.loc 0 0,.loc 5 0,.agg (cT t)] (rS p F H al cl k s) (y4 0) (rS p F H al cl k N):=by
 have i:(aR t.au)[0]?=some (cT u):=by rw[b];exact bH rfl
 have C:0<(aR t.au).length:=(bG i).1
 have W:(N.fin==0)=false:=by simpa using z
 unfold rS at *;unfold cv at *;unfold cT at i O |-;rw[o];refine ah func300 ntmps300 ?_;refine zaN ?_;exact aC
def Ts(s:M)(x:Int):rS p F H al cl k { s with out:=s.out++[x] }=[.box 68 [strs p.aw,.sl 2 (p.aq.map bc),.sl 3 (p.az.map aO),.sl 5 (p.ak.map aU),ints s.inp,y4 (F:Nat),
 y4 s.fin,y4 s.why,y4 0,.vec 1 (s.out.length+1),y4 (s.ay:Nat),.v y6,.v (.slice H.ag s.bF.length H.cg),.v (.slice H.ac s.cells.length H.cc),y4 (s.aY:Nat)],.vec 3 1 0 (bE s.out++[[y4 x]]),dJ H s,dC H s,fk H s,fM al cl k s,gX al cl k s]:=by
 unfold rS cv cP;exact zep
def Nq(A:t.n.s=[112,117,116]){u:T}(b:t.au=[u]){N:M}{v:Int}(z:N.fin=0)(S:N.out.length<=1000000)
  (O:GF prog 235 [.loc 0 0,.loc 5 0,.agg (cT u)] (rS p F H al cl k s) (y4 v) (rS p F H al cl k N)) :
  GF prog 300 [.loc 0 0,.loc 5 0,.agg (cT t)] (rS p F H al cl k s) (y4 0) (rS p F H al cl k { N with out:=N.out++[v%4294967296%256] }):=by
 have i:(aR t.au)[0]?=some (cT u):=by rw[b];exact bH rfl
 have C:0<(aR t.au).length:=(bG i).1
 have W:(N.fin==0)=true:=by simpa using z
 have r:=Bm v
 have w:0<=v%4294967296:=by omega
 have o:(bE N.out).length=N.out.length:=bI _;rw[Ts];unfold rS at *;unfold cv cP at *;unfold cT at i O |-;rw[A];refine ah func300 ntmps300 ?_;refine zaN ?_;refine X ?_;refine aX (aI 0 7 (.a 7 (.q 8 (.a 9 (.a 10 (aI 11 3 (.a 14 .nil))))))) ?_;refine av ?_;refine aN [] r ?_;refine zaI ?_;refine qk ?_;exact zbe
def Kp(z:t.n.s≠[103,101,116])(w:t.n.s≠[112,117,116]){u:T}(W:t.au=[u]){a:Nat}(hx:bP (fun x:Ar=>x.name==u.n.s) p.aq=(a:Int))(R:p.aq.length<=1099511627776)(ha:a<s.cells.length)(A:H.hs.length=s.cells.length) :
  GF prog 300 [.loc 0 0,.loc 5 0,.agg (cT t)] (rS p F H al cl k s) (y4 ((row s a).length:Nat)) (rS p F H al cl k s):=by
 have i:(aR t.au)[0]?=some (cT u):=by rw[W];exact bH rfl
 have C:0<(aR t.au).length:=(bG i).1
 have N:(t.n.s==[103,101,116])=false:=by simpa using z
 have Q:(t.n.s==[112,117,116])=false:=by simpa using w
 have d:=lY p u.n.s R;rw[hx]at d;have⟨E,B⟩:=xf (H:=H) ha A;unfold aQ at d;unfold rS cv dC at *;unfold cT at i |-;refine ah func300 ntmps300 ?_;refine aX (aI 0 14 (.a 14 (aI 15 4 .nil))) ?_;refine av ?_;refine aN [] d ?_;exact aC
end
open Go.Xp (Nd)
section
variable{p:Src}{F:Nat}{H:MH}{al:Option Addr}{cl k:Nat}{s:M}{t:T}
def P8{s:M}(h:s.fin=0)(n:Nd){i:Nat}(hx:po p.aw n.s=(i:Int))(hi:i<s.bF.length)(hg:p.aw.length<=1099511627776)(v:Int):GF prog 234 [.loc 0 0,.loc 5 0,.agg (tZ n 0),y4 v] (rS p F H al cl k s) (.tup []) (rS p F H al cl k { s with bF:=s.bF.set i v }):=by
 have c:(s.fin != 0)=false:=by simpa using h
 have d:=BP p.aw n.s hg;rw[hx]at d;have b:(bE s.bF).length=s.bF.length:=bI _
 have W:i<(bE s.bF).length:=by rw[b];exact hi
 have C:(bE s.bF)[i]?=some [.v (ii s.bF[i])]:=by
  rw[b6,cq hi];rfl
 have e:rS p F H al cl k { s with bF:=s.bF.set i v }=[cv p F H s,cP s,.vech 3 1 (dk (bE s.bF) i 0 (y4 v)) (.slice H.ag s.bF.length H.cg),dC H s,fk H s,fM al cl k s,gX al cl k s]:=by
  rw[qi];unfold rS cv dJ;simp only[length_set];rfl
 rw[e];unfold rS cv dJ tZ;refine ah func234 ntmps234 ?_;refine aX (aI 0 11 (.q 12 (.a 11 (.q 13 (.a 14 .nil))))) ?_;refine av ?_;refine aN [] d ?_;refine OA rfl rfl (GL.vE rfl rfl rfl C rfl rfl rfl rfl ?_);refine GL.nil (bx (dy.mk (by repeat (first|exact cX.n|(apply cX.w;(· decide +kernel))|(apply cX.y;(· first|(apply YQ.t;(· exact rfl);(· exact rfl);(· (first|exact V.gi 2 rfl rfl rfl (dm _ _ _ _) W|(first|exact fa|(apply K.idx;first|exact V.idxV rfl rfl rfl aM Z|exact V.a7 0 rfl rfl rfl aP|exact V.a7 1 rfl rfl rfl aP|exact V.a7 2 rfl rfl rfl aP|exact V.a7 3 rfl rfl rfl aP|exact V.a7 4 rfl rfl rfl aP|exact V.a7 5 rfl rfl rfl aP|exact V.a7 6 rfl rfl rfl aP)|exact fb|exact V.eZ 1 rfl rfl aM aM|exact V.mv|exact V.kj|(apply K.bin;first|exact V.go rfl|exact V.iZ rfl rfl Z|exact V.gR rfl rfl|exact V.gS rfl rfl|exact V.lV rfl rfl|exact V.lZ rfl rfl|exact V.cat rfl rfl Z|exact V.cat rfl rfl zfp|exact V.ji rfl rfl Z|exact V.add rfl rfl Z|exact V.sub rfl rfl Z|exact V.mul rfl rfl Z|exact V.jU rfl rfl Z|exact V.quo rfl rfl Z|exact V.rem rfl rfl Z|exact V.gn rfl rfl)|exact eK|exact eJ|exact fJ|exact ei|exact eu|(apply K.idx;first|exact V.fR rfl rfl aV|exact V.cm rfl rfl aV rfl|exact V.cm rfl rfl aV Z|exact V.iI rfl rfl Z)|exact V.ext rfl rfl|exact V.go rfl|(apply K.mU;first|exact V.jT rfl rfl rfl Z|exact V.jS rfl rfl Z|exact V.jR rfl rfl Z|exact V.ft 1 rfl rfl rfl aM)|exact V.hY rfl rfl aV|exact V.idxSC rfl rfl aV rfl|exact ew|exact V.build rfl|exact V.neg rfl Z|exact V.hH rfl rfl|exact V.lf rfl zfo|exact V.str rfl aM))))|(apply YQ.t;(· exact rfl);(· apply oh;(· exact rfl);(· first|exact rfl|assumption));(· (first|exact V.gi 2 rfl rfl rfl (dm _ _ _ _) W|(first|exact fa|(apply K.idx;first|exact V.idxV rfl rfl rfl aM Z|exact V.a7 0 rfl rfl rfl aP|exact V.a7 1 rfl rfl rfl aP|exact V.a7 2 rfl rfl rfl aP|exact V.a7 3 rfl rfl rfl aP|exact V.a7 4 rfl rfl rfl aP|exact V.a7 5 rfl rfl rfl aP|exact V.a7 6 rfl rfl rfl aP)|exact fb|exact V.eZ 1 rfl rfl aM aM|exact V.mv|exact V.kj|(apply K.bin;first|exact V.go rfl|exact V.iZ rfl rfl Z|exact V.gR rfl rfl|exact V.gS rfl rfl|exact V.lV rfl rfl|exact V.lZ rfl rfl|exact V.cat rfl rfl Z|exact V.cat rfl rfl zfp|exact V.ji rfl rfl Z|exact V.add rfl rfl Z|exact V.sub rfl rfl Z|exact V.mul rfl rfl Z|exact V.jU rfl rfl Z|exact V.quo rfl rfl Z|exact V.rem rfl rfl Z|exact V.gn rfl rfl)|exact eK|exact eJ|exact fJ|exact ei|exact eu|(apply K.idx;first|exact V.fR rfl rfl aV|exact V.cm rfl rfl aV rfl|exact V.cm rfl rfl aV Z|exact V.iI rfl rfl Z)|exact V.ext rfl rfl|exact V.go rfl|(apply K.mU;first|exact V.jT rfl rfl rfl Z|exact V.jS rfl rfl Z|exact V.jR rfl rfl Z|exact V.ft 1 rfl rfl rfl aM)|exact V.hY rfl rfl aV|exact V.idxSC rfl rfl aV rfl|exact ew|exact V.build rfl|exact V.neg rfl Z|exact V.hH rfl rfl|exact V.lf rfl zfo|exact V.str rfl aM))))|(apply YQ.f;(· exact rfl);(· apply pg;(· exact rfl);(· first|exact rfl|assumption))))))) ?_))
 refine jC cZ dN ?_;refine av ?_;exact bY
def Lw(h:s.over=false)(o:¬F<=s.ay)(j:F<=20000)(G:t.n.aj=13){u:T}(W:t.au=[u]){Q s2:M}{v:Int}
  (N:GF prog 235 [.loc 0 0,.loc 5 0,.agg (cT u)] (rS p F H al cl k { s with ay:=s.ay+1 }) (y4 v) (rS p F H al cl k Q))
  (O:GF prog 234 [.loc 0 0,.loc 5 0,.agg (tZ t.n t.n.n),y4 v] (rS p F H al cl k Q) (.tup []) (rS p F H al cl k s2)) :
  GF prog 177 [.loc 0 0,.loc 5 0,.agg (cT t)] (rS p F H al cl k s) (.tup []) (rS p F H al cl k s2):=by
 have r:=dx p F H al cl k h o j
 have i:(aR t.au)[0]?=some (cT u):=by rw[W];exact bH rfl
 exact zan
def Ab(h:s.over=false)(o:¬F<=s.ay)(j:F<=20000)(G:t.n.aj=7){u:T}(W:t.au=[u]){Q s2:M}{v:Int}
  (N:GF prog 235 [.loc 0 0,.loc 5 0,.agg (cT u)] (rS p F H al cl k { s with ay:=s.ay+1 }) (y4 v) (rS p F H al cl k Q))
  (O:GF prog 234 [.loc 0 0,.loc 5 0,.agg (tZ t.n t.n.n),y4 v] (rS p F H al cl k Q) (.tup []) (rS p F H al cl k s2)) :
  GF prog 177 [.loc 0 0,.loc 5 0,.agg (cT t)] (rS p F H al cl k s) (.tup []) (rS p F H al cl k s2):=by
 have r:=dx p F H al cl k h o j
 have i:(aR t.au)[0]?=some (cT u):=by rw[W];exact bH rfl
 exact zan
def Xo(h:s.over=false)(o:¬F<=s.ay)(j:F<=20000)(G:t.n.aj=12){u:T}(W:t.au=[u]){O s2:M}{v:Int}
  (N:GF prog 235 [.loc 0 0,.loc 5 0,.agg (cT u)] (rS p F H al cl k { s with ay:=s.ay+1 }) (y4 v) (rS p F H al cl k O)) :
  GF prog 177 [.loc 0 0,.loc 5 0,.agg (cT t)] (rS p F H al cl k s) (.tup []) (rS p F H al cl k O):=by
 have r:=dx p F H al cl k h o j
 have i:(aR t.au)[0]?=some (cT u):=by rw[W];exact bH rfl
 have C:0<(aR t.au).length:=(bG i).1;have c:rS p F H al cl k { s with ay:=s.ay+1 }=[cv p F H { s with ay:=s.ay+1 },cP s,dJ H s,dC H s,fk H s,fM al cl k s,gX al cl k s]:=rfl;rw[c]at N;unfold rS at *;exact zda
def Su(h:s.over=false)(o:¬F<=s.ay)(j:F<=20000)(G:t.n.aj=11){u:T}(b:t.au=[u]){N s2:M}{v:Int}
  (O:GF prog 235 [.loc 0 0,.loc 5 0,.agg (cT u)] (rS p F H al cl k { s with ay:=s.ay+1 }) (y4 v) (rS p F H al cl k N))(z:N.fin≠0) :
  GF prog 177 [.loc 0 0,.loc 5 0,.agg (cT t)] (rS p F H al cl k s) (.tup []) (rS p F H al cl k N):=by
 have r:=dx p F H al cl k h o j
 have i:(aR t.au)[0]?=some (cT u):=by rw[b];exact bH rfl
 have C:0<(aR t.au).length:=(bG i).1;have c:rS p F H al cl k { s with ay:=s.ay+1 }=[cv p F H { s with ay:=s.ay+1 },cP s,dJ H s,dC H s,fk H s,fM al cl k s,gX al cl k s]:=rfl;rw[c]at O;unfold rS at *
 have W:(N.fin==0)=false:=by simpa using z
 unfold cv at *;exact zdb
def Sv(h:s.over=false)(o:¬F<=s.ay)(j:F<=20000)(G:t.n.aj=11){u:T}(b:t.au=[u]){N s2:M}{v:Int}
  (O:GF prog 235 [.loc 0 0,.loc 5 0,.agg (cT u)] (rS p F H al cl k { s with ay:=s.ay+1 }) (y4 v) (rS p F H al cl k N))(z:N.fin=0) :
  GF prog 177 [.loc 0 0,.loc 5 0,.agg (cT t)] (rS p F H al cl k s) (.tup []) (rS p F H al cl k { N with left:=true,gT:=v }):=by
 have r:=dx p F H al cl k h o j
 have i:(aR t.au)[0]?=some (cT u):=by rw[b];exact bH rfl
 have C:0<(aR t.au).length:=(bG i).1;have c:rS p F H al cl k { s with ay:=s.ay+1 }=[cv p F H { s with ay:=s.ay+1 },cP s,dJ H s,dC H s,fk H s,fM al cl k s,gX al cl k s]:=rfl;rw[c]at O;unfold rS at *
 have W:(N.fin==0)=true:=by simpa using z
 unfold cv fM at *;exact zdb
end
section
variable{p:Src}{F:Nat}{H:MH}{al:Option Addr}{cl k:Nat}{s:M}{t:T}
def u4:∀l:List T,(aR l).length=l.length
 |[]=>rfl
 |a::l=>by rw[aR,length_cons,length_cons,u4 l]
def Aa(h:s.over=false)(o:¬F<=s.ay)(j:F<=20000)(G:t.n.aj=9){u w:T}(b:t.au[0]?=some u){O s2:M}{v:Int}
  (N:GF prog 235 [.loc 0 0,.loc 5 0,.agg (cT u)] (rS p F H al cl k { s with ay:=s.ay+1 }) (y4 v) (rS p F H al cl k O))(Q:v≠0)(e:t.au[1]?=some w)
  (c:GF prog 177 [.loc 0 0,.loc 5 0,.agg (cT w)] (rS p F H al cl k O) (.tup []) (rS p F H al cl k s2)) :
  GF prog 177 [.loc 0 0,.loc 5 0,.agg (cT t)] (rS p F H al cl k s) (.tup []) (rS p F H al cl k s2):=by
 have r:=dx p F H al cl k h o j;have i:(aR t.au)[0]?=some (cT u):=bH b;have C:0<(aR t.au).length:=(bG i).1;have d:rS p F H al cl k { s with ay:=s.ay+1 }=[cv p F H { s with ay:=s.ay+1 },cP s,dJ H s,dC H s,fk H s,fM al cl k s,gX al cl k s]:=rfl;rw[d]at N;unfold rS at *
 have R:(v != 0)=true:=by simpa using Q
 have W:(aR t.au)[1]?=some (cT w):=bH e;have S:1<(aR t.au).length:=(bG W).1;exact zbP
def Lv(h:s.over=false)(o:¬F<=s.ay)(j:F<=20000)(G:t.n.aj=9){u w:T}(e:t.au[0]?=some u){O s2:M}{v:Int}
  (N:GF prog 235 [.loc 0 0,.loc 5 0,.agg (cT u)] (rS p F H al cl k { s with ay:=s.ay+1 }) (y4 v) (rS p F H al cl k O))(Q:v=0)(l:t.au[2]?=some w)
  (c:GF prog 177 [.loc 0 0,.loc 5 0,.agg (cT w)] (rS p F H al cl k O) (.tup []) (rS p F H al cl k s2))(b:t.au.length=3) :
  GF prog 177 [.loc 0 0,.loc 5 0,.agg (cT t)] (rS p F H al cl k s) (.tup []) (rS p F H al cl k s2):=by
 have r:=dx p F H al cl k h o j;have i:(aR t.au)[0]?=some (cT u):=bH e;have C:0<(aR t.au).length:=(bG i).1;have d:rS p F H al cl k { s with ay:=s.ay+1 }=[cv p F H { s with ay:=s.ay+1 },cP s,dJ H s,dC H s,fk H s,fM al cl k s,gX al cl k s]:=rfl;rw[d]at N;unfold rS at *
 have R:(v != 0)=false:=by simpa using Q
 have z:(((aR t.au).length:Int)==3)=true:=by rw[u4,b];rfl
 have W:(aR t.au)[2]?=some (cT w):=bH l;have S:2<(aR t.au).length:=(bG W).1;exact zbP
def Lu(h:s.over=false)(o:¬F<=s.ay)(j:F<=20000)(G:t.n.aj=9){u:T}(W:t.au[0]?=some u){O:M}{v:Int}
  (N:GF prog 235 [.loc 0 0,.loc 5 0,.agg (cT u)] (rS p F H al cl k { s with ay:=s.ay+1 }) (y4 v) (rS p F H al cl k O))(Q:v=0)(b:t.au.length≠3) :
  GF prog 177 [.loc 0 0,.loc 5 0,.agg (cT t)] (rS p F H al cl k s) (.tup []) (rS p F H al cl k O):=by
 have r:=dx p F H al cl k h o j;have i:(aR t.au)[0]?=some (cT u):=bH W;have C:0<(aR t.au).length:=(bG i).1;have c:rS p F H al cl k { s with ay:=s.ay+1 }=[cv p F H { s with ay:=s.ay+1 },cP s,dJ H s,dC H s,fk H s,fM al cl k s,gX al cl k s]:=rfl;rw[c]at N;unfold rS at *
 have R:(v != 0)=false:=by simpa using Q
 have z:(((aR t.au).length:Int)==3)=false:=by rw[u4];exact beq_eq_false_iff_ne.2 Z
 exact zda
end
def Tu{p:Src}{F:Nat}{H:MH}{al:Option Addr}{cl n:Nat}(s:M)(k q:Nat)(x:Int)(h:Nat × Nat)(G:k<s.cells.length)(u:H.hs[k]?=some h):rS p F H al cl n (nP s k (q:Int) x) =
  [cv p F H s,cP s,dJ H s,dC H s,blob ((List.zipWith o9 s.cells H.hs).set k (.vech 3 1 (dk (bE (row s k)) q 0 (y4 x)) (Ao (row s k) h))),fM al cl n s,gX al cl n s]:=by
 have z:=Ex s H.hs k q x;have w:=DT s H.hs k q x h G u
 have I:(nP s k (q:Int) x).cells.length=s.cells.length:=by unfold nP;rw[length_set]
 unfold rS dC fk cv;rw[z,w,I];rfl
section
variable{p:Src}{F:Nat}{H:MH}{al:Option Addr}{cl k:Nat}{s:M}{t:T}
def Hm(h:s.over=false)(o:¬F<=s.ay)(l:F<=20000)(G:t.n.aj=8){u w:T}(W:t.au=[u,w]){a:Nat}(hx:bP (fun x:Ar=>x.name==t.n.s) p.aq=(a:Int))(S:p.aq.length<=1099511627776){N:M}{v:Int}
  (O:GF prog 235 [.loc 0 0,.loc 5 0,.agg (cT u)] (rS p F H al cl k { s with ay:=s.ay+1 }) (y4 v) (rS p F H al cl k N)){c d:Int}(R:GF prog 236 [.loc 0 0,y4 (a:Nat),y4 v] [cv p F H N,cP N,dJ H N,dC H N] (.v (.bool false)) [cv p F H (N.stop c d),cP N,dJ H N,dC H N]) :
  GF prog 177 [.loc 0 0,.loc 5 0,.agg (cT t)] (rS p F H al cl k s) (.tup []) (rS p F H al cl k (N.stop c d)):=by
 have e:=lY p t.n.s S;rw[hx]at e;have r:=dx p F H al cl k h o l
 have i:(aR t.au)[0]?=some (cT u):=by rw[W];exact bH rfl
 have C:0<(aR t.au).length:=(bG i).1;have j:rS p F H al cl k { s with ay:=s.ay+1 }=[cv p F H { s with ay:=s.ay+1 },cP s,dJ H s,dC H s,fk H s,fM al cl k s,gX al cl k s]:=rfl;rw[j]at O;unfold rS at *;unfold cv at *;unfold aQ at e;unfold cT at i O |-;rw[G];refine ah func177 ntmps177 ?_;refine zaJ ?_;refine zbc ?_;refine aN [] e ?_;refine X ?_;refine zaN ?_;refine X ?_;refine aB [0,1,2,3] R ?_;exact bY
def Ss(h:s.over=false)(o:¬F<=s.ay)(j:F<=20000)(G:t.n.aj=8){u w:T}(b:t.au=[u,w]){a:Nat}(hx:bP (fun x:Ar=>x.name==t.n.s) p.aq=(a:Int))(l:p.aq.length<=1099511627776){N s2:M}{v:Int}
  (O:GF prog 235 [.loc 0 0,.loc 5 0,.agg (cT u)] (rS p F H al cl k { s with ay:=s.ay+1 }) (y4 v) (rS p F H al cl k N)){v2:Int}(B:N.fin=0)(e:a<N.cells.length)(C:H.hs.length=N.cells.length)(A:nV (row N a) v=true)
  (I:GF prog 235 [.loc 0 0,.loc 5 0,.agg (cT w)] (rS p F H al cl k N) (y4 v2) (rS p F H al cl k s2))(z:s2.fin≠0) :
  GF prog 177 [.loc 0 0,.loc 5 0,.agg (cT t)] (rS p F H al cl k s) (.tup []) (rS p F H al cl k s2):=by
 have d:=lY p t.n.s l;rw[hx]at d;have R:=zu (p:=p) (F:=F) B e C A
 have W:(aR t.au)[1]?=some (cT w):=by rw[b];exact bH rfl
 have S:1<(aR t.au).length:=(bG W).1;unfold cT at W I
 have Q:(s2.fin==0)=false:=by simpa using z
 have r:=dx p F H al cl k h o j
 have i:(aR t.au)[0]?=some (cT u):=by rw[b];exact bH rfl
 have E:0<(aR t.au).length:=(bG i).1;have c:rS p F H al cl k { s with ay:=s.ay+1 }=[cv p F H { s with ay:=s.ay+1 },cP s,dJ H s,dC H s,fk H s,fM al cl k s,gX al cl k s]:=rfl;rw[c]at O;unfold rS at *;unfold cv at *;unfold aQ at d;unfold cT at i O |-;rw[G];refine ah func177 ntmps177 ?_;refine zeQ ?_;refine zaN ?_;refine X ?_;refine aB [0,1,2,3] R ?_;refine X ?_;refine aB [0,1,2,3,4,5,6] I ?_;exact bY
def St(h:s.over=false)(hs:¬F<=s.ay)(I:F<=20000)(R:t.n.aj=8){u w:T}(B:t.au=[u,w]){a:Nat}(hx:bP (fun x:Ar=>x.name==t.n.s) p.aq=(a:Int))(S:p.aq.length<=1099511627776){c s2:M}{v:Int}
  (m:GF prog 235 [.loc 0 0,.loc 5 0,.agg (cT u)] (rS p F H al cl k { s with ay:=s.ay+1 }) (y4 v) (rS p F H al cl k c)){v2:Int}(Q:c.fin=0)(o:a<c.cells.length)(r:H.hs.length=c.cells.length)(e:nV (row c a) v=true)
  (j:GF prog 235 [.loc 0 0,.loc 5 0,.agg (cT w)] (rS p F H al cl k c) (y4 v2) (rS p F H al cl k s2))(E:s2.fin=0)(hc:s2.cells.length=c.cells.length)(hrw:(row s2 a).length=(row c a).length) :
  GF prog 177 [.loc 0 0,.loc 5 0,.agg (cT t)] (rS p F H al cl k s) (.tup []) (rS p F H al cl k (nP s2 a v v2)):=by
 have l:=lY p t.n.s S;rw[hx]at l;have J:=zu (p:=p) (F:=F) Q o r e
 have i:(aR t.au)[1]?=some (cT w):=by rw[B];exact bH rfl
 have A:1<(aR t.au).length:=(bG i).1;unfold cT at i j
 have G:(s2.fin==0)=true:=by simpa using E
 have⟨hz,hzn⟩:=xf (H:=H) (s:=s2) (a:=a) Z Z
 have d:H.hs[a]?=some (H.hs.getD a (0,0)):=by
  rw[getD_eq_getElem?_getD,cq (by rw[r];exact o)];rfl
 have N:(List.zipWith o9 s2.cells H.hs)[a]?=some (.vech 3 1 (bE (row s2 a)) (.slice (some ⟨(H.hs.getD a (0,0)).1,0,none⟩) (row s2 a).length (H.hs.getD a (0,0)).2)):=by
  rw[getElem?_zipWith,pQ Z,d];rfl
 have b:=e;unfold nV at b;simp only[a6,decide_eq_true_eq]at b;obtain⟨q,rfl⟩:∃q:Nat,v=(q:Int):=⟨v.toNat,by omega⟩
 have W:q<(row s2 a).length:=by omega
 rw[Tu s2 a q v2 _ Z d];generalize H.hs.getD a (0,0)=hd at *;have O:=dx p F H al cl k h hs I
 have z:(aR t.au)[0]?=some (cT u):=by rw[B];exact bH rfl
 have xm:0<(aR t.au).length:=(bG z).1;have C:rS p F H al cl k { s with ay:=s.ay+1 }=[cv p F H { s with ay:=s.ay+1 },cP s,dJ H s,dC H s,fk H s,fM al cl k s,gX al cl k s]:=rfl;rw[C]at m;unfold rS at *;unfold cv dC fk at *;unfold aQ at l;unfold cT at z m |-;rw[R];refine ah func177 ntmps177 ?_;refine aB [0,1,5,6] O ?_;refine X ?_;refine zbc ?_;refine aN [] l ?_;refine X ?_;refine aB [0,1,2,3,4,5,6] m ?_;refine X ?_;refine aB [0,1,2,3] J ?_;refine X ?_;refine aB [0,1,2,3,4,5,6] j ?_;refine X ?_;refine GL.q (V.JW rfl rfl W) ?_;refine bq ?_;refine GL.Zr 4 a rfl rfl N zfy rfl rfl ?_;refine cV ?_;exact bY
end
open GV (U)
section
variable{p:Src}{F:Nat}{H:MH}{al:Option Addr}{cl k:Nat}{s s':M}{t:T}
def wV(p:Src)(F:Nat)(H:MH)(al:Option Addr)(cl k:Nat)(u:T)(s s':M):Prop:=GF prog 177 [.loc 0 0,.loc 5 0,.agg (cT u)] (rS p F H al cl k s) (.tup []) (rS p F H al cl k s')
def qO(p:Src)(F:Nat)(H:MH)(al:Option Addr)(cl k:Nat)(u:T)(s s':M)(v:Int):Prop:=GF prog 235 [.loc 0 0,.loc 5 0,.agg (cT u)] (rS p F H al cl k s) (y4 v) (rS p F H al cl k s')
def Xf(h:s.over=false)(C:¬F<=s.ay)(l:F<=20000)(G:t.n.aj=14)(b:t.au.length<=1048576){I:Nat->M->Prop}(R:I 0 { s with ay:=s.ay+1 })
  (c:∀i u N,t.au[i]?=some u->I i N->∃O,wV p F H al cl k u N O/\I (i+1) O)(w:∀N,I t.au.length N->N=s'):wV p F H al cl k t s s':=by
 have z:=dx p F H al cl k h C l;have A:(aR t.au).length=t.au.length:=u4 _;have e:rS p F H al cl k { s with ay:=s.ay+1 }=[cv p F H { s with ay:=s.ay+1 },cP s,dJ H s,dC H s,fk H s,fM al cl k s,gX al cl k s]:=rfl
 have r:∀s,rS p F H al cl k s=[cv p F H s,cP s,dJ H s,dC H s,fk H s,fM al cl k s,gX al cl k s]:=fun _=>rfl
 unfold wV at *;rw[r s];unfold cT;rw[G];refine ah func177 ntmps177 ?_;refine aB [0,1,5,6] z ?_;refine X ?_
 refine GW.range (aR t.au).length (fun i q d=>∃N,I i N/\q=.loc 0 0::.loc 5 0::U::U::U::.loc 7 0::zU 16 (.sl 6 (aR t.au)::y4 ((aR t.au).length:Int)::y4 (i:Nat)::zU 171 []) /\
  d=[cv p F H N,cP N,dJ H N,dC H N,fk H N,fM al cl k N,gX al cl k N,.box 89 [y4 14,y4 t.n.at_,y4 t.n.n,.v (sv t.n.s),ints t.n.au,.sl 6 (aR t.au)]]) ?_ Z ?_ ?_ ?_
 ·exact⟨_,_,Wk.bb aD,_,R,rfl,rfl⟩
 ·rintro i _ _⟨N,-,rfl,rfl⟩;exact eB
 ·rintro i _ _ j⟨N,Q,rfl,rfl⟩;rw[A]at j;have W:t.au[i]?=some (t.au[i]):=cq j;have⟨O,o,B⟩:=c i _ N W Q;have m:=bH W;generalize t.au[i]=u at *;rw[r N,r O]at o;refine X ?_;refine zcG ?_;exact⟨rfl,rfl,_,_,(Wk.cut (n:=8) (dT rfl) rfl).trans (Wk.bb aD),O,B,rfl,rfl⟩
 ·rintro _ _⟨N,Q,rfl,rfl⟩;rw[A]at Q
  cases w N Q
  rw[r s'];exact eP
def T8(h:s.over=false)(hs:¬F<=s.ay)(hF:F<=20000)(hk:t.n.aj=10){u w:T}(hu:t.au[0]?=some u)(hw:t.au[1]?=some w){I:Nat->M->Prop}{g:Nat}(N:I g { s with ay:=s.ay+1 })
  (O:∀g e,I g e->e.over=false/\∃v q,qO p F H al cl k u e q v/\(v=0->q=s')/\(v≠0->∃i,wV p F H al cl k w q i/\(i.over=true/\i=s'\/∃m,m<g/\I m i))):wV p F H al cl k t s s':=by
 have Q:=dx p F H al cl k h hs hF;have S:=bH hu;have xm:0<(aR t.au).length:=(bG S).1;have o:=bH hw;have W:1<(aR t.au).length:=(bG o).1;have e0:rS p F H al cl k { s with ay:=s.ay+1 }=[cv p F H { s with ay:=s.ay+1 },cP s,dJ H s,dC H s,fk H s,fM al cl k s,gX al cl k s]:=rfl
 have b:∀s,rS p F H al cl k s=[cv p F H s,cP s,dJ H s,dC H s,fk H s,fM al cl k s,gX al cl k s]:=fun _=>rfl
 unfold wV qO at *;rw[b s];unfold cT at S o O |-;rw[hk];refine ah func177 ntmps177 ?_;refine aB [0,1,5,6] Q ?_;refine X ?_
 refine GW.loop (fun z:Nat × M=>z.1) (fun z fr Γ=>fr=.loc 0 0::.loc 5 0::U::U::U::.loc 7 0::zU 190 [] /\
  Γ=[cv p F H z.2,cP z.2,dJ H z.2,dC H z.2,fk H z.2,fM al cl k z.2,gX al cl k z.2,.box 89 [y4 10,y4 t.n.at_,y4 t.n.n,.v (sv t.n.s),ints t.n.au,.sl 6 (aR t.au)]] /\
  (z.2.over=true/\z.2=s'\/∃g,z.1=g+1/\I g z.2)) (g+1,{ s with ay:=s.ay+1 }) ?_ ?_
 ·exact⟨_,_,Wk.bb aD,rfl,rfl,.inr ⟨g,rfl,N⟩⟩
 ·clear Q N e0 h;rintro⟨g,e⟩_ _⟨rfl,rfl,A⟩;simp only at A |-
  rcases A with⟨d,rfl⟩|⟨g,rfl,A⟩
  ·unfold M.over at d
   cases R:(e.fin==0)with
   |false =>
    unfold rS cv fM;refine dQ ?_;exact bY
   |true =>
    have l:e.left=true:=by
     have:(e.fin != 0)=false:=by rw[bne,R];rfl
     rw[this]at d;exact d
    unfold rS cv fM;rw[l];refine dQ ?_;exact bY
  ·have⟨d,v,q,c,G,J⟩:=O _ _ A;unfold M.over at d;rw[Bool.or_eq_false_iff]at d
   have R:(e.fin==0)=true:=by simpa using d.1
   have l:=d.2
   by_cases r:v=0
   ·have B:(v != 0)=false:=by simpa using r
    cases G r
    rw[b]at c;rw[b s']at c |-;unfold cv fM at c |-;rw[l]at c;rw[l];refine X ?_;refine aB [0,1,2,3,4,5,6] c ?_;refine dQ ?_;exact bY
   ·have B:(v != 0)=true:=by simpa using r
    have⟨i,C,j⟩:=J r;rw[b]at c C;rw[b q]at c;rw[b i]at C;unfold cv fM at *;rw[l]at c;rw[l];refine X ?_;refine aB [0,1,2,3,4,5,6] c ?_;refine X ?_;refine aB [0,1,2,3,4,5,6] C ?_;refine X ?_
    rcases j with⟨E,rfl⟩|⟨m,wP,j⟩
    ·exact⟨(0,i),⟨_,_,Wk.bb aD,rfl,rfl,.inl ⟨E,rfl⟩⟩,by simp⟩
    ·exact⟨(m+1,i),⟨_,_,Wk.bb aD,rfl,rfl,.inr ⟨m,rfl,j⟩⟩,by simp;omega⟩
end
end Go.Xg
namespace Go.Xg
open Go.RowKit Go.Xw Go.Proofs Go.Im
section
variable{P:Program}{m:Nat}{Q:dF}{fr:am}{Γ:ap}{ops:Array Oper}{rest:List Oper}{d:Option Tmp}{op:Op}{ty:TypeId}{pos:String}{af:Array Edge}
def xd:∀(fr:am)(t:Nat)(a b:GV),bN (bN fr t a) t b=bN fr t b
 |[],t,a,b=>rfl
 |x::fr,0,a,b=>rfl
 |x::fr,t+1,a,b=>by simp only[bN,xd fr t a b]
def xb:∀(fr:am)(t:Nat)(g:GV),gN fr t=true->cQ (bN fr t g) t=g
 |[],t,g,h=>by cases h
 |x::fr,0,g,h=>rfl
 |x::fr,t+1,g,h=>xb fr t g h
def zt:∀(fr:am)(t u:Nat)(g:GV),gN (bN fr t g) u=gN fr u
 |[],t,u,g=>rfl
 |x::fr,0,0,g=>rfl
 |x::fr,0,u+1,g=>rfl
 |x::fr,t+1,0,g=>rfl
 |x::fr,t+1,u+1,g=>zt fr t u g
def GL.zg{s x:Operand}{t e k j:Nat}[H:lP P t e k j]{i fz:Nat}{w:Tmp}{news:List am}(hx:bd fr x=.sl k news)(q:bd fr s=.vec i 0)(o:Γ[i]?=some (.vec e k fz []))(z:kK news=true)(A:gN fr w=true)
  (r:0+news.length<=9223372036854775807/\(0+news.length)*j<=140737488355328)
  (h:GL P m ops Q rest (bQ fr (some w) (.sl k news)) (oset Γ i (.vec e k news.length news))) :
  GL P m ops Q (⟨some w,.call ⟨.builtin .append,#[s,x],#[t,t]⟩,ty,pos,af,none⟩::rest) fr Γ:=by
 refine GL.vL hx q o rfl z r ?_;have M:=(bG o).1;refine GL.wk (Wk.iC (t:=w) (i:=i) (n:=0+news.length) (E:=e) (k:=k) (fz:=fz) (rows:=[]++news) (xb fr w _ A) zf6 ?_ zfm) ?_
 ·rw[bU,iY,ae rfl,ae M]
 ·show GL P m ops Q rest (bN (bN fr w _) w _) _;rw[xd,bU,bU,List.set_set,nil_append,gW,<-bU];exact h
end
end Go.Xg
namespace Go.Xw
open Go.RowKit
def wU{P:Program}(w:World)(t I ty e:TypeId)(i:TypeInfo)(k B:IntKind)(J:P.underlying t=some (.slice e))(l:P.underlying I=some (.int B))(hi:P.info? e=some i)(base:Option Addr)(n C:Nat)(T:n<=C) :
  (Builtin.append_ #[t,I] ty #[.slice base n C,.int k 0]).run P w=.ok (.slice base n C) w:=by
 have j:IntKind.i64.wrap (0:Int)=0:=by rw[IntKind.wrap_i64];omega
 cases base<;>simp[Builtin.append_,run_underlying J,run_underlying l,sizeOf,typeInfo,hi,asInt,asIntOf,j,T,storeCells]
end Go.Xw
namespace Go.Xg
open Go.RowKit Go.Xw Go.Proofs Tryz
open GV (U)
section
variable{P:Program}{m:Nat}{Q:dF}{fr:am}{Γ:ap}{ops:Array Oper}{rest:List Oper}{d:Option Tmp}{ty:TypeId}{pos:String}{af:Array Edge}
def GL.W9{s x:Operand}{t I e o:Nat}{N O:IntKind}[W:lP P t e 1 o][T:me P I N](i:Nat){n:Nat}{q:Tmp}{c:Option Addr}{b:Nat}{rows:List am}(hx:bd fr x=.v (.int O 0))(hs:bd fr s=.v (.slice c n b))
  (G:Γ[i]?=some (.vech e 1 rows (.slice c n b)))(h:GL P m ops Q rest (bQ fr (some q) (.v (.slice c n b))) Γ) :
  GL P m ops Q (⟨some q,.call ⟨.builtin .append,#[s,x],#[t,I]⟩,ty,pos,af,none⟩::rest) fr Γ:=fun B K β w l hm M r=>by
 have⟨xs,o1,o2,o3,o4,o5⟩:=M.ob i _ G;have C:=r.fC hs;have E:=r.fC hx;have⟨hu,⟨j,z,hi,hz,H0,ps,L5⟩,hk⟩:=W.parts
 have A:n<=b:=by
  rcases o2.2 with⟨J,S⟩|⟨g,R,cur,J,_,_,S,_⟩<;>(cases J;omega)
 have hr:=wU (P:=P) w t I ty e j O N hu T.und hi c n b A;exact WL.val (v:=.slice c n b) (w':=w) (by simp[execOp,resolve,invoke,builtin,C,E,hr]) (h B K β w _ hm M (r.put (some q) (.v _)))
def GL.Xe{s x:Operand}{t I e j:Nat}{u:Value}{B l:IntKind}[N:lP P t e 1 j][E:nS P t e 1 [u]][A:me P I B](i:Nat){n q:Nat}{w:Tmp}{C:Option Addr}{J:Nat}{rows:List am}(hx:bd fr x=.v (.int l (q:Int)))(r:bd fr s=.v (.slice C n J))
  (o:Γ[i]?=some (.vech e 1 rows (.slice C n J)))(hn:rows.length=n)(W:zJ u=true)(z:n+q<=9223372036854775807/\(n+q)*j<=140737488355328)
  (h:∀a c,GL P m ops Q rest (bQ fr (some w) (.v (.slice a (n+q) c))) (oset Γ i (.vech e 1 (rows++List.replicate q [.v u]) (.slice a (n+q) c)))) :
  GL P m ops Q (⟨some w,.call ⟨.builtin .append,#[s,x],#[t,I]⟩,ty,pos,af,none⟩::rest) fr Γ:=by
 cases q with
 |zero =>
  have M:=h C J;simp only[List.replicate_zero,gw,Nat.add_zero]at M;rw[xA o]at M;exact GL.W9 i hx r o M
 |succ q=>exact GL.QK i hx r o hn (Nat.succ_pos q) W z h
theorem GL.XI{t i n E k:Nat}{rows:List am}(J:cQ fr t=.vec i n)(C:gN fr t=true)(q:Γ[i]?=some (.vec E k 0 rows))(hn:rows.length=n)
  (h:∀a c,GL P m ops Q rest (bN fr t (.v (.slice a n c))) (oset Γ i (.vech E k rows (.slice a n c)))):GL P m ops Q rest fr Γ:=fun B K W w l N R r=>by
 subst hn;have⟨a,c,z,o⟩:=R.uJ q;have j:=r.nth t;rw[J]at j
 have O:nth l t=.slice a rows.length c:=by
  generalize nth l t=v at j
  cases j with
  |vec _ _ e S A =>
   have⟨b,T,G,M,I⟩:=A;rw[z]at G;cases G;exact I rfl
 refine h a c B K W w l N o ?_;have:=r.eN t (v:=.slice a rows.length c) (g:=.v (.slice a rows.length c)) (.v _)
 grind[wJ,mJ]
def GL.Xd{s x:Operand}{t e k j:Nat}[I:lP P t e k j]{i n:Nat}{w:Tmp}{rows news:List am}(hx:bd fr x=.sl k news)(q:bd fr s=.vec i n)(o:Γ[i]?=some (.vec e k 0 rows))(hn:rows.length=n)(z:kK news=true)(A:gN fr w=true)
  (r:n+news.length<=9223372036854775807/\(n+news.length)*j<=140737488355328)
  (h:∀a c,GL P m ops Q rest (bQ fr (some w) (.v (.slice a (n+news.length) c))) (oset Γ i (.vech e k (rows++news) (.slice a (n+news.length) c)))) :
  GL P m ops Q (⟨some w,.call ⟨.builtin .append,#[s,x],#[t,t]⟩,ty,pos,af,none⟩::rest) fr Γ:=by
 refine GL.vL hx q o hn z r ?_
 refine GL.XI (t:=w) (i:=i) (E:=e) (k:=k) (rows:=rows++news) (xb fr w _ A) zf6 (mn o) (by rw[bl,hn]) fun a c=>?_
 rw[kU];show GL P m ops Q rest (bN (bN fr w _) w _) _;rw[xd];exact h a c
end
open Go.Xp (T bg)
open Go.Sp (Src)
open Go.Im Go.Mn
attribute [local irreducible] GW GL GO V GC GA bh bm
def vm:∀l:List Int,kK (bE l)=true
 |[]=>rfl
 |a::l=>vm l
def rC(p:Src)(F:Nat)(H:MH)(s:M):ap:=[cv p F H s,cP s,dJ H s,dC H s,fk H s]
def qm(p:Src)(F:Nat)(H:MH)(i:Nat)(args:List Int)(s s':M)(x:Int):Prop:=GF prog 105 [.loc 0 0,y4 (i:Nat),.sl 1 (bE args)] (rC p F H s) (y4 x) (rC p F H s')
section
variable{p:Src}{F:Nat}{H:MH}{s s' u:M}
section
variable{i:Nat}{args:List Int}
def JF(h:s.fin≠0):qm p F H i args s s 0:=by
 have W:(s.fin != 0)=true:=by simpa using h
 unfold qm rC cv;refine ah func105 ntmps105 ?_;exact ax
def JD(h:s.fin=0)(hd:100<=s.aY):qm p F H i args s (s.stop 5 0) 0:=by
 have W:(s.fin != 0)=false:=by simpa using h
 have z:decide ((100:Int)<=(s.aY:Int))=true:=decide_eq_true Z;have j:=tw p F H s 5 0;unfold qD at j;rw[ae h]at j;have e:rC p F H (s.stop 5 0)=[cv p F H (s.stop 5 0),cP s,dJ H s,dC H s,fk H s]:=rfl;unfold qm;rw[e];unfold rC;unfold cv at *;refine ah func105 ntmps105 ?_;refine D [0,1] j ?_;exact ax
end
def PZ(al:Option Addr)(cl:Nat)(s:M)(args:List Int){k q:Nat}(G:k=args.length+q)(T:q<=40):rS p F H al cl k (s.enter args)=[cv p F H { s with aY:=s.aY+1 },cP s,dJ H s,dC H s,fk H s,
  .box 185 [.v (.slice al k cl),.v (.bool false),y4 0],.vech 3 1 (bE args++List.replicate q [y4 0]) (.slice al k cl)]:=by
 subst G;unfold rS fM gX M.enter
 have e:(args++List.replicate 40 (0:Int)).take (args.length+q)=args++List.replicate q 0:=by
  rw[List.take_append,mz Z,List.take_replicate];congr 2;omega
 simp only[e,bE,jH,List.map_replicate];rfl
def OO{i:Nat}{f:Go.Sp.Fn}{t:T}{args:List Int}(C:∀n∈p.ak,n.au.length<=1000000000000)(hf:p.az[i]?=some f)(c:f.params.length<=1048576)(B:0<=f.body)(l:ek p.ak f.body.toNat t)(r:bg t<=1048576)
  (h:s.fin=0)(hd:s.aY<100)(hu:u.aY=s.aY+1){q:Nat}(N:q<=40)(hn:(f.params++dn t).length=args.length+q)(ha:args.length<=1048576)
  (b:∀al cl,wV p F H al cl (f.params++dn t).length (km (f.params++dn t) t f.params) (s.enter args) u):qm p F H i args s (s.leave u) u.gT:=by
 have h':(s.fin != 0)=false:=by simpa using h
 have I:decide ((100:Int)<=(s.aY:Int))=false:=decide_eq_false Z;have A:=yY p i f t C hf c B l r;have z:=MM p i f t C hf c B l r;have G:(bE args).length=args.length:=bI _;have j:kK (bE args)=true:=vm args
 have e:((u.aY-1:Nat):Int)=(u.aY:Int)-1:=by omega
 generalize km (f.params++dn t) t f.params=R at *;generalize J:f.params++dn t=E at *
 have o:((E.length:Nat):Int)-(((bE args).length:Nat):Int)=(q:Int):=by omega
 unfold qm rC;unfold wV at b;unfold aQ at A z;unfold cv;refine ah func105 ntmps105 ?_;refine aX (.q 1 (aI 3 5 (.q 10 (.q 11 (.a 0 (.a 2 (.a 8 (.q 9 (.q 12 (.a 13 (.q 14 (.a 15 (.q 16 .nil))))))))))))) ?_;refine av ?_;refine o7 ?_;refine av ?_;refine OA rfl rfl (GL.Xd (i:=5) rfl rfl rfl rfl j rfl ?_ fun a1 S=>?_)
 ·exact zex
 refine za1 ?_;refine OA rfl rfl ?_;refine cN [] A ?_;rintro _ _⟨O,W,rfl,rfl⟩;refine⟨by simp,?_⟩;refine za1 ?_;rw[o];refine OA rfl rfl (GL.Xe 5 (q:=q) rfl rfl rfl (gW _).symm rfl ?_ fun v w=>?_)
 ·exact zex
 refine zbF ?_;have b:=b v w;rw[PZ v w s args hn N]at b;refine D [] z ?_;rw[show 0+(bE args).length+q=E.length by omega];unfold rS cv fM at b;refine aB [0,1,2,3,4,7,5] b ?_;refine zd6 ?_;refine oj (n:=5) rfl dY rfl (dT rfl) rfl rfl ⟨rfl,?_⟩;unfold M.leave;simp only[e];rfl
end
section
variable{p:Src}{F:Nat}{H:MH}{al:Option Addr}{cl k:Nat}{s s2:M}{t:T}
def rX(h:s.over=false)(o:¬F<=s.ay)(l:F<=20000)(I:t.n.aj=4)(w:ga t.n.s=true){v:Int}
  (G:GF prog 300 [.loc 0 0,.loc 5 0,.agg (cT t)] (rS p F H al cl k { s with ay:=s.ay+1 }) (y4 v) (rS p F H al cl k s2)):qO p F H al cl k t s s2 v:=by
 have r:=dx p F H al cl k h o l;have j:=wo t.n.s;rw[w]at j;have c:rS p F H al cl k { s with ay:=s.ay+1 }=[cv p F H { s with ay:=s.ay+1 },cP s,dJ H s,dC H s,fk H s,fM al cl k s,gX al cl k s]:=rfl;rw[c]at G;unfold qO;unfold rS;unfold cT at *;rw[I]at *;refine ah func235 ntmps235 ?_;refine zaJ ?_;refine D [] j ?_;refine aB [0,1,2,3,4,5,6] G ?_;exact aC
def Qo(h:s.over=false)(hs:¬F<=s.ay)(hF:F<=20000)(hk:t.n.aj=4)(T:ga t.n.s=false)(hl:t.au.length<=1048576)(E:p.az.length<=1099511627776){i:Nat}(G:bP (fun x:Go.Sp.Fn=>x.name==t.n.s) p.az=(i:Int)){v:Int}
  {I:Nat->List Int->M->Prop}(h0:I 0 [] { s with ay:=s.ay+1 })(hA:∀j u b c,t.au[j]?=some u->I j b c->∃v1 B,qO p F H al cl k u c B v1/\I (j+1) (b++[v1]) B)
  (hE:∀b c,I t.au.length b c->qm p F H i b c s2 v/\s2.left=c.left/\s2.gT=c.gT/\s2.locs=c.locs):qO p F H al cl k t s s2 v:=by
 have hb:=dx p F H al cl k h hs hF;have r:=wo t.n.s;rw[T]at r;have l:=yg p t.n.s E;rw[G]at l;have w:(aR t.au).length=t.au.length:=u4 _;have e0:rS p F H al cl k { s with ay:=s.ay+1 }=[cv p F H { s with ay:=s.ay+1 },cP s,dJ H s,dC H s,fk H s,fM al cl k s,gX al cl k s]:=rfl
 have o:∀s,rS p F H al cl k s=[cv p F H s,cP s,dJ H s,dC H s,fk H s,fM al cl k s,gX al cl k s]:=fun _=>rfl
 unfold qO at *;rw[o s];unfold cT;rw[hk];refine ah func235 ntmps235 ?_;refine aB [0,1,5,6] hb ?_;refine X ?_;refine D [] r ?_;refine zc4 ?_
 refine GW.range (aR t.au).length (fun j fr Γ=>∃b c,I j b c/\b.length=j/\fr=.loc 0 0::.loc 5 0::U::U::U::.loc 7 0::U::U::U::.vec 8 j::zU 90 (.sl 6 (aR t.au)::y4 ((aR t.au).length:Int)::y4 (j:Nat)::zU 50 []) /\
  Γ=[cv p F H c,cP c,dJ H c,dC H c,fk H c,fM al cl k c,gX al cl k c,.box 89 [y4 4,y4 t.n.at_,y4 t.n.n,.v (sv t.n.s),ints t.n.au,.sl 6 (aR t.au)],.vec 3 1 0 (bE b)]) ?_ Z ?_ ?_ ?_
 ·exact⟨_,_,Wk.bb aD,[],_,h0,rfl,rfl,rfl⟩
 ·rintro i _ _⟨b,c,-,-,rfl,rfl⟩;exact eB
 ·rintro j _ _ z⟨b,c,C,e,rfl,rfl⟩;rw[w]at z;have hu:t.au[j]?=some (t.au[j]):=cq z;have⟨v1,B,hd,J⟩:=hA j _ b c hu C;have hr:=bH hu;generalize t.au[j]=u at *
  have A:(bE b).length=j:=by rw[bI];exact e
  have N:bE (b++[v1])=bE b++[[y4 v1]]:=by simp[bE]
  rw[o c,o B]at hd;refine X ?_;refine aB [0,1,2,3,4,5,6] hd ?_;refine X ?_;refine zbD ?_;exact⟨rfl,rfl,_,_,(Wk.cut (n:=9) (dT rfl) rfl).trans (Wk.bb aD),b++[v1],B,J,by rw[bl,e];rfl,rfl,by rw[N];rfl⟩
 ·rintro _ _⟨b,c,C,e,rfl,rfl⟩;rw[w]at C e |-;have⟨W,O,R,S⟩:=hE b c C
  have A:(bE b).length=t.au.length:=by rw[bI];exact e
  have e2:rS p F H al cl k s2=[cv p F H s2,cP s2,dJ H s2,dC H s2,fk H s2,fM al cl k c,gX al cl k c]:=by
   unfold rS fM gX;rw[O,R,S]
  rw[e2];refine bx ?_;refine GW.wk (Wk.iC (t:=9) (i:=8) rfl rfl rfl A) ?_;unfold qm rC at W;unfold aQ at l;unfold cv at *;refine X ?_;refine aX (aI 0 8 (.q 9 (.a 8 (.a 10 (.q 11 .nil))))) ?_;refine av ?_;refine aN [] l ?_;refine ql [0,1,2,3,4] W ?_;exact zbe
end
end Go.Xg
namespace Go.Im
open Go.Xp Go.Sp Go.Mn
structure RW(p:Src)(l:List T)(F:Nat)(H:Go.Xg.MH):Prop where
 w:dE p<=1048576
 gd:il p=true
 gl:Good p l
 F:F<=20000
 hs:H.hs.length=p.aq.length
def II{p:Src}{l:List T}(hg:Good p l)(f:Nat):(jd p l f).n32:=by
 unfold jd;split
 ·rename_i g t s I;exact AY hg.st.aq t g.params (hg.sx I)
 ·exact rO
section
variable{names:List ai}{n:Nd}{ls:List ai}
def JA(h:n.aj≠2/\n.aj≠7/\n.aj≠13):eg names n ls=n:=by
 unfold eg;rw[ab h.2.2,ab (by rintro⟨z|z,_⟩;exact h.1 z;exact h.2.1 z)]
def Uw:(eg names n ls).aj=n.aj:=by unfold eg;split<;>first|rfl|(split<;>rfl)
def ON:(eg names n ls).s=n.s:=by unfold eg;split<;>first|rfl|(split<;>rfl)
def QM(h:n.aj=2\/n.aj=7)(o:ls.contains n.s=false):eg names n ls=n:=by
 unfold eg;rw[ab zfn,ab (by rintro⟨_,z⟩;rw[o]at z;cases z)]
def QL(R:ls <+: names)(h:n.aj=2\/n.aj=7)(o:ls.contains n.s=true):(eg names n ls).n=((yW ls n.s+1:Nat):Int):=by
 unfold eg;rw[ab zfn,ae ⟨h,o⟩];show po names n.s+1=_;rw[EL R o];rfl
def Ux(h:n.aj=13)(hx:po names n.s=(ls.length:Int)):(eg names n ls).n=((ls.length+1:Nat):Int):=by
 unfold eg;rw[ae h];show po names n.s+1=_;rw[hx];rfl
def tG{C:Type}{l:List C}{a:C}(h:l.length=1)(M:l[0]?=some a):l=[a]:=by
 match l,h with
 |[b],_=>simpa using M
def NT{C:Type}{l:List C}{a b:C}(h:l.length=2)(M:l[0]?=some a)(z:l[1]?=some b):l=[a,b]:=by
 match l,h with
 |[c,d],_=>simp at M z;rw[M,z]
def jP{s:M}(h:s.over=true)(W:s.left=false):s.fin≠0:=by
 unfold M.over at h;rw[W,Bool.or_false]at h;simpa using h
def ed{s:M}(h:s.over=false):s.fin=0/\s.left=false:=by
 unfold M.over at h;rw[Bool.or_eq_false_iff]at h;exact⟨by simpa using h.1,h.2⟩
def CB{p:Src}{l:List T}(S:bM p (.mk n l) ls=0)(c:n.aj=4)(E:n.s≠eh):gC p n.s=(l.length:Int):=by
 unfold bM at S;rw[ab (show ¬(T.mk n l).n.aj=13 by show ¬n.aj=13;omega),ab (show ¬((T.mk n l).n.aj=2\/(T.mk n l).n.aj=7) by show ¬(n.aj=2\/n.aj=7);omega),ab (show ¬((T.mk n l).n.aj=3\/(T.mk n l).n.aj=8) by show ¬(n.aj=3\/n.aj=8);omega),ae (show(T.mk n l).n.aj=4 from c)]at S;unfold dG b8 at S;simp only[show(T.mk n l).n=n from rfl,show(T.mk n l).au=l from rfl]at S;rw[ab zfW]at S
 have N:gC p n.s ≠ -1:=fun e=>by rw[ae e]at S;cases S
 rw[ab N]at S
 by_cases e:gC p n.s=(l.length:Int)
 ·exact e
 ·rw[ab e]at S;cases S
def Ir{p:Src}{s:ai}{i:Nat}{f:Go.Sp.Fn}(z:s≠kG)(v:s≠ly)(I:s≠eh)(hi:jF p s=(i:Int))(hf:p.az[i]?=some f):gC p s=(f.params.length:Int):=by
 unfold gC;rw[ab z,ab (by rintro(h|h);exact v h;exact I h)];unfold jF bP at hi
 cases T:p.az.findIdx? (fun f:Go.Sp.Fn=>f.name==s)with
 |none=>rw[T]at hi;simp at hi
 |some j =>
  rw[T]at hi
  have:j=i:=by have M:(j:Int)=(i:Int):=hi;omega
  subst this;simp only[l8,hf]
end
def UZ{p:Src}{l0:List T}{F:Nat}{H:Go.Xg.MH}(W:RW p l0 F H){i:Nat}{f:Go.Sp.Fn}{t:T}(hf:p.az[i]?=some f)(I:l0[i]?=some t):uP p (f.params++dn t) t f.params/\t.n.aj=14/\(f.params++dn t).length<=40:=by
 have⟨a1,J,q,m,E⟩:=W.gl.at_ i f t hf I;have⟨N,Q⟩:=W.gl.kc I;exact⟨⟨a1,J,q,Mz W.gl I,W.gl.sx I,N,List.prefix_refl _,by have:=(W.gl.fn hf I).sz;omega⟩,Q,Na t f.params a1 J (xc W.gd f (bR hf))⟩
end Go.Im
namespace Go.Xg
open Go.RowKit Go.Xw Go.Proofs Go.Im Go.Mn
open Go.Xp (Nd T)
open Go.Sp (Src)
attribute [local irreducible] GW GL GO V GC GA bh bm
def VK(p:Src)(l0:List T)(F:Nat)(H:MH)(al:Option Addr)(cl k:Nat)(u:T)(r:R)(G:Nat):Prop:=∀s t v w,w<=G->jy p F s->Rg s->s.over=false->ev jY F (jd p l0) w r s=some (v,t)->t.left=false/\jy p F t/\Rg t/\cz v/\∃M,(t.over=false->M=v)/\qO p F H al cl k u s t M
def DK(p:Src)(l0:List T)(F:Nat)(H:MH)(al:Option Addr)(cl k:Nat)(u:T)(r:R)(G:Nat):Prop:=∀s t v w,w<=G->jy p F s->Rg s->s.over=false->ev jY F (jd p l0) w r s=some (v,t)->jy p F t/\Rg t/\wV p F H al cl k u s t
def GX(p:Src)(l0:List T)(F:Nat)(H:MH)(g:Nat):Prop:=∀names t ls s v j,uP p names t ls->names.length<=40->jy p F s->Rg s->s.over=false->ev jY F (jd p l0) g (qB p t ls) s=some (v,j)->∀al cl,
 (t.n.aj<=6->∃M,(j.over=false->M=v)/\qO p F H al cl names.length (km names t ls) s j M)/\(7<=t.n.aj->wV p F H al cl names.length (km names t ls) s j)
section
variable{p:Src}{l0:List T}{F:Nat}{H:MH}{al:Option Addr}{cl:Nat}
def wb(W:RW p l0 F H){G:Nat}(q:∀r,r<=G->GX p l0 F H r){names ls:List ai}{n:Nd}{l:List T}(B:uP p names (.mk n l) ls)(E:b8 (.mk n l)=false)(hn:names.length<=40){j:Nat}(o:j<l.length) :
  ∃u,(bn names l ls)[j]?=some u/\(eA p l ls)[j]?=some (r0 (eA p l ls) j)/\(n.aj≠14->j=0\/n.aj≠9/\n.aj≠10->VK p l0 F H al cl names.length u (r0 (eA p l ls) j) G)/\(n.aj=14\/(n.aj=9\/n.aj=10)/\j≠0->DK p l0 F H al cl names.length u (r0 (eA p l ls) j) G):=by
 have b:l[j]?=some l[j]:=cq o;generalize l[j]=u at b;have⟨z,w,J,c⟩:=B.kid E b
 have i:r0 (eA p l ls) j=qB p u (ls++bL (l.take j)):=by unfold r0;rw[w]
 unfold Ic at c;refine⟨_,J,by rw[i];exact w,fun A k s t v r I O N S e=>?_,fun A s t v r I O N S e=>?_⟩
 ·rw[ab A,ab Z]at c;rw[i]at e;have⟨m,C⟩:=(Ed Nc (II W.gl) r).1 _ _ _ _ (AY W.gl.st.aq u _ z.sx) N e;exact⟨((Hy r).1 _ _ _ _ (RF p u _ z.kc c) e).trans (ed S).2,O.ev e,C,m,(q r I _ _ _ _ _ _ z hn O N S e al cl).1 c.2⟩
 ·have d:7<=u.n.aj:=by
   split at c
   ·exact c.1
   ·rw[ae Z]at c;omega
  rw[i]at e;have⟨m,C⟩:=(Ed Nc (II W.gl) r).1 _ _ _ _ (AY W.gl.st.aq u _ z.sx) N e;exact⟨O.ev e,C,(q r I _ _ _ _ _ _ z hn O N S e al cl).2 d⟩
end
open Tryz
open Go.Xp (Ar)
section
variable{p:Src}{l0:List T}{F:Nat}{H:MH}{al:Option Addr}{cl:Nat}
def Lg(W:RW p l0 F H){G:Nat}(I:∀l,l<=G->GX p l0 F H l){i:Nat}{s u:M}{args:List Int}{w:Int}{g:Nat}(hg:g<=G)(hi:i<p.az.length)(A:jy p F s)(C:Rg s)(ha:∀x∈args,cz x)(o:s.fin=0)(hd:s.aY<100)
  (z:∀f,p.az[i]?=some f->args.length=f.params.length)(h:ev jY F (jd p l0) g (jd p l0 i) (s.enter args)=some (w,u)):qm p F H i args s (s.leave u) u.gT:=by
 have⟨⟨a1,J⟩,⟨N,O⟩,⟨Q,R⟩,⟨S,r⟩⟩:=iR p;have hw:=W.w;have m:=W.gl.len;have c:p.az[i]?=some p.az[i]:=cq hi;have d:l0[i]?=some (l0[i]'Z):=cq Z;generalize p.az[i]=f at c;generalize l0[i]'Z=t at d;have b:=W.gl.fn c d;have⟨v,T,j⟩:=UZ W c d;have B:=z f c;have k:=zW.ev h;rw[Fi c d]at h;have e:(f.params++dn t).length=f.params.length+(dn t).length:=bl;have E:=b.sz
 refine OO (fun n j=>by have:=(r n j).2;omega) c Z b.body b.st Z o hd k.aY (q:=(dn t).length) Z Z Z fun al cl=>?_
 exact(I g hg _ _ _ _ _ _ v j (D7 A) (C.Nk ha) (by unfold M.over M.enter;simp[o]) h al cl).2 Z
theorem WR(W:RW p l0 F H){G:Nat}(ih:∀r,r<=G->GX p l0 F H r){b ls:List ai}{n:Nd}{l:List T}{s s':M}{v:Int}(hN:uP p b (.mk n l) ls)(EA:b.length<=40)(e4:n.aj=4)(N:n.s≠kG)(O:n.s≠ly)(C:n.s≠eh)(hm:jy p F s)(hr:Rg s)(ho:s.over=false)(hle:¬F<=s.ay)
  {g:Nat}(hg:g<=G)(h:bB jY F (jd p l0) g (nY p n l ls (eA p l ls)) { s with ay:=s.ay+1 }=some (v,s')):qO p F H al cl b.length (.mk n (bn b l ls)) s s' v:=by
 have⟨⟨a1,a2⟩,⟨b1,b2⟩,⟨c1,c2⟩,⟨d1,d2⟩⟩:=iR p;have hw:=W.w;have⟨hf,hk,yV,hz,BN⟩:=hN.node
 have YW:=hm.next hle
 have xl:=hr.step (k:=s.ay+1);have Y5:({ s with ay:=s.ay+1 }:M).over=false:=ho
 have ui:b8 (.mk n l)=false:=by
  refine zc1 ?_
  grind
 have JR:=CB hf e4 C;have Ey:=pX p l ls;have Q:=sf b l ls;have⟨r,wP,hA⟩:=E3 e4 C hf Y5 h
 have hrd:ga n.s=false:=by unfold ga;simp[N,O,C]
 have Aq:0<=jF p n.s:=by
  have m:gC p n.s ≠ -1:=by omega
  unfold gC at m;rw[ab N,ab (by rintro(h|h);exact O h;exact C h)]at m;unfold jF bP
  cases hq:p.az.findIdx? (fun f:Go.Sp.Fn=>f.name==n.s)with
  |none=>rw[hq]at m;exact absurd rfl m
  |some i=>simp
 have d:=vY (f:=fun f:Go.Sp.Fn=>f.name==n.s) (l:=p.az) Aq;obtain⟨i,hi⟩:∃i:Nat,jF p n.s=(i:Int):=⟨(jF p n.s).toNat,by omega⟩;have S:bP (fun x:Go.Sp.Fn=>x.name==n.s) p.az=(i:Int):=hi;rw[S,eV]at d
 have YV:l.length<=1048576:=by
  have R:p.az[i]?=some p.az[i]:=cq d;have:=Ir N O C hi R;have:=xc W.gd _ (bR R);omega
 refine Qo (i:=i) (t:=.mk n (bn b l ls)) ho hle W.F e4 hrd zf8 Z S
  (I:=fun j c e=>e.over=true/\e.left=false/\e=s'/\v=0\/e.over=false/\jy p F e/\Rg e/\(∀x∈c,cz x)/\c.length=j/\∃r,r<=G/\j3 jY F (jd p l0) v s' (wW p F (jd p l0) g n v s') r ((eA p l ls).drop j) c e)
  (.inr ⟨Y5,YW,xl,fun x hx=>(by cases hx),rfl,r,by omega,hA⟩) ?_ ?_
 ·intro j u c e hu hI
  have hj:j<l.length:=by rw[<-Q];exact(bG hu).1
  obtain⟨u',Mm,xk,abq,-⟩:=wb W ih hN ui EA hj (al:=al) (cl:=cl);rw[show(bn b l ls)[j]?=some u from hu]at Mm;cases Mm
  rcases hI with⟨o,A,o3⟩|⟨o,A,o3,o4,o5,J,o6,q⟩
  ·exact⟨0,e,Qr o u,.inl ⟨o,A,o3⟩⟩
  ·rw[kP Z]at q;rw[cq Z]at xk;rw[sA xk]at q
   cases J with
   |zero=>rw[j3]at q;exact q.elim
   |succ J =>
   rw[j3]at q;have⟨w,t,E,B,q3⟩:=q;obtain⟨r1,r2,r3,r4,w',r5,r6⟩:=abq Z (.inr ⟨by omega,by omega⟩) _ _ _ J Z A o3 o E;refine⟨w',t,r6,?_⟩
   cases z:t.over with
   |true=>obtain⟨rfl,rfl⟩:=B z;exact .inl ⟨rfl,r1,rfl,rfl⟩
   |false =>
    rw[r5 z];exact .inr ⟨rfl,r2,r3,fun x hx=>(by rcases sb hx with hx|hx;exact o4 x hx;rw[KE hx];exact r4),by rw[bl,o5];rfl,J,by omega,q3 z⟩
 ·intro c e hI
  rcases hI with⟨o,A,rfl,rfl⟩|⟨o,A,o3,o4,o5,J,o6,q⟩
  ·exact⟨JF (jP o A),rfl,rfl,rfl⟩
  ·have o5:c.length=l.length:=o5.trans Q;rw[show(T.mk n (bn b l ls)).au.length=(eA p l ls).length by show(bn b l ls).length=_;omega,List.drop_length,j3]at q
   rcases q with⟨E,_⟩|⟨E,_⟩|⟨-,-,i',E,B⟩
   ·exact absurd E N
   ·exact absurd E O
   ·obtain rfl:i'=i:=by omega
    rcases B with⟨B,rfl,rfl⟩|⟨B,g3,w,u,q3,q4,rfl,rfl⟩
    ·exact⟨JD (ed o).1 B,rfl,rfl,rfl⟩
    ·refine⟨Lg W ih Z d A o3 o4 (ed o).1 B (fun f hf=>?_) q4,rfl,rfl,rfl⟩;have:=Ir N O C hi hf;omega
def UM{O:Go.Mn.Op}{F:Nat}{B:Nat->R}{g:Nat}{s s':M}{v:Int}(h:bB O F B (g+1) .get s=some (v,s')):s.inp=[]/\v = -1/\s'=s\/∃a r,s.inp=a::r/\v=O.wr a/\s'={ s with inp:=r }:=by
 rw[bB]at h
 cases N:s.inp with
 |nil =>
  exact zcZ
 |cons a r =>
  exact zcQ
def Iq{z s':M}{y v:Int}(h:(if z.over=true then some (0,z)else some (if y=0 then 0 else 1,z))=some (v,s')):s'=z/\(z.over=false->v=iD (y != 0)):=by
 by_cases E:z.over=true
 ·rw[ae E]at h;simp only[Option.some.injEq,Prod.mk.injEq]at h;exact⟨h.2.symm,fun w=>by rw[E]at w;cases w⟩
 ·rw[ab E]at h;simp only[Option.some.injEq,Prod.mk.injEq]at h;refine⟨h.2.symm,fun _=>?_⟩;rw[<-h.1];unfold iD
  by_cases m:y=0<;>simp[m]
theorem V7(W:RW p l0 F H){G:Nat}(ih:∀g',g'<=G->GX p l0 F H g'){b ls:List ai}{n:Nd}{l:List T}{s s':M}{v:Int}(hN:uP p b (.mk n l) ls)(Q:b.length<=40)(hkd:n.aj<=6)(hm:jy p F s)(hr:Rg s)(I:s.over=false)
  (h:ev jY F (jd p l0) (G+1) (qB p (.mk n l) ls) s=some (v,s')):∃v',(s'.over=false->v'=v)/\qO p F H al cl b.length (km b (.mk n l) ls) s s' v':=by
 have⟨⟨a1,a2⟩,⟨b1,b2⟩,⟨c1,c2⟩,⟨d1,d2⟩⟩:=iR p;have hw:=W.w;have O:=W.F;rw[km];rw[Go.Mn.ev]at h;split at h
 ·rename_i m;simp only[Option.some.injEq,Prod.mk.injEq]at h;obtain⟨rfl,rfl⟩:=h;exact⟨0,fun _=>rfl,Qp I m _⟩
 rename_i m
 have E:=hm.next m
 have S:=hr.step (k:=s.ay+1);have R:({ s with ay:=s.ay+1 }:M).over=false:=I;have⟨hf,hk,yV,hz,BN⟩:=hN.node;have⟨k1,k2⟩:=DD hk;have Ew:=sf b l ls;have xe:(eg b n ls).aj=n.aj:=Uw;have CM:(eg b n ls).s=n.s:=ON;have wQ:=BN.length_le;rw[qB]at h
 cases G with
 |zero=>simp only[bB]at h;cases h
 |succ g =>
 by_cases e1:n.aj=1
 ·unfold nY at h;rw[ae e1]at h;simp only[bB,Option.some.injEq,Prod.mk.injEq]at h;obtain⟨rfl,rfl⟩:=h;rw[JA ⟨by omega,by omega,by omega⟩];exact⟨_,fun _=>rfl,T6 (t:=.mk n (bn b l ls)) I m O e1⟩
 by_cases e2:n.aj=2
 ·unfold nY at h;rw[ab e1,ae e2]at h
  cases hc:ls.contains n.s with
  |true =>
   rw[ae hc]at h;simp only[bB,Option.some.injEq,Prod.mk.injEq]at h;obtain⟨rfl,rfl⟩:=h;have Md:=AB hc;have Au:=hm.locs;exact⟨_,fun _=>rfl,T0 (t:=.mk (eg b n ls) (bn b l ls)) I m O (xe.trans e2) (QL BN (.inl e2) hc) Z Z Z⟩
  |false =>
   rw[ab (by rw[hc];decide)]at h;simp only[bB,Option.some.injEq,Prod.mk.injEq]at h;obtain⟨rfl,rfl⟩:=h;have Ma:=yn hf (.inl e2) hc;have Md:=AB Ma;have vc:=hm.bF;rw[QM (.inl e2) hc];exact⟨_,fun _=>rfl,Qq (t:=.mk n (bn b l ls)) I m O e2 (hz e1) (EL (List.prefix_refl _) Ma) Z Z⟩
 have Vb:eg b n ls=n:=JA ⟨by omega,by omega,by omega⟩;rw[Vb]
 by_cases N:n.aj=4
 ·by_cases h3:n.s=eh
  ·unfold nY at h;rw[ab e1,ab e2,ab Z,ae N,ae h3]at h;simp only[bB,Option.some.injEq,Prod.mk.injEq]at h;obtain⟨rfl,rfl⟩:=h;obtain⟨k,C,-,-,f4,-,-⟩:=IU hN.wf hf N h3;have C:l=[k]:=C;subst C;have⟨kn,kl⟩:=k;have f4:0<=lR p kn.s:=f4;have⟨q,ar,f5,f6⟩:=sC f4;have hq:=(bG f6).1;have HN:=E.cells;have hro:=E.rows q ar f6
   have ps:su p kn.s=ar.size:=by unfold su;rw[f5,eV,f6]
   have hh:=W.hs;have Rc:({ s with ay:=s.ay+1 }:M).cells=s.cells:=rfl;have key:=Kp (p:=p) (F:=F) (H:=H) (al:=al) (cl:=cl) (k:=b.length) (s:={ s with ay:=s.ay+1 }) (t:=.mk n (bn b [.mk kn kl] ls)) (u:=.mk (eg b kn ls) (bn b kl ls)) (a:=q) (by show n.s≠_;rw[h3];decide) (by show n.s≠_;rw[h3];decide) (by show bn b [.mk kn kl] ls=_;simp only[bn,km]) (by show bP (fun x:Ar=>x.name==(eg b kn ls).s) p.aq=_;rw[ON];exact f5) Z Z Z;refine⟨_,fun _=>rfl,?_⟩;show qO p F H al cl b.length _ s _ (su p kn.s);rw[ps,<-hro];exact rX (t:=.mk n (bn b [.mk kn kl] ls)) I m O N (by show ga n.s=true;rw[h3];decide) key
  by_cases h1:n.s=kG
  ·unfold nY at h;rw[ab e1,ab e2,ab Z,ae N,ab h3,ae h1]at h
   rcases UM h with⟨hi,rfl,rfl⟩|⟨a,r,hi,rfl,rfl⟩
   ·exact⟨_,fun _=>rfl,rX (t:=.mk n (bn b l ls)) I m O N (by show ga n.s=true;rw[h1];decide) (Km (t:=.mk n (bn b l ls)) h1 hi)⟩
   ·exact⟨_,fun _=>rfl,rX (t:=.mk n (bn b l ls)) I m O N (by show ga n.s=true;rw[h1];decide) (Kn (t:=.mk n (bn b l ls)) h1 hi)⟩
  by_cases h2:n.s=ly
  ·have JR:=CB hf N h3
   have yS:l.length=1:=by unfold gC at JR;rw[ab h1,ae (.inl h2)]at JR;omega
   have ui:b8 (.mk n l)=false:=by
    refine zc1 ?_
    grind
   unfold nY at h;rw[ab e1,ab e2,ab Z,ae N,ab h3,ab h1,ae h2]at h;simp only[bB]at h;have⟨x,t,e5,h⟩:=br h;obtain⟨u,hu,-,abq,-⟩:=wb W ih hN ui Q (j:=0) Z (al:=al) (cl:=cl);have⟨r1,r2,r3,r4,w',r5,o⟩:=abq Z (.inl rfl) _ _ _ g Z E S R e5;have d:bn b l ls=[u]:=tG Z hu;have hob:=r2.out;have hsb:=r2.ay
   by_cases i:t.over=true
   ·rw[ae i]at h;simp only[Option.some.injEq,Prod.mk.injEq]at h;obtain⟨rfl,rfl⟩:=h;exact⟨0,fun _=>rfl,rX (t:=.mk n (bn b l ls)) I m O N (by show ga n.s=true;rw[h2];decide) (Ko (t:=.mk n (bn b l ls)) h2 d (jP i r1) o)⟩
   ·have e:t.over=false:=by simpa using i
    rw[ab i]at h;simp only[Option.some.injEq,Prod.mk.injEq]at h;obtain⟨rfl,rfl⟩:=h;rw[r5 e]at o;exact⟨0,fun _=>rfl,rX (t:=.mk n (bn b l ls)) I m O N (by show ga n.s=true;rw[h2];decide) (Nq (t:=.mk n (bn b l ls)) h2 d (ed e).1 Z o)⟩
  exact⟨v,fun _=>rfl,WR W ih hN Q N h1 h2 h3 hm hr I m (a8 _) h⟩
 have ui:b8 (.mk n l)=false:=by
  refine zc1 ?_
  grind
 by_cases e3:n.aj=3
 ·unfold nY at h;rw[ab e1,ab e2,ae e3]at h;have yS:=pH hk (.inl e3);simp only[bB]at h;have⟨x,t,e5,h⟩:=br h;obtain⟨u,hu,-,abq,-⟩:=wb W ih hN ui Q (j:=0) Z (al:=al) (cl:=cl);have⟨r1,r2,r3,r4,w',r5,o⟩:=abq Z (.inl rfl) _ _ _ g Z E S R e5;have d:bn b l ls=[u]:=tG Z hu;have⟨q,ar,C,f2⟩:=sC (AN hf (.inl e3));have hq:=(bG f2).1;have HN:=r2.cells;have hh:=W.hs;rw[C,eV]at h
  by_cases i:t.over=true
  ·rw[ae i]at h;simp only[Option.some.injEq,Prod.mk.injEq]at h;obtain⟨rfl,rfl⟩:=h;exact⟨0,fun _=>rfl,Dg (t:=.mk n (bn b l ls)) (c:=t.fin) (w:=t.why) I m O e3 d C Z o (Az (jP i r1) q w')⟩
  ·have e:t.over=false:=by simpa using i
   rw[ab i]at h;obtain rfl:=r5 e
   by_cases hi:nV (row t q) w'=true
   ·rw[ae hi]at h;simp only[Option.some.injEq,Prod.mk.injEq]at h;obtain⟨rfl,rfl⟩:=h;exact⟨_,fun _=>rfl,NZ (t:=.mk n (bn b l ls)) I m O e3 d C Z o (ed e).1 Z Z hi⟩
   ·rw[ab hi]at h;simp only[Option.some.injEq,Prod.mk.injEq]at h;obtain⟨rfl,rfl⟩:=h;exact⟨0,fun _=>rfl,Dg (t:=.mk n (bn b l ls)) I m O e3 d C Z o (CQ (ed e).1 Z Z (by simpa using hi))⟩
 by_cases e5:n.aj=5
 ·unfold nY at h;rw[ab e1,ab e2,ab e3,ab N,ae e5]at h;have yS:=pH hk (.inr (.inl e5));simp only[bB]at h;have⟨x,t,e6,h⟩:=br h;simp only[Option.some.injEq,Prod.mk.injEq]at h;obtain⟨rfl,rfl⟩:=h;obtain⟨u,hu,-,abq,-⟩:=wb W ih hN ui Q (j:=0) Z (al:=al) (cl:=cl);have⟨r1,r2,r3,r4,w',r5,o⟩:=abq Z (.inl rfl) _ _ _ g Z E S R e6;have d:bn b l ls=[u]:=tG Z hu;exact⟨_,fun ht=>by rw[r5 ht];rfl,WS (t:=.mk n (bn b l ls)) I m O e5 d (yV.2.1 e5) o⟩
 have e6:n.aj=6:=by omega
 unfold nY at h;rw[ab e1,ab e2,ab e3,ab N,ab e5,ae e6]at h;have xi:=yf hk (.inl e6);obtain⟨u,hu,-,abq,-⟩:=wb W ih hN ui Q (j:=0) Z (al:=al) (cl:=cl);obtain⟨w,vd,-,V2,-⟩:=wb W ih hN ui Q (j:=1) Z (al:=al) (cl:=cl);have d:bn b l ls=[u,w]:=NT Z hu vd
 have B:∀{s2:M}{x:Int},GF prog 304 [.loc 0 0,.loc 5 0,.agg (cT (.mk n (bn b l ls)))] (rS p F H al cl b.length { s with ay:=s.ay+1 }) (y4 x) (rS p F H al cl b.length s2)->qO p F H al cl b.length (.mk n (bn b l ls)) s s2 x:=fun hb=>TZ (t:=.mk n (bn b l ls)) I m O e6 hb
 by_cases C:n.s=[38,38]
 ·rw[ae C]at h;simp only[bB]at h;have⟨x,t,e7,h⟩:=br h;have⟨r1,r2,r3,r4,x',r5,o⟩:=abq Z (.inl rfl) _ _ _ g Z E S R e7
  by_cases i:t.over=true
  ·exact zaK
  ·have e:t.over=false:=by simpa using i
   rw[ab i]at h;obtain rfl:=r5 e
   by_cases hx:x'=0
   ·rw[ae hx]at h;simp only[Option.some.injEq,Prod.mk.injEq]at h;obtain⟨rfl,rfl⟩:=h;exact⟨0,fun _=>rfl,B (and_zero (t:=.mk n (bn b l ls)) d o (ed e).1 C hx)⟩
   ·rw[ab hx]at h;have⟨y,z,e8,h⟩:=br h;obtain⟨m1,m2,m3,m4,y',m5,m6⟩:=V2 Z (.inr ⟨by omega,by omega⟩) _ _ _ g Z r2 r3 e e8;obtain⟨rfl,hq⟩:=Iq h;exact⟨_,fun A=>by rw[m5 A,hq A],B (Ip (t:=.mk n (bn b l ls)) d o m6 (ed e).1 (.inl ⟨C,hx⟩))⟩
 rw[ab C]at h
 by_cases f2:n.s=[124,124]
 ·rw[ae f2]at h;simp only[bB]at h;have⟨x,t,e7,h⟩:=br h;have⟨r1,r2,r3,r4,x',r5,o⟩:=abq Z (.inl rfl) _ _ _ g Z E S R e7
  by_cases i:t.over=true
  ·exact zaK
  ·have e:t.over=false:=by simpa using i
   rw[ab i]at h;obtain rfl:=r5 e
   by_cases hx:x'≠0
   ·rw[ae hx]at h;simp only[Option.some.injEq,Prod.mk.injEq]at h;obtain⟨rfl,rfl⟩:=h;exact⟨1,fun _=>rfl,B (Wb (t:=.mk n (bn b l ls)) d o (ed e).1 f2 hx)⟩
   ·rw[ab hx]at h;have⟨y,z,e8,h⟩:=br h;obtain⟨m1,m2,m3,m4,y',m5,m6⟩:=V2 Z (.inr ⟨by omega,by omega⟩) _ _ _ g Z r2 r3 e e8;obtain⟨rfl,hq⟩:=Iq h;exact⟨_,fun A=>by rw[m5 A,hq A],B (Ip (t:=.mk n (bn b l ls)) d o m6 (ed e).1 (.inr ⟨f2,by omega⟩))⟩
 rw[ab f2]at h
 have CM:n.s∈nw:=by
  rcases A5 (yV.2.2 e6)with h|h|h
  ·exact absurd h f2
  ·exact absurd h C
  ·exact h
 simp only[bB]at h;have⟨x,t,e7,h⟩:=br h;have⟨r1,r2,r3,r4,x',r5,o⟩:=abq Z (.inl rfl) _ _ _ g Z E S R e7
 by_cases i:t.over=true
 ·exact zaK
 have e:t.over=false:=by simpa using i
 rw[ab i]at h;obtain rfl:=r5 e;have⟨y,z,e8,h⟩:=br h;obtain⟨m1,m2,m3,m4,y',m5,m6⟩:=V2 Z (.inr ⟨by omega,by omega⟩) _ _ _ g Z r2 r3 e e8
 by_cases A:z.over=true
 ·rw[ae A]at h;simp only[Option.some.injEq,Prod.mk.injEq]at h;obtain⟨rfl,rfl⟩:=h;exact⟨0,fun _=>rfl,B (K7 (t:=.mk n (bn b l ls)) d o m6 (ed e).1 ⟨C,f2⟩ (jP A m1))⟩
 have J:z.over=false:=by simpa using A
 rw[ab A]at h;obtain rfl:=m5 J;have hT:=Yt p F H (ed J).1 n.s r4 m4 CM
 by_cases hc:(mh n.s x' y').2≠0
 ·rw[ae (show(jY.bin n.s x' y').2≠0 from hc)]at h;simp only[Option.some.injEq,Prod.mk.injEq]at h;obtain⟨rfl,rfl⟩:=h;rw[ae hc]at hT;exact⟨_,fun hh=>(by unfold M.over M.stop at hh;simp at hh),B (G5 (t:=.mk n (bn b l ls)) d o m6 (ed e).1 ⟨C,f2⟩ (ed J).1 hT)⟩
 ·rw[ab (show ¬(jY.bin n.s x' y').2≠0 from hc)]at h;simp only[Option.some.injEq,Prod.mk.injEq]at h;obtain⟨rfl,rfl⟩:=h;rw[ab hc]at hT;exact⟨_,fun _=>rfl,B (G5 (t:=.mk n (bn b l ls)) (c:=z.fin) (w0:=z.why) d o m6 (ed e).1 ⟨C,f2⟩ (ed J).1 hT)⟩
end
end Go.Xg
