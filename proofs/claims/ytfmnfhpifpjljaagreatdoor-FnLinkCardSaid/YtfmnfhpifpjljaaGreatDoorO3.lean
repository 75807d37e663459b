/- Part 3 of proofs that are told in their last texts. -/
import Derived.Test.YtfmnfhpifpjljaaGreatDoorO2
open List (cons_append length_cons)
set_option linter.unusedVariables false
set_option linter.unusedSimpArgs false
set_option linter.defProp false
set_option maxRecDepth 100000
namespace Go.Sp
open Go.Xp
structure As(x:Tok):Prop where
 at_:0<=x.at_/\x.at_<=6000
 n:0<=x.n/\x.n<=2147483647
structure SB(p:RS):Prop where
 tok:∀t∈p.l,As t
 e:0<=p.e/\p.e<=6000
theorem SB.to{p q:RS}(h:SB p)(k:p.to q):SB q:=⟨by rw[k.1];exact h.tok,by rw[k.2.1];exact h.e⟩
def SB.at{p:RS}(h:SB p){i:Nat}{t:Tok}(M:p.l[i]?=some t):As t:=h.tok t (bN M)
theorem SB.place{p:RS}(h:SB p):0<=p.place/\p.place<=6000:=by
 unfold RS.place;split
 ·rename_i t M;exact(h.at M).at_
 ·exact h.e
structure W8(x:Nd):Prop where
 aj:0<=x.aj/\x.aj<=14
 at_:0<=x.at_/\x.at_<=6000
 n:0<=x.n/\x.n<=2147483647
 s:x.s.length<=12
mutual
def mw:T->Prop
 |.mk n l=>W8 n/\lA l
def lA:List T->Prop
 |[]=>True
 |t::r=>mw t/\lA r
end
theorem mw.n{t:T}(h:mw t):W8 t.n:=by cases t;grind[mw,T.n]
theorem mw.aw{t:T}(h:mw t):lA t.aw:=by cases t;rw[mw]at h;exact h.2
def Az:∀{a b:List T},lA a->lA b->lA (a++b)
 |[],b,_,h=>h
 |t::a,b,h,k=>by rw[cons_append,lA];rw[lA]at h;exact⟨h.1,Az h.2 k⟩
theorem vC{t:T}(h:mw t):lA [t]:=by grind[lA]
def NL{t u:T}(h:mw t)(k:mw u):lA [t,u]:=by grind[lA]
theorem Bv:∀(a b:List T),aP (a++b)=aP a+aP b
 |[],b=>by simp[aP]
 |t::a,b=>by rw[cons_append,aP,aP,Bv a b];omega
theorem tB(t:T):aP [t]=be t:=by rfl
theorem E9(t u:T):aP [t,u]=be t+be u:=by rfl
theorem Vy(t u v:T):aP [t,u,v]=be t+be u+be v:=by grind[aP,be]
section
variable{k a:Int}{s:ah}{l:List T}
theorem jO:be (one k a s l)=aP l+1:=by rfl
theorem mH(N:0<=k/\k<=14)(ha:0<=a/\a<=6000)(G:s.length<=12)(M:lA l):mw (one k a s l):=by
 unfold one;rw[mw];exact⟨⟨N,ha,⟨Int.le_refl _,show(0:Int)<=2147483647 by decide⟩,G⟩,M⟩
end
theorem Br:mw T.zero:=by
 unfold T.zero;rw[mw,lA];exact⟨⟨⟨Int.le_refl _,show(0:Int)<=14 by decide⟩,⟨Int.le_refl _,show(0:Int)<=6000 by decide⟩,⟨Int.le_refl _,show(0:Int)<=2147483647 by decide⟩,bl _⟩,trivial⟩
theorem Bw:be T.zero=1:=by rfl
theorem oj(p:RS):p.name.1.length<=12:=by
 grind[RS.name]
def oD:J->Nat
 |.loop _ _ out=>be out
 |_=>1
def jOk:J->Prop
 |.loop _ _ out=>mw out
 |.named a s _=>(0<=a/\a<=6000)/\s.length<=12
 |_=>True
def QF:∀(f:Nat),(∀j p t q,p.ok->SB p->jOk j->mE f j p=some (t,q)->mw t/\be t<=oD j+2*(q.i-p.i)) /\
  (∀d p l q,p.ok->SB p->mL f d p=some (l,q)->lA l/\aP l<=1+2*(q.i-p.i))/\(∀d w p l q,p.ok->SB p->lA w->pM f d w p=some (l,q)->lA l/\aP l<=aP w+2*(q.i-p.i))
 |0=>⟨fun j p t q _ _ _ h=>by simp[mE]at h,fun d p l q _ _ h=>by simp[mL]at h,fun d w p l q _ _ _ h=>by simp[pM]at h⟩
 |f+1=>by
  have⟨A,h2,h3⟩:=QF f;have⟨z,t2,t3⟩:=rh f;refine⟨fun j p t q e v J h=>?_,fun d p l q e v h=>?_,fun d w p l q e v r h=>?_⟩
  ·cases j with
   |expr d =>
    rw[mE]at h;have R:=iF e d
    have hi:(p.aW d).i=p.i:=by unfold RS.aW RS.fail;grind
    have:=A (.level 0 d) _ _ _ (R.ok e) (v.to R) trivial h
    grind[oD]
   |level k d =>
    rw[mE]at h;split at h
    ·exact A (.operand (d+1)) _ _ _ e v trivial h
    ·split at h
     ·cases h
     ·rename_i out Q o;have B:=z _ _ _ _ e o;have r:=A (.level (k+1) d) _ _ _ e v trivial o;have Y:=A (.loop k d out) _ _ _ (B.ok e) (v.to B) r.1 h;have T:=(z _ _ _ _ (B.ok e) h).2.2.2;have N:=B.2.2.2
      grind[oD]
   |loop k d out =>
    rw[mE]at h;split at h
    ·rename_i X;split at h
     ·cases h
     ·rename_i S B;have O:=(b6 B).1;have m:=cR (p:=p) O
      have M:S.s.length<=12:=by
       have H:=(Ed X.2).2.2;unfold RS.aJ at H;rw[ai X.1,Nat.add_zero,B]at H;simp only[dN]at H;have h9:=(Ed X.2).1;unfold RS.aJ at h9;rw[ai X.1,Nat.add_zero,B]at h9
       grind[dN]
      split at h
      ·cases h
      ·rename_i b Q o;have c:=z _ _ _ _ (m.ok e) o;have r:=A (.level (k+1) d) _ _ _ (m.ok e) (v.to m) trivial o;have C:=m.trans c;have Y:=A (.loop k d (one 6 S.at_ S.s [out,b])) _ _ _ (C.ok e) (v.to C) (mH aD (v.at B).at_ M (NL J r.1)) h;have T:=(z _ _ _ _ (C.ok e) h).2.2.2;have N:=c.2.2.2;have G:=r.2;have Z:=Y.2;simp only[oD,jO,E9]at G Z |-
       have H:p.next.i=p.i+1:=rfl
       grind
    ·cases h;exact⟨J,by grind[oD]⟩
   |operand d =>
    rw[mE]at h;have R:=iF e d
    have hi:(p.aW d).i=p.i:=by unfold RS.aW RS.fail;grind
    rw[<-hi];have u:=R.ok e;have E:=v.to R;generalize p.aW d=p at *
    try simp only at h
    simp only[oD];split at h
    ·split at h
     ·grind[Br,Bw]
     ·rename_i S B;have O:=(b6 B).1;have m:=cR (p:=p) O
      have H:p.next.i=p.i+1:=rfl
      have W:=E.at B;split at h
      ·cases h;refine⟨?_,by rw[be,aP];omega⟩;rw[mw,lA];exact⟨⟨⟨show(0:Int)<=1 by decide,show(1:Int)<=14 by decide⟩,W.at_,W.n,bl _⟩,trivial⟩
      ·split at h
       ·have F:=eU u;have r:=A (.named S.at_ p.name.1 d) _ _ _ (F.ok u) (E.to F) ⟨W.at_,oj p⟩ h;have T:=(z _ _ _ _ (F.ok u) h).2.2.2;have N:=F.2.2.2
        grind[oD]
       ·split at h
        ·rename_i M;split at h
         ·cases h
         ·rename_i a Q o;have r:=A (.operand (d+1)) _ _ _ (m.ok u) (E.to m) trivial o;have N:=(z _ _ _ _ (m.ok u) o).2.2.2;have G:=r.2;simp only[oD]at G;cases h;refine⟨mH aD W.at_ ze2 (vC r.1),?_⟩;rw[jO,tB];omega
        ·split at h
         ·split at h
          ·cases h
          ·rename_i a Q o;have r:=A (.expr (d+1)) _ _ _ (m.ok u) (E.to m) trivial o;have c:=m.trans (z _ _ _ _ (m.ok u) o);have N:=(z _ _ _ _ (m.ok u) o).2.2.2;have G:=r.2;simp only[oD]at G;cases h;have Z:=(bU (c.ok u) (s:=[41]) aD).2.2.2
           grind
         grind[Br,Bw]
    grind[Br,Bw]
   |named a s d =>
    rw[mE]at h;simp only[oD];split at h
    ·rename_i M;have m:=dW M aD
     have H:p.next.i=p.i+1:=rfl
     split at h
     ·cases h
     ·rename_i a' Q o;have r:=A (.expr (d+1)) _ _ _ (m.ok e) (v.to m) trivial o;have c:=m.trans (z _ _ _ _ (m.ok e) o);have N:=(z _ _ _ _ (m.ok e) o).2.2.2;have G:=r.2;simp only[oD]at G;cases h;have Z:=(bU (c.ok e) (s:=[93]) aD).2.2.2;refine⟨mH aD J.1 J.2 (vC r.1),?_⟩;rw[jO,tB];omega
    ·split at h
     ·rename_i M;have m:=dW M aD
      have H:p.next.i=p.i+1:=rfl
      split at h
      ·cases h
      ·rename_i l Q o;have r:=h2 _ _ _ _ (m.ok e) (v.to m) o;have N:=(t2 _ _ _ _ (m.ok e) o).2.2.2;have G:=r.2;cases h;refine⟨mH aD J.1 J.2 r.1,?_⟩;rw[jO];omega
     ·cases h;refine⟨mH aD J.1 J.2 (by simp[lA]),?_⟩;simp[jO,aP]
  ·rw[mL]at h;split at h
   ·cases h;simp[lA,aP,RS.i,RS.ba]
   ·split at h
    ·cases h
    ·rename_i a Q o;have c:=z _ _ _ _ e o;have r:=A (.expr d) _ _ _ e v trivial o;have Y:=h3 _ _ _ _ _ (c.ok e) (v.to c) (vC r.1) h;have T:=(t3 _ _ _ _ _ (c.ok e) h).2.2.2;have N:=c.2.2.2
     grind[oD,tB]
  ·rw[pM]at h;split at h
   ·rename_i M;have m:=dW M aD
    have H:p.next.i=p.i+1:=rfl
    split at h
    ·cases h
    ·rename_i a Q o;have c:=m.trans (z _ _ _ _ (m.ok e) o);have h9:=(z _ _ _ _ (m.ok e) o).2.2.2;have r:=A (.expr d) _ _ _ (m.ok e) (v.to m) trivial o;have Y:=h3 _ _ _ _ _ (c.ok e) (v.to c) (Az ‹lA w› (vC r.1)) h;have T:=(t3 _ _ _ _ _ (c.ok e) h).2.2.2
     grind[oD,Bv,tB]
   grind
def xM{d:Nat}{p q:RS}{t:T}(W:p.ok)(j:SB p)(h:mX d p=some (t,q)):mw t/\be t<=1+2*(q.i-p.i)/\p.i<=q.i:=by
 have:=(QF _).1 (.expr d) _ _ _ W j trivial h;exact⟨this.1,this.2,(fY W h).2.2.2⟩
def Ky{p:RS}{s:ah}(G:s≠[])(h:¬p.code=0):¬(p.ba s).code=0:=fun e=>h (qM G e).2.1
def QG:∀(f:Nat),(∀d p t q,p.ok->SB p->mS f (.block d) p=some (t,q)->mw t/\be t<=1+4*(q.i-p.i)/\p.i<=q.i) /\
  (∀d p t q,p.ok->SB p->mS f (.stmt d) p=some (t,q)->mw t/\be t<=2+4*(q.i-p.i)/\(q.code=0->be t<=4*(q.i-p.i))/\p.i<=q.i) /\
  (∀a d p t q,p.ok->SB p->p.i<p.l.length->(0<=a/\a<=6000)->mS f (.cond a d) p=some (t,q)->mw t/\be t<=2+4*(q.i-p.i)/\(q.code=0->be t<=4*(q.i-p.i))/\p.i<=q.i) /\
  (∀d E p l q,p.ok->SB p->lA E->mB f d E p=some (l,q)->lA l/\(aP l<=aP E+(if p.code=0 then 2 else 0)+4*(q.i-p.i))/\p.i<=q.i)
 |0=>⟨fun d p t q _ _ h=>by simp[mS]at h,fun d p t q _ _ h=>by simp[mS]at h,fun a d p t q _ _ _ _ h=>by simp[mS]at h,fun d E p l q _ _ _ h=>by simp[mB]at h⟩
 |f+1=>by
  have⟨h1,h2,h3,h4⟩:=QG f;refine⟨fun d p t q o F h=>?_,fun d p t q o F h=>?_,fun a d p t q o F ny ha h=>?_,fun d E p l q o F hac h=>?_⟩
  ·rw[mS]at h;have T:=iF o d
   have hi:(p.aW d).i=p.i:=by unfold RS.aW RS.fail;grind
   rw[<-hi];have c:=T.ok o;have k:=F.to T;generalize p.aW d=p at *
   try simp only at h
   have A:=bU c (s:=[123]) aD;split at h
   ·cases h
   ·rename_i l z j;have N:=h4 _ _ _ _ _ (A.ok c) (k.to A) (by simp[lA]) j;have C:=A.trans ((pr f).2 _ _ _ _ _ (A.ok c) j);cases h;have O:=(bU (C.ok c) (s:=[125]) aD).2.2.2;have h6:=A.2.2.2;refine⟨mH aD k.place (bl _) N.1,?_,by omega⟩;rw[jO];have h7:=N.2.1;have Z:=N.2.2;rw[aP]at h7;split at h7
    ·rename_i G;have h9:=(qM aD G).1
     have Xb:(p.ba [123]).i=p.i+1:=by rw[h9];rfl
     omega
    ·omega
  ·rw[mS]at h;have T:=iF o d
   have hi:(p.aW d).i=p.i:=by unfold RS.aW RS.fail;grind
   rw[<-hi];have c:=T.ok o;have k:=F.to T;generalize p.aW d=p at *
   try simp only at h
   have M:=k.place
   have last:∀(z:RS),p.to z->z.i<=(z.ba [59]).i/\((z.ba [59]).code=0->(z.ba [59]).i=z.i+1):=fun z hq=>⟨(bU (hq.ok c) aD).2.2.2,fun G=>by rw[(qM aD G).1];rfl⟩
   split at h
   ·rename_i w;have u:=dW w aD;have B:=u.trans (eU (u.ok c));have m:=B.trans (bU (B.ok c) (s:=[61]) aD);split at h
    ·cases h
    ·rename_i e z j;have hx:=xM (m.ok c) (k.to m) j;have H:=last _ (m.trans (fY (m.ok c) j));have O:=((eU (u.ok c)).trans (bU (B.ok c) (s:=[61]) aD)).2.2.2
     have Z:p.next.i=p.i+1:=rfl
     grind[mH,oj,vC,jO,tB]
   ·split at h
    ·rename_i w;refine h3 _ _ _ _ _ c k ?_ M h
     rcases w with w|w
     ·exact(dv w aD).1
     ·exact(dv w aD).1
    ·split at h
     ·rename_i w;have u:=dW w aD;split at h
      ·cases h
      ·rename_i e z j;have hx:=xM (u.ok c) (k.to u) j;have H:=last _ (u.trans (fY (u.ok c) j))
       have Z:p.next.i=p.i+1:=rfl
       cases h;refine⟨mH aD M (bl _) (vC hx.1),?_,fun G=>?_,?_⟩
       ·grind[jO,tB]
       ·grind[jO,tB]
       omega
     ·split at h
      ·have B:=eU c;have m:=B.trans (bU (B.ok c) (s:=[61]) aD);split at h
       ·cases h
       ·rename_i e z j;have hx:=xM (m.ok c) (k.to m) j;have H:=last _ (m.trans (fY (m.ok c) j));have O:=m.2.2.2
        grind[mH,oj,vC,jO,tB]
      ·split at h
       ·cases h
       ·rename_i e z j;have Y:=fY c j;have hx:=xM c k j;split at h
        ·rename_i w;have XA:=dW w.2.2 aD;have u:=Y.trans XA;split at h
         ·rename_i a r v p2 hk W;have hv:=xM (u.ok c) (k.to u) W;have H:=last _ (u.trans (fY (u.ok c) W))
          have Z:z.next.i=z.i+1:=rfl
          have hsa:mw a:=by have:=hx.1.aw;grind[lA]
          have hza:be a+1<=be e:=by
           cases e with
           |mk n l =>
            have hk:l=a::r:=hk
            grind[aP,be]
          cases h;refine⟨mH aD M hx.1.n.s (NL hsa hv.1),?_,fun G=>?_,?_⟩
          ·grind[jO,E9]
          ·grind[jO,E9]
          omega
         ·cases h
        ·have H:=last _ Y;cases h;refine⟨mH aD M (bl _) (vC hx.1),?_,fun G=>?_,?_⟩
         ·grind[jO,tB]
         ·grind[jO,tB]
         omega
  ·rw[mS]at h;have u:=cR ny
   have Z:p.next.i=p.i+1:=rfl
   have A:=u.trans (bU (u.ok o) (s:=[40]) aD);have O:=(bU (u.ok o) (s:=[40]) aD).2.2.2
   have S:0<=p.ck/\p.ck<=14:=by grind[RS.ck]
   try simp only at h
   split at h
   ·cases h
   ·rename_i e z j;have hx:=xM (A.ok o) (F.to A) j;have J:=(A.trans (fY (A.ok o) j)).trans (bU ((A.trans (fY (A.ok o) j)).ok o) (s:=[41]) aD);have h6:=(bU ((A.trans (fY (A.ok o) j)).ok o) (s:=[41]) aD).2.2.2;split at h
    ·cases h
    ·rename_i b q2 Q;have DO:=h1 _ _ _ _ (J.ok o) (F.to J) Q;have C:=J.trans ((pr f).1 _ _ _ _ (J.ok o) (fun a d' h=>by cases h) Q);split at h
     ·rename_i w;have X:=C.trans (dW w.2 aD)
      have h9:q2.next.i=q2.i+1:=rfl
      split at h
      ·cases h
      ·rename_i b2 q3 R;have wv:=h1 _ _ _ _ (X.ok o) (F.to X) R;cases h;refine⟨mH S ha (bl _) (by grind[lA]),?_,fun G=>?_,?_⟩
       ·grind[jO,Vy]
       ·grind[jO,Vy]
       omega
     ·cases h;refine⟨mH S ha (bl _) (NL hx.1 DO.1),?_,fun G=>?_,?_⟩
      ·grind[jO,E9]
      ·grind[jO,E9]
      omega
  ·rw[mB]at h;split at h
   ·rename_i G;split at h
    ·cases h
    ·rename_i a p' j;have w:=h2 _ _ _ _ o F j;have C:=(pr f).1 _ _ _ _ o (fun a d' h=>by cases h) j;have N:=h4 _ _ _ _ _ (C.ok o) (F.to C) (Az hac (vC w.1)) h;have O:=N.2.1;have h6:=N.2.2;rw[Bv,tB]at O
     grind
   grind
end Go.Sp
namespace Go.Im
open Go.Xp Go.Sp
theorem DB{m:Type}(f:m->Nat->T->List ah->m)(t:T):∀(l:List T)(a:Nat)(s:m)(ls:List ah),dh f (l++[t]) a s ls=fy f t (a+aP l) (dh f l a s ls).1 (dh f l a s ls).2
 |[],a,s,ls=>by rfl
 |u::l,a,s,ls=>by rw[cons_append,dh,DB f t l,dh,aP,kA]
def yI{m:Type}(f:m->Nat->T->List ah->m){l:List T}{k:Nat}{t:T}(h:l[k]?=some t)(a:Nat)(s:m)(ls:List ah) :
  dh f (l.take (k+1)) a s ls=fy f t (a+aP (l.take k)) (dh f (l.take k) a s ls).1 (dh f (l.take k) a s ls).2:=by
 grind[c7,DB]
def rK:∀{l:List T}{n k:Nat}{t:T},l[k]?=some t->(bm n l)[k]?=some (((n+aP (l.take k):Nat)):Int)
 |u::l,n,0,t,h=>by rfl
 |u::l,n,k+1,t,h=>by
  have:=rK (l:=l) (n:=n+be u) (k:=k) (t:=t) ze2
  grind[bm,aP]
 |[],n,k,t,h=>by simp at h
section
variable{l:List T}{k:Nat}{t:T}
theorem oy(h:l[k]?=some t):aP (l.take k)+be t<=aP l:=by
 have o:l.take (k+1)=l.take k++[t]:=by grind[c7]
 grind[jE,List.take_append_drop,aP,be]
theorem Py(h:l[k]?=some t):aP (l.take (k+1))=aP (l.take k)+be t:=by
 have o:l.take (k+1)=l.take k++[t]:=by grind[c7]
 rw[o,jE,aP,aP,Nat.add_zero]
end
def PG:∀(N:Nat)(t:T),be t<=N->(l6 t).length<=be t:=by
 intro N
 induction N with
 |zero=>grind[jT]
 |succ N O =>
  intro t h
  have R:∀l:List T,aP l<=N->(dF l).length<=aP l:=by
   intro l
   induction l with
   |nil=>grind[dF]
   |cons u l z =>
    intro h;rw[aP]at h;have:=O u aO;have:=z aO;rw[dF,bp,aP];omega
  grind[fa,PF,bp]
theorem pQ(l:List T):(dF l).length<=aP l:=by
 induction l with
 |nil=>simp[dF]
 |cons u l O =>
  have:=PG _ u (a8 _);rw[dF,bp,aP];omega
section
variable{R:Type}{f:R->Bool}{l:List R}
def nd{k:Nat}{x:R}(O:l[k]?=some x)(h:f x=true)(n:(l.take k).all (fun y=>!f y)=true):bL f l=(k:Int):=by
 have N:k<l.length:=by
  rcases Nat.lt_or_ge k l.length with o|o
  ·exact o
  ·rw[List.getElem?_eq_none o]at O;cases O
 have hx:l[k]=x:=by rw[cY N]at O;exact su O
 have:l.findIdx? f=some k:=by
  rw[List.findIdx?_eq_some_iff_getElem];refine⟨N,by rw[hx];exact h,fun j Y=>?_⟩;rw[hY]at n;have:=n l[j] zfb;exact zdc
 unfold bL;rw[this]
def kR(n:l.all (fun y=>!f y)=true):bL f l = -1:=by
 have:l.findIdx? f=none:=by
  rw[List.findIdx?_eq_none_iff];intro x hx;rw[hY]at n;simpa using n x hx
 unfold bL;rw[this]
def mZ{k:Nat}{x:R}(N:l[k]?=some x):(l.take (k+1)).all (fun y=>!f y)=((l.take k).all (fun y=>!f y)&&!f x):=by
 rw[c7,N,List.all_append];simp
end
def wP{R:Type}(f:R->Bool)(l:List R):decide ((0:Int)<=bL f l)=l.any f:=by
 cases h:l.any f with
 |false =>
  rw[kR (by rw[List.any_eq_false]at h;rw[hY];intro x hx;simpa using h x hx)];rfl
 |true =>
  unfold bL
  cases b:l.findIdx? f with
  |some i=>simp
  |none =>
   rw[List.findIdx?_eq_none_iff]at b;rw[pz]at h;have⟨x,hx,G⟩:=h;have:=b x hx;simp[G]at this
end Go.Im
namespace Go.Sp
open Go.Xp Go.Im
abbrev VE(n:Nd):Nat:=n.s.length+n.aw.length+1
mutual
def P5:∀(t:T)(a:Nat),mw t->cj VE (fR a t)+1<=14*be t
 |.mk n l,a,h=>by
  rw[mw]at h;have o:=h.1.s;have b:=P3 l (a+1) h.2;rw[fR,cj,be]
  grind[cW]
def P3:∀(l:List T)(a:Nat),lA l->cj VE (cv a l)+l.length<=14*aP l
 |[],a,h=>by simp[cj,VE,cv,aP]
 |t::r,a,h=>by
  rw[lA]at h;have o:=P5 t a h.1;have b:=P3 r (a+be t) h.2;rw[cv,mh,aP,length_cons];omega
end
mutual
def P4:∀(t:T)(a:Nat),mw t->∀n∈fR a t,0<=n.n/\n.n<=2147483647
 |.mk n l,a,h,m,hm=>by
  rw[mw]at h;rw[fR]at hm
  rcases lp hm with rfl|hm
  ·exact h.1.n
  ·exact P2 l (a+1) h.2 m hm
def P2:∀(l:List T)(a:Nat),lA l->∀n∈cv a l,0<=n.n/\n.n<=2147483647
 |[],a,h,m,hm=>by grind[cv]
 |t::r,a,h,m,hm=>by
  rw[lA]at h;rw[cv]at hm
  rcases pG hm with hm|hm
  ·exact P4 t a h.1 m hm
  ·exact P2 r (a+be t) h.2 m hm
end
structure PB(p:Src)(i:Nat):Prop where
 w:cH p<=56*i
 num:iN p
def Eu:Src:=⟨[],[],[],[]⟩
def PB.no:PB Eu 0:=⟨a8 _,⟨(fun a h=>by simp[Eu]at h),(fun a h=>by simp[Eu]at h)⟩⟩
def PB.glob{p:Src}{i j:Nat}(h:PB p i)(s:ah)(G:s.length<=12)(S:i<j):PB ⟨p.au++[s],p.aq,p.av,p.ae⟩ j:=by
 refine⟨?_,h.num.aq,h.num.ae⟩;exact zeU
def PB.arr{p:Src}{i j:Nat}(h:PB p i)(a:Ar)(G:a.name.length<=12)(m:0<=a.size/\a.size<=2147483647)(S:i<j):PB ⟨p.au,p.aq++[a],p.av,p.ae⟩ j:=by
 refine⟨?_,fun x hx=>?_,h.num.ae⟩
 ·exact zeU
 ·rcases pG hx with hx|hx
  ·exact h.num.aq x hx
  grind
def Fk:∀(l:List ah),(∀s∈l,s.length<=12)->wS l<=13*l.length
 |[],_=>a8 _
 |s::l,h=>by
  have o:=h s ze3
  have b:=Fk l fun s G=>h s (by simp[G])
  unfold wS at *
  grind[cj]
def PB.fn{p:Src}{i j:Nat}(h:PB p i)(f:Fn)(t:T)(H:f.name.length<=12)(W:∀s∈f.params,s.length<=12)(M:mw t)(k b:Nat)(N:f.params.length<=k)(l:be t<=1+4*b)(S:i+1+k+b<=j):PB ⟨p.au,p.aq,p.av++[f],p.ae++fR p.ae.length t⟩ j:=by
 refine⟨?_,h.num.aq,fun x hx=>?_⟩
 ·have o:=h.w;have c:=P5 t p.ae.length M;have G:=Fk f.params W;unfold cH at *;simp only[mh,cj]at *
  grind
 ·rcases pG hx with hx|hx
  ·exact h.num.ae x hx
  ·have:=P4 t _ M x hx;omega
def HP{p:Src}(h:iN p)(i:Nat){x:Nd}(hx : -9223372036854775808<=x.n/\x.n<=9223372036854775807):iN ⟨p.au,p.aq,p.av,p.ae.set i x⟩ :=
 ⟨h.aq,fun y B=>by rcases List.mem_or_eq_of_mem_set B with B|B;exact h.ae y B;grind⟩
def Y5{p:Src}{i:Nat}{x:Nd}(h:p.ae[i]?=some x):x.s.length+x.aw.length+1<=cH p:=by
 have:=qY (f:=fun n:Nd=>n.s.length+n.aw.length+1) (bN h)
 grind[cH]
theorem W3(p:Src)(f g:Fn)(r:List Fn)(h:p.av=f::r)(hn:g.name=f.name)(W:g.params=f.params):cH ⟨p.au,p.aq,g::r,p.ae⟩=cH p:=by
 unfold cH;simp only[h,cj,hn,W]
theorem W2(p:Src)(a:Ar):cH ⟨p.au,p.aq++[a],p.av,p.ae⟩=cH p+a.name.length+1:=by
 unfold cH;simp only[mh,cj];omega
def Cg(s:ah):∀(f:Nat)(n:Int)(a:Nat),0<=n->0<=(number s f n a).1
 |0,n,a,h=>h
 |f+1,n,a,h=>by
  rw[number]
  cases W:s[a]? with
  |none=>exact h
  |some c =>
   simp only
   by_cases T:eM c=true
   ·rw[ai T];refine Cg s f _ _ ?_
    grind[eM]
   grind
def Mi{s:ah}{a:Nat}{c:UInt8}(W:s[a]?=some c)(hd:eM c=true)(n:Int):a<(number s (s.length+1) n a).2:=by
 grind[so]
theorem MI:∀x∈cE,1<=x.length:=by decide
section
variable{s:ah}{a:Nat}{c:UInt8}
theorem PC(W:s[a]?=some c)(N:¬(gJ s a c).1.aj=0):a<(gJ s a c).2:=by
 have O:=(b6 W).1;unfold gJ at N |-
 by_cases T:eM c=true
 ·simp_all[ai,Mi]
 ·rw[ab T]at N |-
  by_cases G:small c=true
  ·rw[ai G];show a<hE s a;unfold hE;rw[run,W];simp only;rw[ai (by grind[fD])]
   grind[oK]
  grind[MI]
theorem S7(W:s[a]?=some c)(M:s.length<=6000)(hn:(gJ s a c).1.n<=2147483647):As (gJ s a c).1:=by
 have N:=(b6 W).1;unfold gJ at hn |-
 by_cases T:eM c=true
 ·rw[ai T]at hn |-;exact⟨⟨by simp,by grind⟩,Cg s _ 0 a (Int.le_refl _),hn⟩
 ·rw[ab T]at hn |-
  by_cases G:small c=true
  ·rw[ai G]at hn |-;exact⟨⟨by simp,by grind⟩,Int.le_refl _,hn⟩
  ·rw[ab G]at hn |-;split
   ·exact⟨⟨by simp,by grind⟩,Int.le_refl _,by simp⟩
   ·exact⟨⟨Int.le_refl _,by simp⟩,Int.le_refl _,by simp⟩
end
def th{R:Type}{f:R->Nat}(h:∀x,1<=f x):∀l:List R,l.length<=cj f l
 |[]=>a8 _
 |x::l=>by have o:=h x;have b:=th h l;grind[cj]
theorem zd(p:Src):p.au.length<=cH p/\p.aq.length<=cH p/\p.av.length<=cH p/\p.ae.length<=cH p:=by
 have o:p.au.length<=wS p.au:=th (fun s=>Nat.le_add_left 1 _) _;have b:=th (f:=fun a:Ar=>a.name.length+1) (fun s=>Nat.le_add_left 1 _) p.aq;have G:=th (f:=fun f:Fn=>f.name.length+wS f.params+1) (fun s=>Nat.le_add_left 1 _) p.av;have C:=th (f:=fun n:Nd=>n.s.length+n.aw.length+1) (fun s=>Nat.le_add_left 1 _) p.ae;unfold cH;omega
def ps(p:RS):Int × RS:=match p.l[p.i]? with
 |some t=>if t.aj=1 then(t.n,p.next)else(0,p.fail 7 p.place)
 |none=>(0,p.fail 7 p.place)
def Ip{p:RS}(W:p.ok):p.to (ps p).2:=by
 grind[mI,cR,List.getElem?_eq_some_iff,RS.to,ps]
def Ps{p:RS}(h:SB p):0<=(ps p).1/\(ps p).1<=2147483647:=by
 unfold ps
 cases M:p.l[p.i]? with
 |none=>simp
 |some t =>
  simp only;split
  ·exact(h.at M).n
  simp
end Go.Sp
namespace Go.Im
open Go.Xp Go.Sp
def ek:Nat->List Fn->List T->List Fn
 |a,f::v,t::u=>⟨f.name,f.params,(a:Nat)⟩::ek (a+be t) v u
 |_,_,_=>[]
def uB(f:Fn)(t:T):∀(v:List Fn)(ls:List T)(a:Nat),v.length=ls.length->ek a (v++[f]) (ls++[t])=ek a v ls++[⟨f.name,f.params,((a+aP ls:Nat):Int)⟩]
 |[],[],a,_=>by simp[ek,aP]
 |[],_::_,a,h=>by simp at h
 |_::_,[],a,h=>by simp at h
 |g::v,u::ls,a,h=>by
  have:=uB f t v ls (a+be u) ze8;rw[cons_append,cons_append,ek,this,ek,aP,kA];rfl
def qc:∀(v:List Fn)(ls:List T)(a:Nat),v.length=ls.length->(ek a v ls).length=v.length
 |[],[],a,_=>rfl
 |[],_::_,a,h=>by simp at h
 |_::_,[],a,h=>by simp at h
 |g::v,u::ls,a,h=>by rw[ek,length_cons,length_cons,qc v ls _ ze8]
def zH{w:Fn->Nat}(l:∀(f:Fn)(b:Int),w ⟨f.name,f.params,b⟩=w f):∀(v:List Fn)(ls:List T)(a:Nat),v.length=ls.length->cj w (ek a v ls)=cj w v
 |[],[],a,_=>rfl
 |[],_::_,a,h=>by simp at h
 |_::_,[],a,h=>by simp at h
 |g::v,u::ls,a,h=>by rw[ek,cj,cj,l,zH l v ls _ ze8]
def RL{w:Nd->Nat}(m:∀(n:Nd)(b:Int),w (MG b n)=w n)(l:List T)(a:Nat):cj w (cv a l)=cj w (cv 0 l):=by
 have e:=tQ a l 0;rw[dy]at e;rw[e]
 induction cv 0 l with
 |nil=>rfl
 |cons n r O=>rw[List.map_cons,cj,cj,m,O]
def xJ(gs:List ah)(e:List Ar)(v:List Fn)(ls:List T):Src:=⟨gs,e,ek 0 v ls,cv 0 ls⟩
def ep(a b:Src)(x y:List T):Src:=xJ (a.au++b.au) (a.aq++b.aq) (a.av++b.av) (x++y)
section
variable{a b:Src}{x y:List T}
def yn(ha:cD a x)(i:cD b y):(ep a b x y).ae=a.ae++b.ae.map (MG ((aP x:Nat):Int)):=by
 have e:=tQ (aP x) y 0;rw[<-cJ.all i.st i.len]at e;show cv 0 (x++y)=_;rw[lH,e,<-cJ.all ha.st ha.len]
def AX(ha:cD a x)(i:cD b y):cH (ep a b x y)=cH a+cH b:=by
 have o:=eo.len ha.av;have c:=eo.len i.av;have z:cj (fun f:Fn=>f.name.length+wS f.params+1) (ep a b x y).av=cj (fun f:Fn=>f.name.length+wS f.params+1) (a.av++b.av):=zH (fun f b=>rfl) _ _ 0 (by simp[o,c]);have R:=RL (w:=fun n:Nd=>n.s.length+n.aw.length+1) (fun n b=>by simp[MG]) y (0+aP x);unfold cH;rw[z];show wS (a.au++b.au)+cj _ (a.aq++b.aq)+_+cj _ (cv 0 (x++y))=_;rw[lH,mh,mh,mh,R,<-cJ.all i.st i.len,<-cJ.all ha.st ha.len];unfold wS;rw[mh];omega
def zI(ha:cD a x)(i:cD b y)(o:iN a)(r:iN b):iN (ep a b x y):=by
 refine⟨fun z q=>?_,fun n c=>?_⟩
 ·rcases pG q with h|h
  ·exact o.aq z h
  ·exact r.aq z h
 ·rw[yn ha i]at c
  rcases pG c with h|h
  ·exact o.ae n h
  ·obtain⟨m,j,rfl⟩:=x9.1 h;exact r.ae m j
end
def nj(a b:Src):Src × Int :=
 if(fI a&&fI b)=true then(if((bO b).any fun s=>(bO a).contains s)=true then(kL,2)else match kB a.ae a.av 0 [],kB b.ae b.av 0 []with
  |some (x,_),some (y,_)=>if fk (ep a b x y)=true then(ep a b x y,0)else(kL,3)
  |_,_=>(kL,3))else(kL,1)
end Go.Im
