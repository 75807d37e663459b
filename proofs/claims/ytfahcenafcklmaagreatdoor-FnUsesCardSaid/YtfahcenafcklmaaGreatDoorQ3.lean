/- Part 3 of proofs that are told in their last texts. -/
import Derived.Test.YtfahcenafcklmaaGreatDoorQ2
import Derived.Test.YtfahcenafcklmaaGreatDoorQ1
open List (any_eq_false cons_append foldl_cons length_cons mem_cons_self)
set_option linter.unusedVariables false
set_option linter.unusedSimpArgs false
set_option maxRecDepth 100000
namespace Go.Sp
open Go.Xp
structure Fy (x:Tok):Prop where
 at_:0<=x.at_/\x.at_<=6000
 n:0<=x.n/\x.n<=2147483647
structure SB (p:RS):Prop where
 tok:∀ t∈p.l,Fy t
 e:0<=p.e/\p.e<=6000
theorem SB.to {p q:RS} (h:SB p) (k:p.to q):SB q:=⟨by rw [k.1];exact h.tok,by rw [k.2.1];exact h.e⟩
theorem SB.at {p:RS} (h:SB p) {i:Nat} {t:Tok} (ht:p.l[i]?=some t):Fy t:=h.tok t (bo ht)
theorem SB.place {p:RS} (h:SB p):0<=p.place/\p.place<=6000:=by
 unfold RS.place;split
 ·rename_i t ht;exact (h.at ht).at_
 ·exact h.e
structure bdN (x:Nd):Prop where
 kind:0<=x.kind/\x.kind<=14
 at_:0<=x.at_/\x.at_<=6000
 n:0<=x.n/\x.n<=2147483647
 s:x.s.length<=12
mutual
def oL:T->Prop
 | .mk n l=>bdN n/\lP l
def lP:List T->Prop
 | []=>True
 | t::r=>oL t/\lP r
end
theorem oL.n {t:T} (h:oL t):bdN t.n:=by cases t;rw [oL] at h;exact h.1
theorem oL.kids {t:T} (h:oL t):lP t.kids:=by cases t;rw [oL] at h;exact h.2
theorem FE:∀ {a b:List T},lP a->lP b->lP (a++b)
 | [],b,_,h=>h
 | t::a,b,h,k=>by rw [cons_append,lP];rw [lP] at h;exact ⟨h.1,FE h.2 k⟩
theorem zy {t:T} (h:oL t):lP [t]:=by rw [lP,lP];exact ⟨h,trivial⟩
theorem OG {t u:T} (h:oL t) (k:oL u):lP [t,u]:=by rw [lP,lP,lP];exact ⟨h,k,trivial⟩
theorem Gp:∀ (a b:List T),aB (a++b)=aB a+aB b
 | [],b=>by rw [aB];exact (dJ _).symm
 | t::a,b=>by rw [cons_append,aB,aB,Gp a b];omega
theorem tV (t:T):aB [t]=aQ t:=by rw [aB,aB];rfl
theorem Gn (t u:T):aB [t,u]=aQ t+aQ u:=by rw [aB,tV]
theorem abn (t u v:T):aB [t,u,v]=aQ t+aQ u+aQ v:=by rw [aB,Gn];omega
theorem jP {k a:Int} {s:ae} {l:List T}:aQ (one k a s l)=aB l+1:=by unfold one;rw [aQ]
theorem pg {k a:Int} {s:ae} {l:List T} (hk:0<=k/\k<=14) (ha:0<=a/\a<=6000) (hs:s.length<=12) (hl:lP l):oL (one k a s l):=by
 unfold one;rw [oL];exact ⟨⟨hk,ha,⟨Int.le_refl _,show (0:Int)<=2147483647 by decide⟩,hs⟩,hl⟩
theorem Gl:oL T.zero:=by
 unfold T.zero;rw [oL,lP];exact ⟨⟨⟨Int.le_refl _,show (0:Int)<=14 by decide⟩,⟨Int.le_refl _,show (0:Int)<=6000 by decide⟩,⟨Int.le_refl _,show (0:Int)<=2147483647 by decide⟩,aS _⟩,trivial⟩
theorem Gr:aQ T.zero=1:=by unfold T.zero;rw [aQ,aB]
theorem ra (p:RS):p.name.1.length<=12:=by
 unfold RS.name;split
 ·split
  ·split
   ·split
    ·exact aS _
    ·exact zcb
   ·exact aS _
  ·exact aS _
 ·exact aS _
def si:J->Nat
 | .loop _ _ out=>aQ out
 | _=>1
def jOk:J->Prop
 | .loop _ _ out=>oL out
 | .named a s _=>(0<=a/\a<=6000)/\s.length<=12
 | _=>True
theorem Xy:∀ (f:Nat),(∀ j p t q,p.ok->SB p->jOk j->mE f j p=some (t,q)->oL t/\aQ t<=si j+2 * (q.i - p.i)) /\
  (∀ d p l q,p.ok->SB p->mL f d p=some (l,q)->lP l/\aB l<=1+2 * (q.i - p.i))/\(∀ d acc p l q,p.ok->SB p->lP acc->td f d acc p=some (l,q)->lP l/\aB l<=aB acc+2 * (q.i - p.i))
 | 0=>⟨fun j p t q _ _ _ h=>by simp [mE] at h,fun d p l q _ _ h=>by simp [mL] at h,fun d acc p l q _ _ _ h=>by simp [td] at h⟩
 | f+1=>by
  obtain ⟨I,G,h3⟩:=Xy f;obtain ⟨t1,t2,t3⟩:=u4 f;refine ⟨fun j p t q hp hb hj h=>?_,fun d p l q hp hb h=>?_,fun d acc p l q hp hb ha h=>?_⟩
  ·cases j with
   | expr d =>
    rw [mE] at h;have hd:=jh hp d
    have hi:(p.deep d).i=p.i:=by unfold RS.deep RS.fail;split <;> (try split) <;> rfl
    have:=I (.level 0 d) _ _ _ (hd.ok hp) (hb.to hd) trivial h;rw [hi] at this;exact this
   | level k d =>
    rw [mE] at h;split at h
    ·exact I (.operand (d+1)) _ _ _ hp hb trivial h
    ·split at h
     ·cases h
     ·rename_i out p' he;have ht:=t1 _ _ _ _ hp he;have ha:=I (.level (k+1) d) _ _ _ hp hb trivial he;have hl:=I (.loop k d out) _ _ _ (ht.ok hp) (hb.to ht) ha.1 h;have h4:=(t1 _ _ _ _ (ht.ok hp) h).2.2.2;have h5:=ht.2.2.2;have h6:=ha.2;have h7:=hl.2;simp only [si] at h6 h7 |-;exact zfP
   | loop k d out =>
    rw [mE] at h;split at h
    ·rename_i hc;split at h
     ·cases h
     ·rename_i t' ht;have au:=(bB ht).1;have hn:=cX (p:=p) au
      have hs:t'.s.length<=12:=by
       have h8:=(Kf hc.2).2.2;unfold RS.sign at h8;rw [ah hc.1,Nat.add_zero,ht] at h8;simp only [dZ] at h8;have h9:=(Kf hc.2).1;unfold RS.sign at h9;rw [ah hc.1,Nat.add_zero,ht] at h9;simp only [dZ] at h9;split at h8
       ·omega
       ·rename_i qa;rw [ab qa] at h9;exact absurd rfl h9
      split at h
      ·cases h
      ·rename_i b p' he;have gn:=t1 _ _ _ _ (hn.ok hp) he;have ha:=I (.level (k+1) d) _ _ _ (hn.ok hp) (hb.to hn) trivial he;have Vd:=hn.trans gn;have hl:=I (.loop k d (one 6 t'.at_ t'.s [out,b])) _ _ _ (Vd.ok hp) (hb.to Vd) (pg ar (hb.at ht).at_ hs (OG hj ha.1)) h;have h4:=(t1 _ _ _ _ (Vd.ok hp) h).2.2.2;have h5:=gn.2.2.2;have h6:=ha.2;have h7:=hl.2;simp only [si,jP,Gn] at h6 h7 |-
       have h8:p.next.i=p.i+1:=rfl
       exact zfP
    ·cases h;exact ⟨hj,by simp only [si];omega⟩
   | operand d =>
    rw [mE] at h;have hd:=jh hp d
    have hi:(p.deep d).i=p.i:=by unfold RS.deep RS.fail;split <;> (try split) <;> rfl
    rw [<-hi];have dM:=hd.ok hp;have vl:=hb.to hd;generalize p.deep d=p at *
    try simp only at h
    simp only [si];split at h
    ·split at h
     ·cases h;exact ⟨Gl,by rw [Gr];omega⟩
     ·rename_i t' ht;have au:=(bB ht).1;have hn:=cX (p:=p) au
      have h8:p.next.i=p.i+1:=rfl
      have hT:=vl.at ht;split at h
      ·cases h;refine ⟨?_,by rw [aQ,aB];omega⟩;rw [oL,lP];exact ⟨⟨⟨show (0:Int)<=1 by decide,show (1:Int)<=14 by decide⟩,hT.at_,hT.n,aS _⟩,trivial⟩
      ·split at h
       ·have dF:=fj dM;have ha:=I (.named t'.at_ p.name.1 d) _ _ _ (dF.ok dM) (vl.to dF) ⟨hT.at_,ra p⟩ h;have h4:=(t1 _ _ _ _ (dF.ok dM) h).2.2.2;have h5:=dF.2.2.2;have h6:=ha.2;simp only [si] at h6;exact ⟨ha.1,by omega⟩
       ·split at h
        ·rename_i hs;split at h
         ·cases h
         ·rename_i a p' he;have ha:=I (.operand (d+1)) _ _ _ (hn.ok dM) (vl.to hn) trivial he;have h5:=(t1 _ _ _ _ (hn.ok dM) he).2.2.2;have h6:=ha.2;simp only [si] at h6;cases h;refine ⟨pg ar hT.at_ (by rcases hs with hs | hs | hs <;> rw [hs] <;> decide) (zy ha.1),?_⟩;rw [jP,tV];omega
        ·split at h
         ·split at h
          ·cases h
          ·rename_i a p' he;have ha:=I (.expr (d+1)) _ _ _ (hn.ok dM) (vl.to hn) trivial he;have gn:=hn.trans (t1 _ _ _ _ (hn.ok dM) he);have h5:=(t1 _ _ _ _ (hn.ok dM) he).2.2.2;have h6:=ha.2;simp only [si] at h6;cases h;have h7:=(bL (gn.ok dM) (s:=[41]) ar).2.2.2;exact ⟨ha.1,by omega⟩
         ·cases h;exact ⟨Gl,by rw [Gr];omega⟩
    ·cases h;exact ⟨Gl,by rw [Gr];omega⟩
   | named a s d =>
    rw [mE] at h;simp only [si];split at h
    ·rename_i hs;have hn:=dV hs ar
     have h8:p.next.i=p.i+1:=rfl
     split at h
     ·cases h
     ·rename_i a' p' he;have ha:=I (.expr (d+1)) _ _ _ (hn.ok hp) (hb.to hn) trivial he;have gn:=hn.trans (t1 _ _ _ _ (hn.ok hp) he);have h5:=(t1 _ _ _ _ (hn.ok hp) he).2.2.2;have h6:=ha.2;simp only [si] at h6;cases h;have h7:=(bL (gn.ok hp) (s:=[93]) ar).2.2.2;refine ⟨pg ar hj.1 hj.2 (zy ha.1),?_⟩;rw [jP,tV];omega
    ·split at h
     ·rename_i hs;have hn:=dV hs ar
      have h8:p.next.i=p.i+1:=rfl
      split at h
      ·cases h
      ·rename_i l p' he;have ha:=G _ _ _ _ (hn.ok hp) (hb.to hn) he;have h5:=(t2 _ _ _ _ (hn.ok hp) he).2.2.2;have h6:=ha.2;cases h;refine ⟨pg ar hj.1 hj.2 ha.1,?_⟩;rw [jP];omega
     ·cases h;refine ⟨pg ar hj.1 hj.2 (by rw [lP];trivial),?_⟩;rw [jP,aB];omega
  ·rw [mL] at h;split at h
   ·cases h;exact ⟨by rw [lP];trivial,by rw [aB];omega⟩
   ·split at h
    ·cases h
    ·rename_i a p' he;have gn:=t1 _ _ _ _ hp he;have ha:=I (.expr d) _ _ _ hp hb trivial he;have hl:=h3 _ _ _ _ _ (gn.ok hp) (hb.to gn) (zy ha.1) h;have h4:=(t3 _ _ _ _ _ (gn.ok hp) h).2.2.2;have h5:=gn.2.2.2;have h6:=ha.2;have h7:=hl.2;simp only [si] at h6;rw [tV] at h7;exact zfP
  ·rw [td] at h;split at h
   ·rename_i hs;have hn:=dV hs ar
    have h8:p.next.i=p.i+1:=rfl
    split at h
    ·cases h
    ·rename_i a p' he;have gn:=hn.trans (t1 _ _ _ _ (hn.ok hp) he);have h9:=(t1 _ _ _ _ (hn.ok hp) he).2.2.2;have ha:=I (.expr d) _ _ _ (hn.ok hp) (hb.to hn) trivial he;have hl:=h3 _ _ _ _ _ (gn.ok hp) (hb.to gn) (FE ‹lP acc› (zy ha.1)) h;have h4:=(t3 _ _ _ _ _ (gn.ok hp) h).2.2.2;have h6:=ha.2;have h7:=hl.2;simp only [si] at h6;rw [Gp,tV] at h7;exact zfP
   ·cases h;have h4:=(bL hp (s:=[41]) ar).2.2.2;exact ⟨‹lP _›,by omega⟩
theorem Cx {d:Nat} {p q:RS} {t:T} (hp:p.ok) (hb:SB p) (h:mX d p=some (t,q)):oL t/\aQ t<=1+2 * (q.i - p.i)/\p.i<=q.i:=by
 have:=(Xy _).1 (.expr d) _ _ _ hp hb trivial h;exact ⟨this.1,this.2,(gD hp h).2.2.2⟩
theorem QT {p:RS} {s:ae} (hs:s≠[]) (h:¬ p.code=0):¬ (p.aR s).code=0:=fun e=>h (uF hs e).2.1
theorem Xz:∀ (f:Nat),(∀ d p t q,p.ok->SB p->mS f (.block d) p=some (t,q)->oL t/\aQ t<=1+4 * (q.i - p.i)/\p.i<=q.i) /\
  (∀ d p t q,p.ok->SB p->mS f (.stmt d) p=some (t,q)->oL t/\aQ t<=2+4 * (q.i - p.i)/\(q.code=0->aQ t<=4 * (q.i - p.i))/\p.i<=q.i) /\
  (∀ a d p t q,p.ok->SB p->p.i < p.l.length->(0<=a/\a<=6000)->mS f (.cond a d) p=some (t,q)->oL t/\aQ t<=2+4 * (q.i - p.i)/\(q.code=0->aQ t<=4 * (q.i - p.i))/\p.i<=q.i) /\
  (∀ d acc p l q,p.ok->SB p->lP acc->mB f d acc p=some (l,q)->lP l/\(aB l<=aB acc+(if p.code=0 then 2 else 0)+4 * (q.i - p.i))/\p.i<=q.i)
 | 0=>⟨fun d p t q _ _ h=>by simp [mS] at h,fun d p t q _ _ h=>by simp [mS] at h,fun a d p t q _ _ _ _ h=>by simp [mS] at h,fun d acc p l q _ _ _ h=>by simp [mB] at h⟩
 | f+1=>by
  obtain ⟨I,G,h3,h4⟩:=Xz f;refine ⟨fun d p t q hp hb h=>?_,fun d p t q hp hb h=>?_,fun a d p t q hp hb au ha h=>?_,fun d acc p l q hp hb hac h=>?_⟩
  ·rw [mS] at h;have hd:=jh hp d
   have hi:(p.deep d).i=p.i:=by unfold RS.deep RS.fail;split <;> (try split) <;> rfl
   rw [<-hi];have dM:=hd.ok hp;have vl:=hb.to hd;generalize p.deep d=p at *
   try simp only at h
   have hm:=bL dM (s:=[123]) ar;split at h
   ·cases h
   ·rename_i l q' he;have hl:=h4 _ _ _ _ _ (hm.ok dM) (vl.to hm) (by rw [lP];trivial) he;have gn:=hm.trans ((sq f).2 _ _ _ _ _ (hm.ok dM) he);cases h;have h5:=(bL (gn.ok dM) (s:=[125]) ar).2.2.2;have h6:=hm.2.2.2;refine ⟨pg ar vl.place (aS _) hl.1,?_,by have:=hl.2.2;omega⟩;rw [jP];have h7:=hl.2.1;have h8:=hl.2.2;rw [aB] at h7;split at h7
    ·rename_i hc;have h9:=(uF ar hc).1
     have qa:(p.aR [123]).i=p.i+1:=by rw [h9];rfl
     omega
    ·omega
  ·rw [mS] at h;have hd:=jh hp d
   have hi:(p.deep d).i=p.i:=by unfold RS.deep RS.fail;split <;> (try split) <;> rfl
   rw [<-hi];have dM:=hd.ok hp;have vl:=hb.to hd;generalize p.deep d=p at *
   try simp only at h
   have cH:=vl.place
   have last:∀ (q':RS),p.to q'->q'.i<=(q'.aR [59]).i/\((q'.aR [59]).code=0->(q'.aR [59]).i=q'.i+1):=fun q' hq=>⟨(bL (hq.ok dM) ar).2.2.2,fun hc=>by rw [(uF ar hc).1];rfl⟩
   split at h
   ·rename_i hs;have hn:=dV hs ar;have dF:=hn.trans (fj (hn.ok dM));have fM:=dF.trans (bL (dF.ok dM) (s:=[61]) ar);split at h
    ·cases h
    ·rename_i e q' he;have hx:=Cx (fM.ok dM) (vl.to fM) he;have yP:=last _ (fM.trans (gD (fM.ok dM) he));have h5:=((fj (hn.ok dM)).trans (bL (dF.ok dM) (s:=[61]) ar)).2.2.2
     have h8:p.next.i=p.i+1:=rfl
     cases h;refine ⟨pg ar cH (ra _) (zy hx.1),?_,fun hc=>?_,?_⟩
     ·exact zfn
     ·exact zc5
     ·have:=hx.2;omega
   ·split at h
    ·rename_i hs;refine h3 _ _ _ _ _ dM vl ?_ cH h
     rcases hs with hs | hs
     ·exact zer
     ·exact zer
    ·split at h
     ·rename_i hs;have hn:=dV hs ar;split at h
      ·cases h
      ·rename_i e q' he;have hx:=Cx (hn.ok dM) (vl.to hn) he;have yP:=last _ (hn.trans (gD (hn.ok dM) he))
       have h8:p.next.i=p.i+1:=rfl
       cases h;refine ⟨pg ar cH (aS _) (zy hx.1),?_,fun hc=>?_,?_⟩
       ·exact zfn
       ·exact zc5
       ·have:=hx.2;omega
     ·split at h
      ·have dF:=fj dM;have fM:=dF.trans (bL (dF.ok dM) (s:=[61]) ar);split at h
       ·cases h
       ·rename_i e q' he;have hx:=Cx (fM.ok dM) (vl.to fM) he;have yP:=last _ (fM.trans (gD (fM.ok dM) he));have h5:=fM.2.2.2;cases h;refine ⟨pg ar cH (ra _) (zy hx.1),?_,fun hc=>?_,?_⟩
        ·exact zfn
        ·exact zc5
        ·have:=hx.2;omega
      ·split at h
       ·cases h
       ·rename_i e q' he;have qg:=gD dM he;have hx:=Cx dM vl he;split at h
        ·rename_i hs;have wV:=dV hs.2.2 ar;have hn:=qg.trans wV;split at h
         ·rename_i a r v p2 hk oU;have hv:=Cx (hn.ok dM) (vl.to hn) oU;have yP:=last _ (hn.trans (gD (hn.ok dM) oU))
          have h8:q'.next.i=q'.i+1:=rfl
          have Xc:oL a:=by have:=hx.1.kids;rw [hk,lP] at this;exact this.1
          have hza:aQ a+1<=aQ e:=by
           cases e with
           | mk n l =>
            have hk:l=a::r:=hk;rw [aQ,hk,aB];omega
          cases h;refine ⟨pg ar cH hx.1.n.s (OG Xc hv.1),?_,fun hc=>?_,?_⟩
          ·rw [jP,Gn];have:=hx.2;have:=hv.2;omega
          ·rw [jP,Gn];have:=hx.2;have:=hv.2;have:=yP.2 hc;omega
          ·have:=hx.2;have:=hv.2;omega
         ·cases h
        ·have yP:=last _ qg;cases h;refine ⟨pg ar cH (aS _) (zy hx.1),?_,fun hc=>?_,?_⟩
         ·exact zfn
         ·exact zc5
         ·have:=hx.2;omega
  ·rw [mS] at h;have hn:=cX au
   have h8:p.next.i=p.i+1:=rfl
   have hm:=hn.trans (bL (hn.ok hp) (s:=[40]) ar);have h5:=(bL (hn.ok hp) (s:=[40]) ar).2.2.2
   have ud:0<=p.ck/\p.ck<=14:=by unfold RS.ck;split <;> decide
   try simp only at h
   split at h
   ·cases h
   ·rename_i e q' he;have hx:=Cx (hm.ok hp) (hb.to hm) he;have py:=(hm.trans (gD (hm.ok hp) he)).trans (bL ((hm.trans (gD (hm.ok hp) he)).ok hp) (s:=[41]) ar);have h6:=(bL ((hm.trans (gD (hm.ok hp) he)).ok hp) (s:=[41]) ar).2.2.2;split at h
    ·cases h
    ·rename_i b q2 eN;have vk:=I _ _ _ _ (py.ok hp) (hb.to py) eN;have gn:=py.trans ((sq f).1 _ _ _ _ (py.ok hp) (fun a d' h=>by cases h) eN);split at h
     ·rename_i hs;have cx:=gn.trans (dV hs.2 ar)
      have h9:q2.next.i=q2.i+1:=rfl
      split at h
      ·cases h
      ·rename_i b2 q3 adf;have eM:=I _ _ _ _ (cx.ok hp) (hb.to cx) adf;cases h;refine ⟨pg ud ha (aS _) (by rw [lP];exact ⟨hx.1,OG vk.1 eM.1⟩),?_,fun hc=>?_,?_⟩
       ·rw [jP,abn];exact zeZ
       ·rw [jP,abn];exact zeZ
       ·exact zeZ
     ·cases h;refine ⟨pg ud ha (aS _) (OG hx.1 vk.1),?_,fun hc=>?_,?_⟩
      ·rw [jP,Gn];have:=hx.2;have:=vk.2;omega
      ·rw [jP,Gn];have:=hx.2;have:=vk.2;omega
      ·have:=hx.2;have:=vk.2;omega
  ·rw [mB] at h;split at h
   ·rename_i hc;split at h
    ·cases h
    ·rename_i a p' he;have hs:=G _ _ _ _ hp hb he;have gn:=(sq f).1 _ _ _ _ hp (fun a d' h=>by cases h) he;have hl:=h4 _ _ _ _ _ (gn.ok hp) (hb.to gn) (FE hac (zy hs.1)) h;have h5:=hl.2.1;have h6:=hl.2.2;rw [Gp,tV] at h5;refine ⟨hl.1,?_,by have:=hs.2.2.2;omega⟩;rw [ah hc.1];split at h5
     ·rename_i mu;have:=hs.2.2.1 mu;have:=hs.2.2.2;omega
     ·have:=hs.2.1;have:=hs.2.2.2;omega
   ·cases h;exact ⟨hac,by split <;> omega,aI _⟩
open Go.Im
abbrev wNd (n:Nd):Nat:=n.s.length+n.kids.length+1
mutual
theorem WI:∀ (t:T) (a:Nat),oL t->cD wNd (jJ a t)+1<=14 * aQ t
 | .mk n l,a,h=>by
  rw [oL] at h;have I:=h.1.s;have G:=WG l (a+1) h.2;rw [jJ,cD,aQ];show n.s.length+(bJ (a+1) l).length+1+_+1<=_;rw [dy];omega
theorem WG:∀ (l:List T) (a:Nat),lP l->cD wNd (eD a l)+l.length<=14 * aB l
 | [],a,h=>by rw [eD,cD,aB];exact aI _
 | t::r,a,h=>by
  rw [lP] at h;have I:=WI t a h.1;have G:=WG r (a+aQ t) h.2;rw [eD,uO,aB,length_cons];omega
end
mutual
theorem WH:∀ (t:T) (a:Nat),oL t->∀ n∈jJ a t,0<=n.n/\n.n<=2147483647
 | .mk n l,a,h,m,hm=>by
  rw [oL] at h;rw [jJ] at hm
  rcases fh hm with rfl | hm
  ·exact h.1.n
  ·exact WE l (a+1) h.2 m hm
theorem WE:∀ (l:List T) (a:Nat),lP l->∀ n∈eD a l,0<=n.n/\n.n<=2147483647
 | [],a,h,m,hm=>by rw [eD] at hm;cases hm
 | t::r,a,h,m,hm=>by
  rw [lP] at h;rw [eD] at hm
  rcases mo hm with hm | hm
  ·exact WH t a h.1 m hm
  ·exact WE r (a+aQ t) h.2 m hm
end
structure PB (p:Src) (i:Nat):Prop where
 w:b7 p<=100 * i
 num:ma p
def HA:Src:=⟨[],[],[],[]⟩
theorem PB.no:PB HA 0:=⟨aI _,⟨(fun a h=>by simp [HA] at h),(fun a h=>by simp [HA] at h)⟩⟩
theorem PB.ac5 {p:Src} {i j:Nat} (h:PB p i) (s:ae) (hs:s.length<=12) (fy:i < j):PB ⟨p.globals++[s],p.arrays,p.fns,p.nodes⟩ j:=by
 refine ⟨?_,h.num.arrays,h.num.nodes⟩;exact zfX
theorem PB.arr {p:Src} {i j:Nat} (h:PB p i) (a:Ar) (hs:a.name.length<=12) (hz:0<=a.size/\a.size<=2147483647) (fy:i < j):PB ⟨p.globals,p.arrays++[a],p.fns,p.nodes⟩ j:=by
 refine ⟨?_,fun x hx=>?_,h.num.nodes⟩
 ·exact zfX
 ·rcases mo hx with hx | hx
  ·exact h.num.arrays x hx
  ·rw [List.mem_singleton] at hx;subst hx;omega
theorem Lq:∀ (l:List ae),(∀ s∈l,s.length<=12)->wS l<=13 * l.length
 | [],_=>aI _
 | s::l,h=>by
  have I:=h s zf8
  have G:=Lq l fun s hs=>h s (by simp [hs])
  unfold wS at *;rw [cD,length_cons];omega
theorem PB.fn {p:Src} {i j:Nat} (h:PB p i) (f:Fn) (t:T) (hs:f.name.length<=12) (hp:∀ s∈f.params,s.length<=12) (ht:oL t) (k b:Nat) (hk:f.params.length<=k) (hb:aQ t<=1+4 * b) (fy:i+1+k+b<=j):PB ⟨p.globals,p.arrays,p.fns++[f],p.nodes++jJ p.nodes.length t⟩ j:=by
 refine ⟨?_,h.num.arrays,fun x hx=>?_⟩
 ·have I:=h.w;have G:=WI t p.nodes.length ht;have h3:=Lq f.params hp;unfold b7 at *;simp only [uO,cD] at *;have e:cD (fun n:Nd=>n.s.length+n.kids.length+1) (jJ p.nodes.length t)=cD wNd (jJ p.nodes.length t):=rfl;omega
 ·rcases mo hx with hx | hx
  ·exact h.num.nodes x hx
  ·have:=WH t _ ht x hx;omega
theorem wj {p:Src} (h:ma p) (i:Nat) {x:Nd} (hx : -9223372036854775808<=x.n/\x.n<=9223372036854775807):ma ⟨p.globals,p.arrays,p.fns,p.nodes.set i x⟩ :=
 ⟨h.arrays,fun y hy=>by rcases List.mem_or_eq_of_mem_set hy with hy | hy;exact h.nodes y hy;subst hy;exact hx⟩
theorem adQ {p:Src} {i:Nat} {x:Nd} (h:p.nodes[i]?=some x):x.s.length+x.kids.length+1<=b7 p:=by
 have:=uQ (f:=fun n:Nd=>n.s.length+n.kids.length+1) (bo h);unfold b7;omega
theorem acM (p:Src) (f g:Fn) (r:List Fn) (h:p.fns=f::r) (hn:g.name=f.name) (hp:g.params=f.params):b7 ⟨p.globals,p.arrays,g::r,p.nodes⟩=b7 p:=by
 unfold b7;simp only [h,cD,hn,hp]
theorem acL (p:Src) (a:Ar):b7 ⟨p.globals,p.arrays++[a],p.fns,p.nodes⟩=b7 p+a.name.length+1:=by
 unfold b7;simp only [uO,cD];omega
theorem HC (s:ae):∀ (f:Nat) (n:Int) (a:Nat),0<=n->0<=(number s f n a).1
 | 0,n,a,h=>h
 | f+1,n,a,h=>by
  rw [number]
  cases hc:s[a]? with
  | none=>exact h
  | some c =>
   simp only
   by_cases hd:eV c=true
   ·rw [ah hd];refine HC s f _ _ ?_;split
    ·have qb:(48:Int)<=(c.toNat:Int):=by
      unfold eV at hd;simp only [aK,decide_eq_true_eq] at hd;exact hd.1
     omega
    ·exact h
   ·rw [ab hd];exact h
theorem S9 {s:ae} {a:Nat} {c:UInt8} (hc:s[a]?=some c) (hd:eV c=true) (n:Int):a < (number s (s.length+1) n a).2:=by
 have au:=(bB hc).1;rw [number,hc];simp only;rw [ah hd];have:=(vX s s.length (if n<=2147483647 then n * 10+((c.toNat:Int) - 48) else n) (a+1) av av).2.1;omega
theorem Tp:∀ x∈cr,1<=x.length:=by decide
theorem Wa {s:ae} {a:Nat} {c:UInt8} (hc:s[a]?=some c) (hk:¬ (ia s a c).1.kind=0):a < (ia s a c).2:=by
 have au:=(bB hc).1;unfold ia at hk |-
 by_cases hd:eV c=true
 ·rw [ah hd];exact S9 hc hd 0
 ·rw [ab hd] at hk |-
  by_cases hs:small c=true
  ·rw [ah hs];show a < gI s a;unfold gI;rw [run,hc];simp only;rw [ah (by unfold ff;rw [hs];rfl)];have:=(rB s ff s.length (a+1) av av).2.1;omega
  ·rw [ab hs] at hk |-;split
   ·rename_i x hx;have:=Tp x (List.mem_of_find?_eq_some hx);show a < a+x.length;omega
   ·rename_i hx;rw [hx] at hk;exact absurd rfl hk
theorem Zx {s:ae} {a:Nat} {c:UInt8} (hc:s[a]?=some c) (hl:s.length<=6000) (hn:(ia s a c).1.n<=2147483647):Fy (ia s a c).1:=by
 have au:=(bB hc).1;unfold ia at hn |-
 by_cases hd:eV c=true
 ·rw [ah hd] at hn |-;exact ⟨⟨by show (0:Int)<=(a:Int);omega,by show (a:Int)<=6000;omega⟩,HC s _ 0 a (Int.le_refl _),hn⟩
 ·rw [ab hd] at hn |-
  by_cases hs:small c=true
  ·rw [ah hs] at hn |-;exact ⟨⟨by show (0:Int)<=(a:Int);omega,by show (a:Int)<=6000;omega⟩,Int.le_refl _,hn⟩
  ·rw [ab hs] at hn |-;split
   ·exact ⟨⟨by show (0:Int)<=(a:Int);omega,by show (a:Int)<=6000;omega⟩,Int.le_refl _,by show (0:Int)<=2147483647;omega⟩
   ·exact ⟨⟨Int.le_refl _,by show (0:Int)<=6000;omega⟩,Int.le_refl _,by show (0:Int)<=2147483647;omega⟩
theorem xb {α:Type} {f:α->Nat} (h:∀ x,1<=f x):∀ l:List α,l.length<=cD f l
 | []=>aI _
 | x::l=>by have I:=h x;have G:=xb h l;rw [cD,length_cons];omega
theorem sF (p:Src):p.globals.length<=b7 p/\p.arrays.length<=b7 p/\p.fns.length<=b7 p/\p.nodes.length<=b7 p:=by
 have I:p.globals.length<=wS p.globals:=xb (fun s=>Nat.le_add_left 1 _) _;have G:=xb (f:=fun a:Ar=>a.name.length+1) (fun s=>Nat.le_add_left 1 _) p.arrays;have h3:=xb (f:=fun f:Fn=>f.name.length+wS f.params+1) (fun s=>Nat.le_add_left 1 _) p.fns;have h4:=xb (f:=fun n:Nd=>n.s.length+n.kids.length+1) (fun s=>Nat.le_add_left 1 _) p.nodes;unfold b7;omega
def su (p:RS):Int × RS:=match p.l[p.i]? with
 | some t=>if t.kind=1 then (t.n,p.next) else (0,p.fail 7 p.place)
 | none=>(0,p.fail 7 p.place)
theorem Oe {p:RS} (hp:p.ok):p.to (su p).2:=by
 unfold su
 cases ht:p.l[p.i]? with
 | none=>exact zfL
 | some t =>
  simp only;split
  ·exact cX (bB ht).1
  ·exact zfL
theorem V3 {p:RS} (h:SB p):0<=(su p).1/\(su p).1<=2147483647:=by
 unfold su
 cases ht:p.l[p.i]? with
 | none=>exact zcb
 | some t =>
  simp only;split
  ·exact (h.at ht).n
  ·exact zcb
end Go.Sp
namespace Go.Im
open Go.Xp Go.Sp
theorem AR {p:Src} {l:List T} (h:jj p l):∀ a∈p.arrays,0<=a.size/\a.size<=2147483647:=fun a ha=>by
 have:=jb.1 h.arrays a ha;unfold rL at this;simp only [aK,Bool.not_eq_true',decide_eq_false_iff_not] at this;omega
def so:ae:=[103,101,116]
def tO:ae:=[112,117,116]
def eA:ae:=[115,105,122,101]
def yY:ae:=[109,97,105,110]
def pJ (s:ae):Bool:=(s==so || s==tO) || s==eA
def du {α:Type} (f:α->Bool) (l:List α):Int:=match l.findIdx? f with | some i=>(i:Int) | none => -1
def rv (p:Src) (s:ae):Int:=du (fun f:Fn=>f.name==s) p.fns
def B6 (p:Src) (s:ae):Int:=du (fun a:Ar=>a.name==s) p.arrays
def gF (p:Src):List ae:=p.arrays.map fun a:Ar=>a.name
def kZ (p:Src):List ae:=p.fns.map fun f:Fn=>f.name
def dL (p:Src):List ae:=(p.globals++gF p)++kZ p
def pK (t:T):Nd:=match t.kids with | k::_=>k.n | []=>⟨0,0,0,[],[]⟩
def dO (t:T):Bool:=(t.n.kind==4&&t.n.s==eA)&&(t.kids.length==1)
def o7 (p:Src) (i:Nat):Nat:=match p.fns[i]? with | some f=>f.params.length | none=>0
def oF (p:Src) (s:ae):Int:=if s=so then 0 else if s=tO\/s=eA then 1 else match p.fns.findIdx? (fun f:Fn=>f.name==s) with | some i=>(o7 p i:Int) | none => -1
def gM (p:Src) (k:Nd) (ls:List ae):Bool:=(k.kind != 2 || decide (B6 p k.s < 0)) || ls.contains k.s
def eT (p:Src) (t:T) (ls:List ae):Int :=
 if dO t=true then (if gM p (pK t) ls=true then 24 else 0)
 else if oF p t.n.s = -1 then 22 else if oF p t.n.s=(t.kids.length:Int) then 0 else 23
def cJ (p:Src) (t:T) (ls:List ae):Int :=
 if t.n.kind=13 then (if ls.contains t.n.s=true then 21 else if ls.length>=40 then 26 else 0)
 else if t.n.kind=2\/t.n.kind=7 then (if ls.contains t.n.s=false/\p.globals.contains t.n.s=false then 22 else 0)
 else if t.n.kind=3\/t.n.kind=8 then (if ls.contains t.n.s=true\/B6 p t.n.s < 0 then 24 else 0)
 else if t.n.kind=4 then eT p t ls
 else 0
structure CS where
 code:Int
 place:Int
 skip:Int
def dz (p:Src) (c:CS) (a:Nat) (t:T) (ls:List ae):CS :=
 if c.code≠0\/(a:Int)=c.skip then c
 else ⟨cJ p t ls,if cJ p t ls≠0 then t.n.at_ else c.place,if dO t=true then (if (pK t).kind≠2 then -1 else ((a+1:Nat):Int)) else c.skip⟩
mutual
def fF {σ:Type} (f:σ->Nat->T->List ae->σ):T->Nat->σ->List ae->σ × List ae
 | .mk n l,a,s,ls=>((cU f l (a+1) (f s a (.mk n l) ls) ls).1,if n.kind=13 then (cU f l (a+1) (f s a (.mk n l) ls) ls).2++[n.s] else (cU f l (a+1) (f s a (.mk n l) ls) ls).2)
def cU {σ:Type} (f:σ->Nat->T->List ae->σ):List T->Nat->σ->List ae->σ × List ae
 | [],_,s,ls=>(s,ls)
 | t::r,a,s,ls=>cU f r (a+aQ t) (fF f t a s ls).1 (fF f t a s ls).2
end
theorem yF {σ:Type} (f:σ->Nat->T->List ae->σ) (t:T) (a:Nat) (s:σ) (ls:List ae) :
  fF f t a s ls=((cU f t.kids (a+1) (f s a t ls) ls).1,if t.n.kind=13 then (cU f t.kids (a+1) (f s a t ls) ls).2++[t.n.s] else (cU f t.kids (a+1) (f s a t ls) ls).2):=by
 cases t;rw [fF];rfl
def rq (l:List ae) (k:Nat):Bool:=match l[k]? with | some s=>(l.take k).contains s | none=>false
def yd (l:List ae):Bool:=(List.range l.length).any (rq l)
def im (p:Src) (f:Fn) (t:T) (a:Nat):Int × Int :=
 if yd f.params=true then (21,0) else ((fF (dz p) t a ⟨0,0,-1⟩ f.params).1.code,(fF (dz p) t a ⟨0,0,-1⟩ f.params).1.place)
def nJ (l:List ae) (k:Nat):Bool:=match l[k]? with | some s=>pJ s || (l.take k).contains s | none=>false
def fD (l:List ae):Bool:=(List.range l.length).any (nJ l)
def eU (l:List Ar):Int:=l.foldl (fun n a=>n+a.size) 0
def jF (p:Src):Bool:=p.arrays.any (fun a=>a.size==0) || ((((decide (p.fns.length > 40) || decide (p.globals.length > 29)) || decide (eU p.arrays > 8000))) || p.fns.any fun f=>decide (f.params.length > 40))
def qj (f:Fn):Bool:=f.name==yY&&f.params.length==0
def iq (p:Src):List Fn->List T->Nat->Int × Int
 | f::r,t::l,a=>if (im p f t a).1≠0 then im p f t a else iq p r l (a+aQ t)
 | _,_,_=>(0,0)
def Ed (p:Src) (l:List T):Int × Int :=
 if fD (dL p)=true then (21,0) else if jF p=true then (26,0) else if p.fns.any qj=false then (25,0) else iq p p.fns l 0
def de (p:Src):Bool:=fI p&&(match jX p.nodes p.fns 0 [] with | some (l,_)=>decide ((Ed p l).1=0) | none=>false)
structure SS where
 ls:List ae
 code:Int
 at_:Int
def SS.fail (c:SS) (k a:Int):SS:=if c.code=0 then ⟨c.ls,k,a⟩ else c
def gk (c:SS) (n:Nd) (k want:Nat):SS:=if k≠want then c.fail 23 n.at_ else c
def iz (p:Src) (c:SS) (t:T):SS × Bool :=
 if t.n.s=so then (gk c t.n t.kids.length 0,true)
 else if t.n.s=tO then (gk c t.n t.kids.length 1,true)
 else if t.n.s=eA then (gk (if t.kids.length=1/\gM p (pK t) c.ls=true then c.fail 24 t.n.at_ else c) t.n t.kids.length 1,false)
 else match p.fns.findIdx? (fun f:Fn=>f.name==t.n.s) with
  | none=>(c.fail 22 t.n.at_,false)
  | some i=>(gk c t.n t.kids.length (o7 p i),true)
def mf (p:Src) (c:SS) (t:T):SS × Bool :=
 if t.n.kind=2\/t.n.kind=7 then (if c.ls.contains t.n.s=false/\p.globals.contains t.n.s=false then c.fail 22 t.n.at_ else c,true)
 else if t.n.kind=3\/t.n.kind=8 then (if c.ls.contains t.n.s=true\/B6 p t.n.s < 0 then c.fail 24 t.n.at_ else c,true)
 else if t.n.kind=4 then iz p c t
 else (c,true)
def pk (c:SS) (n:Nd):SS :=
 if n.kind≠13 then c
 else if c.ls.contains n.s=true then ⟨(c.fail 21 n.at_).ls++[n.s],(c.fail 21 n.at_).code,(c.fail 21 n.at_).at_⟩
 else if c.ls.length=40 then ⟨(c.fail 26 n.at_).ls++[n.s],(c.fail 26 n.at_).code,(c.fail 26 n.at_).at_⟩
 else ⟨c.ls++[n.s],c.code,c.at_⟩
mutual
def qH (p:Src):T->SS->SS
 | .mk n l,c=>pk (if (mf p c (.mk n l)).2=true then kK p l (mf p c (.mk n l)).1 else (mf p c (.mk n l)).1) n
def kK (p:Src):List T->SS->SS
 | [],c=>c
 | t::r,c=>kK p r (qH p t c)
end
theorem y8 (p:Src) (t:T) (c:SS):qH p t c=pk (if (mf p c t).2=true then kK p t.kids (mf p c t).1 else (mf p c t).1) t.n:=by cases t;rw [qH];rfl
mutual
def ur:T->Prop
 | .mk n l=>n.kind≠13/\me l
def me:List T->Prop
 | []=>True
 | t::r=>ur t/\me r
end
mutual
def gZ:T->Prop
 | .mk n l=>(n.kind=13->me l)/\(n.kind=2->l=[])/\et l
def et:List T->Prop
 | []=>True
 | t::r=>gZ t/\et r
end
mutual
theorem aco:∀ t:T,ur (er t)↔ur t
 | .mk n l=>by rw [er,ur,ur,Kw l]
theorem Kw:∀ l:List T,me (bf l)↔me l
 | []=>by rw [bf]
 | t::r=>by rw [bf,me,me,aco t,Kw r]
end
theorem Yo {l:List T}:bf l=[]↔l=[]:=by
 cases l with
 | nil=>rw [bf]
 | cons t r=>rw [bf];simp
mutual
theorem XW:∀ t:T,gZ (er t)↔gZ t
 | .mk n l=>by rw [er,gZ,gZ,Kw l,TU l,Yo]
theorem TU:∀ l:List T,et (bf l)↔et l
 | []=>by rw [bf]
 | t::r=>by rw [bf,et,et,XW t,TU r]
end
mutual
theorem E.nv:∀ a:E,ur a.tree
 | .num n=>by rw [E.tree,ur];exact ⟨by simp,trivial⟩
 | .name s=>by rw [E.tree,ur];exact ⟨by simp,trivial⟩
 | .at_ s a=>by rw [E.tree,ur,me,me];exact ⟨by simp,E.nv a,trivial⟩
 | .call s l=>by rw [E.tree,ur];exact ⟨by simp,E.nvs l⟩
 | .un s a=>by rw [E.tree,ur,me,me];exact ⟨by simp,E.nv a,trivial⟩
 | .bin s a b=>by rw [E.tree,ur,me,me,me];exact ⟨by simp,E.nv a,E.nv b,trivial⟩
theorem E.nvs:∀ l:List E,me (E.trees l)
 | []=>trivial
 | a::l=>by rw [E.trees,me];exact ⟨E.nv a,E.nvs l⟩
end
mutual
theorem E.wf:∀ a:E,gZ a.tree
 | .num n=>zeB
 | .name s=>zeB
 | .at_ s a=>by rw [E.tree,gZ,et,et];exact zaM
 | .call s l=>by rw [E.tree,gZ];exact ⟨fun h=>absurd h zf8,fun h=>absurd h zf8,E.Fs l⟩
 | .un s a=>by rw [E.tree,gZ,et,et];exact zaM
 | .bin s a b=>by rw [E.tree,gZ,et,et,et];exact zdI
theorem E.Fs:∀ l:List E,et (E.trees l)
 | []=>trivial
 | a::l=>by rw [E.trees,et];exact ⟨E.wf a,E.Fs l⟩
end
mutual
theorem S.wf:∀ a:S,gZ a.tree
 | .set s a=>by rw [S.tree,gZ,et,et];exact zaM
 | .put s a b=>by rw [S.tree,gZ,et,et,et];exact zdI
 | .if1 c b=>zbI
 | .if2 c b d=>by rw [S.tree,gZ,et,et,et,et,gZ,gZ];exact ⟨fun h=>absurd h zf8,fun h=>absurd h zf8,E.wf c,⟨fun h=>absurd h zf8,fun h=>absurd h zf8,S.Fs b⟩,⟨fun h=>absurd h zf8,fun h=>absurd h zf8,S.Fs d⟩,trivial⟩
 | .while_ c b=>zbI
 | .ret a=>by rw [S.tree,gZ,et,et];exact zaM
 | .do_ a=>by rw [S.tree,gZ,et,et];exact zaM
 | .var s a=>by rw [S.tree,gZ,et,et,me,me];exact ⟨fun _=>⟨E.nv a,trivial⟩,fun h=>absurd h zf8,E.wf a,trivial⟩
theorem S.Fs:∀ l:List S,et (S.trees l)
 | []=>trivial
 | a::l=>by rw [S.trees,et];exact ⟨S.wf a,S.Fs l⟩
end
theorem abr (l:List S):gZ (cR l):=by
 rw [cR,gZ];exact ⟨fun h=>absurd h zf8,fun h=>absurd h zf8,S.Fs l⟩
theorem SS.ru (c:SS) (k a:Int):(c.fail k a).ls=c.ls:=by unfold SS.fail;split <;> rfl
theorem Az (c:SS) (n:Nd) (k w:Nat):(gk c n k w).ls=c.ls:=by unfold gk;split;(· exact c.ru _ _);rfl
theorem zf (p:Src) (c:SS) (t:T):(mf p c t).1.ls=c.ls:=by
 unfold mf iz;split
 ·simp only;split;(· exact c.ru _ _);rfl
 split
 ·simp only;split;(· exact c.ru _ _);rfl
 split
 ·split
  ·exact Az _ _ _ _
  split
  ·exact Az _ _ _ _
  split
  ·simp only;rw [Az];split;(· exact c.ru _ _);rfl
  split
  ·exact c.ru _ _
  ·exact Az _ _ _ _
 ·rfl
mutual
theorem acm (p:Src):∀ (t:T),ur t->∀ c,(qH p t c).ls=c.ls
 | .mk n l,h,c=>by
  rw [ur] at h;rw [qH,pk,ah h.1];split
  ·rw [Kr p l h.2,zf]
  ·exact zf _ _ _
theorem Kr (p:Src):∀ (l:List T),me l->∀ c,(kK p l c).ls=c.ls
 | [],_,c=>by rw [kK]
 | t::r,h,c=>by
  rw [me] at h;rw [kK,Kr p r h.2,acm p t h.1]
end
theorem SS.Ch {c:SS} (h:c.code≠0) (k a:Int):c.fail k a=c:=by unfold SS.fail;rw [ab h]
theorem SS.sN (c:SS) {k:Int} (hk:k≠0) (a:Int):(c.fail k a).code≠0:=by
 unfold SS.fail;split
 ·exact hk
 ·assumption
theorem Wn {c:SS} (h:c.code≠0) (n:Nd) (k w:Nat):gk c n k w=c:=by unfold gk;rw [SS.Ch h];split <;> rfl
theorem Y5 (p:Src) {c:SS} (h:c.code≠0) (t:T):(mf p c t).1=c:=by
 unfold mf iz;simp only [SS.Ch h,Wn h,ite_self];split
 ·rfl
 split
 ·rfl
 split
 ·split
  ·rfl
  split
  ·rfl
  split
  ·rfl
  split <;> rfl
 ·rfl
theorem CE {c:SS} (h:c.code≠0) (n:Nd):(pk c n).code≠0:=by
 unfold pk;rw [SS.Ch h,SS.Ch h];split
 ·exact h
 split
 ·exact h
 split <;> exact h
mutual
theorem XA (p:Src):∀ (t:T) (c:SS),c.code≠0->(qH p t c).code≠0
 | .mk n l,c,h=>by
  rw [qH];refine CE ?_ n;rw [Y5 p h];split
  ·exact y9 p l c h
  ·exact h
theorem y9 (p:Src):∀ (l:List T) (c:SS),c.code≠0->(kK p l c).code≠0
 | [],c,h=>by rw [kK];exact h
 | t::r,c,h=>by rw [kK];exact y9 p r _ (XA p t c h)
end
theorem V5 (p:Src) {c:CS} (h:c.code≠0) (a:Nat) (t:T) (ls:List ae):dz p c a t ls=c:=by unfold dz;rw [ah (.inl h)]
mutual
theorem abN (p:Src):∀ (t:T) (a:Nat) (c:CS) (ls:List ae),c.code≠0->(fF (dz p) t a c ls).1=c
 | .mk n l,a,c,ls,h=>by rw [fF,V5 p h];exact yG p l _ c ls h
theorem yG (p:Src):∀ (l:List T) (a:Nat) (c:CS) (ls:List ae),c.code≠0->(cU (dz p) l a c ls).1=c
 | [],a,c,ls,h=>by rw [cU]
 | t::r,a,c,ls,h=>by
  have I:=abN p t a c ls h;rw [cU,I];exact yG p r _ c _ h
end
def GM (a:Nat) (r:CS × List ae) (q:SS):Prop:=(r.1.code=0/\q.code=0/\r.2=q.ls/\r.1.skip < (a:Int)/\q.ls.length<=40)\/(r.1.code≠0/\q.code≠0)
theorem V1 (p:Src) (t:T) (J0:t.n.kind=13->me t.kids) (qY:∀ k∈t.kids,k.n.kind=2->k.kids=[])
  (ih:∀ (a:Nat) (r:CS) (q:SS),r.code=0->q.code=0->r.skip < (a:Int)->q.ls.length<=40->GM (a+aB t.kids) (cU (dz p) t.kids a r q.ls) (kK p t.kids q))
  (a:Nat) (r:CS) (q:SS) (hr:r.code=0) (hq:q.code=0) (hs:r.skip < (a:Int)) (hl:q.ls.length<=40):GM (a+aQ t) (fF (dz p) t a r q.ls) (qH p t q):=by
 have cj:¬ (r.code≠0\/(a:Int)=r.skip):=by
  rintro (h | h)
  ·exact h hr
  ·omega
 obtain ⟨pl,b6⟩:∃ pl,dz p r a t q.ls=⟨cJ p t q.ls,pl,if dO t=true then (if (pK t).kind≠2 then -1 else ((a+1:Nat):Int)) else r.skip⟩:=by
  unfold dz;rw [ab cj];exact zfd
 have dj:=fH t
 have bad:∀ x:SS,cJ p t q.ls≠0->x.code≠0->GM (a+aQ t) (fF (dz p) t a r q.ls) x:=fun x I G=>by
  refine .inr ⟨?_,G⟩;rw [yF,b6];simp only;rw [yG p t.kids _ _ _ I];exact I
 have go:cJ p t q.ls=0->dO t=false->t.n.kind≠13->mf p q t=(q,true)->GM (a+aQ t) (fF (dz p) t a r q.ls) (qH p t q):=fun I G h3 h4=>by
  have:=ih (a+1) ⟨0,pl,r.skip⟩ q rfl hq zgV hl;rw [yF,y8,h4,b6,I,G,ab h3,pk,ah h3];simp only [if_true,Bool.false_eq_true,if_false];rw [show a+aQ t=a+1+aB t.kids by omega];exact this
 by_cases gx:t.n.kind=13
 ·have hnv:=J0 gx
  have hz:dO t=false:=by unfold dO;rw [gx];rfl
  have qW:mf p q t=(q,true):=by unfold mf;rw [ab av,ab av,ab av]
  have gW:(kK p t.kids q).ls=q.ls:=Kr p t.kids hnv q
  have vo:cJ p t q.ls=if q.ls.contains t.n.s=true then 21 else if q.ls.length>=40 then 26 else 0:=by
   unfold cJ;rw [ah gx]
  rw [y8,qW];simp only [if_true]
  by_cases hc:q.ls.contains t.n.s=true
  ·refine bad _ (by rw [vo,ah hc];decide) ?_;rw [pk,ab (by simpa using gx),gW,ah hc];exact SS.sN _ ar _
  by_cases h40:q.ls.length>=40
  ·refine bad _ (by rw [vo,ab hc,ah h40];decide) ?_;rw [pk,ab (by simpa using gx),gW,ab hc,ah av];exact SS.sN _ ar _
  have h0:cJ p t q.ls=0:=by rw [vo,ab hc,ab h40]
  have:=ih (a+1) ⟨0,pl,r.skip⟩ q rfl hq zgV hl;rw [pk,ab (by simpa using gx),gW,ab hc,ab av,yF,b6,h0,hz,ah gx];simp only [Bool.false_eq_true,if_false];rw [show a+aQ t=a+1+aB t.kids by omega]
  rcases this with ⟨k1,k2,k3,k4,k5⟩ | ⟨k1,k2⟩
  ·refine .inl ⟨k1,k2,?_,k4,?_⟩
   ·show _++_=_++_;rw [k3,gW]
   ·show (q.ls++[t.n.s]).length<=40;rw [aL,List.length_singleton];omega
  ·exact .inr ⟨k1,k2⟩
 by_cases G:t.n.kind=2\/t.n.kind=7
 ·have hz:dO t=false:=by
   exact zfQ
  by_cases hc:q.ls.contains t.n.s=false/\p.globals.contains t.n.s=false
  ·refine bad _ (by unfold cJ;rw [ab gx,ah G,ah hc];decide) ?_
   have qW:mf p q t=(q.fail 22 t.n.at_,true):=by unfold mf;rw [ah G,ah hc]
   exact zdW
  ·exact go (by unfold cJ;rw [ab gx,ah G,ab hc]) hz gx (by unfold mf;rw [ah G,ab hc])
 by_cases h3:t.n.kind=3\/t.n.kind=8
 ·have hz:dO t=false:=by
   exact zfQ
  by_cases hc:q.ls.contains t.n.s=true\/B6 p t.n.s < 0
  ·refine bad _ (by unfold cJ;rw [ab gx,ab G,ah h3,ah hc];decide) ?_
   have qW:mf p q t=(q.fail 24 t.n.at_,true):=by unfold mf;rw [ab G,ah h3,ah hc]
   exact zdW
  ·exact go (by unfold cJ;rw [ab gx,ab G,ah h3,ab hc]) hz gx (by unfold mf;rw [ab G,ah h3,ab hc])
 by_cases h4:t.n.kind=4
 ·have vo:cJ p t q.ls=eT p t q.ls:=by unfold cJ;rw [ab gx,ab G,ab h3,ah h4]
  have qW:mf p q t=iz p q t:=by unfold mf;rw [ab G,ab h3,ah h4]
  have fin:∀ x:SS × Bool,iz p q t=x->cJ p t q.ls≠0->x.1.code≠0->GM (a+aQ t) (fF (dz p) t a r q.ls) (qH p t q):=fun x hx I G=>by
   refine bad _ I ?_;rw [y8,qW,hx];refine CE ?_ t.n;split
   ·exact y9 p t.kids _ G
   ·exact G
  have Pa:dO t=((t.n.s==eA)&&(t.kids.length==1)):=by unfold dO;rw [h4];rfl
  have some_:∀ w:Nat,t.n.s≠eA->oF p t.n.s=(w:Int)->iz p q t=(gk q t.n t.kids.length w,true)->GM (a+aQ t) (fF (dz p) t a r q.ls) (qH p t q):=fun w e1 e2 e3=>by
   have hz:dO t=false:=by rw [Pa,show (t.n.s==eA)=false by simpa using e1];rfl
   have Hj:eT p t q.ls=if (w:Int)=(t.kids.length:Int) then 0 else 23:=by
    unfold eT;rw [hz,ab ar,e2,ab av]
   by_cases hk:t.kids.length=w
   ·refine go (by rw [vo,Hj,ah av]) hz gx ?_;rw [qW,e3,gk,ab zgy]
   ·refine fin _ e3 (by rw [vo,Hj,ab av];decide) ?_;rw [gk,ah hk];exact SS.sN _ ar _
  by_cases hg:t.n.s=so
  ·exact some_ 0 (by rw [hg];decide) (by unfold oF;rw [ah hg];rfl) (by unfold iz;rw [ah hg])
  by_cases hp:t.n.s=tO
  ·exact some_ 1 (by rw [hp];decide) (by unfold oF;rw [ab hg,ah (.inl hp)];rfl) (by unfold iz;rw [ab hg,ah hp])
  by_cases hz:t.n.s=eA
  ·have jL:iz p q t=(gk (if t.kids.length=1/\gM p (pK t) q.ls=true then q.fail 24 t.n.at_ else q) t.n t.kids.length 1,false):=by
    unfold iz;rw [ab hg,ab hp,ah hz]
   by_cases hk:t.kids.length=1
   ·have kE:dO t=true:=by rw [Pa,hz,hk];rfl
    have Hj:eT p t q.ls=if gM p (pK t) q.ls=true then 24 else 0:=by unfold eT;rw [ah kE]
    by_cases hb:gM p (pK t) q.ls=true
    ·refine fin _ jL (by rw [vo,Hj,ah hb];decide) ?_;rw [ah ⟨hk,hb⟩,gk,ab zgy];exact SS.sN _ ar _
    ·have adk:iz p q t=(q,false):=by rw [jL,ab (fun h=>hb h.2),gk,ab zgy]
     rw [y8,qW,adk,pk,ah gx];simp only [Bool.false_eq_true,if_false]
     have h0:cJ p t q.ls=0:=by rw [vo,Hj,ab hb]
     obtain ⟨k,ny⟩:∃ k,t.kids=[k]:=by
      match hl:t.kids,hk with
      | [k],_=>exact ⟨k,rfl⟩
     have Ey:pK t=k.n:=by unfold pK;rw [ny]
     have sT:k.n.kind=2:=by
      have:gM p k.n q.ls=false:=by rw [<-Ey];simpa using hb
      unfold gM at this;simp only [Bool.or_eq_false_iff] at this;simpa using this.1.1
     have eh:k.kids=[]:=qY k (by rw [ny];exact List.mem_singleton.2 rfl) sT
     have qV:aQ k=1:=by rw [fH,eh,aB]
     have Vc:∀ c:CS,((a+1:Nat):Int)=c.skip->dz p c (a+1) k q.ls=c:=fun c hc=>by unfold dz;rw [ah (.inr hc)]
     rw [yF,b6,h0,kE,ab gx,ny,Ey];simp only [if_true,cU];rw [yF,eh];simp only [cU];rw [ab (by rw [sT];decide),Vc _ rfl,ab (by rw [sT];decide)];refine .inl ⟨rfl,hq,rfl,?_,hl⟩;rw [dj,ny,aB,aB,qV];exact zcb
   ·have vq:dO t=false:=by rw [Pa,show (t.kids.length==1)=false by simpa using hk,Bool.and_false]
    refine fin _ jL ?_ ?_
    ·rw [vo];unfold eT;rw [vq,ab ar]
     have:oF p t.n.s=1:=by unfold oF;rw [ab hg,ah (.inr hz)]
     rw [this,ab ar,ab av];decide
    ·rw [ab (fun h=>hk h.1),gk,ah hk];exact SS.sN _ ar _
  have dF:oF p t.n.s=match p.fns.findIdx? (fun f:Fn=>f.name==t.n.s) with | some i=>(o7 p i:Int) | none => -1:=by
   unfold oF;rw [ab hg,ab (by rintro (h | h);(· exact hp h);exact hz h)]
  have jL:iz p q t=match p.fns.findIdx? (fun f:Fn=>f.name==t.n.s) with | none=>(q.fail 22 t.n.at_,false) | some i=>(gk q t.n t.kids.length (o7 p i),true):=by
   unfold iz;rw [ab hg,ab hp,ab hz]
  cases hf:p.fns.findIdx? (fun f:Fn=>f.name==t.n.s) with
  | some i =>
   rw [hf] at dF jL;exact some_ (o7 p i) hz dF jL
  | none =>
   rw [hf] at dF jL;refine fin _ jL ?_ (SS.sN _ ar _);rw [vo];unfold eT;rw [Pa,show (t.n.s==eA)=false by simpa using hz,Bool.false_and,ab ar,dF];simp
 ·exact go (by unfold cJ;rw [ab gx,ab G,ab h3,ab h4]) (by unfold dO;rw [show (t.n.kind==4)=false by simpa using h4];rfl) gx
   (by unfold mf;rw [ab G,ab h3,ab h4])
theorem Lv:∀ {l:List T},et l->∀ k∈l,gZ k
 | [],_,k,hk=>by cases hk
 | t::r,h,k,hk=>by
  rw [et] at h
  rcases fh hk with rfl | hk
  ·exact h.1
  ·exact Lv h.2 k hk
mutual
theorem abd (p:Src):∀ (t:T),gZ t->∀ (a:Nat) (r:CS) (q:SS),r.code=0->q.code=0->r.skip < (a:Int)->q.ls.length<=40->GM (a+aQ t) (fF (dz p) t a r q.ls) (qH p t q)
 | .mk n l,hw=>by
  rw [gZ] at hw;refine V1 p (.mk n l) hw.1 (fun k hk G=>?_) (abc p l hw.2.2);have:=Lv hw.2.2 k hk;obtain ⟨m,j⟩:=k;rw [gZ] at this;exact this.2.1 G
theorem abc (p:Src):∀ (l:List T),et l->∀ (a:Nat) (r:CS) (q:SS),r.code=0->q.code=0->r.skip < (a:Int)->q.ls.length<=40->GM (a+aB l) (cU (dz p) l a r q.ls) (kK p l q)
 | [],_,a,r,q,hr,hq,hs,hl=>by rw [cU,kK,aB];exact .inl ⟨hr,hq,rfl,by simpa using hs,hl⟩
 | t::l,hw,a,r,q,hr,hq,hs,hl=>by
  rw [et] at hw;rw [cU,kK,aB]
  rcases abd p t hw.1 a r q hr hq hs hl with ⟨k1,k2,k3,k4,k5⟩ | ⟨k1,k2⟩
  ·rw [k3];have:=abc p l hw.2 (a+aQ t) _ _ k1 k2 k4 k5;rw [iJ] at this;exact this
  ·exact .inr ⟨by rw [yG p l _ _ _ k1];exact k1,y9 p l _ k2⟩
end
def jk (c k:Int):Int:=if c=0 then k else c
def pR (a:Ar):Bool:=decide (a.size < 1) || decide (a.size > 8000)
def mM (p:Src):Bool:=match p.fns.findIdx? (fun f:Fn=>f.name==yY) with | none=>true | some i=>decide (o7 p i > 0)
def wE (p:Src):Bool:=(decide (p.fns.length > 40) || decide (p.globals.length > 29)) || decide (eU p.arrays > 8000)
def uN (p:Src) (c:Int):Int :=
 if p.arrays.any pR=true then jk c 26
 else if mM p=true then jk (if (p.fns.any fun f=>decide (f.params.length > 40))=true then jk (if wE p=true then jk c 26 else c) 26 else (if wE p=true then jk c 26 else c)) 25
 else if (p.fns.any fun f=>decide (f.params.length > 40))=true then jk (if wE p=true then jk c 26 else c) 26 else (if wE p=true then jk c 26 else c)
def tQ (f:Fn) (c:SS):SS:=⟨f.params,if yd f.params=true then jk c.code 21 else c.code,if yd f.params=true/\c.code=0 then 0 else c.at_⟩
def qR (p:Src):List Fn->List T->SS->SS
 | f::r,t::l,c=>qR p r l (if c.code=0 then qH p t (tQ f c) else c)
 | _,_,c=>c
def QN (p:Src) (l:List T):SS:=qR p p.fns l ⟨[],uN p (if fD (dL p)=true then 21 else 0),0⟩
theorem Cj (p:Src):∀ (fs:List Fn) (l:List T) (c:SS),c.code≠0->(qR p fs l c).code≠0
 | f::r,t::l,c,h=>by rw [qR,ab h];exact Cj p r l c h
 | [],_,c,h=>by rw [qR];(· exact h);intros;simp_all
 | f::r,[],c,h=>by rw [qR];(· exact h);intros;simp_all
theorem aae (p:Src) (f:Fn) (t:T) (a:Nat) (c:SS) (hw:gZ t) (hc:c.code=0) (hp:f.params.length<=40):(im p f t a).1=0↔(qH p t (tQ f c)).code=0:=by
 unfold im
 by_cases hd:yd f.params=true
 ·rw [ah hd]
  have:(tQ f c).code≠0:=by unfold tQ;rw [ah hd];unfold jk;rw [ah hc];show (21:Int)≠0;decide
  have G:=XA p t _ this;constructor
  ·intro h;cases h
  ·intro h;exact absurd h G
 ·rw [ab hd]
  have hq:(tQ f c).code=0:=by unfold tQ;rw [ab hd];exact hc
  have I:=abd p t hw a ⟨0,0,-1⟩ (tQ f c) rfl hq (by show (-1:Int) < _;omega) hp;show (fF (dz p) t a ⟨0,0,-1⟩ (tQ f c).ls).1.code=0↔_
  rcases I with ⟨k1,k2,_⟩ | ⟨k1,k2⟩
  ·exact ⟨fun _=>k2,fun _=>k1⟩
  ·exact ⟨fun h=>absurd h k1,fun h=>absurd h k2⟩
theorem MT (p:Src):∀ (fs:List Fn) (l:List T) (a:Nat) (c:SS),c.code=0->(∀ t∈l,gZ t)->(∀ f∈fs,f.params.length<=40)->((iq p fs l a).1=0↔(qR p fs l c).code=0)
 | f::r,t::l,a,c,hc,hw,hp=>by
  have I:=aae p f t a c (hw t mem_cons_self) hc (hp f mem_cons_self);rw [iq,qR,ah hc]
  by_cases h:(im p f t a).1=0
  ·rw [ab zgc];exact MT p r l _ _ (I.1 h) (fun u hu=>hw u (dK _ hu)) (fun g hg=>hp g (dK _ hg))
  ·rw [ah h]
   have G:(qH p t (tQ f c)).code≠0:=fun e=>h (I.2 e)
   exact ⟨fun e=>absurd e h,fun e=>absurd e (Cj p r l _ G)⟩
 | [],_,a,c,hc,_,_=>by rw [iq,qR];(· exact ⟨fun _=>hc,fun _=>rfl⟩);all_goals (intros;simp_all)
 | f::r,[],a,c,hc,_,_=>by rw [iq,qR];(· exact ⟨fun _=>hc,fun _=>rfl⟩);all_goals (intros;simp_all)
theorem cells_from (l:List Ar):∀ n:Int,l.foldl (fun n a=>n+a.size) n=n+eU l:=by
 induction l with
 | nil=>intro n;simp [eU]
 | cons a l ih =>
  intro n;unfold eU;rw [foldl_cons,foldl_cons,ih,ih (0+a.size)];omega
theorem OL (a:Ar) (l:List Ar):eU (a::l)=a.size+eU l:=by
 unfold eU;rw [foldl_cons,cells_from];unfold eU;omega
theorem UC {l:List Ar} (h:∀ a∈l,0<=a.size):0<=eU l/\∀ a∈l,a.size<=eU l:=by
 induction l with
 | nil=>exact ⟨by simp [eU],fun a h=>by cases h⟩
 | cons b l ih =>
  obtain ⟨I,G⟩:=ih fun a ha=>h a (dK _ ha)
  have hb:=h b mem_cons_self;rw [OL];refine ⟨by omega,fun a ha=>?_⟩
  rcases fh ha with rfl | ha
  ·omega
  ·have:=G a ha;omega
theorem LL {l:List ae} (h:fD l=false) {i j:Nat} {s:ae} (hi:l[i]?=some s) (hj:l[j]?=some s):i=j:=by
 have key:∀ x y:Nat,x < y->l[x]?=some s->l[y]?=some s->False:=fun x y mV I G=>by
  have hy:=(bB G).1;unfold fD at h;rw [any_eq_false] at h;have:=h y (List.mem_range.2 hy);unfold nJ at this;rw [G] at this;simp only [Bool.or_eq_true,not_or] at this;apply this.2;rw [ea];rw [List.mem_take_iff_getElem];have hx:=(bB I);exact ⟨x,by have:=hx.1;omega,hx.2⟩
 rcases Nat.lt_trichotomy i j with I | I | I
 ·exact (key i j I hi hj).elim
 ·exact I
 ·exact (key j i I hj hi).elim
theorem Kk {p:Src} (h:fD (dL p)=false):p.fns.any qj=true↔mM p=false:=by
 have AJ:∀ (i:Nat) f,p.fns[i]?=some f->(dL p)[(p.globals++gF p).length+i]?=some f.name:=fun i f hf=>by
  unfold dL;rw [gR av,Nat.add_sub_cancel_left,kZ,bp,hf];rfl
 unfold mM
 cases hf:p.fns.findIdx? (fun f:Fn=>f.name==yY) with
 | none =>
  rw [List.findIdx?_eq_none_iff] at hf;constructor
  ·intro I;obtain ⟨f,G,h3⟩:=sw.1 I;unfold qj at h3;have:=hf f G;rw [this] at h3;cases h3
  ·intro I;cases I
 | some i =>
  rw [List.findIdx?_eq_some_iff_getElem] at hf;obtain ⟨hi,I,G⟩:=hf
  have CX:p.fns[i]?=some p.fns[i]:=by simp [hi]
  simp only [o7,CX];constructor
  ·intro h3;obtain ⟨f,h4,h5⟩:=sw.1 h3;obtain ⟨j,hj⟩:=List.getElem?_of_mem h4;unfold qj at h5;simp only [aK,beq_iff_eq] at h5 I;have e1:=AJ i _ CX;have e2:=AJ j f hj;rw [I] at e1;rw [h5.1] at e2;have:=LL h e1 e2
   have:i=j:=by omega
   subst this;rw [hj] at CX;cases CX;simp [h5.2]
  ·intro h3;simp only [gt_iff_lt,decide_eq_false_iff_not,Nat.not_lt,Nat.le_zero] at h3;exact sw.2 ⟨p.fns[i],List.getElem_mem hi,by unfold qj;rw [I,h3];rfl⟩
theorem Zi {p:Src} (ha:∀ a∈p.arrays,0<=a.size):(jF p=false/\mM p=false)↔uN p 0=0:=by
 obtain ⟨tH,hc⟩:=UC ha;have f26:jk 0 26=26:=rfl
 have f25:∀ c,c≠0->jk c 25=c:=fun c h=>by unfold jk;rw [ab h]
 have ac0:∀ c,jk c 25≠0:=fun c=>by
  unfold jk;split
  ·decide
  ·assumption
 have ac1:∀ c,jk c 26≠0:=fun c=>by
  unfold jk;split
  ·decide
  ·assumption
 unfold uN
 by_cases I:p.arrays.any pR=true
 ·rw [ah I,f26];refine ⟨fun h=>?_,fun h=>by cases h⟩;obtain ⟨a,G,h3⟩:=sw.1 I;have h4:=h.1;unfold jF at h4;simp only [Bool.or_eq_false_iff,decide_eq_false_iff_not] at h4;have h5:=List.any_eq_false.1 h4.1 a G;have h6:=hc a G;have h7:=ha a G;unfold pR at h3;simp only [Bool.or_eq_true,decide_eq_true_eq] at h3;simp only [beq_iff_eq] at h5;have h8:=h4.2.1.2;omega
 rw [ab I]
 have hz:p.arrays.any (fun a=>a.size==0)=false:=by
  rw [any_eq_false];intro a G h3;apply I;refine sw.2 ⟨a,G,?_⟩;unfold pR;simp only [beq_iff_eq] at h3;rw [h3];rfl
 have htm:jF p=(wE p || p.fns.any fun f=>decide (f.params.length > 40)):=by
  unfold jF wE;rw [hz,Bool.false_or]
 rw [htm]
 by_cases G:mM p=true
 ·rw [ah G];exact ⟨fun h=>(by rw [G] at h;cases h.2),fun h=>absurd h (ac0 _)⟩
 rw [ab G]
 have sP:mM p=false:=by simpa using G
 by_cases h3:(p.fns.any fun f=>decide (f.params.length > 40))=true
 ·rw [ah h3,h3,Bool.or_true];exact ⟨fun h=>(by cases h.1),fun h=>absurd h (ac1 _)⟩
 rw [ab h3,show (p.fns.any fun f=>decide (f.params.length > 40))=false by simpa using h3,Bool.or_false]
 by_cases h4:wE p=true
 ·rw [ah h4,h4];exact ⟨fun h=>(by cases h.1),fun h=>zgg⟩
 ·rw [ab h4];exact ⟨fun _=>rfl,fun _=>⟨by simpa using h4,sP⟩⟩
theorem ZX {p:Src} {l:List T} (ha:∀ a∈p.arrays,0<=a.size) (hw:∀ t∈l,gZ t):(Ed p l).1=0↔(QN p l).code=0:=by
 have ne:uN p 21≠0:=by
  have f:∀ c k,c≠0->jk c k=c:=fun c k h=>by unfold jk;rw [ab h]
  unfold uN;simp only [f 21 26 ar,ite_self,f 21 25 ar]
  decide
 unfold Ed QN
 by_cases I:fD (dL p)=true
 ·rw [ah I,ah I];exact ⟨fun h=>zgg,fun h=>absurd h (Cj p _ _ _ ne)⟩
 rw [ab I,ab I];have hs:=Zi ha
 by_cases G:uN p 0=0
 ·obtain ⟨h3,h4⟩:=hs.2 G;rw [ab (by rw [h3];decide),ab (by rw [(Kk zgf).2 h4];decide),G]
  refine MT p _ _ _ _ rfl hw fun f hf=>?_
  unfold jF at h3;simp only [Bool.or_eq_false_iff] at h3;have:=List.any_eq_false.1 h3.2.2 f hf;exact zcm
 ·refine ⟨fun h=>?_,fun h=>absurd h (Cj p _ _ _ G)⟩;exfalso;apply G;apply hs.1
  by_cases h3:jF p=true
  ·rw [ah h3] at h;cases h
  ·rw [ab h3] at h
   by_cases h4:p.fns.any qj=false
   ·rw [ah h4] at h;cases h
   ·exact ⟨by simpa using h3,(Kk zgf).1 (by simpa using h4)⟩
mutual
def dI:T->List ae
 | .mk n l=>dG l++(if n.kind=13 then [n.s] else [])
def dG:List T->List ae
 | []=>[]
 | t::r=>dI t++dG r
end
theorem We (t:T):dI t=dG t.kids++(if t.n.kind=13 then [t.n.s] else []):=by cases t;rw [dI];rfl
mutual
theorem Cg {σ:Type} (f:σ->Nat->T->List ae->σ):∀ (t:T) (a:Nat) (s:σ) (ls:List ae),(fF f t a s ls).2=ls++dI t
 | .mk n l,a,s,ls=>by
  rw [fF,dI];simp only;rw [mc f l];split
  ·rw [eF]
  ·rw [dN]
theorem mc {σ:Type} (f:σ->Nat->T->List ae->σ):∀ (l:List T) (a:Nat) (s:σ) (ls:List ae),(cU f l a s ls).2=ls++dG l
 | [],a,s,ls=>by rw [cU,dG,dN]
 | t::r,a,s,ls=>by rw [cU,mc f r,Cg f t,dG,eF]
end
mutual
def E0 (p:Src):T->List ae->Prop
 | .mk n l,ls=>cJ p (.mk n l) ls=0/\(dO (.mk n l)=false->DT p l ls)
def DT (p:Src):List T->List ae->Prop
 | [],_=>True
 | t::r,ls=>E0 p t ls/\DT p r (ls++dI t)
end
mutual
theorem XC (p:Src):∀ (t:T),gZ t->∀ (a:Nat) (r:CS) (ls:List ae),r.code=0->r.skip < (a:Int)->(fF (dz p) t a r ls).1.code=0->E0 p t ls/\(fF (dz p) t a r ls).1.skip < ((a+aQ t:Nat):Int)
 | .mk n l,hw,a,r,ls,hr,hs,hc=>by
  rw [gZ] at hw
  have cj:¬ (r.code≠0\/(a:Int)=r.skip):=by
   rintro (h | h)
   ·exact h hr
   ·omega
  obtain ⟨pl,b6⟩:∃ pl,dz p r a (.mk n l) ls=⟨cJ p (.mk n l) ls,pl,if dO (.mk n l)=true then (if (pK (.mk n l)).kind≠2 then -1 else ((a+1:Nat):Int)) else r.skip⟩:=by
   unfold dz;rw [ab cj];exact zfd
  rw [fF] at hc |-;simp only at hc |-;rw [b6] at hc |-
  have h0:cJ p (.mk n l) ls=0:=by
   by_cases h0:cJ p (.mk n l) ls=0
   ·exact h0
   ·rw [yG p l _ _ _ h0] at hc;exact hc
  rw [h0] at hc |-
  by_cases hz:dO (.mk n l)=true
  ·have hk:l.length=1:=by
    unfold dO at hz;simp only [aK,beq_iff_eq] at hz;exact hz.2
   have h4:n.kind=4/\n.s=eA:=by
    unfold dO at hz;simp only [aK,beq_iff_eq] at hz;exact hz.1
   have hb:gM p (pK (.mk n l)) ls=false:=by
    have e:cJ p (.mk n l) ls=eT p (.mk n l) ls:=by
     unfold cJ;rw [ab (by show ¬ n.kind=13;omega),ab (by show ¬ (n.kind=2\/n.kind=7);omega),ab (by show ¬ (n.kind=3\/n.kind=8);omega),ah (by show n.kind=4;omega)]
    rw [e] at h0;unfold eT at h0;rw [ah hz] at h0
    by_cases hb:gM p (pK (.mk n l)) ls=true
    ·rw [ah hb] at h0;cases h0
    ·simpa using hb
   have sT:(pK (.mk n l)).kind=2:=by
    unfold gM at hb;simp only [Bool.or_eq_false_iff] at hb;simpa using hb.1.1
   rw [ah hz,ab (by rw [sT];decide)] at hc |-
   match l,hk,hw with
   | [k],_,hw =>
    have adq:k.n.kind=2:=sT;rw [et] at hw
    have eh:k.kids=[]:=by
     have:=hw.2.2.1;obtain ⟨m,j⟩:=k;rw [gZ] at this;exact this.2.1 adq
    have qV:aQ k=1:=by rw [fH,eh,aB]
    refine ⟨by rw [E0];exact ⟨h0,fun h=>by rw [hz] at h;cases h⟩,?_⟩;simp only [cU];rw [yF,eh];simp only [cU]
    have Vc:dz p ⟨0,pl,((a+1:Nat):Int)⟩ (a+1) k ls=⟨0,pl,((a+1:Nat):Int)⟩:=by unfold dz;rw [ah (.inr rfl)]
    rw [Vc,aQ,aB,aB,qV];exact zcb
  ·have Nn:dO (.mk n l)=false:=by simpa using hz
   rw [ab hz] at hc |-;have h:=Ta p l hw.2.2 (a+1) ⟨0,pl,r.skip⟩ ls rfl zgV hc;refine ⟨by rw [E0];exact ⟨h0,fun _=>h.1⟩,?_⟩;rw [aQ,show a+(aB l+1)=a+1+aB l by omega];exact h.2
theorem Ta (p:Src):∀ (l:List T),et l->∀ (a:Nat) (r:CS) (ls:List ae),r.code=0->r.skip < (a:Int)->(cU (dz p) l a r ls).1.code=0->DT p l ls/\(cU (dz p) l a r ls).1.skip < ((a+aB l:Nat):Int)
 | [],_,a,r,ls,hr,hs,hc=>by rw [cU,aB];exact ⟨trivial,by simpa using hs⟩
 | t::l,hw,a,r,ls,hr,hs,hc=>by
  rw [et] at hw;rw [cU] at hc |-
  have I:(fF (dz p) t a r ls).1.code=0:=by
   by_cases I:(fF (dz p) t a r ls).1.code=0
   ·exact I
   ·rw [yG p l _ _ _ I] at hc;exact hc
  obtain ⟨G,h3⟩:=XC p t hw.1 a r ls hr hs I;obtain ⟨h4,h5⟩:=Ta p l hw.2 _ _ _ I h3 hc;rw [Cg] at h4;rw [DT,aB,<-iJ];exact ⟨⟨G,h4⟩,h5⟩
end
mutual
def mb (h:Nd->List ae->Bool):T->List ae->Nat
 | .mk n l,ls=>(if h n ls=true then 1 else 0)+jr h l ls
def jr (h:Nd->List ae->Bool):List T->List ae->Nat
 | [],_=>0
 | t::r,ls=>mb h t ls+jr h r (ls++dI t)
end
def iF (name:ae) (kinds:List Int) (n:Nd) (ls:List ae):Bool:=(n.s==name&&kinds.contains n.kind)&&(n.kind==13 || ls.contains name)
def yu (names:List ae) (s:ae):Int:=du (fun x=>x==s) names
def qB (names:List ae) (n:Nd) (known:List ae):Nd :=
 if n.kind=13 then ⟨n.kind,n.at_,yu names n.s+1,n.s,n.kids⟩
 else if (n.kind=2\/n.kind=7)/\known.contains n.s=true then ⟨n.kind,n.at_,yu names n.s+1,n.s,n.kids⟩ else n
mutual
def oA (names:List ae):T->List ae->T
 | .mk n l,known=>.mk (qB names n known) (jI names l known)
def jI (names:List ae):List T->List ae->List T
 | [],_=>[]
 | t::r,known=>oA names t known::jI names r (known++dI t)
end
def FX (kinds:List Int) (name:ae) (loc:Bool) (n:Nd):Bool:=(kinds.contains n.kind&&n.s==name)&&(decide (n.n > 0)==loc)
mutual
def vH (kinds:List Int) (name:ae) (loc:Bool):T->Nat
 | .mk n l=>(if FX kinds name loc n=true then 1 else 0)+oC kinds name loc (n.kind==4&&n.s==eA) l
def oC (kinds:List Int) (name:ae) (loc:Bool):Bool->List T->Nat
 | _,[]=>0
 | b,t::r=>(if b=true then 0 else vH kinds name loc t)+oC kinds name loc false r
end
mutual
def zT:T->Prop
 | .mk n l=>(n.kind≠1->n.n=0)/\kc l
def kc:List T->Prop
 | []=>True
 | t::r=>zT t/\kc r
end
mutual
theorem aby:∀ t:T,zT (er t)↔zT t
 | .mk n l=>by rw [er,zT,zT,XY l]
theorem XY:∀ l:List T,kc (bf l)↔kc l
 | []=>by rw [bf]
 | t::r=>by rw [bf,kc,kc,aby t,XY r]
end
mutual
theorem E.z:∀ a:E,zT a.tree
 | .num n=>by rw [E.tree,zT];exact ⟨fun h=>absurd rfl h,trivial⟩
 | .name s=>by rw [E.tree,zT];exact ⟨fun _=>rfl,trivial⟩
 | .at_ s a=>zfR
 | .call s l=>by rw [E.tree,zT];exact ⟨fun _=>rfl,E.zs l⟩
 | .un s a=>zfR
 | .bin s a b=>by rw [E.tree,zT,kc,kc,kc];exact ⟨fun _=>rfl,E.z a,E.z b,trivial⟩
theorem E.zs:∀ l:List E,kc (E.trees l)
 | []=>trivial
 | a::l=>by rw [E.trees,kc];exact ⟨E.z a,E.zs l⟩
end
mutual
theorem S.z:∀ a:S,zT a.tree
 | .set s a=>zbT
 | .put s a b=>by rw [S.tree,zT,kc,kc,kc];exact ⟨fun _=>rfl,E.z a,E.z b,trivial⟩
 | .if1 c b=>zdC
 | .if2 c b d=>by rw [S.tree,zT,kc,kc,kc,kc,zT,zT];exact ⟨fun _=>rfl,E.z c,⟨fun _=>rfl,S.zs b⟩,⟨fun _=>rfl,S.zs d⟩,trivial⟩
 | .while_ c b=>zdC
 | .ret a=>zbT
 | .do_ a=>zbT
 | .var s a=>zbT
theorem S.zs:∀ l:List S,kc (S.trees l)
 | []=>trivial
 | a::l=>by rw [S.trees,kc];exact ⟨S.z a,S.zs l⟩
end
theorem acN (l:List S):zT (cR l):=by rw [cR,zT];exact ⟨fun _=>rfl,S.zs l⟩
theorem FC {names:List ae} {s:ae} (h:s∈names):0 < yu names s+1:=by
 unfold yu du
 cases hf:names.findIdx? (fun x=>x==s) with
 | some i=>exact zcb
 | none =>
  rw [List.findIdx?_eq_none_iff] at hf;have:=hf s h;simp at this
theorem vR (names:List ae) (n:Nd) (ls:List ae):(qB names n ls).kind=n.kind/\(qB names n ls).s=n.s:=by
 unfold qB;split
 ·exact zah
 split <;> exact ⟨rfl,rfl⟩
theorem Zj {p:Src} {t:T} {ls:List ae} (hw:gZ t) (h0:cJ p t ls=0) (hk:t.n.kind=4) (hs:t.n.s=eA):∃ k,t.kids=[k]/\k.n.kind=2/\k.kids=[]/\0<=B6 p k.n.s/\ls.contains k.n.s=false/\dO t=true:=by
 have e:cJ p t ls=eT p t ls:=by
  unfold cJ;rw [ab av,ab av,ab av,ah hk]
 rw [e] at h0
 have hm:oF p t.n.s=1:=by rw [hs];unfold oF;rw [ab ar,ah (.inr rfl)]
 by_cases hl:t.kids.length=1
 ·have hz:dO t=true:=by unfold dO;rw [hk,hs,hl];rfl
  unfold eT at h0;rw [ah hz] at h0
  have hb:gM p (pK t) ls=false:=by
   by_cases hb:gM p (pK t) ls=true
   ·rw [ah hb] at h0;cases h0
   ·simpa using hb
  obtain ⟨n,l⟩:=t
  match l,hl with
  | [k],_ =>
   have bG:gM p k.n ls=false:=hb;unfold gM at bG;simp only [Bool.or_eq_false_iff,bne_eq_false_iff_eq,decide_eq_false_iff_not,Int.not_lt] at bG;rw [gZ,et] at hw;refine ⟨k,rfl,bG.1.1,?_,bG.1.2,bG.2,hz⟩;have:=hw.2.2.1;obtain ⟨m,j⟩:=k;rw [gZ] at this;exact this.2.1 bG.1.1
 ·have hz:dO t=false:=by unfold dO;rw [show (t.kids.length==1)=false by simpa using hl,Bool.and_false]
  unfold eT at h0;rw [ab (by rw [hz];decide),hm,ab ar,ab av] at h0;cases h0
theorem UD {p:Src} {names:List ae} {kinds:List Int} {name:ae} {loc:Bool} {h:Nd->List ae->Bool} (t:T) (ls:List ae) (hw:gZ t) (ho:E0 p t ls)
  (hn:FX kinds name loc (qB names t.n ls)=h t.n ls) (hs:∀ k,0<=B6 p k->ls.contains k=false->∀ m:Nd,m.kind=2->m.s=k->h m ls=false)
  (ih:DT p t.kids ls->oC kinds name loc false (jI names t.kids ls)=jr h t.kids ls):vH kinds name loc (oA names t ls)=mb h t ls:=by
 obtain ⟨n,l⟩:=t;have hn:FX kinds name loc (qB names n ls)=h n ls:=hn;rw [E0] at ho;rw [oA,vH,mb,(vR names n ls).1,(vR names n ls).2,hn]
 congr 1
 by_cases hz:n.kind=4/\n.s=eA
 ·obtain ⟨k,I,G,h3,h4,h5,h6⟩:=Zj hw ho.1 hz.1 hz.2;have I:l=[k]:=I;subst I;rw [show (n.kind==4&&n.s==eA)=true by rw [hz.1,hz.2];rfl];have:h k.n ls=false:=hs _ h4 h5 k.n G rfl;obtain ⟨m,j⟩:=k;have h3:j=[]:=h3;subst h3;have this:h m ls=false:=this;simp only [jI,oC,jr,mb,if_true];rw [this];rfl
 ·have I:dO (.mk n l)=false:=by
   unfold dO;show ((n.kind==4&&n.s==eA)&&_)=false;refine zcj ?_;rfl
  refine zcj ?_;exact ih (ho.2 I)
theorem OM (kinds:List Int) (name:ae) (loc:Bool) (t:T) (r:List T):oC kinds name loc false (t::r)=vH kinds name loc t+oC kinds name loc false r:=by
 rw [oC];simp
section
variable (p:Src) (names:List ae) (name:ae)
theorem R0 (kinds:List Int) (hk:∀ k∈kinds,k=2\/k=7\/k=13) (n:Nd) (ls:List ae) (hz:n.kind≠1->n.n=0) (gW:∀ s∈ls,s∈names) (hv:n.kind=13->n.s∈names):FX kinds name true (qB names n ls)=iF name kinds n ls:=by
 unfold FX iF;rw [(vR names n ls).1,(vR names n ls).2]
 by_cases lR:kinds.contains n.kind=true
 ·rw [lR]
  by_cases hs:n.s=name
  ·subst hs;simp only [BEq.rfl,Bool.and_true,Bool.true_and]
   rcases hk _ (ea.1 lR) with h | h | h
   ·rw [show (n.kind==13)=false by rw [h];rfl,Bool.false_or];unfold qB;rw [ab av]
    by_cases hc:ls.contains n.s=true
    ·rw [ah ⟨.inl h,hc⟩,hc];have:=FC (gW _ (ea.1 hc));exact zd1
    ·exact zeb
   ·rw [show (n.kind==13)=false by rw [h];rfl,Bool.false_or];unfold qB;rw [ab av]
    by_cases hc:ls.contains n.s=true
    ·rw [ah ⟨.inr h,hc⟩,hc];have:=FC (gW _ (ea.1 hc));exact zd1
    ·exact zeb
   ·rw [show (n.kind==13)=true by rw [h];rfl,Bool.true_or];unfold qB;rw [ah h];have:=FC (hv h);exact zd1
  ·rw [show (n.s==name)=false by simpa using hs];rfl
 ·rw [show kinds.contains n.kind=false by simpa using lR];simp
mutual
theorem MC (kinds:List Int) (hk:∀ k∈kinds,k=2\/k=7\/k=13):∀ (t:T) (ls:List ae),gZ t->zT t->E0 p t ls->(∀ s∈ls,s∈names)->(∀ s∈dI t,s∈names)->vH kinds name true (oA names t ls)=mb (iF name kinds) t ls
 | .mk n l,ls,hw,hz,ho,gW,hv=>by
  have Xi:=hw;rw [gZ] at Xi;rw [zT] at hz;rw [dI] at hv
  refine UD (p:=p) (.mk n l) ls hw ho (R0 names name kinds hk n ls hz.1 gW fun h=>hv _ (by rw [ah h];simp)) (fun k I G m h3 h4=>?_) fun hos=>IZ kinds hk l ls Xi.2.2 hz.2 hos gW fun s hs=>hv s (List.mem_append_left _ hs)
  unfold iF;rw [h3]
  by_cases hm:m.s=name
  ·rw [<-hm,h4,G];simp
  ·rw [show (m.s==name)=false by simpa using hm];rfl
theorem IZ (kinds:List Int) (hk:∀ k∈kinds,k=2\/k=7\/k=13):∀ (l:List T) (ls:List ae),et l->kc l->DT p l ls->(∀ s∈ls,s∈names)->(∀ s∈dG l,s∈names)->oC kinds name true false (jI names l ls)=jr (iF name kinds) l ls
 | [],ls,_,_,_,_,_=>by rw [jI,oC,jr]
 | t::r,ls,hw,hz,ho,gW,hv=>by
  rw [et] at hw;rw [kc] at hz;rw [DT] at ho;rw [dG] at hv
  have hv1:∀ s∈dI t,s∈names:=fun s hs=>hv s (List.mem_append_left _ hs)
  rw [jI,OM,jr,MC kinds hk t ls hw.1 hz.1 ho.1 gW hv1,IZ kinds hk r _ hw.2 hz.2 ho.2 (fun s hs=>by rcases mo hs with h | h;(· exact gW s h);exact hv1 s h) fun s hs=>hv s (List.mem_append_right _ hs)]
end
end
theorem Forms.wf {l:List T} {ls:List (List S)} (h:Forms l ls) {i:Nat} {t:T} (ht:l[i]?=some t):gZ t/\zT t:=by
 have hi:=(bB ht).1;have hlen:=h.len;have hb:ls[i]?=some (ls[i]'av):=bV _;obtain ⟨_,G⟩:=h.at_ i t _ ht hb;exact ⟨(XW t).1 (by rw [G];exact abr _),(aby t).1 (by rw [G];exact acN _)⟩
theorem Rw (p:Src):∀ (fs:List Fn) (l:List T) (a:Nat),(iq p fs l a).1=0->∀ (i:Nat) f t,fs[i]?=some f->l[i]?=some t->∃ b,(im p f t b).1=0
 | f::r,t::l,a,h,0,g,u,I,G=>by
  cases I;cases G
  rw [iq] at h
  by_cases hc:(im p f t a).1=0
  ·exact ⟨a,hc⟩
  ·rw [ah hc] at h;exact absurd h hc
 | f::r,t::l,a,h,i+1,g,u,I,G=>by
  rw [iq] at h
  by_cases hc:(im p f t a).1=0
  ·rw [ab zgx] at h;exact Rw p r l _ h i g u zgf zgq
  ·rw [ah hc] at h;exact absurd h hc
 | [],_,a,h,i,g,u,I,G=>by simp at I
 | f::r,[],a,h,i,g,u,I,G=>by simp at G
structure Good (p:Src) (l:List T):Prop where
 st:jj p l
 test:fI p=true
 names:fD (dL p)=false
 len:p.fns.length=l.length
 at_:∀ (i:Nat) f t,p.fns[i]?=some f->l[i]?=some t->E0 p t f.params/\gZ t/\zT t/\ek p.nodes f.body.toNat t/\0<=f.body
theorem yK {p:Src} (h:de p=true):∃ l,Good p l:=by
 unfold de at h;rw [aK] at h;obtain ⟨hf,h⟩:=h;obtain ⟨l,hl⟩:=sM hf;rw [hl.AB] at h;simp only [decide_eq_true_eq] at h;obtain ⟨ls,hm⟩:=hl.OX
 have hb:fD (dL p)=false:=by
  unfold Ed at h
  by_cases hb:fD (dL p)=true
  ·rw [ah hb] at h;cases h
  ·simpa using hb
 have jZ:(iq p p.fns l 0).1=0:=by
  unfold Ed at h;rw [ab zgO] at h;split at h
  ·cases h
  split at h
  ·cases h
  ·exact h
 refine ⟨l,hl,hf,hb,ij.len hl.fns,fun i f t I G=>?_⟩;obtain ⟨b,hc⟩:=Rw p _ _ _ jZ i f t I G;obtain ⟨w1,w2⟩:=hm.wf G;unfold im at hc
 have hd:¬ yd f.params=true:=fun hd=>by rw [ah hd] at hc;cases hc
 rw [ab hd] at hc;have hi:=(bB G).1;obtain ⟨h5,h6⟩:=ij.at_ hl.fns i f t I G;have h7:=ey.ix l 0 i _ hl.st G;rw [dJ] at h5 h7;refine ⟨(XC p t w1 b ⟨0,0,-1⟩ f.params rfl (by show (-1:Int) < _;omega) hc).1,w1,w2,?_,by omega⟩;rw [h5,iK];exact h7
theorem I7 {σ:Type} (f:σ->Nat->T->List ae->σ) (t:T):∀ (l:List T) (a:Nat) (s:σ) (ls:List ae),cU f (l++[t]) a s ls=fF f t (a+aB l) (cU f l a s ls).1 (cU f l a s ls).2
 | [],a,s,ls=>by rw [List.nil_append,cU,cU,cU,aB,Nat.add_zero]
 | u::l,a,s,ls=>by rw [cons_append,cU,I7 f t l,cU,aB,iJ]
theorem wJ {σ:Type} (f:σ->Nat->T->List ae->σ) {l:List T} {k:Nat} {t:T} (h:l[k]?=some t) (a:Nat) (s:σ) (ls:List ae) :
  cU f (l.take (k+1)) a s ls=fF f t (a+aB (l.take k)) (cU f (l.take k) a s ls).1 (cU f (l.take k) a s ls).2:=by
 have:l.take (k+1)=l.take k++[t]:=by rw [dk,h];rfl
 rw [this,I7]
theorem sY:∀ {l:List T} {n k:Nat} {t:T},l[k]?=some t->(bJ n l)[k]?=some (((n+aB (l.take k):Nat)):Int)
 | u::l,n,0,t,h=>by simp [bJ,aB]
 | u::l,n,k+1,t,h=>by
  have:=sY (l:=l) (n:=n+aQ u) (k:=k) (t:=t) zgc;rw [bJ,List.getElem?_cons_succ,this,List.take_succ_cons,aB,iJ]
 | [],n,k,t,h=>by simp at h
theorem ku {l:List T} {k:Nat} {t:T} (h:l[k]?=some t):aB (l.take k)+aQ t<=aB l:=by
 have I:l.take (k+1)=l.take k++[t]:=by rw [dk,h];rfl
 have G:aB l=aB (l.take (k+1))+aB (l.drop (k+1)):=by rw [<-qu,List.take_append_drop]
 rw [I,qu,aB,aB] at G;omega
theorem V8 {l:List T} {k:Nat} {t:T} (h:l[k]?=some t):aB (l.take (k+1))=aB (l.take k)+aQ t:=by
 have I:l.take (k+1)=l.take k++[t]:=by rw [dk,h];rfl
 rw [I,qu,aB,aB,Nat.add_zero]
theorem D1:∀ (N:Nat) (t:T),aQ t<=N->(dI t).length<=aQ t:=by
 intro N
 induction N with
 | zero=>intro t h;exact zcF
 | succ N ih =>
  intro t h
  have key:∀ l:List T,aB l<=N->(dG l).length<=aB l:=by
   intro l
   induction l with
   | nil=>intro _;simp [dG]
   | cons u l ih2 =>
    intro h;rw [aB] at h;have:=ih u av;have:=ih2 av;rw [dG,aL,aB];omega
  rw [fH] at h |-;have:=key t.kids av;rw [We,aL];split <;> simp <;> omega
theorem ja (l:List T):(dG l).length<=aB l:=by
 induction l with
 | nil=>simp [dG]
 | cons u l ih =>
  have:=D1 _ u (aI _);rw [dG,aL,aB];omega
theorem nQ {α:Type} {f:α->Bool} {l:List α} {k:Nat} {x:α} (hk:l[k]?=some x) (h:f x=true) (bj:(l.take k).all (fun y=>!f y)=true):du f l=(k:Int):=by
 have au:k < l.length:=by
  rcases Nat.lt_or_ge k l.length with I | I
  ·exact I
  ·rw [List.getElem?_eq_none I] at hk;cases hk
 have hx:l[k]=x:=by rw [bV au] at hk;exact xY hk
 have:l.findIdx? f=some k:=by
  rw [List.findIdx?_eq_some_iff_getElem];refine ⟨au,by rw [hx];exact h,fun j hj=>?_⟩;rw [jb] at bj;have:=bj l[j] zgm;exact zcm
 unfold du;rw [this]
theorem lA {α:Type} {f:α->Bool} {l:List α} (bj:l.all (fun y=>!f y)=true):du f l = -1:=by
 have:l.findIdx? f=none:=by
  rw [List.findIdx?_eq_none_iff];intro x hx;rw [jb] at bj;simpa using bj x hx
 unfold du;rw [this]
theorem od {α:Type} {f:α->Bool} {l:List α} {k:Nat} {x:α} (hk:l[k]?=some x):(l.take (k+1)).all (fun y=>!f y)=((l.take k).all (fun y=>!f y)&&!f x):=by
 rw [dk,hk,List.all_append];simp
theorem G4 {α:Type} (f:α->Bool) (l:List α):decide ((0:Int)<=du f l)=l.any f:=by
 cases h:l.any f with
 | false =>
  rw [lA (by rw [any_eq_false] at h;rw [jb];intro x hx;simpa using h x hx)];rfl
 | true =>
  unfold du
  cases G:l.findIdx? f with
  | some i=>simp
  | none =>
   rw [List.findIdx?_eq_none_iff] at G;rw [sw] at h;obtain ⟨x,hx,h3⟩:=h;have:=G x hx;simp [h3] at this
end Go.Im
