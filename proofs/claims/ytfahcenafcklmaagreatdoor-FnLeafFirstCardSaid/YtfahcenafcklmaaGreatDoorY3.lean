/- Part 3 of proofs that are told in their last texts. -/
import Derived.Test.YtfahcenafcklmaaGreatDoorY2
import Derived.Test.YtfahcenafcklmaaGreatDoorY1
open List (any_eq_false cons_append findIdx?_eq_none_iff foldl_cons getElem?_eq_none length_cons mem_append mem_cons_self mem_singleton nodup_cons pairwise_cons)
set_option linter.unusedVariables false
set_option linter.unusedSimpArgs false
set_option maxRecDepth 100000
namespace Go.Sp
open Go.Xp
structure D0 (x:Tok):Prop where
 at_:0<=x.at_/\x.at_<=6000
 n:0<=x.n/\x.n<=2147483647
structure SB (p:RS):Prop where
 tok:∀ t∈p.l,D0 t
 e:0<=p.e/\p.e<=6000
theorem SB.to {p q:RS} (h:SB p) (k:p.to q):SB q:=⟨by rw [k.1];exact h.tok,by rw [k.2.1];exact h.e⟩
theorem SB.at {p:RS} (h:SB p) {i:Nat} {t:Tok} (ht:p.l[i]?=some t):D0 t:=h.tok t (br ht)
theorem SB.place {p:RS} (h:SB p):0<=p.place/\p.place<=6000:=by
 unfold RS.place;split
 ·rename_i t ht;exact (h.at ht).at_
 ·exact h.e
structure bdN (x:Nd):Prop where
 kind:0<=x.kind/\x.kind<=14
 at_:0<=x.at_/\x.at_<=6000
 n:0<=x.n/\x.n<=2147483647
 s:x.s.length<=12
mutual
def nG:T->Prop
 | .mk n l=>bdN n/\kT l
def kT:List T->Prop
 | []=>True
 | t::r=>nG t/\kT r
end
theorem nG.n {t:T} (h:nG t):bdN t.n:=by cases t;rw [nG] at h;exact h.1
theorem nG.kids {t:T} (h:nG t):kT t.kids:=by cases t;rw [nG] at h;exact h.2
theorem D4:∀ {a b:List T},kT a->kT b->kT (a++b)
 | [],b,_,h=>h
 | t::a,b,h,k=>by rw [cons_append,kT];rw [kT] at h;exact ⟨h.1,D4 h.2 k⟩
theorem yk {t:T} (h:nG t):kT [t]:=by rw [kT,kT];exact ⟨h,trivial⟩
theorem Mb {t u:T} (h:nG t) (k:nG u):kT [t,u]:=by rw [kT,kT,kT];exact ⟨h,k,trivial⟩
theorem ER:∀ (a b:List T),aD (a++b)=aD a+aD b
 | [],b=>by rw [aD];exact (ed _).symm
 | t::a,b=>by rw [cons_append,aD,aD,ER a b];omega
theorem sr (t:T):aD [t]=bc t:=by rw [aD,aD];rfl
theorem EP (t u:T):aD [t,u]=bc t+bc u:=by rw [aD,sr]
theorem YX (t u v:T):aD [t,u,v]=bc t+bc u+bc v:=by rw [aD,EP];omega
theorem iY {k a:Int} {s:ah} {l:List T}:bc (one k a s l)=aD l+1:=by unfold one;rw [bc]
theorem nX {k a:Int} {s:ah} {l:List T} (hk:0<=k/\k<=14) (ha:0<=a/\a<=6000) (hs:s.length<=12) (hl:kT l):nG (one k a s l):=by
 unfold one;rw [nG];exact ⟨⟨hk,ha,⟨Int.le_refl _,show (0:Int)<=2147483647 by decide⟩,hs⟩,hl⟩
theorem EM:nG T.zero:=by
 unfold T.zero;rw [nG,kT];exact ⟨⟨⟨Int.le_refl _,show (0:Int)<=14 by decide⟩,⟨Int.le_refl _,show (0:Int)<=6000 by decide⟩,⟨Int.le_refl _,show (0:Int)<=2147483647 by decide⟩,aX _⟩,trivial⟩
theorem ET:bc T.zero=1:=by unfold T.zero;rw [bc,aD]
theorem pZ (p:RS):p.name.1.length<=12:=by
 unfold RS.name;split
 ·split
  ·split
   ·split
    ·exact aX _
    ·exact zcZ
   ·exact aX _
  ·exact aX _
 ·exact aX _
def qZ:J->Nat
 | .loop _ _ out=>bc out
 | _=>1
def jOk:J->Prop
 | .loop _ _ out=>nG out
 | .named a s _=>(0<=a/\a<=6000)/\s.length<=12
 | _=>True
theorem Uw:∀ (f:Nat),(∀ j p t q,p.ok->SB p->jOk j->mE f j p=some (t,q)->nG t/\bc t<=qZ j+2 * (q.i - p.i)) /\
  (∀ d p l q,p.ok->SB p->mL f d p=some (l,q)->kT l/\aD l<=1+2 * (q.i - p.i))/\(∀ d acc p l q,p.ok->SB p->kT acc->rK f d acc p=some (l,q)->kT l/\aD l<=aD acc+2 * (q.i - p.i))
 | 0=>⟨fun j p t q _ _ _ h=>by simp [mE] at h,fun d p l q _ _ h=>by simp [mL] at h,fun d acc p l q _ _ _ h=>by simp [rK] at h⟩
 | f+1=>by
  obtain ⟨D,X,h3⟩:=Uw f;obtain ⟨t1,t2,t3⟩:=tJ f;refine ⟨fun j p t q hp hb hj h=>?_,fun d p l q hp hb h=>?_,fun d acc p l q hp hb ha h=>?_⟩
  ·cases j with
   | expr d =>
    rw [mE] at h;have hd:=ik hp d
    have hi:(p.deep d).i=p.i:=by unfold RS.deep RS.fail;split <;> (try split) <;> rfl
    have:=D (.level 0 d) _ _ _ (hd.ok hp) (hb.to hd) trivial h;rw [hi] at this;exact this
   | level k d =>
    rw [mE] at h;split at h
    ·exact D (.operand (d+1)) _ _ _ hp hb trivial h
    ·split at h
     ·cases h
     ·rename_i out p' he;have ht:=t1 _ _ _ _ hp he;have ha:=D (.level (k+1) d) _ _ _ hp hb trivial he;have hl:=D (.loop k d out) _ _ _ (ht.ok hp) (hb.to ht) ha.1 h;have h4:=(t1 _ _ _ _ (ht.ok hp) h).2.2.2;have h5:=ht.2.2.2;have h6:=ha.2;have h7:=hl.2;simp only [qZ] at h6 h7 |-;exact zfa
   | loop k d out =>
    rw [mE] at h;split at h
    ·rename_i hc;split at h
     ·cases h
     ·rename_i t' ht;have au:=(bu ht).1;have hn:=cE (p:=p) au
      have hs:t'.s.length<=12:=by
       have h8:=(H3 hc.2).2.2;unfold RS.sign at h8;rw [ae hc.1,Nat.add_zero,ht] at h8;simp only [dE] at h8;have h9:=(H3 hc.2).1;unfold RS.sign at h9;rw [ae hc.1,Nat.add_zero,ht] at h9;simp only [dE] at h9;split at h8
       ·omega
       ·rename_i oO;rw [ab oO] at h9;exact absurd rfl h9
      split at h
      ·cases h
      ·rename_i b p' he;have fE:=t1 _ _ _ _ (hn.ok hp) he;have ha:=D (.level (k+1) d) _ _ _ (hn.ok hp) (hb.to hn) trivial he;have R6:=hn.trans fE;have hl:=D (.loop k d (one 6 t'.at_ t'.s [out,b])) _ _ _ (R6.ok hp) (hb.to R6) (nX ao (hb.at ht).at_ hs (Mb hj ha.1)) h;have h4:=(t1 _ _ _ _ (R6.ok hp) h).2.2.2;have h5:=fE.2.2.2;have h6:=ha.2;have h7:=hl.2;simp only [qZ,iY,EP] at h6 h7 |-
       have h8:p.next.i=p.i+1:=rfl
       exact zfa
    ·cases h;exact ⟨hj,by simp only [qZ];omega⟩
   | operand d =>
    rw [mE] at h;have hd:=ik hp d
    have hi:(p.deep d).i=p.i:=by unfold RS.deep RS.fail;split <;> (try split) <;> rfl
    rw [<-hi];have dv:=hd.ok hp;have uc:=hb.to hd;generalize p.deep d=p at *
    try simp only at h
    simp only [qZ];split at h
    ·split at h
     ·cases h;exact ⟨EM,by rw [ET];omega⟩
     ·rename_i t' ht;have au:=(bu ht).1;have hn:=cE (p:=p) au
      have h8:p.next.i=p.i+1:=rfl
      have hT:=uc.at ht;split at h
      ·cases h;refine ⟨?_,by rw [bc,aD];omega⟩;rw [nG,kT];exact ⟨⟨⟨show (0:Int)<=1 by decide,show (1:Int)<=14 by decide⟩,hT.at_,hT.n,aX _⟩,trivial⟩
      ·split at h
       ·have dq:=eO dv;have ha:=D (.named t'.at_ p.name.1 d) _ _ _ (dq.ok dv) (uc.to dq) ⟨hT.at_,pZ p⟩ h;have h4:=(t1 _ _ _ _ (dq.ok dv) h).2.2.2;have h5:=dq.2.2.2;have h6:=ha.2;simp only [qZ] at h6;exact ⟨ha.1,by omega⟩
       ·split at h
        ·rename_i hs;split at h
         ·cases h
         ·rename_i a p' he;have ha:=D (.operand (d+1)) _ _ _ (hn.ok dv) (uc.to hn) trivial he;have h5:=(t1 _ _ _ _ (hn.ok dv) he).2.2.2;have h6:=ha.2;simp only [qZ] at h6;cases h;refine ⟨nX ao hT.at_ (by rcases hs with hs | hs | hs <;> rw [hs] <;> decide) (yk ha.1),?_⟩;rw [iY,sr];omega
        ·split at h
         ·split at h
          ·cases h
          ·rename_i a p' he;have ha:=D (.expr (d+1)) _ _ _ (hn.ok dv) (uc.to hn) trivial he;have fE:=hn.trans (t1 _ _ _ _ (hn.ok dv) he);have h5:=(t1 _ _ _ _ (hn.ok dv) he).2.2.2;have h6:=ha.2;simp only [qZ] at h6;cases h;have h7:=(bG (fE.ok dv) (s:=[41]) ao).2.2.2;exact ⟨ha.1,by omega⟩
         ·cases h;exact ⟨EM,by rw [ET];omega⟩
    ·cases h;exact ⟨EM,by rw [ET];omega⟩
   | named a s d =>
    rw [mE] at h;simp only [qZ];split at h
    ·rename_i hs;have hn:=dC hs ao
     have h8:p.next.i=p.i+1:=rfl
     split at h
     ·cases h
     ·rename_i a' p' he;have ha:=D (.expr (d+1)) _ _ _ (hn.ok hp) (hb.to hn) trivial he;have fE:=hn.trans (t1 _ _ _ _ (hn.ok hp) he);have h5:=(t1 _ _ _ _ (hn.ok hp) he).2.2.2;have h6:=ha.2;simp only [qZ] at h6;cases h;have h7:=(bG (fE.ok hp) (s:=[93]) ao).2.2.2;refine ⟨nX ao hj.1 hj.2 (yk ha.1),?_⟩;rw [iY,sr];omega
    ·split at h
     ·rename_i hs;have hn:=dC hs ao
      have h8:p.next.i=p.i+1:=rfl
      split at h
      ·cases h
      ·rename_i l p' he;have ha:=X _ _ _ _ (hn.ok hp) (hb.to hn) he;have h5:=(t2 _ _ _ _ (hn.ok hp) he).2.2.2;have h6:=ha.2;cases h;refine ⟨nX ao hj.1 hj.2 ha.1,?_⟩;rw [iY];omega
     ·cases h;refine ⟨nX ao hj.1 hj.2 (by rw [kT];trivial),?_⟩;rw [iY,aD];omega
  ·rw [mL] at h;split at h
   ·cases h;exact ⟨by rw [kT];trivial,by rw [aD];omega⟩
   ·split at h
    ·cases h
    ·rename_i a p' he;have fE:=t1 _ _ _ _ hp he;have ha:=D (.expr d) _ _ _ hp hb trivial he;have hl:=h3 _ _ _ _ _ (fE.ok hp) (hb.to fE) (yk ha.1) h;have h4:=(t3 _ _ _ _ _ (fE.ok hp) h).2.2.2;have h5:=fE.2.2.2;have h6:=ha.2;have h7:=hl.2;simp only [qZ] at h6;rw [sr] at h7;exact zfa
  ·rw [rK] at h;split at h
   ·rename_i hs;have hn:=dC hs ao
    have h8:p.next.i=p.i+1:=rfl
    split at h
    ·cases h
    ·rename_i a p' he;have fE:=hn.trans (t1 _ _ _ _ (hn.ok hp) he);have h9:=(t1 _ _ _ _ (hn.ok hp) he).2.2.2;have ha:=D (.expr d) _ _ _ (hn.ok hp) (hb.to hn) trivial he;have hl:=h3 _ _ _ _ _ (fE.ok hp) (hb.to fE) (D4 ‹kT acc› (yk ha.1)) h;have h4:=(t3 _ _ _ _ _ (fE.ok hp) h).2.2.2;have h6:=ha.2;have h7:=hl.2;simp only [qZ] at h6;rw [ER,sr] at h7;exact zfa
   ·cases h;have h4:=(bG hp (s:=[41]) ao).2.2.2;exact ⟨‹kT _›,by omega⟩
theorem A7 {d:Nat} {p q:RS} {t:T} (hp:p.ok) (hb:SB p) (h:mX d p=some (t,q)):nG t/\bc t<=1+2 * (q.i - p.i)/\p.i<=q.i:=by
 have:=(Uw _).1 (.expr d) _ _ _ hp hb trivial h;exact ⟨this.1,this.2,(fO hp h).2.2.2⟩
theorem Ol {p:RS} {s:ah} (hs:s≠[]) (h:¬ p.code=0):¬ (p.aL s).code=0:=fun e=>h (sZ hs e).2.1
theorem Ux:∀ (f:Nat),(∀ d p t q,p.ok->SB p->mS f (.block d) p=some (t,q)->nG t/\bc t<=1+4 * (q.i - p.i)/\p.i<=q.i) /\
  (∀ d p t q,p.ok->SB p->mS f (.stmt d) p=some (t,q)->nG t/\bc t<=2+4 * (q.i - p.i)/\(q.code=0->bc t<=4 * (q.i - p.i))/\p.i<=q.i) /\
  (∀ a d p t q,p.ok->SB p->p.i < p.l.length->(0<=a/\a<=6000)->mS f (.cond a d) p=some (t,q)->nG t/\bc t<=2+4 * (q.i - p.i)/\(q.code=0->bc t<=4 * (q.i - p.i))/\p.i<=q.i) /\
  (∀ d acc p l q,p.ok->SB p->kT acc->mB f d acc p=some (l,q)->kT l/\(aD l<=aD acc+(if p.code=0 then 2 else 0)+4 * (q.i - p.i))/\p.i<=q.i)
 | 0=>⟨fun d p t q _ _ h=>by simp [mS] at h,fun d p t q _ _ h=>by simp [mS] at h,fun a d p t q _ _ _ _ h=>by simp [mS] at h,fun d acc p l q _ _ _ h=>by simp [mB] at h⟩
 | f+1=>by
  obtain ⟨D,X,h3,h4⟩:=Ux f;refine ⟨fun d p t q hp hb h=>?_,fun d p t q hp hb h=>?_,fun a d p t q hp hb au ha h=>?_,fun d acc p l q hp hb hac h=>?_⟩
  ·rw [mS] at h;have hd:=ik hp d
   have hi:(p.deep d).i=p.i:=by unfold RS.deep RS.fail;split <;> (try split) <;> rfl
   rw [<-hi];have dv:=hd.ok hp;have uc:=hb.to hd;generalize p.deep d=p at *
   try simp only at h
   have hm:=bG dv (s:=[123]) ao;split at h
   ·cases h
   ·rename_i l q' he;have hl:=h4 _ _ _ _ _ (hm.ok dv) (uc.to hm) (by rw [kT];trivial) he;have fE:=hm.trans ((rf f).2 _ _ _ _ _ (hm.ok dv) he);cases h;have h5:=(bG (fE.ok dv) (s:=[125]) ao).2.2.2;have h6:=hm.2.2.2;refine ⟨nX ao uc.place (aX _) hl.1,?_,by have:=hl.2.2;omega⟩;rw [iY];have h7:=hl.2.1;have h8:=hl.2.2;rw [aD] at h7;split at h7
    ·rename_i hc;have h9:=(sZ ao hc).1
     have oO:(p.aL [123]).i=p.i+1:=by rw [h9];rfl
     omega
    ·omega
  ·rw [mS] at h;have hd:=ik hp d
   have hi:(p.deep d).i=p.i:=by unfold RS.deep RS.fail;split <;> (try split) <;> rfl
   rw [<-hi];have dv:=hd.ok hp;have uc:=hb.to hd;generalize p.deep d=p at *
   try simp only at h
   have c8:=uc.place
   have last:∀ (q':RS),p.to q'->q'.i<=(q'.aL [59]).i/\((q'.aL [59]).code=0->(q'.aL [59]).i=q'.i+1):=fun q' hq=>⟨(bG (hq.ok dv) ao).2.2.2,fun hc=>by rw [(sZ ao hc).1];rfl⟩
   split at h
   ·rename_i hs;have hn:=dC hs ao;have dq:=hn.trans (eO (hn.ok dv));have fD:=dq.trans (bG (dq.ok dv) (s:=[61]) ao);split at h
    ·cases h
    ·rename_i e q' he;have hx:=A7 (fD.ok dv) (uc.to fD) he;have xE:=last _ (fD.trans (fO (fD.ok dv) he));have h5:=((eO (hn.ok dv)).trans (bG (dq.ok dv) (s:=[61]) ao)).2.2.2
     have h8:p.next.i=p.i+1:=rfl
     cases h;refine ⟨nX ao c8 (pZ _) (yk hx.1),?_,fun hc=>?_,?_⟩
     ·exact zeN
     ·exact zcJ
     ·have:=hx.2;omega
   ·split at h
    ·rename_i hs;refine h3 _ _ _ _ _ dv uc ?_ c8 h
     rcases hs with hs | hs
     ·exact zdU
     ·exact zdU
    ·split at h
     ·rename_i hs;have hn:=dC hs ao;split at h
      ·cases h
      ·rename_i e q' he;have hx:=A7 (hn.ok dv) (uc.to hn) he;have xE:=last _ (hn.trans (fO (hn.ok dv) he))
       have h8:p.next.i=p.i+1:=rfl
       cases h;refine ⟨nX ao c8 (aX _) (yk hx.1),?_,fun hc=>?_,?_⟩
       ·exact zeN
       ·exact zcJ
       ·have:=hx.2;omega
     ·split at h
      ·have dq:=eO dv;have fD:=dq.trans (bG (dq.ok dv) (s:=[61]) ao);split at h
       ·cases h
       ·rename_i e q' he;have hx:=A7 (fD.ok dv) (uc.to fD) he;have xE:=last _ (fD.trans (fO (fD.ok dv) he));have h5:=fD.2.2.2;cases h;refine ⟨nX ao c8 (pZ _) (yk hx.1),?_,fun hc=>?_,?_⟩
        ·exact zeN
        ·exact zcJ
        ·have:=hx.2;omega
      ·split at h
       ·cases h
       ·rename_i e q' he;have oV:=fO dv he;have hx:=A7 dv uc he;split at h
        ·rename_i hs;have vu:=dC hs.2.2 ao;have hn:=oV.trans vu;split at h
         ·rename_i a r v p2 hk nO;have hv:=A7 (hn.ok dv) (uc.to hn) nO;have xE:=last _ (hn.trans (fO (hn.ok dv) nO))
          have h8:q'.next.i=q'.i+1:=rfl
          have Uh:nG a:=by have:=hx.1.kids;rw [hk,kT] at this;exact this.1
          have hza:bc a+1<=bc e:=by
           cases e with
           | mk n l =>
            have hk:l=a::r:=hk;rw [bc,hk,aD];omega
          cases h;refine ⟨nX ao c8 hx.1.n.s (Mb Uh hv.1),?_,fun hc=>?_,?_⟩
          ·rw [iY,EP];have:=hx.2;have:=hv.2;omega
          ·rw [iY,EP];have:=hx.2;have:=hv.2;have:=xE.2 hc;omega
          ·have:=hx.2;have:=hv.2;omega
         ·cases h
        ·have xE:=last _ oV;cases h;refine ⟨nX ao c8 (aX _) (yk hx.1),?_,fun hc=>?_,?_⟩
         ·exact zeN
         ·exact zcJ
         ·have:=hx.2;omega
  ·rw [mS] at h;have hn:=cE au
   have h8:p.next.i=p.i+1:=rfl
   have hm:=hn.trans (bG (hn.ok hp) (s:=[40]) ao);have h5:=(bG (hn.ok hp) (s:=[40]) ao).2.2.2
   have sE:0<=p.ck/\p.ck<=14:=by unfold RS.ck;split <;> decide
   try simp only at h
   split at h
   ·cases h
   ·rename_i e q' he;have hx:=A7 (hm.ok hp) (hb.to hm) he;have sd:=(hm.trans (fO (hm.ok hp) he)).trans (bG ((hm.trans (fO (hm.ok hp) he)).ok hp) (s:=[41]) ao);have h6:=(bG ((hm.trans (fO (hm.ok hp) he)).ok hp) (s:=[41]) ao).2.2.2;split at h
    ·cases h
    ·rename_i b q2 eH;have ub:=D _ _ _ _ (sd.ok hp) (hb.to sd) eH;have fE:=sd.trans ((rf f).1 _ _ _ _ (sd.ok hp) (fun a d' h=>by cases h) eH);split at h
     ·rename_i hs;have bZ:=fE.trans (dC hs.2 ao)
      have h9:q2.next.i=q2.i+1:=rfl
      split at h
      ·cases h
      ·rename_i b2 q3 abc;have ej:=D _ _ _ _ (bZ.ok hp) (hb.to bZ) abc;cases h;refine ⟨nX sE ha (aX _) (by rw [kT];exact ⟨hx.1,Mb ub.1 ej.1⟩),?_,fun hc=>?_,?_⟩
       ·rw [iY,YX];exact zeo
       ·rw [iY,YX];exact zeo
       ·exact zeo
     ·cases h;refine ⟨nX sE ha (aX _) (Mb hx.1 ub.1),?_,fun hc=>?_,?_⟩
      ·rw [iY,EP];have:=hx.2;have:=ub.2;omega
      ·rw [iY,EP];have:=hx.2;have:=ub.2;omega
      ·have:=hx.2;have:=ub.2;omega
  ·rw [mB] at h;split at h
   ·rename_i hc;split at h
    ·cases h
    ·rename_i a p' he;have hs:=X _ _ _ _ hp hb he;have fE:=(rf f).1 _ _ _ _ hp (fun a d' h=>by cases h) he;have hl:=h4 _ _ _ _ _ (fE.ok hp) (hb.to fE) (D4 hac (yk hs.1)) h;have h5:=hl.2.1;have h6:=hl.2.2;rw [ER,sr] at h5;refine ⟨hl.1,?_,by have:=hs.2.2.2;omega⟩;rw [ae hc.1];split at h5
     ·rename_i ly;have:=hs.2.2.1 ly;have:=hs.2.2.2;omega
     ·have:=hs.2.1;have:=hs.2.2.2;omega
   ·cases h;exact ⟨hac,by split <;> omega,aH _⟩
open Go.Im
abbrev Y3 (n:Nd):Nat:=n.s.length+n.kids.length+1
mutual
theorem TF:∀ (t:T) (a:Nat),nG t->b8 Y3 (iO a t)+1<=14 * bc t
 | .mk n l,a,h=>by
  rw [nG] at h;have D:=h.1.s;have X:=TD l (a+1) h.2;rw [iO,b8,bc];show n.s.length+(bE (a+1) l).length+1+_+1<=_;rw [eC];omega
theorem TD:∀ (l:List T) (a:Nat),kT l->b8 Y3 (dX a l)+l.length<=14 * aD l
 | [],a,h=>by rw [dX,b8,aD];exact aH _
 | t::r,a,h=>by
  rw [kT] at h;have D:=TF t a h.1;have X:=TD r (a+bc t) h.2;rw [dX,tt,aD,length_cons];omega
end
mutual
theorem TE:∀ (t:T) (a:Nat),nG t->∀ n∈iO a t,0<=n.n/\n.n<=2147483647
 | .mk n l,a,h,m,hm=>by
  rw [nG] at h;rw [iO] at hm
  rcases eF hm with rfl | hm
  ·exact h.1.n
  ·exact TC l (a+1) h.2 m hm
theorem TC:∀ (l:List T) (a:Nat),kT l->∀ n∈dX a l,0<=n.n/\n.n<=2147483647
 | [],a,h,m,hm=>by rw [dX] at hm;cases hm
 | t::r,a,h,m,hm=>by
  rw [kT] at h;rw [dX] at hm
  rcases nt hm with hm | hm
  ·exact TE t a h.1 m hm
  ·exact TC r (a+bc t) h.2 m hm
end
structure PB (p:Src) (i:Nat):Prop where
 w:cQ p<=100 * i
 num:pj p
def FZ:Src:=⟨[],[],[],[]⟩
theorem PB.no:PB FZ 0:=⟨aH _,⟨(fun a h=>by simp [FZ] at h),(fun a h=>by simp [FZ] at h)⟩⟩
theorem PB.aa4 {p:Src} {i j:Nat} (h:PB p i) (s:ah) (hs:s.length<=12) (fj:i < j):PB ⟨p.globals++[s],p.arrays,p.fns,p.nodes⟩ j:=by
 refine ⟨?_,h.num.arrays,h.num.nodes⟩;exact zfj
theorem PB.arr {p:Src} {i j:Nat} (h:PB p i) (a:Ar) (hs:a.name.length<=12) (hz:0<=a.size/\a.size<=2147483647) (fj:i < j):PB ⟨p.globals,p.arrays++[a],p.fns,p.nodes⟩ j:=by
 refine ⟨?_,fun x hx=>?_,h.num.nodes⟩
 ·exact zfj
 ·rcases nt hx with hx | hx
  ·exact h.num.arrays x hx
  ·rw [mem_singleton] at hx;subst hx;omega
theorem I3:∀ (l:List ah),(∀ s∈l,s.length<=12)->wS l<=13 * l.length
 | [],_=>aH _
 | s::l,h=>by
  have D:=h s zfu
  have X:=I3 l fun s hs=>h s (by simp [hs])
  unfold wS at *;rw [b8,length_cons];omega
theorem PB.fn {p:Src} {i j:Nat} (h:PB p i) (f:Fn) (t:T) (hs:f.name.length<=12) (hp:∀ s∈f.params,s.length<=12) (ht:nG t) (k b:Nat) (hk:f.params.length<=k) (hb:bc t<=1+4 * b) (fj:i+1+k+b<=j):PB ⟨p.globals,p.arrays,p.fns++[f],p.nodes++iO p.nodes.length t⟩ j:=by
 refine ⟨?_,h.num.arrays,fun x hx=>?_⟩
 ·have D:=h.w;have X:=TF t p.nodes.length ht;have h3:=I3 f.params hp;unfold cQ at *;simp only [tt,b8] at *;have e:b8 (fun n:Nd=>n.s.length+n.kids.length+1) (iO p.nodes.length t)=b8 Y3 (iO p.nodes.length t):=rfl;omega
 ·rcases nt hx with hx | hx
  ·exact h.num.nodes x hx
  ·have:=TE t _ ht x hx;omega
theorem u0 {p:Src} (h:pj p) (i:Nat) {x:Nd} (hx : -9223372036854775808<=x.n/\x.n<=9223372036854775807):pj ⟨p.globals,p.arrays,p.fns,p.nodes.set i x⟩ :=
 ⟨h.arrays,fun y hy=>by rcases List.mem_or_eq_of_mem_set hy with hy | hy;exact h.nodes y hy;subst hy;exact hx⟩
theorem abS {p:Src} {i:Nat} {x:Nd} (h:p.nodes[i]?=some x):x.s.length+x.kids.length+1<=cQ p:=by
 have:=tw (f:=fun n:Nd=>n.s.length+n.kids.length+1) (br h);unfold cQ;omega
theorem aap (p:Src) (f g:Fn) (r:List Fn) (h:p.fns=f::r) (hn:g.name=f.name) (hp:g.params=f.params):cQ ⟨p.globals,p.arrays,g::r,p.nodes⟩=cQ p:=by
 unfold cQ;simp only [h,b8,hn,hp]
theorem aao (p:Src) (a:Ar):cQ ⟨p.globals,p.arrays++[a],p.fns,p.nodes⟩=cQ p+a.name.length+1:=by
 unfold cQ;simp only [tt,b8];omega
theorem F2 (s:ah):∀ (f:Nat) (n:Int) (a:Nat),0<=n->0<=(number s f n a).1
 | 0,n,a,h=>h
 | f+1,n,a,h=>by
  rw [number]
  cases hc:s[a]? with
  | none=>exact h
  | some c =>
   simp only
   by_cases hd:ew c=true
   ·rw [ae hd];refine F2 s f _ _ ?_;split
    ·have oP:(48:Int)<=(c.toNat:Int):=by
      unfold ew at hd;simp only [aI,decide_eq_true_eq] at hd;exact hd.1
     omega
    ·exact h
   ·rw [ab hd];exact h
theorem Qg {s:ah} {a:Nat} {c:UInt8} (hc:s[a]?=some c) (hd:ew c=true) (n:Int):a < (number s (s.length+1) n a).2:=by
 have au:=(bu hc).1;rw [number,hc];simp only;rw [ae hd];have:=(uP s s.length (if n<=2147483647 then n * 10+((c.toNat:Int) - 48) else n) (a+1) aq aq).2.1;omega
theorem Qx:∀ x∈bX,1<=x.length:=by decide
theorem Te {s:ah} {a:Nat} {c:UInt8} (hc:s[a]?=some c) (hk:¬ (gw s a c).1.kind=0):a < (gw s a c).2:=by
 have au:=(bu hc).1;unfold gw at hk |-
 by_cases hd:ew c=true
 ·rw [ae hd];exact Qg hc hd 0
 ·rw [ab hd] at hk |-
  by_cases hs:small c=true
  ·rw [ae hs];show a < fS s a;unfold fS;rw [run,hc];simp only;rw [ae (by unfold eJ;rw [hs];rfl)];have:=(qn s eJ s.length (a+1) aq aq).2.1;omega
  ·rw [ab hs] at hk |-;split
   ·rename_i x hx;have:=Qx x (List.mem_of_find?_eq_some hx);show a < a+x.length;omega
   ·rename_i hx;rw [hx] at hk;exact absurd rfl hk
theorem Wl {s:ah} {a:Nat} {c:UInt8} (hc:s[a]?=some c) (hl:s.length<=6000) (hn:(gw s a c).1.n<=2147483647):D0 (gw s a c).1:=by
 have au:=(bu hc).1;unfold gw at hn |-
 by_cases hd:ew c=true
 ·rw [ae hd] at hn |-;exact ⟨⟨by show (0:Int)<=(a:Int);omega,by show (a:Int)<=6000;omega⟩,F2 s _ 0 a (Int.le_refl _),hn⟩
 ·rw [ab hd] at hn |-
  by_cases hs:small c=true
  ·rw [ae hs] at hn |-;exact ⟨⟨by show (0:Int)<=(a:Int);omega,by show (a:Int)<=6000;omega⟩,Int.le_refl _,hn⟩
  ·rw [ab hs] at hn |-;split
   ·exact ⟨⟨by show (0:Int)<=(a:Int);omega,by show (a:Int)<=6000;omega⟩,Int.le_refl _,by show (0:Int)<=2147483647;omega⟩
   ·exact ⟨⟨Int.le_refl _,by show (0:Int)<=6000;omega⟩,Int.le_refl _,by show (0:Int)<=2147483647;omega⟩
theorem vK {α:Type} {f:α->Nat} (h:∀ x,1<=f x):∀ l:List α,l.length<=b8 f l
 | []=>aH _
 | x::l=>by have D:=h x;have X:=vK h l;rw [b8,length_cons];omega
theorem vU (p:Src):p.globals.length<=cQ p/\p.arrays.length<=cQ p/\p.fns.length<=cQ p/\p.nodes.length<=cQ p:=by
 have D:p.globals.length<=wS p.globals:=vK (fun s=>Nat.le_add_left 1 _) _;have X:=vK (f:=fun a:Ar=>a.name.length+1) (fun s=>Nat.le_add_left 1 _) p.arrays;have h3:=vK (f:=fun f:Fn=>f.name.length+wS f.params+1) (fun s=>Nat.le_add_left 1 _) p.fns;have h4:=vK (f:=fun n:Nd=>n.s.length+n.kids.length+1) (fun s=>Nat.le_add_left 1 _) p.nodes;unfold cQ;omega
def ri (p:RS):Int × RS:=match p.l[p.i]? with
 | some t=>if t.kind=1 then (t.n,p.next) else (0,p.fail 7 p.place)
 | none=>(0,p.fail 7 p.place)
theorem LQ {p:RS} (hp:p.ok):p.to (ri p).2:=by
 unfold ri
 cases ht:p.l[p.i]? with
 | none=>exact ze6
 | some t =>
  simp only;split
  ·exact cE (bu ht).1
  ·exact ze6
theorem S7 {p:RS} (h:SB p):0<=(ri p).1/\(ri p).1<=2147483647:=by
 unfold ri
 cases ht:p.l[p.i]? with
 | none=>exact zcZ
 | some t =>
  simp only;split
  ·exact (h.at ht).n
  ·exact zcZ
end Go.Sp
namespace Go.Im
open Go.Xp Go.Sp
theorem zB {p:Src} {l:List T} (h:il p l):∀ a∈p.arrays,0<=a.size/\a.size<=2147483647:=fun a ha=>by
 have:=gP.1 h.arrays a ha;unfold qB at this;simp only [aI,Bool.not_eq_true',decide_eq_false_iff_not] at this;omega
def re:ah:=[103,101,116]
def si:ah:=[112,117,116]
def kK:ah:=[115,105,122,101]
def xN:ah:=[109,97,105,110]
def ou (s:ah):Bool:=(s==re || s==si) || s==kK
def cx {α:Type} (f:α->Bool) (l:List α):Int:=match l.findIdx? f with | some i=>(i:Int) | none => -1
def qj (p:Src) (s:ah):Int:=cx (fun f:Fn=>f.name==s) p.fns
def Gu (p:Src) (s:ah):Int:=cx (fun a:Ar=>a.name==s) p.arrays
def fQ (p:Src):List ah:=p.arrays.map fun a:Ar=>a.name
def jY (p:Src):List ah:=p.fns.map fun f:Fn=>f.name
def dr (p:Src):List ah:=(p.globals++fQ p)++jY p
def pX (t:T):Nd:=match t.kids with | k::_=>k.n | []=>⟨0,0,0,[],[]⟩
def eM (t:T):Bool:=(t.n.kind==4&&t.n.s==kK)&&(t.kids.length==1)
def nR (p:Src) (i:Nat):Nat:=match p.fns[i]? with | some f=>f.params.length | none=>0
def pD (p:Src) (s:ah):Int:=if s=re then 0 else if s=si\/s=kK then 1 else match p.fns.findIdx? (fun f:Fn=>f.name==s) with | some i=>(nR p i:Int) | none => -1
def iM (p:Src) (k:Nd) (ls:List ah):Bool:=(k.kind != 2 || decide (Gu p k.s < 0)) || ls.contains k.s
def fU (p:Src) (t:T) (ls:List ah):Int :=
 if eM t=true then (if iM p (pX t) ls=true then 24 else 0)
 else if pD p t.n.s = -1 then 22 else if pD p t.n.s=(t.kids.length:Int) then 0 else 23
def cK (p:Src) (t:T) (ls:List ah):Int :=
 if t.n.kind=13 then (if ls.contains t.n.s=true then 21 else if ls.length>=40 then 26 else 0)
 else if t.n.kind=2\/t.n.kind=7 then (if ls.contains t.n.s=false/\p.globals.contains t.n.s=false then 22 else 0)
 else if t.n.kind=3\/t.n.kind=8 then (if ls.contains t.n.s=true\/Gu p t.n.s < 0 then 24 else 0)
 else if t.n.kind=4 then fU p t ls
 else 0
structure CS where
 code:Int
 place:Int
 skip:Int
def dc (p:Src) (c:CS) (a:Nat) (t:T) (ls:List ah):CS :=
 if c.code≠0\/(a:Int)=c.skip then c
 else ⟨cK p t ls,if cK p t ls≠0 then t.n.at_ else c.place,if eM t=true then (if (pX t).kind≠2 then -1 else ((a+1:Nat):Int)) else c.skip⟩
mutual
def km {σ:Type} (f:σ->Nat->T->List ah->σ):T->Nat->σ->List ah->σ × List ah
 | .mk n l,a,s,ls=>((eT f l (a+1) (f s a (.mk n l) ls) ls).1,if n.kind=13 then (eT f l (a+1) (f s a (.mk n l) ls) ls).2++[n.s] else (eT f l (a+1) (f s a (.mk n l) ls) ls).2)
def eT {σ:Type} (f:σ->Nat->T->List ah->σ):List T->Nat->σ->List ah->σ × List ah
 | [],_,s,ls=>(s,ls)
 | t::r,a,s,ls=>eT f r (a+bc t) (km f t a s ls).1 (km f t a s ls).2
end
theorem xv {σ:Type} (f:σ->Nat->T->List ah->σ) (t:T) (a:Nat) (s:σ) (ls:List ah) :
  km f t a s ls=((eT f t.kids (a+1) (f s a t ls) ls).1,if t.n.kind=13 then (eT f t.kids (a+1) (f s a t ls) ls).2++[t.n.s] else (eT f t.kids (a+1) (f s a t ls) ls).2):=by
 cases t;rw [km];rfl
def qh (l:List ah) (k:Nat):Bool:=match l[k]? with | some s=>(l.take k).contains s | none=>false
def w7 (l:List ah):Bool:=(List.range l.length).any (qh l)
def gC (p:Src) (f:Fn) (t:T) (a:Nat):Int × Int :=
 if w7 f.params=true then (21,0) else ((km (dc p) t a ⟨0,0,-1⟩ f.params).1.code,(km (dc p) t a ⟨0,0,-1⟩ f.params).1.place)
def mC (l:List ah) (k:Nat):Bool:=match l[k]? with | some s=>ou s || (l.take k).contains s | none=>false
def eX (l:List ah):Bool:=(List.range l.length).any (mC l)
def eu (l:List Ar):Int:=l.foldl (fun n a=>n+a.size) 0
def ki (p:Src):Bool:=p.arrays.any (fun a=>a.size==0) || ((((decide (p.fns.length > 40) || decide (p.globals.length > 29)) || decide (eu p.arrays > 8000))) || p.fns.any fun f=>decide (f.params.length > 40))
def oY (f:Fn):Bool:=f.name==xN&&f.params.length==0
def gD (p:Src):List Fn->List T->Nat->Int × Int
 | f::r,t::l,a=>if (gC p f t a).1≠0 then gC p f t a else gD p r l (a+bc t)
 | _,_,_=>(0,0)
def Fo (p:Src) (l:List T):Int × Int :=
 if eX (dr p)=true then (21,0) else if ki p=true then (26,0) else if p.fns.any oY=false then (25,0) else gD p p.fns l 0
def en (p:Src):Bool:=fI p&&(match kC p.nodes p.fns 0 [] with | some (l,_)=>decide ((Fo p l).1=0) | none=>false)
structure SS where
 ls:List ah
 code:Int
 at_:Int
def SS.fail (c:SS) (k a:Int):SS:=if c.code=0 then ⟨c.ls,k,a⟩ else c
def fy (c:SS) (n:Nd) (k want:Nat):SS:=if k≠want then c.fail 23 n.at_ else c
def gI (p:Src) (c:SS) (t:T):SS × Bool :=
 if t.n.s=re then (fy c t.n t.kids.length 0,true)
 else if t.n.s=si then (fy c t.n t.kids.length 1,true)
 else if t.n.s=kK then (fy (if t.kids.length=1/\iM p (pX t) c.ls=true then c.fail 24 t.n.at_ else c) t.n t.kids.length 1,false)
 else match p.fns.findIdx? (fun f:Fn=>f.name==t.n.s) with
  | none=>(c.fail 22 t.n.at_,false)
  | some i=>(fy c t.n t.kids.length (nR p i),true)
def lp (p:Src) (c:SS) (t:T):SS × Bool :=
 if t.n.kind=2\/t.n.kind=7 then (if c.ls.contains t.n.s=false/\p.globals.contains t.n.s=false then c.fail 22 t.n.at_ else c,true)
 else if t.n.kind=3\/t.n.kind=8 then (if c.ls.contains t.n.s=true\/Gu p t.n.s < 0 then c.fail 24 t.n.at_ else c,true)
 else if t.n.kind=4 then gI p c t
 else (c,true)
def n5 (c:SS) (n:Nd):SS :=
 if n.kind≠13 then c
 else if c.ls.contains n.s=true then ⟨(c.fail 21 n.at_).ls++[n.s],(c.fail 21 n.at_).code,(c.fail 21 n.at_).at_⟩
 else if c.ls.length=40 then ⟨(c.fail 26 n.at_).ls++[n.s],(c.fail 26 n.at_).code,(c.fail 26 n.at_).at_⟩
 else ⟨c.ls++[n.s],c.code,c.at_⟩
mutual
def pE (p:Src):T->SS->SS
 | .mk n l,c=>n5 (if (lp p c (.mk n l)).2=true then jO p l (lp p c (.mk n l)).1 else (lp p c (.mk n l)).1) n
def jO (p:Src):List T->SS->SS
 | [],c=>c
 | t::r,c=>jO p r (pE p t c)
end
theorem xR (p:Src) (t:T) (c:SS):pE p t c=n5 (if (lp p c t).2=true then jO p t.kids (lp p c t).1 else (lp p c t).1) t.n:=by cases t;rw [pE];rfl
mutual
def wL:T->Prop
 | .mk n l=>n.kind≠13/\ni l
def ni:List T->Prop
 | []=>True
 | t::r=>wL t/\ni r
end
mutual
def jj:T->Prop
 | .mk n l=>(n.kind=13->ni l)/\(n.kind=2->l=[])/\ep l
def ep:List T->Prop
 | []=>True
 | t::r=>jj t/\ep r
end
mutual
theorem Z2:∀ t:T,wL (er t)↔wL t
 | .mk n l=>by rw [er,wL,wL,Ii l]
theorem Ii:∀ l:List T,ni (aZ l)↔ni l
 | []=>by rw [aZ]
 | t::r=>by rw [aZ,ni,ni,Z2 t,Ii r]
end
theorem Vg {l:List T}:aZ l=[]↔l=[]:=by
 cases l with
 | nil=>rw [aZ]
 | cons t r=>rw [aZ];simp
mutual
theorem UQ:∀ t:T,jj (er t)↔jj t
 | .mk n l=>by rw [er,jj,jj,Ii l,QZ l,Vg]
theorem QZ:∀ l:List T,ep (aZ l)↔ep l
 | []=>by rw [aZ]
 | t::r=>by rw [aZ,ep,ep,UQ t,QZ r]
end
mutual
theorem E.nv:∀ a:E,wL a.tree
 | .num n=>by rw [E.tree,wL];exact ⟨by simp,trivial⟩
 | .name s=>by rw [E.tree,wL];exact ⟨by simp,trivial⟩
 | .at_ s a=>by rw [E.tree,wL,ni,ni];exact ⟨by simp,E.nv a,trivial⟩
 | .call s l=>by rw [E.tree,wL];exact ⟨by simp,E.nvs l⟩
 | .un s a=>by rw [E.tree,wL,ni,ni];exact ⟨by simp,E.nv a,trivial⟩
 | .bin s a b=>by rw [E.tree,wL,ni,ni,ni];exact ⟨by simp,E.nv a,E.nv b,trivial⟩
theorem E.nvs:∀ l:List E,ni (E.trees l)
 | []=>trivial
 | a::l=>by rw [E.trees,ni];exact ⟨E.nv a,E.nvs l⟩
end
mutual
theorem E.wf:∀ a:E,jj a.tree
 | .num n=>zd4
 | .name s=>zd4
 | .at_ s a=>by rw [E.tree,jj,ep,ep];exact zaF
 | .call s l=>by rw [E.tree,jj];exact ⟨fun h=>absurd h zfu,fun h=>absurd h zfu,E.DS l⟩
 | .un s a=>by rw [E.tree,jj,ep,ep];exact zaF
 | .bin s a b=>by rw [E.tree,jj,ep,ep,ep];exact zdg
theorem E.DS:∀ l:List E,ep (E.trees l)
 | []=>trivial
 | a::l=>by rw [E.trees,ep];exact ⟨E.wf a,E.DS l⟩
end
mutual
theorem S.wf:∀ a:S,jj a.tree
 | .set s a=>by rw [S.tree,jj,ep,ep];exact zaF
 | .put s a b=>by rw [S.tree,jj,ep,ep,ep];exact zdg
 | .if1 c b=>zbw
 | .if2 c b d=>by rw [S.tree,jj,ep,ep,ep,ep,jj,jj];exact ⟨fun h=>absurd h zfu,fun h=>absurd h zfu,E.wf c,⟨fun h=>absurd h zfu,fun h=>absurd h zfu,S.DS b⟩,⟨fun h=>absurd h zfu,fun h=>absurd h zfu,S.DS d⟩,trivial⟩
 | .while_ c b=>zbw
 | .ret a=>by rw [S.tree,jj,ep,ep];exact zaF
 | .do_ a=>by rw [S.tree,jj,ep,ep];exact zaF
 | .var s a=>by rw [S.tree,jj,ep,ep,ni,ni];exact ⟨fun _=>⟨E.nv a,trivial⟩,fun h=>absurd h zfu,E.wf a,trivial⟩
theorem S.DS:∀ l:List S,ep (S.trees l)
 | []=>trivial
 | a::l=>by rw [S.trees,ep];exact ⟨S.wf a,S.DS l⟩
end
theorem Y4 (l:List S):jj (cB l):=by
 rw [cB,jj];exact ⟨fun h=>absurd h zfu,fun h=>absurd h zfu,S.DS l⟩
theorem SS.qi (c:SS) (k a:Int):(c.fail k a).ls=c.ls:=by unfold SS.fail;split <;> rfl
theorem zd (c:SS) (n:Nd) (k w:Nat):(fy c n k w).ls=c.ls:=by unfold fy;split;(· exact c.qi _ _);rfl
theorem xY (p:Src) (c:SS) (t:T):(lp p c t).1.ls=c.ls:=by
 unfold lp gI;split
 ·simp only;split;(· exact c.qi _ _);rfl
 split
 ·simp only;split;(· exact c.qi _ _);rfl
 split
 ·split
  ·exact zd _ _ _ _
  split
  ·exact zd _ _ _ _
  split
  ·simp only;rw [zd];split;(· exact c.qi _ _);rfl
  split
  ·exact c.qi _ _
  ·exact zd _ _ _ _
 ·rfl
mutual
theorem Z0 (p:Src):∀ (t:T),wL t->∀ c,(pE p t c).ls=c.ls
 | .mk n l,h,c=>by
  rw [wL] at h;rw [pE,n5,ae h.1];split
  ·rw [Ig p l h.2,xY]
  ·exact xY _ _ _
theorem Ig (p:Src):∀ (l:List T),ni l->∀ c,(jO p l c).ls=c.ls
 | [],_,c=>by rw [jO]
 | t::r,h,c=>by
  rw [ni] at h;rw [jO,Ig p r h.2,Z0 p t h.1]
end
theorem SS.AV {c:SS} (h:c.code≠0) (k a:Int):c.fail k a=c:=by unfold SS.fail;rw [ab h]
theorem SS.rD (c:SS) {k:Int} (hk:k≠0) (a:Int):(c.fail k a).code≠0:=by
 unfold SS.fail;split
 ·exact hk
 ·assumption
theorem Tm {c:SS} (h:c.code≠0) (n:Nd) (k w:Nat):fy c n k w=c:=by unfold fy;rw [SS.AV h];split <;> rfl
theorem VV (p:Src) {c:SS} (h:c.code≠0) (t:T):(lp p c t).1=c:=by
 unfold lp gI;simp only [SS.AV h,Tm h,ite_self];split
 ·rfl
 split
 ·rfl
 split
 ·split
  ·rfl
  split
  ·rfl
  split
  ·rfl
  split <;> rfl
 ·rfl
theorem Bg {c:SS} (h:c.code≠0) (n:Nd):(n5 c n).code≠0:=by
 unfold n5;rw [SS.AV h,SS.AV h];split
 ·exact h
 split
 ·exact h
 split <;> exact h
mutual
theorem Uz (p:Src):∀ (t:T) (c:SS),c.code≠0->(pE p t c).code≠0
 | .mk n l,c,h=>by
  rw [pE];refine Bg ?_ n;rw [VV p h];split
  ·exact xS p l c h
  ·exact h
theorem xS (p:Src):∀ (l:List T) (c:SS),c.code≠0->(jO p l c).code≠0
 | [],c,h=>by rw [jO];exact h
 | t::r,c,h=>by rw [jO];exact xS p r _ (Uz p t c h)
end
theorem S9 (p:Src) {c:CS} (h:c.code≠0) (a:Nat) (t:T) (ls:List ah):dc p c a t ls=c:=by unfold dc;rw [ae (.inl h)]
mutual
theorem Zt (p:Src):∀ (t:T) (a:Nat) (c:CS) (ls:List ah),c.code≠0->(km (dc p) t a c ls).1=c
 | .mk n l,a,c,ls,h=>by rw [km,S9 p h];exact xw p l _ c ls h
theorem xw (p:Src):∀ (l:List T) (a:Nat) (c:CS) (ls:List ah),c.code≠0->(eT (dc p) l a c ls).1=c
 | [],a,c,ls,h=>by rw [eT]
 | t::r,a,c,ls,h=>by
  have D:=Zt p t a c ls h;rw [eT,D];exact xw p r _ c _ h
end
def Ff (a:Nat) (r:CS × List ah) (q:SS):Prop:=(r.1.code=0/\q.code=0/\r.2=q.ls/\r.1.skip < (a:Int)/\q.ls.length<=40)\/(r.1.code≠0/\q.code≠0)
theorem S5 (p:Src) (t:T) (HO:t.n.kind=13->ni t.kids) (pU:∀ k∈t.kids,k.n.kind=2->k.kids=[])
  (ih:∀ (a:Nat) (r:CS) (q:SS),r.code=0->q.code=0->r.skip < (a:Int)->q.ls.length<=40->Ff (a+aD t.kids) (eT (dc p) t.kids a r q.ls) (jO p t.kids q))
  (a:Nat) (r:CS) (q:SS) (hr:r.code=0) (hq:q.code=0) (hs:r.skip < (a:Int)) (hl:q.ls.length<=40):Ff (a+bc t) (km (dc p) t a r q.ls) (pE p t q):=by
 have bT:¬ (r.code≠0\/(a:Int)=r.skip):=by
  rintro (h | h)
  ·exact h hr
  ·omega
 obtain ⟨pl,cU⟩:∃ pl,dc p r a t q.ls=⟨cK p t q.ls,pl,if eM t=true then (if (pX t).kind≠2 then -1 else ((a+1:Nat):Int)) else r.skip⟩:=by
  unfold dc;rw [ab bT];exact zeC
 have dR:=fa t
 have bad:∀ x:SS,cK p t q.ls≠0->x.code≠0->Ff (a+bc t) (km (dc p) t a r q.ls) x:=fun x D X=>by
  refine .inr ⟨?_,X⟩;rw [xv,cU];simp only;rw [xw p t.kids _ _ _ D];exact D
 have go:cK p t q.ls=0->eM t=false->t.n.kind≠13->lp p q t=(q,true)->Ff (a+bc t) (km (dc p) t a r q.ls) (pE p t q):=fun D X h3 h4=>by
  have:=ih (a+1) ⟨0,pl,r.skip⟩ q rfl hq zgg hl;rw [xv,xR,h4,cU,D,X,ab h3,n5,ae h3];simp only [if_true,Bool.false_eq_true,if_false];rw [show a+bc t=a+1+aD t.kids by omega];exact this
 by_cases fH:t.n.kind=13
 ·have hnv:=HO fH
  have hz:eM t=false:=by unfold eM;rw [fH];rfl
  have pS:lp p q t=(q,true):=by unfold lp;rw [ab aq,ab aq,ab aq]
  have oS:(jO p t.kids q).ls=q.ls:=Ig p t.kids hnv q
  have uf:cK p t q.ls=if q.ls.contains t.n.s=true then 21 else if q.ls.length>=40 then 26 else 0:=by
   unfold cK;rw [ae fH]
  rw [xR,pS];simp only [if_true]
  by_cases hc:q.ls.contains t.n.s=true
  ·refine bad _ (by rw [uf,ae hc];decide) ?_;rw [n5,ab (by simpa using fH),oS,ae hc];exact SS.rD _ ao _
  by_cases h40:q.ls.length>=40
  ·refine bad _ (by rw [uf,ab hc,ae h40];decide) ?_;rw [n5,ab (by simpa using fH),oS,ab hc,ae aq];exact SS.rD _ ao _
  have h0:cK p t q.ls=0:=by rw [uf,ab hc,ab h40]
  have:=ih (a+1) ⟨0,pl,r.skip⟩ q rfl hq zgg hl;rw [n5,ab (by simpa using fH),oS,ab hc,ab aq,xv,cU,h0,hz,ae fH];simp only [Bool.false_eq_true,if_false];rw [show a+bc t=a+1+aD t.kids by omega]
  rcases this with ⟨k1,k2,k3,k4,k5⟩ | ⟨k1,k2⟩
  ·refine .inl ⟨k1,k2,?_,k4,?_⟩
   ·show _++_=_++_;rw [k3,oS]
   ·show (q.ls++[t.n.s]).length<=40;rw [aO,List.length_singleton];omega
  ·exact .inr ⟨k1,k2⟩
 by_cases X:t.n.kind=2\/t.n.kind=7
 ·have hz:eM t=false:=by
   exact zfb
  by_cases hc:q.ls.contains t.n.s=false/\p.globals.contains t.n.s=false
  ·refine bad _ (by unfold cK;rw [ab fH,ae X,ae hc];decide) ?_
   have pS:lp p q t=(q.fail 22 t.n.at_,true):=by unfold lp;rw [ae X,ae hc]
   exact zds
  ·exact go (by unfold cK;rw [ab fH,ae X,ab hc]) hz fH (by unfold lp;rw [ae X,ab hc])
 by_cases h3:t.n.kind=3\/t.n.kind=8
 ·have hz:eM t=false:=by
   exact zfb
  by_cases hc:q.ls.contains t.n.s=true\/Gu p t.n.s < 0
  ·refine bad _ (by unfold cK;rw [ab fH,ab X,ae h3,ae hc];decide) ?_
   have pS:lp p q t=(q.fail 24 t.n.at_,true):=by unfold lp;rw [ab X,ae h3,ae hc]
   exact zds
  ·exact go (by unfold cK;rw [ab fH,ab X,ae h3,ab hc]) hz fH (by unfold lp;rw [ab X,ae h3,ab hc])
 by_cases h4:t.n.kind=4
 ·have uf:cK p t q.ls=fU p t q.ls:=by unfold cK;rw [ab fH,ab X,ab h3,ae h4]
  have pS:lp p q t=gI p q t:=by unfold lp;rw [ab X,ab h3,ae h4]
  have fin:∀ x:SS × Bool,gI p q t=x->cK p t q.ls≠0->x.1.code≠0->Ff (a+bc t) (km (dc p) t a r q.ls) (pE p t q):=fun x hx D X=>by
   refine bad _ D ?_;rw [xR,pS,hx];refine Bg ?_ t.n;split
   ·exact xS p t.kids _ X
   ·exact X
  have MA:eM t=((t.n.s==kK)&&(t.kids.length==1)):=by unfold eM;rw [h4];rfl
  have some_:∀ w:Nat,t.n.s≠kK->pD p t.n.s=(w:Int)->gI p q t=(fy q t.n t.kids.length w,true)->Ff (a+bc t) (km (dc p) t a r q.ls) (pE p t q):=fun w e1 e2 e3=>by
   have hz:eM t=false:=by rw [MA,show (t.n.s==kK)=false by simpa using e1];rfl
   have FE:fU p t q.ls=if (w:Int)=(t.kids.length:Int) then 0 else 23:=by
    unfold fU;rw [hz,ab ao,e2,ab aq]
   by_cases hk:t.kids.length=w
   ·refine go (by rw [uf,FE,ae aq]) hz fH ?_;rw [pS,e3,fy,ab zfO]
   ·refine fin _ e3 (by rw [uf,FE,ab aq];decide) ?_;rw [fy,ae hk];exact SS.rD _ ao _
  by_cases hg:t.n.s=re
  ·exact some_ 0 (by rw [hg];decide) (by unfold pD;rw [ae hg];rfl) (by unfold gI;rw [ae hg])
  by_cases hp:t.n.s=si
  ·exact some_ 1 (by rw [hp];decide) (by unfold pD;rw [ab hg,ae (.inl hp)];rfl) (by unfold gI;rw [ab hg,ae hp])
  by_cases hz:t.n.s=kK
  ·have iT:gI p q t=(fy (if t.kids.length=1/\iM p (pX t) q.ls=true then q.fail 24 t.n.at_ else q) t.n t.kids.length 1,false):=by
    unfold gI;rw [ab hg,ab hp,ae hz]
   by_cases hk:t.kids.length=1
   ·have lX:eM t=true:=by rw [MA,hz,hk];rfl
    have FE:fU p t q.ls=if iM p (pX t) q.ls=true then 24 else 0:=by unfold fU;rw [ae lX]
    by_cases hb:iM p (pX t) q.ls=true
    ·refine fin _ iT (by rw [uf,FE,ae hb];decide) ?_;rw [ae ⟨hk,hb⟩,fy,ab zfO];exact SS.rD _ ao _
    ·have abh:gI p q t=(q,false):=by rw [iT,ab (fun h=>hb h.2),fy,ab zfO]
     rw [xR,pS,abh,n5,ae fH];simp only [Bool.false_eq_true,if_false]
     have h0:cK p t q.ls=0:=by rw [uf,FE,ab hb]
     obtain ⟨k,qS⟩:∃ k,t.kids=[k]:=by
      match hl:t.kids,hk with
      | [k],_=>exact ⟨k,rfl⟩
     have Aa:pX t=k.n:=by unfold pX;rw [qS]
     have ud:k.n.kind=2:=by
      have:iM p k.n q.ls=false:=by rw [<-Aa];simpa using hb
      unfold iM at this;simp only [Bool.or_eq_false_iff] at this;simpa using this.1.1
     have fC:k.kids=[]:=pU k (by rw [qS];exact List.mem_singleton.2 rfl) ud
     have wx:bc k=1:=by rw [fa,fC,aD]
     have R5:∀ c:CS,((a+1:Nat):Int)=c.skip->dc p c (a+1) k q.ls=c:=fun c hc=>by unfold dc;rw [ae (.inr hc)]
     rw [xv,cU,h0,lX,ab fH,qS,Aa];simp only [if_true,eT];rw [xv,fC];simp only [eT];rw [ab (by rw [ud];decide),R5 _ rfl,ab (by rw [ud];decide)];refine .inl ⟨rfl,hq,rfl,?_,hl⟩;rw [dR,qS,aD,aD,wx];exact zcZ
   ·have vA:eM t=false:=by rw [MA,show (t.kids.length==1)=false by simpa using hk,Bool.and_false]
    refine fin _ iT ?_ ?_
    ·rw [uf];unfold fU;rw [vA,ab ao]
     have:pD p t.n.s=1:=by unfold pD;rw [ab hg,ae (.inr hz)]
     rw [this,ab ao,ab aq];decide
    ·rw [ab (fun h=>hk h.1),fy,ae hk];exact SS.rD _ ao _
  have dq:pD p t.n.s=match p.fns.findIdx? (fun f:Fn=>f.name==t.n.s) with | some i=>(nR p i:Int) | none => -1:=by
   unfold pD;rw [ab hg,ab (by rintro (h | h);(· exact hp h);exact hz h)]
  have iT:gI p q t=match p.fns.findIdx? (fun f:Fn=>f.name==t.n.s) with | none=>(q.fail 22 t.n.at_,false) | some i=>(fy q t.n t.kids.length (nR p i),true):=by
   unfold gI;rw [ab hg,ab hp,ab hz]
  cases hf:p.fns.findIdx? (fun f:Fn=>f.name==t.n.s) with
  | some i =>
   rw [hf] at dq iT;exact some_ (nR p i) hz dq iT
  | none =>
   rw [hf] at dq iT;refine fin _ iT ?_ (SS.rD _ ao _);rw [uf];unfold fU;rw [MA,show (t.n.s==kK)=false by simpa using hz,Bool.false_and,ab ao,dq];simp
 ·exact go (by unfold cK;rw [ab fH,ab X,ab h3,ab h4]) (by unfold eM;rw [show (t.n.kind==4)=false by simpa using h4];rfl) fH
   (by unfold lp;rw [ab X,ab h3,ab h4])
theorem I8:∀ {l:List T},ep l->∀ k∈l,jj k
 | [],_,k,hk=>by cases hk
 | t::r,h,k,hk=>by
  rw [ep] at h
  rcases eF hk with rfl | hk
  ·exact h.1
  ·exact I8 h.2 k hk
mutual
theorem YM (p:Src):∀ (t:T),jj t->∀ (a:Nat) (r:CS) (q:SS),r.code=0->q.code=0->r.skip < (a:Int)->q.ls.length<=40->Ff (a+bc t) (km (dc p) t a r q.ls) (pE p t q)
 | .mk n l,hw=>by
  rw [jj] at hw;refine S5 p (.mk n l) hw.1 (fun k hk X=>?_) (YL p l hw.2.2);have:=I8 hw.2.2 k hk;obtain ⟨m,j⟩:=k;rw [jj] at this;exact this.2.1 X
theorem YL (p:Src):∀ (l:List T),ep l->∀ (a:Nat) (r:CS) (q:SS),r.code=0->q.code=0->r.skip < (a:Int)->q.ls.length<=40->Ff (a+aD l) (eT (dc p) l a r q.ls) (jO p l q)
 | [],_,a,r,q,hr,hq,hs,hl=>by rw [eT,jO,aD];exact .inl ⟨hr,hq,rfl,by simpa using hs,hl⟩
 | t::l,hw,a,r,q,hr,hq,hs,hl=>by
  rw [ep] at hw;rw [eT,jO,aD]
  rcases YM p t hw.1 a r q hr hq hs hl with ⟨k1,k2,k3,k4,k5⟩ | ⟨k1,k2⟩
  ·rw [k3];have:=YL p l hw.2 (a+bc t) _ _ k1 k2 k4 k5;rw [iy] at this;exact this
  ·exact .inr ⟨by rw [xw p l _ _ _ k1];exact k1,xS p l _ k2⟩
end
def im (c k:Int):Int:=if c=0 then k else c
def oD (a:Ar):Bool:=decide (a.size < 1) || decide (a.size > 8000)
def lM (p:Src):Bool:=match p.fns.findIdx? (fun f:Fn=>f.name==xN) with | none=>true | some i=>decide (nR p i > 0)
def vf (p:Src):Bool:=(decide (p.fns.length > 40) || decide (p.globals.length > 29)) || decide (eu p.arrays > 8000)
def tl (p:Src) (c:Int):Int :=
 if p.arrays.any oD=true then im c 26
 else if lM p=true then im (if (p.fns.any fun f=>decide (f.params.length > 40))=true then im (if vf p=true then im c 26 else c) 26 else (if vf p=true then im c 26 else c)) 25
 else if (p.fns.any fun f=>decide (f.params.length > 40))=true then im (if vf p=true then im c 26 else c) 26 else (if vf p=true then im c 26 else c)
def sk (f:Fn) (c:SS):SS:=⟨f.params,if w7 f.params=true then im c.code 21 else c.code,if w7 f.params=true/\c.code=0 then 0 else c.at_⟩
def pO (p:Src):List Fn->List T->SS->SS
 | f::r,t::l,c=>pO p r l (if c.code=0 then pE p t (sk f c) else c)
 | _,_,c=>c
def Of (p:Src) (l:List T):SS:=pO p p.fns l ⟨[],tl p (if eX (dr p)=true then 21 else 0),0⟩
theorem AX (p:Src):∀ (fs:List Fn) (l:List T) (c:SS),c.code≠0->(pO p fs l c).code≠0
 | f::r,t::l,c,h=>by rw [pO,ab h];exact AX p r l c h
 | [],_,c,h=>by rw [pO];(· exact h);intros;simp_all
 | f::r,[],c,h=>by rw [pO];(· exact h);intros;simp_all
theorem W1 (p:Src) (f:Fn) (t:T) (a:Nat) (c:SS) (hw:jj t) (hc:c.code=0) (hp:f.params.length<=40):(gC p f t a).1=0↔(pE p t (sk f c)).code=0:=by
 unfold gC
 by_cases hd:w7 f.params=true
 ·rw [ae hd]
  have:(sk f c).code≠0:=by unfold sk;rw [ae hd];unfold im;rw [ae hc];show (21:Int)≠0;decide
  have X:=Uz p t _ this;constructor
  ·intro h;cases h
  ·intro h;exact absurd h X
 ·rw [ab hd]
  have hq:(sk f c).code=0:=by unfold sk;rw [ab hd];exact hc
  have D:=YM p t hw a ⟨0,0,-1⟩ (sk f c) rfl hq (by show (-1:Int) < _;omega) hp;show (km (dc p) t a ⟨0,0,-1⟩ (sk f c).ls).1.code=0↔_
  rcases D with ⟨k1,k2,_⟩ | ⟨k1,k2⟩
  ·exact ⟨fun _=>k2,fun _=>k1⟩
  ·exact ⟨fun h=>absurd h k1,fun h=>absurd h k2⟩
theorem Kr (p:Src):∀ (fs:List Fn) (l:List T) (a:Nat) (c:SS),c.code=0->(∀ t∈l,jj t)->(∀ f∈fs,f.params.length<=40)->((gD p fs l a).1=0↔(pO p fs l c).code=0)
 | f::r,t::l,a,c,hc,hw,hp=>by
  have D:=W1 p f t a c (hw t mem_cons_self) hc (hp f mem_cons_self);rw [gD,pO,ae hc]
  by_cases h:(gC p f t a).1=0
  ·rw [ab zfx];exact Kr p r l _ _ (D.1 h) (fun u hu=>hw u (dm _ hu)) (fun g hg=>hp g (dm _ hg))
  ·rw [ae h]
   have X:(pE p t (sk f c)).code≠0:=fun e=>h (D.2 e)
   exact ⟨fun e=>absurd e h,fun e=>absurd e (AX p r l _ X)⟩
 | [],_,a,c,hc,_,_=>by rw [gD,pO];(· exact ⟨fun _=>hc,fun _=>rfl⟩);all_goals (intros;simp_all)
 | f::r,[],a,c,hc,_,_=>by rw [gD,pO];(· exact ⟨fun _=>hc,fun _=>rfl⟩);all_goals (intros;simp_all)
theorem cells_from (l:List Ar):∀ n:Int,l.foldl (fun n a=>n+a.size) n=n+eu l:=by
 induction l with
 | nil=>intro n;simp [eu]
 | cons a l ih =>
  intro n;unfold eu;rw [foldl_cons,foldl_cons,ih,ih (0+a.size)];omega
theorem Mi (a:Ar) (l:List Ar):eu (a::l)=a.size+eu l:=by
 unfold eu;rw [foldl_cons,cells_from];unfold eu;omega
theorem Rv {l:List Ar} (h:∀ a∈l,0<=a.size):0<=eu l/\∀ a∈l,a.size<=eu l:=by
 induction l with
 | nil=>exact ⟨by simp [eu],fun a h=>by cases h⟩
 | cons b l ih =>
  obtain ⟨D,X⟩:=ih fun a ha=>h a (dm _ ha)
  have hb:=h b mem_cons_self;rw [Mi];refine ⟨by omega,fun a ha=>?_⟩
  rcases eF ha with rfl | ha
  ·omega
  ·have:=X a ha;omega
theorem Jo {l:List ah} (h:eX l=false) {i j:Nat} {s:ah} (hi:l[i]?=some s) (hj:l[j]?=some s):i=j:=by
 have key:∀ x y:Nat,x < y->l[x]?=some s->l[y]?=some s->False:=fun x y lZ D X=>by
  have hy:=(bu X).1;unfold eX at h;rw [any_eq_false] at h;have:=h y (List.mem_range.2 hy);unfold mC at this;rw [X] at this;simp only [Bool.or_eq_true,not_or] at this;apply this.2;rw [dz];rw [List.mem_take_iff_getElem];have hx:=(bu D);exact ⟨x,by have:=hx.1;omega,hx.2⟩
 rcases Nat.lt_trichotomy i j with D | D | D
 ·exact (key i j D hi hj).elim
 ·exact D
 ·exact (key j i D hj hi).elim
theorem H9 {p:Src} (h:eX (dr p)=false):p.fns.any oY=true↔lM p=false:=by
 have zn:∀ (i:Nat) f,p.fns[i]?=some f->(dr p)[(p.globals++fQ p).length+i]?=some f.name:=fun i f hf=>by
  unfold dr;rw [fA aq,Nat.add_sub_cancel_left,jY,bp,hf];rfl
 unfold lM
 cases hf:p.fns.findIdx? (fun f:Fn=>f.name==xN) with
 | none =>
  rw [findIdx?_eq_none_iff] at hf;constructor
  ·intro D;obtain ⟨f,X,h3⟩:=pG.1 D;unfold oY at h3;have:=hf f X;rw [this] at h3;cases h3
  ·intro D;cases D
 | some i =>
  rw [List.findIdx?_eq_some_iff_getElem] at hf;obtain ⟨hi,D,X⟩:=hf
  have BG:p.fns[i]?=some p.fns[i]:=by simp [hi]
  simp only [nR,BG];constructor
  ·intro h3;obtain ⟨f,h4,h5⟩:=pG.1 h3;obtain ⟨j,hj⟩:=List.getElem?_of_mem h4;unfold oY at h5;simp only [aI,beq_iff_eq] at h5 D;have e1:=zn i _ BG;have e2:=zn j f hj;rw [D] at e1;rw [h5.1] at e2;have:=Jo h e1 e2
   have:i=j:=by omega
   subst this;rw [hj] at BG;cases BG;simp [h5.2]
  ·intro h3;simp only [gt_iff_lt,decide_eq_false_iff_not,Nat.not_lt,Nat.le_zero] at h3;exact pG.2 ⟨p.fns[i],List.getElem_mem hi,by unfold oY;rw [D,h3];rfl⟩
theorem V8 {p:Src} (ha:∀ a∈p.arrays,0<=a.size):(ki p=false/\lM p=false)↔tl p 0=0:=by
 obtain ⟨r7,hc⟩:=Rv ha;have f26:im 0 26=26:=rfl
 have f25:∀ c,c≠0->im c 25=c:=fun c h=>by unfold im;rw [ab h]
 have aaC:∀ c,im c 25≠0:=fun c=>by
  unfold im;split
  ·decide
  ·assumption
 have aaD:∀ c,im c 26≠0:=fun c=>by
  unfold im;split
  ·decide
  ·assumption
 unfold tl
 by_cases D:p.arrays.any oD=true
 ·rw [ae D,f26];refine ⟨fun h=>?_,fun h=>by cases h⟩;obtain ⟨a,X,h3⟩:=pG.1 D;have h4:=h.1;unfold ki at h4;simp only [Bool.or_eq_false_iff,decide_eq_false_iff_not] at h4;have h5:=List.any_eq_false.1 h4.1 a X;have h6:=hc a X;have h7:=ha a X;unfold oD at h3;simp only [Bool.or_eq_true,decide_eq_true_eq] at h3;simp only [beq_iff_eq] at h5;have h8:=h4.2.1.2;omega
 rw [ab D]
 have hz:p.arrays.any (fun a=>a.size==0)=false:=by
  rw [any_eq_false];intro a X h3;apply D;refine pG.2 ⟨a,X,?_⟩;unfold oD;simp only [beq_iff_eq] at h3;rw [h3];rfl
 have htm:ki p=(vf p || p.fns.any fun f=>decide (f.params.length > 40)):=by
  unfold ki vf;rw [hz,Bool.false_or]
 rw [htm]
 by_cases X:lM p=true
 ·rw [ae X];exact ⟨fun h=>(by rw [X] at h;cases h.2),fun h=>absurd h (aaC _)⟩
 rw [ab X]
 have rF:lM p=false:=by simpa using X
 by_cases h3:(p.fns.any fun f=>decide (f.params.length > 40))=true
 ·rw [ae h3,h3,Bool.or_true];exact ⟨fun h=>(by cases h.1),fun h=>absurd h (aaD _)⟩
 rw [ab h3,show (p.fns.any fun f=>decide (f.params.length > 40))=false by simpa using h3,Bool.or_false]
 by_cases h4:vf p=true
 ·rw [ae h4,h4];exact ⟨fun h=>(by cases h.1),fun h=>zfA⟩
 ·rw [ab h4];exact ⟨fun _=>rfl,fun _=>⟨by simpa using h4,rF⟩⟩
theorem WJ {p:Src} {l:List T} (ha:∀ a∈p.arrays,0<=a.size) (hw:∀ t∈l,jj t):(Fo p l).1=0↔(Of p l).code=0:=by
 have ne:tl p 21≠0:=by
  have f:∀ c k,c≠0->im c k=c:=fun c k h=>by unfold im;rw [ab h]
  unfold tl;simp only [f 21 26 ao,ite_self,f 21 25 ao]
  decide
 unfold Fo Of
 by_cases D:eX (dr p)=true
 ·rw [ae D,ae D];exact ⟨fun h=>zfA,fun h=>absurd h (AX p _ _ _ ne)⟩
 rw [ab D,ab D];have hs:=V8 ha
 by_cases X:tl p 0=0
 ·obtain ⟨h3,h4⟩:=hs.2 X;rw [ab (by rw [h3];decide),ab (by rw [(H9 zfD).2 h4];decide),X]
  refine Kr p _ _ _ _ rfl hw fun f hf=>?_
  unfold ki at h3;simp only [Bool.or_eq_false_iff] at h3;have:=List.any_eq_false.1 h3.2.2 f hf;exact zbT
 ·refine ⟨fun h=>?_,fun h=>absurd h (AX p _ _ _ X)⟩;exfalso;apply X;apply hs.1
  by_cases h3:ki p=true
  ·rw [ae h3] at h;cases h
  ·rw [ab h3] at h
   by_cases h4:p.fns.any oY=false
   ·rw [ae h4] at h;cases h
   ·exact ⟨by simpa using h3,(H9 zfD).1 (by simpa using h4)⟩
mutual
def zc:T->List ah
 | .mk n l=>pb l++(if n.kind=13 then [n.s] else [])
def pb:List T->List ah
 | []=>[]
 | t::r=>zc t++pb r
end
theorem Ti (t:T):zc t=pb t.kids++(if t.n.kind=13 then [t.n.s] else []):=by cases t;rw [zc];rfl
mutual
theorem Kn {σ:Type} (f:σ->Nat->T->List ah->σ):∀ (t:T) (a:Nat) (s:σ) (ls:List ah),(km f t a s ls).2=ls++zc t
 | .mk n l,a,s,ls=>by
  rw [km,zc];simp only;rw [sS f l];split
  ·rw [fP]
  ·rw [ef]
theorem sS {σ:Type} (f:σ->Nat->T->List ah->σ):∀ (l:List T) (a:Nat) (s:σ) (ls:List ah),(eT f l a s ls).2=ls++pb l
 | [],a,s,ls=>by rw [eT,pb,ef]
 | t::r,a,s,ls=>by rw [eT,sS f r,Kn f t,pb,fP]
end
mutual
def Lt (p:Src):T->List ah->Prop
 | .mk n l,ls=>cK p (.mk n l) ls=0/\(eM (.mk n l)=false->Nb p l ls)
def Nb (p:Src):List T->List ah->Prop
 | [],_=>True
 | t::r,ls=>Lt p t ls/\Nb p r (ls++zc t)
end
mutual
theorem UB (p:Src):∀ (t:T),jj t->∀ (a:Nat) (r:CS) (ls:List ah),r.code=0->r.skip < (a:Int)->(km (dc p) t a r ls).1.code=0->Lt p t ls/\(km (dc p) t a r ls).1.skip < ((a+bc t:Nat):Int)
 | .mk n l,hw,a,r,ls,hr,hs,hc=>by
  rw [jj] at hw
  have bT:¬ (r.code≠0\/(a:Int)=r.skip):=by
   rintro (h | h)
   ·exact h hr
   ·omega
  obtain ⟨pl,cU⟩:∃ pl,dc p r a (.mk n l) ls=⟨cK p (.mk n l) ls,pl,if eM (.mk n l)=true then (if (pX (.mk n l)).kind≠2 then -1 else ((a+1:Nat):Int)) else r.skip⟩:=by
   unfold dc;rw [ab bT];exact zeC
  rw [km] at hc |-;simp only at hc |-;rw [cU] at hc |-
  have h0:cK p (.mk n l) ls=0:=by
   by_cases h0:cK p (.mk n l) ls=0
   ·exact h0
   ·rw [xw p l _ _ _ h0] at hc;exact hc
  rw [h0] at hc |-
  by_cases hz:eM (.mk n l)=true
  ·have hk:l.length=1:=by
    unfold eM at hz;simp only [aI,beq_iff_eq] at hz;exact hz.2
   have h4:n.kind=4/\n.s=kK:=by
    unfold eM at hz;simp only [aI,beq_iff_eq] at hz;exact hz.1
   have hb:iM p (pX (.mk n l)) ls=false:=by
    have e:cK p (.mk n l) ls=fU p (.mk n l) ls:=by
     unfold cK;rw [ab (by show ¬ n.kind=13;omega),ab (by show ¬ (n.kind=2\/n.kind=7);omega),ab (by show ¬ (n.kind=3\/n.kind=8);omega),ae (by show n.kind=4;omega)]
    rw [e] at h0;unfold fU at h0;rw [ae hz] at h0
    by_cases hb:iM p (pX (.mk n l)) ls=true
    ·rw [ae hb] at h0;cases h0
    ·simpa using hb
   have ud:(pX (.mk n l)).kind=2:=by
    unfold iM at hb;simp only [Bool.or_eq_false_iff] at hb;simpa using hb.1.1
   rw [ae hz,ab (by rw [ud];decide)] at hc |-
   match l,hk,hw with
   | [k],_,hw =>
    have abp:k.n.kind=2:=ud;rw [ep] at hw
    have fC:k.kids=[]:=by
     have:=hw.2.2.1;obtain ⟨m,j⟩:=k;rw [jj] at this;exact this.2.1 abp
    have wx:bc k=1:=by rw [fa,fC,aD]
    refine ⟨by rw [Lt];exact ⟨h0,fun h=>by rw [hz] at h;cases h⟩,?_⟩;simp only [eT];rw [xv,fC];simp only [eT]
    have R5:dc p ⟨0,pl,((a+1:Nat):Int)⟩ (a+1) k ls=⟨0,pl,((a+1:Nat):Int)⟩:=by unfold dc;rw [ae (.inr rfl)]
    rw [R5,bc,aD,aD,wx];exact zcZ
  ·have KX:eM (.mk n l)=false:=by simpa using hz
   rw [ab hz] at hc |-;have h:=Qh p l hw.2.2 (a+1) ⟨0,pl,r.skip⟩ ls rfl zgg hc;refine ⟨by rw [Lt];exact ⟨h0,fun _=>h.1⟩,?_⟩;rw [bc,show a+(aD l+1)=a+1+aD l by omega];exact h.2
theorem Qh (p:Src):∀ (l:List T),ep l->∀ (a:Nat) (r:CS) (ls:List ah),r.code=0->r.skip < (a:Int)->(eT (dc p) l a r ls).1.code=0->Nb p l ls/\(eT (dc p) l a r ls).1.skip < ((a+aD l:Nat):Int)
 | [],_,a,r,ls,hr,hs,hc=>by rw [eT,aD];exact ⟨trivial,by simpa using hs⟩
 | t::l,hw,a,r,ls,hr,hs,hc=>by
  rw [ep] at hw;rw [eT] at hc |-
  have D:(km (dc p) t a r ls).1.code=0:=by
   by_cases D:(km (dc p) t a r ls).1.code=0
   ·exact D
   ·rw [xw p l _ _ _ D] at hc;exact hc
  obtain ⟨X,h3⟩:=UB p t hw.1 a r ls hr hs D;obtain ⟨h4,h5⟩:=Qh p l hw.2 _ _ _ D h3 hc;rw [Kn] at h4;rw [Nb,aD,<-iy];exact ⟨⟨X,h4⟩,h5⟩
end
mutual
def zT:T->Prop
 | .mk n l=>(n.kind≠1->n.n=0)/\jL l
def jL:List T->Prop
 | []=>True
 | t::r=>zT t/\jL r
end
mutual
theorem Zb:∀ t:T,zT (er t)↔zT t
 | .mk n l=>by rw [er,zT,zT,US l]
theorem US:∀ l:List T,jL (aZ l)↔jL l
 | []=>by rw [aZ]
 | t::r=>by rw [aZ,jL,jL,Zb t,US r]
end
mutual
theorem E.z:∀ a:E,zT a.tree
 | .num n=>by rw [E.tree,zT];exact ⟨fun h=>absurd rfl h,trivial⟩
 | .name s=>by rw [E.tree,zT];exact ⟨fun _=>rfl,trivial⟩
 | .at_ s a=>zfc
 | .call s l=>by rw [E.tree,zT];exact ⟨fun _=>rfl,E.zs l⟩
 | .un s a=>zfc
 | .bin s a b=>by rw [E.tree,zT,jL,jL,jL];exact ⟨fun _=>rfl,E.z a,E.z b,trivial⟩
theorem E.zs:∀ l:List E,jL (E.trees l)
 | []=>trivial
 | a::l=>by rw [E.trees,jL];exact ⟨E.z a,E.zs l⟩
end
mutual
theorem S.z:∀ a:S,zT a.tree
 | .set s a=>zbD
 | .put s a b=>by rw [S.tree,zT,jL,jL,jL];exact ⟨fun _=>rfl,E.z a,E.z b,trivial⟩
 | .if1 c b=>zc9
 | .if2 c b d=>by rw [S.tree,zT,jL,jL,jL,jL,zT,zT];exact ⟨fun _=>rfl,E.z c,⟨fun _=>rfl,S.zs b⟩,⟨fun _=>rfl,S.zs d⟩,trivial⟩
 | .while_ c b=>zc9
 | .ret a=>zbD
 | .do_ a=>zbD
 | .var s a=>zbD
theorem S.zs:∀ l:List S,jL (S.trees l)
 | []=>trivial
 | a::l=>by rw [S.trees,jL];exact ⟨S.z a,S.zs l⟩
end
theorem aaq (l:List S):zT (cB l):=by rw [cB,zT];exact ⟨fun _=>rfl,S.zs l⟩
section
variable (p:Src) (names:List ah) (name:ah)
end
theorem Forms.wf {l:List T} {ls:List (List S)} (h:Forms l ls) {i:Nat} {t:T} (ht:l[i]?=some t):jj t/\zT t:=by
 have hi:=(bu ht).1;have hlen:=h.len;have hb:ls[i]?=some (ls[i]'aq):=ct _;obtain ⟨_,X⟩:=h.at_ i t _ ht hb;exact ⟨(UQ t).1 (by rw [X];exact Y4 _),(Zb t).1 (by rw [X];exact aaq _)⟩
theorem OT (p:Src):∀ (fs:List Fn) (l:List T) (a:Nat),(gD p fs l a).1=0->∀ (i:Nat) f t,fs[i]?=some f->l[i]?=some t->∃ b,(gC p f t b).1=0
 | f::r,t::l,a,h,0,g,u,D,X=>by
  cases D;cases X
  rw [gD] at h
  by_cases hc:(gC p f t a).1=0
  ·exact ⟨a,hc⟩
  ·rw [ae hc] at h;exact absurd h hc
 | f::r,t::l,a,h,i+1,g,u,D,X=>by
  rw [gD] at h
  by_cases hc:(gC p f t a).1=0
  ·rw [ab zfN] at h;exact OT p r l _ h i g u zfD zfM
  ·rw [ae hc] at h;exact absurd h hc
 | [],_,a,h,i,g,u,D,X=>by simp at D
 | f::r,[],a,h,i,g,u,D,X=>by simp at X
structure Good (p:Src) (l:List T):Prop where
 st:il p l
 test:fI p=true
 names:eX (dr p)=false
 len:p.fns.length=l.length
 at_:∀ (i:Nat) f t,p.fns[i]?=some f->l[i]?=some t->Lt p t f.params/\jj t/\zT t/\fi p.nodes f.body.toNat t/\0<=f.body
theorem Vr {p:Src} (h:en p=true):∃ l,Good p l:=by
 unfold en at h;rw [aI] at h;obtain ⟨hf,h⟩:=h;obtain ⟨l,hl⟩:=tY hf;rw [hl.Fk] at h;simp only [decide_eq_true_eq] at h;obtain ⟨ls,hm⟩:=hl.Mq
 have hb:eX (dr p)=false:=by
  unfold Fo at h
  by_cases hb:eX (dr p)=true
  ·rw [ae hb] at h;cases h
  ·simpa using hb
 have kr:(gD p p.fns l 0).1=0:=by
  unfold Fo at h;rw [ab zf6] at h;split at h
  ·cases h
  split at h
  ·cases h
  ·exact h
 refine ⟨l,hl,hf,hb,gz.len hl.fns,fun i f t D X=>?_⟩;obtain ⟨b,hc⟩:=OT p _ _ _ kr i f t D X;obtain ⟨w1,w2⟩:=hm.wf X;unfold gC at hc
 have hd:¬ w7 f.params=true:=fun hd=>by rw [ae hd] at hc;cases hc
 rw [ab hd] at hc;have hi:=(bu X).1;obtain ⟨h5,h6⟩:=gz.at_ hl.fns i f t D X;have h7:=eg.ix l 0 i _ hl.st X;rw [ed] at h5 h7;refine ⟨(UB p t w1 b ⟨0,0,-1⟩ f.params rfl (by show (-1:Int) < _;omega) hc).1,w1,w2,?_,by omega⟩;rw [h5,jR];exact h7
theorem Hb {σ:Type} (f:σ->Nat->T->List ah->σ) (t:T):∀ (l:List T) (a:Nat) (s:σ) (ls:List ah),eT f (l++[t]) a s ls=km f t (a+aD l) (eT f l a s ls).1 (eT f l a s ls).2
 | [],a,s,ls=>by rw [List.nil_append,eT,eT,eT,aD,Nat.add_zero]
 | u::l,a,s,ls=>by rw [cons_append,eT,Hb f t l,eT,aD,iy]
theorem Hc {σ:Type} (f:σ->Nat->T->List ah->σ) {l:List T} {k:Nat} {t:T} (h:l[k]?=some t) (a:Nat) (s:σ) (ls:List ah) :
  eT f (l.take (k+1)) a s ls=km f t (a+aD (l.take k)) (eT f (l.take k) a s ls).1 (eT f (l.take k) a s ls).2:=by
 have:l.take (k+1)=l.take k++[t]:=by rw [dh,h];rfl
 rw [this,Hb]
theorem An:∀ {l:List T} {n k:Nat} {t:T},l[k]?=some t->(bE n l)[k]?=some (((n+aD (l.take k):Nat)):Int)
 | u::l,n,0,t,h=>by simp [bE,aD]
 | u::l,n,k+1,t,h=>by
  have:=An (l:=l) (n:=n+bc u) (k:=k) (t:=t) zfx;rw [bE,List.getElem?_cons_succ,this,List.take_succ_cons,aD,iy]
 | [],n,k,t,h=>by simp at h
theorem tz {l:List T} {k:Nat} {t:T} (h:l[k]?=some t):aD (l.take k)+bc t<=aD l:=by
 have D:l.take (k+1)=l.take k++[t]:=by rw [dh,h];rfl
 have X:aD l=aD (l.take (k+1))+aD (l.drop (k+1)):=by rw [<-pg,List.take_append_drop]
 rw [D,pg,aD,aD] at X;omega
theorem Tc {l:List T} {k:Nat} {t:T} (h:l[k]?=some t):aD (l.take (k+1))=aD (l.take k)+bc t:=by
 have D:l.take (k+1)=l.take k++[t]:=by rw [dh,h];rfl
 rw [D,pg,aD,aD,Nat.add_zero]
theorem Tj:∀ (N:Nat) (t:T),bc t<=N->(zc t).length<=bc t:=by
 intro N
 induction N with
 | zero=>intro t h;exact zeB
 | succ N ih =>
  intro t h
  have key:∀ l:List T,aD l<=N->(pb l).length<=aD l:=by
   intro l
   induction l with
   | nil=>intro _;simp [pb]
   | cons u l ih2 =>
    intro h;rw [aD] at h;have:=ih u aq;have:=ih2 aq;rw [pb,aO,aD];omega
  rw [fa] at h |-;have:=key t.kids aq;rw [Ti,aO];split <;> simp <;> omega
theorem wT (l:List T):(pb l).length<=aD l:=by
 induction l with
 | nil=>simp [pb]
 | cons u l ih =>
  have:=Tj _ u (aH _);rw [pb,aO,aD];omega
theorem lD {α:Type} {f:α->Bool} {l:List α} {k:Nat} {x:α} (hk:l[k]?=some x) (h:f x=true) (ba:(l.take k).all (fun y=>!f y)=true):cx f l=(k:Int):=by
 have au:k < l.length:=by
  rcases Nat.lt_or_ge k l.length with D | D
  ·exact D
  ·rw [getElem?_eq_none D] at hk;cases hk
 have hx:l[k]=x:=by rw [ct au] at hk;exact DT hk
 have:l.findIdx? f=some k:=by
  rw [List.findIdx?_eq_some_iff_getElem];refine ⟨au,by rw [hx];exact h,fun j hj=>?_⟩;rw [gP] at ba;have:=ba l[j] zfF;exact zbT
 unfold cx;rw [this]
theorem jk {α:Type} {f:α->Bool} {l:List α} (ba:l.all (fun y=>!f y)=true):cx f l = -1:=by
 have:l.findIdx? f=none:=by
  rw [findIdx?_eq_none_iff];intro x hx;rw [gP] at ba;simpa using ba x hx
 unfold cx;rw [this]
theorem lQ {α:Type} {f:α->Bool} {l:List α} {k:Nat} {x:α} (hk:l[k]?=some x):(l.take (k+1)).all (fun y=>!f y)=((l.take k).all (fun y=>!f y)&&!f x):=by
 rw [dh,hk,List.all_append];simp
theorem zP {α:Type} (f:α->Bool) (l:List α):decide ((0:Int)<=cx f l)=l.any f:=by
 cases h:l.any f with
 | false =>
  rw [jk (by rw [any_eq_false] at h;rw [gP];intro x hx;simpa using h x hx)];rfl
 | true =>
  unfold cx
  cases X:l.findIdx? f with
  | some i=>simp
  | none =>
   rw [findIdx?_eq_none_iff] at X;rw [pG] at h;obtain ⟨x,hx,h3⟩:=h;have:=X x hx;simp [h3] at this
def wj (p:Src) (n:Nd):List Int:=if n.kind=4/\0<=qj p n.s then [qj p n.s] else []
mutual
def qM (p:Src):T->List Int
 | .mk n l=>wj p n++jM p l
def jM (p:Src):List T->List Int
 | []=>[]
 | t::r=>qM p t++jM p r
end
theorem WK (p:Src) (t:T):qM p t=wj p t.n++jM p t.kids:=by cases t;rw [qM];rfl
def gB (p:Src) (s:List Int) (_:Nat) (t:T) (_:List ah):List Int:=s++wj p t.n
mutual
theorem TA (p:Src):∀ (t:T) (a:Nat) (s:List Int) (ls:List ah),(km (gB p) t a s ls).1=s++qM p t
 | .mk n l,a,s,ls=>by
  rw [km,qM];simp only;rw [He p l];unfold gB;show s++wj p n++_=_;rw [fP]
theorem He (p:Src):∀ (l:List T) (a:Nat) (s:List Int) (ls:List ah),(eT (gB p) l a s ls).1=s++jM p l
 | [],a,s,ls=>by rw [eT,jM,ef]
 | t::r,a,s,ls=>by rw [eT,He p r,TA p t,jM,fP]
end
theorem Ec (p:Src) (n:Nd):(wj p n).length<=1:=by unfold wj;split <;> simp
theorem Oi (p:Src):∀ (N:Nat) (t:T),bc t<=N->(qM p t).length<=bc t:=by
 intro N
 induction N with
 | zero=>intro t h;exact zeB
 | succ N ih =>
  intro t h
  have key:∀ l:List T,aD l<=N->(jM p l).length<=aD l:=by
   intro l
   induction l with
   | nil=>intro _;simp [jM]
   | cons u l ih2 =>
    intro h;rw [aD] at h;have:=ih u aq;have:=ih2 aq;rw [jM,aO,aD];omega
  rw [fa] at h |-;have:=key t.kids aq;have:=Ec p t.n;rw [WK,aO];omega
theorem G4 (p:Src) (l:List T):(jM p l).length<=aD l:=by
 induction l with
 | nil=>simp [jM]
 | cons u l ih =>
  have:=Oi p _ u (aH _);rw [jM,aO,aD];omega
theorem Oh (p:Src) {l:List T} {k:Nat} {t:T} (h:l[k]?=some t):jM p (l.take (k+1))=jM p (l.take k)++qM p t:=by
 have D:l.take (k+1)=l.take k++[t]:=by rw [dh,h];rfl
 have:∀ a b:List T,jM p (a++b)=jM p a++jM p b:=by
  intro a b
  induction a with
  | nil=>simp [jM]
  | cons u a ih=>simp [jM,ih]
 rw [D,this];simp [jM]
theorem RI (p:Src) (s:ah):qj p s < (p.fns.length:Int):=by
 unfold qj cx
 cases h:p.fns.findIdx? (fun f:Fn=>f.name==s) with
 | none=>exact zcZ
 | some i =>
  rw [List.findIdx?_eq_some_iff_getElem] at h;obtain ⟨h,_⟩:=h;exact zcZ
theorem U5 (p:Src) (n:Nd):∀ x∈wj p n,0<=x/\x < (p.fns.length:Int):=by
 intro x hx;unfold wj at hx;split at hx
 ·rename_i h;rw [mem_singleton] at hx;subst hx;exact ⟨h.2,RI p _⟩
 ·simp at hx
mutual
theorem Oj (p:Src):∀ (t:T),∀ x∈qM p t,0<=x/\x < (p.fns.length:Int)
 | .mk n l,x,hx=>by
  rw [qM,mem_append] at hx
  rcases hx with h | h
  ·exact U5 p n x h
  ·exact Ka p l x h
theorem Ka (p:Src):∀ (l:List T),∀ x∈jM p l,0<=x/\x < (p.fns.length:Int)
 | [],x,hx=>by simp [jM] at hx
 | t::r,x,hx=>by
  rw [jM,mem_append] at hx
  rcases hx with h | h
  ·exact Oj p t x h
  ·exact Ka p r x h
end
def jl (l:List Int):Prop:=l.Pairwise (· < ·)
theorem DB:∀ {a b:List Int},jl a->jl b->(∀ x,x∈a↔x∈b)->a=b
 | [],[],_,_,_=>rfl
 | [],y::b,_,_,h=>by have:=(h y).2 zfu;simp at this
 | x::a,[],_,_,h=>by have:=(h x).1 zfu;simp at this
 | x::a,y::b,ha,hb,h=>by
  unfold jl at ha hb;rw [pairwise_cons] at ha hb
  have lZ:x=y:=by
   have D:=(h x).1 zfu;have X:=(h y).2 zfu
   rcases eF D with D | D
   ·exact D
   rcases eF X with X | X
   ·exact X.symm
   have:=hb.1 x D;have:=ha.1 y X;omega
  subst lZ
  have:a=b:=DB ha.2 hb.2 fun z=>by
   constructor
   ·intro hz;have:=(h z).1 (dm _ hz)
    rcases eF this with e | e
    ·have:=ha.1 z hz;omega
    ·exact e
   ·intro hz;have:=(h z).2 (dm _ hz)
    rcases eF this with e | e
    ·have:=hb.1 z hz;omega
    ·exact e
  rw [this]
def sX (n:Int):List Int->List Int
 | []=>[n]
 | x::r=>if n < x then n::x::r else x::sX n r
def ke (l:List Int) (n:Int):List Int:=if l.contains n=true then l else sX n l
theorem Ck {n:Int}:∀ {l:List Int} {x:Int},x∈sX n l↔x=n\/x∈l
 | [],x=>by simp [sX]
 | y::r,x=>by
  rw [sX];split
  ·simp
  ·rw [List.mem_cons,Ck,List.mem_cons];constructor
   ·rintro (h | h | h)
    ·exact .inr (.inl h)
    ·exact .inl h
    ·exact .inr (.inr h)
   ·rintro (h | h | h)
    ·exact .inr (.inl h)
    ·exact .inl h
    ·exact .inr (.inr h)
theorem BM {n:Int}:∀ {l:List Int},jl l->n ∉ l->jl (sX n l)
 | [],_,_=>by simp [sX,jl]
 | y::r,h,hn=>by
  unfold jl at h |-;rw [pairwise_cons] at h;rw [sX];rw [List.mem_cons,not_or] at hn;split
  ·rename_i au;rw [pairwise_cons,pairwise_cons];refine ⟨fun z hz=>?_,h.1,h.2⟩
   rcases eF hz with e | e
   ·omega
   ·have:=h.1 z e;omega
  ·rename_i au;rw [pairwise_cons];refine ⟨fun z hz=>?_,BM h.2 hn.2⟩
   rcases Ck.1 hz with e | e
   ·have:=hn.1;omega
   ·exact h.1 z e
theorem It {l:List Int} {n x:Int}:x∈ke l n↔x=n\/x∈l:=by
 unfold ke;split
 ·rename_i h;have:=dz.1 h;constructor
  ·exact .inr
  ·rintro (rfl | h)
   ·exact this
   ·exact h
 ·exact Ck
theorem JO {l:List Int} {n:Int} (h:jl l):jl (ke l n):=by
 unfold ke;split
 ·exact h
 ·rename_i hc
  exact BM h fun e=>hc (dz.2 e)
theorem Cj {n:Int}:∀ {l:List Int},(sX n l).length=l.length+1
 | []=>rfl
 | y::r=>by
  rw [sX];split
  ·simp
  ·rw [length_cons,Cj,length_cons]
theorem SR {l:List Int} {n:Int}:(ke l n).length<=l.length+1:=by
 unfold ke;split
 ·omega
 ·rw [Cj];omega
def qF (n:Int) (st:List Int × Bool) (x:Int):List Int × Bool:=if (!st.2&&decide (n < x))=true then (st.1++[n]++[x],true) else (st.1++[x],st.2)
def lq (l:List Int) (n:Int) (k:Nat):List Int × Bool:=(l.take k).foldl (qF n) ([],false)
theorem F9 {l:List Int} {n:Int} {k:Nat} {x:Int} (h:l[k]?=some x):lq l n (k+1)=qF n (lq l n k) x:=by
 unfold lq;rw [dh,h,List.foldl_append];rfl
theorem Fw (n:Int):∀ (l acc:List Int),l.foldl (qF n) (acc,true)=(acc++l,true)
 | [],acc=>by simp
 | x::r,acc=>by
  rw [foldl_cons,show qF n (acc,true) x=(acc++[x],true) by simp [qF],Fw n r];simp
theorem Hl (n:Int):∀ (l acc:List Int),(if (l.foldl (qF n) (acc,false)).2=true then (l.foldl (qF n) (acc,false)).1 else (l.foldl (qF n) (acc,false)).1++[n])=acc++sX n l
 | [],acc=>by simp [sX]
 | x::r,acc=>by
  rw [foldl_cons,sX]
  by_cases h:n < x
  ·rw [show qF n (acc,false) x=(acc++[n]++[x],true) by simp [qF,h],Fw,ae h];simp
  ·rw [show qF n (acc,false) x=(acc++[x],false) by simp [qF,h],ab h,Hl n r];simp
theorem SU (l:List Int) (n:Int) (h:l.contains n=false):(if (lq l n l.length).2=true then (lq l n l.length).1 else (lq l n l.length).1++[n])=ke l n:=by
 unfold lq ke;rw [di,Hl,ab (by rw [h];decide)];rfl
theorem Iu (l:List Int) (n:Int) (k:Nat):(lq l n k).1.length<=k+1/\((lq l n k).2=false->(lq l n k).1.length<=k):=by
 induction k with
 | zero=>simp [lq]
 | succ k ih =>
  rcases Nat.lt_or_ge k l.length with h | h
  ·rw [F9 (ct h)];unfold qF;split
   ·rename_i hc;rw [aI] at hc;have:=ih.2 (by simpa using hc.1);refine ⟨by simp;omega,fun h=>by cases h⟩
   ·refine ⟨by simp;exact ih.1,fun X=>?_⟩;have:=ih.2 X;simp;omega
  ·have:lq l n (k+1)=lq l n k:=by unfold lq;rw [mn aq,mn aq]
   rw [this];exact ⟨by omega,fun X=>by have:=ih.2 X;omega⟩
def qW (l:List Int):List Int:=l.foldl ke []
theorem Ax:∀ (l acc:List Int),jl acc->jl (l.foldl ke acc)/\∀ x,x∈l.foldl ke acc↔x∈acc\/x∈l
 | [],acc,h=>⟨h,fun x=>by simp⟩
 | y::r,acc,h=>by
  obtain ⟨D,X⟩:=Ax r (ke acc y) (JO h);refine ⟨D,fun x=>?_⟩;rw [foldl_cons,X,It,List.mem_cons];constructor
  ·rintro ((h | h) | h)
   ·exact .inr (.inl h)
   ·exact .inl h
   ·exact .inr (.inr h)
  ·rintro (h | h | h)
   ·exact .inl (.inr h)
   ·exact .inl (.inl h)
   ·exact .inr h
theorem uz (l:List Int):jl (qW l):=(Ax l [] List.Pairwise.nil).1
theorem y5 {l:List Int} {x:Int}:x∈qW l↔x∈l:=by
 have:=(Ax l [] List.Pairwise.nil).2 x;unfold qW;rw [this];simp
theorem y7:∀ {l:List Int} {a b:Int},jl l->(∀ x∈l,a<=x/\x < b)->a<=b->(l.length:Int)<=b - a
 | [],a,b,_,_,h=>by simp;omega
 | x::r,a,b,h,hb,Pc=>by
  unfold jl at h;rw [pairwise_cons] at h;have hx:=hb x zfu;have:=y7 (l:=r) (a:=x+1) (b:=b) h.2 (fun y hy=>by have:=h.1 y hy;have:=hb y (dm _ hy);omega) aq;rw [length_cons];omega
theorem F1 {l:List Int} {n:Nat} (h:l.Nodup) (hb:∀ x∈l,0<=x/\x < (n:Int)):l.length<=n:=by
 have D:(qW l).length=l.length:=by
  have key:∀ (l acc:List Int),l.Nodup->(∀ x∈l,x ∉ acc)->(l.foldl ke acc).length=acc.length+l.length:=by
   intro l
   induction l with
   | nil=>intro acc _ _;simp
   | cons y r ih =>
    intro acc D X;rw [nodup_cons] at D
    have hy:acc.contains y=false:=by
     cases hc:acc.contains y with
     | false=>rfl
     | true=>exact absurd (dz.1 hc) (X y zfu)
    rw [foldl_cons,ih _ D.2 fun x hx hm=>?_]
    ·unfold ke;rw [ab (by rw [hy];decide),Cj,length_cons];omega
    ·rcases It.1 hm with e | e
     ·subst e;exact D.1 hx
     ·exact X x (dm _ hx) e
  have:=key l [] h zfu;unfold qW;rw [this];simp
 have X:=y7 (uz l) (a:=0) (b:=n) (fun x hx=>hb x (y5.1 hx)) aq;omega
def cv (p:Src) (t:T):List Int:=qW (qM p t)
theorem qg (p:Src) (t:T):jl (cv p t):=uz _
theorem pe (p:Src) (t:T):∀ x∈cv p t,0<=x/\x < (p.fns.length:Int):=fun x hx=>Oj p t x (y5.1 hx)
theorem Bx (p:Src) (t:T):(cv p t).length<=p.fns.length:=by
 have:=y7 (qg p t) (a:=0) (b:=p.fns.length) (pe p t) aq;omega
theorem vO {l:List Int} (h:jl l):l.Nodup:=by
 unfold jl at h;exact h.imp (fun {a b} Pc=>by omega)
def addN (l ks:List Int):List Int:=ks.foldl (fun l k=>if l.contains k=true then l else l++[k]) l
theorem Fg (l:List Int) (ks:List Int) (k:Nat) (x:Int) (h:ks[k]?=some x):addN l (ks.take (k+1))=if (addN l (ks.take k)).contains x=true then addN l (ks.take k) else addN l (ks.take k)++[x]:=by
 unfold addN;rw [dh,h,List.foldl_append];rfl
theorem jX:∀ {ks l:List Int} {x:Int},x∈addN l ks↔x∈l\/x∈ks
 | [],l,x=>by simp [addN]
 | k::r,l,x=>by
  have:=@jX r (if l.contains k=true then l else l++[k]) x;unfold addN at this |-;rw [foldl_cons,this,List.mem_cons];split
  ·rename_i hc;have:=dz.1 hc;constructor
   ·rintro (h | h)
    ·exact .inl h
    ·exact .inr (.inr h)
   ·rintro (h | h | h)
    ·exact .inl h
    ·subst h;exact .inl this
    ·exact .inr h
  ·rw [mem_append,mem_singleton,or_assoc]
theorem uJ:∀ {ks l:List Int},l.Nodup->(addN l ks).Nodup
 | [],l,h=>h
 | k::r,l,h=>by
  have hn:(if l.contains k=true then l else l++[k]).Nodup:=by
   split
   ·exact h
   ·rename_i hc;rw [List.nodup_append];refine ⟨h,by simp,fun a ha b hb e=>?_⟩;rw [mem_singleton] at hb;subst e;subst hb;exact hc (dz.2 ha)
  exact uJ (ks:=r) hn
theorem yj:∀ (ks l:List Int),∃ m,addN l ks=l++m
 | [],l=>⟨[],by simp [addN]⟩
 | k::r,l=>by
  have e:addN l (k::r)=addN (if l.contains k=true then l else l++[k]) r:=rfl;rw [e];obtain ⟨m,hm⟩:=yj r (if l.contains k=true then l else l++[k]);rw [hm];split
  ·exact ⟨m,rfl⟩
  ·exact ⟨[k]++m,by simp⟩
def nH (cs:Int->List Int):Nat->Nat->List Int->List Int
 | 0,_,l=>l
 | f+1,i,l=>match l[i]? with | none=>l | some x=>nH cs f (i+1) (addN l (cs x))
theorem CN (cs:Int->List Int) (n:Nat) (iT:∀ x,∀ y∈cs x,0<=y/\y < (n:Int)) :
  ∀ (f i:Nat) (L:List Int),L.Nodup->(∀ y∈L,0<=y/\y < (n:Int))->n+1<=f+i ->
   (∀ j x,j < i->L[j]?=some x->∀ y∈cs x,y∈L) ->
   ∀ x∈nH cs f i L,∀ y∈cs x,y∈nH cs f i L
 | 0,i,L,hn,hr,hf,hj=>by
  intro x hx y hy;rw [nH] at hx |-;obtain ⟨j,oR,he⟩:=List.mem_iff_getElem.1 hx;have:=F1 hn hr;exact hj j x aq (by rw [ct oR,he]) y hy
 | f+1,i,L,hn,hr,hf,hj=>by
  cases hi:L[i]? with
  | none =>
   have hb:nH cs (f+1) i L=L:=by rw [nH,hi]
   rw [hb];intro x hx y hy;obtain ⟨j,oR,he⟩:=List.mem_iff_getElem.1 hx;have:=oH hi;exact hj j x aq (by rw [ct oR,he]) y hy
  | some x0 =>
   have hb:nH cs (f+1) i L=nH cs f (i+1) (addN L (cs x0)):=by rw [nH,hi]
   rw [hb];refine CN cs n iT f (i+1) _ (uJ hn) (fun y hy=>?_) aq (fun j x kV TZ y hy=>?_)
   ·rcases jX.1 hy with D | D
    ·exact hr y D
    ·exact iT x0 y D
   ·have uC:i < L.length:=by
     rcases Nat.lt_or_ge i L.length with h | h
     ·exact h
     ·rw [getElem?_eq_none h] at hi;cases hi
    obtain ⟨m,hm⟩:=yj (cs x0) L
    have oR:j < L.length:=by omega
    rw [hm,ff oR] at TZ
    rcases Nat.lt_or_ge j i with h | h
    ·exact jX.2 (.inl (hj j x h TZ y hy))
    ·have:j=i:=by omega
     subst this;rw [hi] at TZ;cases TZ;exact jX.2 (.inr hy)
theorem Fj (cs:Int->List Int) (S:Int->Prop) (hS:∀ x,S x->∀ y∈cs x,S y) :
  ∀ (f i:Nat) (L:List Int),(∀ x∈L,S x)->∀ x∈nH cs f i L,S x
 | 0,i,L,h=>by rw [nH];exact h
 | f+1,i,L,h=>by
  rw [nH];split
  ·exact h
  ·rename_i x0 oV
   refine Fj cs S hS f (i+1) _ fun x hx=>?_
   rcases jX.1 hx with D | D
   ·exact h x D
   ·exact hS x0 (h x0 (br oV)) x D
theorem J4 (cs:Int->List Int):∀ (f i:Nat) (L:List Int),∀ x∈L,x∈nH cs f i L
 | 0,i,L=>fun x h=>by rw [nH];exact h
 | f+1,i,L=>fun x h=>by
  rw [nH];split
  ·exact h
  ·exact J4 cs f (i+1) _ x (jX.2 (.inl h))
def gq (F:Int->List Int) (a b:Int):Bool:=a==b || ((F a).contains b&&(F b).contains a)
def zA (F:Int->List Int):Prop:=∀ a b,b∈F a->∀ c∈F b,c∈F a
theorem lK {F:Int->List Int} {a b:Int}:gq F a b=true↔a=b\/(b∈F a/\a∈F b):=by
 unfold gq;rw [Bool.or_eq_true,aI,beq_iff_eq,dz,dz]
theorem Np (F:Int->List Int) (a:Int):gq F a a=true:=lK.2 (.inl rfl)
theorem so {F:Int->List Int} {a b:Int} (h:gq F a b=true):gq F b a=true:=by
 rcases lK.1 h with h | ⟨D,X⟩
 ·exact lK.2 (.inl h.symm)
 ·exact lK.2 (.inr ⟨X,D⟩)
theorem xc {F:Int->List Int} (ht:zA F) {a b c:Int} (h:gq F a b=true) (g:gq F b c=true):gq F a c=true:=by
 rcases lK.1 h with h | ⟨D,X⟩
 ·subst h;exact g
 ·rcases lK.1 g with g | ⟨g1,g2⟩
  ·subst g;exact h
  ·exact lK.2 (.inr ⟨ht a b D c g1,ht c b g2 a X⟩)
def CV (F:Int->List Int) (out:List (List Int)) (k:Int):Option Nat:=out.findIdx? fun l=>gq F (l.headD 0) k
def uW (F:Int->List Int) (out:List (List Int)) (k:Int):List (List Int) :=
 match CV F out k with
 | some i=>out.set i ((out[i]?.getD [])++[k])
 | none=>out++[[k]]
def iD (F:Int->List Int):Nat->List (List Int)
 | 0=>[]
 | k+1=>uW F (iD F k) (k:Int)
structure Wu (F:Int->List Int) (n:Nat) (out:List (List Int)):Prop where
 ne:∀ l∈out,l≠[]
 mem:∀ l∈out,∀ x∈l,0<=x/\x < (n:Int)/\gq F (l.headD 0) x=true
 all:∀ x:Int,0<=x->x < (n:Int)->∃ l∈out,x∈l
 heads:∀ (i j:Nat) (a b:List Int),out[i]?=some a->out[j]?=some b->gq F (a.headD 0) (b.headD 0)=true->i=j
theorem C8 {l:List Int} (h:l≠[]) (x d:Int):(l++[x]).headD d=l.headD d:=by
 cases l with
 | nil=>exact absurd rfl h
 | cons a l=>rfl
theorem A1 {F:Int->List Int} (ht:zA F):∀ n,Wu F n (iD F n)
 | 0=>⟨by simp [iD],by simp [iD],fun x D X=>by omega,by simp [iD]⟩
 | n+1=>by
  have ih:=A1 ht n;rw [iD];generalize iD F n=out at ih;unfold uW
  cases hg:CV F out (n:Int) with
  | none =>
   have cl:∀ l∈out,gq F (l.headD 0) (n:Int)=false:=by
    unfold CV at hg;rw [findIdx?_eq_none_iff] at hg;exact hg
   refine ⟨fun l hl=>?_,fun l hl x hx=>?_,fun x D X=>?_,fun i j a b hi hj hs=>?_⟩
   ·rcases nt hl with h | h
    ·exact ih.ne l h
    ·rw [mem_singleton] at h;subst h;simp
   ·rcases nt hl with h | h
    ·obtain ⟨a,b,c⟩:=ih.mem l h x hx;exact ze0
    ·rw [mem_singleton] at h;subst h;rw [mem_singleton] at hx;subst hx;exact ⟨by omega,by push_cast;omega,Np _ _⟩
   ·by_cases h:x=(n:Int)
    ·exact ⟨[(n:Int)],by simp,by simp [h]⟩
    ·obtain ⟨l,hl,hx⟩:=ih.all x D (by push_cast at X;omega);exact ⟨l,List.mem_append_left _ hl,hx⟩
   ·rcases Nat.lt_or_ge i out.length with D | D
    ·rw [ff D] at hi
     rcases Nat.lt_or_ge j out.length with X | X
     ·rw [ff X] at hj;exact ih.heads i j a b hi hj hs
     ·rw [fA X] at hj;have hb:b=[(n:Int)]:=AK (br hj);subst hb;have:=cl a (br hi);rw [show ([(n:Int)]:List Int).headD 0=(n:Int) from rfl,this] at hs;cases hs
    ·rw [fA D] at hi;have ha:a=[(n:Int)]:=AK (br hi);subst ha
     have z6:i - out.length < 1:=by
      rcases Nat.lt_or_ge (i - out.length) 1 with h | h
      ·exact h
      ·rw [getElem?_eq_none zfx] at hi;cases hi
     rcases Nat.lt_or_ge j out.length with X | X
     ·rw [ff X] at hj;have:=cl b (br hj);rw [show ([(n:Int)]:List Int).headD 0=(n:Int) from rfl] at hs;rw [so hs] at this;cases this
     ·rw [fA X] at hj
      have Pn:j - out.length < 1:=by
       rcases Nat.lt_or_ge (j - out.length) 1 with h | h
       ·exact h
       ·rw [getElem?_eq_none zfx] at hj;cases hj
      omega
  | some i0 =>
   unfold CV at hg;rw [List.findIdx?_eq_some_iff_getElem] at hg;obtain ⟨z6,vA,-⟩:=hg;have RY:out[i0]?=some out[i0]:=ct z6;have yE:out[i0]∈out:=List.getElem_mem z6;simp only [RY,Option.getD_some];generalize wy:out[i0]=l0 at *;have bT:=ih.ne l0 yE
   have iG:∀ (i:Nat) (a:List Int),(out.set i0 (l0++[(n:Int)]))[i]?=some a->(i=i0/\a=l0++[(n:Int)])\/(i≠i0/\out[i]?=some a):=by
    intro i a h;rw [eG] at h;split at h
    ·rename_i he;cases h;exact .inl ⟨he.symm,rfl⟩
    ·rename_i he;exact .inr ⟨fun e=>he e.symm,h⟩
   have TX:∀ (i:Nat) (a:List Int),(out.set i0 (l0++[(n:Int)]))[i]?=some a->∃ a',out[i]?=some a'/\a.headD 0=a'.headD 0:=by
    intro i a h
    rcases iG i a h with ⟨D,X⟩ | ⟨D,X⟩
    ·subst D X;exact ⟨l0,RY,C8 bT _ _⟩
    ·exact ⟨a,X,rfl⟩
   refine ⟨fun l hl=>?_,fun l hl x hx=>?_,fun x D X=>?_,fun i j a b hi hj hs=>?_⟩
   ·obtain ⟨i,hi⟩:=List.mem_iff_getElem?.1 hl
    rcases iG i l hi with ⟨D,X⟩ | ⟨D,X⟩
    ·subst X;simp
    ·exact ih.ne l (br X)
   ·obtain ⟨i,hi⟩:=List.mem_iff_getElem?.1 hl
    rcases iG i l hi with ⟨D,X⟩ | ⟨D,X⟩
    ·subst X;rw [C8 bT]
     rcases nt hx with h | h
     ·obtain ⟨a,b,c⟩:=ih.mem l0 yE x h;exact ze0
     ·rw [mem_singleton] at h;subst h;exact ⟨by omega,by push_cast;omega,vA⟩
    ·obtain ⟨a,b,c⟩:=ih.mem l (br X) x hx;exact ze0
   ·by_cases h:x=(n:Int)
    ·exact ⟨l0++[(n:Int)],br (by rw [eG,ae rfl,ae z6]:(out.set i0 (l0++[(n:Int)]))[i0]?=some _),by simp [h]⟩
    ·obtain ⟨l,hl,hx⟩:=ih.all x D (by push_cast at X;omega);obtain ⟨i,hi⟩:=List.mem_iff_getElem?.1 hl
     by_cases he:i=i0
     ·subst he;rw [RY] at hi;cases hi;exact ⟨l0++[(n:Int)],br (by rw [eG,ae rfl,ae z6]:(out.set i (l0++[(n:Int)]))[i]?=some _),List.mem_append_left _ hx⟩
     ·exact ⟨l,br (by rw [eG,ab (fun e=>he e.symm)];exact hi:(out.set i0 (l0++[(n:Int)]))[i]?=some l),hx⟩
   ·obtain ⟨a',ha,hae⟩:=TX i a hi;obtain ⟨b',hb,qu⟩:=TX j b hj;rw [hae,qu] at hs;exact ih.heads i j a' b' ha hb hs
theorem EO:∀ {a b:List Int},a.Nodup->(∀ x∈a,x∈b)->a.length<=b.length
 | [],b,_,_=>by simp
 | x::a,b,hn,hs=>by
  rw [nodup_cons] at hn;have hx:x∈b:=hs x zfu
  have h:=EO (a:=a) (b:=b.erase x) hn.2 fun y hy=>by
   have bT:y≠x:=fun e=>hn.1 (e ▸ hy)
   exact (List.mem_erase_of_ne bT).2 (hs y (by simp [hy]))
  rw [List.length_erase_of_mem hx] at h;have:0 < b.length:=List.length_pos_of_mem hx;exact zeb
def q9 (F:Int->List Int) (n:Nat) (x:Int):Option Nat:=(iD F n).findIdx? fun l=>l.contains x
theorem CX {F:Int->List Int} (ht:zA F) {n:Nat} {x:Int} (D:0<=x) (X:x < (n:Int)) :
  ∃ i l,q9 F n x=some i/\(iD F n)[i]?=some l/\x∈l:=by
 obtain ⟨l,hl,hx⟩:=(A1 ht n).all x D X
 cases hg:q9 F n x with
 | none =>
  unfold q9 at hg;rw [findIdx?_eq_none_iff] at hg;have:=hg l hl;rw [dz.2 hx] at this;cases this
 | some i =>
  have kU:=hg;unfold q9 at kU;rw [List.findIdx?_eq_some_iff_getElem] at kU;obtain ⟨hi,hc,-⟩:=kU;exact ⟨i,_,rfl,ct hi,dz.1 hc⟩
theorem CW {F:Int->List Int} (ht:zA F) {n:Nat} {x y:Int} (hx:0<=x/\x < (n:Int)) (hy:0<=y/\y < (n:Int)) :
  q9 F n x=q9 F n y↔gq F x y=true:=by
 obtain ⟨i,l,hi,hl,zr⟩:=CX ht hx.1 hx.2;obtain ⟨j,m,hj,hm,hym⟩:=CX ht hy.1 hy.2;have KK:=A1 ht n;have D:=(KK.mem l (br hl) x zr).2.2;have X:=(KK.mem m (br hm) y hym).2.2;rw [hi,hj];constructor
 ·intro h;cases h;rw [hl] at hm;cases hm;exact xc ht (so D) X
 ·intro h;rw [KK.heads i j l m hl hm (xc ht D (xc ht h (so X)))]
def ot (F:Int->List Int) (told:List Int) (f:Int):Bool:=(F f).all (fun g=>told.contains g || gq F f g)&&!told.contains f
theorem wm {F:Int->List Int} {told:List Int} {f:Int}:ot F told f=true↔(∀ g∈F f,g∈told\/gq F f g=true)/\f ∉ told:=by
 unfold ot;rw [aI,gP,Bool.not_eq_true'];simp only [Bool.or_eq_true,dz];constructor
 ·exact fun ⟨a,b⟩=>⟨a,fun h=>by rw [dz.2 h] at b;cases b⟩
 ·refine fun ⟨a,b⟩=>⟨a,?_⟩
  cases hc:told.contains f with
  | false=>rfl
  | true=>exact absurd (dz.1 hc) b
theorem Fx {F:Int->List Int} (ht:zA F) {n:Nat} (hn:∀ a,(F a).Nodup) (hr:∀ a,∀ y∈F a,0<=y/\y < (n:Int)) (told:List Int) :
  ∀ (N:Nat) (f:Int),0<=f->f < (n:Int)->f ∉ told->(addN (F f) [f]).length<=N->∃ g,0<=g/\g < (n:Int)/\ot F told g=true
 | 0,f,D,X,h3,h4=>by
  have:f∈addN (F f) [f]:=jX.2 (.inr zfu);have:=List.length_pos_of_mem this;omega
 | N+1,f,D,X,h3,h4=>by
  by_cases hf:ot F told f=true
  ·exact ⟨f,D,X,hf⟩
  have hex:∃ x∈F f,x ∉ told/\gq F f x≠true:=by
   refine Classical.byContradiction fun cl=>hf (wm.2 ⟨fun g hg=>?_,h3⟩)
   refine Classical.byContradiction fun h=>cl ⟨g,hg,fun h'=>h (.inl h'),fun h'=>h (.inr h')⟩
  obtain ⟨x,hx,hxt,pV⟩:=hex;have rH:=hr f x hx
  have Pg:f ∉ addN (F x) [x]:=by
   intro h
   rcases jX.1 h with h | h
   ·exact pV (lK.2 (.inr ⟨hx,h⟩))
   ·rw [mem_singleton] at h;exact pV (lK.2 (.inl h))
  have hl:(f::addN (F x) [x]).length<=(addN (F f) [f]).length:=by
   refine EO (List.nodup_cons.2 ⟨Pg,uJ (hn x)⟩) fun y hy=>?_
   rcases eF hy with h | h
   ·exact jX.2 (.inr (by simp [h]))
   ·rcases jX.1 h with h | h
    ·exact jX.2 (.inl (ht f x hx y h))
    ·rw [mem_singleton] at h;exact jX.2 (.inl (h ▸ hx))
  simp only [length_cons] at hl;exact Fx ht hn hr told N x rH.1 rH.2 hxt aq
theorem RM {F:Int->List Int} (ht:zA F) {n:Nat} (hn:∀ a,(F a).Nodup) (hr:∀ a,∀ y∈F a,0<=y/\y < (n:Int)) {told:List Int} (hl:told.length < n) :
  ∃ f:Nat,f < n/\ot F told (f:Int)=true:=by
 have hex:∃ f:Nat,f < n/\(f:Int) ∉ told:=by
  refine Classical.byContradiction fun cl=>?_
  have:((List.range n).map fun i=>((i:Nat):Int)).length<=told.length:=by
   refine EO ?_ fun x hx=>?_
   ·rw [List.Nodup,List.pairwise_map]
    exact (List.nodup_range (n:=n)).imp fun h e=>h aq
   ·obtain ⟨i,hi,rfl⟩:=wW.1 hx
    exact Classical.byContradiction fun h=>cl ⟨i,List.mem_range.1 hi,h⟩
  simp at this;omega
 obtain ⟨f,hf,TW⟩:=hex;obtain ⟨g,D,X,h3⟩:=Fx ht hn hr told _ (f:Int) aq aq TW (aH _);exact ⟨g.toNat,by omega,by rw [Int.toNat_of_nonneg D];exact h3⟩
def vI (F:Int->List Int) (n:Nat) (told:List Int):Option Nat:=(List.range n).find? fun f=>ot F told (f:Int)
def Cu (F:Int->List Int) (n:Nat) (told:List Int):List Int:=match vI F n told with | some f=>told++[(f:Int)] | none=>told
def fX (F:Int->List Int) (n:Nat):Nat->List Int
 | 0=>[]
 | k+1=>Cu F n (fX F n k)
theorem wI {F:Int->List Int} (ht:zA F) {n:Nat} (hn:∀ a,(F a).Nodup) (hr:∀ a,∀ y∈F a,0<=y/\y < (n:Int)) {told:List Int} (hl:told.length < n) :
  ∃ f:Nat,vI F n told=some f/\f < n/\ot F told (f:Int)=true/\(∀ g,g < f->ot F told (g:Int)=false)/\Cu F n told=told++[(f:Int)]:=by
 obtain ⟨f,hf,mM⟩:=RM ht hn hr hl
 cases hp:vI F n told with
 | none =>
  unfold vI at hp;rw [List.find?_eq_none] at hp;exact absurd mM (hp f (List.mem_range.2 hf))
 | some g =>
  have jJ:=hp;unfold vI at jJ;have hg:=List.find?_some jJ;have hgm:=List.mem_of_find?_eq_some jJ;refine ⟨g,rfl,List.mem_range.1 hgm,hg,fun j hj=>?_,by unfold Cu;rw [hp]⟩;rw [List.find?_range_eq_some] at jJ;have:=jJ.2.2 j hj;exact zbT
theorem vJ {F:Int->List Int} (ht:zA F) {n:Nat} (hn:∀ a,(F a).Nodup) (hr:∀ a,∀ y∈F a,0<=y/\y < (n:Int)):∀ k,k<=n->(fX F n k).length=k
 | 0,_=>rfl
 | k+1,h=>by
  have ih:=vJ ht hn hr k aq;obtain ⟨f,-,-,-,-,he⟩:=wI ht hn hr (told:=fX F n k) aq;rw [fX,he];simp [ih]
end Go.Im
