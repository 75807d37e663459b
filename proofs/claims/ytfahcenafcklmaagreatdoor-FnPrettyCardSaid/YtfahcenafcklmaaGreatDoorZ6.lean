/- Part 6 of proofs that are told in their last texts. -/
import Derived.Test.YtfahcenafcklmaaGreatDoorZ1
import Derived.Test.YtfahcenafcklmaaGreatDoorZ2
import Derived.Test.YtfahcenafcklmaaGreatDoorZ5
open List (cons_append flatMap_cons length_cons map_map take_succ_cons zip_cons_cons)
set_option linter.unusedVariables false
set_option linter.unusedSimpArgs false
set_option maxRecDepth 100000
namespace Go.Sp
open Go.Xp
def RS.left (p:RS):Nat:=p.l.length - p.i
theorem Fl {k:Nat} {s:ae} (h:(levels.getD k []).contains s=true):s≠[]/\k < 9/\s.length<=2:=by
 have hk:k < 9:=Nat.lt_of_not_le fun hk=>by
  rw [List.getD_eq_getElem?_getD,List.getElem?_eq_none (show levels.length<=k from hk)] at h;cases h
 have key:∀ k:Fin 9,∀ s∈levels.getD k.1 [],s≠[]/\s.length<=2:=by decide
 obtain ⟨D,I⟩:=key ⟨k,hk⟩ s (mH.1 h);exact ⟨D,hk,I⟩
theorem kH {p q:RS} (h:p.to q):q.left<=p.left/\q.left+(q.i - p.i)=p.left/\p.i<=q.i:=by
 obtain ⟨D,-,I,h3⟩:=h;unfold RS.left;rw [D] at I |-;omega
theorem ug (p:RS) (d:Nat):(p.deep d).left=p.left:=by
 unfold RS.deep RS.fail RS.left;split
 ·split <;> rfl
 ·rfl
theorem pI {p:RS} (h:p.i < p.l.length):p.next.left+1=p.left:=by
 unfold RS.left RS.next;exact zdy
def rH:J->Nat
 | .expr _=>13
 | .level k _=>12 - k
 | .loop _ _ _=>1
 | .operand _=>2
 | .named _ _ _=>1
theorem Ma:∀ (f:Nat),(∀ j p,p.ok->(∀ k d,j=.level k d->k<=9)->20 * p.left+rH j<=f->∃ t q,mE f j p=some (t,q))/\(∀ d p,p.ok->20 * p.left+14<=f->∃ t q,mL f d p=some (t,q))/\(∀ d acc p,p.ok->20 * p.left+1<=f->∃ t q,pK f d acc p=some (t,q))
 | 0=>⟨fun j p _ hk h=>by
   cases j with
   | level k d=>have:=hk k d rfl;simp only [rH] at h;omega
   | _=>simp only [rH] at h;omega,fun d p _ h=>by omega,fun d acc p _ h=>by omega⟩
 | f+1=>by
  obtain ⟨D,I,h3⟩:=Ma f;obtain ⟨t1,t2,t3⟩:=rb f
  have ub:∀ j:J,(∀ k d,j=.level k d->False)->∀ k d,j=.level k d->k<=9:=fun j h k d e=>(h k d e).elim
  refine ⟨fun j p hp hk h=>?_,fun d p hp h=>?_,fun d acc p hp h=>?_⟩
  ·cases j with
   | expr d =>
    rw [mE];exact D _ _ ((fX hp d).ok hp) (fun k d' e=>by cases e;omega) (by rw [ug];simp only [rH] at h |-;omega)
   | level k d =>
    have y5:=hk k d rfl;rw [mE]
    by_cases e9:k=9
    ·rw [ah e9];exact D _ _ hp (fun k d' e=>by cases e) zeW
    ·rw [ad e9];obtain ⟨t,q,e⟩:=D (.level (k+1) d) p hp (fun k' d' e=>by cases e;omega) zeW;rw [e];have ht:=t1 _ _ _ _ hp e;exact D _ _ (ht.ok hp) (fun k d' e=>by cases e) zfA
   | loop k d out =>
    rw [mE]
    by_cases hc:p.code=0/\(levels.getD k []).contains (p.sign 0)=true
    ·rw [ah hc];obtain ⟨l1,l2,-⟩:=Fl hc.2;have ar:=(cW (k:=0) rfl l1).1;rw [Nat.add_zero] at ar;rw [ec ar];simp only;have hn:=cl ar;have Ly:=pI ar
     obtain ⟨t,q,e⟩:=D (.level (k+1) d) p.next (hn.ok hp) (fun k' d' e=>by cases e;omega) zeW
     rw [e];have ht:=t1 _ _ _ _ (hn.ok hp) e;exact D _ _ (ht.ok (hn.ok hp)) (fun k d' e=>by cases e) zfA
    ·rw [ad hc];exact zaL
   | operand d =>
    rw [mE];have hd:=(fX hp d).ok hp;have YZ:=ug p d;rw [<-YZ] at h;generalize p.deep d=p at *
    try simp only
    split
    ·split
     ·exact zaL
     ·rename_i t ht;have ar:=(bh ht).1;have hn:=cl ar;have Ly:=pI ar;split
      ·exact zaL
      ·split
       ·exact D _ _ ((dY hd).ok hd) (fun k d' e=>by cases e) (by have:=kH (dY hd);simp only [rH] at h |-;omega)
       ·split
        ·obtain ⟨t,q,e⟩:=D (.operand (d+1)) p.next (hn.ok hd) (fun k d' e=>by cases e) zeW
         rw [e];exact zaL
        ·split
         ·obtain ⟨t,q,e⟩:=D (.expr (d+1)) p.next (hn.ok hd) (fun k d' e=>by cases e) zeW
          rw [e];exact zaL
         ·exact zaL
    ·exact zaL
   | named a s d =>
    rw [mE];split
    ·rename_i hs;have ar:=(cW hs ai).1;rw [Nat.add_zero] at ar;have hn:=cl ar;have Ly:=pI ar
     obtain ⟨t,q,e⟩:=D (.expr (d+1)) p.next (hn.ok hp) (fun k d' e=>by cases e) zeW
     rw [e];exact zaL
    ·split
     ·rename_i hs;have ar:=(cW hs ai).1;rw [Nat.add_zero] at ar;have hn:=cl ar;have Ly:=pI ar
      obtain ⟨t,q,e⟩:=I (d+1) p.next (hn.ok hp) (by simp only [rH] at h;omega)
      rw [e];exact zaL
     ·exact zaL
  ·rw [mL];split
   ·exact zaL
   ·obtain ⟨t,q,e⟩:=D (.expr d) p hp (fun k d' e=>by cases e) (by simp only [rH];omega);rw [e];have ht:=t1 _ _ _ _ hp e;exact h3 _ _ _ (ht.ok hp) (by have:=kH ht;omega)
  ·rw [pK];split
   ·rename_i hs;have ar:=(cW hs ai).1;rw [Nat.add_zero] at ar;have hn:=cl ar;have Ly:=pI ar
    obtain ⟨t,q,e⟩:=D (.expr d) p.next (hn.ok hp) (fun k d' e=>by cases e) (by simp only [rH];omega)
    rw [e];have ht:=t1 _ _ _ _ (hn.ok hp) e;exact h3 _ _ _ (ht.ok (hn.ok hp)) (by have:=kH ht;omega)
   ·exact zaL
theorem vi {p:RS} (hp:p.ok) (d:Nat):∃ t q,mX d p=some (t,q):=by
 unfold mX;refine (Ma _).1 _ _ hp (fun k d' e=>by cases e) ?_;unfold fe RS.left;simp only [rH];have:=Nat.sub_le p.l.length p.i;omega
theorem qN {p:RS} {s:ae} (hs:s≠[]) (h:(p.aI s).code=0):p.aI s=p.next/\p.code=0/\p.i < p.l.length:=by
 unfold RS.aI at h |-
 by_cases e:p.sign 0=s
 ·rw [ah e];have:=cW e hs;exact ⟨rfl,this.2,by have:=this.1;omega⟩
 ·rw [ad e] at h;exfalso;unfold RS.fail at h;split at h
  ·cases h
  ·contradiction
theorem KJ {f d:Nat} {a:Int} {p q:RS} {t:T} (hp:p.ok) (ar:p.i < p.l.length) (h:mS f (.cond a d) p=some (t,q)) (hc:q.code=0):p.i+1<=q.i:=by
 have:=(oX f).1 _ _ _ _ hp (fun a d' _=>ar) h
 cases f with
 | zero=>simp [mS] at h
 | succ f =>
  rw [mS] at h;have hn:=cl ar;have hm:=hn.trans (bq (hn.ok hp) (s:=[40]) ai)
  have h0:p.next.i=p.i+1:=rfl
  try simp only at h
  split at h
  ·cases h
  ·rename_i e p' he;have P2:=(bq (hn.ok hp) (s:=[40]) ai).trans (eQ (hm.ok hp) he);have nk:=P2.trans (bq ((hn.trans P2).ok hp) (s:=[41]) ai);split at h
   ·cases h
   ·rename_i b p2 hb;have dS:=nk.trans ((oX f).1 _ _ _ _ ((hn.trans nk).ok hp) (fun a d' h=>by cases h) hb);split at h
    ·rename_i hs;have bL:=dS.trans (db hs.2 ai);split at h
     ·cases h
     ·rename_i b2 p3 rB;cases h;have:=(bL.trans ((oX f).1 _ _ _ _ ((hn.trans bL).ok hp) (fun a d' h=>by cases h) rB)).2.2.2;omega
    ·cases h;have:=dS.2.2.2;omega
theorem MG {f d:Nat} {p q:RS} {t:T} (hp:p.ok) (h:mS f (.stmt d) p=some (t,q)) (hc:q.code=0):p.i+1<=q.i:=by
 cases f with
 | zero=>simp [mS] at h
 | succ f =>
  rw [mS] at h;have hd:=fX hp d;have c7:=hd.ok hp;have hi:=hd.2.2.2;refine gm (Nat.add_le_add_right hi 1) ?_;generalize p.deep d=p' at *
  try simp only at h
  have last:∀ (q':RS),p'.to q'->(q'.aI [59]).code=0->p'.i+1<=(q'.aI [59]).i:=fun q' hq hc=>by
   obtain ⟨e,-,-⟩:=qN ai hc;rw [e];have:=hq.2.2.2;show _<=q'.i+1;omega
  split at h
  ·rename_i hs;have hn:=db hs ai;have cL:=hn.trans (dY (hn.ok c7));have dq:=cL.trans (bq (cL.ok c7) (s:=[61]) ai);split at h
   ·cases h
   ·rename_i e q' he
    cases h;exact last _ (dq.trans (eQ (dq.ok c7) he)) hc
  ·split at h
   ·rename_i hs;refine KJ c7 ?_ h hc
    rcases hs with hs | hs
    ·exact zdn
    ·exact zdn
   ·split at h
    ·rename_i hs;have hn:=db hs ai;split at h
     ·cases h
     ·rename_i e q' he
      cases h;exact last _ (hn.trans (eQ (hn.ok c7) he)) hc
    ·split at h
     ·have cL:=dY c7;have dq:=cL.trans (bq (cL.ok c7) (s:=[61]) ai);split at h
      ·cases h
      ·rename_i e q' he
       cases h;exact last _ (dq.trans (eQ (dq.ok c7) he)) hc
     ·split at h
      ·cases h
      ·rename_i e q' he;have hx:=eQ c7 he;split at h
       ·rename_i hs;have hn:=hx.trans (db hs.2.2 ai);split at h
        ·rename_i a r v p2 hk kO
         cases h;exact last _ (hn.trans (eQ (hn.ok c7) kO)) hc
        ·cases h
       ·cases h;exact last _ hx hc
theorem uh:∀ (f:Nat) (j:J) (p q:RS) (t:T),(∀ k d out,j=.loop k d out->out.n.kind=3->out.kids≠[])->mE f j p=some (t,q)->t.n.kind=3->t.kids≠[]
 | 0,j,p,q,t,_,h,_=>by simp [mE] at h
 | f+1,j,p,q,t,ho,h,h3=>by
  cases j with
  | expr d=>rw [mE] at h;exact zcD
  | level k d =>
   rw [mE] at h;split at h
   ·exact zcD
   ·split at h
    ·cases h
    ·rename_i out q' he;exact uh f _ _ _ _ (fun k d o e=>by cases e;exact uh f _ _ _ _ (fun k d o e=>by cases e) he) h h3
  | loop k d out =>
   rw [mE] at h;split at h
   ·split at h
    ·cases h
    ·split at h
     ·cases h
     ·exact uh f _ _ _ _ (fun k d o e h6=>by cases e;cases h6) h h3
   ·cases h;exact ho _ _ _ rfl h3
  | operand d =>
   rw [mE] at h;generalize p.deep d=p at *
   try simp only at h
   split at h
   ·split at h
    ·cases h;cases h3
    ·split at h
     ·cases h;cases h3
     ·split at h
      ·exact zcD
      ·split at h
       ·split at h
        ·cases h
        ·cases h;cases h3
       ·split at h
        ·split at h
         ·cases h
         ·rename_i a q' he;cases h;exact uh f _ _ _ _ (fun k d o e=>by cases e) he h3
        ·cases h;cases h3
   ·cases h;cases h3
  | named a s d =>
   rw [mE] at h;split at h
   ·split at h
    ·cases h
    ·cases h;exact fun e=>by cases e
   ·split at h
    ·split at h
     ·cases h
     ·cases h;cases h3
    ·cases h;cases h3
theorem Mb:∀ (f:Nat),(∀ d p,p.ok->5 * p.left+4<=f->∃ t q,mS f (.block d) p=some (t,q))/\(∀ d p,p.ok->5 * p.left+2<=f->∃ t q,mS f (.stmt d) p=some (t,q))/\(∀ a d p,p.ok->p.i < p.l.length->5 * p.left+1<=f->∃ t q,mS f (.cond a d) p=some (t,q)) /\
  (∀ d acc p,p.ok->5 * p.left+3<=f->∃ t q,mB f d acc p=some (t,q))
 | 0=>⟨fun d p _ h=>by omega,fun d p _ h=>by omega,fun a d p _ _ h=>by omega,fun d acc p _ h=>by omega⟩
 | f+1=>by
  obtain ⟨D,I,h3,h4⟩:=Mb f;refine ⟨fun d p hp h=>?_,fun d p hp h=>?_,fun a d p hp ar h=>?_,fun d acc p hp h=>?_⟩
  ·rw [mS];have hd:=(fX hp d).ok hp;rw [<-ug p d] at h;generalize p.deep d=p at *
   try simp only
   have hm:=bq hd (s:=[123]) ai;obtain ⟨t,q,e⟩:=h4 (d+1) [] (p.aI [123]) (hm.ok hd) (by have:=kH hm;omega);rw [e];exact zaL
  ·rw [mS];have hd:=(fX hp d).ok hp;rw [<-ug p d] at h;generalize p.deep d=p at *
   try simp only
   split
   ·rename_i hs;have hn:=db hs ai;have cL:=hn.trans (dY (hn.ok hd));exact zch
   ·split
    ·rename_i hs;refine h3 _ _ _ hd ?_ ak
     rcases hs with hs | hs
     ·exact zdn
     ·exact zdn
    ·split
     ·rename_i hs;have hn:=db hs ai;obtain ⟨t,q,e⟩:=vi (hn.ok hd) (d+1);rw [e];exact zaL
     ·split
      ·have cL:=dY hd;exact zch
      ·obtain ⟨t,q,e⟩:=vi hd (d+1);rw [e];have hx:=eQ hd e;simp only;split
       ·rename_i hs;have hn:=hx.trans (db hs.2.2 ai);obtain ⟨t2,q2,e2⟩:=vi (hn.ok hd) (d+1);rw [e2];have bZ:=uh _ _ _ _ _ (fun k d o e=>by cases e) e hs.1
        cases hk:t.kids with
        | nil=>exact absurd hk bZ
        | cons a r=>exact zaL
       ·exact zaL
  ·rw [mS];have hn:=cl ar;have Ly:=pI ar;have hm:=hn.trans (bq (hn.ok hp) (s:=[40]) ai);obtain ⟨e,q,he⟩:=vi (hm.ok hp) (d+1);rw [he];simp only;have hx:=hm.trans (eQ (hm.ok hp) he);have nk:=hx.trans (bq (hx.ok hp) (s:=[41]) ai)
   have hq:(q.aI [41]).left+1<=p.left:=by
    have a1:=kH (bq (hn.ok hp) (s:=[40]) ai);have a2:=kH (eQ (hm.ok hp) he);have a3:=kH (bq (hx.ok hp) (s:=[41]) ai);omega
   obtain ⟨b,q2,hb⟩:=D (d+1) (q.aI [41]) (nk.ok hp) ak;rw [hb];simp only;have dS:=(oX f).1 _ _ _ _ (nk.ok hp) (fun a d' h=>by cases h) hb;split
   ·rename_i hs;have bL:=(nk.trans dS).trans (db hs.2 ai)
    obtain ⟨b2,q3,rB⟩:=D (d+1) q2.next (bL.ok hp) (by
     have a1:=kH dS;have a2:=kH (db hs.2 ai)
     omega)
    rw [rB];exact zaL
   ·exact zaL
  ·rw [mB];split
   ·obtain ⟨a,q,e⟩:=I d p hp ak;rw [e];simp only;have ht:=(oX f).1 _ _ _ _ hp (fun a d' h=>by cases h) e
    by_cases hc:q.code=0
    ·have:=MG hp e hc;refine h4 _ _ _ (ht.ok hp) ?_;have:=kH ht;omega
    ·cases f with
     | zero=>omega
     | succ f =>
      rw [mB,ad (fun h=>hc h.1)];exact zaL
   ·exact zaL
structure BH (x:Tok):Prop where
 at_:0<=x.at_/\x.at_<=6000
 n:0<=x.n/\x.n<=2147483647
structure SB (p:RS):Prop where
 tok:∀ t∈p.l,BH t
 e:0<=p.e/\p.e<=6000
theorem SB.to {p q:RS} (h:SB p) (k:p.to q):SB q:=⟨by rw [k.1];exact h.tok,by rw [k.2.1];exact h.e⟩
theorem SB.at {p:RS} (h:SB p) {i:Nat} {t:Tok} (ht:p.l[i]?=some t):BH t:=h.tok t (bM ht)
theorem SB.place {p:RS} (h:SB p):0<=p.place/\p.place<=6000:=by
 unfold RS.place;split
 ·rename_i t ht;exact (h.at ht).at_
 ·exact h.e
structure R9 (x:Nd):Prop where
 kind:0<=x.kind/\x.kind<=14
 at_:0<=x.at_/\x.at_<=6000
 n:0<=x.n/\x.n<=2147483647
 s:x.s.length<=12
mutual
def iR:T->Prop
 | .mk n l=>R9 n/\ey l
def ey:List T->Prop
 | []=>True
 | t::r=>iR t/\ey r
end
theorem iR.n {t:T} (h:iR t):R9 t.n:=by cases t;rw [iR] at h;exact h.1
theorem iR.kids {t:T} (h:iR t):ey t.kids:=by cases t;rw [iR] at h;exact h.2
theorem BM:∀ {a b:List T},ey a->ey b->ey (a++b)
 | [],b,_,h=>h
 | t::a,b,h,k=>by rw [cons_append,ey];rw [ey] at h;exact ⟨h.1,BM h.2 k⟩
theorem vR {t:T} (h:iR t):ey [t]:=by rw [ey,ey];exact ⟨h,trivial⟩
theorem I7 {t u:T} (h:iR t) (k:iR u):ey [t,u]:=by rw [ey,ey,ey];exact ⟨h,k,trivial⟩
theorem CJ:∀ (a b:List T),aB (a++b)=aB a+aB b
 | [],b=>by rw [aB];exact (eo _).symm
 | t::a,b=>by rw [cons_append,aB,aB,CJ a b];omega
theorem qi (t:T):aB [t]=aQ t:=by rw [aB,aB];rfl
theorem CI (t u:T):aB [t,u]=aQ t+aQ u:=by rw [aB,qi]
theorem Uy (t u v:T):aB [t,u,v]=aQ t+aQ u+aQ v:=by rw [aB,CI];omega
theorem gK {k a:Int} {s:ae} {l:List T}:aQ (one k a s l)=aB l+1:=by unfold one;rw [aQ]
theorem me {k a:Int} {s:ae} {l:List T} (hk:0<=k/\k<=14) (ha:0<=a/\a<=6000) (hs:s.length<=12) (hl:ey l):iR (one k a s l):=by
 unfold one;rw [iR];exact ⟨⟨hk,ha,⟨Int.le_refl _,show (0:Int)<=2147483647 by decide⟩,hs⟩,hl⟩
theorem CD:iR T.zero:=by
 unfold T.zero;rw [iR,ey];exact ⟨⟨⟨Int.le_refl _,show (0:Int)<=14 by decide⟩,⟨Int.le_refl _,show (0:Int)<=6000 by decide⟩,⟨Int.le_refl _,show (0:Int)<=2147483647 by decide⟩,aY _⟩,trivial⟩
theorem CK:aQ T.zero=1:=by unfold T.zero;rw [aQ,aB]
theorem nN (p:RS):p.name.1.length<=12:=by
 unfold RS.name;split
 ·split
  ·split
   ·split
    ·exact aY _
    ·exact zdy
   ·exact aY _
  ·exact aY _
 ·exact aY _
def oV:J->Nat
 | .loop _ _ out=>aQ out
 | _=>1
def ZD:J->Prop
 | .loop _ _ out=>iR out
 | .named a s _=>(0<=a/\a<=6000)/\s.length<=12
 | _=>True
theorem Qt:∀ (f:Nat),(∀ j p t q,p.ok->SB p->ZD j->mE f j p=some (t,q)->iR t/\aQ t<=oV j+2 * (q.i - p.i)) /\
  (∀ d p l q,p.ok->SB p->mL f d p=some (l,q)->ey l/\aB l<=1+2 * (q.i - p.i))/\(∀ d acc p l q,p.ok->SB p->ey acc->pK f d acc p=some (l,q)->ey l/\aB l<=aB acc+2 * (q.i - p.i))
 | 0=>⟨fun j p t q _ _ _ h=>by simp [mE] at h,fun d p l q _ _ h=>by simp [mL] at h,fun d acc p l q _ _ _ h=>by simp [pK] at h⟩
 | f+1=>by
  obtain ⟨D,I,h3⟩:=Qt f;obtain ⟨t1,t2,t3⟩:=rb f;refine ⟨fun j p t q hp hb hj h=>?_,fun d p l q hp hb h=>?_,fun d acc p l q hp hb ha h=>?_⟩
  ·cases j with
   | expr d =>
    rw [mE] at h;have hd:=fX hp d
    have hi:(p.deep d).i=p.i:=by unfold RS.deep RS.fail;split <;> (try split) <;> rfl
    have:=D (.level 0 d) _ _ _ (hd.ok hp) (hb.to hd) trivial h;rw [hi] at this;exact this
   | level k d =>
    rw [mE] at h;split at h
    ·exact D (.operand (d+1)) _ _ _ hp hb trivial h
    ·split at h
     ·cases h
     ·rename_i out p' he;have ht:=t1 _ _ _ _ hp he;have ha:=D (.level (k+1) d) _ _ _ hp hb trivial he;have hl:=D (.loop k d out) _ _ _ (ht.ok hp) (hb.to ht) ha.1 h;have h4:=(t1 _ _ _ _ (ht.ok hp) h).2.2.2;have h5:=ht.2.2.2;have h6:=ha.2;have h7:=hl.2;simp only [oV] at h6 h7 |-;exact zex
   | loop k d out =>
    rw [mE] at h;split at h
    ·rename_i hc;split at h
     ·cases h
     ·rename_i t' ht;have ar:=(bh ht).1;have hn:=cl (p:=p) ar
      have hs:t'.s.length<=12:=by
       have h8:=(Fl hc.2).2.2;unfold RS.sign at h8;rw [ah hc.1,Nat.add_zero,ht] at h8;simp only [df] at h8;have h9:=(Fl hc.2).1;unfold RS.sign at h9;rw [ah hc.1,Nat.add_zero,ht] at h9;simp only [df] at h9;split at h8
       ·omega
       ·rename_i ly;rw [ad ly] at h9;exact absurd rfl h9
      split at h
      ·cases h
      ·rename_i b p' he;have ej:=t1 _ _ _ _ (hn.ok hp) he;have ha:=D (.level (k+1) d) _ _ _ (hn.ok hp) (hb.to hn) trivial he;have Oq:=hn.trans ej;have hl:=D (.loop k d (one 6 t'.at_ t'.s [out,b])) _ _ _ (Oq.ok hp) (hb.to Oq) (me ai (hb.at ht).at_ hs (I7 hj ha.1)) h;have h4:=(t1 _ _ _ _ (Oq.ok hp) h).2.2.2;have h5:=ej.2.2.2;have h6:=ha.2;have h7:=hl.2;simp only [oV,gK,CI] at h6 h7 |-
       have h8:p.next.i=p.i+1:=rfl
       exact zex
    ·cases h;exact ⟨hj,by simp only [oV];omega⟩
   | operand d =>
    rw [mE] at h;have hd:=fX hp d
    have hi:(p.deep d).i=p.i:=by unfold RS.deep RS.fail;split <;> (try split) <;> rfl
    rw [<-hi];have c7:=hd.ok hp;have rC:=hb.to hd;generalize p.deep d=p at *
    try simp only at h
    simp only [oV];split at h
    ·split at h
     ·cases h;exact ⟨CD,by rw [CK];omega⟩
     ·rename_i t' ht;have ar:=(bh ht).1;have hn:=cl (p:=p) ar
      have h8:p.next.i=p.i+1:=rfl
      have hT:=rC.at ht;split at h
      ·cases h;refine ⟨?_,by rw [aQ,aB];omega⟩;rw [iR,ey];exact ⟨⟨⟨show (0:Int)<=1 by decide,show (1:Int)<=14 by decide⟩,hT.at_,hT.n,aY _⟩,trivial⟩
      ·split at h
       ·have cL:=dY c7;have ha:=D (.named t'.at_ p.name.1 d) _ _ _ (cL.ok c7) (rC.to cL) ⟨hT.at_,nN p⟩ h;have h4:=(t1 _ _ _ _ (cL.ok c7) h).2.2.2;have h5:=cL.2.2.2;have h6:=ha.2;simp only [oV] at h6;exact ⟨ha.1,by omega⟩
       ·split at h
        ·rename_i hs;split at h
         ·cases h
         ·rename_i a p' he;have ha:=D (.operand (d+1)) _ _ _ (hn.ok c7) (rC.to hn) trivial he;have h5:=(t1 _ _ _ _ (hn.ok c7) he).2.2.2;have h6:=ha.2;simp only [oV] at h6;cases h;refine ⟨me ai hT.at_ (by rcases hs with hs | hs | hs <;> rw [hs] <;> decide) (vR ha.1),?_⟩;rw [gK,qi];omega
        ·split at h
         ·split at h
          ·cases h
          ·rename_i a p' he;have ha:=D (.expr (d+1)) _ _ _ (hn.ok c7) (rC.to hn) trivial he;have ej:=hn.trans (t1 _ _ _ _ (hn.ok c7) he);have h5:=(t1 _ _ _ _ (hn.ok c7) he).2.2.2;have h6:=ha.2;simp only [oV] at h6;cases h;have h7:=(bq (ej.ok c7) (s:=[41]) ai).2.2.2;exact ⟨ha.1,by omega⟩
         ·cases h;exact ⟨CD,by rw [CK];omega⟩
    ·cases h;exact ⟨CD,by rw [CK];omega⟩
   | named a s d =>
    rw [mE] at h;simp only [oV];split at h
    ·rename_i hs;have hn:=db hs ai
     have h8:p.next.i=p.i+1:=rfl
     split at h
     ·cases h
     ·rename_i a' p' he;have ha:=D (.expr (d+1)) _ _ _ (hn.ok hp) (hb.to hn) trivial he;have ej:=hn.trans (t1 _ _ _ _ (hn.ok hp) he);have h5:=(t1 _ _ _ _ (hn.ok hp) he).2.2.2;have h6:=ha.2;simp only [oV] at h6;cases h;have h7:=(bq (ej.ok hp) (s:=[93]) ai).2.2.2;refine ⟨me ai hj.1 hj.2 (vR ha.1),?_⟩;rw [gK,qi];omega
    ·split at h
     ·rename_i hs;have hn:=db hs ai
      have h8:p.next.i=p.i+1:=rfl
      split at h
      ·cases h
      ·rename_i l p' he;have ha:=I _ _ _ _ (hn.ok hp) (hb.to hn) he;have h5:=(t2 _ _ _ _ (hn.ok hp) he).2.2.2;have h6:=ha.2;cases h;refine ⟨me ai hj.1 hj.2 ha.1,?_⟩;rw [gK];omega
     ·cases h;refine ⟨me ai hj.1 hj.2 (by rw [ey];trivial),?_⟩;rw [gK,aB];omega
  ·rw [mL] at h;split at h
   ·cases h;exact ⟨by rw [ey];trivial,by rw [aB];omega⟩
   ·split at h
    ·cases h
    ·rename_i a p' he;have ej:=t1 _ _ _ _ hp he;have ha:=D (.expr d) _ _ _ hp hb trivial he;have hl:=h3 _ _ _ _ _ (ej.ok hp) (hb.to ej) (vR ha.1) h;have h4:=(t3 _ _ _ _ _ (ej.ok hp) h).2.2.2;have h5:=ej.2.2.2;have h6:=ha.2;have h7:=hl.2;simp only [oV] at h6;rw [qi] at h7;exact zex
  ·rw [pK] at h;split at h
   ·rename_i hs;have hn:=db hs ai
    have h8:p.next.i=p.i+1:=rfl
    split at h
    ·cases h
    ·rename_i a p' he;have ej:=hn.trans (t1 _ _ _ _ (hn.ok hp) he);have h9:=(t1 _ _ _ _ (hn.ok hp) he).2.2.2;have ha:=D (.expr d) _ _ _ (hn.ok hp) (hb.to hn) trivial he;have hl:=h3 _ _ _ _ _ (ej.ok hp) (hb.to ej) (BM ‹ey acc› (vR ha.1)) h;have h4:=(t3 _ _ _ _ _ (ej.ok hp) h).2.2.2;have h6:=ha.2;have h7:=hl.2;simp only [oV] at h6;rw [CJ,qi] at h7;exact zex
   ·cases h;have h4:=(bq hp (s:=[41]) ai).2.2.2;exact ⟨‹ey _›,by omega⟩
theorem yt {d:Nat} {p q:RS} {t:T} (hp:p.ok) (hb:SB p) (h:mX d p=some (t,q)):iR t/\aQ t<=1+2 * (q.i - p.i)/\p.i<=q.i:=by
 have:=(Qt _).1 (.expr d) _ _ _ hp hb trivial h;exact ⟨this.1,this.2,(eQ hp h).2.2.2⟩
theorem KH {p:RS} {s:ae} (hs:s≠[]) (h:¬ p.code=0):¬ (p.aI s).code=0:=fun e=>h (qN hs e).2.1
theorem Qu:∀ (f:Nat),(∀ d p t q,p.ok->SB p->mS f (.block d) p=some (t,q)->iR t/\aQ t<=1+4 * (q.i - p.i)/\p.i<=q.i) /\
  (∀ d p t q,p.ok->SB p->mS f (.stmt d) p=some (t,q)->iR t/\aQ t<=2+4 * (q.i - p.i)/\(q.code=0->aQ t<=4 * (q.i - p.i))/\p.i<=q.i) /\
  (∀ a d p t q,p.ok->SB p->p.i < p.l.length->(0<=a/\a<=6000)->mS f (.cond a d) p=some (t,q)->iR t/\aQ t<=2+4 * (q.i - p.i)/\(q.code=0->aQ t<=4 * (q.i - p.i))/\p.i<=q.i) /\
  (∀ d acc p l q,p.ok->SB p->ey acc->mB f d acc p=some (l,q)->ey l/\(aB l<=aB acc+(if p.code=0 then 2 else 0)+4 * (q.i - p.i))/\p.i<=q.i)
 | 0=>⟨fun d p t q _ _ h=>by simp [mS] at h,fun d p t q _ _ h=>by simp [mS] at h,fun a d p t q _ _ _ _ h=>by simp [mS] at h,fun d acc p l q _ _ _ h=>by simp [mB] at h⟩
 | f+1=>by
  obtain ⟨D,I,h3,h4⟩:=Qu f;refine ⟨fun d p t q hp hb h=>?_,fun d p t q hp hb h=>?_,fun a d p t q hp hb ar ha h=>?_,fun d acc p l q hp hb Wa h=>?_⟩
  ·rw [mS] at h;have hd:=fX hp d
   have hi:(p.deep d).i=p.i:=by unfold RS.deep RS.fail;split <;> (try split) <;> rfl
   rw [<-hi];have c7:=hd.ok hp;have rC:=hb.to hd;generalize p.deep d=p at *
   try simp only at h
   have hm:=bq c7 (s:=[123]) ai;split at h
   ·cases h
   ·rename_i l q' he;have hl:=h4 _ _ _ _ _ (hm.ok c7) (rC.to hm) (by rw [ey];trivial) he;have ej:=hm.trans ((oX f).2 _ _ _ _ _ (hm.ok c7) he);cases h;have h5:=(bq (ej.ok c7) (s:=[125]) ai).2.2.2;have h6:=hm.2.2.2;refine ⟨me ai rC.place (aY _) hl.1,?_,by have:=hl.2.2;omega⟩;rw [gK];have h7:=hl.2.1;have h8:=hl.2.2;rw [aB] at h7;split at h7
    ·rename_i hc;have h9:=(qN ai hc).1
     have ly:(p.aI [123]).i=p.i+1:=by rw [h9];rfl
     omega
    ·omega
  ·rw [mS] at h;have hd:=fX hp d
   have hi:(p.deep d).i=p.i:=by unfold RS.deep RS.fail;split <;> (try split) <;> rfl
   rw [<-hi];have c7:=hd.ok hp;have rC:=hb.to hd;generalize p.deep d=p at *
   try simp only at h
   have dv:=rC.place
   have last:∀ (q':RS),p.to q'->q'.i<=(q'.aI [59]).i/\((q'.aI [59]).code=0->(q'.aI [59]).i=q'.i+1):=fun q' hq=>⟨(bq (hq.ok c7) ai).2.2.2,fun hc=>by rw [(qN ai hc).1];rfl⟩
   split at h
   ·rename_i hs;have hn:=db hs ai;have cL:=hn.trans (dY (hn.ok c7));have dq:=cL.trans (bq (cL.ok c7) (s:=[61]) ai);split at h
    ·cases h
    ·rename_i e q' he;have hx:=yt (dq.ok c7) (rC.to dq) he;have u6:=last _ (dq.trans (eQ (dq.ok c7) he));have h5:=((dY (hn.ok c7)).trans (bq (cL.ok c7) (s:=[61]) ai)).2.2.2
     have h8:p.next.i=p.i+1:=rfl
     cases h;refine ⟨me ai dv (nN _) (vR hx.1),?_,fun hc=>?_,?_⟩
     ·exact zd7
     ·exact zcf
     ·have:=hx.2;omega
   ·split at h
    ·rename_i hs;refine h3 _ _ _ _ _ c7 rC ?_ dv h
     rcases hs with hs | hs
     ·exact zdn
     ·exact zdn
    ·split at h
     ·rename_i hs;have hn:=db hs ai;split at h
      ·cases h
      ·rename_i e q' he;have hx:=yt (hn.ok c7) (rC.to hn) he;have u6:=last _ (hn.trans (eQ (hn.ok c7) he))
       have h8:p.next.i=p.i+1:=rfl
       cases h;refine ⟨me ai dv (aY _) (vR hx.1),?_,fun hc=>?_,?_⟩
       ·exact zd7
       ·exact zcf
       ·have:=hx.2;omega
     ·split at h
      ·have cL:=dY c7;have dq:=cL.trans (bq (cL.ok c7) (s:=[61]) ai);split at h
       ·cases h
       ·rename_i e q' he;have hx:=yt (dq.ok c7) (rC.to dq) he;have u6:=last _ (dq.trans (eQ (dq.ok c7) he));have h5:=dq.2.2.2;cases h;refine ⟨me ai dv (nN _) (vR hx.1),?_,fun hc=>?_,?_⟩
        ·exact zd7
        ·exact zcf
        ·have:=hx.2;omega
      ·split at h
       ·cases h
       ·rename_i e q' he;have kc:=eQ c7 he;have hx:=yt c7 rC he;split at h
        ·rename_i hs;have sZ:=db hs.2.2 ai;have hn:=kc.trans sZ;split at h
         ·rename_i a r v p2 hk kO;have hv:=yt (hn.ok c7) (rC.to hn) kO;have u6:=last _ (hn.trans (eQ (hn.ok c7) kO))
          have h8:q'.next.i=q'.i+1:=rfl
          have P8:iR a:=by have:=hx.1.kids;rw [hk,ey] at this;exact this.1
          have hza:aQ a+1<=aQ e:=by
           cases e with
           | mk n l =>
            have hk:l=a::r:=hk;rw [aQ,hk,aB];omega
          cases h;refine ⟨me ai dv hx.1.n.s (I7 P8 hv.1),?_,fun hc=>?_,?_⟩
          ·rw [gK,CI];have:=hx.2;have:=hv.2;omega
          ·rw [gK,CI];have:=hx.2;have:=hv.2;have:=u6.2 hc;omega
          ·have:=hx.2;have:=hv.2;omega
         ·cases h
        ·have u6:=last _ kc;cases h;refine ⟨me ai dv (aY _) (vR hx.1),?_,fun hc=>?_,?_⟩
         ·exact zd7
         ·exact zcf
         ·have:=hx.2;omega
  ·rw [mS] at h;have hn:=cl ar
   have h8:p.next.i=p.i+1:=rfl
   have hm:=hn.trans (bq (hn.ok hp) (s:=[40]) ai);have h5:=(bq (hn.ok hp) (s:=[40]) ai).2.2.2
   have qu:0<=p.ck/\p.ck<=14:=by unfold RS.ck;split <;> decide
   try simp only at h
   split at h
   ·cases h
   ·rename_i e q' he;have hx:=yt (hm.ok hp) (hb.to hm) he;have nk:=(hm.trans (eQ (hm.ok hp) he)).trans (bq ((hm.trans (eQ (hm.ok hp) he)).ok hp) (s:=[41]) ai);have h6:=(bq ((hm.trans (eQ (hm.ok hp) he)).ok hp) (s:=[41]) ai).2.2.2;split at h
    ·cases h
    ·rename_i b q2 ea;have pA:=D _ _ _ _ (nk.ok hp) (hb.to nk) ea;have ej:=nk.trans ((oX f).1 _ _ _ _ (nk.ok hp) (fun a d' h=>by cases h) ea);split at h
     ·rename_i hs;have bL:=ej.trans (db hs.2 ai)
      have h9:q2.next.i=q2.i+1:=rfl
      split at h
      ·cases h
      ·rename_i b2 q3 Xf;have dS:=D _ _ _ _ (bL.ok hp) (hb.to bL) Xf;cases h;refine ⟨me qu ha (aY _) (by rw [ey];exact ⟨hx.1,I7 pA.1 dS.1⟩),?_,fun hc=>?_,?_⟩
       ·rw [gK,Uy];exact zdN
       ·rw [gK,Uy];exact zdN
       ·exact zdN
     ·cases h;refine ⟨me qu ha (aY _) (I7 hx.1 pA.1),?_,fun hc=>?_,?_⟩
      ·rw [gK,CI];have:=hx.2;have:=pA.2;omega
      ·rw [gK,CI];have:=hx.2;have:=pA.2;omega
      ·have:=hx.2;have:=pA.2;omega
  ·rw [mB] at h;split at h
   ·rename_i hc;split at h
    ·cases h
    ·rename_i a p' he;have hs:=I _ _ _ _ hp hb he;have ej:=(oX f).1 _ _ _ _ hp (fun a d' h=>by cases h) he;have hl:=h4 _ _ _ _ _ (ej.ok hp) (hb.to ej) (BM Wa (vR hs.1)) h;have h5:=hl.2.1;have h6:=hl.2.2;rw [CJ,qi] at h5;refine ⟨hl.1,?_,by have:=hs.2.2.2;omega⟩;rw [ah hc.1];split at h5
     ·rename_i lV;have:=hs.2.2.1 lV;have:=hs.2.2.2;omega
     ·have:=hs.2.1;have:=hs.2.2.2;omega
   ·cases h;exact ⟨Wa,by split <;> omega,aD _⟩
open Go.Im
abbrev QD (n:Nd):Nat:=n.s.length+n.kids.length+1
mutual
theorem PE:∀ (t:T) (a:Nat),iR t->aV QD (fQ a t)+1<=14 * aQ t
 | .mk n l,a,h=>by
  rw [iR] at h;have D:=h.1.s;have I:=Jf l (a+1) h.2;rw [fQ,aV,aQ];show n.s.length+(bj (a+1) l).length+1+_+1<=_;rw [my];omega
theorem Jf:∀ (l:List T) (a:Nat),ey l->aV QD (cD a l)+l.length<=14 * aB l
 | [],a,h=>by rw [cD,aV,aB];exact aD _
 | t::r,a,h=>by
  rw [ey] at h;have D:=PE t a h.1;have I:=Jf r (a+aQ t) h.2;rw [cD,nS,aB,length_cons];omega
end
mutual
theorem PD:∀ (t:T) (a:Nat),iR t->∀ n∈fQ a t,0<=n.n/\n.n<=2147483647
 | .mk n l,a,h,m,hm=>by
  rw [iR] at h;rw [fQ] at hm
  rcases ew hm with rfl | hm
  ·exact h.1.n
  ·exact Je l (a+1) h.2 m hm
theorem Je:∀ (l:List T) (a:Nat),ey l->∀ n∈cD a l,0<=n.n/\n.n<=2147483647
 | [],a,h,m,hm=>by rw [cD] at hm;cases hm
 | t::r,a,h,m,hm=>by
  rw [ey] at h;rw [cD] at hm
  rcases nY hm with hm | hm
  ·exact PD t a h.1 m hm
  ·exact Je r (a+aQ t) h.2 m hm
end
structure PB (p:Src) (i:Nat):Prop where
 w:cv p<=100 * i
 num:gY p
def Dn:Src:=⟨[],[],[],[]⟩
theorem PB.no:PB Dn 0:=⟨aD _,⟨(fun a h=>by simp [Dn] at h),(fun a h=>by simp [Dn] at h)⟩⟩
theorem PB.W7 {p:Src} {i j:Nat} (h:PB p i) (s:ae) (hs:s.length<=12) (fA:i < j):PB ⟨p.globals++[s],p.arrays,p.fns,p.nodes⟩ j:=by
 refine ⟨?_,h.num.arrays,h.num.nodes⟩;exact zeC
theorem PB.arr {p:Src} {i j:Nat} (h:PB p i) (a:Ar) (hs:a.name.length<=12) (hz:0<=a.size/\a.size<=2147483647) (fA:i < j):PB ⟨p.globals,p.arrays++[a],p.fns,p.nodes⟩ j:=by
 refine ⟨?_,fun x hx=>?_,h.num.nodes⟩
 ·exact zeC
 ·rcases nY hx with hx | hx
  ·exact h.num.arrays x hx
  ·rw [List.mem_singleton] at hx;subst hx;omega
theorem Gd:∀ (l:List ae),(∀ s∈l,s.length<=12)->wS l<=13 * l.length
 | [],_=>aD _
 | s::l,h=>by
  have D:=h s zeL
  have I:=Gd l fun s hs=>h s (by simp [hs])
  unfold wS at *;rw [aV,length_cons];omega
theorem PB.fn {p:Src} {i j:Nat} (h:PB p i) (f:Fn) (t:T) (hs:f.name.length<=12) (hp:∀ s∈f.params,s.length<=12) (ht:iR t) (k b:Nat) (hk:f.params.length<=k) (hb:aQ t<=1+4 * b) (fA:i+1+k+b<=j):PB ⟨p.globals,p.arrays,p.fns++[f],p.nodes++fQ p.nodes.length t⟩ j:=by
 refine ⟨?_,h.num.arrays,fun x hx=>?_⟩
 ·have D:=h.w;have I:=PE t p.nodes.length ht;have h3:=Gd f.params hp;unfold cv at *;simp only [nS,aV] at *;have e:aV (fun n:Nd=>n.s.length+n.kids.length+1) (fQ p.nodes.length t)=aV QD (fQ p.nodes.length t):=rfl;omega
 ·rcases nY hx with hx | hx
  ·exact h.num.nodes x hx
  ·have:=PD t _ ht x hx;omega
theorem sD {p:Src} (h:gY p) (i:Nat) {x:Nd} (hx : -9223372036854775808<=x.n/\x.n<=9223372036854775807):gY ⟨p.globals,p.arrays,p.fns,p.nodes.set i x⟩ :=
 ⟨h.arrays,fun y hy=>by rcases List.mem_or_eq_of_mem_set hy with hy | hy;exact h.nodes y hy;subst hy;exact hx⟩
theorem XV {p:Src} {i:Nat} {x:Nd} (h:p.nodes[i]?=some x):x.s.length+x.kids.length+1<=cv p:=by
 have:=pg (f:=fun n:Nd=>n.s.length+n.kids.length+1) (bM h);unfold cv;omega
theorem VJ (p:Src) (f g:Fn) (r:List Fn) (h:p.fns=f::r) (hn:g.name=f.name) (hp:g.params=f.params):cv ⟨p.globals,p.arrays,g::r,p.nodes⟩=cv p:=by
 unfold cv;simp only [h,aV,hn,hp]
theorem VI (p:Src) (a:Ar):cv ⟨p.globals,p.arrays++[a],p.fns,p.nodes⟩=cv p+a.name.length+1:=by
 unfold cv;simp only [nS,aV];omega
theorem Dq (s:ae):∀ (f:Nat) (n:Int) (a:Nat),0<=n->0<=(number s f n a).1
 | 0,n,a,h=>h
 | f+1,n,a,h=>by
  rw [number]
  cases hc:s[a]? with
  | none=>exact h
  | some c =>
   simp only
   by_cases hd:dN c=true
   ·rw [ah hd];refine Dq s f _ _ ?_;split
    ·have nE:(48:Int)<=(c.toNat:Int):=by
      unfold dN at hd;simp only [au,decide_eq_true_eq] at hd;exact hd.1
     omega
    ·exact h
   ·rw [ad hd];exact h
theorem Mh {s:ae} {a:Nat} {c:UInt8} (hc:s[a]?=some c) (hd:dN c=true) (n:Int):a < (number s (s.length+1) n a).2:=by
 have ar:=(bh hc).1;rw [number,hc];simp only;rw [ah hd];have:=(so s s.length (if n<=2147483647 then n * 10+((c.toNat:Int) - 48) else n) (a+1) ak ak).2.1;omega
theorem My:∀ x∈bQ,1<=x.length:=by decide
theorem Pn {s:ae} {a:Nat} {c:UInt8} (hc:s[a]?=some c) (hk:¬ (eR s a c).1.kind=0):a < (eR s a c).2:=by
 have ar:=(bh hc).1;unfold eR at hk |-
 by_cases hd:dN c=true
 ·rw [ah hd];exact Mh hc hd 0
 ·rw [ad hd] at hk |-
  by_cases hs:small c=true
  ·rw [ah hs];show a < eT s a;unfold eT;rw [run,hc];simp only;rw [ah (by unfold dV;rw [hs];rfl)];have:=(oa s dV s.length (a+1) ak ak).2.1;omega
  ·rw [ad hs] at hk |-;split
   ·rename_i x hx;have:=My x (List.mem_of_find?_eq_some hx);show a < a+x.length;omega
   ·rename_i hx;rw [hx] at hk;exact absurd rfl hk
theorem RP {s:ae} {a:Nat} {c:UInt8} (hc:s[a]?=some c) (hl:s.length<=6000) (hn:(eR s a c).1.n<=2147483647):BH (eR s a c).1:=by
 have ar:=(bh hc).1;unfold eR at hn |-
 by_cases hd:dN c=true
 ·rw [ah hd] at hn |-;exact ⟨⟨by show (0:Int)<=(a:Int);omega,by show (a:Int)<=6000;omega⟩,Dq s _ 0 a (Int.le_refl _),hn⟩
 ·rw [ad hd] at hn |-
  by_cases hs:small c=true
  ·rw [ah hs] at hn |-;exact ⟨⟨by show (0:Int)<=(a:Int);omega,by show (a:Int)<=6000;omega⟩,Int.le_refl _,hn⟩
  ·rw [ad hs] at hn |-;split
   ·exact ⟨⟨by show (0:Int)<=(a:Int);omega,by show (a:Int)<=6000;omega⟩,Int.le_refl _,by show (0:Int)<=2147483647;omega⟩
   ·exact ⟨⟨Int.le_refl _,by show (0:Int)<=6000;omega⟩,Int.le_refl _,by show (0:Int)<=2147483647;omega⟩
theorem tt {α:Type} {f:α->Nat} (h:∀ x,1<=f x):∀ l:List α,l.length<=aV f l
 | []=>aD _
 | x::l=>by have D:=h x;have I:=tt h l;rw [aV,length_cons];omega
theorem wJ (p:Src):p.globals.length<=cv p/\p.arrays.length<=cv p/\p.fns.length<=cv p/\p.nodes.length<=cv p:=by
 have D:p.globals.length<=wS p.globals:=tt (fun s=>Nat.le_add_left 1 _) _;have I:=tt (f:=fun a:Ar=>a.name.length+1) (fun s=>Nat.le_add_left 1 _) p.arrays;have h3:=tt (f:=fun f:Fn=>f.name.length+wS f.params+1) (fun s=>Nat.le_add_left 1 _) p.fns;have h4:=tt (f:=fun n:Nd=>n.s.length+n.kids.length+1) (fun s=>Nat.le_add_left 1 _) p.nodes;unfold cv;omega
def oZ (p:RS):Int × RS:=match p.l[p.i]? with
 | some t=>if t.kind=1 then (t.n,p.next) else (0,p.fail 7 p.place)
 | none=>(0,p.fail 7 p.place)
theorem II {p:RS} (hp:p.ok):p.to (oZ p).2:=by
 unfold oZ
 cases ht:p.l[p.i]? with
 | none=>exact zet
 | some t =>
  simp only;split
  ·exact cl (bh ht).1
  ·exact zet
theorem Pd {p:RS} (h:SB p):0<=(oZ p).1/\(oZ p).1<=2147483647:=by
 unfold oZ
 cases ht:p.l[p.i]? with
 | none=>exact zdy
 | some t =>
  simp only;split
  ·exact (h.at ht).n
  ·exact zdy
end Go.Sp
namespace Go.Im
open Go.Xp Go.Sp
def cr (d:Nat):ae:=List.replicate (2 * d) 32
def qE (d:Nat) (acc:ae) (l:List ae):ae:=l.foldl (fun acc s=>acc++((cr (d+1)++s)++[10])) acc
def qI (l:List ae) (d:Nat):ae:=(qE d [123,10] l++cr d)++[125]
mutual
def en:Nat->S->ae
 | d,.if1 c b=>(([105,102,32,40]++c.txt)++[41,32])++((eu d [123,10] b++cr d)++[125])
 | d,.if2 c b b2=>(((([105,102,32,40]++c.txt)++[41,32])++((eu d [123,10] b++cr d)++[125]))++[32,101,108,115,101,32])++((eu d [123,10] b2++cr d)++[125])
 | d,.while_ c b=>(([119,104,105,108,101,32,40]++c.txt)++[41,32])++((eu d [123,10] b++cr d)++[125])
 | _,.set s a=>S.txt E.txt (.set s a)
 | _,.put s a b=>S.txt E.txt (.put s a b)
 | _,.ret a=>S.txt E.txt (.ret a)
 | _,.do_ a=>S.txt E.txt (.do_ a)
 | _,.var s a=>S.txt E.txt (.var s a)
def eu:Nat->ae->List S->ae
 | _,acc,[]=>acc
 | d,acc,a::l=>eu d (((acc++cr (d+1))++en (d+1) a)++[10]) l
end
def pM (d:Nat) (l:List S):ae:=(eu d [123,10] l++cr d)++[125]
theorem Ej (d:Nat):∀ (l:List S) (acc:ae),qE d acc (l.map (en (d+1)))=eu d acc l
 | [],acc=>by rw [eu];rfl
 | a::l,acc=>by
  rw [eu,<-Ej d l];simp [qE,fF]
mutual
theorem Us:∀ (s:S),s.ok=true->∀ d,eb cM qI d s.tree=en d s
 | .set s a,h,d=>by
  exact zcZ
 | .var s a,h,d=>by
  exact zcZ
 | .ret a,h,d=>by
  exact zdc
 | .do_ a,h,d=>by
  exact zdc
 | .put s a b,h,d=>by
  simp only [S.ok,au] at h;rw [S.tree,eb,List.map_cons,List.map_cons,dK a h.2.1,dK b h.2.2,en,S.txt];simp [kX]
 | .if1 c b,h,d=>by
  exact zb8
 | .if2 c b b2,h,d=>by
  simp only [S.ok,au] at h;have hb:=w8 b h.2.1 d;have dS:=w8 b2 h.2.2 d;rw [S.tree,eb,List.map_cons,dK c h.1,fY,fY,fY,fY,hb,dS,en];simp [kX,pM]
 | .while_ c b,h,d=>by
  exact zb8
theorem w8:∀ (l:List S),S.bW l=true->∀ d,iT cM qI d (.mk ⟨14,0,0,[],[]⟩ (S.trees l))=pM d l
 | l,h,d=>by
  rw [iT,MD l h (d+1),qI,Ej];rfl
theorem MD:∀ (l:List S),S.bW l=true->∀ d,ox cM qI d (S.trees l)=l.map (en d)
 | [],_,d=>by rw [S.trees,ox];rfl
 | a::l,h,d=>by
  simp only [S.bW,au] at h;rw [S.trees,ox,List.map_cons,Us a h.1,MD l h.2]
end
def qs (x:Fn × List S):ae:=((((([102,117,110,99,32]++x.1.name)++[40])++bp x.1.params)++[41,32])++pM 0 x.2)++[10]
def vw (p:Src) (ls:List (List S)):ae:=bH qs (bH a1 (bH g1 [] p.globals) p.arrays) (p.fns.zip ls)
theorem Ek {tx:T->ae} {inl:List ae->Nat->ae} {g:List S->ae}:∀ (fns:List Fn) (l:List T) (ls:List (List S)) (acc:ae),ls.length=l.length->(∀ (i:Nat) t b,l[i]?=some t->ls[i]?=some b->iT tx inl 0 t=g b) ->
  bH (cI tx inl) acc (fns.zip l)=bH (fun x:Fn × List S=>((((([102,117,110,99,32]++x.1.name)++[40])++bp x.1.params)++[41,32])++g x.2)++[10]) acc (fns.zip ls)
 | [],l,ls,acc,_,_=>by simp [bH]
 | f::r,[],[],acc,_,_=>by simp [bH]
 | f::r,t::l,b::ls,acc,hl,h=>by
  have h0:=h 0 t b rfl rfl;rw [zip_cons_cons,zip_cons_cons,bH,bH,Ek r l ls _ zeQ fun i t' b' D I=>h (i+1) t' b' ze7 zfe];simp only [cI,h0]
 | f::r,[],b::ls,acc,hl,_=>by simp at hl
 | f::r,t::l,[],acc,hl,_=>by simp at hl
theorem Fg {p:Src} {l:List T} {ls:List (List S)} (hf:Forms l ls):jJ cM qI p l=vw p ls:=by
 unfold jJ
 refine Ek (g:=pM 0) _ _ _ _ hf.len fun i t b D I=>?_
 obtain ⟨h3,h4⟩:=hf.at_ i t b D I;rw [<-Ei,h4];exact w8 b h3 0
theorem b8.WK {p:Src} {l:List T} {ls:List (List S)} (h:b8 p l) (hf:Forms l ls):∀ b∈ls,S.bW b=true/\aQ (aZ b)<=800/\wt (aZ b)<=100 * cv p:=fun b hb=>by
 obtain ⟨i,hi⟩:=List.getElem?_of_mem hb;have ar:=(bh hi).1;have hl:=hf.len
 have ht:l[i]?=some (l[i]'ak):=by simp [<-hl,ar]
 obtain ⟨D,I⟩:=hf.at_ i _ b ht hi;have hm:=bM ht;have h3:=vI hm;have h4:=tK h.st h.len _ hm;have h5:=Bx (l[i]'ak);have h6:=h.len;have h7:=h.few;refine ⟨D,?_,?_⟩
 ·rw [<-I,rJ];omega
 ·rw [<-I,DV];omega
open Classical in
noncomputable def oS (p:Src):ae:=if h:∃ l ls,fI p=true/\b8 p l/\Forms l ls then vw p h.choose_spec.choose else []
theorem b8.uniq {p:Src} {l l':List T} (h:b8 p l) (h':b8 p l'):l=l':=by
 have D:=h.Kz;rw [h'.Kz] at D;exact ((Prod.mk.injEq _ _ _ _ ▸ DW D).1).symm
theorem qS {p:Src} {l:List T} {ls:List (List S)} (hf:fI p=true) (h:b8 p l) (hm:Forms l ls):oS p=vw p ls:=by
 have hex:∃ l ls,fI p=true/\b8 p l/\Forms l ls:=⟨l,ls,hf,h,hm⟩;unfold oS;rw [dif_pos hex];obtain ⟨D,I,h3⟩:=hex.choose_spec.choose_spec;have e:=I.uniq h;rw [<-Fg h3,e,Fg hm]
def yW (n:Nd) (x:List ae):ae :=
 if n.kind=1 then mx n.n
 else if n.kind=3 then ((n.s++[91])++x.getD 0 [])++[93]
 else if n.kind=4 then ((n.s++[40])++bp x)++[41]
 else if n.kind=5 then ((40::n.s)++x.getD 0 [])++[41]
 else if n.kind=6 then (((((40::x.getD 0 [])++[32])++n.s)++[32])++x.getD 1 [])++[41]
 else n.s
mutual
def eA:T->ae
 | .mk n l=>yW n (jz l)
def jz:List T->List ae
 | []=>[]
 | t::r=>eA t::jz r
end
theorem yh (l:List T):jz l=l.map eA:=by
 induction l with
 | nil=>rfl
 | cons t l ih=>rw [jz,ih];rfl
mutual
theorem K9:∀ t:T,eA (er t)=eA t
 | .mk n l=>by rw [er,eA,eA,BV l];rfl
theorem BV:∀ l:List T,jz (aK l)=jz l
 | []=>by rw [aK]
 | t::r=>by rw [aK,jz,jz,K9 t,BV r]
end
mutual
theorem jo:∀ a:E,a.ok=true->eA a.tree=a.full
 | .num n,h=>by
  simp only [E.ok,au,decide_eq_true_eq] at h;rw [E.tree,eA,E.full];unfold yW mx;simp only [if_true];rw [ad ak]
 | .name s,h=>by
  rw [E.tree,eA,E.full];simp [yW]
 | .at_ s a,h=>by
  exact zc0
 | .call s l,h=>by
  simp only [E.ok,au] at h;rw [E.tree,eA,Hy l h.2,E.full];simp [yW]
 | .un s a,h=>by
  exact zc0
 | .bin s a b,h=>by
  simp only [E.ok,au] at h;have I:=jo a h.1.2;have h3:=jo b h.2;rw [E.tree,eA,jz,jz,jz,I,h3,E.full];simp [yW]
theorem Hy:∀ l:List E,E.bW l=true->jz (E.trees l)=E.ni l
 | [],_=>rfl
 | a::l,h=>by
  simp only [E.bW,au] at h;rw [E.trees,jz,E.ni,jo a h.1,Hy l h.2]
end
mutual
theorem RH (inl:List ae->Nat->ae):∀ (t:T) (d:Nat),eb eA inl d (er t)=eb eA inl d t
 | .mk n l,d=>by
  have h:=K9 (.mk n l);rw [er] at h |-;rw [eb,eb,h,Eg inl l d,lN]
  have:(aK l).map eA=l.map eA:=by rw [<-yh,<-yh,BV]
  rw [this];rfl
theorem Eg (inl:List ae->Nat->ae):∀ (l:List T) (d:Nat),fY eA inl d (aK l)=fY eA inl d l
 | [],d=>by rw [aK]
 | t::r,d=>by rw [aK,fY,fY,Hl inl t d,Eg inl r d]
theorem Hl (inl:List ae->Nat->ae):∀ (t:T) (d:Nat),iT eA inl d (er t)=iT eA inl d t
 | .mk n l,d=>by rw [er,iT,iT,FZ inl l (d+1)]
theorem FZ (inl:List ae->Nat->ae):∀ (l:List T) (d:Nat),ox eA inl d (aK l)=ox eA inl d l
 | [],d=>by rw [aK]
 | t::r,d=>by rw [aK,ox,ox,RH inl t d,FZ inl r d]
end
mutual
theorem Pe:∀ (s:S),s.ok=true->∀ d,eb eA dk d s.tree=s.txt E.full
 | .set s a,h,d=>by
  exact zc9
 | .var s a,h,d=>by
  exact zc9
 | .ret a,h,d=>by
  exact zdm
 | .do_ a,h,d=>by
  exact zdm
 | .put s a b,h,d=>by
  simp only [S.ok,au] at h;rw [S.tree,eb,List.map_cons,List.map_cons,jo a h.2.1,jo b h.2.2,S.txt];simp [kX]
 | .if1 c b,h,d=>by
  exact zbZ
 | .if2 c b b2,h,d=>by
  simp only [S.ok,au] at h;have hb:=sR b h.2.1 d;have dS:=sR b2 h.2.2 d;rw [S.tree,eb,List.map_cons,jo c h.1,fY,fY,fY,fY,hb,dS,S.txt];simp [kX,dD]
 | .while_ c b,h,d=>by
  exact zbZ
theorem sR:∀ (l:List S),S.bW l=true->∀ d,iT eA dk d (.mk ⟨14,0,0,[],[]⟩ (S.trees l))=dD E.full l
 | l,h,d=>by
  rw [iT,F0 l h (d+1),dk,xa];rfl
theorem F0:∀ (l:List S),S.bW l=true->∀ d,ox eA dk d (S.trees l)=l.map (S.txt E.full)
 | [],_,d=>by rw [S.trees,ox];rfl
 | a::l,h,d=>by
  simp only [S.bW,au] at h;rw [S.trees,ox,List.map_cons,Pe a h.1,F0 l h.2]
end
def ln (x:Fn × List S):ae:=((((([102,117,110,99,32]++x.1.name)++[40])++bp x.1.params)++[41,32])++dD E.full x.2)++[10]
def K7 (p:Src) (ls:List (List S)):ae:=bH ln (bH a1 (bH g1 [] p.globals) p.arrays) (p.fns.zip ls)
theorem A1 {p:Src} {l:List T} {ls:List (List S)} (hf:Forms l ls):jJ eA dk p l=K7 p ls:=by
 unfold jJ
 refine Ek (g:=dD E.full) _ _ _ _ hf.len fun i t b D I=>?_
 obtain ⟨h3,h4⟩:=hf.at_ i t b D I;rw [<-Hl,h4];exact sR b h3 0
open Classical in
noncomputable def vr (p:Src):ae:=if h:∃ l ls,fI p=true/\b8 p l/\Forms l ls then K7 p h.choose_spec.choose else []
theorem vt {p:Src} {l:List T} {ls:List (List S)} (hf:fI p=true) (h:b8 p l) (hm:Forms l ls):vr p=K7 p ls:=by
 have hex:∃ l ls,fI p=true/\b8 p l/\Forms l ls:=⟨l,ls,hf,h,hm⟩;unfold vr;rw [dif_pos hex];obtain ⟨D,I,h3⟩:=hex.choose_spec.choose_spec;have e:=I.uniq h;rw [<-A1 h3,e,A1 hm]
theorem Ph {l:List T} {k:Nat} {t:T} (h:l[k]?=some t):aB (l.take k)+aQ t<=aB l:=by
 have D:l.take (k+1)=l.take k++[t]:=by rw [eK,h];rfl
 have I:aB l=aB (l.take (k+1))+aB (l.drop (k+1)):=by rw [<-oe,List.take_append_drop]
 rw [D,oe,aB,aB] at I;omega
def wU (p:RS):Prop:=0<=p.e/\∀ t∈p.l,0<=t.at_
theorem wU.to {p q:RS} (h:wU p) (k:p.to q):wU q:=⟨by rw [k.2.1];exact h.1,by rw [k.1];exact h.2⟩
theorem wU.tok {p:RS} (h:wU p) (k:Nat):0<=(tok p k).at_:=by
 unfold Im.tok
 cases hq:p.l[p.i+k]? with
 | none=>exact h.1
 | some t=>exact h.2 t (bM hq)
theorem iI {k a:Int} {s:ae} {l:List T} (ha:0<=a) (h:cz l):jn (one k a s l):=by
 rw [one,jn];exact ⟨ha,h⟩
theorem n5 {t:T} (h:jn t):cz [t]:=by rw [cz,cz];exact ⟨h,trivial⟩
theorem ru {t:T} {l:List T} (h:jn t) (k:cz l):cz (t::l):=by rw [cz];exact ⟨h,k⟩
theorem vP:∀ {a b:List T},cz a->cz b->cz (a++b)
 | [],b,_,h=>h
 | t::a,b,h,k=>by rw [cz] at h;rw [cons_append,cz];exact ⟨h.1,vP h.2 k⟩
theorem zw:jn T.zero:=by rw [T.zero,jn,cz];exact ⟨Int.le_refl _,trivial⟩
theorem Nu {t:T} (h:jn t):cz t.kids:=by cases t;rw [jn] at h;exact h.2
theorem Qe:∀ (f:Nat),(∀ j p t q,p.ok->wU p->(∀ k d out,j=.loop k d out->jn out)->iE f j p=some (t,q)->jn t)/\(∀ d acc p l q,p.ok->wU p->cz acc->iA f d acc p=some (l,q)->cz l)
 | 0=>⟨fun j p t q _ _ _ h=>by simp [iE] at h,fun d acc p l q _ _ _ h=>by simp [iA] at h⟩
 | f+1=>by
  obtain ⟨D,I⟩:=Qe f;obtain ⟨t1,t2⟩:=iC f
  have nl:∀ {j:sM},(∀ k d out,j≠.loop k d out)->∀ k d out,j=.loop k d out->jn out:=fun h k d out e=>absurd e (h k d out)
  refine ⟨fun j p t q hp ha ho h=>?_,fun d acc p l q hp ha ho h=>?_⟩
  ·have h0:=ha.tok 0
   cases j with
   | expr d =>
    rw [iE] at h;have hd:=rK hp d;split at h
    ·exact D _ _ _ _ (hd.ok hp) (ha.to hd) (fun _ _ _ e=>by cases e) h
    ·cases h;exact zw
   | level k d =>
    rw [iE] at h;split at h
    ·exact D _ _ _ _ hp ha (fun _ _ _ e=>by cases e) h
    ·split at h
     ·cases h
     ·rename_i out p' he;have:=t1 _ _ _ _ hp he;exact D _ _ _ _ (this.ok hp) (ha.to this) (fun _ _ _ e=>by cases e;exact D _ _ _ _ hp ha (fun _ _ _ e=>by cases e) he) h
   | loop k d out =>
    rw [iE] at h;split at h
    ·rename_i hc;have hn:=cl (p:=p) (qk (k:=0) (by have:=hc.2.1;omega));split at h
     ·cases h
     ·rename_i b p' he;have:=hn.trans (t1 _ _ _ _ (hn.ok hp) he);exact D _ _ _ _ (this.ok hp) (ha.to this) (fun _ _ _ e=>by cases e;exact iI h0 (ru (ho _ _ _ rfl) (n5 (D _ _ _ _ (hn.ok hp) (ha.to hn) (fun _ _ _ e=>by cases e) he)))) h
    ·cases h;exact ho _ _ _ rfl
   | operand d =>
    rw [iE] at h;split at h
    ·split at h
     ·rename_i hc
      have hn:p.to p.next:=by rcases hc with hc | hc | hc <;> exact fp hc
      split at h
      ·cases h
      ·rename_i a p' he
       cases h;exact iI h0 (n5 (D _ _ _ _ (hn.ok hp) (ha.to hn) (fun _ _ _ e=>by cases e) he))
     ·split at h
      ·cases h;rw [jn,cz];exact ⟨h0,trivial⟩
      ·split at h
       ·rename_i hc;have hn:=fp hc;split at h
        ·cases h
        ·rename_i a p' he
         cases h;exact D _ _ _ _ (hn.ok hp) (ha.to hn) (fun _ _ _ e=>by cases e) he
       ·have hn:=eX hp;split at h
        ·split at h
         ·rename_i hc;have bL:=hn.trans (fp hc);split at h
          ·cases h
          ·rename_i a p' he
           cases h;exact iI h0 (n5 (D _ _ _ _ (bL.ok hp) (ha.to bL) (fun _ _ _ e=>by cases e) he))
         ·split at h
          ·rename_i hc;have bL:=hn.trans (fp hc);split at h
           ·cases h
           ·rename_i a p' he
            cases h;exact iI h0 (I _ _ _ _ _ (bL.ok hp) (ha.to bL) zfh he)
          ·cases h;exact iI h0 zfh
        ·cases h;exact iI h0 zfh
    ·cases h;exact zw
  ·rw [iA] at h;split at h
   ·have hn:p.to (if acc.length=0 then p else want p [44]):=by
     split
     ·exact iv hp
     ·exact bS hp _
    split at h
    ·cases h
    ·rename_i a p' he;have:=hn.trans (t1 _ _ _ _ (hn.ok hp) he);exact I _ _ _ _ _ (this.ok hp) (ha.to this) (vP ho (n5 (D _ _ _ _ (hn.ok hp) (ha.to hn) (fun _ _ _ e=>by cases e) he))) h
   ·cases h;exact ho
theorem Qh:∀ (f:Nat),(∀ j p t q,p.ok->wU p->iS f j p=some (t,q)->jn t)/\(∀ d acc p l q,p.ok->wU p->cz acc->iB f d acc p=some (l,q)->cz l)
 | 0=>⟨fun j p t q _ _ h=>by simp [iS] at h,fun d acc p l q _ _ _ h=>by simp [iB] at h⟩
 | f+1=>by
  obtain ⟨D,I⟩:=Qh f;obtain ⟨t1,t2⟩:=AR f;have WM:=(iC f).1
  have pD:∀ d p t q,p.ok->wU p->iE f (.expr d) p=some (t,q)->jn t:=fun d p t q hp ha h=>(Qe f).1 _ _ _ _ hp ha (fun _ _ _ e=>by cases e) h
  refine ⟨fun j p t q hp ha h=>?_,fun d acc p l q hp ha ho h=>?_⟩
  ·have h0:=ha.tok 0
   cases j with
   | block d =>
    rw [iS] at h;split at h
    ·have hm:=bS hp [123];split at h
     ·cases h
     ·rename_i l p' he
      cases h;exact iI h0 (I _ _ _ _ _ (hm.ok hp) (ha.to hm) zfh he)
    ·cases h;exact iI h0 zfh
   | stmt d =>
    rw [iS] at h;split at h
    ·split at h
     ·rename_i hs;have hn:=fp hs;have cL:=hn.trans (eX (hn.ok hp));have dq:=cL.trans (bS (cL.ok hp) [61]);split at h
      ·cases h
      ·rename_i e p' he
       cases h;exact iI h0 (n5 (pD _ _ _ _ (dq.ok hp) (ha.to dq) he))
     ·split at h
      ·rename_i hs
       have hn:p.to p.next:=by rcases hs with hs | hs <;> exact fp hs
       have dq:=hn.trans (bS (hn.ok hp) [40]);split at h
       ·cases h
       ·rename_i e p' he;have:=dq.trans (WM _ _ _ _ (dq.ok hp) he);have nk:=this.trans (bS (this.ok hp) [41]);have a1:=pD _ _ _ _ (dq.ok hp) (ha.to dq) he;split at h
        ·cases h
        ·rename_i b p2 hb;have dS:=nk.trans (t1 _ _ _ _ (nk.ok hp) hb);have a2:=D _ _ _ _ (nk.ok hp) (ha.to nk) hb;split at h
         ·rename_i hc;have bL:=dS.trans (fp hc.2.2);split at h
          ·cases h
          ·rename_i b2 p3 rB
           cases h;exact iI h0 (ru a1 (ru a2 (n5 (D _ _ _ _ (bL.ok hp) (ha.to bL) rB))))
         ·cases h;exact iI h0 (ru a1 (n5 a2))
      ·split at h
       ·rename_i hs;have hn:=fp hs;split at h
        ·cases h
        ·rename_i e p' he
         cases h;exact iI h0 (n5 (pD _ _ _ _ (hn.ok hp) (ha.to hn) he))
       ·split at h
        ·have cL:=eX hp;have dq:=cL.trans (bS (cL.ok hp) [61]);split at h
         ·cases h
         ·rename_i e p' he
          cases h;exact iI h0 (n5 (pD _ _ _ _ (dq.ok hp) (ha.to dq) he))
        ·split at h
         ·cases h
         ·rename_i e p' he;have hx:=WM _ _ _ _ hp he;have a1:=pD _ _ _ _ hp ha he;split at h
          ·have hn:=hx.trans (bS (hx.ok hp) [61]);split at h
           ·rename_i a r v p2 hk kO;have a2:=Nu a1;rw [hk,cz] at a2
            cases h;exact iI h0 (ru a2.1 (n5 (pD _ _ _ _ (hn.ok hp) (ha.to hn) kO)))
           ·cases h
          ·cases h;exact iI h0 (n5 a1)
    ·cases h;exact zw
  ·rw [iB] at h;split at h
   ·split at h
    ·cases h
    ·rename_i a p' he;have:=t1 _ _ _ _ hp he;exact I _ _ _ _ _ (this.ok hp) (ha.to this) (vP ho (n5 (D _ _ _ _ hp ha he))) h
   ·cases h;exact ho
theorem U9 {f:Nat} {p q:RS} {st c9:PS} (hp:p.ok) (ha:wU p) (hs:cz st.trees) (h:iW f p st=some (q,c9)):cz c9.trees:=by
 unfold iW at h;split at h
 ·split at h
  ·split at h
   ·cases h;exact hs
   ·cases h;exact hs
  ·cases h;exact hs
 ·split at h
  ·rename_i hi hf;have hn:=fp hf;have cL:=hn.trans (eX (hn.ok hp));have dq:=cL.trans (bS (cL.ok hp) [40]);split at h
   ·cases h
   ·rename_i l q1 hm;have hq:=dq.trans (E5 _ _ _ _ _ (dq.ok hp) hm);split at h
    ·split at h
     ·cases h
     ·rename_i t q2 hb
      cases h;exact vP hs (n5 ((Qh f).1 _ _ _ _ (hq.ok hp) (ha.to hq) hb))
    ·cases h;exact hs
  ·cases h;exact hs
theorem LR {f:Nat}:∀ (g:Nat) (p q:RS) (st c9:PS),p.ok->wU p->cz st.trees->kD g f p st=some (q,c9)->cz c9.trees
 | 0,p,q,st,c9,_,_,_,h=>by simp [kD] at h
 | g+1,p,q,st,c9,hp,ha,hs,h=>by
  rw [kD] at h;split at h
  ·split at h
   ·cases h
   ·rename_i p1 ZZ hw;have ht:=Qi hp hw;exact LR g p1 q ZZ c9 (ht.ok hp) (ha.to ht) (U9 hp ha hs hw) h
  ·cases h;exact hs
end Go.Im
namespace Go.Sp
open Go.Xp
theorem Pm (s:ae) (a:Nat) (c:UInt8):0<=(eR s a c).1.at_:=by
 unfold eR;split
 ·exact Int.natCast_nonneg a
 ·split
  ·exact Int.natCast_nonneg a
  ·split
   ·exact Int.natCast_nonneg a
   ·exact Int.le_refl _
theorem Tz.at_ {s:ae} {a b:Nat} {ts:List Tok} (h:Tz s a ts b):∀ t∈ts,0<=t.at_:=by
 induction h with
 | nil a=>intro t ht;cases ht
 | blank hc hb h ih=>exact ih
 | @tok a a' b c t ts hc hb hr ht hk hn ha h ih =>
  intro u hu
  rcases ew hu with rfl | hu
  ·have e:=Pm s a c;rw [ht] at e;exact e
  ·exact ih u hu
end Go.Sp
namespace Go.Im
open Go.Xp Go.Sp
theorem JR (G:List ae) (As:List Ar) (xs:List (Fn × List S)) (D:cy G=true) (I:As.all nA=true) (h3:∀ x∈xs,Gk x) {x:ae} (hx:cV x ((G.flatMap Aw++As.flatMap yP)++xs.flatMap r8)) :
  ∃ ts,Tz x 0 ts x.length /\
  (pP ts->∀ (e:Int) (g f:Nat),ts.length+1<=g->40 * ts.length+100<=f ->
   ((xs.all fun x=>dc x.2 1)=true->∃ q l,kD g f ⟨ts,0,e,0,0⟩ .empty=some (q,⟨l,G,As,xs.map fun x=>(x.1.name,x.1.params)⟩)/\q.code=0/\aK l=xs.map fun x=>aZ x.2) /\
   ((xs.all fun x=>dc x.2 1)=false->∃ q c9,kD g f ⟨ts,0,e,0,0⟩ .empty=some (q,c9)/\q.code≠0)):=by
 obtain ⟨ts,k1,k2⟩:=hx.all;refine ⟨ts,k2,fun hs e g f hg hf=>?_⟩;obtain ⟨A,C,rfl,k3,k4⟩:=c8 k1;obtain ⟨A,B,rfl,k5,k6⟩:=c8 k3;have qw:On ⟨(A++B)++C,0,e,0,0⟩ (A++(B++C)):=⟨rfl,aY _,by simp,k2.kinds⟩;obtain ⟨q1,j1,j2⟩:=Jt (f:=f) G _ .empty A qw k5 D;obtain ⟨q2,j3,j4⟩:=Jr (f:=f) As q1 _ B j1.1 k6 I;have jZ:q2.l=(A++B)++C:=(j1.tr j3).2.1;obtain ⟨j5,j6⟩:=Js (f:=f) xs q2 { ({ PS.empty with globals:=PS.empty.globals++G }:PS) with arrays:=PS.empty.arrays++As } C j3.1 ze3 (by unfold fW;rw [jZ];exact hf) k4 h3
 have c1:G.length<=A.length:=by
  have:=congrArg List.length k5;rw [cU] at this;rw [this];clear this k5 j1 j2 j3 j4 j5 j6 jZ qw hs k1 k2 k3 hx hf hg D
  induction G with
  | nil=>exact aD _
  | cons s G ih=>refine zdx ?_;simp only [Aw,length_cons,List.length_nil];omega
 have c2:As.length<=B.length:=by
  have:=congrArg List.length k6;rw [cU] at this;rw [this];clear this k6 j1 j2 j3 j4 j5 j6 jZ qw hs k1 k2 k3 hx hf hg I
  induction As with
  | nil=>exact aD _
  | cons s G ih=>refine zdx ?_;simp only [yP,length_cons,List.length_nil];omega
 have c3:xs.length<=C.length:=by
  have:=congrArg List.length k4;rw [cU] at this;rw [this];clear this k4 j1 j2 j3 j4 j5 j6 jZ qw hs k1 k2 k3 hx hf hg h3
  induction xs with
  | nil=>exact aD _
  | cons s G ih=>refine zdx ?_;simp only [r8,length_cons];omega
 rw [aJ,aJ] at hg;have oA:∃ g',xs.length < g'/\g=g'+As.length+G.length:=⟨g - As.length - G.length,by omega,by omega⟩;obtain ⟨g',jX,rfl⟩:=oA;rw [j2,j4];refine ⟨fun h=>?_,fun h=>?_⟩
 ·exact zeb
 ·exact zeo
def Bl (p:Src) (ls:List (List S)):List K:=(p.globals.flatMap Aw++p.arrays.flatMap yP)++(p.fns.zip ls).flatMap r8
def xS (p:Src) (l:List T):PS:=⟨l,p.globals,p.arrays,p.fns.map fun x=>(x.name,x.params)⟩
theorem MM {p:Src} {l:List T} {ls:List (List S)} (h:b8 p l) (hf:Forms l ls) {x:ae} (hb:x.length<=1099511627776) (hx:cV x (Bl p ls)) {ts:List Tok} {c z:Int} {q:RS} {st:PS} (hr:Reads x ts c z q st) :
  c=0/\((ls.all fun b=>dc b 1)=true->q.code=0/\∃ l',st=xS p l'/\aK l'=aK l/\cz l'):=by
 have hlen:=dH.len h.fns;have ow:=hf.len
 have th:∀ x∈p.fns.zip ls,Gk x:=by
  intro x hx;obtain ⟨f,b⟩:=x;obtain ⟨i,hi⟩:=List.getElem?_of_mem hx;rw [List.getElem?_zip_eq_some] at hi;have nF:=(bh hi.2).1
  have ht:l[i]?=some (l[i]'ak):=by simp [<-ow,nF]
  exact zbg
 obtain ⟨us,D,I⟩:=JR p.globals p.arrays (p.fns.zip ls) h.globals h.arrays th hx;have h3:=B7 D rfl (x.length+1) [] ak;rw [List.nil_append,hr.lex] at h3;simp only [Option.some.injEq,Prod.mk.injEq] at h3;obtain ⟨rfl,rfl,rfl⟩:=h3
 have EZ:pP ts:=by
  obtain ⟨iz,c',z',k1,k2,k3,k4⟩:=nL x (x.length+1) 0 [] (aY _) ak (fun t h=>by simp at h) .nil (fun t h=>by simp at h) (aD _);rw [hr.lex] at k1;cases k1;exact k3
 obtain ⟨h4,h5⟩:=I EZ (x.length:Int) (ts.length+1) (40 * ts.length+100) (aD _) (aD _)
 have cp:((p.fns.zip ls).all fun x=>dc x.2 1)=ls.all fun b=>dc b 1:=by
  have:ls=(p.fns.zip ls).map Prod.snd:=(vM _ _ ak).symm
  conv=>rhs;rw [this]
  rw [List.all_map];rfl
 rw [cp] at h4 h5;refine ⟨rfl,fun jI=>?_⟩;obtain ⟨q',l',k1,k2,k3⟩:=h4 jI;have pY:cz l':=LR _ _ _ _ ⟨l',p.globals,p.arrays,_⟩ ⟨aY _,by have:=hr.len;show ts.length<=_;omega⟩ ⟨Int.natCast_nonneg _,D.at_⟩ (by simp [PS.empty,cz]) k1;rw [hr.read] at k1;simp only [Option.some.injEq,Prod.mk.injEq] at k1;obtain ⟨rfl,rfl⟩:=k1
 have e1:((p.fns.zip ls).map fun x=>aZ x.2)=ls.map aZ:=by
  have:ls=(p.fns.zip ls).map Prod.snd:=(vM _ _ ak).symm
  conv=>rhs;rw [this]
  rw [map_map];rfl
 have e2:((p.fns.zip ls).map fun x=>(x.1.name,x.1.params))=p.fns.map fun x=>(x.name,x.params):=by
  have:p.fns=(p.fns.zip ls).map Prod.fst:=(zip_fst _ _ ak).symm
  conv=>rhs;rw [this]
  rw [map_map];rfl
 exact ⟨k2,l',by rw [e2];rfl,by rw [k3,e1,C5 hf],pY⟩
theorem b8.xs {p:Src} {l:List T} {ls:List (List S)} (h:b8 p l) (hf:Forms l ls):∀ x∈p.fns.zip ls,Gk x:=by
 have hlen:=dH.len h.fns;have ow:=hf.len;intro x hx;obtain ⟨f,b⟩:=x;obtain ⟨i,hi⟩:=List.getElem?_of_mem hx;rw [List.getElem?_zip_eq_some] at hi;have nF:=(bh hi.2).1
 have ht:l[i]?=some (l[i]'ak):=by simp [<-ow,nF]
 exact zbg
mutual
def nJ:Nat->T->T
 | a,.mk n l=>.mk ⟨n.kind,n.at_,n.n,n.s,bj (a+1) l⟩ (ef (a+1) l)
def ef:Nat->List T->List T
 | _,[]=>[]
 | a,t::r=>nJ a t::ef (a+aQ t) r
end
mutual
theorem yD:∀ (t:T) (a:Nat),aQ (nJ a t)=aQ t
 | .mk n l,a=>by rw [nJ,aQ,aQ,yC l]
theorem yC:∀ (l:List T) (a:Nat),aB (ef a l)=aB l
 | [],a=>by rw [ef]
 | t::r,a=>by rw [ef,aB,aB,yD t,yC r]
end
theorem AY:∀ (l:List T) (a b:Nat),bj b (ef a l)=bj b l
 | [],a,b=>by rw [ef]
 | t::r,a,b=>by rw [ef,bj,bj,yD,AY r]
mutual
theorem xd:∀ (t:T) (a:Nat),er (nJ a t)=er t
 | .mk n l,a=>by rw [nJ,jG,jG,uS l]
theorem uS:∀ (l:List T) (a:Nat),aK (ef a l)=aK l
 | [],a=>by rw [ef]
 | t::r,a=>by rw [ef,aK,aK,xd t,uS r]
end
mutual
theorem Ef:∀ (t:T) (a:Nat),jn t->jn (nJ a t)
 | .mk n l,a,h=>by rw [jn] at h;rw [nJ,jn];exact ⟨h.1,BL l _ h.2⟩
theorem BL:∀ (l:List T) (a:Nat),cz l->cz (ef a l)
 | [],a,_=>by rw [ef,cz];trivial
 | t::r,a,h=>by rw [cz] at h;rw [ef,cz];exact ⟨Ef t _ h.1,BL r _ h.2⟩
end
mutual
theorem Ut {nodes:List Nd}:∀ (t:T) (a:Nat),(∀ i,i < aQ t->nodes[a+i]?=(fQ a t)[i]?)->eL nodes a (nJ a t)
 | .mk n l,a,h=>by
  rw [nJ,eL,AY];refine ⟨?_,rfl,vH l (a+1) fun i hi=>?_⟩
  ·have:=h 0 (by rw [aQ];omega);rw [fQ] at this;exact zcb
  ·have:=h (i+1) (by rw [aQ];omega);rw [fQ,List.getElem?_cons_succ] at this;rw [<-this];congr 1;omega
theorem vH {nodes:List Nd}:∀ (l:List T) (a:Nat),(∀ i,i < aB l->nodes[a+i]?=(cD a l)[i]?)->da nodes a (ef a l)
 | [],a,_=>by rw [ef,da];trivial
 | t::r,a,h=>by
  rw [ef,da,yD];refine ⟨Ut t a fun i hi=>?_,vH r _ fun i hi=>?_⟩
  ·have:=h i (by rw [aB];omega);rw [cD,il (by rw [uV];exact hi)] at this;exact this
  ·have:=h (aQ t+i) (by rw [aB];omega);rw [cD,jO (by rw [uV];omega),uV,show aQ t+i - aQ t=i by omega] at this;rw [<-this];congr 1;omega
end
theorem HX:∀ (l:List T) (a i:Nat),(ef a l)[i]?=l[i]?.map (nJ (a+aB (l.take i)))
 | [],a,i=>by rw [ef];simp
 | t::r,a,0=>by rw [ef];simp [aB]
 | t::r,a,i+1=>by
  rw [ef,List.getElem?_cons_succ,List.getElem?_cons_succ,HX r,take_succ_cons,aB]
  congr 2;omega
theorem dH.mk {Q:Fn->T->Prop}:∀ {fns:List Fn} {a:Nat} {l:List T},fns.length=l.length->(∀ (i:Nat) f t,fns[i]?=some f->l[i]?=some t->f.body=((a+aB (l.take i):Nat):Int)/\Q f t)->dH Q fns a l
 | [],_,[],_,_=>by rw [dH];trivial
 | f::r,a,t::l,hl,h=>by
  rw [dH];have h0:=h 0 f t rfl rfl;refine ⟨by have:=h0.1;rw [List.take_zero,aB] at this;exact this,h0.2,dH.mk zeQ fun i f' t' D I=>?_⟩;have:=h (i+1) f' t' ze7 zfe;refine ⟨?_,this.2⟩;rw [this.1,take_succ_cons,aB];congr 1;omega
 | [],_,t::l,h,_=>by simp at h
 | f::r,_,[],h,_=>by simp at h
def tS (p:Src) (l:List T):Src:=⟨p.globals,p.arrays,iU (xS p l),cD 0 l⟩
theorem uR:∀ (l:List T) (i:Nat),(aK l)[i]?=l[i]?.map er
 | [],i=>by rw [aK];simp
 | t::r,0=>by rw [aK];simp
 | t::r,i+1=>by rw [aK];simpa using uR r i
theorem Ao {l l':List T} {ls:List (List S)} (hf:Forms l ls) (he:aK l'=aK l):Forms (ef 0 l') ls:=by
 have hl:l'.length=l.length:=by rw [<-lN l',he,lN]
 have hk:(ef 0 l').length=l'.length:=by rw [<-lN (ef 0 l'),uS,lN]
 refine ⟨by rw [hf.len,hk,hl],fun i t b D I=>?_⟩;rw [HX] at D
 cases hq:l'[i]? with
 | none=>rw [hq] at D;cases D
 | some u =>
  rw [hq,Option.map_some] at D;cases D;have h3:=uR l' i;rw [he,uR,hq] at h3
  cases hm:l[i]? with
  | none=>rw [hm] at h3;cases h3
  | some v =>
   rw [hm] at h3;simp only [Option.map_some,Option.some.injEq] at h3;obtain ⟨a1,a2⟩:=hf.at_ i v b hm I;exact ⟨a1,by rw [xd,<-h3,a2]⟩
theorem Gz {p:Src} {l l':List T} {ls:List (List S)} (h:b8 p l) (hf:Forms l ls) (he:aK l'=aK l) (ha:cz l'):b8 (tS p l') (ef 0 l'):=by
 have hb:=Ao hf he
 have hz:aB l'=aB l:=by rw [<-og l',he,og]
 have hl:l'.length=l.length:=by rw [<-lN l',he,lN]
 have hk:(ef 0 l').length=l'.length:=by rw [<-lN (ef 0 l'),uS,lN]
 have dv:=dH.len h.fns;refine ⟨h.globals,h.arrays,vH l' 0 fun i hi=>by show (cD 0 l')[0+i]?=_;rw [eo],?_,?_,?_⟩
 ·refine dH.mk ?_ fun i f t D I=>?_
  ·show (iU (xS p l')).length=_;unfold iU xS;rw [List.length_mapIdx,cU,hk];omega
  ·change (iU (xS p l'))[i]?=some f at D
   unfold iU xS at D;simp only [List.getElem?_mapIdx,bP] at D
   cases hq:p.fns[i]? with
   | none=>rw [hq] at D;cases D
   | some g =>
    rw [hq] at D;simp only [Option.map_some,Option.some.injEq] at D;subst D;have HI:=(bh I).1
    have rD:i < l.length:=by omega
    obtain ⟨v,hv⟩:∃ v,l[i]?=some v:=⟨l[i],ec rD⟩;have PR:=(dH.at_ h.fns i g v hq hv).2;obtain ⟨b,HE⟩:∃ b,ls[i]?=some b:=⟨ls[i]'(by rw [hf.len];exact rD),ec _⟩;obtain ⟨a1,a2⟩:=hb.at_ i t b I HE
    have pY:jn t:=by
     have:∀ (l:List T) (i:Nat) t,cz l->l[i]?=some t->jn t:=by
      intro l
      induction l with
      | nil=>intro i t _ h;simp at h
      | cons u r ih =>
       intro i t h k;rw [cz] at h
       cases i with
       | zero=>cases k;exact h.1
       | succ i=>exact ih i t h.2 (by simpa using k)
     exact this _ i t (BL l' 0 ha) I
    have cp:cX t=true:=An t (by rw [a2];exact S.pk b a1) pY;refine ⟨?_,PR.name,PR.params,?_,cp⟩
    ·show ((aB (l'.take i):Nat):Int)=_;rw [eo]
     have:∀ (l:List T) (a i:Nat),aB ((ef a l).take i)=aB (l.take i):=by
      intro l
      induction l with
      | nil=>intro a i;rw [ef]
      | cons u r ih =>
       intro a i
       cases i with
       | zero=>rfl
       | succ i=>rw [ef,take_succ_cons,take_succ_cons,aB,aB,yD,ih]
     rw [this]
    ·have:=congrArg (fun x:T=>x.n.kind) a2;simp only [rV] at this;rw [this];rfl
 ·show aB (ef 0 l')=(cD 0 l').length;rw [yC,mV]
 ·show (cD 0 l').length<=800;rw [mV,hz,h.len];exact h.few
theorem xb {f:Fn × List S->ae} (hf:∀ a b c,a.name=b.name->a.params=b.params->f (a,c)=f (b,c)):∀ (A B:List Fn) (ls:List (List S)) (acc:ae),A.map (fun x=>(x.name,x.params))=B.map (fun x=>(x.name,x.params))->bH f acc (A.zip ls)=bH f acc (B.zip ls)
 | [],[],ls,acc,_=>rfl
 | a::A,b::B,[],acc,_=>by simp
 | a::A,b::B,l::ls,acc,h=>by
  rw [List.map_cons,List.map_cons] at h
  injection h with D I
  have h3:=(Prod.mk.inj D);rw [zip_cons_cons,zip_cons_cons,bH,bH,hf a b l h3.1 h3.2,xb hf A B ls _ I]
 | a::A,[],ls,acc,h=>by simp at h
 | [],b::B,ls,acc,h=>by simp at h
theorem vQ (p:Src) (l:List T):(tS p l).fns.map (fun x=>(x.name,x.params))=p.fns.map (fun x=>(x.name,x.params)):=by
 show (iU (xS p l)).map _=_;unfold iU xS
 refine List.ext_getElem? fun i=>?_
 simp only [bP,List.getElem?_mapIdx]
 cases p.fns[i]? <;> rfl
theorem F4 {α:Type} {f:α->Nat} {r:α->α->Bool} (hf:∀ x y,r x y=true->f x=f y):∀ {a b:List α},eU r a b=true->aV f a=aV f b
 | [],[],_=>rfl
 | x::a,y::b,h=>by rw [eU,au] at h;rw [aV,aV,hf x y h.1,F4 hf h.2]
 | [],y::b,h=>by cases h
 | x::a,[],h=>by cases h
theorem F5 {α β:Type} (f:β->Nat) (g:α->β):∀ l:List α,aV (fun x=>f (g x)) l=aV f (l.map g)
 | []=>rfl
 | x::l=>by rw [List.map_cons,aV,aV,F5 f g l]
theorem FO {x y:Nd} (h:jL x y=true):x.n=y.n/\x.s=y.s/\x.kids.length=y.kids.length:=by
 unfold jL at h;simp only [au,beq_iff_eq] at h;exact ⟨h.1.1.2,h.1.2,uQ h.2⟩
theorem R8 {p:Src} {l l':List T} (h:b8 p l) (he:aK l'=aK l):cv (tS p l')=cv p:=by
 have hn:p.nodes=cD 0 l:=h.st.all h.len;have D:aV (fun n:Nd=>n.s.length+n.kids.length+1) (cD 0 l')=aV (fun n:Nd=>n.s.length+n.kids.length+1) (cD 0 l):=F4 (fun x y k=>by obtain ⟨_,a,b⟩:=FO k;rw [a,b]) (uU l' l 0 he)
 have I:aV (fun f:Fn=>f.name.length+wS f.params+1) (tS p l').fns=aV (fun f:Fn=>f.name.length+wS f.params+1) p.fns:=by
  have:=F5 (fun x:ae × List ae=>x.1.length+wS x.2+1) (fun f:Fn=>(f.name,f.params));rw [this,this,vQ]
 unfold cv;rw [I];show _+aV _ (cD 0 l')=_;rw [D,<-hn];rfl
theorem Ky {p:Src} {l l':List T} (h:b8 p l) (he:aK l'=aK l) (hp:gY p):gY (tS p l'):=by
 have hn:p.nodes=cD 0 l:=h.st.all h.len;refine ⟨hp.arrays,fun n hx=>?_⟩;obtain ⟨y,hy,hs⟩:=BS (uU l' l 0 he) hx;have:=hp.nodes y (by rw [hn];exact hy);rw [(FO hs).1];exact this
def qd (x:ae):Src × Int × Int :=
 if x.length > 6000 then (⟨[],[],[],[]⟩,1,0)
 else match oB x (x.length+1) 0 [] with
  | none=>(⟨[],[],[],[]⟩,0,0)
  | some (ts,c,z)=>if c≠0 then (⟨[],[],[],[]⟩,c,z) else match kD (ts.length+1) (40 * ts.length+100) ⟨ts,0,(x.length:Int),0,0⟩ .empty with
   | none=>(⟨[],[],[],[]⟩,0,0)
   | some (q,st)=>if q.code≠0 then (⟨[],[],[],[]⟩,q.code,q.at_) else if aB st.trees > 800 then (⟨[],[],[],[]⟩,10,0) else (⟨st.globals,st.arrays,iU st,cD 0 st.trees⟩,0,0)
theorem xK {x:ae} (h:x.length > 6000):qd x=(⟨[],[],[],[]⟩,1,0):=by unfold qd;rw [ah h]
theorem Cj {x:ae} {ts:List Tok} {c z:Int} {q:RS} {st:PS} (hl:¬ x.length > 6000) (h:Reads x ts c z q st) :
  qd x=if c≠0 then (⟨[],[],[],[]⟩,c,z) else if q.code≠0 then (⟨[],[],[],[]⟩,q.code,q.at_) else if aB st.trees > 800 then (⟨[],[],[],[]⟩,10,0) else (⟨st.globals,st.arrays,iU st,cD 0 st.trees⟩,0,0):=by
 unfold qd;rw [ad hl,h.lex];simp only;rw [h.read]
theorem back {p:Src} {l:List T} {ls:List (List S)} (h:b8 p l) (hf:Forms l ls) (jI:(ls.all fun b=>dc b 1)=true) {x:ae} (hx:cV x (Bl p ls)) (hl:x.length<=6000) :
  ∃ l',qd x=(tS p l',0,0)/\aK l'=aK l/\cz l':=by
 obtain ⟨ts,c,z,q,st,hr⟩:=reads x;obtain ⟨rfl,I⟩:=MM h hf ak hx hr;obtain ⟨h3,l',rfl,h4,h5⟩:=I jI;refine ⟨l',?_,h4,h5⟩
 have hz:aB l'=aB l:=by rw [<-og l',h4,og]
 have h8:=h.few;rw [Cj ak hr,ad zeL,ad (by simpa using h3),ad (by show ¬ aB l' > 800;rw [hz,h.len];omega)];rfl
theorem zD {p:Src} (h:fI p=true):∃ l ls,b8 p l/\Forms l ls/\(ls.all fun b=>dc b 1)=true:=by
 obtain ⟨l,hl⟩:=kL h;obtain ⟨ls,hf⟩:=hl.v8;exact ⟨l,ls,hl,hf,by rw [<-Ew hl hf];exact h⟩
structure RX (p q:Src):Prop where
 ok:fI q=true
 pr:oS q=oS p
 fu:vr q=vr p
 w:cv q=cv p
 num:gY p->gY q
theorem Hj {p:Src} {l l':List T} {ls:List (List S)} (h:fI p=true) (hs:b8 p l) (hf:Forms l ls) (he:aK l'=aK l) (ha:cz l'):RX p (tS p l'):=by
 have hq:=Gz hs hf he ha;have Tb:=Ao hf he
 have hk:fI (tS p l')=true:=by rw [Ew hq Tb,<-Ew hs hf];exact h
 refine ⟨hk,?_,?_,R8 hs he,Ky hs he⟩
 ·rw [qS hk hq Tb,qS h hs hf];unfold vw;exact xb (fun a b c D I=>by unfold qs;simp only [D,I]) _ _ _ _ (vQ p l')
 ·rw [vt hk hq Tb,vt h hs hf];unfold K7;exact xb (fun a b c D I=>by unfold ln;simp only [D,I]) _ _ _ _ (vQ p l')
abbrev cn (x:ae):Nat:=x.count 40
theorem jy (a b:ae):cn (a++b)=cn a+cn b:=List.count_append
theorem Em (lv k:Nat) (x:ae) (hk:k<=9):cn (mj lv k x)<=cn x+(if lv < 9 then 1 else 0):=by
 unfold mj;split
 ·rename_i h;rw [ah ak];simp [cn,List.count_cons]
 ·omega
theorem QT:∀ (l:List ae),cn (bp l)=aV cn l
 | []=>by simp [bp,cn,aV]
 | s::r=>by
  rw [bp,jy,aV]
  congr 1
  induction r with
  | nil=>simp [cn,aV]
  | cons y r ih=>rw [flatMap_cons,jy,aV,ih];simp [cn]
mutual
theorem E.cn:∀ a:E,a.ok=true->Im.cn a.txt+(if a.lv < 9 then 1 else 0)<=Im.cn a.full
 | .num n,_=>by rw [E.txt,E.full];simp [E.lv]
 | .name s,_=>by rw [E.txt,E.full];simp [E.lv]
 | .at_ s a,h=>by
  simp only [E.ok,au] at h;have:=E.cn a h.2;rw [E.txt,E.full];simp only [jy,E.lv];simp;omega
 | .call s l,h=>by
  simp only [E.ok,au] at h;have:=E.VZ l h.2;rw [E.txt,E.full];simp only [jy,E.lv,QT];simp;omega
 | .un s a,h=>by
  simp only [E.ok,au] at h;have:=E.cn a h.2;have I:=Em a.lv 9 a.txt ak
  have e1:Im.cn (E.un s a).txt=Im.cn s+Im.cn (mj a.lv 9 a.txt):=by rw [E.txt];simp [Im.cn]
  have e2:Im.cn (E.un s a).full=Im.cn s+Im.cn a.full+1:=by rw [E.full];simp [Im.cn]
  have e3:(E.un s a).lv=9:=rfl;rw [e1,e2,e3,ad ak];omega
 | .bin s a b,h=>by
  simp only [E.ok,au] at h;have ha:=E.cn a h.1.2;have hb:=E.cn b h.2;have hl:=(nM h.1.1).1;have I:=Em a.lv (dz s) a.txt ak;have h3:=Em b.lv (dz s+1) b.txt ak
  have e1:Im.cn (E.bin s a b).txt=Im.cn (mj a.lv (dz s) a.txt)+Im.cn s+Im.cn (mj b.lv (dz s+1) b.txt):=by rw [E.txt];simp [Im.cn,iD]
  have e2:Im.cn (E.bin s a b).full=Im.cn a.full+Im.cn s+Im.cn b.full+1:=by rw [E.full];simp [Im.cn];omega
  have e3:(E.bin s a b).lv=dz s:=rfl;rw [e1,e2,e3,ah hl];omega
theorem E.VZ:∀ l:List E,E.bW l=true->aV Im.cn (E.cC l)<=aV Im.cn (E.ni l)
 | [],_=>by rw [E.cC,E.ni];exact aD _
 | a::l,h=>by
  simp only [E.bW,au] at h;have D:=E.cn a h.1;have I:=E.VZ l h.2;rw [E.cC,E.ni,aV,aV];omega
end
theorem vW (a:E) (h:a.ok=true):cn a.txt<=cn a.full:=by have:=E.cn a h;omega
theorem rv (d:Nat):cn (cr d)=0:=by unfold cr;simp [cn,List.count_replicate]
mutual
theorem S.Yi:∀ (s:S) (d:Nat),s.ok=true->Im.cn (en d s)<=Im.cn (s.txt E.full)
 | .set s a,d,h=>by
  simp only [S.ok,au] at h;have:=vW a h.2;exact zbC
 | .put s a b,d,h=>by
  simp only [S.ok,au] at h;have:=vW a h.2.1;have:=vW b h.2.2;exact zbC
 | .ret a,d,h=>by
  simp only [S.ok] at h;have:=vW a h;exact zbC
 | .do_ a,d,h=>by
  simp only [S.ok] at h;have:=vW a h;exact zbC
 | .var s a,d,h=>by
  simp only [S.ok,au] at h;have:=vW a h.2;exact zbC
 | .if1 c b,d,h=>by
  exact zbV
 | .if2 c b b2,d,h=>by
  simp only [S.ok,au] at h;have:=vW c h.1;have:=S.BQ b d h.2.1 [123,10] [123,32] ai;have:=S.BQ b2 d h.2.2 [123,10] [123,32] ai;rw [en,S.txt];simp only [jy,rv];omega
 | .while_ c b,d,h=>by
  exact zbV
theorem S.BQ:∀ (l:List S) (d:Nat),S.bW l=true->∀ x y:ae,Im.cn x<=Im.cn y->Im.cn (eu d x l)<=Im.cn (S.cC E.full y l)
 | [],d,_,x,y,h=>by rw [eu,S.cC];exact h
 | a::l,d,ho,x,y,h=>by
  simp only [S.bW,au] at ho;have D:=S.Yi a (d+1) ho.1;rw [eu,S.cC];refine S.BQ l d ho.2 _ _ ?_;simp only [jy,rv]
  have e1:Im.cn [10]=0:=by decide
  have e2:Im.cn [32]=0:=by decide
  omega
end
end Go.Im
