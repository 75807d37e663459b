/- Part 3 of proofs that are told in their last texts. -/
import Derived.Test.YtfmnfhpifpjljaaGreatDoorZ2
open List (cons_append)
set_option linter.unusedVariables false
set_option linter.unusedSimpArgs false
set_option linter.defProp false
set_option maxRecDepth 100000
namespace Go.Mn
def Dq(k:Nat)(s t:M):Prop:=t.out.length+s.ay<=s.out.length+t.ay+k
theorem Dq.mono{a b:Nat}{s t:M}(h:Dq a s t)(R:a<=b):Dq b s t:=by grind[Dq]
def Dq.of{s t:M}(z:t.out=s.out)(v:t.ay=s.ay):Dq 0 s t:=by grind[Dq]
section
variable{O:Op}{F:Nat}{B:Nat->R}
theorem fo{C β:Type}{a b c:Nat}{x:Option (C × M)}{k:C->M->Option (β × M)}{s:M}{y:β}{u:M}(o:a+b<=c)(hx:∀v t,x=some (v,t)->Dq a s t)(G:∀v t y u,k v t=some (y,u)->Dq b t u)(h:jc x k=some (y,u)):Dq c s u:=by
 have⟨v,t,z,w⟩:=br h
 grind[Dq]
theorem eG{C:Type}{c:Prop}[Decidable c]{k:Nat}{a b:Option (C × M)}{s:M}{y:C}{u:M}(ha:a=some (y,u)->Dq k s u)(r:b=some (y,u)->Dq k s u)(h:(if c then a else b)=some (y,u)):Dq k s u:=by
 grind
theorem Ho{C:Type}{k:Nat}{v y:C}{s t u:M}(z:t.out=s.out)(w:t.ay=s.ay)(h:some (v,t)=some (y,u)):Dq k s u:=by grind[Dq]
theorem QP:∀g:Nat,(∀r s v t,ev O F B g r s=some (v,t)->Dq 0 s t)/\(∀r s v t,bB O F B g r s=some (v,t)->Dq 1 s t)/\(∀l q s v t,kb O F B g l q s=some (v,t)->Dq 0 s t)/\(∀l s v t,jz O F B g l s=some (v,t)->Dq 0 s t)/\(∀c b s v t,lW O F B g c b s=some (v,t)->Dq 0 s t)
 |0=>⟨fun r s v t h=>zfT,fun r s v t h=>zfU,fun l q s v t h=>zfV,fun l s v t h=>(by grind[jz]),fun c b s v t h=>(by grind[lW])⟩
 |g+1=>by
  have⟨z,E,I,d,G⟩:=QP g
  have abp:∀{W:Type}{v y:W}{t u:M},some (v,t)=some (y,u)->Dq 0 t u:=fun h=>Ho rfl rfl h
  have S:∀{W:Type}{v y:W}{t u:M}(c w:Int),some (v,t.stop c w)=some (y,u)->Dq 0 t u:=fun{_ _ _ t _}c w h=>Ho (t:=t.stop c w) rfl rfl h
  refine⟨fun r s v t h=>?_,fun r s v t h=>?_,fun l q s v t h=>?_,fun l s v t h=>?_,fun c b s v t h=>?_⟩
  ·grind[ev,Dq]
  ·cases r with
   |num n=>grind[bB,Dq]
   |loc k=>grind[bB,Dq]
   |glob k=>grind[bB,Dq]
   |size n=>grind[bB,Dq]
   |get =>
    simp only[bB]at h
    grind[Dq]
   |at_ k i=>simp only[bB]at h;exact fo (a:=0) (b:=0) aK (z _ _) (fun v t y u=>eG abp (eG abp (S _ _))) h
   |put a =>
    simp only[bB]at h;refine fo (a:=0) (b:=1) aK (z _ _) (fun v t y u=>eG (fun h=>(abp h).mono aK) fun h=>?_) h
    grind[Dq]
   |call f l =>
    simp only[bB]at h;refine fo (a:=0) (b:=0) aK (I _ _ _) (fun v t y u=>eG abp (eG (S _ _) fun h=>?_)) h;have⟨w,x,A,e⟩:=br h;cases e;have C:Dq 0 (t.enter v) x:=z _ _ _ _ A;exact C
   |un o a=>exact zd3
   |bin o a b=>simp only[bB]at h;exact fo (a:=0) (b:=0) aK (z _ _) (fun v t y u=>eG abp (fo (a:=0) (b:=0) aK (z _ _) (fun v t y u=>eG abp (eG (S _ _) abp)))) h
   |and_ a b=>exact zbZ
   |or_ a b=>exact zbZ
   |setL k a=>exact zbp
   |setG k a=>exact zbp
   |putA k i v=>simp only[bB]at h;exact fo (a:=0) (b:=0) aK (z _ _) (fun v t y u=>eG abp (eG (fo (a:=0) (b:=0) aK (z _ _) (fun v t y u=>eG abp (fun h=>by cases h;exact Dq.of rfl rfl))) (S _ _))) h
   |if1 c b=>simp only[bB]at h;exact fo (a:=0) (b:=0) aK (z _ _) (fun v t y u=>eG abp (eG (fo (a:=0) (b:=0) aK (z _ _) (fun v t y u=>abp)) abp)) h
   |if2 c b T=>simp only[bB]at h;exact fo (a:=0) (b:=0) aK (z _ _) (fun v t y u=>eG abp (eG (fo (a:=0) (b:=0) aK (z _ _) (fun v t y u=>abp)) (fo (a:=0) (b:=0) aK (z _ _) (fun v t y u=>abp)))) h
   |while_ c b=>simp only[bB]at h;exact fo (a:=0) (b:=0) aK (G _ _ _) (fun v t y u=>abp) h
   |ret a=>exact zbp
   |do_ a=>exact zd3
   |block l=>simp only[bB]at h;exact fo (a:=0) (b:=0) aK (d _ _) (fun v t y u=>abp) h
  ·cases l with
   |nil=>grind[kb]
   |cons r l=>simp only[kb]at h;exact fo (a:=0) (b:=0) aK (z _ _) (fun v t y u=>eG abp (I _ _ _ _ _)) h
  ·cases l with
   |nil=>grind[jz]
   |cons r l=>simp only[jz]at h;exact fo (a:=0) (b:=0) aK (z _ _) (fun v t y u=>eG abp (d _ _ _ _)) h
  ·simp only[lW]at h;exact fo (a:=0) (b:=0) aK (z _ _) (fun v t y u=>eG abp (eG abp (fo (a:=0) (b:=0) aK (z _ _) (fun v t y u=>eG abp (G _ _ _ _ _))))) h
end
end Go.Mn
namespace Go.Im
open Go.Xp Go.Sp Go.Mn
structure jy(p:Src)(F:Nat)(s:M):Prop where
 bF:s.bF.length=p.aw.length
 cells:s.cells.length=p.aq.length
 rows:∀(k:Nat)a,p.aq[k]?=some a->((row s k).length:Int)=a.size
 locs:40<=s.locs.length
 ay:s.ay<=F
 out:s.out.length<=s.ay
def jy.RH{p:Src}{F:Nat}{s t:M}(h:jy p F s)(o:zW s t)(z:t.ay<=F)(v:Dq 0 s t):jy p F t :=
 ⟨o.bF.trans h.bF,o.cells.trans h.cells,fun k a Q=>by rw[o.rows];exact h.rows k a Q,by rw[o.locs];exact h.locs,z,by have:=h.out;grind[Dq]⟩
theorem jy.ev{p:Src}{O:Op}{F:Nat}{B:Nat->R}{g:Nat}{r:R}{s t:M}{v:Int}(h:jy p F s)(e:ev O F B g r s=some (v,t)):jy p F t :=
 h.RH ((qc (Go.Mn.RH F) g).1 r s v t e) (((qc (HJ F) g).1 r s v t e).2 h.ay) ((QP g).1 r s v t e)
theorem jy.next{p:Src}{F:Nat}{s:M}(h:jy p F s)(j:¬F<=s.ay):jy p F { s with ay:=s.ay+1 } :=
 ⟨h.bF,h.cells,h.rows,h.locs,by grind,by have:=h.out;grind⟩
theorem zW.ev{O:Op}{F:Nat}{B:Nat->R}{g:Nat}{r:R}{s t:M}{v:Int}(e:ev O F B g r s=some (v,t)):zW s t:=(qc (Go.Mn.RH F) g).1 r s v t e
end Go.Im
namespace Go.Sp
open Go.Xp
def RS.left(p:RS):Nat:=p.l.length-p.i
def ET{k:Nat}{s:ai}(h:(levels.getD k []).contains s=true):s≠[]/\k<9/\s.length<=2:=by
 have G:k<9:=Nat.lt_of_not_le fun G=>by
  rw[List.getD_eq_getElem?_getD,List.getElem?_eq_none (show levels.length<=k from G)]at h;cases h
 have c:∀k:Fin 9,∀s∈levels.getD k.1 [],s≠[]/\s.length<=2:=by decide
 have⟨z,v⟩:=c ⟨k,G⟩ s (sB.1 h)
 grind
def mM{p q:RS}(h:p.to q):q.left<=p.left/\q.left+(q.i-p.i)=p.left/\p.i<=q.i:=by
 obtain⟨z,-,v,I⟩:=h
 grind[RS.left]
theorem uw(p:RS)(d:Nat):(p.aY d).left=p.left:=by
 grind[RS.fail,RS.left,RS.aY]
def qf{p:RS}(h:p.i<p.l.length):p.next.left+1=p.left:=by
 grind[RS.left,RS.next]
def se:J->Nat
 |.expr _=>13
 |.level k _=>12-k
 |.loop _ _ _=>1
 |.operand _=>2
 |.named _ _ _=>1
def MU:∀(f:Nat),(∀j p,p.ok->(∀k d,j=.level k d->k<=9)->20*p.left+se j<=f->∃t q,mE f j p=some (t,q))/\(∀d p,p.ok->20*p.left+14<=f->∃t q,mL f d p=some (t,q))/\(∀d r p,p.ok->20*p.left+1<=f->∃t q,qg f d r p=some (t,q))
 |0=>⟨fun j p _ G h=>by
   cases j with
   |level k d=>grind[se]
   |_=>simp only[se]at h;omega,fun d p _ h=>by omega,fun d r p _ h=>by omega⟩
 |f+1=>by
  have⟨z,w,I⟩:=MU f;have⟨b,C,F⟩:=ry f
  have l:∀j:J,(∀k d,j=.level k d->False)->∀k d,j=.level k d->k<=9:=fun j h k d e=>(h k d e).elim
  refine⟨fun j p R G h=>?_,fun d p R h=>?_,fun d r p R h=>?_⟩
  ·cases j with
   |expr d =>
    rw[mE];exact z _ _ ((ir R d).ok R) (fun k W e=>by grind) (by grind[uw,RS.left,RS.aY,se])
   |level k d =>
    have E:=G k d rfl;rw[mE]
    by_cases c:k=9
    ·simp_all[ae,se]
    ·rw[ab c];obtain⟨t,q,e⟩:=z (.level (k+1) d) p R (fun A W e=>by grind) (by grind[RS.left,se]);rw[e];have H:=b _ _ _ _ R e;exact z _ _ (H.ok R) (fun k W e=>by cases e) (by have:=mM H;grind[RS.left,se])
   |loop k d out =>
    rw[mE]
    by_cases v:p.code=0/\(levels.getD k []).contains (p.aH 0)=true
    ·rw[ae v];obtain⟨m,B,-⟩:=ET v.2;have i:=(dw (k:=0) rfl m).1;rw[Nat.add_zero]at i;rw[cq i];simp only;have Q:=cS i;have o:=qf i
     obtain⟨t,q,e⟩:=z (.level (k+1) d) p.next (Q.ok R) (fun A W e=>by grind) zfN
     rw[e];have H:=b _ _ _ _ (Q.ok R) e;exact z _ _ (H.ok (Q.ok R)) (fun k W e=>by cases e) (by have:=mM H;simp only[se]at h |-;omega)
    simp_all[ab]
   |operand d =>
    rw[mE];have n:=(ir R d).ok R;have T:=uw p d;rw[<-T]at h;generalize p.aY d=p at *
    try simp only
    split
    ·split
     ·simp
     ·rename_i t H;have i:=(bG H).1;have Q:=cS i;have o:=qf i;split
      ·simp
      ·split
       ·exact z _ _ ((eT n).ok n) (fun k W e=>by cases e) (by have:=mM (eT n);simp only[se]at h |-;omega)
       ·split
        ·obtain⟨t,q,e⟩:=z (.operand (d+1)) p.next (Q.ok n) (fun k W e=>by cases e) zfN
         grind
        ·split
         ·obtain⟨t,q,e⟩:=z (.expr (d+1)) p.next (Q.ok n) (fun k W e=>by cases e) zfN
          grind
         simp
    simp
   |named a s d =>
    rw[mE];split
    ·rename_i u;have i:=(dw u aE).1;rw[Nat.add_zero]at i;have Q:=cS i;have o:=qf i
     obtain⟨t,q,e⟩:=z (.expr (d+1)) p.next (Q.ok R) (fun k W e=>by cases e) zfN
     grind
    ·split
     ·rename_i u;have i:=(dw u aE).1;rw[Nat.add_zero]at i;have Q:=cS i;have o:=qf i
      have⟨t,q,e⟩:=w (d+1) p.next (Q.ok R) aK
      simp_all
     simp
  ·rw[mL];split
   ·simp
   ·obtain⟨t,q,e⟩:=z (.expr d) p R (fun k W e=>by cases e) zfN;rw[e];have H:=b _ _ _ _ R e;exact I _ _ _ (H.ok R) (by have:=mM H;omega)
  ·rw[qg];split
   ·rename_i u;have i:=(dw u aE).1;rw[Nat.add_zero]at i;have Q:=cS i;have o:=qf i
    obtain⟨t,q,e⟩:=z (.expr d) p.next (Q.ok R) (fun k W e=>by cases e) zfN
    rw[e];have H:=b _ _ _ _ (Q.ok R) e;exact I _ _ _ (H.ok (Q.ok R)) (by have:=mM H;omega)
   simp
def vg{p:RS}(R:p.ok)(d:Nat):∃t q,mX d p=some (t,q):=by
 unfold mX;refine(MU _).1 _ _ R (fun k W e=>by cases e) ?_
 grind[RS.left,se,fe]
def qY{p:RS}{s:ai}(o:s≠[])(h:(p.ba s).code=0):p.ba s=p.next/\p.code=0/\p.i<p.l.length:=by
 unfold RS.ba at h |-
 by_cases e:p.aH 0=s
 ·rw[ae e];have:=dw e o
  grind
 ·rw[ab e]at h;exfalso
  grind[RS.fail]
def Lm{f d:Nat}{a:Int}{p q:RS}{t:T}(R:p.ok)(j:p.i<p.l.length)(h:mS f (.cond a d) p=some (t,q))(v:q.code=0):p.i+1<=q.i:=by
 have:=(pI f).1 _ _ _ _ R (fun a W _=>j) h
 cases f with
 |zero=>simp[mS]at h
 |succ f =>
  rw[mS]at h;have Q:=cS j;have N:=Q.trans (bX (Q.ok R) (s:=[40]) aE)
  have M:p.next.i=p.i+1:=rfl
  try simp only at h
  split at h
  ·cases h
  ·rename_i e w o;have k:=(bX (Q.ok R) (s:=[40]) aE).trans (fS (N.ok R) o);have G:=k.trans (bX ((Q.trans k).ok R) (s:=[41]) aE);split at h
   ·cases h
   ·rename_i b z r;have S:=G.trans ((pI f).1 _ _ _ _ ((Q.trans G).ok R) (fun a W h=>by cases h) r);split at h
    ·rename_i u;have m:=S.trans (dP u.2 aE);split at h
     ·cases h
     ·rename_i c A n;cases h;have:=(m.trans ((pI f).1 _ _ _ _ ((Q.trans m).ok R) (fun a W h=>by cases h) n)).2.2.2;omega
    ·cases h;have:=S.2.2.2;omega
def NI{f d:Nat}{p q:RS}{t:T}(R:p.ok)(h:mS f (.stmt d) p=some (t,q))(w:q.code=0):p.i+1<=q.i:=by
 cases f with
 |zero=>simp[mS]at h
 |succ f =>
  rw[mS]at h;have n:=ir R d;have b:=n.ok R;have N:=n.2.2.2;refine ju (Nat.add_le_add_right N 1) ?_;generalize p.aY d=k at *
  try simp only at h
  have last:∀(F:RS),k.to F->(F.ba [59]).code=0->k.i+1<=(F.ba [59]).i:=fun F W w=>by
   obtain⟨e,-,-⟩:=qY aE w;rw[e];have:=W.2.2.2
   grind[RS.next]
  split at h
  ·rename_i o;have Q:=dP o aE;have I:=Q.trans (eT (Q.ok b));have u:=I.trans (bX (I.ok b) (s:=[61]) aE);split at h
   ·cases h
   ·rename_i e F j
    cases h;exact last _ (u.trans (fS (u.ok b) j)) w
  ·split at h
   ·rename_i o;refine Lm b ?_ h w
    rcases o with o|o
    ·exact(dw o aE).1
    ·exact(dw o aE).1
   ·split at h
    ·rename_i o;have Q:=dP o aE;split at h
     ·cases h
     ·rename_i e F j
      cases h;exact last _ (Q.trans (fS (Q.ok b) j)) w
    ·split at h
     ·have I:=eT b;have u:=I.trans (bX (I.ok b) (s:=[61]) aE);split at h
      ·cases h
      ·rename_i e F j
       cases h;exact last _ (u.trans (fS (u.ok b) j)) w
     ·split at h
      ·cases h
      ·rename_i e F j;have hx:=fS b j;split at h
       ·rename_i o;have Q:=hx.trans (dP o.2.2 aE);split at h
        ·rename_i a r v l G M
         cases h;exact last _ (Q.trans (fS (Q.ok b) M)) w
        ·cases h
       grind
def ux:∀(f:Nat)(j:J)(p q:RS)(t:T),(∀k d out,j=.loop k d out->out.n.aj=3->out.au≠[])->mE f j p=some (t,q)->t.n.aj=3->t.au≠[]
 |0,j,p,q,t,_,h,_=>by simp[mE]at h
 |f+1,j,p,q,t,S,h,I=>by
  cases j with
  |expr d=>rw[mE]at h;exact zdm
  |level k d =>
   rw[mE]at h;split at h
   ·exact zdm
   ·split at h
    ·cases h
    ·rename_i out F i;exact ux f _ _ _ _ (fun k d o e=>by cases e;exact ux f _ _ _ _ (fun k d o e=>by cases e) i) h I
  |loop k d out =>
   rw[mE]at h;split at h
   ·split at h
    ·cases h
    ·split at h
     ·cases h
     ·exact ux f _ _ _ _ (fun k d o e H=>by cases e;cases H) h I
   grind
  |operand d =>
   rw[mE]at h;generalize p.aY d=p at *
   try simp only at h
   split at h
   ·split at h
    ·cases h;cases I
    ·split at h
     ·cases h;cases I
     ·split at h
      ·exact zdm
      ·split at h
       ·split at h
        ·cases h
        ·cases h;cases I
       ·split at h
        ·split at h
         ·cases h
         ·rename_i a F i;cases h;exact ux f _ _ _ _ (fun k d o e=>by cases e) i I
        ·cases h;cases I
   ·cases h;cases I
  |named a s d =>
   rw[mE]at h;split at h
   ·split at h
    ·cases h
    ·cases h;simp[T.au,one]
   ·split at h
    ·split at h
     ·cases h
     ·cases h;cases I
    ·cases h;cases I
def MV:∀(f:Nat),(∀d p,p.ok->5*p.left+4<=f->∃t q,mS f (.block d) p=some (t,q))/\(∀d p,p.ok->5*p.left+2<=f->∃t q,mS f (.stmt d) p=some (t,q))/\(∀a d p,p.ok->p.i<p.l.length->5*p.left+1<=f->∃t q,mS f (.cond a d) p=some (t,q)) /\
  (∀d v p,p.ok->5*p.left+3<=f->∃t q,mB f d v p=some (t,q))
 |0=>⟨fun d p _ h=>by omega,fun d p _ h=>by omega,fun a d p _ _ h=>by omega,fun d v p _ h=>by omega⟩
 |f+1=>by
  have⟨G,R,S,H⟩:=MV f;refine⟨fun d p c h=>?_,fun d p c h=>?_,fun a d p c C h=>?_,fun d v p c h=>?_⟩
  ·rw[mS];have j:=(ir c d).ok c;rw[<-uw p d]at h;generalize p.aY d=p at *
   try simp only
   have w:=bX j (s:=[123]) aE;obtain⟨t,q,e⟩:=H (d+1) [] (p.ba [123]) (w.ok j) (by have:=mM w;omega)
   simp_all
  ·rw[mS];have j:=(ir c d).ok c;rw[<-uw p d]at h;generalize p.aY d=p at *
   try simp only
   split
   ·rename_i m;have u:=dP m aE;have n:=u.trans (eT (u.ok j));have A:=n.trans (bX (n.ok j) (s:=[61]) aE);have⟨t,q,e⟩:=vg (A.ok j) (d+1)
    grind
   ·split
    ·rename_i m;refine S _ _ _ j ?_ aK
     rcases m with m|m
     ·exact(dw m aE).1
     ·exact(dw m aE).1
    ·split
     ·rename_i m;have u:=dP m aE;have⟨t,q,e⟩:=vg (u.ok j) (d+1)
      grind
     ·split
      ·have n:=eT j;have A:=n.trans (bX (n.ok j) (s:=[61]) aE);have⟨t,q,e⟩:=vg (A.ok j) (d+1)
       grind
      ·have⟨t,q,e⟩:=vg j (d+1);rw[e];have hx:=fS j e;simp only;split
       ·rename_i m;have u:=hx.trans (dP m.2.2 aE);have⟨t2,N,Q⟩:=vg (u.ok j) (d+1);rw[Q];have yT:=ux _ _ _ _ _ (fun k d o e=>by cases e) e m.1
        cases hk:t.au with
        |nil=>grind
        |cons a r=>simp
       simp
  ·rw[mS];have u:=cS C;have W:=qf C;have w:=u.trans (bX (u.ok c) (s:=[40]) aE);have⟨e,q,E⟩:=vg (w.ok c) (d+1);rw[E];simp only;have hx:=w.trans (fS (w.ok c) E);have z:=hx.trans (bX (hx.ok c) (s:=[41]) aE)
   have hq:(q.ba [41]).left+1<=p.left:=by
    have a1:=mM (bX (u.ok c) (s:=[40]) aE);have a2:=mM (fS (w.ok c) E);have a3:=mM (bX (hx.ok c) (s:=[41]) aE);omega
   have⟨b,N,I⟩:=G (d+1) (q.ba [41]) (z.ok c) aK;rw[I];simp only;have B:=(pI f).1 _ _ _ _ (z.ok c) (fun a O h=>by cases h) I;split
   ·rename_i m;have F:=(z.trans B).trans (dP m.2 aE)
    obtain⟨b2,q3,T⟩:=G (d+1) N.next (F.ok c) (by
     have a1:=mM B
     grind[RS.left,RS.next])
    grind
   simp
  ·rw[mB];split
   ·have⟨a,q,e⟩:=R d p c aK;rw[e];simp only;have M:=(pI f).1 _ _ _ _ c (fun a O h=>by cases h) e
    by_cases J:q.code=0
    ·have:=NI c e J;refine H _ _ _ (M.ok c) ?_;have:=mM M;omega
    ·cases f with
     |zero=>omega
     |succ f =>
      rw[mB,ab (fun h=>J h.1)];simp
   simp
structure Bn(x:Tok):Prop where
 at_:0<=x.at_/\x.at_<=6000
 n:0<=x.n/\x.n<=2147483647
structure SB(p:RS):Prop where
 tok:∀t∈p.l,Bn t
 e:0<=p.e/\p.e<=6000
theorem SB.to{p q:RS}(h:SB p)(k:p.to q):SB q:=⟨by rw[k.1];exact h.tok,by rw[k.2.1];exact h.e⟩
def SB.at{p:RS}(h:SB p){i:Nat}{t:Tok}(H:p.l[i]?=some t):Bn t:=h.tok t (bR H)
theorem SB.place{p:RS}(h:SB p):0<=p.place/\p.place<=6000:=by
 unfold RS.place;split
 ·rename_i t H;exact(h.at H).at_
 ·exact h.e
structure YA(x:Nd):Prop where
 aj:0<=x.aj/\x.aj<=14
 at_:0<=x.at_/\x.at_<=6000
 n:0<=x.n/\x.n<=2147483647
 s:x.s.length<=12
mutual
def mF:T->Prop
 |.mk n l=>YA n/\lD l
def lD:List T->Prop
 |[]=>True
 |t::r=>mF t/\lD r
end
theorem mF.n{t:T}(h:mF t):YA t.n:=by cases t;grind[mF,T.n]
theorem mF.au{t:T}(h:mF t):lD t.au:=by cases t;rw[mF]at h;exact h.2
def Bv:∀{a b:List T},lD a->lD b->lD (a++b)
 |[],b,_,h=>h
 |t::a,b,h,k=>by rw[cons_append,lD];rw[lD]at h;exact⟨h.1,Bv h.2 k⟩
theorem vM{t:T}(h:mF t):lD [t]:=by grind[lD]
def OI{t u:T}(h:mF t)(k:mF u):lD [t,u]:=by grind[lD]
theorem Cj:∀(a b:List T),aZ (a++b)=aZ a+aZ b
 |[],b=>by simp[aZ]
 |t::a,b=>by rw[cons_append,aZ,aZ,Cj a b];omega
theorem tM(t:T):aZ [t]=bg t:=by rfl
theorem FJ(t u:T):aZ [t,u]=bg t+bg u:=by rfl
theorem WJ(t u v:T):aZ [t,u,v]=bg t+bg u+bg v:=by grind[aZ,bg]
section
variable{k a:Int}{s:ai}{l:List T}
theorem jL:bg (one k a s l)=aZ l+1:=by rfl
theorem mV(G:0<=k/\k<=14)(ha:0<=a/\a<=6000)(o:s.length<=12)(W:lD l):mF (one k a s l):=by
 unfold one;rw[mF];exact⟨⟨G,ha,⟨Int.le_refl _,show(0:Int)<=2147483647 by decide⟩,o⟩,W⟩
end
theorem Cg:mF T.zero:=by
 unfold T.zero;rw[mF,lD];exact⟨⟨⟨Int.le_refl _,show(0:Int)<=14 by decide⟩,⟨Int.le_refl _,show(0:Int)<=6000 by decide⟩,⟨Int.le_refl _,show(0:Int)<=2147483647 by decide⟩,bj _⟩,trivial⟩
theorem Ck:bg T.zero=1:=by rfl
theorem ox(p:RS):p.name.1.length<=12:=by
 grind[RS.name]
def oL:J->Nat
 |.loop _ _ out=>bg out
 |_=>1
def jOk:J->Prop
 |.loop _ _ out=>mF out
 |.named a s _=>(0<=a/\a<=6000)/\s.length<=12
 |_=>True
def Ru:∀(f:Nat),(∀j p t q,p.ok->SB p->jOk j->mE f j p=some (t,q)->mF t/\bg t<=oL j+2*(q.i-p.i)) /\
  (∀d p l q,p.ok->SB p->mL f d p=some (l,q)->lD l/\aZ l<=1+2*(q.i-p.i))/\(∀d w p l q,p.ok->SB p->lD w->qg f d w p=some (l,q)->lD l/\aZ l<=aZ w+2*(q.i-p.i))
 |0=>⟨fun j p t q _ _ _ h=>by simp[mE]at h,fun d p l q _ _ h=>by simp[mL]at h,fun d w p l q _ _ _ h=>by simp[qg]at h⟩
 |f+1=>by
  have⟨A,h2,h3⟩:=Ru f;have⟨z,t2,t3⟩:=ry f;refine⟨fun j p t q e v I h=>?_,fun d p l q e v h=>?_,fun d w p l q e v r h=>?_⟩
  ·cases j with
   |expr d =>
    rw[mE]at h;have Q:=ir e d
    have hi:(p.aY d).i=p.i:=by unfold RS.aY RS.fail;grind
    have:=A (.level 0 d) _ _ _ (Q.ok e) (v.to Q) trivial h
    grind[oL]
   |level k d =>
    rw[mE]at h;split at h
    ·exact A (.operand (d+1)) _ _ _ e v trivial h
    ·split at h
     ·cases h
     ·rename_i out O o;have B:=z _ _ _ _ e o;have r:=A (.level (k+1) d) _ _ _ e v trivial o;have hl:=A (.loop k d out) _ _ _ (B.ok e) (v.to B) r.1 h;have S:=(z _ _ _ _ (B.ok e) h).2.2.2;have M:=B.2.2.2
      grind[oL]
   |loop k d out =>
    rw[mE]at h;split at h
    ·rename_i W;split at h
     ·cases h
     ·rename_i R B;have N:=(bG B).1;have m:=cS (p:=p) N
      have J:R.s.length<=12:=by
       have H:=(ET W.2).2.2;unfold RS.aH at H;rw[ae W.1,Nat.add_zero,B]at H;simp only[dL]at H;have h9:=(ET W.2).1;unfold RS.aH at h9;rw[ae W.1,Nat.add_zero,B]at h9
       grind[dL]
      split at h
      ·cases h
      ·rename_i b O o;have c:=z _ _ _ _ (m.ok e) o;have r:=A (.level (k+1) d) _ _ _ (m.ok e) (v.to m) trivial o;have C:=m.trans c;have hl:=A (.loop k d (one 6 R.at_ R.s [out,b])) _ _ _ (C.ok e) (v.to C) (mV aE (v.at B).at_ J (OI I r.1)) h;have S:=(z _ _ _ _ (C.ok e) h).2.2.2;have M:=c.2.2.2;have G:=r.2;have h7:=hl.2;simp only[oL,jL,FJ]at G h7 |-
       have H:p.next.i=p.i+1:=rfl
       grind
    ·cases h;exact⟨I,by grind[oL]⟩
   |operand d =>
    rw[mE]at h;have Q:=ir e d
    have hi:(p.aY d).i=p.i:=by unfold RS.aY RS.fail;grind
    rw[<-hi];have u:=Q.ok e;have E:=v.to Q;generalize p.aY d=p at *
    try simp only at h
    simp only[oL];split at h
    ·split at h
     ·grind[Cg,Ck]
     ·rename_i R B;have N:=(bG B).1;have m:=cS (p:=p) N
      have H:p.next.i=p.i+1:=rfl
      have T:=E.at B;split at h
      ·cases h;refine⟨?_,by rw[bg,aZ];omega⟩;rw[mF,lD];exact⟨⟨⟨show(0:Int)<=1 by decide,show(1:Int)<=14 by decide⟩,T.at_,T.n,bj _⟩,trivial⟩
      ·split at h
       ·have F:=eT u;have r:=A (.named R.at_ p.name.1 d) _ _ _ (F.ok u) (E.to F) ⟨T.at_,ox p⟩ h;have S:=(z _ _ _ _ (F.ok u) h).2.2.2;have M:=F.2.2.2
        grind[oL]
       ·split at h
        ·rename_i J;split at h
         ·cases h
         ·rename_i a O o;have r:=A (.operand (d+1)) _ _ _ (m.ok u) (E.to m) trivial o;have M:=(z _ _ _ _ (m.ok u) o).2.2.2;have G:=r.2;simp only[oL]at G;cases h;refine⟨mV aE T.at_ zfk (vM r.1),?_⟩;rw[jL,tM];omega
        ·split at h
         ·split at h
          ·cases h
          ·rename_i a O o;have r:=A (.expr (d+1)) _ _ _ (m.ok u) (E.to m) trivial o;have c:=m.trans (z _ _ _ _ (m.ok u) o);have M:=(z _ _ _ _ (m.ok u) o).2.2.2;have G:=r.2;simp only[oL]at G;cases h;have h7:=(bX (c.ok u) (s:=[41]) aE).2.2.2
           grind
         grind[Cg,Ck]
    grind[Cg,Ck]
   |named a s d =>
    rw[mE]at h;simp only[oL];split at h
    ·rename_i J;have m:=dP J aE
     have H:p.next.i=p.i+1:=rfl
     split at h
     ·cases h
     ·rename_i a' O o;have r:=A (.expr (d+1)) _ _ _ (m.ok e) (v.to m) trivial o;have c:=m.trans (z _ _ _ _ (m.ok e) o);have M:=(z _ _ _ _ (m.ok e) o).2.2.2;have G:=r.2;simp only[oL]at G;cases h;have h7:=(bX (c.ok e) (s:=[93]) aE).2.2.2;refine⟨mV aE I.1 I.2 (vM r.1),?_⟩;rw[jL,tM];omega
    ·split at h
     ·rename_i J;have m:=dP J aE
      have H:p.next.i=p.i+1:=rfl
      split at h
      ·cases h
      ·rename_i l O o;have r:=h2 _ _ _ _ (m.ok e) (v.to m) o;have M:=(t2 _ _ _ _ (m.ok e) o).2.2.2;have G:=r.2;cases h;refine⟨mV aE I.1 I.2 r.1,?_⟩;rw[jL];omega
     ·cases h;refine⟨mV aE I.1 I.2 (by simp[lD]),?_⟩;simp[jL,aZ]
  ·rw[mL]at h;split at h
   ·cases h;simp[lD,aZ,RS.i,RS.ba]
   ·split at h
    ·cases h
    ·rename_i a O o;have c:=z _ _ _ _ e o;have r:=A (.expr d) _ _ _ e v trivial o;have hl:=h3 _ _ _ _ _ (c.ok e) (v.to c) (vM r.1) h;have S:=(t3 _ _ _ _ _ (c.ok e) h).2.2.2;have M:=c.2.2.2
     grind[oL,tM]
  ·rw[qg]at h;split at h
   ·rename_i J;have m:=dP J aE
    have H:p.next.i=p.i+1:=rfl
    split at h
    ·cases h
    ·rename_i a O o;have c:=m.trans (z _ _ _ _ (m.ok e) o);have h9:=(z _ _ _ _ (m.ok e) o).2.2.2;have r:=A (.expr d) _ _ _ (m.ok e) (v.to m) trivial o;have hl:=h3 _ _ _ _ _ (c.ok e) (v.to c) (Bv ‹lD w› (vM r.1)) h;have S:=(t3 _ _ _ _ _ (c.ok e) h).2.2.2
     grind[oL,Cj,tM]
   grind
def yj{d:Nat}{p q:RS}{t:T}(R:p.ok)(r:SB p)(h:mX d p=some (t,q)):mF t/\bg t<=1+2*(q.i-p.i)/\p.i<=q.i:=by
 have:=(Ru _).1 (.expr d) _ _ _ R r trivial h;exact⟨this.1,this.2,(fS R h).2.2.2⟩
def Ll{p:RS}{s:ai}(o:s≠[])(h:¬p.code=0):¬(p.ba s).code=0:=fun e=>h (qY o e).2.1
def Rv:∀(f:Nat),(∀d p t q,p.ok->SB p->mS f (.block d) p=some (t,q)->mF t/\bg t<=1+4*(q.i-p.i)/\p.i<=q.i) /\
  (∀d p t q,p.ok->SB p->mS f (.stmt d) p=some (t,q)->mF t/\bg t<=2+4*(q.i-p.i)/\(q.code=0->bg t<=4*(q.i-p.i))/\p.i<=q.i) /\
  (∀a d p t q,p.ok->SB p->p.i<p.l.length->(0<=a/\a<=6000)->mS f (.cond a d) p=some (t,q)->mF t/\bg t<=2+4*(q.i-p.i)/\(q.code=0->bg t<=4*(q.i-p.i))/\p.i<=q.i) /\
  (∀d E p l q,p.ok->SB p->lD E->mB f d E p=some (l,q)->lD l/\(aZ l<=aZ E+(if p.code=0 then 2 else 0)+4*(q.i-p.i))/\p.i<=q.i)
 |0=>⟨fun d p t q _ _ h=>by simp[mS]at h,fun d p t q _ _ h=>by simp[mS]at h,fun a d p t q _ _ _ _ h=>by simp[mS]at h,fun d E p l q _ _ _ h=>by simp[mB]at h⟩
 |f+1=>by
  have⟨h1,h2,h3,h4⟩:=Rv f;refine⟨fun d p t q o F h=>?_,fun d p t q o F h=>?_,fun a d p t q o F oo ha h=>?_,fun d E p l q o F hac h=>?_⟩
  ·rw[mS]at h;have S:=ir o d
   have hi:(p.aY d).i=p.i:=by unfold RS.aY RS.fail;grind
   rw[<-hi];have c:=S.ok o;have k:=F.to S;generalize p.aY d=p at *
   try simp only at h
   have A:=bX c (s:=[123]) aE;split at h
   ·cases h
   ·rename_i l z j;have M:=h4 _ _ _ _ _ (A.ok c) (k.to A) (by simp[lD]) j;have C:=A.trans ((pI f).2 _ _ _ _ _ (A.ok c) j);cases h;have N:=(bX (C.ok c) (s:=[125]) aE).2.2.2;have h6:=A.2.2.2;refine⟨mV aE k.place (bj _) M.1,?_,by omega⟩;rw[jL];have h7:=M.2.1;have h8:=M.2.2;rw[aZ]at h7;split at h7
    ·rename_i G;have h9:=(qY aE G).1
     have YF:(p.ba [123]).i=p.i+1:=by rw[h9];rfl
     omega
    ·omega
  ·rw[mS]at h;have S:=ir o d
   have hi:(p.aY d).i=p.i:=by unfold RS.aY RS.fail;grind
   rw[<-hi];have c:=S.ok o;have k:=F.to S;generalize p.aY d=p at *
   try simp only at h
   have J:=k.place
   have last:∀(z:RS),p.to z->z.i<=(z.ba [59]).i/\((z.ba [59]).code=0->(z.ba [59]).i=z.i+1):=fun z hq=>⟨(bX (hq.ok c) aE).2.2.2,fun G=>by rw[(qY aE G).1];rfl⟩
   split at h
   ·rename_i w;have u:=dP w aE;have B:=u.trans (eT (u.ok c));have m:=B.trans (bX (B.ok c) (s:=[61]) aE);split at h
    ·cases h
    ·rename_i e z j;have hx:=yj (m.ok c) (k.to m) j;have H:=last _ (m.trans (fS (m.ok c) j));have N:=((eT (u.ok c)).trans (bX (B.ok c) (s:=[61]) aE)).2.2.2
     have h8:p.next.i=p.i+1:=rfl
     grind[mV,ox,vM,jL,tM]
   ·split at h
    ·rename_i w;refine h3 _ _ _ _ _ c k ?_ J h
     rcases w with w|w
     ·exact(dw w aE).1
     ·exact(dw w aE).1
    ·split at h
     ·rename_i w;have u:=dP w aE;split at h
      ·cases h
      ·rename_i e z j;have hx:=yj (u.ok c) (k.to u) j;have H:=last _ (u.trans (fS (u.ok c) j))
       have h8:p.next.i=p.i+1:=rfl
       cases h;refine⟨mV aE J (bj _) (vM hx.1),?_,fun G=>?_,?_⟩
       ·grind[jL,tM]
       ·grind[jL,tM]
       omega
     ·split at h
      ·have B:=eT c;have m:=B.trans (bX (B.ok c) (s:=[61]) aE);split at h
       ·cases h
       ·rename_i e z j;have hx:=yj (m.ok c) (k.to m) j;have H:=last _ (m.trans (fS (m.ok c) j));have N:=m.2.2.2
        grind[mV,ox,vM,jL,tM]
      ·split at h
       ·cases h
       ·rename_i e z j;have HZ:=fS c j;have hx:=yj c k j;split at h
        ·rename_i w;have Y0:=dP w.2.2 aE;have u:=HZ.trans Y0;split at h
         ·rename_i a r v p2 hk T;have hv:=yj (u.ok c) (k.to u) T;have H:=last _ (u.trans (fS (u.ok c) T))
          have h8:z.next.i=z.i+1:=rfl
          have hsa:mF a:=by have:=hx.1.au;grind[lD]
          have hza:bg a+1<=bg e:=by
           cases e with
           |mk n l =>
            have hk:l=a::r:=hk
            grind[aZ,bg]
          cases h;refine⟨mV aE J hx.1.n.s (OI hsa hv.1),?_,fun G=>?_,?_⟩
          ·grind[jL,FJ]
          ·grind[jL,FJ]
          omega
         ·cases h
        ·have H:=last _ HZ;cases h;refine⟨mV aE J (bj _) (vM hx.1),?_,fun G=>?_,?_⟩
         ·grind[jL,tM]
         ·grind[jL,tM]
         omega
  ·rw[mS]at h;have u:=cS oo
   have h8:p.next.i=p.i+1:=rfl
   have A:=u.trans (bX (u.ok o) (s:=[40]) aE);have N:=(bX (u.ok o) (s:=[40]) aE).2.2.2
   have R:0<=p.ck/\p.ck<=14:=by grind[RS.ck]
   try simp only at h
   split at h
   ·cases h
   ·rename_i e z j;have hx:=yj (A.ok o) (F.to A) j;have I:=(A.trans (fS (A.ok o) j)).trans (bX ((A.trans (fS (A.ok o) j)).ok o) (s:=[41]) aE);have h6:=(bX ((A.trans (fS (A.ok o) j)).ok o) (s:=[41]) aE).2.2.2;split at h
    ·cases h
    ·rename_i b q2 O;have CL:=h1 _ _ _ _ (I.ok o) (F.to I) O;have C:=I.trans ((pI f).1 _ _ _ _ (I.ok o) (fun a d' h=>by cases h) O);split at h
     ·rename_i w;have W:=C.trans (dP w.2 aE)
      have h9:q2.next.i=q2.i+1:=rfl
      split at h
      ·cases h
      ·rename_i b2 q3 Q;have ug:=h1 _ _ _ _ (W.ok o) (F.to W) Q;cases h;refine⟨mV R ha (bj _) (by grind[lD]),?_,fun G=>?_,?_⟩
       ·grind[jL,WJ]
       ·grind[jL,WJ]
       omega
     ·cases h;refine⟨mV R ha (bj _) (OI hx.1 CL.1),?_,fun G=>?_,?_⟩
      ·grind[jL,FJ]
      ·grind[jL,FJ]
      omega
  ·rw[mB]at h;split at h
   ·rename_i G;split at h
    ·cases h
    ·rename_i a p' j;have w:=h2 _ _ _ _ o F j;have C:=(pI f).1 _ _ _ _ o (fun a d' h=>by cases h) j;have M:=h4 _ _ _ _ _ (C.ok o) (F.to C) (Bv hac (vM w.1)) h;have N:=M.2.1;have h6:=M.2.2;rw[Cj,tM]at N
     grind
   grind
end Go.Sp
namespace Go.Im
open Go.Xp Go.Sp
theorem D9{i:Type}(f:i->Nat->T->List ai->i)(t:T):∀(l:List T)(a:Nat)(s:i)(ls:List ai),eL f (l++[t]) a s ls=iO f t (a+aZ l) (eL f l a s ls).1 (eL f l a s ls).2
 |[],a,s,ls=>by rfl
 |u::l,a,s,ls=>by rw[cons_append,eL,D9 f t l,eL,aZ,nE]
def Ec{i:Type}(f:i->Nat->T->List ai->i){l:List T}{k:Nat}{t:T}(h:l[k]?=some t)(a:Nat)(s:i)(ls:List ai) :
  eL f (l.take (k+1)) a s ls=iO f t (a+aZ (l.take k)) (eL f (l.take k) a s ls).1 (eL f (l.take k) a s ls).2:=by
 grind[dI,D9]
def um:∀{l:List T}{n k:Nat}{t:T},l[k]?=some t->(bS n l)[k]?=some (((n+aZ (l.take k):Nat)):Int)
 |u::l,n,0,t,h=>by rfl
 |u::l,n,k+1,t,h=>by
  have:=um (l:=l) (n:=n+bg u) (k:=k) (t:=t) zfk
  grind[bS,aZ]
 |[],n,k,t,h=>by simp at h
section
variable{l:List T}{k:Nat}{t:T}
theorem oE(h:l[k]?=some t):aZ (l.take k)+bg t<=aZ l:=by
 have z:l.take (k+1)=l.take k++[t]:=by grind[dI]
 grind[oY,List.take_append_drop,aZ,bg]
theorem Qj(h:l[k]?=some t):aZ (l.take (k+1))=aZ (l.take k)+bg t:=by
 have z:l.take (k+1)=l.take k++[t]:=by grind[dI]
 rw[z,oY,aZ,aZ,Nat.add_zero]
end
def FQ:∀(N:Nat)(t:T),bg t<=N->(dn t).length<=bg t:=by
 intro N
 induction N with
 |zero=>grind[kY]
 |succ N q =>
  intro t h
  have c:∀l:List T,aZ l<=N->(bL l).length<=aZ l:=by
   intro l
   induction l with
   |nil=>grind[bL]
   |cons u l W =>
    intro h;rw[aZ]at h;have:=q u aK;have:=W aK;rw[bL,bl,aZ];omega
  grind[fP,Qt,bl]
def nr(l:List T):(bL l).length<=aZ l:=by
 induction l with
 |nil=>simp[bL]
 |cons u l q =>
  have:=FQ _ u (a8 _);rw[bL,bl,aZ];omega
def zc{l:List T}{k:Nat}{t:T}(h:l[k]?=some t):bL (l.take (k+1))=bL (l.take k)++dn t:=by
 have z:l.take (k+1)=l.take k++[t]:=by grind[dI]
 have:∀a b:List T,bL (a++b)=bL a++bL b:=by
  intro a b
  induction a with
  |nil=>rfl
  |cons u a q=>simp[bL,q]
 grind[bL]
section
variable{C:Type}{f:C->Bool}{l:List C}
def oR{k:Nat}{x:C}(G:l[k]?=some x)(h:f x=true)(W:(l.take k).all (fun y=>!f y)=true):bP f l=(k:Int):=by
 have i:k<l.length:=by
  rcases Nat.lt_or_ge k l.length with z|z
  ·exact z
  ·rw[List.getElem?_eq_none z]at G;cases G
 have hx:l[k]=x:=by rw[cq i]at G;exact sA G
 have:l.findIdx? f=some k:=by
  rw[List.findIdx?_eq_some_iff_getElem];refine⟨i,by rw[hx];exact h,fun j o=>?_⟩;rw[fL]at W;have:=W l[j] zft;exact zdM
 unfold bP;rw[this]
def mj(W:l.all (fun y=>!f y)=true):bP f l = -1:=by
 have:l.findIdx? f=none:=by
  rw[List.findIdx?_eq_none_iff];intro x hx;rw[fL]at W;simpa using W x hx
 unfold bP;rw[this]
def n9{k:Nat}{x:C}(G:l[k]?=some x):(l.take (k+1)).all (fun y=>!f y)=((l.take k).all (fun y=>!f y)&&!f x):=by
 rw[dI,G,List.all_append];simp
end
def LK{C:Type}(f:C->Bool)(l:List C):decide ((0:Int)<=bP f l)=l.any f:=by
 cases h:l.any f with
 |false =>
  rw[mj (by rw[List.any_eq_false]at h;rw[fL];intro x hx;simpa using h x hx)];rfl
 |true =>
  unfold bP
  cases v:l.findIdx? f with
  |some i=>simp
  |none =>
   rw[List.findIdx?_eq_none_iff]at v;rw[qJ]at h;have⟨x,hx,I⟩:=h;have:=v x hx;simp[I]at this
end Go.Im
namespace Go.Sp
open Go.Xp Go.Im
abbrev WT(n:Nd):Nat:=n.s.length+n.au.length+1
mutual
def QU:∀(t:T)(a:Nat),mF t->cM WT (jA a t)+1<=14*bg t
 |.mk n l,a,h=>by
  rw[mF]at h;have z:=h.1.s;have v:=QS l (a+1) h.2;rw[jA,cM,bg]
  grind[ec]
def QS:∀(l:List T)(a:Nat),lD l->cM WT (en a l)+l.length<=14*aZ l
 |[],a,h=>by simp[cM,WT,en,aZ]
 |t::r,a,h=>by
  rw[lD]at h;have z:=QU t a h.1;have v:=QS r (a+bg t) h.2;rw[en,rj,aZ,List.length_cons];omega
end
mutual
def QT:∀(t:T)(a:Nat),mF t->∀n∈jA a t,0<=n.n/\n.n<=2147483647
 |.mk n l,a,h,m,hm=>by
  rw[mF]at h;rw[jA]at hm
  rcases nj hm with rfl|hm
  ·exact h.1.n
  ·exact QR l (a+1) h.2 m hm
def QR:∀(l:List T)(a:Nat),lD l->∀n∈en a l,0<=n.n/\n.n<=2147483647
 |[],a,h,m,hm=>by grind[en]
 |t::r,a,h,m,hm=>by
  rw[lD]at h;rw[en]at hm
  rcases sb hm with hm|hm
  ·exact QT t a h.1 m hm
  ·exact QR r (a+bg t) h.2 m hm
end
structure PB(p:Src)(i:Nat):Prop where
 w:dE p<=100*i
 num:mA p
def CY:Src:=⟨[],[],[],[]⟩
def PB.no:PB CY 0:=⟨a8 _,⟨(fun a h=>by simp[CY]at h),(fun a h=>by simp[CY]at h)⟩⟩
def PB.glob{p:Src}{i j:Nat}(h:PB p i)(s:ai)(o:s.length<=12)(E:i<j):PB ⟨p.aw++[s],p.aq,p.az,p.ak⟩ j:=by
 refine⟨?_,h.num.aq,h.num.ak⟩;exact zfe
def PB.arr{p:Src}{i j:Nat}(h:PB p i)(a:Ar)(o:a.name.length<=12)(F:0<=a.size/\a.size<=2147483647)(E:i<j):PB ⟨p.aw,p.aq++[a],p.az,p.ak⟩ j:=by
 refine⟨?_,fun x hx=>?_,h.num.ak⟩
 ·exact zfe
 ·rcases sb hx with hx|hx
  ·exact h.num.aq x hx
  grind
def FT:∀(l:List ai),(∀s∈l,s.length<=12)->wS l<=13*l.length
 |[],_=>a8 _
 |s::l,h=>by
  have z:=h s zfm
  have v:=FT l fun s o=>h s (by simp[o])
  unfold wS at *
  grind[cM]
def PB.fn{p:Src}{i j:Nat}(h:PB p i)(f:Fn)(t:T)(o:f.name.length<=12)(R:∀s∈f.params,s.length<=12)(H:mF t)(k b:Nat)(G:f.params.length<=k)(r:bg t<=1+4*b)(E:i+1+k+b<=j):PB ⟨p.aw,p.aq,p.az++[f],p.ak++jA p.ak.length t⟩ j:=by
 refine⟨?_,h.num.aq,fun x hx=>?_⟩
 ·have z:=h.w;have v:=QU t p.ak.length H;have I:=FT f.params R;unfold dE at *;simp only[rj,cM]at *
  grind
 ·rcases sb hx with hx|hx
  ·exact h.num.ak x hx
  ·have:=QT t _ H x hx;omega
def Iy{p:Src}(h:mA p)(i:Nat){x:Nd}(hx : -9223372036854775808<=x.n/\x.n<=9223372036854775807):mA ⟨p.aw,p.aq,p.az,p.ak.set i x⟩ :=
 ⟨h.aq,fun y m=>by rcases List.mem_or_eq_of_mem_set m with m|m;exact h.ak y m;grind⟩
def aaw{p:Src}{i:Nat}{x:Nd}(h:p.ak[i]?=some x):x.s.length+x.au.length+1<=dE p:=by
 have:=rm (f:=fun n:Nd=>n.s.length+n.au.length+1) (bR h)
 grind[dE]
def Yw(p:Src)(f g:Fn)(r:List Fn)(h:p.az=f::r)(hn:g.name=f.name)(R:g.params=f.params):dE ⟨p.aw,p.aq,g::r,p.ak⟩=dE p:=by
 unfold dE;simp only[h,cM,hn,R]
def Yv(p:Src)(a:Ar):dE ⟨p.aw,p.aq++[a],p.az,p.ak⟩=dE p+a.name.length+1:=by
 unfold dE;simp only[rj,cM];omega
def CZ(s:ai):∀(f:Nat)(n:Int)(a:Nat),0<=n->0<=(number s f n a).1
 |0,n,a,h=>h
 |f+1,n,a,h=>by
  rw[number]
  cases q:s[a]? with
  |none=>exact h
  |some c =>
   simp only
   by_cases o:eF c=true
   ·rw[ae o];refine CZ s f _ _ ?_
    grind[eF]
   grind
def M9{s:ai}{a:Nat}{c:UInt8}(o:s[a]?=some c)(hd:eF c=true)(n:Int):a<(number s (s.length+1) n a).2:=by
 grind[sr]
theorem NA:∀x∈cE,1<=x.length:=by decide
section
variable{s:ai}{a:Nat}{c:UInt8}
theorem Ql(o:s[a]?=some c)(G:¬(gD s a c).1.aj=0):a<(gD s a c).2:=by
 have i:=(bG o).1;unfold gD at G |-
 by_cases n:eF c=true
 ·simp_all[ae,M9]
 ·rw[ab n]at G |-
  by_cases q:small c=true
  ·rw[ae q];show a<gV s a;unfold gV;rw[run,o];simp only;rw[ae (by grind[fB])]
   grind[oV]
  grind[NA]
theorem TW(r:s[a]?=some c)(W:s.length<=6000)(hn:(gD s a c).1.n<=2147483647):Bn (gD s a c).1:=by
 have i:=(bG r).1;unfold gD at hn |-
 by_cases o:eF c=true
 ·rw[ae o]at hn |-;exact⟨⟨by simp,by grind⟩,CZ s _ 0 a (Int.le_refl _),hn⟩
 ·rw[ab o]at hn |-
  by_cases q:small c=true
  ·rw[ae q]at hn |-;exact⟨⟨by simp,by grind⟩,Int.le_refl _,hn⟩
  ·rw[ab q]at hn |-;split
   ·exact⟨⟨by simp,by grind⟩,Int.le_refl _,by simp⟩
   ·exact⟨⟨Int.le_refl _,by simp⟩,Int.le_refl _,by simp⟩
end
def tz{C:Type}{f:C->Nat}(h:∀x,1<=f x):∀l:List C,l.length<=cM f l
 |[]=>a8 _
 |x::l=>by have z:=h x;have v:=tz h l;grind[cM]
def zP(p:Src):p.aw.length<=dE p/\p.aq.length<=dE p/\p.az.length<=dE p/\p.ak.length<=dE p:=by
 have z:p.aw.length<=wS p.aw:=tz (fun s=>Nat.le_add_left 1 _) _;have v:=tz (f:=fun a:Ar=>a.name.length+1) (fun s=>Nat.le_add_left 1 _) p.aq;have I:=tz (f:=fun f:Fn=>f.name.length+wS f.params+1) (fun s=>Nat.le_add_left 1 _) p.az;have c:=tz (f:=fun n:Nd=>n.s.length+n.au.length+1) (fun s=>Nat.le_add_left 1 _) p.ak;unfold dE;omega
def pK(p:RS):Int × RS:=match p.l[p.i]? with
 |some t=>if t.aj=1 then(t.n,p.next)else(0,p.fail 7 p.place)
 |none=>(0,p.fail 7 p.place)
def I7{p:RS}(R:p.ok):p.to (pK p).2:=by
 grind[mY,cS,List.getElem?_eq_some_iff,RS.to,pK]
def Qf{p:RS}(h:SB p):0<=(pK p).1/\(pK p).1<=2147483647:=by
 unfold pK
 cases H:p.l[p.i]? with
 |none=>simp
 |some t =>
  simp only;split
  ·exact(h.at H).n
  simp
end Go.Sp
namespace Go.Im
open Go.Xp Go.Sp Go.Mn
def Ic(k i c:Int):Prop:=if k=14 then 7<=c/\c<=13 else if(k=9\/k=10)/\i≠0 then c=14 else 1<=c/\c<=6
mutual
def kR:T->Prop
 |.mk n l=>ot n.aj 0 l
def ot(k:Int):Int->List T->Prop
 |_,[]=>True
 |i,t::r=>Ic k i t.n.aj/\kR t/\ot k (i+1) r
end
mutual
def Rp:∀t:T,kR (er t)↔kR t
 |.mk n l=>by rw[er,kR,kR,MA l]
def MA{k:Int}:∀(l:List T){i:Int},ot k i (bp l)↔ot k i l
 |[],i=>by rw[bp]
 |t::r,i=>by
  rw[bp,ot,ot,Rp t,MA r]
  cases t;rw[er];rfl
end
def E.kd(a:E):1<=a.tree.n.aj/\a.tree.n.aj<=6:=by cases a<;>simp[E.tree,T.n]
def S.kd(a:S):7<=a.tree.n.aj/\a.tree.n.aj<=13:=by cases a<;>simp[S.tree,T.n]
mutual
def E.kc:∀a:E,kR a.tree
 |.num n=>by rw[E.tree,kR];trivial
 |.name s=>by rw[E.tree,kR];trivial
 |.at_ s a=>by rw[E.tree,kR];exact zcd
 |.call s l=>by rw[E.tree,kR];exact E.AG l _ zfm zfm zfm
 |.un s a=>by rw[E.tree,kR];exact zcd
 |.bin s a b=>by rw[E.tree,kR];exact⟨E.kd a,E.kc a,E.kd b,E.kc b,trivial⟩
def E.AG:∀(l:List E)(k:Int),k≠14->k≠9->k≠10->∀{i:Int},ot k i (E.aJ l)
 |[],k,_,_,_,i=>by rw[E.aJ,ot];trivial
 |a::l,k,z,v,I,i=>by
  rw[E.aJ,ot];exact⟨by unfold Ic;rw[ab z,ab aK];exact E.kd a,E.kc a,E.AG l k z v I⟩
end
mutual
def S.kc:∀a:S,kR a.tree
 |.set s a=>by rw[S.tree,kR];exact zcd
 |.put s a b=>by rw[S.tree,kR];exact⟨E.kd a,E.kc a,E.kd b,E.kc b,trivial⟩
 |.if1 c b=>zdY
 |.if2 c b d=>by rw[S.tree,kR];exact⟨E.kd c,E.kc c,rfl,by rw[kR];exact S.AG b,rfl,by rw[kR];exact S.AG d,trivial⟩
 |.while_ c b=>zdY
 |.ret a=>by rw[S.tree,kR];exact zcd
 |.do_ a=>by rw[S.tree,kR];exact zcd
 |.var s a=>by rw[S.tree,kR];exact zcd
def S.AG:∀(l:List S){i:Int},ot 14 i (S.aJ l)
 |[],i=>by rw[S.aJ,ot];trivial
 |a::l,i=>by rw[S.aJ,ot];exact⟨S.kd a,S.kc a,S.AG l⟩
end
def Rn{k:Int}:∀{l:List T}{j:Nat}{i:Int}{t:T},ot k i l->l[j]?=some t->Ic k (i+(j:Nat)) t.n.aj/\kR t
 |[],j,i,t,_,h=>by simp at h
 |u::l,0,i,t,h,G=>by rw[ot]at h;cases G;exact⟨by simpa using h.1,h.2.1⟩
 |u::l,j+1,i,t,h,G=>by
  rw[ot]at h;have:=Rn (j:=j) h.2.2 (by simpa using G)
  rwa[show i+1+(j:Int)=i+((j+1:Nat):Int) by omega]at this
def Good.kc{p:Src}{l:List T}(h:Good p l){i:Nat}{t:T}(H:l[i]?=some t):kR t/\t.n.aj=14:=by
 have⟨E,N⟩:=h.st.Af;have M:=(bG H).1;have s:=N.len;have⟨z,v⟩:=N.at_ i t _ H (cq aK);refine⟨(Rp t).1 ?_,?_⟩
 ·rw[v,cx,kR];exact S.AG _
 ·cases t;rw[er,cx]at v;exact congrArg Nd.aj (T.mk.inj v).1
end Go.Im
namespace Go.Mn
mutual
def R.ex:R->Prop
 |.num _=>True
 |.loc _=>True
 |.glob _=>True
 |.size _=>True
 |.get=>True
 |.at_ _ a=>a.ex
 |.put a=>a.ex
 |.call _ l=>R.Ad l
 |.un _ a=>a.ex
 |.bin _ a b=>a.ex/\b.ex
 |.and_ a b=>a.ex/\b.ex
 |.or_ a b=>a.ex/\b.ex
 |_=>False
def R.Ad:List R->Prop
 |[]=>True
 |a::l=>a.ex/\R.Ad l
end
def LG:∀{l:List R}{k:Nat}{r:R},R.Ad l->l[k]?=some r->r.ex
 |[],k,r,_,h=>by simp at h
 |a::l,0,r,s,h=>by rw[R.Ad]at s;cases h;exact s.1
 |a::l,k+1,r,s,h=>by rw[R.Ad]at s;exact LG s.2 zfs
def Hy{O:Op}{F:Nat}{B:Nat->R}:∀g:Nat,(∀r s v t,r.ex->ev O F B g r s=some (v,t)->t.left=s.left)/\(∀r s v t,r.ex->bB O F B g r s=some (v,t)->t.left=s.left)/\(∀l q s v t,R.Ad l->kb O F B g l q s=some (v,t)->t.left=s.left)
 |0=>⟨fun r s v t _ h=>zfT,fun r s v t _ h=>zfU,fun l q s v t _ h=>zfV⟩
 |g+1=>by
  obtain⟨z,A,I⟩:=Hy g;refine⟨fun r s v t i h=>?_,fun r s v t i h=>?_,fun l q s v t d h=>?_⟩
  ·rw[ev]at h;split at h
   ·cases h;rfl
   ·have:=A _ _ _ _ i h;exact this
  ·have c:∀{C:Type}{a:R}{k:Int->M->Option (C × M)}{s:M}{v:C}{t:M},a.ex->jc (ev O F B g a s) k=some (v,t)->(∀n u,u.left=s.left->k n u=some (v,t)->t.left=s.left)->t.left=s.left:=fun Q h H=>by
    have⟨n,u,G,o⟩:=br h;exact H n u (z _ _ _ _ Q G) o
   cases r<;>simp only[R.ex]at i<;>simp only[bB]at h
   all_goals first
    |(cases h;rfl)
    |(split at h<;>(cases h;rfl))
    |(refine c i h fun n u W h=>?_;grind[M.stop])
    |(refine c i.1 h fun n u W h=>?_;split at h;(·cases h;exact W);first|(refine(c i.2 h fun m w e h=>?_).trans W;grind[M.stop])|(split at h;(·cases h;exact W);refine(c i.2 h fun m w e h=>?_).trans W;grind[M.stop]))
    |skip
   ·have⟨a,u,G,h⟩:=br h;have W:=I _ _ _ _ _ i G;split at h
    ·cases h;exact W
    ·split at h
     ·cases h;exact W
     ·have⟨b,w,o,h⟩:=br h
      cases h;exact W
  ·cases l with
   |nil=>rw[kb]at h;cases h;rfl
   |cons a l =>
    rw[kb]at h;have⟨n,u,G,h⟩:=br h;have W:=z _ _ _ _ d.1 G;split at h
    ·cases h;exact W
    ·exact(I _ _ _ _ _ d.2 h).trans W
end Go.Mn
namespace Go.Im
open Go.Xp Go.Sp Go.Mn
def UP{c:Prop}[Decidable c]{x y:R}(hx:c->x.ex)(m:¬c->y.ex):(if c then x else y).ex:=by
 by_cases h:c
 ·rw[ae h];exact hx h
 ·rw[ab h];exact m h
def US{r:List R}(h:R.Ad r)(k:Nat):(r0 r k).ex:=by
 unfold r0
 cases G:r[k]? with
 |some a=>exact LG h G
 |none=>trivial
mutual
def RF(p:Src):∀(t:T)(ls:List ai),kR t->1<=t.n.aj/\t.n.aj<=6->(qB p t ls).ex
 |.mk n l,ls,h,G=>by
  rw[kR]at h;have G:1<=n.aj/\n.aj<=6:=G;have H:=Nx p l ls h aK aK aK
  have F:∀k,(r0 (eA p l ls) k).ex:=fun k=>US H k
  rw[qB];unfold nY
  repeat' (refine UP (fun _=>?_) (fun _=>?_))
  all_goals first|(exfalso;omega)|(simp only[R.ex];done)|(simp only[R.ex];first|exact F _|exact H|exact⟨F _,F _⟩)
def Nx(p:Src){k:Int}:∀(l:List T)(ls:List ai){i:Int},ot k i l->k≠14->k≠9->k≠10->R.Ad (eA p l ls)
 |[],ls,i,_,_,_,_=>by rw[eA];trivial
 |t::r,ls,i,h,z,v,I=>by
  rw[ot]at h;rw[eA,R.Ad];have o:=h.1;unfold Ic at o;rw[ab z,ab aK]at o;exact⟨RF p t ls h.2.1 o,Nx p r _ h.2.2 z v I⟩
end
end Go.Im
