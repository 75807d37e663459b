/- Part 3 of proofs that are told in their last texts. -/
import Derived.Test.YtfmnfhpifpjljaaGreatDoorQ2
open List (all_cons length_set mem_append prefix_refl take_zero)
set_option linter.unusedVariables false
set_option linter.unusedSimpArgs false
set_option linter.defProp false
set_option maxRecDepth 100000
namespace Go.Mn
structure KK(F:Nat)(R:M->M->Prop):Prop where
 rfl:∀s,R s s
 trans:∀s t u,R s t->R t u->R s u
 stop:∀s c w,R s (s.stop c w)
 step:∀s,s.be<F->R s { s with be:=s.be+1 }
 inp:∀(s:M)a r,s.inp=a::r->R s { s with inp:=r }
 out:∀(s:M)n,R s { s with out:=s.out++[n] }
 locs:∀(s:M)k n,R s { s with locs:=s.locs.set k n }
 cS:∀(s:M)k n,R s { s with cS:=s.cS.set k n }
 cells:∀(s:M)k n v,R s (rM s k n v)
 ret:∀(s:M)n,R s { s with left:=true,q5:=n }
 call:∀(s:M)args t,R (s.enter args) t->R s (s.leave t)
section
variable{O:Op}{F:Nat}{B:Nat->R}{Rl:M->M->Prop}
def ep{R β:Type}{x:Option (R × M)}{k:R->M->Option (β × M)}{s:M}{y:β}{u:M}(Q:KK F Rl)(hx:∀v t,x=some (v,t)->Rl s t)(N:∀v t y u,k v t=some (y,u)->Rl t u)(h:gA x k=some (y,u)):Rl s u:=by
 have⟨v,t,o,b⟩:=c8 h;exact Q.trans _ _ _ (hx v t o) (N v t y u b)
theorem dX{R:Type}{c:Prop}[Decidable c]{a b:Option (R × M)}{s:M}{y:R}{u:M}(ha:a=some (y,u)->Rl s u)(i:b=some (y,u)->Rl s u)(h:(if c then a else b)=some (y,u)):Rl s u:=by
 grind
theorem bQ{R:Type}{v y:R}{s t u:M}(G:Rl s t)(h:some (v,t)=some (y,u)):Rl s u:=by grind
theorem yG(Q:KK F Rl):∀g:Nat,(∀r s v t,ev O F B g r s=some (v,t)->Rl s t)/\(∀r s v t,cQ O F B g r s=some (v,t)->Rl s t)/\(∀l T s v t,rf O F B g l T s=some (v,t)->Rl s t)/\(∀l s v t,qq O F B g l s=some (v,t)->Rl s t)/\(∀c b s v t,tN O F B g c b s=some (v,t)->Rl s t)
 |0=>⟨fun r s v t h=>(by grind[ev]),fun r s v t h=>(by grind[cQ]),fun l T s v t h=>(by grind[rf]),fun l s v t h=>(by grind[qq]),fun c b s v t h=>(by grind[tN])⟩
 |g+1=>by
  have⟨q,d,G,C,e⟩:=yG Q g;have z:=Q.rfl;refine⟨fun r s v t h=>?_,fun r s v t h=>?_,fun l T s v t h=>?_,fun l s v t h=>?_,fun c b s v t h=>?_⟩
  ·rw[ev]at h;split at h
   ·exact bQ (Q.stop _ _ _) h
   ·rename_i A;exact Q.trans _ _ _ (Q.step s aH) (d _ _ _ _ h)
  ·have S:=fun(t:M)c w=>Q.stop t c w
   cases r with
   |num n=>simp_all[cQ,bQ]
   |loc k=>simp_all[cQ,bQ]
   |glob k=>simp_all[cQ,bQ]
   |size n=>simp_all[cQ,bQ]
   |get =>
    simp only[cQ]at h
    cases j:s.inp with
    |nil=>grind
    |cons a r=>rw[j]at h;exact bQ (Q.inp s a r j) h
   |at_ k i=>simp only[cQ]at h;exact ep Q (q _ _) (fun v t y u=>dX (bQ (z _)) (dX (bQ (z _)) (bQ (S _ _ _)))) h
   |put a=>simp only[cQ]at h;exact ep Q (q _ _) (fun v t y u=>dX (bQ (z _)) (bQ (Q.out _ _))) h
   |call f l =>
    simp only[cQ]at h;refine ep Q (G _ _ _) (fun v t y u=>dX (bQ (z _)) (dX (bQ (S _ _ _)) fun h=>?_)) h;have⟨w,x,R,W⟩:=c8 h;cases W;exact Q.call _ _ _ (q _ _ _ _ R)
   |un o a=>exact zew
   |bin o a b=>simp only[cQ]at h;exact ep Q (q _ _) (fun v t y u=>dX (bQ (z _)) (ep Q (q _ _) (fun v t y u=>dX (bQ (z _)) (dX (bQ (S _ _ _)) (bQ (z _)))))) h
   |and_ a b=>exact zb1
   |or_ a b=>exact zb1
   |setL k a=>simp only[cQ]at h;exact ep Q (q _ _) (fun v t y u=>dX (bQ (z _)) (bQ (Q.locs _ _ _))) h
   |setG k a=>simp only[cQ]at h;exact ep Q (q _ _) (fun v t y u=>dX (bQ (z _)) (bQ (Q.cS _ _ _))) h
   |putA k i v=>simp only[cQ]at h;exact ep Q (q _ _) (fun v t y u=>dX (bQ (z _)) (dX (ep Q (q _ _) (fun v t y u=>dX (bQ (z _)) (bQ (Q.cells _ _ _ _)))) (bQ (S _ _ _)))) h
   |if1 c b=>simp only[cQ]at h;exact ep Q (q _ _) (fun v t y u=>dX (bQ (z _)) (dX (ep Q (q _ _) (fun v t y u=>bQ (z _))) (bQ (z _)))) h
   |if2 c b m=>simp only[cQ]at h;exact ep Q (q _ _) (fun v t y u=>dX (bQ (z _)) (dX (ep Q (q _ _) (fun v t y u=>bQ (z _))) (ep Q (q _ _) (fun v t y u=>bQ (z _))))) h
   |while_ c b=>simp only[cQ]at h;exact ep Q (e _ _ _) (fun v t y u=>bQ (z _)) h
   |ret a=>simp only[cQ]at h;exact ep Q (q _ _) (fun v t y u=>dX (bQ (z _)) (bQ (Q.ret _ _))) h
   |do_ a=>exact zew
   |block l=>simp only[cQ]at h;exact ep Q (C _ _) (fun v t y u=>bQ (z _)) h
  ·cases l with
   |nil=>simp_all[rf,bQ]
   |cons r l=>simp only[rf]at h;exact ep Q (q _ _) (fun v t y u=>dX (bQ (z _)) (G _ _ _ _ _)) h
  ·cases l with
   |nil=>simp_all[qq,bQ]
   |cons r l=>simp only[qq]at h;exact ep Q (q _ _) (fun v t y u=>dX (bQ (z _)) (C _ _ _ _)) h
  ·simp only[tN]at h;exact ep Q (q _ _) (fun v t y u=>dX (bQ (z _)) (dX (bQ (z _)) (ep Q (q _ _) (fun v t y u=>dX (bQ (z _)) (e _ _ _ _ _))))) h
def Gro(F:Nat)(s t:M):Prop:=s.out <+: t.out/\(s.be<=F->t.be<=F)
def gro(F:Nat):KK F (Gro F) where
 rfl s:=⟨prefix_refl _,id⟩
 trans s t u h k:=⟨h.1.trans k.1,fun x=>k.2 (h.2 x)⟩
 stop s c w:=⟨prefix_refl _,id⟩
 step s h:=⟨prefix_refl _,fun _=>h⟩
 inp s a r h:=⟨prefix_refl _,id⟩
 out s n:=⟨List.prefix_append _ _,id⟩
 locs s k n:=⟨prefix_refl _,id⟩
 cS s k n:=⟨prefix_refl _,id⟩
 cells s k n v:=⟨prefix_refl _,id⟩
 ret s n:=⟨prefix_refl _,id⟩
 call s args t h:=h
structure EN(s t:M):Prop where
 cS:t.cS.length=s.cS.length
 cells:t.cells.length=s.cells.length
 rows:∀k,(row t k).length=(row s k).length
 locs:t.locs.length=s.locs.length
 a6:t.a6=s.a6
theorem Vp(s:M)(k:Nat)(n v:Int)(j:Nat):(row (rM s k n v) j).length=(row s j).length:=by
 grind[row,rM]
def TJ(F:Nat):KK F EN where
 rfl s:=⟨Eq.refl _,Eq.refl _,fun _=>Eq.refl _,Eq.refl _,Eq.refl _⟩
 trans s t u h k:=⟨k.cS.trans h.cS,k.cells.trans h.cells,fun j=>(k.rows j).trans (h.rows j),k.locs.trans h.locs,k.a6.trans h.a6⟩
 stop s c w:=⟨Eq.refl _,Eq.refl _,fun _=>Eq.refl _,Eq.refl _,Eq.refl _⟩
 step s h:=⟨Eq.refl _,Eq.refl _,fun _=>Eq.refl _,Eq.refl _,Eq.refl _⟩
 inp s a r h:=⟨Eq.refl _,Eq.refl _,fun _=>Eq.refl _,Eq.refl _,Eq.refl _⟩
 out s n:=⟨Eq.refl _,Eq.refl _,fun _=>Eq.refl _,Eq.refl _,Eq.refl _⟩
 locs s k n:=⟨Eq.refl _,Eq.refl _,fun _=>Eq.refl _,length_set,Eq.refl _⟩
 cS s k n:=⟨length_set,Eq.refl _,fun _=>Eq.refl _,Eq.refl _,Eq.refl _⟩
 cells s k n v:=⟨Eq.refl _,length_set,Vp s k n v,Eq.refl _,Eq.refl _⟩
 ret s n:=⟨Eq.refl _,Eq.refl _,fun _=>Eq.refl _,Eq.refl _,Eq.refl _⟩
 call s args t h:=⟨h.cS,h.cells,h.rows,Eq.refl _,by show t.a6-1=s.a6;rw[h.a6];rfl⟩
end
section
variable{O:Op}{F F':Nat}{B:Nat->R}
end
structure Mo where
 g:Nat->Nat
 a:Nat->Nat
 f:Nat->Nat
structure Dm where
 g:Nat->Prop
 a:Nat->Prop
 f:Nat->Prop
section
variable{O:Op}{F:Nat}{B B':Nat->R}{μ:Mo}{acj:Dm}
end
end Go.Mn
namespace Go.Im
open Go.Xp Go.Sp Go.Mn
def zu(l:List ab)(s:ab):Nat:=(bN (fun x=>x==s) l).toNat
def sX(p:Src)(s:ab):Int:=match p.aj[(fo p s).toNat]? with|some a=>a.size|none=>0
def r0(r:List R)(k:Nat):R:=match r[k]? with|some x=>x|none=>.num 0
def qS(p:Src)(n:Nd)(l:List T)(ls:List ab)(r:List R):R :=
 if n.ai=1 then .num n.n
 else if n.ai=2 then(if ls.contains n.s=true then .loc (zu ls n.s)else .glob (zu p.aq n.s))
 else if n.ai=3 then .at_ (fo p n.s).toNat (r0 r 0)
 else if n.ai=4 then(if n.s=dY then .size (sX p (ke (.mk n l)).s)else if n.s=jw then .get else if n.s=jM then .put (r0 r 0)else .call (iN p n.s).toNat r)
 else if n.ai=5 then .un n.s (r0 r 0)
 else if n.ai=6 then(if n.s=[38,38]then .and_ (r0 r 0) (r0 r 1)else if n.s=[124,124]then .or_ (r0 r 0) (r0 r 1)else .bin n.s (r0 r 0) (r0 r 1))
 else if n.ai=7 then(if ls.contains n.s=true then .setL (zu ls n.s) (r0 r 0)else .setG (zu p.aq n.s) (r0 r 0))
 else if n.ai=8 then .putA (fo p n.s).toNat (r0 r 0) (r0 r 1)
 else if n.ai=9 then(if l.length=3 then .if2 (r0 r 0) (r0 r 1) (r0 r 2)else .if1 (r0 r 0) (r0 r 1))
 else if n.ai=10 then .while_ (r0 r 0) (r0 r 1)
 else if n.ai=11 then .ret (r0 r 0)
 else if n.ai=12 then .do_ (r0 r 0)
 else if n.ai=13 then .setL ls.length (r0 r 0)
 else .block r
mutual
def uO(p:Src):T->List ab->R
 |.mk n l,t=>qS p n l t (jl p l t)
def jl(p:Src):List T->List ab->List R
 |[],_=>[]
 |t::r,u=>uO p t u::jl p r (u++bW t)
end
def qR(p:Src)(l:List T)(f:Nat):R:=match p.av[f]?,l[f]? with
 |some g,some t=>uO p t g.params
 |_,_=>.num 0
structure zg(p q:Src)(fr to:ab):Prop where
 glob:∀s,p.aq.contains s=true->zu q.aq (bd fr to s)=zu p.aq s
 arr:∀s,0<=fo p s->fo q (bd fr to s)=fo p s
 fn:∀s,0<=iN p s->iN q (bd fr to s)=iN p s
 size:∀k:Nat,(q.aj[k]?).map (·.size)=(p.aj[k]?).map (·.size)
 rfr:dx fr=false
 rto:dx to=false
 wfr:word fr=true
def RZ{p q:Src}{s s':ab}(h:fo q s'=fo p s)(m:∀k:Nat,(q.aj[k]?).map (·.size)=(p.aj[k]?).map (·.size)):sX q s'=sX p s:=by
 grind[sX]
section
variable{p q:Src}{fr to:ab}
theorem oE(n:Nd)(ls:List ab):(dK fr to n ls).ai=n.ai/\(dK fr to n ls).n=n.n:=by grind[dK]
theorem ti{n:Nd}(h:n.ai=13)(ls:List ab):dK fr to n ls=n:=by
 unfold dK jS
 grind
theorem qQ{n:Nd}{ls:List ab}(N:n.ai≠13)(M:n.ai=4\/ls.contains n.s=false):(dK fr to n ls).s=bd fr to n.s:=by
 unfold dK jS bd
 grind
theorem Gq{n:Nd}{ls:List ab}(N:n.ai≠4)(M:ls.contains n.s=true):dK fr to n ls=n:=by
 unfold dK jS
 grind
theorem CF{n:Nd}(ls:List ab)(h:n.s≠fr):dK fr to n ls=n:=by
 unfold dK jS
 grind
mutual
def Aj:∀(t:T)(ls:List ab),bW (di fr to t ls)=bW t
 |.mk n l,ls=>by
  rw[di,bW,bW,DO l ls,(oE n ls).1]
  simp_all[ti,ae]
def DO:∀(l:List T)(ls:List ab),bC (bE fr to l ls)=bC l
 |[],ls=>by rw[bE]
 |t::r,ls=>by rw[bE,bC,bC,Aj t ls,DO r]
end
theorem rZ(l:List T)(ls:List ab):(bE fr to l ls).length=l.length:=by
 induction l generalizing ls with
 |nil=>rw[bE]
 |cons t r O=>grind[bE]
theorem sy{s:ab}(h:dx s=false):s≠dY/\s≠jw/\s≠jM:=by
 simp_all[dx,Bool.or_eq_false_iff,beq_eq_false_iff_ne,ne_eq]
theorem ph(H:zg p q fr to){s w:ab}(l:w=dY\/w=jw\/w=jM):bd fr to s=w↔s=w:=by
 have⟨a1,F,A⟩:=sy H.rfr;have⟨m,n,v⟩:=sy H.rto
 grind[bd]
theorem JZ(H:zg p q fr to){n:Nd}{l:List T}{ls:List ab}{r:List R}(d:bG p (.mk n l) ls=0)(hto:ls.contains to=false)(hs:n.ai=2\/n.ai=3\/n.ai=4\/n.ai=7\/n.ai=8\/n.ai=13\/word n.s=false) :
  qS q (dK fr to n ls) (bE fr to l ls) ls r=qS p n l ls r:=by
 have Xr:∀s,s≠fr->bd fr to s=s:=fun s h=>by grind[bd]
 have S:bd fr to fr=to:=by simp[ab,bd]
 have G:∀s,ls.contains s=false->ls.contains (bd fr to s)=false:=fun s h=>by
  grind
 have kk:=oE (fr:=fr) (to:=to) n ls;unfold bG at d;simp only[show(T.mk n l).n=n from rfl]at d
 by_cases z:n.ai=2\/n.ai=7
 ·have c:n.ai≠13:=by omega
  have t:n.ai≠4:=by omega
  rw[ae c,ak z]at d
  cases C:ls.contains n.s with
  |true =>
   rw[Gq t C]
   grind[qS,bE]
  |false =>
   have u:p.aq.contains n.s=true:=by
    grind
   have j:=qQ (fr:=fr) (to:=to) c (.inr C);have W:=H.glob n.s u
   grind[qS,dK,bE]
 ·by_cases B:n.ai=3\/n.ai=8
  ·have c:n.ai≠13:=by omega
   rw[ae c,ae z,ak B]at d
   have E:ls.contains n.s=false/\0<=fo p n.s:=by
    grind
   have j:=qQ (fr:=fr) (to:=to) c (.inr E.1);have ha:=H.arr n.s E.2
   grind[qS,dK,bE]
  ·by_cases t:n.ai=4
   ·have c:n.ai≠13:=by omega
    rw[ae c,ae z,ae B,ak t]at d;have j:=qQ (fr:=fr) (to:=to) (ls:=ls) c (.inl t)
    have v:∀{a b:R}(w:ab),(w=dY\/w=jw\/w=jM)->(if bd fr to n.s=w then a else b)=if n.s=w then a else b:=fun{a b}w M=>by
     by_cases e:n.s=w
     ·rw[ak e,ak ((ph H M).2 e)]
     ·rw[ae e,ae fun N=>e ((ph H M).1 N)]
    unfold qS;rw[kk.1,j];rw[ae (show ¬n.ai=1 by omega),ae (show ¬n.ai=2 by omega),ae (show ¬n.ai=3 by omega),ak t,ae (show ¬n.ai=1 by omega),ae (show ¬n.ai=2 by omega),ae (show ¬n.ai=3 by omega),ak t];rw[v dY (.inl rfl),v jw (.inr (.inl rfl)),v jM (.inr (.inr rfl))]
    by_cases m:n.s=dY
    ·rw[ak m,ak m];unfold dv bU at d;simp only[show(T.mk n l).n=n from rfl,show(T.mk n l).aw=l from rfl]at d
     have A:l.length=1:=by
      by_cases F:l.length=1
      ·exact F
      ·rw[ae (by simp[F])]at d
       have Y:gD p n.s=1:=by unfold gD;rw[ae (by rw[m];decide),ak (.inr m)]
       omega
     rw[ak zff]at d
     obtain⟨k,rfl⟩:∃k,l=[k]:=by
      match l,A with
      |[k],_=>simp
     have i:ew p k.n ls=false:=by
      cases i:ew p k.n ls with
      |false=>rfl
      |true=>rw[ak (show ew p (ke (.mk n [k])) ls=true from i)]at d;cases d
     unfold ew at i;simp only[Bool.or_eq_false_iff,bne_eq_false_iff_eq,decide_eq_false_iff_not]at i
     congr 1
     cases k with
     |mk o kl =>
      have X:o.ai=2:=i.1.1;have O:=qQ (fr:=fr) (to:=to) (n:=o) (ls:=ls) aH (.inr i.2);show sX q (dK fr to o ls).s=sX p o.s;rw[O];exact RZ (H.arr o.s (by have:=i.1.2;show 0<=fo p o.s;change ¬fo p o.s<0 at this;omega)) H.size
    ·rw[ae m,ae m]
     by_cases u:n.s=jw
     ·grind
     ·rw[ae u,ae u]
      by_cases J:n.s=jM
      ·grind
      ·rw[ae J,ae J]
       have Q:0<=iN p n.s:=by
        unfold dv bU at d;simp only[show(T.mk n l).n=n from rfl]at d;rw[ae (by simp[m])]at d
        have Y:gD p n.s ≠ -1:=fun e=>by omega
        unfold iN bN
        grind[gD]
       rw[H.fn n.s Q]
   ·have Z:dK fr to n ls=n:=by
     by_cases c:n.ai=13
     ·grind[ti]
     ·refine CF ls fun e=>?_
      have:word n.s=false:=by grind
      rw[e,H.wfr]at this;cases this
    rw[Z];unfold qS
    grind[rZ]
mutual
def Pe(H:zg p q fr to):∀(t:T)(ls:List ab),ri p t ls->ky t->ls.contains to=false->(bW t).contains to=false->uO q (di fr to t ls) ls=uO p t ls
 |.mk n l,ls,A,G,o,b=>by
  rw[ri]at A;rw[ky]at G
  have j:(bC l).contains to=false:=by
   simp_all[bW,List.contains_eq_mem,mem_append,decide_eq_false_iff_not,not_or]
  rw[di,uO,uO]
  cases m:bU (.mk n l)with
  |true =>
   unfold bU at m;simp only[aI,beq_iff_eq,show(T.mk n l).n=n from rfl]at m
   have c:dK fr to n ls=n:=CF ls fun e=>(sy H.rfr).1 zff
   have:=JZ H (r:=jl p l ls) A.1 o G.1
   grind[qS,dK,bE,jl]
  |false =>
   rw[J2 H l ls (A.2 m) G.2 o j]
   grind[JZ]
def J2(H:zg p q fr to):∀(l:List T)(ls:List ab),pB p l ls->eQ l->ls.contains to=false->(bC l).contains to=false->jl q (bE fr to l ls) ls=jl p l ls
 |[],ls,_,_,_,_=>by rfl
 |t::r,ls,A,G,o,b=>by
  rw[pB]at A;rw[eQ]at G
  have j:(bW t).contains to=false/\(bC r).contains to=false:=by
   grind[bC]
  rw[bE,jl,jl,Aj,Pe H t ls A.1 G.1 o j.1,J2 H r _ A.2 G.2 (by
   grind) j.2]
end
end
mutual
def JL:∀t:T,qz t->bW t=[]
 |.mk n l,h=>by
  rw[qz]at h;rw[bW,Af l h.2,ae h.1];rfl
def Af:∀l:List T,kh l->bC l=[]
 |[],_=>by rfl
 |t::r,h=>by
  rw[kh]at h;rw[bC,JL t h.1,Af r h.2];rfl
end
mutual
def Yd{p:Src}:∀(t:T)(ls:List ab),ri p t ls->gh t->ls.length<=40->(ls++bW t).length<=40
 |.mk n l,ls,A,m,M=>by
  rw[ri]at A;rw[gh]at m;rw[bW]
  by_cases W:n.ai=13
  ·rw[Af l (m.1 W),ak W];have:=A.1;unfold bG at this;rw[ak (show(T.mk n l).n.ai=13 from W)]at this
   grind
  ·rw[ae W,eT]
   cases o:bU (.mk n l)with
   |false=>exact CA l ls (A.2 o) m.2.2 M
   |true =>
    have q:=A.1;unfold bG dv at q;unfold bU at o;simp only[aI,beq_iff_eq,show(T.mk n l).n=n from rfl,show(T.mk n l).aw=l from rfl]at o
    match l,o.2,m with
    |[.mk B r],_,m =>
     rw[ae (show ¬(T.mk n [.mk B r]).n.ai=13 from W),ae (show ¬((T.mk n [.mk B r]).n.ai=2\/(T.mk n [.mk B r]).n.ai=7) by grind[T.n]),ae (show ¬((T.mk n [.mk B r]).n.ai=3\/(T.mk n [.mk B r]).n.ai=8) by grind[T.n]),ak (show(T.mk n [.mk B r]).n.ai=4 from o.1.1),ak (show bU (.mk n [.mk B r])=true by grind[T.n,T.aw,bU])]at q
     have i:ew p (ke (.mk n [.mk B r])) ls=false:=by
      grind
     unfold ew at i;simp only[Bool.or_eq_false_iff,bne_eq_false_iff_eq]at i;have N:B.ai=2:=i.1.1;have u:=m.2.2;rw[eK,gh]at u;have e:=u.1.2.1 N;subst e;rw[bC,bC,bW,bC,ae aH]
     grind
def CA{p:Src}:∀(l:List T)(ls:List ab),pB p l ls->eK l->ls.length<=40->(ls++bC l).length<=40
 |[],ls,_,_,M=>by grind[bC]
 |t::r,ls,A,m,M=>by
  rw[pB]at A;rw[eK]at m;rw[bC,<-dP];exact CA r _ A.2 m.2 (Yd t ls A.1 m.1 M)
end
def zV{R:Type}{f:R->Bool}{l:List R}(h:0<=bN f l):(bN f l).toNat<l.length:=by
 grind[List.findIdx?_eq_some_iff_getElem,bN]
def ZF{l:List ab}{s:ab}(h:l.contains s=true):zu l s<l.length:=by
 refine zV ?_
 grind[bN]
def ub(p:Src):∀(l:List T)(ls:List ab),(jl p l ls).length=l.length
 |[],ls=>by rfl
 |t::r,ls=>by rw[jl,List.length_cons,List.length_cons,ub p r]
end Go.Im
namespace Go.Mn
open Go.Xp (ab bL)
def qF(n:Int):Prop := -2147483648<=n/\n<=2147483647
def nt(n:Int):qF (bL n):=by grind[qF,bL]
def oT(b:Bool):Int:=if b=true then 1 else 0
def KM(a b:Int):Int:=bL (bL a+bL b)
def Ey(a b:Int):Int:=bL (bL a-bL b)
def Lx(a b:Int):Int:=bL (bL a*bL b)
def yD(a b:Int):Int × Int:=if bL b=0 then(0,2)else if bL a = -2147483648/\bL b = -1 then(0,3)else((bL a).tdiv (bL b),0)
def Eu(a b:Int):Int × Int:=if bL b=0 then(0,2)else((bL a).tmod (bL b),0)
def nb(n:Int):Nat:=(n%4294967296).toNat
def kj(n:Int):nb n<4294967296:=by grind[nb]
def O1(n:Int):((nb n:Nat):Int)=n%4294967296:=by grind[nb]
def xe(n:Int):Nat:=nb n%32
def oh(s:Nat)(a b:Int):Int:=match s with
 |1=>bL ((nb a &&& nb b:Nat):Int)
 |2=>bL ((nb a |||nb b:Nat):Int)
 |3=>bL ((nb a ^^^ nb b:Nat):Int)
 |4=>bL ((nb a*2^xe b:Nat):Int)
 |5=>(bL a).fdiv (2^xe b)
 |6=>bL ((nb a / 2^xe b:Nat):Int)
 |7=>bL ((nb a*2^xe b |||nb a / 2^(32-xe b):Nat):Int)
 |8=>bL ((nb a / 2^xe b |||nb a*2^(32-xe b):Nat):Int)
 |_=>0
def jg(s:Nat)(a b:Int):Bool:=match s with
 |1=>bL a==bL b
 |2=>bL a != bL b
 |3=>decide (bL a<bL b)
 |4=>decide (a%4294967296<b%4294967296)
 |5=>decide (bL b<bL a)
 |6=>decide (b%4294967296<a%4294967296)
 |7=>decide (bL a<=bL b)
 |8=>decide (a%4294967296<=b%4294967296)
 |9=>decide (bL b<=bL a)
 |10=>decide (b%4294967296<=a%4294967296)
 |_=>false
def Wl(a b:Int):qF (yD a b).1:=by
 have v:=nt a;have i:=nt b;unfold yD;generalize bL a=x at *;generalize bL b=y at *;unfold qF at *;split
 ·simp
 split
 ·simp
 ·rename_i o c;simp only;have G:(x.tdiv y).natAbs=x.natAbs / y.natAbs:=Int.natAbs_tdiv x y
  by_cases s:y=1
  ·grind
  ·by_cases u:y = -1
   ·grind
   ·have C:x.natAbs / y.natAbs<=x.natAbs / 2:=Nat.div_le_div_left aH aH;omega
def YV(o:ab)(a:Int):Int:=if o=[45]then Ey 0 a else if o=[33]then oT (a==0)else oh 3 a (-1)
def rm(o:ab)(a b:Int):Int × Int :=
 if o=[47]then yD a b else if o=[37]then Eu a b
 else if o=[43]then(KM a b,0)else if o=[45]then(Ey a b,0)else if o=[42]then(Lx a b,0)
 else if o=[61,61]then(oT (jg 1 a b),0)else if o=[33,61]then(oT (jg 2 a b),0)else if o=[60]then(oT (jg 3 a b),0)
 else if o=[62]then(oT (jg 5 a b),0)else if o=[60,61]then(oT (jg 7 a b),0)else if o=[62,61]then(oT (jg 9 a b),0)
 else if o=[38]then(oh 1 a b,0)else if o=[124]then(oh 2 a b,0)else if o=[94]then(oh 3 a b,0)else if o=[60,60]then(oh 4 a b,0)else if o=[62,62]then(oh 5 a b,0)
 else(0,0)
def qP:Op:=⟨YV,rm,bL,fun n=>n%4294967296%256⟩
section
variable{O:Op}{F:Nat}{B:Nat->R}
end
end Go.Mn
namespace Go.Im
open Go.Xp Go.Sp
def w9(n:Nd)(ls:List ab):Int:=if n.ai=13 then(ls.length:Int)else bN (fun x=>x==n.s) ls
def gm(s:List Int)(a:Nat)(t:T)(ls:List ab):List Int:=s.set a (w9 t.n ls)
mutual
def tz(own:List Int):Nat->T->List ab->Prop
 |a,.mk n l,t=>own[a]?=some (w9 n t)/\sc own (a+1) l t
def sc(own:List Int):Nat->List T->List ab->Prop
 |_,[],_=>True
 |a,t::r,u=>tz own a t u/\sc own (a+aU t) r (u++bW t)
end
mutual
def tz.congr{o Y:List Int}:∀(t:T)(a:Nat)(ls:List ab),(∀j,a<=j->j<a+aU t->Y[j]?=o[j]?)->tz o a t ls->tz Y a t ls
 |.mk n l,a,ls,e,h=>by
  rw[tz]at h |-;rw[aU]at e;exact⟨by rw[e a (aY _) aH];exact h.1,sc.congr l (a+1) ls (fun j q b=>e j aH aH) h.2⟩
def sc.congr{o Y:List Int}:∀(l:List T)(a:Nat)(ls:List ab),(∀j,a<=j->j<a+aM l->Y[j]?=o[j]?)->sc o a l ls->sc Y a l ls
 |[],a,ls,e,h=>by simp[sc]
 |t::r,a,ls,e,h=>by
  rw[sc]at h |-;rw[aM]at e;exact⟨tz.congr t a ls (fun j q b=>e j q aH) h.1,sc.congr r _ _ (fun j q b=>e j aH aH) h.2⟩
end
structure V4(o o':List Int)(a n:Nat):Prop where
 len:o'.length=o.length
 out:∀j,j<a\/a+n<=j->o'[j]?=o[j]?
mutual
def M0:∀(t:T)(a:Nat)(s:List Int)(ls:List ab),a+aU t<=s.length->V4 s (eo gm t a s ls).1 a (aU t)/\tz (eo gm t a s ls).1 a t ls
 |.mk n l,a,s,ls,M=>by
  rw[aU]at M;rw[eo];have e:gm s a (.mk n l) ls=s.set a (w9 n ls):=rfl;rw[e];have⟨⟨o,b⟩,G⟩:=IZ l (a+1) (s.set a (w9 n ls)) ls zff;rw[length_set]at o;refine⟨⟨o,fun j Y=>?_⟩,?_⟩
  ·grind[aU,List.getElem?_set_ne]
  ·rw[tz]
   grind
def IZ:∀(l:List T)(a:Nat)(s:List Int)(ls:List ab),a+aM l<=s.length->V4 s (c6 gm l a s ls).1 a (aM l)/\sc (c6 gm l a s ls).1 a l ls
 |[],a,s,ls,M=>by rw[c6,sc];exact⟨⟨rfl,fun _ _=>rfl⟩,trivial⟩
 |t::r,a,s,ls,M=>by
  rw[aM]at M;rw[c6,vm];have⟨⟨o,b⟩,G⟩:=M0 t a s ls aH;generalize(eo gm t a s ls).1=B at *;have⟨⟨C,e⟩,n⟩:=IZ r (a+aU t) B (ls++bW t) aH;generalize(c6 gm r (a+aU t) B (ls++bW t)).1=z at *;refine⟨⟨C.trans o,fun j Y=>?_⟩,?_⟩
  ·grind[aM]
  ·rw[sc];exact⟨G.congr t a ls (fun j O S=>e j aH),n⟩
end
def qj:List Go.Sp.Fn->List T->Nat->List Int->List Int
 |f::v,t::l,a,s=>qj v l (a+aU t) (eo gm t a s f.params).1
 |_,_,_,s=>s
def CD:∀(v:List Go.Sp.Fn)(l:List T)(a:Nat)(s:List Int),a+aM l<=s.length->V4 s (qj v l a s) a (aM l)/\∀(i:Nat)f t,v[i]?=some f->l[i]?=some t->tz (qj v l a s) (a+aM (l.take i)) t f.params
 |[],l,a,s,h=>by
  have e:qj [] l a s=s:=by rfl
  rw[e];exact⟨⟨rfl,fun _ _=>rfl⟩,fun i f t h=>by simp at h⟩
 |f::v,[],a,s,h=>⟨⟨rfl,fun _ _=>rfl⟩,fun i f t _ h=>by simp at h⟩
 |f::v,t::l,a,s,h=>by
  rw[aM]at h;rw[qj];have⟨⟨o,b⟩,G⟩:=M0 t a s f.params aH;generalize(eo gm t a s f.params).1=B at *;have⟨⟨C,k⟩,n⟩:=CD v l (a+aU t) B aH;generalize qj v l (a+aU t) B=z at *;refine⟨⟨C.trans o,fun j Y=>?_⟩,fun i g u X M=>?_⟩
  ·grind[aM]
  ·cases i with
   |zero =>
    cases X;cases M
    rw[take_zero,aM];exact G.congr t a f.params (fun j O S=>k j aH)
   |succ i =>
    grind[aM]
def sc.at_{own:List Int}:∀{l:List T}{a k:Nat}{t:T}{ls:List ab},sc own a l ls->l[k]?=some t->tz own (a+aM (l.take k)) t (ls++bC (l.take k))
 |[],a,k,t,ls,_,h=>by simp at h
 |u::l,a,0,t,ls,h,N=>by
  rw[sc]at h;cases N;rw[take_zero,aM,bC,eT];exact h.1
 |u::l,a,k+1,t,ls,h,N=>by
  rw[sc]at h;have:=sc.at_ h.2 (show l[k]?=some t by simpa using N);rw[List.take_succ_cons,aM,bC,show a+(aU u+aM (l.take k))=a+aU u+aM (l.take k) by omega,<-dP];exact this
open Go.Mn
def YM(n:Nd):Prop:=(n.ai=1->0<=n.n/\n.n<=2147483647)/\(n.ai=5->n.s=[45]\/n.s=[33]\/n.s=[126])/\(n.ai=6->eD n.s=true)
theorem pZ{n:Nd}(o:n.ai≠1)(b:n.ai≠5)(G:n.ai≠6):YM n:=⟨fun h=>absurd h o,fun h=>absurd h b,fun h=>absurd h G⟩
mutual
def lr:T->Prop
 |.mk n l=>YM n/\fC l
def fC:List T->Prop
 |[]=>True
 |t::r=>lr t/\fC r
end
mutual
theorem TM:∀t:T,lr (er t)↔lr t
 |.mk n l=>by rw[er,lr,lr,Py l];rfl
theorem Py:∀l:List T,fC (bl l)↔fC l
 |[]=>by rw[bl]
 |t::r=>by rw[bl,fC,fC,TM t,Py r]
end
mutual
theorem E.sx:∀a:E,a.ok=true->lr a.tree
 |.num n,h=>by
  rw[E.ok,aI,decide_eq_true_eq,decide_eq_true_eq]at h;rw[E.tree,lr];exact⟨⟨fun _=>h,fun h=>absurd h zfg,fun h=>absurd h zfg⟩,trivial⟩
 |.name s,_=>by rw[E.tree,lr];exact⟨pZ zfg zfg zfg,trivial⟩
 |.at_ s a,h=>by rw[E.ok,aI]at h;rw[E.tree,lr,fC,fC];exact zeB
 |.call s l,h=>by rw[E.ok,aI]at h;rw[E.tree,lr];exact⟨pZ zfg zfg zfg,E.DY l h.2⟩
 |.un s a,h=>by
  rw[E.ok,aI]at h;rw[E.tree,lr,fC,fC];refine⟨⟨fun h=>absurd h zfg,fun _=>?_,fun h=>absurd h zfg⟩,E.sx a h.2,trivial⟩;have o:=h.1;simp only[Bool.or_eq_true,beq_iff_eq]at o
  rcases o with(o|o)|o
  ·exact .inl o
  ·exact .inr (.inl o)
  ·exact .inr (.inr o)
 |.bin s a b,h=>by
  rw[E.ok,aI,aI]at h;rw[E.tree,lr,fC,fC,fC];exact⟨⟨fun h=>absurd h zfg,fun h=>absurd h zfg,fun _=>h.1.1⟩,E.sx a h.1.2,E.sx b h.2,trivial⟩
theorem E.DY:∀l:List E,E.cJ l=true->fC (E.aE l)
 |[],_=>trivial
 |a::l,h=>by rw[E.cJ,aI]at h;rw[E.aE,fC];exact⟨E.sx a h.1,E.DY l h.2⟩
end
mutual
theorem S.sx:∀a:S,a.ok=true->lr a.tree
 |.set s a,h=>by rw[S.ok,aI]at h;exact zdl
 |.put s a b,h=>by rw[S.ok,aI,aI]at h;rw[S.tree,lr,fC,fC,fC];simp_all[pZ,E.sx,trivial]
 |.if1 c b,h=>zdQ
 |.if2 c b d,h=>by rw[S.ok,aI,aI]at h;rw[S.tree,lr,fC,fC,fC,fC,lr,lr];simp_all[pZ,E.sx,S.DY,trivial]
 |.while_ c b,h=>zdQ
 |.ret a,h=>by rw[S.ok]at h;exact zdl
 |.do_ a,h=>by rw[S.ok]at h;exact zdl
 |.var s a,h=>by rw[S.ok,aI]at h;rw[S.tree,lr,fC,fC];exact zeB
theorem S.DY:∀l:List S,S.cJ l=true->fC (S.aE l)
 |[],_=>trivial
 |a::l,h=>by rw[S.cJ,aI]at h;rw[S.aE,fC];exact⟨S.sx a h.1,S.DY l h.2⟩
end
theorem YN(l:List S)(h:S.cJ l=true):lr (cj l):=by grind[pZ,S.DY,lr,cj]
def Good.sx{p:Src}{l:List T}(h:Good p l){i:Nat}{t:T}(M:l[i]?=some t):lr t:=by
 have⟨u,j⟩:=h.st.uy;have k:=(bY M).1;have c:=j.len;have⟨o,b⟩:=j.at_ i t _ M (cK aH)
 grind[TM,YN]
def Kf:∀{l:List T}{k:Nat}{t:T},fC l->l[k]?=some t->lr t
 |[],k,t,h,N=>by simp at N
 |a::l,0,t,h,N=>by grind[fC]
 |a::l,k+1,t,h,N=>by rw[fC]at h;exact Kf (l:=l) h.2 N
end Go.Im
namespace Go.Mn
structure eZ where
 fin:Int
 why:Int
 n:Int
 out:List Int
 be:Nat
 cS:List Int
def ua(t:M):eZ:=if t.fin=0 then⟨1,0,t.q5,t.out,t.be,t.cS⟩else⟨t.fin,t.why,0,t.out,t.be,t.cS⟩
def ET:eZ:=⟨4,0,0,[],0,[]⟩
section
variable{O:Op}{F:Nat}{B:Nat->R}
def LN(O:Op)(F:Nat)(B:Nat->R)(r:R)(s:M):M:=match ev O F B (3*F+1) r s with
 |some (_,t)=>t
 |none=>s
def J3(r:R)(s:M):∃v,ev O F B (3*F+1) r s=some (v,LN O F B r s):=by
 obtain⟨v,t,h,_⟩:=(YR (O:=O) (F:=F) (B:=B) F).e (3*F+1) r s aH (aY _);exact⟨v,by unfold LN;rw[h]⟩
end
def Dq(k:Nat)(s t:M):Prop:=t.out.length+s.be<=s.out.length+t.be+k
theorem Dq.mono{a b:Nat}{s t:M}(h:Dq a s t)(J:a<=b):Dq b s t:=by grind[Dq]
def Dq.of{s t:M}(o:t.out=s.out)(b:t.be=s.be):Dq 0 s t:=by grind[Dq]
section
variable{O:Op}{F:Nat}{B:Nat->R}
theorem fw{R β:Type}{a b c:Nat}{x:Option (R × M)}{k:R->M->Option (β × M)}{s:M}{y:β}{u:M}(W:a+b<=c)(hx:∀v t,x=some (v,t)->Dq a s t)(N:∀v t y u,k v t=some (y,u)->Dq b t u)(h:gA x k=some (y,u)):Dq c s u:=by
 have⟨v,t,o,d⟩:=c8 h
 grind[Dq]
theorem eN{R:Type}{c:Prop}[Decidable c]{k:Nat}{a b:Option (R × M)}{s:M}{y:R}{u:M}(ha:a=some (y,u)->Dq k s u)(i:b=some (y,u)->Dq k s u)(h:(if c then a else b)=some (y,u)):Dq k s u:=by
 grind
theorem IL{R:Type}{k:Nat}{v y:R}{s t u:M}(o:t.out=s.out)(b:t.be=s.be)(h:some (v,t)=some (y,u)):Dq k s u:=by grind[Dq]
theorem SD:∀g:Nat,(∀r s v t,ev O F B g r s=some (v,t)->Dq 0 s t)/\(∀r s v t,cQ O F B g r s=some (v,t)->Dq 1 s t)/\(∀l T s v t,rf O F B g l T s=some (v,t)->Dq 0 s t)/\(∀l s v t,qq O F B g l s=some (v,t)->Dq 0 s t)/\(∀c b s v t,tN O F B g c b s=some (v,t)->Dq 0 s t)
 |0=>⟨fun r s v t h=>(by grind[ev]),fun r s v t h=>(by grind[cQ]),fun l T s v t h=>(by grind[rf]),fun l s v t h=>(by grind[qq]),fun c b s v t h=>(by grind[tN])⟩
 |g+1=>by
  have⟨q,j,G,C,e⟩:=SD g
  have Z:∀{m:Type}{v y:m}{t u:M},some (v,t)=some (y,u)->Dq 0 t u:=fun h=>IL rfl rfl h
  have S:∀{m:Type}{v y:m}{t u:M}(c w:Int),some (v,t.stop c w)=some (y,u)->Dq 0 t u:=fun{_ _ _ t _}c w h=>IL (t:=t.stop c w) rfl rfl h
  refine⟨fun r s v t h=>?_,fun r s v t h=>?_,fun l T s v t h=>?_,fun l s v t h=>?_,fun c b s v t h=>?_⟩
  ·grind[ev,Dq]
  ·cases r with
   |num n=>grind[cQ,Dq]
   |loc k=>grind[cQ,Dq]
   |glob k=>grind[cQ,Dq]
   |size n=>grind[cQ,Dq]
   |get =>
    simp only[cQ]at h
    grind[Dq]
   |at_ k i=>simp only[cQ]at h;exact fw (a:=0) (b:=0) aH (q _ _) (fun v t y u=>eN Z (eN Z (S _ _))) h
   |put a =>
    simp only[cQ]at h;refine fw (a:=0) (b:=1) aH (q _ _) (fun v t y u=>eN (fun h=>(Z h).mono aH) fun h=>?_) h
    grind[Dq]
   |call f l =>
    simp only[cQ]at h;refine fw (a:=0) (b:=0) aH (G _ _ _) (fun v t y u=>eN Z (eN (S _ _) fun h=>?_)) h;have⟨w,x,R,Q⟩:=c8 h;cases Q;have d:Dq 0 (t.enter v) x:=q _ _ _ _ R;exact d
   |un o a=>exact zd4
   |bin o a b=>simp only[cQ]at h;exact fw (a:=0) (b:=0) aH (q _ _) (fun v t y u=>eN Z (fw (a:=0) (b:=0) aH (q _ _) (fun v t y u=>eN Z (eN (S _ _) Z)))) h
   |and_ a b=>exact zcc
   |or_ a b=>exact zcc
   |setL k a=>exact zbp
   |setG k a=>exact zbp
   |putA k i v=>simp only[cQ]at h;exact fw (a:=0) (b:=0) aH (q _ _) (fun v t y u=>eN Z (eN (fw (a:=0) (b:=0) aH (q _ _) (fun v t y u=>eN Z (fun h=>by cases h;exact Dq.of rfl rfl))) (S _ _))) h
   |if1 c b=>simp only[cQ]at h;exact fw (a:=0) (b:=0) aH (q _ _) (fun v t y u=>eN Z (eN (fw (a:=0) (b:=0) aH (q _ _) (fun v t y u=>Z)) Z)) h
   |if2 c b z=>simp only[cQ]at h;exact fw (a:=0) (b:=0) aH (q _ _) (fun v t y u=>eN Z (eN (fw (a:=0) (b:=0) aH (q _ _) (fun v t y u=>Z)) (fw (a:=0) (b:=0) aH (q _ _) (fun v t y u=>Z)))) h
   |while_ c b=>simp only[cQ]at h;exact fw (a:=0) (b:=0) aH (e _ _ _) (fun v t y u=>Z) h
   |ret a=>exact zbp
   |do_ a=>exact zd4
   |block l=>simp only[cQ]at h;exact fw (a:=0) (b:=0) aH (C _ _) (fun v t y u=>Z) h
  ·cases l with
   |nil=>grind[rf]
   |cons r l=>simp only[rf]at h;exact fw (a:=0) (b:=0) aH (q _ _) (fun v t y u=>eN Z (G _ _ _ _ _)) h
  ·cases l with
   |nil=>grind[qq]
   |cons r l=>simp only[qq]at h;exact fw (a:=0) (b:=0) aH (q _ _) (fun v t y u=>eN Z (C _ _ _ _)) h
  ·simp only[tN]at h;exact fw (a:=0) (b:=0) aH (q _ _) (fun v t y u=>eN Z (eN Z (fw (a:=0) (b:=0) aH (q _ _) (fun v t y u=>eN Z (e _ _ _ _ _))))) h
end
end Go.Mn
namespace Go.Im
open Go.Xp Go.Sp Go.Mn
def qW(p:Src)(v:List Int):M:=⟨v,[],List.replicate p.aq.length 0,p.aj.map fun a=>List.replicate a.size.toNat 0,0,0,0,1,List.replicate 40 0,false,0⟩
def lB(R:Int):Nat:=(min (max R 0) 20000).toNat
def sT(p:Src)(l:List T)(v:List Int)(F:Nat):M:=LN qP F (qR p l) (qR p l (iN p iI).toNat) (qW p v)
def pV(p:Src)(v:List Int)(R:Int):eZ:=if eu p=true then(match kG p.ah p.av 0 []with|some (l,_)=>ua (sT p l v (lB R))|none=>ET)else ET
def sS{p:Src}{l:List T}(h:Good p l)(hg:eu p=true)(v:List Int)(R:Int):pV p v R=ua (sT p l v (lB R)):=by
 unfold pV;rw[ak hg,h.st.si]
structure nN(p:Src)(F:Nat)(s:M):Prop where
 cS:s.cS.length=p.aq.length
 cells:s.cells.length=p.aj.length
 rows:∀(k:Nat)a,p.aj[k]?=some a->((row s k).length:Int)=a.size
 locs:40<=s.locs.length
 be:s.be<=F
 out:s.out.length<=s.be
def nN.TJ{p:Src}{F:Nat}{s t:M}(h:nN p F s)(G:EN s t)(o:t.be<=F)(b:Dq 0 s t):nN p F t :=
 ⟨G.cS.trans h.cS,G.cells.trans h.cells,fun k a v=>by rw[G.rows];exact h.rows k a v,by rw[G.locs];exact h.locs,o,by have:=h.out;grind[Dq]⟩
theorem nN.ev{p:Src}{O:Op}{F:Nat}{B:Nat->R}{g:Nat}{r:R}{s t:M}{v:Int}(h:nN p F s)(e:ev O F B g r s=some (v,t)):nN p F t :=
 h.TJ ((yG (Go.Mn.TJ F) g).1 r s v t e) (((yG (gro F) g).1 r s v t e).2 h.be) ((SD g).1 r s v t e)
theorem nN.next{p:Src}{F:Nat}{s:M}(h:nN p F s)(Q:¬F<=s.be):nN p F { s with be:=s.be+1 } :=
 ⟨h.cS,h.cells,h.rows,h.locs,by grind,by have:=h.out;grind⟩
theorem EN.ev{O:Op}{F:Nat}{B:Nat->R}{g:Nat}{r:R}{s t:M}{v:Int}(e:ev O F B g r s=some (v,t)):EN s t:=(yG (Go.Mn.TJ F) g).1 r s v t e
end Go.Im
namespace Go.Im
open Go.Xp Go.Sp
mutual
def Aa:Nat->T->T
 |a,.mk n l=>.mk ⟨n.ai,n.at_,n.n,n.s,bx (a+1) l⟩ (qe (a+1) l)
def qe:Nat->List T->List T
 |_,[]=>[]
 |a,t::r=>Aa a t::qe (a+aU t) r
end
mutual
def CW:∀(t:T)(a:Nat),aU (Aa a t)=aU t
 |.mk n l,a=>by rw[Aa,aU,aU,Kg l]
def Kg:∀(l:List T)(a:Nat),aM (qe a l)=aM l
 |[],a=>by rw[qe]
 |t::r,a=>by rw[qe,aM,aM,CW t,Kg r]
end
def A4:∀(l:List T)(a b:Nat),bx b (qe a l)=bx b l
 |[],a,b=>by rw[qe]
 |t::r,a,b=>by rw[qe,bx,bx,CW,A4 r]
mutual
def YD{ah:List Nd}:∀(t:T)(a:Nat),(∀i,i<aU t->ah[a+i]?=(dW a t)[i]?)->dM ah a (Aa a t)
 |.mk n l,a,h=>by
  rw[Aa,dM,A4];refine⟨?_,rfl,CQ l (a+1) fun i j=>?_⟩
  ·have:=h 0 (by rw[aU];omega);rw[dW]at this;exact zdk
  ·have:=h (i+1) (by rw[aU];omega);rw[dW,List.getElem?_cons_succ]at this;rw[<-this];congr 1;omega
def CQ{ah:List Nd}:∀(l:List T)(a:Nat),(∀i,i<aM l->ah[a+i]?=(bZ a l)[i]?)->dn ah a (qe a l)
 |[],a,_=>by rw[qe,dn];trivial
 |t::r,a,h=>by
  rw[qe,dn,CW];refine⟨YD t a fun i j=>?_,CQ r _ fun i j=>?_⟩
  ·have:=h i (by rw[aM];omega);rw[bZ,j1 (by rw[qu];exact j)]at this;exact this
  ·have:=h (aU t+i) (by rw[aM];omega);rw[bZ,j0 (by rw[qu];omega),qu,show aU t+i-aU t=i by omega]at this;rw[<-this];congr 1;omega
end
def en.mk{Q:Fn->T->Prop}:∀{av:List Fn}{a:Nat}{l:List T},av.length=l.length->(∀(i:Nat)f t,av[i]?=some f->l[i]?=some t->f.body=((a+aM (l.take i):Nat):Int)/\Q f t)->en Q av a l
 |[],_,[],_,_=>by rw[en];trivial
 |f::r,a,t::l,M,h=>by
  rw[en];have o:=h 0 f t rfl rfl;refine⟨by have:=o.1;rw[take_zero,aM]at this;exact this,o.2,en.mk zfy fun i Z k q b=>?_⟩;have:=h (i+1) Z k (by simpa using q) zfE;refine⟨?_,this.2⟩;rw[this.1,List.take_succ_cons,aM];congr 1;omega
 |[],_,t::l,h,_=>by simp at h
 |f::r,_,[],h,_=>by simp at h
open Go.Mn
def xH{R β:Type}{f:R->β}{p:R->Bool}{q:β->Bool}{l:List R}(h:∀x∈l,q (f x)=p x):bN q (l.map f)=bN p l:=by
 have:(l.map f).findIdx? q=l.findIdx? p:=by
  induction l with
  |nil=>rfl
  |cons a l O =>
   grind
 grind[bN]
theorem swap_inj{fr to x s:ab}(hx:x≠to)(G:s≠to):(bd fr to x==bd fr to s)=(x==s):=by
 grind[bd]
def xI{R:Type}{f:R->Bool}{l:List R}(h:0<=bN f l):∃x∈l,f x=true:=by
 grind[bN,List.findIdx?_eq_some_iff_getElem,List.getElem_mem]
def Pa{p:Src}{l:List T}{fr to:ab}(hn:(bA p).contains to=false)(o:dx fr=false)(b:dx to=false)(H:word fr=true):zg p (de fr to p l) fr to:=by
 have X:∀x∈p.aq,x≠to:=fun x hx e=>by
  grind[bA,List.mem_append_left]
 have v:∀x∈p.aj,x.name≠to:=fun x hx e=>by
  subst e;have:x.name∈bA p:=List.mem_append_left _ (List.mem_append_right _ (List.mem_map_of_mem hx))
  grind
 have m:∀x∈p.av,x.name≠to:=fun x hx e=>by
  subst e;have:x.name∈bA p:=List.mem_append_right _ (List.mem_map_of_mem hx)
  grind
 refine⟨fun s G=>?_,fun s G=>?_,fun s G=>?_,fun k=>?_,o,b,H⟩
 ·have r:s≠to:=X s zff;show(bN _ (p.aq.map (bd fr to))).toNat=_;rw[xH (p:=fun x=>x==s) fun x hx=>swap_inj (X x hx) r];rfl
 ·have⟨x,hx,i⟩:=xI G
  have r:s≠to:=by grind
  show bN _ (p.aj.map _)=_;rw[xH (p:=fun x:Ar=>x.name==s) fun x hx=>swap_inj (v x hx) r];rfl
 ·have⟨x,hx,i⟩:=xI G
  have r:s≠to:=by grind
  show bN _ (p.av.map _)=_;rw[xH (p:=fun x:Fn=>x.name==s) fun x hx=>swap_inj (m x hx) r];rfl
 ·show((p.aj.map _)[k]?).map _=_;rw[dB,Option.map_map];rfl
end Go.Im
namespace Go.Im
open Go.Xp Go.Sp
section
variable{fr to:ab}
mutual
def Jr{ah:List Nd}:∀(t:T)(a:Nat)(ls:List ab),dM ah a t->Aa a (di fr to t ls)=di fr to t ls
 |.mk n l,a,ls,h=>by
  rw[dM]at h;rw[di,Aa,FJ l _ ls h.2.2,uN,<-h.2.1];unfold dK;split<;>rfl
def FJ{ah:List Nd}:∀(l:List T)(a:Nat)(ls:List ab),dn ah a l->qe a (bE fr to l ls)=bE fr to l ls
 |[],a,ls,_=>by rfl
 |t::r,a,ls,h=>by
  rw[dn]at h;rw[bE,qe,Jr t a ls h.1,kX,FJ r _ _ h.2]
end
def FI{ah:List Nd}:∀(v:List Fn)(l:List T)(a:Nat),dn ah a l->v.length=l.length->qe a (cq fr to v l)=cq fr to v l
 |[],[],a,_,_=>by rfl
 |f::v,t::l,a,h,M=>by
  rw[dn]at h;rw[cq,qe,Jr t a _ h.1,kX,FI v l _ h.2 zff]
 |[],t::l,a,_,M=>by simp at M
 |f::v,[],a,_,M=>by simp at M
def uM(t:T)(ls:List ab):(di fr to t ls).n.ai=t.n.ai:=by cases t;rw[di];exact(oE _ _).1
def N9(m:Nat):∀(l:List T)(i:Nat)(ls:List ab),bR m i (bE fr to l ls)=bR m i l
 |[],i,ls=>by rw[bE]
 |t::r,i,ls=>by rw[bE,bR,bR,uM,N9 m r]
def Kb:∀(l:List T)(ls:List ab),((bE fr to l ls).all fun x=>im x.n.ai)=l.all fun x=>im x.n.ai
 |[],ls=>by rw[bE]
 |t::r,ls=>by rw[bE,all_cons,all_cons,uM,Kb r]
theorem xg{s:ab}(h:word s=true):s≠[]/\s≠[45]/\s≠[33]/\s≠[126]/\eD s=false:=by
 refine⟨?_,?_,?_,?_,?_⟩
 ·rintro rfl;revert h;decide
 ·rintro rfl;revert h;decide
 ·rintro rfl;revert h;decide
 ·rintro rfl;revert h;decide
 grind[DR]
theorem Vd(C:word fr=true)(H:bm to=true){n:Nd}{ls:List ab}{k:Nat}{l:Nat->Bool}{o:Bool}(h:own n k l o=true):own (dK fr to n ls) k l o=true:=by
 have⟨W,Y,X,T,r⟩:=xg C;unfold dK;split
 ·rename_i Z
  have G:n.s=fr:=by grind[jS]
  unfold own at h |-;rw[G]at h;have w:(fr==[])=false:=beq_eq_false_iff_ne.2 W;have R:(fr==[45])=false:=beq_eq_false_iff_ne.2 Y;have q:(fr==[33])=false:=beq_eq_false_iff_ne.2 X;have E:(fr==[126])=false:=beq_eq_false_iff_ne.2 T;simp only[w,R,q,E,r,Bool.false_and,Bool.and_false,Bool.or_false]at h |-
  by_cases c:decide (n.at_<0)=true
  ·grind
  rw[ae c]at h |-;clear c
  by_cases c:(n.ai != 1&&n.n != 0)=true
  ·grind
  rw[ae c]at h |-;clear c
  by_cases c:(n.ai==1)=true
  ·grind
  rw[ae c]at h |-;clear c
  by_cases c:(n.ai==2)=true
  ·grind
  grind
 ·exact h
mutual
def It(C:word fr=true)(H:bm to=true):∀(t:T)(ls:List ab),dC t=true->dC (di fr to t ls)=true
 |.mk n l,ls,h=>by
  rw[dC,aI]at h;rw[di,dC,aI];refine⟨ER C H l ls h.1,?_⟩;have b:=h.2;unfold cN at b |-;show own (dK fr to n ls) (bE fr to l ls).length (fun m=>bR m 0 (bE fr to l ls)) ((bE fr to l ls).all fun x=>im x.n.ai)=true;rw[rZ,Kb];simp only[N9];exact Vd C H b
def ER(C:word fr=true)(H:bm to=true):∀(l:List T)(ls:List ab),c9 l=true->c9 (bE fr to l ls)=true
 |[],ls,_=>by rfl
 |t::r,ls,h=>by
  rw[c9,aI]at h;rw[bE,c9,aI];exact⟨It C H t ls h.1,ER C H r _ h.2⟩
end
theorem CT(H:bm to=true){s:ab}(h:bm s=true):bm (bd fr to s)=true:=by grind[bm,bd]
theorem Bo{p:Src}{l:List T}(h:eH p l)(C:word fr=true)(H:bm to=true):eH (de fr to p l) (cq fr to p.av l):=by
 have c:=en.len h.av;have M:aM (cq fr to p.av l)=aM l:=vR fr to p.av l;have d:(de fr to p l).ah=bZ 0 (cq fr to p.av l):=rfl
 have j:(de fr to p l).ah.length=p.ah.length:=by rw[d,kp,M,h.len]
 refine⟨?_,?_,?_,en.mk ?_ fun i f t o b=>?_,?_,by rw[j];exact h.few⟩
 ·show dq (p.aq.map (bd fr to))=true;have:=h.aq;unfold dq at *
  grind[bd]
 ·show(p.aj.map _).all kc=true;rw[List.all_map]
  refine ea.2 fun x hx=>?_
  have:=ea.1 h.aj x hx;show kc (nz x (bd fr to x.name))=true;unfold kc at *;rw[aI,aI]at this |-;exact⟨⟨CT H this.1.1,this.1.2⟩,this.2⟩
 ·have:=CQ (ah:=(de fr to p l).ah) (cq fr to p.av l) 0 fun i q=>by grind
  rwa[FI p.av l 0 h.st c]at this
 ·show(p.av.map _).length=_
  grind[tY]
 ·change (p.av.map fun f=>lG f (bd fr to f.name))[i]?=some f at o
  rw[dB]at o
  cases J:p.av[i]? with
  |none=>grind
  |some g =>
   rw[J]at o;cases o;have E:=(bY J).1;have k:l[i]?=some (l[i]'aH):=cK aH;generalize l[i]'aH=v at k;rw[tX fr to J k]at b;cases b;have⟨n,m⟩:=en.at_ h.av i g v J k;refine⟨by rw[tZ];exact n,CT H m.name,m.params,(uM v _).trans m.ai,It C H v _ m.all⟩
 ·rw[M,h.len,j]
end
def zD(fr to:ab)(ls:List ab)(s:ab):ab:=if(s==fr&&!ls.contains fr)=true then to else s
end Go.Im
namespace Go.Xp
open Go.Im
mutual
def E.b8(fr to:ab)(ls:List ab):E->E
 |.num n=>.num n
 |.name s=>.name (zD fr to ls s)
 |.at_ s a=>.at_ (zD fr to ls s) (a.b8 fr to ls)
 |.call s l=>.call (bd fr to s) (E.jL fr to ls l)
 |.un s a=>.un s (a.b8 fr to ls)
 |.bin s a b=>.bin s (a.b8 fr to ls) (b.b8 fr to ls)
def E.jL(fr to:ab)(ls:List ab):List E->List E
 |[]=>[]
 |a::l=>a.b8 fr to ls::E.jL fr to ls l
end
mutual
def S.b8(fr to:ab):List ab->S->S
 |t,.set s a=>.set (zD fr to t s) (a.b8 fr to t)
 |t,.put s a b=>.put (zD fr to t s) (a.b8 fr to t) (b.b8 fr to t)
 |t,.if1 c b=>.if1 (c.b8 fr to t) (S.jL fr to t b)
 |t,.if2 c b d=>.if2 (c.b8 fr to t) (S.jL fr to t b) (S.jL fr to (t++bC (S.aE b)) d)
 |t,.while_ c b=>.while_ (c.b8 fr to t) (S.jL fr to t b)
 |t,.ret a=>.ret (a.b8 fr to t)
 |t,.do_ a=>.do_ (a.b8 fr to t)
 |t,.var s a=>.var s (a.b8 fr to t)
def S.jL(fr to:ab):List ab->List S->List S
 |_,[]=>[]
 |t,a::l=>S.b8 fr to t a::S.jL fr to (t++bW a.tree) l
end
end Go.Xp
namespace Go.Im
open Go.Xp Go.Sp
section
variable{fr to:ab}
def E.F2(ls:List ab)(a:E):(a.b8 fr to ls).lv=a.lv:=by cases a<;>rfl
mutual
def E.qt(ls:List ab):∀(a:E)(d:Nat),(a.b8 fr to ls).fit d=a.fit d
 |.num n,d=>by rw[E.b8]
 |.name s,d=>by rfl
 |.at_ s a,d=>by rw[E.b8,E.fit,E.fit,E.qt ls a]
 |.call s l,d=>by rw[E.b8,E.fit,E.fit,E.nF ls l]
 |.un s a,d=>by rw[E.b8,E.fit,E.fit,E.F2];simp only[E.qt ls a]
 |.bin s a b,d=>by rw[E.b8,E.fit,E.fit,E.F2,E.F2];simp only[E.qt ls a,E.qt ls b]
def E.nF(ls:List ab):∀(l:List E)(d:Nat),E.fits (E.jL fr to ls l) d=E.fits l d
 |[],d=>by rfl
 |a::l,d=>by rw[E.jL,E.fits,E.fits,E.qt ls a,E.nF ls l]
end
theorem oX(ls:List ab)(a:E)(d:Nat):po (a.b8 fr to ls) d=po a d:=by unfold po;rw[E.qt]
mutual
def S.qt:∀(a:S)(ls:List ab)(d:Nat),(S.b8 fr to ls a).fit d=a.fit d
 |.set s a,ls,d=>by simp[oX,S.fit,S.b8]
 |.put s a b,ls,d=>by
  have:=oX (fr:=fr) (to:=to) ls (.at_ s a) (d+1)
  grind[E.b8,oX,S.fit,S.b8]
 |.if1 c b,ls,d=>by rw[S.b8,S.fit,S.fit,oX,S.nF b]
 |.if2 c b e,ls,d=>by rw[S.b8,S.fit,S.fit,oX,S.nF b,S.nF e]
 |.while_ c b,ls,d=>by rw[S.b8,S.fit,S.fit,oX,S.nF b]
 |.ret a,ls,d=>by simp[oX,S.fit,S.b8]
 |.do_ a,ls,d=>by simp[oX,S.fit,S.b8]
 |.var s a,ls,d=>by simp[oX,S.fit,S.b8]
def S.nF:∀(l:List S)(ls:List ab)(d:Nat),S.fits (S.jL fr to ls l) d=S.fits l d
 |[],ls,d=>by rfl
 |a::l,ls,d=>by rw[S.jL,S.fits,S.fits,S.qt a,S.nF l]
end
theorem KR(ls:List ab)(l:List S)(d:Nat):fv (S.jL fr to ls l) d=fv l d:=by unfold fv;rw[S.nF]
theorem E.y8(a:E):bW a.tree=[]:=JL _ (E.nv a)
theorem jb(k n:Int)(s:ab)(ls:List ab)(C:k≠4)(W:k≠13):dK fr to ⟨k,0,n,s,[]⟩ ls=⟨k,0,n,zD fr to ls s,[]⟩:=by
 have w:(k != 13)=true:=by grind
 have R:(k==4)=false:=by grind
 unfold dK jS zD
 grind
theorem O9(n:Int)(s:ab)(ls:List ab):dK fr to ⟨4,0,n,s,[]⟩ ls=⟨4,0,n,bd fr to s,[]⟩:=by
 grind[jS,dK,bd]
theorem nc{s:ab}(ls:List ab)(h:s≠fr):zD fr to ls s=s:=by grind[zD]
theorem oA(l:word fr=true):([]:ab)≠fr:=fun e=>(xg l).1 e.symm
mutual
theorem E.iX(m:word fr=true)(ls:List ab):∀(a:E),a.ok=true->di fr to a.tree ls=(a.b8 fr to ls).tree
 |.num n,_=>by rw[E.tree,E.b8,E.tree,di,bE,jb _ _ _ _ aH aH,nc _ (oA m)]
 |.name s,_=>by rw[E.tree,E.b8,E.tree,di,bE,jb _ _ _ _ aH aH]
 |.at_ s a,h=>by
  rw[E.ok,aI]at h;rw[E.tree,E.b8,E.tree,di,bE,bE,jb _ _ _ _ aH aH,E.iX m ls a h.2]
 |.call s l,h=>by
  rw[E.ok,aI]at h;rw[E.tree,E.b8,E.tree,di,O9,E.mc m ls l h.2]
 |.un s a,h=>by
  rw[E.ok,aI]at h;have⟨X,Y,W,T,q⟩:=xg m
  have G:s≠fr:=by rintro rfl;have:=h.1;simp[Y,W,T]at this
  rw[E.tree,E.b8,E.tree,di,bE,bE,jb _ _ _ _ aH aH,E.iX m ls a h.2,nc _ G]
 |.bin s a b,h=>by
  rw[E.ok,aI,aI]at h;have⟨X,Y,W,T,q⟩:=xg m
  have G:s≠fr:=by rintro rfl;have:=h.1.1;rw[q]at this;cases this
  rw[E.tree,E.b8,E.tree,di,bE,bE,bE,jb _ _ _ _ aH aH,E.iX m ls a h.1.2,E.y8,eT,E.iX m ls b h.2,nc _ G]
theorem E.mc(m:word fr=true)(ls:List ab):∀(l:List E),E.cJ l=true->bE fr to (E.aE l) ls=E.aE (E.jL fr to ls l)
 |[],_=>by rw[E.aE,E.jL,E.aE,bE]
 |a::l,h=>by
  rw[E.cJ,aI]at h;rw[E.aE,E.jL,E.aE,bE,E.iX m ls a h.1,E.y8,eT,E.mc m ls l h.2]
end
mutual
theorem S.iX(l:word fr=true):∀(a:S)(ls:List ab),a.ok=true->di fr to a.tree ls=(S.b8 fr to ls a).tree
 |.set s a,ls,h=>by
  rw[S.ok,aI]at h
  grind[bE,jb,E.iX,di,S.tree,S.b8]
 |.put s a b,ls,h=>by
  rw[S.ok,aI,aI]at h
  grind[bE,jb,E.iX,E.y8,eT,di,S.tree,S.b8]
 |.if1 c b,ls,h=>by
  exact zbT
 |.if2 c b e,ls,h=>by
  rw[S.ok,aI,aI]at h
  rw[S.tree,S.b8,S.tree,di,bE,bE,bE,bE,jb _ _ _ _ aH aH,nc _ (oA l),E.iX l ls c h.1,E.y8,eT,di,jb _ _ _ _ aH aH,nc _ (oA l),S.mc l b ls h.2.1,
   di,jb _ _ _ _ aH aH,nc _ (oA l),bW,ae zfg,eT,S.mc l e _ h.2.2]
 |.while_ c b,ls,h=>by
  exact zbT
 |.ret a,ls,h=>by
  grind[S.ok,bE,jb,nc,oA,E.iX,di,S.tree,S.b8]
 |.do_ a,ls,h=>by
  grind[S.ok,bE,jb,nc,oA,E.iX,di,S.tree,S.b8]
 |.var s a,ls,h=>by
  rw[S.ok,aI]at h;rw[S.tree,S.b8,S.tree,di,bE,bE,ti rfl,E.iX l ls a h.2]
theorem S.mc(m:word fr=true):∀(l:List S)(ls:List ab),S.cJ l=true->bE fr to (S.aE l) ls=S.aE (S.jL fr to ls l)
 |[],ls,_=>by rw[S.aE,S.jL,S.aE,bE]
 |a::l,ls,h=>by
  rw[S.cJ,aI]at h;rw[S.aE,S.jL,S.aE,bE,S.iX m a ls h.1,S.mc m l _ h.2]
end
theorem Bq(H:bm to=true)(ls:List ab){s:ab}(h:bm s=true):bm (zD fr to ls s)=true:=by unfold zD;split<;>assumption
mutual
theorem E.lF(H:bm to=true)(ls:List ab):∀(a:E),a.ok=true->(a.b8 fr to ls).ok=true
 |.num n,h=>by rw[E.b8];exact h
 |.name s,h=>by rw[E.ok]at h;rw[E.b8,E.ok];exact Bq H ls h
 |.at_ s a,h=>by rw[E.ok,aI]at h;rw[E.b8,E.ok,aI];exact⟨Bq H ls h.1,E.lF H ls a h.2⟩
 |.call s l,h=>by rw[E.ok,aI]at h;rw[E.b8,E.ok,aI];exact⟨CT H h.1,E.o8 H ls l h.2⟩
 |.un s a,h=>by rw[E.ok,aI]at h;rw[E.b8,E.ok,aI];exact⟨h.1,E.lF H ls a h.2⟩
 |.bin s a b,h=>by rw[E.ok,aI,aI]at h;rw[E.b8,E.ok,aI,aI];exact⟨⟨h.1.1,E.lF H ls a h.1.2⟩,E.lF H ls b h.2⟩
theorem E.o8(H:bm to=true)(ls:List ab):∀(l:List E),E.cJ l=true->E.cJ (E.jL fr to ls l)=true
 |[],_=>by rw[E.jL,E.cJ]
 |a::l,h=>by rw[E.cJ,aI]at h;rw[E.jL,E.cJ,aI];exact⟨E.lF H ls a h.1,E.o8 H ls l h.2⟩
end
mutual
theorem S.lF(H:bm to=true):∀(a:S)(ls:List ab),a.ok=true->(S.b8 fr to ls a).ok=true
 |.set s a,ls,h=>by rw[S.ok,aI]at h;rw[S.b8,S.ok,aI];grind[Bq,E.lF]
 |.put s a b,ls,h=>by rw[S.ok,aI,aI]at h;rw[S.b8,S.ok,aI,aI];grind[Bq,E.lF]
 |.if1 c b,ls,h=>zdF
 |.if2 c b e,ls,h=>by rw[S.ok,aI,aI]at h;rw[S.b8,S.ok,aI,aI];exact⟨E.lF H ls c h.1,S.o8 H b ls h.2.1,S.o8 H e _ h.2.2⟩
 |.while_ c b,ls,h=>zdF
 |.ret a,ls,h=>by grind[E.lF,S.ok,S.b8]
 |.do_ a,ls,h=>by grind[E.lF,S.ok,S.b8]
 |.var s a,ls,h=>by rw[S.ok,aI]at h;rw[S.b8,S.ok,aI];exact⟨h.1,E.lF H ls a h.2⟩
theorem S.o8(H:bm to=true):∀(l:List S)(ls:List ab),S.cJ l=true->S.cJ (S.jL fr to ls l)=true
 |[],ls,_=>by rw[S.jL,S.cJ]
 |a::l,ls,h=>by rw[S.cJ,aI]at h;rw[S.jL,S.cJ,aI];exact⟨S.lF H a ls h.1,S.o8 H l _ h.2⟩
end
mutual
def Kq:∀t:T,bW (er t)=bW t
 |.mk n l=>by rw[er,bW,bW,Hp l]
def Hp:∀l:List T,bC (bl l)=bC l
 |[]=>by rw[bl]
 |t::r=>by rw[bl,bC,bC,Kq t,Hp r]
end
mutual
theorem MV:∀(t:T)(ls:List ab),er (di fr to t ls)=di fr to (er t) ls
 |.mk n l,ls=>by
  rw[di,er,er,di,IX l ls]
  congr 1
  unfold dK jS
  grind
theorem IX:∀(l:List T)(ls:List ab),bl (bE fr to l ls)=bE fr to (bl l) ls
 |[],ls=>by rfl
 |t::r,ls=>by rw[bE,bl,bl,bE,MV t ls,IX r _,Kq]
end
theorem Ue(l:word fr=true){b:List S}(h:S.cJ b=true)(ls:List ab):di fr to (cj b) ls=cj (S.jL fr to ls b):=by
 grind[jb,nc,oA,S.mc,di,cj,S.jL]
theorem Yr{p:Src}{l:List T}(h:eH p l)(hf:fI p=true)(C:word fr=true)(H:bm to=true):fI (de fr to p l)=true:=by
 have J:=Bo (fr:=fr) (to:=to) h C H;have⟨v,j⟩:=h.uy;have k:=en.len h.av;have d:=j.len;rw[QG h j]at hf
 have W:Forms (cq fr to p.av l) (List.zipWith (fun(f:Fn)b=>S.jL fr to f.params b) p.av v):=by
  refine⟨by grind[tY],fun i t b o c=>?_⟩;rw[List.getElem?_zipWith]at c
  cases G:p.av[i]? with
  |none=>grind
  |some f =>
   cases E:v[i]? with
   |none=>grind
   |some X =>
    rw[G,E]at c;cases c;have F:=(bY G).1;have e:l[i]?=some (l[i]'aH):=cK aH;generalize l[i]'aH=u at e;rw[tX fr to G e]at o;cases o;have⟨R,O⟩:=j.at_ i u X e E
    grind[S.o8,MV,Ue]
 rw[QG J W]
 grind[ea,List.getElem?_of_mem,KR,bP]
end
section
variable{p q:Src}{fr to:ab}
theorem Fp{ls:List ab}(J:ls.contains to=false){s:ab}(h:ls.contains s=false):ls.contains (bd fr to s)=false:=by
 grind[bd]
theorem GP(H:zg p q fr to)(n:Nd)(l:List T)(ls:List ab):bU (.mk (dK fr to n ls) (bE fr to l ls))=bU (.mk n l):=by
 unfold bU;show(((dK fr to n ls).ai==4&&(dK fr to n ls).s==dY)&&((bE fr to l ls).length==1))=((n.ai==4&&n.s==dY)&&(l.length==1));rw[(oE n ls).1,rZ]
 by_cases C:n.ai=4
 ·rw[qQ aH (.inl C)];have:=ph H (s:=n.s) (.inl rfl)
  grind
 grind
theorem Rn(H:zg p q fr to)(wI:∀i,iq q i=iq p i){s:ab}(h:gD p s ≠ -1):gD q (bd fr to s)=gD p s:=by
 have g1:=ph H (s:=s) (w:=jw) (.inr (.inl rfl));have O:=ph H (s:=s) (w:=jM) (.inr (.inr rfl));have F:=ph H (s:=s) (w:=dY) (.inl rfl);unfold gD at h |-
 by_cases o:s=jw
 ·grind
 rw[ae o]at h |-;rw[ae fun e=>o (g1.1 e)]
 by_cases b:s=jM\/s=dY
 ·grind
 rw[ae b]at h |-;rw[ae fun e=>b (e.imp O.1 F.1)]
 cases J:p.av.findIdx? (fun f:Fn=>f.name==s)with
 |none=>grind
 |some i =>
  have z:iN p s=(i:Int):=by grind[bN,iN]
  have R:=H.fn s aH
  grind[iN,bN]
theorem M4(H:zg p q fr to)(wI:∀i,iq q i=iq p i)(vw:∀s,p.aq.contains s=true->q.aq.contains (bd fr to s)=true){n:Nd}{l:List T}{ls:List ab}(J:ls.contains to=false)(A:bG p (.mk n l) ls=0) :
  bG q (.mk (dK fr to n ls) (bE fr to l ls)) ls=0:=by
 have w:=(oE (fr:=fr) (to:=to) n ls).1;unfold bG at A |-;simp only[show(T.mk n l).n=n from rfl,show(T.mk (dK fr to n ls) (bE fr to l ls)).n=dK fr to n ls from rfl,w]at A |-
 by_cases W:n.ai=13
 ·simp_all[ak,ti]
 rw[ae W]at A |-
 by_cases b:n.ai=2\/n.ai=7
 ·rw[ak b]at A |-
  cases X:ls.contains n.s with
  |true=>grind[Gq]
  |false =>
   simp_all[ak,qQ,ae]
 rw[ae b]at A |-
 by_cases G:n.ai=3\/n.ai=8
 ·rw[ak G]at A |-
  by_cases X:ls.contains n.s=true\/fo p n.s<0
  ·grind
  ·have r:ls.contains n.s=false:=by grind
   have M:0<=fo p n.s:=by omega
   rw[qQ W (.inr r),ae (by rw[Fp J r,H.arr _ M];grind)]
 rw[ae G]at A |-
 by_cases C:n.ai=4
 ·rw[ak C]at A |-;unfold dv at A |-;rw[GP H];simp only[show(T.mk n l).n=n from rfl,show(T.mk (dK fr to n ls) (bE fr to l ls)).n=dK fr to n ls from rfl,show(T.mk n l).aw=l from rfl,show(T.mk (dK fr to n ls) (bE fr to l ls)).aw=bE fr to l ls from rfl]at A |-;rw[qQ W (.inl C),rZ]
  by_cases m:bU (.mk n l)=true
  ·rw[ak m]at A |-
   have o:l.length=1:=by unfold bU at m;simp only[aI,beq_iff_eq]at m;exact m.2
   obtain⟨⟨B,t⟩,rfl⟩:∃a,l=[a]:=by
    match l,o with
    |[a],_=>simp
   have j:ew p B ls=false:=by
    cases j:ew p B ls with
    |false=>rfl
    |true=>rw[ak (show ew p (ke (.mk n [.mk B t])) ls=true from j)]at A;cases A
   have N:ke (.mk (dK fr to n ls) (bE fr to [.mk B t] ls))=dK fr to B ls:=by rfl
   rw[N];unfold ew at j |-;simp only[Bool.or_eq_false_iff,bne_eq_false_iff_eq,decide_eq_false_iff_not]at j;have⟨⟨u,z⟩,v⟩:=j;rw[(oE B ls).1,qQ aH (.inr v),H.arr _ aH,Fp J v,ae]
   grind
  grind[Rn]
 omega
theorem Pr{r:Src}{c:CS}(h:c.code≠0)(a:Nat)(t:T)(ls:List ab):cz r c a t ls=c:=by grind[cz]
mutual
theorem Uj{r:Src}:∀(t:T)(a:Nat)(c:CS)(ls:List ab),c.code≠0->(eo (cz r) t a c ls).1=c
 |.mk n l,a,c,ls,h=>by rw[eo,Pr h];exact wz l _ c ls h
theorem wz{r:Src}:∀(l:List T)(a:Nat)(c:CS)(ls:List ab),c.code≠0->(c6 (cz r) l a c ls).1=c
 |[],a,c,ls,h=>by rw[c6]
 |t::l,a,c,ls,h=>by rw[c6,Uj t a c ls h];exact wz l _ c _ h
end
variable(H:zg p q fr to)(wI:∀i,iq q i=iq p i)(vw:∀s,p.aq.contains s=true->q.aq.contains (bd fr to s)=true)
include H wI vw
mutual
def MJ:∀(t:T)(a:Nat)(c:CS)(ls:List ab),(eo (cz p) t a c ls).1.code=0->ls.contains to=false->(bW t).contains to=false->eo (cz q) (di fr to t ls) a c ls=eo (cz p) t a c ls
 |.mk n l,a,c,ls,h,s,b=>by
  rw[eo]at h
  have o:(cz p c a (.mk n l) ls).code=0:=by
   grind[wz]
  have J:cz q c a (.mk (dK fr to n ls) (bE fr to l ls)) ls=cz p c a (.mk n l) ls:=by
   unfold cz at o |-
   by_cases W:c.code≠0\/(a:Int)=c.skip
   ·grind
   ·rw[ae W]at o;have o:bG p (.mk n l) ls=0:=o;have G:=M4 H wI vw s o;rw[ae W,ae W,G,o,GP H];simp only[ne_eq,not_true_eq_false,if_false]
    by_cases m:bU (.mk n l)=true
    ·have N:(ke (.mk (dK fr to n ls) (bE fr to l ls))).ai=(ke (.mk n l)).ai:=by
      cases l with
      |nil=>rfl
      |cons k r=>rw[bE];exact uM k ls
     rw[N]
    grind
  have j:(bC l).contains to=false:=by
   grind[bW,List.mem_append_left]
  have M:=IH l (a+1) (cz p c a (.mk n l) ls) ls h s j;rw[di,eo,eo,J,M,(oE n ls).1]
  simp_all[ak,ti,ae]
def IH:∀(l:List T)(a:Nat)(c:CS)(ls:List ab),(c6 (cz p) l a c ls).1.code=0->ls.contains to=false->(bC l).contains to=false->c6 (cz q) (bE fr to l ls) a c ls=c6 (cz p) l a c ls
 |[],a,c,ls,_,_,_=>by rfl
 |t::r,a,c,ls,h,s,b=>by
  rw[c6]at h
  have o:(eo (cz p) t a c ls).1.code=0:=by
   grind[wz]
  rw[bC]at b
  have i:to ∉ bW t++bC r:=by grind
  have G:(bW t).contains to=false:=by
   grind
  have C:(bC r).contains to=false:=by
   grind
  have e:=MJ t a c ls o s G
  have j:(ls++bW t).contains to=false:=by
   grind
  rw[bE,c6,c6,e,kX];rw[vm]at h |-;exact IH r _ _ _ h j C
end
theorem WD{f:Fn}{t:T}{a:Nat}(s:ab)(h:(fy p f t a).1=0)(M:(f.params++bW t).contains to=false):(fy q (lG f s) (di fr to t f.params) a).1=0:=by
 have A:to ∉ f.params++bW t:=by grind
 have o:f.params.contains to=false:=by
  grind
 have b:(bW t).contains to=false:=by
  grind
 unfold fy at h |-
 by_cases W:tK f.params=true
 ·grind
 ·rw[ae W]at h;rw[show(lG f s).params=f.params from rfl,ae W,MJ H wI vw t a _ _ h o b];exact h
theorem I3:∀(v:List Fn)(l:List T)(a:Nat),(eU p v l a).1=0->(∀(i:Nat)f t,v[i]?=some f->l[i]?=some t->(f.params++bW t).contains to=false)->(eU q (v.map fun f=>lG f (bd fr to f.name)) (cq fr to v l) a).1=0
 |[],l,a,_,_=>by rfl
 |f::v,[],a,_,_=>rfl
 |f::v,t::l,a,h,j=>by
  rw[eU]at h
  have o:(fy p f t a).1=0:=by
   grind
  rw[ae (by simp[o])]at h;rw[List.map_cons,cq,eU,ae (by rw[WD H wI vw _ o (j 0 f t rfl rfl)];simp),kX]
  exact I3 v l _ h fun i f t r b=>j (i+1) f t zff zff
end
def OJ{fr to:ab}{l:List ab}(h:ey l=false)(J:l.contains to=false)(v:dx to=false):ey (l.map (bd fr to))=false:=by
 have m:∀x∈l,x≠to:=fun x hx e=>by grind
 unfold ey at h |-;rw[List.any_eq_false]at h |-;intro k N;rw[ct]at N;have h:=h k N;unfold lx at h |-;rw[dB]
 cases G:l[k]? with
 |none=>simp
 |some s =>
  rw[G]at h;simp only[Option.map_some,Bool.or_eq_true,not_or,Bool.not_eq_true]at h |-;refine⟨?_,?_⟩
  ·grind[dx,bd]
  ·cases hx:((l.map (bd fr to)).take k).contains (bd fr to s)with
   |false=>rfl
   |true =>
    exfalso;rw[<-List.map_take]at hx
    grind[bd,ra,swap_inj,List.mem_of_mem_take,bP]
end Go.Im
