/- Part 3 of proofs that are told in their last texts. -/
import Derived.Test.YtcoplmnahnipiaaGreatDoorQ2
open List (all_eq_true any_eq_false any_eq_true append_assoc append_nil contains_iff_mem foldl_cons getElem?_eq_getElem getElem?_eq_none getElem?_set length_append length_cons mem_cons_of_mem mem_cons_self mem_of_getElem? mem_singleton pairwise_cons take_add_one)
set_option linter.unusedVariables false
set_option linter.unusedSimpArgs false
set_option maxRecDepth 100000
namespace Go.Im
open Go.Xp Go.Sp
def oT:ah:=[103,101,116]
def pX:ah:=[112,117,116]
def iN:ah:=[115,105,122,101]
def vm:ah:=[109,97,105,110]
def l6 (s:ah):Bool:=(s==oT || s==pX) || s==iN
def cD {α:Type} (f:α->Bool) (l:List α):Int:=match l.findIdx? f with | some i=>(i:Int) | none => -1
def nU (p:Src) (s:ah):Int:=cD (fun f:Fn=>f.name==s) p.fns
def DZ (p:Src) (s:ah):Int:=cD (fun a:Ar=>a.name==s) p.arrays
def eM (p:Src):List ah:=p.arrays.map fun a:Ar=>a.name
def iq (p:Src):List ah:=p.fns.map fun f:Fn=>f.name
def cJ (p:Src):List ah:=(p.globals++eM p)++iq p
def nE (t:T):Nd:=match t.kids with | k::_=>k.n | []=>⟨0,0,0,[],[]⟩
def dO (t:T):Bool:=(t.n.kind==4&&t.n.s==iN)&&(t.kids.length==1)
def lD (p:Src) (i:Nat):Nat:=match p.fns[i]? with | some f=>f.params.length | none=>0
def nj (p:Src) (s:ah):Int:=if s=oT then 0 else if s=pX\/s=iN then 1 else match p.fns.findIdx? (fun f:Fn=>f.name==s) with | some i=>(lD p i:Int) | none => -1
def fU (p:Src) (k:Nd) (ls:List ah):Bool:=(k.kind != 2 || decide (DZ p k.s < 0)) || ls.contains k.s
def eW (p:Src) (t:T) (ls:List ah):Int :=
 if dO t=true then (if fU p (nE t) ls=true then 24 else 0)
 else if nj p t.n.s = -1 then 22 else if nj p t.n.s=(t.kids.length:Int) then 0 else 23
def bY (p:Src) (t:T) (ls:List ah):Int :=
 if t.n.kind=13 then (if ls.contains t.n.s=true then 21 else if ls.length>=40 then 26 else 0)
 else if t.n.kind=2\/t.n.kind=7 then (if ls.contains t.n.s=false/\p.globals.contains t.n.s=false then 22 else 0)
 else if t.n.kind=3\/t.n.kind=8 then (if ls.contains t.n.s=true\/DZ p t.n.s < 0 then 24 else 0)
 else if t.n.kind=4 then eW p t ls
 else 0
structure CS where
 code:Int
 place:Int
 skip:Int
def cv (p:Src) (c:CS) (a:Nat) (t:T) (ls:List ah):CS :=
 if c.code≠0\/(a:Int)=c.skip then c
 else ⟨bY p t ls,if bY p t ls≠0 then t.n.at_ else c.place,if dO t=true then (if (nE t).kind≠2 then -1 else ((a+1:Nat):Int)) else c.skip⟩
mutual
def iD {σ:Type} (f:σ->Nat->T->List ah->σ):T->Nat->σ->List ah->σ × List ah
 | .mk n l,a,s,ls=>((dU f l (a+1) (f s a (.mk n l) ls) ls).1,if n.kind=13 then (dU f l (a+1) (f s a (.mk n l) ls) ls).2++[n.s] else (dU f l (a+1) (f s a (.mk n l) ls) ls).2)
def dU {σ:Type} (f:σ->Nat->T->List ah->σ):List T->Nat->σ->List ah->σ × List ah
 | [],_,s,ls=>(s,ls)
 | t::r,a,s,ls=>dU f r (a+aP t) (iD f t a s ls).1 (iD f t a s ls).2
end
theorem u5 {σ:Type} (f:σ->Nat->T->List ah->σ) (t:T) (a:Nat) (s:σ) (ls:List ah) :
  iD f t a s ls=((dU f t.kids (a+1) (f s a t ls) ls).1,if t.n.kind=13 then (dU f t.kids (a+1) (f s a t ls) ls).2++[t.n.s] else (dU f t.kids (a+1) (f s a t ls) ls).2):=by
 cases t;rw [iD];rfl
def nS (l:List ah) (k:Nat):Bool:=match l[k]? with | some s=>(l.take k).contains s | none=>false
def uD (l:List ah):Bool:=(List.range l.length).any (nS l)
def fk (p:Src) (f:Fn) (t:T) (a:Nat):Int × Int :=
 if uD f.params=true then (21,0) else ((iD (cv p) t a ⟨0,0,-1⟩ f.params).1.code,(iD (cv p) t a ⟨0,0,-1⟩ f.params).1.place)
def kj (l:List ah) (k:Nat):Bool:=match l[k]? with | some s=>l6 s || (l.take k).contains s | none=>false
def dY (l:List ah):Bool:=(List.range l.length).any (kj l)
def dC (l:List Ar):Int:=l.foldl (fun n a=>n+a.size) 0
def iy (p:Src):Bool:=p.arrays.any (fun a=>a.size==0) || ((((decide (p.fns.length > 40) || decide (p.globals.length > 29)) || decide (dC p.arrays > 8000))) || p.fns.any fun f=>decide (f.params.length > 40))
def mC (f:Fn):Bool:=f.name==vm&&f.params.length==0
def fm (p:Src):List Fn->List T->Nat->Int × Int
 | f::r,t::l,a=>if (fk p f t a).1≠0 then fk p f t a else fm p r l (a+aP t)
 | _,_,_=>(0,0)
def CR (p:Src) (l:List T):Int × Int :=
 if dY (cJ p)=true then (21,0) else if iy p=true then (26,0) else if p.fns.any mC=false then (25,0) else fm p p.fns l 0
def ig (p:Src):Bool:=fI p&&(match ji p.nodes p.fns 0 [] with | some (l,_)=>decide ((CR p l).1=0) | none=>false)
structure SS where
 ls:List ah
 code:Int
 at_:Int
def SS.fail (c:SS) (k a:Int):SS:=if c.code=0 then ⟨c.ls,k,a⟩ else c
def eD (c:SS) (n:Nd) (k want:Nat):SS:=if k≠want then c.fail 23 n.at_ else c
def fq (p:Src) (c:SS) (t:T):SS × Bool :=
 if t.n.s=oT then (eD c t.n t.kids.length 0,true)
 else if t.n.s=pX then (eD c t.n t.kids.length 1,true)
 else if t.n.s=iN then (eD (if t.kids.length=1/\fU p (nE t) c.ls=true then c.fail 24 t.n.at_ else c) t.n t.kids.length 1,false)
 else match p.fns.findIdx? (fun f:Fn=>f.name==t.n.s) with
  | none=>(c.fail 22 t.n.at_,false)
  | some i=>(eD c t.n t.kids.length (lD p i),true)
def jk (p:Src) (c:SS) (t:T):SS × Bool :=
 if t.n.kind=2\/t.n.kind=7 then (if c.ls.contains t.n.s=false/\p.globals.contains t.n.s=false then c.fail 22 t.n.at_ else c,true)
 else if t.n.kind=3\/t.n.kind=8 then (if c.ls.contains t.n.s=true\/DZ p t.n.s < 0 then c.fail 24 t.n.at_ else c,true)
 else if t.n.kind=4 then fq p c t
 else (c,true)
def lL (c:SS) (n:Nd):SS :=
 if n.kind≠13 then c
 else if c.ls.contains n.s=true then ⟨(c.fail 21 n.at_).ls++[n.s],(c.fail 21 n.at_).code,(c.fail 21 n.at_).at_⟩
 else if c.ls.length=40 then ⟨(c.fail 26 n.at_).ls++[n.s],(c.fail 26 n.at_).code,(c.fail 26 n.at_).at_⟩
 else ⟨c.ls++[n.s],c.code,c.at_⟩
mutual
def nk (p:Src):T->SS->SS
 | .mk n l,c=>lL (if (jk p c (.mk n l)).2=true then ia p l (jk p c (.mk n l)).1 else (jk p c (.mk n l)).1) n
def ia (p:Src):List T->SS->SS
 | [],c=>c
 | t::r,c=>ia p r (nk p t c)
end
theorem vq (p:Src) (t:T) (c:SS):nk p t c=lL (if (jk p c t).2=true then ia p t.kids (jk p c t).1 else (jk p c t).1) t.n:=by cases t;rw [nk];rfl
mutual
def um:T->Prop
 | .mk n l=>n.kind≠13/\kV l
def kV:List T->Prop
 | []=>True
 | t::r=>um t/\kV r
end
mutual
def gz:T->Prop
 | .mk n l=>(n.kind=13->kV l)/\(n.kind=2->l=[])/\dz l
def dz:List T->Prop
 | []=>True
 | t::r=>gz t/\dz r
end
mutual
theorem W5:∀ t:T,um (er t)↔um t
 | .mk n l=>by rw [er,um,um,FX l]
theorem FX:∀ l:List T,kV (aM l)↔kV l
 | []=>by rw [aM]
 | t::r=>by rw [aM,kV,kV,W5 t,FX r]
end
theorem Sq {l:List T}:aM l=[]↔l=[]:=by
 cases l with
 | nil=>rw [aM]
 | cons t r=>rw [aM];simp
mutual
theorem RU:∀ t:T,gz (er t)↔gz t
 | .mk n l=>by rw [er,gz,gz,FX l,Ow l,Sq]
theorem Ow:∀ l:List T,dz (aM l)↔dz l
 | []=>by rw [aM]
 | t::r=>by rw [aM,dz,dz,RU t,Ow r]
end
mutual
theorem E.nv:∀ a:E,um a.tree
 | .num n=>by rw [E.tree,um];exact ⟨by simp,trivial⟩
 | .name s=>by rw [E.tree,um];exact ⟨by simp,trivial⟩
 | .at_ s a=>by rw [E.tree,um,kV,kV];exact ⟨by simp,E.nv a,trivial⟩
 | .call s l=>by rw [E.tree,um];exact ⟨by simp,E.Yh l⟩
 | .un s a=>by rw [E.tree,um,kV,kV];exact ⟨by simp,E.nv a,trivial⟩
 | .bin s a b=>by rw [E.tree,um,kV,kV,kV];exact ⟨by simp,E.nv a,E.nv b,trivial⟩
theorem E.Yh:∀ l:List E,kV (E.trees l)
 | []=>trivial
 | a::l=>by rw [E.trees,kV];exact ⟨E.nv a,E.Yh l⟩
end
mutual
theorem E.wf:∀ a:E,gz a.tree
 | .num n=>by rw [E.tree,gz];exact ⟨fun h=>absurd h (by simp),fun _=>rfl,trivial⟩
 | .name s=>by rw [E.tree,gz];exact ⟨fun h=>absurd h (by simp),fun _=>rfl,trivial⟩
 | .at_ s a=>by rw [E.tree,gz,dz,dz];exact ⟨fun h=>absurd h (by simp),fun h=>absurd h (by simp),E.wf a,trivial⟩
 | .call s l=>by rw [E.tree,gz];exact ⟨fun h=>absurd h (by simp),fun h=>absurd h (by simp),E.BD l⟩
 | .un s a=>by rw [E.tree,gz,dz,dz];exact ⟨fun h=>absurd h (by simp),fun h=>absurd h (by simp),E.wf a,trivial⟩
 | .bin s a b=>by rw [E.tree,gz,dz,dz,dz];exact ⟨fun h=>absurd h (by simp),fun h=>absurd h (by simp),E.wf a,E.wf b,trivial⟩
theorem E.BD:∀ l:List E,dz (E.trees l)
 | []=>trivial
 | a::l=>by rw [E.trees,dz];exact ⟨E.wf a,E.BD l⟩
end
mutual
theorem S.wf:∀ a:S,gz a.tree
 | .set s a=>by rw [S.tree,gz,dz,dz];exact ⟨fun h=>absurd h (by simp),fun h=>absurd h (by simp),E.wf a,trivial⟩
 | .put s a b=>by rw [S.tree,gz,dz,dz,dz];exact ⟨fun h=>absurd h (by simp),fun h=>absurd h (by simp),E.wf a,E.wf b,trivial⟩
 | .if1 c b=>by rw [S.tree,gz,dz,dz,dz,gz];exact ⟨fun h=>absurd h (by simp),fun h=>absurd h (by simp),E.wf c,⟨fun h=>absurd h (by simp),fun h=>absurd h (by simp),S.BD b⟩,trivial⟩
 | .if2 c b d=>by rw [S.tree,gz,dz,dz,dz,dz,gz,gz];exact ⟨fun h=>absurd h (by simp),fun h=>absurd h (by simp),E.wf c,⟨fun h=>absurd h (by simp),fun h=>absurd h (by simp),S.BD b⟩,⟨fun h=>absurd h (by simp),fun h=>absurd h (by simp),S.BD d⟩,trivial⟩
 | .while_ c b=>by rw [S.tree,gz,dz,dz,dz,gz];exact ⟨fun h=>absurd h (by simp),fun h=>absurd h (by simp),E.wf c,⟨fun h=>absurd h (by simp),fun h=>absurd h (by simp),S.BD b⟩,trivial⟩
 | .ret a=>by rw [S.tree,gz,dz,dz];exact ⟨fun h=>absurd h (by simp),fun h=>absurd h (by simp),E.wf a,trivial⟩
 | .do_ a=>by rw [S.tree,gz,dz,dz];exact ⟨fun h=>absurd h (by simp),fun h=>absurd h (by simp),E.wf a,trivial⟩
 | .var s a=>by rw [S.tree,gz,dz,dz,kV,kV];exact ⟨fun _=>⟨E.nv a,trivial⟩,fun h=>absurd h (by simp),E.wf a,trivial⟩
theorem S.BD:∀ l:List S,dz (S.trees l)
 | []=>trivial
 | a::l=>by rw [S.trees,dz];exact ⟨S.wf a,S.BD l⟩
end
theorem V3 (l:List S):gz (bF l):=by
 rw [bF,gz];exact ⟨fun h=>absurd h (by simp),fun h=>absurd h (by simp),S.BD l⟩
theorem SS.nT (c:SS) (k a:Int):(c.fail k a).ls=c.ls:=by unfold SS.fail;split <;> rfl
theorem wR (c:SS) (n:Nd) (k w:Nat):(eD c n k w).ls=c.ls:=by unfold eD;split;(· exact c.nT _ _);rfl
theorem vA (p:Src) (c:SS) (t:T):(jk p c t).1.ls=c.ls:=by
 unfold jk fq;split
 ·simp only;split;(· exact c.nT _ _);rfl
 split
 ·simp only;split;(· exact c.nT _ _);rfl
 split
 ·split
  ·exact wR _ _ _ _
  split
  ·exact wR _ _ _ _
  split
  ·simp only;rw [wR];split;(· exact c.nT _ _);rfl
  split
  ·exact c.nT _ _
  ·exact wR _ _ _ _
 ·rfl
mutual
theorem W2 (p:Src):∀ (t:T),um t->∀ c,(nk p t c).ls=c.ls
 | .mk n l,h,c=>by
  rw [um] at h;rw [nk,lL,if_pos h.1];split
  ·rw [FW p l h.2,vA]
  ·exact vA _ _ _
theorem FW (p:Src):∀ (l:List T),kV l->∀ c,(ia p l c).ls=c.ls
 | [],_,c=>by rw [ia]
 | t::r,h,c=>by
  rw [kV] at h;rw [ia,FW p r h.2,W2 p t h.1]
end
theorem SS.yt {c:SS} (h:c.code≠0) (k a:Int):c.fail k a=c:=by unfold SS.fail;rw [if_neg h]
theorem SS.pg (c:SS) {k:Int} (hk:k≠0) (a:Int):(c.fail k a).code≠0:=by
 unfold SS.fail;split
 ·exact hk
 ·assumption
theorem QF {c:SS} (h:c.code≠0) (n:Nd) (k w:Nat):eD c n k w=c:=by unfold eD;rw [SS.yt h];split <;> rfl
theorem S1 (p:Src) {c:SS} (h:c.code≠0) (t:T):(jk p c t).1=c:=by
 unfold jk fq;simp only [SS.yt h,QF h,ite_self];split
 ·rfl
 split
 ·rfl
 split
 ·split
  ·rfl
  split
  ·rfl
  split
  ·rfl
  split <;> rfl
 ·rfl
theorem yP {c:SS} (h:c.code≠0) (n:Nd):(lL c n).code≠0:=by
 unfold lL;rw [SS.yt h,SS.yt h];split
 ·exact h
 split
 ·exact h
 split <;> exact h
mutual
theorem RC (p:Src):∀ (t:T) (c:SS),c.code≠0->(nk p t c).code≠0
 | .mk n l,c,h=>by
  rw [nk];refine yP ?_ n;rw [S1 p h];split
  ·exact vr p l c h
  ·exact h
theorem vr (p:Src):∀ (l:List T) (c:SS),c.code≠0->(ia p l c).code≠0
 | [],c,h=>by rw [ia];exact h
 | t::r,c,h=>by rw [ia];exact vr p r _ (RC p t c h)
end
theorem Qm (p:Src) {c:CS} (h:c.code≠0) (a:Nat) (t:T) (ls:List ah):cv p c a t ls=c:=by unfold cv;rw [if_pos (.inl h)]
mutual
theorem Wq (p:Src):∀ (t:T) (a:Nat) (c:CS) (ls:List ah),c.code≠0->(iD (cv p) t a c ls).1=c
 | .mk n l,a,c,ls,h=>by rw [iD,Qm p h];exact u6 p l _ c ls h
theorem u6 (p:Src):∀ (l:List T) (a:Nat) (c:CS) (ls:List ah),c.code≠0->(dU (cv p) l a c ls).1=c
 | [],a,c,ls,h=>by rw [dU]
 | t::r,a,c,ls,h=>by
  have h1:=Wq p t a c ls h;rw [dU,h1];exact u6 p r _ c _ h
end
def CJ (a:Nat) (r:CS × List ah) (q:SS):Prop:=(r.1.code=0/\q.code=0/\r.2=q.ls/\r.1.skip < (a:Int)/\q.ls.length<=40)\/(r.1.code≠0/\q.code≠0)
theorem Qj (p:Src) (t:T) (Ft:t.n.kind=13->kV t.kids) (oI:∀ k∈t.kids,k.n.kind=2->k.kids=[])
  (ih:∀ (a:Nat) (r:CS) (q:SS),r.code=0->q.code=0->r.skip < (a:Int)->q.ls.length<=40->CJ (a+az t.kids) (dU (cv p) t.kids a r q.ls) (ia p t.kids q))
  (a:Nat) (r:CS) (q:SS) (hr:r.code=0) (hq:q.code=0) (hs:r.skip < (a:Int)) (hl:q.ls.length<=40):CJ (a+aP t) (iD (cv p) t a r q.ls) (nk p t q):=by
 have bP:¬ (r.code≠0\/(a:Int)=r.skip):=by
  rintro (h | h)
  ·exact h hr
  ·omega
 obtain ⟨pl,cn⟩:∃ pl,cv p r a t q.ls=⟨bY p t q.ls,pl,if dO t=true then (if (nE t).kind≠2 then -1 else ((a+1:Nat):Int)) else r.skip⟩:=by
  unfold cv;rw [if_neg bP];exact ⟨_,rfl⟩
 have cS:=ef t
 have bad:∀ x:SS,bY p t q.ls≠0->x.code≠0->CJ (a+aP t) (iD (cv p) t a r q.ls) x:=fun x h1 h2=>by
  refine .inr ⟨?_,h2⟩;rw [u5,cn];simp only;rw [u6 p t.kids _ _ _ h1];exact h1
 have go:bY p t q.ls=0->dO t=false->t.n.kind≠13->jk p q t=(q,true)->CJ (a+aP t) (iD (cv p) t a r q.ls) (nk p t q):=fun h1 h2 h3 h4=>by
  have:=ih (a+1) ⟨0,pl,r.skip⟩ q rfl hq (by simp only;omega) hl;rw [u5,vq,h4,cn,h1,h2,if_neg h3,lL,if_pos h3];simp only [if_true,Bool.false_eq_true,if_false];rw [show a+aP t=a+1+az t.kids by omega];exact this
 by_cases eH:t.n.kind=13
 ·have hnv:=Ft eH
  have hz:dO t=false:=by unfold dO;rw [eH];rfl
  have nC:jk p q t=(q,true):=by unfold jk;rw [if_neg ao,if_neg ao,if_neg ao]
  have my:(ia p t.kids q).ls=q.ls:=FW p t.kids hnv q
  have rC:bY p t q.ls=if q.ls.contains t.n.s=true then 21 else if q.ls.length>=40 then 26 else 0:=by
   unfold bY;rw [if_pos eH]
  rw [vq,nC];simp only [if_true]
  by_cases hc:q.ls.contains t.n.s=true
  ·refine bad _ (by rw [rC,if_pos hc];decide) ?_;rw [lL,if_neg (by simpa using eH),my,if_pos hc];exact SS.pg _ au _
  by_cases h40:q.ls.length>=40
  ·refine bad _ (by rw [rC,if_neg hc,if_pos h40];decide) ?_;rw [lL,if_neg (by simpa using eH),my,if_neg hc,if_pos ao];exact SS.pg _ au _
  have h0:bY p t q.ls=0:=by rw [rC,if_neg hc,if_neg h40]
  have:=ih (a+1) ⟨0,pl,r.skip⟩ q rfl hq (by simp only;omega) hl;rw [lL,if_neg (by simpa using eH),my,if_neg hc,if_neg ao,u5,cn,h0,hz,if_pos eH];simp only [Bool.false_eq_true,if_false];rw [show a+aP t=a+1+az t.kids by omega]
  rcases this with ⟨k1,k2,k3,k4,k5⟩ | ⟨k1,k2⟩
  ·refine .inl ⟨k1,k2,?_,k4,?_⟩
   ·show _++_=_++_;rw [k3,my]
   ·show (q.ls++[t.n.s]).length<=40;rw [length_append,List.length_singleton];omega
  ·exact .inr ⟨k1,k2⟩
 by_cases h2:t.n.kind=2\/t.n.kind=7
 ·have hz:dO t=false:=by
   unfold dO;rw [show (t.n.kind==4)=false by simp;omega];rfl
  by_cases hc:q.ls.contains t.n.s=false/\p.globals.contains t.n.s=false
  ·refine bad _ (by unfold bY;rw [if_neg eH,if_pos h2,if_pos hc];decide) ?_
   have nC:jk p q t=(q.fail 22 t.n.at_,true):=by unfold jk;rw [if_pos h2,if_pos hc]
   rw [vq,nC];refine yP ?_ t.n;simp only [if_true];exact vr p t.kids _ (SS.pg _ au _)
  ·exact go (by unfold bY;rw [if_neg eH,if_pos h2,if_neg hc]) hz eH (by unfold jk;rw [if_pos h2,if_neg hc])
 by_cases h3:t.n.kind=3\/t.n.kind=8
 ·have hz:dO t=false:=by
   unfold dO;rw [show (t.n.kind==4)=false by simp;omega];rfl
  by_cases hc:q.ls.contains t.n.s=true\/DZ p t.n.s < 0
  ·refine bad _ (by unfold bY;rw [if_neg eH,if_neg h2,if_pos h3,if_pos hc];decide) ?_
   have nC:jk p q t=(q.fail 24 t.n.at_,true):=by unfold jk;rw [if_neg h2,if_pos h3,if_pos hc]
   rw [vq,nC];refine yP ?_ t.n;simp only [if_true];exact vr p t.kids _ (SS.pg _ au _)
  ·exact go (by unfold bY;rw [if_neg eH,if_neg h2,if_pos h3,if_neg hc]) hz eH (by unfold jk;rw [if_neg h2,if_pos h3,if_neg hc])
 by_cases h4:t.n.kind=4
 ·have rC:bY p t q.ls=eW p t q.ls:=by unfold bY;rw [if_neg eH,if_neg h2,if_neg h3,if_pos h4]
  have nC:jk p q t=fq p q t:=by unfold jk;rw [if_neg h2,if_neg h3,if_pos h4]
  have fin:∀ x:SS × Bool,fq p q t=x->bY p t q.ls≠0->x.1.code≠0->CJ (a+aP t) (iD (cv p) t a r q.ls) (nk p t q):=fun x hx h1 h2=>by
   refine bad _ h1 ?_;rw [vq,nC,hx];refine yP ?_ t.n;split
   ·exact vr p t.kids _ h2
   ·exact h2
  have JZ:dO t=((t.n.s==iN)&&(t.kids.length==1)):=by unfold dO;rw [h4];rfl
  have some_:∀ w:Nat,t.n.s≠iN->nj p t.n.s=(w:Int)->fq p q t=(eD q t.n t.kids.length w,true)->CJ (a+aP t) (iD (cv p) t a r q.ls) (nk p t q):=fun w e1 e2 e3=>by
   have hz:dO t=false:=by rw [JZ,show (t.n.s==iN)=false by simpa using e1];rfl
   have C6:eW p t q.ls=if (w:Int)=(t.kids.length:Int) then 0 else 23:=by
    unfold eW;rw [hz,if_neg au,e2,if_neg ao]
   by_cases hk:t.kids.length=w
   ·refine go (by rw [rC,C6,if_pos ao]) hz eH ?_;rw [nC,e3,eD,if_neg (by simpa using hk)]
   ·refine fin _ e3 (by rw [rC,C6,if_neg ao];decide) ?_;rw [eD,if_pos hk];exact SS.pg _ au _
  by_cases hg:t.n.s=oT
  ·exact some_ 0 (by rw [hg];decide) (by unfold nj;rw [if_pos hg];rfl) (by unfold fq;rw [if_pos hg])
  by_cases hp:t.n.s=pX
  ·exact some_ 1 (by rw [hp];decide) (by unfold nj;rw [if_neg hg,if_pos (.inl hp)];rfl) (by unfold fq;rw [if_neg hg,if_pos hp])
  by_cases hz:t.n.s=iN
  ·have eJ:fq p q t=(eD (if t.kids.length=1/\fU p (nE t) q.ls=true then q.fail 24 t.n.at_ else q) t.n t.kids.length 1,false):=by
    unfold fq;rw [if_neg hg,if_neg hp,if_pos hz]
   by_cases hk:t.kids.length=1
   ·have gy:dO t=true:=by rw [JZ,hz,hk];rfl
    have C6:eW p t q.ls=if fU p (nE t) q.ls=true then 24 else 0:=by unfold eW;rw [if_pos gy]
    by_cases hb:fU p (nE t) q.ls=true
    ·refine fin _ eJ (by rw [rC,C6,if_pos hb];decide) ?_;rw [if_pos ⟨hk,hb⟩,eD,if_neg (by simpa using hk)];exact SS.pg _ au _
    ·have Y6:fq p q t=(q,false):=by rw [eJ,if_neg (fun h=>hb h.2),eD,if_neg (by simpa using hk)]
     rw [vq,nC,Y6,lL,if_pos eH];simp only [Bool.false_eq_true,if_false]
     have h0:bY p t q.ls=0:=by rw [rC,C6,if_neg hb]
     obtain ⟨k,iL⟩:∃ k,t.kids=[k]:=by
      match hl:t.kids,hk with
      | [k],_=>exact ⟨k,rfl⟩
     have zj:nE t=k.n:=by unfold nE;rw [iL]
     have og:k.n.kind=2:=by
      have:fU p k.n q.ls=false:=by rw [<-zj];simpa using hb
      unfold fU at this;simp only [Bool.or_eq_false_iff] at this;simpa using this.1.1
     have eR:k.kids=[]:=oI k (by rw [iL];exact List.mem_singleton.2 rfl) og
     have sd:aP k=1:=by rw [ef,eR,az]
     have Ps:∀ c:CS,((a+1:Nat):Int)=c.skip->cv p c (a+1) k q.ls=c:=fun c hc=>by unfold cv;rw [if_pos (.inr hc)]
     rw [u5,cn,h0,gy,if_neg eH,iL,zj];simp only [if_true,dU];rw [u5,eR];simp only [dU];rw [if_neg (by rw [og];decide),Ps _ rfl,if_neg (by rw [og];decide)];refine .inl ⟨rfl,hq,rfl,?_,hl⟩;rw [cS,iL,az,az,sd];simp only;omega
   ·have rF:dO t=false:=by rw [JZ,show (t.kids.length==1)=false by simpa using hk,Bool.and_false]
    refine fin _ eJ ?_ ?_
    ·rw [rC];unfold eW;rw [rF,if_neg au]
     have:nj p t.n.s=1:=by unfold nj;rw [if_neg hg,if_pos (.inr hz)]
     rw [this,if_neg au,if_neg ao];decide
    ·rw [if_neg (fun h=>hk h.1),eD,if_pos hk];exact SS.pg _ au _
  have eK:nj p t.n.s=match p.fns.findIdx? (fun f:Fn=>f.name==t.n.s) with | some i=>(lD p i:Int) | none => -1:=by
   unfold nj;rw [if_neg hg,if_neg (by rintro (h | h);(· exact hp h);exact hz h)]
  have eJ:fq p q t=match p.fns.findIdx? (fun f:Fn=>f.name==t.n.s) with | none=>(q.fail 22 t.n.at_,false) | some i=>(eD q t.n t.kids.length (lD p i),true):=by
   unfold fq;rw [if_neg hg,if_neg hp,if_neg hz]
  cases hf:p.fns.findIdx? (fun f:Fn=>f.name==t.n.s) with
  | some i =>
   rw [hf] at eK eJ;exact some_ (lD p i) hz eK eJ
  | none =>
   rw [hf] at eK eJ;refine fin _ eJ ?_ (SS.pg _ au _);rw [rC];unfold eW;rw [JZ,show (t.n.s==iN)=false by simpa using hz,Bool.false_and,if_neg au,eK];simp
 ·exact go (by unfold bY;rw [if_neg eH,if_neg h2,if_neg h3,if_neg h4]) (by unfold dO;rw [show (t.n.kind==4)=false by simpa using h4];rfl) eH
   (by unfold jk;rw [if_neg h2,if_neg h3,if_neg h4])
theorem GH:∀ {l:List T},dz l->∀ k∈l,gz k
 | [],_,k,hk=>by cases hk
 | t::r,h,k,hk=>by
  rw [dz] at h
  rcases List.mem_cons.1 hk with rfl | hk
  ·exact h.1
  ·exact GH h.2 k hk
mutual
theorem VN (p:Src):∀ (t:T),gz t->∀ (a:Nat) (r:CS) (q:SS),r.code=0->q.code=0->r.skip < (a:Int)->q.ls.length<=40->CJ (a+aP t) (iD (cv p) t a r q.ls) (nk p t q)
 | .mk n l,hw=>by
  rw [gz] at hw;refine Qj p (.mk n l) hw.1 (fun k hk h2=>?_) (VM p l hw.2.2);have:=GH hw.2.2 k hk;obtain ⟨m,j⟩:=k;rw [gz] at this;exact this.2.1 h2
theorem VM (p:Src):∀ (l:List T),dz l->∀ (a:Nat) (r:CS) (q:SS),r.code=0->q.code=0->r.skip < (a:Int)->q.ls.length<=40->CJ (a+az l) (dU (cv p) l a r q.ls) (ia p l q)
 | [],_,a,r,q,hr,hq,hs,hl=>by rw [dU,ia,az];exact .inl ⟨hr,hq,rfl,by simpa using hs,hl⟩
 | t::l,hw,a,r,q,hr,hq,hs,hl=>by
  rw [dz] at hw;rw [dU,ia,az]
  rcases VN p t hw.1 a r q hr hq hs hl with ⟨k1,k2,k3,k4,k5⟩ | ⟨k1,k2⟩
  ·rw [k3];have:=VM p l hw.2 (a+aP t) _ _ k1 k2 k4 k5;rw [Nat.add_assoc] at this;exact this
  ·exact .inr ⟨by rw [u6 p l _ _ _ k1];exact k1,vr p l _ k2⟩
end
def fK (c k:Int):Int:=if c=0 then k else c
def mb (a:Ar):Bool:=decide (a.size < 1) || decide (a.size > 8000)
def jF (p:Src):Bool:=match p.fns.findIdx? (fun f:Fn=>f.name==vm) with | none=>true | some i=>decide (lD p i > 0)
def sQ (p:Src):Bool:=(decide (p.fns.length > 40) || decide (p.globals.length > 29)) || decide (dC p.arrays > 8000)
def qV (p:Src) (c:Int):Int :=
 if p.arrays.any mb=true then fK c 26
 else if jF p=true then fK (if (p.fns.any fun f=>decide (f.params.length > 40))=true then fK (if sQ p=true then fK c 26 else c) 26 else (if sQ p=true then fK c 26 else c)) 25
 else if (p.fns.any fun f=>decide (f.params.length > 40))=true then fK (if sQ p=true then fK c 26 else c) 26 else (if sQ p=true then fK c 26 else c)
def p8 (f:Fn) (c:SS):SS:=⟨f.params,if uD f.params=true then fK c.code 21 else c.code,if uD f.params=true/\c.code=0 then 0 else c.at_⟩
def nw (p:Src):List Fn->List T->SS->SS
 | f::r,t::l,c=>nw p r l (if c.code=0 then nk p t (p8 f c) else c)
 | _,_,c=>c
def LP (p:Src) (l:List T):SS:=nw p p.fns l ⟨[],qV p (if dY (cJ p)=true then 21 else 0),0⟩
theorem yv (p:Src):∀ (fs:List Fn) (l:List T) (c:SS),c.code≠0->(nw p fs l c).code≠0
 | f::r,t::l,c,h=>by rw [nw,if_neg h];exact yv p r l c h
 | [],_,c,h=>by rw [nw];(· exact h);intros;simp_all
 | f::r,[],c,h=>by rw [nw];(· exact h);intros;simp_all
theorem T8 (p:Src) (f:Fn) (t:T) (a:Nat) (c:SS) (hw:gz t) (hc:c.code=0) (hp:f.params.length<=40):(fk p f t a).1=0↔(nk p t (p8 f c)).code=0:=by
 unfold fk
 by_cases hd:uD f.params=true
 ·rw [if_pos hd]
  have:(p8 f c).code≠0:=by unfold p8;rw [if_pos hd];unfold fK;rw [if_pos hc];show (21:Int)≠0;decide
  have h2:=RC p t _ this;constructor
  ·intro h;cases h
  ·intro h;exact absurd h h2
 ·rw [if_neg hd]
  have hq:(p8 f c).code=0:=by unfold p8;rw [if_neg hd];exact hc
  have h1:=VN p t hw a ⟨0,0,-1⟩ (p8 f c) rfl hq (by show (-1:Int) < _;omega) hp;show (iD (cv p) t a ⟨0,0,-1⟩ (p8 f c).ls).1.code=0↔_
  rcases h1 with ⟨k1,k2,_⟩ | ⟨k1,k2⟩
  ·exact ⟨fun _=>k2,fun _=>k1⟩
  ·exact ⟨fun h=>absurd h k1,fun h=>absurd h k2⟩
theorem Ic (p:Src):∀ (fs:List Fn) (l:List T) (a:Nat) (c:SS),c.code=0->(∀ t∈l,gz t)->(∀ f∈fs,f.params.length<=40)->((fm p fs l a).1=0↔(nw p fs l c).code=0)
 | f::r,t::l,a,c,hc,hw,hp=>by
  have h1:=T8 p f t a c (hw t mem_cons_self) hc (hp f mem_cons_self);rw [fm,nw,if_pos hc]
  by_cases h:(fk p f t a).1=0
  ·rw [if_neg (by simpa using h)];exact Ic p r l _ _ (h1.1 h) (fun u hu=>hw u (mem_cons_of_mem _ hu)) (fun g hg=>hp g (mem_cons_of_mem _ hg))
  ·rw [if_pos h]
   have h2:(nk p t (p8 f c)).code≠0:=fun e=>h (h1.2 e)
   exact ⟨fun e=>absurd e h,fun e=>absurd e (yv p r l _ h2)⟩
 | [],_,a,c,hc,_,_=>by rw [fm,nw];(· exact ⟨fun _=>hc,fun _=>rfl⟩);all_goals (intros;simp_all)
 | f::r,[],a,c,hc,_,_=>by rw [fm,nw];(· exact ⟨fun _=>hc,fun _=>rfl⟩);all_goals (intros;simp_all)
theorem cells_from (l:List Ar):∀ n:Int,l.foldl (fun n a=>n+a.size) n=n+dC l:=by
 induction l with
 | nil=>intro n;simp [dC]
 | cons a l ih =>
  intro n;unfold dC;rw [foldl_cons,foldl_cons,ih,ih (0+a.size)];omega
theorem JC (a:Ar) (l:List Ar):dC (a::l)=a.size+dC l:=by
 unfold dC;rw [foldl_cons,cells_from];unfold dC;omega
theorem OV {l:List Ar} (h:∀ a∈l,0<=a.size):0<=dC l/\∀ a∈l,a.size<=dC l:=by
 induction l with
 | nil=>exact ⟨by simp [dC],fun a h=>by cases h⟩
 | cons b l ih =>
  obtain ⟨h1,h2⟩:=ih fun a ha=>h a (mem_cons_of_mem _ ha)
  have hb:=h b mem_cons_self;rw [JC];refine ⟨by omega,fun a ha=>?_⟩
  rcases List.mem_cons.1 ha with rfl | ha
  ·omega
  ·have:=h2 a ha;omega
theorem G3 {l:List ah} (h:dY l=false) {i j:Nat} {s:ah} (hi:l[i]?=some s) (hj:l[j]?=some s):i=j:=by
 have key:∀ x y:Nat,x < y->l[x]?=some s->l[y]?=some s->False:=fun x y iU h1 h2=>by
  have hy:=(List.getElem?_eq_some_iff.1 h2).1;unfold dY at h;rw [any_eq_false] at h;have:=h y (List.mem_range.2 hy);unfold kj at this;rw [h2] at this;simp only [Bool.or_eq_true,not_or] at this;apply this.2;rw [contains_iff_mem];rw [List.mem_take_iff_getElem];have hx:=(List.getElem?_eq_some_iff.1 h1);exact ⟨x,by have:=hx.1;omega,hx.2⟩
 rcases Nat.lt_trichotomy i j with h1 | h1 | h1
 ·exact (key i j h1 hi hj).elim
 ·exact h1
 ·exact (key j i h1 hj hi).elim
theorem FJ {p:Src} (h:dY (cJ p)=false):p.fns.any mC=true↔jF p=false:=by
 have wY:∀ (i:Nat) f,p.fns[i]?=some f->(cJ p)[(p.globals++eM p).length+i]?=some f.name:=fun i f hf=>by
  unfold cJ;rw [List.getElem?_append_right ao,Nat.add_sub_cancel_left,iq,List.getElem?_map,hf];rfl
 unfold jF
 cases hf:p.fns.findIdx? (fun f:Fn=>f.name==vm) with
 | none =>
  rw [List.findIdx?_eq_none_iff] at hf;constructor
  ·intro h1;obtain ⟨f,h2,h3⟩:=List.any_eq_true.1 h1;unfold mC at h3;have:=hf f h2;rw [this] at h3;cases h3
  ·intro h1;cases h1
 | some i =>
  rw [List.findIdx?_eq_some_iff_getElem] at hf;obtain ⟨hi,h1,h2⟩:=hf
  have zh:p.fns[i]?=some p.fns[i]:=by simp [hi]
  simp only [lD,zh];constructor
  ·intro h3;obtain ⟨f,h4,h5⟩:=List.any_eq_true.1 h3;obtain ⟨j,hj⟩:=List.getElem?_of_mem h4;unfold mC at h5;simp only [Bool.and_eq_true,beq_iff_eq] at h5 h1;have e1:=wY i _ zh;have e2:=wY j f hj;rw [h1] at e1;rw [h5.1] at e2;have:=G3 h e1 e2
   have:i=j:=by omega
   subst this;rw [hj] at zh;cases zh;simp [h5.2]
  ·intro h3;simp only [gt_iff_lt,decide_eq_false_iff_not,Nat.not_lt,Nat.le_zero] at h3;exact List.any_eq_true.2 ⟨p.fns[i],List.getElem_mem hi,by unfold mC;rw [h1,h3];rfl⟩
theorem Te {p:Src} (ha:∀ a∈p.arrays,0<=a.size):(iy p=false/\jF p=false)↔qV p 0=0:=by
 obtain ⟨pP,hc⟩:=OV ha;have f26:fK 0 26=26:=rfl
 have f25:∀ c,c≠0->fK c 25=c:=fun c h=>by unfold fK;rw [if_neg h]
 have Ys:∀ c,fK c 25≠0:=fun c=>by
  unfold fK;split
  ·decide
  ·assumption
 have Yt:∀ c,fK c 26≠0:=fun c=>by
  unfold fK;split
  ·decide
  ·assumption
 unfold qV
 by_cases h1:p.arrays.any mb=true
 ·rw [if_pos h1,f26];refine ⟨fun h=>?_,fun h=>by cases h⟩;obtain ⟨a,h2,h3⟩:=List.any_eq_true.1 h1;have h4:=h.1;unfold iy at h4;simp only [Bool.or_eq_false_iff,decide_eq_false_iff_not] at h4;have h5:=List.any_eq_false.1 h4.1 a h2;have h6:=hc a h2;have h7:=ha a h2;unfold mb at h3;simp only [Bool.or_eq_true,decide_eq_true_eq] at h3;simp only [beq_iff_eq] at h5;have h8:=h4.2.1.2;omega
 rw [if_neg h1]
 have hz:p.arrays.any (fun a=>a.size==0)=false:=by
  rw [any_eq_false];intro a h2 h3;apply h1;refine List.any_eq_true.2 ⟨a,h2,?_⟩;unfold mb;simp only [beq_iff_eq] at h3;rw [h3];rfl
 have htm:iy p=(sQ p || p.fns.any fun f=>decide (f.params.length > 40)):=by
  unfold iy sQ;rw [hz,Bool.false_or]
 rw [htm]
 by_cases h2:jF p=true
 ·rw [if_pos h2];exact ⟨fun h=>(by rw [h2] at h;cases h.2),fun h=>absurd h (Ys _)⟩
 rw [if_neg h2]
 have qp:jF p=false:=by simpa using h2
 by_cases h3:(p.fns.any fun f=>decide (f.params.length > 40))=true
 ·rw [if_pos h3,h3,Bool.or_true];exact ⟨fun h=>(by cases h.1),fun h=>absurd h (Yt _)⟩
 rw [if_neg h3,show (p.fns.any fun f=>decide (f.params.length > 40))=false by simpa using h3,Bool.or_false]
 by_cases h4:sQ p=true
 ·rw [if_pos h4,h4];exact ⟨fun h=>(by cases h.1),fun h=>(by cases h)⟩
 ·rw [if_neg h4];exact ⟨fun _=>rfl,fun _=>⟨by simpa using h4,qp⟩⟩
theorem TK {p:Src} {l:List T} (ha:∀ a∈p.arrays,0<=a.size) (hw:∀ t∈l,gz t):(CR p l).1=0↔(LP p l).code=0:=by
 have ne:qV p 21≠0:=by
  have f:∀ c k,c≠0->fK c k=c:=fun c k h=>by unfold fK;rw [if_neg h]
  unfold qV;simp only [f 21 26 au,ite_self,f 21 25 au]
  decide
 unfold CR LP
 by_cases h1:dY (cJ p)=true
 ·rw [if_pos h1,if_pos h1];exact ⟨fun h=>(by cases h),fun h=>absurd h (yv p _ _ _ ne)⟩
 rw [if_neg h1,if_neg h1];have hs:=Te ha
 by_cases h2:qV p 0=0
 ·obtain ⟨h3,h4⟩:=hs.2 h2;rw [if_neg (by rw [h3];decide),if_neg (by rw [(FJ (by simpa using h1)).2 h4];decide),h2]
  refine Ic p _ _ _ _ rfl hw fun f hf=>?_
  unfold iy at h3;simp only [Bool.or_eq_false_iff] at h3;have:=List.any_eq_false.1 h3.2.2 f hf;simpa using this
 ·refine ⟨fun h=>?_,fun h=>absurd h (yv p _ _ _ h2)⟩;exfalso;apply h2;apply hs.1
  by_cases h3:iy p=true
  ·rw [if_pos h3] at h;cases h
  ·rw [if_neg h3] at h
   by_cases h4:p.fns.any mC=false
   ·rw [if_pos h4] at h;cases h
   ·exact ⟨by simpa using h3,(FJ (by simpa using h1)).1 (by simpa using h4)⟩
mutual
def wO:T->List ah
 | .mk n l=>mI l++(if n.kind=13 then [n.s] else [])
def mI:List T->List ah
 | []=>[]
 | t::r=>wO t++mI r
end
theorem QB (t:T):wO t=mI t.kids++(if t.n.kind=13 then [t.n.s] else []):=by cases t;rw [wO];rfl
mutual
theorem H6 {σ:Type} (f:σ->Nat->T->List ah->σ):∀ (t:T) (a:Nat) (s:σ) (ls:List ah),(iD f t a s ls).2=ls++wO t
 | .mk n l,a,s,ls=>by
  rw [iD,wO];simp only;rw [qF f l];split
  ·rw [append_assoc]
  ·rw [append_nil]
theorem qF {σ:Type} (f:σ->Nat->T->List ah->σ):∀ (l:List T) (a:Nat) (s:σ) (ls:List ah),(dU f l a s ls).2=ls++mI l
 | [],a,s,ls=>by rw [dU,mI,append_nil]
 | t::r,a,s,ls=>by rw [dU,qF f r,H6 f t,mI,append_assoc]
end
mutual
def IY (p:Src):T->List ah->Prop
 | .mk n l,ls=>bY p (.mk n l) ls=0/\(dO (.mk n l)=false->KA p l ls)
def KA (p:Src):List T->List ah->Prop
 | [],_=>True
 | t::r,ls=>IY p t ls/\KA p r (ls++wO t)
end
mutual
theorem RE (p:Src):∀ (t:T),gz t->∀ (a:Nat) (r:CS) (ls:List ah),r.code=0->r.skip < (a:Int)->(iD (cv p) t a r ls).1.code=0->IY p t ls/\(iD (cv p) t a r ls).1.skip < ((a+aP t:Nat):Int)
 | .mk n l,hw,a,r,ls,hr,hs,hc=>by
  rw [gz] at hw
  have bP:¬ (r.code≠0\/(a:Int)=r.skip):=by
   rintro (h | h)
   ·exact h hr
   ·omega
  obtain ⟨pl,cn⟩:∃ pl,cv p r a (.mk n l) ls=⟨bY p (.mk n l) ls,pl,if dO (.mk n l)=true then (if (nE (.mk n l)).kind≠2 then -1 else ((a+1:Nat):Int)) else r.skip⟩:=by
   unfold cv;rw [if_neg bP];exact ⟨_,rfl⟩
  rw [iD] at hc |-;simp only at hc |-;rw [cn] at hc |-
  have h0:bY p (.mk n l) ls=0:=by
   by_cases h0:bY p (.mk n l) ls=0
   ·exact h0
   ·rw [u6 p l _ _ _ h0] at hc;exact hc
  rw [h0] at hc |-
  by_cases hz:dO (.mk n l)=true
  ·have hk:l.length=1:=by
    unfold dO at hz;simp only [Bool.and_eq_true,beq_iff_eq] at hz;exact hz.2
   have h4:n.kind=4/\n.s=iN:=by
    unfold dO at hz;simp only [Bool.and_eq_true,beq_iff_eq] at hz;exact hz.1
   have hb:fU p (nE (.mk n l)) ls=false:=by
    have e:bY p (.mk n l) ls=eW p (.mk n l) ls:=by
     unfold bY;rw [if_neg (by show ¬ n.kind=13;omega),if_neg (by show ¬ (n.kind=2\/n.kind=7);omega),if_neg (by show ¬ (n.kind=3\/n.kind=8);omega),if_pos (by show n.kind=4;omega)]
    rw [e] at h0;unfold eW at h0;rw [if_pos hz] at h0
    by_cases hb:fU p (nE (.mk n l)) ls=true
    ·rw [if_pos hb] at h0;cases h0
    ·simpa using hb
   have og:(nE (.mk n l)).kind=2:=by
    unfold fU at hb;simp only [Bool.or_eq_false_iff] at hb;simpa using hb.1.1
   rw [if_pos hz,if_neg (by rw [og];decide)] at hc |-
   match l,hk,hw with
   | [k],_,hw =>
    have Zb:k.n.kind=2:=og;rw [dz] at hw
    have eR:k.kids=[]:=by
     have:=hw.2.2.1;obtain ⟨m,j⟩:=k;rw [gz] at this;exact this.2.1 Zb
    have sd:aP k=1:=by rw [ef,eR,az]
    refine ⟨by rw [IY];exact ⟨h0,fun h=>by rw [hz] at h;cases h⟩,?_⟩;simp only [dU];rw [u5,eR];simp only [dU]
    have Ps:cv p ⟨0,pl,((a+1:Nat):Int)⟩ (a+1) k ls=⟨0,pl,((a+1:Nat):Int)⟩:=by unfold cv;rw [if_pos (.inr rfl)]
    rw [Ps,aP,az,az,sd];simp only;omega
  ·have X6:dO (.mk n l)=false:=by simpa using hz
   rw [if_neg hz] at hc |-;have h:=NK p l hw.2.2 (a+1) ⟨0,pl,r.skip⟩ ls rfl (by simp only;omega) hc;refine ⟨by rw [IY];exact ⟨h0,fun _=>h.1⟩,?_⟩;rw [aP,show a+(az l+1)=a+1+az l by omega];exact h.2
theorem NK (p:Src):∀ (l:List T),dz l->∀ (a:Nat) (r:CS) (ls:List ah),r.code=0->r.skip < (a:Int)->(dU (cv p) l a r ls).1.code=0->KA p l ls/\(dU (cv p) l a r ls).1.skip < ((a+az l:Nat):Int)
 | [],_,a,r,ls,hr,hs,hc=>by rw [dU,az];exact ⟨trivial,by simpa using hs⟩
 | t::l,hw,a,r,ls,hr,hs,hc=>by
  rw [dz] at hw;rw [dU] at hc |-
  have h1:(iD (cv p) t a r ls).1.code=0:=by
   by_cases h1:(iD (cv p) t a r ls).1.code=0
   ·exact h1
   ·rw [u6 p l _ _ _ h1] at hc;exact hc
  obtain ⟨h2,h3⟩:=RE p t hw.1 a r ls hr hs h1;obtain ⟨h4,h5⟩:=NK p l hw.2 _ _ _ h1 h3 hc;rw [H6] at h4;rw [KA,az,<-Nat.add_assoc];exact ⟨⟨h2,h4⟩,h5⟩
end
mutual
def zT:T->Prop
 | .mk n l=>(n.kind≠1->n.n=0)/\gX l
def gX:List T->Prop
 | []=>True
 | t::r=>zT t/\gX r
end
mutual
theorem V9:∀ t:T,zT (er t)↔zT t
 | .mk n l=>by rw [er,zT,zT,RW l]
theorem RW:∀ l:List T,gX (aM l)↔gX l
 | []=>by rw [aM]
 | t::r=>by rw [aM,gX,gX,V9 t,RW r]
end
mutual
theorem E.z:∀ a:E,zT a.tree
 | .num n=>by rw [E.tree,zT];exact ⟨fun h=>absurd rfl h,trivial⟩
 | .name s=>by rw [E.tree,zT];exact ⟨fun _=>rfl,trivial⟩
 | .at_ s a=>by rw [E.tree,zT,gX,gX];exact ⟨fun _=>rfl,E.z a,trivial⟩
 | .call s l=>by rw [E.tree,zT];exact ⟨fun _=>rfl,E.zs l⟩
 | .un s a=>by rw [E.tree,zT,gX,gX];exact ⟨fun _=>rfl,E.z a,trivial⟩
 | .bin s a b=>by rw [E.tree,zT,gX,gX,gX];exact ⟨fun _=>rfl,E.z a,E.z b,trivial⟩
theorem E.zs:∀ l:List E,gX (E.trees l)
 | []=>trivial
 | a::l=>by rw [E.trees,gX];exact ⟨E.z a,E.zs l⟩
end
mutual
theorem S.z:∀ a:S,zT a.tree
 | .set s a=>by rw [S.tree,zT,gX,gX];exact ⟨fun _=>rfl,E.z a,trivial⟩
 | .put s a b=>by rw [S.tree,zT,gX,gX,gX];exact ⟨fun _=>rfl,E.z a,E.z b,trivial⟩
 | .if1 c b=>by rw [S.tree,zT,gX,gX,gX,zT];exact ⟨fun _=>rfl,E.z c,⟨fun _=>rfl,S.zs b⟩,trivial⟩
 | .if2 c b d=>by rw [S.tree,zT,gX,gX,gX,gX,zT,zT];exact ⟨fun _=>rfl,E.z c,⟨fun _=>rfl,S.zs b⟩,⟨fun _=>rfl,S.zs d⟩,trivial⟩
 | .while_ c b=>by rw [S.tree,zT,gX,gX,gX,zT];exact ⟨fun _=>rfl,E.z c,⟨fun _=>rfl,S.zs b⟩,trivial⟩
 | .ret a=>by rw [S.tree,zT,gX,gX];exact ⟨fun _=>rfl,E.z a,trivial⟩
 | .do_ a=>by rw [S.tree,zT,gX,gX];exact ⟨fun _=>rfl,E.z a,trivial⟩
 | .var s a=>by rw [S.tree,zT,gX,gX];exact ⟨fun _=>rfl,E.z a,trivial⟩
theorem S.zs:∀ l:List S,gX (S.trees l)
 | []=>trivial
 | a::l=>by rw [S.trees,gX];exact ⟨S.z a,S.zs l⟩
end
theorem Xr (l:List S):zT (bF l):=by rw [bF,zT];exact ⟨fun _=>rfl,S.zs l⟩
section
variable (p:Src) (names:List ah) (name:ah)
end
theorem Forms.wf {l:List T} {ls:List (List S)} (h:Forms l ls) {i:Nat} {t:T} (ht:l[i]?=some t):gz t/\zT t:=by
 have hi:=(List.getElem?_eq_some_iff.1 ht).1;have hlen:=h.len;have hb:ls[i]?=some (ls[i]'ao):=getElem?_eq_getElem _;obtain ⟨_,h2⟩:=h.at_ i t _ ht hb;exact ⟨(RU t).1 (by rw [h2];exact V3 _),(V9 t).1 (by rw [h2];exact Xr _)⟩
theorem Mn (p:Src):∀ (fs:List Fn) (l:List T) (a:Nat),(fm p fs l a).1=0->∀ (i:Nat) f t,fs[i]?=some f->l[i]?=some t->∃ b,(fk p f t b).1=0
 | f::r,t::l,a,h,0,g,u,h1,h2=>by
  cases h1;cases h2
  rw [fm] at h
  by_cases hc:(fk p f t a).1=0
  ·exact ⟨a,hc⟩
  ·rw [if_pos hc] at h;exact absurd h hc
 | f::r,t::l,a,h,i+1,g,u,h1,h2=>by
  rw [fm] at h
  by_cases hc:(fk p f t a).1=0
  ·rw [if_neg (by simpa using hc)] at h;exact Mn p r l _ h i g u (by simpa using h1) (by simpa using h2)
  ·rw [if_pos hc] at h;exact absurd h hc
 | [],_,a,h,i,g,u,h1,h2=>by simp at h1
 | f::r,[],a,h,i,g,u,h1,h2=>by simp at h2
structure Good (p:Src) (l:List T):Prop where
 st:fJ p l
 test:fI p=true
 names:dY (cJ p)=false
 len:p.fns.length=l.length
 at_:∀ (i:Nat) f t,p.fns[i]?=some f->l[i]?=some t->IY p t f.params/\gz t/\zT t/\et p.nodes f.body.toNat t/\0<=f.body
theorem SB {p:Src} (h:ig p=true):∃ l,Good p l:=by
 unfold ig at h;rw [Bool.and_eq_true] at h;obtain ⟨hf,h⟩:=h;obtain ⟨l,hl⟩:=tV hf;rw [hl.Ew] at h;simp only [decide_eq_true_eq] at h;obtain ⟨ls,hm⟩:=hl.JN
 have hb:dY (cJ p)=false:=by
  unfold CR at h
  by_cases hb:dY (cJ p)=true
  ·rw [if_pos hb] at h;cases h
  ·simpa using hb
 have iK:(fm p p.fns l 0).1=0:=by
  unfold CR at h;rw [if_neg (by rw [hb];decide)] at h;split at h
  ·cases h
  split at h
  ·cases h
  ·exact h
 refine ⟨l,hl,hf,hb,fw.len hl.fns,fun i f t h1 h2=>?_⟩;obtain ⟨b,hc⟩:=Mn p _ _ _ iK i f t h1 h2;obtain ⟨w1,w2⟩:=hm.wf h2;unfold fk at hc
 have hd:¬ uD f.params=true:=fun hd=>by rw [if_pos hd] at hc;cases hc
 rw [if_neg hd] at hc;have hi:=(List.getElem?_eq_some_iff.1 h2).1;obtain ⟨h5,h6⟩:=fw.at_ hl.fns i f t h1 h2;have h7:=dw.ix l 0 i _ hl.st h2;rw [Nat.zero_add] at h5 h7;refine ⟨(RE p t w1 b ⟨0,0,-1⟩ f.params rfl (by show (-1:Int) < _;omega) hc).1,w1,w2,?_,by omega⟩;rw [h5,Int.toNat_natCast];exact h7
theorem EG {σ:Type} (f:σ->Nat->T->List ah->σ) (t:T):∀ (l:List T) (a:Nat) (s:σ) (ls:List ah),dU f (l++[t]) a s ls=iD f t (a+az l) (dU f l a s ls).1 (dU f l a s ls).2
 | [],a,s,ls=>by rw [List.nil_append,dU,dU,dU,az,Nat.add_zero]
 | u::l,a,s,ls=>by rw [List.cons_append,dU,EG f t l,dU,az,Nat.add_assoc]
theorem EH {σ:Type} (f:σ->Nat->T->List ah->σ) {l:List T} {k:Nat} {t:T} (h:l[k]?=some t) (a:Nat) (s:σ) (ls:List ah) :
  dU f (l.take (k+1)) a s ls=iD f t (a+az (l.take k)) (dU f (l.take k) a s ls).1 (dU f (l.take k) a s ls).2:=by
 have:l.take (k+1)=l.take k++[t]:=by rw [take_add_one,h];rfl
 rw [this,EG]
theorem xV:∀ {l:List T} {n k:Nat} {t:T},l[k]?=some t->(bX n l)[k]?=some (((n+az (l.take k):Nat)):Int)
 | u::l,n,0,t,h=>by simp [bX,az]
 | u::l,n,k+1,t,h=>by
  have:=xV (l:=l) (n:=n+aP u) (k:=k) (t:=t) (by simpa using h);rw [bX,List.getElem?_cons_succ,this,List.take_succ_cons,az,Nat.add_assoc]
 | [],n,k,t,h=>by simp at h
theorem tI {l:List T} {k:Nat} {t:T} (h:l[k]?=some t):az (l.take k)+aP t<=az l:=by
 have h1:l.take (k+1)=l.take k++[t]:=by rw [take_add_one,h];rfl
 have h2:az l=az (l.take (k+1))+az (l.drop (k+1)):=by rw [<-mP,List.take_append_drop]
 rw [h1,mP,az,az] at h2;omega
theorem Qq {l:List T} {k:Nat} {t:T} (h:l[k]?=some t):az (l.take (k+1))=az (l.take k)+aP t:=by
 have h1:l.take (k+1)=l.take k++[t]:=by rw [take_add_one,h];rfl
 rw [h1,mP,az,az,Nat.add_zero]
theorem QC:∀ (N:Nat) (t:T),aP t<=N->(wO t).length<=aP t:=by
 intro N
 induction N with
 | zero=>intro t h;have:=km t;omega
 | succ N ih =>
  intro t h
  have key:∀ l:List T,az l<=N->(mI l).length<=az l:=by
   intro l
   induction l with
   | nil=>intro _;simp [mI]
   | cons u l ih2 =>
    intro h;rw [az] at h;have:=ih u ao;have:=ih2 ao;rw [mI,length_append,az];omega
  rw [ef] at h |-;have:=key t.kids ao;rw [QB,length_append];split <;> simp <;> omega
theorem uw (l:List T):(mI l).length<=az l:=by
 induction l with
 | nil=>simp [mI]
 | cons u l ih =>
  have:=QC _ u (Nat.le_refl _);rw [mI,length_append,az];omega
theorem lZ {α:Type} {f:α->Bool} {l:List α} {k:Nat} {x:α} (hk:l[k]?=some x) (h:f x=true) (aQ:(l.take k).all (fun y=>!f y)=true):cD f l=(k:Int):=by
 have ak:k < l.length:=by
  rcases Nat.lt_or_ge k l.length with h1 | h1
  ·exact h1
  ·rw [getElem?_eq_none h1] at hk;cases hk
 have hx:l[k]=x:=by rw [getElem?_eq_getElem ak] at hk;exact Option.some.inj hk
 have:l.findIdx? f=some k:=by
  rw [List.findIdx?_eq_some_iff_getElem];refine ⟨ak,by rw [hx];exact h,fun j hj=>?_⟩;rw [all_eq_true] at aQ;have:=aQ l[j] (by rw [List.mem_take_iff_getElem];exact ⟨j,by omega,rfl⟩);simpa using this
 unfold cD;rw [this]
theorem jz {α:Type} {f:α->Bool} {l:List α} (aQ:l.all (fun y=>!f y)=true):cD f l = -1:=by
 have:l.findIdx? f=none:=by
  rw [List.findIdx?_eq_none_iff];intro x hx;rw [all_eq_true] at aQ;simpa using aQ x hx
 unfold cD;rw [this]
theorem lW {α:Type} {f:α->Bool} {l:List α} {k:Nat} {x:α} (hk:l[k]?=some x):(l.take (k+1)).all (fun y=>!f y)=((l.take k).all (fun y=>!f y)&&!f x):=by
 rw [take_add_one,hk,List.all_append];simp
theorem CX {α:Type} (f:α->Bool) (l:List α):decide ((0:Int)<=cD f l)=l.any f:=by
 cases h:l.any f with
 | false =>
  rw [jz (by rw [any_eq_false] at h;rw [all_eq_true];intro x hx;simpa using h x hx)];rfl
 | true =>
  unfold cD
  cases h2:l.findIdx? f with
  | some i=>simp
  | none =>
   rw [List.findIdx?_eq_none_iff] at h2;rw [any_eq_true] at h;obtain ⟨x,hx,h3⟩:=h;have:=h2 x hx;simp [h3] at this
def tU (p:Src) (n:Nd):List Int:=if n.kind=4/\0<=nU p n.s then [nU p n.s] else []
mutual
def oz (p:Src):T->List Int
 | .mk n l=>tU p n++gY p l
def gY (p:Src):List T->List Int
 | []=>[]
 | t::r=>oz p t++gY p r
end
theorem TL (p:Src) (t:T):oz p t=tU p t.n++gY p t.kids:=by cases t;rw [oz];rfl
def fj (p:Src) (s:List Int) (_:Nat) (t:T) (_:List ah):List Int:=s++tU p t.n
mutual
theorem QS (p:Src):∀ (t:T) (a:Nat) (s:List Int) (ls:List ah),(iD (fj p) t a s ls).1=s++oz p t
 | .mk n l,a,s,ls=>by
  rw [iD,oz];simp only;rw [EI p l];unfold fj;show s++tU p n++_=_;rw [append_assoc]
theorem EI (p:Src):∀ (l:List T) (a:Nat) (s:List Int) (ls:List ah),(dU (fj p) l a s ls).1=s++gY p l
 | [],a,s,ls=>by rw [dU,gY,append_nil]
 | t::r,a,s,ls=>by rw [dU,EI p r,QS p t,gY,append_assoc]
end
theorem BR (p:Src) (n:Nd):(tU p n).length<=1:=by unfold tU;split <;> simp
theorem LS (p:Src):∀ (N:Nat) (t:T),aP t<=N->(oz p t).length<=aP t:=by
 intro N
 induction N with
 | zero=>intro t h;have:=km t;omega
 | succ N ih =>
  intro t h
  have key:∀ l:List T,az l<=N->(gY p l).length<=az l:=by
   intro l
   induction l with
   | nil=>intro _;simp [gY]
   | cons u l ih2 =>
    intro h;rw [az] at h;have:=ih u ao;have:=ih2 ao;rw [gY,length_append,az];omega
  rw [ef] at h |-;have:=key t.kids ao;have:=BR p t.n;rw [TL,length_append];omega
theorem Ez (p:Src) (l:List T):(gY p l).length<=az l:=by
 induction l with
 | nil=>simp [gY]
 | cons u l ih =>
  have:=LS p _ u (Nat.le_refl _);rw [gY,length_append,az];omega
theorem LR (p:Src) {l:List T} {k:Nat} {t:T} (h:l[k]?=some t):gY p (l.take (k+1))=gY p (l.take k)++oz p t:=by
 have h1:l.take (k+1)=l.take k++[t]:=by rw [take_add_one,h];rfl
 have:∀ a b:List T,gY p (a++b)=gY p a++gY p b:=by
  intro a b
  induction a with
  | nil=>simp [gY]
  | cons u a ih=>simp [gY,ih]
 rw [h1,this];simp [gY]
theorem O8 (p:Src) (s:ah):nU p s < (p.fns.length:Int):=by
 unfold nU cD
 cases h:p.fns.findIdx? (fun f:Fn=>f.name==s) with
 | none=>simp only;omega
 | some i =>
  rw [List.findIdx?_eq_some_iff_getElem] at h;obtain ⟨h,_⟩:=h;simp only;omega
theorem Sa (p:Src) (n:Nd):∀ x∈tU p n,0<=x/\x < (p.fns.length:Int):=by
 intro x hx;unfold tU at hx;split at hx
 ·rename_i h;rw [mem_singleton] at hx;subst hx;exact ⟨h.2,O8 p _⟩
 ·simp at hx
mutual
theorem LU (p:Src):∀ (t:T),∀ x∈oz p t,0<=x/\x < (p.fns.length:Int)
 | .mk n l,x,hx=>by
  rw [oz,List.mem_append] at hx
  rcases hx with h | h
  ·exact Sa p n x h
  ·exact HQ p l x h
theorem HQ (p:Src):∀ (l:List T),∀ x∈gY p l,0<=x/\x < (p.fns.length:Int)
 | [],x,hx=>by simp [gY] at hx
 | t::r,x,hx=>by
  rw [gY,List.mem_append] at hx
  rcases hx with h | h
  ·exact LU p t x h
  ·exact HQ p r x h
end
def gB (l:List Int):Prop:=l.Pairwise (· < ·)
theorem Bn:∀ {a b:List Int},gB a->gB b->(∀ x,x∈a↔x∈b)->a=b
 | [],[],_,_,_=>rfl
 | [],y::b,_,_,h=>by have:=(h y).2 (by simp);simp at this
 | x::a,[],_,_,h=>by have:=(h x).1 (by simp);simp at this
 | x::a,y::b,ha,hb,h=>by
  unfold gB at ha hb;rw [pairwise_cons] at ha hb
  have iU:x=y:=by
   have h1:=(h x).1 (by simp);have h2:=(h y).2 (by simp)
   rcases List.mem_cons.1 h1 with h1 | h1
   ·exact h1
   rcases List.mem_cons.1 h2 with h2 | h2
   ·exact h2.symm
   have:=hb.1 x h1;have:=ha.1 y h2;omega
  subst iU
  have:a=b:=Bn ha.2 hb.2 fun z=>by
   constructor
   ·intro hz;have:=(h z).1 (mem_cons_of_mem _ hz)
    rcases List.mem_cons.1 this with e | e
    ·have:=ha.1 z hz;omega
    ·exact e
   ·intro hz;have:=(h z).2 (mem_cons_of_mem _ hz)
    rcases List.mem_cons.1 this with e | e
    ·have:=hb.1 z hz;omega
    ·exact e
  rw [this]
def qM (n:Int):List Int->List Int
 | []=>[n]
 | x::r=>if n < x then n::x::r else x::qM n r
def ir (l:List Int) (n:Int):List Int:=if l.contains n=true then l else qM n l
theorem z7 {n:Int}:∀ {l:List Int} {x:Int},x∈qM n l↔x=n\/x∈l
 | [],x=>by simp [qM]
 | y::r,x=>by
  rw [qM];split
  ·simp
  ·rw [List.mem_cons,z7,List.mem_cons];constructor
   ·rintro (h | h | h)
    ·exact .inr (.inl h)
    ·exact .inl h
    ·exact .inr (.inr h)
   ·rintro (h | h | h)
    ·exact .inr (.inl h)
    ·exact .inl h
    ·exact .inr (.inr h)
theorem zq {n:Int}:∀ {l:List Int},gB l->n ∉ l->gB (qM n l)
 | [],_,_=>by simp [qM,gB]
 | y::r,h,hn=>by
  unfold gB at h |-;rw [pairwise_cons] at h;rw [qM];rw [List.mem_cons,not_or] at hn;split
  ·rename_i ak;rw [pairwise_cons,pairwise_cons];refine ⟨fun z hz=>?_,h.1,h.2⟩
   rcases List.mem_cons.1 hz with e | e
   ·omega
   ·have:=h.1 z e;omega
  ·rename_i ak;rw [pairwise_cons];refine ⟨fun z hz=>?_,zq h.2 hn.2⟩
   rcases z7.1 hz with e | e
   ·have:=hn.1;omega
   ·exact h.1 z e
theorem F4 {l:List Int} {n x:Int}:x∈ir l n↔x=n\/x∈l:=by
 unfold ir;split
 ·rename_i h;have:=List.contains_iff_mem.1 h;constructor
  ·exact .inr
  ·rintro (rfl | h)
   ·exact this
   ·exact h
 ·exact z7
theorem Hu {l:List Int} {n:Int} (h:gB l):gB (ir l n):=by
 unfold ir;split
 ·exact h
 ·rename_i hc
  exact zq h fun e=>hc (List.contains_iff_mem.2 e)
theorem z6 {n:Int}:∀ {l:List Int},(qM n l).length=l.length+1
 | []=>rfl
 | y::r=>by
  rw [qM];split
  ·simp
  ·rw [length_cons,z6,length_cons]
theorem P7 {l:List Int} {n:Int}:(ir l n).length<=l.length+1:=by
 unfold ir;split
 ·omega
 ·rw [z6];omega
def ov (n:Int) (st:List Int × Bool) (x:Int):List Int × Bool:=if (!st.2&&decide (n < x))=true then (st.1++[n]++[x],true) else (st.1++[x],st.2)
def jl (l:List Int) (n:Int) (k:Nat):List Int × Bool:=(l.take k).foldl (ov n) ([],false)
theorem DB {l:List Int} {n:Int} {k:Nat} {x:Int} (h:l[k]?=some x):jl l n (k+1)=ov n (jl l n k) x:=by
 unfold jl;rw [take_add_one,h,List.foldl_append];rfl
theorem CY (n:Int):∀ (l acc:List Int),l.foldl (ov n) (acc,true)=(acc++l,true)
 | [],acc=>by simp
 | x::r,acc=>by
  rw [foldl_cons,show ov n (acc,true) x=(acc++[x],true) by simp [ov],CY n r];simp
theorem EN (n:Int):∀ (l acc:List Int),(if (l.foldl (ov n) (acc,false)).2=true then (l.foldl (ov n) (acc,false)).1 else (l.foldl (ov n) (acc,false)).1++[n])=acc++qM n l
 | [],acc=>by simp [qM]
 | x::r,acc=>by
  rw [foldl_cons,qM]
  by_cases h:n < x
  ·rw [show ov n (acc,false) x=(acc++[n]++[x],true) by simp [ov,h],CY,if_pos h];simp
  ·rw [show ov n (acc,false) x=(acc++[x],false) by simp [ov,h],if_neg h,EN n r];simp
theorem P8 (l:List Int) (n:Int) (h:l.contains n=false):(if (jl l n l.length).2=true then (jl l n l.length).1 else (jl l n l.length).1++[n])=ir l n:=by
 unfold jl ir;rw [List.take_length,EN,if_neg (by rw [h];decide)];rfl
theorem F5 (l:List Int) (n:Int) (k:Nat):(jl l n k).1.length<=k+1/\((jl l n k).2=false->(jl l n k).1.length<=k):=by
 induction k with
 | zero=>simp [jl]
 | succ k ih =>
  rcases Nat.lt_or_ge k l.length with h | h
  ·rw [DB (getElem?_eq_getElem h)];unfold ov;split
   ·rename_i hc;rw [Bool.and_eq_true] at hc;have:=ih.2 (by simpa using hc.1);refine ⟨by simp;omega,fun h=>by cases h⟩
   ·refine ⟨by simp;exact ih.1,fun h2=>?_⟩;have:=ih.2 h2;simp;omega
  ·have:jl l n (k+1)=jl l n k:=by unfold jl;rw [List.take_of_length_le ao,List.take_of_length_le ao]
   rw [this];exact ⟨by omega,fun h2=>by have:=ih.2 h2;omega⟩
def oL (l:List Int):List Int:=l.foldl ir []
theorem x7:∀ (l acc:List Int),gB acc->gB (l.foldl ir acc)/\∀ x,x∈l.foldl ir acc↔x∈acc\/x∈l
 | [],acc,h=>⟨h,fun x=>by simp⟩
 | y::r,acc,h=>by
  obtain ⟨h1,h2⟩:=x7 r (ir acc y) (Hu h);refine ⟨h1,fun x=>?_⟩;rw [foldl_cons,h2,F4,List.mem_cons];constructor
  ·rintro ((h | h) | h)
   ·exact .inr (.inl h)
   ·exact .inl h
   ·exact .inr (.inr h)
  ·rintro (h | h | h)
   ·exact .inl (.inr h)
   ·exact .inl (.inl h)
   ·exact .inr h
theorem r6 (l:List Int):gB (oL l):=(x7 l [] List.Pairwise.nil).1
theorem wI {l:List Int} {x:Int}:x∈oL l↔x∈l:=by
 have:=(x7 l [] List.Pairwise.nil).2 x;unfold oL;rw [this];simp
theorem wJ:∀ {l:List Int} {a b:Int},gB l->(∀ x∈l,a<=x/\x < b)->a<=b->(l.length:Int)<=b - a
 | [],a,b,_,_,h=>by simp;omega
 | x::r,a,b,h,hb,Q2=>by
  unfold gB at h;rw [pairwise_cons] at h;have hx:=hb x (by simp);have:=wJ (l:=r) (a:=x+1) (b:=b) h.2 (fun y hy=>by have:=h.1 y hy;have:=hb y (mem_cons_of_mem _ hy);omega) ao;rw [length_cons];omega
theorem Dt {l:List Int} {n:Nat} (h:l.Nodup) (hb:∀ x∈l,0<=x/\x < (n:Int)):l.length<=n:=by
 have h1:(oL l).length=l.length:=by
  have key:∀ (l acc:List Int),l.Nodup->(∀ x∈l,x ∉ acc)->(l.foldl ir acc).length=acc.length+l.length:=by
   intro l
   induction l with
   | nil=>intro acc _ _;simp
   | cons y r ih =>
    intro acc h1 h2;rw [List.nodup_cons] at h1
    have hy:acc.contains y=false:=by
     cases hc:acc.contains y with
     | false=>rfl
     | true=>exact absurd (List.contains_iff_mem.1 hc) (h2 y (by simp))
    rw [foldl_cons,ih _ h1.2 fun x hx hm=>?_]
    ·unfold ir;rw [if_neg (by rw [hy];decide),z6,length_cons];omega
    ·rcases F4.1 hm with e | e
     ·subst e;exact h1.1 hx
     ·exact h2 x (mem_cons_of_mem _ hx) e
  have:=key l [] h (by simp);unfold oL;rw [this];simp
 have h2:=wJ (r6 l) (a:=0) (b:=n) (fun x hx=>hb x (wI.1 hx)) ao;omega
def bT (p:Src) (t:T):List Int:=oL (oz p t)
theorem nR (p:Src) (t:T):gB (bT p t):=r6 _
theorem mM (p:Src) (t:T):∀ x∈bT p t,0<=x/\x < (p.fns.length:Int):=fun x hx=>LU p t x (wI.1 hx)
theorem y7 (p:Src) (t:T):(bT p t).length<=p.fns.length:=by
 have:=wJ (nR p t) (a:=0) (b:=p.fns.length) (mM p t) ao;omega
theorem tB {l:List Int} (h:gB l):l.Nodup:=by
 unfold gB at h;exact h.imp (fun {a b} Q2=>by omega)
def dK (l ks:List Int):List Int:=ks.foldl (fun l k=>if l.contains k=true then l else l++[k]) l
theorem CK (l:List Int) (ks:List Int) (k:Nat) (x:Int) (h:ks[k]?=some x):dK l (ks.take (k+1))=if (dK l (ks.take k)).contains x=true then dK l (ks.take k) else dK l (ks.take k)++[x]:=by
 unfold dK;rw [take_add_one,h,List.foldl_append];rfl
theorem qC:∀ {ks l:List Int} {x:Int},x∈dK l ks↔x∈l\/x∈ks
 | [],l,x=>by simp [dK]
 | k::r,l,x=>by
  have:=@qC r (if l.contains k=true then l else l++[k]) x;unfold dK at this |-;rw [foldl_cons,this,List.mem_cons];split
  ·rename_i hc;have:=List.contains_iff_mem.1 hc;constructor
   ·rintro (h | h)
    ·exact .inl h
    ·exact .inr (.inr h)
   ·rintro (h | h | h)
    ·exact .inl h
    ·subst h;exact .inl this
    ·exact .inr h
  ·rw [List.mem_append,mem_singleton,or_assoc]
theorem vN:∀ {ks l:List Int},l.Nodup->(dK l ks).Nodup
 | [],l,h=>h
 | k::r,l,h=>by
  have hn:(if l.contains k=true then l else l++[k]).Nodup:=by
   split
   ·exact h
   ·rename_i hc;rw [List.nodup_append];refine ⟨h,by simp,fun a ha b hb e=>?_⟩;rw [mem_singleton] at hb;subst e;subst hb;exact hc (List.contains_iff_mem.2 ha)
  exact vN (ks:=r) hn
theorem vO:∀ (ks l:List Int),∃ m,dK l ks=l++m
 | [],l=>⟨[],by simp [dK]⟩
 | k::r,l=>by
  have e:dK l (k::r)=dK (if l.contains k=true then l else l++[k]) r:=rfl;rw [e];obtain ⟨m,hm⟩:=vO r (if l.contains k=true then l else l++[k]);rw [hm];split
  ·exact ⟨m,rfl⟩
  ·exact ⟨[k]++m,by simp⟩
def mZ (cs:Int->List Int):Nat->Nat->List Int->List Int
 | 0,_,l=>l
 | f+1,i,l=>match l[i]? with | none=>l | some x=>mZ cs f (i+1) (dK l (cs x))
theorem AE (cs:Int->List Int) (n:Nat) (eJ:∀ x,∀ y∈cs x,0<=y/\y < (n:Int)) :
  ∀ (f i:Nat) (L:List Int),L.Nodup->(∀ y∈L,0<=y/\y < (n:Int))->n+1<=f+i ->
   (∀ j x,j < i->L[j]?=some x->∀ y∈cs x,y∈L) ->
   ∀ x∈mZ cs f i L,∀ y∈cs x,y∈mZ cs f i L
 | 0,i,L,hn,hr,hf,hj=>by
  intro x hx y hy;rw [mZ] at hx |-;obtain ⟨j,oE,he⟩:=List.mem_iff_getElem.1 hx;have:=Dt hn hr;exact hj j x ao (by rw [getElem?_eq_getElem oE,he]) y hy
 | f+1,i,L,hn,hr,hf,hj=>by
  cases hi:L[i]? with
  | none =>
   have hb:mZ cs (f+1) i L=L:=by rw [mZ,hi]
   rw [hb];intro x hx y hy;obtain ⟨j,oE,he⟩:=List.mem_iff_getElem.1 hx;have:=List.getElem?_eq_none_iff.1 hi;exact hj j x ao (by rw [getElem?_eq_getElem oE,he]) y hy
  | some x0 =>
   have hb:mZ cs (f+1) i L=mZ cs f (i+1) (dK L (cs x0)):=by rw [mZ,hi]
   rw [hb];refine AE cs n eJ f (i+1) _ (vN hn) (fun y hy=>?_) ao (fun j x oe Ra y hy=>?_)
   ·rcases qC.1 hy with h1 | h1
    ·exact hr y h1
    ·exact eJ x0 y h1
   ·have sc:i < L.length:=by
     rcases Nat.lt_or_ge i L.length with h | h
     ·exact h
     ·rw [getElem?_eq_none h] at hi;cases hi
    obtain ⟨m,hm⟩:=vO (cs x0) L
    have oE:j < L.length:=by omega
    rw [hm,List.getElem?_append_left oE] at Ra
    rcases Nat.lt_or_ge j i with h | h
    ·exact qC.2 (.inl (hj j x h Ra y hy))
    ·have:j=i:=by omega
     subst this;rw [hi] at Ra;cases Ra;exact qC.2 (.inr hy)
theorem CN (cs:Int->List Int) (S:Int->Prop) (hS:∀ x,S x->∀ y∈cs x,S y) :
  ∀ (f i:Nat) (L:List Int),(∀ x∈L,S x)->∀ x∈mZ cs f i L,S x
 | 0,i,L,h=>by rw [mZ];exact h
 | f+1,i,L,h=>by
  rw [mZ];split
  ·exact h
  ·rename_i x0 po
   refine CN cs S hS f (i+1) _ fun x hx=>?_
   rcases qC.1 hx with h1 | h1
   ·exact h x h1
   ·exact hS x0 (h x0 (mem_of_getElem? po)) x h1
def fG (F:Int->List Int) (a b:Int):Bool:=a==b || ((F a).contains b&&(F b).contains a)
def Xu (F:Int->List Int):Prop:=∀ a b,b∈F a->∀ c∈F b,c∈F a
theorem uq {F:Int->List Int} {a b:Int}:fG F a b=true↔a=b\/(b∈F a/\a∈F b):=by
 unfold fG;rw [Bool.or_eq_true,Bool.and_eq_true,beq_iff_eq,contains_iff_mem,contains_iff_mem]
theorem KL (F:Int->List Int) (a:Int):fG F a a=true:=uq.2 (.inl rfl)
theorem KM {F:Int->List Int} {a b:Int} (h:fG F a b=true):fG F b a=true:=by
 rcases uq.1 h with h | ⟨h1,h2⟩
 ·exact uq.2 (.inl h.symm)
 ·exact uq.2 (.inr ⟨h2,h1⟩)
def yz (F:Int->List Int) (out:List (List Int)) (k:Int):Option Nat:=out.findIdx? fun l=>fG F (l.headD 0) k
def lq (F:Int->List Int) (out:List (List Int)) (k:Int):List (List Int) :=
 match yz F out k with
 | some i=>out.set i ((out[i]?.getD [])++[k])
 | none=>out++[[k]]
def fo (F:Int->List Int):Nat->List (List Int)
 | 0=>[]
 | k+1=>lq F (fo F k) (k:Int)
structure TA (F:Int->List Int) (n:Nat) (out:List (List Int)):Prop where
 ne:∀ l∈out,l≠[]
 mem:∀ l∈out,∀ x∈l,0<=x/\x < (n:Int)/\fG F (l.headD 0) x=true
 all:∀ x:Int,0<=x->x < (n:Int)->∃ l∈out,x∈l
 heads:∀ (i j:Nat) (a b:List Int),out[i]?=some a->out[j]?=some b->fG F (a.headD 0) (b.headD 0)=true->i=j
theorem AX {l:List Int} (h:l≠[]) (x d:Int):(l++[x]).headD d=l.headD d:=by
 cases l with
 | nil=>exact absurd rfl h
 | cons a l=>rfl
theorem B1 {F:Int->List Int} (ht:Xu F):∀ n,TA F n (fo F n)
 | 0=>⟨by simp [fo],by simp [fo],fun x h1 h2=>by omega,by simp [fo]⟩
 | n+1=>by
  have ih:=B1 ht n;rw [fo];generalize fo F n=out at ih;unfold lq
  cases hg:yz F out (n:Int) with
  | none =>
   have b8:∀ l∈out,fG F (l.headD 0) (n:Int)=false:=by
    unfold yz at hg;rw [List.findIdx?_eq_none_iff] at hg;exact hg
   refine ⟨fun l hl=>?_,fun l hl x hx=>?_,fun x h1 h2=>?_,fun i j a b hi hj hs=>?_⟩
   ·rcases List.mem_append.1 hl with h | h
    ·exact ih.ne l h
    ·rw [mem_singleton] at h;subst h;simp
   ·rcases List.mem_append.1 hl with h | h
    ·obtain ⟨a,b,c⟩:=ih.mem l h x hx;exact ⟨a,by push_cast;omega,c⟩
    ·rw [mem_singleton] at h;subst h;rw [mem_singleton] at hx;subst hx;exact ⟨by omega,by push_cast;omega,KL _ _⟩
   ·by_cases h:x=(n:Int)
    ·exact ⟨[(n:Int)],by simp,by simp [h]⟩
    ·obtain ⟨l,hl,hx⟩:=ih.all x h1 (by push_cast at h2;omega);exact ⟨l,List.mem_append_left _ hl,hx⟩
   ·rcases Nat.lt_or_ge i out.length with h1 | h1
    ·rw [List.getElem?_append_left h1] at hi
     rcases Nat.lt_or_ge j out.length with h2 | h2
     ·rw [List.getElem?_append_left h2] at hj;exact ih.heads i j a b hi hj hs
     ·rw [List.getElem?_append_right h2] at hj;have hb:b=[(n:Int)]:=List.mem_singleton.1 (mem_of_getElem? hj);subst hb;have:=b8 a (mem_of_getElem? hi);rw [show ([(n:Int)]:List Int).headD 0=(n:Int) from rfl,this] at hs;cases hs
    ·rw [List.getElem?_append_right h1] at hi;have ha:a=[(n:Int)]:=List.mem_singleton.1 (mem_of_getElem? hi);subst ha
     have xI:i - out.length < 1:=by
      rcases Nat.lt_or_ge (i - out.length) 1 with h | h
      ·exact h
      ·rw [getElem?_eq_none (by simpa using h)] at hi;cases hi
     rcases Nat.lt_or_ge j out.length with h2 | h2
     ·rw [List.getElem?_append_left h2] at hj;have:=b8 b (mem_of_getElem? hj);rw [show ([(n:Int)]:List Int).headD 0=(n:Int) from rfl] at hs;rw [KM hs] at this;cases this
     ·rw [List.getElem?_append_right h2] at hj
      have MV:j - out.length < 1:=by
       rcases Nat.lt_or_ge (j - out.length) 1 with h | h
       ·exact h
       ·rw [getElem?_eq_none (by simpa using h)] at hj;cases hj
      omega
  | some i0 =>
   unfold yz at hg;rw [List.findIdx?_eq_some_iff_getElem] at hg;obtain ⟨xI,rF,-⟩:=hg;have E7:out[i0]?=some out[i0]:=getElem?_eq_getElem xI;have wg:out[i0]∈out:=List.getElem_mem xI;simp only [E7,Option.getD_some];generalize tZ:out[i0]=l0 at *;have bP:=ih.ne l0 wg
   have bU:∀ (i:Nat) (a:List Int),(out.set i0 (l0++[(n:Int)]))[i]?=some a->(i=i0/\a=l0++[(n:Int)])\/(i≠i0/\out[i]?=some a):=by
    intro i a h;rw [getElem?_set] at h;split at h
    ·rename_i he;cases h;exact .inl ⟨he.symm,rfl⟩
    ·rename_i he;exact .inr ⟨fun e=>he e.symm,h⟩
   have Q8:∀ (i:Nat) (a:List Int),(out.set i0 (l0++[(n:Int)]))[i]?=some a->∃ a',out[i]?=some a'/\a.headD 0=a'.headD 0:=by
    intro i a h
    rcases bU i a h with ⟨h1,h2⟩ | ⟨h1,h2⟩
    ·subst h1 h2;exact ⟨l0,E7,AX bP _ _⟩
    ·exact ⟨a,h2,rfl⟩
   refine ⟨fun l hl=>?_,fun l hl x hx=>?_,fun x h1 h2=>?_,fun i j a b hi hj hs=>?_⟩
   ·obtain ⟨i,hi⟩:=List.mem_iff_getElem?.1 hl
    rcases bU i l hi with ⟨h1,h2⟩ | ⟨h1,h2⟩
    ·subst h2;simp
    ·exact ih.ne l (mem_of_getElem? h2)
   ·obtain ⟨i,hi⟩:=List.mem_iff_getElem?.1 hl
    rcases bU i l hi with ⟨h1,h2⟩ | ⟨h1,h2⟩
    ·subst h2;rw [AX bP]
     rcases List.mem_append.1 hx with h | h
     ·obtain ⟨a,b,c⟩:=ih.mem l0 wg x h;exact ⟨a,by push_cast;omega,c⟩
     ·rw [mem_singleton] at h;subst h;exact ⟨by omega,by push_cast;omega,rF⟩
    ·obtain ⟨a,b,c⟩:=ih.mem l (mem_of_getElem? h2) x hx;exact ⟨a,by push_cast;omega,c⟩
   ·by_cases h:x=(n:Int)
    ·exact ⟨l0++[(n:Int)],mem_of_getElem? (by rw [getElem?_set,if_pos rfl,if_pos xI]:(out.set i0 (l0++[(n:Int)]))[i0]?=some _),by simp [h]⟩
    ·obtain ⟨l,hl,hx⟩:=ih.all x h1 (by push_cast at h2;omega);obtain ⟨i,hi⟩:=List.mem_iff_getElem?.1 hl
     by_cases he:i=i0
     ·subst he;rw [E7] at hi;cases hi;exact ⟨l0++[(n:Int)],mem_of_getElem? (by rw [getElem?_set,if_pos rfl,if_pos xI]:(out.set i (l0++[(n:Int)]))[i]?=some _),List.mem_append_left _ hx⟩
     ·exact ⟨l,mem_of_getElem? (by rw [getElem?_set,if_neg (fun e=>he e.symm)];exact hi:(out.set i0 (l0++[(n:Int)]))[i]?=some l),hx⟩
   ·obtain ⟨a',ha,hae⟩:=Q8 i a hi;obtain ⟨b',hb,oa⟩:=Q8 j b hj;rw [hae,oa] at hs;exact ih.heads i j a' b' ha hb hs
end Go.Im
