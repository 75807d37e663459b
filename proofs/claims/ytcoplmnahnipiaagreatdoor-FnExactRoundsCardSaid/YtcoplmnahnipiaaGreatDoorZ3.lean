/- Part 3 of proofs that are told in their last texts. -/
import Derived.Test.YtcoplmnahnipiaaGreatDoorZ2
open List (all_eq_true any_eq_false any_eq_true append_assoc append_nil contains_iff_mem foldl_cons length_append length_cons mem_cons_of_mem mem_cons_self mem_singleton pairwise_cons take_add_one)
set_option linter.unusedVariables false
set_option linter.unusedSimpArgs false
set_option maxRecDepth 100000
namespace Go.Im
open Go.Xp Go.Sp
def oh:ai:=[103,101,116]
def ph:ai:=[112,117,116]
def iu:ai:=[115,105,122,101]
def uD:ai:=[109,97,105,110]
def lC (s:ai):Bool:=(s==oh || s==ph) || s==iu
def cJ {α:Type} (f:α->Bool) (l:List α):Int:=match l.findIdx? f with | some i=>(i:Int) | none => -1
def np (p:Src) (s:ai):Int:=cJ (fun f:Fn=>f.name==s) p.fns
def Dv (p:Src) (s:ai):Int:=cJ (fun a:Ar=>a.name==s) p.arrays
def eH (p:Src):List ai:=p.arrays.map fun a:Ar=>a.name
def gX (p:Src):List ai:=p.fns.map fun f:Fn=>f.name
def cw (p:Src):List ai:=(p.globals++eH p)++gX p
def mO (t:T):Nd:=match t.kids with | k::_=>k.n | []=>⟨0,0,0,[],[]⟩
def dI (t:T):Bool:=(t.n.kind==4&&t.n.s==iu)&&(t.kids.length==1)
def kW (p:Src) (i:Nat):Nat:=match p.fns[i]? with | some f=>f.params.length | none=>0
def mr (p:Src) (s:ai):Int:=if s=oh then 0 else if s=ph\/s=iu then 1 else match p.fns.findIdx? (fun f:Fn=>f.name==s) with | some i=>(kW p i:Int) | none => -1
def fP (p:Src) (k:Nd) (ls:List ai):Bool:=(k.kind != 2 || decide (Dv p k.s < 0)) || ls.contains k.s
def eN (p:Src) (t:T) (ls:List ai):Int :=
 if dI t=true then (if fP p (mO t) ls=true then 24 else 0)
 else if mr p t.n.s = -1 then 22 else if mr p t.n.s=(t.kids.length:Int) then 0 else 23
def bR (p:Src) (t:T) (ls:List ai):Int :=
 if t.n.kind=13 then (if ls.contains t.n.s=true then 21 else if ls.length>=40 then 26 else 0)
 else if t.n.kind=2\/t.n.kind=7 then (if ls.contains t.n.s=false/\p.globals.contains t.n.s=false then 22 else 0)
 else if t.n.kind=3\/t.n.kind=8 then (if ls.contains t.n.s=true\/Dv p t.n.s < 0 then 24 else 0)
 else if t.n.kind=4 then eN p t ls
 else 0
structure CS where
 code:Int
 place:Int
 skip:Int
def b9 (p:Src) (c:CS) (a:Nat) (t:T) (ls:List ai):CS :=
 if c.code≠0\/(a:Int)=c.skip then c
 else ⟨bR p t ls,if bR p t ls≠0 then t.n.at_ else c.place,if dI t=true then (if (mO t).kind≠2 then -1 else ((a+1:Nat):Int)) else c.skip⟩
mutual
def ij {σ:Type} (f:σ->Nat->T->List ai->σ):T->Nat->σ->List ai->σ × List ai
 | .mk n l,a,s,ls=>((dP f l (a+1) (f s a (.mk n l) ls) ls).1,if n.kind=13 then (dP f l (a+1) (f s a (.mk n l) ls) ls).2++[n.s] else (dP f l (a+1) (f s a (.mk n l) ls) ls).2)
def dP {σ:Type} (f:σ->Nat->T->List ai->σ):List T->Nat->σ->List ai->σ × List ai
 | [],_,s,ls=>(s,ls)
 | t::r,a,s,ls=>dP f r (a+aO t) (ij f t a s ls).1 (ij f t a s ls).2
end
theorem uk {σ:Type} (f:σ->Nat->T->List ai->σ) (t:T) (a:Nat) (s:σ) (ls:List ai) :
  ij f t a s ls=((dP f t.kids (a+1) (f s a t ls) ls).1,if t.n.kind=13 then (dP f t.kids (a+1) (f s a t ls) ls).2++[t.n.s] else (dP f t.kids (a+1) (f s a t ls) ls).2):=by
 cases t;rw [ij];rfl
def nj (l:List ai) (k:Nat):Bool:=match l[k]? with | some s=>(l.take k).contains s | none=>false
def tM (l:List ai):Bool:=(List.range l.length).any (nj l)
def fb (p:Src) (f:Fn) (t:T) (a:Nat):Int × Int :=
 if tM f.params=true then (21,0) else ((ij (b9 p) t a ⟨0,0,-1⟩ f.params).1.code,(ij (b9 p) t a ⟨0,0,-1⟩ f.params).1.place)
def jL (l:List ai) (k:Nat):Bool:=match l[k]? with | some s=>lC s || (l.take k).contains s | none=>false
def dT (l:List ai):Bool:=(List.range l.length).any (jL l)
def dw (l:List Ar):Int:=l.foldl (fun n a=>n+a.size) 0
def ic (p:Src):Bool:=p.arrays.any (fun a=>a.size==0) || ((((decide (p.fns.length > 40) || decide (p.globals.length > 29)) || decide (dw p.arrays > 8000))) || p.fns.any fun f=>decide (f.params.length > 40))
def lT (f:Fn):Bool:=f.name==uD&&f.params.length==0
def fc (p:Src):List Fn->List T->Nat->Int × Int
 | f::r,t::l,a=>if (fb p f t a).1≠0 then fb p f t a else fc p r l (a+aO t)
 | _,_,_=>(0,0)
def Cr (p:Src) (l:List T):Int × Int :=
 if dT (cw p)=true then (21,0) else if ic p=true then (26,0) else if p.fns.any lT=false then (25,0) else fc p p.fns l 0
def gP (p:Src):Bool:=fI p&&(match ir p.nodes p.fns 0 [] with | some (l,_)=>decide ((Cr p l).1=0) | none=>false)
structure SS where
 ls:List ai
 code:Int
 at_:Int
def SS.fail (c:SS) (k a:Int):SS:=if c.code=0 then ⟨c.ls,k,a⟩ else c
def ep (c:SS) (n:Nd) (k want:Nat):SS:=if k≠want then c.fail 23 n.at_ else c
def ff (p:Src) (c:SS) (t:T):SS × Bool :=
 if t.n.s=oh then (ep c t.n t.kids.length 0,true)
 else if t.n.s=ph then (ep c t.n t.kids.length 1,true)
 else if t.n.s=iu then (ep (if t.kids.length=1/\fP p (mO t) c.ls=true then c.fail 24 t.n.at_ else c) t.n t.kids.length 1,false)
 else match p.fns.findIdx? (fun f:Fn=>f.name==t.n.s) with
  | none=>(c.fail 22 t.n.at_,false)
  | some i=>(ep c t.n t.kids.length (kW p i),true)
def iQ (p:Src) (c:SS) (t:T):SS × Bool :=
 if t.n.kind=2\/t.n.kind=7 then (if c.ls.contains t.n.s=false/\p.globals.contains t.n.s=false then c.fail 22 t.n.at_ else c,true)
 else if t.n.kind=3\/t.n.kind=8 then (if c.ls.contains t.n.s=true\/Dv p t.n.s < 0 then c.fail 24 t.n.at_ else c,true)
 else if t.n.kind=4 then ff p c t
 else (c,true)
def lj (c:SS) (n:Nd):SS :=
 if n.kind≠13 then c
 else if c.ls.contains n.s=true then ⟨(c.fail 21 n.at_).ls++[n.s],(c.fail 21 n.at_).code,(c.fail 21 n.at_).at_⟩
 else if c.ls.length=40 then ⟨(c.fail 26 n.at_).ls++[n.s],(c.fail 26 n.at_).code,(c.fail 26 n.at_).at_⟩
 else ⟨c.ls++[n.s],c.code,c.at_⟩
mutual
def mu (p:Src):T->SS->SS
 | .mk n l,c=>lj (if (iQ p c (.mk n l)).2=true then gO p l (iQ p c (.mk n l)).1 else (iQ p c (.mk n l)).1) n
def gO (p:Src):List T->SS->SS
 | [],c=>c
 | t::r,c=>gO p r (mu p t c)
end
theorem uG (p:Src) (t:T) (c:SS):mu p t c=lj (if (iQ p c t).2=true then gO p t.kids (iQ p c t).1 else (iQ p c t).1) t.n:=by cases t;rw [mu];rfl
mutual
def tA:T->Prop
 | .mk n l=>n.kind≠13/\kC l
def kC:List T->Prop
 | []=>True
 | t::r=>tA t/\kC r
end
mutual
def gh:T->Prop
 | .mk n l=>(n.kind=13->kC l)/\(n.kind=2->l=[])/\du l
def du:List T->Prop
 | []=>True
 | t::r=>gh t/\du r
end
mutual
theorem V7:∀ t:T,tA (er t)↔tA t
 | .mk n l=>by rw [er,tA,tA,Fj l]
theorem Fj:∀ l:List T,kC (aL l)↔kC l
 | []=>by rw [aL]
 | t::r=>by rw [aL,kC,kC,V7 t,Fj r]
end
theorem Ry {l:List T}:aL l=[]↔l=[]:=by
 cases l with
 | nil=>rw [aL]
 | cons t r=>rw [aL];simp
mutual
theorem Q6:∀ t:T,gh (er t)↔gh t
 | .mk n l=>by rw [er,gh,gh,Fj l,Ny l,Ry]
theorem Ny:∀ l:List T,du (aL l)↔du l
 | []=>by rw [aL]
 | t::r=>by rw [aL,du,du,Q6 t,Ny r]
end
mutual
theorem E.nv:∀ a:E,tA a.tree
 | .num n=>by rw [E.tree,tA];exact ⟨by simp,trivial⟩
 | .name s=>by rw [E.tree,tA];exact ⟨by simp,trivial⟩
 | .at_ s a=>by rw [E.tree,tA,kC,kC];exact ⟨by simp,E.nv a,trivial⟩
 | .call s l=>by rw [E.tree,tA];exact ⟨by simp,E.Xb l⟩
 | .un s a=>by rw [E.tree,tA,kC,kC];exact ⟨by simp,E.nv a,trivial⟩
 | .bin s a b=>by rw [E.tree,tA,kC,kC,kC];exact ⟨by simp,E.nv a,E.nv b,trivial⟩
theorem E.Xb:∀ l:List E,kC (E.trees l)
 | []=>trivial
 | a::l=>by rw [E.trees,kC];exact ⟨E.nv a,E.Xb l⟩
end
mutual
theorem E.wf:∀ a:E,gh a.tree
 | .num n=>by rw [E.tree,gh];exact ⟨fun h=>absurd h (by simp),fun _=>rfl,trivial⟩
 | .name s=>by rw [E.tree,gh];exact ⟨fun h=>absurd h (by simp),fun _=>rfl,trivial⟩
 | .at_ s a=>by rw [E.tree,gh,du,du];exact ⟨fun h=>absurd h (by simp),fun h=>absurd h (by simp),E.wf a,trivial⟩
 | .call s l=>by rw [E.tree,gh];exact ⟨fun h=>absurd h (by simp),fun h=>absurd h (by simp),E.A7 l⟩
 | .un s a=>by rw [E.tree,gh,du,du];exact ⟨fun h=>absurd h (by simp),fun h=>absurd h (by simp),E.wf a,trivial⟩
 | .bin s a b=>by rw [E.tree,gh,du,du,du];exact ⟨fun h=>absurd h (by simp),fun h=>absurd h (by simp),E.wf a,E.wf b,trivial⟩
theorem E.A7:∀ l:List E,du (E.trees l)
 | []=>trivial
 | a::l=>by rw [E.trees,du];exact ⟨E.wf a,E.A7 l⟩
end
mutual
theorem S.wf:∀ a:S,gh a.tree
 | .set s a=>by rw [S.tree,gh,du,du];exact ⟨fun h=>absurd h (by simp),fun h=>absurd h (by simp),E.wf a,trivial⟩
 | .put s a b=>by rw [S.tree,gh,du,du,du];exact ⟨fun h=>absurd h (by simp),fun h=>absurd h (by simp),E.wf a,E.wf b,trivial⟩
 | .if1 c b=>by rw [S.tree,gh,du,du,du,gh];exact ⟨fun h=>absurd h (by simp),fun h=>absurd h (by simp),E.wf c,⟨fun h=>absurd h (by simp),fun h=>absurd h (by simp),S.A7 b⟩,trivial⟩
 | .if2 c b d=>by rw [S.tree,gh,du,du,du,du,gh,gh];exact ⟨fun h=>absurd h (by simp),fun h=>absurd h (by simp),E.wf c,⟨fun h=>absurd h (by simp),fun h=>absurd h (by simp),S.A7 b⟩,⟨fun h=>absurd h (by simp),fun h=>absurd h (by simp),S.A7 d⟩,trivial⟩
 | .while_ c b=>by rw [S.tree,gh,du,du,du,gh];exact ⟨fun h=>absurd h (by simp),fun h=>absurd h (by simp),E.wf c,⟨fun h=>absurd h (by simp),fun h=>absurd h (by simp),S.A7 b⟩,trivial⟩
 | .ret a=>by rw [S.tree,gh,du,du];exact ⟨fun h=>absurd h (by simp),fun h=>absurd h (by simp),E.wf a,trivial⟩
 | .do_ a=>by rw [S.tree,gh,du,du];exact ⟨fun h=>absurd h (by simp),fun h=>absurd h (by simp),E.wf a,trivial⟩
 | .var s a=>by rw [S.tree,gh,du,du,kC,kC];exact ⟨fun _=>⟨E.nv a,trivial⟩,fun h=>absurd h (by simp),E.wf a,trivial⟩
theorem S.A7:∀ l:List S,du (S.trees l)
 | []=>trivial
 | a::l=>by rw [S.trees,du];exact ⟨S.wf a,S.A7 l⟩
end
theorem Vb (l:List S):gh (bC l):=by
 rw [bC,gh];exact ⟨fun h=>absurd h (by simp),fun h=>absurd h (by simp),S.A7 l⟩
theorem SS.nk (c:SS) (k a:Int):(c.fail k a).ls=c.ls:=by unfold SS.fail;split <;> rfl
theorem vX (c:SS) (n:Nd) (k w:Nat):(ep c n k w).ls=c.ls:=by unfold ep;split;(· exact c.nk _ _);rfl
theorem uN (p:Src) (c:SS) (t:T):(iQ p c t).1.ls=c.ls:=by
 unfold iQ ff;split
 ·simp only;split;(· exact c.nk _ _);rfl
 split
 ·simp only;split;(· exact c.nk _ _);rfl
 split
 ·split
  ·exact vX _ _ _ _
  split
  ·exact vX _ _ _ _
  split
  ·simp only;rw [vX];split;(· exact c.nk _ _);rfl
  split
  ·exact c.nk _ _
  ·exact vX _ _ _ _
 ·rfl
mutual
theorem V4 (p:Src):∀ (t:T),tA t->∀ c,(mu p t c).ls=c.ls
 | .mk n l,h,c=>by
  rw [tA] at h;rw [mu,lj,if_pos h.1];split
  ·rw [Ff p l h.2,uN]
  ·exact uN _ _ _
theorem Ff (p:Src):∀ (l:List T),kC l->∀ c,(gO p l c).ls=c.ls
 | [],_,c=>by rw [gO]
 | t::r,h,c=>by
  rw [kC] at h;rw [gO,Ff p r h.2,V4 p t h.1]
end
theorem SS.xN {c:SS} (h:c.code≠0) (k a:Int):c.fail k a=c:=by unfold SS.fail;rw [if_neg h]
theorem SS.oE (c:SS) {k:Int} (hk:k≠0) (a:Int):(c.fail k a).code≠0:=by
 unfold SS.fail;split
 ·exact hk
 ·assumption
theorem P1 {c:SS} (h:c.code≠0) (n:Nd) (k w:Nat):ep c n k w=c:=by unfold ep;rw [SS.xN h];split <;> rfl
theorem R7 (p:Src) {c:SS} (h:c.code≠0) (t:T):(iQ p c t).1=c:=by
 unfold iQ ff;simp only [SS.xN h,P1 h,ite_self];split
 ·rfl
 split
 ·rfl
 split
 ·split
  ·rfl
  split
  ·rfl
  split
  ·rfl
  split <;> rfl
 ·rfl
theorem yc {c:SS} (h:c.code≠0) (n:Nd):(lj c n).code≠0:=by
 unfold lj;rw [SS.xN h,SS.xN h];split
 ·exact h
 split
 ·exact h
 split <;> exact h
mutual
theorem QU (p:Src):∀ (t:T) (c:SS),c.code≠0->(mu p t c).code≠0
 | .mk n l,c,h=>by
  rw [mu];refine yc ?_ n;rw [R7 p h];split
  ·exact uH p l c h
  ·exact h
theorem uH (p:Src):∀ (l:List T) (c:SS),c.code≠0->(gO p l c).code≠0
 | [],c,h=>by rw [gO];exact h
 | t::r,c,h=>by rw [gO];exact uH p r _ (QU p t c h)
end
theorem PF (p:Src) {c:CS} (h:c.code≠0) (a:Nat) (t:T) (ls:List ai):b9 p c a t ls=c:=by unfold b9;rw [if_pos (.inl h)]
mutual
theorem Vy (p:Src):∀ (t:T) (a:Nat) (c:CS) (ls:List ai),c.code≠0->(ij (b9 p) t a c ls).1=c
 | .mk n l,a,c,ls,h=>by rw [ij,PF p h];exact um p l _ c ls h
theorem um (p:Src):∀ (l:List T) (a:Nat) (c:CS) (ls:List ai),c.code≠0->(dP (b9 p) l a c ls).1=c
 | [],a,c,ls,h=>by rw [dP]
 | t::r,a,c,ls,h=>by
  have h1:=Vy p t a c ls h;rw [dP,h1];exact um p r _ c _ h
end
def Ci (a:Nat) (r:CS × List ai) (q:SS):Prop:=(r.1.code=0/\q.code=0/\r.2=q.ls/\r.1.skip < (a:Int)/\q.ls.length<=40)\/(r.1.code≠0/\q.code≠0)
theorem PC (p:Src) (t:T) (EL:t.n.kind=13->kC t.kids) (n5:∀ k∈t.kids,k.n.kind=2->k.kids=[])
  (ih:∀ (a:Nat) (r:CS) (q:SS),r.code=0->q.code=0->r.skip < (a:Int)->q.ls.length<=40->Ci (a+az t.kids) (dP (b9 p) t.kids a r q.ls) (gO p t.kids q))
  (a:Nat) (r:CS) (q:SS) (hr:r.code=0) (hq:q.code=0) (hs:r.skip < (a:Int)) (hl:q.ls.length<=40):Ci (a+aO t) (ij (b9 p) t a r q.ls) (mu p t q):=by
 have bL:¬ (r.code≠0\/(a:Int)=r.skip):=by
  rintro (h | h)
  ·exact h hr
  ·omega
 obtain ⟨pl,b6⟩:∃ pl,b9 p r a t q.ls=⟨bR p t q.ls,pl,if dI t=true then (if (mO t).kind≠2 then -1 else ((a+1:Nat):Int)) else r.skip⟩:=by
  unfold b9;rw [if_neg bL];exact ⟨_,rfl⟩
 have cK:=dX t
 have bad:∀ x:SS,bR p t q.ls≠0->x.code≠0->Ci (a+aO t) (ij (b9 p) t a r q.ls) x:=fun x h1 h2=>by
  refine .inr ⟨?_,h2⟩;rw [uk,b6];simp only;rw [um p t.kids _ _ _ h1];exact h1
 have go:bR p t q.ls=0->dI t=false->t.n.kind≠13->iQ p q t=(q,true)->Ci (a+aO t) (ij (b9 p) t a r q.ls) (mu p t q):=fun h1 h2 h3 h4=>by
  have:=ih (a+1) ⟨0,pl,r.skip⟩ q rfl hq (by simp only;omega) hl;rw [uk,uG,h4,b6,h1,h2,if_neg h3,lj,if_pos h3];simp only [if_true,Bool.false_eq_true,if_false];rw [show a+aO t=a+1+az t.kids by omega];exact this
 by_cases eB:t.n.kind=13
 ·have Zz:=EL eB
  have hz:dI t=false:=by unfold dI;rw [eB];rfl
  have mM:iQ p q t=(q,true):=by unfold iQ;rw [if_neg (by omega),if_neg (by omega),if_neg (by omega)]
  have lP:(gO p t.kids q).ls=q.ls:=Ff p t.kids Zz q
  have qM:bR p t q.ls=if q.ls.contains t.n.s=true then 21 else if q.ls.length>=40 then 26 else 0:=by
   unfold bR;rw [if_pos eB]
  rw [uG,mM];simp only [if_true]
  by_cases hc:q.ls.contains t.n.s=true
  ·refine bad _ (by rw [qM,if_pos hc];decide) ?_;rw [lj,if_neg (by simpa using eB),lP,if_pos hc];exact SS.oE _ (by decide) _
  by_cases h40:q.ls.length>=40
  ·refine bad _ (by rw [qM,if_neg hc,if_pos h40];decide) ?_;rw [lj,if_neg (by simpa using eB),lP,if_neg hc,if_pos (by omega)];exact SS.oE _ (by decide) _
  have h0:bR p t q.ls=0:=by rw [qM,if_neg hc,if_neg h40]
  have:=ih (a+1) ⟨0,pl,r.skip⟩ q rfl hq (by simp only;omega) hl;rw [lj,if_neg (by simpa using eB),lP,if_neg hc,if_neg (by omega),uk,b6,h0,hz,if_pos eB];simp only [Bool.false_eq_true,if_false];rw [show a+aO t=a+1+az t.kids by omega]
  rcases this with ⟨k1,k2,k3,k4,k5⟩ | ⟨k1,k2⟩
  ·refine .inl ⟨k1,k2,?_,k4,?_⟩
   ·show _++_=_++_;rw [k3,lP]
   ·show (q.ls++[t.n.s]).length<=40;rw [length_append,List.length_singleton];omega
  ·exact .inr ⟨k1,k2⟩
 by_cases h2:t.n.kind=2\/t.n.kind=7
 ·have hz:dI t=false:=by
   unfold dI;rw [show (t.n.kind==4)=false by simp;omega];rfl
  by_cases hc:q.ls.contains t.n.s=false/\p.globals.contains t.n.s=false
  ·refine bad _ (by unfold bR;rw [if_neg eB,if_pos h2,if_pos hc];decide) ?_
   have mM:iQ p q t=(q.fail 22 t.n.at_,true):=by unfold iQ;rw [if_pos h2,if_pos hc]
   rw [uG,mM];refine yc ?_ t.n;simp only [if_true];exact uH p t.kids _ (SS.oE _ (by decide) _)
  ·exact go (by unfold bR;rw [if_neg eB,if_pos h2,if_neg hc]) hz eB (by unfold iQ;rw [if_pos h2,if_neg hc])
 by_cases h3:t.n.kind=3\/t.n.kind=8
 ·have hz:dI t=false:=by
   unfold dI;rw [show (t.n.kind==4)=false by simp;omega];rfl
  by_cases hc:q.ls.contains t.n.s=true\/Dv p t.n.s < 0
  ·refine bad _ (by unfold bR;rw [if_neg eB,if_neg h2,if_pos h3,if_pos hc];decide) ?_
   have mM:iQ p q t=(q.fail 24 t.n.at_,true):=by unfold iQ;rw [if_neg h2,if_pos h3,if_pos hc]
   rw [uG,mM];refine yc ?_ t.n;simp only [if_true];exact uH p t.kids _ (SS.oE _ (by decide) _)
  ·exact go (by unfold bR;rw [if_neg eB,if_neg h2,if_pos h3,if_neg hc]) hz eB (by unfold iQ;rw [if_neg h2,if_pos h3,if_neg hc])
 by_cases h4:t.n.kind=4
 ·have qM:bR p t q.ls=eN p t q.ls:=by unfold bR;rw [if_neg eB,if_neg h2,if_neg h3,if_pos h4]
  have mM:iQ p q t=ff p q t:=by unfold iQ;rw [if_neg h2,if_neg h3,if_pos h4]
  have fin:∀ x:SS × Bool,ff p q t=x->bR p t q.ls≠0->x.1.code≠0->Ci (a+aO t) (ij (b9 p) t a r q.ls) (mu p t q):=fun x hx h1 h2=>by
   refine bad _ h1 ?_;rw [uG,mM,hx];refine yc ?_ t.n;split
   ·exact uH p t.kids _ h2
   ·exact h2
  have Jn:dI t=((t.n.s==iu)&&(t.kids.length==1)):=by unfold dI;rw [h4];rfl
  have some_:∀ w:Nat,t.n.s≠iu->mr p t.n.s=(w:Int)->ff p q t=(ep q t.n t.kids.length w,true)->Ci (a+aO t) (ij (b9 p) t a r q.ls) (mu p t q):=fun w e1 e2 e3=>by
   have hz:dI t=false:=by rw [Jn,show (t.n.s==iu)=false by simpa using e1];rfl
   have CF:eN p t q.ls=if (w:Int)=(t.kids.length:Int) then 0 else 23:=by
    unfold eN;rw [hz,if_neg (by decide),e2,if_neg (by omega)]
   by_cases hk:t.kids.length=w
   ·refine go (by rw [qM,CF,if_pos (by omega)]) hz eB ?_;rw [mM,e3,ep,if_neg (by simpa using hk)]
   ·refine fin _ e3 (by rw [qM,CF,if_neg (by omega)];decide) ?_;rw [ep,if_pos hk];exact SS.oE _ (by decide) _
  by_cases hg:t.n.s=oh
  ·exact some_ 0 (by rw [hg];decide) (by unfold mr;rw [if_pos hg];rfl) (by unfold ff;rw [if_pos hg])
  by_cases hp:t.n.s=ph
  ·exact some_ 1 (by rw [hp];decide) (by unfold mr;rw [if_neg hg,if_pos (.inl hp)];rfl) (by unfold ff;rw [if_neg hg,if_pos hp])
  by_cases hz:t.n.s=iu
  ·have eV:ff p q t=(ep (if t.kids.length=1/\fP p (mO t) q.ls=true then q.fail 24 t.n.at_ else q) t.n t.kids.length 1,false):=by
    unfold ff;rw [if_neg hg,if_neg hp,if_pos hz]
   by_cases hk:t.kids.length=1
   ·have fF:dI t=true:=by rw [Jn,hz,hk];rfl
    have CF:eN p t q.ls=if fP p (mO t) q.ls=true then 24 else 0:=by unfold eN;rw [if_pos fF]
    by_cases hb:fP p (mO t) q.ls=true
    ·refine fin _ eV (by rw [qM,CF,if_pos hb];decide) ?_;rw [if_pos ⟨hk,hb⟩,ep,if_neg (by simpa using hk)];exact SS.oE _ (by decide) _
    ·have XH:ff p q t=(q,false):=by rw [eV,if_neg (fun h=>hb h.2),ep,if_neg (by simpa using hk)]
     rw [uG,mM,XH,lj,if_pos eB];simp only [Bool.false_eq_true,if_false]
     have h0:bR p t q.ls=0:=by rw [qM,CF,if_neg hb]
     obtain ⟨k,kU⟩:∃ k,t.kids=[k]:=by
      match hl:t.kids,hk with
      | [k],_=>exact ⟨k,rfl⟩
     have yF:mO t=k.n:=by unfold mO;rw [kU]
     have qJ:k.n.kind=2:=by
      have:fP p k.n q.ls=false:=by rw [<-yF];simpa using hb
      unfold fP at this;simp only [Bool.or_eq_false_iff] at this;simpa using this.1.1
     have eW:k.kids=[]:=n5 k (by rw [kU];exact List.mem_singleton.2 rfl) qJ
     have td:aO k=1:=by rw [dX,eW,az]
     have OS:∀ c:CS,((a+1:Nat):Int)=c.skip->b9 p c (a+1) k q.ls=c:=fun c hc=>by unfold b9;rw [if_pos (.inr hc)]
     rw [uk,b6,h0,fF,if_neg eB,kU,yF];simp only [if_true,dP];rw [uk,eW];simp only [dP];rw [if_neg (by rw [qJ];decide),OS _ rfl,if_neg (by rw [qJ];decide)];refine .inl ⟨rfl,hq,rfl,?_,hl⟩;rw [cK,kU,az,az,td];simp only;omega
   ·have uA:dI t=false:=by rw [Jn,show (t.kids.length==1)=false by simpa using hk,Bool.and_false]
    refine fin _ eV ?_ ?_
    ·rw [qM];unfold eN;rw [uA,if_neg (by decide)]
     have:mr p t.n.s=1:=by unfold mr;rw [if_neg hg,if_pos (.inr hz)]
     rw [this,if_neg (by decide),if_neg (by omega)];decide
    ·rw [if_neg (fun h=>hk h.1),ep,if_pos hk];exact SS.oE _ (by decide) _
  have eD:mr p t.n.s=match p.fns.findIdx? (fun f:Fn=>f.name==t.n.s) with | some i=>(kW p i:Int) | none => -1:=by
   unfold mr;rw [if_neg hg,if_neg (by rintro (h | h);(· exact hp h);exact hz h)]
  have eV:ff p q t=match p.fns.findIdx? (fun f:Fn=>f.name==t.n.s) with | none=>(q.fail 22 t.n.at_,false) | some i=>(ep q t.n t.kids.length (kW p i),true):=by
   unfold ff;rw [if_neg hg,if_neg hp,if_neg hz]
  cases hf:p.fns.findIdx? (fun f:Fn=>f.name==t.n.s) with
  | some i =>
   rw [hf] at eD eV;exact some_ (kW p i) hz eD eV
  | none =>
   rw [hf] at eD eV;refine fin _ eV ?_ (SS.oE _ (by decide) _);rw [qM];unfold eN;rw [Jn,show (t.n.s==iu)=false by simpa using hz,Bool.false_and,if_neg (by decide),eD];simp
 ·exact go (by unfold bR;rw [if_neg eB,if_neg h2,if_neg h3,if_neg h4]) (by unfold dI;rw [show (t.n.kind==4)=false by simpa using h4];rfl) eB
   (by unfold iQ;rw [if_neg h2,if_neg h3,if_neg h4])
theorem F8:∀ {l:List T},du l->∀ k∈l,gh k
 | [],_,k,hk=>by cases hk
 | t::r,h,k,hk=>by
  rw [du] at h
  rcases List.mem_cons.1 hk with rfl | hk
  ·exact h.1
  ·exact F8 h.2 k hk
mutual
theorem UW (p:Src):∀ (t:T),gh t->∀ (a:Nat) (r:CS) (q:SS),r.code=0->q.code=0->r.skip < (a:Int)->q.ls.length<=40->Ci (a+aO t) (ij (b9 p) t a r q.ls) (mu p t q)
 | .mk n l,hw=>by
  rw [gh] at hw;refine PC p (.mk n l) hw.1 (fun k hk h2=>?_) (UU p l hw.2.2);have:=F8 hw.2.2 k hk;obtain ⟨m,j⟩:=k;rw [gh] at this;exact this.2.1 h2
theorem UU (p:Src):∀ (l:List T),du l->∀ (a:Nat) (r:CS) (q:SS),r.code=0->q.code=0->r.skip < (a:Int)->q.ls.length<=40->Ci (a+az l) (dP (b9 p) l a r q.ls) (gO p l q)
 | [],_,a,r,q,hr,hq,hs,hl=>by rw [dP,gO,az];exact .inl ⟨hr,hq,rfl,by simpa using hs,hl⟩
 | t::l,hw,a,r,q,hr,hq,hs,hl=>by
  rw [du] at hw;rw [dP,gO,az]
  rcases UW p t hw.1 a r q hr hq hs hl with ⟨k1,k2,k3,k4,k5⟩ | ⟨k1,k2⟩
  ·rw [k3];have:=UU p l hw.2 (a+aO t) _ _ k1 k2 k4 k5;rw [Nat.add_assoc] at this;exact this
  ·exact .inr ⟨by rw [um p l _ _ _ k1];exact k1,uH p l _ k2⟩
end
end Go.Im
namespace Go.Im
open Go.Xp Go.Sp
def fB (c k:Int):Int:=if c=0 then k else c
def lH (a:Ar):Bool:=decide (a.size < 1) || decide (a.size > 8000)
def jh (p:Src):Bool:=match p.fns.findIdx? (fun f:Fn=>f.name==uD) with | none=>true | some i=>decide (kW p i > 0)
def rV (p:Src):Bool:=(decide (p.fns.length > 40) || decide (p.globals.length > 29)) || decide (dw p.arrays > 8000)
def qi (p:Src) (c:Int):Int :=
 if p.arrays.any lH=true then fB c 26
 else if jh p=true then fB (if (p.fns.any fun f=>decide (f.params.length > 40))=true then fB (if rV p=true then fB c 26 else c) 26 else (if rV p=true then fB c 26 else c)) 25
 else if (p.fns.any fun f=>decide (f.params.length > 40))=true then fB (if rV p=true then fB c 26 else c) 26 else (if rV p=true then fB c 26 else c)
def po (f:Fn) (c:SS):SS:=⟨f.params,if tM f.params=true then fB c.code 21 else c.code,if tM f.params=true/\c.code=0 then 0 else c.at_⟩
def mF (p:Src):List Fn->List T->SS->SS
 | f::r,t::l,c=>mF p r l (if c.code=0 then mu p t (po f c) else c)
 | _,_,c=>c
def KU (p:Src) (l:List T):SS:=mF p p.fns l ⟨[],qi p (if dT (cw p)=true then 21 else 0),0⟩
theorem xP (p:Src):∀ (fs:List Fn) (l:List T) (c:SS),c.code≠0->(mF p fs l c).code≠0
 | f::r,t::l,c,h=>by rw [mF,if_neg h];exact xP p r l c h
 | [],_,c,h=>by rw [mF];(· exact h);intros;simp_all
 | f::r,[],c,h=>by rw [mF];(· exact h);intros;simp_all
theorem Td (p:Src) (f:Fn) (t:T) (a:Nat) (c:SS) (hw:gh t) (hc:c.code=0) (hp:f.params.length<=40):(fb p f t a).1=0↔(mu p t (po f c)).code=0:=by
 unfold fb
 by_cases hd:tM f.params=true
 ·rw [if_pos hd]
  have:(po f c).code≠0:=by unfold po;rw [if_pos hd];unfold fB;rw [if_pos hc];show (21:Int)≠0;decide
  have h2:=QU p t _ this;constructor
  ·intro h;cases h
  ·intro h;exact absurd h h2
 ·rw [if_neg hd]
  have hq:(po f c).code=0:=by unfold po;rw [if_neg hd];exact hc
  have h1:=UW p t hw a ⟨0,0,-1⟩ (po f c) rfl hq (by show (-1:Int) < _;omega) hp;show (ij (b9 p) t a ⟨0,0,-1⟩ (po f c).ls).1.code=0↔_
  rcases h1 with ⟨k1,k2,_⟩ | ⟨k1,k2⟩
  ·exact ⟨fun _=>k2,fun _=>k1⟩
  ·exact ⟨fun h=>absurd h k1,fun h=>absurd h k2⟩
theorem HA (p:Src):∀ (fs:List Fn) (l:List T) (a:Nat) (c:SS),c.code=0->(∀ t∈l,gh t)->(∀ f∈fs,f.params.length<=40)->((fc p fs l a).1=0↔(mF p fs l c).code=0)
 | f::r,t::l,a,c,hc,hw,hp=>by
  have h1:=Td p f t a c (hw t mem_cons_self) hc (hp f mem_cons_self);rw [fc,mF,if_pos hc]
  by_cases h:(fb p f t a).1=0
  ·rw [if_neg (by simpa using h)];exact HA p r l _ _ (h1.1 h) (fun u hu=>hw u (mem_cons_of_mem _ hu)) (fun g hg=>hp g (mem_cons_of_mem _ hg))
  ·rw [if_pos h]
   have h2:(mu p t (po f c)).code≠0:=fun e=>h (h1.2 e)
   exact ⟨fun e=>absurd e h,fun e=>absurd e (xP p r l _ h2)⟩
 | [],_,a,c,hc,_,_=>by rw [fc,mF];(· exact ⟨fun _=>hc,fun _=>rfl⟩);all_goals (intros;simp_all)
 | f::r,[],a,c,hc,_,_=>by rw [fc,mF];(· exact ⟨fun _=>hc,fun _=>rfl⟩);all_goals (intros;simp_all)
theorem cells_from (l:List Ar):∀ n:Int,l.foldl (fun n a=>n+a.size) n=n+dw l:=by
 induction l with
 | nil=>intro n;simp [dw]
 | cons a l ih =>
  intro n;unfold dw;rw [foldl_cons,foldl_cons,ih,ih (0+a.size)];omega
theorem I5 (a:Ar) (l:List Ar):dw (a::l)=a.size+dw l:=by
 unfold dw;rw [foldl_cons,cells_from];unfold dw;omega
theorem NT {l:List Ar} (h:∀ a∈l,0<=a.size):0<=dw l/\∀ a∈l,a.size<=dw l:=by
 induction l with
 | nil=>exact ⟨by simp [dw],fun a h=>by cases h⟩
 | cons b l ih =>
  obtain ⟨h1,h2⟩:=ih fun a ha=>h a (mem_cons_of_mem _ ha)
  have hb:=h b mem_cons_self;rw [I5];refine ⟨by omega,fun a ha=>?_⟩
  rcases List.mem_cons.1 ha with rfl | ha
  ·omega
  ·have:=h2 a ha;omega
theorem Gm {l:List ai} (h:dT l=false) {i j:Nat} {s:ai} (hi:l[i]?=some s) (hj:l[j]?=some s):i=j:=by
 have key:∀ x y:Nat,x < y->l[x]?=some s->l[y]?=some s->False:=fun x y iF h1 h2=>by
  have hy:=(List.getElem?_eq_some_iff.1 h2).1;unfold dT at h;rw [any_eq_false] at h;have:=h y (List.mem_range.2 hy);unfold jL at this;rw [h2] at this;simp only [Bool.or_eq_true,not_or] at this;apply this.2;rw [contains_iff_mem];rw [List.mem_take_iff_getElem];have hx:=(List.getElem?_eq_some_iff.1 h1);exact ⟨x,by have:=hx.1;omega,hx.2⟩
 rcases Nat.lt_trichotomy i j with h1 | h1 | h1
 ·exact (key i j h1 hi hj).elim
 ·exact h1
 ·exact (key j i h1 hj hi).elim
theorem E9 {p:Src} (h:dT (cw p)=false):p.fns.any lT=true↔jh p=false:=by
 have wa:∀ (i:Nat) f,p.fns[i]?=some f->(cw p)[(p.globals++eH p).length+i]?=some f.name:=fun i f hf=>by
  unfold cw;rw [List.getElem?_append_right (by omega),Nat.add_sub_cancel_left,gX,List.getElem?_map,hf];rfl
 unfold jh
 cases hf:p.fns.findIdx? (fun f:Fn=>f.name==uD) with
 | none =>
  rw [List.findIdx?_eq_none_iff] at hf;constructor
  ·intro h1;obtain ⟨f,h2,h3⟩:=List.any_eq_true.1 h1;unfold lT at h3;have:=hf f h2;rw [this] at h3;cases h3
  ·intro h1;cases h1
 | some i =>
  rw [List.findIdx?_eq_some_iff_getElem] at hf;obtain ⟨hi,h1,h2⟩:=hf
  have yC:p.fns[i]?=some p.fns[i]:=by simp [hi]
  simp only [kW,yC];constructor
  ·intro h3;obtain ⟨f,h4,h5⟩:=List.any_eq_true.1 h3;obtain ⟨j,hj⟩:=List.getElem?_of_mem h4;unfold lT at h5;simp only [Bool.and_eq_true,beq_iff_eq] at h5 h1;have e1:=wa i _ yC;have e2:=wa j f hj;rw [h1] at e1;rw [h5.1] at e2;have:=Gm h e1 e2
   have:i=j:=by omega
   subst this;rw [hj] at yC;cases yC;simp [h5.2]
  ·intro h3;simp only [gt_iff_lt,decide_eq_false_iff_not,Nat.not_lt,Nat.le_zero] at h3;exact List.any_eq_true.2 ⟨p.fns[i],List.getElem_mem hi,by unfold lT;rw [h1,h3];rfl⟩
theorem Sl {p:Src} (ha:∀ a∈p.arrays,0<=a.size):(ic p=false/\jh p=false)↔qi p 0=0:=by
 obtain ⟨o9,hc⟩:=NT ha;have f26:fB 0 26=26:=rfl
 have f25:∀ c,c≠0->fB c 25=c:=fun c h=>by unfold fB;rw [if_neg h]
 have Xo:∀ c,fB c 25≠0:=fun c=>by
  unfold fB;split
  ·decide
  ·assumption
 have Xq:∀ c,fB c 26≠0:=fun c=>by
  unfold fB;split
  ·decide
  ·assumption
 unfold qi
 by_cases h1:p.arrays.any lH=true
 ·rw [if_pos h1,f26];refine ⟨fun h=>?_,fun h=>by cases h⟩;obtain ⟨a,h2,h3⟩:=List.any_eq_true.1 h1;have h4:=h.1;unfold ic at h4;simp only [Bool.or_eq_false_iff,decide_eq_false_iff_not] at h4;have h5:=List.any_eq_false.1 h4.1 a h2;have h6:=hc a h2;have h7:=ha a h2;unfold lH at h3;simp only [Bool.or_eq_true,decide_eq_true_eq] at h3;simp only [beq_iff_eq] at h5;have h8:=h4.2.1.2;omega
 rw [if_neg h1]
 have hz:p.arrays.any (fun a=>a.size==0)=false:=by
  rw [any_eq_false];intro a h2 h3;apply h1;refine List.any_eq_true.2 ⟨a,h2,?_⟩;unfold lH;simp only [beq_iff_eq] at h3;rw [h3];rfl
 have ZN:ic p=(rV p || p.fns.any fun f=>decide (f.params.length > 40)):=by
  unfold ic rV;rw [hz,Bool.false_or]
 rw [ZN]
 by_cases h2:jh p=true
 ·rw [if_pos h2];exact ⟨fun h=>(by rw [h2] at h;cases h.2),fun h=>absurd h (Xo _)⟩
 rw [if_neg h2]
 have pK:jh p=false:=by simpa using h2
 by_cases h3:(p.fns.any fun f=>decide (f.params.length > 40))=true
 ·rw [if_pos h3,h3,Bool.or_true];exact ⟨fun h=>(by cases h.1),fun h=>absurd h (Xq _)⟩
 rw [if_neg h3,show (p.fns.any fun f=>decide (f.params.length > 40))=false by simpa using h3,Bool.or_false]
 by_cases h4:rV p=true
 ·rw [if_pos h4,h4];exact ⟨fun h=>(by cases h.1),fun h=>(by cases h)⟩
 ·rw [if_neg h4];exact ⟨fun _=>rfl,fun _=>⟨by simpa using h4,pK⟩⟩
theorem SO {p:Src} {l:List T} (ha:∀ a∈p.arrays,0<=a.size) (hw:∀ t∈l,gh t):(Cr p l).1=0↔(KU p l).code=0:=by
 have ne:qi p 21≠0:=by
  have f:∀ c k,c≠0->fB c k=c:=fun c k h=>by unfold fB;rw [if_neg h]
  unfold qi;simp only [f 21 26 (by decide),ite_self,f 21 25 (by decide)]
  decide
 unfold Cr KU
 by_cases h1:dT (cw p)=true
 ·rw [if_pos h1,if_pos h1];exact ⟨fun h=>(by cases h),fun h=>absurd h (xP p _ _ _ ne)⟩
 rw [if_neg h1,if_neg h1];have hs:=Sl ha
 by_cases h2:qi p 0=0
 ·obtain ⟨h3,h4⟩:=hs.2 h2;rw [if_neg (by rw [h3];decide),if_neg (by rw [(E9 (by simpa using h1)).2 h4];decide),h2]
  refine HA p _ _ _ _ rfl hw fun f hf=>?_
  unfold ic at h3;simp only [Bool.or_eq_false_iff] at h3;have:=List.any_eq_false.1 h3.2.2 f hf;simpa using this
 ·refine ⟨fun h=>?_,fun h=>absurd h (xP p _ _ _ h2)⟩;exfalso;apply h2;apply hs.1
  by_cases h3:ic p=true
  ·rw [if_pos h3] at h;cases h
  ·rw [if_neg h3] at h
   by_cases h4:p.fns.any lT=false
   ·rw [if_pos h4] at h;cases h
   ·exact ⟨by simpa using h3,(E9 (by simpa using h1)).1 (by simpa using h4)⟩
end Go.Im
namespace Go.Im
open Go.Xp Go.Sp
mutual
def vS:T->List ai
 | .mk n l=>lX l++(if n.kind=13 then [n.s] else [])
def lX:List T->List ai
 | []=>[]
 | t::r=>vS t++lX r
end
theorem PW (t:T):vS t=lX t.kids++(if t.n.kind=13 then [t.n.s] else []):=by cases t;rw [vS];rfl
mutual
theorem Hu {σ:Type} (f:σ->Nat->T->List ai->σ):∀ (t:T) (a:Nat) (s:σ) (ls:List ai),(ij f t a s ls).2=ls++vS t
 | .mk n l,a,s,ls=>by
  rw [ij,vS];simp only;rw [pZ f l];split
  ·rw [append_assoc]
  ·rw [append_nil]
theorem pZ {σ:Type} (f:σ->Nat->T->List ai->σ):∀ (l:List T) (a:Nat) (s:σ) (ls:List ai),(dP f l a s ls).2=ls++lX l
 | [],a,s,ls=>by rw [dP,lX,append_nil]
 | t::r,a,s,ls=>by rw [dP,pZ f r,Hu f t,lX,append_assoc]
end
mutual
def Ij (p:Src):T->List ai->Prop
 | .mk n l,ls=>bR p (.mk n l) ls=0/\(dI (.mk n l)=false->JW p l ls)
def JW (p:Src):List T->List ai->Prop
 | [],_=>True
 | t::r,ls=>Ij p t ls/\JW p r (ls++vS t)
end
mutual
theorem QW (p:Src):∀ (t:T),gh t->∀ (a:Nat) (r:CS) (ls:List ai),r.code=0->r.skip < (a:Int)->(ij (b9 p) t a r ls).1.code=0->Ij p t ls/\(ij (b9 p) t a r ls).1.skip < ((a+aO t:Nat):Int)
 | .mk n l,hw,a,r,ls,hr,hs,hc=>by
  rw [gh] at hw
  have bL:¬ (r.code≠0\/(a:Int)=r.skip):=by
   rintro (h | h)
   ·exact h hr
   ·omega
  obtain ⟨pl,b6⟩:∃ pl,b9 p r a (.mk n l) ls=⟨bR p (.mk n l) ls,pl,if dI (.mk n l)=true then (if (mO (.mk n l)).kind≠2 then -1 else ((a+1:Nat):Int)) else r.skip⟩:=by
   unfold b9;rw [if_neg bL];exact ⟨_,rfl⟩
  rw [ij] at hc |-;simp only at hc |-;rw [b6] at hc |-
  have h0:bR p (.mk n l) ls=0:=by
   by_cases h0:bR p (.mk n l) ls=0
   ·exact h0
   ·rw [um p l _ _ _ h0] at hc;exact hc
  rw [h0] at hc |-
  by_cases hz:dI (.mk n l)=true
  ·have hk:l.length=1:=by
    unfold dI at hz;simp only [Bool.and_eq_true,beq_iff_eq] at hz;exact hz.2
   have h4:n.kind=4/\n.s=iu:=by
    unfold dI at hz;simp only [Bool.and_eq_true,beq_iff_eq] at hz;exact hz.1
   have hb:fP p (mO (.mk n l)) ls=false:=by
    have e:bR p (.mk n l) ls=eN p (.mk n l) ls:=by
     unfold bR;rw [if_neg (by show ¬ n.kind=13;omega),if_neg (by show ¬ (n.kind=2\/n.kind=7);omega),if_neg (by show ¬ (n.kind=3\/n.kind=8);omega),if_pos (by show n.kind=4;omega)]
    rw [e] at h0;unfold eN at h0;rw [if_pos hz] at h0
    by_cases hb:fP p (mO (.mk n l)) ls=true
    ·rw [if_pos hb] at h0;cases h0
    ·simpa using hb
   have qJ:(mO (.mk n l)).kind=2:=by
    unfold fP at hb;simp only [Bool.or_eq_false_iff] at hb;simpa using hb.1.1
   rw [if_pos hz,if_neg (by rw [qJ];decide)] at hc |-
   match l,hk,hw with
   | [k],_,hw =>
    have XN:k.n.kind=2:=qJ;rw [du] at hw
    have eW:k.kids=[]:=by
     have:=hw.2.2.1;obtain ⟨m,j⟩:=k;rw [gh] at this;exact this.2.1 XN
    have td:aO k=1:=by rw [dX,eW,az]
    refine ⟨by rw [Ij];exact ⟨h0,fun h=>by rw [hz] at h;cases h⟩,?_⟩;simp only [dP];rw [uk,eW];simp only [dP]
    have OS:b9 p ⟨0,pl,((a+1:Nat):Int)⟩ (a+1) k ls=⟨0,pl,((a+1:Nat):Int)⟩:=by unfold b9;rw [if_pos (.inr rfl)]
    rw [OS,aO,az,az,td];simp only;omega
  ·have W2:dI (.mk n l)=false:=by simpa using hz
   rw [if_neg hz] at hc |-;have h:=MR p l hw.2.2 (a+1) ⟨0,pl,r.skip⟩ ls rfl (by simp only;omega) hc;refine ⟨by rw [Ij];exact ⟨h0,fun _=>h.1⟩,?_⟩;rw [aO,show a+(az l+1)=a+1+az l by omega];exact h.2
theorem MR (p:Src):∀ (l:List T),du l->∀ (a:Nat) (r:CS) (ls:List ai),r.code=0->r.skip < (a:Int)->(dP (b9 p) l a r ls).1.code=0->JW p l ls/\(dP (b9 p) l a r ls).1.skip < ((a+az l:Nat):Int)
 | [],_,a,r,ls,hr,hs,hc=>by rw [dP,az];exact ⟨trivial,by simpa using hs⟩
 | t::l,hw,a,r,ls,hr,hs,hc=>by
  rw [du] at hw;rw [dP] at hc |-
  have h1:(ij (b9 p) t a r ls).1.code=0:=by
   by_cases h1:(ij (b9 p) t a r ls).1.code=0
   ·exact h1
   ·rw [um p l _ _ _ h1] at hc;exact hc
  obtain ⟨h2,h3⟩:=QW p t hw.1 a r ls hr hs h1;obtain ⟨h4,h5⟩:=MR p l hw.2 _ _ _ h1 h3 hc;rw [Hu] at h4;rw [JW,az,<-Nat.add_assoc];exact ⟨⟨h2,h4⟩,h5⟩
end
mutual
def zT:T->Prop
 | .mk n l=>(n.kind≠1->n.n=0)/\gK l
def gK:List T->Prop
 | []=>True
 | t::r=>zT t/\gK r
end
mutual
theorem Vh:∀ t:T,zT (er t)↔zT t
 | .mk n l=>by rw [er,zT,zT,Q8 l]
theorem Q8:∀ l:List T,gK (aL l)↔gK l
 | []=>by rw [aL]
 | t::r=>by rw [aL,gK,gK,Vh t,Q8 r]
end
mutual
theorem E.z:∀ a:E,zT a.tree
 | .num n=>by rw [E.tree,zT];exact ⟨fun h=>absurd rfl h,trivial⟩
 | .name s=>by rw [E.tree,zT];exact ⟨fun _=>rfl,trivial⟩
 | .at_ s a=>by rw [E.tree,zT,gK,gK];exact ⟨fun _=>rfl,E.z a,trivial⟩
 | .call s l=>by rw [E.tree,zT];exact ⟨fun _=>rfl,E.zs l⟩
 | .un s a=>by rw [E.tree,zT,gK,gK];exact ⟨fun _=>rfl,E.z a,trivial⟩
 | .bin s a b=>by rw [E.tree,zT,gK,gK,gK];exact ⟨fun _=>rfl,E.z a,E.z b,trivial⟩
theorem E.zs:∀ l:List E,gK (E.trees l)
 | []=>trivial
 | a::l=>by rw [E.trees,gK];exact ⟨E.z a,E.zs l⟩
end
mutual
theorem S.z:∀ a:S,zT a.tree
 | .set s a=>by rw [S.tree,zT,gK,gK];exact ⟨fun _=>rfl,E.z a,trivial⟩
 | .put s a b=>by rw [S.tree,zT,gK,gK,gK];exact ⟨fun _=>rfl,E.z a,E.z b,trivial⟩
 | .if1 c b=>by rw [S.tree,zT,gK,gK,gK,zT];exact ⟨fun _=>rfl,E.z c,⟨fun _=>rfl,S.zs b⟩,trivial⟩
 | .if2 c b d=>by rw [S.tree,zT,gK,gK,gK,gK,zT,zT];exact ⟨fun _=>rfl,E.z c,⟨fun _=>rfl,S.zs b⟩,⟨fun _=>rfl,S.zs d⟩,trivial⟩
 | .while_ c b=>by rw [S.tree,zT,gK,gK,gK,zT];exact ⟨fun _=>rfl,E.z c,⟨fun _=>rfl,S.zs b⟩,trivial⟩
 | .ret a=>by rw [S.tree,zT,gK,gK];exact ⟨fun _=>rfl,E.z a,trivial⟩
 | .do_ a=>by rw [S.tree,zT,gK,gK];exact ⟨fun _=>rfl,E.z a,trivial⟩
 | .var s a=>by rw [S.tree,zT,gK,gK];exact ⟨fun _=>rfl,E.z a,trivial⟩
theorem S.zs:∀ l:List S,gK (S.trees l)
 | []=>trivial
 | a::l=>by rw [S.trees,gK];exact ⟨S.z a,S.zs l⟩
end
theorem Wt (l:List S):zT (bC l):=by rw [bC,zT];exact ⟨fun _=>rfl,S.zs l⟩
section
variable (p:Src) (names:List ai) (name:ai)
end
end Go.Im
namespace Go.Im
open Go.Xp Go.Sp
theorem Forms.wf {l:List T} {ls:List (List S)} (h:Forms l ls) {i:Nat} {t:T} (ht:l[i]?=some t):gh t/\zT t:=by
 have hi:=(List.getElem?_eq_some_iff.1 ht).1;have hlen:=h.len;have hb:ls[i]?=some (ls[i]'(by omega)):=List.getElem?_eq_getElem _;obtain ⟨_,h2⟩:=h.at_ i t _ ht hb;exact ⟨(Q6 t).1 (by rw [h2];exact Vb _),(Vh t).1 (by rw [h2];exact Wt _)⟩
theorem Lv (p:Src):∀ (fs:List Fn) (l:List T) (a:Nat),(fc p fs l a).1=0->∀ (i:Nat) f t,fs[i]?=some f->l[i]?=some t->∃ b,(fb p f t b).1=0
 | f::r,t::l,a,h,0,g,u,h1,h2=>by
  cases h1;cases h2
  rw [fc] at h
  by_cases hc:(fb p f t a).1=0
  ·exact ⟨a,hc⟩
  ·rw [if_pos hc] at h;exact absurd h hc
 | f::r,t::l,a,h,i+1,g,u,h1,h2=>by
  rw [fc] at h
  by_cases hc:(fb p f t a).1=0
  ·rw [if_neg (by simpa using hc)] at h;exact Lv p r l _ h i g u (by simpa using h1) (by simpa using h2)
  ·rw [if_pos hc] at h;exact absurd h hc
 | [],_,a,h,i,g,u,h1,h2=>by simp at h1
 | f::r,[],a,h,i,g,u,h1,h2=>by simp at h2
structure Good (p:Src) (l:List T):Prop where
 st:fy p l
 test:fI p=true
 names:dT (cw p)=false
 len:p.fns.length=l.length
 at_:∀ (i:Nat) f t,p.fns[i]?=some f->l[i]?=some t->Ij p t f.params/\gh t/\zT t/\eg p.nodes f.body.toNat t/\0<=f.body
theorem xS {p:Src} (h:gP p=true):∃ l,Good p l:=by
 unfold gP at h;rw [Bool.and_eq_true] at h;obtain ⟨hf,h⟩:=h;obtain ⟨l,hl⟩:=sX hf;rw [hl.DS] at h;simp only [decide_eq_true_eq] at h;obtain ⟨ls,hm⟩:=hl.Jd
 have hb:dT (cw p)=false:=by
  unfold Cr at h
  by_cases hb:dT (cw p)=true
  ·rw [if_pos hb] at h;cases h
  ·simpa using hb
 have gH:(fc p p.fns l 0).1=0:=by
  unfold Cr at h;rw [if_neg (by rw [hb];decide)] at h;split at h
  ·cases h
  split at h
  ·cases h
  ·exact h
 refine ⟨l,hl,hf,hb,fj.len hl.fns,fun i f t h1 h2=>?_⟩;obtain ⟨b,hc⟩:=Lv p _ _ _ gH i f t h1 h2;obtain ⟨w1,w2⟩:=hm.wf h2;unfold fb at hc
 have hd:¬ tM f.params=true:=fun hd=>by rw [if_pos hd] at hc;cases hc
 rw [if_neg hd] at hc;have hi:=(List.getElem?_eq_some_iff.1 h2).1;obtain ⟨h5,h6⟩:=fj.at_ hl.fns i f t h1 h2;have h7:=dj.ix l 0 i _ hl.st h2;rw [Nat.zero_add] at h5 h7;refine ⟨(QW p t w1 b ⟨0,0,-1⟩ f.params rfl (by show (-1:Int) < _;omega) hc).1,w1,w2,?_,by omega⟩;rw [h5,Int.toNat_natCast];exact h7
end Go.Im
namespace Go.Im
open Go.Xp Go.Sp
theorem D1 {σ:Type} (f:σ->Nat->T->List ai->σ) (t:T):∀ (l:List T) (a:Nat) (s:σ) (ls:List ai),dP f (l++[t]) a s ls=ij f t (a+az l) (dP f l a s ls).1 (dP f l a s ls).2
 | [],a,s,ls=>by rw [List.nil_append,dP,dP,dP,az,Nat.add_zero]
 | u::l,a,s,ls=>by rw [List.cons_append,dP,D1 f t l,dP,az,Nat.add_assoc]
theorem D2 {σ:Type} (f:σ->Nat->T->List ai->σ) {l:List T} {k:Nat} {t:T} (h:l[k]?=some t) (a:Nat) (s:σ) (ls:List ai) :
  dP f (l.take (k+1)) a s ls=ij f t (a+az (l.take k)) (dP f (l.take k) a s ls).1 (dP f (l.take k) a s ls).2:=by
 have:l.take (k+1)=l.take k++[t]:=by rw [take_add_one,h];rfl
 rw [this,D1]
theorem xk:∀ {l:List T} {n k:Nat} {t:T},l[k]?=some t->(bQ n l)[k]?=some (((n+az (l.take k):Nat)):Int)
 | u::l,n,0,t,h=>by simp [bQ,az]
 | u::l,n,k+1,t,h=>by
  have:=xk (l:=l) (n:=n+aO u) (k:=k) (t:=t) (by simpa using h);rw [bQ,List.getElem?_cons_succ,this,List.take_succ_cons,az,Nat.add_assoc]
 | [],n,k,t,h=>by simp at h
theorem sI {l:List T} {k:Nat} {t:T} (h:l[k]?=some t):az (l.take k)+aO t<=az l:=by
 have h1:l.take (k+1)=l.take k++[t]:=by rw [take_add_one,h];rfl
 have h2:az l=az (l.take (k+1))+az (l.drop (k+1)):=by rw [<-l7,List.take_append_drop]
 rw [h1,l7,az,az] at h2;omega
theorem PJ {l:List T} {k:Nat} {t:T} (h:l[k]?=some t):az (l.take (k+1))=az (l.take k)+aO t:=by
 have h1:l.take (k+1)=l.take k++[t]:=by rw [take_add_one,h];rfl
 rw [h1,l7,az,az,Nat.add_zero]
theorem PY:∀ (N:Nat) (t:T),aO t<=N->(vS t).length<=aO t:=by
 intro N
 induction N with
 | zero=>intro t h;have:=jN t;omega
 | succ N ih =>
  intro t h
  have key:∀ l:List T,az l<=N->(lX l).length<=az l:=by
   intro l
   induction l with
   | nil=>intro _;simp [lX]
   | cons u l ih2 =>
    intro h;rw [az] at h;have:=ih u (by omega);have:=ih2 (by omega);rw [lX,length_append,az];omega
  rw [dX] at h |-;have:=key t.kids (by omega);rw [PW,length_append];split <;> simp <;> omega
theorem tF (l:List T):(lX l).length<=az l:=by
 induction l with
 | nil=>simp [lX]
 | cons u l ih =>
  have:=PY _ u (Nat.le_refl _);rw [lX,length_append,az];omega
end Go.Im
namespace Go.Im
open Go.Xp Go.Sp
theorem nm {α:Type} {f:α->Bool} {l:List α} {k:Nat} {x:α} (hk:l[k]?=some x) (h:f x=true) (aR:(l.take k).all (fun y=>!f y)=true):cJ f l=(k:Int):=by
 have ar:k < l.length:=by
  rcases Nat.lt_or_ge k l.length with h1 | h1
  ·exact h1
  ·rw [List.getElem?_eq_none h1] at hk;cases hk
 have hx:l[k]=x:=by rw [List.getElem?_eq_getElem ar] at hk;exact Option.some.inj hk
 have:l.findIdx? f=some k:=by
  rw [List.findIdx?_eq_some_iff_getElem];refine ⟨ar,by rw [hx];exact h,fun j hj=>?_⟩;rw [all_eq_true] at aR;have:=aR l[j] (by rw [List.mem_take_iff_getElem];exact ⟨j,by omega,rfl⟩);simpa using this
 unfold cJ;rw [this]
theorem kA {α:Type} {f:α->Bool} {l:List α} (aR:l.all (fun y=>!f y)=true):cJ f l = -1:=by
 have:l.findIdx? f=none:=by
  rw [List.findIdx?_eq_none_iff];intro x hx;rw [all_eq_true] at aR;simpa using aR x hx
 unfold cJ;rw [this]
theorem mA {α:Type} {f:α->Bool} {l:List α} {k:Nat} {x:α} (hk:l[k]?=some x):(l.take (k+1)).all (fun y=>!f y)=((l.take k).all (fun y=>!f y)&&!f x):=by
 rw [take_add_one,hk,List.all_append];simp
theorem Cx {α:Type} (f:α->Bool) (l:List α):decide ((0:Int)<=cJ f l)=l.any f:=by
 cases h:l.any f with
 | false =>
  rw [kA (by rw [any_eq_false] at h;rw [all_eq_true];intro x hx;simpa using h x hx)];rfl
 | true =>
  unfold cJ
  cases h2:l.findIdx? f with
  | some i=>simp
  | none =>
   rw [List.findIdx?_eq_none_iff] at h2;rw [any_eq_true] at h;obtain ⟨x,hx,h3⟩:=h;have:=h2 x hx;simp [h3] at this
end Go.Im
namespace Go.Im
open Go.Xp Go.Sp
def sW (p:Src) (n:Nd):List Int:=if n.kind=4/\0<=np p n.s then [np p n.s] else []
mutual
def nT (p:Src):T->List Int
 | .mk n l=>sW p n++gL p l
def gL (p:Src):List T->List Int
 | []=>[]
 | t::r=>nT p t++gL p r
end
theorem SP (p:Src) (t:T):nT p t=sW p t.n++gL p t.kids:=by cases t;rw [nT];rfl
def fa (p:Src) (s:List Int) (_:Nat) (t:T) (_:List ai):List Int:=s++sW p t.n
mutual
theorem Qh (p:Src):∀ (t:T) (a:Nat) (s:List Int) (ls:List ai),(ij (fa p) t a s ls).1=s++nT p t
 | .mk n l,a,s,ls=>by
  rw [ij,nT];simp only;rw [D3 p l];unfold fa;show s++sW p n++_=_;rw [append_assoc]
theorem D3 (p:Src):∀ (l:List T) (a:Nat) (s:List Int) (ls:List ai),(dP (fa p) l a s ls).1=s++gL p l
 | [],a,s,ls=>by rw [dP,gL,append_nil]
 | t::r,a,s,ls=>by rw [dP,D3 p r,Qh p t,gL,append_assoc]
end
theorem Bm (p:Src) (n:Nd):(sW p n).length<=1:=by unfold sW;split <;> simp
theorem KY (p:Src):∀ (N:Nat) (t:T),aO t<=N->(nT p t).length<=aO t:=by
 intro N
 induction N with
 | zero=>intro t h;have:=jN t;omega
 | succ N ih =>
  intro t h
  have key:∀ l:List T,az l<=N->(gL p l).length<=az l:=by
   intro l
   induction l with
   | nil=>intro _;simp [gL]
   | cons u l ih2 =>
    intro h;rw [az] at h;have:=ih u (by omega);have:=ih2 (by omega);rw [gL,length_append,az];omega
  rw [dX] at h |-;have:=key t.kids (by omega);have:=Bm p t.n;rw [SP,length_append];omega
theorem DW (p:Src) (l:List T):(gL p l).length<=az l:=by
 induction l with
 | nil=>simp [gL]
 | cons u l ih =>
  have:=KY p _ u (Nat.le_refl _);rw [gL,length_append,az];omega
theorem KX (p:Src) {l:List T} {k:Nat} {t:T} (h:l[k]?=some t):gL p (l.take (k+1))=gL p (l.take k)++nT p t:=by
 have h1:l.take (k+1)=l.take k++[t]:=by rw [take_add_one,h];rfl
 have:∀ a b:List T,gL p (a++b)=gL p a++gL p b:=by
  intro a b
  induction a with
  | nil=>simp [gL]
  | cons u a ih=>simp [gL,ih]
 rw [h1,this];simp [gL]
theorem Oy (p:Src) (s:ai):np p s < (p.fns.length:Int):=by
 unfold np cJ
 cases h:p.fns.findIdx? (fun f:Fn=>f.name==s) with
 | none=>simp only;omega
 | some i =>
  rw [List.findIdx?_eq_some_iff_getElem] at h;obtain ⟨h,_⟩:=h;simp only;omega
theorem Rj (p:Src) (n:Nd):∀ x∈sW p n,0<=x/\x < (p.fns.length:Int):=by
 intro x hx;unfold sW at hx;split at hx
 ·rename_i h;rw [mem_singleton] at hx;subst hx;exact ⟨h.2,Oy p _⟩
 ·simp at hx
mutual
theorem KZ (p:Src):∀ (t:T),∀ x∈nT p t,0<=x/\x < (p.fns.length:Int)
 | .mk n l,x,hx=>by
  rw [nT,List.mem_append] at hx
  rcases hx with h | h
  ·exact Rj p n x h
  ·exact Hh p l x h
theorem Hh (p:Src):∀ (l:List T),∀ x∈gL p l,0<=x/\x < (p.fns.length:Int)
 | [],x,hx=>by simp [gL] at hx
 | t::r,x,hx=>by
  rw [gL,List.mem_append] at hx
  rcases hx with h | h
  ·exact KZ p t x h
  ·exact Hh p r x h
end
def gk (l:List Int):Prop:=l.Pairwise (· < ·)
theorem AN:∀ {a b:List Int},gk a->gk b->(∀ x,x∈a↔x∈b)->a=b
 | [],[],_,_,_=>rfl
 | [],y::b,_,_,h=>by have:=(h y).2 (by simp);simp at this
 | x::a,[],_,_,h=>by have:=(h x).1 (by simp);simp at this
 | x::a,y::b,ha,hb,h=>by
  unfold gk at ha hb;rw [pairwise_cons] at ha hb
  have iF:x=y:=by
   have h1:=(h x).1 (by simp);have h2:=(h y).2 (by simp)
   rcases List.mem_cons.1 h1 with h1 | h1
   ·exact h1
   rcases List.mem_cons.1 h2 with h2 | h2
   ·exact h2.symm
   have:=hb.1 x h1;have:=ha.1 y h2;omega
  subst iF
  have:a=b:=AN ha.2 hb.2 fun z=>by
   constructor
   ·intro hz;have:=(h z).1 (mem_cons_of_mem _ hz)
    rcases List.mem_cons.1 this with e | e
    ·have:=ha.1 z hz;omega
    ·exact e
   ·intro hz;have:=(h z).2 (mem_cons_of_mem _ hz)
    rcases List.mem_cons.1 this with e | e
    ·have:=hb.1 z hz;omega
    ·exact e
  rw [this]
def qb (n:Int):List Int->List Int
 | []=>[n]
 | x::r=>if n < x then n::x::r else x::qb n r
def gY (l:List Int) (n:Int):List Int:=if l.contains n=true then l else qb n l
theorem zt {n:Int}:∀ {l:List Int} {x:Int},x∈qb n l↔x=n\/x∈l
 | [],x=>by simp [qb]
 | y::r,x=>by
  rw [qb];split
  ·simp
  ·rw [List.mem_cons,zt,List.mem_cons];constructor
   ·rintro (h | h | h)
    ·exact .inr (.inl h)
    ·exact .inl h
    ·exact .inr (.inr h)
   ·rintro (h | h | h)
    ·exact .inr (.inl h)
    ·exact .inl h
    ·exact .inr (.inr h)
theorem yK {n:Int}:∀ {l:List Int},gk l->n ∉ l->gk (qb n l)
 | [],_,_=>by simp [qb,gk]
 | y::r,h,hn=>by
  unfold gk at h |-;rw [pairwise_cons] at h;rw [qb];rw [List.mem_cons,not_or] at hn;split
  ·rename_i ar;rw [pairwise_cons,pairwise_cons];refine ⟨fun z hz=>?_,h.1,h.2⟩
   rcases List.mem_cons.1 hz with e | e
   ·omega
   ·have:=h.1 z e;omega
  ·rename_i ar;rw [pairwise_cons];refine ⟨fun z hz=>?_,yK h.2 hn.2⟩
   rcases zt.1 hz with e | e
   ·have:=hn.1;omega
   ·exact h.1 z e
theorem Ft {l:List Int} {n x:Int}:x∈gY l n↔x=n\/x∈l:=by
 unfold gY;split
 ·rename_i h;have:=List.contains_iff_mem.1 h;constructor
  ·exact .inr
  ·rintro (rfl | h)
   ·exact this
   ·exact h
 ·exact zt
theorem GS {l:List Int} {n:Int} (h:gk l):gk (gY l n):=by
 unfold gY;split
 ·exact h
 ·rename_i hc
  exact yK h fun e=>hc (List.contains_iff_mem.2 e)
theorem zr {n:Int}:∀ {l:List Int},(qb n l).length=l.length+1
 | []=>rfl
 | y::r=>by
  rw [qb];split
  ·simp
  ·rw [length_cons,zr,length_cons]
theorem Pq {l:List Int} {n:Int}:(gY l n).length<=l.length+1:=by
 unfold gY;split
 ·omega
 ·rw [zr];omega
def nM (n:Int) (st:List Int × Bool) (x:Int):List Int × Bool:=if (!st.2&&decide (n < x))=true then (st.1++[n]++[x],true) else (st.1++[x],st.2)
def iR (l:List Int) (n:Int) (k:Nat):List Int × Bool:=(l.take k).foldl (nM n) ([],false)
theorem C9 {l:List Int} {n:Int} {k:Nat} {x:Int} (h:l[k]?=some x):iR l n (k+1)=nM n (iR l n k) x:=by
 unfold iR;rw [take_add_one,h,List.foldl_append];rfl
theorem Cy (n:Int):∀ (l acc:List Int),l.foldl (nM n) (acc,true)=(acc++l,true)
 | [],acc=>by simp
 | x::r,acc=>by
  rw [foldl_cons,show nM n (acc,true) x=(acc++[x],true) by simp [nM],Cy n r];simp
theorem D8 (n:Int):∀ (l acc:List Int),(if (l.foldl (nM n) (acc,false)).2=true then (l.foldl (nM n) (acc,false)).1 else (l.foldl (nM n) (acc,false)).1++[n])=acc++qb n l
 | [],acc=>by simp [qb]
 | x::r,acc=>by
  rw [foldl_cons,qb]
  by_cases h:n < x
  ·rw [show nM n (acc,false) x=(acc++[n]++[x],true) by simp [nM,h],Cy,if_pos h];simp
  ·rw [show nM n (acc,false) x=(acc++[x],false) by simp [nM,h],if_neg h,D8 n r];simp
theorem Pr (l:List Int) (n:Int) (h:l.contains n=false):(if (iR l n l.length).2=true then (iR l n l.length).1 else (iR l n l.length).1++[n])=gY l n:=by
 unfold iR gY;rw [List.take_length,D8,if_neg (by rw [h];decide)];rfl
theorem Fu (l:List Int) (n:Int) (k:Nat):(iR l n k).1.length<=k+1/\((iR l n k).2=false->(iR l n k).1.length<=k):=by
 induction k with
 | zero=>simp [iR]
 | succ k ih =>
  rcases Nat.lt_or_ge k l.length with h | h
  ·rw [C9 (List.getElem?_eq_getElem h)];unfold nM;split
   ·rename_i hc;rw [Bool.and_eq_true] at hc;have:=ih.2 (by simpa using hc.1);refine ⟨by simp;omega,fun h=>by cases h⟩
   ·refine ⟨by simp;exact ih.1,fun h2=>?_⟩;have:=ih.2 h2;simp;omega
  ·have:iR l n (k+1)=iR l n k:=by unfold iR;rw [List.take_of_length_le (by omega),List.take_of_length_le (by omega)]
   rw [this];exact ⟨by omega,fun h2=>by have:=ih.2 h2;omega⟩
def n9 (l:List Int):List Int:=l.foldl gY []
theorem xt:∀ (l acc:List Int),gk acc->gk (l.foldl gY acc)/\∀ x,x∈l.foldl gY acc↔x∈acc\/x∈l
 | [],acc,h=>⟨h,fun x=>by simp⟩
 | y::r,acc,h=>by
  obtain ⟨h1,h2⟩:=xt r (gY acc y) (GS h);refine ⟨h1,fun x=>?_⟩;rw [foldl_cons,h2,Ft,List.mem_cons];constructor
  ·rintro ((h | h) | h)
   ·exact .inr (.inl h)
   ·exact .inl h
   ·exact .inr (.inr h)
  ·rintro (h | h | h)
   ·exact .inl (.inr h)
   ·exact .inl (.inl h)
   ·exact .inr h
theorem ri (l:List Int):gk (n9 l):=(xt l [] List.Pairwise.nil).1
theorem vL {l:List Int} {x:Int}:x∈n9 l↔x∈l:=by
 have:=(xt l [] List.Pairwise.nil).2 x;unfold n9;rw [this];simp
theorem vM:∀ {l:List Int} {a b:Int},gk l->(∀ x∈l,a<=x/\x < b)->a<=b->(l.length:Int)<=b - a
 | [],a,b,_,_,h=>by simp;omega
 | x::r,a,b,h,hb,Qs=>by
  unfold gk at h;rw [pairwise_cons] at h;have hx:=hb x (by simp);have:=vM (l:=r) (a:=x+1) (b:=b) h.2 (fun y hy=>by have:=h.1 y hy;have:=hb y (mem_cons_of_mem _ hy);omega) (by omega);rw [length_cons];omega
theorem MQ {l:List Int} {n:Nat} (h:l.Nodup) (hb:∀ x∈l,0<=x/\x < (n:Int)):l.length<=n:=by
 have h1:(n9 l).length=l.length:=by
  have key:∀ (l acc:List Int),l.Nodup->(∀ x∈l,x ∉ acc)->(l.foldl gY acc).length=acc.length+l.length:=by
   intro l
   induction l with
   | nil=>intro acc _ _;simp
   | cons y r ih =>
    intro acc h1 h2;rw [List.nodup_cons] at h1
    have hy:acc.contains y=false:=by
     cases hc:acc.contains y with
     | false=>rfl
     | true=>exact absurd (List.contains_iff_mem.1 hc) (h2 y (by simp))
    rw [foldl_cons,ih _ h1.2 fun x hx hm=>?_]
    ·unfold gY;rw [if_neg (by rw [hy];decide),zr,length_cons];omega
    ·rcases Ft.1 hm with e | e
     ·subst e;exact h1.1 hx
     ·exact h2 x (mem_cons_of_mem _ hx) e
  have:=key l [] h (by simp);unfold n9;rw [this];simp
 have h2:=vM (ri l) (a:=0) (b:=n) (fun x hx=>hb x (vL.1 hx)) (by omega);omega
def bq (p:Src) (t:T):List Int:=n9 (nT p t)
theorem uh (p:Src) (t:T):gk (bq p t):=ri _
theorem nS (p:Src) (t:T):∀ x∈bq p t,0<=x/\x < (p.fns.length:Int):=fun x hx=>KZ p t x (vL.1 hx)
theorem qu (p:Src) (t:T):(bq p t).length<=p.fns.length:=by
 have:=vM (uh p t) (a:=0) (b:=p.fns.length) (nS p t) (by omega);omega
theorem Fw {l:List Int} (h:gk l):l.Nodup:=by
 unfold gk at h;exact h.imp (fun {a b} Qs=>by omega)
def ef (l ks:List Int):List Int:=ks.foldl (fun l k=>if l.contains k=true then l else l++[k]) l
theorem Cj (l:List Int) (ks:List Int) (k:Nat) (x:Int) (h:ks[k]?=some x):ef l (ks.take (k+1))=if (ef l (ks.take k)).contains x=true then ef l (ks.take k) else ef l (ks.take k)++[x]:=by
 unfold ef;rw [take_add_one,h,List.foldl_append];rfl
theorem DN:∀ {ks l:List Int} {x:Int},x∈ef l ks↔x∈l\/x∈ks
 | [],l,x=>by simp [ef]
 | k::r,l,x=>by
  have:=@DN r (if l.contains k=true then l else l++[k]) x;unfold ef at this |-;rw [foldl_cons,this,List.mem_cons];split
  ·rename_i hc;have:=List.contains_iff_mem.1 hc;constructor
   ·rintro (h | h)
    ·exact .inl h
    ·exact .inr (.inr h)
   ·rintro (h | h | h)
    ·exact .inl h
    ·subst h;exact .inl this
    ·exact .inr h
  ·rw [List.mem_append,mem_singleton,or_assoc]
theorem zR:∀ {ks l:List Int},l.Nodup->(ef l ks).Nodup
 | [],l,h=>h
 | k::r,l,h=>by
  have hn:(if l.contains k=true then l else l++[k]).Nodup:=by
   split
   ·exact h
   ·rename_i hc;rw [List.nodup_append];refine ⟨h,by simp,fun a ha b hb e=>?_⟩;rw [mem_singleton] at hb;subst e;subst hb;exact hc (List.contains_iff_mem.2 ha)
  exact zR (ks:=r) hn
theorem y5:∀ (ks l:List Int),∃ m,ef l ks=l++m
 | [],l=>⟨[],by simp [ef]⟩
 | k::r,l=>by
  have e:ef l (k::r)=ef (if l.contains k=true then l else l++[k]) r:=rfl;rw [e];obtain ⟨m,hm⟩:=y5 r (if l.contains k=true then l else l++[k]);rw [hm];split
  ·exact ⟨m,rfl⟩
  ·exact ⟨[k]++m,by simp⟩
def ud (cs:Int->List Int):Nat->Nat->List Int->List Int
 | 0,_,l=>l
 | f+1,i,l=>match l[i]? with | none=>l | some x=>ud cs f (i+1) (ef l (cs x))
end Go.Im
