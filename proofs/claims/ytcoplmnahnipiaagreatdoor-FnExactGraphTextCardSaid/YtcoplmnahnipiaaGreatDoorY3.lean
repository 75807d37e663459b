/- Part 3 of proofs that are told in their last texts. -/
import Derived.Test.YtcoplmnahnipiaaGreatDoorY2
open List (all_eq_true any_eq_false any_eq_true append_assoc append_nil contains_iff_mem foldl_cons length_append length_cons mem_cons_of_mem mem_cons_self mem_singleton pairwise_cons take_add_one)
set_option linter.unusedVariables false
set_option linter.unusedSimpArgs false
set_option maxRecDepth 100000
namespace Go.Im
open Go.Xp Go.Sp
def ov:ah:=[103,101,116]
def pG:ah:=[112,117,116]
def iu:ah:=[115,105,122,101]
def vk:ah:=[109,97,105,110]
def lJ (s:ah):Bool:=(s==ov || s==pG) || s==iu
def cH {α:Type} (f:α->Bool) (l:List α):Int:=match l.findIdx? f with | some i=>(i:Int) | none => -1
def nt (p:Src) (s:ah):Int:=cH (fun f:Fn=>f.name==s) p.fns
def Ei (p:Src) (s:ah):Int:=cH (fun a:Ar=>a.name==s) p.arrays
def eF (p:Src):List ah:=p.arrays.map fun a:Ar=>a.name
def gX (p:Src):List ah:=p.fns.map fun f:Fn=>f.name
def cw (p:Src):List ah:=(p.globals++eF p)++gX p
def mT (t:T):Nd:=match t.kids with | k::_=>k.n | []=>⟨0,0,0,[],[]⟩
def dI (t:T):Bool:=(t.n.kind==4&&t.n.s==iu)&&(t.kids.length==1)
def lg (p:Src) (i:Nat):Nat:=match p.fns[i]? with | some f=>f.params.length | none=>0
def mA (p:Src) (s:ah):Int:=if s=ov then 0 else if s=pG\/s=iu then 1 else match p.fns.findIdx? (fun f:Fn=>f.name==s) with | some i=>(lg p i:Int) | none => -1
def fQ (p:Src) (k:Nd) (ls:List ah):Bool:=(k.kind != 2 || decide (Ei p k.s < 0)) || ls.contains k.s
def eN (p:Src) (t:T) (ls:List ah):Int :=
 if dI t=true then (if fQ p (mT t) ls=true then 24 else 0)
 else if mA p t.n.s = -1 then 22 else if mA p t.n.s=(t.kids.length:Int) then 0 else 23
def bP (p:Src) (t:T) (ls:List ah):Int :=
 if t.n.kind=13 then (if ls.contains t.n.s=true then 21 else if ls.length>=40 then 26 else 0)
 else if t.n.kind=2\/t.n.kind=7 then (if ls.contains t.n.s=false/\p.globals.contains t.n.s=false then 22 else 0)
 else if t.n.kind=3\/t.n.kind=8 then (if ls.contains t.n.s=true\/Ei p t.n.s < 0 then 24 else 0)
 else if t.n.kind=4 then eN p t ls
 else 0
structure CS where
 code:Int
 place:Int
 skip:Int
def b8 (p:Src) (c:CS) (a:Nat) (t:T) (ls:List ah):CS :=
 if c.code≠0\/(a:Int)=c.skip then c
 else ⟨bP p t ls,if bP p t ls≠0 then t.n.at_ else c.place,if dI t=true then (if (mT t).kind≠2 then -1 else ((a+1:Nat):Int)) else c.skip⟩
mutual
def ij {σ:Type} (f:σ->Nat->T->List ah->σ):T->Nat->σ->List ah->σ × List ah
 | .mk n l,a,s,ls=>((dN f l (a+1) (f s a (.mk n l) ls) ls).1,if n.kind=13 then (dN f l (a+1) (f s a (.mk n l) ls) ls).2++[n.s] else (dN f l (a+1) (f s a (.mk n l) ls) ls).2)
def dN {σ:Type} (f:σ->Nat->T->List ah->σ):List T->Nat->σ->List ah->σ × List ah
 | [],_,s,ls=>(s,ls)
 | t::r,a,s,ls=>dN f r (a+aK t) (ij f t a s ls).1 (ij f t a s ls).2
end
theorem uZ {σ:Type} (f:σ->Nat->T->List ah->σ) (t:T) (a:Nat) (s:σ) (ls:List ah) :
  ij f t a s ls=((dN f t.kids (a+1) (f s a t ls) ls).1,if t.n.kind=13 then (dN f t.kids (a+1) (f s a t ls) ls).2++[t.n.s] else (dN f t.kids (a+1) (f s a t ls) ls).2):=by
 cases t;rw [ij];rfl
def np (l:List ah) (k:Nat):Bool:=match l[k]? with | some s=>(l.take k).contains s | none=>false
def uz (l:List ah):Bool:=(List.range l.length).any (np l)
def fa (p:Src) (f:Fn) (t:T) (a:Nat):Int × Int :=
 if uz f.params=true then (21,0) else ((ij (b8 p) t a ⟨0,0,-1⟩ f.params).1.code,(ij (b8 p) t a ⟨0,0,-1⟩ f.params).1.place)
def jS (l:List ah) (k:Nat):Bool:=match l[k]? with | some s=>lJ s || (l.take k).contains s | none=>false
def dU (l:List ah):Bool:=(List.range l.length).any (jS l)
def dx (l:List Ar):Int:=l.foldl (fun n a=>n+a.size) 0
def fO (p:Src):Bool:=p.arrays.any (fun a=>a.size==0) || ((((decide (p.fns.length > 40) || decide (p.globals.length > 29)) || decide (dx p.arrays > 8000))) || p.fns.any fun f=>decide (f.params.length > 40))
def l0 (f:Fn):Bool:=f.name==vk&&f.params.length==0
def fb (p:Src):List Fn->List T->Nat->Int × Int
 | f::r,t::l,a=>if (fa p f t a).1≠0 then fa p f t a else fb p r l (a+aK t)
 | _,_,_=>(0,0)
def Bf (p:Src) (l:List T):Int × Int :=
 if dU (cw p)=true then (21,0) else if fO p=true then (26,0) else if p.fns.any l0=false then (25,0) else fb p p.fns l 0
def eo (p:Src):Bool:=fI p&&(match gW p.nodes p.fns 0 [] with | some (l,_)=>decide ((Bf p l).1=0) | none=>false)
structure SS where
 ls:List ah
 code:Int
 at_:Int
def SS.fail (c:SS) (k a:Int):SS:=if c.code=0 then ⟨c.ls,k,a⟩ else c
def et (c:SS) (n:Nd) (k want:Nat):SS:=if k≠want then c.fail 23 n.at_ else c
def fg (p:Src) (c:SS) (t:T):SS × Bool :=
 if t.n.s=ov then (et c t.n t.kids.length 0,true)
 else if t.n.s=pG then (et c t.n t.kids.length 1,true)
 else if t.n.s=iu then (et (if t.kids.length=1/\fQ p (mT t) c.ls=true then c.fail 24 t.n.at_ else c) t.n t.kids.length 1,false)
 else match p.fns.findIdx? (fun f:Fn=>f.name==t.n.s) with
  | none=>(c.fail 22 t.n.at_,false)
  | some i=>(et c t.n t.kids.length (lg p i),true)
def iP (p:Src) (c:SS) (t:T):SS × Bool :=
 if t.n.kind=2\/t.n.kind=7 then (if c.ls.contains t.n.s=false/\p.globals.contains t.n.s=false then c.fail 22 t.n.at_ else c,true)
 else if t.n.kind=3\/t.n.kind=8 then (if c.ls.contains t.n.s=true\/Ei p t.n.s < 0 then c.fail 24 t.n.at_ else c,true)
 else if t.n.kind=4 then fg p c t
 else (c,true)
def lr (c:SS) (n:Nd):SS :=
 if n.kind≠13 then c
 else if c.ls.contains n.s=true then ⟨(c.fail 21 n.at_).ls++[n.s],(c.fail 21 n.at_).code,(c.fail 21 n.at_).at_⟩
 else if c.ls.length=40 then ⟨(c.fail 26 n.at_).ls++[n.s],(c.fail 26 n.at_).code,(c.fail 26 n.at_).at_⟩
 else ⟨c.ls++[n.s],c.code,c.at_⟩
mutual
def mC (p:Src):T->SS->SS
 | .mk n l,c=>lr (if (iP p c (.mk n l)).2=true then gO p l (iP p c (.mk n l)).1 else (iP p c (.mk n l)).1) n
def gO (p:Src):List T->SS->SS
 | [],c=>c
 | t::r,c=>gO p r (mC p t c)
end
theorem vn (p:Src) (t:T) (c:SS):mC p t c=lr (if (iP p c t).2=true then gO p t.kids (iP p c t).1 else (iP p c t).1) t.n:=by cases t;rw [mC];rfl
mutual
def uh:T->Prop
 | .mk n l=>n.kind≠13/\kF l
def kF:List T->Prop
 | []=>True
 | t::r=>uh t/\kF r
end
mutual
def gi:T->Prop
 | .mk n l=>(n.kind=13->kF l)/\(n.kind=2->l=[])/\dv l
def dv:List T->Prop
 | []=>True
 | t::r=>gi t/\dv r
end
mutual
theorem Wi:∀ t:T,uh (er t)↔uh t
 | .mk n l=>by rw [er,uh,uh,Ge l]
theorem Ge:∀ l:List T,kF (aI l)↔kF l
 | []=>by rw [aI]
 | t::r=>by rw [aI,kF,kF,Wi t,Ge r]
end
theorem RU {l:List T}:aI l=[]↔l=[]:=by
 cases l with
 | nil=>rw [aI]
 | cons t r=>rw [aI];simp
mutual
theorem Rq:∀ t:T,gi (er t)↔gi t
 | .mk n l=>by rw [er,gi,gi,Ge l,Od l,RU]
theorem Od:∀ l:List T,dv (aI l)↔dv l
 | []=>by rw [aI]
 | t::r=>by rw [aI,dv,dv,Rq t,Od r]
end
mutual
theorem E.nv:∀ a:E,uh a.tree
 | .num n=>by rw [E.tree,uh];exact ⟨by simp,trivial⟩
 | .name s=>by rw [E.tree,uh];exact ⟨by simp,trivial⟩
 | .at_ s a=>by rw [E.tree,uh,kF,kF];exact ⟨by simp,E.nv a,trivial⟩
 | .call s l=>by rw [E.tree,uh];exact ⟨by simp,E.Xn l⟩
 | .un s a=>by rw [E.tree,uh,kF,kF];exact ⟨by simp,E.nv a,trivial⟩
 | .bin s a b=>by rw [E.tree,uh,kF,kF,kF];exact ⟨by simp,E.nv a,E.nv b,trivial⟩
theorem E.Xn:∀ l:List E,kF (E.trees l)
 | []=>trivial
 | a::l=>by rw [E.trees,kF];exact ⟨E.nv a,E.Xn l⟩
end
mutual
theorem E.wf:∀ a:E,gi a.tree
 | .num n=>by rw [E.tree,gi];exact ⟨fun h=>absurd h (by simp),fun _=>rfl,trivial⟩
 | .name s=>by rw [E.tree,gi];exact ⟨fun h=>absurd h (by simp),fun _=>rfl,trivial⟩
 | .at_ s a=>by rw [E.tree,gi,dv,dv];exact ⟨fun h=>absurd h (by simp),fun h=>absurd h (by simp),E.wf a,trivial⟩
 | .call s l=>by rw [E.tree,gi];exact ⟨fun h=>absurd h (by simp),fun h=>absurd h (by simp),E.Cc l⟩
 | .un s a=>by rw [E.tree,gi,dv,dv];exact ⟨fun h=>absurd h (by simp),fun h=>absurd h (by simp),E.wf a,trivial⟩
 | .bin s a b=>by rw [E.tree,gi,dv,dv,dv];exact ⟨fun h=>absurd h (by simp),fun h=>absurd h (by simp),E.wf a,E.wf b,trivial⟩
theorem E.Cc:∀ l:List E,dv (E.trees l)
 | []=>trivial
 | a::l=>by rw [E.trees,dv];exact ⟨E.wf a,E.Cc l⟩
end
mutual
theorem S.wf:∀ a:S,gi a.tree
 | .set s a=>by rw [S.tree,gi,dv,dv];exact ⟨fun h=>absurd h (by simp),fun h=>absurd h (by simp),E.wf a,trivial⟩
 | .put s a b=>by rw [S.tree,gi,dv,dv,dv];exact ⟨fun h=>absurd h (by simp),fun h=>absurd h (by simp),E.wf a,E.wf b,trivial⟩
 | .if1 c b=>by rw [S.tree,gi,dv,dv,dv,gi];exact ⟨fun h=>absurd h (by simp),fun h=>absurd h (by simp),E.wf c,⟨fun h=>absurd h (by simp),fun h=>absurd h (by simp),S.Cc b⟩,trivial⟩
 | .if2 c b d=>by rw [S.tree,gi,dv,dv,dv,dv,gi,gi];exact ⟨fun h=>absurd h (by simp),fun h=>absurd h (by simp),E.wf c,⟨fun h=>absurd h (by simp),fun h=>absurd h (by simp),S.Cc b⟩,⟨fun h=>absurd h (by simp),fun h=>absurd h (by simp),S.Cc d⟩,trivial⟩
 | .while_ c b=>by rw [S.tree,gi,dv,dv,dv,gi];exact ⟨fun h=>absurd h (by simp),fun h=>absurd h (by simp),E.wf c,⟨fun h=>absurd h (by simp),fun h=>absurd h (by simp),S.Cc b⟩,trivial⟩
 | .ret a=>by rw [S.tree,gi,dv,dv];exact ⟨fun h=>absurd h (by simp),fun h=>absurd h (by simp),E.wf a,trivial⟩
 | .do_ a=>by rw [S.tree,gi,dv,dv];exact ⟨fun h=>absurd h (by simp),fun h=>absurd h (by simp),E.wf a,trivial⟩
 | .var s a=>by rw [S.tree,gi,dv,dv,kF,kF];exact ⟨fun _=>⟨E.nv a,trivial⟩,fun h=>absurd h (by simp),E.wf a,trivial⟩
theorem S.Cc:∀ l:List S,dv (S.trees l)
 | []=>trivial
 | a::l=>by rw [S.trees,dv];exact ⟨S.wf a,S.Cc l⟩
end
theorem Vm (l:List S):gi (bA l):=by
 rw [bA,gi];exact ⟨fun h=>absurd h (by simp),fun h=>absurd h (by simp),S.Cc l⟩
theorem SS.nq (c:SS) (k a:Int):(c.fail k a).ls=c.ls:=by unfold SS.fail;split <;> rfl
theorem wP (c:SS) (n:Nd) (k w:Nat):(et c n k w).ls=c.ls:=by unfold et;split;(· exact c.nq _ _);rfl
theorem vB (p:Src) (c:SS) (t:T):(iP p c t).1.ls=c.ls:=by
 unfold iP fg;split
 ·simp only;split;(· exact c.nq _ _);rfl
 split
 ·simp only;split;(· exact c.nq _ _);rfl
 split
 ·split
  ·exact wP _ _ _ _
  split
  ·exact wP _ _ _ _
  split
  ·simp only;rw [wP];split;(· exact c.nq _ _);rfl
  split
  ·exact c.nq _ _
  ·exact wP _ _ _ _
 ·rfl
mutual
theorem Wf (p:Src):∀ (t:T),uh t->∀ c,(mC p t c).ls=c.ls
 | .mk n l,h,c=>by
  rw [uh] at h;rw [mC,lr,if_pos h.1];split
  ·rw [Gd p l h.2,vB]
  ·exact vB _ _ _
theorem Gd (p:Src):∀ (l:List T),kF l->∀ c,(gO p l c).ls=c.ls
 | [],_,c=>by rw [gO]
 | t::r,h,c=>by
  rw [kF] at h;rw [gO,Gd p r h.2,Wf p t h.1]
end
theorem SS.yF {c:SS} (h:c.code≠0) (k a:Int):c.fail k a=c:=by unfold SS.fail;rw [if_neg h]
theorem SS.oM (c:SS) {k:Int} (hk:k≠0) (a:Int):(c.fail k a).code≠0:=by
 unfold SS.fail;split
 ·exact hk
 ·assumption
theorem Qj {c:SS} (h:c.code≠0) (n:Nd) (k w:Nat):et c n k w=c:=by unfold et;rw [SS.yF h];split <;> rfl
theorem St (p:Src) {c:SS} (h:c.code≠0) (t:T):(iP p c t).1=c:=by
 unfold iP fg;simp only [SS.yF h,Qj h,ite_self];split
 ·rfl
 split
 ·rfl
 split
 ·split
  ·rfl
  split
  ·rfl
  split
  ·rfl
  split <;> rfl
 ·rfl
theorem y7 {c:SS} (h:c.code≠0) (n:Nd):(lr c n).code≠0:=by
 unfold lr;rw [SS.yF h,SS.yF h];split
 ·exact h
 split
 ·exact h
 split <;> exact h
mutual
theorem Rb (p:Src):∀ (t:T) (c:SS),c.code≠0->(mC p t c).code≠0
 | .mk n l,c,h=>by
  rw [mC];refine y7 ?_ n;rw [St p h];split
  ·exact vo p l c h
  ·exact h
theorem vo (p:Src):∀ (l:List T) (c:SS),c.code≠0->(gO p l c).code≠0
 | [],c,h=>by rw [gO];exact h
 | t::r,c,h=>by rw [gO];exact vo p r _ (Rb p t c h)
end
theorem P0 (p:Src) {c:CS} (h:c.code≠0) (a:Nat) (t:T) (ls:List ah):b8 p c a t ls=c:=by unfold b8;rw [if_pos (.inl h)]
mutual
theorem VJ (p:Src):∀ (t:T) (a:Nat) (c:CS) (ls:List ah),c.code≠0->(ij (b8 p) t a c ls).1=c
 | .mk n l,a,c,ls,h=>by rw [ij,P0 p h];exact u5 p l _ c ls h
theorem u5 (p:Src):∀ (l:List T) (a:Nat) (c:CS) (ls:List ah),c.code≠0->(dN (b8 p) l a c ls).1=c
 | [],a,c,ls,h=>by rw [dN]
 | t::r,a,c,ls,h=>by
  have h1:=VJ p t a c ls h;rw [dN,h1];exact u5 p r _ c _ h
end
def Db (a:Nat) (r:CS × List ah) (q:SS):Prop:=(r.1.code=0/\q.code=0/\r.2=q.ls/\r.1.skip < (a:Int)/\q.ls.length<=40)\/(r.1.code≠0/\q.code≠0)
theorem PW (p:Src) (t:T) (FT:t.n.kind=13->kF t.kids) (oc:∀ k∈t.kids,k.n.kind=2->k.kids=[])
  (ih:∀ (a:Nat) (r:CS) (q:SS),r.code=0->q.code=0->r.skip < (a:Int)->q.ls.length<=40->Db (a+ay t.kids) (dN (b8 p) t.kids a r q.ls) (gO p t.kids q))
  (a:Nat) (r:CS) (q:SS) (hr:r.code=0) (hq:q.code=0) (hs:r.skip < (a:Int)) (hl:q.ls.length<=40):Db (a+aK t) (ij (b8 p) t a r q.ls) (mC p t q):=by
 have bK:¬ (r.code≠0\/(a:Int)=r.skip):=by
  rintro (h | h)
  ·exact h hr
  ·omega
 obtain ⟨pl,bY⟩:∃ pl,b8 p r a t q.ls=⟨bP p t q.ls,pl,if dI t=true then (if (mT t).kind≠2 then -1 else ((a+1:Nat):Int)) else r.skip⟩:=by
  unfold b8;rw [if_neg bK];exact ⟨_,rfl⟩
 have cI:=dZ t
 have bad:∀ x:SS,bP p t q.ls≠0->x.code≠0->Db (a+aK t) (ij (b8 p) t a r q.ls) x:=fun x h1 h2=>by
  refine .inr ⟨?_,h2⟩;rw [uZ,bY];simp only;rw [u5 p t.kids _ _ _ h1];exact h1
 have go:bP p t q.ls=0->dI t=false->t.n.kind≠13->iP p q t=(q,true)->Db (a+aK t) (ij (b8 p) t a r q.ls) (mC p t q):=fun h1 h2 h3 h4=>by
  have:=ih (a+1) ⟨0,pl,r.skip⟩ q rfl hq (by simp only;omega) hl;rw [uZ,vn,h4,bY,h1,h2,if_neg h3,lr,if_pos h3];simp only [if_true,Bool.false_eq_true,if_false];rw [show a+aK t=a+1+ay t.kids by omega];exact this
 by_cases eA:t.n.kind=13
 ·have ZJ:=FT eA
  have hz:dI t=false:=by unfold dI;rw [eA];rfl
  have mQ:iP p q t=(q,true):=by unfold iP;rw [if_neg (by omega),if_neg (by omega),if_neg (by omega)]
  have lX:(gO p t.kids q).ls=q.ls:=Gd p t.kids ZJ q
  have rh:bP p t q.ls=if q.ls.contains t.n.s=true then 21 else if q.ls.length>=40 then 26 else 0:=by
   unfold bP;rw [if_pos eA]
  rw [vn,mQ];simp only [if_true]
  by_cases hc:q.ls.contains t.n.s=true
  ·refine bad _ (by rw [rh,if_pos hc];decide) ?_;rw [lr,if_neg (by simpa using eA),lX,if_pos hc];exact SS.oM _ (by decide) _
  by_cases h40:q.ls.length>=40
  ·refine bad _ (by rw [rh,if_neg hc,if_pos h40];decide) ?_;rw [lr,if_neg (by simpa using eA),lX,if_neg hc,if_pos (by omega)];exact SS.oM _ (by decide) _
  have h0:bP p t q.ls=0:=by rw [rh,if_neg hc,if_neg h40]
  have:=ih (a+1) ⟨0,pl,r.skip⟩ q rfl hq (by simp only;omega) hl;rw [lr,if_neg (by simpa using eA),lX,if_neg hc,if_neg (by omega),uZ,bY,h0,hz,if_pos eA];simp only [Bool.false_eq_true,if_false];rw [show a+aK t=a+1+ay t.kids by omega]
  rcases this with ⟨k1,k2,k3,k4,k5⟩ | ⟨k1,k2⟩
  ·refine .inl ⟨k1,k2,?_,k4,?_⟩
   ·show _++_=_++_;rw [k3,lX]
   ·show (q.ls++[t.n.s]).length<=40;rw [length_append,List.length_singleton];omega
  ·exact .inr ⟨k1,k2⟩
 by_cases h2:t.n.kind=2\/t.n.kind=7
 ·have hz:dI t=false:=by
   unfold dI;rw [show (t.n.kind==4)=false by simp;omega];rfl
  by_cases hc:q.ls.contains t.n.s=false/\p.globals.contains t.n.s=false
  ·refine bad _ (by unfold bP;rw [if_neg eA,if_pos h2,if_pos hc];decide) ?_
   have mQ:iP p q t=(q.fail 22 t.n.at_,true):=by unfold iP;rw [if_pos h2,if_pos hc]
   rw [vn,mQ];refine y7 ?_ t.n;simp only [if_true];exact vo p t.kids _ (SS.oM _ (by decide) _)
  ·exact go (by unfold bP;rw [if_neg eA,if_pos h2,if_neg hc]) hz eA (by unfold iP;rw [if_pos h2,if_neg hc])
 by_cases h3:t.n.kind=3\/t.n.kind=8
 ·have hz:dI t=false:=by
   unfold dI;rw [show (t.n.kind==4)=false by simp;omega];rfl
  by_cases hc:q.ls.contains t.n.s=true\/Ei p t.n.s < 0
  ·refine bad _ (by unfold bP;rw [if_neg eA,if_neg h2,if_pos h3,if_pos hc];decide) ?_
   have mQ:iP p q t=(q.fail 24 t.n.at_,true):=by unfold iP;rw [if_neg h2,if_pos h3,if_pos hc]
   rw [vn,mQ];refine y7 ?_ t.n;simp only [if_true];exact vo p t.kids _ (SS.oM _ (by decide) _)
  ·exact go (by unfold bP;rw [if_neg eA,if_neg h2,if_pos h3,if_neg hc]) hz eA (by unfold iP;rw [if_neg h2,if_pos h3,if_neg hc])
 by_cases h4:t.n.kind=4
 ·have rh:bP p t q.ls=eN p t q.ls:=by unfold bP;rw [if_neg eA,if_neg h2,if_neg h3,if_pos h4]
  have mQ:iP p q t=fg p q t:=by unfold iP;rw [if_neg h2,if_neg h3,if_pos h4]
  have fin:∀ x:SS × Bool,fg p q t=x->bP p t q.ls≠0->x.1.code≠0->Db (a+aK t) (ij (b8 p) t a r q.ls) (mC p t q):=fun x hx h1 h2=>by
   refine bad _ h1 ?_;rw [vn,mQ,hx];refine y7 ?_ t.n;split
   ·exact vo p t.kids _ h2
   ·exact h2
  have J6:dI t=((t.n.s==iu)&&(t.kids.length==1)):=by unfold dI;rw [h4];rfl
  have some_:∀ w:Nat,t.n.s≠iu->mA p t.n.s=(w:Int)->fg p q t=(et q t.n t.kids.length w,true)->Db (a+aK t) (ij (b8 p) t a r q.ls) (mC p t q):=fun w e1 e2 e3=>by
   have hz:dI t=false:=by rw [J6,show (t.n.s==iu)=false by simpa using e1];rfl
   have Du:eN p t q.ls=if (w:Int)=(t.kids.length:Int) then 0 else 23:=by
    unfold eN;rw [hz,if_neg (by decide),e2,if_neg (by omega)]
   by_cases hk:t.kids.length=w
   ·refine go (by rw [rh,Du,if_pos (by omega)]) hz eA ?_;rw [mQ,e3,et,if_neg (by simpa using hk)]
   ·refine fin _ e3 (by rw [rh,Du,if_neg (by omega)];decide) ?_;rw [et,if_pos hk];exact SS.oM _ (by decide) _
  by_cases hg:t.n.s=ov
  ·exact some_ 0 (by rw [hg];decide) (by unfold mA;rw [if_pos hg];rfl) (by unfold fg;rw [if_pos hg])
  by_cases hp:t.n.s=pG
  ·exact some_ 1 (by rw [hp];decide) (by unfold mA;rw [if_neg hg,if_pos (.inl hp)];rfl) (by unfold fg;rw [if_neg hg,if_pos hp])
  by_cases hz:t.n.s=iu
  ·have eV:fg p q t=(et (if t.kids.length=1/\fQ p (mT t) q.ls=true then q.fail 24 t.n.at_ else q) t.n t.kids.length 1,false):=by
    unfold fg;rw [if_neg hg,if_neg hp,if_pos hz]
   by_cases hk:t.kids.length=1
   ·have ff:dI t=true:=by rw [J6,hz,hk];rfl
    have Du:eN p t q.ls=if fQ p (mT t) q.ls=true then 24 else 0:=by unfold eN;rw [if_pos ff]
    by_cases hb:fQ p (mT t) q.ls=true
    ·refine fin _ eV (by rw [rh,Du,if_pos hb];decide) ?_;rw [if_pos ⟨hk,hb⟩,et,if_neg (by simpa using hk)];exact SS.oM _ (by decide) _
    ·have XS:fg p q t=(q,false):=by rw [eV,if_neg (fun h=>hb h.2),et,if_neg (by simpa using hk)]
     rw [vn,mQ,XS,lr,if_pos eA];simp only [Bool.false_eq_true,if_false]
     have h0:bP p t q.ls=0:=by rw [rh,Du,if_neg hb]
     obtain ⟨k,la⟩:∃ k,t.kids=[k]:=by
      match hl:t.kids,hk with
      | [k],_=>exact ⟨k,rfl⟩
     have zB:mT t=k.n:=by unfold mT;rw [la]
     have rb:k.n.kind=2:=by
      have:fQ p k.n q.ls=false:=by rw [<-zB];simpa using hb
      unfold fQ at this;simp only [Bool.or_eq_false_iff] at this;simpa using this.1.1
     have eH:k.kids=[]:=oc k (by rw [la];exact List.mem_singleton.2 rfl) rb
     have tW:aK k=1:=by rw [dZ,eH,ay]
     have Pa:∀ c:CS,((a+1:Nat):Int)=c.skip->b8 p c (a+1) k q.ls=c:=fun c hc=>by unfold b8;rw [if_pos (.inr hc)]
     rw [uZ,bY,h0,ff,if_neg eA,la,zB];simp only [if_true,dN];rw [uZ,eH];simp only [dN];rw [if_neg (by rw [rb];decide),Pa _ rfl,if_neg (by rw [rb];decide)];refine .inl ⟨rfl,hq,rfl,?_,hl⟩;rw [cI,la,ay,ay,tW];simp only;omega
   ·have vh:dI t=false:=by rw [J6,show (t.kids.length==1)=false by simpa using hk,Bool.and_false]
    refine fin _ eV ?_ ?_
    ·rw [rh];unfold eN;rw [vh,if_neg (by decide)]
     have:mA p t.n.s=1:=by unfold mA;rw [if_neg hg,if_pos (.inr hz)]
     rw [this,if_neg (by decide),if_neg (by omega)];decide
    ·rw [if_neg (fun h=>hk h.1),et,if_pos hk];exact SS.oM _ (by decide) _
  have dX:mA p t.n.s=match p.fns.findIdx? (fun f:Fn=>f.name==t.n.s) with | some i=>(lg p i:Int) | none => -1:=by
   unfold mA;rw [if_neg hg,if_neg (by rintro (h | h);(· exact hp h);exact hz h)]
  have eV:fg p q t=match p.fns.findIdx? (fun f:Fn=>f.name==t.n.s) with | none=>(q.fail 22 t.n.at_,false) | some i=>(et q t.n t.kids.length (lg p i),true):=by
   unfold fg;rw [if_neg hg,if_neg hp,if_neg hz]
  cases hf:p.fns.findIdx? (fun f:Fn=>f.name==t.n.s) with
  | some i =>
   rw [hf] at dX eV;exact some_ (lg p i) hz dX eV
  | none =>
   rw [hf] at dX eV;refine fin _ eV ?_ (SS.oM _ (by decide) _);rw [rh];unfold eN;rw [J6,show (t.n.s==iu)=false by simpa using hz,Bool.false_and,if_neg (by decide),dX];simp
 ·exact go (by unfold bP;rw [if_neg eA,if_neg h2,if_neg h3,if_neg h4]) (by unfold dI;rw [show (t.n.kind==4)=false by simpa using h4];rfl) eA
   (by unfold iP;rw [if_neg h2,if_neg h3,if_neg h4])
theorem G4:∀ {l:List T},dv l->∀ k∈l,gi k
 | [],_,k,hk=>by cases hk
 | t::r,h,k,hk=>by
  rw [dv] at h
  rcases List.mem_cons.1 hk with rfl | hk
  ·exact h.1
  ·exact G4 h.2 k hk
mutual
theorem U6 (p:Src):∀ (t:T),gi t->∀ (a:Nat) (r:CS) (q:SS),r.code=0->q.code=0->r.skip < (a:Int)->q.ls.length<=40->Db (a+aK t) (ij (b8 p) t a r q.ls) (mC p t q)
 | .mk n l,hw=>by
  rw [gi] at hw;refine PW p (.mk n l) hw.1 (fun k hk h2=>?_) (U5 p l hw.2.2);have:=G4 hw.2.2 k hk;obtain ⟨m,j⟩:=k;rw [gi] at this;exact this.2.1 h2
theorem U5 (p:Src):∀ (l:List T),dv l->∀ (a:Nat) (r:CS) (q:SS),r.code=0->q.code=0->r.skip < (a:Int)->q.ls.length<=40->Db (a+ay l) (dN (b8 p) l a r q.ls) (gO p l q)
 | [],_,a,r,q,hr,hq,hs,hl=>by rw [dN,gO,ay];exact .inl ⟨hr,hq,rfl,by simpa using hs,hl⟩
 | t::l,hw,a,r,q,hr,hq,hs,hl=>by
  rw [dv] at hw;rw [dN,gO,ay]
  rcases U6 p t hw.1 a r q hr hq hs hl with ⟨k1,k2,k3,k4,k5⟩ | ⟨k1,k2⟩
  ·rw [k3];have:=U5 p l hw.2 (a+aK t) _ _ k1 k2 k4 k5;rw [Nat.add_assoc] at this;exact this
  ·exact .inr ⟨by rw [u5 p l _ _ _ k1];exact k1,vo p l _ k2⟩
end
end Go.Im
namespace Go.Im
open Go.Xp Go.Sp
def fE (c k:Int):Int:=if c=0 then k else c
def lP (a:Ar):Bool:=decide (a.size < 1) || decide (a.size > 8000)
def jn (p:Src):Bool:=match p.fns.findIdx? (fun f:Fn=>f.name==vk) with | none=>true | some i=>decide (lg p i > 0)
def sw (p:Src):Bool:=(decide (p.fns.length > 40) || decide (p.globals.length > 29)) || decide (dx p.arrays > 8000)
def qB (p:Src) (c:Int):Int :=
 if p.arrays.any lP=true then fE c 26
 else if jn p=true then fE (if (p.fns.any fun f=>decide (f.params.length > 40))=true then fE (if sw p=true then fE c 26 else c) 26 else (if sw p=true then fE c 26 else c)) 25
 else if (p.fns.any fun f=>decide (f.params.length > 40))=true then fE (if sw p=true then fE c 26 else c) 26 else (if sw p=true then fE c 26 else c)
def pL (f:Fn) (c:SS):SS:=⟨f.params,if uz f.params=true then fE c.code 21 else c.code,if uz f.params=true/\c.code=0 then 0 else c.at_⟩
def mK (p:Src):List Fn->List T->SS->SS
 | f::r,t::l,c=>mK p r l (if c.code=0 then mC p t (pL f c) else c)
 | _,_,c=>c
def LK (p:Src) (l:List T):SS:=mK p p.fns l ⟨[],qB p (if dU (cw p)=true then 21 else 0),0⟩
theorem yH (p:Src):∀ (fs:List Fn) (l:List T) (c:SS),c.code≠0->(mK p fs l c).code≠0
 | f::r,t::l,c,h=>by rw [mK,if_neg h];exact yH p r l c h
 | [],_,c,h=>by rw [mK];(· exact h);intros;simp_all
 | f::r,[],c,h=>by rw [mK];(· exact h);intros;simp_all
theorem Tn (p:Src) (f:Fn) (t:T) (a:Nat) (c:SS) (hw:gi t) (hc:c.code=0) (hp:f.params.length<=40):(fa p f t a).1=0↔(mC p t (pL f c)).code=0:=by
 unfold fa
 by_cases hd:uz f.params=true
 ·rw [if_pos hd]
  have:(pL f c).code≠0:=by unfold pL;rw [if_pos hd];unfold fE;rw [if_pos hc];show (21:Int)≠0;decide
  have h2:=Rb p t _ this;constructor
  ·intro h;cases h
  ·intro h;exact absurd h h2
 ·rw [if_neg hd]
  have hq:(pL f c).code=0:=by unfold pL;rw [if_neg hd];exact hc
  have h1:=U6 p t hw a ⟨0,0,-1⟩ (pL f c) rfl hq (by show (-1:Int) < _;omega) hp;show (ij (b8 p) t a ⟨0,0,-1⟩ (pL f c).ls).1.code=0↔_
  rcases h1 with ⟨k1,k2,_⟩ | ⟨k1,k2⟩
  ·exact ⟨fun _=>k2,fun _=>k1⟩
  ·exact ⟨fun h=>absurd h k1,fun h=>absurd h k2⟩
theorem Is (p:Src):∀ (fs:List Fn) (l:List T) (a:Nat) (c:SS),c.code=0->(∀ t∈l,gi t)->(∀ f∈fs,f.params.length<=40)->((fb p fs l a).1=0↔(mK p fs l c).code=0)
 | f::r,t::l,a,c,hc,hw,hp=>by
  have h1:=Tn p f t a c (hw t mem_cons_self) hc (hp f mem_cons_self);rw [fb,mK,if_pos hc]
  by_cases h:(fa p f t a).1=0
  ·rw [if_neg (by simpa using h)];exact Is p r l _ _ (h1.1 h) (fun u hu=>hw u (mem_cons_of_mem _ hu)) (fun g hg=>hp g (mem_cons_of_mem _ hg))
  ·rw [if_pos h]
   have h2:(mC p t (pL f c)).code≠0:=fun e=>h (h1.2 e)
   exact ⟨fun e=>absurd e h,fun e=>absurd e (yH p r l _ h2)⟩
 | [],_,a,c,hc,_,_=>by rw [fb,mK];(· exact ⟨fun _=>hc,fun _=>rfl⟩);all_goals (intros;simp_all)
 | f::r,[],a,c,hc,_,_=>by rw [fb,mK];(· exact ⟨fun _=>hc,fun _=>rfl⟩);all_goals (intros;simp_all)
theorem cells_from (l:List Ar):∀ n:Int,l.foldl (fun n a=>n+a.size) n=n+dx l:=by
 induction l with
 | nil=>intro n;simp [dx]
 | cons a l ih =>
  intro n;unfold dx;rw [foldl_cons,foldl_cons,ih,ih (0+a.size)];omega
theorem JN (a:Ar) (l:List Ar):dx (a::l)=a.size+dx l:=by
 unfold dx;rw [foldl_cons,cells_from];unfold dx;omega
theorem OE {l:List Ar} (h:∀ a∈l,0<=a.size):0<=dx l/\∀ a∈l,a.size<=dx l:=by
 induction l with
 | nil=>exact ⟨by simp [dx],fun a h=>by cases h⟩
 | cons b l ih =>
  obtain ⟨h1,h2⟩:=ih fun a ha=>h a (mem_cons_of_mem _ ha)
  have hb:=h b mem_cons_self;rw [JN];refine ⟨by omega,fun a ha=>?_⟩
  rcases List.mem_cons.1 ha with rfl | ha
  ·omega
  ·have:=h2 a ha;omega
theorem Hm {l:List ah} (h:dU l=false) {i j:Nat} {s:ah} (hi:l[i]?=some s) (hj:l[j]?=some s):i=j:=by
 have key:∀ x y:Nat,x < y->l[x]?=some s->l[y]?=some s->False:=fun x y iD h1 h2=>by
  have hy:=(List.getElem?_eq_some_iff.1 h2).1;unfold dU at h;rw [any_eq_false] at h;have:=h y (List.mem_range.2 hy);unfold jS at this;rw [h2] at this;simp only [Bool.or_eq_true,not_or] at this;apply this.2;rw [contains_iff_mem];rw [List.mem_take_iff_getElem];have hx:=(List.getElem?_eq_some_iff.1 h1);exact ⟨x,by have:=hx.1;omega,hx.2⟩
 rcases Nat.lt_trichotomy i j with h1 | h1 | h1
 ·exact (key i j h1 hi hj).elim
 ·exact h1
 ·exact (key j i h1 hj hi).elim
theorem F8 {p:Src} (h:dU (cw p)=false):p.fns.any l0=true↔jn p=false:=by
 have wV:∀ (i:Nat) f,p.fns[i]?=some f->(cw p)[(p.globals++eF p).length+i]?=some f.name:=fun i f hf=>by
  unfold cw;rw [List.getElem?_append_right (by omega),Nat.add_sub_cancel_left,gX,List.getElem?_map,hf];rfl
 unfold jn
 cases hf:p.fns.findIdx? (fun f:Fn=>f.name==vk) with
 | none =>
  rw [List.findIdx?_eq_none_iff] at hf;constructor
  ·intro h1;obtain ⟨f,h2,h3⟩:=List.any_eq_true.1 h1;unfold l0 at h3;have:=hf f h2;rw [this] at h3;cases h3
  ·intro h1;cases h1
 | some i =>
  rw [List.findIdx?_eq_some_iff_getElem] at hf;obtain ⟨hi,h1,h2⟩:=hf
  have zy:p.fns[i]?=some p.fns[i]:=by simp [hi]
  simp only [lg,zy];constructor
  ·intro h3;obtain ⟨f,h4,h5⟩:=List.any_eq_true.1 h3;obtain ⟨j,hj⟩:=List.getElem?_of_mem h4;unfold l0 at h5;simp only [Bool.and_eq_true,beq_iff_eq] at h5 h1;have e1:=wV i _ zy;have e2:=wV j f hj;rw [h1] at e1;rw [h5.1] at e2;have:=Hm h e1 e2
   have:i=j:=by omega
   subst this;rw [hj] at zy;cases zy;simp [h5.2]
  ·intro h3;simp only [gt_iff_lt,decide_eq_false_iff_not,Nat.not_lt,Nat.le_zero] at h3;exact List.any_eq_true.2 ⟨p.fns[i],List.getElem_mem hi,by unfold l0;rw [h1,h3];rfl⟩
theorem SI {p:Src} (ha:∀ a∈p.arrays,0<=a.size):(fO p=false/\jn p=false)↔qB p 0=0:=by
 obtain ⟨py,hc⟩:=OE ha;have f26:fE 0 26=26:=rfl
 have f25:∀ c,c≠0->fE c 25=c:=fun c h=>by unfold fE;rw [if_neg h]
 have XC:∀ c,fE c 25≠0:=fun c=>by
  unfold fE;split
  ·decide
  ·assumption
 have XD:∀ c,fE c 26≠0:=fun c=>by
  unfold fE;split
  ·decide
  ·assumption
 unfold qB
 by_cases h1:p.arrays.any lP=true
 ·rw [if_pos h1,f26];refine ⟨fun h=>?_,fun h=>by cases h⟩;obtain ⟨a,h2,h3⟩:=List.any_eq_true.1 h1;have h4:=h.1;unfold fO at h4;simp only [Bool.or_eq_false_iff,decide_eq_false_iff_not] at h4;have h5:=List.any_eq_false.1 h4.1 a h2;have h6:=hc a h2;have h7:=ha a h2;unfold lP at h3;simp only [Bool.or_eq_true,decide_eq_true_eq] at h3;simp only [beq_iff_eq] at h5;have h8:=h4.2.1.2;omega
 rw [if_neg h1]
 have hz:p.arrays.any (fun a=>a.size==0)=false:=by
  rw [any_eq_false];intro a h2 h3;apply h1;refine List.any_eq_true.2 ⟨a,h2,?_⟩;unfold lP;simp only [beq_iff_eq] at h3;rw [h3];rfl
 have ZW:fO p=(sw p || p.fns.any fun f=>decide (f.params.length > 40)):=by
  unfold fO sw;rw [hz,Bool.false_or]
 rw [ZW]
 by_cases h2:jn p=true
 ·rw [if_pos h2];exact ⟨fun h=>(by rw [h2] at h;cases h.2),fun h=>absurd h (XC _)⟩
 rw [if_neg h2]
 have p7:jn p=false:=by simpa using h2
 by_cases h3:(p.fns.any fun f=>decide (f.params.length > 40))=true
 ·rw [if_pos h3,h3,Bool.or_true];exact ⟨fun h=>(by cases h.1),fun h=>absurd h (XD _)⟩
 rw [if_neg h3,show (p.fns.any fun f=>decide (f.params.length > 40))=false by simpa using h3,Bool.or_false]
 by_cases h4:sw p=true
 ·rw [if_pos h4,h4];exact ⟨fun h=>(by cases h.1),fun h=>(by cases h)⟩
 ·rw [if_neg h4];exact ⟨fun _=>rfl,fun _=>⟨by simpa using h4,p7⟩⟩
theorem Ta {p:Src} {l:List T} (ha:∀ a∈p.arrays,0<=a.size) (hw:∀ t∈l,gi t):(Bf p l).1=0↔(LK p l).code=0:=by
 have ne:qB p 21≠0:=by
  have f:∀ c k,c≠0->fE c k=c:=fun c k h=>by unfold fE;rw [if_neg h]
  unfold qB;simp only [f 21 26 (by decide),ite_self,f 21 25 (by decide)]
  decide
 unfold Bf LK
 by_cases h1:dU (cw p)=true
 ·rw [if_pos h1,if_pos h1];exact ⟨fun h=>(by cases h),fun h=>absurd h (yH p _ _ _ ne)⟩
 rw [if_neg h1,if_neg h1];have hs:=SI ha
 by_cases h2:qB p 0=0
 ·obtain ⟨h3,h4⟩:=hs.2 h2;rw [if_neg (by rw [h3];decide),if_neg (by rw [(F8 (by simpa using h1)).2 h4];decide),h2]
  refine Is p _ _ _ _ rfl hw fun f hf=>?_
  unfold fO at h3;simp only [Bool.or_eq_false_iff] at h3;have:=List.any_eq_false.1 h3.2.2 f hf;simpa using this
 ·refine ⟨fun h=>?_,fun h=>absurd h (yH p _ _ _ h2)⟩;exfalso;apply h2;apply hs.1
  by_cases h3:fO p=true
  ·rw [if_pos h3] at h;cases h
  ·rw [if_neg h3] at h
   by_cases h4:p.fns.any l0=false
   ·rw [if_pos h4] at h;cases h
   ·exact ⟨by simpa using h3,(F8 (by simpa using h1)).1 (by simpa using h4)⟩
end Go.Im
namespace Go.Im
open Go.Xp Go.Sp
mutual
def wO:T->List ah
 | .mk n l=>l9 l++(if n.kind=13 then [n.s] else [])
def l9:List T->List ah
 | []=>[]
 | t::r=>wO t++l9 r
end
theorem Qf (t:T):wO t=l9 t.kids++(if t.n.kind=13 then [t.n.s] else []):=by cases t;rw [wO];rfl
mutual
theorem Ik {σ:Type} (f:σ->Nat->T->List ah->σ):∀ (t:T) (a:Nat) (s:σ) (ls:List ah),(ij f t a s ls).2=ls++wO t
 | .mk n l,a,s,ls=>by
  rw [ij,wO];simp only;rw [ql f l];split
  ·rw [append_assoc]
  ·rw [append_nil]
theorem ql {σ:Type} (f:σ->Nat->T->List ah->σ):∀ (l:List T) (a:Nat) (s:σ) (ls:List ah),(dN f l a s ls).2=ls++l9 l
 | [],a,s,ls=>by rw [dN,l9,append_nil]
 | t::r,a,s,ls=>by rw [dN,ql f r,Ik f t,l9,append_assoc]
end
mutual
def I9 (p:Src):T->List ah->Prop
 | .mk n l,ls=>bP p (.mk n l) ls=0/\(dI (.mk n l)=false->KG p l ls)
def KG (p:Src):List T->List ah->Prop
 | [],_=>True
 | t::r,ls=>I9 p t ls/\KG p r (ls++wO t)
end
mutual
theorem Re (p:Src):∀ (t:T),gi t->∀ (a:Nat) (r:CS) (ls:List ah),r.code=0->r.skip < (a:Int)->(ij (b8 p) t a r ls).1.code=0->I9 p t ls/\(ij (b8 p) t a r ls).1.skip < ((a+aK t:Nat):Int)
 | .mk n l,hw,a,r,ls,hr,hs,hc=>by
  rw [gi] at hw
  have bK:¬ (r.code≠0\/(a:Int)=r.skip):=by
   rintro (h | h)
   ·exact h hr
   ·omega
  obtain ⟨pl,bY⟩:∃ pl,b8 p r a (.mk n l) ls=⟨bP p (.mk n l) ls,pl,if dI (.mk n l)=true then (if (mT (.mk n l)).kind≠2 then -1 else ((a+1:Nat):Int)) else r.skip⟩:=by
   unfold b8;rw [if_neg bK];exact ⟨_,rfl⟩
  rw [ij] at hc |-;simp only at hc |-;rw [bY] at hc |-
  have h0:bP p (.mk n l) ls=0:=by
   by_cases h0:bP p (.mk n l) ls=0
   ·exact h0
   ·rw [u5 p l _ _ _ h0] at hc;exact hc
  rw [h0] at hc |-
  by_cases hz:dI (.mk n l)=true
  ·have hk:l.length=1:=by
    unfold dI at hz;simp only [Bool.and_eq_true,beq_iff_eq] at hz;exact hz.2
   have h4:n.kind=4/\n.s=iu:=by
    unfold dI at hz;simp only [Bool.and_eq_true,beq_iff_eq] at hz;exact hz.1
   have hb:fQ p (mT (.mk n l)) ls=false:=by
    have e:bP p (.mk n l) ls=eN p (.mk n l) ls:=by
     unfold bP;rw [if_neg (by show ¬ n.kind=13;omega),if_neg (by show ¬ (n.kind=2\/n.kind=7);omega),if_neg (by show ¬ (n.kind=3\/n.kind=8);omega),if_pos (by show n.kind=4;omega)]
    rw [e] at h0;unfold eN at h0;rw [if_pos hz] at h0
    by_cases hb:fQ p (mT (.mk n l)) ls=true
    ·rw [if_pos hb] at h0;cases h0
    ·simpa using hb
   have rb:(mT (.mk n l)).kind=2:=by
    unfold fQ at hb;simp only [Bool.or_eq_false_iff] at hb;simpa using hb.1.1
   rw [if_pos hz,if_neg (by rw [rb];decide)] at hc |-
   match l,hk,hw with
   | [k],_,hw =>
    have XY:k.n.kind=2:=rb;rw [dv] at hw
    have eH:k.kids=[]:=by
     have:=hw.2.2.1;obtain ⟨m,j⟩:=k;rw [gi] at this;exact this.2.1 XY
    have tW:aK k=1:=by rw [dZ,eH,ay]
    refine ⟨by rw [I9];exact ⟨h0,fun h=>by rw [hz] at h;cases h⟩,?_⟩;simp only [dN];rw [uZ,eH];simp only [dN]
    have Pa:b8 p ⟨0,pl,((a+1:Nat):Int)⟩ (a+1) k ls=⟨0,pl,((a+1:Nat):Int)⟩:=by unfold b8;rw [if_pos (.inr rfl)]
    rw [Pa,aK,ay,ay,tW];simp only;omega
  ·have Xd:dI (.mk n l)=false:=by simpa using hz
   rw [if_neg hz] at hc |-;have h:=Nz p l hw.2.2 (a+1) ⟨0,pl,r.skip⟩ ls rfl (by simp only;omega) hc;refine ⟨by rw [I9];exact ⟨h0,fun _=>h.1⟩,?_⟩;rw [aK,show a+(ay l+1)=a+1+ay l by omega];exact h.2
theorem Nz (p:Src):∀ (l:List T),dv l->∀ (a:Nat) (r:CS) (ls:List ah),r.code=0->r.skip < (a:Int)->(dN (b8 p) l a r ls).1.code=0->KG p l ls/\(dN (b8 p) l a r ls).1.skip < ((a+ay l:Nat):Int)
 | [],_,a,r,ls,hr,hs,hc=>by rw [dN,ay];exact ⟨trivial,by simpa using hs⟩
 | t::l,hw,a,r,ls,hr,hs,hc=>by
  rw [dv] at hw;rw [dN] at hc |-
  have h1:(ij (b8 p) t a r ls).1.code=0:=by
   by_cases h1:(ij (b8 p) t a r ls).1.code=0
   ·exact h1
   ·rw [u5 p l _ _ _ h1] at hc;exact hc
  obtain ⟨h2,h3⟩:=Re p t hw.1 a r ls hr hs h1;obtain ⟨h4,h5⟩:=Nz p l hw.2 _ _ _ h1 h3 hc;rw [Ik] at h4;rw [KG,ay,<-Nat.add_assoc];exact ⟨⟨h2,h4⟩,h5⟩
end
mutual
def zT:T->Prop
 | .mk n l=>(n.kind≠1->n.n=0)/\gK l
def gK:List T->Prop
 | []=>True
 | t::r=>zT t/\gK r
end
mutual
theorem Vs:∀ t:T,zT (er t)↔zT t
 | .mk n l=>by rw [er,zT,zT,Rs l]
theorem Rs:∀ l:List T,gK (aI l)↔gK l
 | []=>by rw [aI]
 | t::r=>by rw [aI,gK,gK,Vs t,Rs r]
end
mutual
theorem E.z:∀ a:E,zT a.tree
 | .num n=>by rw [E.tree,zT];exact ⟨fun h=>absurd rfl h,trivial⟩
 | .name s=>by rw [E.tree,zT];exact ⟨fun _=>rfl,trivial⟩
 | .at_ s a=>by rw [E.tree,zT,gK,gK];exact ⟨fun _=>rfl,E.z a,trivial⟩
 | .call s l=>by rw [E.tree,zT];exact ⟨fun _=>rfl,E.zs l⟩
 | .un s a=>by rw [E.tree,zT,gK,gK];exact ⟨fun _=>rfl,E.z a,trivial⟩
 | .bin s a b=>by rw [E.tree,zT,gK,gK,gK];exact ⟨fun _=>rfl,E.z a,E.z b,trivial⟩
theorem E.zs:∀ l:List E,gK (E.trees l)
 | []=>trivial
 | a::l=>by rw [E.trees,gK];exact ⟨E.z a,E.zs l⟩
end
mutual
theorem S.z:∀ a:S,zT a.tree
 | .set s a=>by rw [S.tree,zT,gK,gK];exact ⟨fun _=>rfl,E.z a,trivial⟩
 | .put s a b=>by rw [S.tree,zT,gK,gK,gK];exact ⟨fun _=>rfl,E.z a,E.z b,trivial⟩
 | .if1 c b=>by rw [S.tree,zT,gK,gK,gK,zT];exact ⟨fun _=>rfl,E.z c,⟨fun _=>rfl,S.zs b⟩,trivial⟩
 | .if2 c b d=>by rw [S.tree,zT,gK,gK,gK,gK,zT,zT];exact ⟨fun _=>rfl,E.z c,⟨fun _=>rfl,S.zs b⟩,⟨fun _=>rfl,S.zs d⟩,trivial⟩
 | .while_ c b=>by rw [S.tree,zT,gK,gK,gK,zT];exact ⟨fun _=>rfl,E.z c,⟨fun _=>rfl,S.zs b⟩,trivial⟩
 | .ret a=>by rw [S.tree,zT,gK,gK];exact ⟨fun _=>rfl,E.z a,trivial⟩
 | .do_ a=>by rw [S.tree,zT,gK,gK];exact ⟨fun _=>rfl,E.z a,trivial⟩
 | .var s a=>by rw [S.tree,zT,gK,gK];exact ⟨fun _=>rfl,E.z a,trivial⟩
theorem S.zs:∀ l:List S,gK (S.trees l)
 | []=>trivial
 | a::l=>by rw [S.trees,gK];exact ⟨S.z a,S.zs l⟩
end
theorem WE (l:List S):zT (bA l):=by rw [bA,zT];exact ⟨fun _=>rfl,S.zs l⟩
section
variable (p:Src) (names:List ah) (name:ah)
end
end Go.Im
namespace Go.Im
open Go.Xp Go.Sp
theorem Forms.wf {l:List T} {ls:List (List S)} (h:Forms l ls) {i:Nat} {t:T} (ht:l[i]?=some t):gi t/\zT t:=by
 have hi:=(List.getElem?_eq_some_iff.1 ht).1;have hlen:=h.len;have hb:ls[i]?=some (ls[i]'(by omega)):=List.getElem?_eq_getElem _;obtain ⟨_,h2⟩:=h.at_ i t _ ht hb;exact ⟨(Rq t).1 (by rw [h2];exact Vm _),(Vs t).1 (by rw [h2];exact WE _)⟩
theorem Mh (p:Src):∀ (fs:List Fn) (l:List T) (a:Nat),(fb p fs l a).1=0->∀ (i:Nat) f t,fs[i]?=some f->l[i]?=some t->∃ b,(fa p f t b).1=0
 | f::r,t::l,a,h,0,g,u,h1,h2=>by
  cases h1;cases h2
  rw [fb] at h
  by_cases hc:(fa p f t a).1=0
  ·exact ⟨a,hc⟩
  ·rw [if_pos hc] at h;exact absurd h hc
 | f::r,t::l,a,h,i+1,g,u,h1,h2=>by
  rw [fb] at h
  by_cases hc:(fa p f t a).1=0
  ·rw [if_neg (by simpa using hc)] at h;exact Mh p r l _ h i g u (by simpa using h1) (by simpa using h2)
  ·rw [if_pos hc] at h;exact absurd h hc
 | [],_,a,h,i,g,u,h1,h2=>by simp at h1
 | f::r,[],a,h,i,g,u,h1,h2=>by simp at h2
structure Good (p:Src) (l:List T):Prop where
 st:fD p l
 test:fI p=true
 names:dU (cw p)=false
 len:p.fns.length=l.length
 at_:∀ (i:Nat) f t,p.fns[i]?=some f->l[i]?=some t->I9 p t f.params/\gi t/\zT t/\eh p.nodes f.body.toNat t/\0<=f.body
theorem r7 {p:Src} (h:eo p=true):∃ l,Good p l:=by
 unfold eo at h;rw [Bool.and_eq_true] at h;obtain ⟨hf,h⟩:=h;obtain ⟨l,hl⟩:=qZ hf;rw [hl.zj] at h;simp only [decide_eq_true_eq] at h;obtain ⟨ls,hm⟩:=hl.JX
 have hb:dU (cw p)=false:=by
  unfold Bf at h
  by_cases hb:dU (cw p)=true
  ·rw [if_pos hb] at h;cases h
  ·simpa using hb
 have fG:(fb p p.fns l 0).1=0:=by
  unfold Bf at h;rw [if_neg (by rw [hb];decide)] at h;split at h
  ·cases h
  split at h
  ·cases h
  ·exact h
 refine ⟨l,hl,hf,hb,fm.len hl.fns,fun i f t h1 h2=>?_⟩;obtain ⟨b,hc⟩:=Mh p _ _ _ fG i f t h1 h2;obtain ⟨w1,w2⟩:=hm.wf h2;unfold fa at hc
 have hd:¬ uz f.params=true:=fun hd=>by rw [if_pos hd] at hc;cases hc
 rw [if_neg hd] at hc;have hi:=(List.getElem?_eq_some_iff.1 h2).1;obtain ⟨h5,h6⟩:=fm.at_ hl.fns i f t h1 h2;have h7:=dm.ix l 0 i _ hl.st h2;rw [Nat.zero_add] at h5 h7;refine ⟨(Re p t w1 b ⟨0,0,-1⟩ f.params rfl (by show (-1:Int) < _;omega) hc).1,w1,w2,?_,by omega⟩;rw [h5,Int.toNat_natCast];exact h7
end Go.Im
namespace Go.Im
open Go.Xp Go.Sp
theorem EP {σ:Type} (f:σ->Nat->T->List ah->σ) (t:T):∀ (l:List T) (a:Nat) (s:σ) (ls:List ah),dN f (l++[t]) a s ls=ij f t (a+ay l) (dN f l a s ls).1 (dN f l a s ls).2
 | [],a,s,ls=>by rw [List.nil_append,dN,dN,dN,ay,Nat.add_zero]
 | u::l,a,s,ls=>by rw [List.cons_append,dN,EP f t l,dN,ay,Nat.add_assoc]
theorem ER {σ:Type} (f:σ->Nat->T->List ah->σ) {l:List T} {k:Nat} {t:T} (h:l[k]?=some t) (a:Nat) (s:σ) (ls:List ah) :
  dN f (l.take (k+1)) a s ls=ij f t (a+ay (l.take k)) (dN f (l.take k) a s ls).1 (dN f (l.take k) a s ls).2:=by
 have:l.take (k+1)=l.take k++[t]:=by rw [take_add_one,h];rfl
 rw [this,EP]
theorem x5:∀ {l:List T} {n k:Nat} {t:T},l[k]?=some t->(bO n l)[k]?=some (((n+ay (l.take k):Nat)):Int)
 | u::l,n,0,t,h=>by simp [bO,ay]
 | u::l,n,k+1,t,h=>by
  have:=x5 (l:=l) (n:=n+aK u) (k:=k) (t:=t) (by simpa using h);rw [bO,List.getElem?_cons_succ,this,List.take_succ_cons,ay,Nat.add_assoc]
 | [],n,k,t,h=>by simp at h
theorem tC {l:List T} {k:Nat} {t:T} (h:l[k]?=some t):ay (l.take k)+aK t<=ay l:=by
 have h1:l.take (k+1)=l.take k++[t]:=by rw [take_add_one,h];rfl
 have h2:ay l=ay (l.take (k+1))+ay (l.drop (k+1)):=by rw [<-mf,List.take_append_drop]
 rw [h1,mf,ay,ay] at h2;omega
theorem P4 {l:List T} {k:Nat} {t:T} (h:l[k]?=some t):ay (l.take (k+1))=ay (l.take k)+aK t:=by
 have h1:l.take (k+1)=l.take k++[t]:=by rw [take_add_one,h];rfl
 rw [h1,mf,ay,ay,Nat.add_zero]
theorem Qg:∀ (N:Nat) (t:T),aK t<=N->(wO t).length<=aK t:=by
 intro N
 induction N with
 | zero=>intro t h;have:=jU t;omega
 | succ N ih =>
  intro t h
  have key:∀ l:List T,ay l<=N->(l9 l).length<=ay l:=by
   intro l
   induction l with
   | nil=>intro _;simp [l9]
   | cons u l ih2 =>
    intro h;rw [ay] at h;have:=ih u (by omega);have:=ih2 (by omega);rw [l9,length_append,ay];omega
  rw [dZ] at h |-;have:=key t.kids (by omega);rw [Qf,length_append];split <;> simp <;> omega
theorem uq (l:List T):(l9 l).length<=ay l:=by
 induction l with
 | nil=>simp [l9]
 | cons u l ih =>
  have:=Qg _ u (Nat.le_refl _);rw [l9,length_append,ay];omega
end Go.Im
namespace Go.Im
open Go.Xp Go.Sp
theorem nr {α:Type} {f:α->Bool} {l:List α} {k:Nat} {x:α} (hk:l[k]?=some x) (h:f x=true) (aO:(l.take k).all (fun y=>!f y)=true):cH f l=(k:Int):=by
 have aq:k < l.length:=by
  rcases Nat.lt_or_ge k l.length with h1 | h1
  ·exact h1
  ·rw [List.getElem?_eq_none h1] at hk;cases hk
 have hx:l[k]=x:=by rw [List.getElem?_eq_getElem aq] at hk;exact Option.some.inj hk
 have:l.findIdx? f=some k:=by
  rw [List.findIdx?_eq_some_iff_getElem];refine ⟨aq,by rw [hx];exact h,fun j hj=>?_⟩;rw [all_eq_true] at aO;have:=aO l[j] (by rw [List.mem_take_iff_getElem];exact ⟨j,by omega,rfl⟩);simpa using this
 unfold cH;rw [this]
theorem kD {α:Type} {f:α->Bool} {l:List α} (aO:l.all (fun y=>!f y)=true):cH f l = -1:=by
 have:l.findIdx? f=none:=by
  rw [List.findIdx?_eq_none_iff];intro x hx;rw [all_eq_true] at aO;simpa using aO x hx
 unfold cH;rw [this]
theorem mH {α:Type} {f:α->Bool} {l:List α} {k:Nat} {x:α} (hk:l[k]?=some x):(l.take (k+1)).all (fun y=>!f y)=((l.take k).all (fun y=>!f y)&&!f x):=by
 rw [take_add_one,hk,List.all_append];simp
theorem Dn {α:Type} (f:α->Bool) (l:List α):decide ((0:Int)<=cH f l)=l.any f:=by
 cases h:l.any f with
 | false =>
  rw [kD (by rw [any_eq_false] at h;rw [all_eq_true];intro x hx;simpa using h x hx)];rfl
 | true =>
  unfold cH
  cases h2:l.findIdx? f with
  | some i=>simp
  | none =>
   rw [List.findIdx?_eq_none_iff] at h2;rw [any_eq_true] at h;obtain ⟨x,hx,h3⟩:=h;have:=h2 x hx;simp [h3] at this
end Go.Im
namespace Go.Im
open Go.Xp Go.Sp
def tQ (p:Src) (n:Nd):List Int:=if n.kind=4/\0<=nt p n.s then [nt p n.s] else []
mutual
def nX (p:Src):T->List Int
 | .mk n l=>tQ p n++gL p l
def gL (p:Src):List T->List Int
 | []=>[]
 | t::r=>nX p t++gL p r
end
theorem Tb (p:Src) (t:T):nX p t=tQ p t.n++gL p t.kids:=by cases t;rw [nX];rfl
def eZ (p:Src) (s:List Int) (_:Nat) (t:T) (_:List ah):List Int:=s++tQ p t.n
mutual
theorem Qy (p:Src):∀ (t:T) (a:Nat) (s:List Int) (ls:List ah),(ij (eZ p) t a s ls).1=s++nX p t
 | .mk n l,a,s,ls=>by
  rw [ij,nX];simp only;rw [ES p l];unfold eZ;show s++tQ p n++_=_;rw [append_assoc]
theorem ES (p:Src):∀ (l:List T) (a:Nat) (s:List Int) (ls:List ah),(dN (eZ p) l a s ls).1=s++gL p l
 | [],a,s,ls=>by rw [dN,gL,append_nil]
 | t::r,a,s,ls=>by rw [dN,ES p r,Qy p t,gL,append_assoc]
end
theorem Cu (p:Src) (n:Nd):(tQ p n).length<=1:=by unfold tQ;split <;> simp
theorem LO (p:Src):∀ (N:Nat) (t:T),aK t<=N->(nX p t).length<=aK t:=by
 intro N
 induction N with
 | zero=>intro t h;have:=jU t;omega
 | succ N ih =>
  intro t h
  have key:∀ l:List T,ay l<=N->(gL p l).length<=ay l:=by
   intro l
   induction l with
   | nil=>intro _;simp [gL]
   | cons u l ih2 =>
    intro h;rw [ay] at h;have:=ih u (by omega);have:=ih2 (by omega);rw [gL,length_append,ay];omega
  rw [dZ] at h |-;have:=key t.kids (by omega);have:=Cu p t.n;rw [Tb,length_append];omega
theorem EL (p:Src) (l:List T):(gL p l).length<=ay l:=by
 induction l with
 | nil=>simp [gL]
 | cons u l ih =>
  have:=LO p _ u (Nat.le_refl _);rw [gL,length_append,ay];omega
theorem LM (p:Src) {l:List T} {k:Nat} {t:T} (h:l[k]?=some t):gL p (l.take (k+1))=gL p (l.take k)++nX p t:=by
 have h1:l.take (k+1)=l.take k++[t]:=by rw [take_add_one,h];rfl
 have:∀ a b:List T,gL p (a++b)=gL p a++gL p b:=by
  intro a b
  induction a with
  | nil=>simp [gL]
  | cons u a ih=>simp [gL,ih]
 rw [h1,this];simp [gL]
theorem OT (p:Src) (s:ah):nt p s < (p.fns.length:Int):=by
 unfold nt cH
 cases h:p.fns.findIdx? (fun f:Fn=>f.name==s) with
 | none=>simp only;omega
 | some i =>
  rw [List.findIdx?_eq_some_iff_getElem] at h;obtain ⟨h,_⟩:=h;simp only;omega
theorem RF (p:Src) (n:Nd):∀ x∈tQ p n,0<=x/\x < (p.fns.length:Int):=by
 intro x hx;unfold tQ at hx;split at hx
 ·rename_i h;rw [mem_singleton] at hx;subst hx;exact ⟨h.2,OT p _⟩
 ·simp at hx
mutual
theorem LP (p:Src):∀ (t:T),∀ x∈nX p t,0<=x/\x < (p.fns.length:Int)
 | .mk n l,x,hx=>by
  rw [nX,List.mem_append] at hx
  rcases hx with h | h
  ·exact RF p n x h
  ·exact H5 p l x h
theorem H5 (p:Src):∀ (l:List T),∀ x∈gL p l,0<=x/\x < (p.fns.length:Int)
 | [],x,hx=>by simp [gL] at hx
 | t::r,x,hx=>by
  rw [gL,List.mem_append] at hx
  rcases hx with h | h
  ·exact LP p t x h
  ·exact H5 p r x h
end
def gm (l:List Int):Prop:=l.Pairwise (· < ·)
theorem BW:∀ {a b:List Int},gm a->gm b->(∀ x,x∈a↔x∈b)->a=b
 | [],[],_,_,_=>rfl
 | [],y::b,_,_,h=>by have:=(h y).2 (by simp);simp at this
 | x::a,[],_,_,h=>by have:=(h x).1 (by simp);simp at this
 | x::a,y::b,ha,hb,h=>by
  unfold gm at ha hb;rw [pairwise_cons] at ha hb
  have iD:x=y:=by
   have h1:=(h x).1 (by simp);have h2:=(h y).2 (by simp)
   rcases List.mem_cons.1 h1 with h1 | h1
   ·exact h1
   rcases List.mem_cons.1 h2 with h2 | h2
   ·exact h2.symm
   have:=hb.1 x h1;have:=ha.1 y h2;omega
  subst iD
  have:a=b:=BW ha.2 hb.2 fun z=>by
   constructor
   ·intro hz;have:=(h z).1 (mem_cons_of_mem _ hz)
    rcases List.mem_cons.1 this with e | e
    ·have:=ha.1 z hz;omega
    ·exact e
   ·intro hz;have:=(h z).2 (mem_cons_of_mem _ hz)
    rcases List.mem_cons.1 this with e | e
    ·have:=hb.1 z hz;omega
    ·exact e
  rw [this]
def qt (n:Int):List Int->List Int
 | []=>[n]
 | x::r=>if n < x then n::x::r else x::qt n r
def gZ (l:List Int) (n:Int):List Int:=if l.contains n=true then l else qt n l
theorem AQ {n:Int}:∀ {l:List Int} {x:Int},x∈qt n l↔x=n\/x∈l
 | [],x=>by simp [qt]
 | y::r,x=>by
  rw [qt];split
  ·simp
  ·rw [List.mem_cons,AQ,List.mem_cons];constructor
   ·rintro (h | h | h)
    ·exact .inr (.inl h)
    ·exact .inl h
    ·exact .inr (.inr h)
   ·rintro (h | h | h)
    ·exact .inr (.inl h)
    ·exact .inl h
    ·exact .inr (.inr h)
theorem zG {n:Int}:∀ {l:List Int},gm l->n ∉ l->gm (qt n l)
 | [],_,_=>by simp [qt,gm]
 | y::r,h,hn=>by
  unfold gm at h |-;rw [pairwise_cons] at h;rw [qt];rw [List.mem_cons,not_or] at hn;split
  ·rename_i aq;rw [pairwise_cons,pairwise_cons];refine ⟨fun z hz=>?_,h.1,h.2⟩
   rcases List.mem_cons.1 hz with e | e
   ·omega
   ·have:=h.1 z e;omega
  ·rename_i aq;rw [pairwise_cons];refine ⟨fun z hz=>?_,zG h.2 hn.2⟩
   rcases AQ.1 hz with e | e
   ·have:=hn.1;omega
   ·exact h.1 z e
theorem Gl {l:List Int} {n x:Int}:x∈gZ l n↔x=n\/x∈l:=by
 unfold gZ;split
 ·rename_i h;have:=List.contains_iff_mem.1 h;constructor
  ·exact .inr
  ·rintro (rfl | h)
   ·exact this
   ·exact h
 ·exact AQ
theorem HJ {l:List Int} {n:Int} (h:gm l):gm (gZ l n):=by
 unfold gZ;split
 ·exact h
 ·rename_i hc
  exact zG h fun e=>hc (List.contains_iff_mem.2 e)
theorem AP {n:Int}:∀ {l:List Int},(qt n l).length=l.length+1
 | []=>rfl
 | y::r=>by
  rw [qt];split
  ·simp
  ·rw [length_cons,AP,length_cons]
theorem PI {l:List Int} {n:Int}:(gZ l n).length<=l.length+1:=by
 unfold gZ;split
 ·omega
 ·rw [AP];omega
def nR (n:Int) (st:List Int × Bool) (x:Int):List Int × Bool:=if (!st.2&&decide (n < x))=true then (st.1++[n]++[x],true) else (st.1++[x],st.2)
def iQ (l:List Int) (n:Int) (k:Nat):List Int × Bool:=(l.take k).foldl (nR n) ([],false)
theorem DV {l:List Int} {n:Int} {k:Nat} {x:Int} (h:l[k]?=some x):iQ l n (k+1)=nR n (iQ l n k) x:=by
 unfold iQ;rw [take_add_one,h,List.foldl_append];rfl
theorem Dp (n:Int):∀ (l acc:List Int),l.foldl (nR n) (acc,true)=(acc++l,true)
 | [],acc=>by simp
 | x::r,acc=>by
  rw [foldl_cons,show nR n (acc,true) x=(acc++[x],true) by simp [nR],Dp n r];simp
theorem Fe (n:Int):∀ (l acc:List Int),(if (l.foldl (nR n) (acc,false)).2=true then (l.foldl (nR n) (acc,false)).1 else (l.foldl (nR n) (acc,false)).1++[n])=acc++qt n l
 | [],acc=>by simp [qt]
 | x::r,acc=>by
  rw [foldl_cons,qt]
  by_cases h:n < x
  ·rw [show nR n (acc,false) x=(acc++[n]++[x],true) by simp [nR,h],Dp,if_pos h];simp
  ·rw [show nR n (acc,false) x=(acc++[x],false) by simp [nR,h],if_neg h,Fe n r];simp
theorem PJ (l:List Int) (n:Int) (h:l.contains n=false):(if (iQ l n l.length).2=true then (iQ l n l.length).1 else (iQ l n l.length).1++[n])=gZ l n:=by
 unfold iQ gZ;rw [List.take_length,Fe,if_neg (by rw [h];decide)];rfl
theorem Gm (l:List Int) (n:Int) (k:Nat):(iQ l n k).1.length<=k+1/\((iQ l n k).2=false->(iQ l n k).1.length<=k):=by
 induction k with
 | zero=>simp [iQ]
 | succ k ih =>
  rcases Nat.lt_or_ge k l.length with h | h
  ·rw [DV (List.getElem?_eq_getElem h)];unfold nR;split
   ·rename_i hc;rw [Bool.and_eq_true] at hc;have:=ih.2 (by simpa using hc.1);refine ⟨by simp;omega,fun h=>by cases h⟩
   ·refine ⟨by simp;exact ih.1,fun h2=>?_⟩;have:=ih.2 h2;simp;omega
  ·have:iQ l n (k+1)=iQ l n k:=by unfold iQ;rw [List.take_of_length_le (by omega),List.take_of_length_le (by omega)]
   rw [this];exact ⟨by omega,fun h2=>by have:=ih.2 h2;omega⟩
def og (l:List Int):List Int:=l.foldl gZ []
theorem yh:∀ (l acc:List Int),gm acc->gm (l.foldl gZ acc)/\∀ x,x∈l.foldl gZ acc↔x∈acc\/x∈l
 | [],acc,h=>⟨h,fun x=>by simp⟩
 | y::r,acc,h=>by
  obtain ⟨h1,h2⟩:=yh r (gZ acc y) (HJ h);refine ⟨h1,fun x=>?_⟩;rw [foldl_cons,h2,Gl,List.mem_cons];constructor
  ·rintro ((h | h) | h)
   ·exact .inr (.inl h)
   ·exact .inl h
   ·exact .inr (.inr h)
  ·rintro (h | h | h)
   ·exact .inl (.inr h)
   ·exact .inl (.inl h)
   ·exact .inr h
theorem rF (l:List Int):gm (og l):=(yh l [] List.Pairwise.nil).1
theorem wH {l:List Int} {x:Int}:x∈og l↔x∈l:=by
 have:=(yh l [] List.Pairwise.nil).2 x;unfold og;rw [this];simp
theorem wI:∀ {l:List Int} {a b:Int},gm l->(∀ x∈l,a<=x/\x < b)->a<=b->(l.length:Int)<=b - a
 | [],a,b,_,_,h=>by simp;omega
 | x::r,a,b,h,hb,QJ=>by
  unfold gm at h;rw [pairwise_cons] at h;have hx:=hb x (by simp);have:=wI (l:=r) (a:=x+1) (b:=b) h.2 (fun y hy=>by have:=h.1 y hy;have:=hb y (mem_cons_of_mem _ hy);omega) (by omega);rw [length_cons];omega
theorem Ny {l:List Int} {n:Nat} (h:l.Nodup) (hb:∀ x∈l,0<=x/\x < (n:Int)):l.length<=n:=by
 have h1:(og l).length=l.length:=by
  have key:∀ (l acc:List Int),l.Nodup->(∀ x∈l,x ∉ acc)->(l.foldl gZ acc).length=acc.length+l.length:=by
   intro l
   induction l with
   | nil=>intro acc _ _;simp
   | cons y r ih =>
    intro acc h1 h2;rw [List.nodup_cons] at h1
    have hy:acc.contains y=false:=by
     cases hc:acc.contains y with
     | false=>rfl
     | true=>exact absurd (List.contains_iff_mem.1 hc) (h2 y (by simp))
    rw [foldl_cons,ih _ h1.2 fun x hx hm=>?_]
    ·unfold gZ;rw [if_neg (by rw [hy];decide),AP,length_cons];omega
    ·rcases Gl.1 hm with e | e
     ·subst e;exact h1.1 hx
     ·exact h2 x (mem_cons_of_mem _ hx) e
  have:=key l [] h (by simp);unfold og;rw [this];simp
 have h2:=wI (rF l) (a:=0) (b:=n) (fun x hx=>hb x (wH.1 hx)) (by omega);omega
def aX (p:Src) (t:T):List Int:=og (nX p t)
theorem qi (p:Src) (t:T):gm (aX p t):=rF _
theorem jg (p:Src) (t:T):∀ x∈aX p t,0<=x/\x < (p.fns.length:Int):=fun x hx=>LP p t x (wH.1 hx)
theorem kx (p:Src) (t:T):(aX p t).length<=p.fns.length:=by
 have:=wI (qi p t) (a:=0) (b:=p.fns.length) (jg p t) (by omega);omega
theorem yi {l:List Int} (h:gm l):l.Nodup:=by
 unfold gm at h;exact h.imp (fun {a b} QJ=>by omega)
def dk (l ks:List Int):List Int:=ks.foldl (fun l k=>if l.contains k=true then l else l++[k]) l
theorem Dc (l:List Int) (ks:List Int) (k:Nat) (x:Int) (h:ks[k]?=some x):dk l (ks.take (k+1))=if (dk l (ks.take k)).contains x=true then dk l (ks.take k) else dk l (ks.take k)++[x]:=by
 unfold dk;rw [take_add_one,h,List.foldl_append];rfl
theorem EC:∀ {ks l:List Int} {x:Int},x∈dk l ks↔x∈l\/x∈ks
 | [],l,x=>by simp [dk]
 | k::r,l,x=>by
  have:=@EC r (if l.contains k=true then l else l++[k]) x;unfold dk at this |-;rw [foldl_cons,this,List.mem_cons];split
  ·rename_i hc;have:=List.contains_iff_mem.1 hc;constructor
   ·rintro (h | h)
    ·exact .inl h
    ·exact .inr (.inr h)
   ·rintro (h | h | h)
    ·exact .inl h
    ·subst h;exact .inl this
    ·exact .inr h
  ·rw [List.mem_append,mem_singleton,or_assoc]
theorem Bd:∀ {ks l:List Int},l.Nodup->(dk l ks).Nodup
 | [],l,h=>h
 | k::r,l,h=>by
  have hn:(if l.contains k=true then l else l++[k]).Nodup:=by
   split
   ·exact h
   ·rename_i hc;rw [List.nodup_append];refine ⟨h,by simp,fun a ha b hb e=>?_⟩;rw [mem_singleton] at hb;subst e;subst hb;exact hc (List.contains_iff_mem.2 ha)
  exact Bd (ks:=r) hn
theorem zY:∀ (ks l:List Int),∃ m,dk l ks=l++m
 | [],l=>⟨[],by simp [dk]⟩
 | k::r,l=>by
  have e:dk l (k::r)=dk (if l.contains k=true then l else l++[k]) r:=rfl;rw [e];obtain ⟨m,hm⟩:=zY r (if l.contains k=true then l else l++[k]);rw [hm];split
  ·exact ⟨m,rfl⟩
  ·exact ⟨[k]++m,by simp⟩
def uQ (cs:Int->List Int):Nat->Nat->List Int->List Int
 | 0,_,l=>l
 | f+1,i,l=>match l[i]? with | none=>l | some x=>uQ cs f (i+1) (dk l (cs x))
end Go.Im
