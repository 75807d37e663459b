/- Part 3 of proofs that are told in their last texts. -/
import Derived.Test.YtbfmholmeiegoaaGreatDoorY2
open List (any_eq_false findIdx?_eq_none_iff foldl_cons mem_cons_self take_succ_cons take_zero)
set_option linter.unusedVariables false
set_option linter.unusedSimpArgs false
set_option maxRecDepth 100000
namespace Go.Im
open Go.Xp Go.Sp
def qx:ae:=[103,101,116]
def rA:ae:=[112,117,116]
def iu:ae:=[115,105,122,101]
def w8:ae:=[109,97,105,110]
def gE (s:ae):Bool:=(s==qx || s==rA) || s==iu
def dA {α:Type} (f:α->Bool) (l:List α):Int:=match l.findIdx? f with | some i=>(i:Int) | none => -1
def LU (p:Src) (s:ae):Int:=dA (fun f:Fn=>f.name==s) p.fns
def vq (p:Src) (s:ae):Int:=dA (fun a:Ar=>a.name==s) p.arrays
def eD (p:Src):List ae:=p.arrays.map fun a:Ar=>a.name
def ik (p:Src):List ae:=p.fns.map fun f:Fn=>f.name
def bQ (p:Src):List ae:=(p.globals++eD p)++ik p
def nK (t:T):Nd:=match t.kids with | k::_=>k.n | []=>⟨0,0,0,[],[]⟩
def dn (t:T):Bool:=(t.n.kind==4&&t.n.s==iu)&&(t.kids.length==1)
def nc (p:Src) (i:Nat):Nat:=match p.fns[i]? with | some f=>f.params.length | none=>0
def mN (p:Src) (s:ae):Int:=if s=qx then 0 else if s=rA\/s=iu then 1 else match p.fns.findIdx? (fun f:Fn=>f.name==s) with | some i=>(nc p i:Int) | none => -1
def fZ (p:Src) (k:Nd) (ls:List ae):Bool:=(k.kind != 2 || decide (vq p k.s < 0)) || ls.contains k.s
def eG (p:Src) (t:T) (ls:List ae):Int :=
 if dn t=true then (if fZ p (nK t) ls=true then 24 else 0)
 else if mN p t.n.s = -1 then 22 else if mN p t.n.s=(t.kids.length:Int) then 0 else 23
def bY (p:Src) (t:T) (ls:List ae):Int :=
 if t.n.kind=13 then (if ls.contains t.n.s=true then 21 else if ls.length>=40 then 26 else 0)
 else if t.n.kind=2\/t.n.kind=7 then (if ls.contains t.n.s=false/\p.globals.contains t.n.s=false then 22 else 0)
 else if t.n.kind=3\/t.n.kind=8 then (if ls.contains t.n.s=true\/vq p t.n.s < 0 then 24 else 0)
 else if t.n.kind=4 then eG p t ls
 else 0
structure CS where
 code:Int
 place:Int
 skip:Int
def c7 (p:Src) (c:CS) (a:Nat) (t:T) (ls:List ae):CS :=
 if c.code≠0\/(a:Int)=c.skip then c
 else ⟨bY p t ls,if bY p t ls≠0 then t.n.at_ else c.place,if dn t=true then (if (nK t).kind≠2 then -1 else ((a+1:Nat):Int)) else c.skip⟩
mutual
def gW {σ:Type} (f:σ->Nat->T->List ae->σ):T->Nat->σ->List ae->σ × List ae
 | .mk n l,a,s,ls=>((dD f l (a+1) (f s a (.mk n l) ls) ls).1,if n.kind=13 then (dD f l (a+1) (f s a (.mk n l) ls) ls).2++[n.s] else (dD f l (a+1) (f s a (.mk n l) ls) ls).2)
def dD {σ:Type} (f:σ->Nat->T->List ae->σ):List T->Nat->σ->List ae->σ × List ae
 | [],_,s,ls=>(s,ls)
 | t::r,a,s,ls=>dD f r (a+aK t) (gW f t a s ls).1 (gW f t a s ls).2
end
theorem wK {σ:Type} (f:σ->Nat->T->List ae->σ) (t:T) (a:Nat) (s:σ) (ls:List ae) :
  gW f t a s ls=((dD f t.kids (a+1) (f s a t ls) ls).1,if t.n.kind=13 then (dD f t.kids (a+1) (f s a t ls) ls).2++[t.n.s] else (dD f t.kids (a+1) (f s a t ls) ls).2):=by
 cases t;rw [gW];rfl
def pC (l:List ae) (k:Nat):Bool:=match l[k]? with | some s=>(l.take k).contains s | none=>false
def wc (l:List ae):Bool:=(List.range l.length).any (pC l)
def gA (p:Src) (f:Fn) (t:T) (a:Nat):Int × Int :=
 if wc f.params=true then (21,0) else ((gW (c7 p) t a ⟨0,0,-1⟩ f.params).1.code,(gW (c7 p) t a ⟨0,0,-1⟩ f.params).1.place)
def lR (l:List ae) (k:Nat):Bool:=match l[k]? with | some s=>gE s || (l.take k).contains s | none=>false
def ff (l:List ae):Bool:=(List.range l.length).any (lR l)
def eH (l:List Ar):Int:=l.foldl (fun n a=>n+a.size) 0
def jQ (p:Src):Bool:=p.arrays.any (fun a=>a.size==0) || ((((decide (p.fns.length > 40) || decide (p.globals.length > 29)) || decide (eH p.arrays > 8000))) || p.fns.any fun f=>decide (f.params.length > 40))
def oc (f:Fn):Bool:=f.name==w8&&f.params.length==0
def gB (p:Src):List Fn->List T->Nat->Int × Int
 | f::r,t::l,a=>if (gA p f t a).1≠0 then gA p f t a else gB p r l (a+aK t)
 | _,_,_=>(0,0)
def ES (p:Src) (l:List T):Int × Int :=
 if ff (bQ p)=true then (21,0) else if jQ p=true then (26,0) else if p.fns.any oc=false then (25,0) else gB p p.fns l 0
def lC (p:Src):Bool:=fI p&&(match kB p.nodes p.fns 0 [] with | some (l,_)=>decide ((ES p l).1=0) | none=>false)
structure SS where
 ls:List ae
 code:Int
 at_:Int
def SS.fail (c:SS) (k a:Int):SS:=if c.code=0 then ⟨c.ls,k,a⟩ else c
def fF (c:SS) (n:Nd) (k want:Nat):SS:=if k≠want then c.fail 23 n.at_ else c
def gO (p:Src) (c:SS) (t:T):SS × Bool :=
 if t.n.s=qx then (fF c t.n t.kids.length 0,true)
 else if t.n.s=rA then (fF c t.n t.kids.length 1,true)
 else if t.n.s=iu then (fF (if t.kids.length=1/\fZ p (nK t) c.ls=true then c.fail 24 t.n.at_ else c) t.n t.kids.length 1,false)
 else match p.fns.findIdx? (fun f:Fn=>f.name==t.n.s) with
  | none=>(c.fail 22 t.n.at_,false)
  | some i=>(fF c t.n t.kids.length (nc p i),true)
def kG (p:Src) (c:SS) (t:T):SS × Bool :=
 if t.n.kind=2\/t.n.kind=7 then (if c.ls.contains t.n.s=false/\p.globals.contains t.n.s=false then c.fail 22 t.n.at_ else c,true)
 else if t.n.kind=3\/t.n.kind=8 then (if c.ls.contains t.n.s=true\/vq p t.n.s < 0 then c.fail 24 t.n.at_ else c,true)
 else if t.n.kind=4 then gO p c t
 else (c,true)
def nt (c:SS) (n:Nd):SS :=
 if n.kind≠13 then c
 else if c.ls.contains n.s=true then ⟨(c.fail 21 n.at_).ls++[n.s],(c.fail 21 n.at_).code,(c.fail 21 n.at_).at_⟩
 else if c.ls.length=40 then ⟨(c.fail 26 n.at_).ls++[n.s],(c.fail 26 n.at_).code,(c.fail 26 n.at_).at_⟩
 else ⟨c.ls++[n.s],c.code,c.at_⟩
mutual
def oJ (p:Src):T->SS->SS
 | .mk n l,c=>nt (if (kG p c (.mk n l)).2=true then jC p l (kG p c (.mk n l)).1 else (kG p c (.mk n l)).1) n
def jC (p:Src):List T->SS->SS
 | [],c=>c
 | t::r,c=>jC p r (oJ p t c)
end
theorem xf (p:Src) (t:T) (c:SS):oJ p t c=nt (if (kG p c t).2=true then jC p t.kids (kG p c t).1 else (kG p c t).1) t.n:=by cases t;rw [oJ];rfl
mutual
def sf:T->Prop
 | .mk n l=>n.kind≠13/\kF l
def kF:List T->Prop
 | []=>True
 | t::r=>sf t/\kF r
end
mutual
def gJ:T->Prop
 | .mk n l=>(n.kind=13->kF l)/\(n.kind=2->l=[])/\dS l
def dS:List T->Prop
 | []=>True
 | t::r=>gJ t/\dS r
end
mutual
theorem ZP:∀ t:T,sf (er t)↔sf t
 | .mk n l=>by rw [er,sf,sf,HY l]
theorem HY:∀ l:List T,kF (aV l)↔kF l
 | []=>by rw [aV]
 | t::r=>by rw [aV,kF,kF,ZP t,HY r]
end
theorem UL {l:List T}:aV l=[]↔l=[]:=by
 cases l with
 | nil=>rw [aV]
 | cons t r=>rw [aV];simp
mutual
theorem Uo:∀ t:T,gJ (er t)↔gJ t
 | .mk n l=>by rw [er,gJ,gJ,HY l,QE l,UL]
theorem QE:∀ l:List T,dS (aV l)↔dS l
 | []=>by rw [aV]
 | t::r=>by rw [aV,dS,dS,Uo t,QE r]
end
mutual
theorem E.nv:∀ a:E,sf a.tree
 | .num n=>by rw [E.tree,sf];exact ⟨by simp,trivial⟩
 | .name s=>by rw [E.tree,sf];exact ⟨by simp,trivial⟩
 | .at_ s a=>by rw [E.tree,sf,kF,kF];exact ⟨by simp,E.nv a,trivial⟩
 | .call s l=>by rw [E.tree,sf];exact ⟨by simp,E.nvs l⟩
 | .un s a=>by rw [E.tree,sf,kF,kF];exact ⟨by simp,E.nv a,trivial⟩
 | .bin s a b=>by rw [E.tree,sf,kF,kF,kF];exact ⟨by simp,E.nv a,E.nv b,trivial⟩
theorem E.nvs:∀ l:List E,kF (E.trees l)
 | []=>trivial
 | a::l=>by rw [E.trees,kF];exact ⟨E.nv a,E.nvs l⟩
end
mutual
theorem E.wf:∀ a:E,gJ a.tree
 | .num n=>by rw [E.tree,gJ];exact ⟨fun h=>absurd h (by simp),fun _=>rfl,trivial⟩
 | .name s=>by rw [E.tree,gJ];exact ⟨fun h=>absurd h (by simp),fun _=>rfl,trivial⟩
 | .at_ s a=>by rw [E.tree,gJ,dS,dS];exact ⟨fun h=>absurd h (by simp),fun h=>absurd h (by simp),E.wf a,trivial⟩
 | .call s l=>by rw [E.tree,gJ];exact ⟨fun h=>absurd h (by simp),fun h=>absurd h (by simp),E.DJ l⟩
 | .un s a=>by rw [E.tree,gJ,dS,dS];exact ⟨fun h=>absurd h (by simp),fun h=>absurd h (by simp),E.wf a,trivial⟩
 | .bin s a b=>by rw [E.tree,gJ,dS,dS,dS];exact ⟨fun h=>absurd h (by simp),fun h=>absurd h (by simp),E.wf a,E.wf b,trivial⟩
theorem E.DJ:∀ l:List E,dS (E.trees l)
 | []=>trivial
 | a::l=>by rw [E.trees,dS];exact ⟨E.wf a,E.DJ l⟩
end
mutual
theorem S.wf:∀ a:S,gJ a.tree
 | .set s a=>by rw [S.tree,gJ,dS,dS];exact ⟨fun h=>absurd h (by simp),fun h=>absurd h (by simp),E.wf a,trivial⟩
 | .put s a b=>by rw [S.tree,gJ,dS,dS,dS];exact ⟨fun h=>absurd h (by simp),fun h=>absurd h (by simp),E.wf a,E.wf b,trivial⟩
 | .if1 c b=>by rw [S.tree,gJ,dS,dS,dS,gJ];exact ⟨fun h=>absurd h (by simp),fun h=>absurd h (by simp),E.wf c,⟨fun h=>absurd h (by simp),fun h=>absurd h (by simp),S.DJ b⟩,trivial⟩
 | .if2 c b d=>by rw [S.tree,gJ,dS,dS,dS,dS,gJ,gJ];exact ⟨fun h=>absurd h (by simp),fun h=>absurd h (by simp),E.wf c,⟨fun h=>absurd h (by simp),fun h=>absurd h (by simp),S.DJ b⟩,⟨fun h=>absurd h (by simp),fun h=>absurd h (by simp),S.DJ d⟩,trivial⟩
 | .while_ c b=>by rw [S.tree,gJ,dS,dS,dS,gJ];exact ⟨fun h=>absurd h (by simp),fun h=>absurd h (by simp),E.wf c,⟨fun h=>absurd h (by simp),fun h=>absurd h (by simp),S.DJ b⟩,trivial⟩
 | .ret a=>by rw [S.tree,gJ,dS,dS];exact ⟨fun h=>absurd h (by simp),fun h=>absurd h (by simp),E.wf a,trivial⟩
 | .do_ a=>by rw [S.tree,gJ,dS,dS];exact ⟨fun h=>absurd h (by simp),fun h=>absurd h (by simp),E.wf a,trivial⟩
 | .var s a=>by rw [S.tree,gJ,dS,dS,kF,kF];exact ⟨fun _=>⟨E.nv a,trivial⟩,fun h=>absurd h (by simp),E.wf a,trivial⟩
theorem S.DJ:∀ l:List S,dS (S.trees l)
 | []=>trivial
 | a::l=>by rw [S.trees,dS];exact ⟨S.wf a,S.DJ l⟩
end
theorem YS (l:List S):gJ (bU l):=by
 rw [bU,gJ];exact ⟨fun h=>absurd h (by simp),fun h=>absurd h (by simp),S.DJ l⟩
theorem SS.pD (c:SS) (k a:Int):(c.fail k a).ls=c.ls:=by unfold SS.fail;split <;> rfl
theorem yC (c:SS) (n:Nd) (k w:Nat):(fF c n k w).ls=c.ls:=by unfold fF;split;(· exact c.pD _ _);rfl
theorem xm (p:Src) (c:SS) (t:T):(kG p c t).1.ls=c.ls:=by
 unfold kG gO;split
 ·simp only;split;(· exact c.pD _ _);rfl
 split
 ·simp only;split;(· exact c.pD _ _);rfl
 split
 ·split
  ·exact yC _ _ _ _
  split
  ·exact yC _ _ _ _
  split
  ·simp only;rw [yC];split;(· exact c.pD _ _);rfl
  split
  ·exact c.pD _ _
  ·exact yC _ _ _ _
 ·rfl
mutual
theorem ZN (p:Src):∀ (t:T),sf t->∀ c,(oJ p t c).ls=c.ls
 | .mk n l,h,c=>by
  rw [sf] at h;rw [oJ,nt,ab h.1];split
  ·rw [HV p l h.2,xm]
  ·exact xm _ _ _
theorem HV (p:Src):∀ (l:List T),kF l->∀ c,(jC p l c).ls=c.ls
 | [],_,c=>by rw [jC]
 | t::r,h,c=>by
  rw [kF] at h;rw [jC,HV p r h.2,ZN p t h.1]
end
theorem SS.Ai {c:SS} (h:c.code≠0) (k a:Int):c.fail k a=c:=by unfold SS.fail;rw [L h]
theorem SS.qJ (c:SS) {k:Int} (hk:k≠0) (a:Int):(c.fail k a).code≠0:=by
 unfold SS.fail;split
 ·exact hk
 ·assumption
theorem S3 {c:SS} (h:c.code≠0) (n:Nd) (k w:Nat):fF c n k w=c:=by unfold fF;rw [SS.Ai h];split <;> rfl
theorem Vm (p:Src) {c:SS} (h:c.code≠0) (t:T):(kG p c t).1=c:=by
 unfold kG gO;simp only [SS.Ai h,S3 h,ite_self];split
 ·rfl
 split
 ·rfl
 split
 ·split
  ·rfl
  split
  ·rfl
  split
  ·rfl
  split <;> rfl
 ·rfl
theorem AE {c:SS} (h:c.code≠0) (n:Nd):(nt c n).code≠0:=by
 unfold nt;rw [SS.Ai h,SS.Ai h];split
 ·exact h
 split
 ·exact h
 split <;> exact h
mutual
theorem T8 (p:Src):∀ (t:T) (c:SS),c.code≠0->(oJ p t c).code≠0
 | .mk n l,c,h=>by
  rw [oJ];refine AE ?_ n;rw [Vm p h];split
  ·exact xg p l c h
  ·exact h
theorem xg (p:Src):∀ (l:List T) (c:SS),c.code≠0->(jC p l c).code≠0
 | [],c,h=>by rw [jC];exact h
 | t::r,c,h=>by rw [jC];exact xg p r _ (T8 p t c h)
end
theorem SD (p:Src) {c:CS} (h:c.code≠0) (a:Nat) (t:T) (ls:List ae):c7 p c a t ls=c:=by unfold c7;rw [ab (.inl h)]
mutual
theorem Zd (p:Src):∀ (t:T) (a:Nat) (c:CS) (ls:List ae),c.code≠0->(gW (c7 p) t a c ls).1=c
 | .mk n l,a,c,ls,h=>by rw [gW,SD p h];exact wL p l _ c ls h
theorem wL (p:Src):∀ (l:List T) (a:Nat) (c:CS) (ls:List ae),c.code≠0->(dD (c7 p) l a c ls).1=c
 | [],a,c,ls,h=>by rw [dD]
 | t::r,a,c,ls,h=>by
  have F:=Zd p t a c ls h;rw [dD,F];exact wL p r _ c _ h
end
def EM (a:Nat) (r:CS × List ae) (q:SS):Prop:=(r.1.code=0/\q.code=0/\r.2=q.ls/\r.1.skip < (a:Int)/\q.ls.length<=40)\/(r.1.code≠0/\q.code≠0)
theorem SB (p:Src) (t:T) (Hw:t.n.kind=13->kF t.kids) (qj:∀ k∈t.kids,k.n.kind=2->k.kids=[])
  (ih:∀ (a:Nat) (r:CS) (q:SS),r.code=0->q.code=0->r.skip < (a:Int)->q.ls.length<=40->EM (a+aB t.kids) (dD (c7 p) t.kids a r q.ls) (jC p t.kids q))
  (a:Nat) (r:CS) (q:SS) (hr:r.code=0) (hq:q.code=0) (hs:r.skip < (a:Int)) (hl:q.ls.length<=40):EM (a+aK t) (gW (c7 p) t a r q.ls) (oJ p t q):=by
 have ct:¬ (r.code≠0\/(a:Int)=r.skip):=by
  rintro (h | h)
  ·exact h hr
  ·omega
 obtain ⟨pl,cj⟩:∃ pl,c7 p r a t q.ls=⟨bY p t q.ls,pl,if dn t=true then (if (nK t).kind≠2 then -1 else ((a+1:Nat):Int)) else r.skip⟩:=by
  unfold c7;rw [L ct];exact ⟨_,rfl⟩
 have dr:=fA t
 have bad:∀ x:SS,bY p t q.ls≠0->x.code≠0->EM (a+aK t) (gW (c7 p) t a r q.ls) x:=fun x F I=>by
  refine .inr ⟨?_,I⟩;rw [wK,cj];simp only;rw [wL p t.kids _ _ _ F];exact F
 have go:bY p t q.ls=0->dn t=false->t.n.kind≠13->kG p q t=(q,true)->EM (a+aK t) (gW (c7 p) t a r q.ls) (oJ p t q):=fun F I h3 h4=>by
  have:=ih (a+1) ⟨0,pl,r.skip⟩ q rfl hq (by simp only;omega) hl;rw [wK,xf,h4,cj,F,I,L h3,nt,ab h3];simp only [if_true,Bool.false_eq_true,if_false];rw [show a+aK t=a+1+aB t.kids by omega];exact this
 by_cases eW:t.n.kind=13
 ·have hnv:=Hw eW
  have hz:dn t=false:=by unfold dn;rw [eW];rfl
  have oX:kG p q t=(q,true):=by unfold kG;rw [L aq,L aq,L aq]
  have iD:(jC p t.kids q).ls=q.ls:=HV p t.kids hnv q
  have tw:bY p t q.ls=if q.ls.contains t.n.s=true then 21 else if q.ls.length>=40 then 26 else 0:=by
   unfold bY;rw [ab eW]
  rw [xf,oX];simp only [if_true]
  by_cases hc:q.ls.contains t.n.s=true
  ·refine bad _ (by rw [tw,ab hc];decide) ?_;rw [nt,L (by simpa using eW),iD,ab hc];exact SS.qJ _ aw _
  by_cases h40:q.ls.length>=40
  ·refine bad _ (by rw [tw,L hc,ab h40];decide) ?_;rw [nt,L (by simpa using eW),iD,L hc,ab aq];exact SS.qJ _ aw _
  have h0:bY p t q.ls=0:=by rw [tw,L hc,L h40]
  have:=ih (a+1) ⟨0,pl,r.skip⟩ q rfl hq (by simp only;omega) hl;rw [nt,L (by simpa using eW),iD,L hc,L aq,wK,cj,h0,hz,ab eW];simp only [Bool.false_eq_true,if_false];rw [show a+aK t=a+1+aB t.kids by omega]
  rcases this with ⟨k1,k2,k3,k4,k5⟩ | ⟨k1,k2⟩
  ·refine .inl ⟨k1,k2,?_,k4,?_⟩
   ·show _++_=_++_;rw [k3,iD]
   ·show (q.ls++[t.n.s]).length<=40;rw [aO,List.length_singleton];omega
  ·exact .inr ⟨k1,k2⟩
 by_cases I:t.n.kind=2\/t.n.kind=7
 ·have hz:dn t=false:=by
   unfold dn;rw [show (t.n.kind==4)=false by simp;omega];rfl
  by_cases hc:q.ls.contains t.n.s=false/\p.globals.contains t.n.s=false
  ·refine bad _ (by unfold bY;rw [L eW,ab I,ab hc];decide) ?_
   have oX:kG p q t=(q.fail 22 t.n.at_,true):=by unfold kG;rw [ab I,ab hc]
   rw [xf,oX];refine AE ?_ t.n;simp only [if_true];exact xg p t.kids _ (SS.qJ _ aw _)
  ·exact go (by unfold bY;rw [L eW,ab I,L hc]) hz eW (by unfold kG;rw [ab I,L hc])
 by_cases h3:t.n.kind=3\/t.n.kind=8
 ·have hz:dn t=false:=by
   unfold dn;rw [show (t.n.kind==4)=false by simp;omega];rfl
  by_cases hc:q.ls.contains t.n.s=true\/vq p t.n.s < 0
  ·refine bad _ (by unfold bY;rw [L eW,L I,ab h3,ab hc];decide) ?_
   have oX:kG p q t=(q.fail 24 t.n.at_,true):=by unfold kG;rw [L I,ab h3,ab hc]
   rw [xf,oX];refine AE ?_ t.n;simp only [if_true];exact xg p t.kids _ (SS.qJ _ aw _)
  ·exact go (by unfold bY;rw [L eW,L I,ab h3,L hc]) hz eW (by unfold kG;rw [L I,ab h3,L hc])
 by_cases h4:t.n.kind=4
 ·have tw:bY p t q.ls=eG p t q.ls:=by unfold bY;rw [L eW,L I,L h3,ab h4]
  have oX:kG p q t=gO p q t:=by unfold kG;rw [L I,L h3,ab h4]
  have fin:∀ x:SS × Bool,gO p q t=x->bY p t q.ls≠0->x.1.code≠0->EM (a+aK t) (gW (c7 p) t a r q.ls) (oJ p t q):=fun x hx F I=>by
   refine bad _ F ?_;rw [xf,oX,hx];refine AE ?_ t.n;split
   ·exact xg p t.kids _ I
   ·exact I
  have L5:dn t=((t.n.s==iu)&&(t.kids.length==1)):=by unfold dn;rw [h4];rfl
  have some_:∀ w:Nat,t.n.s≠iu->mN p t.n.s=(w:Int)->gO p q t=(fF q t.n t.kids.length w,true)->EM (a+aK t) (gW (c7 p) t a r q.ls) (oJ p t q):=fun w e1 e2 e3=>by
   have hz:dn t=false:=by rw [L5,show (t.n.s==iu)=false by simpa using e1];rfl
   have Fe:eG p t q.ls=if (w:Int)=(t.kids.length:Int) then 0 else 23:=by
    unfold eG;rw [hz,L aw,e2,L aq]
   by_cases hk:t.kids.length=w
   ·refine go (by rw [tw,Fe,ab aq]) hz eW ?_;rw [oX,e3,fF,L (by simpa using hk)]
   ·refine fin _ e3 (by rw [tw,Fe,L aq];decide) ?_;rw [fF,ab hk];exact SS.qJ _ aw _
  by_cases hg:t.n.s=qx
  ·exact some_ 0 (by rw [hg];decide) (by unfold mN;rw [ab hg];rfl) (by unfold gO;rw [ab hg])
  by_cases hp:t.n.s=rA
  ·exact some_ 1 (by rw [hp];decide) (by unfold mN;rw [L hg,ab (.inl hp)];rfl) (by unfold gO;rw [L hg,ab hp])
  by_cases hz:t.n.s=iu
  ·have gL:gO p q t=(fF (if t.kids.length=1/\fZ p (nK t) q.ls=true then q.fail 24 t.n.at_ else q) t.n t.kids.length 1,false):=by
    unfold gO;rw [L hg,L hp,ab hz]
   by_cases hk:t.kids.length=1
   ·have iQ:dn t=true:=by rw [L5,hz,hk];rfl
    have Fe:eG p t q.ls=if fZ p (nK t) q.ls=true then 24 else 0:=by unfold eG;rw [ab iQ]
    by_cases hb:fZ p (nK t) q.ls=true
    ·refine fin _ gL (by rw [tw,Fe,ab hb];decide) ?_;rw [ab ⟨hk,hb⟩,fF,L (by simpa using hk)];exact SS.qJ _ aw _
    ·have aaZ:gO p q t=(q,false):=by rw [gL,L (fun h=>hb h.2),fF,L (by simpa using hk)]
     rw [xf,oX,aaZ,nt,ab eW];simp only [Bool.false_eq_true,if_false]
     have h0:bY p t q.ls=0:=by rw [tw,Fe,L hb]
     obtain ⟨k,gy⟩:∃ k,t.kids=[k]:=by
      match hl:t.kids,hk with
      | [k],_=>exact ⟨k,rfl⟩
     have A8:nK t=k.n:=by unfold nK;rw [gy]
     have tt:k.n.kind=2:=by
      have:fZ p k.n q.ls=false:=by rw [<-A8];simpa using hb
      unfold fZ at this;simp only [Bool.or_eq_false_iff] at this;simpa using this.1.1
     have fH:k.kids=[]:=qj k (by rw [gy];exact List.mem_singleton.2 rfl) tt
     have vE:aK k=1:=by rw [fA,fH,aB]
     have Ry:∀ c:CS,((a+1:Nat):Int)=c.skip->c7 p c (a+1) k q.ls=c:=fun c hc=>by unfold c7;rw [ab (.inr hc)]
     rw [wK,cj,h0,iQ,L eW,gy,A8];simp only [if_true,dD];rw [wK,fH];simp only [dD];rw [L (by rw [tt];decide),Ry _ rfl,L (by rw [tt];decide)];refine .inl ⟨rfl,hq,rfl,?_,hl⟩;rw [dr,gy,aB,aB,vE];simp only;omega
   ·have wZ:dn t=false:=by rw [L5,show (t.kids.length==1)=false by simpa using hk,Bool.and_false]
    refine fin _ gL ?_ ?_
    ·rw [tw];unfold eG;rw [wZ,L aw]
     have:mN p t.n.s=1:=by unfold mN;rw [L hg,ab (.inr hz)]
     rw [this,L aw,L aq];decide
    ·rw [L (fun h=>hk h.1),fF,ab hk];exact SS.qJ _ aw _
  have eK:mN p t.n.s=match p.fns.findIdx? (fun f:Fn=>f.name==t.n.s) with | some i=>(nc p i:Int) | none => -1:=by
   unfold mN;rw [L hg,L (by rintro (h | h);(· exact hp h);exact hz h)]
  have gL:gO p q t=match p.fns.findIdx? (fun f:Fn=>f.name==t.n.s) with | none=>(q.fail 22 t.n.at_,false) | some i=>(fF q t.n t.kids.length (nc p i),true):=by
   unfold gO;rw [L hg,L hp,L hz]
  cases hf:p.fns.findIdx? (fun f:Fn=>f.name==t.n.s) with
  | some i =>
   rw [hf] at eK gL;exact some_ (nc p i) hz eK gL
  | none =>
   rw [hf] at eK gL;refine fin _ gL ?_ (SS.qJ _ aw _);rw [tw];unfold eG;rw [L5,show (t.n.s==iu)=false by simpa using hz,Bool.false_and,L aw,eK];simp
 ·exact go (by unfold bY;rw [L eW,L I,L h3,L h4]) (by unfold dn;rw [show (t.n.kind==4)=false by simpa using h4];rfl) eW
   (by unfold kG;rw [L I,L h3,L h4])
theorem IQ:∀ {l:List T},dS l->∀ k∈l,gJ k
 | [],_,k,hk=>by cases hk
 | t::r,h,k,hk=>by
  rw [dS] at h
  rcases de hk with rfl | hk
  ·exact h.1
  ·exact IQ h.2 k hk
mutual
theorem YA (p:Src):∀ (t:T),gJ t->∀ (a:Nat) (r:CS) (q:SS),r.code=0->q.code=0->r.skip < (a:Int)->q.ls.length<=40->EM (a+aK t) (gW (c7 p) t a r q.ls) (oJ p t q)
 | .mk n l,hw=>by
  rw [gJ] at hw;refine SB p (.mk n l) hw.1 (fun k hk I=>?_) (Yz p l hw.2.2);have:=IQ hw.2.2 k hk;obtain ⟨m,j⟩:=k;rw [gJ] at this;exact this.2.1 I
theorem Yz (p:Src):∀ (l:List T),dS l->∀ (a:Nat) (r:CS) (q:SS),r.code=0->q.code=0->r.skip < (a:Int)->q.ls.length<=40->EM (a+aB l) (dD (c7 p) l a r q.ls) (jC p l q)
 | [],_,a,r,q,hr,hq,hs,hl=>by rw [dD,jC,aB];exact .inl ⟨hr,hq,rfl,by simpa using hs,hl⟩
 | t::l,hw,a,r,q,hr,hq,hs,hl=>by
  rw [dS] at hw;rw [dD,jC,aB]
  rcases YA p t hw.1 a r q hr hq hs hl with ⟨k1,k2,k3,k4,k5⟩ | ⟨k1,k2⟩
  ·rw [k3];have:=Yz p l hw.2 (a+aK t) _ _ k1 k2 k4 k5;rw [gn] at this;exact this
  ·exact .inr ⟨by rw [wL p l _ _ _ k1];exact k1,xg p l _ k2⟩
end
def iq (c k:Int):Int:=if c=0 then k else c
def nR (a:Ar):Bool:=decide (a.size < 1) || decide (a.size > 8000)
def lf (p:Src):Bool:=match p.fns.findIdx? (fun f:Fn=>f.name==w8) with | none=>true | some i=>decide (nc p i > 0)
def uI (p:Src):Bool:=(decide (p.fns.length > 40) || decide (p.globals.length > 29)) || decide (eH p.arrays > 8000)
def sH (p:Src) (c:Int):Int :=
 if p.arrays.any nR=true then iq c 26
 else if lf p=true then iq (if (p.fns.any fun f=>decide (f.params.length > 40))=true then iq (if uI p=true then iq c 26 else c) 26 else (if uI p=true then iq c 26 else c)) 25
 else if (p.fns.any fun f=>decide (f.params.length > 40))=true then iq (if uI p=true then iq c 26 else c) 26 else (if uI p=true then iq c 26 else c)
def rH (f:Fn) (c:SS):SS:=⟨f.params,if wc f.params=true then iq c.code 21 else c.code,if wc f.params=true/\c.code=0 then 0 else c.at_⟩
def oT (p:Src):List Fn->List T->SS->SS
 | f::r,t::l,c=>oT p r l (if c.code=0 then oJ p t (rH f c) else c)
 | _,_,c=>c
def NH (p:Src) (l:List T):SS:=oT p p.fns l ⟨[],sH p (if ff (bQ p)=true then 21 else 0),0⟩
theorem Aj (p:Src):∀ (fs:List Fn) (l:List T) (c:SS),c.code≠0->(oT p fs l c).code≠0
 | f::r,t::l,c,h=>by rw [oT,L h];exact Aj p r l c h
 | [],_,c,h=>by rw [oT];(· exact h);intros;simp_all
 | f::r,[],c,h=>by rw [oT];(· exact h);intros;simp_all
theorem Wp (p:Src) (f:Fn) (t:T) (a:Nat) (c:SS) (hw:gJ t) (hc:c.code=0) (hp:f.params.length<=40):(gA p f t a).1=0↔(oJ p t (rH f c)).code=0:=by
 unfold gA
 by_cases hd:wc f.params=true
 ·rw [ab hd]
  have:(rH f c).code≠0:=by unfold rH;rw [ab hd];unfold iq;rw [ab hc];show (21:Int)≠0;decide
  have I:=T8 p t _ this;constructor
  ·intro h;cases h
  ·intro h;exact absurd h I
 ·rw [L hd]
  have hq:(rH f c).code=0:=by unfold rH;rw [L hd];exact hc
  have F:=YA p t hw a ⟨0,0,-1⟩ (rH f c) rfl hq (by show (-1:Int) < _;omega) hp;show (gW (c7 p) t a ⟨0,0,-1⟩ (rH f c).ls).1.code=0↔_
  rcases F with ⟨k1,k2,_⟩ | ⟨k1,k2⟩
  ·exact ⟨fun _=>k2,fun _=>k1⟩
  ·exact ⟨fun h=>absurd h k1,fun h=>absurd h k2⟩
theorem J5 (p:Src):∀ (fs:List Fn) (l:List T) (a:Nat) (c:SS),c.code=0->(∀ t∈l,gJ t)->(∀ f∈fs,f.params.length<=40)->((gB p fs l a).1=0↔(oT p fs l c).code=0)
 | f::r,t::l,a,c,hc,hw,hp=>by
  have F:=Wp p f t a c (hw t mem_cons_self) hc (hp f mem_cons_self);rw [gB,oT,ab hc]
  by_cases h:(gA p f t a).1=0
  ·rw [L (by simpa using h)];exact J5 p r l _ _ (F.1 h) (fun u hu=>hw u (dw _ hu)) (fun g hg=>hp g (dw _ hg))
  ·rw [ab h]
   have I:(oJ p t (rH f c)).code≠0:=fun e=>h (F.2 e)
   exact ⟨fun e=>absurd e h,fun e=>absurd e (Aj p r l _ I)⟩
 | [],_,a,c,hc,_,_=>by rw [gB,oT];(· exact ⟨fun _=>hc,fun _=>rfl⟩);all_goals (intros;simp_all)
 | f::r,[],a,c,hc,_,_=>by rw [gB,oT];(· exact ⟨fun _=>hc,fun _=>rfl⟩);all_goals (intros;simp_all)
theorem cells_from (l:List Ar):∀ n:Int,l.foldl (fun n a=>n+a.size) n=n+eH l:=by
 induction l with
 | nil=>intro n;simp [eH]
 | cons a l ih =>
  intro n;unfold eH;rw [foldl_cons,foldl_cons,ih,ih (0+a.size)];omega
theorem LK (a:Ar) (l:List Ar):eH (a::l)=a.size+eH l:=by
 unfold eH;rw [foldl_cons,cells_from];unfold eH;omega
theorem Q2 {l:List Ar} (h:∀ a∈l,0<=a.size):0<=eH l/\∀ a∈l,a.size<=eH l:=by
 induction l with
 | nil=>exact ⟨by simp [eH],fun a h=>by cases h⟩
 | cons b l ih =>
  obtain ⟨F,I⟩:=ih fun a ha=>h a (dw _ ha)
  have hb:=h b mem_cons_self;rw [LK];refine ⟨by omega,fun a ha=>?_⟩
  rcases de ha with rfl | ha
  ·omega
  ·have:=I a ha;omega
theorem v7 {l:List ae} (h:ff l=false) {i j:Nat} {s:ae} (hi:l[i]?=some s) (hj:l[j]?=some s):i=j:=by
 have key:∀ x y:Nat,x < y->l[x]?=some s->l[y]?=some s->False:=fun x y mf F I=>by
  have hy:=(bo I).1;unfold ff at h;rw [any_eq_false] at h;have:=h y (List.mem_range.2 hy);unfold lR at this;rw [I] at this;simp only [Bool.or_eq_true,not_or] at this;apply this.2;rw [ij];rw [List.mem_take_iff_getElem];have hx:=(bo F);exact ⟨x,by have:=hx.1;omega,hx.2⟩
 rcases Nat.lt_trichotomy i j with F | F | F
 ·exact (key i j F hi hj).elim
 ·exact F
 ·exact (key j i F hj hi).elim
theorem HN {p:Src} (h:ff (bQ p)=false):p.fns.any oc=true↔lf p=false:=by
 have oE:∀ (i:Nat) f,p.fns[i]?=some f->(bQ p)[(p.globals++eD p).length+i]?=some f.name:=fun i f hf=>by
  unfold bQ;rw [fa aq,Nat.add_sub_cancel_left,ik,aP,hf];rfl
 unfold lf
 cases hf:p.fns.findIdx? (fun f:Fn=>f.name==w8) with
 | none =>
  rw [findIdx?_eq_none_iff] at hf;constructor
  ·intro F;obtain ⟨f,I,h3⟩:=nX.1 F;unfold oc at h3;have:=hf f I;rw [this] at h3;cases h3
  ·intro F;cases F
 | some i =>
  rw [List.findIdx?_eq_some_iff_getElem] at hf;obtain ⟨hi,F,I⟩:=hf
  have A5:p.fns[i]?=some p.fns[i]:=by simp [hi]
  simp only [nc,A5];constructor
  ·intro h3;obtain ⟨f,h4,h5⟩:=nX.1 h3;obtain ⟨j,hj⟩:=List.getElem?_of_mem h4;unfold oc at h5;simp only [aC,beq_iff_eq] at h5 F;have e1:=oE i _ A5;have e2:=oE j f hj;rw [F] at e1;rw [h5.1] at e2;have:=v7 h e1 e2
   have:i=j:=by omega
   subst this;rw [hj] at A5;cases A5;simp [h5.2]
  ·intro h3;simp only [gt_iff_lt,decide_eq_false_iff_not,Nat.not_lt,Nat.le_zero] at h3;exact nX.2 ⟨p.fns[i],List.getElem_mem hi,by unfold oc;rw [F,h3];rfl⟩
theorem Vz {p:Src} (ha:∀ a∈p.arrays,0<=a.size):(jQ p=false/\lf p=false)↔sH p 0=0:=by
 obtain ⟨rn,hc⟩:=Q2 ha;have f26:iq 0 26=26:=rfl
 have f25:∀ c,c≠0->iq c 25=c:=fun c h=>by unfold iq;rw [L h]
 have aak:∀ c,iq c 25≠0:=fun c=>by
  unfold iq;split
  ·decide
  ·assumption
 have aal:∀ c,iq c 26≠0:=fun c=>by
  unfold iq;split
  ·decide
  ·assumption
 unfold sH
 by_cases F:p.arrays.any nR=true
 ·rw [ab F,f26];refine ⟨fun h=>?_,fun h=>by cases h⟩;obtain ⟨a,I,h3⟩:=nX.1 F;have h4:=h.1;unfold jQ at h4;simp only [Bool.or_eq_false_iff,decide_eq_false_iff_not] at h4;have h5:=List.any_eq_false.1 h4.1 a I;have h6:=hc a I;have h7:=ha a I;unfold nR at h3;simp only [Bool.or_eq_true,decide_eq_true_eq] at h3;simp only [beq_iff_eq] at h5;have h8:=h4.2.1.2;omega
 rw [L F]
 have hz:p.arrays.any (fun a=>a.size==0)=false:=by
  rw [any_eq_false];intro a I h3;apply F;refine nX.2 ⟨a,I,?_⟩;unfold nR;simp only [beq_iff_eq] at h3;rw [h3];rfl
 have htm:jQ p=(uI p || p.fns.any fun f=>decide (f.params.length > 40)):=by
  unfold jQ uI;rw [hz,Bool.false_or]
 rw [htm]
 by_cases I:lf p=true
 ·rw [ab I];exact ⟨fun h=>(by rw [I] at h;cases h.2),fun h=>absurd h (aak _)⟩
 rw [L I]
 have rW:lf p=false:=by simpa using I
 by_cases h3:(p.fns.any fun f=>decide (f.params.length > 40))=true
 ·rw [ab h3,h3,Bool.or_true];exact ⟨fun h=>(by cases h.1),fun h=>absurd h (aal _)⟩
 rw [L h3,show (p.fns.any fun f=>decide (f.params.length > 40))=false by simpa using h3,Bool.or_false]
 by_cases h4:uI p=true
 ·rw [ab h4,h4];exact ⟨fun h=>(by cases h.1),fun h=>(by cases h)⟩
 ·rw [L h4];exact ⟨fun _=>rfl,fun _=>⟨by simpa using h4,rW⟩⟩
theorem V9 {p:Src} {l:List T} (ha:∀ a∈p.arrays,0<=a.size) (hw:∀ t∈l,gJ t):(ES p l).1=0↔(NH p l).code=0:=by
 have ne:sH p 21≠0:=by
  have f:∀ c k,c≠0->iq c k=c:=fun c k h=>by unfold iq;rw [L h]
  unfold sH;simp only [f 21 26 aw,ite_self,f 21 25 aw]
  decide
 unfold ES NH
 by_cases F:ff (bQ p)=true
 ·rw [ab F,ab F];exact ⟨fun h=>(by cases h),fun h=>absurd h (Aj p _ _ _ ne)⟩
 rw [L F,L F];have hs:=Vz ha
 by_cases I:sH p 0=0
 ·obtain ⟨h3,h4⟩:=hs.2 I;rw [L (by rw [h3];decide),L (by rw [(HN (by simpa using F)).2 h4];decide),I]
  refine J5 p _ _ _ _ rfl hw fun f hf=>?_
  unfold jQ at h3;simp only [Bool.or_eq_false_iff] at h3;have:=List.any_eq_false.1 h3.2.2 f hf;simpa using this
 ·refine ⟨fun h=>?_,fun h=>absurd h (Aj p _ _ _ I)⟩;exfalso;apply I;apply hs.1
  by_cases h3:jQ p=true
  ·rw [ab h3] at h;cases h
  ·rw [L h3] at h
   by_cases h4:p.fns.any oc=false
   ·rw [ab h4] at h;cases h
   ·exact ⟨by simpa using h3,(HN (by simpa using F)).1 (by simpa using h4)⟩
mutual
def dm:T->List ae
 | .mk n l=>dc l++(if n.kind=13 then [n.s] else [])
def dc:List T->List ae
 | []=>[]
 | t::r=>dm t++dc r
end
theorem SW (t:T):dm t=dc t.kids++(if t.n.kind=13 then [t.n.s] else []):=by cases t;rw [dm];rfl
mutual
theorem DX {σ:Type} (f:σ->Nat->T->List ae->σ):∀ (t:T) (a:Nat) (s:σ) (ls:List ae),(gW f t a s ls).2=ls++dm t
 | .mk n l,a,s,ls=>by
  rw [gW,dm];simp only;rw [oS f l];split
  ·rw [cS]
  ·rw [cY]
theorem oS {σ:Type} (f:σ->Nat->T->List ae->σ):∀ (l:List T) (a:Nat) (s:σ) (ls:List ae),(dD f l a s ls).2=ls++dc l
 | [],a,s,ls=>by rw [dD,dc,cY]
 | t::r,a,s,ls=>by rw [dD,oS f r,DX f t,dc,cS]
end
mutual
def FD (p:Src):T->List ae->Prop
 | .mk n l,ls=>bY p (.mk n l) ls=0/\(dn (.mk n l)=false->El p l ls)
def El (p:Src):List T->List ae->Prop
 | [],_=>True
 | t::r,ls=>FD p t ls/\El p r (ls++dm t)
end
mutual
theorem Ua (p:Src):∀ (t:T),gJ t->∀ (a:Nat) (r:CS) (ls:List ae),r.code=0->r.skip < (a:Int)->(gW (c7 p) t a r ls).1.code=0->FD p t ls/\(gW (c7 p) t a r ls).1.skip < ((a+aK t:Nat):Int)
 | .mk n l,hw,a,r,ls,hr,hs,hc=>by
  rw [gJ] at hw
  have ct:¬ (r.code≠0\/(a:Int)=r.skip):=by
   rintro (h | h)
   ·exact h hr
   ·omega
  obtain ⟨pl,cj⟩:∃ pl,c7 p r a (.mk n l) ls=⟨bY p (.mk n l) ls,pl,if dn (.mk n l)=true then (if (nK (.mk n l)).kind≠2 then -1 else ((a+1:Nat):Int)) else r.skip⟩:=by
   unfold c7;rw [L ct];exact ⟨_,rfl⟩
  rw [gW] at hc |-;simp only at hc |-;rw [cj] at hc |-
  have h0:bY p (.mk n l) ls=0:=by
   by_cases h0:bY p (.mk n l) ls=0
   ·exact h0
   ·rw [wL p l _ _ _ h0] at hc;exact hc
  rw [h0] at hc |-
  by_cases hz:dn (.mk n l)=true
  ·have hk:l.length=1:=by
    unfold dn at hz;simp only [aC,beq_iff_eq] at hz;exact hz.2
   have h4:n.kind=4/\n.s=iu:=by
    unfold dn at hz;simp only [aC,beq_iff_eq] at hz;exact hz.1
   have hb:fZ p (nK (.mk n l)) ls=false:=by
    have e:bY p (.mk n l) ls=eG p (.mk n l) ls:=by
     unfold bY;rw [L (by show ¬ n.kind=13;omega),L (by show ¬ (n.kind=2\/n.kind=7);omega),L (by show ¬ (n.kind=3\/n.kind=8);omega),ab (by show n.kind=4;omega)]
    rw [e] at h0;unfold eG at h0;rw [ab hz] at h0
    by_cases hb:fZ p (nK (.mk n l)) ls=true
    ·rw [ab hb] at h0;cases h0
    ·simpa using hb
   have tt:(nK (.mk n l)).kind=2:=by
    unfold fZ at hb;simp only [Bool.or_eq_false_iff] at hb;simpa using hb.1.1
   rw [ab hz,L (by rw [tt];decide)] at hc |-
   match l,hk,hw with
   | [k],_,hw =>
    have aa7:k.n.kind=2:=tt;rw [dS] at hw
    have fH:k.kids=[]:=by
     have:=hw.2.2.1;obtain ⟨m,j⟩:=k;rw [gJ] at this;exact this.2.1 aa7
    have vE:aK k=1:=by rw [fA,fH,aB]
    refine ⟨by rw [FD];exact ⟨h0,fun h=>by rw [hz] at h;cases h⟩,?_⟩;simp only [dD];rw [wK,fH];simp only [dD]
    have Ry:c7 p ⟨0,pl,((a+1:Nat):Int)⟩ (a+1) k ls=⟨0,pl,((a+1:Nat):Int)⟩:=by unfold c7;rw [ab (.inr rfl)]
    rw [Ry,aK,aB,aB,vE];simp only;omega
  ·have hz':dn (.mk n l)=false:=by simpa using hz
   rw [L hz] at hc |-;have h:=PO p l hw.2.2 (a+1) ⟨0,pl,r.skip⟩ ls rfl (by simp only;omega) hc;refine ⟨by rw [FD];exact ⟨h0,fun _=>h.1⟩,?_⟩;rw [aK,show a+(aB l+1)=a+1+aB l by omega];exact h.2
theorem PO (p:Src):∀ (l:List T),dS l->∀ (a:Nat) (r:CS) (ls:List ae),r.code=0->r.skip < (a:Int)->(dD (c7 p) l a r ls).1.code=0->El p l ls/\(dD (c7 p) l a r ls).1.skip < ((a+aB l:Nat):Int)
 | [],_,a,r,ls,hr,hs,hc=>by rw [dD,aB];exact ⟨trivial,by simpa using hs⟩
 | t::l,hw,a,r,ls,hr,hs,hc=>by
  rw [dS] at hw;rw [dD] at hc |-
  have F:(gW (c7 p) t a r ls).1.code=0:=by
   by_cases F:(gW (c7 p) t a r ls).1.code=0
   ·exact F
   ·rw [wL p l _ _ _ F] at hc;exact hc
  obtain ⟨I,h3⟩:=Ua p t hw.1 a r ls hr hs F;obtain ⟨h4,h5⟩:=PO p l hw.2 _ _ _ F h3 hc;rw [DX] at h4;rw [El,aB,<-gn];exact ⟨⟨I,h4⟩,h5⟩
end
def wD (names:List ae) (s:ae):Int:=dA (fun x=>x==s) names
def sT (names:List ae) (n:Nd) (known:List ae):Nd :=
 if n.kind=13 then ⟨n.kind,n.at_,wD names n.s+1,n.s,n.kids⟩
 else if (n.kind=2\/n.kind=7)/\known.contains n.s=true then ⟨n.kind,n.at_,wD names n.s+1,n.s,n.kids⟩ else n
mutual
def mH (names:List ae):T->List ae->T
 | .mk n l,known=>.mk (sT names n known) (im names l known)
def im (names:List ae):List T->List ae->List T
 | [],_=>[]
 | t::r,known=>mH names t known::im names r (known++dm t)
end
mutual
def zT:T->Prop
 | .mk n l=>(n.kind≠1->n.n=0)/\iZ l
def iZ:List T->Prop
 | []=>True
 | t::r=>zT t/\iZ r
end
mutual
theorem YY:∀ t:T,zT (er t)↔zT t
 | .mk n l=>by rw [er,zT,zT,Uq l]
theorem Uq:∀ l:List T,iZ (aV l)↔iZ l
 | []=>by rw [aV]
 | t::r=>by rw [aV,iZ,iZ,YY t,Uq r]
end
mutual
theorem E.z:∀ a:E,zT a.tree
 | .num n=>by rw [E.tree,zT];exact ⟨fun h=>absurd rfl h,trivial⟩
 | .name s=>by rw [E.tree,zT];exact ⟨fun _=>rfl,trivial⟩
 | .at_ s a=>by rw [E.tree,zT,iZ,iZ];exact ⟨fun _=>rfl,E.z a,trivial⟩
 | .call s l=>by rw [E.tree,zT];exact ⟨fun _=>rfl,E.zs l⟩
 | .un s a=>by rw [E.tree,zT,iZ,iZ];exact ⟨fun _=>rfl,E.z a,trivial⟩
 | .bin s a b=>by rw [E.tree,zT,iZ,iZ,iZ];exact ⟨fun _=>rfl,E.z a,E.z b,trivial⟩
theorem E.zs:∀ l:List E,iZ (E.trees l)
 | []=>trivial
 | a::l=>by rw [E.trees,iZ];exact ⟨E.z a,E.zs l⟩
end
mutual
theorem S.z:∀ a:S,zT a.tree
 | .set s a=>by rw [S.tree,zT,iZ,iZ];exact ⟨fun _=>rfl,E.z a,trivial⟩
 | .put s a b=>by rw [S.tree,zT,iZ,iZ,iZ];exact ⟨fun _=>rfl,E.z a,E.z b,trivial⟩
 | .if1 c b=>by rw [S.tree,zT,iZ,iZ,iZ,zT];exact ⟨fun _=>rfl,E.z c,⟨fun _=>rfl,S.zs b⟩,trivial⟩
 | .if2 c b d=>by rw [S.tree,zT,iZ,iZ,iZ,iZ,zT,zT];exact ⟨fun _=>rfl,E.z c,⟨fun _=>rfl,S.zs b⟩,⟨fun _=>rfl,S.zs d⟩,trivial⟩
 | .while_ c b=>by rw [S.tree,zT,iZ,iZ,iZ,zT];exact ⟨fun _=>rfl,E.z c,⟨fun _=>rfl,S.zs b⟩,trivial⟩
 | .ret a=>by rw [S.tree,zT,iZ,iZ];exact ⟨fun _=>rfl,E.z a,trivial⟩
 | .do_ a=>by rw [S.tree,zT,iZ,iZ];exact ⟨fun _=>rfl,E.z a,trivial⟩
 | .var s a=>by rw [S.tree,zT,iZ,iZ];exact ⟨fun _=>rfl,E.z a,trivial⟩
theorem S.zs:∀ l:List S,iZ (S.trees l)
 | []=>trivial
 | a::l=>by rw [S.trees,iZ];exact ⟨S.z a,S.zs l⟩
end
theorem aaa (l:List S):zT (bU l):=by rw [bU,zT];exact ⟨fun _=>rfl,S.zs l⟩
theorem JJ {names:List ae} {s:ae} (h:s∈names):0 < wD names s+1:=by
 unfold wD dA
 cases hf:names.findIdx? (fun x=>x==s) with
 | some i=>simp only;omega
 | none =>
  rw [findIdx?_eq_none_iff] at hf;have:=hf s h;simp at this
theorem VB {p:Src} {t:T} {ls:List ae} (hw:gJ t) (h0:bY p t ls=0) (hk:t.n.kind=4) (hs:t.n.s=iu):∃ k,t.kids=[k]/\k.n.kind=2/\k.kids=[]/\0<=vq p k.n.s/\ls.contains k.n.s=false/\dn t=true:=by
 have e:bY p t ls=eG p t ls:=by
  unfold bY;rw [L aq,L aq,L aq,ab hk]
 rw [e] at h0
 have hm:mN p t.n.s=1:=by rw [hs];unfold mN;rw [L aw,ab (.inr rfl)]
 by_cases hl:t.kids.length=1
 ·have hz:dn t=true:=by unfold dn;rw [hk,hs,hl];rfl
  unfold eG at h0;rw [ab hz] at h0
  have hb:fZ p (nK t) ls=false:=by
   by_cases hb:fZ p (nK t) ls=true
   ·rw [ab hb] at h0;cases h0
   ·simpa using hb
  obtain ⟨n,l⟩:=t
  match l,hl with
  | [k],_ =>
   have bD:fZ p k.n ls=false:=hb;unfold fZ at bD;simp only [Bool.or_eq_false_iff,bne_eq_false_iff_eq,decide_eq_false_iff_not,Int.not_lt] at bD;rw [gJ,dS] at hw;refine ⟨k,rfl,bD.1.1,?_,bD.1.2,bD.2,hz⟩;have:=hw.2.2.1;obtain ⟨m,j⟩:=k;rw [gJ] at this;exact this.2.1 bD.1.1
 ·have hz:dn t=false:=by unfold dn;rw [show (t.kids.length==1)=false by simpa using hl,Bool.and_false]
  unfold eG at h0;rw [L (by rw [hz];decide),hm,L aw,L aq] at h0;cases h0
section
variable (p:Src) (names:List ae) (name:ae)
end
theorem Forms.wf {l:List T} {ls:List (List S)} (h:Forms l ls) {i:Nat} {t:T} (ht:l[i]?=some t):gJ t/\zT t:=by
 have hi:=(bo ht).1;have hlen:=h.len;have hb:ls[i]?=some (ls[i]'aq):=dO _;obtain ⟨_,I⟩:=h.at_ i t _ ht hb;exact ⟨(Uo t).1 (by rw [I];exact YS _),(YY t).1 (by rw [I];exact aaa _)⟩
theorem Od (p:Src):∀ (fs:List Fn) (l:List T) (a:Nat),(gB p fs l a).1=0->∀ (i:Nat) f t,fs[i]?=some f->l[i]?=some t->∃ b,(gA p f t b).1=0
 | f::r,t::l,a,h,0,g,u,F,I=>by
  cases F;cases I
  rw [gB] at h
  by_cases hc:(gA p f t a).1=0
  ·exact ⟨a,hc⟩
  ·rw [ab hc] at h;exact absurd h hc
 | f::r,t::l,a,h,i+1,g,u,F,I=>by
  rw [gB] at h
  by_cases hc:(gA p f t a).1=0
  ·rw [L (by simpa using hc)] at h;exact Od p r l _ h i g u (by simpa using F) (by simpa using I)
  ·rw [ab hc] at h;exact absurd h hc
 | [],_,a,h,i,g,u,F,I=>by simp at F
 | f::r,[],a,h,i,g,u,F,I=>by simp at I
structure Good (p:Src) (l:List T):Prop where
 st:il p l
 test:fI p=true
 names:ff (bQ p)=false
 len:p.fns.length=l.length
 at_:∀ (i:Nat) f t,p.fns[i]?=some f->l[i]?=some t->FD p t f.params/\gJ t/\zT t/\eF p.nodes f.body.toNat t/\0<=f.body
theorem D4 {p:Src} (h:lC p=true):∃ l,Good p l:=by
 unfold lC at h;rw [aC] at h;obtain ⟨hf,h⟩:=h;obtain ⟨l,hl⟩:=vw hf;rw [hl.EO] at h;simp only [decide_eq_true_eq] at h;obtain ⟨ls,hm⟩:=hl.Ga
 have hb:ff (bQ p)=false:=by
  unfold ES at h
  by_cases hb:ff (bQ p)=true
  ·rw [ab hb] at h;cases h
  ·simpa using hb
 have mT:(gB p p.fns l 0).1=0:=by
  unfold ES at h;rw [L (by rw [hb];decide)] at h;split at h
  ·cases h
  split at h
  ·cases h
  ·exact h
 refine ⟨l,hl,hf,hb,gw.len hl.fns,fun i f t F I=>?_⟩;obtain ⟨b,hc⟩:=Od p _ _ _ mT i f t F I;obtain ⟨w1,w2⟩:=hm.wf I;unfold gA at hc
 have hd:¬ wc f.params=true:=fun hd=>by rw [ab hd] at hc;cases hc
 rw [L hd] at hc;have hi:=(bo I).1;obtain ⟨h5,h6⟩:=gw.at_ hl.fns i f t F I;have h7:=ed.ix l 0 i _ hl.st I;rw [cI] at h5 h7;refine ⟨(Ua p t w1 b ⟨0,0,-1⟩ f.params rfl (by show (-1:Int) < _;omega) hc).1,w1,w2,?_,by omega⟩;rw [h5,pM];exact h7
theorem GB {σ:Type} (f:σ->Nat->T->List ae->σ) (t:T):∀ (l:List T) (a:Nat) (s:σ) (ls:List ae),dD f (l++[t]) a s ls=gW f t (a+aB l) (dD f l a s ls).1 (dD f l a s ls).2
 | [],a,s,ls=>by rw [List.nil_append,dD,dD,dD,aB,Nat.add_zero]
 | u::l,a,s,ls=>by rw [List.cons_append,dD,GB f t l,dD,aB,gn]
theorem BH {σ:Type} (f:σ->Nat->T->List ae->σ) {l:List T} {k:Nat} {t:T} (h:l[k]?=some t) (a:Nat) (s:σ) (ls:List ae) :
  dD f (l.take (k+1)) a s ls=gW f t (a+aB (l.take k)) (dD f (l.take k) a s ls).1 (dD f (l.take k) a s ls).2:=by
 have:l.take (k+1)=l.take k++[t]:=by rw [cq,h];rfl
 rw [this,GB]
theorem vI:∀ {l:List T} {n k:Nat} {t:T},l[k]?=some t->(bh n l)[k]?=some (((n+aB (l.take k):Nat)):Int)
 | u::l,n,0,t,h=>by simp [bh,aB]
 | u::l,n,k+1,t,h=>by
  have:=vI (l:=l) (n:=n+aK u) (k:=k) (t:=t) (by simpa using h);rw [bh,List.getElem?_cons_succ,this,take_succ_cons,aB,gn]
 | [],n,k,t,h=>by simp at h
theorem nS {l:List T} {k:Nat} {t:T} (h:l[k]?=some t):aB (l.take k)+aK t<=aB l:=by
 have F:l.take (k+1)=l.take k++[t]:=by rw [cq,h];rfl
 have I:aB l=aB (l.take (k+1))+aB (l.drop (k+1)):=by rw [<-oq,List.take_append_drop]
 rw [F,oq,aB,aB] at I;omega
theorem SI {l:List T} {k:Nat} {t:T} (h:l[k]?=some t):aB (l.take (k+1))=aB (l.take k)+aK t:=by
 have F:l.take (k+1)=l.take k++[t]:=by rw [cq,h];rfl
 rw [F,oq,aB,aB,Nat.add_zero]
theorem Cy:∀ (N:Nat) (t:T),aK t<=N->(dm t).length<=aK t:=by
 intro N
 induction N with
 | zero=>intro t h;have:=jy t;omega
 | succ N ih =>
  intro t h
  have key:∀ l:List T,aB l<=N->(dc l).length<=aB l:=by
   intro l
   induction l with
   | nil=>intro _;simp [dc]
   | cons u l ih2 =>
    intro h;rw [aB] at h;have:=ih u aq;have:=ih2 aq;rw [dc,aO,aB];omega
  rw [fA] at h |-;have:=key t.kids aq;rw [SW,aO];split <;> simp <;> omega
theorem la (l:List T):(dc l).length<=aB l:=by
 induction l with
 | nil=>simp [dc]
 | cons u l ih =>
  have:=Cy _ u (aE _);rw [dc,aO,aB];omega
theorem Bw {l:List T} {k:Nat} {t:T} (h:l[k]?=some t):dc (l.take (k+1))=dc (l.take k)++dm t:=by
 have F:l.take (k+1)=l.take k++[t]:=by rw [cq,h];rfl
 have:∀ a b:List T,dc (a++b)=dc a++dc b:=by
  intro a b
  induction a with
  | nil=>simp [dc]
  | cons u a ih=>simp [dc,ih]
 rw [F,this];simp [dc]
theorem pE {α:Type} {f:α->Bool} {l:List α} {k:Nat} {x:α} (hk:l[k]?=some x) (h:f x=true) (aY:(l.take k).all (fun y=>!f y)=true):dA f l=(k:Int):=by
 have ak:k < l.length:=by
  rcases Nat.lt_or_ge k l.length with F | F
  ·exact F
  ·rw [List.getElem?_eq_none F] at hk;cases hk
 have hx:l[k]=x:=by rw [dO ak] at hk;exact uk hk
 have:l.findIdx? f=some k:=by
  rw [List.findIdx?_eq_some_iff_getElem];refine ⟨ak,by rw [hx];exact h,fun j hj=>?_⟩;rw [gV] at aY;have:=aY l[j] (by rw [List.mem_take_iff_getElem];exact ⟨j,by omega,rfl⟩);simpa using this
 unfold dA;rw [this]
theorem my {α:Type} {f:α->Bool} {l:List α} (aY:l.all (fun y=>!f y)=true):dA f l = -1:=by
 have:l.findIdx? f=none:=by
  rw [findIdx?_eq_none_iff];intro x hx;rw [gV] at aY;simpa using aY x hx
 unfold dA;rw [this]
theorem oO {α:Type} {f:α->Bool} {l:List α} {k:Nat} {x:α} (hk:l[k]?=some x):(l.take (k+1)).all (fun y=>!f y)=((l.take k).all (fun y=>!f y)&&!f x):=by
 rw [cq,hk,List.all_append];simp
theorem zc {α:Type} (f:α->Bool) (l:List α):decide ((0:Int)<=dA f l)=l.any f:=by
 cases h:l.any f with
 | false =>
  rw [my (by rw [any_eq_false] at h;rw [gV];intro x hx;simpa using h x hx)];rfl
 | true =>
  unfold dA
  cases I:l.findIdx? f with
  | some i=>simp
  | none =>
   rw [findIdx?_eq_none_iff] at I;rw [nX] at h;obtain ⟨x,hx,h3⟩:=h;have:=I x hx;simp [h3] at this
def b8 (fr to s:ae):ae:=if (s==fr)=true then to else s
def pV (fr:ae) (n:Nd) (ls:List ae):Bool:=(n.s==fr&&n.kind != 13)&&(n.kind==4 || !ls.contains fr)
def zR (fr to:ae) (n:Nd) (ls:List ae):Nd:=if pV fr n ls=true then ⟨n.kind,n.at_,n.n,to,n.kids⟩ else n
mutual
def nO (fr to:ae):T->List ae->T
 | .mk n l,ls=>.mk (zR fr to n ls) (kq fr to l ls)
def kq (fr to:ae):List T->List ae->List T
 | [],_=>[]
 | t::r,ls=>nO fr to t ls::kq fr to r (ls++dm t)
end
section
variable (fr to:ae)
mutual
theorem og:∀ (t:T) (ls:List ae),aK (nO fr to t ls)=aK t
 | .mk n l,ls=>by rw [nO,aK,aK,K8 l ls]
theorem K8:∀ (l:List T) (ls:List ae),aB (kq fr to l ls)=aB l
 | [],ls=>by rw [kq]
 | t::r,ls=>by rw [kq,aB,aB,og t ls,K8 r _]
end
theorem zS:∀ (l:List T) (ls:List ae) (a:Nat),bh a (kq fr to l ls)=bh a l
 | [],ls,a=>by rw [kq]
 | t::r,ls,a=>by rw [kq,bh,bh,og,zS r _]
def zW (s:List Nd) (a:Nat):List Nd:=match s[a]? with | some n=>s.set a ⟨n.kind,n.at_,n.n,to,n.kids⟩ | none=>s
def jr (s:List Nd) (a:Nat) (t:T) (ls:List ae):List Nd:=if pV fr t.n ls=true then zW to s a else s
theorem Su (s:List Nd) (a:Nat):(zW to s a).length=s.length:=by unfold zW;split <;> simp
theorem Sv (pre post:List Nd) (n:Nd):zW to (pre++n::post) pre.length=pre++⟨n.kind,n.at_,n.n,to,n.kids⟩::post:=by
 unfold zW;rw [fa (aE _),gT,List.getElem?_cons_zero];simp
theorem FP (s:List Nd) (a:Nat) (t:T) (ls:List ae):(jr fr to s a t ls).length=s.length:=by
 unfold jr;split
 ·exact Su to s a
 ·rfl
mutual
theorem Wf:∀ (t:T) (a:Nat) (s:List Nd) (ls:List ae),(gW (jr fr to) t a s ls).1.length=s.length
 | .mk n l,a,s,ls=>by rw [gW];simp only;rw [DZ l,FP]
theorem DZ:∀ (l:List T) (a:Nat) (s:List Nd) (ls:List ae),(dD (jr fr to) l a s ls).1.length=s.length
 | [],a,s,ls=>by rw [dD]
 | t::r,a,s,ls=>by rw [dD,DZ r,Wf t]
end
mutual
theorem NY:∀ (t:T) (a:Nat) (ls:List ae) (pre post:List Nd),pre.length=a->(gW (jr fr to) t a (pre++(eN a t++post)) ls).1=pre++(eN a (nO fr to t ls)++post)
 | .mk n l,a,ls,pre,post,hp=>by
  rw [gW,nO,eN,eN,zS];simp only
  have hs:jr fr to (pre++(⟨n.kind,n.at_,n.n,n.s,bh (a+1) l⟩::bN (a+1) l++post)) a (.mk n l) ls=(pre++[⟨(zR fr to n ls).kind,(zR fr to n ls).at_,(zR fr to n ls).n,(zR fr to n ls).s,bh (a+1) l⟩])++(bN (a+1) l++post):=by
   unfold jr zR;show (if pV fr n ls=true then _ else _)=_
   by_cases h:pV fr n ls=true
   ·rw [ab h,ab h,<-hp,List.cons_append,Sv];simp
   ·rw [L h,L h];simp
  rw [hs,J1 l (a+1) ls _ post (by simp [hp])];simp
theorem J1:∀ (l:List T) (a:Nat) (ls:List ae) (pre post:List Nd),pre.length=a->(dD (jr fr to) l a (pre++(bN a l++post)) ls).1=pre++(bN a (kq fr to l ls)++post)
 | [],a,ls,pre,post,hp=>by rw [dD,kq]
 | t::r,a,ls,pre,post,hp=>by
  rw [dD,kq,bN,bN,cS,NY t a ls pre _ hp,DX,<-cS,J1 r (a+aK t) _ (pre++eN a (nO fr to t ls)) post (by rw [aO,sq,og,hp]),og];simp
end
def cV:List Fn->List T->List T
 | f::fs,t::l=>nO fr to t f.params::cV fs l
 | _,l=>l
theorem sE (l:List T):cV fr to [] l=l:=by cases l <;> rfl
theorem KZ:∀ (i:Nat) (fs:List Fn) (l:List T) (f:Fn) (t:T) (b:Nat),fs[i]?=some f->l[i]?=some t ->
  ∃ pre post:List Nd,pre.length=aB (l.take i)/\bN b (cV fr to (fs.take i) l)=pre++(eN (b+aB (l.take i)) t++post)/\bN b (cV fr to (fs.take (i+1)) l)=pre++(eN (b+aB (l.take i)) (nO fr to t f.params)++post)
 | 0,g::fs,u::l,f,t,b,hf,ht=>by
  cases hf;cases ht
  refine ⟨[],bN (b+aK u) l,rfl,?_,?_⟩
  ·rw [take_zero,take_zero,sE,bN,aB];rfl
  ·rw [take_succ_cons,take_zero,take_zero,cV,sE,bN,aB,og];rfl
 | i+1,g::fs,u::l,f,t,b,hf,ht=>by
  obtain ⟨pre,post,F,I,h3⟩:=KZ i fs l f t (b+aK u) (by simpa using hf) (by simpa using ht);refine ⟨eN b (nO fr to u g.params)++pre,post,?_,?_,?_⟩
  ·rw [aO,sq,og,F,take_succ_cons,aB]
  ·rw [take_succ_cons,cV,bN,og,I,take_succ_cons,aB,cS,gn]
  ·rw [take_succ_cons,cV,bN,og,h3,take_succ_cons,aB,cS,gn]
 | 0,[],_,f,t,b,hf,ht=>by simp at hf
 | i+1,[],_,f,t,b,hf,ht=>by simp at hf
 | 0,g::fs,[],f,t,b,hf,ht=>by simp at ht
 | i+1,g::fs,[],f,t,b,hf,ht=>by simp at ht
theorem ME {fs:List Fn} {l:List T} {i:Nat} {f:Fn} {t:T} (hf:fs[i]?=some f) (ht:l[i]?=some t) :
  (gW (jr fr to) t (aB (l.take i)) (bN 0 (cV fr to (fs.take i) l)) f.params).1=bN 0 (cV fr to (fs.take (i+1)) l):=by
 obtain ⟨pre,post,F,I,h3⟩:=KZ fr to i fs l f t 0 hf ht;rw [cI] at I h3;rw [I,h3];exact NY fr to t _ f.params pre post F
theorem H9:∀ {fs:List Fn} {l:List T} {i:Nat} {f:Fn} {t:T},fs[i]?=some f->l[i]?=some t->(cV fr to fs l)[i]?=some (nO fr to t f.params)
 | g::fs,u::l,0,f,t,hf,ht=>by cases hf;cases ht;rw [cV];rfl
 | g::fs,u::l,i+1,f,t,hf,ht=>by rw [cV,List.getElem?_cons_succ];exact H9 (by simpa using hf) (by simpa using ht)
 | [],_,i,f,t,hf,ht=>by simp at hf
 | g::fs,[],i,f,t,hf,ht=>by simp at ht
theorem Ch:∀ (fs:List Fn) (l:List T),(cV fr to fs l).length=l.length
 | [],l=>by rw [sE]
 | f::fs,[]=>rfl
 | f::fs,t::l=>by rw [cV,List.length_cons,Ch fs l,List.length_cons]
theorem yu:∀ (fs:List Fn) (l:List T) (i:Nat),aB ((cV fr to fs l).take i)=aB (l.take i)
 | [],l,i=>by rw [sE]
 | f::fs,[],i=>rfl
 | f::fs,t::l,0=>by simp
 | f::fs,t::l,i+1=>by rw [cV,take_succ_cons,take_succ_cons,aB,aB,og,yu fs l i]
theorem Az (fs:List Fn) (l:List T):aB (cV fr to fs l)=aB l:=by
 have:=yu fr to fs l l.length;rw [bW,kz (by rw [Ch];exact aE _)] at this;exact this
theorem Sm {fs:List Fn} {l:List T} {i:Nat} {f:Fn} {t:T} (hf:fs[i]?=some f) (ht:l[i]?=some t) :
  bN 0 ((cV fr to fs l).take (i+1))=bN 0 ((cV fr to fs l).take i)++eN (aB (l.take i)) (nO fr to t f.params):=by
 rw [cq,H9 fr to hf ht,wM,yu,cI];show _++bN _ [_]=_;rw [bN,bN,cY]
def DB (n:Nd):Nd:=if n.kind=2\/n.kind=7\/n.kind=13 then ⟨n.kind,n.at_,0,if n.n=0 then b8 fr to n.s else n.s,n.kids⟩
 else if n.kind=3\/n.kind=8\/n.kind=4 then ⟨n.kind,n.at_,n.n,b8 fr to n.s,n.kids⟩ else n
mutual
def DC:T->T
 | .mk n l=>.mk (DB fr to n) (lP l)
def lP:List T->List T
 | []=>[]
 | t::r=>DC t::lP r
end
theorem Lg (names:List ae) (n:Nd) (ls:List ae) (hz:n.kind≠1->n.n=0) (iD:∀ s∈ls,s∈names) (hv:n.kind=13->n.s∈names) (Tr:n.kind=3\/n.kind=8->ls.contains n.s=false)
  (dE:n.kind=2\/n.kind=3\/n.kind=4\/n.kind=7\/n.kind=8\/n.kind=13\/n.s≠fr):DB fr to (sT names n ls)=zR fr to n ls:=by
 obtain ⟨kd,at_,m,s,ks⟩:=n;simp only at hz hv Tr dE;unfold zR pV;simp only
 by_cases eW:kd=13
 ·have:=hz aq;subst this;have hp:=JJ (hv eW);unfold sT;rw [ab eW];unfold DB;simp only;rw [ab aq,L aq,L (by rw [eW];simp)]
 by_cases h27:kd=2\/kd=7
 ·have h0:=hz aq;subst h0;unfold sT;rw [L eW]
  by_cases hc:ls.contains s=true
  ·have hp:=JJ (iD _ (ij.1 hc));rw [ab ⟨h27,hc⟩];unfold DB;simp only;rw [ab aq,L aq,L];intro h;simp only [aC,beq_iff_eq] at h;rw [<-h.1.1] at h;rw [hc,show (kd==4)=false by simp;omega] at h;exact absurd h.2 aw
  ·have dY:ls.contains s=false:=by simpa using hc
   rw [L (fun h=>hc h.2)];unfold DB b8;simp only;rw [ab aq,ab trivial]
   by_cases hs:(s==fr)=true
   ·rw [ab hs,ab];rw [beq_iff_eq] at hs;subst hs;rw [dY];simp;omega
   ·rw [L hs,L];intro h;simp only [aC] at h;exact hs h.1.1
 have hb:sT names ⟨kd,at_,m,s,ks⟩ ls=⟨kd,at_,m,s,ks⟩:=by unfold sT;rw [L eW,L (fun h=>h27 h.1)]
 rw [hb];unfold DB b8;simp only;rw [L aq]
 by_cases h3:kd=3\/kd=8\/kd=4
 ·rw [ab h3]
  by_cases hs:(s==fr)=true
  ·rw [ab hs,ab];rw [beq_iff_eq] at hs;subst hs;rw [show (kd != 13)=true by simp;omega]
   by_cases h4:kd=4
   ·subst h4;simp
   ·rw [Tr aq];simp
  ·rw [L hs,L];intro h;simp only [aC] at h;exact hs h.1.1
 ·rw [L h3,L];intro h;simp only [aC,beq_iff_eq] at h;have hs:=h.1.1
  rcases dE with e | e | e | e | e | e | e
  all_goals first | exact absurd hs e | omega
mutual
def lJ:T->Prop
 | .mk n l=>(n.kind=2\/n.kind=3\/n.kind=4\/n.kind=7\/n.kind=8\/n.kind=13\/word n.s=false)/\fu l
def fu:List T->Prop
 | []=>True
 | t::r=>lJ t/\fu r
end
mutual
theorem Qi {p:Src} (names:List ae) (hw:word fr=true):∀ (t:T) (ls:List ae),gJ t->zT t->lJ t->FD p t ls->(∀ s∈ls,s∈names)->(∀ s∈dm t,s∈names)->DC fr to (mH names t ls)=nO fr to t ls
 | .mk n l,ls,wf,hz,hs,ho,iD,hv=>by
  have wf0:=wf;rw [gJ] at wf;rw [zT] at hz;rw [lJ] at hs;have Xv:=ho;rw [FD] at ho;rw [dm] at hv
  have dE:n.kind=2\/n.kind=3\/n.kind=4\/n.kind=7\/n.kind=8\/n.kind=13\/n.s≠fr:=by
   rcases hs.1 with h | h | h | h | h | h | h
   ·exact .inl h
   ·exact .inr (.inl h)
   ·exact .inr (.inr (.inl h))
   ·exact .inr (.inr (.inr (.inl h)))
   ·exact .inr (.inr (.inr (.inr (.inl h))))
   ·exact .inr (.inr (.inr (.inr (.inr (.inl h)))))
   ·exact .inr (.inr (.inr (.inr (.inr (.inr fun e=>by rw [e,hw] at h;cases h)))))
  have Tr:n.kind=3\/n.kind=8->ls.contains n.s=false:=fun h=>by
   have h0:=ho.1;unfold bY at h0;rw [L (by show ¬ n.kind=13;omega),L (by show ¬ (n.kind=2\/n.kind=7);omega),ab (by show n.kind=3\/n.kind=8;exact h)] at h0
   by_cases hc:ls.contains n.s=true
   ·rw [ab (.inl hc)] at h0;cases h0
   ·simpa using hc
  rw [mH,DC,nO,Lg fr to names n ls hz.1 iD (fun h=>hv _ (by rw [ab h];simp)) Tr dE]
  congr 1
  by_cases h4:n.kind=4/\n.s=iu
  ·obtain ⟨k,F,I,h3,-,-,h6⟩:=VB wf0 ho.1 h4.1 h4.2;have F:l=[k]:=F;subst F;obtain ⟨m,j⟩:=k;have h3:j=[]:=h3;subst h3;have I:m.kind=2:=I
   have Pb:m.kind≠1->m.n=0:=by have:=hz.2;rw [iZ,zT] at this;exact this.1.1
   rw [im,im,lP,lP,kq,kq,mH,im,DC,lP,nO,kq,Lg fr to names m ls Pb iD (fun h=>by omega) (fun h=>by omega) (.inl I)]
  ·have F:dn (.mk n l)=false:=by
    unfold dn;show ((n.kind==4&&n.s==iu)&&_)=false;rw [show (n.kind==4&&n.s==iu)=false by simp only [Bool.and_eq_false_iff,beq_eq_false_iff_ne,ne_eq];by_cases h:n.kind=4;(· exact .inr fun e=>h4 ⟨h,e⟩);exact .inl h];rfl
   exact Lh names hw l ls wf.2.2 hz.2 hs.2 (ho.2 F) iD fun s h=>hv s (List.mem_append_left _ h)
theorem Lh {p:Src} (names:List ae) (hw:word fr=true):∀ (l:List T) (ls:List ae),dS l->iZ l->fu l->El p l ls->(∀ s∈ls,s∈names)->(∀ s∈dc l,s∈names)->lP fr to (im names l ls)=kq fr to l ls
 | [],ls,_,_,_,_,_,_=>by rw [im,lP,kq]
 | t::r,ls,wf,hz,hs,ho,iD,hv=>by
  rw [dS] at wf;rw [iZ] at hz;rw [fu] at hs;rw [El] at ho;rw [dc] at hv
  have hv1:∀ s∈dm t,s∈names:=fun s h=>hv s (List.mem_append_left _ h)
  rw [im,lP,kq,Qi names hw t ls wf.1 hz.1 hs.1 ho.1 iD hv1,Lh names hw r _ wf.2 hz.2 hs.2 ho.2 (fun s h=>by rcases nA h with h | h;(· exact iD s h);exact hv1 s h) fun s h=>hv s (List.mem_append_right _ h)]
end
end
def Bo (b:Int) (n:Nd):Nd:=⟨n.kind,n.at_,n.n,n.s,n.kids.map (·+b)⟩
theorem Db (b:Nat):∀ (l:List T) (a:Nat),bh (a+b) l=(bh a l).map (·+(b:Int))
 | [],a=>rfl
 | t::l,a=>by
  rw [bh,bh,List.map_cons,<-Db b l (a+aK t),show a+b+aK t=a+aK t+b by omega]
  congr 1
mutual
theorem GH (b:Nat):∀ (t:T) (a:Nat),eN (a+b) t=(eN a t).map (Bo (b:Int))
 | .mk n l,a=>by
  rw [eN,eN,List.map_cons,show a+b+1=a+1+b by omega,EY b l (a+1),Db b l (a+1)];rfl
theorem EY (b:Nat):∀ (l:List T) (a:Nat),bN (a+b) l=(bN a l).map (Bo (b:Int))
 | [],a=>by rw [bN,bN];rfl
 | t::l,a=>by rw [bN,bN,gU,GH b t a,show a+b+aK t=a+aK t+b by omega,EY b l (a+aK t)]
end
mutual
theorem Ue:∀ t:T,lJ (er t)↔lJ t
 | .mk n l=>by rw [er,lJ,lJ,P6 l]
theorem P6:∀ l:List T,fu (aV l)↔fu l
 | []=>by rw [aV]
 | t::r=>by rw [aV,fu,fu,Ue t,P6 r]
end
theorem P7 {s:ae} (h:eT s=true):word s=false:=by
 have key:∀ l∈levels,∀ x∈l,word x=false:=by decide
 unfold eT at h;obtain ⟨l,hl,hs⟩:=nX.1 h;exact key l hl s (ij.1 hs)
mutual
theorem E.sg:∀ a:E,a.ok=true->lJ a.tree
 | .num n,_=>by rw [E.tree,lJ];exact ⟨.inr (.inr (.inr (.inr (.inr (.inr rfl))))),trivial⟩
 | .name s,_=>by rw [E.tree,lJ];exact ⟨.inl rfl,trivial⟩
 | .at_ s a,h=>by rw [E.ok,aC] at h;rw [E.tree,lJ,fu,fu];exact ⟨.inr (.inl rfl),E.sg a h.2,trivial⟩
 | .call s l,h=>by rw [E.ok,aC] at h;rw [E.tree,lJ];exact ⟨.inr (.inr (.inl rfl)),E.Dy l h.2⟩
 | .un s a,h=>by
  rw [E.ok,aC] at h;rw [E.tree,lJ,fu,fu];refine ⟨.inr (.inr (.inr (.inr (.inr (.inr ?_))))),E.sg a h.2,trivial⟩;have F:=h.1;simp only [Bool.or_eq_true,beq_iff_eq] at F
  rcases F with (F | F) | F <;> subst F <;> rfl
 | .bin s a b,h=>by
  rw [E.ok,aC,aC] at h;rw [E.tree,lJ,fu,fu,fu];exact ⟨.inr (.inr (.inr (.inr (.inr (.inr (P7 h.1.1)))))),E.sg a h.1.2,E.sg b h.2,trivial⟩
theorem E.Dy:∀ l:List E,E.db l=true->fu (E.trees l)
 | [],_=>trivial
 | a::l,h=>by rw [E.db,aC] at h;rw [E.trees,fu];exact ⟨E.sg a h.1,E.Dy l h.2⟩
end
mutual
theorem S.sg:∀ a:S,a.ok=true->lJ a.tree
 | .set s a,h=>by rw [S.ok,aC] at h;rw [S.tree,lJ,fu,fu];exact ⟨.inr (.inr (.inr (.inl rfl))),E.sg a h.2,trivial⟩
 | .put s a b,h=>by rw [S.ok,aC,aC] at h;rw [S.tree,lJ,fu,fu,fu];exact ⟨.inr (.inr (.inr (.inr (.inl rfl)))),E.sg a h.2.1,E.sg b h.2.2,trivial⟩
 | .if1 c b,h=>by rw [S.ok,aC] at h;rw [S.tree,lJ,fu,fu,fu,lJ];exact ⟨.inr (.inr (.inr (.inr (.inr (.inr rfl))))),E.sg c h.1,⟨.inr (.inr (.inr (.inr (.inr (.inr rfl))))),S.Dy b h.2⟩,trivial⟩
 | .if2 c b d,h=>by rw [S.ok,aC,aC] at h;rw [S.tree,lJ,fu,fu,fu,fu,lJ,lJ];exact ⟨.inr (.inr (.inr (.inr (.inr (.inr rfl))))),E.sg c h.1,⟨.inr (.inr (.inr (.inr (.inr (.inr rfl))))),S.Dy b h.2.1⟩,⟨.inr (.inr (.inr (.inr (.inr (.inr rfl))))),S.Dy d h.2.2⟩,trivial⟩
 | .while_ c b,h=>by rw [S.ok,aC] at h;rw [S.tree,lJ,fu,fu,fu,lJ];exact ⟨.inr (.inr (.inr (.inr (.inr (.inr rfl))))),E.sg c h.1,⟨.inr (.inr (.inr (.inr (.inr (.inr rfl))))),S.Dy b h.2⟩,trivial⟩
 | .ret a,h=>by rw [S.ok] at h;rw [S.tree,lJ,fu,fu];exact ⟨.inr (.inr (.inr (.inr (.inr (.inr rfl))))),E.sg a h,trivial⟩
 | .do_ a,h=>by rw [S.ok] at h;rw [S.tree,lJ,fu,fu];exact ⟨.inr (.inr (.inr (.inr (.inr (.inr rfl))))),E.sg a h,trivial⟩
 | .var s a,h=>by rw [S.ok,aC] at h;rw [S.tree,lJ,fu,fu];exact ⟨.inr (.inr (.inr (.inr (.inr (.inl rfl))))),E.sg a h.2,trivial⟩
theorem S.Dy:∀ l:List S,S.db l=true->fu (S.trees l)
 | [],_=>trivial
 | a::l,h=>by rw [S.db,aC] at h;rw [S.trees,fu];exact ⟨S.sg a h.1,S.Dy l h.2⟩
end
theorem Yy (l:List S) (h:S.db l=true):lJ (bU l):=by rw [bU,lJ];exact ⟨.inr (.inr (.inr (.inr (.inr (.inr rfl))))),S.Dy l h⟩
theorem Good.sg {p:Src} {l:List T} (h:Good p l) {i:Nat} {t:T} (ht:l[i]?=some t):lJ t:=by
 obtain ⟨ls,hm⟩:=h.st.Ga;have hi:=(bo ht).1;have hlen:=hm.len;obtain ⟨F,I⟩:=hm.at_ i t _ ht (dO aq);exact (Ue t).1 (by rw [I];exact Yy _ F)
theorem Good.words {p:Src} {l:List T} (h:Good p l) {s:ae} (hs:s∈bQ p):word s=true:=by
 have key:∀ s:ae,bf s=true->word s=true:=fun s h=>by
  unfold bf at h;rw [aC,aC] at h;exact h.1.1
 refine key s ?_;unfold bQ eD ik at hs
 rcases nA hs with hs | hs
 ·rcases nA hs with hs | hs
  ·exact gV.1 h.st.globals s hs
  ·obtain ⟨a,ha,rfl⟩:=mP.1 hs;have:=gV.1 h.st.arrays a ha;unfold oP at this;rw [aC,aC] at this;exact this.1.1
 ·obtain ⟨f,hf,rfl⟩:=mP.1 hs;obtain ⟨t,_,hq⟩:=(gw.mem h.st.fns).1 f hf;exact hq.name
theorem Ir {α:Type} (nm:α->ae) (re:α->ae->α) (O1:∀ a,re a (nm a)=a) (fr to:ae) {xs:List α} (hu:∀ (i j:Nat) (a b:α),xs[i]?=some a->xs[j]?=some b->nm a=fr->nm b=fr->i=j) :
  (match xs.findIdx? (fun a=>nm a==fr) with | some k=>(match xs[k]? with | some a=>xs.set k (re a to) | none=>xs) | none=>xs)=xs.map fun a=>re a (b8 fr to (nm a)):=by
 cases hk:xs.findIdx? (fun a=>nm a==fr) with
 | none =>
  rw [findIdx?_eq_none_iff] at hk;simp only;refine (List.map_id xs).symm.trans (List.map_congr_left fun a ha=>?_);have:=hk a ha;unfold b8;rw [L (by rw [this];decide),O1];rfl
 | some k =>
  obtain ⟨F,I,-⟩:=List.findIdx?_eq_some_iff_getElem.1 hk;have hg:xs[k]?=some xs[k]:=dO F;simp only [hg]
  refine List.ext_getElem? fun j=>?_
  rw [dx,aP]
  by_cases hj:k=j
  ·subst hj;rw [ab rfl,ab F,hg,Option.map_some];unfold b8;rw [ab I]
  ·rw [L hj]
   cases hx:xs[j]? with
   | none=>rfl
   | some a =>
    rw [Option.map_some];unfold b8;rw [L,O1];intro h;rw [beq_iff_eq] at h I;exact hj (hu k j _ a hg hx I h)
def vQ (a:Ar) (s:ae):Ar:=⟨s,a.size⟩
def xn (f:Fn) (s:ae):Fn:=⟨s,f.params,f.body⟩
theorem Good.arU {p:Src} {l:List T} (h:Good p l) {fr:ae}:∀ (i j:Nat) (a b:Ar),p.arrays[i]?=some a->p.arrays[j]?=some b->a.name=fr->b.name=fr->i=j:=fun i j a b F I e1 e2=>by
 have key:∀ (i:Nat) (a:Ar),p.arrays[i]?=some a->a.name=fr->(bQ p)[p.globals.length+i]?=some fr:=fun i a h e=>by
  have hi:=(bo h).1;unfold bQ eD;rw [fO (by rw [aO,bP];omega),fa aq,Nat.add_sub_cancel_left,aP,h,Option.map_some,e]
 have:=v7 h.names (key i a F e1) (key j b I e2);omega
theorem Good.fnU {p:Src} {l:List T} (h:Good p l) {fr:ae}:∀ (i j:Nat) (a b:Fn),p.fns[i]?=some a->p.fns[j]?=some b->a.name=fr->b.name=fr->i=j:=fun i j a b F I e1 e2=>by
 have key:∀ (i:Nat) (a:Fn),p.fns[i]?=some a->a.name=fr->(bQ p)[p.globals.length+p.arrays.length+i]?=some fr:=fun i a h e=>by
  have hi:=(bo h).1;unfold bQ eD ik;rw [fa (by rw [aO,bP];omega),aO,bP,Nat.add_sub_cancel_left,aP,h,Option.map_some,e]
 have:=v7 h.names (key i a F e1) (key j b I e2);omega
mutual
theorem Ia (fr to:ae):∀ (t:T) (a:Nat) (ls:List ae),(eN a (nO fr to t ls)).map (fun n=>n.kids)=(eN a t).map (fun n=>n.kids)
 | .mk n l,a,ls=>by
  rw [nO,eN,eN,List.map_cons,List.map_cons,zS,Dr fr to l]
theorem Dr (fr to:ae):∀ (l:List T) (a:Nat) (ls:List ae),(bN a (kq fr to l ls)).map (fun n=>n.kids)=(bN a l).map (fun n=>n.kids)
 | [],a,ls=>by rw [kq]
 | t::r,a,ls=>by rw [kq,bN,bN,gU,gU,Ia fr to t,og,Dr fr to r]
end
theorem FJ (fr to:ae):∀ (fs:List Fn) (l:List T) (a:Nat),(bN a (cV fr to fs l)).map (fun n=>n.kids)=(bN a l).map (fun n=>n.kids)
 | [],l,a=>by rw [sE]
 | f::fs,[],a=>rfl
 | f::fs,t::l,a=>by rw [cV,bN,bN,gU,gU,Ia,og,FJ fr to fs l]
def iv (fr to:ae) (p:Src) (l:List T):Src:=⟨p.globals.map (b8 fr to),p.arrays.map (fun a=>vQ a (b8 fr to a.name)),p.fns.map (fun f=>xn f (b8 fr to f.name)),bN 0 (cV fr to p.fns l)⟩
def o8 (l:List (List ae)) (s:ae):Bool:=l.any fun x=>x.contains s
def o7 (p:Src) (l:List T):List (List ae):=List.zipWith (fun f t=>f.params++dm t) p.fns l
theorem Fw {p:Src} {l:List T} {i:Nat} {f:Fn} {t:T} (hf:p.fns[i]?=some f) (ht:l[i]?=some t):(o7 p l)[i]?=some (f.params++dm t):=by
 unfold o7;rw [List.getElem?_zipWith,hf,ht]
theorem Df {p:Src} {l:List T} (h:p.fns.length=l.length):(o7 p l).length=p.fns.length:=by simp [o7,h]
theorem Bh {l:List (List ae)} {k:Nat} {x:List ae} {s:ae} (h:l[k]?=some x):o8 (l.take (k+1)) s=(o8 (l.take k) s || x.contains s):=by
 unfold o8;rw [cq,h,List.any_append];simp
theorem Dg {l:List (List ae)} {k:Nat} {x:List ae} {s:ae} (h:l[k]?=some x) (hc:x.contains s=true):o8 l s=true:=nX.2 ⟨x,bA h,hc⟩
def Dh:ae:=[109,97,105,110]
def eu:Src:=⟨[],[],[],[]⟩
def renameI (p:Src) (fr nw:ae):Src × Int :=
 if ((lC p&&bf nw)&&!gE nw)=true then (match kB p.nodes p.fns 0 [] with
  | some (l,_)=>if ((!(bQ p).contains fr) || fr==Dh)=true then (eu,2) else if (bQ p).contains nw=true then (eu,3) else if o8 (o7 p l) nw=true then (eu,4) else (iv fr nw p l,0)
  | none=>(eu,1)) else (eu,1)
theorem J3 {p:Src} {l:List T} (h:Good p l):p.nodes=bN 0 l:=ed.all h.st.st h.st.len
theorem rI (fr nw:ae) {p:Src} {l:List T} (h:Good p l):(iv fr nw p l).nodes.map (fun n=>n.kids)=p.nodes.map (fun n=>n.kids):=by
 show (bN 0 (cV fr nw p.fns l)).map _=_;rw [FJ,<-J3 h]
end Go.Im
