/- Part 3 of proofs that are told in their last texts. -/
import Derived.Test.YtcoplmnahnipiaaGreatDoorQ2
open List (all_eq_true any_eq_false any_eq_true append_assoc append_nil contains_iff_mem foldl_cons getElem?_eq_getElem getElem?_eq_none getElem?_set length_append length_cons mem_cons_of_mem mem_cons_self mem_of_getElem? mem_singleton pairwise_cons take_add_one)
set_option linter.unusedVariables false
set_option linter.unusedSimpArgs false
set_option maxRecDepth 100000
namespace Go.Im
open Go.Xp Go.Sp
def oT:ah:=[103,101,116]
def pX:ah:=[112,117,116]
def iO:ah:=[115,105,122,101]
def vj:ah:=[109,97,105,110]
def l7 (s:ah):Bool:=(s==oT || s==pX) || s==iO
def cE {α:Type} (f:α->Bool) (l:List α):Int:=match l.findIdx? f with | some i=>(i:Int) | none => -1
def nV (p:Src) (s:ah):Int:=cE (fun f:Fn=>f.name==s) p.fns
def D6 (p:Src) (s:ah):Int:=cE (fun a:Ar=>a.name==s) p.arrays
def eN (p:Src):List ah:=p.arrays.map fun a:Ar=>a.name
def ir (p:Src):List ah:=p.fns.map fun f:Fn=>f.name
def cK (p:Src):List ah:=(p.globals++eN p)++ir p
def nF (t:T):Nd:=match t.kids with | k::_=>k.n | []=>⟨0,0,0,[],[]⟩
def dR (t:T):Bool:=(t.n.kind==4&&t.n.s==iO)&&(t.kids.length==1)
def lD (p:Src) (i:Nat):Nat:=match p.fns[i]? with | some f=>f.params.length | none=>0
def nk (p:Src) (s:ah):Int:=if s=oT then 0 else if s=pX\/s=iO then 1 else match p.fns.findIdx? (fun f:Fn=>f.name==s) with | some i=>(lD p i:Int) | none => -1
def fV (p:Src) (k:Nd) (ls:List ah):Bool:=(k.kind != 2 || decide (D6 p k.s < 0)) || ls.contains k.s
def eX (p:Src) (t:T) (ls:List ah):Int :=
 if dR t=true then (if fV p (nF t) ls=true then 24 else 0)
 else if nk p t.n.s = -1 then 22 else if nk p t.n.s=(t.kids.length:Int) then 0 else 23
def bY (p:Src) (t:T) (ls:List ah):Int :=
 if t.n.kind=13 then (if ls.contains t.n.s=true then 21 else if ls.length>=40 then 26 else 0)
 else if t.n.kind=2\/t.n.kind=7 then (if ls.contains t.n.s=false/\p.globals.contains t.n.s=false then 22 else 0)
 else if t.n.kind=3\/t.n.kind=8 then (if ls.contains t.n.s=true\/D6 p t.n.s < 0 then 24 else 0)
 else if t.n.kind=4 then eX p t ls
 else 0
structure CS where
 code:Int
 place:Int
 skip:Int
def cw (p:Src) (c:CS) (a:Nat) (t:T) (ls:List ah):CS :=
 if c.code≠0\/(a:Int)=c.skip then c
 else ⟨bY p t ls,if bY p t ls≠0 then t.n.at_ else c.place,if dR t=true then (if (nF t).kind≠2 then -1 else ((a+1:Nat):Int)) else c.skip⟩
mutual
def iF {σ:Type} (f:σ->Nat->T->List ah->σ):T->Nat->σ->List ah->σ × List ah
 | .mk n l,a,s,ls=>((dW f l (a+1) (f s a (.mk n l) ls) ls).1,if n.kind=13 then (dW f l (a+1) (f s a (.mk n l) ls) ls).2++[n.s] else (dW f l (a+1) (f s a (.mk n l) ls) ls).2)
def dW {σ:Type} (f:σ->Nat->T->List ah->σ):List T->Nat->σ->List ah->σ × List ah
 | [],_,s,ls=>(s,ls)
 | t::r,a,s,ls=>dW f r (a+aP t) (iF f t a s ls).1 (iF f t a s ls).2
end
theorem uX {σ:Type} (f:σ->Nat->T->List ah->σ) (t:T) (a:Nat) (s:σ) (ls:List ah) :
  iF f t a s ls=((dW f t.kids (a+1) (f s a t ls) ls).1,if t.n.kind=13 then (dW f t.kids (a+1) (f s a t ls) ls).2++[t.n.s] else (dW f t.kids (a+1) (f s a t ls) ls).2):=by
 cases t;rw [iF];rfl
def nT (l:List ah) (k:Nat):Bool:=match l[k]? with | some s=>(l.take k).contains s | none=>false
def uA (l:List ah):Bool:=(List.range l.length).any (nT l)
def fm (p:Src) (f:Fn) (t:T) (a:Nat):Int × Int :=
 if uA f.params=true then (21,0) else ((iF (cw p) t a ⟨0,0,-1⟩ f.params).1.code,(iF (cw p) t a ⟨0,0,-1⟩ f.params).1.place)
def kl (l:List ah) (k:Nat):Bool:=match l[k]? with | some s=>l7 s || (l.take k).contains s | none=>false
def ea (l:List ah):Bool:=(List.range l.length).any (kl l)
def dE (l:List Ar):Int:=l.foldl (fun n a=>n+a.size) 0
def iz (p:Src):Bool:=p.arrays.any (fun a=>a.size==0) || ((((decide (p.fns.length > 40) || decide (p.globals.length > 29)) || decide (dE p.arrays > 8000))) || p.fns.any fun f=>decide (f.params.length > 40))
def mD (f:Fn):Bool:=f.name==vj&&f.params.length==0
def fo (p:Src):List Fn->List T->Nat->Int × Int
 | f::r,t::l,a=>if (fm p f t a).1≠0 then fm p f t a else fo p r l (a+aP t)
 | _,_,_=>(0,0)
def CX (p:Src) (l:List T):Int × Int :=
 if ea (cK p)=true then (21,0) else if iz p=true then (26,0) else if p.fns.any mD=false then (25,0) else fo p p.fns l 0
def ij (p:Src):Bool:=fI p&&(match jj p.nodes p.fns 0 [] with | some (l,_)=>decide ((CX p l).1=0) | none=>false)
structure SS where
 ls:List ah
 code:Int
 at_:Int
def SS.fail (c:SS) (k a:Int):SS:=if c.code=0 then ⟨c.ls,k,a⟩ else c
def eE (c:SS) (n:Nd) (k want:Nat):SS:=if k≠want then c.fail 23 n.at_ else c
def ft (p:Src) (c:SS) (t:T):SS × Bool :=
 if t.n.s=oT then (eE c t.n t.kids.length 0,true)
 else if t.n.s=pX then (eE c t.n t.kids.length 1,true)
 else if t.n.s=iO then (eE (if t.kids.length=1/\fV p (nF t) c.ls=true then c.fail 24 t.n.at_ else c) t.n t.kids.length 1,false)
 else match p.fns.findIdx? (fun f:Fn=>f.name==t.n.s) with
  | none=>(c.fail 22 t.n.at_,false)
  | some i=>(eE c t.n t.kids.length (lD p i),true)
def jl (p:Src) (c:SS) (t:T):SS × Bool :=
 if t.n.kind=2\/t.n.kind=7 then (if c.ls.contains t.n.s=false/\p.globals.contains t.n.s=false then c.fail 22 t.n.at_ else c,true)
 else if t.n.kind=3\/t.n.kind=8 then (if c.ls.contains t.n.s=true\/D6 p t.n.s < 0 then c.fail 24 t.n.at_ else c,true)
 else if t.n.kind=4 then ft p c t
 else (c,true)
def lL (c:SS) (n:Nd):SS :=
 if n.kind≠13 then c
 else if c.ls.contains n.s=true then ⟨(c.fail 21 n.at_).ls++[n.s],(c.fail 21 n.at_).code,(c.fail 21 n.at_).at_⟩
 else if c.ls.length=40 then ⟨(c.fail 26 n.at_).ls++[n.s],(c.fail 26 n.at_).code,(c.fail 26 n.at_).at_⟩
 else ⟨c.ls++[n.s],c.code,c.at_⟩
mutual
def nm (p:Src):T->SS->SS
 | .mk n l,c=>lL (if (jl p c (.mk n l)).2=true then ic p l (jl p c (.mk n l)).1 else (jl p c (.mk n l)).1) n
def ic (p:Src):List T->SS->SS
 | [],c=>c
 | t::r,c=>ic p r (nm p t c)
end
theorem vm (p:Src) (t:T) (c:SS):nm p t c=lL (if (jl p c t).2=true then ic p t.kids (jl p c t).1 else (jl p c t).1) t.n:=by cases t;rw [nm];rfl
mutual
def ui:T->Prop
 | .mk n l=>n.kind≠13/\kW l
def kW:List T->Prop
 | []=>True
 | t::r=>ui t/\kW r
end
mutual
def gA:T->Prop
 | .mk n l=>(n.kind=13->kW l)/\(n.kind=2->l=[])/\dB l
def dB:List T->Prop
 | []=>True
 | t::r=>gA t/\dB r
end
mutual
theorem W9:∀ t:T,ui (er t)↔ui t
 | .mk n l=>by rw [er,ui,ui,F4 l]
theorem F4:∀ l:List T,kW (aM l)↔kW l
 | []=>by rw [aM]
 | t::r=>by rw [aM,kW,kW,W9 t,F4 r]
end
theorem Sz {l:List T}:aM l=[]↔l=[]:=by
 cases l with
 | nil=>rw [aM]
 | cons t r=>rw [aM];simp
mutual
theorem R5:∀ t:T,gA (er t)↔gA t
 | .mk n l=>by rw [er,gA,gA,F4 l,OI l,Sz]
theorem OI:∀ l:List T,dB (aM l)↔dB l
 | []=>by rw [aM]
 | t::r=>by rw [aM,dB,dB,R5 t,OI r]
end
mutual
theorem E.nv:∀ a:E,ui a.tree
 | .num n=>by rw [E.tree,ui];exact ⟨by simp,trivial⟩
 | .name s=>by rw [E.tree,ui];exact ⟨by simp,trivial⟩
 | .at_ s a=>by rw [E.tree,ui,kW,kW];exact ⟨by simp,E.nv a,trivial⟩
 | .call s l=>by rw [E.tree,ui];exact ⟨by simp,E.Yj l⟩
 | .un s a=>by rw [E.tree,ui,kW,kW];exact ⟨by simp,E.nv a,trivial⟩
 | .bin s a b=>by rw [E.tree,ui,kW,kW,kW];exact ⟨by simp,E.nv a,E.nv b,trivial⟩
theorem E.Yj:∀ l:List E,kW (E.trees l)
 | []=>trivial
 | a::l=>by rw [E.trees,kW];exact ⟨E.nv a,E.Yj l⟩
end
mutual
theorem E.wf:∀ a:E,gA a.tree
 | .num n=>by rw [E.tree,gA];exact ⟨fun h=>absurd h (by simp),fun _=>rfl,trivial⟩
 | .name s=>by rw [E.tree,gA];exact ⟨fun h=>absurd h (by simp),fun _=>rfl,trivial⟩
 | .at_ s a=>by rw [E.tree,gA,dB,dB];exact ⟨fun h=>absurd h (by simp),fun h=>absurd h (by simp),E.wf a,trivial⟩
 | .call s l=>by rw [E.tree,gA];exact ⟨fun h=>absurd h (by simp),fun h=>absurd h (by simp),E.BJ l⟩
 | .un s a=>by rw [E.tree,gA,dB,dB];exact ⟨fun h=>absurd h (by simp),fun h=>absurd h (by simp),E.wf a,trivial⟩
 | .bin s a b=>by rw [E.tree,gA,dB,dB,dB];exact ⟨fun h=>absurd h (by simp),fun h=>absurd h (by simp),E.wf a,E.wf b,trivial⟩
theorem E.BJ:∀ l:List E,dB (E.trees l)
 | []=>trivial
 | a::l=>by rw [E.trees,dB];exact ⟨E.wf a,E.BJ l⟩
end
mutual
theorem S.wf:∀ a:S,gA a.tree
 | .set s a=>by rw [S.tree,gA,dB,dB];exact ⟨fun h=>absurd h (by simp),fun h=>absurd h (by simp),E.wf a,trivial⟩
 | .put s a b=>by rw [S.tree,gA,dB,dB,dB];exact ⟨fun h=>absurd h (by simp),fun h=>absurd h (by simp),E.wf a,E.wf b,trivial⟩
 | .if1 c b=>by rw [S.tree,gA,dB,dB,dB,gA];exact ⟨fun h=>absurd h (by simp),fun h=>absurd h (by simp),E.wf c,⟨fun h=>absurd h (by simp),fun h=>absurd h (by simp),S.BJ b⟩,trivial⟩
 | .if2 c b d=>by rw [S.tree,gA,dB,dB,dB,dB,gA,gA];exact ⟨fun h=>absurd h (by simp),fun h=>absurd h (by simp),E.wf c,⟨fun h=>absurd h (by simp),fun h=>absurd h (by simp),S.BJ b⟩,⟨fun h=>absurd h (by simp),fun h=>absurd h (by simp),S.BJ d⟩,trivial⟩
 | .while_ c b=>by rw [S.tree,gA,dB,dB,dB,gA];exact ⟨fun h=>absurd h (by simp),fun h=>absurd h (by simp),E.wf c,⟨fun h=>absurd h (by simp),fun h=>absurd h (by simp),S.BJ b⟩,trivial⟩
 | .ret a=>by rw [S.tree,gA,dB,dB];exact ⟨fun h=>absurd h (by simp),fun h=>absurd h (by simp),E.wf a,trivial⟩
 | .do_ a=>by rw [S.tree,gA,dB,dB];exact ⟨fun h=>absurd h (by simp),fun h=>absurd h (by simp),E.wf a,trivial⟩
 | .var s a=>by rw [S.tree,gA,dB,dB,kW,kW];exact ⟨fun _=>⟨E.nv a,trivial⟩,fun h=>absurd h (by simp),E.wf a,trivial⟩
theorem S.BJ:∀ l:List S,dB (S.trees l)
 | []=>trivial
 | a::l=>by rw [S.trees,dB];exact ⟨S.wf a,S.BJ l⟩
end
theorem V7 (l:List S):gA (bG l):=by
 rw [bG,gA];exact ⟨fun h=>absurd h (by simp),fun h=>absurd h (by simp),S.BJ l⟩
theorem SS.nU (c:SS) (k a:Int):(c.fail k a).ls=c.ls:=by unfold SS.fail;split <;> rfl
theorem wO (c:SS) (n:Nd) (k w:Nat):(eE c n k w).ls=c.ls:=by unfold eE;split;(· exact c.nU _ _);rfl
theorem vw (p:Src) (c:SS) (t:T):(jl p c t).1.ls=c.ls:=by
 unfold jl ft;split
 ·simp only;split;(· exact c.nU _ _);rfl
 split
 ·simp only;split;(· exact c.nU _ _);rfl
 split
 ·split
  ·exact wO _ _ _ _
  split
  ·exact wO _ _ _ _
  split
  ·simp only;rw [wO];split;(· exact c.nU _ _);rfl
  split
  ·exact c.nU _ _
  ·exact wO _ _ _ _
 ·rfl
mutual
theorem W6 (p:Src):∀ (t:T),ui t->∀ c,(nm p t c).ls=c.ls
 | .mk n l,h,c=>by
  rw [ui] at h;rw [nm,lL,if_pos h.1];split
  ·rw [F3 p l h.2,vw]
  ·exact vw _ _ _
theorem F3 (p:Src):∀ (l:List T),kW l->∀ c,(ic p l c).ls=c.ls
 | [],_,c=>by rw [ic]
 | t::r,h,c=>by
  rw [kW] at h;rw [ic,F3 p r h.2,W6 p t h.1]
end
theorem SS.yu {c:SS} (h:c.code≠0) (k a:Int):c.fail k a=c:=by unfold SS.fail;rw [if_neg h]
theorem SS.pg (c:SS) {k:Int} (hk:k≠0) (a:Int):(c.fail k a).code≠0:=by
 unfold SS.fail;split
 ·exact hk
 ·assumption
theorem QP {c:SS} (h:c.code≠0) (n:Nd) (k w:Nat):eE c n k w=c:=by unfold eE;rw [SS.yu h];split <;> rfl
theorem S9 (p:Src) {c:SS} (h:c.code≠0) (t:T):(jl p c t).1=c:=by
 unfold jl ft;simp only [SS.yu h,QP h,ite_self];split
 ·rfl
 split
 ·rfl
 split
 ·split
  ·rfl
  split
  ·rfl
  split
  ·rfl
  split <;> rfl
 ·rfl
theorem yQ {c:SS} (h:c.code≠0) (n:Nd):(lL c n).code≠0:=by
 unfold lL;rw [SS.yu h,SS.yu h];split
 ·exact h
 split
 ·exact h
 split <;> exact h
mutual
theorem RN (p:Src):∀ (t:T) (c:SS),c.code≠0->(nm p t c).code≠0
 | .mk n l,c,h=>by
  rw [nm];refine yQ ?_ n;rw [S9 p h];split
  ·exact vn p l c h
  ·exact h
theorem vn (p:Src):∀ (l:List T) (c:SS),c.code≠0->(ic p l c).code≠0
 | [],c,h=>by rw [ic];exact h
 | t::r,c,h=>by rw [ic];exact vn p r _ (RN p t c h)
end
theorem Qw (p:Src) {c:CS} (h:c.code≠0) (a:Nat) (t:T) (ls:List ah):cw p c a t ls=c:=by unfold cw;rw [if_pos (.inl h)]
mutual
theorem Wv (p:Src):∀ (t:T) (a:Nat) (c:CS) (ls:List ah),c.code≠0->(iF (cw p) t a c ls).1=c
 | .mk n l,a,c,ls,h=>by rw [iF,Qw p h];exact uY p l _ c ls h
theorem uY (p:Src):∀ (l:List T) (a:Nat) (c:CS) (ls:List ah),c.code≠0->(dW (cw p) l a c ls).1=c
 | [],a,c,ls,h=>by rw [dW]
 | t::r,a,c,ls,h=>by
  have h1:=Wv p t a c ls h;rw [dW,h1];exact uY p r _ c _ h
end
def CO (a:Nat) (r:CS × List ah) (q:SS):Prop:=(r.1.code=0/\q.code=0/\r.2=q.ls/\r.1.skip < (a:Int)/\q.ls.length<=40)\/(r.1.code≠0/\q.code≠0)
theorem Qt (p:Src) (t:T) (FB:t.n.kind=13->kW t.kids) (oJ:∀ k∈t.kids,k.n.kind=2->k.kids=[])
  (ih:∀ (a:Nat) (r:CS) (q:SS),r.code=0->q.code=0->r.skip < (a:Int)->q.ls.length<=40->CO (a+az t.kids) (dW (cw p) t.kids a r q.ls) (ic p t.kids q))
  (a:Nat) (r:CS) (q:SS) (hr:r.code=0) (hq:q.code=0) (hs:r.skip < (a:Int)) (hl:q.ls.length<=40):CO (a+aP t) (iF (cw p) t a r q.ls) (nm p t q):=by
 have bP:¬ (r.code≠0\/(a:Int)=r.skip):=by
  rintro (h | h)
  ·exact h hr
  ·omega
 obtain ⟨pl,cq⟩:∃ pl,cw p r a t q.ls=⟨bY p t q.ls,pl,if dR t=true then (if (nF t).kind≠2 then -1 else ((a+1:Nat):Int)) else r.skip⟩:=by
  unfold cw;rw [if_neg bP];exact ⟨_,rfl⟩
 have cU:=eh t
 have bad:∀ x:SS,bY p t q.ls≠0->x.code≠0->CO (a+aP t) (iF (cw p) t a r q.ls) x:=fun x h1 h2=>by
  refine .inr ⟨?_,h2⟩;rw [uX,cq];simp only;rw [uY p t.kids _ _ _ h1];exact h1
 have go:bY p t q.ls=0->dR t=false->t.n.kind≠13->jl p q t=(q,true)->CO (a+aP t) (iF (cw p) t a r q.ls) (nm p t q):=fun h1 h2 h3 h4=>by
  have:=ih (a+1) ⟨0,pl,r.skip⟩ q rfl hq (by simp only;omega) hl;rw [uX,vm,h4,cq,h1,h2,if_neg h3,lL,if_pos h3];simp only [if_true,Bool.false_eq_true,if_false];rw [show a+aP t=a+1+az t.kids by omega];exact this
 by_cases eI:t.n.kind=13
 ·have hnv:=FB eI
  have hz:dR t=false:=by unfold dR;rw [eI];rfl
  have nD:jl p q t=(q,true):=by unfold jl;rw [if_neg ao,if_neg ao,if_neg ao]
  have mz:(ic p t.kids q).ls=q.ls:=F3 p t.kids hnv q
  have rB:bY p t q.ls=if q.ls.contains t.n.s=true then 21 else if q.ls.length>=40 then 26 else 0:=by
   unfold bY;rw [if_pos eI]
  rw [vm,nD];simp only [if_true]
  by_cases hc:q.ls.contains t.n.s=true
  ·refine bad _ (by rw [rB,if_pos hc];decide) ?_;rw [lL,if_neg (by simpa using eI),mz,if_pos hc];exact SS.pg _ au _
  by_cases h40:q.ls.length>=40
  ·refine bad _ (by rw [rB,if_neg hc,if_pos h40];decide) ?_;rw [lL,if_neg (by simpa using eI),mz,if_neg hc,if_pos ao];exact SS.pg _ au _
  have h0:bY p t q.ls=0:=by rw [rB,if_neg hc,if_neg h40]
  have:=ih (a+1) ⟨0,pl,r.skip⟩ q rfl hq (by simp only;omega) hl;rw [lL,if_neg (by simpa using eI),mz,if_neg hc,if_neg ao,uX,cq,h0,hz,if_pos eI];simp only [Bool.false_eq_true,if_false];rw [show a+aP t=a+1+az t.kids by omega]
  rcases this with ⟨k1,k2,k3,k4,k5⟩ | ⟨k1,k2⟩
  ·refine .inl ⟨k1,k2,?_,k4,?_⟩
   ·show _++_=_++_;rw [k3,mz]
   ·show (q.ls++[t.n.s]).length<=40;rw [length_append,List.length_singleton];omega
  ·exact .inr ⟨k1,k2⟩
 by_cases h2:t.n.kind=2\/t.n.kind=7
 ·have hz:dR t=false:=by
   unfold dR;rw [show (t.n.kind==4)=false by simp;omega];rfl
  by_cases hc:q.ls.contains t.n.s=false/\p.globals.contains t.n.s=false
  ·refine bad _ (by unfold bY;rw [if_neg eI,if_pos h2,if_pos hc];decide) ?_
   have nD:jl p q t=(q.fail 22 t.n.at_,true):=by unfold jl;rw [if_pos h2,if_pos hc]
   rw [vm,nD];refine yQ ?_ t.n;simp only [if_true];exact vn p t.kids _ (SS.pg _ au _)
  ·exact go (by unfold bY;rw [if_neg eI,if_pos h2,if_neg hc]) hz eI (by unfold jl;rw [if_pos h2,if_neg hc])
 by_cases h3:t.n.kind=3\/t.n.kind=8
 ·have hz:dR t=false:=by
   unfold dR;rw [show (t.n.kind==4)=false by simp;omega];rfl
  by_cases hc:q.ls.contains t.n.s=true\/D6 p t.n.s < 0
  ·refine bad _ (by unfold bY;rw [if_neg eI,if_neg h2,if_pos h3,if_pos hc];decide) ?_
   have nD:jl p q t=(q.fail 24 t.n.at_,true):=by unfold jl;rw [if_neg h2,if_pos h3,if_pos hc]
   rw [vm,nD];refine yQ ?_ t.n;simp only [if_true];exact vn p t.kids _ (SS.pg _ au _)
  ·exact go (by unfold bY;rw [if_neg eI,if_neg h2,if_pos h3,if_neg hc]) hz eI (by unfold jl;rw [if_neg h2,if_pos h3,if_neg hc])
 by_cases h4:t.n.kind=4
 ·have rB:bY p t q.ls=eX p t q.ls:=by unfold bY;rw [if_neg eI,if_neg h2,if_neg h3,if_pos h4]
  have nD:jl p q t=ft p q t:=by unfold jl;rw [if_neg h2,if_neg h3,if_pos h4]
  have fin:∀ x:SS × Bool,ft p q t=x->bY p t q.ls≠0->x.1.code≠0->CO (a+aP t) (iF (cw p) t a r q.ls) (nm p t q):=fun x hx h1 h2=>by
   refine bad _ h1 ?_;rw [vm,nD,hx];refine yQ ?_ t.n;split
   ·exact vn p t.kids _ h2
   ·exact h2
  have J8:dR t=((t.n.s==iO)&&(t.kids.length==1)):=by unfold dR;rw [h4];rfl
  have some_:∀ w:Nat,t.n.s≠iO->nk p t.n.s=(w:Int)->ft p q t=(eE q t.n t.kids.length w,true)->CO (a+aP t) (iF (cw p) t a r q.ls) (nm p t q):=fun w e1 e2 e3=>by
   have hz:dR t=false:=by rw [J8,show (t.n.s==iO)=false by simpa using e1];rfl
   have Db:eX p t q.ls=if (w:Int)=(t.kids.length:Int) then 0 else 23:=by
    unfold eX;rw [hz,if_neg au,e2,if_neg ao]
   by_cases hk:t.kids.length=w
   ·refine go (by rw [rB,Db,if_pos ao]) hz eI ?_;rw [nD,e3,eE,if_neg (by simpa using hk)]
   ·refine fin _ e3 (by rw [rB,Db,if_neg ao];decide) ?_;rw [eE,if_pos hk];exact SS.pg _ au _
  by_cases hg:t.n.s=oT
  ·exact some_ 0 (by rw [hg];decide) (by unfold nk;rw [if_pos hg];rfl) (by unfold ft;rw [if_pos hg])
  by_cases hp:t.n.s=pX
  ·exact some_ 1 (by rw [hp];decide) (by unfold nk;rw [if_neg hg,if_pos (.inl hp)];rfl) (by unfold ft;rw [if_neg hg,if_pos hp])
  by_cases hz:t.n.s=iO
  ·have eK:ft p q t=(eE (if t.kids.length=1/\fV p (nF t) q.ls=true then q.fail 24 t.n.at_ else q) t.n t.kids.length 1,false):=by
    unfold ft;rw [if_neg hg,if_neg hp,if_pos hz]
   by_cases hk:t.kids.length=1
   ·have gz:dR t=true:=by rw [J8,hz,hk];rfl
    have Db:eX p t q.ls=if fV p (nF t) q.ls=true then 24 else 0:=by unfold eX;rw [if_pos gz]
    by_cases hb:fV p (nF t) q.ls=true
    ·refine fin _ eK (by rw [rB,Db,if_pos hb];decide) ?_;rw [if_pos ⟨hk,hb⟩,eE,if_neg (by simpa using hk)];exact SS.pg _ au _
    ·have Y8:ft p q t=(q,false):=by rw [eK,if_neg (fun h=>hb h.2),eE,if_neg (by simpa using hk)]
     rw [vm,nD,Y8,lL,if_pos eI];simp only [Bool.false_eq_true,if_false]
     have h0:bY p t q.ls=0:=by rw [rB,Db,if_neg hb]
     obtain ⟨k,iM⟩:∃ k,t.kids=[k]:=by
      match hl:t.kids,hk with
      | [k],_=>exact ⟨k,rfl⟩
     have zk:nF t=k.n:=by unfold nF;rw [iM]
     have oh:k.n.kind=2:=by
      have:fV p k.n q.ls=false:=by rw [<-zk];simpa using hb
      unfold fV at this;simp only [Bool.or_eq_false_iff] at this;simpa using this.1.1
     have eS:k.kids=[]:=oJ k (by rw [iM];exact List.mem_singleton.2 rfl) oh
     have r8:aP k=1:=by rw [eh,eS,az]
     have PC:∀ c:CS,((a+1:Nat):Int)=c.skip->cw p c (a+1) k q.ls=c:=fun c hc=>by unfold cw;rw [if_pos (.inr hc)]
     rw [uX,cq,h0,gz,if_neg eI,iM,zk];simp only [if_true,dW];rw [uX,eS];simp only [dW];rw [if_neg (by rw [oh];decide),PC _ rfl,if_neg (by rw [oh];decide)];refine .inl ⟨rfl,hq,rfl,?_,hl⟩;rw [cU,iM,az,az,r8];simp only;omega
   ·have rE:dR t=false:=by rw [J8,show (t.kids.length==1)=false by simpa using hk,Bool.and_false]
    refine fin _ eK ?_ ?_
    ·rw [rB];unfold eX;rw [rE,if_neg au]
     have:nk p t.n.s=1:=by unfold nk;rw [if_neg hg,if_pos (.inr hz)]
     rw [this,if_neg au,if_neg ao];decide
    ·rw [if_neg (fun h=>hk h.1),eE,if_pos hk];exact SS.pg _ au _
  have eL:nk p t.n.s=match p.fns.findIdx? (fun f:Fn=>f.name==t.n.s) with | some i=>(lD p i:Int) | none => -1:=by
   unfold nk;rw [if_neg hg,if_neg (by rintro (h | h);(· exact hp h);exact hz h)]
  have eK:ft p q t=match p.fns.findIdx? (fun f:Fn=>f.name==t.n.s) with | none=>(q.fail 22 t.n.at_,false) | some i=>(eE q t.n t.kids.length (lD p i),true):=by
   unfold ft;rw [if_neg hg,if_neg hp,if_neg hz]
  cases hf:p.fns.findIdx? (fun f:Fn=>f.name==t.n.s) with
  | some i =>
   rw [hf] at eL eK;exact some_ (lD p i) hz eL eK
  | none =>
   rw [hf] at eL eK;refine fin _ eK ?_ (SS.pg _ au _);rw [rB];unfold eX;rw [J8,show (t.n.s==iO)=false by simpa using hz,Bool.false_and,if_neg au,eL];simp
 ·exact go (by unfold bY;rw [if_neg eI,if_neg h2,if_neg h3,if_neg h4]) (by unfold dR;rw [show (t.n.kind==4)=false by simpa using h4];rfl) eI
   (by unfold jl;rw [if_neg h2,if_neg h3,if_neg h4])
theorem GY:∀ {l:List T},dB l->∀ k∈l,gA k
 | [],_,k,hk=>by cases hk
 | t::r,h,k,hk=>by
  rw [dB] at h
  rcases List.mem_cons.1 hk with rfl | hk
  ·exact h.1
  ·exact GY h.2 k hk
mutual
theorem VR (p:Src):∀ (t:T),gA t->∀ (a:Nat) (r:CS) (q:SS),r.code=0->q.code=0->r.skip < (a:Int)->q.ls.length<=40->CO (a+aP t) (iF (cw p) t a r q.ls) (nm p t q)
 | .mk n l,hw=>by
  rw [gA] at hw;refine Qt p (.mk n l) hw.1 (fun k hk h2=>?_) (VQ p l hw.2.2);have:=GY hw.2.2 k hk;obtain ⟨m,j⟩:=k;rw [gA] at this;exact this.2.1 h2
theorem VQ (p:Src):∀ (l:List T),dB l->∀ (a:Nat) (r:CS) (q:SS),r.code=0->q.code=0->r.skip < (a:Int)->q.ls.length<=40->CO (a+az l) (dW (cw p) l a r q.ls) (ic p l q)
 | [],_,a,r,q,hr,hq,hs,hl=>by rw [dW,ic,az];exact .inl ⟨hr,hq,rfl,by simpa using hs,hl⟩
 | t::l,hw,a,r,q,hr,hq,hs,hl=>by
  rw [dB] at hw;rw [dW,ic,az]
  rcases VR p t hw.1 a r q hr hq hs hl with ⟨k1,k2,k3,k4,k5⟩ | ⟨k1,k2⟩
  ·rw [k3];have:=VQ p l hw.2 (a+aP t) _ _ k1 k2 k4 k5;rw [Nat.add_assoc] at this;exact this
  ·exact .inr ⟨by rw [uY p l _ _ _ k1];exact k1,vn p l _ k2⟩
end
def fL (c k:Int):Int:=if c=0 then k else c
def mc (a:Ar):Bool:=decide (a.size < 1) || decide (a.size > 8000)
def jG (p:Src):Bool:=match p.fns.findIdx? (fun f:Fn=>f.name==vj) with | none=>true | some i=>decide (lD p i > 0)
def sN (p:Src):Bool:=(decide (p.fns.length > 40) || decide (p.globals.length > 29)) || decide (dE p.arrays > 8000)
def qU (p:Src) (c:Int):Int :=
 if p.arrays.any mc=true then fL c 26
 else if jG p=true then fL (if (p.fns.any fun f=>decide (f.params.length > 40))=true then fL (if sN p=true then fL c 26 else c) 26 else (if sN p=true then fL c 26 else c)) 25
 else if (p.fns.any fun f=>decide (f.params.length > 40))=true then fL (if sN p=true then fL c 26 else c) 26 else (if sN p=true then fL c 26 else c)
def p8 (f:Fn) (c:SS):SS:=⟨f.params,if uA f.params=true then fL c.code 21 else c.code,if uA f.params=true/\c.code=0 then 0 else c.at_⟩
def ny (p:Src):List Fn->List T->SS->SS
 | f::r,t::l,c=>ny p r l (if c.code=0 then nm p t (p8 f c) else c)
 | _,_,c=>c
def LZ (p:Src) (l:List T):SS:=ny p p.fns l ⟨[],qU p (if ea (cK p)=true then 21 else 0),0⟩
theorem yw (p:Src):∀ (fs:List Fn) (l:List T) (c:SS),c.code≠0->(ny p fs l c).code≠0
 | f::r,t::l,c,h=>by rw [ny,if_neg h];exact yw p r l c h
 | [],_,c,h=>by rw [ny];(· exact h);intros;simp_all
 | f::r,[],c,h=>by rw [ny];(· exact h);intros;simp_all
theorem Ue (p:Src) (f:Fn) (t:T) (a:Nat) (c:SS) (hw:gA t) (hc:c.code=0) (hp:f.params.length<=40):(fm p f t a).1=0↔(nm p t (p8 f c)).code=0:=by
 unfold fm
 by_cases hd:uA f.params=true
 ·rw [if_pos hd]
  have:(p8 f c).code≠0:=by unfold p8;rw [if_pos hd];unfold fL;rw [if_pos hc];show (21:Int)≠0;decide
  have h2:=RN p t _ this;constructor
  ·intro h;cases h
  ·intro h;exact absurd h h2
 ·rw [if_neg hd]
  have hq:(p8 f c).code=0:=by unfold p8;rw [if_neg hd];exact hc
  have h1:=VR p t hw a ⟨0,0,-1⟩ (p8 f c) rfl hq (by show (-1:Int) < _;omega) hp;show (iF (cw p) t a ⟨0,0,-1⟩ (p8 f c).ls).1.code=0↔_
  rcases h1 with ⟨k1,k2,_⟩ | ⟨k1,k2⟩
  ·exact ⟨fun _=>k2,fun _=>k1⟩
  ·exact ⟨fun h=>absurd h k1,fun h=>absurd h k2⟩
theorem Ip (p:Src):∀ (fs:List Fn) (l:List T) (a:Nat) (c:SS),c.code=0->(∀ t∈l,gA t)->(∀ f∈fs,f.params.length<=40)->((fo p fs l a).1=0↔(ny p fs l c).code=0)
 | f::r,t::l,a,c,hc,hw,hp=>by
  have h1:=Ue p f t a c (hw t mem_cons_self) hc (hp f mem_cons_self);rw [fo,ny,if_pos hc]
  by_cases h:(fm p f t a).1=0
  ·rw [if_neg (by simpa using h)];exact Ip p r l _ _ (h1.1 h) (fun u hu=>hw u (mem_cons_of_mem _ hu)) (fun g hg=>hp g (mem_cons_of_mem _ hg))
  ·rw [if_pos h]
   have h2:(nm p t (p8 f c)).code≠0:=fun e=>h (h1.2 e)
   exact ⟨fun e=>absurd e h,fun e=>absurd e (yw p r l _ h2)⟩
 | [],_,a,c,hc,_,_=>by rw [fo,ny];(· exact ⟨fun _=>hc,fun _=>rfl⟩);all_goals (intros;simp_all)
 | f::r,[],a,c,hc,_,_=>by rw [fo,ny];(· exact ⟨fun _=>hc,fun _=>rfl⟩);all_goals (intros;simp_all)
theorem cells_from (l:List Ar):∀ n:Int,l.foldl (fun n a=>n+a.size) n=n+dE l:=by
 induction l with
 | nil=>intro n;simp [dE]
 | cons a l ih =>
  intro n;unfold dE;rw [foldl_cons,foldl_cons,ih,ih (0+a.size)];omega
theorem JM (a:Ar) (l:List Ar):dE (a::l)=a.size+dE l:=by
 unfold dE;rw [foldl_cons,cells_from];unfold dE;omega
theorem O5 {l:List Ar} (h:∀ a∈l,0<=a.size):0<=dE l/\∀ a∈l,a.size<=dE l:=by
 induction l with
 | nil=>exact ⟨by simp [dE],fun a h=>by cases h⟩
 | cons b l ih =>
  obtain ⟨h1,h2⟩:=ih fun a ha=>h a (mem_cons_of_mem _ ha)
  have hb:=h b mem_cons_self;rw [JM];refine ⟨by omega,fun a ha=>?_⟩
  rcases List.mem_cons.1 ha with rfl | ha
  ·omega
  ·have:=h2 a ha;omega
theorem Hc {l:List ah} (h:ea l=false) {i j:Nat} {s:ah} (hi:l[i]?=some s) (hj:l[j]?=some s):i=j:=by
 have key:∀ x y:Nat,x < y->l[x]?=some s->l[y]?=some s->False:=fun x y iV h1 h2=>by
  have hy:=(List.getElem?_eq_some_iff.1 h2).1;unfold ea at h;rw [any_eq_false] at h;have:=h y (List.mem_range.2 hy);unfold kl at this;rw [h2] at this;simp only [Bool.or_eq_true,not_or] at this;apply this.2;rw [contains_iff_mem];rw [List.mem_take_iff_getElem];have hx:=(List.getElem?_eq_some_iff.1 h1);exact ⟨x,by have:=hx.1;omega,hx.2⟩
 rcases Nat.lt_trichotomy i j with h1 | h1 | h1
 ·exact (key i j h1 hi hj).elim
 ·exact h1
 ·exact (key j i h1 hj hi).elim
theorem FQ {p:Src} (h:ea (cK p)=false):p.fns.any mD=true↔jG p=false:=by
 have wV:∀ (i:Nat) f,p.fns[i]?=some f->(cK p)[(p.globals++eN p).length+i]?=some f.name:=fun i f hf=>by
  unfold cK;rw [List.getElem?_append_right ao,Nat.add_sub_cancel_left,ir,List.getElem?_map,hf];rfl
 unfold jG
 cases hf:p.fns.findIdx? (fun f:Fn=>f.name==vj) with
 | none =>
  rw [List.findIdx?_eq_none_iff] at hf;constructor
  ·intro h1;obtain ⟨f,h2,h3⟩:=List.any_eq_true.1 h1;unfold mD at h3;have:=hf f h2;rw [this] at h3;cases h3
  ·intro h1;cases h1
 | some i =>
  rw [List.findIdx?_eq_some_iff_getElem] at hf;obtain ⟨hi,h1,h2⟩:=hf
  have zi:p.fns[i]?=some p.fns[i]:=by simp [hi]
  simp only [lD,zi];constructor
  ·intro h3;obtain ⟨f,h4,h5⟩:=List.any_eq_true.1 h3;obtain ⟨j,hj⟩:=List.getElem?_of_mem h4;unfold mD at h5;simp only [Bool.and_eq_true,beq_iff_eq] at h5 h1;have e1:=wV i _ zi;have e2:=wV j f hj;rw [h1] at e1;rw [h5.1] at e2;have:=Hc h e1 e2
   have:i=j:=by omega
   subst this;rw [hj] at zi;cases zi;simp [h5.2]
  ·intro h3;simp only [gt_iff_lt,decide_eq_false_iff_not,Nat.not_lt,Nat.le_zero] at h3;exact List.any_eq_true.2 ⟨p.fns[i],List.getElem_mem hi,by unfold mD;rw [h1,h3];rfl⟩
theorem Tm {p:Src} (ha:∀ a∈p.arrays,0<=a.size):(iz p=false/\jG p=false)↔qU p 0=0:=by
 obtain ⟨pP,hc⟩:=O5 ha;have f26:fL 0 26=26:=rfl
 have f25:∀ c,c≠0->fL c 25=c:=fun c h=>by unfold fL;rw [if_neg h]
 have Yu:∀ c,fL c 25≠0:=fun c=>by
  unfold fL;split
  ·decide
  ·assumption
 have Yv:∀ c,fL c 26≠0:=fun c=>by
  unfold fL;split
  ·decide
  ·assumption
 unfold qU
 by_cases h1:p.arrays.any mc=true
 ·rw [if_pos h1,f26];refine ⟨fun h=>?_,fun h=>by cases h⟩;obtain ⟨a,h2,h3⟩:=List.any_eq_true.1 h1;have h4:=h.1;unfold iz at h4;simp only [Bool.or_eq_false_iff,decide_eq_false_iff_not] at h4;have h5:=List.any_eq_false.1 h4.1 a h2;have h6:=hc a h2;have h7:=ha a h2;unfold mc at h3;simp only [Bool.or_eq_true,decide_eq_true_eq] at h3;simp only [beq_iff_eq] at h5;have h8:=h4.2.1.2;omega
 rw [if_neg h1]
 have hz:p.arrays.any (fun a=>a.size==0)=false:=by
  rw [any_eq_false];intro a h2 h3;apply h1;refine List.any_eq_true.2 ⟨a,h2,?_⟩;unfold mc;simp only [beq_iff_eq] at h3;rw [h3];rfl
 have htm:iz p=(sN p || p.fns.any fun f=>decide (f.params.length > 40)):=by
  unfold iz sN;rw [hz,Bool.false_or]
 rw [htm]
 by_cases h2:jG p=true
 ·rw [if_pos h2];exact ⟨fun h=>(by rw [h2] at h;cases h.2),fun h=>absurd h (Yu _)⟩
 rw [if_neg h2]
 have qo:jG p=false:=by simpa using h2
 by_cases h3:(p.fns.any fun f=>decide (f.params.length > 40))=true
 ·rw [if_pos h3,h3,Bool.or_true];exact ⟨fun h=>(by cases h.1),fun h=>absurd h (Yv _)⟩
 rw [if_neg h3,show (p.fns.any fun f=>decide (f.params.length > 40))=false by simpa using h3,Bool.or_false]
 by_cases h4:sN p=true
 ·rw [if_pos h4,h4];exact ⟨fun h=>(by cases h.1),fun h=>(by cases h)⟩
 ·rw [if_neg h4];exact ⟨fun _=>rfl,fun _=>⟨by simpa using h4,qo⟩⟩
theorem TS {p:Src} {l:List T} (ha:∀ a∈p.arrays,0<=a.size) (hw:∀ t∈l,gA t):(CX p l).1=0↔(LZ p l).code=0:=by
 have ne:qU p 21≠0:=by
  have f:∀ c k,c≠0->fL c k=c:=fun c k h=>by unfold fL;rw [if_neg h]
  unfold qU;simp only [f 21 26 au,ite_self,f 21 25 au]
  decide
 unfold CX LZ
 by_cases h1:ea (cK p)=true
 ·rw [if_pos h1,if_pos h1];exact ⟨fun h=>(by cases h),fun h=>absurd h (yw p _ _ _ ne)⟩
 rw [if_neg h1,if_neg h1];have hs:=Tm ha
 by_cases h2:qU p 0=0
 ·obtain ⟨h3,h4⟩:=hs.2 h2;rw [if_neg (by rw [h3];decide),if_neg (by rw [(FQ (by simpa using h1)).2 h4];decide),h2]
  refine Ip p _ _ _ _ rfl hw fun f hf=>?_
  unfold iz at h3;simp only [Bool.or_eq_false_iff] at h3;have:=List.any_eq_false.1 h3.2.2 f hf;simpa using this
 ·refine ⟨fun h=>?_,fun h=>absurd h (yw p _ _ _ h2)⟩;exfalso;apply h2;apply hs.1
  by_cases h3:iz p=true
  ·rw [if_pos h3] at h;cases h
  ·rw [if_neg h3] at h
   by_cases h4:p.fns.any mD=false
   ·rw [if_pos h4] at h;cases h
   ·exact ⟨by simpa using h3,(FQ (by simpa using h1)).1 (by simpa using h4)⟩
mutual
def wL:T->List ah
 | .mk n l=>mJ l++(if n.kind=13 then [n.s] else [])
def mJ:List T->List ah
 | []=>[]
 | t::r=>wL t++mJ r
end
theorem QL (t:T):wL t=mJ t.kids++(if t.n.kind=13 then [t.n.s] else []):=by cases t;rw [wL];rfl
mutual
theorem Ih {σ:Type} (f:σ->Nat->T->List ah->σ):∀ (t:T) (a:Nat) (s:σ) (ls:List ah),(iF f t a s ls).2=ls++wL t
 | .mk n l,a,s,ls=>by
  rw [iF,wL];simp only;rw [qE f l];split
  ·rw [append_assoc]
  ·rw [append_nil]
theorem qE {σ:Type} (f:σ->Nat->T->List ah->σ):∀ (l:List T) (a:Nat) (s:σ) (ls:List ah),(dW f l a s ls).2=ls++mJ l
 | [],a,s,ls=>by rw [dW,mJ,append_nil]
 | t::r,a,s,ls=>by rw [dW,qE f r,Ih f t,mJ,append_assoc]
end
mutual
def I7 (p:Src):T->List ah->Prop
 | .mk n l,ls=>bY p (.mk n l) ls=0/\(dR (.mk n l)=false->KL p l ls)
def KL (p:Src):List T->List ah->Prop
 | [],_=>True
 | t::r,ls=>I7 p t ls/\KL p r (ls++wL t)
end
mutual
theorem RP (p:Src):∀ (t:T),gA t->∀ (a:Nat) (r:CS) (ls:List ah),r.code=0->r.skip < (a:Int)->(iF (cw p) t a r ls).1.code=0->I7 p t ls/\(iF (cw p) t a r ls).1.skip < ((a+aP t:Nat):Int)
 | .mk n l,hw,a,r,ls,hr,hs,hc=>by
  rw [gA] at hw
  have bP:¬ (r.code≠0\/(a:Int)=r.skip):=by
   rintro (h | h)
   ·exact h hr
   ·omega
  obtain ⟨pl,cq⟩:∃ pl,cw p r a (.mk n l) ls=⟨bY p (.mk n l) ls,pl,if dR (.mk n l)=true then (if (nF (.mk n l)).kind≠2 then -1 else ((a+1:Nat):Int)) else r.skip⟩:=by
   unfold cw;rw [if_neg bP];exact ⟨_,rfl⟩
  rw [iF] at hc |-;simp only at hc |-;rw [cq] at hc |-
  have h0:bY p (.mk n l) ls=0:=by
   by_cases h0:bY p (.mk n l) ls=0
   ·exact h0
   ·rw [uY p l _ _ _ h0] at hc;exact hc
  rw [h0] at hc |-
  by_cases hz:dR (.mk n l)=true
  ·have hk:l.length=1:=by
    unfold dR at hz;simp only [Bool.and_eq_true,beq_iff_eq] at hz;exact hz.2
   have h4:n.kind=4/\n.s=iO:=by
    unfold dR at hz;simp only [Bool.and_eq_true,beq_iff_eq] at hz;exact hz.1
   have hb:fV p (nF (.mk n l)) ls=false:=by
    have e:bY p (.mk n l) ls=eX p (.mk n l) ls:=by
     unfold bY;rw [if_neg (by show ¬ n.kind=13;omega),if_neg (by show ¬ (n.kind=2\/n.kind=7);omega),if_neg (by show ¬ (n.kind=3\/n.kind=8);omega),if_pos (by show n.kind=4;omega)]
    rw [e] at h0;unfold eX at h0;rw [if_pos hz] at h0
    by_cases hb:fV p (nF (.mk n l)) ls=true
    ·rw [if_pos hb] at h0;cases h0
    ·simpa using hb
   have oh:(nF (.mk n l)).kind=2:=by
    unfold fV at hb;simp only [Bool.or_eq_false_iff] at hb;simpa using hb.1.1
   rw [if_pos hz,if_neg (by rw [oh];decide)] at hc |-
   match l,hk,hw with
   | [k],_,hw =>
    have Zd:k.n.kind=2:=oh;rw [dB] at hw
    have eS:k.kids=[]:=by
     have:=hw.2.2.1;obtain ⟨m,j⟩:=k;rw [gA] at this;exact this.2.1 Zd
    have r8:aP k=1:=by rw [eh,eS,az]
    refine ⟨by rw [I7];exact ⟨h0,fun h=>by rw [hz] at h;cases h⟩,?_⟩;simp only [dW];rw [uX,eS];simp only [dW]
    have PC:cw p ⟨0,pl,((a+1:Nat):Int)⟩ (a+1) k ls=⟨0,pl,((a+1:Nat):Int)⟩:=by unfold cw;rw [if_pos (.inr rfl)]
    rw [PC,aP,az,az,r8];simp only;omega
  ·have Ya:dR (.mk n l)=false:=by simpa using hz
   rw [if_neg hz] at hc |-;have h:=NS p l hw.2.2 (a+1) ⟨0,pl,r.skip⟩ ls rfl (by simp only;omega) hc;refine ⟨by rw [I7];exact ⟨h0,fun _=>h.1⟩,?_⟩;rw [aP,show a+(az l+1)=a+1+az l by omega];exact h.2
theorem NS (p:Src):∀ (l:List T),dB l->∀ (a:Nat) (r:CS) (ls:List ah),r.code=0->r.skip < (a:Int)->(dW (cw p) l a r ls).1.code=0->KL p l ls/\(dW (cw p) l a r ls).1.skip < ((a+az l:Nat):Int)
 | [],_,a,r,ls,hr,hs,hc=>by rw [dW,az];exact ⟨trivial,by simpa using hs⟩
 | t::l,hw,a,r,ls,hr,hs,hc=>by
  rw [dB] at hw;rw [dW] at hc |-
  have h1:(iF (cw p) t a r ls).1.code=0:=by
   by_cases h1:(iF (cw p) t a r ls).1.code=0
   ·exact h1
   ·rw [uY p l _ _ _ h1] at hc;exact hc
  obtain ⟨h2,h3⟩:=RP p t hw.1 a r ls hr hs h1;obtain ⟨h4,h5⟩:=NS p l hw.2 _ _ _ h1 h3 hc;rw [Ih] at h4;rw [KL,az,<-Nat.add_assoc];exact ⟨⟨h2,h4⟩,h5⟩
end
mutual
def zT:T->Prop
 | .mk n l=>(n.kind≠1->n.n=0)/\gY l
def gY:List T->Prop
 | []=>True
 | t::r=>zT t/\gY r
end
mutual
theorem Wd:∀ t:T,zT (er t)↔zT t
 | .mk n l=>by rw [er,zT,zT,R7 l]
theorem R7:∀ l:List T,gY (aM l)↔gY l
 | []=>by rw [aM]
 | t::r=>by rw [aM,gY,gY,Wd t,R7 r]
end
mutual
theorem E.z:∀ a:E,zT a.tree
 | .num n=>by rw [E.tree,zT];exact ⟨fun h=>absurd rfl h,trivial⟩
 | .name s=>by rw [E.tree,zT];exact ⟨fun _=>rfl,trivial⟩
 | .at_ s a=>by rw [E.tree,zT,gY,gY];exact ⟨fun _=>rfl,E.z a,trivial⟩
 | .call s l=>by rw [E.tree,zT];exact ⟨fun _=>rfl,E.zs l⟩
 | .un s a=>by rw [E.tree,zT,gY,gY];exact ⟨fun _=>rfl,E.z a,trivial⟩
 | .bin s a b=>by rw [E.tree,zT,gY,gY,gY];exact ⟨fun _=>rfl,E.z a,E.z b,trivial⟩
theorem E.zs:∀ l:List E,gY (E.trees l)
 | []=>trivial
 | a::l=>by rw [E.trees,gY];exact ⟨E.z a,E.zs l⟩
end
mutual
theorem S.z:∀ a:S,zT a.tree
 | .set s a=>by rw [S.tree,zT,gY,gY];exact ⟨fun _=>rfl,E.z a,trivial⟩
 | .put s a b=>by rw [S.tree,zT,gY,gY,gY];exact ⟨fun _=>rfl,E.z a,E.z b,trivial⟩
 | .if1 c b=>by rw [S.tree,zT,gY,gY,gY,zT];exact ⟨fun _=>rfl,E.z c,⟨fun _=>rfl,S.zs b⟩,trivial⟩
 | .if2 c b d=>by rw [S.tree,zT,gY,gY,gY,gY,zT,zT];exact ⟨fun _=>rfl,E.z c,⟨fun _=>rfl,S.zs b⟩,⟨fun _=>rfl,S.zs d⟩,trivial⟩
 | .while_ c b=>by rw [S.tree,zT,gY,gY,gY,zT];exact ⟨fun _=>rfl,E.z c,⟨fun _=>rfl,S.zs b⟩,trivial⟩
 | .ret a=>by rw [S.tree,zT,gY,gY];exact ⟨fun _=>rfl,E.z a,trivial⟩
 | .do_ a=>by rw [S.tree,zT,gY,gY];exact ⟨fun _=>rfl,E.z a,trivial⟩
 | .var s a=>by rw [S.tree,zT,gY,gY];exact ⟨fun _=>rfl,E.z a,trivial⟩
theorem S.zs:∀ l:List S,gY (S.trees l)
 | []=>trivial
 | a::l=>by rw [S.trees,gY];exact ⟨S.z a,S.zs l⟩
end
theorem Xv (l:List S):zT (bG l):=by rw [bG,zT];exact ⟨fun _=>rfl,S.zs l⟩
section
variable (p:Src) (names:List ah) (name:ah)
end
theorem Forms.wf {l:List T} {ls:List (List S)} (h:Forms l ls) {i:Nat} {t:T} (ht:l[i]?=some t):gA t/\zT t:=by
 have hi:=(List.getElem?_eq_some_iff.1 ht).1;have hlen:=h.len;have hb:ls[i]?=some (ls[i]'ao):=getElem?_eq_getElem _;obtain ⟨_,h2⟩:=h.at_ i t _ ht hb;exact ⟨(R5 t).1 (by rw [h2];exact V7 _),(Wd t).1 (by rw [h2];exact Xv _)⟩
theorem Mw (p:Src):∀ (fs:List Fn) (l:List T) (a:Nat),(fo p fs l a).1=0->∀ (i:Nat) f t,fs[i]?=some f->l[i]?=some t->∃ b,(fm p f t b).1=0
 | f::r,t::l,a,h,0,g,u,h1,h2=>by
  cases h1;cases h2
  rw [fo] at h
  by_cases hc:(fm p f t a).1=0
  ·exact ⟨a,hc⟩
  ·rw [if_pos hc] at h;exact absurd h hc
 | f::r,t::l,a,h,i+1,g,u,h1,h2=>by
  rw [fo] at h
  by_cases hc:(fm p f t a).1=0
  ·rw [if_neg (by simpa using hc)] at h;exact Mw p r l _ h i g u (by simpa using h1) (by simpa using h2)
  ·rw [if_pos hc] at h;exact absurd h hc
 | [],_,a,h,i,g,u,h1,h2=>by simp at h1
 | f::r,[],a,h,i,g,u,h1,h2=>by simp at h2
structure Good (p:Src) (l:List T):Prop where
 st:fK p l
 test:fI p=true
 names:ea (cK p)=false
 len:p.fns.length=l.length
 at_:∀ (i:Nat) f t,p.fns[i]?=some f->l[i]?=some t->I7 p t f.params/\gA t/\zT t/\eu p.nodes f.body.toNat t/\0<=f.body
theorem SK {p:Src} (h:ij p=true):∃ l,Good p l:=by
 unfold ij at h;rw [Bool.and_eq_true] at h;obtain ⟨hf,h⟩:=h;obtain ⟨l,hl⟩:=tR hf;rw [hl.ED] at h;simp only [decide_eq_true_eq] at h;obtain ⟨ls,hm⟩:=hl.JX
 have hb:ea (cK p)=false:=by
  unfold CX at h
  by_cases hb:ea (cK p)=true
  ·rw [if_pos hb] at h;cases h
  ·simpa using hb
 have iL:(fo p p.fns l 0).1=0:=by
  unfold CX at h;rw [if_neg (by rw [hb];decide)] at h;split at h
  ·cases h
  split at h
  ·cases h
  ·exact h
 refine ⟨l,hl,hf,hb,fx.len hl.fns,fun i f t h1 h2=>?_⟩;obtain ⟨b,hc⟩:=Mw p _ _ _ iL i f t h1 h2;obtain ⟨w1,w2⟩:=hm.wf h2;unfold fm at hc
 have hd:¬ uA f.params=true:=fun hd=>by rw [if_pos hd] at hc;cases hc
 rw [if_neg hd] at hc;have hi:=(List.getElem?_eq_some_iff.1 h2).1;obtain ⟨h5,h6⟩:=fx.at_ hl.fns i f t h1 h2;have h7:=dy.ix l 0 i _ hl.st h2;rw [Nat.zero_add] at h5 h7;refine ⟨(RP p t w1 b ⟨0,0,-1⟩ f.params rfl (by show (-1:Int) < _;omega) hc).1,w1,w2,?_,by omega⟩;rw [h5,Int.toNat_natCast];exact h7
theorem EN {σ:Type} (f:σ->Nat->T->List ah->σ) (t:T):∀ (l:List T) (a:Nat) (s:σ) (ls:List ah),dW f (l++[t]) a s ls=iF f t (a+az l) (dW f l a s ls).1 (dW f l a s ls).2
 | [],a,s,ls=>by rw [List.nil_append,dW,dW,dW,az,Nat.add_zero]
 | u::l,a,s,ls=>by rw [List.cons_append,dW,EN f t l,dW,az,Nat.add_assoc]
theorem EO {σ:Type} (f:σ->Nat->T->List ah->σ) {l:List T} {k:Nat} {t:T} (h:l[k]?=some t) (a:Nat) (s:σ) (ls:List ah) :
  dW f (l.take (k+1)) a s ls=iF f t (a+az (l.take k)) (dW f (l.take k) a s ls).1 (dW f (l.take k) a s ls).2:=by
 have:l.take (k+1)=l.take k++[t]:=by rw [take_add_one,h];rfl
 rw [this,EN]
theorem xT:∀ {l:List T} {n k:Nat} {t:T},l[k]?=some t->(bX n l)[k]?=some (((n+az (l.take k):Nat)):Int)
 | u::l,n,0,t,h=>by simp [bX,az]
 | u::l,n,k+1,t,h=>by
  have:=xT (l:=l) (n:=n+aP u) (k:=k) (t:=t) (by simpa using h);rw [bX,List.getElem?_cons_succ,this,List.take_succ_cons,az,Nat.add_assoc]
 | [],n,k,t,h=>by simp at h
theorem tF {l:List T} {k:Nat} {t:T} (h:l[k]?=some t):az (l.take k)+aP t<=az l:=by
 have h1:l.take (k+1)=l.take k++[t]:=by rw [take_add_one,h];rfl
 have h2:az l=az (l.take (k+1))+az (l.drop (k+1)):=by rw [<-mQ,List.take_append_drop]
 rw [h1,mQ,az,az] at h2;omega
theorem QA {l:List T} {k:Nat} {t:T} (h:l[k]?=some t):az (l.take (k+1))=az (l.take k)+aP t:=by
 have h1:l.take (k+1)=l.take k++[t]:=by rw [take_add_one,h];rfl
 rw [h1,mQ,az,az,Nat.add_zero]
theorem QM:∀ (N:Nat) (t:T),aP t<=N->(wL t).length<=aP t:=by
 intro N
 induction N with
 | zero=>intro t h;have:=ko t;omega
 | succ N ih =>
  intro t h
  have key:∀ l:List T,az l<=N->(mJ l).length<=az l:=by
   intro l
   induction l with
   | nil=>intro _;simp [mJ]
   | cons u l ih2 =>
    intro h;rw [az] at h;have:=ih u ao;have:=ih2 ao;rw [mJ,length_append,az];omega
  rw [eh] at h |-;have:=key t.kids ao;rw [QL,length_append];split <;> simp <;> omega
theorem ur (l:List T):(mJ l).length<=az l:=by
 induction l with
 | nil=>simp [mJ]
 | cons u l ih =>
  have:=QM _ u (Nat.le_refl _);rw [mJ,length_append,az];omega
theorem l6 {α:Type} {f:α->Bool} {l:List α} {k:Nat} {x:α} (hk:l[k]?=some x) (h:f x=true) (aQ:(l.take k).all (fun y=>!f y)=true):cE f l=(k:Int):=by
 have ak:k < l.length:=by
  rcases Nat.lt_or_ge k l.length with h1 | h1
  ·exact h1
  ·rw [getElem?_eq_none h1] at hk;cases hk
 have hx:l[k]=x:=by rw [getElem?_eq_getElem ak] at hk;exact Option.some.inj hk
 have:l.findIdx? f=some k:=by
  rw [List.findIdx?_eq_some_iff_getElem];refine ⟨ak,by rw [hx];exact h,fun j hj=>?_⟩;rw [all_eq_true] at aQ;have:=aQ l[j] (by rw [List.mem_take_iff_getElem];exact ⟨j,by omega,rfl⟩);simpa using this
 unfold cE;rw [this]
theorem jA {α:Type} {f:α->Bool} {l:List α} (aQ:l.all (fun y=>!f y)=true):cE f l = -1:=by
 have:l.findIdx? f=none:=by
  rw [List.findIdx?_eq_none_iff];intro x hx;rw [all_eq_true] at aQ;simpa using aQ x hx
 unfold cE;rw [this]
theorem lX {α:Type} {f:α->Bool} {l:List α} {k:Nat} {x:α} (hk:l[k]?=some x):(l.take (k+1)).all (fun y=>!f y)=((l.take k).all (fun y=>!f y)&&!f x):=by
 rw [take_add_one,hk,List.all_append];simp
theorem C3 {α:Type} (f:α->Bool) (l:List α):decide ((0:Int)<=cE f l)=l.any f:=by
 cases h:l.any f with
 | false =>
  rw [jA (by rw [any_eq_false] at h;rw [all_eq_true];intro x hx;simpa using h x hx)];rfl
 | true =>
  unfold cE
  cases h2:l.findIdx? f with
  | some i=>simp
  | none =>
   rw [List.findIdx?_eq_none_iff] at h2;rw [any_eq_true] at h;obtain ⟨x,hx,h3⟩:=h;have:=h2 x hx;simp [h3] at this
def tQ (p:Src) (n:Nd):List Int:=if n.kind=4/\0<=nV p n.s then [nV p n.s] else []
mutual
def oA (p:Src):T->List Int
 | .mk n l=>tQ p n++gZ p l
def gZ (p:Src):List T->List Int
 | []=>[]
 | t::r=>oA p t++gZ p r
end
theorem TT (p:Src) (t:T):oA p t=tQ p t.n++gZ p t.kids:=by cases t;rw [oA];rfl
def fk (p:Src) (s:List Int) (_:Nat) (t:T) (_:List ah):List Int:=s++tQ p t.n
mutual
theorem Q2 (p:Src):∀ (t:T) (a:Nat) (s:List Int) (ls:List ah),(iF (fk p) t a s ls).1=s++oA p t
 | .mk n l,a,s,ls=>by
  rw [iF,oA];simp only;rw [EP p l];unfold fk;show s++tQ p n++_=_;rw [append_assoc]
theorem EP (p:Src):∀ (l:List T) (a:Nat) (s:List Int) (ls:List ah),(dW (fk p) l a s ls).1=s++gZ p l
 | [],a,s,ls=>by rw [dW,gZ,append_nil]
 | t::r,a,s,ls=>by rw [dW,EP p r,Q2 p t,gZ,append_assoc]
end
theorem BX (p:Src) (n:Nd):(tQ p n).length<=1:=by unfold tQ;split <;> simp
theorem L5 (p:Src):∀ (N:Nat) (t:T),aP t<=N->(oA p t).length<=aP t:=by
 intro N
 induction N with
 | zero=>intro t h;have:=ko t;omega
 | succ N ih =>
  intro t h
  have key:∀ l:List T,az l<=N->(gZ p l).length<=az l:=by
   intro l
   induction l with
   | nil=>intro _;simp [gZ]
   | cons u l ih2 =>
    intro h;rw [az] at h;have:=ih u ao;have:=ih2 ao;rw [gZ,length_append,az];omega
  rw [eh] at h |-;have:=key t.kids ao;have:=BX p t.n;rw [TT,length_append];omega
theorem EH (p:Src) (l:List T):(gZ p l).length<=az l:=by
 induction l with
 | nil=>simp [gZ]
 | cons u l ih =>
  have:=L5 p _ u (Nat.le_refl _);rw [gZ,length_append,az];omega
theorem L4 (p:Src) {l:List T} {k:Nat} {t:T} (h:l[k]?=some t):gZ p (l.take (k+1))=gZ p (l.take k)++oA p t:=by
 have h1:l.take (k+1)=l.take k++[t]:=by rw [take_add_one,h];rfl
 have:∀ a b:List T,gZ p (a++b)=gZ p a++gZ p b:=by
  intro a b
  induction a with
  | nil=>simp [gZ]
  | cons u a ih=>simp [gZ,ih]
 rw [h1,this];simp [gZ]
theorem Pj (p:Src) (s:ah):nV p s < (p.fns.length:Int):=by
 unfold nV cE
 cases h:p.fns.findIdx? (fun f:Fn=>f.name==s) with
 | none=>simp only;omega
 | some i =>
  rw [List.findIdx?_eq_some_iff_getElem] at h;obtain ⟨h,_⟩:=h;simp only;omega
theorem Sj (p:Src) (n:Nd):∀ x∈tQ p n,0<=x/\x < (p.fns.length:Int):=by
 intro x hx;unfold tQ at hx;split at hx
 ·rename_i h;rw [mem_singleton] at hx;subst hx;exact ⟨h.2,Pj p _⟩
 ·simp at hx
mutual
theorem L6 (p:Src):∀ (t:T),∀ x∈oA p t,0<=x/\x < (p.fns.length:Int)
 | .mk n l,x,hx=>by
  rw [oA,List.mem_append] at hx
  rcases hx with h | h
  ·exact Sj p n x h
  ·exact H2 p l x h
theorem H2 (p:Src):∀ (l:List T),∀ x∈gZ p l,0<=x/\x < (p.fns.length:Int)
 | [],x,hx=>by simp [gZ] at hx
 | t::r,x,hx=>by
  rw [gZ,List.mem_append] at hx
  rcases hx with h | h
  ·exact L6 p t x h
  ·exact H2 p r x h
end
def gC (l:List Int):Prop:=l.Pairwise (· < ·)
theorem Br:∀ {a b:List Int},gC a->gC b->(∀ x,x∈a↔x∈b)->a=b
 | [],[],_,_,_=>rfl
 | [],y::b,_,_,h=>by have:=(h y).2 (by simp);simp at this
 | x::a,[],_,_,h=>by have:=(h x).1 (by simp);simp at this
 | x::a,y::b,ha,hb,h=>by
  unfold gC at ha hb;rw [pairwise_cons] at ha hb
  have iV:x=y:=by
   have h1:=(h x).1 (by simp);have h2:=(h y).2 (by simp)
   rcases List.mem_cons.1 h1 with h1 | h1
   ·exact h1
   rcases List.mem_cons.1 h2 with h2 | h2
   ·exact h2.symm
   have:=hb.1 x h1;have:=ha.1 y h2;omega
  subst iV
  have:a=b:=Br ha.2 hb.2 fun z=>by
   constructor
   ·intro hz;have:=(h z).1 (mem_cons_of_mem _ hz)
    rcases List.mem_cons.1 this with e | e
    ·have:=ha.1 z hz;omega
    ·exact e
   ·intro hz;have:=(h z).2 (mem_cons_of_mem _ hz)
    rcases List.mem_cons.1 this with e | e
    ·have:=hb.1 z hz;omega
    ·exact e
  rw [this]
def qL (n:Int):List Int->List Int
 | []=>[n]
 | x::r=>if n < x then n::x::r else x::qL n r
def iu (l:List Int) (n:Int):List Int:=if l.contains n=true then l else qL n l
theorem Ab {n:Int}:∀ {l:List Int} {x:Int},x∈qL n l↔x=n\/x∈l
 | [],x=>by simp [qL]
 | y::r,x=>by
  rw [qL];split
  ·simp
  ·rw [List.mem_cons,Ab,List.mem_cons];constructor
   ·rintro (h | h | h)
    ·exact .inr (.inl h)
    ·exact .inl h
    ·exact .inr (.inr h)
   ·rintro (h | h | h)
    ·exact .inr (.inl h)
    ·exact .inl h
    ·exact .inr (.inr h)
theorem zr {n:Int}:∀ {l:List Int},gC l->n ∉ l->gC (qL n l)
 | [],_,_=>by simp [qL,gC]
 | y::r,h,hn=>by
  unfold gC at h |-;rw [pairwise_cons] at h;rw [qL];rw [List.mem_cons,not_or] at hn;split
  ·rename_i ak;rw [pairwise_cons,pairwise_cons];refine ⟨fun z hz=>?_,h.1,h.2⟩
   rcases List.mem_cons.1 hz with e | e
   ·omega
   ·have:=h.1 z e;omega
  ·rename_i ak;rw [pairwise_cons];refine ⟨fun z hz=>?_,zr h.2 hn.2⟩
   rcases Ab.1 hz with e | e
   ·have:=hn.1;omega
   ·exact h.1 z e
theorem Gb {l:List Int} {n x:Int}:x∈iu l n↔x=n\/x∈l:=by
 unfold iu;split
 ·rename_i h;have:=List.contains_iff_mem.1 h;constructor
  ·exact .inr
  ·rintro (rfl | h)
   ·exact this
   ·exact h
 ·exact Ab
theorem HD {l:List Int} {n:Int} (h:gC l):gC (iu l n):=by
 unfold iu;split
 ·exact h
 ·rename_i hc
  exact zr h fun e=>hc (List.contains_iff_mem.2 e)
theorem Aa {n:Int}:∀ {l:List Int},(qL n l).length=l.length+1
 | []=>rfl
 | y::r=>by
  rw [qL];split
  ·simp
  ·rw [length_cons,Aa,length_cons]
theorem Qh {l:List Int} {n:Int}:(iu l n).length<=l.length+1:=by
 unfold iu;split
 ·omega
 ·rw [Aa];omega
def ow (n:Int) (st:List Int × Bool) (x:Int):List Int × Bool:=if (!st.2&&decide (n < x))=true then (st.1++[n]++[x],true) else (st.1++[x],st.2)
def jm (l:List Int) (n:Int) (k:Nat):List Int × Bool:=(l.take k).foldl (ow n) ([],false)
theorem DI {l:List Int} {n:Int} {k:Nat} {x:Int} (h:l[k]?=some x):jm l n (k+1)=ow n (jm l n k) x:=by
 unfold jm;rw [take_add_one,h,List.foldl_append];rfl
theorem C4 (n:Int):∀ (l acc:List Int),l.foldl (ow n) (acc,true)=(acc++l,true)
 | [],acc=>by simp
 | x::r,acc=>by
  rw [foldl_cons,show ow n (acc,true) x=(acc++[x],true) by simp [ow],C4 n r];simp
theorem EV (n:Int):∀ (l acc:List Int),(if (l.foldl (ow n) (acc,false)).2=true then (l.foldl (ow n) (acc,false)).1 else (l.foldl (ow n) (acc,false)).1++[n])=acc++qL n l
 | [],acc=>by simp [qL]
 | x::r,acc=>by
  rw [foldl_cons,qL]
  by_cases h:n < x
  ·rw [show ow n (acc,false) x=(acc++[n]++[x],true) by simp [ow,h],C4,if_pos h];simp
  ·rw [show ow n (acc,false) x=(acc++[x],false) by simp [ow,h],if_neg h,EV n r];simp
theorem Qi (l:List Int) (n:Int) (h:l.contains n=false):(if (jm l n l.length).2=true then (jm l n l.length).1 else (jm l n l.length).1++[n])=iu l n:=by
 unfold jm iu;rw [List.take_length,EV,if_neg (by rw [h];decide)];rfl
theorem Gc (l:List Int) (n:Int) (k:Nat):(jm l n k).1.length<=k+1/\((jm l n k).2=false->(jm l n k).1.length<=k):=by
 induction k with
 | zero=>simp [jm]
 | succ k ih =>
  rcases Nat.lt_or_ge k l.length with h | h
  ·rw [DI (getElem?_eq_getElem h)];unfold ow;split
   ·rename_i hc;rw [Bool.and_eq_true] at hc;have:=ih.2 (by simpa using hc.1);refine ⟨by simp;omega,fun h=>by cases h⟩
   ·refine ⟨by simp;exact ih.1,fun h2=>?_⟩;have:=ih.2 h2;simp;omega
  ·have:jm l n (k+1)=jm l n k:=by unfold jm;rw [List.take_of_length_le ao,List.take_of_length_le ao]
   rw [this];exact ⟨by omega,fun h2=>by have:=ih.2 h2;omega⟩
def oM (l:List Int):List Int:=l.foldl iu []
theorem x8:∀ (l acc:List Int),gC acc->gC (l.foldl iu acc)/\∀ x,x∈l.foldl iu acc↔x∈acc\/x∈l
 | [],acc,h=>⟨h,fun x=>by simp⟩
 | y::r,acc,h=>by
  obtain ⟨h1,h2⟩:=x8 r (iu acc y) (HD h);refine ⟨h1,fun x=>?_⟩;rw [foldl_cons,h2,Gb,List.mem_cons];constructor
  ·rintro ((h | h) | h)
   ·exact .inr (.inl h)
   ·exact .inl h
   ·exact .inr (.inr h)
  ·rintro (h | h | h)
   ·exact .inl (.inr h)
   ·exact .inl (.inl h)
   ·exact .inr h
theorem rX (l:List Int):gC (oM l):=(x8 l [] List.Pairwise.nil).1
theorem wF {l:List Int} {x:Int}:x∈oM l↔x∈l:=by
 have:=(x8 l [] List.Pairwise.nil).2 x;unfold oM;rw [this];simp
theorem wG:∀ {l:List Int} {a b:Int},gC l->(∀ x∈l,a<=x/\x < b)->a<=b->(l.length:Int)<=b - a
 | [],a,b,_,_,h=>by simp;omega
 | x::r,a,b,h,hb,Rc=>by
  unfold gC at h;rw [pairwise_cons] at h;have hx:=hb x (by simp);have:=wG (l:=r) (a:=x+1) (b:=b) h.2 (fun y hy=>by have:=h.1 y hy;have:=hb y (mem_cons_of_mem _ hy);omega) ao;rw [length_cons];omega
theorem DA {l:List Int} {n:Nat} (h:l.Nodup) (hb:∀ x∈l,0<=x/\x < (n:Int)):l.length<=n:=by
 have h1:(oM l).length=l.length:=by
  have key:∀ (l acc:List Int),l.Nodup->(∀ x∈l,x ∉ acc)->(l.foldl iu acc).length=acc.length+l.length:=by
   intro l
   induction l with
   | nil=>intro acc _ _;simp
   | cons y r ih =>
    intro acc h1 h2;rw [List.nodup_cons] at h1
    have hy:acc.contains y=false:=by
     cases hc:acc.contains y with
     | false=>rfl
     | true=>exact absurd (List.contains_iff_mem.1 hc) (h2 y (by simp))
    rw [foldl_cons,ih _ h1.2 fun x hx hm=>?_]
    ·unfold iu;rw [if_neg (by rw [hy];decide),Aa,length_cons];omega
    ·rcases Gb.1 hm with e | e
     ·subst e;exact h1.1 hx
     ·exact h2 x (mem_cons_of_mem _ hx) e
  have:=key l [] h (by simp);unfold oM;rw [this];simp
 have h2:=wG (rX l) (a:=0) (b:=n) (fun x hx=>hb x (wF.1 hx)) ao;omega
def bT (p:Src) (t:T):List Int:=oM (oA p t)
theorem nS (p:Src) (t:T):gC (bT p t):=rX _
theorem mN (p:Src) (t:T):∀ x∈bT p t,0<=x/\x < (p.fns.length:Int):=fun x hx=>L6 p t x (wF.1 hx)
theorem y8 (p:Src) (t:T):(bT p t).length<=p.fns.length:=by
 have:=wG (nS p t) (a:=0) (b:=p.fns.length) (mN p t) ao;omega
theorem tw {l:List Int} (h:gC l):l.Nodup:=by
 unfold gC at h;exact h.imp (fun {a b} Rc=>by omega)
def dM (l ks:List Int):List Int:=ks.foldl (fun l k=>if l.contains k=true then l else l++[k]) l
theorem CP (l:List Int) (ks:List Int) (k:Nat) (x:Int) (h:ks[k]?=some x):dM l (ks.take (k+1))=if (dM l (ks.take k)).contains x=true then dM l (ks.take k) else dM l (ks.take k)++[x]:=by
 unfold dM;rw [take_add_one,h,List.foldl_append];rfl
theorem qB:∀ {ks l:List Int} {x:Int},x∈dM l ks↔x∈l\/x∈ks
 | [],l,x=>by simp [dM]
 | k::r,l,x=>by
  have:=@qB r (if l.contains k=true then l else l++[k]) x;unfold dM at this |-;rw [foldl_cons,this,List.mem_cons];split
  ·rename_i hc;have:=List.contains_iff_mem.1 hc;constructor
   ·rintro (h | h)
    ·exact .inl h
    ·exact .inr (.inr h)
   ·rintro (h | h | h)
    ·exact .inl h
    ·subst h;exact .inl this
    ·exact .inr h
  ·rw [List.mem_append,mem_singleton,or_assoc]
theorem vK:∀ {ks l:List Int},l.Nodup->(dM l ks).Nodup
 | [],l,h=>h
 | k::r,l,h=>by
  have hn:(if l.contains k=true then l else l++[k]).Nodup:=by
   split
   ·exact h
   ·rename_i hc;rw [List.nodup_append];refine ⟨h,by simp,fun a ha b hb e=>?_⟩;rw [mem_singleton] at hb;subst e;subst hb;exact hc (List.contains_iff_mem.2 ha)
  exact vK (ks:=r) hn
theorem vL:∀ (ks l:List Int),∃ m,dM l ks=l++m
 | [],l=>⟨[],by simp [dM]⟩
 | k::r,l=>by
  have e:dM l (k::r)=dM (if l.contains k=true then l else l++[k]) r:=rfl;rw [e];obtain ⟨m,hm⟩:=vL r (if l.contains k=true then l else l++[k]);rw [hm];split
  ·exact ⟨m,rfl⟩
  ·exact ⟨[k]++m,by simp⟩
def na (cs:Int->List Int):Nat->Nat->List Int->List Int
 | 0,_,l=>l
 | f+1,i,l=>match l[i]? with | none=>l | some x=>na cs f (i+1) (dM l (cs x))
theorem AH (cs:Int->List Int) (n:Nat) (eK:∀ x,∀ y∈cs x,0<=y/\y < (n:Int)) :
  ∀ (f i:Nat) (L:List Int),L.Nodup->(∀ y∈L,0<=y/\y < (n:Int))->n+1<=f+i ->
   (∀ j x,j < i->L[j]?=some x->∀ y∈cs x,y∈L) ->
   ∀ x∈na cs f i L,∀ y∈cs x,y∈na cs f i L
 | 0,i,L,hn,hr,hf,hj=>by
  intro x hx y hy;rw [na] at hx |-;obtain ⟨j,oF,he⟩:=List.mem_iff_getElem.1 hx;have:=DA hn hr;exact hj j x ao (by rw [getElem?_eq_getElem oF,he]) y hy
 | f+1,i,L,hn,hr,hf,hj=>by
  cases hi:L[i]? with
  | none =>
   have hb:na cs (f+1) i L=L:=by rw [na,hi]
   rw [hb];intro x hx y hy;obtain ⟨j,oF,he⟩:=List.mem_iff_getElem.1 hx;have:=List.getElem?_eq_none_iff.1 hi;exact hj j x ao (by rw [getElem?_eq_getElem oF,he]) y hy
  | some x0 =>
   have hb:na cs (f+1) i L=na cs f (i+1) (dM L (cs x0)):=by rw [na,hi]
   rw [hb];refine AH cs n eK f (i+1) _ (vK hn) (fun y hy=>?_) ao (fun j x og Rm y hy=>?_)
   ·rcases qB.1 hy with h1 | h1
    ·exact hr y h1
    ·exact eK x0 y h1
   ·have r7:i < L.length:=by
     rcases Nat.lt_or_ge i L.length with h | h
     ·exact h
     ·rw [getElem?_eq_none h] at hi;cases hi
    obtain ⟨m,hm⟩:=vL (cs x0) L
    have oF:j < L.length:=by omega
    rw [hm,List.getElem?_append_left oF] at Rm
    rcases Nat.lt_or_ge j i with h | h
    ·exact qB.2 (.inl (hj j x h Rm y hy))
    ·have:j=i:=by omega
     subst this;rw [hi] at Rm;cases Rm;exact qB.2 (.inr hy)
theorem CT (cs:Int->List Int) (S:Int->Prop) (hS:∀ x,S x->∀ y∈cs x,S y) :
  ∀ (f i:Nat) (L:List Int),(∀ x∈L,S x)->∀ x∈na cs f i L,S x
 | 0,i,L,h=>by rw [na];exact h
 | f+1,i,L,h=>by
  rw [na];split
  ·exact h
  ·rename_i x0 po
   refine CT cs S hS f (i+1) _ fun x hx=>?_
   rcases qB.1 hx with h1 | h1
   ·exact h x h1
   ·exact hS x0 (h x0 (mem_of_getElem? po)) x h1
def fH (F:Int->List Int) (a b:Int):Bool:=a==b || ((F a).contains b&&(F b).contains a)
def XA (F:Int->List Int):Prop:=∀ a b,b∈F a->∀ c∈F b,c∈F a
theorem uk {F:Int->List Int} {a b:Int}:fH F a b=true↔a=b\/(b∈F a/\a∈F b):=by
 unfold fH;rw [Bool.or_eq_true,Bool.and_eq_true,beq_iff_eq,contains_iff_mem,contains_iff_mem]
theorem KU (F:Int->List Int) (a:Int):fH F a a=true:=uk.2 (.inl rfl)
theorem KV {F:Int->List Int} {a b:Int} (h:fH F a b=true):fH F b a=true:=by
 rcases uk.1 h with h | ⟨h1,h2⟩
 ·exact uk.2 (.inl h.symm)
 ·exact uk.2 (.inr ⟨h2,h1⟩)
def yA (F:Int->List Int) (out:List (List Int)) (k:Int):Option Nat:=out.findIdx? fun l=>fH F (l.headD 0) k
def lq (F:Int->List Int) (out:List (List Int)) (k:Int):List (List Int) :=
 match yA F out k with
 | some i=>out.set i ((out[i]?.getD [])++[k])
 | none=>out++[[k]]
def fp (F:Int->List Int):Nat->List (List Int)
 | 0=>[]
 | k+1=>lq F (fp F k) (k:Int)
structure TI (F:Int->List Int) (n:Nat) (out:List (List Int)):Prop where
 ne:∀ l∈out,l≠[]
 mem:∀ l∈out,∀ x∈l,0<=x/\x < (n:Int)/\fH F (l.headD 0) x=true
 all:∀ x:Int,0<=x->x < (n:Int)->∃ l∈out,x∈l
 heads:∀ (i j:Nat) (a b:List Int),out[i]?=some a->out[j]?=some b->fH F (a.headD 0) (b.headD 0)=true->i=j
theorem A1 {l:List Int} (h:l≠[]) (x d:Int):(l++[x]).headD d=l.headD d:=by
 cases l with
 | nil=>exact absurd rfl h
 | cons a l=>rfl
theorem B7 {F:Int->List Int} (ht:XA F):∀ n,TI F n (fp F n)
 | 0=>⟨by simp [fp],by simp [fp],fun x h1 h2=>by omega,by simp [fp]⟩
 | n+1=>by
  have ih:=B7 ht n;rw [fp];generalize fp F n=out at ih;unfold lq
  cases hg:yA F out (n:Int) with
  | none =>
   have b9:∀ l∈out,fH F (l.headD 0) (n:Int)=false:=by
    unfold yA at hg;rw [List.findIdx?_eq_none_iff] at hg;exact hg
   refine ⟨fun l hl=>?_,fun l hl x hx=>?_,fun x h1 h2=>?_,fun i j a b hi hj hs=>?_⟩
   ·rcases List.mem_append.1 hl with h | h
    ·exact ih.ne l h
    ·rw [mem_singleton] at h;subst h;simp
   ·rcases List.mem_append.1 hl with h | h
    ·obtain ⟨a,b,c⟩:=ih.mem l h x hx;exact ⟨a,by push_cast;omega,c⟩
    ·rw [mem_singleton] at h;subst h;rw [mem_singleton] at hx;subst hx;exact ⟨by omega,by push_cast;omega,KU _ _⟩
   ·by_cases h:x=(n:Int)
    ·exact ⟨[(n:Int)],by simp,by simp [h]⟩
    ·obtain ⟨l,hl,hx⟩:=ih.all x h1 (by push_cast at h2;omega);exact ⟨l,List.mem_append_left _ hl,hx⟩
   ·rcases Nat.lt_or_ge i out.length with h1 | h1
    ·rw [List.getElem?_append_left h1] at hi
     rcases Nat.lt_or_ge j out.length with h2 | h2
     ·rw [List.getElem?_append_left h2] at hj;exact ih.heads i j a b hi hj hs
     ·rw [List.getElem?_append_right h2] at hj;have hb:b=[(n:Int)]:=List.mem_singleton.1 (mem_of_getElem? hj);subst hb;have:=b9 a (mem_of_getElem? hi);rw [show ([(n:Int)]:List Int).headD 0=(n:Int) from rfl,this] at hs;cases hs
    ·rw [List.getElem?_append_right h1] at hi;have ha:a=[(n:Int)]:=List.mem_singleton.1 (mem_of_getElem? hi);subst ha
     have xG:i - out.length < 1:=by
      rcases Nat.lt_or_ge (i - out.length) 1 with h | h
      ·exact h
      ·rw [getElem?_eq_none (by simpa using h)] at hi;cases hi
     rcases Nat.lt_or_ge j out.length with h2 | h2
     ·rw [List.getElem?_append_left h2] at hj;have:=b9 b (mem_of_getElem? hj);rw [show ([(n:Int)]:List Int).headD 0=(n:Int) from rfl] at hs;rw [KV hs] at this;cases this
     ·rw [List.getElem?_append_right h2] at hj
      have M4:j - out.length < 1:=by
       rcases Nat.lt_or_ge (j - out.length) 1 with h | h
       ·exact h
       ·rw [getElem?_eq_none (by simpa using h)] at hj;cases hj
      omega
  | some i0 =>
   unfold yA at hg;rw [List.findIdx?_eq_some_iff_getElem] at hg;obtain ⟨xG,rE,-⟩:=hg;have Ff:out[i0]?=some out[i0]:=getElem?_eq_getElem xG;have wb:out[i0]∈out:=List.getElem_mem xG;simp only [Ff,Option.getD_some];generalize tW:out[i0]=l0 at *;have bP:=ih.ne l0 wb
   have bU:∀ (i:Nat) (a:List Int),(out.set i0 (l0++[(n:Int)]))[i]?=some a->(i=i0/\a=l0++[(n:Int)])\/(i≠i0/\out[i]?=some a):=by
    intro i a h;rw [getElem?_set] at h;split at h
    ·rename_i he;cases h;exact .inl ⟨he.symm,rfl⟩
    ·rename_i he;exact .inr ⟨fun e=>he e.symm,h⟩
   have Rk:∀ (i:Nat) (a:List Int),(out.set i0 (l0++[(n:Int)]))[i]?=some a->∃ a',out[i]?=some a'/\a.headD 0=a'.headD 0:=by
    intro i a h
    rcases bU i a h with ⟨h1,h2⟩ | ⟨h1,h2⟩
    ·subst h1 h2;exact ⟨l0,Ff,A1 bP _ _⟩
    ·exact ⟨a,h2,rfl⟩
   refine ⟨fun l hl=>?_,fun l hl x hx=>?_,fun x h1 h2=>?_,fun i j a b hi hj hs=>?_⟩
   ·obtain ⟨i,hi⟩:=List.mem_iff_getElem?.1 hl
    rcases bU i l hi with ⟨h1,h2⟩ | ⟨h1,h2⟩
    ·subst h2;simp
    ·exact ih.ne l (mem_of_getElem? h2)
   ·obtain ⟨i,hi⟩:=List.mem_iff_getElem?.1 hl
    rcases bU i l hi with ⟨h1,h2⟩ | ⟨h1,h2⟩
    ·subst h2;rw [A1 bP]
     rcases List.mem_append.1 hx with h | h
     ·obtain ⟨a,b,c⟩:=ih.mem l0 wb x h;exact ⟨a,by push_cast;omega,c⟩
     ·rw [mem_singleton] at h;subst h;exact ⟨by omega,by push_cast;omega,rE⟩
    ·obtain ⟨a,b,c⟩:=ih.mem l (mem_of_getElem? h2) x hx;exact ⟨a,by push_cast;omega,c⟩
   ·by_cases h:x=(n:Int)
    ·exact ⟨l0++[(n:Int)],mem_of_getElem? (by rw [getElem?_set,if_pos rfl,if_pos xG]:(out.set i0 (l0++[(n:Int)]))[i0]?=some _),by simp [h]⟩
    ·obtain ⟨l,hl,hx⟩:=ih.all x h1 (by push_cast at h2;omega);obtain ⟨i,hi⟩:=List.mem_iff_getElem?.1 hl
     by_cases he:i=i0
     ·subst he;rw [Ff] at hi;cases hi;exact ⟨l0++[(n:Int)],mem_of_getElem? (by rw [getElem?_set,if_pos rfl,if_pos xG]:(out.set i (l0++[(n:Int)]))[i]?=some _),List.mem_append_left _ hx⟩
     ·exact ⟨l,mem_of_getElem? (by rw [getElem?_set,if_neg (fun e=>he e.symm)];exact hi:(out.set i0 (l0++[(n:Int)]))[i]?=some l),hx⟩
   ·obtain ⟨a',ha,hae⟩:=Rk i a hi;obtain ⟨b',hb,oc⟩:=Rk j b hj;rw [hae,oc] at hs;exact ih.heads i j a' b' ha hb hs
end Go.Im
