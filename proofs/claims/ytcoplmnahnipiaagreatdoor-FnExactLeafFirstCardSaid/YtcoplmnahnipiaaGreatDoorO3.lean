/- Part 3 of proofs that are told in their last texts. -/
import Derived.Test.YtcoplmnahnipiaaGreatDoorO2
open List (all_eq_true any_eq_false any_eq_true append_assoc append_nil contains_iff_mem findIdx?_eq_none_iff foldl_cons getElem?_eq_getElem getElem?_eq_none getElem?_set length_append length_cons mem_cons_of_mem mem_cons_self mem_of_getElem? mem_singleton nodup_cons pairwise_cons take_add_one)
set_option linter.unusedVariables false
set_option linter.unusedSimpArgs false
set_option maxRecDepth 100000
namespace Go.Im
open Go.Xp Go.Sp
def oS:ai:=[103,101,116]
def pQ:ai:=[112,117,116]
def iN:ai:=[115,105,122,101]
def vf:ai:=[109,97,105,110]
def lZ (s:ai):Bool:=(s==oS || s==pQ) || s==iN
def bM {α:Type} (f:α->Bool) (l:List α):Int:=match l.findIdx? f with | some i=>(i:Int) | none => -1
def nR (p:Src) (s:ai):Int:=bM (fun f:Fn=>f.name==s) p.fns
def DX (p:Src) (s:ai):Int:=bM (fun a:Ar=>a.name==s) p.arrays
def eP (p:Src):List ai:=p.arrays.map fun a:Ar=>a.name
def iu (p:Src):List ai:=p.fns.map fun f:Fn=>f.name
def cJ (p:Src):List ai:=(p.globals++eP p)++iu p
def nE (t:T):Nd:=match t.kids with | k::_=>k.n | []=>⟨0,0,0,[],[]⟩
def dR (t:T):Bool:=(t.n.kind==4&&t.n.s==iN)&&(t.kids.length==1)
def lE (p:Src) (i:Nat):Nat:=match p.fns[i]? with | some f=>f.params.length | none=>0
def nj (p:Src) (s:ai):Int:=if s=oS then 0 else if s=pQ\/s=iN then 1 else match p.fns.findIdx? (fun f:Fn=>f.name==s) with | some i=>(lE p i:Int) | none => -1
def fY (p:Src) (k:Nd) (ls:List ai):Bool:=(k.kind != 2 || decide (DX p k.s < 0)) || ls.contains k.s
def eV (p:Src) (t:T) (ls:List ai):Int :=
 if dR t=true then (if fY p (nE t) ls=true then 24 else 0)
 else if nj p t.n.s = -1 then 22 else if nj p t.n.s=(t.kids.length:Int) then 0 else 23
def bZ (p:Src) (t:T) (ls:List ai):Int :=
 if t.n.kind=13 then (if ls.contains t.n.s=true then 21 else if ls.length>=40 then 26 else 0)
 else if t.n.kind=2\/t.n.kind=7 then (if ls.contains t.n.s=false/\p.globals.contains t.n.s=false then 22 else 0)
 else if t.n.kind=3\/t.n.kind=8 then (if ls.contains t.n.s=true\/DX p t.n.s < 0 then 24 else 0)
 else if t.n.kind=4 then eV p t ls
 else 0
structure CS where
 code:Int
 place:Int
 skip:Int
def ct (p:Src) (c:CS) (a:Nat) (t:T) (ls:List ai):CS :=
 if c.code≠0\/(a:Int)=c.skip then c
 else ⟨bZ p t ls,if bZ p t ls≠0 then t.n.at_ else c.place,if dR t=true then (if (nE t).kind≠2 then -1 else ((a+1:Nat):Int)) else c.skip⟩
mutual
def iG {σ:Type} (f:σ->Nat->T->List ai->σ):T->Nat->σ->List ai->σ × List ai
 | .mk n l,a,s,ls=>((dX f l (a+1) (f s a (.mk n l) ls) ls).1,if n.kind=13 then (dX f l (a+1) (f s a (.mk n l) ls) ls).2++[n.s] else (dX f l (a+1) (f s a (.mk n l) ls) ls).2)
def dX {σ:Type} (f:σ->Nat->T->List ai->σ):List T->Nat->σ->List ai->σ × List ai
 | [],_,s,ls=>(s,ls)
 | t::r,a,s,ls=>dX f r (a+aR t) (iG f t a s ls).1 (iG f t a s ls).2
end
theorem uU {σ:Type} (f:σ->Nat->T->List ai->σ) (t:T) (a:Nat) (s:σ) (ls:List ai) :
  iG f t a s ls=((dX f t.kids (a+1) (f s a t ls) ls).1,if t.n.kind=13 then (dX f t.kids (a+1) (f s a t ls) ls).2++[t.n.s] else (dX f t.kids (a+1) (f s a t ls) ls).2):=by
 cases t;rw [iG];rfl
def nP (l:List ai) (k:Nat):Bool:=match l[k]? with | some s=>(l.take k).contains s | none=>false
def uy (l:List ai):Bool:=(List.range l.length).any (nP l)
def fo (p:Src) (f:Fn) (t:T) (a:Nat):Int × Int :=
 if uy f.params=true then (21,0) else ((iG (ct p) t a ⟨0,0,-1⟩ f.params).1.code,(iG (ct p) t a ⟨0,0,-1⟩ f.params).1.place)
def kr (l:List ai) (k:Nat):Bool:=match l[k]? with | some s=>lZ s || (l.take k).contains s | none=>false
def ed (l:List ai):Bool:=(List.range l.length).any (kr l)
def dE (l:List Ar):Int:=l.foldl (fun n a=>n+a.size) 0
def iC (p:Src):Bool:=p.arrays.any (fun a=>a.size==0) || ((((decide (p.fns.length > 40) || decide (p.globals.length > 29)) || decide (dE p.arrays > 8000))) || p.fns.any fun f=>decide (f.params.length > 40))
def mC (f:Fn):Bool:=f.name==vf&&f.params.length==0
def fp (p:Src):List Fn->List T->Nat->Int × Int
 | f::r,t::l,a=>if (fo p f t a).1≠0 then fo p f t a else fp p r l (a+aR t)
 | _,_,_=>(0,0)
def CQ (p:Src) (l:List T):Int × Int :=
 if ed (cJ p)=true then (21,0) else if iC p=true then (26,0) else if p.fns.any mC=false then (25,0) else fp p p.fns l 0
def fH (p:Src):Bool:=fI p&&(match jj p.nodes p.fns 0 [] with | some (l,_)=>decide ((CQ p l).1=0) | none=>false)
structure SS where
 ls:List ai
 code:Int
 at_:Int
def SS.fail (c:SS) (k a:Int):SS:=if c.code=0 then ⟨c.ls,k,a⟩ else c
def eF (c:SS) (n:Nd) (k want:Nat):SS:=if k≠want then c.fail 23 n.at_ else c
def ft (p:Src) (c:SS) (t:T):SS × Bool :=
 if t.n.s=oS then (eF c t.n t.kids.length 0,true)
 else if t.n.s=pQ then (eF c t.n t.kids.length 1,true)
 else if t.n.s=iN then (eF (if t.kids.length=1/\fY p (nE t) c.ls=true then c.fail 24 t.n.at_ else c) t.n t.kids.length 1,false)
 else match p.fns.findIdx? (fun f:Fn=>f.name==t.n.s) with
  | none=>(c.fail 22 t.n.at_,false)
  | some i=>(eF c t.n t.kids.length (lE p i),true)
def jl (p:Src) (c:SS) (t:T):SS × Bool :=
 if t.n.kind=2\/t.n.kind=7 then (if c.ls.contains t.n.s=false/\p.globals.contains t.n.s=false then c.fail 22 t.n.at_ else c,true)
 else if t.n.kind=3\/t.n.kind=8 then (if c.ls.contains t.n.s=true\/DX p t.n.s < 0 then c.fail 24 t.n.at_ else c,true)
 else if t.n.kind=4 then ft p c t
 else (c,true)
def lM (c:SS) (n:Nd):SS :=
 if n.kind≠13 then c
 else if c.ls.contains n.s=true then ⟨(c.fail 21 n.at_).ls++[n.s],(c.fail 21 n.at_).code,(c.fail 21 n.at_).at_⟩
 else if c.ls.length=40 then ⟨(c.fail 26 n.at_).ls++[n.s],(c.fail 26 n.at_).code,(c.fail 26 n.at_).at_⟩
 else ⟨c.ls++[n.s],c.code,c.at_⟩
mutual
def nk (p:Src):T->SS->SS
 | .mk n l,c=>lM (if (jl p c (.mk n l)).2=true then ia p l (jl p c (.mk n l)).1 else (jl p c (.mk n l)).1) n
def ia (p:Src):List T->SS->SS
 | [],c=>c
 | t::r,c=>ia p r (nk p t c)
end
theorem vi (p:Src) (t:T) (c:SS):nk p t c=lM (if (jl p c t).2=true then ia p t.kids (jl p c t).1 else (jl p c t).1) t.n:=by cases t;rw [nk];rfl
mutual
def uh:T->Prop
 | .mk n l=>n.kind≠13/\lf l
def lf:List T->Prop
 | []=>True
 | t::r=>uh t/\lf r
end
mutual
def gA:T->Prop
 | .mk n l=>(n.kind=13->lf l)/\(n.kind=2->l=[])/\dC l
def dC:List T->Prop
 | []=>True
 | t::r=>gA t/\dC r
end
mutual
theorem WY:∀ t:T,uh (er t)↔uh t
 | .mk n l=>by rw [er,uh,uh,FO l]
theorem FO:∀ l:List T,lf (aP l)↔lf l
 | []=>by rw [aP]
 | t::r=>by rw [aP,lf,lf,WY t,FO r]
end
theorem Sj {l:List T}:aP l=[]↔l=[]:=by
 cases l with
 | nil=>rw [aP]
 | cons t r=>rw [aP];simp
mutual
theorem RO:∀ t:T,gA (er t)↔gA t
 | .mk n l=>by rw [er,gA,gA,FO l,Oo l,Sj]
theorem Oo:∀ l:List T,dC (aP l)↔dC l
 | []=>by rw [aP]
 | t::r=>by rw [aP,dC,dC,RO t,Oo r]
end
mutual
theorem E.nv:∀ a:E,uh a.tree
 | .num n=>by rw [E.tree,uh];exact ⟨by simp,trivial⟩
 | .name s=>by rw [E.tree,uh];exact ⟨by simp,trivial⟩
 | .at_ s a=>by rw [E.tree,uh,lf,lf];exact ⟨by simp,E.nv a,trivial⟩
 | .call s l=>by rw [E.tree,uh];exact ⟨by simp,E.Ya l⟩
 | .un s a=>by rw [E.tree,uh,lf,lf];exact ⟨by simp,E.nv a,trivial⟩
 | .bin s a b=>by rw [E.tree,uh,lf,lf,lf];exact ⟨by simp,E.nv a,E.nv b,trivial⟩
theorem E.Ya:∀ l:List E,lf (E.trees l)
 | []=>trivial
 | a::l=>by rw [E.trees,lf];exact ⟨E.nv a,E.Ya l⟩
end
mutual
theorem E.wf:∀ a:E,gA a.tree
 | .num n=>by rw [E.tree,gA];exact ⟨fun h=>absurd h (by simp),fun _=>rfl,trivial⟩
 | .name s=>by rw [E.tree,gA];exact ⟨fun h=>absurd h (by simp),fun _=>rfl,trivial⟩
 | .at_ s a=>by rw [E.tree,gA,dC,dC];exact ⟨fun h=>absurd h (by simp),fun h=>absurd h (by simp),E.wf a,trivial⟩
 | .call s l=>by rw [E.tree,gA];exact ⟨fun h=>absurd h (by simp),fun h=>absurd h (by simp),E.BD l⟩
 | .un s a=>by rw [E.tree,gA,dC,dC];exact ⟨fun h=>absurd h (by simp),fun h=>absurd h (by simp),E.wf a,trivial⟩
 | .bin s a b=>by rw [E.tree,gA,dC,dC,dC];exact ⟨fun h=>absurd h (by simp),fun h=>absurd h (by simp),E.wf a,E.wf b,trivial⟩
theorem E.BD:∀ l:List E,dC (E.trees l)
 | []=>trivial
 | a::l=>by rw [E.trees,dC];exact ⟨E.wf a,E.BD l⟩
end
mutual
theorem S.wf:∀ a:S,gA a.tree
 | .set s a=>by rw [S.tree,gA,dC,dC];exact ⟨fun h=>absurd h (by simp),fun h=>absurd h (by simp),E.wf a,trivial⟩
 | .put s a b=>by rw [S.tree,gA,dC,dC,dC];exact ⟨fun h=>absurd h (by simp),fun h=>absurd h (by simp),E.wf a,E.wf b,trivial⟩
 | .if1 c b=>by rw [S.tree,gA,dC,dC,dC,gA];exact ⟨fun h=>absurd h (by simp),fun h=>absurd h (by simp),E.wf c,⟨fun h=>absurd h (by simp),fun h=>absurd h (by simp),S.BD b⟩,trivial⟩
 | .if2 c b d=>by rw [S.tree,gA,dC,dC,dC,dC,gA,gA];exact ⟨fun h=>absurd h (by simp),fun h=>absurd h (by simp),E.wf c,⟨fun h=>absurd h (by simp),fun h=>absurd h (by simp),S.BD b⟩,⟨fun h=>absurd h (by simp),fun h=>absurd h (by simp),S.BD d⟩,trivial⟩
 | .while_ c b=>by rw [S.tree,gA,dC,dC,dC,gA];exact ⟨fun h=>absurd h (by simp),fun h=>absurd h (by simp),E.wf c,⟨fun h=>absurd h (by simp),fun h=>absurd h (by simp),S.BD b⟩,trivial⟩
 | .ret a=>by rw [S.tree,gA,dC,dC];exact ⟨fun h=>absurd h (by simp),fun h=>absurd h (by simp),E.wf a,trivial⟩
 | .do_ a=>by rw [S.tree,gA,dC,dC];exact ⟨fun h=>absurd h (by simp),fun h=>absurd h (by simp),E.wf a,trivial⟩
 | .var s a=>by rw [S.tree,gA,dC,dC,lf,lf];exact ⟨fun _=>⟨E.nv a,trivial⟩,fun h=>absurd h (by simp),E.wf a,trivial⟩
theorem S.BD:∀ l:List S,dC (S.trees l)
 | []=>trivial
 | a::l=>by rw [S.trees,dC];exact ⟨S.wf a,S.BD l⟩
end
theorem VV (l:List S):gA (bG l):=by
 rw [bG,gA];exact ⟨fun h=>absurd h (by simp),fun h=>absurd h (by simp),S.BD l⟩
theorem SS.nQ (c:SS) (k a:Int):(c.fail k a).ls=c.ls:=by unfold SS.fail;split <;> rfl
theorem wK (c:SS) (n:Nd) (k w:Nat):(eF c n k w).ls=c.ls:=by unfold eF;split;(· exact c.nQ _ _);rfl
theorem vq (p:Src) (c:SS) (t:T):(jl p c t).1.ls=c.ls:=by
 unfold jl ft;split
 ·simp only;split;(· exact c.nQ _ _);rfl
 split
 ·simp only;split;(· exact c.nQ _ _);rfl
 split
 ·split
  ·exact wK _ _ _ _
  split
  ·exact wK _ _ _ _
  split
  ·simp only;rw [wK];split;(· exact c.nQ _ _);rfl
  split
  ·exact c.nQ _ _
  ·exact wK _ _ _ _
 ·rfl
mutual
theorem WV (p:Src):∀ (t:T),uh t->∀ c,(nk p t c).ls=c.ls
 | .mk n l,h,c=>by
  rw [uh] at h;rw [nk,lM,if_pos h.1];split
  ·rw [FM p l h.2,vq]
  ·exact vq _ _ _
theorem FM (p:Src):∀ (l:List T),lf l->∀ c,(ia p l c).ls=c.ls
 | [],_,c=>by rw [ia]
 | t::r,h,c=>by
  rw [lf] at h;rw [ia,FM p r h.2,WV p t h.1]
end
theorem SS.yt {c:SS} (h:c.code≠0) (k a:Int):c.fail k a=c:=by unfold SS.fail;rw [if_neg h]
theorem SS.pf (c:SS) {k:Int} (hk:k≠0) (a:Int):(c.fail k a).code≠0:=by
 unfold SS.fail;split
 ·exact hk
 ·assumption
theorem Qz {c:SS} (h:c.code≠0) (n:Nd) (k w:Nat):eF c n k w=c:=by unfold eF;rw [SS.yt h];split <;> rfl
theorem SW (p:Src) {c:SS} (h:c.code≠0) (t:T):(jl p c t).1=c:=by
 unfold jl ft;simp only [SS.yt h,Qz h,ite_self];split
 ·rfl
 split
 ·rfl
 split
 ·split
  ·rfl
  split
  ·rfl
  split
  ·rfl
  split <;> rfl
 ·rfl
theorem yM {c:SS} (h:c.code≠0) (n:Nd):(lM c n).code≠0:=by
 unfold lM;rw [SS.yt h,SS.yt h];split
 ·exact h
 split
 ·exact h
 split <;> exact h
mutual
theorem Rv (p:Src):∀ (t:T) (c:SS),c.code≠0->(nk p t c).code≠0
 | .mk n l,c,h=>by
  rw [nk];refine yM ?_ n;rw [SW p h];split
  ·exact vj p l c h
  ·exact h
theorem vj (p:Src):∀ (l:List T) (c:SS),c.code≠0->(ia p l c).code≠0
 | [],c,h=>by rw [ia];exact h
 | t::r,c,h=>by rw [ia];exact vj p r _ (Rv p t c h)
end
theorem Qg (p:Src) {c:CS} (h:c.code≠0) (a:Nat) (t:T) (ls:List ai):ct p c a t ls=c:=by unfold ct;rw [if_pos (.inl h)]
mutual
theorem Wi (p:Src):∀ (t:T) (a:Nat) (c:CS) (ls:List ai),c.code≠0->(iG (ct p) t a c ls).1=c
 | .mk n l,a,c,ls,h=>by rw [iG,Qg p h];exact uV p l _ c ls h
theorem uV (p:Src):∀ (l:List T) (a:Nat) (c:CS) (ls:List ai),c.code≠0->(dX (ct p) l a c ls).1=c
 | [],a,c,ls,h=>by rw [dX]
 | t::r,a,c,ls,h=>by
  have h1:=Wi p t a c ls h;rw [dX,h1];exact uV p r _ c _ h
end
def CJ (a:Nat) (r:CS × List ai) (q:SS):Prop:=(r.1.code=0/\q.code=0/\r.2=q.ls/\r.1.skip < (a:Int)/\q.ls.length<=40)\/(r.1.code≠0/\q.code≠0)
theorem Qd (p:Src) (t:T) (Fq:t.n.kind=13->lf t.kids) (oJ:∀ k∈t.kids,k.n.kind=2->k.kids=[])
  (ih:∀ (a:Nat) (r:CS) (q:SS),r.code=0->q.code=0->r.skip < (a:Int)->q.ls.length<=40->CJ (a+aB t.kids) (dX (ct p) t.kids a r q.ls) (ia p t.kids q))
  (a:Nat) (r:CS) (q:SS) (hr:r.code=0) (hq:q.code=0) (hs:r.skip < (a:Int)) (hl:q.ls.length<=40):CJ (a+aR t) (iG (ct p) t a r q.ls) (nk p t q):=by
 have bJ:¬ (r.code≠0\/(a:Int)=r.skip):=by
  rintro (h | h)
  ·exact h hr
  ·omega
 obtain ⟨pl,b7⟩:∃ pl,ct p r a t q.ls=⟨bZ p t q.ls,pl,if dR t=true then (if (nE t).kind≠2 then -1 else ((a+1:Nat):Int)) else r.skip⟩:=by
  unfold ct;rw [if_neg bJ];exact ⟨_,rfl⟩
 have cR:=ej t
 have bad:∀ x:SS,bZ p t q.ls≠0->x.code≠0->CJ (a+aR t) (iG (ct p) t a r q.ls) x:=fun x h1 h2=>by
  refine .inr ⟨?_,h2⟩;rw [uU,b7];simp only;rw [uV p t.kids _ _ _ h1];exact h1
 have go:bZ p t q.ls=0->dR t=false->t.n.kind≠13->jl p q t=(q,true)->CJ (a+aR t) (iG (ct p) t a r q.ls) (nk p t q):=fun h1 h2 h3 h4=>by
  have:=ih (a+1) ⟨0,pl,r.skip⟩ q rfl hq (by simp only;omega) hl;rw [uU,vi,h4,b7,h1,h2,if_neg h3,lM,if_pos h3];simp only [if_true,Bool.false_eq_true,if_false];rw [show a+aR t=a+1+aB t.kids by omega];exact this
 by_cases eK:t.n.kind=13
 ·have hnv:=Fq eK
  have hz:dR t=false:=by unfold dR;rw [eK];rfl
  have nB:jl p q t=(q,true):=by unfold jl;rw [if_neg aq,if_neg aq,if_neg aq]
  have mw:(ia p t.kids q).ls=q.ls:=FM p t.kids hnv q
  have rj:bZ p t q.ls=if q.ls.contains t.n.s=true then 21 else if q.ls.length>=40 then 26 else 0:=by
   unfold bZ;rw [if_pos eK]
  rw [vi,nB];simp only [if_true]
  by_cases hc:q.ls.contains t.n.s=true
  ·refine bad _ (by rw [rj,if_pos hc];decide) ?_;rw [lM,if_neg (by simpa using eK),mw,if_pos hc];exact SS.pf _ av _
  by_cases h40:q.ls.length>=40
  ·refine bad _ (by rw [rj,if_neg hc,if_pos h40];decide) ?_;rw [lM,if_neg (by simpa using eK),mw,if_neg hc,if_pos aq];exact SS.pf _ av _
  have h0:bZ p t q.ls=0:=by rw [rj,if_neg hc,if_neg h40]
  have:=ih (a+1) ⟨0,pl,r.skip⟩ q rfl hq (by simp only;omega) hl;rw [lM,if_neg (by simpa using eK),mw,if_neg hc,if_neg aq,uU,b7,h0,hz,if_pos eK];simp only [Bool.false_eq_true,if_false];rw [show a+aR t=a+1+aB t.kids by omega]
  rcases this with ⟨k1,k2,k3,k4,k5⟩ | ⟨k1,k2⟩
  ·refine .inl ⟨k1,k2,?_,k4,?_⟩
   ·show _++_=_++_;rw [k3,mw]
   ·show (q.ls++[t.n.s]).length<=40;rw [length_append,List.length_singleton];omega
  ·exact .inr ⟨k1,k2⟩
 by_cases h2:t.n.kind=2\/t.n.kind=7
 ·have hz:dR t=false:=by
   unfold dR;rw [show (t.n.kind==4)=false by simp;omega];rfl
  by_cases hc:q.ls.contains t.n.s=false/\p.globals.contains t.n.s=false
  ·refine bad _ (by unfold bZ;rw [if_neg eK,if_pos h2,if_pos hc];decide) ?_
   have nB:jl p q t=(q.fail 22 t.n.at_,true):=by unfold jl;rw [if_pos h2,if_pos hc]
   rw [vi,nB];refine yM ?_ t.n;simp only [if_true];exact vj p t.kids _ (SS.pf _ av _)
  ·exact go (by unfold bZ;rw [if_neg eK,if_pos h2,if_neg hc]) hz eK (by unfold jl;rw [if_pos h2,if_neg hc])
 by_cases h3:t.n.kind=3\/t.n.kind=8
 ·have hz:dR t=false:=by
   unfold dR;rw [show (t.n.kind==4)=false by simp;omega];rfl
  by_cases hc:q.ls.contains t.n.s=true\/DX p t.n.s < 0
  ·refine bad _ (by unfold bZ;rw [if_neg eK,if_neg h2,if_pos h3,if_pos hc];decide) ?_
   have nB:jl p q t=(q.fail 24 t.n.at_,true):=by unfold jl;rw [if_neg h2,if_pos h3,if_pos hc]
   rw [vi,nB];refine yM ?_ t.n;simp only [if_true];exact vj p t.kids _ (SS.pf _ av _)
  ·exact go (by unfold bZ;rw [if_neg eK,if_neg h2,if_pos h3,if_neg hc]) hz eK (by unfold jl;rw [if_neg h2,if_pos h3,if_neg hc])
 by_cases h4:t.n.kind=4
 ·have rj:bZ p t q.ls=eV p t q.ls:=by unfold bZ;rw [if_neg eK,if_neg h2,if_neg h3,if_pos h4]
  have nB:jl p q t=ft p q t:=by unfold jl;rw [if_neg h2,if_neg h3,if_pos h4]
  have fin:∀ x:SS × Bool,ft p q t=x->bZ p t q.ls≠0->x.1.code≠0->CJ (a+aR t) (iG (ct p) t a r q.ls) (nk p t q):=fun x hx h1 h2=>by
   refine bad _ h1 ?_;rw [vi,nB,hx];refine yM ?_ t.n;split
   ·exact vj p t.kids _ h2
   ·exact h2
  have JU:dR t=((t.n.s==iN)&&(t.kids.length==1)):=by unfold dR;rw [h4];rfl
  have some_:∀ w:Nat,t.n.s≠iN->nj p t.n.s=(w:Int)->ft p q t=(eF q t.n t.kids.length w,true)->CJ (a+aR t) (iG (ct p) t a r q.ls) (nk p t q):=fun w e1 e2 e3=>by
   have hz:dR t=false:=by rw [JU,show (t.n.s==iN)=false by simpa using e1];rfl
   have C5:eV p t q.ls=if (w:Int)=(t.kids.length:Int) then 0 else 23:=by
    unfold eV;rw [hz,if_neg av,e2,if_neg aq]
   by_cases hk:t.kids.length=w
   ·refine go (by rw [rj,C5,if_pos aq]) hz eK ?_;rw [nB,e3,eF,if_neg (by simpa using hk)]
   ·refine fin _ e3 (by rw [rj,C5,if_neg aq];decide) ?_;rw [eF,if_pos hk];exact SS.pf _ av _
  by_cases hg:t.n.s=oS
  ·exact some_ 0 (by rw [hg];decide) (by unfold nj;rw [if_pos hg];rfl) (by unfold ft;rw [if_pos hg])
  by_cases hp:t.n.s=pQ
  ·exact some_ 1 (by rw [hp];decide) (by unfold nj;rw [if_neg hg,if_pos (.inl hp)];rfl) (by unfold ft;rw [if_neg hg,if_pos hp])
  by_cases hz:t.n.s=iN
  ·have eM:ft p q t=(eF (if t.kids.length=1/\fY p (nE t) q.ls=true then q.fail 24 t.n.at_ else q) t.n t.kids.length 1,false):=by
    unfold ft;rw [if_neg hg,if_neg hp,if_pos hz]
   by_cases hk:t.kids.length=1
   ·have gz:dR t=true:=by rw [JU,hz,hk];rfl
    have C5:eV p t q.ls=if fY p (nE t) q.ls=true then 24 else 0:=by unfold eV;rw [if_pos gz]
    by_cases hb:fY p (nE t) q.ls=true
    ·refine fin _ eM (by rw [rj,C5,if_pos hb];decide) ?_;rw [if_pos ⟨hk,hb⟩,eF,if_neg (by simpa using hk)];exact SS.pf _ av _
    ·have Y0:ft p q t=(q,false):=by rw [eM,if_neg (fun h=>hb h.2),eF,if_neg (by simpa using hk)]
     rw [vi,nB,Y0,lM,if_pos eK];simp only [Bool.false_eq_true,if_false]
     have h0:bZ p t q.ls=0:=by rw [rj,C5,if_neg hb]
     obtain ⟨k,lB⟩:∃ k,t.kids=[k]:=by
      match hl:t.kids,hk with
      | [k],_=>exact ⟨k,rfl⟩
     have zh:nE t=k.n:=by unfold nE;rw [lB]
     have rf:k.n.kind=2:=by
      have:fY p k.n q.ls=false:=by rw [<-zh];simpa using hb
      unfold fY at this;simp only [Bool.or_eq_false_iff] at this;simpa using this.1.1
     have eX:k.kids=[]:=oJ k (by rw [lB];exact List.mem_singleton.2 rfl) rf
     have rN:aR k=1:=by rw [ej,eX,aB]
     have Pn:∀ c:CS,((a+1:Nat):Int)=c.skip->ct p c (a+1) k q.ls=c:=fun c hc=>by unfold ct;rw [if_pos (.inr hc)]
     rw [uU,b7,h0,gz,if_neg eK,lB,zh];simp only [if_true,dX];rw [uU,eX];simp only [dX];rw [if_neg (by rw [rf];decide),Pn _ rfl,if_neg (by rw [rf];decide)];refine .inl ⟨rfl,hq,rfl,?_,hl⟩;rw [cR,lB,aB,aB,rN];simp only;omega
   ·have sV:dR t=false:=by rw [JU,show (t.kids.length==1)=false by simpa using hk,Bool.and_false]
    refine fin _ eM ?_ ?_
    ·rw [rj];unfold eV;rw [sV,if_neg av]
     have:nj p t.n.s=1:=by unfold nj;rw [if_neg hg,if_pos (.inr hz)]
     rw [this,if_neg av,if_neg aq];decide
    ·rw [if_neg (fun h=>hk h.1),eF,if_pos hk];exact SS.pf _ av _
  have eN:nj p t.n.s=match p.fns.findIdx? (fun f:Fn=>f.name==t.n.s) with | some i=>(lE p i:Int) | none => -1:=by
   unfold nj;rw [if_neg hg,if_neg (by rintro (h | h);(· exact hp h);exact hz h)]
  have eM:ft p q t=match p.fns.findIdx? (fun f:Fn=>f.name==t.n.s) with | none=>(q.fail 22 t.n.at_,false) | some i=>(eF q t.n t.kids.length (lE p i),true):=by
   unfold ft;rw [if_neg hg,if_neg hp,if_neg hz]
  cases hf:p.fns.findIdx? (fun f:Fn=>f.name==t.n.s) with
  | some i =>
   rw [hf] at eN eM;exact some_ (lE p i) hz eN eM
  | none =>
   rw [hf] at eN eM;refine fin _ eM ?_ (SS.pf _ av _);rw [rj];unfold eV;rw [JU,show (t.n.s==iN)=false by simpa using hz,Bool.false_and,if_neg av,eN];simp
 ·exact go (by unfold bZ;rw [if_neg eK,if_neg h2,if_neg h3,if_neg h4]) (by unfold dR;rw [show (t.n.kind==4)=false by simpa using h4];rfl) eK
   (by unfold jl;rw [if_neg h2,if_neg h3,if_neg h4])
theorem Gx:∀ {l:List T},dC l->∀ k∈l,gA k
 | [],_,k,hk=>by cases hk
 | t::r,h,k,hk=>by
  rw [dC] at h
  rcases List.mem_cons.1 hk with rfl | hk
  ·exact h.1
  ·exact Gx h.2 k hk
mutual
theorem VG (p:Src):∀ (t:T),gA t->∀ (a:Nat) (r:CS) (q:SS),r.code=0->q.code=0->r.skip < (a:Int)->q.ls.length<=40->CJ (a+aR t) (iG (ct p) t a r q.ls) (nk p t q)
 | .mk n l,hw=>by
  rw [gA] at hw;refine Qd p (.mk n l) hw.1 (fun k hk h2=>?_) (VF p l hw.2.2);have:=Gx hw.2.2 k hk;obtain ⟨m,j⟩:=k;rw [gA] at this;exact this.2.1 h2
theorem VF (p:Src):∀ (l:List T),dC l->∀ (a:Nat) (r:CS) (q:SS),r.code=0->q.code=0->r.skip < (a:Int)->q.ls.length<=40->CJ (a+aB l) (dX (ct p) l a r q.ls) (ia p l q)
 | [],_,a,r,q,hr,hq,hs,hl=>by rw [dX,ia,aB];exact .inl ⟨hr,hq,rfl,by simpa using hs,hl⟩
 | t::l,hw,a,r,q,hr,hq,hs,hl=>by
  rw [dC] at hw;rw [dX,ia,aB]
  rcases VG p t hw.1 a r q hr hq hs hl with ⟨k1,k2,k3,k4,k5⟩ | ⟨k1,k2⟩
  ·rw [k3];have:=VF p l hw.2 (a+aR t) _ _ k1 k2 k4 k5;rw [Nat.add_assoc] at this;exact this
  ·exact .inr ⟨by rw [uV p l _ _ _ k1];exact k1,vj p l _ k2⟩
end
def fM (c k:Int):Int:=if c=0 then k else c
def mb (a:Ar):Bool:=decide (a.size < 1) || decide (a.size > 8000)
def jI (p:Src):Bool:=match p.fns.findIdx? (fun f:Fn=>f.name==vf) with | none=>true | some i=>decide (lE p i > 0)
def sE (p:Src):Bool:=(decide (p.fns.length > 40) || decide (p.globals.length > 29)) || decide (dE p.arrays > 8000)
def qF (p:Src) (c:Int):Int :=
 if p.arrays.any mb=true then fM c 26
 else if jI p=true then fM (if (p.fns.any fun f=>decide (f.params.length > 40))=true then fM (if sE p=true then fM c 26 else c) 26 else (if sE p=true then fM c 26 else c)) 25
 else if (p.fns.any fun f=>decide (f.params.length > 40))=true then fM (if sE p=true then fM c 26 else c) 26 else (if sE p=true then fM c 26 else c)
def pU (f:Fn) (c:SS):SS:=⟨f.params,if uy f.params=true then fM c.code 21 else c.code,if uy f.params=true/\c.code=0 then 0 else c.at_⟩
def nu (p:Src):List Fn->List T->SS->SS
 | f::r,t::l,c=>nu p r l (if c.code=0 then nk p t (pU f c) else c)
 | _,_,c=>c
def LK (p:Src) (l:List T):SS:=nu p p.fns l ⟨[],qF p (if ed (cJ p)=true then 21 else 0),0⟩
theorem yv (p:Src):∀ (fs:List Fn) (l:List T) (c:SS),c.code≠0->(nu p fs l c).code≠0
 | f::r,t::l,c,h=>by rw [nu,if_neg h];exact yv p r l c h
 | [],_,c,h=>by rw [nu];(· exact h);intros;simp_all
 | f::r,[],c,h=>by rw [nu];(· exact h);intros;simp_all
theorem TU (p:Src) (f:Fn) (t:T) (a:Nat) (c:SS) (hw:gA t) (hc:c.code=0) (hp:f.params.length<=40):(fo p f t a).1=0↔(nk p t (pU f c)).code=0:=by
 unfold fo
 by_cases hd:uy f.params=true
 ·rw [if_pos hd]
  have:(pU f c).code≠0:=by unfold pU;rw [if_pos hd];unfold fM;rw [if_pos hc];show (21:Int)≠0;decide
  have h2:=Rv p t _ this;constructor
  ·intro h;cases h
  ·intro h;exact absurd h h2
 ·rw [if_neg hd]
  have hq:(pU f c).code=0:=by unfold pU;rw [if_neg hd];exact hc
  have h1:=VG p t hw a ⟨0,0,-1⟩ (pU f c) rfl hq (by show (-1:Int) < _;omega) hp;show (iG (ct p) t a ⟨0,0,-1⟩ (pU f c).ls).1.code=0↔_
  rcases h1 with ⟨k1,k2,_⟩ | ⟨k1,k2⟩
  ·exact ⟨fun _=>k2,fun _=>k1⟩
  ·exact ⟨fun h=>absurd h k1,fun h=>absurd h k2⟩
theorem H2 (p:Src):∀ (fs:List Fn) (l:List T) (a:Nat) (c:SS),c.code=0->(∀ t∈l,gA t)->(∀ f∈fs,f.params.length<=40)->((fp p fs l a).1=0↔(nu p fs l c).code=0)
 | f::r,t::l,a,c,hc,hw,hp=>by
  have h1:=TU p f t a c (hw t mem_cons_self) hc (hp f mem_cons_self);rw [fp,nu,if_pos hc]
  by_cases h:(fo p f t a).1=0
  ·rw [if_neg (by simpa using h)];exact H2 p r l _ _ (h1.1 h) (fun u hu=>hw u (mem_cons_of_mem _ hu)) (fun g hg=>hp g (mem_cons_of_mem _ hg))
  ·rw [if_pos h]
   have h2:(nk p t (pU f c)).code≠0:=fun e=>h (h1.2 e)
   exact ⟨fun e=>absurd e h,fun e=>absurd e (yv p r l _ h2)⟩
 | [],_,a,c,hc,_,_=>by rw [fp,nu];(· exact ⟨fun _=>hc,fun _=>rfl⟩);all_goals (intros;simp_all)
 | f::r,[],a,c,hc,_,_=>by rw [fp,nu];(· exact ⟨fun _=>hc,fun _=>rfl⟩);all_goals (intros;simp_all)
theorem cells_from (l:List Ar):∀ n:Int,l.foldl (fun n a=>n+a.size) n=n+dE l:=by
 induction l with
 | nil=>intro n;simp [dE]
 | cons a l ih =>
  intro n;unfold dE;rw [foldl_cons,foldl_cons,ih,ih (0+a.size)];omega
theorem Jx (a:Ar) (l:List Ar):dE (a::l)=a.size+dE l:=by
 unfold dE;rw [foldl_cons,cells_from];unfold dE;omega
theorem ON {l:List Ar} (h:∀ a∈l,0<=a.size):0<=dE l/\∀ a∈l,a.size<=dE l:=by
 induction l with
 | nil=>exact ⟨by simp [dE],fun a h=>by cases h⟩
 | cons b l ih =>
  obtain ⟨h1,h2⟩:=ih fun a ha=>h a (mem_cons_of_mem _ ha)
  have hb:=h b mem_cons_self;rw [Jx];refine ⟨by omega,fun a ha=>?_⟩
  rcases List.mem_cons.1 ha with rfl | ha
  ·omega
  ·have:=h2 a ha;omega
theorem GZ {l:List ai} (h:ed l=false) {i j:Nat} {s:ai} (hi:l[i]?=some s) (hj:l[j]?=some s):i=j:=by
 have key:∀ x y:Nat,x < y->l[x]?=some s->l[y]?=some s->False:=fun x y iV h1 h2=>by
  have hy:=(List.getElem?_eq_some_iff.1 h2).1;unfold ed at h;rw [any_eq_false] at h;have:=h y (List.mem_range.2 hy);unfold kr at this;rw [h2] at this;simp only [Bool.or_eq_true,not_or] at this;apply this.2;rw [contains_iff_mem];rw [List.mem_take_iff_getElem];have hx:=(List.getElem?_eq_some_iff.1 h1);exact ⟨x,by have:=hx.1;omega,hx.2⟩
 rcases Nat.lt_trichotomy i j with h1 | h1 | h1
 ·exact (key i j h1 hi hj).elim
 ·exact h1
 ·exact (key j i h1 hj hi).elim
theorem FG {p:Src} (h:ed (cJ p)=false):p.fns.any mC=true↔jI p=false:=by
 have wT:∀ (i:Nat) f,p.fns[i]?=some f->(cJ p)[(p.globals++eP p).length+i]?=some f.name:=fun i f hf=>by
  unfold cJ;rw [List.getElem?_append_right aq,Nat.add_sub_cancel_left,iu,List.getElem?_map,hf];rfl
 unfold jI
 cases hf:p.fns.findIdx? (fun f:Fn=>f.name==vf) with
 | none =>
  rw [findIdx?_eq_none_iff] at hf;constructor
  ·intro h1;obtain ⟨f,h2,h3⟩:=List.any_eq_true.1 h1;unfold mC at h3;have:=hf f h2;rw [this] at h3;cases h3
  ·intro h1;cases h1
 | some i =>
  rw [List.findIdx?_eq_some_iff_getElem] at hf;obtain ⟨hi,h1,h2⟩:=hf
  have ze:p.fns[i]?=some p.fns[i]:=by simp [hi]
  simp only [lE,ze];constructor
  ·intro h3;obtain ⟨f,h4,h5⟩:=List.any_eq_true.1 h3;obtain ⟨j,hj⟩:=List.getElem?_of_mem h4;unfold mC at h5;simp only [Bool.and_eq_true,beq_iff_eq] at h5 h1;have e1:=wT i _ ze;have e2:=wT j f hj;rw [h1] at e1;rw [h5.1] at e2;have:=GZ h e1 e2
   have:i=j:=by omega
   subst this;rw [hj] at ze;cases ze;simp [h5.2]
  ·intro h3;simp only [gt_iff_lt,decide_eq_false_iff_not,Nat.not_lt,Nat.le_zero] at h3;exact List.any_eq_true.2 ⟨p.fns[i],List.getElem_mem hi,by unfold mC;rw [h1,h3];rfl⟩
theorem Ta {p:Src} (ha:∀ a∈p.arrays,0<=a.size):(iC p=false/\jI p=false)↔qF p 0=0:=by
 obtain ⟨pJ,hc⟩:=ON ha;have f26:fM 0 26=26:=rfl
 have f25:∀ c,c≠0->fM c 25=c:=fun c h=>by unfold fM;rw [if_neg h]
 have Ym:∀ c,fM c 25≠0:=fun c=>by
  unfold fM;split
  ·decide
  ·assumption
 have Yn:∀ c,fM c 26≠0:=fun c=>by
  unfold fM;split
  ·decide
  ·assumption
 unfold qF
 by_cases h1:p.arrays.any mb=true
 ·rw [if_pos h1,f26];refine ⟨fun h=>?_,fun h=>by cases h⟩;obtain ⟨a,h2,h3⟩:=List.any_eq_true.1 h1;have h4:=h.1;unfold iC at h4;simp only [Bool.or_eq_false_iff,decide_eq_false_iff_not] at h4;have h5:=List.any_eq_false.1 h4.1 a h2;have h6:=hc a h2;have h7:=ha a h2;unfold mb at h3;simp only [Bool.or_eq_true,decide_eq_true_eq] at h3;simp only [beq_iff_eq] at h5;have h8:=h4.2.1.2;omega
 rw [if_neg h1]
 have hz:p.arrays.any (fun a=>a.size==0)=false:=by
  rw [any_eq_false];intro a h2 h3;apply h1;refine List.any_eq_true.2 ⟨a,h2,?_⟩;unfold mb;simp only [beq_iff_eq] at h3;rw [h3];rfl
 have htm:iC p=(sE p || p.fns.any fun f=>decide (f.params.length > 40)):=by
  unfold iC sE;rw [hz,Bool.false_or]
 rw [htm]
 by_cases h2:jI p=true
 ·rw [if_pos h2];exact ⟨fun h=>(by rw [h2] at h;cases h.2),fun h=>absurd h (Ym _)⟩
 rw [if_neg h2]
 have qh:jI p=false:=by simpa using h2
 by_cases h3:(p.fns.any fun f=>decide (f.params.length > 40))=true
 ·rw [if_pos h3,h3,Bool.or_true];exact ⟨fun h=>(by cases h.1),fun h=>absurd h (Yn _)⟩
 rw [if_neg h3,show (p.fns.any fun f=>decide (f.params.length > 40))=false by simpa using h3,Bool.or_false]
 by_cases h4:sE p=true
 ·rw [if_pos h4,h4];exact ⟨fun h=>(by cases h.1),fun h=>(by cases h)⟩
 ·rw [if_neg h4];exact ⟨fun _=>rfl,fun _=>⟨by simpa using h4,qh⟩⟩
theorem TE {p:Src} {l:List T} (ha:∀ a∈p.arrays,0<=a.size) (hw:∀ t∈l,gA t):(CQ p l).1=0↔(LK p l).code=0:=by
 have ne:qF p 21≠0:=by
  have f:∀ c k,c≠0->fM c k=c:=fun c k h=>by unfold fM;rw [if_neg h]
  unfold qF;simp only [f 21 26 av,ite_self,f 21 25 av]
  decide
 unfold CQ LK
 by_cases h1:ed (cJ p)=true
 ·rw [if_pos h1,if_pos h1];exact ⟨fun h=>(by cases h),fun h=>absurd h (yv p _ _ _ ne)⟩
 rw [if_neg h1,if_neg h1];have hs:=Ta ha
 by_cases h2:qF p 0=0
 ·obtain ⟨h3,h4⟩:=hs.2 h2;rw [if_neg (by rw [h3];decide),if_neg (by rw [(FG (by simpa using h1)).2 h4];decide),h2]
  refine H2 p _ _ _ _ rfl hw fun f hf=>?_
  unfold iC at h3;simp only [Bool.or_eq_false_iff] at h3;have:=List.any_eq_false.1 h3.2.2 f hf;simpa using this
 ·refine ⟨fun h=>?_,fun h=>absurd h (yv p _ _ _ h2)⟩;exfalso;apply h2;apply hs.1
  by_cases h3:iC p=true
  ·rw [if_pos h3] at h;cases h
  ·rw [if_neg h3] at h
   by_cases h4:p.fns.any mC=false
   ·rw [if_pos h4] at h;cases h
   ·exact ⟨by simpa using h3,(FG (by simpa using h1)).1 (by simpa using h4)⟩
mutual
def wH:T->List ai
 | .mk n l=>mH l++(if n.kind=13 then [n.s] else [])
def mH:List T->List ai
 | []=>[]
 | t::r=>wH t++mH r
end
theorem Qv (t:T):wH t=mH t.kids++(if t.n.kind=13 then [t.n.s] else []):=by cases t;rw [wH];rfl
mutual
theorem HU {σ:Type} (f:σ->Nat->T->List ai->σ):∀ (t:T) (a:Nat) (s:σ) (ls:List ai),(iG f t a s ls).2=ls++wH t
 | .mk n l,a,s,ls=>by
  rw [iG,wH];simp only;rw [qu f l];split
  ·rw [append_assoc]
  ·rw [append_nil]
theorem qu {σ:Type} (f:σ->Nat->T->List ai->σ):∀ (l:List T) (a:Nat) (s:σ) (ls:List ai),(dX f l a s ls).2=ls++mH l
 | [],a,s,ls=>by rw [dX,mH,append_nil]
 | t::r,a,s,ls=>by rw [dX,qu f r,HU f t,mH,append_assoc]
end
mutual
def IQ (p:Src):T->List ai->Prop
 | .mk n l,ls=>bZ p (.mk n l) ls=0/\(dR (.mk n l)=false->Ku p l ls)
def Ku (p:Src):List T->List ai->Prop
 | [],_=>True
 | t::r,ls=>IQ p t ls/\Ku p r (ls++wH t)
end
mutual
theorem Ry (p:Src):∀ (t:T),gA t->∀ (a:Nat) (r:CS) (ls:List ai),r.code=0->r.skip < (a:Int)->(iG (ct p) t a r ls).1.code=0->IQ p t ls/\(iG (ct p) t a r ls).1.skip < ((a+aR t:Nat):Int)
 | .mk n l,hw,a,r,ls,hr,hs,hc=>by
  rw [gA] at hw
  have bJ:¬ (r.code≠0\/(a:Int)=r.skip):=by
   rintro (h | h)
   ·exact h hr
   ·omega
  obtain ⟨pl,b7⟩:∃ pl,ct p r a (.mk n l) ls=⟨bZ p (.mk n l) ls,pl,if dR (.mk n l)=true then (if (nE (.mk n l)).kind≠2 then -1 else ((a+1:Nat):Int)) else r.skip⟩:=by
   unfold ct;rw [if_neg bJ];exact ⟨_,rfl⟩
  rw [iG] at hc |-;simp only at hc |-;rw [b7] at hc |-
  have h0:bZ p (.mk n l) ls=0:=by
   by_cases h0:bZ p (.mk n l) ls=0
   ·exact h0
   ·rw [uV p l _ _ _ h0] at hc;exact hc
  rw [h0] at hc |-
  by_cases hz:dR (.mk n l)=true
  ·have hk:l.length=1:=by
    unfold dR at hz;simp only [Bool.and_eq_true,beq_iff_eq] at hz;exact hz.2
   have h4:n.kind=4/\n.s=iN:=by
    unfold dR at hz;simp only [Bool.and_eq_true,beq_iff_eq] at hz;exact hz.1
   have hb:fY p (nE (.mk n l)) ls=false:=by
    have e:bZ p (.mk n l) ls=eV p (.mk n l) ls:=by
     unfold bZ;rw [if_neg (by show ¬ n.kind=13;omega),if_neg (by show ¬ (n.kind=2\/n.kind=7);omega),if_neg (by show ¬ (n.kind=3\/n.kind=8);omega),if_pos (by show n.kind=4;omega)]
    rw [e] at h0;unfold eV at h0;rw [if_pos hz] at h0
    by_cases hb:fY p (nE (.mk n l)) ls=true
    ·rw [if_pos hb] at h0;cases h0
    ·simpa using hb
   have rf:(nE (.mk n l)).kind=2:=by
    unfold fY at hb;simp only [Bool.or_eq_false_iff] at hb;simpa using hb.1.1
   rw [if_pos hz,if_neg (by rw [rf];decide)] at hc |-
   match l,hk,hw with
   | [k],_,hw =>
    have Y6:k.n.kind=2:=rf;rw [dC] at hw
    have eX:k.kids=[]:=by
     have:=hw.2.2.1;obtain ⟨m,j⟩:=k;rw [gA] at this;exact this.2.1 Y6
    have rN:aR k=1:=by rw [ej,eX,aB]
    refine ⟨by rw [IQ];exact ⟨h0,fun h=>by rw [hz] at h;cases h⟩,?_⟩;simp only [dX];rw [uU,eX];simp only [dX]
    have Pn:ct p ⟨0,pl,((a+1:Nat):Int)⟩ (a+1) k ls=⟨0,pl,((a+1:Nat):Int)⟩:=by unfold ct;rw [if_pos (.inr rfl)]
    rw [Pn,aR,aB,aB,rN];simp only;omega
  ·have XY:dR (.mk n l)=false:=by simpa using hz
   rw [if_neg hz] at hc |-;have h:=ND p l hw.2.2 (a+1) ⟨0,pl,r.skip⟩ ls rfl (by simp only;omega) hc;refine ⟨by rw [IQ];exact ⟨h0,fun _=>h.1⟩,?_⟩;rw [aR,show a+(aB l+1)=a+1+aB l by omega];exact h.2
theorem ND (p:Src):∀ (l:List T),dC l->∀ (a:Nat) (r:CS) (ls:List ai),r.code=0->r.skip < (a:Int)->(dX (ct p) l a r ls).1.code=0->Ku p l ls/\(dX (ct p) l a r ls).1.skip < ((a+aB l:Nat):Int)
 | [],_,a,r,ls,hr,hs,hc=>by rw [dX,aB];exact ⟨trivial,by simpa using hs⟩
 | t::l,hw,a,r,ls,hr,hs,hc=>by
  rw [dC] at hw;rw [dX] at hc |-
  have h1:(iG (ct p) t a r ls).1.code=0:=by
   by_cases h1:(iG (ct p) t a r ls).1.code=0
   ·exact h1
   ·rw [uV p l _ _ _ h1] at hc;exact hc
  obtain ⟨h2,h3⟩:=Ry p t hw.1 a r ls hr hs h1;obtain ⟨h4,h5⟩:=ND p l hw.2 _ _ _ h1 h3 hc;rw [HU] at h4;rw [Ku,aB,<-Nat.add_assoc];exact ⟨⟨h2,h4⟩,h5⟩
end
mutual
def zT:T->Prop
 | .mk n l=>(n.kind≠1->n.n=0)/\gX l
def gX:List T->Prop
 | []=>True
 | t::r=>zT t/\gX r
end
mutual
theorem V1:∀ t:T,zT (er t)↔zT t
 | .mk n l=>by rw [er,zT,zT,RQ l]
theorem RQ:∀ l:List T,gX (aP l)↔gX l
 | []=>by rw [aP]
 | t::r=>by rw [aP,gX,gX,V1 t,RQ r]
end
mutual
theorem E.z:∀ a:E,zT a.tree
 | .num n=>by rw [E.tree,zT];exact ⟨fun h=>absurd rfl h,trivial⟩
 | .name s=>by rw [E.tree,zT];exact ⟨fun _=>rfl,trivial⟩
 | .at_ s a=>by rw [E.tree,zT,gX,gX];exact ⟨fun _=>rfl,E.z a,trivial⟩
 | .call s l=>by rw [E.tree,zT];exact ⟨fun _=>rfl,E.zs l⟩
 | .un s a=>by rw [E.tree,zT,gX,gX];exact ⟨fun _=>rfl,E.z a,trivial⟩
 | .bin s a b=>by rw [E.tree,zT,gX,gX,gX];exact ⟨fun _=>rfl,E.z a,E.z b,trivial⟩
theorem E.zs:∀ l:List E,gX (E.trees l)
 | []=>trivial
 | a::l=>by rw [E.trees,gX];exact ⟨E.z a,E.zs l⟩
end
mutual
theorem S.z:∀ a:S,zT a.tree
 | .set s a=>by rw [S.tree,zT,gX,gX];exact ⟨fun _=>rfl,E.z a,trivial⟩
 | .put s a b=>by rw [S.tree,zT,gX,gX,gX];exact ⟨fun _=>rfl,E.z a,E.z b,trivial⟩
 | .if1 c b=>by rw [S.tree,zT,gX,gX,gX,zT];exact ⟨fun _=>rfl,E.z c,⟨fun _=>rfl,S.zs b⟩,trivial⟩
 | .if2 c b d=>by rw [S.tree,zT,gX,gX,gX,gX,zT,zT];exact ⟨fun _=>rfl,E.z c,⟨fun _=>rfl,S.zs b⟩,⟨fun _=>rfl,S.zs d⟩,trivial⟩
 | .while_ c b=>by rw [S.tree,zT,gX,gX,gX,zT];exact ⟨fun _=>rfl,E.z c,⟨fun _=>rfl,S.zs b⟩,trivial⟩
 | .ret a=>by rw [S.tree,zT,gX,gX];exact ⟨fun _=>rfl,E.z a,trivial⟩
 | .do_ a=>by rw [S.tree,zT,gX,gX];exact ⟨fun _=>rfl,E.z a,trivial⟩
 | .var s a=>by rw [S.tree,zT,gX,gX];exact ⟨fun _=>rfl,E.z a,trivial⟩
theorem S.zs:∀ l:List S,gX (S.trees l)
 | []=>trivial
 | a::l=>by rw [S.trees,gX];exact ⟨S.z a,S.zs l⟩
end
theorem Xj (l:List S):zT (bG l):=by rw [bG,zT];exact ⟨fun _=>rfl,S.zs l⟩
section
variable (p:Src) (names:List ai) (name:ai)
end
theorem Forms.wf {l:List T} {ls:List (List S)} (h:Forms l ls) {i:Nat} {t:T} (ht:l[i]?=some t):gA t/\zT t:=by
 have hi:=(List.getElem?_eq_some_iff.1 ht).1;have hlen:=h.len;have hb:ls[i]?=some (ls[i]'aq):=getElem?_eq_getElem _;obtain ⟨_,h2⟩:=h.at_ i t _ ht hb;exact ⟨(RO t).1 (by rw [h2];exact VV _),(V1 t).1 (by rw [h2];exact Xj _)⟩
theorem Mi (p:Src):∀ (fs:List Fn) (l:List T) (a:Nat),(fp p fs l a).1=0->∀ (i:Nat) f t,fs[i]?=some f->l[i]?=some t->∃ b,(fo p f t b).1=0
 | f::r,t::l,a,h,0,g,u,h1,h2=>by
  cases h1;cases h2
  rw [fp] at h
  by_cases hc:(fo p f t a).1=0
  ·exact ⟨a,hc⟩
  ·rw [if_pos hc] at h;exact absurd h hc
 | f::r,t::l,a,h,i+1,g,u,h1,h2=>by
  rw [fp] at h
  by_cases hc:(fo p f t a).1=0
  ·rw [if_neg (by simpa using hc)] at h;exact Mi p r l _ h i g u (by simpa using h1) (by simpa using h2)
  ·rw [if_pos hc] at h;exact absurd h hc
 | [],_,a,h,i,g,u,h1,h2=>by simp at h1
 | f::r,[],a,h,i,g,u,h1,h2=>by simp at h2
structure Good (p:Src) (l:List T):Prop where
 st:fL p l
 test:fI p=true
 names:ed (cJ p)=false
 len:p.fns.length=l.length
 at_:∀ (i:Nat) f t,p.fns[i]?=some f->l[i]?=some t->IQ p t f.params/\gA t/\zT t/\et p.nodes f.body.toNat t/\0<=f.body
theorem Sw {p:Src} (h:fH p=true):∃ l,Good p l:=by
 unfold fH at h;rw [Bool.and_eq_true] at h;obtain ⟨hf,h⟩:=h;obtain ⟨l,hl⟩:=tQ hf;rw [hl.Eo] at h;simp only [decide_eq_true_eq] at h;obtain ⟨ls,hm⟩:=hl.JI
 have hb:ed (cJ p)=false:=by
  unfold CQ at h
  by_cases hb:ed (cJ p)=true
  ·rw [if_pos hb] at h;cases h
  ·simpa using hb
 have iL:(fp p p.fns l 0).1=0:=by
  unfold CQ at h;rw [if_neg (by rw [hb];decide)] at h;split at h
  ·cases h
  split at h
  ·cases h
  ·exact h
 refine ⟨l,hl,hf,hb,fw.len hl.fns,fun i f t h1 h2=>?_⟩;obtain ⟨b,hc⟩:=Mi p _ _ _ iL i f t h1 h2;obtain ⟨w1,w2⟩:=hm.wf h2;unfold fo at hc
 have hd:¬ uy f.params=true:=fun hd=>by rw [if_pos hd] at hc;cases hc
 rw [if_neg hd] at hc;have hi:=(List.getElem?_eq_some_iff.1 h2).1;obtain ⟨h5,h6⟩:=fw.at_ hl.fns i f t h1 h2;have h7:=dy.ix l 0 i _ hl.st h2;rw [Nat.zero_add] at h5 h7;refine ⟨(Ry p t w1 b ⟨0,0,-1⟩ f.params rfl (by show (-1:Int) < _;omega) hc).1,w1,w2,?_,by omega⟩;rw [h5,Int.toNat_natCast];exact h7
theorem EC {σ:Type} (f:σ->Nat->T->List ai->σ) (t:T):∀ (l:List T) (a:Nat) (s:σ) (ls:List ai),dX f (l++[t]) a s ls=iG f t (a+aB l) (dX f l a s ls).1 (dX f l a s ls).2
 | [],a,s,ls=>by rw [List.nil_append,dX,dX,dX,aB,Nat.add_zero]
 | u::l,a,s,ls=>by rw [List.cons_append,dX,EC f t l,dX,aB,Nat.add_assoc]
theorem ED {σ:Type} (f:σ->Nat->T->List ai->σ) {l:List T} {k:Nat} {t:T} (h:l[k]?=some t) (a:Nat) (s:σ) (ls:List ai) :
  dX f (l.take (k+1)) a s ls=iG f t (a+aB (l.take k)) (dX f (l.take k) a s ls).1 (dX f (l.take k) a s ls).2:=by
 have:l.take (k+1)=l.take k++[t]:=by rw [take_add_one,h];rfl
 rw [this,EC]
theorem xS:∀ {l:List T} {n k:Nat} {t:T},l[k]?=some t->(bY n l)[k]?=some (((n+aB (l.take k):Nat)):Int)
 | u::l,n,0,t,h=>by simp [bY,aB]
 | u::l,n,k+1,t,h=>by
  have:=xS (l:=l) (n:=n+aR u) (k:=k) (t:=t) (by simpa using h);rw [bY,List.getElem?_cons_succ,this,List.take_succ_cons,aB,Nat.add_assoc]
 | [],n,k,t,h=>by simp at h
theorem tC {l:List T} {k:Nat} {t:T} (h:l[k]?=some t):aB (l.take k)+aR t<=aB l:=by
 have h1:l.take (k+1)=l.take k++[t]:=by rw [take_add_one,h];rfl
 have h2:aB l=aB (l.take (k+1))+aB (l.drop (k+1)):=by rw [<-mO,List.take_append_drop]
 rw [h1,mO,aB,aB] at h2;omega
theorem Qk {l:List T} {k:Nat} {t:T} (h:l[k]?=some t):aB (l.take (k+1))=aB (l.take k)+aR t:=by
 have h1:l.take (k+1)=l.take k++[t]:=by rw [take_add_one,h];rfl
 rw [h1,mO,aB,aB,Nat.add_zero]
theorem Qw:∀ (N:Nat) (t:T),aR t<=N->(wH t).length<=aR t:=by
 intro N
 induction N with
 | zero=>intro t h;have:=kv t;omega
 | succ N ih =>
  intro t h
  have key:∀ l:List T,aB l<=N->(mH l).length<=aB l:=by
   intro l
   induction l with
   | nil=>intro _;simp [mH]
   | cons u l ih2 =>
    intro h;rw [aB] at h;have:=ih u aq;have:=ih2 aq;rw [mH,length_append,aB];omega
  rw [ej] at h |-;have:=key t.kids aq;rw [Qv,length_append];split <;> simp <;> omega
theorem uo (l:List T):(mH l).length<=aB l:=by
 induction l with
 | nil=>simp [mH]
 | cons u l ih =>
  have:=Qw _ u (Nat.le_refl _);rw [mH,length_append,aB];omega
theorem ju {α:Type} {f:α->Bool} {l:List α} {k:Nat} {x:α} (hk:l[k]?=some x) (h:f x=true) (aM:(l.take k).all (fun y=>!f y)=true):bM f l=(k:Int):=by
 have ao:k < l.length:=by
  rcases Nat.lt_or_ge k l.length with h1 | h1
  ·exact h1
  ·rw [getElem?_eq_none h1] at hk;cases hk
 have hx:l[k]=x:=by rw [getElem?_eq_getElem ao] at hk;exact Option.some.inj hk
 have:l.findIdx? f=some k:=by
  rw [List.findIdx?_eq_some_iff_getElem];refine ⟨ao,by rw [hx];exact h,fun j hj=>?_⟩;rw [all_eq_true] at aM;have:=aM l[j] (by rw [List.mem_take_iff_getElem];exact ⟨j,by omega,rfl⟩);simpa using this
 unfold bM;rw [this]
theorem gB {α:Type} {f:α->Bool} {l:List α} (aM:l.all (fun y=>!f y)=true):bM f l = -1:=by
 have:l.findIdx? f=none:=by
  rw [findIdx?_eq_none_iff];intro x hx;rw [all_eq_true] at aM;simpa using aM x hx
 unfold bM;rw [this]
theorem jL {α:Type} {f:α->Bool} {l:List α} {k:Nat} {x:α} (hk:l[k]?=some x):(l.take (k+1)).all (fun y=>!f y)=((l.take k).all (fun y=>!f y)&&!f x):=by
 rw [take_add_one,hk,List.all_append];simp
theorem xq {α:Type} (f:α->Bool) (l:List α):decide ((0:Int)<=bM f l)=l.any f:=by
 cases h:l.any f with
 | false =>
  rw [gB (by rw [any_eq_false] at h;rw [all_eq_true];intro x hx;simpa using h x hx)];rfl
 | true =>
  unfold bM
  cases h2:l.findIdx? f with
  | some i=>simp
  | none =>
   rw [findIdx?_eq_none_iff] at h2;rw [any_eq_true] at h;obtain ⟨x,hx,h3⟩:=h;have:=h2 x hx;simp [h3] at this
def tP (p:Src) (n:Nd):List Int:=if n.kind=4/\0<=nR p n.s then [nR p n.s] else []
mutual
def oy (p:Src):T->List Int
 | .mk n l=>tP p n++gY p l
def gY (p:Src):List T->List Int
 | []=>[]
 | t::r=>oy p t++gY p r
end
theorem TF (p:Src) (t:T):oy p t=tP p t.n++gY p t.kids:=by cases t;rw [oy];rfl
def fm (p:Src) (s:List Int) (_:Nat) (t:T) (_:List ai):List Int:=s++tP p t.n
mutual
theorem QM (p:Src):∀ (t:T) (a:Nat) (s:List Int) (ls:List ai),(iG (fm p) t a s ls).1=s++oy p t
 | .mk n l,a,s,ls=>by
  rw [iG,oy];simp only;rw [EE p l];unfold fm;show s++tP p n++_=_;rw [append_assoc]
theorem EE (p:Src):∀ (l:List T) (a:Nat) (s:List Int) (ls:List ai),(dX (fm p) l a s ls).1=s++gY p l
 | [],a,s,ls=>by rw [dX,gY,append_nil]
 | t::r,a,s,ls=>by rw [dX,EE p r,QM p t,gY,append_assoc]
end
theorem BU (p:Src) (n:Nd):(tP p n).length<=1:=by unfold tP;split <;> simp
theorem LO (p:Src):∀ (N:Nat) (t:T),aR t<=N->(oy p t).length<=aR t:=by
 intro N
 induction N with
 | zero=>intro t h;have:=kv t;omega
 | succ N ih =>
  intro t h
  have key:∀ l:List T,aB l<=N->(gY p l).length<=aB l:=by
   intro l
   induction l with
   | nil=>intro _;simp [gY]
   | cons u l ih2 =>
    intro h;rw [aB] at h;have:=ih u aq;have:=ih2 aq;rw [gY,length_append,aB];omega
  rw [ej] at h |-;have:=key t.kids aq;have:=BU p t.n;rw [TF,length_append];omega
theorem Eu (p:Src) (l:List T):(gY p l).length<=aB l:=by
 induction l with
 | nil=>simp [gY]
 | cons u l ih =>
  have:=LO p _ u (Nat.le_refl _);rw [gY,length_append,aB];omega
theorem LM (p:Src) {l:List T} {k:Nat} {t:T} (h:l[k]?=some t):gY p (l.take (k+1))=gY p (l.take k)++oy p t:=by
 have h1:l.take (k+1)=l.take k++[t]:=by rw [take_add_one,h];rfl
 have:∀ a b:List T,gY p (a++b)=gY p a++gY p b:=by
  intro a b
  induction a with
  | nil=>simp [gY]
  | cons u a ih=>simp [gY,ih]
 rw [h1,this];simp [gY]
theorem O2 (p:Src) (s:ai):nR p s < (p.fns.length:Int):=by
 unfold nR bM
 cases h:p.fns.findIdx? (fun f:Fn=>f.name==s) with
 | none=>simp only;omega
 | some i =>
  rw [List.findIdx?_eq_some_iff_getElem] at h;obtain ⟨h,_⟩:=h;simp only;omega
theorem R5 (p:Src) (n:Nd):∀ x∈tP p n,0<=x/\x < (p.fns.length:Int):=by
 intro x hx;unfold tP at hx;split at hx
 ·rename_i h;rw [mem_singleton] at hx;subst hx;exact ⟨h.2,O2 p _⟩
 ·simp at hx
mutual
theorem LP (p:Src):∀ (t:T),∀ x∈oy p t,0<=x/\x < (p.fns.length:Int)
 | .mk n l,x,hx=>by
  rw [oy,List.mem_append] at hx
  rcases hx with h | h
  ·exact R5 p n x h
  ·exact HH p l x h
theorem HH (p:Src):∀ (l:List T),∀ x∈gY p l,0<=x/\x < (p.fns.length:Int)
 | [],x,hx=>by simp [gY] at hx
 | t::r,x,hx=>by
  rw [gY,List.mem_append] at hx
  rcases hx with h | h
  ·exact LP p t x h
  ·exact HH p r x h
end
def gD (l:List Int):Prop:=l.Pairwise (· < ·)
theorem Bn:∀ {a b:List Int},gD a->gD b->(∀ x,x∈a↔x∈b)->a=b
 | [],[],_,_,_=>rfl
 | [],y::b,_,_,h=>by have:=(h y).2 (by simp);simp at this
 | x::a,[],_,_,h=>by have:=(h x).1 (by simp);simp at this
 | x::a,y::b,ha,hb,h=>by
  unfold gD at ha hb;rw [pairwise_cons] at ha hb
  have iV:x=y:=by
   have h1:=(h x).1 (by simp);have h2:=(h y).2 (by simp)
   rcases List.mem_cons.1 h1 with h1 | h1
   ·exact h1
   rcases List.mem_cons.1 h2 with h2 | h2
   ·exact h2.symm
   have:=hb.1 x h1;have:=ha.1 y h2;omega
  subst iV
  have:a=b:=Bn ha.2 hb.2 fun z=>by
   constructor
   ·intro hz;have:=(h z).1 (mem_cons_of_mem _ hz)
    rcases List.mem_cons.1 this with e | e
    ·have:=ha.1 z hz;omega
    ·exact e
   ·intro hz;have:=(h z).2 (mem_cons_of_mem _ hz)
    rcases List.mem_cons.1 this with e | e
    ·have:=hb.1 z hz;omega
    ·exact e
  rw [this]
def qy (n:Int):List Int->List Int
 | []=>[n]
 | x::r=>if n < x then n::x::r else x::qy n r
def iv (l:List Int) (n:Int):List Int:=if l.contains n=true then l else qy n l
theorem zX {n:Int}:∀ {l:List Int} {x:Int},x∈qy n l↔x=n\/x∈l
 | [],x=>by simp [qy]
 | y::r,x=>by
  rw [qy];split
  ·simp
  ·rw [List.mem_cons,zX,List.mem_cons];constructor
   ·rintro (h | h | h)
    ·exact .inr (.inl h)
    ·exact .inl h
    ·exact .inr (.inr h)
   ·rintro (h | h | h)
    ·exact .inr (.inl h)
    ·exact .inl h
    ·exact .inr (.inr h)
theorem zm {n:Int}:∀ {l:List Int},gD l->n ∉ l->gD (qy n l)
 | [],_,_=>by simp [qy,gD]
 | y::r,h,hn=>by
  unfold gD at h |-;rw [pairwise_cons] at h;rw [qy];rw [List.mem_cons,not_or] at hn;split
  ·rename_i ao;rw [pairwise_cons,pairwise_cons];refine ⟨fun z hz=>?_,h.1,h.2⟩
   rcases List.mem_cons.1 hz with e | e
   ·omega
   ·have:=h.1 z e;omega
  ·rename_i ao;rw [pairwise_cons];refine ⟨fun z hz=>?_,zm h.2 hn.2⟩
   rcases zX.1 hz with e | e
   ·have:=hn.1;omega
   ·exact h.1 z e
theorem FX {l:List Int} {n x:Int}:x∈iv l n↔x=n\/x∈l:=by
 unfold iv;split
 ·rename_i h;have:=List.contains_iff_mem.1 h;constructor
  ·exact .inr
  ·rintro (rfl | h)
   ·exact this
   ·exact h
 ·exact zX
theorem Ho {l:List Int} {n:Int} (h:gD l):gD (iv l n):=by
 unfold iv;split
 ·exact h
 ·rename_i hc
  exact zm h fun e=>hc (List.contains_iff_mem.2 e)
theorem zW {n:Int}:∀ {l:List Int},(qy n l).length=l.length+1
 | []=>rfl
 | y::r=>by
  rw [qy];split
  ·simp
  ·rw [length_cons,zW,length_cons]
theorem P1 {l:List Int} {n:Int}:(iv l n).length<=l.length+1:=by
 unfold iv;split
 ·omega
 ·rw [zW];omega
def ot (n:Int) (st:List Int × Bool) (x:Int):List Int × Bool:=if (!st.2&&decide (n < x))=true then (st.1++[n]++[x],true) else (st.1++[x],st.2)
def jm (l:List Int) (n:Int) (k:Nat):List Int × Bool:=(l.take k).foldl (ot n) ([],false)
theorem DB {l:List Int} {n:Int} {k:Nat} {x:Int} (h:l[k]?=some x):jm l n (k+1)=ot n (jm l n k) x:=by
 unfold jm;rw [take_add_one,h,List.foldl_append];rfl
theorem CX (n:Int):∀ (l acc:List Int),l.foldl (ot n) (acc,true)=(acc++l,true)
 | [],acc=>by simp
 | x::r,acc=>by
  rw [foldl_cons,show ot n (acc,true) x=(acc++[x],true) by simp [ot],CX n r];simp
theorem EK (n:Int):∀ (l acc:List Int),(if (l.foldl (ot n) (acc,false)).2=true then (l.foldl (ot n) (acc,false)).1 else (l.foldl (ot n) (acc,false)).1++[n])=acc++qy n l
 | [],acc=>by simp [qy]
 | x::r,acc=>by
  rw [foldl_cons,qy]
  by_cases h:n < x
  ·rw [show ot n (acc,false) x=(acc++[n]++[x],true) by simp [ot,h],CX,if_pos h];simp
  ·rw [show ot n (acc,false) x=(acc++[x],false) by simp [ot,h],if_neg h,EK n r];simp
theorem P2 (l:List Int) (n:Int) (h:l.contains n=false):(if (jm l n l.length).2=true then (jm l n l.length).1 else (jm l n l.length).1++[n])=iv l n:=by
 unfold jm iv;rw [List.take_length,EK,if_neg (by rw [h];decide)];rfl
theorem FY (l:List Int) (n:Int) (k:Nat):(jm l n k).1.length<=k+1/\((jm l n k).2=false->(jm l n k).1.length<=k):=by
 induction k with
 | zero=>simp [jm]
 | succ k ih =>
  rcases Nat.lt_or_ge k l.length with h | h
  ·rw [DB (getElem?_eq_getElem h)];unfold ot;split
   ·rename_i hc;rw [Bool.and_eq_true] at hc;have:=ih.2 (by simpa using hc.1);refine ⟨by simp;omega,fun h=>by cases h⟩
   ·refine ⟨by simp;exact ih.1,fun h2=>?_⟩;have:=ih.2 h2;simp;omega
  ·have:jm l n (k+1)=jm l n k:=by unfold jm;rw [List.take_of_length_le aq,List.take_of_length_le aq]
   rw [this];exact ⟨by omega,fun h2=>by have:=ih.2 h2;omega⟩
def oM (l:List Int):List Int:=l.foldl iv []
theorem x6:∀ (l acc:List Int),gD acc->gD (l.foldl iv acc)/\∀ x,x∈l.foldl iv acc↔x∈acc\/x∈l
 | [],acc,h=>⟨h,fun x=>by simp⟩
 | y::r,acc,h=>by
  obtain ⟨h1,h2⟩:=x6 r (iv acc y) (Ho h);refine ⟨h1,fun x=>?_⟩;rw [foldl_cons,h2,FX,List.mem_cons];constructor
  ·rintro ((h | h) | h)
   ·exact .inr (.inl h)
   ·exact .inl h
   ·exact .inr (.inr h)
  ·rintro (h | h | h)
   ·exact .inl (.inr h)
   ·exact .inl (.inl h)
   ·exact .inr h
theorem rI (l:List Int):gD (oM l):=(x6 l [] List.Pairwise.nil).1
theorem wC {l:List Int} {x:Int}:x∈oM l↔x∈l:=by
 have:=(x6 l [] List.Pairwise.nil).2 x;unfold oM;rw [this];simp
theorem wD:∀ {l:List Int} {a b:Int},gD l->(∀ x∈l,a<=x/\x < b)->a<=b->(l.length:Int)<=b - a
 | [],a,b,_,_,h=>by simp;omega
 | x::r,a,b,h,hb,MD=>by
  unfold gD at h;rw [pairwise_cons] at h;have hx:=hb x (by simp);have:=wD (l:=r) (a:=x+1) (b:=b) h.2 (fun y hy=>by have:=h.1 y hy;have:=hb y (mem_cons_of_mem _ hy);omega) aq;rw [length_cons];omega
theorem Du {l:List Int} {n:Nat} (h:l.Nodup) (hb:∀ x∈l,0<=x/\x < (n:Int)):l.length<=n:=by
 have h1:(oM l).length=l.length:=by
  have key:∀ (l acc:List Int),l.Nodup->(∀ x∈l,x ∉ acc)->(l.foldl iv acc).length=acc.length+l.length:=by
   intro l
   induction l with
   | nil=>intro acc _ _;simp
   | cons y r ih =>
    intro acc h1 h2;rw [nodup_cons] at h1
    have hy:acc.contains y=false:=by
     cases hc:acc.contains y with
     | false=>rfl
     | true=>exact absurd (List.contains_iff_mem.1 hc) (h2 y (by simp))
    rw [foldl_cons,ih _ h1.2 fun x hx hm=>?_]
    ·unfold iv;rw [if_neg (by rw [hy];decide),zW,length_cons];omega
    ·rcases FX.1 hm with e | e
     ·subst e;exact h1.1 hx
     ·exact h2 x (mem_cons_of_mem _ hx) e
  have:=key l [] h (by simp);unfold oM;rw [this];simp
 have h2:=wD (rI l) (a:=0) (b:=n) (fun x hx=>hb x (wC.1 hx)) aq;omega
def bQ (p:Src) (t:T):List Int:=oM (oy p t)
theorem nO (p:Src) (t:T):gD (bQ p t):=rI _
theorem mK (p:Src) (t:T):∀ x∈bQ p t,0<=x/\x < (p.fns.length:Int):=fun x hx=>LP p t x (wC.1 hx)
theorem yZ (p:Src) (t:T):(bQ p t).length<=p.fns.length:=by
 have:=wD (nO p t) (a:=0) (b:=p.fns.length) (mK p t) aq;omega
theorem tq {l:List Int} (h:gD l):l.Nodup:=by
 unfold gD at h;exact h.imp (fun {a b} MD=>by omega)
def dx (l ks:List Int):List Int:=ks.foldl (fun l k=>if l.contains k=true then l else l++[k]) l
theorem CK (l:List Int) (ks:List Int) (k:Nat) (x:Int) (h:ks[k]?=some x):dx l (ks.take (k+1))=if (dx l (ks.take k)).contains x=true then dx l (ks.take k) else dx l (ks.take k)++[x]:=by
 unfold dx;rw [take_add_one,h,List.foldl_append];rfl
theorem ji:∀ {ks l:List Int} {x:Int},x∈dx l ks↔x∈l\/x∈ks
 | [],l,x=>by simp [dx]
 | k::r,l,x=>by
  have:=@ji r (if l.contains k=true then l else l++[k]) x;unfold dx at this |-;rw [foldl_cons,this,List.mem_cons];split
  ·rename_i hc;have:=List.contains_iff_mem.1 hc;constructor
   ·rintro (h | h)
    ·exact .inl h
    ·exact .inr (.inr h)
   ·rintro (h | h | h)
    ·exact .inl h
    ·subst h;exact .inl this
    ·exact .inr h
  ·rw [List.mem_append,mem_singleton,or_assoc]
theorem rT:∀ {ks l:List Int},l.Nodup->(dx l ks).Nodup
 | [],l,h=>h
 | k::r,l,h=>by
  have hn:(if l.contains k=true then l else l++[k]).Nodup:=by
   split
   ·exact h
   ·rename_i hc;rw [List.nodup_append];refine ⟨h,by simp,fun a ha b hb e=>?_⟩;rw [mem_singleton] at hb;subst e;subst hb;exact hc (List.contains_iff_mem.2 ha)
  exact rT (ks:=r) hn
theorem vK:∀ (ks l:List Int),∃ m,dx l ks=l++m
 | [],l=>⟨[],by simp [dx]⟩
 | k::r,l=>by
  have e:dx l (k::r)=dx (if l.contains k=true then l else l++[k]) r:=rfl;rw [e];obtain ⟨m,hm⟩:=vK r (if l.contains k=true then l else l++[k]);rw [hm];split
  ·exact ⟨m,rfl⟩
  ·exact ⟨[k]++m,by simp⟩
def mY (cs:Int->List Int):Nat->Nat->List Int->List Int
 | 0,_,l=>l
 | f+1,i,l=>match l[i]? with | none=>l | some x=>mY cs f (i+1) (dx l (cs x))
theorem Ax (cs:Int->List Int) (n:Nat) (eM:∀ x,∀ y∈cs x,0<=y/\y < (n:Int)) :
  ∀ (f i:Nat) (L:List Int),L.Nodup->(∀ y∈L,0<=y/\y < (n:Int))->n+1<=f+i ->
   (∀ j x,j < i->L[j]?=some x->∀ y∈cs x,y∈L) ->
   ∀ x∈mY cs f i L,∀ y∈cs x,y∈mY cs f i L
 | 0,i,L,hn,hr,hf,hj=>by
  intro x hx y hy;rw [mY] at hx |-;obtain ⟨j,oF,he⟩:=List.mem_iff_getElem.1 hx;have:=Du hn hr;exact hj j x aq (by rw [getElem?_eq_getElem oF,he]) y hy
 | f+1,i,L,hn,hr,hf,hj=>by
  cases hi:L[i]? with
  | none =>
   have hb:mY cs (f+1) i L=L:=by rw [mY,hi]
   rw [hb];intro x hx y hy;obtain ⟨j,oF,he⟩:=List.mem_iff_getElem.1 hx;have:=List.getElem?_eq_none_iff.1 hi;exact hj j x aq (by rw [getElem?_eq_getElem oF,he]) y hy
  | some x0 =>
   have hb:mY cs (f+1) i L=mY cs f (i+1) (dx L (cs x0)):=by rw [mY,hi]
   rw [hb];refine Ax cs n eM f (i+1) _ (rT hn) (fun y hy=>?_) aq (fun j x oa Q6 y hy=>?_)
   ·rcases ji.1 hy with h1 | h1
    ·exact hr y h1
    ·exact eM x0 y h1
   ·have u9:i < L.length:=by
     rcases Nat.lt_or_ge i L.length with h | h
     ·exact h
     ·rw [getElem?_eq_none h] at hi;cases hi
    obtain ⟨m,hm⟩:=vK (cs x0) L
    have oF:j < L.length:=by omega
    rw [hm,List.getElem?_append_left oF] at Q6
    rcases Nat.lt_or_ge j i with h | h
    ·exact ji.2 (.inl (hj j x h Q6 y hy))
    ·have:j=i:=by omega
     subst this;rw [hi] at Q6;cases Q6;exact ji.2 (.inr hy)
theorem CN (cs:Int->List Int) (S:Int->Prop) (hS:∀ x,S x->∀ y∈cs x,S y) :
  ∀ (f i:Nat) (L:List Int),(∀ x∈L,S x)->∀ x∈mY cs f i L,S x
 | 0,i,L,h=>by rw [mY];exact h
 | f+1,i,L,h=>by
  rw [mY];split
  ·exact h
  ·rename_i x0 ph
   refine CN cs S hS f (i+1) _ fun x hx=>?_
   rcases ji.1 hx with h1 | h1
   ·exact h x h1
   ·exact hS x0 (h x0 (mem_of_getElem? ph)) x h1
def fk (F:Int->List Int) (a b:Int):Bool:=a==b || ((F a).contains b&&(F b).contains a)
def yW (F:Int->List Int):Prop:=∀ a b,b∈F a->∀ c∈F b,c∈F a
theorem kM {F:Int->List Int} {a b:Int}:fk F a b=true↔a=b\/(b∈F a/\a∈F b):=by
 unfold fk;rw [Bool.or_eq_true,Bool.and_eq_true,beq_iff_eq,contains_iff_mem,contains_iff_mem]
theorem KE (F:Int->List Int) (a:Int):fk F a a=true:=kM.2 (.inl rfl)
theorem pX {F:Int->List Int} {a b:Int} (h:fk F a b=true):fk F b a=true:=by
 rcases kM.1 h with h | ⟨h1,h2⟩
 ·exact kM.2 (.inl h.symm)
 ·exact kM.2 (.inr ⟨h2,h1⟩)
theorem uD {F:Int->List Int} (ht:yW F) {a b c:Int} (h:fk F a b=true) (g:fk F b c=true):fk F a c=true:=by
 rcases kM.1 h with h | ⟨h1,h2⟩
 ·subst h;exact g
 ·rcases kM.1 g with g | ⟨g1,g2⟩
  ·subst g;exact h
  ·exact kM.2 (.inr ⟨ht a b h1 c g1,ht c b g2 a h2⟩)
def AH (F:Int->List Int) (out:List (List Int)) (k:Int):Option Nat:=out.findIdx? fun l=>fk F (l.headD 0) k
def se (F:Int->List Int) (out:List (List Int)) (k:Int):List (List Int) :=
 match AH F out k with
 | some i=>out.set i ((out[i]?.getD [])++[k])
 | none=>out++[[k]]
def fS (F:Int->List Int):Nat->List (List Int)
 | 0=>[]
 | k+1=>se F (fS F k) (k:Int)
structure Tu (F:Int->List Int) (n:Nat) (out:List (List Int)):Prop where
 ne:∀ l∈out,l≠[]
 mem:∀ l∈out,∀ x∈l,0<=x/\x < (n:Int)/\fk F (l.headD 0) x=true
 all:∀ x:Int,0<=x->x < (n:Int)->∃ l∈out,x∈l
 heads:∀ (i j:Nat) (a b:List Int),out[i]?=some a->out[j]?=some b->fk F (a.headD 0) (b.headD 0)=true->i=j
theorem AW {l:List Int} (h:l≠[]) (x d:Int):(l++[x]).headD d=l.headD d:=by
 cases l with
 | nil=>exact absurd rfl h
 | cons a l=>rfl
theorem yz {F:Int->List Int} (ht:yW F):∀ n,Tu F n (fS F n)
 | 0=>⟨by simp [fS],by simp [fS],fun x h1 h2=>by omega,by simp [fS]⟩
 | n+1=>by
  have ih:=yz ht n;rw [fS];generalize fS F n=out at ih;unfold se
  cases hg:AH F out (n:Int) with
  | none =>
   have bN:∀ l∈out,fk F (l.headD 0) (n:Int)=false:=by
    unfold AH at hg;rw [findIdx?_eq_none_iff] at hg;exact hg
   refine ⟨fun l hl=>?_,fun l hl x hx=>?_,fun x h1 h2=>?_,fun i j a b hi hj hs=>?_⟩
   ·rcases List.mem_append.1 hl with h | h
    ·exact ih.ne l h
    ·rw [mem_singleton] at h;subst h;simp
   ·rcases List.mem_append.1 hl with h | h
    ·obtain ⟨a,b,c⟩:=ih.mem l h x hx;exact ⟨a,by push_cast;omega,c⟩
    ·rw [mem_singleton] at h;subst h;rw [mem_singleton] at hx;subst hx;exact ⟨by omega,by push_cast;omega,KE _ _⟩
   ·by_cases h:x=(n:Int)
    ·exact ⟨[(n:Int)],by simp,by simp [h]⟩
    ·obtain ⟨l,hl,hx⟩:=ih.all x h1 (by push_cast at h2;omega);exact ⟨l,List.mem_append_left _ hl,hx⟩
   ·rcases Nat.lt_or_ge i out.length with h1 | h1
    ·rw [List.getElem?_append_left h1] at hi
     rcases Nat.lt_or_ge j out.length with h2 | h2
     ·rw [List.getElem?_append_left h2] at hj;exact ih.heads i j a b hi hj hs
     ·rw [List.getElem?_append_right h2] at hj;have hb:b=[(n:Int)]:=List.mem_singleton.1 (mem_of_getElem? hj);subst hb;have:=bN a (mem_of_getElem? hi);rw [show ([(n:Int)]:List Int).headD 0=(n:Int) from rfl,this] at hs;cases hs
    ·rw [List.getElem?_append_right h1] at hi;have ha:a=[(n:Int)]:=List.mem_singleton.1 (mem_of_getElem? hi);subst ha
     have xE:i - out.length < 1:=by
      rcases Nat.lt_or_ge (i - out.length) 1 with h | h
      ·exact h
      ·rw [getElem?_eq_none (by simpa using h)] at hi;cases hi
     rcases Nat.lt_or_ge j out.length with h2 | h2
     ·rw [List.getElem?_append_left h2] at hj;have:=bN b (mem_of_getElem? hj);rw [show ([(n:Int)]:List Int).headD 0=(n:Int) from rfl] at hs;rw [pX hs] at this;cases this
     ·rw [List.getElem?_append_right h2] at hj
      have MO:j - out.length < 1:=by
       rcases Nat.lt_or_ge (j - out.length) 1 with h | h
       ·exact h
       ·rw [getElem?_eq_none (by simpa using h)] at hj;cases hj
      omega
  | some i0 =>
   unfold AH at hg;rw [List.findIdx?_eq_some_iff_getElem] at hg;obtain ⟨xE,sV,-⟩:=hg;have E0:out[i0]?=some out[i0]:=getElem?_eq_getElem xE;have vZ:out[i0]∈out:=List.getElem_mem xE;simp only [E0,Option.getD_some];generalize sS:out[i0]=l0 at *;have bJ:=ih.ne l0 vZ
   have b9:∀ (i:Nat) (a:List Int),(out.set i0 (l0++[(n:Int)]))[i]?=some a->(i=i0/\a=l0++[(n:Int)])\/(i≠i0/\out[i]?=some a):=by
    intro i a h;rw [getElem?_set] at h;split at h
    ·rename_i he;cases h;exact .inl ⟨he.symm,rfl⟩
    ·rename_i he;exact .inr ⟨fun e=>he e.symm,h⟩
   have Q4:∀ (i:Nat) (a:List Int),(out.set i0 (l0++[(n:Int)]))[i]?=some a->∃ a',out[i]?=some a'/\a.headD 0=a'.headD 0:=by
    intro i a h
    rcases b9 i a h with ⟨h1,h2⟩ | ⟨h1,h2⟩
    ·subst h1 h2;exact ⟨l0,E0,AW bJ _ _⟩
    ·exact ⟨a,h2,rfl⟩
   refine ⟨fun l hl=>?_,fun l hl x hx=>?_,fun x h1 h2=>?_,fun i j a b hi hj hs=>?_⟩
   ·obtain ⟨i,hi⟩:=List.mem_iff_getElem?.1 hl
    rcases b9 i l hi with ⟨h1,h2⟩ | ⟨h1,h2⟩
    ·subst h2;simp
    ·exact ih.ne l (mem_of_getElem? h2)
   ·obtain ⟨i,hi⟩:=List.mem_iff_getElem?.1 hl
    rcases b9 i l hi with ⟨h1,h2⟩ | ⟨h1,h2⟩
    ·subst h2;rw [AW bJ]
     rcases List.mem_append.1 hx with h | h
     ·obtain ⟨a,b,c⟩:=ih.mem l0 vZ x h;exact ⟨a,by push_cast;omega,c⟩
     ·rw [mem_singleton] at h;subst h;exact ⟨by omega,by push_cast;omega,sV⟩
    ·obtain ⟨a,b,c⟩:=ih.mem l (mem_of_getElem? h2) x hx;exact ⟨a,by push_cast;omega,c⟩
   ·by_cases h:x=(n:Int)
    ·exact ⟨l0++[(n:Int)],mem_of_getElem? (by rw [getElem?_set,if_pos rfl,if_pos xE]:(out.set i0 (l0++[(n:Int)]))[i0]?=some _),by simp [h]⟩
    ·obtain ⟨l,hl,hx⟩:=ih.all x h1 (by push_cast at h2;omega);obtain ⟨i,hi⟩:=List.mem_iff_getElem?.1 hl
     by_cases he:i=i0
     ·subst he;rw [E0] at hi;cases hi;exact ⟨l0++[(n:Int)],mem_of_getElem? (by rw [getElem?_set,if_pos rfl,if_pos xE]:(out.set i (l0++[(n:Int)]))[i]?=some _),List.mem_append_left _ hx⟩
     ·exact ⟨l,mem_of_getElem? (by rw [getElem?_set,if_neg (fun e=>he e.symm)];exact hi:(out.set i0 (l0++[(n:Int)]))[i]?=some l),hx⟩
   ·obtain ⟨a',ha,hae⟩:=Q4 i a hi;obtain ⟨b',hb,n8⟩:=Q4 j b hj;rw [hae,n8] at hs;exact ih.heads i j a' b' ha hb hs
theorem Cx:∀ {a b:List Int},a.Nodup->(∀ x∈a,x∈b)->a.length<=b.length
 | [],b,_,_=>by simp
 | x::a,b,hn,hs=>by
  rw [nodup_cons] at hn;have hx:x∈b:=hs x (by simp)
  have h:=Cx (a:=a) (b:=b.erase x) hn.2 fun y hy=>by
   have bJ:y≠x:=fun e=>hn.1 (e ▸ hy)
   exact (List.mem_erase_of_ne bJ).2 (hs y (by simp [hy]))
  rw [List.length_erase_of_mem hx] at h;have:0 < b.length:=List.length_pos_of_mem hx;simp only [length_cons];omega
def oR (F:Int->List Int) (n:Nat) (x:Int):Option Nat:=(fS F n).findIdx? fun l=>l.contains x
theorem AK {F:Int->List Int} (ht:yW F) {n:Nat} {x:Int} (h1:0<=x) (h2:x < (n:Int)) :
  ∃ i l,oR F n x=some i/\(fS F n)[i]?=some l/\x∈l:=by
 obtain ⟨l,hl,hx⟩:=(yz ht n).all x h1 h2
 cases hg:oR F n x with
 | none =>
  unfold oR at hg;rw [findIdx?_eq_none_iff] at hg;have:=hg l hl;rw [List.contains_iff_mem.2 hx] at this;cases this
 | some i =>
  have jQ:=hg;unfold oR at jQ;rw [List.findIdx?_eq_some_iff_getElem] at jQ;obtain ⟨hi,hc,-⟩:=jQ;exact ⟨i,_,rfl,getElem?_eq_getElem hi,List.contains_iff_mem.1 hc⟩
theorem AJ {F:Int->List Int} (ht:yW F) {n:Nat} {x y:Int} (hx:0<=x/\x < (n:Int)) (hy:0<=y/\y < (n:Int)) :
  oR F n x=oR F n y↔fk F x y=true:=by
 obtain ⟨i,l,hi,hl,wY⟩:=AK ht hx.1 hx.2;obtain ⟨j,m,hj,hm,hym⟩:=AK ht hy.1 hy.2;have Ie:=yz ht n;have h1:=(Ie.mem l (mem_of_getElem? hl) x wY).2.2;have h2:=(Ie.mem m (mem_of_getElem? hm) y hym).2.2;rw [hi,hj];constructor
 ·intro h;cases h;rw [hl] at hm;cases hm;exact uD ht (pX h1) h2
 ·intro h;rw [Ie.heads i j l m hl hm (uD ht h1 (uD ht h (pX h2)))]
def nb (F:Int->List Int) (told:List Int) (f:Int):Bool:=(F f).all (fun g=>told.contains g || fk F f g)&&!told.contains f
theorem xr {F:Int->List Int} {told:List Int} {f:Int}:nb F told f=true↔(∀ g∈F f,g∈told\/fk F f g=true)/\f ∉ told:=by
 unfold nb;rw [Bool.and_eq_true,all_eq_true,Bool.not_eq_true'];simp only [Bool.or_eq_true,contains_iff_mem];constructor
 ·exact fun ⟨a,b⟩=>⟨a,fun h=>by rw [List.contains_iff_mem.2 h] at b;cases b⟩
 ·refine fun ⟨a,b⟩=>⟨a,?_⟩
  cases hc:told.contains f with
  | false=>rfl
  | true=>exact absurd (List.contains_iff_mem.1 hc) b
theorem CY {F:Int->List Int} (ht:yW F) {n:Nat} (hn:∀ a,(F a).Nodup) (hr:∀ a,∀ y∈F a,0<=y/\y < (n:Int)) (told:List Int) :
  ∀ (N:Nat) (f:Int),0<=f->f < (n:Int)->f ∉ told->(dx (F f) [f]).length<=N->∃ g,0<=g/\g < (n:Int)/\nb F told g=true
 | 0,f,h1,h2,h3,h4=>by
  have:f∈dx (F f) [f]:=ji.2 (.inr (by simp));have:=List.length_pos_of_mem this;omega
 | N+1,f,h1,h2,h3,h4=>by
  by_cases hf:nb F told f=true
  ·exact ⟨f,h1,h2,hf⟩
  have hex:∃ x∈F f,x ∉ told/\fk F f x≠true:=by
   refine Classical.byContradiction fun bN=>hf (xr.2 ⟨fun g hg=>?_,h3⟩)
   refine Classical.byContradiction fun h=>bN ⟨g,hg,fun h'=>h (.inl h'),fun h'=>h (.inr h')⟩
  obtain ⟨x,hx,hxt,nC⟩:=hex;have pj:=hr f x hx
  have MJ:f ∉ dx (F x) [x]:=by
   intro h
   rcases ji.1 h with h | h
   ·exact nC (kM.2 (.inr ⟨hx,h⟩))
   ·rw [mem_singleton] at h;exact nC (kM.2 (.inl h))
  have hl:(f::dx (F x) [x]).length<=(dx (F f) [f]).length:=by
   refine Cx (List.nodup_cons.2 ⟨MJ,rT (hn x)⟩) fun y hy=>?_
   rcases List.mem_cons.1 hy with h | h
   ·exact ji.2 (.inr (by simp [h]))
   ·rcases ji.1 h with h | h
    ·exact ji.2 (.inl (ht f x hx y h))
    ·rw [mem_singleton] at h;exact ji.2 (.inl (h ▸ hx))
  simp only [length_cons] at hl;exact CY ht hn hr told N x pj.1 pj.2 hxt aq
theorem O5 {F:Int->List Int} (ht:yW F) {n:Nat} (hn:∀ a,(F a).Nodup) (hr:∀ a,∀ y∈F a,0<=y/\y < (n:Int)) {told:List Int} (hl:told.length < n) :
  ∃ f:Nat,f < n/\nb F told (f:Int)=true:=by
 have hex:∃ f:Nat,f < n/\(f:Int) ∉ told:=by
  refine Classical.byContradiction fun bN=>?_
  have:((List.range n).map fun i=>((i:Nat):Int)).length<=told.length:=by
   refine Cx ?_ fun x hx=>?_
   ·rw [List.Nodup,List.pairwise_map]
    exact (List.nodup_range (n:=n)).imp fun h e=>h aq
   ·obtain ⟨i,hi,rfl⟩:=List.mem_map.1 hx
    exact Classical.byContradiction fun h=>bN ⟨i,List.mem_range.1 hi,h⟩
  simp at this;omega
 obtain ⟨f,hf,Q2⟩:=hex;obtain ⟨g,h1,h2,h3⟩:=CY ht hn hr told _ (f:Int) aq aq Q2 (Nat.le_refl _);exact ⟨g.toNat,by omega,by rw [Int.toNat_of_nonneg h1];exact h3⟩
def tf (F:Int->List Int) (n:Nat) (told:List Int):Option Nat:=(List.range n).find? fun f=>nb F told (f:Int)
def z8 (F:Int->List Int) (n:Nat) (told:List Int):List Int:=match tf F n told with | some f=>told++[(f:Int)] | none=>told
def gJ (F:Int->List Int) (n:Nat):Nat->List Int
 | 0=>[]
 | k+1=>z8 F n (gJ F n k)
theorem xV {F:Int->List Int} (ht:yW F) {n:Nat} (hn:∀ a,(F a).Nodup) (hr:∀ a,∀ y∈F a,0<=y/\y < (n:Int)) {told:List Int} (hl:told.length < n) :
  ∃ f:Nat,tf F n told=some f/\f < n/\nb F told (f:Int)=true/\(∀ g,g < f->nb F told (g:Int)=false)/\z8 F n told=told++[(f:Int)]:=by
 obtain ⟨f,hf,oD⟩:=O5 ht hn hr hl
 cases hp:tf F n told with
 | none =>
  unfold tf at hp;rw [List.find?_eq_none] at hp;exact absurd oD (hp f (List.mem_range.2 hf))
 | some g =>
  have iT:=hp;unfold tf at iT;have hg:=List.find?_some iT;have hgm:=List.mem_of_find?_eq_some iT;refine ⟨g,rfl,List.mem_range.1 hgm,hg,fun j hj=>?_,by unfold z8;rw [hp]⟩;rw [List.find?_range_eq_some] at iT;have:=iT.2.2 j hj;simpa using this
theorem wh {F:Int->List Int} (ht:yW F) {n:Nat} (hn:∀ a,(F a).Nodup) (hr:∀ a,∀ y∈F a,0<=y/\y < (n:Int)):∀ k,k<=n->(gJ F n k).length=k
 | 0,_=>rfl
 | k+1,h=>by
  have ih:=wh ht hn hr k aq;obtain ⟨f,-,-,-,-,he⟩:=xV ht hn hr (told:=gJ F n k) aq;rw [gJ,he];simp [ih]
end Go.Im
