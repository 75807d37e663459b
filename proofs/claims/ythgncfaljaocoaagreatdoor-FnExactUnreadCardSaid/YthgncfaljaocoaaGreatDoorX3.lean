/- Part 3 of proofs that are told in their last texts. -/
import Derived.Test.YthgncfaljaocoaaGreatDoorX2
open List (all_eq_true any_eq_false any_eq_true foldl_cons length_append mem_cons_self take_add_one)
set_option linter.unusedVariables false
set_option linter.unusedSimpArgs false
set_option maxRecDepth 100000
namespace Go.Im
open Go.Xp Go.Sp
def nY:ae:=[103,101,116]
def oU:ae:=[112,117,116]
def c8:ae:=[115,105,122,101]
def uB:ae:=[109,97,105,110]
def lA (s:ae):Bool:=(s==nY || s==oU) || s==c8
def cX {α:Type} (f:α->Bool) (l:List α):Int:=match l.findIdx? f with | some i=>(i:Int) | none => -1
def xf (p:Src) (s:ae):Int:=cX (fun a:Ar=>a.name==s) p.arrays
def eC (p:Src):List ae:=p.arrays.map fun a:Ar=>a.name
def gK (p:Src):List ae:=p.fns.map fun f:Fn=>f.name
def cv (p:Src):List ae:=(p.globals++eC p)++gK p
def lB (t:T):Nd:=match t.kids with | k::_=>k.n | []=>⟨0,0,0,[],[]⟩
def cq (t:T):Bool:=(t.n.kind==4&&t.n.s==c8)&&(t.kids.length==1)
def kT (p:Src) (i:Nat):Nat:=match p.fns[i]? with | some f=>f.params.length | none=>0
def kH (p:Src) (s:ae):Int:=if s=nY then 0 else if s=oU\/s=c8 then 1 else match p.fns.findIdx? (fun f:Fn=>f.name==s) with | some i=>(kT p i:Int) | none => -1
def eH (p:Src) (k:Nd) (ls:List ae):Bool:=(k.kind != 2 || decide (xf p k.s < 0)) || ls.contains k.s
def dz (p:Src) (t:T) (ls:List ae):Int :=
 if cq t=true then (if eH p (lB t) ls=true then 24 else 0)
 else if kH p t.n.s = -1 then 22 else if kH p t.n.s=(t.kids.length:Int) then 0 else 23
def bC (p:Src) (t:T) (ls:List ae):Int :=
 if t.n.kind=13 then (if ls.contains t.n.s=true then 21 else if ls.length>=40 then 26 else 0)
 else if t.n.kind=2\/t.n.kind=7 then (if ls.contains t.n.s=false/\p.globals.contains t.n.s=false then 22 else 0)
 else if t.n.kind=3\/t.n.kind=8 then (if ls.contains t.n.s=true\/xf p t.n.s < 0 then 24 else 0)
 else if t.n.kind=4 then dz p t ls
 else 0
structure CS where
 code:Int
 place:Int
 skip:Int
def bY (p:Src) (c:CS) (a:Nat) (t:T) (ls:List ae):CS :=
 if c.code≠0\/(a:Int)=c.skip then c
 else ⟨bC p t ls,if bC p t ls≠0 then t.n.at_ else c.place,if cq t=true then (if (lB t).kind≠2 then -1 else ((a+1:Nat):Int)) else c.skip⟩
mutual
def fy {σ:Type} (f:σ->Nat->T->List ae->σ):T->Nat->σ->List ae->σ × List ae
 | .mk n l,a,s,ls=>((cQ f l (a+1) (f s a (.mk n l) ls) ls).1,if n.kind=13 then (cQ f l (a+1) (f s a (.mk n l) ls) ls).2++[n.s] else (cQ f l (a+1) (f s a (.mk n l) ls) ls).2)
def cQ {σ:Type} (f:σ->Nat->T->List ae->σ):List T->Nat->σ->List ae->σ × List ae
 | [],_,s,ls=>(s,ls)
 | t::r,a,s,ls=>cQ f r (a+aD t) (fy f t a s ls).1 (fy f t a s ls).2
end
theorem ug {σ:Type} (f:σ->Nat->T->List ae->σ) (t:T) (a:Nat) (s:σ) (ls:List ae) :
  fy f t a s ls=((cQ f t.kids (a+1) (f s a t ls) ls).1,if t.n.kind=13 then (cQ f t.kids (a+1) (f s a t ls) ls).2++[t.n.s] else (cQ f t.kids (a+1) (f s a t ls) ls).2):=by
 cases t;rw [fy];rfl
def mY (l:List ae) (k:Nat):Bool:=match l[k]? with | some s=>(l.take k).contains s | none=>false
def tH (l:List ae):Bool:=(List.range l.length).any (mY l)
def eU (p:Src) (f:Fn) (t:T) (a:Nat):Int × Int :=
 if tH f.params=true then (21,0) else ((fy (bY p) t a ⟨0,0,-1⟩ f.params).1.code,(fy (bY p) t a ⟨0,0,-1⟩ f.params).1.place)
def jH (l:List ae) (k:Nat):Bool:=match l[k]? with | some s=>lA s || (l.take k).contains s | none=>false
def dT (l:List ae):Bool:=(List.range l.length).any (jH l)
def dA (l:List Ar):Int:=l.foldl (fun n a=>n+a.size) 0
def fE (p:Src):Bool:=p.arrays.any (fun a=>a.size==0) || ((((decide (p.fns.length > 40) || decide (p.globals.length > 29)) || decide (dA p.arrays > 8000))) || p.fns.any fun f=>decide (f.params.length > 40))
def lO (f:Fn):Bool:=f.name==uB&&f.params.length==0
def eV (p:Src):List Fn->List T->Nat->Int × Int
 | f::r,t::l,a=>if (eU p f t a).1≠0 then eU p f t a else eV p r l (a+aD t)
 | _,_,_=>(0,0)
def zm (p:Src) (l:List T):Int × Int :=
 if dT (cv p)=true then (21,0) else if fE p=true then (26,0) else if p.fns.any lO=false then (25,0) else eV p p.fns l 0
def gW (p:Src):Bool:=fI p&&(match hY p.nodes p.fns 0 [] with | some (l,_)=>decide ((zm p l).1=0) | none=>false)
structure SS where
 ls:List ae
 code:Int
 at_:Int
def SS.fail (c:SS) (k a:Int):SS:=if c.code=0 then ⟨c.ls,k,a⟩ else c
def en (c:SS) (n:Nd) (k want:Nat):SS:=if k≠want then c.fail 23 n.at_ else c
def eY (p:Src) (c:SS) (t:T):SS × Bool :=
 if t.n.s=nY then (en c t.n t.kids.length 0,true)
 else if t.n.s=oU then (en c t.n t.kids.length 1,true)
 else if t.n.s=c8 then (en (if t.kids.length=1/\eH p (lB t) c.ls=true then c.fail 24 t.n.at_ else c) t.n t.kids.length 1,false)
 else match p.fns.findIdx? (fun f:Fn=>f.name==t.n.s) with
  | none=>(c.fail 22 t.n.at_,false)
  | some i=>(en c t.n t.kids.length (kT p i),true)
def iC (p:Src) (c:SS) (t:T):SS × Bool :=
 if t.n.kind=2\/t.n.kind=7 then (if c.ls.contains t.n.s=false/\p.globals.contains t.n.s=false then c.fail 22 t.n.at_ else c,true)
 else if t.n.kind=3\/t.n.kind=8 then (if c.ls.contains t.n.s=true\/xf p t.n.s < 0 then c.fail 24 t.n.at_ else c,true)
 else if t.n.kind=4 then eY p c t
 else (c,true)
def lf (c:SS) (n:Nd):SS :=
 if n.kind≠13 then c
 else if c.ls.contains n.s=true then ⟨(c.fail 21 n.at_).ls++[n.s],(c.fail 21 n.at_).code,(c.fail 21 n.at_).at_⟩
 else if c.ls.length=40 then ⟨(c.fail 26 n.at_).ls++[n.s],(c.fail 26 n.at_).code,(c.fail 26 n.at_).at_⟩
 else ⟨c.ls++[n.s],c.code,c.at_⟩
mutual
def mj (p:Src):T->SS->SS
 | .mk n l,c=>lf (if (iC p c (.mk n l)).2=true then gC p l (iC p c (.mk n l)).1 else (iC p c (.mk n l)).1) n
def gC (p:Src):List T->SS->SS
 | [],c=>c
 | t::r,c=>gC p r (mj p t c)
end
theorem uE (p:Src) (t:T) (c:SS):mj p t c=lf (if (iC p c t).2=true then gC p t.kids (iC p c t).1 else (iC p c t).1) t.n:=by cases t;rw [mj];rfl
mutual
def pF:T->Prop
 | .mk n l=>n.kind≠13/\iz l
def iz:List T->Prop
 | []=>True
 | t::r=>pF t/\iz r
end
mutual
def eS:T->Prop
 | .mk n l=>(n.kind=13->iz l)/\(n.kind=2->l=[])/\cY l
def cY:List T->Prop
 | []=>True
 | t::r=>eS t/\cY r
end
mutual
theorem Ua:∀ t:T,pF (er t)↔pF t
 | .mk n l=>by rw [er,pF,pF,D4 l]
theorem D4:∀ l:List T,iz (aI l)↔iz l
 | []=>by rw [aI]
 | t::r=>by rw [aI,iz,iz,Ua t,D4 r]
end
theorem PA {l:List T}:aI l=[]↔l=[]:=by
 cases l with
 | nil=>rw [aI]
 | cons t r=>rw [aI];simp
mutual
theorem Pb:∀ t:T,eS (er t)↔eS t
 | .mk n l=>by rw [er,eS,eS,D4 l,L4 l,PA]
theorem L4:∀ l:List T,cY (aI l)↔cY l
 | []=>by rw [aI]
 | t::r=>by rw [aI,cY,cY,Pb t,L4 r]
end
mutual
theorem E.nv:∀ a:E,pF a.tree
 | .num n=>by rw [E.tree,pF];exact ⟨by simp,trivial⟩
 | .name s=>by rw [E.tree,pF];exact ⟨by simp,trivial⟩
 | .at_ s a=>by rw [E.tree,pF,iz,iz];exact ⟨by simp,E.nv a,trivial⟩
 | .call s l=>by rw [E.tree,pF];exact ⟨by simp,E.Vi l⟩
 | .un s a=>by rw [E.tree,pF,iz,iz];exact ⟨by simp,E.nv a,trivial⟩
 | .bin s a b=>by rw [E.tree,pF,iz,iz,iz];exact ⟨by simp,E.nv a,E.nv b,trivial⟩
theorem E.Vi:∀ l:List E,iz (E.trees l)
 | []=>trivial
 | a::l=>by rw [E.trees,iz];exact ⟨E.nv a,E.Vi l⟩
end
mutual
theorem E.wf:∀ a:E,eS a.tree
 | .num n=>by rw [E.tree,eS];exact ⟨fun h=>absurd h (by simp),fun _=>rfl,trivial⟩
 | .name s=>by rw [E.tree,eS];exact ⟨fun h=>absurd h (by simp),fun _=>rfl,trivial⟩
 | .at_ s a=>by rw [E.tree,eS,cY,cY];exact ⟨fun h=>absurd h (by simp),fun h=>absurd h (by simp),E.wf a,trivial⟩
 | .call s l=>by rw [E.tree,eS];exact ⟨fun h=>absurd h (by simp),fun h=>absurd h (by simp),E.Al l⟩
 | .un s a=>by rw [E.tree,eS,cY,cY];exact ⟨fun h=>absurd h (by simp),fun h=>absurd h (by simp),E.wf a,trivial⟩
 | .bin s a b=>by rw [E.tree,eS,cY,cY,cY];exact ⟨fun h=>absurd h (by simp),fun h=>absurd h (by simp),E.wf a,E.wf b,trivial⟩
theorem E.Al:∀ l:List E,cY (E.trees l)
 | []=>trivial
 | a::l=>by rw [E.trees,cY];exact ⟨E.wf a,E.Al l⟩
end
mutual
theorem S.wf:∀ a:S,eS a.tree
 | .set s a=>by rw [S.tree,eS,cY,cY];exact ⟨fun h=>absurd h (by simp),fun h=>absurd h (by simp),E.wf a,trivial⟩
 | .put s a b=>by rw [S.tree,eS,cY,cY,cY];exact ⟨fun h=>absurd h (by simp),fun h=>absurd h (by simp),E.wf a,E.wf b,trivial⟩
 | .if1 c b=>by rw [S.tree,eS,cY,cY,cY,eS];exact ⟨fun h=>absurd h (by simp),fun h=>absurd h (by simp),E.wf c,⟨fun h=>absurd h (by simp),fun h=>absurd h (by simp),S.Al b⟩,trivial⟩
 | .if2 c b d=>by rw [S.tree,eS,cY,cY,cY,cY,eS,eS];exact ⟨fun h=>absurd h (by simp),fun h=>absurd h (by simp),E.wf c,⟨fun h=>absurd h (by simp),fun h=>absurd h (by simp),S.Al b⟩,⟨fun h=>absurd h (by simp),fun h=>absurd h (by simp),S.Al d⟩,trivial⟩
 | .while_ c b=>by rw [S.tree,eS,cY,cY,cY,eS];exact ⟨fun h=>absurd h (by simp),fun h=>absurd h (by simp),E.wf c,⟨fun h=>absurd h (by simp),fun h=>absurd h (by simp),S.Al b⟩,trivial⟩
 | .ret a=>by rw [S.tree,eS,cY,cY];exact ⟨fun h=>absurd h (by simp),fun h=>absurd h (by simp),E.wf a,trivial⟩
 | .do_ a=>by rw [S.tree,eS,cY,cY];exact ⟨fun h=>absurd h (by simp),fun h=>absurd h (by simp),E.wf a,trivial⟩
 | .var s a=>by rw [S.tree,eS,cY,cY,iz,iz];exact ⟨fun _=>⟨E.nv a,trivial⟩,fun h=>absurd h (by simp),E.wf a,trivial⟩
theorem S.Al:∀ l:List S,cY (S.trees l)
 | []=>trivial
 | a::l=>by rw [S.trees,cY];exact ⟨S.wf a,S.Al l⟩
end
theorem S5 (l:List S):eS (bB l):=by
 rw [bB,eS];exact ⟨fun h=>absurd h (by simp),fun h=>absurd h (by simp),S.Al l⟩
theorem SS.mZ (c:SS) (k a:Int):(c.fail k a).ls=c.ls:=by unfold SS.fail;split <;> rfl
theorem vL (c:SS) (n:Nd) (k w:Nat):(en c n k w).ls=c.ls:=by unfold en;split;(· exact c.mZ _ _);rfl
theorem uO (p:Src) (c:SS) (t:T):(iC p c t).1.ls=c.ls:=by
 unfold iC eY;split
 ·simp only;split;(· exact c.mZ _ _);rfl
 split
 ·simp only;split;(· exact c.mZ _ _);rfl
 split
 ·split
  ·exact vL _ _ _ _
  split
  ·exact vL _ _ _ _
  split
  ·simp only;rw [vL];split;(· exact c.mZ _ _);rfl
  split
  ·exact c.mZ _ _
  ·exact vL _ _ _ _
 ·rfl
mutual
theorem T0 (p:Src):∀ (t:T),pF t->∀ c,(mj p t c).ls=c.ls
 | .mk n l,h,c=>by
  rw [pF] at h;rw [mj,lf,if_pos h.1];split
  ·rw [D2 p l h.2,uO]
  ·exact uO _ _ _
theorem D2 (p:Src):∀ (l:List T),iz l->∀ c,(gC p l c).ls=c.ls
 | [],_,c=>by rw [gC]
 | t::r,h,c=>by
  rw [iz] at h;rw [gC,D2 p r h.2,T0 p t h.1]
end
theorem SS.xl {c:SS} (h:c.code≠0) (k a:Int):c.fail k a=c:=by unfold SS.fail;rw [if_neg h]
theorem SS.oh (c:SS) {k:Int} (hk:k≠0) (a:Int):(c.fail k a).code≠0:=by
 unfold SS.fail;split
 ·exact hk
 ·assumption
theorem N5 {c:SS} (h:c.code≠0) (n:Nd) (k w:Nat):en c n k w=c:=by unfold en;rw [SS.xl h];split <;> rfl
theorem Qc (p:Src) {c:SS} (h:c.code≠0) (t:T):(iC p c t).1=c:=by
 unfold iC eY;simp only [SS.xl h,N5 h,ite_self];split
 ·rfl
 split
 ·rfl
 split
 ·split
  ·rfl
  split
  ·rfl
  split
  ·rfl
  split <;> rfl
 ·rfl
theorem xE {c:SS} (h:c.code≠0) (n:Nd):(lf c n).code≠0:=by
 unfold lf;rw [SS.xl h,SS.xl h];split
 ·exact h
 split
 ·exact h
 split <;> exact h
mutual
theorem OY (p:Src):∀ (t:T) (c:SS),c.code≠0->(mj p t c).code≠0
 | .mk n l,c,h=>by
  rw [mj];refine xE ?_ n;rw [Qc p h];split
  ·exact uF p l c h
  ·exact h
theorem uF (p:Src):∀ (l:List T) (c:SS),c.code≠0->(gC p l c).code≠0
 | [],c,h=>by rw [gC];exact h
 | t::r,c,h=>by rw [gC];exact uF p r _ (OY p t c h)
end
theorem NL (p:Src) {c:CS} (h:c.code≠0) (a:Nat) (t:T) (ls:List ae):bY p c a t ls=c:=by unfold bY;rw [if_pos (.inl h)]
mutual
theorem Tr (p:Src):∀ (t:T) (a:Nat) (c:CS) (ls:List ae),c.code≠0->(fy (bY p) t a c ls).1=c
 | .mk n l,a,c,ls,h=>by rw [fy,NL p h];exact uh p l _ c ls h
theorem uh (p:Src):∀ (l:List T) (a:Nat) (c:CS) (ls:List ae),c.code≠0->(cQ (bY p) l a c ls).1=c
 | [],a,c,ls,h=>by rw [cQ]
 | t::r,a,c,ls,h=>by
  have h1:=Tr p t a c ls h;rw [cQ,h1];exact uh p r _ c _ h
end
def Bu (a:Nat) (r:CS × List ae) (q:SS):Prop:=(r.1.code=0/\q.code=0/\r.2=q.ls/\r.1.skip < (a:Int)/\q.ls.length<=40)\/(r.1.code≠0/\q.code≠0)
theorem NJ (p:Src) (t:T) (DH:t.n.kind=13->iz t.kids) (nO:∀ k∈t.kids,k.n.kind=2->k.kids=[])
  (ih:∀ (a:Nat) (r:CS) (q:SS),r.code=0->q.code=0->r.skip < (a:Int)->q.ls.length<=40->Bu (a+ay t.kids) (cQ (bY p) t.kids a r q.ls) (gC p t.kids q))
  (a:Nat) (r:CS) (q:SS) (hr:r.code=0) (hq:q.code=0) (hs:r.skip < (a:Int)) (hl:q.ls.length<=40):Bu (a+aD t) (fy (bY p) t a r q.ls) (mj p t q):=by
 have bO:¬ (r.code≠0\/(a:Int)=r.skip):=by
  rintro (h | h)
  ·exact h hr
  ·omega
 obtain ⟨pl,bE⟩:∃ pl,bY p r a t q.ls=⟨bC p t q.ls,pl,if cq t=true then (if (lB t).kind≠2 then -1 else ((a+1:Nat):Int)) else r.skip⟩:=by
  unfold bY;rw [if_neg bO];exact ⟨_,rfl⟩
 have b8:=eh t
 have bad:∀ x:SS,bC p t q.ls≠0->x.code≠0->Bu (a+aD t) (fy (bY p) t a r q.ls) x:=fun x h1 h2=>by
  refine .inr ⟨?_,h2⟩;rw [ug,bE];simp only;rw [uh p t.kids _ _ _ h1];exact h1
 have go:bC p t q.ls=0->cq t=false->t.n.kind≠13->iC p q t=(q,true)->Bu (a+aD t) (fy (bY p) t a r q.ls) (mj p t q):=fun h1 h2 h3 h4=>by
  have:=ih (a+1) ⟨0,pl,r.skip⟩ q rfl hq (by simp only;omega) hl;rw [ug,uE,h4,bE,h1,h2,if_neg h3,lf,if_pos h3];simp only [if_true,Bool.false_eq_true,if_false];rw [show a+aD t=a+1+ay t.kids by omega];exact this
 by_cases eu:t.n.kind=13
 ·have XJ:=DH eu
  have hz:cq t=false:=by unfold cq;rw [eu];rfl
  have mD:iC p q t=(q,true):=by unfold iC;rw [if_neg (by omega),if_neg (by omega),if_neg (by omega)]
  have fV:(gC p t.kids q).ls=q.ls:=D2 p t.kids XJ q
  have qA:bC p t q.ls=if q.ls.contains t.n.s=true then 21 else if q.ls.length>=40 then 26 else 0:=by
   unfold bC;rw [if_pos eu]
  rw [uE,mD];simp only [if_true]
  by_cases hc:q.ls.contains t.n.s=true
  ·refine bad _ (by rw [qA,if_pos hc];decide) ?_;rw [lf,if_neg (by simpa using eu),fV,if_pos hc];exact SS.oh _ (by decide) _
  by_cases h40:q.ls.length>=40
  ·refine bad _ (by rw [qA,if_neg hc,if_pos h40];decide) ?_;rw [lf,if_neg (by simpa using eu),fV,if_neg hc,if_pos (by omega)];exact SS.oh _ (by decide) _
  have h0:bC p t q.ls=0:=by rw [qA,if_neg hc,if_neg h40]
  have:=ih (a+1) ⟨0,pl,r.skip⟩ q rfl hq (by simp only;omega) hl;rw [lf,if_neg (by simpa using eu),fV,if_neg hc,if_neg (by omega),ug,bE,h0,hz,if_pos eu];simp only [Bool.false_eq_true,if_false];rw [show a+aD t=a+1+ay t.kids by omega]
  rcases this with ⟨k1,k2,k3,k4,k5⟩ | ⟨k1,k2⟩
  ·refine .inl ⟨k1,k2,?_,k4,?_⟩
   ·show _++_=_++_;rw [k3,fV]
   ·show (q.ls++[t.n.s]).length<=40;rw [length_append,List.length_singleton];omega
  ·exact .inr ⟨k1,k2⟩
 by_cases h2:t.n.kind=2\/t.n.kind=7
 ·have hz:cq t=false:=by
   unfold cq;rw [show (t.n.kind==4)=false by simp;omega];rfl
  by_cases hc:q.ls.contains t.n.s=false/\p.globals.contains t.n.s=false
  ·refine bad _ (by unfold bC;rw [if_neg eu,if_pos h2,if_pos hc];decide) ?_
   have mD:iC p q t=(q.fail 22 t.n.at_,true):=by unfold iC;rw [if_pos h2,if_pos hc]
   rw [uE,mD];refine xE ?_ t.n;simp only [if_true];exact uF p t.kids _ (SS.oh _ (by decide) _)
  ·exact go (by unfold bC;rw [if_neg eu,if_pos h2,if_neg hc]) hz eu (by unfold iC;rw [if_pos h2,if_neg hc])
 by_cases h3:t.n.kind=3\/t.n.kind=8
 ·have hz:cq t=false:=by
   unfold cq;rw [show (t.n.kind==4)=false by simp;omega];rfl
  by_cases hc:q.ls.contains t.n.s=true\/xf p t.n.s < 0
  ·refine bad _ (by unfold bC;rw [if_neg eu,if_neg h2,if_pos h3,if_pos hc];decide) ?_
   have mD:iC p q t=(q.fail 24 t.n.at_,true):=by unfold iC;rw [if_neg h2,if_pos h3,if_pos hc]
   rw [uE,mD];refine xE ?_ t.n;simp only [if_true];exact uF p t.kids _ (SS.oh _ (by decide) _)
  ·exact go (by unfold bC;rw [if_neg eu,if_neg h2,if_pos h3,if_neg hc]) hz eu (by unfold iC;rw [if_neg h2,if_pos h3,if_neg hc])
 by_cases h4:t.n.kind=4
 ·have qA:bC p t q.ls=dz p t q.ls:=by unfold bC;rw [if_neg eu,if_neg h2,if_neg h3,if_pos h4]
  have mD:iC p q t=eY p q t:=by unfold iC;rw [if_neg h2,if_neg h3,if_pos h4]
  have fin:∀ x:SS × Bool,eY p q t=x->bC p t q.ls≠0->x.1.code≠0->Bu (a+aD t) (fy (bY p) t a r q.ls) (mj p t q):=fun x hx h1 h2=>by
   refine bad _ h1 ?_;rw [uE,mD,hx];refine xE ?_ t.n;split
   ·exact uF p t.kids _ h2
   ·exact h2
  have H5:cq t=((t.n.s==c8)&&(t.kids.length==1)):=by unfold cq;rw [h4];rfl
  have some_:∀ w:Nat,t.n.s≠c8->kH p t.n.s=(w:Int)->eY p q t=(en q t.n t.kids.length w,true)->Bu (a+aD t) (fy (bY p) t a r q.ls) (mj p t q):=fun w e1 e2 e3=>by
   have hz:cq t=false:=by rw [H5,show (t.n.s==c8)=false by simpa using e1];rfl
   have BM:dz p t q.ls=if (w:Int)=(t.kids.length:Int) then 0 else 23:=by
    unfold dz;rw [hz,if_neg (by decide),e2,if_neg (by omega)]
   by_cases hk:t.kids.length=w
   ·refine go (by rw [qA,BM,if_pos (by omega)]) hz eu ?_;rw [mD,e3,en,if_neg (by simpa using hk)]
   ·refine fin _ e3 (by rw [qA,BM,if_neg (by omega)];decide) ?_;rw [en,if_pos hk];exact SS.oh _ (by decide) _
  by_cases hg:t.n.s=nY
  ·exact some_ 0 (by rw [hg];decide) (by unfold kH;rw [if_pos hg];rfl) (by unfold eY;rw [if_pos hg])
  by_cases hp:t.n.s=oU
  ·exact some_ 1 (by rw [hp];decide) (by unfold kH;rw [if_neg hg,if_pos (.inl hp)];rfl) (by unfold eY;rw [if_neg hg,if_pos hp])
  by_cases hz:t.n.s=c8
  ·have fq:eY p q t=(en (if t.kids.length=1/\eH p (lB t) q.ls=true then q.fail 24 t.n.at_ else q) t.n t.kids.length 1,false):=by
    unfold eY;rw [if_neg hg,if_neg hp,if_pos hz]
   by_cases hk:t.kids.length=1
   ·have fH:cq t=true:=by rw [H5,hz,hk];rfl
    have BM:dz p t q.ls=if eH p (lB t) q.ls=true then 24 else 0:=by unfold dz;rw [if_pos fH]
    by_cases hb:eH p (lB t) q.ls=true
    ·refine fin _ fq (by rw [qA,BM,if_pos hb];decide) ?_;rw [if_pos ⟨hk,hb⟩,en,if_neg (by simpa using hk)];exact SS.oh _ (by decide) _
    ·have VN:eY p q t=(q,false):=by rw [fq,if_neg (fun h=>hb h.2),en,if_neg (by simpa using hk)]
     rw [uE,mD,VN,lf,if_pos eu];simp only [Bool.false_eq_true,if_false]
     have h0:bC p t q.ls=0:=by rw [qA,BM,if_neg hb]
     obtain ⟨k,jy⟩:∃ k,t.kids=[k]:=by
      match hl:t.kids,hk with
      | [k],_=>exact ⟨k,rfl⟩
     have x8:lB t=k.n:=by unfold lB;rw [jy]
     have qy:k.n.kind=2:=by
      have:eH p k.n q.ls=false:=by rw [<-x8];simpa using hb
      unfold eH at this;simp only [Bool.or_eq_false_iff] at this;simpa using this.1.1
     have eE:k.kids=[]:=nO k (by rw [jy];exact List.mem_singleton.2 rfl) qy
     have sX:aD k=1:=by rw [eh,eE,ay]
     have MV:∀ c:CS,((a+1:Nat):Int)=c.skip->bY p c (a+1) k q.ls=c:=fun c hc=>by unfold bY;rw [if_pos (.inr hc)]
     rw [ug,bE,h0,fH,if_neg eu,jy,x8];simp only [if_true,cQ];rw [ug,eE];simp only [cQ];rw [if_neg (by rw [qy];decide),MV _ rfl,if_neg (by rw [qy];decide)];refine .inl ⟨rfl,hq,rfl,?_,hl⟩;rw [b8,jy,ay,ay,sX];simp only;omega
   ·have ux:cq t=false:=by rw [H5,show (t.kids.length==1)=false by simpa using hk,Bool.and_false]
    refine fin _ fq ?_ ?_
    ·rw [qA];unfold dz;rw [ux,if_neg (by decide)]
     have:kH p t.n.s=1:=by unfold kH;rw [if_neg hg,if_pos (.inr hz)]
     rw [this,if_neg (by decide),if_neg (by omega)];decide
    ·rw [if_neg (fun h=>hk h.1),en,if_pos hk];exact SS.oh _ (by decide) _
  have ef:kH p t.n.s=match p.fns.findIdx? (fun f:Fn=>f.name==t.n.s) with | some i=>(kT p i:Int) | none => -1:=by
   unfold kH;rw [if_neg hg,if_neg (by rintro (h | h);(· exact hp h);exact hz h)]
  have fq:eY p q t=match p.fns.findIdx? (fun f:Fn=>f.name==t.n.s) with | none=>(q.fail 22 t.n.at_,false) | some i=>(en q t.n t.kids.length (kT p i),true):=by
   unfold eY;rw [if_neg hg,if_neg hp,if_neg hz]
  cases hf:p.fns.findIdx? (fun f:Fn=>f.name==t.n.s) with
  | some i =>
   rw [hf] at ef fq;exact some_ (kT p i) hz ef fq
  | none =>
   rw [hf] at ef fq;refine fin _ fq ?_ (SS.oh _ (by decide) _);rw [qA];unfold dz;rw [H5,show (t.n.s==c8)=false by simpa using hz,Bool.false_and,if_neg (by decide),ef];simp
 ·exact go (by unfold bC;rw [if_neg eu,if_neg h2,if_neg h3,if_neg h4]) (by unfold cq;rw [show (t.n.kind==4)=false by simpa using h4];rfl) eu
   (by unfold iC;rw [if_neg h2,if_neg h3,if_neg h4])
theorem EP:∀ {l:List T},cY l->∀ k∈l,eS k
 | [],_,k,hk=>by cases hk
 | t::r,h,k,hk=>by
  rw [cY] at h
  rcases List.mem_cons.1 hk with rfl | hk
  ·exact h.1
  ·exact EP h.2 k hk
mutual
theorem SO (p:Src):∀ (t:T),eS t->∀ (a:Nat) (r:CS) (q:SS),r.code=0->q.code=0->r.skip < (a:Int)->q.ls.length<=40->Bu (a+aD t) (fy (bY p) t a r q.ls) (mj p t q)
 | .mk n l,hw=>by
  rw [eS] at hw;refine NJ p (.mk n l) hw.1 (fun k hk h2=>?_) (SN p l hw.2.2);have:=EP hw.2.2 k hk;obtain ⟨m,j⟩:=k;rw [eS] at this;exact this.2.1 h2
theorem SN (p:Src):∀ (l:List T),cY l->∀ (a:Nat) (r:CS) (q:SS),r.code=0->q.code=0->r.skip < (a:Int)->q.ls.length<=40->Bu (a+ay l) (cQ (bY p) l a r q.ls) (gC p l q)
 | [],_,a,r,q,hr,hq,hs,hl=>by rw [cQ,gC,ay];exact .inl ⟨hr,hq,rfl,by simpa using hs,hl⟩
 | t::l,hw,a,r,q,hr,hq,hs,hl=>by
  rw [cY] at hw;rw [cQ,gC,ay]
  rcases SO p t hw.1 a r q hr hq hs hl with ⟨k1,k2,k3,k4,k5⟩ | ⟨k1,k2⟩
  ·rw [k3];have:=SN p l hw.2 (a+aD t) _ _ k1 k2 k4 k5;rw [Nat.add_assoc] at this;exact this
  ·exact .inr ⟨by rw [uh p l _ _ _ k1];exact k1,uF p l _ k2⟩
end
end Go.Im
namespace Go.Im
open Go.Xp Go.Sp
def fw (c k:Int):Int:=if c=0 then k else c
def lF (a:Ar):Bool:=decide (a.size < 1) || decide (a.size > 8000)
def iZ (p:Src):Bool:=match p.fns.findIdx? (fun f:Fn=>f.name==uB) with | none=>true | some i=>decide (kT p i > 0)
def rJ (p:Src):Bool:=(decide (p.fns.length > 40) || decide (p.globals.length > 29)) || decide (dA p.arrays > 8000)
def p7 (p:Src) (c:Int):Int :=
 if p.arrays.any lF=true then fw c 26
 else if iZ p=true then fw (if (p.fns.any fun f=>decide (f.params.length > 40))=true then fw (if rJ p=true then fw c 26 else c) 26 else (if rJ p=true then fw c 26 else c)) 25
 else if (p.fns.any fun f=>decide (f.params.length > 40))=true then fw (if rJ p=true then fw c 26 else c) 26 else (if rJ p=true then fw c 26 else c)
def o0 (f:Fn) (c:SS):SS:=⟨f.params,if tH f.params=true then fw c.code 21 else c.code,if tH f.params=true/\c.code=0 then 0 else c.at_⟩
def mx (p:Src):List Fn->List T->SS->SS
 | f::r,t::l,c=>mx p r l (if c.code=0 then mj p t (o0 f c) else c)
 | _,_,c=>c
def JA (p:Src) (l:List T):SS:=mx p p.fns l ⟨[],p7 p (if dT (cv p)=true then 21 else 0),0⟩
theorem xn (p:Src):∀ (fs:List Fn) (l:List T) (c:SS),c.code≠0->(mx p fs l c).code≠0
 | f::r,t::l,c,h=>by rw [mx,if_neg h];exact xn p r l c h
 | [],_,c,h=>by rw [mx];(· exact h);intros;simp_all
 | f::r,[],c,h=>by rw [mx];(· exact h);intros;simp_all
theorem Q1 (p:Src) (f:Fn) (t:T) (a:Nat) (c:SS) (hw:eS t) (hc:c.code=0) (hp:f.params.length<=40):(eU p f t a).1=0↔(mj p t (o0 f c)).code=0:=by
 unfold eU
 by_cases hd:tH f.params=true
 ·rw [if_pos hd]
  have:(o0 f c).code≠0:=by unfold o0;rw [if_pos hd];unfold fw;rw [if_pos hc];show (21:Int)≠0;decide
  have h2:=OY p t _ this;constructor
  ·intro h;cases h
  ·intro h;exact absurd h h2
 ·rw [if_neg hd]
  have hq:(o0 f c).code=0:=by unfold o0;rw [if_neg hd];exact hc
  have h1:=SO p t hw a ⟨0,0,-1⟩ (o0 f c) rfl hq (by show (-1:Int) < _;omega) hp;show (fy (bY p) t a ⟨0,0,-1⟩ (o0 f c).ls).1.code=0↔_
  rcases h1 with ⟨k1,k2,_⟩ | ⟨k1,k2⟩
  ·exact ⟨fun _=>k2,fun _=>k1⟩
  ·exact ⟨fun h=>absurd h k1,fun h=>absurd h k2⟩
theorem Gd (p:Src):∀ (fs:List Fn) (l:List T) (a:Nat) (c:SS),c.code=0->(∀ t∈l,eS t)->(∀ f∈fs,f.params.length<=40)->((eV p fs l a).1=0↔(mx p fs l c).code=0)
 | f::r,t::l,a,c,hc,hw,hp=>by
  have h1:=Q1 p f t a c (hw t mem_cons_self) hc (hp f mem_cons_self);rw [eV,mx,if_pos hc]
  by_cases h:(eU p f t a).1=0
  ·rw [if_neg (by simpa using h)];exact Gd p r l _ _ (h1.1 h) (fun u hu=>hw u (List.mem_cons_of_mem _ hu)) (fun g hg=>hp g (List.mem_cons_of_mem _ hg))
  ·rw [if_pos h]
   have h2:(mj p t (o0 f c)).code≠0:=fun e=>h (h1.2 e)
   exact ⟨fun e=>absurd e h,fun e=>absurd e (xn p r l _ h2)⟩
 | [],_,a,c,hc,_,_=>by rw [eV,mx];(· exact ⟨fun _=>hc,fun _=>rfl⟩);all_goals (intros;simp_all)
 | f::r,[],a,c,hc,_,_=>by rw [eV,mx];(· exact ⟨fun _=>hc,fun _=>rfl⟩);all_goals (intros;simp_all)
theorem cells_from (l:List Ar):∀ n:Int,l.foldl (fun n a=>n+a.size) n=n+dA l:=by
 induction l with
 | nil=>intro n;simp [dA]
 | cons a l ih =>
  intro n;unfold dA;rw [foldl_cons,foldl_cons,ih,ih (0+a.size)];omega
theorem HK (a:Ar) (l:List Ar):dA (a::l)=a.size+dA l:=by
 unfold dA;rw [foldl_cons,cells_from];unfold dA;omega
theorem Ms {l:List Ar} (h:∀ a∈l,0<=a.size):0<=dA l/\∀ a∈l,a.size<=dA l:=by
 induction l with
 | nil=>exact ⟨by simp [dA],fun a h=>by cases h⟩
 | cons b l ih =>
  obtain ⟨h1,h2⟩:=ih fun a ha=>h a (List.mem_cons_of_mem _ ha)
  have hb:=h b mem_cons_self;rw [HK];refine ⟨by omega,fun a ha=>?_⟩
  rcases List.mem_cons.1 ha with rfl | ha
  ·omega
  ·have:=h2 a ha;omega
theorem Fb {l:List ae} (h:dT l=false) {i j:Nat} {s:ae} (hi:l[i]?=some s) (hj:l[j]?=some s):i=j:=by
 have key:∀ x y:Nat,x < y->l[x]?=some s->l[y]?=some s->False:=fun x y iR h1 h2=>by
  have hy:=(List.getElem?_eq_some_iff.1 h2).1;unfold dT at h;rw [any_eq_false] at h;have:=h y (List.mem_range.2 hy);unfold jH at this;rw [h2] at this;simp only [Bool.or_eq_true,not_or] at this;apply this.2;rw [List.contains_iff_mem];rw [List.mem_take_iff_getElem];have hx:=(List.getElem?_eq_some_iff.1 h1);exact ⟨x,by have:=hx.1;omega,hx.2⟩
 rcases Nat.lt_trichotomy i j with h1 | h1 | h1
 ·exact (key i j h1 hi hj).elim
 ·exact h1
 ·exact (key j i h1 hj hi).elim
theorem DW {p:Src} (h:dT (cv p)=false):p.fns.any lO=true↔iZ p=false:=by
 have vP:∀ (i:Nat) f,p.fns[i]?=some f->(cv p)[(p.globals++eC p).length+i]?=some f.name:=fun i f hf=>by
  unfold cv;rw [List.getElem?_append_right (by omega),Nat.add_sub_cancel_left,gK,List.getElem?_map,hf];rfl
 unfold iZ
 cases hf:p.fns.findIdx? (fun f:Fn=>f.name==uB) with
 | none =>
  rw [List.findIdx?_eq_none_iff] at hf;constructor
  ·intro h1;obtain ⟨f,h2,h3⟩:=List.any_eq_true.1 h1;unfold lO at h3;have:=hf f h2;rw [this] at h3;cases h3
  ·intro h1;cases h1
 | some i =>
  rw [List.findIdx?_eq_some_iff_getElem] at hf;obtain ⟨hi,h1,h2⟩:=hf
  have x5:p.fns[i]?=some p.fns[i]:=by simp [hi]
  simp only [kT,x5];constructor
  ·intro h3;obtain ⟨f,h4,h5⟩:=List.any_eq_true.1 h3;obtain ⟨j,hj⟩:=List.getElem?_of_mem h4;unfold lO at h5;simp only [Bool.and_eq_true,beq_iff_eq] at h5 h1;have e1:=vP i _ x5;have e2:=vP j f hj;rw [h1] at e1;rw [h5.1] at e2;have:=Fb h e1 e2
   have:i=j:=by omega
   subst this;rw [hj] at x5;cases x5;simp [h5.2]
  ·intro h3;simp only [gt_iff_lt,decide_eq_false_iff_not,Nat.not_lt,Nat.le_zero] at h3;exact List.any_eq_true.2 ⟨p.fns[i],List.getElem_mem hi,by unfold lO;rw [h1,h3];rfl⟩
theorem Qo {p:Src} (ha:∀ a∈p.arrays,0<=a.size):(fE p=false/\iZ p=false)↔p7 p 0=0:=by
 obtain ⟨oP,hc⟩:=Ms ha;have f26:fw 0 26=26:=rfl
 have f25:∀ c,c≠0->fw c 25=c:=fun c h=>by unfold fw;rw [if_neg h]
 have Vw:∀ c,fw c 25≠0:=fun c=>by
  unfold fw;split
  ·decide
  ·assumption
 have Vx:∀ c,fw c 26≠0:=fun c=>by
  unfold fw;split
  ·decide
  ·assumption
 unfold p7
 by_cases h1:p.arrays.any lF=true
 ·rw [if_pos h1,f26];refine ⟨fun h=>?_,fun h=>by cases h⟩;obtain ⟨a,h2,h3⟩:=List.any_eq_true.1 h1;have h4:=h.1;unfold fE at h4;simp only [Bool.or_eq_false_iff,decide_eq_false_iff_not] at h4;have h5:=List.any_eq_false.1 h4.1 a h2;have h6:=hc a h2;have h7:=ha a h2;unfold lF at h3;simp only [Bool.or_eq_true,decide_eq_true_eq] at h3;simp only [beq_iff_eq] at h5;have h8:=h4.2.1.2;omega
 rw [if_neg h1]
 have hz:p.arrays.any (fun a=>a.size==0)=false:=by
  rw [any_eq_false];intro a h2 h3;apply h1;refine List.any_eq_true.2 ⟨a,h2,?_⟩;unfold lF;simp only [beq_iff_eq] at h3;rw [h3];rfl
 have XW:fE p=(rJ p || p.fns.any fun f=>decide (f.params.length > 40)):=by
  unfold fE rJ;rw [hz,Bool.false_or]
 rw [XW]
 by_cases h2:iZ p=true
 ·rw [if_pos h2];exact ⟨fun h=>(by rw [h2] at h;cases h.2),fun h=>absurd h (Vw _)⟩
 rw [if_neg h2]
 have pk:iZ p=false:=by simpa using h2
 by_cases h3:(p.fns.any fun f=>decide (f.params.length > 40))=true
 ·rw [if_pos h3,h3,Bool.or_true];exact ⟨fun h=>(by cases h.1),fun h=>absurd h (Vx _)⟩
 rw [if_neg h3,show (p.fns.any fun f=>decide (f.params.length > 40))=false by simpa using h3,Bool.or_false]
 by_cases h4:rJ p=true
 ·rw [if_pos h4,h4];exact ⟨fun h=>(by cases h.1),fun h=>(by cases h)⟩
 ·rw [if_neg h4];exact ⟨fun _=>rfl,fun _=>⟨by simpa using h4,pk⟩⟩
theorem QQ {p:Src} {l:List T} (ha:∀ a∈p.arrays,0<=a.size) (hw:∀ t∈l,eS t):(zm p l).1=0↔(JA p l).code=0:=by
 have ne:p7 p 21≠0:=by
  have f:∀ c k,c≠0->fw c k=c:=fun c k h=>by unfold fw;rw [if_neg h]
  unfold p7;simp only [f 21 26 (by decide),ite_self,f 21 25 (by decide)]
  decide
 unfold zm JA
 by_cases h1:dT (cv p)=true
 ·rw [if_pos h1,if_pos h1];exact ⟨fun h=>(by cases h),fun h=>absurd h (xn p _ _ _ ne)⟩
 rw [if_neg h1,if_neg h1];have hs:=Qo ha
 by_cases h2:p7 p 0=0
 ·obtain ⟨h3,h4⟩:=hs.2 h2;rw [if_neg (by rw [h3];decide),if_neg (by rw [(DW (by simpa using h1)).2 h4];decide),h2]
  refine Gd p _ _ _ _ rfl hw fun f hf=>?_
  unfold fE at h3;simp only [Bool.or_eq_false_iff] at h3;have:=List.any_eq_false.1 h3.2.2 f hf;simpa using this
 ·refine ⟨fun h=>?_,fun h=>absurd h (xn p _ _ _ h2)⟩;exfalso;apply h2;apply hs.1
  by_cases h3:fE p=true
  ·rw [if_pos h3] at h;cases h
  ·rw [if_neg h3] at h
   by_cases h4:p.fns.any lO=false
   ·rw [if_pos h4] at h;cases h
   ·exact ⟨by simpa using h3,(DW (by simpa using h1)).1 (by simpa using h4)⟩
end Go.Im
namespace Go.Im
open Go.Xp Go.Sp
mutual
def cn:T->List ae
 | .mk n l=>b7 l++(if n.kind=13 then [n.s] else [])
def b7:List T->List ae
 | []=>[]
 | t::r=>cn t++b7 r
end
theorem N1 (t:T):cn t=b7 t.kids++(if t.n.kind=13 then [t.n.s] else []):=by cases t;rw [cn];rfl
mutual
theorem AH {σ:Type} (f:σ->Nat->T->List ae->σ):∀ (t:T) (a:Nat) (s:σ) (ls:List ae),(fy f t a s ls).2=ls++cn t
 | .mk n l,a,s,ls=>by
  rw [fy,cn];simp only;rw [mw f l];split
  ·rw [List.append_assoc]
  ·rw [List.append_nil]
theorem mw {σ:Type} (f:σ->Nat->T->List ae->σ):∀ (l:List T) (a:Nat) (s:σ) (ls:List ae),(cQ f l a s ls).2=ls++b7 l
 | [],a,s,ls=>by rw [cQ,b7,List.append_nil]
 | t::r,a,s,ls=>by rw [cQ,mw f r,AH f t,b7,List.append_assoc]
end
mutual
def z7 (p:Src):T->List ae->Prop
 | .mk n l,ls=>bC p (.mk n l) ls=0/\(cq (.mk n l)=false->yV p l ls)
def yV (p:Src):List T->List ae->Prop
 | [],_=>True
 | t::r,ls=>z7 p t ls/\yV p r (ls++cn t)
end
mutual
theorem O0 (p:Src):∀ (t:T),eS t->∀ (a:Nat) (r:CS) (ls:List ae),r.code=0->r.skip < (a:Int)->(fy (bY p) t a r ls).1.code=0->z7 p t ls/\(fy (bY p) t a r ls).1.skip < ((a+aD t:Nat):Int)
 | .mk n l,hw,a,r,ls,hr,hs,hc=>by
  rw [eS] at hw
  have bO:¬ (r.code≠0\/(a:Int)=r.skip):=by
   rintro (h | h)
   ·exact h hr
   ·omega
  obtain ⟨pl,bE⟩:∃ pl,bY p r a (.mk n l) ls=⟨bC p (.mk n l) ls,pl,if cq (.mk n l)=true then (if (lB (.mk n l)).kind≠2 then -1 else ((a+1:Nat):Int)) else r.skip⟩:=by
   unfold bY;rw [if_neg bO];exact ⟨_,rfl⟩
  rw [fy] at hc |-;simp only at hc |-;rw [bE] at hc |-
  have h0:bC p (.mk n l) ls=0:=by
   by_cases h0:bC p (.mk n l) ls=0
   ·exact h0
   ·rw [uh p l _ _ _ h0] at hc;exact hc
  rw [h0] at hc |-
  by_cases hz:cq (.mk n l)=true
  ·have hk:l.length=1:=by
    unfold cq at hz;simp only [Bool.and_eq_true,beq_iff_eq] at hz;exact hz.2
   have h4:n.kind=4/\n.s=c8:=by
    unfold cq at hz;simp only [Bool.and_eq_true,beq_iff_eq] at hz;exact hz.1
   have hb:eH p (lB (.mk n l)) ls=false:=by
    have e:bC p (.mk n l) ls=dz p (.mk n l) ls:=by
     unfold bC;rw [if_neg (by show ¬ n.kind=13;omega),if_neg (by show ¬ (n.kind=2\/n.kind=7);omega),if_neg (by show ¬ (n.kind=3\/n.kind=8);omega),if_pos (by show n.kind=4;omega)]
    rw [e] at h0;unfold dz at h0;rw [if_pos hz] at h0
    by_cases hb:eH p (lB (.mk n l)) ls=true
    ·rw [if_pos hb] at h0;cases h0
    ·simpa using hb
   have qy:(lB (.mk n l)).kind=2:=by
    unfold eH at hb;simp only [Bool.or_eq_false_iff] at hb;simpa using hb.1.1
   rw [if_pos hz,if_neg (by rw [qy];decide)] at hc |-
   match l,hk,hw with
   | [k],_,hw =>
    have VU:k.n.kind=2:=qy;rw [cY] at hw
    have eE:k.kids=[]:=by
     have:=hw.2.2.1;obtain ⟨m,j⟩:=k;rw [eS] at this;exact this.2.1 VU
    have sX:aD k=1:=by rw [eh,eE,ay]
    refine ⟨by rw [z7];exact ⟨h0,fun h=>by rw [hz] at h;cases h⟩,?_⟩;simp only [cQ];rw [ug,eE];simp only [cQ]
    have MV:bY p ⟨0,pl,((a+1:Nat):Int)⟩ (a+1) k ls=⟨0,pl,((a+1:Nat):Int)⟩:=by unfold bY;rw [if_pos (.inr rfl)]
    rw [MV,aD,ay,ay,sX];simp only;omega
  ·have U9:cq (.mk n l)=false:=by simpa using hz
   rw [if_neg hz] at hc |-;have h:=Ll p l hw.2.2 (a+1) ⟨0,pl,r.skip⟩ ls rfl (by simp only;omega) hc;refine ⟨by rw [z7];exact ⟨h0,fun _=>h.1⟩,?_⟩;rw [aD,show a+(ay l+1)=a+1+ay l by omega];exact h.2
theorem Ll (p:Src):∀ (l:List T),cY l->∀ (a:Nat) (r:CS) (ls:List ae),r.code=0->r.skip < (a:Int)->(cQ (bY p) l a r ls).1.code=0->yV p l ls/\(cQ (bY p) l a r ls).1.skip < ((a+ay l:Nat):Int)
 | [],_,a,r,ls,hr,hs,hc=>by rw [cQ,ay];exact ⟨trivial,by simpa using hs⟩
 | t::l,hw,a,r,ls,hr,hs,hc=>by
  rw [cY] at hw;rw [cQ] at hc |-
  have h1:(fy (bY p) t a r ls).1.code=0:=by
   by_cases h1:(fy (bY p) t a r ls).1.code=0
   ·exact h1
   ·rw [uh p l _ _ _ h1] at hc;exact hc
  obtain ⟨h2,h3⟩:=O0 p t hw.1 a r ls hr hs h1;obtain ⟨h4,h5⟩:=Ll p l hw.2 _ _ _ h1 h3 hc;rw [AH] at h4;rw [yV,ay,<-Nat.add_assoc];exact ⟨⟨h2,h4⟩,h5⟩
end
mutual
def n7 (h:Nd->List ae->Bool):T->List ae->Nat
 | .mk n l,ls=>(if h n ls=true then 1 else 0)+mW h l ls
def mW (h:Nd->List ae->Bool):List T->List ae->Nat
 | [],_=>0
 | t::r,ls=>n7 h t ls+mW h r (ls++cn t)
end
def eZ (h:Nd->List ae->Bool) (s:Nat) (_:Nat) (t:T) (ls:List ae):Nat:=if h t.n ls=true then s+1 else s
mutual
theorem JO (h:Nd->List ae->Bool):∀ (t:T) (a s:Nat) (ls:List ae),(fy (eZ h) t a s ls).1=s+n7 h t ls
 | .mk n l,a,s,ls=>by
  rw [fy,n7];simp only;rw [AJ h l];unfold eZ;show (if h n ls=true then s+1 else s)+_=_;split <;> omega
theorem AJ (h:Nd->List ae->Bool):∀ (l:List T) (a s:Nat) (ls:List ae),(cQ (eZ h) l a s ls).1=s+mW h l ls
 | [],a,s,ls=>by rw [cQ,mW];rfl
 | t::r,a,s,ls=>by rw [cQ,AJ h r,JO h t,AH,mW];omega
end
mutual
theorem QR (h:Nd->List ae->Bool):∀ (t:T) (ls:List ae),n7 h t ls<=aD t
 | .mk n l,ls=>by
  have:=AD h l ls;rw [n7,aD];split <;> omega
theorem AD (h:Nd->List ae->Bool):∀ (l:List T) (ls:List ae),mW h l ls<=ay l
 | [],ls=>by rw [mW];exact Nat.zero_le _
 | t::r,ls=>by
  have:=QR h t ls;have:=AD h r (ls++cn t);rw [mW,ay];omega
end
def fa (name:ae) (kinds:List Int) (n:Nd) (ls:List ae):Bool:=(n.s==name&&kinds.contains n.kind)&&(n.kind==13 || ls.contains name)
def tY (names:List ae) (s:ae):Int:=cX (fun x=>x==s) names
def mb (names:List ae) (n:Nd) (known:List ae):Nd :=
 if n.kind=13 then ⟨n.kind,n.at_,tY names n.s+1,n.s,n.kids⟩
 else if (n.kind=2\/n.kind=7)/\known.contains n.s=true then ⟨n.kind,n.at_,tY names n.s+1,n.s,n.kids⟩ else n
mutual
def kC (names:List ae):T->List ae->T
 | .mk n l,known=>.mk (mb names n known) (fF names l known)
def fF (names:List ae):List T->List ae->List T
 | [],_=>[]
 | t::r,known=>kC names t known::fF names r (known++cn t)
end
def AR (kinds:List Int) (name:ae) (loc:Bool) (n:Nd):Bool:=(kinds.contains n.kind&&n.s==name)&&(decide (n.n > 0)==loc)
mutual
def qP (kinds:List Int) (name:ae) (loc:Bool):T->Nat
 | .mk n l=>(if AR kinds name loc n=true then 1 else 0)+kD kinds name loc (n.kind==4&&n.s==c8) l
def kD (kinds:List Int) (name:ae) (loc:Bool):Bool->List T->Nat
 | _,[]=>0
 | b,t::r=>(if b=true then 0 else qP kinds name loc t)+kD kinds name loc false r
end
mutual
def zT:T->Prop
 | .mk n l=>(n.kind≠1->n.n=0)/\fX l
def fX:List T->Prop
 | []=>True
 | t::r=>zT t/\fX r
end
mutual
theorem Tb:∀ t:T,zT (er t)↔zT t
 | .mk n l=>by rw [er,zT,zT,Pd l]
theorem Pd:∀ l:List T,fX (aI l)↔fX l
 | []=>by rw [aI]
 | t::r=>by rw [aI,fX,fX,Tb t,Pd r]
end
mutual
theorem E.z:∀ a:E,zT a.tree
 | .num n=>by rw [E.tree,zT];exact ⟨fun h=>absurd rfl h,trivial⟩
 | .name s=>by rw [E.tree,zT];exact ⟨fun _=>rfl,trivial⟩
 | .at_ s a=>by rw [E.tree,zT,fX,fX];exact ⟨fun _=>rfl,E.z a,trivial⟩
 | .call s l=>by rw [E.tree,zT];exact ⟨fun _=>rfl,E.zs l⟩
 | .un s a=>by rw [E.tree,zT,fX,fX];exact ⟨fun _=>rfl,E.z a,trivial⟩
 | .bin s a b=>by rw [E.tree,zT,fX,fX,fX];exact ⟨fun _=>rfl,E.z a,E.z b,trivial⟩
theorem E.zs:∀ l:List E,fX (E.trees l)
 | []=>trivial
 | a::l=>by rw [E.trees,fX];exact ⟨E.z a,E.zs l⟩
end
mutual
theorem S.z:∀ a:S,zT a.tree
 | .set s a=>by rw [S.tree,zT,fX,fX];exact ⟨fun _=>rfl,E.z a,trivial⟩
 | .put s a b=>by rw [S.tree,zT,fX,fX,fX];exact ⟨fun _=>rfl,E.z a,E.z b,trivial⟩
 | .if1 c b=>by rw [S.tree,zT,fX,fX,fX,zT];exact ⟨fun _=>rfl,E.z c,⟨fun _=>rfl,S.zs b⟩,trivial⟩
 | .if2 c b d=>by rw [S.tree,zT,fX,fX,fX,fX,zT,zT];exact ⟨fun _=>rfl,E.z c,⟨fun _=>rfl,S.zs b⟩,⟨fun _=>rfl,S.zs d⟩,trivial⟩
 | .while_ c b=>by rw [S.tree,zT,fX,fX,fX,zT];exact ⟨fun _=>rfl,E.z c,⟨fun _=>rfl,S.zs b⟩,trivial⟩
 | .ret a=>by rw [S.tree,zT,fX,fX];exact ⟨fun _=>rfl,E.z a,trivial⟩
 | .do_ a=>by rw [S.tree,zT,fX,fX];exact ⟨fun _=>rfl,E.z a,trivial⟩
 | .var s a=>by rw [S.tree,zT,fX,fX];exact ⟨fun _=>rfl,E.z a,trivial⟩
theorem S.zs:∀ l:List S,fX (S.trees l)
 | []=>trivial
 | a::l=>by rw [S.trees,fX];exact ⟨S.z a,S.zs l⟩
end
theorem Uv (l:List S):zT (bB l):=by rw [bB,zT];exact ⟨fun _=>rfl,S.zs l⟩
theorem Av {names:List ae} {s:ae} (h:s∈names):0 < tY names s+1:=by
 unfold tY cX
 cases hf:names.findIdx? (fun x=>x==s) with
 | some i=>simp only;omega
 | none =>
  rw [List.findIdx?_eq_none_iff] at hf;have:=hf s h;simp at this
theorem q9 (names:List ae) (n:Nd) (ls:List ae):(mb names n ls).kind=n.kind/\(mb names n ls).s=n.s:=by
 unfold mb;split
 ·exact ⟨rfl,rfl⟩
 split <;> exact ⟨rfl,rfl⟩
theorem Qp {p:Src} {t:T} {ls:List ae} (hw:eS t) (h0:bC p t ls=0) (hk:t.n.kind=4) (hs:t.n.s=c8):∃ k,t.kids=[k]/\k.n.kind=2/\k.kids=[]/\0<=xf p k.n.s/\ls.contains k.n.s=false/\cq t=true:=by
 have e:bC p t ls=dz p t ls:=by
  unfold bC;rw [if_neg (by omega),if_neg (by omega),if_neg (by omega),if_pos hk]
 rw [e] at h0
 have hm:kH p t.n.s=1:=by rw [hs];unfold kH;rw [if_neg (by decide),if_pos (.inr rfl)]
 by_cases hl:t.kids.length=1
 ·have hz:cq t=true:=by unfold cq;rw [hk,hs,hl];rfl
  unfold dz at h0;rw [if_pos hz] at h0
  have hb:eH p (lB t) ls=false:=by
   by_cases hb:eH p (lB t) ls=true
   ·rw [if_pos hb] at h0;cases h0
   ·simpa using hb
  obtain ⟨n,l⟩:=t
  match l,hl with
  | [k],_ =>
   have ba:eH p k.n ls=false:=hb;unfold eH at ba;simp only [Bool.or_eq_false_iff,bne_eq_false_iff_eq,decide_eq_false_iff_not,Int.not_lt] at ba;rw [eS,cY] at hw;refine ⟨k,rfl,ba.1.1,?_,ba.1.2,ba.2,hz⟩;have:=hw.2.2.1;obtain ⟨m,j⟩:=k;rw [eS] at this;exact this.2.1 ba.1.1
 ·have hz:cq t=false:=by unfold cq;rw [show (t.kids.length==1)=false by simpa using hl,Bool.and_false]
  unfold dz at h0;rw [if_neg (by rw [hz];decide),hm,if_neg (by decide),if_neg (by omega)] at h0;cases h0
theorem Mt {p:Src} {names:List ae} {kinds:List Int} {name:ae} {loc:Bool} {h:Nd->List ae->Bool} (t:T) (ls:List ae) (hw:eS t) (ho:z7 p t ls)
  (hn:AR kinds name loc (mb names t.n ls)=h t.n ls) (hs:∀ k,0<=xf p k->ls.contains k=false->∀ m:Nd,m.kind=2->m.s=k->h m ls=false)
  (ih:yV p t.kids ls->kD kinds name loc false (fF names t.kids ls)=mW h t.kids ls):qP kinds name loc (kC names t ls)=n7 h t ls:=by
 obtain ⟨n,l⟩:=t;have hn:AR kinds name loc (mb names n ls)=h n ls:=hn;rw [z7] at ho;rw [kC,qP,n7,(q9 names n ls).1,(q9 names n ls).2,hn]
 congr 1
 by_cases hz:n.kind=4/\n.s=c8
 ·obtain ⟨k,h1,h2,h3,h4,h5,h6⟩:=Qp hw ho.1 hz.1 hz.2;have h1:l=[k]:=h1;subst h1;rw [show (n.kind==4&&n.s==c8)=true by rw [hz.1,hz.2];rfl];have:h k.n ls=false:=hs _ h4 h5 k.n h2 rfl;obtain ⟨m,j⟩:=k;have h3:j=[]:=h3;subst h3;have this:h m ls=false:=this;simp only [fF,kD,mW,n7,if_true];rw [this];rfl
 ·have h1:cq (.mk n l)=false:=by
   unfold cq;show ((n.kind==4&&n.s==c8)&&_)=false;rw [show (n.kind==4&&n.s==c8)=false by simp only [Bool.and_eq_false_iff,beq_eq_false_iff_ne,ne_eq];by_cases h:n.kind=4;(· exact .inr fun e=>hz ⟨h,e⟩);exact .inl h];rfl
  rw [show (n.kind==4&&n.s==c8)=false by simp only [Bool.and_eq_false_iff,beq_eq_false_iff_ne,ne_eq];by_cases h:n.kind=4;(· exact .inr fun e=>hz ⟨h,e⟩);exact .inl h];exact ih (ho.2 h1)
theorem HL (kinds:List Int) (name:ae) (loc:Bool) (t:T) (r:List T):kD kinds name loc false (t::r)=qP kinds name loc t+kD kinds name loc false r:=by
 rw [kD];simp
section
variable (p:Src) (names:List ae) (name:ae)
theorem Ku (kinds:List Int) (hk:∀ k∈kinds,k=2\/k=7\/k=13) (n:Nd) (ls:List ae) (hz:n.kind≠1->n.n=0) (fV:∀ s∈ls,s∈names) (hv:n.kind=13->n.s∈names):AR kinds name true (mb names n ls)=fa name kinds n ls:=by
 unfold AR fa;rw [(q9 names n ls).1,(q9 names n ls).2]
 by_cases gz:kinds.contains n.kind=true
 ·rw [gz]
  by_cases hs:n.s=name
  ·subst hs;simp only [BEq.rfl,Bool.and_true,Bool.true_and]
   rcases hk _ (List.contains_iff_mem.1 gz) with h | h | h
   ·rw [show (n.kind==13)=false by rw [h];rfl,Bool.false_or];unfold mb;rw [if_neg (by omega)]
    by_cases hc:ls.contains n.s=true
    ·rw [if_pos ⟨.inl h,hc⟩,hc];have:=Av (fV _ (List.contains_iff_mem.1 hc));simp only [gt_iff_lt,decide_eq_true this];rfl
    ·rw [if_neg (fun e=>hc e.2),hz (by omega),show ls.contains n.s=false by simpa using hc];rfl
   ·rw [show (n.kind==13)=false by rw [h];rfl,Bool.false_or];unfold mb;rw [if_neg (by omega)]
    by_cases hc:ls.contains n.s=true
    ·rw [if_pos ⟨.inr h,hc⟩,hc];have:=Av (fV _ (List.contains_iff_mem.1 hc));simp only [gt_iff_lt,decide_eq_true this];rfl
    ·rw [if_neg (fun e=>hc e.2),hz (by omega),show ls.contains n.s=false by simpa using hc];rfl
   ·rw [show (n.kind==13)=true by rw [h];rfl,Bool.true_or];unfold mb;rw [if_pos h];have:=Av (hv h);simp only [gt_iff_lt,decide_eq_true this];rfl
  ·rw [show (n.s==name)=false by simpa using hs];rfl
 ·rw [show kinds.contains n.kind=false by simpa using gz];simp
mutual
theorem FV (kinds:List Int) (hk:∀ k∈kinds,k=2\/k=7\/k=13):∀ (t:T) (ls:List ae),eS t->zT t->z7 p t ls->(∀ s∈ls,s∈names)->(∀ s∈cn t,s∈names)->qP kinds name true (kC names t ls)=n7 (fa name kinds) t ls
 | .mk n l,ls,hw,hz,ho,fV,hv=>by
  have U5:=hw;rw [eS] at U5;rw [zT] at hz;rw [cn] at hv
  refine Mt (p:=p) (.mk n l) ls hw ho (Ku names name kinds hk n ls hz.1 fV fun h=>hv _ (by rw [if_pos h];simp)) (fun k h1 h2 m h3 h4=>?_) fun RP=>C5 kinds hk l ls U5.2.2 hz.2 RP fV fun s hs=>hv s (List.mem_append_left _ hs)
  unfold fa;rw [h3]
  by_cases hm:m.s=name
  ·rw [<-hm,h4,h2];simp
  ·rw [show (m.s==name)=false by simpa using hm];rfl
theorem C5 (kinds:List Int) (hk:∀ k∈kinds,k=2\/k=7\/k=13):∀ (l:List T) (ls:List ae),cY l->fX l->yV p l ls->(∀ s∈ls,s∈names)->(∀ s∈b7 l,s∈names)->kD kinds name true false (fF names l ls)=mW (fa name kinds) l ls
 | [],ls,_,_,_,_,_=>by rw [fF,kD,mW]
 | t::r,ls,hw,hz,ho,fV,hv=>by
  rw [cY] at hw;rw [fX] at hz;rw [yV] at ho;rw [b7] at hv
  have U3:∀ s∈cn t,s∈names:=fun s hs=>hv s (List.mem_append_left _ hs)
  rw [fF,HL,mW,FV kinds hk t ls hw.1 hz.1 ho.1 fV U3,C5 kinds hk r _ hw.2 hz.2 ho.2 (fun s hs=>by rcases List.mem_append.1 hs with h | h;(· exact fV s h);exact U3 s h) fun s hs=>hv s (List.mem_append_right _ hs)]
end
end
end Go.Im
namespace Go.Im
open Go.Xp Go.Sp
theorem Forms.wf {l:List T} {ls:List (List S)} (h:Forms l ls) {i:Nat} {t:T} (ht:l[i]?=some t):eS t/\zT t:=by
 have hi:=(List.getElem?_eq_some_iff.1 ht).1;have hlen:=h.len;have hb:ls[i]?=some (ls[i]'(by omega)):=List.getElem?_eq_getElem _;obtain ⟨_,h2⟩:=h.at_ i t _ ht hb;exact ⟨(Pb t).1 (by rw [h2];exact S5 _),(Tb t).1 (by rw [h2];exact Uv _)⟩
theorem J0 (p:Src):∀ (fs:List Fn) (l:List T) (a:Nat),(eV p fs l a).1=0->∀ (i:Nat) f t,fs[i]?=some f->l[i]?=some t->∃ b,(eU p f t b).1=0
 | f::r,t::l,a,h,0,g,u,h1,h2=>by
  cases h1;cases h2
  rw [eV] at h
  by_cases hc:(eU p f t a).1=0
  ·exact ⟨a,hc⟩
  ·rw [if_pos hc] at h;exact absurd h hc
 | f::r,t::l,a,h,i+1,g,u,h1,h2=>by
  rw [eV] at h
  by_cases hc:(eU p f t a).1=0
  ·rw [if_neg (by simpa using hc)] at h;exact J0 p r l _ h i g u (by simpa using h1) (by simpa using h2)
  ·rw [if_pos hc] at h;exact absurd h hc
 | [],_,a,h,i,g,u,h1,h2=>by simp at h1
 | f::r,[],a,h,i,g,u,h1,h2=>by simp at h2
structure Good (p:Src) (l:List T):Prop where
 st:fv p l
 test:fI p=true
 names:dT (cv p)=false
 len:p.fns.length=l.length
 at_:∀ (i:Nat) f t,p.fns[i]?=some f->l[i]?=some t->z7 p t f.params/\eS t/\zT t/\dx p.nodes f.body.toNat t/\0<=f.body
theorem PK {p:Src} (h:gW p=true):∃ l,Good p l:=by
 unfold gW at h;rw [Bool.and_eq_true] at h;obtain ⟨hf,h⟩:=h;obtain ⟨l,hl⟩:=qw hf;rw [hl.Bx] at h;simp only [decide_eq_true_eq] at h;obtain ⟨ls,hm⟩:=hl.HU
 have hb:dT (cv p)=false:=by
  unfold zm at h
  by_cases hb:dT (cv p)=true
  ·rw [if_pos hb] at h;cases h
  ·simpa using hb
 have kz:(eV p p.fns l 0).1=0:=by
  unfold zm at h;rw [if_neg (by rw [hb];decide)] at h;split at h
  ·cases h
  split at h
  ·cases h
  ·exact h
 refine ⟨l,hl,hf,hb,ff.len hl.fns,fun i f t h1 h2=>?_⟩;obtain ⟨b,hc⟩:=J0 p _ _ _ kz i f t h1 h2;obtain ⟨w1,w2⟩:=hm.wf h2;unfold eU at hc
 have hd:¬ tH f.params=true:=fun hd=>by rw [if_pos hd] at hc;cases hc
 rw [if_neg hd] at hc;have hi:=(List.getElem?_eq_some_iff.1 h2).1;obtain ⟨h5,h6⟩:=ff.at_ hl.fns i f t h1 h2;have h7:=di.ix l 0 i _ hl.st h2;rw [Nat.zero_add] at h5 h7;refine ⟨(O0 p t w1 b ⟨0,0,-1⟩ f.params rfl (by show (-1:Int) < _;omega) hc).1,w1,w2,?_,by omega⟩;rw [h5,Int.toNat_natCast];exact h7
def OX (p:Src) (l:List T) (i:Nat):List ae:=match p.fns[i]?,l[i]? with | some f,some t=>f.params++cn t | _,_=>[]
def jM (kinds:List Int) (p:Src) (fn:Int) (name:ae):Int :=
 if fn < 0\/(p.fns.length:Int)<=fn then -1 else if gW p=false then -1 else match hY p.nodes p.fns 0 [] with
  | some (l,_)=>(match p.fns[fn.toNat]?,l[fn.toNat]? with | some f,some t=>((n7 (fa name kinds) t f.params:Nat):Int) | _,_ => -1)
  | none => -1
end Go.Im
namespace Go.Im
open Go.Xp Go.Sp
theorem C8 {σ:Type} (f:σ->Nat->T->List ae->σ) (t:T):∀ (l:List T) (a:Nat) (s:σ) (ls:List ae),cQ f (l++[t]) a s ls=fy f t (a+ay l) (cQ f l a s ls).1 (cQ f l a s ls).2
 | [],a,s,ls=>by rw [List.nil_append,cQ,cQ,cQ,ay,Nat.add_zero]
 | u::l,a,s,ls=>by rw [List.cons_append,cQ,C8 f t l,cQ,ay,Nat.add_assoc]
theorem yz {σ:Type} (f:σ->Nat->T->List ae->σ) {l:List T} {k:Nat} {t:T} (h:l[k]?=some t) (a:Nat) (s:σ) (ls:List ae) :
  cQ f (l.take (k+1)) a s ls=fy f t (a+ay (l.take k)) (cQ f (l.take k) a s ls).1 (cQ f (l.take k) a s ls).2:=by
 have:l.take (k+1)=l.take k++[t]:=by rw [take_add_one,h];rfl
 rw [this,C8]
theorem td:∀ {l:List T} {n k:Nat} {t:T},l[k]?=some t->(bN n l)[k]?=some (((n+ay (l.take k):Nat)):Int)
 | u::l,n,0,t,h=>by simp [bN,ay]
 | u::l,n,k+1,t,h=>by
  have:=td (l:=l) (n:=n+aD u) (k:=k) (t:=t) (by simpa using h);rw [bN,List.getElem?_cons_succ,this,List.take_succ_cons,ay,Nat.add_assoc]
 | [],n,k,t,h=>by simp at h
theorem mQ {l:List T} {k:Nat} {t:T} (h:l[k]?=some t):ay (l.take k)+aD t<=ay l:=by
 have h1:l.take (k+1)=l.take k++[t]:=by rw [take_add_one,h];rfl
 have h2:ay l=ay (l.take (k+1))+ay (l.drop (k+1)):=by rw [<-lV,List.take_append_drop]
 rw [h1,lV,ay,ay] at h2;omega
theorem NP {l:List T} {k:Nat} {t:T} (h:l[k]?=some t):ay (l.take (k+1))=ay (l.take k)+aD t:=by
 have h1:l.take (k+1)=l.take k++[t]:=by rw [take_add_one,h];rfl
 rw [h1,lV,ay,ay,Nat.add_zero]
theorem zd:∀ (N:Nat) (t:T),aD t<=N->(cn t).length<=aD t:=by
 intro N
 induction N with
 | zero=>intro t h;have:=gP t;omega
 | succ N ih =>
  intro t h
  have key:∀ l:List T,ay l<=N->(b7 l).length<=ay l:=by
   intro l
   induction l with
   | nil=>intro _;simp [b7]
   | cons u l ih2 =>
    intro h;rw [ay] at h;have:=ih u (by omega);have:=ih2 (by omega);rw [b7,length_append,ay];omega
  rw [eh] at h |-;have:=key t.kids (by omega);rw [N1,length_append];split <;> simp <;> omega
theorem iX (l:List T):(b7 l).length<=ay l:=by
 induction l with
 | nil=>simp [b7]
 | cons u l ih =>
  have:=zd _ u (Nat.le_refl _);rw [b7,length_append,ay];omega
theorem yr {l:List T} {k:Nat} {t:T} (h:l[k]?=some t):b7 (l.take (k+1))=b7 (l.take k)++cn t:=by
 have h1:l.take (k+1)=l.take k++[t]:=by rw [take_add_one,h];rfl
 have:∀ a b:List T,b7 (a++b)=b7 a++b7 b:=by
  intro a b
  induction a with
  | nil=>simp [b7]
  | cons u a ih=>simp [b7,ih]
 rw [h1,this];simp [b7]
end Go.Im
namespace Go.Im
open Go.Xp Go.Sp
theorem lz {α:Type} {f:α->Bool} {l:List α} {k:Nat} {x:α} (hk:l[k]?=some x) (h:f x=true) (aM:(l.take k).all (fun y=>!f y)=true):cX f l=(k:Int):=by
 have aq:k < l.length:=by
  rcases Nat.lt_or_ge k l.length with h1 | h1
  ·exact h1
  ·rw [List.getElem?_eq_none h1] at hk;cases hk
 have hx:l[k]=x:=by rw [List.getElem?_eq_getElem aq] at hk;exact Option.some.inj hk
 have:l.findIdx? f=some k:=by
  rw [List.findIdx?_eq_some_iff_getElem];refine ⟨aq,by rw [hx];exact h,fun j hj=>?_⟩;rw [all_eq_true] at aM;have:=aM l[j] (by rw [List.mem_take_iff_getElem];exact ⟨j,by omega,rfl⟩);simpa using this
 unfold cX;rw [this]
theorem iO {α:Type} {f:α->Bool} {l:List α} (aM:l.all (fun y=>!f y)=true):cX f l = -1:=by
 have:l.findIdx? f=none:=by
  rw [List.findIdx?_eq_none_iff];intro x hx;rw [all_eq_true] at aM;simpa using aM x hx
 unfold cX;rw [this]
theorem lu {α:Type} {f:α->Bool} {l:List α} {k:Nat} {x:α} (hk:l[k]?=some x):(l.take (k+1)).all (fun y=>!f y)=((l.take k).all (fun y=>!f y)&&!f x):=by
 rw [take_add_one,hk,List.all_append];simp
theorem BH {α:Type} (f:α->Bool) (l:List α):decide ((0:Int)<=cX f l)=l.any f:=by
 cases h:l.any f with
 | false =>
  rw [iO (by rw [any_eq_false] at h;rw [all_eq_true];intro x hx;simpa using h x hx)];rfl
 | true =>
  unfold cX
  cases h2:l.findIdx? f with
  | some i=>simp
  | none =>
   rw [List.findIdx?_eq_none_iff] at h2;rw [any_eq_true] at h;obtain ⟨x,hx,h3⟩:=h;have:=h2 x hx;simp [h3] at this
end Go.Im
