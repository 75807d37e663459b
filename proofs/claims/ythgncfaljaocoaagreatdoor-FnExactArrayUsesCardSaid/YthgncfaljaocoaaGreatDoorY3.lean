/- Part 3 of proofs that are told in their last texts. -/
import Derived.Test.YthgncfaljaocoaaGreatDoorY2
open List (all_eq_true any_eq_false any_eq_true foldl_cons length_append mem_append_left mem_cons_self take_add_one)
set_option linter.unusedVariables false
set_option linter.unusedSimpArgs false
set_option maxRecDepth 100000
namespace Go.Im
open Go.Xp Go.Sp
def oB:ae:=[103,101,116]
def pE:ae:=[112,117,116]
def dc:ae:=[115,105,122,101]
def vf:ae:=[109,97,105,110]
def lT (s:ae):Bool:=(s==oB || s==pE) || s==dc
def cB {α:Type} (f:α->Bool) (l:List α):Int:=match l.findIdx? f with | some i=>(i:Int) | none => -1
def fO (p:Src) (s:ae):Int:=cB (fun a:Ar=>a.name==s) p.arrays
def dU (p:Src):List ae:=p.arrays.map fun a:Ar=>a.name
def ir (p:Src):List ae:=p.fns.map fun f:Fn=>f.name
def bW (p:Src):List ae:=(p.globals++dU p)++ir p
def lU (t:T):Nd:=match t.kids with | k::_=>k.n | []=>⟨0,0,0,[],[]⟩
def cy (t:T):Bool:=(t.n.kind==4&&t.n.s==dc)&&(t.kids.length==1)
def lu (p:Src) (i:Nat):Nat:=match p.fns[i]? with | some f=>f.params.length | none=>0
def la (p:Src) (s:ae):Int:=if s=oB then 0 else if s=pE\/s=dc then 1 else match p.fns.findIdx? (fun f:Fn=>f.name==s) with | some i=>(lu p i:Int) | none => -1
def eP (p:Src) (k:Nd) (ls:List ae):Bool:=(k.kind != 2 || decide (fO p k.s < 0)) || ls.contains k.s
def dB (p:Src) (t:T) (ls:List ae):Int :=
 if cy t=true then (if eP p (lU t) ls=true then 24 else 0)
 else if la p t.n.s = -1 then 22 else if la p t.n.s=(t.kids.length:Int) then 0 else 23
def bp (p:Src) (t:T) (ls:List ae):Int :=
 if t.n.kind=13 then (if ls.contains t.n.s=true then 21 else if ls.length>=40 then 26 else 0)
 else if t.n.kind=2\/t.n.kind=7 then (if ls.contains t.n.s=false/\p.globals.contains t.n.s=false then 22 else 0)
 else if t.n.kind=3\/t.n.kind=8 then (if ls.contains t.n.s=true\/fO p t.n.s < 0 then 24 else 0)
 else if t.n.kind=4 then dB p t ls
 else 0
structure CS where
 code:Int
 place:Int
 skip:Int
def b8 (p:Src) (c:CS) (a:Nat) (t:T) (ls:List ae):CS :=
 if c.code≠0\/(a:Int)=c.skip then c
 else ⟨bp p t ls,if bp p t ls≠0 then t.n.at_ else c.place,if cy t=true then (if (lU t).kind≠2 then -1 else ((a+1:Nat):Int)) else c.skip⟩
mutual
def eR {σ:Type} (f:σ->Nat->T->List ae->σ):T->Nat->σ->List ae->σ × List ae
 | .mk n l,a,s,ls=>((bU f l (a+1) (f s a (.mk n l) ls) ls).1,if n.kind=13 then (bU f l (a+1) (f s a (.mk n l) ls) ls).2++[n.s] else (bU f l (a+1) (f s a (.mk n l) ls) ls).2)
def bU {σ:Type} (f:σ->Nat->T->List ae->σ):List T->Nat->σ->List ae->σ × List ae
 | [],_,s,ls=>(s,ls)
 | t::r,a,s,ls=>bU f r (a+aB t) (eR f t a s ls).1 (eR f t a s ls).2
end
theorem uU {σ:Type} (f:σ->Nat->T->List ae->σ) (t:T) (a:Nat) (s:σ) (ls:List ae) :
  eR f t a s ls=((bU f t.kids (a+1) (f s a t ls) ls).1,if t.n.kind=13 then (bU f t.kids (a+1) (f s a t ls) ls).2++[t.n.s] else (bU f t.kids (a+1) (f s a t ls) ls).2):=by
 cases t;rw [eR];rfl
def nH (l:List ae) (k:Nat):Bool:=match l[k]? with | some s=>(l.take k).contains s | none=>false
def ur (l:List ae):Bool:=(List.range l.length).any (nH l)
def fi (p:Src) (f:Fn) (t:T) (a:Nat):Int × Int :=
 if ur f.params=true then (21,0) else ((eR (b8 p) t a ⟨0,0,-1⟩ f.params).1.code,(eR (b8 p) t a ⟨0,0,-1⟩ f.params).1.place)
def jZ (l:List ae) (k:Nat):Bool:=match l[k]? with | some s=>lT s || (l.take k).contains s | none=>false
def dV (l:List ae):Bool:=(List.range l.length).any (jZ l)
def dC (l:List Ar):Int:=l.foldl (fun n a=>n+a.size) 0
def fX (p:Src):Bool:=p.arrays.any (fun a=>a.size==0) || ((((decide (p.fns.length > 40) || decide (p.globals.length > 29)) || decide (dC p.arrays > 8000))) || p.fns.any fun f=>decide (f.params.length > 40))
def mf (f:Fn):Bool:=f.name==vf&&f.params.length==0
def fj (p:Src):List Fn->List T->Nat->Int × Int
 | f::r,t::l,a=>if (fi p f t a).1≠0 then fi p f t a else fj p r l (a+aB t)
 | _,_,_=>(0,0)
def Ax (p:Src) (l:List T):Int × Int :=
 if dV (bW p)=true then (21,0) else if fX p=true then (26,0) else if p.fns.any mf=false then (25,0) else fj p p.fns l 0
def fq (p:Src):Bool:=fI p&&(match iq p.nodes p.fns 0 [] with | some (l,_)=>decide ((Ax p l).1=0) | none=>false)
structure SS where
 ls:List ae
 code:Int
 at_:Int
def SS.fail (c:SS) (k a:Int):SS:=if c.code=0 then ⟨c.ls,k,a⟩ else c
def ey (c:SS) (n:Nd) (k want:Nat):SS:=if k≠want then c.fail 23 n.at_ else c
def fo (p:Src) (c:SS) (t:T):SS × Bool :=
 if t.n.s=oB then (ey c t.n t.kids.length 0,true)
 else if t.n.s=pE then (ey c t.n t.kids.length 1,true)
 else if t.n.s=dc then (ey (if t.kids.length=1/\eP p (lU t) c.ls=true then c.fail 24 t.n.at_ else c) t.n t.kids.length 1,false)
 else match p.fns.findIdx? (fun f:Fn=>f.name==t.n.s) with
  | none=>(c.fail 22 t.n.at_,false)
  | some i=>(ey c t.n t.kids.length (lu p i),true)
def jb (p:Src) (c:SS) (t:T):SS × Bool :=
 if t.n.kind=2\/t.n.kind=7 then (if c.ls.contains t.n.s=false/\p.globals.contains t.n.s=false then c.fail 22 t.n.at_ else c,true)
 else if t.n.kind=3\/t.n.kind=8 then (if c.ls.contains t.n.s=true\/fO p t.n.s < 0 then c.fail 24 t.n.at_ else c,true)
 else if t.n.kind=4 then fo p c t
 else (c,true)
def lD (c:SS) (n:Nd):SS :=
 if n.kind≠13 then c
 else if c.ls.contains n.s=true then ⟨(c.fail 21 n.at_).ls++[n.s],(c.fail 21 n.at_).code,(c.fail 21 n.at_).at_⟩
 else if c.ls.length=40 then ⟨(c.fail 26 n.at_).ls++[n.s],(c.fail 26 n.at_).code,(c.fail 26 n.at_).at_⟩
 else ⟨c.ls++[n.s],c.code,c.at_⟩
mutual
def mO (p:Src):T->SS->SS
 | .mk n l,c=>lD (if (jb p c (.mk n l)).2=true then gZ p l (jb p c (.mk n l)).1 else (jb p c (.mk n l)).1) n
def gZ (p:Src):List T->SS->SS
 | [],c=>c
 | t::r,c=>gZ p r (mO p t c)
end
theorem vi (p:Src) (t:T) (c:SS):mO p t c=lD (if (jb p c t).2=true then gZ p t.kids (jb p c t).1 else (jb p c t).1) t.n:=by cases t;rw [mO];rfl
mutual
def qe:T->Prop
 | .mk n l=>n.kind≠13/\ja l
def ja:List T->Prop
 | []=>True
 | t::r=>qe t/\ja r
end
mutual
def eN:T->Prop
 | .mk n l=>(n.kind=13->ja l)/\(n.kind=2->l=[])/\cP l
def cP:List T->Prop
 | []=>True
 | t::r=>eN t/\cP r
end
mutual
theorem Ve:∀ t:T,qe (er t)↔qe t
 | .mk n l=>by rw [er,qe,qe,Fi l]
theorem Fi:∀ l:List T,ja (aE l)↔ja l
 | []=>by rw [aE]
 | t::r=>by rw [aE,ja,ja,Ve t,Fi r]
end
theorem QL {l:List T}:aE l=[]↔l=[]:=by
 cases l with
 | nil=>rw [aE]
 | cons t r=>rw [aE];simp
mutual
theorem Qm:∀ t:T,eN (er t)↔eN t
 | .mk n l=>by rw [er,eN,eN,Fi l,M3 l,QL]
theorem M3:∀ l:List T,cP (aE l)↔cP l
 | []=>by rw [aE]
 | t::r=>by rw [aE,cP,cP,Qm t,M3 r]
end
mutual
theorem E.nv:∀ a:E,qe a.tree
 | .num n=>by rw [E.tree,qe];exact ⟨by simp,trivial⟩
 | .name s=>by rw [E.tree,qe];exact ⟨by simp,trivial⟩
 | .at_ s a=>by rw [E.tree,qe,ja,ja];exact ⟨by simp,E.nv a,trivial⟩
 | .call s l=>by rw [E.tree,qe];exact ⟨by simp,E.Wj l⟩
 | .un s a=>by rw [E.tree,qe,ja,ja];exact ⟨by simp,E.nv a,trivial⟩
 | .bin s a b=>by rw [E.tree,qe,ja,ja,ja];exact ⟨by simp,E.nv a,E.nv b,trivial⟩
theorem E.Wj:∀ l:List E,ja (E.trees l)
 | []=>trivial
 | a::l=>by rw [E.trees,ja];exact ⟨E.nv a,E.Wj l⟩
end
mutual
theorem E.wf:∀ a:E,eN a.tree
 | .num n=>by rw [E.tree,eN];exact ⟨fun h=>absurd h (by simp),fun _=>rfl,trivial⟩
 | .name s=>by rw [E.tree,eN];exact ⟨fun h=>absurd h (by simp),fun _=>rfl,trivial⟩
 | .at_ s a=>by rw [E.tree,eN,cP,cP];exact ⟨fun h=>absurd h (by simp),fun h=>absurd h (by simp),E.wf a,trivial⟩
 | .call s l=>by rw [E.tree,eN];exact ⟨fun h=>absurd h (by simp),fun h=>absurd h (by simp),E.Bq l⟩
 | .un s a=>by rw [E.tree,eN,cP,cP];exact ⟨fun h=>absurd h (by simp),fun h=>absurd h (by simp),E.wf a,trivial⟩
 | .bin s a b=>by rw [E.tree,eN,cP,cP,cP];exact ⟨fun h=>absurd h (by simp),fun h=>absurd h (by simp),E.wf a,E.wf b,trivial⟩
theorem E.Bq:∀ l:List E,cP (E.trees l)
 | []=>trivial
 | a::l=>by rw [E.trees,cP];exact ⟨E.wf a,E.Bq l⟩
end
mutual
theorem S.wf:∀ a:S,eN a.tree
 | .set s a=>by rw [S.tree,eN,cP,cP];exact ⟨fun h=>absurd h (by simp),fun h=>absurd h (by simp),E.wf a,trivial⟩
 | .put s a b=>by rw [S.tree,eN,cP,cP,cP];exact ⟨fun h=>absurd h (by simp),fun h=>absurd h (by simp),E.wf a,E.wf b,trivial⟩
 | .if1 c b=>by rw [S.tree,eN,cP,cP,cP,eN];exact ⟨fun h=>absurd h (by simp),fun h=>absurd h (by simp),E.wf c,⟨fun h=>absurd h (by simp),fun h=>absurd h (by simp),S.Bq b⟩,trivial⟩
 | .if2 c b d=>by rw [S.tree,eN,cP,cP,cP,cP,eN,eN];exact ⟨fun h=>absurd h (by simp),fun h=>absurd h (by simp),E.wf c,⟨fun h=>absurd h (by simp),fun h=>absurd h (by simp),S.Bq b⟩,⟨fun h=>absurd h (by simp),fun h=>absurd h (by simp),S.Bq d⟩,trivial⟩
 | .while_ c b=>by rw [S.tree,eN,cP,cP,cP,eN];exact ⟨fun h=>absurd h (by simp),fun h=>absurd h (by simp),E.wf c,⟨fun h=>absurd h (by simp),fun h=>absurd h (by simp),S.Bq b⟩,trivial⟩
 | .ret a=>by rw [S.tree,eN,cP,cP];exact ⟨fun h=>absurd h (by simp),fun h=>absurd h (by simp),E.wf a,trivial⟩
 | .do_ a=>by rw [S.tree,eN,cP,cP];exact ⟨fun h=>absurd h (by simp),fun h=>absurd h (by simp),E.wf a,trivial⟩
 | .var s a=>by rw [S.tree,eN,cP,cP,ja,ja];exact ⟨fun _=>⟨E.nv a,trivial⟩,fun h=>absurd h (by simp),E.wf a,trivial⟩
theorem S.Bq:∀ l:List S,cP (S.trees l)
 | []=>trivial
 | a::l=>by rw [S.trees,cP];exact ⟨S.wf a,S.Bq l⟩
end
theorem Uh (l:List S):eN (bB l):=by
 rw [bB,eN];exact ⟨fun h=>absurd h (by simp),fun h=>absurd h (by simp),S.Bq l⟩
theorem SS.nI (c:SS) (k a:Int):(c.fail k a).ls=c.ls:=by unfold SS.fail;split <;> rfl
theorem wL (c:SS) (n:Nd) (k w:Nat):(ey c n k w).ls=c.ls:=by unfold ey;split;(· exact c.nI _ _);rfl
theorem vu (p:Src) (c:SS) (t:T):(jb p c t).1.ls=c.ls:=by
 unfold jb fo;split
 ·simp only;split;(· exact c.nI _ _);rfl
 split
 ·simp only;split;(· exact c.nI _ _);rfl
 split
 ·split
  ·exact wL _ _ _ _
  split
  ·exact wL _ _ _ _
  split
  ·simp only;rw [wL];split;(· exact c.nI _ _);rfl
  split
  ·exact c.nI _ _
  ·exact wL _ _ _ _
 ·rfl
mutual
theorem Vb (p:Src):∀ (t:T),qe t->∀ c,(mO p t c).ls=c.ls
 | .mk n l,h,c=>by
  rw [qe] at h;rw [mO,lD,if_pos h.1];split
  ·rw [Fg p l h.2,vu]
  ·exact vu _ _ _
theorem Fg (p:Src):∀ (l:List T),ja l->∀ c,(gZ p l c).ls=c.ls
 | [],_,c=>by rw [gZ]
 | t::r,h,c=>by
  rw [ja] at h;rw [gZ,Fg p r h.2,Vb p t h.1]
end
theorem SS.yk {c:SS} (h:c.code≠0) (k a:Int):c.fail k a=c:=by unfold SS.fail;rw [if_neg h]
theorem SS.oM (c:SS) {k:Int} (hk:k≠0) (a:Int):(c.fail k a).code≠0:=by
 unfold SS.fail;split
 ·exact hk
 ·assumption
theorem Pf {c:SS} (h:c.code≠0) (n:Nd) (k w:Nat):ey c n k w=c:=by unfold ey;rw [SS.yk h];split <;> rfl
theorem Rk (p:Src) {c:SS} (h:c.code≠0) (t:T):(jb p c t).1=c:=by
 unfold jb fo;simp only [SS.yk h,Pf h,ite_self];split
 ·rfl
 split
 ·rfl
 split
 ·split
  ·rfl
  split
  ·rfl
  split
  ·rfl
  split <;> rfl
 ·rfl
theorem yF {c:SS} (h:c.code≠0) (n:Nd):(lD c n).code≠0:=by
 unfold lD;rw [SS.yk h,SS.yk h];split
 ·exact h
 split
 ·exact h
 split <;> exact h
mutual
theorem P7 (p:Src):∀ (t:T) (c:SS),c.code≠0->(mO p t c).code≠0
 | .mk n l,c,h=>by
  rw [mO];refine yF ?_ n;rw [Rk p h];split
  ·exact vj p l c h
  ·exact h
theorem vj (p:Src):∀ (l:List T) (c:SS),c.code≠0->(gZ p l c).code≠0
 | [],c,h=>by rw [gZ];exact h
 | t::r,c,h=>by rw [gZ];exact vj p r _ (P7 p t c h)
end
theorem OS (p:Src) {c:CS} (h:c.code≠0) (a:Nat) (t:T) (ls:List ae):b8 p c a t ls=c:=by unfold b8;rw [if_pos (.inl h)]
mutual
theorem UD (p:Src):∀ (t:T) (a:Nat) (c:CS) (ls:List ae),c.code≠0->(eR (b8 p) t a c ls).1=c
 | .mk n l,a,c,ls,h=>by rw [eR,OS p h];exact uV p l _ c ls h
theorem uV (p:Src):∀ (l:List T) (a:Nat) (c:CS) (ls:List ae),c.code≠0->(bU (b8 p) l a c ls).1=c
 | [],a,c,ls,h=>by rw [bU]
 | t::r,a,c,ls,h=>by
  have h1:=UD p t a c ls h;rw [bU,h1];exact uV p r _ c _ h
end
def CC (a:Nat) (r:CS × List ae) (q:SS):Prop:=(r.1.code=0/\q.code=0/\r.2=q.ls/\r.1.skip < (a:Int)/\q.ls.length<=40)\/(r.1.code≠0/\q.code≠0)
theorem OO (p:Src) (t:T) (EN:t.n.kind=13->ja t.kids) (oo:∀ k∈t.kids,k.n.kind=2->k.kids=[])
  (ih:∀ (a:Nat) (r:CS) (q:SS),r.code=0->q.code=0->r.skip < (a:Int)->q.ls.length<=40->CC (a+aw t.kids) (bU (b8 p) t.kids a r q.ls) (gZ p t.kids q))
  (a:Nat) (r:CS) (q:SS) (hr:r.code=0) (hq:q.code=0) (hs:r.skip < (a:Int)) (hl:q.ls.length<=40):CC (a+aB t) (eR (b8 p) t a r q.ls) (mO p t q):=by
 have bN:¬ (r.code≠0\/(a:Int)=r.skip):=by
  rintro (h | h)
  ·exact h hr
  ·omega
 obtain ⟨pl,bq⟩:∃ pl,b8 p r a t q.ls=⟨bp p t q.ls,pl,if cy t=true then (if (lU t).kind≠2 then -1 else ((a+1:Nat):Int)) else r.skip⟩:=by
  unfold b8;rw [if_neg bN];exact ⟨_,rfl⟩
 have b6:=eo t
 have bad:∀ x:SS,bp p t q.ls≠0->x.code≠0->CC (a+aB t) (eR (b8 p) t a r q.ls) x:=fun x h1 h2=>by
  refine .inr ⟨?_,h2⟩;rw [uU,bq];simp only;rw [uV p t.kids _ _ _ h1];exact h1
 have go:bp p t q.ls=0->cy t=false->t.n.kind≠13->jb p q t=(q,true)->CC (a+aB t) (eR (b8 p) t a r q.ls) (mO p t q):=fun h1 h2 h3 h4=>by
  have:=ih (a+1) ⟨0,pl,r.skip⟩ q rfl hq (by simp only;omega) hl;rw [uU,vi,h4,bq,h1,h2,if_neg h3,lD,if_pos h3];simp only [if_true,Bool.false_eq_true,if_false];rw [show a+aB t=a+1+aw t.kids by omega];exact this
 by_cases eE:t.n.kind=13
 ·have YM:=EN eE
  have hz:cy t=false:=by unfold cy;rw [eE];rfl
  have nk:jb p q t=(q,true):=by unfold jb;rw [if_neg (by omega),if_neg (by omega),if_neg (by omega)]
  have eA:(gZ p t.kids q).ls=q.ls:=Fg p t.kids YM q
  have rh:bp p t q.ls=if q.ls.contains t.n.s=true then 21 else if q.ls.length>=40 then 26 else 0:=by
   unfold bp;rw [if_pos eE]
  rw [vi,nk];simp only [if_true]
  by_cases hc:q.ls.contains t.n.s=true
  ·refine bad _ (by rw [rh,if_pos hc];decide) ?_;rw [lD,if_neg (by simpa using eE),eA,if_pos hc];exact SS.oM _ (by decide) _
  by_cases h40:q.ls.length>=40
  ·refine bad _ (by rw [rh,if_neg hc,if_pos h40];decide) ?_;rw [lD,if_neg (by simpa using eE),eA,if_neg hc,if_pos (by omega)];exact SS.oM _ (by decide) _
  have h0:bp p t q.ls=0:=by rw [rh,if_neg hc,if_neg h40]
  have:=ih (a+1) ⟨0,pl,r.skip⟩ q rfl hq (by simp only;omega) hl;rw [lD,if_neg (by simpa using eE),eA,if_neg hc,if_neg (by omega),uU,bq,h0,hz,if_pos eE];simp only [Bool.false_eq_true,if_false];rw [show a+aB t=a+1+aw t.kids by omega]
  rcases this with ⟨k1,k2,k3,k4,k5⟩ | ⟨k1,k2⟩
  ·refine .inl ⟨k1,k2,?_,k4,?_⟩
   ·show _++_=_++_;rw [k3,eA]
   ·show (q.ls++[t.n.s]).length<=40;rw [length_append,List.length_singleton];omega
  ·exact .inr ⟨k1,k2⟩
 by_cases h2:t.n.kind=2\/t.n.kind=7
 ·have hz:cy t=false:=by
   unfold cy;rw [show (t.n.kind==4)=false by simp;omega];rfl
  by_cases hc:q.ls.contains t.n.s=false/\p.globals.contains t.n.s=false
  ·refine bad _ (by unfold bp;rw [if_neg eE,if_pos h2,if_pos hc];decide) ?_
   have nk:jb p q t=(q.fail 22 t.n.at_,true):=by unfold jb;rw [if_pos h2,if_pos hc]
   rw [vi,nk];refine yF ?_ t.n;simp only [if_true];exact vj p t.kids _ (SS.oM _ (by decide) _)
  ·exact go (by unfold bp;rw [if_neg eE,if_pos h2,if_neg hc]) hz eE (by unfold jb;rw [if_pos h2,if_neg hc])
 by_cases h3:t.n.kind=3\/t.n.kind=8
 ·have hz:cy t=false:=by
   unfold cy;rw [show (t.n.kind==4)=false by simp;omega];rfl
  by_cases hc:q.ls.contains t.n.s=true\/fO p t.n.s < 0
  ·refine bad _ (by unfold bp;rw [if_neg eE,if_neg h2,if_pos h3,if_pos hc];decide) ?_
   have nk:jb p q t=(q.fail 24 t.n.at_,true):=by unfold jb;rw [if_neg h2,if_pos h3,if_pos hc]
   rw [vi,nk];refine yF ?_ t.n;simp only [if_true];exact vj p t.kids _ (SS.oM _ (by decide) _)
  ·exact go (by unfold bp;rw [if_neg eE,if_neg h2,if_pos h3,if_neg hc]) hz eE (by unfold jb;rw [if_neg h2,if_pos h3,if_neg hc])
 by_cases h4:t.n.kind=4
 ·have rh:bp p t q.ls=dB p t q.ls:=by unfold bp;rw [if_neg eE,if_neg h2,if_neg h3,if_pos h4]
  have nk:jb p q t=fo p q t:=by unfold jb;rw [if_neg h2,if_neg h3,if_pos h4]
  have fin:∀ x:SS × Bool,fo p q t=x->bp p t q.ls≠0->x.1.code≠0->CC (a+aB t) (eR (b8 p) t a r q.ls) (mO p t q):=fun x hx h1 h2=>by
   refine bad _ h1 ?_;rw [vi,nk,hx];refine yF ?_ t.n;split
   ·exact vj p t.kids _ h2
   ·exact h2
  have Jf:cy t=((t.n.s==dc)&&(t.kids.length==1)):=by unfold cy;rw [h4];rfl
  have some_:∀ w:Nat,t.n.s≠dc->la p t.n.s=(w:Int)->fo p q t=(ey q t.n t.kids.length w,true)->CC (a+aB t) (eR (b8 p) t a r q.ls) (mO p t q):=fun w e1 e2 e3=>by
   have hz:cy t=false:=by rw [Jf,show (t.n.s==dc)=false by simpa using e1];rfl
   have CP:dB p t q.ls=if (w:Int)=(t.kids.length:Int) then 0 else 23:=by
    unfold dB;rw [hz,if_neg (by decide),e2,if_neg (by omega)]
   by_cases hk:t.kids.length=w
   ·refine go (by rw [rh,CP,if_pos (by omega)]) hz eE ?_;rw [nk,e3,ey,if_neg (by simpa using hk)]
   ·refine fin _ e3 (by rw [rh,CP,if_neg (by omega)];decide) ?_;rw [ey,if_pos hk];exact SS.oM _ (by decide) _
  by_cases hg:t.n.s=oB
  ·exact some_ 0 (by rw [hg];decide) (by unfold la;rw [if_pos hg];rfl) (by unfold fo;rw [if_pos hg])
  by_cases hp:t.n.s=pE
  ·exact some_ 1 (by rw [hp];decide) (by unfold la;rw [if_neg hg,if_pos (.inl hp)];rfl) (by unfold fo;rw [if_neg hg,if_pos hp])
  by_cases hz:t.n.s=dc
  ·have fG:fo p q t=(ey (if t.kids.length=1/\eP p (lU t) q.ls=true then q.fail 24 t.n.at_ else q) t.n t.kids.length 1,false):=by
    unfold fo;rw [if_neg hg,if_neg hp,if_pos hz]
   by_cases hk:t.kids.length=1
   ·have eL:cy t=true:=by rw [Jf,hz,hk];rfl
    have CP:dB p t q.ls=if eP p (lU t) q.ls=true then 24 else 0:=by unfold dB;rw [if_pos eL]
    by_cases hb:eP p (lU t) q.ls=true
    ·refine fin _ fG (by rw [rh,CP,if_pos hb];decide) ?_;rw [if_pos ⟨hk,hb⟩,ey,if_neg (by simpa using hk)];exact SS.oM _ (by decide) _
    ·have WT:fo p q t=(q,false):=by rw [fG,if_neg (fun h=>hb h.2),ey,if_neg (by simpa using hk)]
     rw [vi,nk,WT,lD,if_pos eE];simp only [Bool.false_eq_true,if_false]
     have h0:bp p t q.ls=0:=by rw [rh,CP,if_neg hb]
     obtain ⟨k,iC⟩:∃ k,t.kids=[k]:=by
      match hl:t.kids,hk with
      | [k],_=>exact ⟨k,rfl⟩
     have zb:lU t=k.n:=by unfold lU;rw [iC]
     have re:k.n.kind=2:=by
      have:eP p k.n q.ls=false:=by rw [<-zb];simpa using hb
      unfold eP at this;simp only [Bool.or_eq_false_iff] at this;simpa using this.1.1
     have ef:k.kids=[]:=oo k (by rw [iC];exact List.mem_singleton.2 rfl) re
     have tR:aB k=1:=by rw [eo,ef,aw]
     have NZ:∀ c:CS,((a+1:Nat):Int)=c.skip->b8 p c (a+1) k q.ls=c:=fun c hc=>by unfold b8;rw [if_pos (.inr hc)]
     rw [uU,bq,h0,eL,if_neg eE,iC,zb];simp only [if_true,bU];rw [uU,ef];simp only [bU];rw [if_neg (by rw [re];decide),NZ _ rfl,if_neg (by rw [re];decide)];refine .inl ⟨rfl,hq,rfl,?_,hl⟩;rw [b6,iC,aw,aw,tR];simp only;omega
   ·have vc:cy t=false:=by rw [Jf,show (t.kids.length==1)=false by simpa using hk,Bool.and_false]
    refine fin _ fG ?_ ?_
    ·rw [rh];unfold dB;rw [vc,if_neg (by decide)]
     have:la p t.n.s=1:=by unfold la;rw [if_neg hg,if_pos (.inr hz)]
     rw [this,if_neg (by decide),if_neg (by omega)];decide
    ·rw [if_neg (fun h=>hk h.1),ey,if_pos hk];exact SS.oM _ (by decide) _
  have ek:la p t.n.s=match p.fns.findIdx? (fun f:Fn=>f.name==t.n.s) with | some i=>(lu p i:Int) | none => -1:=by
   unfold la;rw [if_neg hg,if_neg (by rintro (h | h);(· exact hp h);exact hz h)]
  have fG:fo p q t=match p.fns.findIdx? (fun f:Fn=>f.name==t.n.s) with | none=>(q.fail 22 t.n.at_,false) | some i=>(ey q t.n t.kids.length (lu p i),true):=by
   unfold fo;rw [if_neg hg,if_neg hp,if_neg hz]
  cases hf:p.fns.findIdx? (fun f:Fn=>f.name==t.n.s) with
  | some i =>
   rw [hf] at ek fG;exact some_ (lu p i) hz ek fG
  | none =>
   rw [hf] at ek fG;refine fin _ fG ?_ (SS.oM _ (by decide) _);rw [rh];unfold dB;rw [Jf,show (t.n.s==dc)=false by simpa using hz,Bool.false_and,if_neg (by decide),ek];simp
 ·exact go (by unfold bp;rw [if_neg eE,if_neg h2,if_neg h3,if_neg h4]) (by unfold cy;rw [show (t.n.kind==4)=false by simpa using h4];rfl) eE
   (by unfold jb;rw [if_neg h2,if_neg h3,if_neg h4])
theorem F1:∀ {l:List T},cP l->∀ k∈l,eN k
 | [],_,k,hk=>by cases hk
 | t::r,h,k,hk=>by
  rw [cP] at h
  rcases List.mem_cons.1 hk with rfl | hk
  ·exact h.1
  ·exact F1 h.2 k hk
mutual
theorem TW (p:Src):∀ (t:T),eN t->∀ (a:Nat) (r:CS) (q:SS),r.code=0->q.code=0->r.skip < (a:Int)->q.ls.length<=40->CC (a+aB t) (eR (b8 p) t a r q.ls) (mO p t q)
 | .mk n l,hw=>by
  rw [eN] at hw;refine OO p (.mk n l) hw.1 (fun k hk h2=>?_) (TV p l hw.2.2);have:=F1 hw.2.2 k hk;obtain ⟨m,j⟩:=k;rw [eN] at this;exact this.2.1 h2
theorem TV (p:Src):∀ (l:List T),cP l->∀ (a:Nat) (r:CS) (q:SS),r.code=0->q.code=0->r.skip < (a:Int)->q.ls.length<=40->CC (a+aw l) (bU (b8 p) l a r q.ls) (gZ p l q)
 | [],_,a,r,q,hr,hq,hs,hl=>by rw [bU,gZ,aw];exact .inl ⟨hr,hq,rfl,by simpa using hs,hl⟩
 | t::l,hw,a,r,q,hr,hq,hs,hl=>by
  rw [cP] at hw;rw [bU,gZ,aw]
  rcases TW p t hw.1 a r q hr hq hs hl with ⟨k1,k2,k3,k4,k5⟩ | ⟨k1,k2⟩
  ·rw [k3];have:=TV p l hw.2 (a+aB t) _ _ k1 k2 k4 k5;rw [Nat.add_assoc] at this;exact this
  ·exact .inr ⟨by rw [uV p l _ _ _ k1];exact k1,vj p l _ k2⟩
end
end Go.Im
namespace Go.Im
open Go.Xp Go.Sp
def fL (c k:Int):Int:=if c=0 then k else c
def l0 (a:Ar):Bool:=decide (a.size < 1) || decide (a.size > 8000)
def jy (p:Src):Bool:=match p.fns.findIdx? (fun f:Fn=>f.name==vf) with | none=>true | some i=>decide (lu p i > 0)
def sq (p:Src):Bool:=(decide (p.fns.length > 40) || decide (p.globals.length > 29)) || decide (dC p.arrays > 8000)
def qA (p:Src) (c:Int):Int :=
 if p.arrays.any l0=true then fL c 26
 else if jy p=true then fL (if (p.fns.any fun f=>decide (f.params.length > 40))=true then fL (if sq p=true then fL c 26 else c) 26 else (if sq p=true then fL c 26 else c)) 25
 else if (p.fns.any fun f=>decide (f.params.length > 40))=true then fL (if sq p=true then fL c 26 else c) 26 else (if sq p=true then fL c 26 else c)
def pK (f:Fn) (c:SS):SS:=⟨f.params,if ur f.params=true then fL c.code 21 else c.code,if ur f.params=true/\c.code=0 then 0 else c.at_⟩
def na (p:Src):List Fn->List T->SS->SS
 | f::r,t::l,c=>na p r l (if c.code=0 then mO p t (pK f c) else c)
 | _,_,c=>c
def KB (p:Src) (l:List T):SS:=na p p.fns l ⟨[],qA p (if dV (bW p)=true then 21 else 0),0⟩
theorem ym (p:Src):∀ (fs:List Fn) (l:List T) (c:SS),c.code≠0->(na p fs l c).code≠0
 | f::r,t::l,c,h=>by rw [na,if_neg h];exact ym p r l c h
 | [],_,c,h=>by rw [na];(· exact h);intros;simp_all
 | f::r,[],c,h=>by rw [na];(· exact h);intros;simp_all
theorem Si (p:Src) (f:Fn) (t:T) (a:Nat) (c:SS) (hw:eN t) (hc:c.code=0) (hp:f.params.length<=40):(fi p f t a).1=0↔(mO p t (pK f c)).code=0:=by
 unfold fi
 by_cases hd:ur f.params=true
 ·rw [if_pos hd]
  have:(pK f c).code≠0:=by unfold pK;rw [if_pos hd];unfold fL;rw [if_pos hc];show (21:Int)≠0;decide
  have h2:=P7 p t _ this;constructor
  ·intro h;cases h
  ·intro h;exact absurd h h2
 ·rw [if_neg hd]
  have hq:(pK f c).code=0:=by unfold pK;rw [if_neg hd];exact hc
  have h1:=TW p t hw a ⟨0,0,-1⟩ (pK f c) rfl hq (by show (-1:Int) < _;omega) hp;show (eR (b8 p) t a ⟨0,0,-1⟩ (pK f c).ls).1.code=0↔_
  rcases h1 with ⟨k1,k2,_⟩ | ⟨k1,k2⟩
  ·exact ⟨fun _=>k2,fun _=>k1⟩
  ·exact ⟨fun h=>absurd h k1,fun h=>absurd h k2⟩
theorem Hr (p:Src):∀ (fs:List Fn) (l:List T) (a:Nat) (c:SS),c.code=0->(∀ t∈l,eN t)->(∀ f∈fs,f.params.length<=40)->((fj p fs l a).1=0↔(na p fs l c).code=0)
 | f::r,t::l,a,c,hc,hw,hp=>by
  have h1:=Si p f t a c (hw t mem_cons_self) hc (hp f mem_cons_self);rw [fj,na,if_pos hc]
  by_cases h:(fi p f t a).1=0
  ·rw [if_neg (by simpa using h)];exact Hr p r l _ _ (h1.1 h) (fun u hu=>hw u (List.mem_cons_of_mem _ hu)) (fun g hg=>hp g (List.mem_cons_of_mem _ hg))
  ·rw [if_pos h]
   have h2:(mO p t (pK f c)).code≠0:=fun e=>h (h1.2 e)
   exact ⟨fun e=>absurd e h,fun e=>absurd e (ym p r l _ h2)⟩
 | [],_,a,c,hc,_,_=>by rw [fj,na];(· exact ⟨fun _=>hc,fun _=>rfl⟩);all_goals (intros;simp_all)
 | f::r,[],a,c,hc,_,_=>by rw [fj,na];(· exact ⟨fun _=>hc,fun _=>rfl⟩);all_goals (intros;simp_all)
theorem cells_from (l:List Ar):∀ n:Int,l.foldl (fun n a=>n+a.size) n=n+dC l:=by
 induction l with
 | nil=>intro n;simp [dC]
 | cons a l ih =>
  intro n;unfold dC;rw [foldl_cons,foldl_cons,ih,ih (0+a.size)];omega
theorem IX (a:Ar) (l:List Ar):dC (a::l)=a.size+dC l:=by
 unfold dC;rw [foldl_cons,cells_from];unfold dC;omega
theorem Nw {l:List Ar} (h:∀ a∈l,0<=a.size):0<=dC l/\∀ a∈l,a.size<=dC l:=by
 induction l with
 | nil=>exact ⟨by simp [dC],fun a h=>by cases h⟩
 | cons b l ih =>
  obtain ⟨h1,h2⟩:=ih fun a ha=>h a (List.mem_cons_of_mem _ ha)
  have hb:=h b mem_cons_self;rw [IX];refine ⟨by omega,fun a ha=>?_⟩
  rcases List.mem_cons.1 ha with rfl | ha
  ·omega
  ·have:=h2 a ha;omega
theorem yQ {l:List ae} (h:dV l=false) {i j:Nat} {s:ae} (hi:l[i]?=some s) (hj:l[j]?=some s):i=j:=by
 have key:∀ x y:Nat,x < y->l[x]?=some s->l[y]?=some s->False:=fun x y jt h1 h2=>by
  have hy:=(List.getElem?_eq_some_iff.1 h2).1;unfold dV at h;rw [any_eq_false] at h;have:=h y (List.mem_range.2 hy);unfold jZ at this;rw [h2] at this;simp only [Bool.or_eq_true,not_or] at this;apply this.2;rw [List.contains_iff_mem];rw [List.mem_take_iff_getElem];have hx:=(List.getElem?_eq_some_iff.1 h1);exact ⟨x,by have:=hx.1;omega,hx.2⟩
 rcases Nat.lt_trichotomy i j with h1 | h1 | h1
 ·exact (key i j h1 hi hj).elim
 ·exact h1
 ·exact (key j i h1 hj hi).elim
theorem E9 {p:Src} (h:dV (bW p)=false):p.fns.any mf=true↔jy p=false:=by
 have wP:∀ (i:Nat) f,p.fns[i]?=some f->(bW p)[(p.globals++dU p).length+i]?=some f.name:=fun i f hf=>by
  unfold bW;rw [List.getElem?_append_right (by omega),Nat.add_sub_cancel_left,ir,List.getElem?_map,hf];rfl
 unfold jy
 cases hf:p.fns.findIdx? (fun f:Fn=>f.name==vf) with
 | none =>
  rw [List.findIdx?_eq_none_iff] at hf;constructor
  ·intro h1;obtain ⟨f,h2,h3⟩:=List.any_eq_true.1 h1;unfold mf at h3;have:=hf f h2;rw [this] at h3;cases h3
  ·intro h1;cases h1
 | some i =>
  rw [List.findIdx?_eq_some_iff_getElem] at hf;obtain ⟨hi,h1,h2⟩:=hf
  have y8:p.fns[i]?=some p.fns[i]:=by simp [hi]
  simp only [lu,y8];constructor
  ·intro h3;obtain ⟨f,h4,h5⟩:=List.any_eq_true.1 h3;obtain ⟨j,hj⟩:=List.getElem?_of_mem h4;unfold mf at h5;simp only [Bool.and_eq_true,beq_iff_eq] at h5 h1;have e1:=wP i _ y8;have e2:=wP j f hj;rw [h1] at e1;rw [h5.1] at e2;have:=yQ h e1 e2
   have:i=j:=by omega
   subst this;rw [hj] at y8;cases y8;simp [h5.2]
  ·intro h3;simp only [gt_iff_lt,decide_eq_false_iff_not,Nat.not_lt,Nat.le_zero] at h3;exact List.any_eq_true.2 ⟨p.fns[i],List.getElem_mem hi,by unfold mf;rw [h1,h3];rfl⟩
theorem Rz {p:Src} (ha:∀ a∈p.arrays,0<=a.size):(fX p=false/\jy p=false)↔qA p 0=0:=by
 obtain ⟨py,hc⟩:=Nw ha;have f26:fL 0 26=26:=rfl
 have f25:∀ c,c≠0->fL c 25=c:=fun c h=>by unfold fL;rw [if_neg h]
 have Wz:∀ c,fL c 25≠0:=fun c=>by
  unfold fL;split
  ·decide
  ·assumption
 have WA:∀ c,fL c 26≠0:=fun c=>by
  unfold fL;split
  ·decide
  ·assumption
 unfold qA
 by_cases h1:p.arrays.any l0=true
 ·rw [if_pos h1,f26];refine ⟨fun h=>?_,fun h=>by cases h⟩;obtain ⟨a,h2,h3⟩:=List.any_eq_true.1 h1;have h4:=h.1;unfold fX at h4;simp only [Bool.or_eq_false_iff,decide_eq_false_iff_not] at h4;have h5:=List.any_eq_false.1 h4.1 a h2;have h6:=hc a h2;have h7:=ha a h2;unfold l0 at h3;simp only [Bool.or_eq_true,decide_eq_true_eq] at h3;simp only [beq_iff_eq] at h5;have h8:=h4.2.1.2;omega
 rw [if_neg h1]
 have hz:p.arrays.any (fun a=>a.size==0)=false:=by
  rw [any_eq_false];intro a h2 h3;apply h1;refine List.any_eq_true.2 ⟨a,h2,?_⟩;unfold l0;simp only [beq_iff_eq] at h3;rw [h3];rfl
 have YY:fX p=(sq p || p.fns.any fun f=>decide (f.params.length > 40)):=by
  unfold fX sq;rw [hz,Bool.false_or]
 rw [YY]
 by_cases h2:jy p=true
 ·rw [if_pos h2];exact ⟨fun h=>(by rw [h2] at h;cases h.2),fun h=>absurd h (Wz _)⟩
 rw [if_neg h2]
 have pY:jy p=false:=by simpa using h2
 by_cases h3:(p.fns.any fun f=>decide (f.params.length > 40))=true
 ·rw [if_pos h3,h3,Bool.or_true];exact ⟨fun h=>(by cases h.1),fun h=>absurd h (WA _)⟩
 rw [if_neg h3,show (p.fns.any fun f=>decide (f.params.length > 40))=false by simpa using h3,Bool.or_false]
 by_cases h4:sq p=true
 ·rw [if_pos h4,h4];exact ⟨fun h=>(by cases h.1),fun h=>(by cases h)⟩
 ·rw [if_neg h4];exact ⟨fun _=>rfl,fun _=>⟨by simpa using h4,pY⟩⟩
theorem R6 {p:Src} {l:List T} (ha:∀ a∈p.arrays,0<=a.size) (hw:∀ t∈l,eN t):(Ax p l).1=0↔(KB p l).code=0:=by
 have ne:qA p 21≠0:=by
  have f:∀ c k,c≠0->fL c k=c:=fun c k h=>by unfold fL;rw [if_neg h]
  unfold qA;simp only [f 21 26 (by decide),ite_self,f 21 25 (by decide)]
  decide
 unfold Ax KB
 by_cases h1:dV (bW p)=true
 ·rw [if_pos h1,if_pos h1];exact ⟨fun h=>(by cases h),fun h=>absurd h (ym p _ _ _ ne)⟩
 rw [if_neg h1,if_neg h1];have hs:=Rz ha
 by_cases h2:qA p 0=0
 ·obtain ⟨h3,h4⟩:=hs.2 h2;rw [if_neg (by rw [h3];decide),if_neg (by rw [(E9 (by simpa using h1)).2 h4];decide),h2]
  refine Hr p _ _ _ _ rfl hw fun f hf=>?_
  unfold fX at h3;simp only [Bool.or_eq_false_iff] at h3;have:=List.any_eq_false.1 h3.2.2 f hf;simpa using this
 ·refine ⟨fun h=>?_,fun h=>absurd h (ym p _ _ _ h2)⟩;exfalso;apply h2;apply hs.1
  by_cases h3:fX p=true
  ·rw [if_pos h3] at h;cases h
  ·rw [if_neg h3] at h
   by_cases h4:p.fns.any mf=false
   ·rw [if_pos h4] at h;cases h
   ·exact ⟨by simpa using h3,(E9 (by simpa using h1)).1 (by simpa using h4)⟩
end Go.Im
namespace Go.Im
open Go.Xp Go.Sp
mutual
def bP:T->List ae
 | .mk n l=>bX l++(if n.kind=13 then [n.s] else [])
def bX:List T->List ae
 | []=>[]
 | t::r=>bP t++bX r
end
theorem O8 (t:T):bP t=bX t.kids++(if t.n.kind=13 then [t.n.s] else []):=by cases t;rw [bP];rfl
mutual
theorem yj {σ:Type} (f:σ->Nat->T->List ae->σ):∀ (t:T) (a:Nat) (s:σ) (ls:List ae),(eR f t a s ls).2=ls++bP t
 | .mk n l,a,s,ls=>by
  rw [eR,bP];simp only;rw [kJ f l];split
  ·rw [List.append_assoc]
  ·rw [List.append_nil]
theorem kJ {σ:Type} (f:σ->Nat->T->List ae->σ):∀ (l:List T) (a:Nat) (s:σ) (ls:List ae),(bU f l a s ls).2=ls++bX l
 | [],a,s,ls=>by rw [bU,bX,List.append_nil]
 | t::r,a,s,ls=>by rw [bU,kJ f r,yj f t,bX,List.append_assoc]
end
mutual
def xU (p:Src):T->List ae->Prop
 | .mk n l,ls=>bp p (.mk n l) ls=0/\(cy (.mk n l)=false->wB p l ls)
def wB (p:Src):List T->List ae->Prop
 | [],_=>True
 | t::r,ls=>xU p t ls/\wB p r (ls++bP t)
end
mutual
theorem P9 (p:Src):∀ (t:T),eN t->∀ (a:Nat) (r:CS) (ls:List ae),r.code=0->r.skip < (a:Int)->(eR (b8 p) t a r ls).1.code=0->xU p t ls/\(eR (b8 p) t a r ls).1.skip < ((a+aB t:Nat):Int)
 | .mk n l,hw,a,r,ls,hr,hs,hc=>by
  rw [eN] at hw
  have bN:¬ (r.code≠0\/(a:Int)=r.skip):=by
   rintro (h | h)
   ·exact h hr
   ·omega
  obtain ⟨pl,bq⟩:∃ pl,b8 p r a (.mk n l) ls=⟨bp p (.mk n l) ls,pl,if cy (.mk n l)=true then (if (lU (.mk n l)).kind≠2 then -1 else ((a+1:Nat):Int)) else r.skip⟩:=by
   unfold b8;rw [if_neg bN];exact ⟨_,rfl⟩
  rw [eR] at hc |-;simp only at hc |-;rw [bq] at hc |-
  have h0:bp p (.mk n l) ls=0:=by
   by_cases h0:bp p (.mk n l) ls=0
   ·exact h0
   ·rw [uV p l _ _ _ h0] at hc;exact hc
  rw [h0] at hc |-
  by_cases hz:cy (.mk n l)=true
  ·have hk:l.length=1:=by
    unfold cy at hz;simp only [Bool.and_eq_true,beq_iff_eq] at hz;exact hz.2
   have h4:n.kind=4/\n.s=dc:=by
    unfold cy at hz;simp only [Bool.and_eq_true,beq_iff_eq] at hz;exact hz.1
   have hb:eP p (lU (.mk n l)) ls=false:=by
    have e:bp p (.mk n l) ls=dB p (.mk n l) ls:=by
     unfold bp;rw [if_neg (by show ¬ n.kind=13;omega),if_neg (by show ¬ (n.kind=2\/n.kind=7);omega),if_neg (by show ¬ (n.kind=3\/n.kind=8);omega),if_pos (by show n.kind=4;omega)]
    rw [e] at h0;unfold dB at h0;rw [if_pos hz] at h0
    by_cases hb:eP p (lU (.mk n l)) ls=true
    ·rw [if_pos hb] at h0;cases h0
    ·simpa using hb
   have re:(lU (.mk n l)).kind=2:=by
    unfold eP at hb;simp only [Bool.or_eq_false_iff] at hb;simpa using hb.1.1
   rw [if_pos hz,if_neg (by rw [re];decide)] at hc |-
   match l,hk,hw with
   | [k],_,hw =>
    have W1:k.n.kind=2:=re;rw [cP] at hw
    have ef:k.kids=[]:=by
     have:=hw.2.2.1;obtain ⟨m,j⟩:=k;rw [eN] at this;exact this.2.1 W1
    have tR:aB k=1:=by rw [eo,ef,aw]
    refine ⟨by rw [xU];exact ⟨h0,fun h=>by rw [hz] at h;cases h⟩,?_⟩;simp only [bU];rw [uU,ef];simp only [bU]
    have NZ:b8 p ⟨0,pl,((a+1:Nat):Int)⟩ (a+1) k ls=⟨0,pl,((a+1:Nat):Int)⟩:=by unfold b8;rw [if_pos (.inr rfl)]
    rw [NZ,aB,aw,aw,tR];simp only;omega
  ·have Wa:cy (.mk n l)=false:=by simpa using hz
   rw [if_neg hz] at hc |-;have h:=Mq p l hw.2.2 (a+1) ⟨0,pl,r.skip⟩ ls rfl (by simp only;omega) hc;refine ⟨by rw [xU];exact ⟨h0,fun _=>h.1⟩,?_⟩;rw [aB,show a+(aw l+1)=a+1+aw l by omega];exact h.2
theorem Mq (p:Src):∀ (l:List T),cP l->∀ (a:Nat) (r:CS) (ls:List ae),r.code=0->r.skip < (a:Int)->(bU (b8 p) l a r ls).1.code=0->wB p l ls/\(bU (b8 p) l a r ls).1.skip < ((a+aw l:Nat):Int)
 | [],_,a,r,ls,hr,hs,hc=>by rw [bU,aw];exact ⟨trivial,by simpa using hs⟩
 | t::l,hw,a,r,ls,hr,hs,hc=>by
  rw [cP] at hw;rw [bU] at hc |-
  have h1:(eR (b8 p) t a r ls).1.code=0:=by
   by_cases h1:(eR (b8 p) t a r ls).1.code=0
   ·exact h1
   ·rw [uV p l _ _ _ h1] at hc;exact hc
  obtain ⟨h2,h3⟩:=P9 p t hw.1 a r ls hr hs h1;obtain ⟨h4,h5⟩:=Mq p l hw.2 _ _ _ h1 h3 hc;rw [yj] at h4;rw [wB,aw,<-Nat.add_assoc];exact ⟨⟨h2,h4⟩,h5⟩
end
mutual
def jl (h:Nd->List ae->Bool):T->List ae->Nat
 | .mk n l,ls=>(if h n ls=true then 1 else 0)+ia h l ls
def ia (h:Nd->List ae->Bool):List T->List ae->Nat
 | [],_=>0
 | t::r,ls=>jl h t ls+ia h r (ls++bP t)
end
def fp (h:Nd->List ae->Bool) (s:Nat) (_:Nat) (t:T) (ls:List ae):Nat:=if h t.n ls=true then s+1 else s
mutual
theorem KQ (h:Nd->List ae->Bool):∀ (t:T) (a s:Nat) (ls:List ae),(eR (fp h) t a s ls).1=s+jl h t ls
 | .mk n l,a,s,ls=>by
  rw [eR,jl];simp only;rw [BM h l];unfold fp;show (if h n ls=true then s+1 else s)+_=_;split <;> omega
theorem BM (h:Nd->List ae->Bool):∀ (l:List T) (a s:Nat) (ls:List ae),(bU (fp h) l a s ls).1=s+ia h l ls
 | [],a,s,ls=>by rw [bU,ia];rfl
 | t::r,a,s,ls=>by rw [bU,BM h r,KQ h t,yj,ia];omega
end
mutual
theorem D1 (h:Nd->List ae->Bool):∀ (t:T) (ls:List ae),jl h t ls<=aB t
 | .mk n l,ls=>by
  have:=uQ h l ls;rw [jl,aB];split <;> omega
theorem uQ (h:Nd->List ae->Bool):∀ (l:List T) (ls:List ae),ia h l ls<=aw l
 | [],ls=>by rw [ia];exact Nat.zero_le _
 | t::r,ls=>by
  have:=D1 h t ls;have:=uQ h r (ls++bP t);rw [ia,aw];omega
end
def ft (name:ae) (kinds:List Int) (n:Nd) (ls:List ae):Bool:=(n.s==name&&kinds.contains n.kind)&&(n.kind==13 || ls.contains name)
def ll (name:ae) (k:Int) (n:Nd) (ls:List ae):Bool:=!(n.s != name || ls.contains name)&&n.kind==k
def uK (names:List ae) (s:ae):Int:=cB (fun x=>x==s) names
def ki (names:List ae) (n:Nd) (known:List ae):Nd :=
 if n.kind=13 then ⟨n.kind,n.at_,uK names n.s+1,n.s,n.kids⟩
 else if (n.kind=2\/n.kind=7)/\known.contains n.s=true then ⟨n.kind,n.at_,uK names n.s+1,n.s,n.kids⟩ else n
mutual
def iN (names:List ae):T->List ae->T
 | .mk n l,known=>.mk (ki names n known) (fg names l known)
def fg (names:List ae):List T->List ae->List T
 | [],_=>[]
 | t::r,known=>iN names t known::fg names r (known++bP t)
end
def xv (kinds:List Int) (name:ae) (loc:Bool) (n:Nd):Bool:=(kinds.contains n.kind&&n.s==name)&&(decide (n.n > 0)==loc)
mutual
def oD (kinds:List Int) (name:ae) (loc:Bool):T->Nat
 | .mk n l=>(if xv kinds name loc n=true then 1 else 0)+jN kinds name loc (n.kind==4&&n.s==dc) l
def jN (kinds:List Int) (name:ae) (loc:Bool):Bool->List T->Nat
 | _,[]=>0
 | b,t::r=>(if b=true then 0 else oD kinds name loc t)+jN kinds name loc false r
end
mutual
def zT:T->Prop
 | .mk n l=>(n.kind≠1->n.n=0)/\fR l
def fR:List T->Prop
 | []=>True
 | t::r=>zT t/\fR r
end
mutual
theorem Un:∀ t:T,zT (er t)↔zT t
 | .mk n l=>by rw [er,zT,zT,Qo l]
theorem Qo:∀ l:List T,fR (aE l)↔fR l
 | []=>by rw [aE]
 | t::r=>by rw [aE,fR,fR,Un t,Qo r]
end
mutual
theorem E.z:∀ a:E,zT a.tree
 | .num n=>by rw [E.tree,zT];exact ⟨fun h=>absurd rfl h,trivial⟩
 | .name s=>by rw [E.tree,zT];exact ⟨fun _=>rfl,trivial⟩
 | .at_ s a=>by rw [E.tree,zT,fR,fR];exact ⟨fun _=>rfl,E.z a,trivial⟩
 | .call s l=>by rw [E.tree,zT];exact ⟨fun _=>rfl,E.zs l⟩
 | .un s a=>by rw [E.tree,zT,fR,fR];exact ⟨fun _=>rfl,E.z a,trivial⟩
 | .bin s a b=>by rw [E.tree,zT,fR,fR,fR];exact ⟨fun _=>rfl,E.z a,E.z b,trivial⟩
theorem E.zs:∀ l:List E,fR (E.trees l)
 | []=>trivial
 | a::l=>by rw [E.trees,fR];exact ⟨E.z a,E.zs l⟩
end
mutual
theorem S.z:∀ a:S,zT a.tree
 | .set s a=>by rw [S.tree,zT,fR,fR];exact ⟨fun _=>rfl,E.z a,trivial⟩
 | .put s a b=>by rw [S.tree,zT,fR,fR,fR];exact ⟨fun _=>rfl,E.z a,E.z b,trivial⟩
 | .if1 c b=>by rw [S.tree,zT,fR,fR,fR,zT];exact ⟨fun _=>rfl,E.z c,⟨fun _=>rfl,S.zs b⟩,trivial⟩
 | .if2 c b d=>by rw [S.tree,zT,fR,fR,fR,fR,zT,zT];exact ⟨fun _=>rfl,E.z c,⟨fun _=>rfl,S.zs b⟩,⟨fun _=>rfl,S.zs d⟩,trivial⟩
 | .while_ c b=>by rw [S.tree,zT,fR,fR,fR,zT];exact ⟨fun _=>rfl,E.z c,⟨fun _=>rfl,S.zs b⟩,trivial⟩
 | .ret a=>by rw [S.tree,zT,fR,fR];exact ⟨fun _=>rfl,E.z a,trivial⟩
 | .do_ a=>by rw [S.tree,zT,fR,fR];exact ⟨fun _=>rfl,E.z a,trivial⟩
 | .var s a=>by rw [S.tree,zT,fR,fR];exact ⟨fun _=>rfl,E.z a,trivial⟩
theorem S.zs:∀ l:List S,fR (S.trees l)
 | []=>trivial
 | a::l=>by rw [S.trees,fR];exact ⟨S.z a,S.zs l⟩
end
theorem Vz (l:List S):zT (bB l):=by rw [bB,zT];exact ⟨fun _=>rfl,S.zs l⟩
theorem yc {names:List ae} {s:ae} (h:s∈names):0 < uK names s+1:=by
 unfold uK cB
 cases hf:names.findIdx? (fun x=>x==s) with
 | some i=>simp only;omega
 | none =>
  rw [List.findIdx?_eq_none_iff] at hf;have:=hf s h;simp at this
theorem nE (names:List ae) (n:Nd) (ls:List ae):(ki names n ls).kind=n.kind/\(ki names n ls).s=n.s:=by
 unfold ki;split
 ·exact ⟨rfl,rfl⟩
 split <;> exact ⟨rfl,rfl⟩
theorem RA {p:Src} {t:T} {ls:List ae} (hw:eN t) (h0:bp p t ls=0) (hk:t.n.kind=4) (hs:t.n.s=dc):∃ k,t.kids=[k]/\k.n.kind=2/\k.kids=[]/\0<=fO p k.n.s/\ls.contains k.n.s=false/\cy t=true:=by
 have e:bp p t ls=dB p t ls:=by
  unfold bp;rw [if_neg (by omega),if_neg (by omega),if_neg (by omega),if_pos hk]
 rw [e] at h0
 have hm:la p t.n.s=1:=by rw [hs];unfold la;rw [if_neg (by decide),if_pos (.inr rfl)]
 by_cases hl:t.kids.length=1
 ·have hz:cy t=true:=by unfold cy;rw [hk,hs,hl];rfl
  unfold dB at h0;rw [if_pos hz] at h0
  have hb:eP p (lU t) ls=false:=by
   by_cases hb:eP p (lU t) ls=true
   ·rw [if_pos hb] at h0;cases h0
   ·simpa using hb
  obtain ⟨n,l⟩:=t
  match l,hl with
  | [k],_ =>
   have aY:eP p k.n ls=false:=hb;unfold eP at aY;simp only [Bool.or_eq_false_iff,bne_eq_false_iff_eq,decide_eq_false_iff_not,Int.not_lt] at aY;rw [eN,cP] at hw;refine ⟨k,rfl,aY.1.1,?_,aY.1.2,aY.2,hz⟩;have:=hw.2.2.1;obtain ⟨m,j⟩:=k;rw [eN] at this;exact this.2.1 aY.1.1
 ·have hz:cy t=false:=by unfold cy;rw [show (t.kids.length==1)=false by simpa using hl,Bool.and_false]
  unfold dB at h0;rw [if_neg (by rw [hz];decide),hm,if_neg (by decide),if_neg (by omega)] at h0;cases h0
theorem D2 {p:Src} {names:List ae} {kinds:List Int} {name:ae} {loc:Bool} {h:Nd->List ae->Bool} (t:T) (ls:List ae) (hw:eN t) (ho:xU p t ls)
  (hn:xv kinds name loc (ki names t.n ls)=h t.n ls) (hs:∀ k,0<=fO p k->ls.contains k=false->∀ m:Nd,m.kind=2->m.s=k->h m ls=false)
  (ih:wB p t.kids ls->jN kinds name loc false (fg names t.kids ls)=ia h t.kids ls):oD kinds name loc (iN names t ls)=jl h t ls:=by
 obtain ⟨n,l⟩:=t;have hn:xv kinds name loc (ki names n ls)=h n ls:=hn;rw [xU] at ho;rw [iN,oD,jl,(nE names n ls).1,(nE names n ls).2,hn]
 congr 1
 by_cases hz:n.kind=4/\n.s=dc
 ·obtain ⟨k,h1,h2,h3,h4,h5,h6⟩:=RA hw ho.1 hz.1 hz.2;have h1:l=[k]:=h1;subst h1;rw [show (n.kind==4&&n.s==dc)=true by rw [hz.1,hz.2];rfl];have:h k.n ls=false:=hs _ h4 h5 k.n h2 rfl;obtain ⟨m,j⟩:=k;have h3:j=[]:=h3;subst h3;have this:h m ls=false:=this;simp only [fg,jN,ia,jl,if_true];rw [this];rfl
 ·have h1:cy (.mk n l)=false:=by
   unfold cy;show ((n.kind==4&&n.s==dc)&&_)=false;rw [show (n.kind==4&&n.s==dc)=false by simp only [Bool.and_eq_false_iff,beq_eq_false_iff_ne,ne_eq];by_cases h:n.kind=4;(· exact .inr fun e=>hz ⟨h,e⟩);exact .inl h];rfl
  rw [show (n.kind==4&&n.s==dc)=false by simp only [Bool.and_eq_false_iff,beq_eq_false_iff_ne,ne_eq];by_cases h:n.kind=4;(· exact .inr fun e=>hz ⟨h,e⟩);exact .inl h];exact ih (ho.2 h1)
theorem Ay (kinds:List Int) (name:ae) (loc:Bool) (t:T) (r:List T):jN kinds name loc false (t::r)=oD kinds name loc t+jN kinds name loc false r:=by
 rw [jN];simp
section
variable (p:Src) (names:List ae) (name:ae)
theorem LD (kinds:List Int) (hk:∀ k∈kinds,k=2\/k=7\/k=13) (n:Nd) (ls:List ae) (hz:n.kind≠1->n.n=0) (eA:∀ s∈ls,s∈names) (hv:n.kind=13->n.s∈names):xv kinds name true (ki names n ls)=ft name kinds n ls:=by
 unfold xv ft;rw [(nE names n ls).1,(nE names n ls).2]
 by_cases gW:kinds.contains n.kind=true
 ·rw [gW]
  by_cases hs:n.s=name
  ·subst hs;simp only [BEq.rfl,Bool.and_true,Bool.true_and]
   rcases hk _ (List.contains_iff_mem.1 gW) with h | h | h
   ·rw [show (n.kind==13)=false by rw [h];rfl,Bool.false_or];unfold ki;rw [if_neg (by omega)]
    by_cases hc:ls.contains n.s=true
    ·rw [if_pos ⟨.inl h,hc⟩,hc];have:=yc (eA _ (List.contains_iff_mem.1 hc));simp only [gt_iff_lt,decide_eq_true this];rfl
    ·rw [if_neg (fun e=>hc e.2),hz (by omega),show ls.contains n.s=false by simpa using hc];rfl
   ·rw [show (n.kind==13)=false by rw [h];rfl,Bool.false_or];unfold ki;rw [if_neg (by omega)]
    by_cases hc:ls.contains n.s=true
    ·rw [if_pos ⟨.inr h,hc⟩,hc];have:=yc (eA _ (List.contains_iff_mem.1 hc));simp only [gt_iff_lt,decide_eq_true this];rfl
    ·rw [if_neg (fun e=>hc e.2),hz (by omega),show ls.contains n.s=false by simpa using hc];rfl
   ·rw [show (n.kind==13)=true by rw [h];rfl,Bool.true_or];unfold ki;rw [if_pos h];have:=yc (hv h);simp only [gt_iff_lt,decide_eq_true this];rfl
  ·rw [show (n.s==name)=false by simpa using hs];rfl
 ·rw [show kinds.contains n.kind=false by simpa using gW];simp
theorem LC (k:Int) (hk:k=2\/k=7\/k=3\/k=8) (n:Nd) (ls:List ae) (hz:n.kind≠1->n.n=0) (eA:∀ s∈ls,s∈names) (h3:n.kind=3\/n.kind=8->ls.contains n.s=false):xv [k] name false (ki names n ls)=ll name k n ls:=by
 unfold xv ll;rw [(nE names n ls).1,(nE names n ls).2]
 have rb:[k].contains n.kind=(n.kind==k):=by simp [List.contains,List.elem];rw [Bool.beq_comm];cases (k==n.kind) <;> rfl
 rw [rb]
 by_cases hs:n.s=name
 ·subst hs;simp only [BEq.rfl,Bool.and_true,bne_self_eq_false,Bool.false_or]
  by_cases iC:n.kind=k
  ·rw [iC];simp only [BEq.rfl,Bool.true_and,Bool.and_true]
   by_cases h27:n.kind=2\/n.kind=7
   ·unfold ki;rw [if_neg (by omega)]
    by_cases hc:ls.contains n.s=true
    ·rw [if_pos ⟨h27,hc⟩,hc];have:=yc (eA _ (List.contains_iff_mem.1 hc));simp only [gt_iff_lt,decide_eq_true this];rfl
    ·rw [if_neg (fun e=>hc e.2),hz (by omega),show ls.contains n.s=false by simpa using hc];rfl
   ·have hc:=h3 (by omega);unfold ki;rw [if_neg (by omega),if_neg (fun e=>h27 e.1),hz (by omega),hc];rfl
  ·rw [show (n.kind==k)=false by simpa using iC];simp
 ·rw [show (n.s==name)=false by simpa using hs,show (n.s != name)=true by simpa using hs];simp
mutual
theorem G9 (kinds:List Int) (hk:∀ k∈kinds,k=2\/k=7\/k=13):∀ (t:T) (ls:List ae),eN t->zT t->xU p t ls->(∀ s∈ls,s∈names)->(∀ s∈bP t,s∈names)->oD kinds name true (iN names t ls)=jl (ft name kinds) t ls
 | .mk n l,ls,hw,hz,ho,eA,hv=>by
  have LM:=hw;rw [eN] at LM;rw [zT] at hz;rw [bP] at hv
  refine D2 (p:=p) (.mk n l) ls hw ho (LD names name kinds hk n ls hz.1 eA fun h=>hv _ (by rw [if_pos h];simp)) (fun k h1 h2 m h3 h4=>?_) fun LH=>D0 kinds hk l ls LM.2.2 hz.2 LH eA fun s hs=>hv s (mem_append_left _ hs)
  unfold ft;rw [h3]
  by_cases hm:m.s=name
  ·rw [<-hm,h4,h2];simp
  ·rw [show (m.s==name)=false by simpa using hm];rfl
theorem D0 (kinds:List Int) (hk:∀ k∈kinds,k=2\/k=7\/k=13):∀ (l:List T) (ls:List ae),cP l->fR l->wB p l ls->(∀ s∈ls,s∈names)->(∀ s∈bX l,s∈names)->jN kinds name true false (fg names l ls)=ia (ft name kinds) l ls
 | [],ls,_,_,_,_,_=>by rw [fg,jN,ia]
 | t::r,ls,hw,hz,ho,eA,hv=>by
  rw [cP] at hw;rw [fR] at hz;rw [wB] at ho;rw [bX] at hv
  have HG:∀ s∈bP t,s∈names:=fun s hs=>hv s (mem_append_left _ hs)
  rw [fg,Ay,ia,G9 kinds hk t ls hw.1 hz.1 ho.1 eA HG,D0 kinds hk r _ hw.2 hz.2 ho.2 (fun s hs=>by rcases List.mem_append.1 hs with h | h;(· exact eA s h);exact HG s h) fun s hs=>hv s (List.mem_append_right _ hs)]
end
mutual
theorem G8 (k:Int) (hk:k=2\/k=7\/k=3\/k=8) (ha:k=2->fO p name < 0):∀ (t:T) (ls:List ae),eN t->zT t->xU p t ls->(∀ s∈ls,s∈names)->(∀ s∈bP t,s∈names)->oD [k] name false (iN names t ls)=jl (ll name k) t ls
 | .mk n l,ls,hw,hz,ho,eA,hv=>by
  have LM:=hw;rw [eN] at LM;rw [zT] at hz;rw [bP] at hv
  have h3:n.kind=3\/n.kind=8->ls.contains n.s=false:=fun h=>by
   have h0:=(by rw [xU] at ho;exact ho.1:bp p (.mk n l) ls=0);unfold bp at h0;rw [if_neg (by show ¬ n.kind=13;omega),if_neg (by show ¬ (n.kind=2\/n.kind=7);omega),if_pos (by show n.kind=3\/n.kind=8;exact h)] at h0
   by_cases hc:ls.contains n.s=true
   ·rw [if_pos (.inl hc)] at h0;cases h0
   ·simpa using hc
  refine D2 (p:=p) (.mk n l) ls hw ho (LC names name k hk n ls hz.1 eA h3) (fun x h1 h2 m h3 h4=>?_) fun LH=>DZ k hk ha l ls LM.2.2 hz.2 LH eA fun s hs=>hv s (mem_append_left _ hs)
  unfold ll;rw [h3]
  by_cases hm:m.s=name
  ·have hx:x=name:=h4.symm.trans hm
   have:k≠2:=fun e=>by have:=ha e;rw [hx] at h1;omega
   rw [show ((2:Int)==k)=false by simpa using fun e=>this e.symm,Bool.and_false]
  ·rw [show (m.s != name)=true by simpa using hm];rfl
theorem DZ (k:Int) (hk:k=2\/k=7\/k=3\/k=8) (ha:k=2->fO p name < 0):∀ (l:List T) (ls:List ae),cP l->fR l->wB p l ls->(∀ s∈ls,s∈names)->(∀ s∈bX l,s∈names)->jN [k] name false false (fg names l ls)=ia (ll name k) l ls
 | [],ls,_,_,_,_,_=>by rw [fg,jN,ia]
 | t::r,ls,hw,hz,ho,eA,hv=>by
  rw [cP] at hw;rw [fR] at hz;rw [wB] at ho;rw [bX] at hv
  have HG:∀ s∈bP t,s∈names:=fun s hs=>hv s (mem_append_left _ hs)
  rw [fg,Ay,ia,G8 k hk ha t ls hw.1 hz.1 ho.1 eA HG,DZ k hk ha r _ hw.2 hz.2 ho.2 (fun s hs=>by rcases List.mem_append.1 hs with h | h;(· exact eA s h);exact HG s h) fun s hs=>hv s (List.mem_append_right _ hs)]
end
end
end Go.Im
namespace Go.Im
open Go.Xp Go.Sp
theorem Forms.wf {l:List T} {ls:List (List S)} (h:Forms l ls) {i:Nat} {t:T} (ht:l[i]?=some t):eN t/\zT t:=by
 have hi:=(List.getElem?_eq_some_iff.1 ht).1;have hlen:=h.len;have hb:ls[i]?=some (ls[i]'(by omega)):=List.getElem?_eq_getElem _;obtain ⟨_,h2⟩:=h.at_ i t _ ht hb;exact ⟨(Qm t).1 (by rw [h2];exact Uh _),(Un t).1 (by rw [h2];exact Vz _)⟩
theorem K9 (p:Src):∀ (fs:List Fn) (l:List T) (a:Nat),(fj p fs l a).1=0->∀ (i:Nat) f t,fs[i]?=some f->l[i]?=some t->∃ b,(fi p f t b).1=0
 | f::r,t::l,a,h,0,g,u,h1,h2=>by
  cases h1;cases h2
  rw [fj] at h
  by_cases hc:(fi p f t a).1=0
  ·exact ⟨a,hc⟩
  ·rw [if_pos hc] at h;exact absurd h hc
 | f::r,t::l,a,h,i+1,g,u,h1,h2=>by
  rw [fj] at h
  by_cases hc:(fi p f t a).1=0
  ·rw [if_neg (by simpa using hc)] at h;exact K9 p r l _ h i g u (by simpa using h1) (by simpa using h2)
  ·rw [if_pos hc] at h;exact absurd h hc
 | [],_,a,h,i,g,u,h1,h2=>by simp at h1
 | f::r,[],a,h,i,g,u,h1,h2=>by simp at h2
structure Good (p:Src) (l:List T):Prop where
 st:fK p l
 test:fI p=true
 names:dV (bW p)=false
 len:p.fns.length=l.length
 at_:∀ (i:Nat) f t,p.fns[i]?=some f->l[i]?=some t->xU p t f.params/\eN t/\zT t/\df p.nodes f.body.toNat t/\0<=f.body
theorem uY {p:Src} (h:fq p=true):∃ l,Good p l:=by
 unfold fq at h;rw [Bool.and_eq_true] at h;obtain ⟨hf,h⟩:=h;obtain ⟨l,hl⟩:=qX hf;rw [hl.Av] at h;simp only [decide_eq_true_eq] at h;obtain ⟨ls,hm⟩:=hl.I6
 have hb:dV (bW p)=false:=by
  unfold Ax at h
  by_cases hb:dV (bW p)=true
  ·rw [if_pos hb] at h;cases h
  ·simpa using hb
 have iz:(fj p p.fns l 0).1=0:=by
  unfold Ax at h;rw [if_neg (by rw [hb];decide)] at h;split at h
  ·cases h
  split at h
  ·cases h
  ·exact h
 refine ⟨l,hl,hf,hb,fw.len hl.fns,fun i f t h1 h2=>?_⟩;obtain ⟨b,hc⟩:=K9 p _ _ _ iz i f t h1 h2;obtain ⟨w1,w2⟩:=hm.wf h2;unfold fi at hc
 have hd:¬ ur f.params=true:=fun hd=>by rw [if_pos hd] at hc;cases hc
 rw [if_neg hd] at hc;have hi:=(List.getElem?_eq_some_iff.1 h2).1;obtain ⟨h5,h6⟩:=fw.at_ hl.fns i f t h1 h2;have h7:=dh.ix l 0 i _ hl.st h2;rw [Nat.zero_add] at h5 h7;refine ⟨(P9 p t w1 b ⟨0,0,-1⟩ f.params rfl (by show (-1:Int) < _;omega) hc).1,w1,w2,?_,by omega⟩;rw [h5,Int.toNat_natCast];exact h7
def P6 (p:Src) (l:List T) (i:Nat):List ae:=match p.fns[i]?,l[i]? with | some f,some t=>f.params++bP t | _,_=>[]
def gA (kinds:List Int) (p:Src) (fn:Int) (name:ae):Int :=
 if fn < 0\/(p.fns.length:Int)<=fn then -1 else if fq p=false then -1 else match iq p.nodes p.fns 0 [] with
  | some (l,_)=>(match p.fns[fn.toNat]?,l[fn.toNat]? with | some f,some t=>((jl (ft name kinds) t f.params:Nat):Int) | _,_ => -1)
  | none => -1
def iF (k:Int) (p:Src) (name:ae):List Fn->List T->Nat
 | f::r,t::l=>jl (ll name k) t f.params+iF k p name r l
 | _,_=>0
theorem IQ {p:Src} {l:List T} (h:Good p l) {name:ae} (hg:p.globals.contains name=true):fO p name < 0:=by
 obtain ⟨i,hi⟩:=List.getElem?_of_mem (List.contains_iff_mem.1 hg);unfold fO cB
 cases hf:p.arrays.findIdx? (fun a:Ar=>a.name==name) with
 | none=>simp
 | some j =>
  exfalso;rw [List.findIdx?_eq_some_iff_getElem] at hf;obtain ⟨hj,h1,_⟩:=hf;have u7:=(List.getElem?_eq_some_iff.1 hi).1
  have e1:(bW p)[i]?=some name:=by
   unfold bW;rw [List.getElem?_append_left (by rw [length_append];omega),List.getElem?_append_left u7];exact hi
  have e2:(bW p)[p.globals.length+j]?=some name:=by
   unfold bW;rw [List.getElem?_append_left (by rw [length_append,dU,List.length_map];omega),List.getElem?_append_right (by omega),Nat.add_sub_cancel_left,dU,List.getElem?_map,List.getElem?_eq_getElem hj];simp only [beq_iff_eq] at h1;rw [Option.map_some,h1]
  have:=yQ h.names e1 e2;omega
end Go.Im
namespace Go.Im
open Go.Xp Go.Sp
theorem D6 {σ:Type} (f:σ->Nat->T->List ae->σ) (t:T):∀ (l:List T) (a:Nat) (s:σ) (ls:List ae),bU f (l++[t]) a s ls=eR f t (a+aw l) (bU f l a s ls).1 (bU f l a s ls).2
 | [],a,s,ls=>by rw [List.nil_append,bU,bU,bU,aw,Nat.add_zero]
 | u::l,a,s,ls=>by rw [List.cons_append,bU,D6 f t l,bU,aw,Nat.add_assoc]
theorem vV {σ:Type} (f:σ->Nat->T->List ae->σ) {l:List T} {k:Nat} {t:T} (h:l[k]?=some t) (a:Nat) (s:σ) (ls:List ae) :
  bU f (l.take (k+1)) a s ls=eR f t (a+aw (l.take k)) (bU f (l.take k) a s ls).1 (bU f (l.take k) a s ls).2:=by
 have:l.take (k+1)=l.take k++[t]:=by rw [take_add_one,h];rfl
 rw [this,D6]
theorem rm:∀ {l:List T} {n k:Nat} {t:T},l[k]?=some t->(bL n l)[k]?=some (((n+aw (l.take k):Nat)):Int)
 | u::l,n,0,t,h=>by simp [bL,aw]
 | u::l,n,k+1,t,h=>by
  have:=rm (l:=l) (n:=n+aB u) (k:=k) (t:=t) (by simpa using h);rw [bL,List.getElem?_cons_succ,this,List.take_succ_cons,aw,Nat.add_assoc]
 | [],n,k,t,h=>by simp at h
theorem jd {l:List T} {k:Nat} {t:T} (h:l[k]?=some t):aw (l.take k)+aB t<=aw l:=by
 have h1:l.take (k+1)=l.take k++[t]:=by rw [take_add_one,h];rfl
 have h2:aw l=aw (l.take (k+1))+aw (l.drop (k+1)):=by rw [<-mr,List.take_append_drop]
 rw [h1,mr,aw,aw] at h2;omega
theorem OW {l:List T} {k:Nat} {t:T} (h:l[k]?=some t):aw (l.take (k+1))=aw (l.take k)+aB t:=by
 have h1:l.take (k+1)=l.take k++[t]:=by rw [take_add_one,h];rfl
 rw [h1,mr,aw,aw,Nat.add_zero]
theorem Ak:∀ (N:Nat) (t:T),aB t<=N->(bP t).length<=aB t:=by
 intro N
 induction N with
 | zero=>intro t h;have:=gO t;omega
 | succ N ih =>
  intro t h
  have key:∀ l:List T,aw l<=N->(bX l).length<=aw l:=by
   intro l
   induction l with
   | nil=>intro _;simp [bX]
   | cons u l ih2 =>
    intro h;rw [aw] at h;have:=ih u (by omega);have:=ih2 (by omega);rw [bX,length_append,aw];omega
  rw [eo] at h |-;have:=key t.kids (by omega);rw [O8,length_append];split <;> simp <;> omega
theorem gY (l:List T):(bX l).length<=aw l:=by
 induction l with
 | nil=>simp [bX]
 | cons u l ih =>
  have:=Ak _ u (Nat.le_refl _);rw [bX,length_append,aw];omega
theorem zu {l:List T} {k:Nat} {t:T} (h:l[k]?=some t):bX (l.take (k+1))=bX (l.take k)++bP t:=by
 have h1:l.take (k+1)=l.take k++[t]:=by rw [take_add_one,h];rfl
 have:∀ a b:List T,bX (a++b)=bX a++bX b:=by
  intro a b
  induction a with
  | nil=>simp [bX]
  | cons u a ih=>simp [bX,ih]
 rw [h1,this];simp [bX]
end Go.Im
namespace Go.Im
open Go.Xp Go.Sp
theorem lR {α:Type} {f:α->Bool} {l:List α} {k:Nat} {x:α} (hk:l[k]?=some x) (h:f x=true) (aK:(l.take k).all (fun y=>!f y)=true):cB f l=(k:Int):=by
 have ao:k < l.length:=by
  rcases Nat.lt_or_ge k l.length with h1 | h1
  ·exact h1
  ·rw [List.getElem?_eq_none h1] at hk;cases hk
 have hx:l[k]=x:=by rw [List.getElem?_eq_getElem ao] at hk;exact Option.some.inj hk
 have:l.findIdx? f=some k:=by
  rw [List.findIdx?_eq_some_iff_getElem];refine ⟨ao,by rw [hx];exact h,fun j hj=>?_⟩;rw [all_eq_true] at aK;have:=aK l[j] (by rw [List.mem_take_iff_getElem];exact ⟨j,by omega,rfl⟩);simpa using this
 unfold cB;rw [this]
theorem jq {α:Type} {f:α->Bool} {l:List α} (aK:l.all (fun y=>!f y)=true):cB f l = -1:=by
 have:l.findIdx? f=none:=by
  rw [List.findIdx?_eq_none_iff];intro x hx;rw [all_eq_true] at aK;simpa using aK x hx
 unfold cB;rw [this]
theorem lN {α:Type} {f:α->Bool} {l:List α} {k:Nat} {x:α} (hk:l[k]?=some x):(l.take (k+1)).all (fun y=>!f y)=((l.take k).all (fun y=>!f y)&&!f x):=by
 rw [take_add_one,hk,List.all_append];simp
theorem CK {α:Type} (f:α->Bool) (l:List α):decide ((0:Int)<=cB f l)=l.any f:=by
 cases h:l.any f with
 | false =>
  rw [jq (by rw [any_eq_false] at h;rw [all_eq_true];intro x hx;simpa using h x hx)];rfl
 | true =>
  unfold cB
  cases h2:l.findIdx? f with
  | some i=>simp
  | none =>
   rw [List.findIdx?_eq_none_iff] at h2;rw [any_eq_true] at h;obtain ⟨x,hx,h3⟩:=h;have:=h2 x hx;simp [h3] at this
end Go.Im
