/- Part 3 of proofs that are told in their last texts. -/
import Derived.Test.YtbfmholmeiegoaaGreatDoorQ2
open List (any_eq_false cons_append foldl_cons mem_cons_self)
set_option linter.unusedVariables false
set_option linter.unusedSimpArgs false
set_option maxRecDepth 100000
namespace Go.Im
open Go.Xp Go.Sp
def pN:ae:=[103,101,116]
def qF:ae:=[112,117,116]
def ko:ae:=[115,105,122,101]
def v7:ae:=[109,97,105,110]
def ng (s:ae):Bool:=(s==pN || s==qF) || s==ko
def dV {α:Type} (f:α->Bool) (l:List α):Int:=match l.findIdx? f with | some i=>(i:Int) | none => -1
def EB (p:Src) (s:ae):Int:=dV (fun a:Ar=>a.name==s) p.arrays
def dc (p:Src):List ae:=p.arrays.map fun a:Ar=>a.name
def fq (p:Src):List ae:=p.fns.map fun f:Fn=>f.name
def bE (p:Src):List ae:=(p.globals++dc p)++fq p
def rG (t:T):Nd:=match t.kids with | k::_=>k.n | []=>⟨0,0,0,[],[]⟩
def gy (t:T):Bool:=(t.n.kind==4&&t.n.s==ko)&&(t.kids.length==1)
def mD (p:Src) (i:Nat):Nat:=match p.fns[i]? with | some f=>f.params.length | none=>0
def n9 (p:Src) (s:ae):Int:=if s=pN then 0 else if s=qF\/s=ko then 1 else match p.fns.findIdx? (fun f:Fn=>f.name==s) with | some i=>(mD p i:Int) | none => -1
def jH (p:Src) (k:Nd) (ls:List ae):Bool:=(k.kind != 2 || decide (EB p k.s < 0)) || ls.contains k.s
def gI (p:Src) (t:T) (ls:List ae):Int :=
 if gy t=true then (if jH p (rG t) ls=true then 24 else 0)
 else if n9 p t.n.s = -1 then 22 else if n9 p t.n.s=(t.kids.length:Int) then 0 else 23
def dj (p:Src) (t:T) (ls:List ae):Int :=
 if t.n.kind=13 then (if ls.contains t.n.s=true then 21 else if ls.length>=40 then 26 else 0)
 else if t.n.kind=2\/t.n.kind=7 then (if ls.contains t.n.s=false/\p.globals.contains t.n.s=false then 22 else 0)
 else if t.n.kind=3\/t.n.kind=8 then (if ls.contains t.n.s=true\/EB p t.n.s < 0 then 24 else 0)
 else if t.n.kind=4 then gI p t ls
 else 0
structure CS where
 code:Int
 place:Int
 skip:Int
def dN (p:Src) (c:CS) (a:Nat) (t:T) (ls:List ae):CS :=
 if c.code≠0\/(a:Int)=c.skip then c
 else ⟨dj p t ls,if dj p t ls≠0 then t.n.at_ else c.place,if gy t=true then (if (rG t).kind≠2 then -1 else ((a+1:Nat):Int)) else c.skip⟩
mutual
def ny {σ:Type} (f:σ->Nat->T->List ae->σ):T->Nat->σ->List ae->σ × List ae
 | .mk n l,a,s,ls=>((iR f l (a+1) (f s a (.mk n l) ls) ls).1,if n.kind=13 then (iR f l (a+1) (f s a (.mk n l) ls) ls).2++[n.s] else (iR f l (a+1) (f s a (.mk n l) ls) ls).2)
def iR {σ:Type} (f:σ->Nat->T->List ae->σ):List T->Nat->σ->List ae->σ × List ae
 | [],_,s,ls=>(s,ls)
 | t::r,a,s,ls=>iR f r (a+aQ t) (ny f t a s ls).1 (ny f t a s ls).2
end
theorem yd {σ:Type} (f:σ->Nat->T->List ae->σ) (t:T) (a:Nat) (s:σ) (ls:List ae) :
  ny f t a s ls=((iR f t.kids (a+1) (f s a t ls) ls).1,if t.n.kind=13 then (iR f t.kids (a+1) (f s a t ls) ls).2++[t.n.s] else (iR f t.kids (a+1) (f s a t ls) ls).2):=by
 cases t;rw [ny];rfl
def oL (l:List ae) (k:Nat):Bool:=match l[k]? with | some s=>(l.take k).contains s | none=>false
def wW (l:List ae):Bool:=(List.range l.length).any (oL l)
def jm (p:Src) (f:Fn) (t:T) (a:Nat):Int × Int :=
 if wW f.params=true then (21,0) else ((ny (dN p) t a ⟨0,0,-1⟩ f.params).1.code,(ny (dN p) t a ⟨0,0,-1⟩ f.params).1.place)
def ll (l:List ae) (k:Nat):Bool:=match l[k]? with | some s=>ng s || (l.take k).contains s | none=>false
def fQ (l:List ae):Bool:=(List.range l.length).any (ll l)
def ec (l:List Ar):Int:=l.foldl (fun n a=>n+a.size) 0
def jy (p:Src):Bool:=p.arrays.any (fun a=>a.size==0) || ((((decide (p.fns.length > 40) || decide (p.globals.length > 29)) || decide (ec p.arrays > 8000))) || p.fns.any fun f=>decide (f.params.length > 40))
def nG (f:Fn):Bool:=f.name==v7&&f.params.length==0
def jn (p:Src):List Fn->List T->Nat->Int × Int
 | f::r,t::l,a=>if (jm p f t a).1≠0 then jm p f t a else jn p r l (a+aQ t)
 | _,_,_=>(0,0)
def Ii (p:Src) (l:List T):Int × Int :=
 if fQ (bE p)=true then (21,0) else if jy p=true then (26,0) else if p.fns.any nG=false then (25,0) else jn p p.fns l 0
def tj (p:Src):Bool:=fI p&&(match j0 p.nodes p.fns 0 [] with | some (l,_)=>decide ((Ii p l).1=0) | none=>false)
structure SS where
 ls:List ae
 code:Int
 at_:Int
def SS.fail (c:SS) (k a:Int):SS:=if c.code=0 then ⟨c.ls,k,a⟩ else c
def fc (c:SS) (n:Nd) (k want:Nat):SS:=if k≠want then c.fail 23 n.at_ else c
def fU (p:Src) (c:SS) (t:T):SS × Bool :=
 if t.n.s=pN then (fc c t.n t.kids.length 0,true)
 else if t.n.s=qF then (fc c t.n t.kids.length 1,true)
 else if t.n.s=ko then (fc (if t.kids.length=1/\jH p (rG t) c.ls=true then c.fail 24 t.n.at_ else c) t.n t.kids.length 1,false)
 else match p.fns.findIdx? (fun f:Fn=>f.name==t.n.s) with
  | none=>(c.fail 22 t.n.at_,false)
  | some i=>(fc c t.n t.kids.length (mD p i),true)
def kg (p:Src) (c:SS) (t:T):SS × Bool :=
 if t.n.kind=2\/t.n.kind=7 then (if c.ls.contains t.n.s=false/\p.globals.contains t.n.s=false then c.fail 22 t.n.at_ else c,true)
 else if t.n.kind=3\/t.n.kind=8 then (if c.ls.contains t.n.s=true\/EB p t.n.s < 0 then c.fail 24 t.n.at_ else c,true)
 else if t.n.kind=4 then fU p c t
 else (c,true)
def mM (c:SS) (n:Nd):SS :=
 if n.kind≠13 then c
 else if c.ls.contains n.s=true then ⟨(c.fail 21 n.at_).ls++[n.s],(c.fail 21 n.at_).code,(c.fail 21 n.at_).at_⟩
 else if c.ls.length=40 then ⟨(c.fail 26 n.at_).ls++[n.s],(c.fail 26 n.at_).code,(c.fail 26 n.at_).at_⟩
 else ⟨c.ls++[n.s],c.code,c.at_⟩
mutual
def oa (p:Src):T->SS->SS
 | .mk n l,c=>mM (if (kg p c (.mk n l)).2=true then iY p l (kg p c (.mk n l)).1 else (kg p c (.mk n l)).1) n
def iY (p:Src):List T->SS->SS
 | [],c=>c
 | t::r,c=>iY p r (oa p t c)
end
theorem we (p:Src) (t:T) (c:SS):oa p t c=mM (if (kg p c t).2=true then iY p t.kids (kg p c t).1 else (kg p c t).1) t.n:=by cases t;rw [oa];rfl
mutual
def vf:T->Prop
 | .mk n l=>n.kind≠13/\l7 l
def l7:List T->Prop
 | []=>True
 | t::r=>vf t/\l7 r
end
mutual
def jO:T->Prop
 | .mk n l=>(n.kind=13->l7 l)/\(n.kind=2->l=[])/\eD l
def eD:List T->Prop
 | []=>True
 | t::r=>jO t/\eD r
end
mutual
theorem WJ:∀ t:T,vf (er t)↔vf t
 | .mk n l=>by rw [er,vf,vf,Gk l]
theorem Gk:∀ l:List T,l7 (aS l)↔l7 l
 | []=>by rw [aS]
 | t::r=>by rw [aS,l7,l7,WJ t,Gk r]
end
theorem R6 {l:List T}:aS l=[]↔l=[]:=by
 cases l with
 | nil=>rw [aS]
 | cons t r=>rw [aS];simp
mutual
theorem RD:∀ t:T,jO (er t)↔jO t
 | .mk n l=>by rw [er,jO,jO,Gk l,Oh l,R6]
theorem Oh:∀ l:List T,eD (aS l)↔eD l
 | []=>by rw [aS]
 | t::r=>by rw [aS,eD,eD,RD t,Oh r]
end
mutual
theorem E.nv:∀ a:E,vf a.tree
 | .num n=>by rw [E.tree,vf];exact ⟨by simp,trivial⟩
 | .name s=>by rw [E.tree,vf];exact ⟨by simp,trivial⟩
 | .at_ s a=>by rw [E.tree,vf,l7,l7];exact ⟨by simp,E.nv a,trivial⟩
 | .call s l=>by rw [E.tree,vf];exact ⟨by simp,E.XZ l⟩
 | .un s a=>by rw [E.tree,vf,l7,l7];exact ⟨by simp,E.nv a,trivial⟩
 | .bin s a b=>by rw [E.tree,vf,l7,l7,l7];exact ⟨by simp,E.nv a,E.nv b,trivial⟩
theorem E.XZ:∀ l:List E,l7 (E.trees l)
 | []=>trivial
 | a::l=>by rw [E.trees,l7];exact ⟨E.nv a,E.XZ l⟩
end
mutual
theorem E.wf:∀ a:E,jO a.tree
 | .num n=>by rw [E.tree,jO];exact ⟨fun h=>absurd h (by simp),fun _=>rfl,trivial⟩
 | .name s=>by rw [E.tree,jO];exact ⟨fun h=>absurd h (by simp),fun _=>rfl,trivial⟩
 | .at_ s a=>by rw [E.tree,jO,eD,eD];exact ⟨fun h=>absurd h (by simp),fun h=>absurd h (by simp),E.wf a,trivial⟩
 | .call s l=>by rw [E.tree,jO];exact ⟨fun h=>absurd h (by simp),fun h=>absurd h (by simp),E.Ct l⟩
 | .un s a=>by rw [E.tree,jO,eD,eD];exact ⟨fun h=>absurd h (by simp),fun h=>absurd h (by simp),E.wf a,trivial⟩
 | .bin s a b=>by rw [E.tree,jO,eD,eD,eD];exact ⟨fun h=>absurd h (by simp),fun h=>absurd h (by simp),E.wf a,E.wf b,trivial⟩
theorem E.Ct:∀ l:List E,eD (E.trees l)
 | []=>trivial
 | a::l=>by rw [E.trees,eD];exact ⟨E.wf a,E.Ct l⟩
end
mutual
theorem S.wf:∀ a:S,jO a.tree
 | .set s a=>by rw [S.tree,jO,eD,eD];exact ⟨fun h=>absurd h (by simp),fun h=>absurd h (by simp),E.wf a,trivial⟩
 | .put s a b=>by rw [S.tree,jO,eD,eD,eD];exact ⟨fun h=>absurd h (by simp),fun h=>absurd h (by simp),E.wf a,E.wf b,trivial⟩
 | .if1 c b=>by rw [S.tree,jO,eD,eD,eD,jO];exact ⟨fun h=>absurd h (by simp),fun h=>absurd h (by simp),E.wf c,⟨fun h=>absurd h (by simp),fun h=>absurd h (by simp),S.Ct b⟩,trivial⟩
 | .if2 c b d=>by rw [S.tree,jO,eD,eD,eD,eD,jO,jO];exact ⟨fun h=>absurd h (by simp),fun h=>absurd h (by simp),E.wf c,⟨fun h=>absurd h (by simp),fun h=>absurd h (by simp),S.Ct b⟩,⟨fun h=>absurd h (by simp),fun h=>absurd h (by simp),S.Ct d⟩,trivial⟩
 | .while_ c b=>by rw [S.tree,jO,eD,eD,eD,jO];exact ⟨fun h=>absurd h (by simp),fun h=>absurd h (by simp),E.wf c,⟨fun h=>absurd h (by simp),fun h=>absurd h (by simp),S.Ct b⟩,trivial⟩
 | .ret a=>by rw [S.tree,jO,eD,eD];exact ⟨fun h=>absurd h (by simp),fun h=>absurd h (by simp),E.wf a,trivial⟩
 | .do_ a=>by rw [S.tree,jO,eD,eD];exact ⟨fun h=>absurd h (by simp),fun h=>absurd h (by simp),E.wf a,trivial⟩
 | .var s a=>by rw [S.tree,jO,eD,eD,l7,l7];exact ⟨fun _=>⟨E.nv a,trivial⟩,fun h=>absurd h (by simp),E.wf a,trivial⟩
theorem S.Ct:∀ l:List S,eD (S.trees l)
 | []=>trivial
 | a::l=>by rw [S.trees,eD];exact ⟨S.wf a,S.Ct l⟩
end
theorem VJ (l:List S):jO (bU l):=by
 rw [bU,jO];exact ⟨fun h=>absurd h (by simp),fun h=>absurd h (by simp),S.Ct l⟩
theorem SS.oM (c:SS) (k a:Int):(c.fail k a).ls=c.ls:=by unfold SS.fail;split <;> rfl
theorem xD (c:SS) (n:Nd) (k w:Nat):(fc c n k w).ls=c.ls:=by unfold fc;split;(· exact c.oM _ _);rfl
theorem wu (p:Src) (c:SS) (t:T):(kg p c t).1.ls=c.ls:=by
 unfold kg fU;split
 ·simp only;split;(· exact c.oM _ _);rfl
 split
 ·simp only;split;(· exact c.oM _ _);rfl
 split
 ·split
  ·exact xD _ _ _ _
  split
  ·exact xD _ _ _ _
  split
  ·simp only;rw [xD];split;(· exact c.oM _ _);rfl
  split
  ·exact c.oM _ _
  ·exact xD _ _ _ _
 ·rfl
mutual
theorem WG (p:Src):∀ (t:T),vf t->∀ c,(oa p t c).ls=c.ls
 | .mk n l,h,c=>by
  rw [vf] at h;rw [oa,mM,ab h.1];split
  ·rw [Gh p l h.2,wu]
  ·exact wu _ _ _
theorem Gh (p:Src):∀ (l:List T),l7 l->∀ c,(iY p l c).ls=c.ls
 | [],_,c=>by rw [iY]
 | t::r,h,c=>by
  rw [l7] at h;rw [iY,Gh p r h.2,WG p t h.1]
end
theorem SS.zh {c:SS} (h:c.code≠0) (k a:Int):c.fail k a=c:=by unfold SS.fail;rw [M h]
theorem SS.p9 (c:SS) {k:Int} (hk:k≠0) (a:Int):(c.fail k a).code≠0:=by
 unfold SS.fail;split
 ·exact hk
 ·assumption
theorem Qr {c:SS} (h:c.code≠0) (n:Nd) (k w:Nat):fc c n k w=c:=by unfold fc;rw [SS.zh h];split <;> rfl
theorem SH (p:Src) {c:SS} (h:c.code≠0) (t:T):(kg p c t).1=c:=by
 unfold kg fU;simp only [SS.zh h,Qr h,ite_self];split
 ·rfl
 split
 ·rfl
 split
 ·split
  ·rfl
  split
  ·rfl
  split
  ·rfl
  split <;> rfl
 ·rfl
theorem zE {c:SS} (h:c.code≠0) (n:Nd):(mM c n).code≠0:=by
 unfold mM;rw [SS.zh h,SS.zh h];split
 ·exact h
 split
 ·exact h
 split <;> exact h
mutual
theorem Rm (p:Src):∀ (t:T) (c:SS),c.code≠0->(oa p t c).code≠0
 | .mk n l,c,h=>by
  rw [oa];refine zE ?_ n;rw [SH p h];split
  ·exact wg p l c h
  ·exact h
theorem wg (p:Src):∀ (l:List T) (c:SS),c.code≠0->(iY p l c).code≠0
 | [],c,h=>by rw [iY];exact h
 | t::r,c,h=>by rw [iY];exact wg p r _ (Rm p t c h)
end
theorem Qa (p:Src) {c:CS} (h:c.code≠0) (a:Nat) (t:T) (ls:List ae):dN p c a t ls=c:=by unfold dN;rw [ab (.inl h)]
mutual
theorem V4 (p:Src):∀ (t:T) (a:Nat) (c:CS) (ls:List ae),c.code≠0->(ny (dN p) t a c ls).1=c
 | .mk n l,a,c,ls,h=>by rw [ny,Qa p h];exact Bl p l _ c ls h
theorem Bl (p:Src):∀ (l:List T) (a:Nat) (c:CS) (ls:List ae),c.code≠0->(iR (dN p) l a c ls).1=c
 | [],a,c,ls,h=>by rw [iR]
 | t::r,a,c,ls,h=>by
  have L:=V4 p t a c ls h;rw [iR,L];exact Bl p r _ c _ h
end
def Dt (a:Nat) (r:CS × List ae) (q:SS):Prop:=(r.1.code=0/\q.code=0/\r.2=q.ls/\r.1.skip < (a:Int)/\q.ls.length<=40)\/(r.1.code≠0/\q.code≠0)
theorem P8 (p:Src) (t:T) (FV:t.n.kind=13->l7 t.kids) (pE:∀ k∈t.kids,k.n.kind=2->k.kids=[])
  (ih:∀ (a:Nat) (r:CS) (q:SS),r.code=0->q.code=0->r.skip < (a:Int)->q.ls.length<=40->Dt (a+aB t.kids) (iR (dN p) t.kids a r q.ls) (iY p t.kids q))
  (a:Nat) (r:CS) (q:SS) (hr:r.code=0) (hq:q.code=0) (hs:r.skip < (a:Int)) (hl:q.ls.length<=40):Dt (a+aQ t) (ny (dN p) t a r q.ls) (oa p t q):=by
 have cr:¬ (r.code≠0\/(a:Int)=r.skip):=by
  rintro (h | h)
  ·exact h hr
  ·omega
 obtain ⟨pl,cz⟩:∃ pl,dN p r a t q.ls=⟨dj p t q.ls,pl,if gy t=true then (if (rG t).kind≠2 then -1 else ((a+1:Nat):Int)) else r.skip⟩:=by
  unfold dN;rw [M cr];exact ⟨_,rfl⟩
 have dE:=eA t
 have bad:∀ x:SS,dj p t q.ls≠0->x.code≠0->Dt (a+aQ t) (ny (dN p) t a r q.ls) x:=fun x L I=>by
  refine .inr ⟨?_,I⟩;rw [yd,cz];simp only;rw [Bl p t.kids _ _ _ L];exact L
 have go:dj p t q.ls=0->gy t=false->t.n.kind≠13->kg p q t=(q,true)->Dt (a+aQ t) (ny (dN p) t a r q.ls) (oa p t q):=fun L I h3 h4=>by
  have:=ih (a+1) ⟨0,pl,r.skip⟩ q rfl hq (by simp only;omega) hl;rw [yd,we,h4,cz,L,I,M h3,mM,ab h3];simp only [if_true,Bool.false_eq_true,if_false];rw [show a+aQ t=a+1+aB t.kids by omega];exact this
 by_cases fm:t.n.kind=13
 ·have hnv:=FV fm
  have hz:gy t=false:=by unfold gy;rw [fm];rfl
  have ou:kg p q t=(q,true):=by unfold kg;rw [M aq,M aq,M aq]
  have o8:(iY p t.kids q).ls=q.ls:=Gh p t.kids hnv q
  have so:dj p t q.ls=if q.ls.contains t.n.s=true then 21 else if q.ls.length>=40 then 26 else 0:=by
   unfold dj;rw [ab fm]
  rw [we,ou];simp only [if_true]
  by_cases hc:q.ls.contains t.n.s=true
  ·refine bad _ (by rw [so,ab hc];decide) ?_;rw [mM,M (by simpa using fm),o8,ab hc];exact SS.p9 _ av _
  by_cases h40:q.ls.length>=40
  ·refine bad _ (by rw [so,M hc,ab h40];decide) ?_;rw [mM,M (by simpa using fm),o8,M hc,ab aq];exact SS.p9 _ av _
  have h0:dj p t q.ls=0:=by rw [so,M hc,M h40]
  have:=ih (a+1) ⟨0,pl,r.skip⟩ q rfl hq (by simp only;omega) hl;rw [mM,M (by simpa using fm),o8,M hc,M aq,yd,cz,h0,hz,ab fm];simp only [Bool.false_eq_true,if_false];rw [show a+aQ t=a+1+aB t.kids by omega]
  rcases this with ⟨k1,k2,k3,k4,k5⟩ | ⟨k1,k2⟩
  ·refine .inl ⟨k1,k2,?_,k4,?_⟩
   ·show _++_=_++_;rw [k3,o8]
   ·show (q.ls++[t.n.s]).length<=40;rw [aU,List.length_singleton];omega
  ·exact .inr ⟨k1,k2⟩
 by_cases I:t.n.kind=2\/t.n.kind=7
 ·have hz:gy t=false:=by
   unfold gy;rw [show (t.n.kind==4)=false by simp;omega];rfl
  by_cases hc:q.ls.contains t.n.s=false/\p.globals.contains t.n.s=false
  ·refine bad _ (by unfold dj;rw [M fm,ab I,ab hc];decide) ?_
   have ou:kg p q t=(q.fail 22 t.n.at_,true):=by unfold kg;rw [ab I,ab hc]
   rw [we,ou];refine zE ?_ t.n;simp only [if_true];exact wg p t.kids _ (SS.p9 _ av _)
  ·exact go (by unfold dj;rw [M fm,ab I,M hc]) hz fm (by unfold kg;rw [ab I,M hc])
 by_cases h3:t.n.kind=3\/t.n.kind=8
 ·have hz:gy t=false:=by
   unfold gy;rw [show (t.n.kind==4)=false by simp;omega];rfl
  by_cases hc:q.ls.contains t.n.s=true\/EB p t.n.s < 0
  ·refine bad _ (by unfold dj;rw [M fm,M I,ab h3,ab hc];decide) ?_
   have ou:kg p q t=(q.fail 24 t.n.at_,true):=by unfold kg;rw [M I,ab h3,ab hc]
   rw [we,ou];refine zE ?_ t.n;simp only [if_true];exact wg p t.kids _ (SS.p9 _ av _)
  ·exact go (by unfold dj;rw [M fm,M I,ab h3,M hc]) hz fm (by unfold kg;rw [M I,ab h3,M hc])
 by_cases h4:t.n.kind=4
 ·have so:dj p t q.ls=gI p t q.ls:=by unfold dj;rw [M fm,M I,M h3,ab h4]
  have ou:kg p q t=fU p q t:=by unfold kg;rw [M I,M h3,ab h4]
  have fin:∀ x:SS × Bool,fU p q t=x->dj p t q.ls≠0->x.1.code≠0->Dt (a+aQ t) (ny (dN p) t a r q.ls) (oa p t q):=fun x hx L I=>by
   refine bad _ L ?_;rw [we,ou,hx];refine zE ?_ t.n;split
   ·exact wg p t.kids _ I
   ·exact I
  have Kk:gy t=((t.n.s==ko)&&(t.kids.length==1)):=by unfold gy;rw [h4];rfl
  have some_:∀ w:Nat,t.n.s≠ko->n9 p t.n.s=(w:Int)->fU p q t=(fc q t.n t.kids.length w,true)->Dt (a+aQ t) (ny (dN p) t a r q.ls) (oa p t q):=fun w e1 e2 e3=>by
   have hz:gy t=false:=by rw [Kk,show (t.n.s==ko)=false by simpa using e1];rfl
   have DO:gI p t q.ls=if (w:Int)=(t.kids.length:Int) then 0 else 23:=by
    unfold gI;rw [hz,M av,e2,M aq]
   by_cases hk:t.kids.length=w
   ·refine go (by rw [so,DO,ab aq]) hz fm ?_;rw [ou,e3,fc,M (by simpa using hk)]
   ·refine fin _ e3 (by rw [so,DO,M aq];decide) ?_;rw [fc,ab hk];exact SS.p9 _ av _
  by_cases hg:t.n.s=pN
  ·exact some_ 0 (by rw [hg];decide) (by unfold n9;rw [ab hg];rfl) (by unfold fU;rw [ab hg])
  by_cases hp:t.n.s=qF
  ·exact some_ 1 (by rw [hp];decide) (by unfold n9;rw [M hg,ab (.inl hp)];rfl) (by unfold fU;rw [M hg,ab hp])
  by_cases hz:t.n.s=ko
  ·have fT:fU p q t=(fc (if t.kids.length=1/\jH p (rG t) q.ls=true then q.fail 24 t.n.at_ else q) t.n t.kids.length 1,false):=by
    unfold fU;rw [M hg,M hp,ab hz]
   by_cases hk:t.kids.length=1
   ·have iy:gy t=true:=by rw [Kk,hz,hk];rfl
    have DO:gI p t q.ls=if jH p (rG t) q.ls=true then 24 else 0:=by unfold gI;rw [ab iy]
    by_cases hb:jH p (rG t) q.ls=true
    ·refine fin _ fT (by rw [so,DO,ab hb];decide) ?_;rw [ab ⟨hk,hb⟩,fc,M (by simpa using hk)];exact SS.p9 _ av _
    ·have YU:fU p q t=(q,false):=by rw [fT,M (fun h=>hb h.2),fc,M (by simpa using hk)]
     rw [we,ou,YU,mM,ab fm];simp only [Bool.false_eq_true,if_false]
     have h0:dj p t q.ls=0:=by rw [so,DO,M hb]
     obtain ⟨k,gL⟩:∃ k,t.kids=[k]:=by
      match hl:t.kids,hk with
      | [k],_=>exact ⟨k,rfl⟩
     have z7:rG t=k.n:=by unfold rG;rw [gL]
     have sW:k.n.kind=2:=by
      have:jH p k.n q.ls=false:=by rw [<-z7];simpa using hb
      unfold jH at this;simp only [Bool.or_eq_false_iff] at this;simpa using this.1.1
     have iT:k.kids=[]:=pE k (by rw [gL];exact List.mem_singleton.2 rfl) sW
     have xI:aQ k=1:=by rw [eA,iT,aB]
     have Zk:∀ c:CS,((a+1:Nat):Int)=c.skip->dN p c (a+1) k q.ls=c:=fun c hc=>by unfold dN;rw [ab (.inr hc)]
     rw [yd,cz,h0,iy,M fm,gL,z7];simp only [if_true,iR];rw [yd,iT];simp only [iR];rw [M (by rw [sW];decide),Zk _ rfl,M (by rw [sW];decide)];refine .inl ⟨rfl,hq,rfl,?_,hl⟩;rw [dE,gL,aB,aB,xI];simp only;omega
   ·have vV:gy t=false:=by rw [Kk,show (t.kids.length==1)=false by simpa using hk,Bool.and_false]
    refine fin _ fT ?_ ?_
    ·rw [so];unfold gI;rw [vV,M av]
     have:n9 p t.n.s=1:=by unfold n9;rw [M hg,ab (.inr hz)]
     rw [this,M av,M aq];decide
    ·rw [M (fun h=>hk h.1),fc,ab hk];exact SS.p9 _ av _
  have eV:n9 p t.n.s=match p.fns.findIdx? (fun f:Fn=>f.name==t.n.s) with | some i=>(mD p i:Int) | none => -1:=by
   unfold n9;rw [M hg,M (by rintro (h | h);(· exact hp h);exact hz h)]
  have fT:fU p q t=match p.fns.findIdx? (fun f:Fn=>f.name==t.n.s) with | none=>(q.fail 22 t.n.at_,false) | some i=>(fc q t.n t.kids.length (mD p i),true):=by
   unfold fU;rw [M hg,M hp,M hz]
  cases hf:p.fns.findIdx? (fun f:Fn=>f.name==t.n.s) with
  | some i =>
   rw [hf] at eV fT;exact some_ (mD p i) hz eV fT
  | none =>
   rw [hf] at eV fT;refine fin _ fT ?_ (SS.p9 _ av _);rw [so];unfold gI;rw [Kk,show (t.n.s==ko)=false by simpa using hz,Bool.false_and,M av,eV];simp
 ·exact go (by unfold dj;rw [M fm,M I,M h3,M h4]) (by unfold gy;rw [show (t.n.kind==4)=false by simpa using h4];rfl) fm
   (by unfold kg;rw [M I,M h3,M h4])
theorem Hb:∀ {l:List T},eD l->∀ k∈l,jO k
 | [],_,k,hk=>by cases hk
 | t::r,h,k,hk=>by
  rw [eD] at h
  rcases dA hk with rfl | hk
  ·exact h.1
  ·exact Hb h.2 k hk
mutual
theorem Vt (p:Src):∀ (t:T),jO t->∀ (a:Nat) (r:CS) (q:SS),r.code=0->q.code=0->r.skip < (a:Int)->q.ls.length<=40->Dt (a+aQ t) (ny (dN p) t a r q.ls) (oa p t q)
 | .mk n l,hw=>by
  rw [jO] at hw;refine P8 p (.mk n l) hw.1 (fun k hk I=>?_) (Vs p l hw.2.2);have:=Hb hw.2.2 k hk;obtain ⟨m,j⟩:=k;rw [jO] at this;exact this.2.1 I
theorem Vs (p:Src):∀ (l:List T),eD l->∀ (a:Nat) (r:CS) (q:SS),r.code=0->q.code=0->r.skip < (a:Int)->q.ls.length<=40->Dt (a+aB l) (iR (dN p) l a r q.ls) (iY p l q)
 | [],_,a,r,q,hr,hq,hs,hl=>by rw [iR,iY,aB];exact .inl ⟨hr,hq,rfl,by simpa using hs,hl⟩
 | t::l,hw,a,r,q,hr,hq,hs,hl=>by
  rw [eD] at hw;rw [iR,iY,aB]
  rcases Vt p t hw.1 a r q hr hq hs hl with ⟨k1,k2,k3,k4,k5⟩ | ⟨k1,k2⟩
  ·rw [k3];have:=Vs p l hw.2 (a+aQ t) _ _ k1 k2 k4 k5;rw [fP] at this;exact this
  ·exact .inr ⟨by rw [Bl p l _ _ _ k1];exact k1,wg p l _ k2⟩
end
def gz (c k:Int):Int:=if c=0 then k else c
def nq (a:Ar):Bool:=decide (a.size < 1) || decide (a.size > 8000)
def kA (p:Src):Bool:=match p.fns.findIdx? (fun f:Fn=>f.name==v7) with | none=>true | some i=>decide (mD p i > 0)
def tU (p:Src):Bool:=(decide (p.fns.length > 40) || decide (p.globals.length > 29)) || decide (ec p.arrays > 8000)
def rO (p:Src) (c:Int):Int :=
 if p.arrays.any nq=true then gz c 26
 else if kA p=true then gz (if (p.fns.any fun f=>decide (f.params.length > 40))=true then gz (if tU p=true then gz c 26 else c) 26 else (if tU p=true then gz c 26 else c)) 25
 else if (p.fns.any fun f=>decide (f.params.length > 40))=true then gz (if tU p=true then gz c 26 else c) 26 else (if tU p=true then gz c 26 else c)
def qK (f:Fn) (c:SS):SS:=⟨f.params,if wW f.params=true then gz c.code 21 else c.code,if wW f.params=true/\c.code=0 then 0 else c.at_⟩
def oq (p:Src):List Fn->List T->SS->SS
 | f::r,t::l,c=>oq p r l (if c.code=0 then oa p t (qK f c) else c)
 | _,_,c=>c
def LP (p:Src) (l:List T):SS:=oq p p.fns l ⟨[],rO p (if fQ (bE p)=true then 21 else 0),0⟩
theorem zj (p:Src):∀ (fs:List Fn) (l:List T) (c:SS),c.code≠0->(oq p fs l c).code≠0
 | f::r,t::l,c,h=>by rw [oq,M h];exact zj p r l c h
 | [],_,c,h=>by rw [oq];(· exact h);intros;simp_all
 | f::r,[],c,h=>by rw [oq];(· exact h);intros;simp_all
theorem TH (p:Src) (f:Fn) (t:T) (a:Nat) (c:SS) (hw:jO t) (hc:c.code=0) (hp:f.params.length<=40):(jm p f t a).1=0↔(oa p t (qK f c)).code=0:=by
 unfold jm
 by_cases hd:wW f.params=true
 ·rw [ab hd]
  have:(qK f c).code≠0:=by unfold qK;rw [ab hd];unfold gz;rw [ab hc];show (21:Int)≠0;decide
  have I:=Rm p t _ this;constructor
  ·intro h;cases h
  ·intro h;exact absurd h I
 ·rw [M hd]
  have hq:(qK f c).code=0:=by unfold qK;rw [M hd];exact hc
  have L:=Vt p t hw a ⟨0,0,-1⟩ (qK f c) rfl hq (by show (-1:Int) < _;omega) hp;show (ny (dN p) t a ⟨0,0,-1⟩ (qK f c).ls).1.code=0↔_
  rcases L with ⟨k1,k2,_⟩ | ⟨k1,k2⟩
  ·exact ⟨fun _=>k2,fun _=>k1⟩
  ·exact ⟨fun h=>absurd h k1,fun h=>absurd h k2⟩
theorem Iy (p:Src):∀ (fs:List Fn) (l:List T) (a:Nat) (c:SS),c.code=0->(∀ t∈l,jO t)->(∀ f∈fs,f.params.length<=40)->((jn p fs l a).1=0↔(oq p fs l c).code=0)
 | f::r,t::l,a,c,hc,hw,hp=>by
  have L:=TH p f t a c (hw t mem_cons_self) hc (hp f mem_cons_self);rw [jn,oq,ab hc]
  by_cases h:(jm p f t a).1=0
  ·rw [M (by simpa using h)];exact Iy p r l _ _ (L.1 h) (fun u hu=>hw u (di _ hu)) (fun g hg=>hp g (di _ hg))
  ·rw [ab h]
   have I:(oa p t (qK f c)).code≠0:=fun e=>h (L.2 e)
   exact ⟨fun e=>absurd e h,fun e=>absurd e (zj p r l _ I)⟩
 | [],_,a,c,hc,_,_=>by rw [jn,oq];(· exact ⟨fun _=>hc,fun _=>rfl⟩);all_goals (intros;simp_all)
 | f::r,[],a,c,hc,_,_=>by rw [jn,oq];(· exact ⟨fun _=>hc,fun _=>rfl⟩);all_goals (intros;simp_all)
theorem cells_from (l:List Ar):∀ n:Int,l.foldl (fun n a=>n+a.size) n=n+ec l:=by
 induction l with
 | nil=>intro n;simp [ec]
 | cons a l ih =>
  intro n;unfold ec;rw [foldl_cons,foldl_cons,ih,ih (0+a.size)];omega
theorem JZ (a:Ar) (l:List Ar):ec (a::l)=a.size+ec l:=by
 unfold ec;rw [foldl_cons,cells_from];unfold ec;omega
theorem OL {l:List Ar} (h:∀ a∈l,0<=a.size):0<=ec l/\∀ a∈l,a.size<=ec l:=by
 induction l with
 | nil=>exact ⟨by simp [ec],fun a h=>by cases h⟩
 | cons b l ih =>
  obtain ⟨L,I⟩:=ih fun a ha=>h a (di _ ha)
  have hb:=h b mem_cons_self;rw [JZ];refine ⟨by omega,fun a ha=>?_⟩
  rcases dA ha with rfl | ha
  ·omega
  ·have:=I a ha;omega
theorem Hq {l:List ae} (h:fQ l=false) {i j:Nat} {s:ae} (hi:l[i]?=some s) (hj:l[j]?=some s):i=j:=by
 have key:∀ x y:Nat,x < y->l[x]?=some s->l[y]?=some s->False:=fun x y lJ L I=>by
  have hy:=(bp I).1;unfold fQ at h;rw [any_eq_false] at h;have:=h y (List.mem_range.2 hy);unfold ll at this;rw [I] at this;simp only [Bool.or_eq_true,not_or] at this;apply this.2;rw [nu];rw [List.mem_take_iff_getElem];have hx:=(bp L);exact ⟨x,by have:=hx.1;omega,hx.2⟩
 rcases Nat.lt_trichotomy i j with L | L | L
 ·exact (key i j L hi hj).elim
 ·exact L
 ·exact (key j i L hj hi).elim
theorem Ga {p:Src} (h:fQ (bE p)=false):p.fns.any nG=true↔kA p=false:=by
 have uV:∀ (i:Nat) f,p.fns[i]?=some f->(bE p)[(p.globals++dc p).length+i]?=some f.name:=fun i f hf=>by
  unfold bE;rw [eE aq,Nat.add_sub_cancel_left,fq,aV,hf];rfl
 unfold kA
 cases hf:p.fns.findIdx? (fun f:Fn=>f.name==v7) with
 | none =>
  rw [List.findIdx?_eq_none_iff] at hf;constructor
  ·intro L;obtain ⟨f,I,h3⟩:=oY.1 L;unfold nG at h3;have:=hf f I;rw [this] at h3;cases h3
  ·intro L;cases L
 | some i =>
  rw [List.findIdx?_eq_some_iff_getElem] at hf;obtain ⟨hi,L,I⟩:=hf
  have zY:p.fns[i]?=some p.fns[i]:=by simp [hi]
  simp only [mD,zY];constructor
  ·intro h3;obtain ⟨f,h4,h5⟩:=oY.1 h3;obtain ⟨j,hj⟩:=List.getElem?_of_mem h4;unfold nG at h5;simp only [aH,beq_iff_eq] at h5 L;have e1:=uV i _ zY;have e2:=uV j f hj;rw [L] at e1;rw [h5.1] at e2;have:=Hq h e1 e2
   have:i=j:=by omega
   subst this;rw [hj] at zY;cases zY;simp [h5.2]
  ·intro h3;simp only [gt_iff_lt,decide_eq_false_iff_not,Nat.not_lt,Nat.le_zero] at h3;exact oY.2 ⟨p.fns[i],List.getElem_mem hi,by unfold nG;rw [L,h3];rfl⟩
theorem SV {p:Src} (ha:∀ a∈p.arrays,0<=a.size):(jy p=false/\kA p=false)↔rO p 0=0:=by
 obtain ⟨qx,hc⟩:=OL ha;have f26:gz 0 26=26:=rfl
 have f25:∀ c,c≠0->gz c 25=c:=fun c h=>by unfold gz;rw [M h]
 have Yg:∀ c,gz c 25≠0:=fun c=>by
  unfold gz;split
  ·decide
  ·assumption
 have Yh:∀ c,gz c 26≠0:=fun c=>by
  unfold gz;split
  ·decide
  ·assumption
 unfold rO
 by_cases L:p.arrays.any nq=true
 ·rw [ab L,f26];refine ⟨fun h=>?_,fun h=>by cases h⟩;obtain ⟨a,I,h3⟩:=oY.1 L;have h4:=h.1;unfold jy at h4;simp only [Bool.or_eq_false_iff,decide_eq_false_iff_not] at h4;have h5:=List.any_eq_false.1 h4.1 a I;have h6:=hc a I;have h7:=ha a I;unfold nq at h3;simp only [Bool.or_eq_true,decide_eq_true_eq] at h3;simp only [beq_iff_eq] at h5;have h8:=h4.2.1.2;omega
 rw [M L]
 have hz:p.arrays.any (fun a=>a.size==0)=false:=by
  rw [any_eq_false];intro a I h3;apply L;refine oY.2 ⟨a,I,?_⟩;unfold nq;simp only [beq_iff_eq] at h3;rw [h3];rfl
 have htm:jy p=(tU p || p.fns.any fun f=>decide (f.params.length > 40)):=by
  unfold jy tU;rw [hz,Bool.false_or]
 rw [htm]
 by_cases I:kA p=true
 ·rw [ab I];exact ⟨fun h=>(by rw [I] at h;cases h.2),fun h=>absurd h (Yg _)⟩
 rw [M I]
 have q9:kA p=false:=by simpa using I
 by_cases h3:(p.fns.any fun f=>decide (f.params.length > 40))=true
 ·rw [ab h3,h3,Bool.or_true];exact ⟨fun h=>(by cases h.1),fun h=>absurd h (Yh _)⟩
 rw [M h3,show (p.fns.any fun f=>decide (f.params.length > 40))=false by simpa using h3,Bool.or_false]
 by_cases h4:tU p=true
 ·rw [ab h4,h4];exact ⟨fun h=>(by cases h.1),fun h=>(by cases h)⟩
 ·rw [M h4];exact ⟨fun _=>rfl,fun _=>⟨by simpa using h4,q9⟩⟩
theorem Tq {p:Src} {l:List T} (ha:∀ a∈p.arrays,0<=a.size) (hw:∀ t∈l,jO t):(Ii p l).1=0↔(LP p l).code=0:=by
 have ne:rO p 21≠0:=by
  have f:∀ c k,c≠0->gz c k=c:=fun c k h=>by unfold gz;rw [M h]
  unfold rO;simp only [f 21 26 av,ite_self,f 21 25 av]
  decide
 unfold Ii LP
 by_cases L:fQ (bE p)=true
 ·rw [ab L,ab L];exact ⟨fun h=>(by cases h),fun h=>absurd h (zj p _ _ _ ne)⟩
 rw [M L,M L];have hs:=SV ha
 by_cases I:rO p 0=0
 ·obtain ⟨h3,h4⟩:=hs.2 I;rw [M (by rw [h3];decide),M (by rw [(Ga (by simpa using L)).2 h4];decide),I]
  refine Iy p _ _ _ _ rfl hw fun f hf=>?_
  unfold jy at h3;simp only [Bool.or_eq_false_iff] at h3;have:=List.any_eq_false.1 h3.2.2 f hf;simpa using this
 ·refine ⟨fun h=>?_,fun h=>absurd h (zj p _ _ _ I)⟩;exfalso;apply I;apply hs.1
  by_cases h3:jy p=true
  ·rw [ab h3] at h;cases h
  ·rw [M h3] at h
   by_cases h4:p.fns.any nG=false
   ·rw [ab h4] at h;cases h
   ·exact ⟨by simpa using h3,(Ga (by simpa using L)).1 (by simpa using h4)⟩
mutual
def zF:T->List ae
 | .mk n l=>nK l++(if n.kind=13 then [n.s] else [])
def nK:List T->List ae
 | []=>[]
 | t::r=>zF t++nK r
end
theorem Qo (t:T):zF t=nK t.kids++(if t.n.kind=13 then [t.n.s] else []):=by cases t;rw [zF];rfl
mutual
theorem R7 {σ:Type} (f:σ->Nat->T->List ae->σ):∀ (t:T) (a:Nat) (s:σ) (ls:List ae),(ny f t a s ls).2=ls++zF t
 | .mk n l,a,s,ls=>by
  rw [ny,zF];simp only;rw [wZ f l];split
  ·rw [cK]
  ·rw [cq]
theorem wZ {σ:Type} (f:σ->Nat->T->List ae->σ):∀ (l:List T) (a:Nat) (s:σ) (ls:List ae),(iR f l a s ls).2=ls++nK l
 | [],a,s,ls=>by rw [iR,nK,cq]
 | t::r,a,s,ls=>by rw [iR,wZ f r,R7 f t,nK,cK]
end
mutual
def zT:T->Prop
 | .mk n l=>(n.kind≠1->n.n=0)/\iV l
def iV:List T->Prop
 | []=>True
 | t::r=>zT t/\iV r
end
mutual
theorem VP:∀ t:T,zT (er t)↔zT t
 | .mk n l=>by rw [er,zT,zT,RG l]
theorem RG:∀ l:List T,iV (aS l)↔iV l
 | []=>by rw [aS]
 | t::r=>by rw [aS,iV,iV,VP t,RG r]
end
mutual
theorem E.z:∀ a:E,zT a.tree
 | .num n=>by rw [E.tree,zT];exact ⟨fun h=>absurd rfl h,trivial⟩
 | .name s=>by rw [E.tree,zT];exact ⟨fun _=>rfl,trivial⟩
 | .at_ s a=>by rw [E.tree,zT,iV,iV];exact ⟨fun _=>rfl,E.z a,trivial⟩
 | .call s l=>by rw [E.tree,zT];exact ⟨fun _=>rfl,E.zs l⟩
 | .un s a=>by rw [E.tree,zT,iV,iV];exact ⟨fun _=>rfl,E.z a,trivial⟩
 | .bin s a b=>by rw [E.tree,zT,iV,iV,iV];exact ⟨fun _=>rfl,E.z a,E.z b,trivial⟩
theorem E.zs:∀ l:List E,iV (E.trees l)
 | []=>trivial
 | a::l=>by rw [E.trees,iV];exact ⟨E.z a,E.zs l⟩
end
mutual
theorem S.z:∀ a:S,zT a.tree
 | .set s a=>by rw [S.tree,zT,iV,iV];exact ⟨fun _=>rfl,E.z a,trivial⟩
 | .put s a b=>by rw [S.tree,zT,iV,iV,iV];exact ⟨fun _=>rfl,E.z a,E.z b,trivial⟩
 | .if1 c b=>by rw [S.tree,zT,iV,iV,iV,zT];exact ⟨fun _=>rfl,E.z c,⟨fun _=>rfl,S.zs b⟩,trivial⟩
 | .if2 c b d=>by rw [S.tree,zT,iV,iV,iV,iV,zT,zT];exact ⟨fun _=>rfl,E.z c,⟨fun _=>rfl,S.zs b⟩,⟨fun _=>rfl,S.zs d⟩,trivial⟩
 | .while_ c b=>by rw [S.tree,zT,iV,iV,iV,zT];exact ⟨fun _=>rfl,E.z c,⟨fun _=>rfl,S.zs b⟩,trivial⟩
 | .ret a=>by rw [S.tree,zT,iV,iV];exact ⟨fun _=>rfl,E.z a,trivial⟩
 | .do_ a=>by rw [S.tree,zT,iV,iV];exact ⟨fun _=>rfl,E.z a,trivial⟩
 | .var s a=>by rw [S.tree,zT,iV,iV];exact ⟨fun _=>rfl,E.z a,trivial⟩
theorem S.zs:∀ l:List S,iV (S.trees l)
 | []=>trivial
 | a::l=>by rw [S.trees,iV];exact ⟨S.z a,S.zs l⟩
end
theorem W4 (l:List S):zT (bU l):=by rw [bU,zT];exact ⟨fun _=>rfl,S.zs l⟩
section
variable (p:Src) (names:List ae) (name:ae)
end
theorem Forms.wf {l:List T} {ls:List (List S)} (h:Forms l ls) {i:Nat} {t:T} (ht:l[i]?=some t):jO t/\zT t:=by
 have hi:=(bp ht).1;have hlen:=h.len;have hb:ls[i]?=some (ls[i]'aq):=fM _;obtain ⟨_,I⟩:=h.at_ i t _ ht hb;exact ⟨(RD t).1 (by rw [I];exact VJ _),(VP t).1 (by rw [I];exact W4 _)⟩
theorem Fa {σ:Type} (f:σ->Nat->T->List ae->σ) (t:T):∀ (l:List T) (a:Nat) (s:σ) (ls:List ae),iR f (l++[t]) a s ls=ny f t (a+aB l) (iR f l a s ls).1 (iR f l a s ls).2
 | [],a,s,ls=>by rw [List.nil_append,iR,iR,iR,aB,Nat.add_zero]
 | u::l,a,s,ls=>by rw [cons_append,iR,Fa f t l,iR,aB,fP]
theorem OZ {σ:Type} (f:σ->Nat->T->List ae->σ) {l:List T} {k:Nat} {t:T} (h:l[k]?=some t) (a:Nat) (s:σ) (ls:List ae) :
  iR f (l.take (k+1)) a s ls=ny f t (a+aB (l.take k)) (iR f (l.take k) a s ls).1 (iR f (l.take k) a s ls).2:=by
 have:l.take (k+1)=l.take k++[t]:=by rw [cm,h];rfl
 rw [this,Fa]
theorem DZ:∀ {l:List T} {n k:Nat} {t:T},l[k]?=some t->(bg n l)[k]?=some (((n+aB (l.take k):Nat)):Int)
 | u::l,n,0,t,h=>by simp [bg,aB]
 | u::l,n,k+1,t,h=>by
  have:=DZ (l:=l) (n:=n+aQ u) (k:=k) (t:=t) (by simpa using h);rw [bg,List.getElem?_cons_succ,this,List.take_succ_cons,aB,fP]
 | [],n,k,t,h=>by simp at h
theorem uE {l:List T} {k:Nat} {t:T} (h:l[k]?=some t):aB (l.take k)+aQ t<=aB l:=by
 have L:l.take (k+1)=l.take k++[t]:=by rw [cm,h];rfl
 have I:aB l=aB (l.take (k+1))+aB (l.drop (k+1)):=by rw [<-gZ,List.take_append_drop]
 rw [L,gZ,aB,aB] at I;omega
theorem Qe {l:List T} {k:Nat} {t:T} (h:l[k]?=some t):aB (l.take (k+1))=aB (l.take k)+aQ t:=by
 have L:l.take (k+1)=l.take k++[t]:=by rw [cm,h];rfl
 rw [L,gZ,aB,aB,Nat.add_zero]
theorem Qp:∀ (N:Nat) (t:T),aQ t<=N->(zF t).length<=aQ t:=by
 intro N
 induction N with
 | zero=>intro t h;have:=lr t;omega
 | succ N ih =>
  intro t h
  have key:∀ l:List T,aB l<=N->(nK l).length<=aB l:=by
   intro l
   induction l with
   | nil=>intro _;simp [nK]
   | cons u l ih2 =>
    intro h;rw [aB] at h;have:=ih u aq;have:=ih2 aq;rw [nK,aU,aB];omega
  rw [eA] at h |-;have:=key t.kids aq;rw [Qo,aU];split <;> simp <;> omega
theorem En (l:List T):(nK l).length<=aB l:=by
 induction l with
 | nil=>simp [nK]
 | cons u l ih =>
  have:=Qp _ u (aD _);rw [nK,aU,aB];omega
theorem oN {α:Type} {f:α->Bool} {l:List α} {k:Nat} {x:α} (hk:l[k]?=some x) (h:f x=true) (aY:(l.take k).all (fun y=>!f y)=true):dV f l=(k:Int):=by
 have ak:k < l.length:=by
  rcases Nat.lt_or_ge k l.length with L | L
  ·exact L
  ·rw [List.getElem?_eq_none L] at hk;cases hk
 have hx:l[k]=x:=by rw [fM ak] at hk;exact Cu hk
 have:l.findIdx? f=some k:=by
  rw [List.findIdx?_eq_some_iff_getElem];refine ⟨ak,by rw [hx];exact h,fun j hj=>?_⟩;rw [gK] at aY;have:=aY l[j] (by rw [List.mem_take_iff_getElem];exact ⟨j,by omega,rfl⟩);simpa using this
 unfold dV;rw [this]
theorem lZ {α:Type} {f:α->Bool} {l:List α} (aY:l.all (fun y=>!f y)=true):dV f l = -1:=by
 have:l.findIdx? f=none:=by
  rw [List.findIdx?_eq_none_iff];intro x hx;rw [gK] at aY;simpa using aY x hx
 unfold dV;rw [this]
theorem oh {α:Type} {f:α->Bool} {l:List α} {k:Nat} {x:α} (hk:l[k]?=some x):(l.take (k+1)).all (fun y=>!f y)=((l.take k).all (fun y=>!f y)&&!f x):=by
 rw [cm,hk,List.all_append];simp
theorem DC {α:Type} (f:α->Bool) (l:List α):decide ((0:Int)<=dV f l)=l.any f:=by
 cases h:l.any f with
 | false =>
  rw [lZ (by rw [any_eq_false] at h;rw [gK];intro x hx;simpa using h x hx)];rfl
 | true =>
  unfold dV
  cases I:l.findIdx? f with
  | some i=>simp
  | none =>
   rw [List.findIdx?_eq_none_iff] at I;rw [oY] at h;obtain ⟨x,hx,h3⟩:=h;have:=I x hx;simp [h3] at this
section
variable (fr to:ae)
end
def NL (b:Int) (n:Nd):Nd:=⟨n.kind,n.at_,n.n,n.s,n.kids.map (·+b)⟩
theorem BV (b:Nat):∀ (l:List T) (a:Nat),bg (a+b) l=(bg a l).map (·+(b:Int))
 | [],a=>rfl
 | t::l,a=>by
  rw [bg,bg,List.map_cons,<-BV b l (a+aQ t),show a+b+aQ t=a+aQ t+b by omega]
  congr 1
mutual
theorem O1 (b:Nat):∀ (t:T) (a:Nat),fS (a+b) t=(fS a t).map (NL (b:Int))
 | .mk n l,a=>by
  rw [fS,fS,List.map_cons,show a+b+1=a+1+b by omega,uS b l (a+1),BV b l (a+1)];rfl
theorem uS (b:Nat):∀ (l:List T) (a:Nat),bO (a+b) l=(bO a l).map (NL (b:Int))
 | [],a=>by rw [bO,bO];rfl
 | t::l,a=>by rw [bO,bO,iL,O1 b t a,show a+b+aQ t=a+aQ t+b by omega,uS b l (a+aQ t)]
end
def jD:Src:=⟨[],[],[],[]⟩
def eK:Nat->List Fn->List T->List Fn
 | a,f::fs,t::ls=>⟨f.name,f.params,(a:Nat)⟩::eK (a+aQ t) fs ls
 | _,_,_=>[]
theorem vw (f:Fn) (t:T):∀ (fs:List Fn) (ls:List T) (a:Nat),fs.length=ls.length->eK a (fs++[f]) (ls++[t])=eK a fs ls++[⟨f.name,f.params,((a+aB ls:Nat):Int)⟩]
 | [],[],a,_=>by simp [eK,aB]
 | [],_::_,a,h=>by simp at h
 | _::_,[],a,h=>by simp at h
 | g::fs,u::ls,a,h=>by
  have:=vw f t fs ls (a+aQ u) (by simpa using h);rw [cons_append,cons_append,eK,this,eK,aB,fP];rfl
theorem qD:∀ (fs:List Fn) (ls:List T) (a:Nat),fs.length=ls.length->(eK a fs ls).length=fs.length
 | [],[],a,_=>rfl
 | [],_::_,a,h=>by simp at h
 | _::_,[],a,h=>by simp at h
 | g::fs,u::ls,a,h=>by rw [eK,List.length_cons,List.length_cons,qD fs ls _ (by simpa using h)]
theorem BU {w:Fn->Nat} (hw:∀ (f:Fn) (b:Int),w ⟨f.name,f.params,b⟩=w f):∀ (fs:List Fn) (ls:List T) (a:Nat),fs.length=ls.length->bj w (eK a fs ls)=bj w fs
 | [],[],a,_=>rfl
 | [],_::_,a,h=>by simp at h
 | _::_,[],a,h=>by simp at h
 | g::fs,u::ls,a,h=>by rw [eK,bj,bj,hw,BU hw fs ls _ (by simpa using h)]
theorem Sa {w:Nd->Nat} (hw:∀ (n:Nd) (b:Int),w (NL b n)=w n) (l:List T) (a:Nat):bj w (bO a l)=bj w (bO 0 l):=by
 have e:=uS a l 0;rw [cL] at e;rw [e]
 induction bO 0 l with
 | nil=>rfl
 | cons n r ih=>rw [List.map_cons,bj,bj,hw,ih]
def zr (gs:List ae) (sR:List Ar) (fs:List Fn) (ls:List T):Src:=⟨gs,sR,eK 0 fs ls,bO 0 ls⟩
def mh (a b:Src) (x y:List T):Src:=zr (a.globals++b.globals) (a.arrays++b.arrays) (a.fns++b.fns) (x++y)
theorem Hy {a b:Src} {x y:List T} (ha:dU a x) (hb:dU b y):(mh a b x y).nodes=a.nodes++b.nodes.map (NL ((aB x:Nat):Int)):=by
 have e:=uS (aB x) y 0;rw [<-dC.all hb.st hb.len] at e;show bO 0 (x++y)=_;rw [kz,e,<-dC.all ha.st ha.len]
theorem CT {a b:Src} {x y:List T} (ha:dU a x) (hb:dU b y):df (mh a b x y)=df a+df b:=by
 have L:=eT.len ha.fns;have I:=eT.len hb.fns;have e1:bj (fun f:Fn=>f.name.length+wS f.params+1) (mh a b x y).fns=bj (fun f:Fn=>f.name.length+wS f.params+1) (a.fns++b.fns):=BU (fun f b=>rfl) _ _ 0 (by simp [L,I]);have e2:=Sa (w:=fun n:Nd=>n.s.length+n.kids.length+1) (fun n b=>by simp [NL]) y (0+aB x);unfold df;rw [e1];show wS (a.globals++b.globals)+bj _ (a.arrays++b.arrays)+_+bj _ (bO 0 (x++y))=_;rw [kz,pX,pX,pX,e2,<-dC.all hb.st hb.len,<-dC.all ha.st ha.len];unfold wS;rw [pX];omega
theorem Ku {a b:Src} {x y:List T} (ha:dU a x) (hb:dU b y) (na:qm a) (nb:qm b):qm (mh a b x y):=by
 refine ⟨fun z hz=>?_,fun n hn=>?_⟩
 ·rcases oI hz with h | h
  ·exact na.arrays z h
  ·exact nb.arrays z h
 ·rw [Hy ha hb] at hn
  rcases oI hn with h | h
  ·exact na.nodes n h
  ·obtain ⟨m,hm,rfl⟩:=qX.1 h;exact nb.nodes m hm
def pO (a b:Src):Src × Int :=
 if (fI a&&fI b)=true then (if ((bE b).any fun s=>(bE a).contains s)=true then (jD,2) else match j0 a.nodes a.fns 0 [],j0 b.nodes b.fns 0 [] with
  | some (x,_),some (y,_)=>if tj (mh a b x y)=true then (mh a b x y,0) else (jD,3)
  | _,_=>(jD,3)) else (jD,1)
theorem U4 (a b:Src):df (pO a b).1<=df a+df b:=by
 have h0:df jD=0:=rfl;unfold pO
 by_cases hf:(fI a&&fI b)=true
 ·rw [ab hf];rw [aH] at hf;obtain ⟨x,hx⟩:=lA hf.1;obtain ⟨y,hy⟩:=lA hf.2;split
  ·show df jD<=_;omega
  rw [hx.Bg,hy.Bg];simp only;split
  ·show df (mh a b x y)<=_;rw [CT hx hy];exact aD _
  ·show df jD<=_;omega
 ·rw [M hf];show df jD<=_;omega
end Go.Im
