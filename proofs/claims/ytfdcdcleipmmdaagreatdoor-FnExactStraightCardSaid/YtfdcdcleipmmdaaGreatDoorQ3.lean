/- Part 3 of proofs that are told in their last texts. -/
import Derived.Test.YtfdcdcleipmmdaaGreatDoorQ2
open List (any_eq_false foldl_cons length_cons mem_append mem_cons_self mem_singleton nodup_cons pairwise_cons)
set_option linter.unusedVariables false
set_option linter.unusedSimpArgs false
set_option maxRecDepth 100000
namespace Go.Im
open Go.Xp Go.Sp
def pV:ah:=[103,101,116]
def pW:ah:=[112,117,116]
def cD:ah:=[115,105,122,101]
def fA:ah:=[109,97,105,110]
def mY (s:ah):Bool:=(s==pV || s==pW) || s==cD
def cr {α:Type} (f:α->Bool) (l:List α):Int:=match l.findIdx? f with | some i=>(i:Int) | none => -1
def bE (p:Src) (s:ah):Int:=cr (fun f:Fn=>f.name==s) p.fns
def Cn (p:Src) (s:ah):Int:=cr (fun a:Ar=>a.name==s) p.arrays
def fb (p:Src):List ah:=p.arrays.map fun a:Ar=>a.name
def iO (p:Src):List ah:=p.fns.map fun f:Fn=>f.name
def cL (p:Src):List ah:=(p.globals++fb p)++iO p
def mZ (t:T):Nd:=match t.kids with | k::_=>k.n | []=>⟨0,0,0,[],[]⟩
def cS (t:T):Bool:=(t.n.kind==4&&t.n.s==cD)&&(t.kids.length==1)
def mw (p:Src) (i:Nat):Nat:=match p.fns[i]? with | some f=>f.params.length | none=>0
def mi (p:Src) (s:ah):Int:=if s=pV then 0 else if s=pW\/s=cD then 1 else match p.fns.findIdx? (fun f:Fn=>f.name==s) with | some i=>(mw p i:Int) | none => -1
def fJ (p:Src) (k:Nd) (ls:List ah):Bool:=(k.kind != 2 || decide (Cn p k.s < 0)) || ls.contains k.s
def dX (p:Src) (t:T) (ls:List ah):Int :=
 if cS t=true then (if fJ p (mZ t) ls=true then 24 else 0)
 else if mi p t.n.s = -1 then 22 else if mi p t.n.s=(t.kids.length:Int) then 0 else 23
def bP (p:Src) (t:T) (ls:List ah):Int :=
 if t.n.kind=13 then (if ls.contains t.n.s=true then 21 else if ls.length>=40 then 26 else 0)
 else if t.n.kind=2\/t.n.kind=7 then (if ls.contains t.n.s=false/\p.globals.contains t.n.s=false then 22 else 0)
 else if t.n.kind=3\/t.n.kind=8 then (if ls.contains t.n.s=true\/Cn p t.n.s < 0 then 24 else 0)
 else if t.n.kind=4 then dX p t ls
 else 0
structure CS where
 code:Int
 place:Int
 skip:Int
def cE (p:Src) (c:CS) (a:Nat) (t:T) (ls:List ah):CS :=
 if c.code≠0\/(a:Int)=c.skip then c
 else ⟨bP p t ls,if bP p t ls≠0 then t.n.at_ else c.place,if cS t=true then (if (mZ t).kind≠2 then -1 else ((a+1:Nat):Int)) else c.skip⟩
mutual
def gS {σ:Type} (f:σ->Nat->T->List ah->σ):T->Nat->σ->List ah->σ × List ah
 | .mk n l,a,s,ls=>((dw f l (a+1) (f s a (.mk n l) ls) ls).1,if n.kind=13 then (dw f l (a+1) (f s a (.mk n l) ls) ls).2++[n.s] else (dw f l (a+1) (f s a (.mk n l) ls) ls).2)
def dw {σ:Type} (f:σ->Nat->T->List ah->σ):List T->Nat->σ->List ah->σ × List ah
 | [],_,s,ls=>(s,ls)
 | t::r,a,s,ls=>dw f r (a+aO t) (gS f t a s ls).1 (gS f t a s ls).2
end
theorem v8 {σ:Type} (f:σ->Nat->T->List ah->σ) (t:T) (a:Nat) (s:σ) (ls:List ah) :
  gS f t a s ls=((dw f t.kids (a+1) (f s a t ls) ls).1,if t.n.kind=13 then (dw f t.kids (a+1) (f s a t ls) ls).2++[t.n.s] else (dw f t.kids (a+1) (f s a t ls) ls).2):=by
 cases t;rw [gS];rfl
def oP (l:List ah) (k:Nat):Bool:=match l[k]? with | some s=>(l.take k).contains s | none=>false
def vH (l:List ah):Bool:=(List.range l.length).any (oP l)
def fY (p:Src) (f:Fn) (t:T) (a:Nat):Int × Int :=
 if vH f.params=true then (21,0) else ((gS (cE p) t a ⟨0,0,-1⟩ f.params).1.code,(gS (cE p) t a ⟨0,0,-1⟩ f.params).1.place)
def kv (l:List ah) (k:Nat):Bool:=match l[k]? with | some s=>mY s || (l.take k).contains s | none=>false
def en (l:List ah):Bool:=(List.range l.length).any (kv l)
def dY (l:List Ar):Int:=l.foldl (fun n a=>n+a.size) 0
def jt (p:Src):Bool:=p.arrays.any (fun a=>a.size==0) || ((((decide (p.fns.length > 40) || decide (p.globals.length > 29)) || decide (dY p.arrays > 8000))) || p.fns.any fun f=>decide (f.params.length > 40))
def nA (f:Fn):Bool:=f.name==fA&&f.params.length==0
def fZ (p:Src):List Fn->List T->Nat->Int × Int
 | f::r,t::l,a=>if (fY p f t a).1≠0 then fY p f t a else fZ p r l (a+aO t)
 | _,_,_=>(0,0)
def ED (p:Src) (l:List T):Int × Int :=
 if en (cL p)=true then (21,0) else if jt p=true then (26,0) else if p.fns.any nA=false then (25,0) else fZ p p.fns l 0
def cU (p:Src):Bool:=fI p&&(match jE p.nodes p.fns 0 [] with | some (l,_)=>decide ((ED p l).1=0) | none=>false)
structure SS where
 ls:List ah
 code:Int
 at_:Int
def SS.fail (c:SS) (k a:Int):SS:=if c.code=0 then ⟨c.ls,k,a⟩ else c
def fh (c:SS) (n:Nd) (k want:Nat):SS:=if k≠want then c.fail 23 n.at_ else c
def gm (p:Src) (c:SS) (t:T):SS × Bool :=
 if t.n.s=pV then (fh c t.n t.kids.length 0,true)
 else if t.n.s=pW then (fh c t.n t.kids.length 1,true)
 else if t.n.s=cD then (fh (if t.kids.length=1/\fJ p (mZ t) c.ls=true then c.fail 24 t.n.at_ else c) t.n t.kids.length 1,false)
 else match p.fns.findIdx? (fun f:Fn=>f.name==t.n.s) with
  | none=>(c.fail 22 t.n.at_,false)
  | some i=>(fh c t.n t.kids.length (mw p i),true)
def jU (p:Src) (c:SS) (t:T):SS × Bool :=
 if t.n.kind=2\/t.n.kind=7 then (if c.ls.contains t.n.s=false/\p.globals.contains t.n.s=false then c.fail 22 t.n.at_ else c,true)
 else if t.n.kind=3\/t.n.kind=8 then (if c.ls.contains t.n.s=true\/Cn p t.n.s < 0 then c.fail 24 t.n.at_ else c,true)
 else if t.n.kind=4 then gm p c t
 else (c,true)
def mC (c:SS) (n:Nd):SS :=
 if n.kind≠13 then c
 else if c.ls.contains n.s=true then ⟨(c.fail 21 n.at_).ls++[n.s],(c.fail 21 n.at_).code,(c.fail 21 n.at_).at_⟩
 else if c.ls.length=40 then ⟨(c.fail 26 n.at_).ls++[n.s],(c.fail 26 n.at_).code,(c.fail 26 n.at_).at_⟩
 else ⟨c.ls++[n.s],c.code,c.at_⟩
mutual
def nZ (p:Src):T->SS->SS
 | .mk n l,c=>mC (if (jU p c (.mk n l)).2=true then ja p l (jU p c (.mk n l)).1 else (jU p c (.mk n l)).1) n
def ja (p:Src):List T->SS->SS
 | [],c=>c
 | t::r,c=>ja p r (nZ p t c)
end
theorem wA (p:Src) (t:T) (c:SS):nZ p t c=mC (if (jU p c t).2=true then ja p t.kids (jU p c t).1 else (jU p c t).1) t.n:=by cases t;rw [nZ];rfl
mutual
def vu:T->Prop
 | .mk n l=>n.kind≠13/\lZ l
def lZ:List T->Prop
 | []=>True
 | t::r=>vu t/\lZ r
end
mutual
def fT:T->Prop
 | .mk n l=>(n.kind=13->lZ l)/\(n.kind=2->l=[])/\dp l
def dp:List T->Prop
 | []=>True
 | t::r=>fT t/\dp r
end
mutual
theorem Yj:∀ t:T,vu (er t)↔vu t
 | .mk n l=>by rw [er,vu,vu,HM l]
theorem HM:∀ l:List T,lZ (aQ l)↔lZ l
 | []=>by rw [aQ]
 | t::r=>by rw [aQ,lZ,lZ,Yj t,HM r]
end
theorem TR {l:List T}:aQ l=[]↔l=[]:=by
 cases l with
 | nil=>rw [aQ]
 | cons t r=>rw [aQ];simp
mutual
theorem Tq:∀ t:T,fT (er t)↔fT t
 | .mk n l=>by rw [er,fT,fT,HM l,PM l,TR]
theorem PM:∀ l:List T,dp (aQ l)↔dp l
 | []=>by rw [aQ]
 | t::r=>by rw [aQ,dp,dp,Tq t,PM r]
end
mutual
theorem E.nv:∀ a:E,vu a.tree
 | .num n=>by rw [E.tree,vu];exact ⟨by simp,trivial⟩
 | .name s=>by rw [E.tree,vu];exact ⟨by simp,trivial⟩
 | .at_ s a=>by rw [E.tree,vu,lZ,lZ];exact ⟨by simp,E.nv a,trivial⟩
 | .call s l=>by rw [E.tree,vu];exact ⟨by simp,E.Zu l⟩
 | .un s a=>by rw [E.tree,vu,lZ,lZ];exact ⟨by simp,E.nv a,trivial⟩
 | .bin s a b=>by rw [E.tree,vu,lZ,lZ,lZ];exact ⟨by simp,E.nv a,E.nv b,trivial⟩
theorem E.Zu:∀ l:List E,lZ (E.trees l)
 | []=>trivial
 | a::l=>by rw [E.trees,lZ];exact ⟨E.nv a,E.Zu l⟩
end
mutual
theorem E.wf:∀ a:E,fT a.tree
 | .num n=>by rw [E.tree,fT];exact ⟨fun h=>absurd h (by simp),fun _=>rfl,trivial⟩
 | .name s=>by rw [E.tree,fT];exact ⟨fun h=>absurd h (by simp),fun _=>rfl,trivial⟩
 | .at_ s a=>by rw [E.tree,fT,dp,dp];exact ⟨fun h=>absurd h (by simp),fun h=>absurd h (by simp),E.wf a,trivial⟩
 | .call s l=>by rw [E.tree,fT];exact ⟨fun h=>absurd h (by simp),fun h=>absurd h (by simp),E.Dl l⟩
 | .un s a=>by rw [E.tree,fT,dp,dp];exact ⟨fun h=>absurd h (by simp),fun h=>absurd h (by simp),E.wf a,trivial⟩
 | .bin s a b=>by rw [E.tree,fT,dp,dp,dp];exact ⟨fun h=>absurd h (by simp),fun h=>absurd h (by simp),E.wf a,E.wf b,trivial⟩
theorem E.Dl:∀ l:List E,dp (E.trees l)
 | []=>trivial
 | a::l=>by rw [E.trees,dp];exact ⟨E.wf a,E.Dl l⟩
end
mutual
theorem S.wf:∀ a:S,fT a.tree
 | .set s a=>by rw [S.tree,fT,dp,dp];exact ⟨fun h=>absurd h (by simp),fun h=>absurd h (by simp),E.wf a,trivial⟩
 | .put s a b=>by rw [S.tree,fT,dp,dp,dp];exact ⟨fun h=>absurd h (by simp),fun h=>absurd h (by simp),E.wf a,E.wf b,trivial⟩
 | .if1 c b=>by rw [S.tree,fT,dp,dp,dp,fT];exact ⟨fun h=>absurd h (by simp),fun h=>absurd h (by simp),E.wf c,⟨fun h=>absurd h (by simp),fun h=>absurd h (by simp),S.Dl b⟩,trivial⟩
 | .if2 c b d=>by rw [S.tree,fT,dp,dp,dp,dp,fT,fT];exact ⟨fun h=>absurd h (by simp),fun h=>absurd h (by simp),E.wf c,⟨fun h=>absurd h (by simp),fun h=>absurd h (by simp),S.Dl b⟩,⟨fun h=>absurd h (by simp),fun h=>absurd h (by simp),S.Dl d⟩,trivial⟩
 | .while_ c b=>by rw [S.tree,fT,dp,dp,dp,fT];exact ⟨fun h=>absurd h (by simp),fun h=>absurd h (by simp),E.wf c,⟨fun h=>absurd h (by simp),fun h=>absurd h (by simp),S.Dl b⟩,trivial⟩
 | .ret a=>by rw [S.tree,fT,dp,dp];exact ⟨fun h=>absurd h (by simp),fun h=>absurd h (by simp),E.wf a,trivial⟩
 | .do_ a=>by rw [S.tree,fT,dp,dp];exact ⟨fun h=>absurd h (by simp),fun h=>absurd h (by simp),E.wf a,trivial⟩
 | .var s a=>by rw [S.tree,fT,dp,dp,lZ,lZ];exact ⟨fun _=>⟨E.nv a,trivial⟩,fun h=>absurd h (by simp),E.wf a,trivial⟩
theorem S.Dl:∀ l:List S,dp (S.trees l)
 | []=>trivial
 | a::l=>by rw [S.trees,dp];exact ⟨S.wf a,S.Dl l⟩
end
theorem Xl (l:List S):fT (bO l):=by
 rw [bO,fT];exact ⟨fun h=>absurd h (by simp),fun h=>absurd h (by simp),S.Dl l⟩
theorem SS.oQ (c:SS) (k a:Int):(c.fail k a).ls=c.ls:=by unfold SS.fail;split <;> rfl
theorem xR (c:SS) (n:Nd) (k w:Nat):(fh c n k w).ls=c.ls:=by unfold fh;split;(· exact c.oQ _ _);rfl
theorem wI (p:Src) (c:SS) (t:T):(jU p c t).1.ls=c.ls:=by
 unfold jU gm;split
 ·simp only;split;(· exact c.oQ _ _);rfl
 split
 ·simp only;split;(· exact c.oQ _ _);rfl
 split
 ·split
  ·exact xR _ _ _ _
  split
  ·exact xR _ _ _ _
  split
  ·simp only;rw [xR];split;(· exact c.oQ _ _);rfl
  split
  ·exact c.oQ _ _
  ·exact xR _ _ _ _
 ·rfl
mutual
theorem Yh (p:Src):∀ (t:T),vu t->∀ c,(nZ p t c).ls=c.ls
 | .mk n l,h,c=>by
  rw [vu] at h;rw [nZ,mC,ae h.1];split
  ·rw [HK p l h.2,wI]
  ·exact wI _ _ _
theorem HK (p:Src):∀ (l:List T),lZ l->∀ c,(ja p l c).ls=c.ls
 | [],_,c=>by rw [ja]
 | t::r,h,c=>by
  rw [lZ] at h;rw [ja,HK p r h.2,Yh p t h.1]
end
theorem SS.zG {c:SS} (h:c.code≠0) (k a:Int):c.fail k a=c:=by unfold SS.fail;rw [ab h]
theorem SS.qv (c:SS) {k:Int} (hk:k≠0) (a:Int):(c.fail k a).code≠0:=by
 unfold SS.fail;split
 ·exact hk
 ·assumption
theorem RU {c:SS} (h:c.code≠0) (n:Nd) (k w:Nat):fh c n k w=c:=by unfold fh;rw [SS.zG h];split <;> rfl
theorem Uy (p:Src) {c:SS} (h:c.code≠0) (t:T):(jU p c t).1=c:=by
 unfold jU gm;simp only [SS.zG h,RU h,ite_self];split
 ·rfl
 split
 ·rfl
 split
 ·split
  ·rfl
  split
  ·rfl
  split
  ·rfl
  split <;> rfl
 ·rfl
theorem z7 {c:SS} (h:c.code≠0) (n:Nd):(mC c n).code≠0:=by
 unfold mC;rw [SS.zG h,SS.zG h];split
 ·exact h
 split
 ·exact h
 split <;> exact h
mutual
theorem S7 (p:Src):∀ (t:T) (c:SS),c.code≠0->(nZ p t c).code≠0
 | .mk n l,c,h=>by
  rw [nZ];refine z7 ?_ n;rw [Uy p h];split
  ·exact wB p l c h
  ·exact h
theorem wB (p:Src):∀ (l:List T) (c:SS),c.code≠0->(ja p l c).code≠0
 | [],c,h=>by rw [ja];exact h
 | t::r,c,h=>by rw [ja];exact wB p r _ (S7 p t c h)
end
theorem RA (p:Src) {c:CS} (h:c.code≠0) (a:Nat) (t:T) (ls:List ah):cE p c a t ls=c:=by unfold cE;rw [ae (.inl h)]
mutual
theorem XL (p:Src):∀ (t:T) (a:Nat) (c:CS) (ls:List ah),c.code≠0->(gS (cE p) t a c ls).1=c
 | .mk n l,a,c,ls,h=>by rw [gS,RA p h];exact wa p l _ c ls h
theorem wa (p:Src):∀ (l:List T) (a:Nat) (c:CS) (ls:List ah),c.code≠0->(dw (cE p) l a c ls).1=c
 | [],a,c,ls,h=>by rw [dw]
 | t::r,a,c,ls,h=>by
  have I:=XL p t a c ls h;rw [dw,I];exact wa p r _ c _ h
end
def Et (a:Nat) (r:CS × List ah) (q:SS):Prop:=(r.1.code=0/\q.code=0/\r.2=q.ls/\r.1.skip < (a:Int)/\q.ls.length<=40)\/(r.1.code≠0/\q.code≠0)
theorem Rw (p:Src) (t:T) (Hs:t.n.kind=13->lZ t.kids) (pK:∀ k∈t.kids,k.n.kind=2->k.kids=[])
  (ih:∀ (a:Nat) (r:CS) (q:SS),r.code=0->q.code=0->r.skip < (a:Int)->q.ls.length<=40->Et (a+aC t.kids) (dw (cE p) t.kids a r q.ls) (ja p t.kids q))
  (a:Nat) (r:CS) (q:SS) (hr:r.code=0) (hq:q.code=0) (hs:r.skip < (a:Int)) (hl:q.ls.length<=40):Et (a+aO t) (gS (cE p) t a r q.ls) (nZ p t q):=by
 have cj:¬ (r.code≠0\/(a:Int)=r.skip):=by
  rintro (h | h)
  ·exact h hr
  ·omega
 obtain ⟨pl,bI⟩:∃ pl,cE p r a t q.ls=⟨bP p t q.ls,pl,if cS t=true then (if (mZ t).kind≠2 then -1 else ((a+1:Nat):Int)) else r.skip⟩:=by
  unfold cE;rw [ab cj];exact ⟨_,rfl⟩
 have cB:=eO t
 have bad:∀ x:SS,bP p t q.ls≠0->x.code≠0->Et (a+aO t) (gS (cE p) t a r q.ls) x:=fun x I F=>by
  refine .inr ⟨?_,F⟩;rw [v8,bI];simp only;rw [wa p t.kids _ _ _ I];exact I
 have go:bP p t q.ls=0->cS t=false->t.n.kind≠13->jU p q t=(q,true)->Et (a+aO t) (gS (cE p) t a r q.ls) (nZ p t q):=fun I F h3 h4=>by
  have:=ih (a+1) ⟨0,pl,r.skip⟩ q rfl hq (by simp only;omega) hl;rw [v8,wA,h4,bI,I,F,ab h3,mC,ae h3];simp only [if_true,Bool.false_eq_true,if_false];rw [show a+aO t=a+1+aC t.kids by omega];exact this
 by_cases fu:t.n.kind=13
 ·have hnv:=Hs fu
  have hz:cS t=false:=by unfold cS;rw [fu];rfl
  have ox:jU p q t=(q,true):=by unfold jU;rw [ab aq,ab aq,ab aq]
  have mu:(ja p t.kids q).ls=q.ls:=HK p t.kids hnv q
  have sE:bP p t q.ls=if q.ls.contains t.n.s=true then 21 else if q.ls.length>=40 then 26 else 0:=by
   unfold bP;rw [ae fu]
  rw [wA,ox];simp only [if_true]
  by_cases hc:q.ls.contains t.n.s=true
  ·refine bad _ (by rw [sE,ae hc];decide) ?_;rw [mC,ab (by simpa using fu),mu,ae hc];exact SS.qv _ aw _
  by_cases h40:q.ls.length>=40
  ·refine bad _ (by rw [sE,ab hc,ae h40];decide) ?_;rw [mC,ab (by simpa using fu),mu,ab hc,ae aq];exact SS.qv _ aw _
  have h0:bP p t q.ls=0:=by rw [sE,ab hc,ab h40]
  have:=ih (a+1) ⟨0,pl,r.skip⟩ q rfl hq (by simp only;omega) hl;rw [mC,ab (by simpa using fu),mu,ab hc,ab aq,v8,bI,h0,hz,ae fu];simp only [Bool.false_eq_true,if_false];rw [show a+aO t=a+1+aC t.kids by omega]
  rcases this with ⟨k1,k2,k3,k4,k5⟩ | ⟨k1,k2⟩
  ·refine .inl ⟨k1,k2,?_,k4,?_⟩
   ·show _++_=_++_;rw [k3,mu]
   ·show (q.ls++[t.n.s]).length<=40;rw [aZ,List.length_singleton];omega
  ·exact .inr ⟨k1,k2⟩
 by_cases F:t.n.kind=2\/t.n.kind=7
 ·have hz:cS t=false:=by
   unfold cS;rw [show (t.n.kind==4)=false by simp;omega];rfl
  by_cases hc:q.ls.contains t.n.s=false/\p.globals.contains t.n.s=false
  ·refine bad _ (by unfold bP;rw [ab fu,ae F,ae hc];decide) ?_
   have ox:jU p q t=(q.fail 22 t.n.at_,true):=by unfold jU;rw [ae F,ae hc]
   rw [wA,ox];refine z7 ?_ t.n;simp only [if_true];exact wB p t.kids _ (SS.qv _ aw _)
  ·exact go (by unfold bP;rw [ab fu,ae F,ab hc]) hz fu (by unfold jU;rw [ae F,ab hc])
 by_cases h3:t.n.kind=3\/t.n.kind=8
 ·have hz:cS t=false:=by
   unfold cS;rw [show (t.n.kind==4)=false by simp;omega];rfl
  by_cases hc:q.ls.contains t.n.s=true\/Cn p t.n.s < 0
  ·refine bad _ (by unfold bP;rw [ab fu,ab F,ae h3,ae hc];decide) ?_
   have ox:jU p q t=(q.fail 24 t.n.at_,true):=by unfold jU;rw [ab F,ae h3,ae hc]
   rw [wA,ox];refine z7 ?_ t.n;simp only [if_true];exact wB p t.kids _ (SS.qv _ aw _)
  ·exact go (by unfold bP;rw [ab fu,ab F,ae h3,ab hc]) hz fu (by unfold jU;rw [ab F,ae h3,ab hc])
 by_cases h4:t.n.kind=4
 ·have sE:bP p t q.ls=dX p t q.ls:=by unfold bP;rw [ab fu,ab F,ab h3,ae h4]
  have ox:jU p q t=gm p q t:=by unfold jU;rw [ab F,ab h3,ae h4]
  have fin:∀ x:SS × Bool,gm p q t=x->bP p t q.ls≠0->x.1.code≠0->Et (a+aO t) (gS (cE p) t a r q.ls) (nZ p t q):=fun x hx I F=>by
   refine bad _ I ?_;rw [wA,ox,hx];refine z7 ?_ t.n;split
   ·exact wB p t.kids _ F
   ·exact F
  have LC:cS t=((t.n.s==cD)&&(t.kids.length==1)):=by unfold cS;rw [h4];rfl
  have some_:∀ w:Nat,t.n.s≠cD->mi p t.n.s=(w:Int)->gm p q t=(fh q t.n t.kids.length w,true)->Et (a+aO t) (gS (cE p) t a r q.ls) (nZ p t q):=fun w e1 e2 e3=>by
   have hz:cS t=false:=by rw [LC,show (t.n.s==cD)=false by simpa using e1];rfl
   have yI:dX p t q.ls=if (w:Int)=(t.kids.length:Int) then 0 else 23:=by
    unfold dX;rw [hz,ab aw,e2,ab aq]
   by_cases hk:t.kids.length=w
   ·refine go (by rw [sE,yI,ae aq]) hz fu ?_;rw [ox,e3,fh,ab (by simpa using hk)]
   ·refine fin _ e3 (by rw [sE,yI,ab aq];decide) ?_;rw [fh,ae hk];exact SS.qv _ aw _
  by_cases hg:t.n.s=pV
  ·exact some_ 0 (by rw [hg];decide) (by unfold mi;rw [ae hg];rfl) (by unfold gm;rw [ae hg])
  by_cases hp:t.n.s=pW
  ·exact some_ 1 (by rw [hp];decide) (by unfold mi;rw [ab hg,ae (.inl hp)];rfl) (by unfold gm;rw [ab hg,ae hp])
  by_cases hz:t.n.s=cD
  ·have fm:gm p q t=(fh (if t.kids.length=1/\fJ p (mZ t) q.ls=true then q.fail 24 t.n.at_ else q) t.n t.kids.length 1,false):=by
    unfold gm;rw [ab hg,ab hp,ae hz]
   by_cases hk:t.kids.length=1
   ·have gk:cS t=true:=by rw [LC,hz,hk];rfl
    have yI:dX p t q.ls=if fJ p (mZ t) q.ls=true then 24 else 0:=by unfold dX;rw [ae gk]
    by_cases hb:fJ p (mZ t) q.ls=true
    ·refine fin _ fm (by rw [sE,yI,ae hb];decide) ?_;rw [ae ⟨hk,hb⟩,fh,ab (by simpa using hk)];exact SS.qv _ aw _
    ·have ZW:gm p q t=(q,false):=by rw [fm,ab (fun h=>hb h.2),fh,ab (by simpa using hk)]
     rw [wA,ox,ZW,mC,ae fu];simp only [Bool.false_eq_true,if_false]
     have h0:bP p t q.ls=0:=by rw [sE,yI,ab hb]
     obtain ⟨k,mr⟩:∃ k,t.kids=[k]:=by
      match hl:t.kids,hk with
      | [k],_=>exact ⟨k,rfl⟩
     have AD:mZ t=k.n:=by unfold mZ;rw [mr]
     have sB:k.n.kind=2:=by
      have:fJ p k.n q.ls=false:=by rw [<-AD];simpa using hb
      unfold fJ at this;simp only [Bool.or_eq_false_iff] at this;simpa using this.1.1
     have eS:k.kids=[]:=pK k (by rw [mr];exact List.mem_singleton.2 rfl) sB
     have vk:aO k=1:=by rw [eO,eS,aC]
     have QE:∀ c:CS,((a+1:Nat):Int)=c.skip->cE p c (a+1) k q.ls=c:=fun c hc=>by unfold cE;rw [ae (.inr hc)]
     rw [v8,bI,h0,gk,ab fu,mr,AD];simp only [if_true,dw];rw [v8,eS];simp only [dw];rw [ab (by rw [sB];decide),QE _ rfl,ab (by rw [sB];decide)];refine .inl ⟨rfl,hq,rfl,?_,hl⟩;rw [cB,mr,aC,aC,vk];simp only;omega
   ·have wu:cS t=false:=by rw [LC,show (t.kids.length==1)=false by simpa using hk,Bool.and_false]
    refine fin _ fm ?_ ?_
    ·rw [sE];unfold dX;rw [wu,ab aw]
     have:mi p t.n.s=1:=by unfold mi;rw [ab hg,ae (.inr hz)]
     rw [this,ab aw,ab aq];decide
    ·rw [ab (fun h=>hk h.1),fh,ae hk];exact SS.qv _ aw _
  have fy:mi p t.n.s=match p.fns.findIdx? (fun f:Fn=>f.name==t.n.s) with | some i=>(mw p i:Int) | none => -1:=by
   unfold mi;rw [ab hg,ab (by rintro (h | h);(· exact hp h);exact hz h)]
  have fm:gm p q t=match p.fns.findIdx? (fun f:Fn=>f.name==t.n.s) with | none=>(q.fail 22 t.n.at_,false) | some i=>(fh q t.n t.kids.length (mw p i),true):=by
   unfold gm;rw [ab hg,ab hp,ab hz]
  cases hf:p.fns.findIdx? (fun f:Fn=>f.name==t.n.s) with
  | some i =>
   rw [hf] at fy fm;exact some_ (mw p i) hz fy fm
  | none =>
   rw [hf] at fy fm;refine fin _ fm ?_ (SS.qv _ aw _);rw [sE];unfold dX;rw [LC,show (t.n.s==cD)=false by simpa using hz,Bool.false_and,ab aw,fy];simp
 ·exact go (by unfold bP;rw [ab fu,ab F,ab h3,ab h4]) (by unfold cS;rw [show (t.n.kind==4)=false by simpa using h4];rfl) fu
   (by unfold jU;rw [ab F,ab h3,ab h4])
theorem Iy:∀ {l:List T},dp l->∀ k∈l,fT k
 | [],_,k,hk=>by cases hk
 | t::r,h,k,hk=>by
  rw [dp] at h
  rcases ei hk with rfl | hk
  ·exact h.1
  ·exact Iy h.2 k hk
mutual
theorem W4 (p:Src):∀ (t:T),fT t->∀ (a:Nat) (r:CS) (q:SS),r.code=0->q.code=0->r.skip < (a:Int)->q.ls.length<=40->Et (a+aO t) (gS (cE p) t a r q.ls) (nZ p t q)
 | .mk n l,hw=>by
  rw [fT] at hw;refine Rw p (.mk n l) hw.1 (fun k hk F=>?_) (W3 p l hw.2.2);have:=Iy hw.2.2 k hk;obtain ⟨m,j⟩:=k;rw [fT] at this;exact this.2.1 F
theorem W3 (p:Src):∀ (l:List T),dp l->∀ (a:Nat) (r:CS) (q:SS),r.code=0->q.code=0->r.skip < (a:Int)->q.ls.length<=40->Et (a+aC l) (dw (cE p) l a r q.ls) (ja p l q)
 | [],_,a,r,q,hr,hq,hs,hl=>by rw [dw,ja,aC];exact .inl ⟨hr,hq,rfl,by simpa using hs,hl⟩
 | t::l,hw,a,r,q,hr,hq,hs,hl=>by
  rw [dp] at hw;rw [dw,ja,aC]
  rcases W4 p t hw.1 a r q hr hq hs hl with ⟨k1,k2,k3,k4,k5⟩ | ⟨k1,k2⟩
  ·rw [k3];have:=W3 p l hw.2 (a+aO t) _ _ k1 k2 k4 k5;rw [gW] at this;exact this
  ·exact .inr ⟨by rw [wa p l _ _ _ k1];exact k1,wB p l _ k2⟩
end
def gT (c k:Int):Int:=if c=0 then k else c
def ni (a:Ar):Bool:=decide (a.size < 1) || decide (a.size > 8000)
def kx (p:Src):Bool:=match p.fns.findIdx? (fun f:Fn=>f.name==fA) with | none=>true | some i=>decide (mw p i > 0)
def uf (p:Src):Bool:=(decide (p.fns.length > 40) || decide (p.globals.length > 29)) || decide (dY p.arrays > 8000)
def rV (p:Src) (c:Int):Int :=
 if p.arrays.any ni=true then gT c 26
 else if kx p=true then gT (if (p.fns.any fun f=>decide (f.params.length > 40))=true then gT (if uf p=true then gT c 26 else c) 26 else (if uf p=true then gT c 26 else c)) 25
 else if (p.fns.any fun f=>decide (f.params.length > 40))=true then gT (if uf p=true then gT c 26 else c) 26 else (if uf p=true then gT c 26 else c)
def rf (f:Fn) (c:SS):SS:=⟨f.params,if vH f.params=true then gT c.code 21 else c.code,if vH f.params=true/\c.code=0 then 0 else c.at_⟩
def oe (p:Src):List Fn->List T->SS->SS
 | f::r,t::l,c=>oe p r l (if c.code=0 then nZ p t (rf f c) else c)
 | _,_,c=>c
def M8 (p:Src) (l:List T):SS:=oe p p.fns l ⟨[],rV p (if en (cL p)=true then 21 else 0),0⟩
theorem zI (p:Src):∀ (fs:List Fn) (l:List T) (c:SS),c.code≠0->(oe p fs l c).code≠0
 | f::r,t::l,c,h=>by rw [oe,ab h];exact zI p r l c h
 | [],_,c,h=>by rw [oe];(· exact h);intros;simp_all
 | f::r,[],c,h=>by rw [oe];(· exact h);intros;simp_all
theorem Vw (p:Src) (f:Fn) (t:T) (a:Nat) (c:SS) (hw:fT t) (hc:c.code=0) (hp:f.params.length<=40):(fY p f t a).1=0↔(nZ p t (rf f c)).code=0:=by
 unfold fY
 by_cases hd:vH f.params=true
 ·rw [ae hd]
  have:(rf f c).code≠0:=by unfold rf;rw [ae hd];unfold gT;rw [ae hc];show (21:Int)≠0;decide
  have F:=S7 p t _ this;constructor
  ·intro h;cases h
  ·intro h;exact absurd h F
 ·rw [ab hd]
  have hq:(rf f c).code=0:=by unfold rf;rw [ab hd];exact hc
  have I:=W4 p t hw a ⟨0,0,-1⟩ (rf f c) rfl hq (by show (-1:Int) < _;omega) hp;show (gS (cE p) t a ⟨0,0,-1⟩ (rf f c).ls).1.code=0↔_
  rcases I with ⟨k1,k2,_⟩ | ⟨k1,k2⟩
  ·exact ⟨fun _=>k2,fun _=>k1⟩
  ·exact ⟨fun h=>absurd h k1,fun h=>absurd h k2⟩
theorem JT (p:Src):∀ (fs:List Fn) (l:List T) (a:Nat) (c:SS),c.code=0->(∀ t∈l,fT t)->(∀ f∈fs,f.params.length<=40)->((fZ p fs l a).1=0↔(oe p fs l c).code=0)
 | f::r,t::l,a,c,hc,hw,hp=>by
  have I:=Vw p f t a c (hw t mem_cons_self) hc (hp f mem_cons_self);rw [fZ,oe,ae hc]
  by_cases h:(fY p f t a).1=0
  ·rw [ab (by simpa using h)];exact JT p r l _ _ (I.1 h) (fun u hu=>hw u (cV _ hu)) (fun g hg=>hp g (cV _ hg))
  ·rw [ae h]
   have F:(nZ p t (rf f c)).code≠0:=fun e=>h (I.2 e)
   exact ⟨fun e=>absurd e h,fun e=>absurd e (zI p r l _ F)⟩
 | [],_,a,c,hc,_,_=>by rw [fZ,oe];(· exact ⟨fun _=>hc,fun _=>rfl⟩);all_goals (intros;simp_all)
 | f::r,[],a,c,hc,_,_=>by rw [fZ,oe];(· exact ⟨fun _=>hc,fun _=>rfl⟩);all_goals (intros;simp_all)
theorem cells_from (l:List Ar):∀ n:Int,l.foldl (fun n a=>n+a.size) n=n+dY l:=by
 induction l with
 | nil=>intro n;simp [dY]
 | cons a l ih =>
  intro n;unfold dY;rw [foldl_cons,foldl_cons,ih,ih (0+a.size)];omega
theorem Lm (a:Ar) (l:List Ar):dY (a::l)=a.size+dY l:=by
 unfold dY;rw [foldl_cons,cells_from];unfold dY;omega
theorem Qa {l:List Ar} (h:∀ a∈l,0<=a.size):0<=dY l/\∀ a∈l,a.size<=dY l:=by
 induction l with
 | nil=>exact ⟨by simp [dY],fun a h=>by cases h⟩
 | cons b l ih =>
  obtain ⟨I,F⟩:=ih fun a ha=>h a (cV _ ha)
  have hb:=h b mem_cons_self;rw [Lm];refine ⟨by omega,fun a ha=>?_⟩
  rcases ei ha with rfl | ha
  ·omega
  ·have:=F a ha;omega
theorem IP {l:List ah} (h:en l=false) {i j:Nat} {s:ah} (hi:l[i]?=some s) (hj:l[j]?=some s):i=j:=by
 have key:∀ x y:Nat,x < y->l[x]?=some s->l[y]?=some s->False:=fun x y kH I F=>by
  have hy:=(bh F).1;unfold en at h;rw [any_eq_false] at h;have:=h y (List.mem_range.2 hy);unfold kv at this;rw [F] at this;simp only [Bool.or_eq_true,not_or] at this;apply this.2;rw [ej];rw [List.mem_take_iff_getElem];have hx:=(bh I);exact ⟨x,by have:=hx.1;omega,hx.2⟩
 rcases Nat.lt_trichotomy i j with I | I | I
 ·exact (key i j I hi hj).elim
 ·exact I
 ·exact (key j i I hj hi).elim
theorem HH {p:Src} (h:en (cL p)=false):p.fns.any nA=true↔kx p=false:=by
 have pF:∀ (i:Nat) f,p.fns[i]?=some f->(cL p)[(p.globals++fb p).length+i]?=some f.name:=fun i f hf=>by
  unfold cL;rw [nk aq,Nat.add_sub_cancel_left,iO,aV,hf];rfl
 unfold kx
 cases hf:p.fns.findIdx? (fun f:Fn=>f.name==fA) with
 | none =>
  rw [List.findIdx?_eq_none_iff] at hf;constructor
  ·intro I;obtain ⟨f,F,h3⟩:=p7.1 I;unfold nA at h3;have:=hf f F;rw [this] at h3;cases h3
  ·intro I;cases I
 | some i =>
  rw [List.findIdx?_eq_some_iff_getElem] at hf;obtain ⟨hi,I,F⟩:=hf
  have AA:p.fns[i]?=some p.fns[i]:=by simp [hi]
  simp only [mw,AA];constructor
  ·intro h3;obtain ⟨f,h4,h5⟩:=p7.1 h3;obtain ⟨j,hj⟩:=List.getElem?_of_mem h4;unfold nA at h5;simp only [aE,beq_iff_eq] at h5 I;have e1:=pF i _ AA;have e2:=pF j f hj;rw [I] at e1;rw [h5.1] at e2;have:=IP h e1 e2
   have:i=j:=by omega
   subst this;rw [hj] at AA;cases AA;simp [h5.2]
  ·intro h3;simp only [gt_iff_lt,decide_eq_false_iff_not,Nat.not_lt,Nat.le_zero] at h3;exact p7.2 ⟨p.fns[i],List.getElem_mem hi,by unfold nA;rw [I,h3];rfl⟩
theorem UL {p:Src} (ha:∀ a∈p.arrays,0<=a.size):(jt p=false/\kx p=false)↔rV p 0=0:=by
 obtain ⟨ou,hc⟩:=Qa ha;have f26:gT 0 26=26:=rfl
 have f25:∀ c,c≠0->gT c 25=c:=fun c h=>by unfold gT;rw [ab h]
 have ZH:∀ c,gT c 25≠0:=fun c=>by
  unfold gT;split
  ·decide
  ·assumption
 have ZI:∀ c,gT c 26≠0:=fun c=>by
  unfold gT;split
  ·decide
  ·assumption
 unfold rV
 by_cases I:p.arrays.any ni=true
 ·rw [ae I,f26];refine ⟨fun h=>?_,fun h=>by cases h⟩;obtain ⟨a,F,h3⟩:=p7.1 I;have h4:=h.1;unfold jt at h4;simp only [Bool.or_eq_false_iff,decide_eq_false_iff_not] at h4;have h5:=List.any_eq_false.1 h4.1 a F;have h6:=hc a F;have h7:=ha a F;unfold ni at h3;simp only [Bool.or_eq_true,decide_eq_true_eq] at h3;simp only [beq_iff_eq] at h5;have h8:=h4.2.1.2;omega
 rw [ab I]
 have hz:p.arrays.any (fun a=>a.size==0)=false:=by
  rw [any_eq_false];intro a F h3;apply I;refine p7.2 ⟨a,F,?_⟩;unfold ni;simp only [beq_iff_eq] at h3;rw [h3];rfl
 have htm:jt p=(uf p || p.fns.any fun f=>decide (f.params.length > 40)):=by
  unfold jt uf;rw [hz,Bool.false_or]
 rw [htm]
 by_cases F:kx p=true
 ·rw [ae F];exact ⟨fun h=>(by rw [F] at h;cases h.2),fun h=>absurd h (ZH _)⟩
 rw [ab F]
 have rz:kx p=false:=by simpa using F
 by_cases h3:(p.fns.any fun f=>decide (f.params.length > 40))=true
 ·rw [ae h3,h3,Bool.or_true];exact ⟨fun h=>(by cases h.1),fun h=>absurd h (ZI _)⟩
 rw [ab h3,show (p.fns.any fun f=>decide (f.params.length > 40))=false by simpa using h3,Bool.or_false]
 by_cases h4:uf p=true
 ·rw [ae h4,h4];exact ⟨fun h=>(by cases h.1),fun h=>(by cases h)⟩
 ·rw [ab h4];exact ⟨fun _=>rfl,fun _=>⟨by simpa using h4,rz⟩⟩
theorem Ve {p:Src} {l:List T} (ha:∀ a∈p.arrays,0<=a.size) (hw:∀ t∈l,fT t):(ED p l).1=0↔(M8 p l).code=0:=by
 have ne:rV p 21≠0:=by
  have f:∀ c k,c≠0->gT c k=c:=fun c k h=>by unfold gT;rw [ab h]
  unfold rV;simp only [f 21 26 aw,ite_self,f 21 25 aw]
  decide
 unfold ED M8
 by_cases I:en (cL p)=true
 ·rw [ae I,ae I];exact ⟨fun h=>(by cases h),fun h=>absurd h (zI p _ _ _ ne)⟩
 rw [ab I,ab I];have hs:=UL ha
 by_cases F:rV p 0=0
 ·obtain ⟨h3,h4⟩:=hs.2 F;rw [ab (by rw [h3];decide),ab (by rw [(HH (by simpa using I)).2 h4];decide),F]
  refine JT p _ _ _ _ rfl hw fun f hf=>?_
  unfold jt at h3;simp only [Bool.or_eq_false_iff] at h3;have:=List.any_eq_false.1 h3.2.2 f hf;simpa using this
 ·refine ⟨fun h=>?_,fun h=>absurd h (zI p _ _ _ F)⟩;exfalso;apply F;apply hs.1
  by_cases h3:jt p=true
  ·rw [ae h3] at h;cases h
  ·rw [ab h3] at h
   by_cases h4:p.fns.any nA=false
   ·rw [ae h4] at h;cases h
   ·exact ⟨by simpa using h3,(HH (by simpa using I)).1 (by simpa using h4)⟩
mutual
def xP:T->List ah
 | .mk n l=>nD l++(if n.kind=13 then [n.s] else [])
def nD:List T->List ah
 | []=>[]
 | t::r=>xP t++nD r
end
theorem RO (t:T):xP t=nD t.kids++(if t.n.kind=13 then [t.n.s] else []):=by cases t;rw [xP];rfl
mutual
theorem JN {σ:Type} (f:σ->Nat->T->List ah->σ):∀ (t:T) (a:Nat) (s:σ) (ls:List ah),(gS f t a s ls).2=ls++xP t
 | .mk n l,a,s,ls=>by
  rw [gS,xP];simp only;rw [od f l];split
  ·rw [iw]
  ·rw [iy]
theorem od {σ:Type} (f:σ->Nat->T->List ah->σ):∀ (l:List T) (a:Nat) (s:σ) (ls:List ah),(dw f l a s ls).2=ls++nD l
 | [],a,s,ls=>by rw [dw,nD,iy]
 | t::r,a,s,ls=>by rw [dw,od f r,JN f t,nD,iw]
end
mutual
def za (p:Src):T->List ah->Prop
 | .mk n l,ls=>bP p (.mk n l) ls=0/\(cS (.mk n l)=false->xF p l ls)
def xF (p:Src):List T->List ah->Prop
 | [],_=>True
 | t::r,ls=>za p t ls/\xF p r (ls++xP t)
end
mutual
theorem S9 (p:Src):∀ (t:T),fT t->∀ (a:Nat) (r:CS) (ls:List ah),r.code=0->r.skip < (a:Int)->(gS (cE p) t a r ls).1.code=0->za p t ls/\(gS (cE p) t a r ls).1.skip < ((a+aO t:Nat):Int)
 | .mk n l,hw,a,r,ls,hr,hs,hc=>by
  rw [fT] at hw
  have cj:¬ (r.code≠0\/(a:Int)=r.skip):=by
   rintro (h | h)
   ·exact h hr
   ·omega
  obtain ⟨pl,bI⟩:∃ pl,cE p r a (.mk n l) ls=⟨bP p (.mk n l) ls,pl,if cS (.mk n l)=true then (if (mZ (.mk n l)).kind≠2 then -1 else ((a+1:Nat):Int)) else r.skip⟩:=by
   unfold cE;rw [ab cj];exact ⟨_,rfl⟩
  rw [gS] at hc |-;simp only at hc |-;rw [bI] at hc |-
  have h0:bP p (.mk n l) ls=0:=by
   by_cases h0:bP p (.mk n l) ls=0
   ·exact h0
   ·rw [wa p l _ _ _ h0] at hc;exact hc
  rw [h0] at hc |-
  by_cases hz:cS (.mk n l)=true
  ·have hk:l.length=1:=by
    unfold cS at hz;simp only [aE,beq_iff_eq] at hz;exact hz.2
   have h4:n.kind=4/\n.s=cD:=by
    unfold cS at hz;simp only [aE,beq_iff_eq] at hz;exact hz.1
   have hb:fJ p (mZ (.mk n l)) ls=false:=by
    have e:bP p (.mk n l) ls=dX p (.mk n l) ls:=by
     unfold bP;rw [ab (by show ¬ n.kind=13;omega),ab (by show ¬ (n.kind=2\/n.kind=7);omega),ab (by show ¬ (n.kind=3\/n.kind=8);omega),ae (by show n.kind=4;omega)]
    rw [e] at h0;unfold dX at h0;rw [ae hz] at h0
    by_cases hb:fJ p (mZ (.mk n l)) ls=true
    ·rw [ae hb] at h0;cases h0
    ·simpa using hb
   have sB:(mZ (.mk n l)).kind=2:=by
    unfold fJ at hb;simp only [Bool.or_eq_false_iff] at hb;simpa using hb.1.1
   rw [ae hz,ab (by rw [sB];decide)] at hc |-
   match l,hk,hw with
   | [k],_,hw =>
    have Z2:k.n.kind=2:=sB;rw [dp] at hw
    have eS:k.kids=[]:=by
     have:=hw.2.2.1;obtain ⟨m,j⟩:=k;rw [fT] at this;exact this.2.1 Z2
    have vk:aO k=1:=by rw [eO,eS,aC]
    refine ⟨by rw [za];exact ⟨h0,fun h=>by rw [hz] at h;cases h⟩,?_⟩;simp only [dw];rw [v8,eS];simp only [dw]
    have QE:cE p ⟨0,pl,((a+1:Nat):Int)⟩ (a+1) k ls=⟨0,pl,((a+1:Nat):Int)⟩:=by unfold cE;rw [ae (.inr rfl)]
    rw [QE,aO,aC,aC,vk];simp only;omega
  ·have Zi:cS (.mk n l)=false:=by simpa using hz
   rw [ab hz] at hc |-;have h:=O2 p l hw.2.2 (a+1) ⟨0,pl,r.skip⟩ ls rfl (by simp only;omega) hc;refine ⟨by rw [za];exact ⟨h0,fun _=>h.1⟩,?_⟩;rw [aO,show a+(aC l+1)=a+1+aC l by omega];exact h.2
theorem O2 (p:Src):∀ (l:List T),dp l->∀ (a:Nat) (r:CS) (ls:List ah),r.code=0->r.skip < (a:Int)->(dw (cE p) l a r ls).1.code=0->xF p l ls/\(dw (cE p) l a r ls).1.skip < ((a+aC l:Nat):Int)
 | [],_,a,r,ls,hr,hs,hc=>by rw [dw,aC];exact ⟨trivial,by simpa using hs⟩
 | t::l,hw,a,r,ls,hr,hs,hc=>by
  rw [dp] at hw;rw [dw] at hc |-
  have I:(gS (cE p) t a r ls).1.code=0:=by
   by_cases I:(gS (cE p) t a r ls).1.code=0
   ·exact I
   ·rw [wa p l _ _ _ I] at hc;exact hc
  obtain ⟨F,h3⟩:=S9 p t hw.1 a r ls hr hs I;obtain ⟨h4,h5⟩:=O2 p l hw.2 _ _ _ I h3 hc;rw [JN] at h4;rw [xF,aC,<-gW];exact ⟨⟨F,h4⟩,h5⟩
end
mutual
def zT:T->Prop
 | .mk n l=>(n.kind≠1->n.n=0)/\iZ l
def iZ:List T->Prop
 | []=>True
 | t::r=>zT t/\iZ r
end
mutual
theorem Xs:∀ t:T,zT (er t)↔zT t
 | .mk n l=>by rw [er,zT,zT,Ts l]
theorem Ts:∀ l:List T,iZ (aQ l)↔iZ l
 | []=>by rw [aQ]
 | t::r=>by rw [aQ,iZ,iZ,Xs t,Ts r]
end
mutual
theorem E.z:∀ a:E,zT a.tree
 | .num n=>by rw [E.tree,zT];exact ⟨fun h=>absurd rfl h,trivial⟩
 | .name s=>by rw [E.tree,zT];exact ⟨fun _=>rfl,trivial⟩
 | .at_ s a=>by rw [E.tree,zT,iZ,iZ];exact ⟨fun _=>rfl,E.z a,trivial⟩
 | .call s l=>by rw [E.tree,zT];exact ⟨fun _=>rfl,E.zs l⟩
 | .un s a=>by rw [E.tree,zT,iZ,iZ];exact ⟨fun _=>rfl,E.z a,trivial⟩
 | .bin s a b=>by rw [E.tree,zT,iZ,iZ,iZ];exact ⟨fun _=>rfl,E.z a,E.z b,trivial⟩
theorem E.zs:∀ l:List E,iZ (E.trees l)
 | []=>trivial
 | a::l=>by rw [E.trees,iZ];exact ⟨E.z a,E.zs l⟩
end
mutual
theorem S.z:∀ a:S,zT a.tree
 | .set s a=>by rw [S.tree,zT,iZ,iZ];exact ⟨fun _=>rfl,E.z a,trivial⟩
 | .put s a b=>by rw [S.tree,zT,iZ,iZ,iZ];exact ⟨fun _=>rfl,E.z a,E.z b,trivial⟩
 | .if1 c b=>by rw [S.tree,zT,iZ,iZ,iZ,zT];exact ⟨fun _=>rfl,E.z c,⟨fun _=>rfl,S.zs b⟩,trivial⟩
 | .if2 c b d=>by rw [S.tree,zT,iZ,iZ,iZ,iZ,zT,zT];exact ⟨fun _=>rfl,E.z c,⟨fun _=>rfl,S.zs b⟩,⟨fun _=>rfl,S.zs d⟩,trivial⟩
 | .while_ c b=>by rw [S.tree,zT,iZ,iZ,iZ,zT];exact ⟨fun _=>rfl,E.z c,⟨fun _=>rfl,S.zs b⟩,trivial⟩
 | .ret a=>by rw [S.tree,zT,iZ,iZ];exact ⟨fun _=>rfl,E.z a,trivial⟩
 | .do_ a=>by rw [S.tree,zT,iZ,iZ];exact ⟨fun _=>rfl,E.z a,trivial⟩
 | .var s a=>by rw [S.tree,zT,iZ,iZ];exact ⟨fun _=>rfl,E.z a,trivial⟩
theorem S.zs:∀ l:List S,iZ (S.trees l)
 | []=>trivial
 | a::l=>by rw [S.trees,iZ];exact ⟨S.z a,S.zs l⟩
end
theorem YE (l:List S):zT (bO l):=by rw [bO,zT];exact ⟨fun _=>rfl,S.zs l⟩
theorem KD {p:Src} {t:T} {ls:List ah} (hw:fT t) (h0:bP p t ls=0) (hk:t.n.kind=4) (hs:t.n.s=cD):∃ k,t.kids=[k]/\k.n.kind=2/\k.kids=[]/\0<=Cn p k.n.s/\ls.contains k.n.s=false/\cS t=true:=by
 have e:bP p t ls=dX p t ls:=by
  unfold bP;rw [ab aq,ab aq,ab aq,ae hk]
 rw [e] at h0
 have hm:mi p t.n.s=1:=by rw [hs];unfold mi;rw [ab aw,ae (.inr rfl)]
 by_cases hl:t.kids.length=1
 ·have hz:cS t=true:=by unfold cS;rw [hk,hs,hl];rfl
  unfold dX at h0;rw [ae hz] at h0
  have hb:fJ p (mZ t) ls=false:=by
   by_cases hb:fJ p (mZ t) ls=true
   ·rw [ae hb] at h0;cases h0
   ·simpa using hb
  obtain ⟨n,l⟩:=t
  match l,hl with
  | [k],_ =>
   have bo:fJ p k.n ls=false:=hb;unfold fJ at bo;simp only [Bool.or_eq_false_iff,bne_eq_false_iff_eq,decide_eq_false_iff_not,Int.not_lt] at bo;rw [fT,dp] at hw;refine ⟨k,rfl,bo.1.1,?_,bo.1.2,bo.2,hz⟩;have:=hw.2.2.1;obtain ⟨m,j⟩:=k;rw [fT] at this;exact this.2.1 bo.1.1
 ·have hz:cS t=false:=by unfold cS;rw [show (t.kids.length==1)=false by simpa using hl,Bool.and_false]
  unfold dX at h0;rw [ab (by rw [hz];decide),hm,ab aw,ab aq] at h0;cases h0
section
variable (p:Src) (names:List ah) (name:ah)
end
theorem Forms.wf {l:List T} {ls:List (List S)} (h:Forms l ls) {i:Nat} {t:T} (ht:l[i]?=some t):fT t/\zT t:=by
 have hi:=(bh ht).1;have hlen:=h.len;have hb:ls[i]?=some (ls[i]'aq):=eF _;obtain ⟨_,F⟩:=h.at_ i t _ ht hb;exact ⟨(Tq t).1 (by rw [F];exact Xl _),(Xs t).1 (by rw [F];exact YE _)⟩
theorem NG (p:Src):∀ (fs:List Fn) (l:List T) (a:Nat),(fZ p fs l a).1=0->∀ (i:Nat) f t,fs[i]?=some f->l[i]?=some t->∃ b,(fY p f t b).1=0
 | f::r,t::l,a,h,0,g,u,I,F=>by
  cases I;cases F
  rw [fZ] at h
  by_cases hc:(fY p f t a).1=0
  ·exact ⟨a,hc⟩
  ·rw [ae hc] at h;exact absurd h hc
 | f::r,t::l,a,h,i+1,g,u,I,F=>by
  rw [fZ] at h
  by_cases hc:(fY p f t a).1=0
  ·rw [ab (by simpa using hc)] at h;exact NG p r l _ h i g u (by simpa using I) (by simpa using F)
  ·rw [ae hc] at h;exact absurd h hc
 | [],_,a,h,i,g,u,I,F=>by simp at I
 | f::r,[],a,h,i,g,u,I,F=>by simp at F
structure Good (p:Src) (l:List T):Prop where
 st:gR p l
 test:fI p=true
 names:en (cL p)=false
 len:p.fns.length=l.length
 at_:∀ (i:Nat) f t,p.fns[i]?=some f->l[i]?=some t->za p t f.params/\fT t/\zT t/\dV p.nodes f.body.toNat t/\0<=f.body
theorem T9 {p:Src} (h:cU p=true):∃ l,Good p l:=by
 unfold cU at h;rw [aE] at h;obtain ⟨hf,h⟩:=h;obtain ⟨l,hl⟩:=vg hf;rw [hl.EA] at h;simp only [decide_eq_true_eq] at h;obtain ⟨ls,hm⟩:=hl.Lu
 have hb:en (cL p)=false:=by
  unfold ED at h
  by_cases hb:en (cL p)=true
  ·rw [ae hb] at h;cases h
  ·simpa using hb
 have fL:(fZ p p.fns l 0).1=0:=by
  unfold ED at h;rw [ab (by rw [hb];decide)] at h;split at h
  ·cases h
  split at h
  ·cases h
  ·exact h
 refine ⟨l,hl,hf,hb,gB.len hl.fns,fun i f t I F=>?_⟩;obtain ⟨b,hc⟩:=NG p _ _ _ fL i f t I F;obtain ⟨w1,w2⟩:=hm.wf F;unfold fY at hc
 have hd:¬ vH f.params=true:=fun hd=>by rw [ae hd] at hc;cases hc
 rw [ab hd] at hc;have hi:=(bh F).1;obtain ⟨h5,h6⟩:=gB.at_ hl.fns i f t I F;have h7:=dD.ix l 0 i _ hl.st F;rw [fk] at h5 h7;refine ⟨(S9 p t w1 b ⟨0,0,-1⟩ f.params rfl (by show (-1:Int) < _;omega) hc).1,w1,w2,?_,by omega⟩;rw [h5,gA];exact h7
theorem Gt {σ:Type} (f:σ->Nat->T->List ah->σ) (t:T):∀ (l:List T) (a:Nat) (s:σ) (ls:List ah),dw f (l++[t]) a s ls=gS f t (a+aC l) (dw f l a s ls).1 (dw f l a s ls).2
 | [],a,s,ls=>by rw [List.nil_append,dw,dw,dw,aC,Nat.add_zero]
 | u::l,a,s,ls=>by rw [List.cons_append,dw,Gt f t l,dw,aC,gW]
theorem A5 {σ:Type} (f:σ->Nat->T->List ah->σ) {l:List T} {k:Nat} {t:T} (h:l[k]?=some t) (a:Nat) (s:σ) (ls:List ah) :
  dw f (l.take (k+1)) a s ls=gS f t (a+aC (l.take k)) (dw f (l.take k) a s ls).1 (dw f (l.take k) a s ls).2:=by
 have:l.take (k+1)=l.take k++[t]:=by rw [cq,h];rfl
 rw [this,Gt]
theorem sI:∀ {l:List T} {n k:Nat} {t:T},l[k]?=some t->(b9 n l)[k]?=some (((n+aC (l.take k):Nat)):Int)
 | u::l,n,0,t,h=>by simp [b9,aC]
 | u::l,n,k+1,t,h=>by
  have:=sI (l:=l) (n:=n+aO u) (k:=k) (t:=t) (by simpa using h);rw [b9,List.getElem?_cons_succ,this,List.take_succ_cons,aC,gW]
 | [],n,k,t,h=>by simp at h
theorem iK {l:List T} {k:Nat} {t:T} (h:l[k]?=some t):aC (l.take k)+aO t<=aC l:=by
 have I:l.take (k+1)=l.take k++[t]:=by rw [cq,h];rfl
 have F:aC l=aC (l.take (k+1))+aC (l.drop (k+1)):=by rw [<-nJ,List.take_append_drop]
 rw [I,nJ,aC,aC] at F;omega
theorem RE {l:List T} {k:Nat} {t:T} (h:l[k]?=some t):aC (l.take (k+1))=aC (l.take k)+aO t:=by
 have I:l.take (k+1)=l.take k++[t]:=by rw [cq,h];rfl
 rw [I,nJ,aC,aC,Nat.add_zero]
theorem RP:∀ (N:Nat) (t:T),aO t<=N->(xP t).length<=aO t:=by
 intro N
 induction N with
 | zero=>intro t h;have:=jq t;omega
 | succ N ih =>
  intro t h
  have key:∀ l:List T,aC l<=N->(nD l).length<=aC l:=by
   intro l
   induction l with
   | nil=>intro _;simp [nD]
   | cons u l ih2 =>
    intro h;rw [aC] at h;have:=ih u aq;have:=ih2 aq;rw [nD,aZ,aC];omega
  rw [eO] at h |-;have:=key t.kids aq;rw [RO,aZ];split <;> simp <;> omega
theorem qG (l:List T):(nD l).length<=aC l:=by
 induction l with
 | nil=>simp [nD]
 | cons u l ih =>
  have:=RP _ u (aH _);rw [nD,aZ,aC];omega
theorem oR {α:Type} {f:α->Bool} {l:List α} {k:Nat} {x:α} (hk:l[k]?=some x) (h:f x=true) (aY:(l.take k).all (fun y=>!f y)=true):cr f l=(k:Int):=by
 have ar:k < l.length:=by
  rcases Nat.lt_or_ge k l.length with I | I
  ·exact I
  ·rw [List.getElem?_eq_none I] at hk;cases hk
 have hx:l[k]=x:=by rw [eF ar] at hk;exact Ae hk
 have:l.findIdx? f=some k:=by
  rw [List.findIdx?_eq_some_iff_getElem];refine ⟨ar,by rw [hx];exact h,fun j hj=>?_⟩;rw [fE] at aY;have:=aY l[j] (by rw [List.mem_take_iff_getElem];exact ⟨j,by omega,rfl⟩);simpa using this
 unfold cr;rw [this]
theorem lX {α:Type} {f:α->Bool} {l:List α} (aY:l.all (fun y=>!f y)=true):cr f l = -1:=by
 have:l.findIdx? f=none:=by
  rw [List.findIdx?_eq_none_iff];intro x hx;rw [fE] at aY;simpa using aY x hx
 unfold cr;rw [this]
theorem mU {α:Type} {f:α->Bool} {l:List α} {k:Nat} {x:α} (hk:l[k]?=some x):(l.take (k+1)).all (fun y=>!f y)=((l.take k).all (fun y=>!f y)&&!f x):=by
 rw [cq,hk,List.all_append];simp
theorem EO {α:Type} (f:α->Bool) (l:List α):decide ((0:Int)<=cr f l)=l.any f:=by
 cases h:l.any f with
 | false =>
  rw [lX (by rw [any_eq_false] at h;rw [fE];intro x hx;simpa using h x hx)];rfl
 | true =>
  unfold cr
  cases F:l.findIdx? f with
  | some i=>simp
  | none =>
   rw [List.findIdx?_eq_none_iff] at F;rw [p7] at h;obtain ⟨x,hx,h3⟩:=h;have:=F x hx;simp [h3] at this
def qt (p:Src) (n:Nd):List Int:=if n.kind=4/\0<=bE p n.s then [bE p n.s] else []
mutual
def iV (p:Src):T->List Int
 | .mk n l=>qt p n++dS p l
def dS (p:Src):List T->List Int
 | []=>[]
 | t::r=>iV p t++dS p r
end
theorem Vg (p:Src) (t:T):iV p t=qt p t.n++dS p t.kids:=by cases t;rw [iV];rfl
def fX (p:Src) (s:List Int) (_:Nat) (t:T) (_:List ah):List Int:=s++qt p t.n
mutual
theorem Se (p:Src):∀ (t:T) (a:Nat) (s:List Int) (ls:List ah),(gS (fX p) t a s ls).1=s++iV p t
 | .mk n l,a,s,ls=>by
  rw [gS,iV];simp only;rw [Gu p l];unfold fX;show s++qt p n++_=_;rw [iw]
theorem Gu (p:Src):∀ (l:List T) (a:Nat) (s:List Int) (ls:List ah),(dw (fX p) l a s ls).1=s++dS p l
 | [],a,s,ls=>by rw [dw,dS,iy]
 | t::r,a,s,ls=>by rw [dw,Gu p r,Se p t,dS,iw]
end
theorem DC (p:Src) (n:Nd):(qt p n).length<=1:=by unfold qt;split <;> simp
theorem Nb (p:Src):∀ (N:Nat) (t:T),aO t<=N->(iV p t).length<=aO t:=by
 intro N
 induction N with
 | zero=>intro t h;have:=jq t;omega
 | succ N ih =>
  intro t h
  have key:∀ l:List T,aC l<=N->(dS p l).length<=aC l:=by
   intro l
   induction l with
   | nil=>intro _;simp [dS]
   | cons u l ih2 =>
    intro h;rw [aC] at h;have:=ih u aq;have:=ih2 aq;rw [dS,aZ,aC];omega
  rw [eO] at h |-;have:=key t.kids aq;have:=DC p t.n;rw [Vg,aZ];omega
theorem Gi (p:Src) (l:List T):(dS p l).length<=aC l:=by
 induction l with
 | nil=>simp [dS]
 | cons u l ih =>
  have:=Nb p _ u (aH _);rw [dS,aZ,aC];omega
theorem Na (p:Src) {l:List T} {k:Nat} {t:T} (h:l[k]?=some t):dS p (l.take (k+1))=dS p (l.take k)++iV p t:=by
 have I:l.take (k+1)=l.take k++[t]:=by rw [cq,h];rfl
 have:∀ a b:List T,dS p (a++b)=dS p a++dS p b:=by
  intro a b
  induction a with
  | nil=>simp [dS]
  | cons u a ih=>simp [dS,ih]
 rw [I,this];simp [dS]
theorem BA (p:Src) (s:ah):bE p s < (p.fns.length:Int):=by
 unfold bE cr
 cases h:p.fns.findIdx? (fun f:Fn=>f.name==s) with
 | none=>simp only;omega
 | some i =>
  rw [List.findIdx?_eq_some_iff_getElem] at h;obtain ⟨h,_⟩:=h;simp only;omega
theorem TE (p:Src) (n:Nd):∀ x∈qt p n,0<=x/\x < (p.fns.length:Int):=by
 intro x hx;unfold qt at hx;split at hx
 ·rename_i h;rw [mem_singleton] at hx;subst hx;exact ⟨h.2,BA p _⟩
 ·simp at hx
mutual
theorem Nc (p:Src):∀ (t:T),∀ x∈iV p t,0<=x/\x < (p.fns.length:Int)
 | .mk n l,x,hx=>by
  rw [iV,mem_append] at hx
  rcases hx with h | h
  ·exact TE p n x h
  ·exact Jz p l x h
theorem Jz (p:Src):∀ (l:List T),∀ x∈dS p l,0<=x/\x < (p.fns.length:Int)
 | [],x,hx=>by simp [dS] at hx
 | t::r,x,hx=>by
  rw [dS,mem_append] at hx
  rcases hx with h | h
  ·exact Nc p t x h
  ·exact Jz p r x h
end
def iI (l:List Int):Prop:=l.Pairwise (· < ·)
theorem C7:∀ {a b:List Int},iI a->iI b->(∀ x,x∈a↔x∈b)->a=b
 | [],[],_,_,_=>rfl
 | [],y::b,_,_,h=>by have:=(h y).2 (by simp);simp at this
 | x::a,[],_,_,h=>by have:=(h x).1 (by simp);simp at this
 | x::a,y::b,ha,hb,h=>by
  unfold iI at ha hb;rw [pairwise_cons] at ha hb
  have kH:x=y:=by
   have I:=(h x).1 (by simp);have F:=(h y).2 (by simp)
   rcases ei I with I | I
   ·exact I
   rcases ei F with F | F
   ·exact F.symm
   have:=hb.1 x I;have:=ha.1 y F;omega
  subst kH
  have:a=b:=C7 ha.2 hb.2 fun z=>by
   constructor
   ·intro hz;have:=(h z).1 (cV _ hz)
    rcases ei this with e | e
    ·have:=ha.1 z hz;omega
    ·exact e
   ·intro hz;have:=(h z).2 (cV _ hz)
    rcases ei this with e | e
    ·have:=hb.1 z hz;omega
    ·exact e
  rw [this]
def rN (n:Int):List Int->List Int
 | []=>[n]
 | x::r=>if n < x then n::x::r else x::rN n r
def jn (l:List Int) (n:Int):List Int:=if l.contains n=true then l else rN n l
theorem BM {n:Int}:∀ {l:List Int} {x:Int},x∈rN n l↔x=n\/x∈l
 | [],x=>by simp [rN]
 | y::r,x=>by
  rw [rN];split
  ·simp
  ·rw [List.mem_cons,BM,List.mem_cons];constructor
   ·rintro (h | h | h)
    ·exact .inr (.inl h)
    ·exact .inl h
    ·exact .inr (.inr h)
   ·rintro (h | h | h)
    ·exact .inr (.inl h)
    ·exact .inl h
    ·exact .inr (.inr h)
theorem AJ {n:Int}:∀ {l:List Int},iI l->n ∉ l->iI (rN n l)
 | [],_,_=>by simp [rN,iI]
 | y::r,h,hn=>by
  unfold iI at h |-;rw [pairwise_cons] at h;rw [rN];rw [List.mem_cons,not_or] at hn;split
  ·rename_i ar;rw [pairwise_cons,pairwise_cons];refine ⟨fun z hz=>?_,h.1,h.2⟩
   rcases ei hz with e | e
   ·omega
   ·have:=h.1 z e;omega
  ·rename_i ar;rw [pairwise_cons];refine ⟨fun z hz=>?_,AJ h.2 hn.2⟩
   rcases BM.1 hz with e | e
   ·have:=hn.1;omega
   ·exact h.1 z e
theorem HS {l:List Int} {n x:Int}:x∈jn l n↔x=n\/x∈l:=by
 unfold jn;split
 ·rename_i h;have:=ej.1 h;constructor
  ·exact .inr
  ·rintro (rfl | h)
   ·exact this
   ·exact h
 ·exact BM
theorem Jb {l:List Int} {n:Int} (h:iI l):iI (jn l n):=by
 unfold jn;split
 ·exact h
 ·rename_i hc
  exact AJ h fun e=>hc (ej.2 e)
theorem BL {n:Int}:∀ {l:List Int},(rN n l).length=l.length+1
 | []=>rfl
 | y::r=>by
  rw [rN];split
  ·simp
  ·rw [length_cons,BL,length_cons]
theorem Rh {l:List Int} {n:Int}:(jn l n).length<=l.length+1:=by
 unfold jn;split
 ·omega
 ·rw [BL];omega
def po (n:Int) (st:List Int × Bool) (x:Int):List Int × Bool:=if (!st.2&&decide (n < x))=true then (st.1++[n]++[x],true) else (st.1++[x],st.2)
def jV (l:List Int) (n:Int) (k:Nat):List Int × Bool:=(l.take k).foldl (po n) ([],false)
theorem Fx {l:List Int} {n:Int} {k:Nat} {x:Int} (h:l[k]?=some x):jV l n (k+1)=po n (jV l n k) x:=by
 unfold jV;rw [cq,h,List.foldl_append];rfl
theorem EP (n:Int):∀ (l acc:List Int),l.foldl (po n) (acc,true)=(acc++l,true)
 | [],acc=>by simp
 | x::r,acc=>by
  rw [foldl_cons,show po n (acc,true) x=(acc++[x],true) by simp [po],EP n r];simp
theorem GS (n:Int):∀ (l acc:List Int),(if (l.foldl (po n) (acc,false)).2=true then (l.foldl (po n) (acc,false)).1 else (l.foldl (po n) (acc,false)).1++[n])=acc++rN n l
 | [],acc=>by simp [rN]
 | x::r,acc=>by
  rw [foldl_cons,rN]
  by_cases h:n < x
  ·rw [show po n (acc,false) x=(acc++[n]++[x],true) by simp [po,h],EP,ae h];simp
  ·rw [show po n (acc,false) x=(acc++[x],false) by simp [po,h],ab h,GS n r];simp
theorem Ri (l:List Int) (n:Int) (h:l.contains n=false):(if (jV l n l.length).2=true then (jV l n l.length).1 else (jV l n l.length).1++[n])=jn l n:=by
 unfold jV jn;rw [cy,GS,ab (by rw [h];decide)];rfl
theorem HT (l:List Int) (n:Int) (k:Nat):(jV l n k).1.length<=k+1/\((jV l n k).2=false->(jV l n k).1.length<=k):=by
 induction k with
 | zero=>simp [jV]
 | succ k ih =>
  rcases Nat.lt_or_ge k l.length with h | h
  ·rw [Fx (eF h)];unfold po;split
   ·rename_i hc;rw [aE] at hc;have:=ih.2 (by simpa using hc.1);refine ⟨by simp;omega,fun h=>by cases h⟩
   ·refine ⟨by simp;exact ih.1,fun F=>?_⟩;have:=ih.2 F;simp;omega
  ·have:jV l n (k+1)=jV l n k:=by unfold jV;rw [jS aq,jS aq]
   rw [this];exact ⟨by omega,fun F=>by have:=ih.2 F;omega⟩
def pO (l:List Int):List Int:=l.foldl jn []
theorem zb:∀ (l acc:List Int),iI acc->iI (l.foldl jn acc)/\∀ x,x∈l.foldl jn acc↔x∈acc\/x∈l
 | [],acc,h=>⟨h,fun x=>by simp⟩
 | y::r,acc,h=>by
  obtain ⟨I,F⟩:=zb r (jn acc y) (Jb h);refine ⟨I,fun x=>?_⟩;rw [foldl_cons,F,HS,List.mem_cons];constructor
  ·rintro ((h | h) | h)
   ·exact .inr (.inl h)
   ·exact .inl h
   ·exact .inr (.inr h)
  ·rintro (h | h | h)
   ·exact .inl (.inr h)
   ·exact .inl (.inl h)
   ·exact .inr h
theorem sX (l:List Int):iI (pO l):=(zb l [] List.Pairwise.nil).1
theorem oV {l:List Int} {x:Int}:x∈pO l↔x∈l:=by
 have:=(zb l [] List.Pairwise.nil).2 x;unfold pO;rw [this];simp
theorem xK:∀ {l:List Int} {a b:Int},iI l->(∀ x∈l,a<=x/\x < b)->a<=b->(l.length:Int)<=b - a
 | [],a,b,_,_,h=>by simp;omega
 | x::r,a,b,h,hb,Sv=>by
  unfold iI at h;rw [pairwise_cons] at h;have hx:=hb x (by simp);have:=xK (l:=r) (a:=x+1) (b:=b) h.2 (fun y hy=>by have:=h.1 y hy;have:=hb y (cV _ hy);omega) aq;rw [length_cons];omega
theorem y9 {l:List Int} {n:Nat} (h:l.Nodup) (hb:∀ x∈l,0<=x/\x < (n:Int)):l.length<=n:=by
 have I:(pO l).length=l.length:=by
  have key:∀ (l acc:List Int),l.Nodup->(∀ x∈l,x ∉ acc)->(l.foldl jn acc).length=acc.length+l.length:=by
   intro l
   induction l with
   | nil=>intro acc _ _;simp
   | cons y r ih =>
    intro acc I F;rw [nodup_cons] at I
    have hy:acc.contains y=false:=by
     cases hc:acc.contains y with
     | false=>rfl
     | true=>exact absurd (ej.1 hc) (F y (by simp))
    rw [foldl_cons,ih _ I.2 fun x hx hm=>?_]
    ·unfold jn;rw [ab (by rw [hy];decide),BL,length_cons];omega
    ·rcases HS.1 hm with e | e
     ·subst e;exact I.1 hx
     ·exact F x (cV _ hx) e
  have:=key l [] h (by simp);unfold pO;rw [this];simp
 have F:=xK (sX l) (a:=0) (b:=n) (fun x hx=>hb x (oV.1 hx)) aq;omega
def bY (p:Src) (t:T):List Int:=pO (iV p t)
theorem oO (p:Src) (t:T):iI (bY p t):=sX _
theorem nG (p:Src) (t:T):∀ x∈bY p t,0<=x/\x < (p.fns.length:Int):=fun x hx=>Nc p t x (oV.1 hx)
theorem Am (p:Src) (t:T):(bY p t).length<=p.fns.length:=by
 have:=xK (oO p t) (a:=0) (b:=p.fns.length) (nG p t) aq;omega
theorem uR {l:List Int} (h:iI l):l.Nodup:=by
 unfold iI at h;exact h.imp (fun {a b} Sv=>by omega)
def dP (l ks:List Int):List Int:=ks.foldl (fun l k=>if l.contains k=true then l else l++[k]) l
theorem Ew (l:List Int) (ks:List Int) (k:Nat) (x:Int) (h:ks[k]?=some x):dP l (ks.take (k+1))=if (dP l (ks.take k)).contains x=true then dP l (ks.take k) else dP l (ks.take k)++[x]:=by
 unfold dP;rw [cq,h,List.foldl_append];rfl
theorem jm:∀ {ks l:List Int} {x:Int},x∈dP l ks↔x∈l\/x∈ks
 | [],l,x=>by simp [dP]
 | k::r,l,x=>by
  have:=@jm r (if l.contains k=true then l else l++[k]) x;unfold dP at this |-;rw [foldl_cons,this,List.mem_cons];split
  ·rename_i hc;have:=ej.1 hc;constructor
   ·rintro (h | h)
    ·exact .inl h
    ·exact .inr (.inr h)
   ·rintro (h | h | h)
    ·exact .inl h
    ·subst h;exact .inl this
    ·exact .inr h
  ·rw [mem_append,mem_singleton,or_assoc]
theorem tl:∀ {ks l:List Int},l.Nodup->(dP l ks).Nodup
 | [],l,h=>h
 | k::r,l,h=>by
  have hn:(if l.contains k=true then l else l++[k]).Nodup:=by
   split
   ·exact h
   ·rename_i hc;rw [List.nodup_append];refine ⟨h,by simp,fun a ha b hb e=>?_⟩;rw [mem_singleton] at hb;subst e;subst hb;exact hc (ej.2 ha)
  exact tl (ks:=r) hn
theorem w6:∀ (ks l:List Int),∃ m,dP l ks=l++m
 | [],l=>⟨[],by simp [dP]⟩
 | k::r,l=>by
  have e:dP l (k::r)=dP (if l.contains k=true then l else l++[k]) r:=rfl;rw [e];obtain ⟨m,hm⟩:=w6 r (if l.contains k=true then l else l++[k]);rw [hm];split
  ·exact ⟨m,rfl⟩
  ·exact ⟨[k]++m,by simp⟩
def mo (cs:Int->List Int):Nat->Nat->List Int->List Int
 | 0,_,l=>l
 | f+1,i,l=>match l[i]? with | none=>l | some x=>mo cs f (i+1) (dP l (cs x))
theorem tq (cs:Int->List Int) (n:Nat) (fm:∀ x,∀ y∈cs x,0<=y/\y < (n:Int)) :
  ∀ (f i:Nat) (L:List Int),L.Nodup->(∀ y∈L,0<=y/\y < (n:Int))->n+1<=f+i ->
   (∀ j x,j < i->L[j]?=some x->∀ y∈cs x,y∈L) ->
   ∀ x∈mo cs f i L,∀ y∈cs x,y∈mo cs f i L
 | 0,i,L,hn,hr,hf,hj=>by
  intro x hx y hy;rw [mo] at hx |-;obtain ⟨j,pH,he⟩:=List.mem_iff_getElem.1 hx;have:=y9 hn hr;exact hj j x aq (by rw [eF pH,he]) y hy
 | f+1,i,L,hn,hr,hf,hj=>by
  cases hi:L[i]? with
  | none =>
   have hb:mo cs (f+1) i L=L:=by rw [mo,hi]
   rw [hb];intro x hx y hy;obtain ⟨j,pH,he⟩:=List.mem_iff_getElem.1 hx;have:=py hi;exact hj j x aq (by rw [eF pH,he]) y hy
  | some x0 =>
   have hb:mo cs (f+1) i L=mo cs f (i+1) (dP L (cs x0)):=by rw [mo,hi]
   rw [hb];refine tq cs n fm f (i+1) _ (tl hn) (fun y hy=>?_) aq (fun j x pd SH y hy=>?_)
   ·rcases jm.1 hy with I | I
    ·exact hr y I
    ·exact fm x0 y I
   ·have qR:i < L.length:=by
     rcases Nat.lt_or_ge i L.length with h | h
     ·exact h
     ·rw [List.getElem?_eq_none h] at hi;cases hi
    obtain ⟨m,hm⟩:=w6 (cs x0) L
    have pH:j < L.length:=by omega
    rw [hm,kl pH] at SH
    rcases Nat.lt_or_ge j i with h | h
    ·exact jm.2 (.inl (hj j x h SH y hy))
    ·have:j=i:=by omega
     subst this;rw [hi] at SH;cases SH;exact jm.2 (.inr hy)
theorem sw (cs:Int->List Int) (S:Int->Prop) (hS:∀ x,S x->∀ y∈cs x,S y) :
  ∀ (f i:Nat) (L:List Int),(∀ x∈L,S x)->∀ x∈mo cs f i L,S x
 | 0,i,L,h=>by rw [mo];exact h
 | f+1,i,L,h=>by
  rw [mo];split
  ·exact h
  ·rename_i x0 nX
   refine sw cs S hS f (i+1) _ fun x hx=>?_
   rcases jm.1 hx with I | I
   ·exact h x I
   ·exact hS x0 (h x0 (bm nX)) x I
theorem vU (cs:Int->List Int):∀ (f i:Nat) (L:List Int),∀ x∈L,x∈mo cs f i L
 | 0,i,L=>fun x h=>by rw [mo];exact h
 | f+1,i,L=>fun x h=>by
  rw [mo];split
  ·exact h
  ·exact vU cs f (i+1) _ x (jm.2 (.inl h))
def oW (abh:Int->List Int) (a b:Int):Bool:=a==b || ((abh a).contains b&&(abh b).contains a)
def F9 (abh:Int->List Int):Prop:=∀ a b,b∈abh a->∀ c∈abh b,c∈abh a
theorem zd {abh:Int->List Int} {a b:Int}:oW abh a b=true↔a=b\/(b∈abh a/\a∈abh b):=by
 unfold oW;rw [Bool.or_eq_true,aE,beq_iff_eq,ej,ej]
theorem zZ:∀ {a b:List Int},a.Nodup->(∀ x∈a,x∈b)->a.length<=b.length
 | [],b,_,_=>by simp
 | x::a,b,hn,hs=>by
  rw [nodup_cons] at hn;have hx:x∈b:=hs x (by simp)
  have h:=zZ (a:=a) (b:=b.erase x) hn.2 fun y hy=>by
   have cj:y≠x:=fun e=>hn.1 (e ▸ hy)
   exact (List.mem_erase_of_ne cj).2 (hs y (by simp [hy]))
  rw [List.length_erase_of_mem hx] at h;have:0 < b.length:=List.length_pos_of_mem hx;simp only [length_cons];omega
def pU (abh:Int->List Int) (told:List Int) (f:Int):Bool:=(abh f).all (fun g=>told.contains g || oW abh f g)&&!told.contains f
theorem yx {abh:Int->List Int} {told:List Int} {f:Int}:pU abh told f=true↔(∀ g∈abh f,g∈told\/oW abh f g=true)/\f ∉ told:=by
 unfold pU;rw [aE,fE,Bool.not_eq_true'];simp only [Bool.or_eq_true,ej];constructor
 ·exact fun ⟨a,b⟩=>⟨a,fun h=>by rw [ej.2 h] at b;cases b⟩
 ·refine fun ⟨a,b⟩=>⟨a,?_⟩
  cases hc:told.contains f with
  | false=>rfl
  | true=>exact absurd (ej.1 hc) b
theorem ER {abh:Int->List Int} (ht:F9 abh) {n:Nat} (hn:∀ a,(abh a).Nodup) (hr:∀ a,∀ y∈abh a,0<=y/\y < (n:Int)) (told:List Int) :
  ∀ (N:Nat) (f:Int),0<=f->f < (n:Int)->f ∉ told->(dP (abh f) [f]).length<=N->∃ g,0<=g/\g < (n:Int)/\pU abh told g=true
 | 0,f,I,F,h3,h4=>by
  have:f∈dP (abh f) [f]:=jm.2 (.inr (by simp));have:=List.length_pos_of_mem this;omega
 | N+1,f,I,F,h3,h4=>by
  by_cases hf:pU abh told f=true
  ·exact ⟨f,I,F,hf⟩
  have hex:∃ x∈abh f,x ∉ told/\oW abh f x≠true:=by
   refine Classical.byContradiction fun bX=>hf (yx.2 ⟨fun g hg=>?_,h3⟩)
   refine Classical.byContradiction fun h=>bX ⟨g,hg,fun h'=>h (.inl h'),fun h'=>h (.inr h')⟩
  obtain ⟨x,hx,hxt,oz⟩:=hex;have pL:=hr f x hx
  have N3:f ∉ dP (abh x) [x]:=by
   intro h
   rcases jm.1 h with h | h
   ·exact oz (zd.2 (.inr ⟨hx,h⟩))
   ·rw [mem_singleton] at h;exact oz (zd.2 (.inl h))
  have hl:(f::dP (abh x) [x]).length<=(dP (abh f) [f]).length:=by
   refine zZ (List.nodup_cons.2 ⟨N3,tl (hn x)⟩) fun y hy=>?_
   rcases ei hy with h | h
   ·exact jm.2 (.inr (by simp [h]))
   ·rcases jm.1 h with h | h
    ·exact jm.2 (.inl (ht f x hx y h))
    ·rw [mem_singleton] at h;exact jm.2 (.inl (h ▸ hx))
  simp only [length_cons] at hl;exact ER ht hn hr told N x pL.1 pL.2 hxt aq
theorem Qq {abh:Int->List Int} (ht:F9 abh) {n:Nat} (hn:∀ a,(abh a).Nodup) (hr:∀ a,∀ y∈abh a,0<=y/\y < (n:Int)) {told:List Int} (hl:told.length < n) :
  ∃ f:Nat,f < n/\pU abh told (f:Int)=true:=by
 have hex:∃ f:Nat,f < n/\(f:Int) ∉ told:=by
  refine Classical.byContradiction fun bX=>?_
  have:((List.range n).map fun i=>((i:Nat):Int)).length<=told.length:=by
   refine zZ ?_ fun x hx=>?_
   ·rw [List.Nodup,List.pairwise_map]
    exact (List.nodup_range (n:=n)).imp fun h e=>h aq
   ·obtain ⟨i,hi,rfl⟩:=tI.1 hx
    exact Classical.byContradiction fun h=>bX ⟨i,List.mem_range.1 hi,h⟩
  simp at this;omega
 obtain ⟨f,hf,YW⟩:=hex;obtain ⟨g,I,F,h3⟩:=ER ht hn hr told _ (f:Int) aq aq YW (aH _);exact ⟨g.toNat,by omega,by rw [Int.toNat_of_nonneg I];exact h3⟩
def uK (abh:Int->List Int) (n:Nat) (told:List Int):Option Nat:=(List.range n).find? fun f=>pU abh told (f:Int)
def BR (abh:Int->List Int) (n:Nat) (told:List Int):List Int:=match uK abh n told with | some f=>told++[(f:Int)] | none=>told
def cK (abh:Int->List Int) (n:Nat):Nat->List Int
 | 0=>[]
 | k+1=>BR abh n (cK abh n k)
theorem sJ {abh:Int->List Int} (ht:F9 abh) {n:Nat} (hn:∀ a,(abh a).Nodup) (hr:∀ a,∀ y∈abh a,0<=y/\y < (n:Int)) {told:List Int} (hl:told.length < n) :
  ∃ f:Nat,uK abh n told=some f/\f < n/\pU abh told (f:Int)=true/\(∀ g,g < f->pU abh told (g:Int)=false)/\BR abh n told=told++[(f:Int)]:=by
 obtain ⟨f,hf,pb⟩:=Qq ht hn hr hl
 cases hp:uK abh n told with
 | none =>
  unfold uK at hp;rw [List.find?_eq_none] at hp;exact absurd pb (hp f (List.mem_range.2 hf))
 | some g =>
  have kp:=hp;unfold uK at kp;have hg:=List.find?_some kp;have hgm:=List.mem_of_find?_eq_some kp;refine ⟨g,rfl,List.mem_range.1 hgm,hg,fun j hj=>?_,by unfold BR;rw [hp]⟩;rw [List.find?_range_eq_some] at kp;have:=kp.2.2 j hj;simpa using this
theorem oC {abh:Int->List Int} (ht:F9 abh) {n:Nat} (hn:∀ a,(abh a).Nodup) (hr:∀ a,∀ y∈abh a,0<=y/\y < (n:Int)):∀ k,k<=n->(cK abh n k).length=k
 | 0,_=>rfl
 | k+1,h=>by
  have ih:=oC ht hn hr k aq;obtain ⟨f,-,-,-,-,he⟩:=sJ ht hn hr (told:=cK abh n k) aq;rw [cK,he];simp [ih]
end Go.Im
