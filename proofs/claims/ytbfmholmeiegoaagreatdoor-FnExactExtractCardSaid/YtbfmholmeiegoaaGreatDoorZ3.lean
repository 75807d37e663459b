/- Part 3 of proofs that are told in their last texts. -/
import Derived.Test.YtbfmholmeiegoaaGreatDoorZ2
open List (any_eq_false cons_append foldl_cons length_cons mem_append mem_cons_self mem_singleton pairwise_cons)
set_option linter.unusedVariables false
set_option linter.unusedSimpArgs false
set_option maxRecDepth 100000
namespace Go.Im
open Go.Xp Go.Sp
def qM:ae:=[103,101,116]
def sc:ae:=[112,117,116]
def iv:ae:=[115,105,122,101]
def xB:ae:=[109,97,105,110]
def nZ (s:ae):Bool:=(s==qM || s==sc) || s==iv
def dm {α:Type} (f:α->Bool) (l:List α):Int:=match l.findIdx? f with | some i=>(i:Int) | none => -1
def pW (p:Src) (s:ae):Int:=dm (fun f:Fn=>f.name==s) p.fns
def CV (p:Src) (s:ae):Int:=dm (fun a:Ar=>a.name==s) p.arrays
def fg (p:Src):List ae:=p.arrays.map fun a:Ar=>a.name
def jB (p:Src):List ae:=p.fns.map fun f:Fn=>f.name
def cR (p:Src):List ae:=(p.globals++fg p)++jB p
def n5 (t:T):Nd:=match t.kids with | k::_=>k.n | []=>⟨0,0,0,[],[]⟩
def dv (t:T):Bool:=(t.n.kind==4&&t.n.s==iv)&&(t.kids.length==1)
def nE (p:Src) (i:Nat):Nat:=match p.fns[i]? with | some f=>f.params.length | none=>0
def nm (p:Src) (s:ae):Int:=if s=qM then 0 else if s=sc\/s=iv then 1 else match p.fns.findIdx? (fun f:Fn=>f.name==s) with | some i=>(nE p i:Int) | none => -1
def fV (p:Src) (k:Nd) (ls:List ae):Bool:=(k.kind != 2 || decide (CV p k.s < 0)) || ls.contains k.s
def eE (p:Src) (t:T) (ls:List ae):Int :=
 if dv t=true then (if fV p (n5 t) ls=true then 24 else 0)
 else if nm p t.n.s = -1 then 22 else if nm p t.n.s=(t.kids.length:Int) then 0 else 23
def b6 (p:Src) (t:T) (ls:List ae):Int :=
 if t.n.kind=13 then (if ls.contains t.n.s=true then 21 else if ls.length>=40 then 26 else 0)
 else if t.n.kind=2\/t.n.kind=7 then (if ls.contains t.n.s=false/\p.globals.contains t.n.s=false then 22 else 0)
 else if t.n.kind=3\/t.n.kind=8 then (if ls.contains t.n.s=true\/CV p t.n.s < 0 then 24 else 0)
 else if t.n.kind=4 then eE p t ls
 else 0
structure CS where
 code:Int
 place:Int
 skip:Int
def c7 (p:Src) (c:CS) (a:Nat) (t:T) (ls:List ae):CS :=
 if c.code≠0\/(a:Int)=c.skip then c
 else ⟨b6 p t ls,if b6 p t ls≠0 then t.n.at_ else c.place,if dv t=true then (if (n5 t).kind≠2 then -1 else ((a+1:Nat):Int)) else c.skip⟩
mutual
def iF {σ:Type} (f:σ->Nat->T->List ae->σ):T->Nat->σ->List ae->σ × List ae
 | .mk n l,a,s,ls=>((dI f l (a+1) (f s a (.mk n l) ls) ls).1,if n.kind=13 then (dI f l (a+1) (f s a (.mk n l) ls) ls).2++[n.s] else (dI f l (a+1) (f s a (.mk n l) ls) ls).2)
def dI {σ:Type} (f:σ->Nat->T->List ae->σ):List T->Nat->σ->List ae->σ × List ae
 | [],_,s,ls=>(s,ls)
 | t::r,a,s,ls=>dI f r (a+aJ t) (iF f t a s ls).1 (iF f t a s ls).2
end
theorem xi {σ:Type} (f:σ->Nat->T->List ae->σ) (t:T) (a:Nat) (s:σ) (ls:List ae) :
  iF f t a s ls=((dI f t.kids (a+1) (f s a t ls) ls).1,if t.n.kind=13 then (dI f t.kids (a+1) (f s a t ls) ls).2++[t.n.s] else (dI f t.kids (a+1) (f s a t ls) ls).2):=by
 cases t;rw [iF];rfl
def pU (l:List ae) (k:Nat):Bool:=match l[k]? with | some s=>(l.take k).contains s | none=>false
def wW (l:List ae):Bool:=(List.range l.length).any (pU l)
def gH (p:Src) (f:Fn) (t:T) (a:Nat):Int × Int :=
 if wW f.params=true then (21,0) else ((iF (c7 p) t a ⟨0,0,-1⟩ f.params).1.code,(iF (c7 p) t a ⟨0,0,-1⟩ f.params).1.place)
def ma (l:List ae) (k:Nat):Bool:=match l[k]? with | some s=>nZ s || (l.take k).contains s | none=>false
def fi (l:List ae):Bool:=(List.range l.length).any (ma l)
def eF (l:List Ar):Int:=l.foldl (fun n a=>n+a.size) 0
def jW (p:Src):Bool:=p.arrays.any (fun a=>a.size==0) || ((((decide (p.fns.length > 40) || decide (p.globals.length > 29)) || decide (eF p.arrays > 8000))) || p.fns.any fun f=>decide (f.params.length > 40))
def oA (f:Fn):Bool:=f.name==xB&&f.params.length==0
def gI (p:Src):List Fn->List T->Nat->Int × Int
 | f::r,t::l,a=>if (gH p f t a).1≠0 then gH p f t a else gI p r l (a+aJ t)
 | _,_,_=>(0,0)
def Fb (p:Src) (l:List T):Int × Int :=
 if fi (cR p)=true then (21,0) else if jW p=true then (26,0) else if p.fns.any oA=false then (25,0) else gI p p.fns l 0
def nf (p:Src):Bool:=fI p&&(match kM p.nodes p.fns 0 [] with | some (l,_)=>decide ((Fb p l).1=0) | none=>false)
structure SS where
 ls:List ae
 code:Int
 at_:Int
def SS.fail (c:SS) (k a:Int):SS:=if c.code=0 then ⟨c.ls,k,a⟩ else c
def fH (c:SS) (n:Nd) (k want:Nat):SS:=if k≠want then c.fail 23 n.at_ else c
def gP (p:Src) (c:SS) (t:T):SS × Bool :=
 if t.n.s=qM then (fH c t.n t.kids.length 0,true)
 else if t.n.s=sc then (fH c t.n t.kids.length 1,true)
 else if t.n.s=iv then (fH (if t.kids.length=1/\fV p (n5 t) c.ls=true then c.fail 24 t.n.at_ else c) t.n t.kids.length 1,false)
 else match p.fns.findIdx? (fun f:Fn=>f.name==t.n.s) with
  | none=>(c.fail 22 t.n.at_,false)
  | some i=>(fH c t.n t.kids.length (nE p i),true)
def kP (p:Src) (c:SS) (t:T):SS × Bool :=
 if t.n.kind=2\/t.n.kind=7 then (if c.ls.contains t.n.s=false/\p.globals.contains t.n.s=false then c.fail 22 t.n.at_ else c,true)
 else if t.n.kind=3\/t.n.kind=8 then (if c.ls.contains t.n.s=true\/CV p t.n.s < 0 then c.fail 24 t.n.at_ else c,true)
 else if t.n.kind=4 then gP p c t
 else (c,true)
def nL (c:SS) (n:Nd):SS :=
 if n.kind≠13 then c
 else if c.ls.contains n.s=true then ⟨(c.fail 21 n.at_).ls++[n.s],(c.fail 21 n.at_).code,(c.fail 21 n.at_).at_⟩
 else if c.ls.length=40 then ⟨(c.fail 26 n.at_).ls++[n.s],(c.fail 26 n.at_).code,(c.fail 26 n.at_).at_⟩
 else ⟨c.ls++[n.s],c.code,c.at_⟩
mutual
def oU (p:Src):T->SS->SS
 | .mk n l,c=>nL (if (kP p c (.mk n l)).2=true then jL p l (kP p c (.mk n l)).1 else (kP p c (.mk n l)).1) n
def jL (p:Src):List T->SS->SS
 | [],c=>c
 | t::r,c=>jL p r (oU p t c)
end
theorem xH (p:Src) (t:T) (c:SS):oU p t c=nL (if (kP p c t).2=true then jL p t.kids (kP p c t).1 else (kP p c t).1) t.n:=by cases t;rw [oU];rfl
mutual
def wH:T->Prop
 | .mk n l=>n.kind≠13/\mU l
def mU:List T->Prop
 | []=>True
 | t::r=>wH t/\mU r
end
mutual
def gZ:T->Prop
 | .mk n l=>(n.kind=13->mU l)/\(n.kind=2->l=[])/\dV l
def dV:List T->Prop
 | []=>True
 | t::r=>gZ t/\dV r
end
mutual
theorem aaf:∀ t:T,wH (er t)↔wH t
 | .mk n l=>by rw [er,wH,wH,Il l]
theorem Il:∀ l:List T,mU (aU l)↔mU l
 | []=>by rw [aU]
 | t::r=>by rw [aU,mU,mU,aaf t,Il r]
end
theorem Vu {l:List T}:aU l=[]↔l=[]:=by
 cases l with
 | nil=>rw [aU]
 | cons t r=>rw [aU];simp
mutual
theorem U4:∀ t:T,gZ (er t)↔gZ t
 | .mk n l=>by rw [er,gZ,gZ,Il l,Rb l,Vu]
theorem Rb:∀ l:List T,dV (aU l)↔dV l
 | []=>by rw [aU]
 | t::r=>by rw [aU,dV,dV,U4 t,Rb r]
end
mutual
theorem E.nv:∀ a:E,wH a.tree
 | .num n=>by rw [E.tree,wH];exact ⟨by simp,trivial⟩
 | .name s=>by rw [E.tree,wH];exact ⟨by simp,trivial⟩
 | .at_ s a=>by rw [E.tree,wH,mU,mU];exact ⟨by simp,E.nv a,trivial⟩
 | .call s l=>by rw [E.tree,wH];exact ⟨by simp,E.nvs l⟩
 | .un s a=>by rw [E.tree,wH,mU,mU];exact ⟨by simp,E.nv a,trivial⟩
 | .bin s a b=>by rw [E.tree,wH,mU,mU,mU];exact ⟨by simp,E.nv a,E.nv b,trivial⟩
theorem E.nvs:∀ l:List E,mU (E.trees l)
 | []=>trivial
 | a::l=>by rw [E.trees,mU];exact ⟨E.nv a,E.nvs l⟩
end
mutual
theorem E.wf:∀ a:E,gZ a.tree
 | .num n=>zei
 | .name s=>zei
 | .at_ s a=>by rw [E.tree,gZ,dV,dV];exact zaE
 | .call s l=>by rw [E.tree,gZ];exact ⟨fun h=>absurd h zfL,fun h=>absurd h zfL,E.DT l⟩
 | .un s a=>by rw [E.tree,gZ,dV,dV];exact zaE
 | .bin s a b=>by rw [E.tree,gZ,dV,dV,dV];exact zdt
theorem E.DT:∀ l:List E,dV (E.trees l)
 | []=>trivial
 | a::l=>by rw [E.trees,dV];exact ⟨E.wf a,E.DT l⟩
end
mutual
theorem S.wf:∀ a:S,gZ a.tree
 | .set s a=>by rw [S.tree,gZ,dV,dV];exact zaE
 | .put s a b=>by rw [S.tree,gZ,dV,dV,dV];exact zdt
 | .if1 c b=>zbE
 | .if2 c b d=>by rw [S.tree,gZ,dV,dV,dV,dV,gZ,gZ];exact ⟨fun h=>absurd h zfL,fun h=>absurd h zfL,E.wf c,⟨fun h=>absurd h zfL,fun h=>absurd h zfL,S.DT b⟩,⟨fun h=>absurd h zfL,fun h=>absurd h zfL,S.DT d⟩,trivial⟩
 | .while_ c b=>zbE
 | .ret a=>by rw [S.tree,gZ,dV,dV];exact zaE
 | .do_ a=>by rw [S.tree,gZ,dV,dV];exact zaE
 | .var s a=>by rw [S.tree,gZ,dV,dV,mU,mU];exact ⟨fun _=>⟨E.nv a,trivial⟩,fun h=>absurd h zfL,E.wf a,trivial⟩
theorem S.DT:∀ l:List S,dV (S.trees l)
 | []=>trivial
 | a::l=>by rw [S.trees,dV];exact ⟨S.wf a,S.DT l⟩
end
theorem Zl (l:List S):gZ (bY l):=by
 rw [bY,gZ];exact ⟨fun h=>absurd h zfL,fun h=>absurd h zfL,S.DT l⟩
theorem SS.pV (c:SS) (k a:Int):(c.fail k a).ls=c.ls:=by unfold SS.fail;split <;> rfl
theorem yZ (c:SS) (n:Nd) (k w:Nat):(fH c n k w).ls=c.ls:=by unfold fH;split;(· exact c.pV _ _);rfl
theorem xQ (p:Src) (c:SS) (t:T):(kP p c t).1.ls=c.ls:=by
 unfold kP gP;split
 ·simp only;split;(· exact c.pV _ _);rfl
 split
 ·simp only;split;(· exact c.pV _ _);rfl
 split
 ·split
  ·exact yZ _ _ _ _
  split
  ·exact yZ _ _ _ _
  split
  ·simp only;rw [yZ];split;(· exact c.pV _ _);rfl
  split
  ·exact c.pV _ _
  ·exact yZ _ _ _ _
 ·rfl
mutual
theorem aac (p:Src):∀ (t:T),wH t->∀ c,(oU p t c).ls=c.ls
 | .mk n l,h,c=>by
  rw [wH] at h;rw [oU,nL,ab h.1];split
  ·rw [Ii p l h.2,xQ]
  ·exact xQ _ _ _
theorem Ii (p:Src):∀ (l:List T),mU l->∀ c,(jL p l c).ls=c.ls
 | [],_,c=>by rw [jL]
 | t::r,h,c=>by
  rw [mU] at h;rw [jL,Ii p r h.2,aac p t h.1]
end
theorem SS.AO {c:SS} (h:c.code≠0) (k a:Int):c.fail k a=c:=by unfold SS.fail;rw [F h]
theorem SS.rf (c:SS) {k:Int} (hk:k≠0) (a:Int):(c.fail k a).code≠0:=by
 unfold SS.fail;split
 ·exact hk
 ·assumption
theorem TH {c:SS} (h:c.code≠0) (n:Nd) (k w:Nat):fH c n k w=c:=by unfold fH;rw [SS.AO h];split <;> rfl
theorem V6 (p:Src) {c:SS} (h:c.code≠0) (t:T):(kP p c t).1=c:=by
 unfold kP gP;simp only [SS.AO h,TH h,ite_self];split
 ·rfl
 split
 ·rfl
 split
 ·split
  ·rfl
  split
  ·rfl
  split
  ·rfl
  split <;> rfl
 ·rfl
theorem A9 {c:SS} (h:c.code≠0) (n:Nd):(nL c n).code≠0:=by
 unfold nL;rw [SS.AO h,SS.AO h];split
 ·exact h
 split
 ·exact h
 split <;> exact h
mutual
theorem UI (p:Src):∀ (t:T) (c:SS),c.code≠0->(oU p t c).code≠0
 | .mk n l,c,h=>by
  rw [oU];refine A9 ?_ n;rw [V6 p h];split
  ·exact xI p l c h
  ·exact h
theorem xI (p:Src):∀ (l:List T) (c:SS),c.code≠0->(jL p l c).code≠0
 | [],c,h=>by rw [jL];exact h
 | t::r,c,h=>by rw [jL];exact xI p r _ (UI p t c h)
end
theorem Tm (p:Src) {c:CS} (h:c.code≠0) (a:Nat) (t:T) (ls:List ae):c7 p c a t ls=c:=by unfold c7;rw [ab (.inl h)]
mutual
theorem ZE (p:Src):∀ (t:T) (a:Nat) (c:CS) (ls:List ae),c.code≠0->(iF (c7 p) t a c ls).1=c
 | .mk n l,a,c,ls,h=>by rw [iF,Tm p h];exact xj p l _ c ls h
theorem xj (p:Src):∀ (l:List T) (a:Nat) (c:CS) (ls:List ae),c.code≠0->(dI (c7 p) l a c ls).1=c
 | [],a,c,ls,h=>by rw [dI]
 | t::r,a,c,ls,h=>by
  have I:=ZE p t a c ls h;rw [dI,I];exact xj p r _ c _ h
end
def EZ (a:Nat) (r:CS × List ae) (q:SS):Prop:=(r.1.code=0/\q.code=0/\r.2=q.ls/\r.1.skip < (a:Int)/\q.ls.length<=40)\/(r.1.code≠0/\q.code≠0)
theorem Tj (p:Src) (t:T) (HP:t.n.kind=13->mU t.kids) (qD:∀ k∈t.kids,k.n.kind=2->k.kids=[])
  (ih:∀ (a:Nat) (r:CS) (q:SS),r.code=0->q.code=0->r.skip < (a:Int)->q.ls.length<=40->EZ (a+az t.kids) (dI (c7 p) t.kids a r q.ls) (jL p t.kids q))
  (a:Nat) (r:CS) (q:SS) (hr:r.code=0) (hq:q.code=0) (hs:r.skip < (a:Int)) (hl:q.ls.length<=40):EZ (a+aJ t) (iF (c7 p) t a r q.ls) (oU p t q):=by
 have cn:¬ (r.code≠0\/(a:Int)=r.skip):=by
  rintro (h | h)
  ·exact h hr
  ·omega
 obtain ⟨pl,bW⟩:∃ pl,c7 p r a t q.ls=⟨b6 p t q.ls,pl,if dv t=true then (if (n5 t).kind≠2 then -1 else ((a+1:Nat):Int)) else r.skip⟩:=by
  unfold c7;rw [F cn];exact zea
 have cX:=eB t
 have bad:∀ x:SS,b6 p t q.ls≠0->x.code≠0->EZ (a+aJ t) (iF (c7 p) t a r q.ls) x:=fun x I M=>by
  refine .inr ⟨?_,M⟩;rw [xi,bW];simp only;rw [xj p t.kids _ _ _ I];exact I
 have go:b6 p t q.ls=0->dv t=false->t.n.kind≠13->kP p q t=(q,true)->EZ (a+aJ t) (iF (c7 p) t a r q.ls) (oU p t q):=fun I M h3 h4=>by
  have:=ih (a+1) ⟨0,pl,r.skip⟩ q rfl hq zgx hl;rw [xi,xH,h4,bW,I,M,F h3,nL,ab h3];simp only [if_true,Bool.false_eq_true,if_false];rw [show a+aJ t=a+1+az t.kids by omega];exact this
 by_cases fv:t.n.kind=13
 ·have hnv:=HP fv
  have hz:dv t=false:=by unfold dv;rw [fv];rfl
  have pz:kP p q t=(q,true):=by unfold kP;rw [F aq,F aq,F aq]
  have iH:(jL p t.kids q).ls=q.ls:=Ii p t.kids hnv q
  have tV:b6 p t q.ls=if q.ls.contains t.n.s=true then 21 else if q.ls.length>=40 then 26 else 0:=by
   unfold b6;rw [ab fv]
  rw [xH,pz];simp only [if_true]
  by_cases hc:q.ls.contains t.n.s=true
  ·refine bad _ (by rw [tV,ab hc];decide) ?_;rw [nL,F (by simpa using fv),iH,ab hc];exact SS.rf _ av _
  by_cases h40:q.ls.length>=40
  ·refine bad _ (by rw [tV,F hc,ab h40];decide) ?_;rw [nL,F (by simpa using fv),iH,F hc,ab aq];exact SS.rf _ av _
  have h0:b6 p t q.ls=0:=by rw [tV,F hc,F h40]
  have:=ih (a+1) ⟨0,pl,r.skip⟩ q rfl hq zgx hl;rw [nL,F (by simpa using fv),iH,F hc,F aq,xi,bW,h0,hz,ab fv];simp only [Bool.false_eq_true,if_false];rw [show a+aJ t=a+1+az t.kids by omega]
  rcases this with ⟨k1,k2,k3,k4,k5⟩ | ⟨k1,k2⟩
  ·refine .inl ⟨k1,k2,?_,k4,?_⟩
   ·show _++_=_++_;rw [k3,iH]
   ·show (q.ls++[t.n.s]).length<=40;rw [aM,List.length_singleton];omega
  ·exact .inr ⟨k1,k2⟩
 by_cases M:t.n.kind=2\/t.n.kind=7
 ·have hz:dv t=false:=by
   exact zfw
  by_cases hc:q.ls.contains t.n.s=false/\p.globals.contains t.n.s=false
  ·refine bad _ (by unfold b6;rw [F fv,ab M,ab hc];decide) ?_
   have pz:kP p q t=(q.fail 22 t.n.at_,true):=by unfold kP;rw [ab M,ab hc]
   exact zdH
  ·exact go (by unfold b6;rw [F fv,ab M,F hc]) hz fv (by unfold kP;rw [ab M,F hc])
 by_cases h3:t.n.kind=3\/t.n.kind=8
 ·have hz:dv t=false:=by
   exact zfw
  by_cases hc:q.ls.contains t.n.s=true\/CV p t.n.s < 0
  ·refine bad _ (by unfold b6;rw [F fv,F M,ab h3,ab hc];decide) ?_
   have pz:kP p q t=(q.fail 24 t.n.at_,true):=by unfold kP;rw [F M,ab h3,ab hc]
   exact zdH
  ·exact go (by unfold b6;rw [F fv,F M,ab h3,F hc]) hz fv (by unfold kP;rw [F M,ab h3,F hc])
 by_cases h4:t.n.kind=4
 ·have tV:b6 p t q.ls=eE p t q.ls:=by unfold b6;rw [F fv,F M,F h3,ab h4]
  have pz:kP p q t=gP p q t:=by unfold kP;rw [F M,F h3,ab h4]
  have fin:∀ x:SS × Bool,gP p q t=x->b6 p t q.ls≠0->x.1.code≠0->EZ (a+aJ t) (iF (c7 p) t a r q.ls) (oU p t q):=fun x hx I M=>by
   refine bad _ I ?_;rw [xH,pz,hx];refine A9 ?_ t.n;split
   ·exact xI p t.kids _ M
   ·exact M
  have MA:dv t=((t.n.s==iv)&&(t.kids.length==1)):=by unfold dv;rw [h4];rfl
  have some_:∀ w:Nat,t.n.s≠iv->nm p t.n.s=(w:Int)->gP p q t=(fH q t.n t.kids.length w,true)->EZ (a+aJ t) (iF (c7 p) t a r q.ls) (oU p t q):=fun w e1 e2 e3=>by
   have hz:dv t=false:=by rw [MA,show (t.n.s==iv)=false by simpa using e1];rfl
   have Ft:eE p t q.ls=if (w:Int)=(t.kids.length:Int) then 0 else 23:=by
    unfold eE;rw [hz,F av,e2,F aq]
   by_cases hk:t.kids.length=w
   ·refine go (by rw [tV,Ft,ab aq]) hz fv ?_;rw [pz,e3,fH,F zf8]
   ·refine fin _ e3 (by rw [tV,Ft,F aq];decide) ?_;rw [fH,ab hk];exact SS.rf _ av _
  by_cases hg:t.n.s=qM
  ·exact some_ 0 (by rw [hg];decide) (by unfold nm;rw [ab hg];rfl) (by unfold gP;rw [ab hg])
  by_cases hp:t.n.s=sc
  ·exact some_ 1 (by rw [hp];decide) (by unfold nm;rw [F hg,ab (.inl hp)];rfl) (by unfold gP;rw [F hg,ab hp])
  by_cases hz:t.n.s=iv
  ·have fk:gP p q t=(fH (if t.kids.length=1/\fV p (n5 t) q.ls=true then q.fail 24 t.n.at_ else q) t.n t.kids.length 1,false):=by
    unfold gP;rw [F hg,F hp,ab hz]
   by_cases hk:t.kids.length=1
   ·have iI:dv t=true:=by rw [MA,hz,hk];rfl
    have Ft:eE p t q.ls=if fV p (n5 t) q.ls=true then 24 else 0:=by unfold eE;rw [ab iI]
    by_cases hb:fV p (n5 t) q.ls=true
    ·refine fin _ fk (by rw [tV,Ft,ab hb];decide) ?_;rw [ab ⟨hk,hb⟩,fH,F zf8];exact SS.rf _ av _
    ·have abl:gP p q t=(q,false):=by rw [fk,F (fun h=>hb h.2),fH,F zf8]
     rw [xH,pz,abl,nL,ab fv];simp only [Bool.false_eq_true,if_false]
     have h0:b6 p t q.ls=0:=by rw [tV,Ft,F hb]
     obtain ⟨k,gy⟩:∃ k,t.kids=[k]:=by
      match hl:t.kids,hk with
      | [k],_=>exact ⟨k,rfl⟩
     have BE:n5 t=k.n:=by unfold n5;rw [gy]
     have rV:k.n.kind=2:=by
      have:fV p k.n q.ls=false:=by rw [<-BE];simpa using hb
      unfold fV at this;simp only [Bool.or_eq_false_iff] at this;simpa using this.1.1
     have fB:k.kids=[]:=qD k (by rw [gy];exact List.mem_singleton.2 rfl) rV
     have wq:aJ k=1:=by rw [eB,fB,az]
     have Si:∀ c:CS,((a+1:Nat):Int)=c.skip->c7 p c (a+1) k q.ls=c:=fun c hc=>by unfold c7;rw [ab (.inr hc)]
     rw [xi,bW,h0,iI,F fv,gy,BE];simp only [if_true,dI];rw [xi,fB];simp only [dI];rw [F (by rw [rV];decide),Si _ rfl,F (by rw [rV];decide)];refine .inl ⟨rfl,hq,rfl,?_,hl⟩;rw [cX,gy,az,az,wq];exact zfx
   ·have xw:dv t=false:=by rw [MA,show (t.kids.length==1)=false by simpa using hk,Bool.and_false]
    refine fin _ fk ?_ ?_
    ·rw [tV];unfold eE;rw [xw,F av]
     have:nm p t.n.s=1:=by unfold nm;rw [F hg,ab (.inr hz)]
     rw [this,F av,F aq];decide
    ·rw [F (fun h=>hk h.1),fH,ab hk];exact SS.rf _ av _
  have fm:nm p t.n.s=match p.fns.findIdx? (fun f:Fn=>f.name==t.n.s) with | some i=>(nE p i:Int) | none => -1:=by
   unfold nm;rw [F hg,F (by rintro (h | h);(· exact hp h);exact hz h)]
  have fk:gP p q t=match p.fns.findIdx? (fun f:Fn=>f.name==t.n.s) with | none=>(q.fail 22 t.n.at_,false) | some i=>(fH q t.n t.kids.length (nE p i),true):=by
   unfold gP;rw [F hg,F hp,F hz]
  cases hf:p.fns.findIdx? (fun f:Fn=>f.name==t.n.s) with
  | some i =>
   rw [hf] at fm fk;exact some_ (nE p i) hz fm fk
  | none =>
   rw [hf] at fm fk;refine fin _ fk ?_ (SS.rf _ av _);rw [tV];unfold eE;rw [MA,show (t.n.s==iv)=false by simpa using hz,Bool.false_and,F av,fm];simp
 ·exact go (by unfold b6;rw [F fv,F M,F h3,F h4]) (by unfold dv;rw [show (t.n.kind==4)=false by simpa using h4];rfl) fv
   (by unfold kP;rw [F M,F h3,F h4])
theorem Ja:∀ {l:List T},dV l->∀ k∈l,gZ k
 | [],_,k,hk=>by cases hk
 | t::r,h,k,hk=>by
  rw [dV] at h
  rcases dw hk with rfl | hk
  ·exact h.1
  ·exact Ja h.2 k hk
mutual
theorem Y4 (p:Src):∀ (t:T),gZ t->∀ (a:Nat) (r:CS) (q:SS),r.code=0->q.code=0->r.skip < (a:Int)->q.ls.length<=40->EZ (a+aJ t) (iF (c7 p) t a r q.ls) (oU p t q)
 | .mk n l,hw=>by
  rw [gZ] at hw;refine Tj p (.mk n l) hw.1 (fun k hk M=>?_) (Y3 p l hw.2.2);have:=Ja hw.2.2 k hk;obtain ⟨m,j⟩:=k;rw [gZ] at this;exact this.2.1 M
theorem Y3 (p:Src):∀ (l:List T),dV l->∀ (a:Nat) (r:CS) (q:SS),r.code=0->q.code=0->r.skip < (a:Int)->q.ls.length<=40->EZ (a+az l) (dI (c7 p) l a r q.ls) (jL p l q)
 | [],_,a,r,q,hr,hq,hs,hl=>by rw [dI,jL,az];exact .inl ⟨hr,hq,rfl,by simpa using hs,hl⟩
 | t::l,hw,a,r,q,hr,hq,hs,hl=>by
  rw [dV] at hw;rw [dI,jL,az]
  rcases Y4 p t hw.1 a r q hr hq hs hl with ⟨k1,k2,k3,k4,k5⟩ | ⟨k1,k2⟩
  ·rw [k3];have:=Y3 p l hw.2 (a+aJ t) _ _ k1 k2 k4 k5;rw [gn] at this;exact this
  ·exact .inr ⟨by rw [xj p l _ _ _ k1];exact k1,xI p l _ k2⟩
end
def iu (c k:Int):Int:=if c=0 then k else c
def oc (a:Ar):Bool:=decide (a.size < 1) || decide (a.size > 8000)
def lu (p:Src):Bool:=match p.fns.findIdx? (fun f:Fn=>f.name==xB) with | none=>true | some i=>decide (nE p i > 0)
def vd (p:Src):Bool:=(decide (p.fns.length > 40) || decide (p.globals.length > 29)) || decide (eF p.arrays > 8000)
def tj (p:Src) (c:Int):Int :=
 if p.arrays.any oc=true then iu c 26
 else if lu p=true then iu (if (p.fns.any fun f=>decide (f.params.length > 40))=true then iu (if vd p=true then iu c 26 else c) 26 else (if vd p=true then iu c 26 else c)) 25
 else if (p.fns.any fun f=>decide (f.params.length > 40))=true then iu (if vd p=true then iu c 26 else c) 26 else (if vd p=true then iu c 26 else c)
def sk (f:Fn) (c:SS):SS:=⟨f.params,if wW f.params=true then iu c.code 21 else c.code,if wW f.params=true/\c.code=0 then 0 else c.at_⟩
def pf (p:Src):List Fn->List T->SS->SS
 | f::r,t::l,c=>pf p r l (if c.code=0 then oU p t (sk f c) else c)
 | _,_,c=>c
def Of (p:Src) (l:List T):SS:=pf p p.fns l ⟨[],tj p (if fi (cR p)=true then 21 else 0),0⟩
theorem AP (p:Src):∀ (fs:List Fn) (l:List T) (c:SS),c.code≠0->(pf p fs l c).code≠0
 | f::r,t::l,c,h=>by rw [pf,F h];exact AP p r l c h
 | [],_,c,h=>by rw [pf];(· exact h);intros;simp_all
 | f::r,[],c,h=>by rw [pf];(· exact h);intros;simp_all
theorem Xa (p:Src) (f:Fn) (t:T) (a:Nat) (c:SS) (hw:gZ t) (hc:c.code=0) (hp:f.params.length<=40):(gH p f t a).1=0↔(oU p t (sk f c)).code=0:=by
 unfold gH
 by_cases hd:wW f.params=true
 ·rw [ab hd]
  have:(sk f c).code≠0:=by unfold sk;rw [ab hd];unfold iu;rw [ab hc];show (21:Int)≠0;decide
  have M:=UI p t _ this;constructor
  ·intro h;cases h
  ·intro h;exact absurd h M
 ·rw [F hd]
  have hq:(sk f c).code=0:=by unfold sk;rw [F hd];exact hc
  have I:=Y4 p t hw a ⟨0,0,-1⟩ (sk f c) rfl hq (by show (-1:Int) < _;omega) hp;show (iF (c7 p) t a ⟨0,0,-1⟩ (sk f c).ls).1.code=0↔_
  rcases I with ⟨k1,k2,_⟩ | ⟨k1,k2⟩
  ·exact ⟨fun _=>k2,fun _=>k1⟩
  ·exact ⟨fun h=>absurd h k1,fun h=>absurd h k2⟩
theorem Ks (p:Src):∀ (fs:List Fn) (l:List T) (a:Nat) (c:SS),c.code=0->(∀ t∈l,gZ t)->(∀ f∈fs,f.params.length<=40)->((gI p fs l a).1=0↔(pf p fs l c).code=0)
 | f::r,t::l,a,c,hc,hw,hp=>by
  have I:=Xa p f t a c (hw t mem_cons_self) hc (hp f mem_cons_self);rw [gI,pf,ab hc]
  by_cases h:(gH p f t a).1=0
  ·rw [F zfP];exact Ks p r l _ _ (I.1 h) (fun u hu=>hw u (cU _ hu)) (fun g hg=>hp g (cU _ hg))
  ·rw [ab h]
   have M:(oU p t (sk f c)).code≠0:=fun e=>h (I.2 e)
   exact ⟨fun e=>absurd e h,fun e=>absurd e (AP p r l _ M)⟩
 | [],_,a,c,hc,_,_=>by rw [gI,pf];(· exact ⟨fun _=>hc,fun _=>rfl⟩);all_goals (intros;simp_all)
 | f::r,[],a,c,hc,_,_=>by rw [gI,pf];(· exact ⟨fun _=>hc,fun _=>rfl⟩);all_goals (intros;simp_all)
theorem cells_from (l:List Ar):∀ n:Int,l.foldl (fun n a=>n+a.size) n=n+eF l:=by
 induction l with
 | nil=>intro n;simp [eF]
 | cons a l ih =>
  intro n;unfold eF;rw [foldl_cons,foldl_cons,ih,ih (0+a.size)];omega
theorem Mi (a:Ar) (l:List Ar):eF (a::l)=a.size+eF l:=by
 unfold eF;rw [foldl_cons,cells_from];unfold eF;omega
theorem RD {l:List Ar} (h:∀ a∈l,0<=a.size):0<=eF l/\∀ a∈l,a.size<=eF l:=by
 induction l with
 | nil=>exact ⟨by simp [eF],fun a h=>by cases h⟩
 | cons b l ih =>
  obtain ⟨I,M⟩:=ih fun a ha=>h a (cU _ ha)
  have hb:=h b mem_cons_self;rw [Mi];refine ⟨by omega,fun a ha=>?_⟩
  rcases dw ha with rfl | ha
  ·omega
  ·have:=M a ha;omega
theorem Jp {l:List ae} (h:fi l=false) {i j:Nat} {s:ae} (hi:l[i]?=some s) (hj:l[j]?=some s):i=j:=by
 have key:∀ x y:Nat,x < y->l[x]?=some s->l[y]?=some s->False:=fun x y lG I M=>by
  have hy:=(bq M).1;unfold fi at h;rw [any_eq_false] at h;have:=h y (List.mem_range.2 hy);unfold ma at this;rw [M] at this;simp only [Bool.or_eq_true,not_or] at this;apply this.2;rw [il];rw [List.mem_take_iff_getElem];have hx:=(bq I);exact ⟨x,by have:=hx.1;omega,hx.2⟩
 rcases Nat.lt_trichotomy i j with I | I | I
 ·exact (key i j I hi hj).elim
 ·exact I
 ·exact (key j i I hj hi).elim
theorem H9 {p:Src} (h:fi (cR p)=false):p.fns.any oA=true↔lu p=false:=by
 have wj:∀ (i:Nat) f,p.fns[i]?=some f->(cR p)[(p.globals++fg p).length+i]?=some f.name:=fun i f hf=>by
  unfold cR;rw [fw aq,Nat.add_sub_cancel_left,jB,aS,hf];rfl
 unfold lu
 cases hf:p.fns.findIdx? (fun f:Fn=>f.name==xB) with
 | none =>
  rw [List.findIdx?_eq_none_iff] at hf;constructor
  ·intro I;obtain ⟨f,M,h3⟩:=qc.1 I;unfold oA at h3;have:=hf f M;rw [this] at h3;cases h3
  ·intro I;cases I
 | some i =>
  rw [List.findIdx?_eq_some_iff_getElem] at hf;obtain ⟨hi,I,M⟩:=hf
  have BA:p.fns[i]?=some p.fns[i]:=by simp [hi]
  simp only [nE,BA];constructor
  ·intro h3;obtain ⟨f,h4,h5⟩:=qc.1 h3;obtain ⟨j,hj⟩:=List.getElem?_of_mem h4;unfold oA at h5;simp only [aH,beq_iff_eq] at h5 I;have e1:=wj i _ BA;have e2:=wj j f hj;rw [I] at e1;rw [h5.1] at e2;have:=Jp h e1 e2
   have:i=j:=by omega
   subst this;rw [hj] at BA;cases BA;simp [h5.2]
  ·intro h3;simp only [gt_iff_lt,decide_eq_false_iff_not,Nat.not_lt,Nat.le_zero] at h3;exact qc.2 ⟨p.fns[i],List.getElem_mem hi,by unfold oA;rw [I,h3];rfl⟩
theorem Wl {p:Src} (ha:∀ a∈p.arrays,0<=a.size):(jW p=false/\lu p=false)↔tj p 0=0:=by
 obtain ⟨rU,hc⟩:=RD ha;have f26:iu 0 26=26:=rfl
 have f25:∀ c,c≠0->iu c 25=c:=fun c h=>by unfold iu;rw [F h]
 have aaJ:∀ c,iu c 25≠0:=fun c=>by
  unfold iu;split
  ·decide
  ·assumption
 have aaK:∀ c,iu c 26≠0:=fun c=>by
  unfold iu;split
  ·decide
  ·assumption
 unfold tj
 by_cases I:p.arrays.any oc=true
 ·rw [ab I,f26];refine ⟨fun h=>?_,fun h=>by cases h⟩;obtain ⟨a,M,h3⟩:=qc.1 I;have h4:=h.1;unfold jW at h4;simp only [Bool.or_eq_false_iff,decide_eq_false_iff_not] at h4;have h5:=List.any_eq_false.1 h4.1 a M;have h6:=hc a M;have h7:=ha a M;unfold oc at h3;simp only [Bool.or_eq_true,decide_eq_true_eq] at h3;simp only [beq_iff_eq] at h5;have h8:=h4.2.1.2;omega
 rw [F I]
 have hz:p.arrays.any (fun a=>a.size==0)=false:=by
  rw [any_eq_false];intro a M h3;apply I;refine qc.2 ⟨a,M,?_⟩;unfold oc;simp only [beq_iff_eq] at h3;rw [h3];rfl
 have htm:jW p=(vd p || p.fns.any fun f=>decide (f.params.length > 40)):=by
  unfold jW vd;rw [hz,Bool.false_or]
 rw [htm]
 by_cases M:lu p=true
 ·rw [ab M];exact ⟨fun h=>(by rw [M] at h;cases h.2),fun h=>absurd h (aaJ _)⟩
 rw [F M]
 have sF:lu p=false:=by simpa using M
 by_cases h3:(p.fns.any fun f=>decide (f.params.length > 40))=true
 ·rw [ab h3,h3,Bool.or_true];exact ⟨fun h=>(by cases h.1),fun h=>absurd h (aaK _)⟩
 rw [F h3,show (p.fns.any fun f=>decide (f.params.length > 40))=false by simpa using h3,Bool.or_false]
 by_cases h4:vd p=true
 ·rw [ab h4,h4];exact ⟨fun h=>(by cases h.1),fun h=>zfS⟩
 ·rw [F h4];exact ⟨fun _=>rfl,fun _=>⟨by simpa using h4,sF⟩⟩
theorem WV {p:Src} {l:List T} (ha:∀ a∈p.arrays,0<=a.size) (hw:∀ t∈l,gZ t):(Fb p l).1=0↔(Of p l).code=0:=by
 have ne:tj p 21≠0:=by
  have f:∀ c k,c≠0->iu c k=c:=fun c k h=>by unfold iu;rw [F h]
  unfold tj;simp only [f 21 26 av,ite_self,f 21 25 av]
  decide
 unfold Fb Of
 by_cases I:fi (cR p)=true
 ·rw [ab I,ab I];exact ⟨fun h=>zfS,fun h=>absurd h (AP p _ _ _ ne)⟩
 rw [F I,F I];have hs:=Wl ha
 by_cases M:tj p 0=0
 ·obtain ⟨h3,h4⟩:=hs.2 M;rw [F (by rw [h3];decide),F (by rw [(H9 zfU).2 h4];decide),M]
  refine Ks p _ _ _ _ rfl hw fun f hf=>?_
  unfold jW at h3;simp only [Bool.or_eq_false_iff] at h3;have:=List.any_eq_false.1 h3.2.2 f hf;exact zb8
 ·refine ⟨fun h=>?_,fun h=>absurd h (AP p _ _ _ M)⟩;exfalso;apply M;apply hs.1
  by_cases h3:jW p=true
  ·rw [ab h3] at h;cases h
  ·rw [F h3] at h
   by_cases h4:p.fns.any oA=false
   ·rw [ab h4] at h;cases h
   ·exact ⟨by simpa using h3,(H9 zfU).1 (by simpa using h4)⟩
mutual
def fa:T->List ae
 | .mk n l=>dT l++(if n.kind=13 then [n.s] else [])
def dT:List T->List ae
 | []=>[]
 | t::r=>fa t++dT r
end
theorem TD (t:T):fa t=dT t.kids++(if t.n.kind=13 then [t.n.s] else []):=by cases t;rw [fa];rfl
mutual
theorem D9 {σ:Type} (f:σ->Nat->T->List ae->σ):∀ (t:T) (a:Nat) (s:σ) (ls:List ae),(iF f t a s ls).2=ls++fa t
 | .mk n l,a,s,ls=>by
  rw [iF,fa];simp only;rw [pe f l];split
  ·rw [de]
  ·rw [bO]
theorem pe {σ:Type} (f:σ->Nat->T->List ae->σ):∀ (l:List T) (a:Nat) (s:σ) (ls:List ae),(dI f l a s ls).2=ls++dT l
 | [],a,s,ls=>by rw [dI,dT,bO]
 | t::r,a,s,ls=>by rw [dI,pe f r,D9 f t,dT,de]
end
mutual
def FQ (p:Src):T->List ae->Prop
 | .mk n l,ls=>b6 p (.mk n l) ls=0/\(dv (.mk n l)=false->EB p l ls)
def EB (p:Src):List T->List ae->Prop
 | [],_=>True
 | t::r,ls=>FQ p t ls/\EB p r (ls++fa t)
end
mutual
theorem UL (p:Src):∀ (t:T),gZ t->∀ (a:Nat) (r:CS) (ls:List ae),r.code=0->r.skip < (a:Int)->(iF (c7 p) t a r ls).1.code=0->FQ p t ls/\(iF (c7 p) t a r ls).1.skip < ((a+aJ t:Nat):Int)
 | .mk n l,hw,a,r,ls,hr,hs,hc=>by
  rw [gZ] at hw
  have cn:¬ (r.code≠0\/(a:Int)=r.skip):=by
   rintro (h | h)
   ·exact h hr
   ·omega
  obtain ⟨pl,bW⟩:∃ pl,c7 p r a (.mk n l) ls=⟨b6 p (.mk n l) ls,pl,if dv (.mk n l)=true then (if (n5 (.mk n l)).kind≠2 then -1 else ((a+1:Nat):Int)) else r.skip⟩:=by
   unfold c7;rw [F cn];exact zea
  rw [iF] at hc |-;simp only at hc |-;rw [bW] at hc |-
  have h0:b6 p (.mk n l) ls=0:=by
   by_cases h0:b6 p (.mk n l) ls=0
   ·exact h0
   ·rw [xj p l _ _ _ h0] at hc;exact hc
  rw [h0] at hc |-
  by_cases hz:dv (.mk n l)=true
  ·have hk:l.length=1:=by
    unfold dv at hz;simp only [aH,beq_iff_eq] at hz;exact hz.2
   have h4:n.kind=4/\n.s=iv:=by
    unfold dv at hz;simp only [aH,beq_iff_eq] at hz;exact hz.1
   have hb:fV p (n5 (.mk n l)) ls=false:=by
    have e:b6 p (.mk n l) ls=eE p (.mk n l) ls:=by
     unfold b6;rw [F (by show ¬ n.kind=13;omega),F (by show ¬ (n.kind=2\/n.kind=7);omega),F (by show ¬ (n.kind=3\/n.kind=8);omega),ab (by show n.kind=4;omega)]
    rw [e] at h0;unfold eE at h0;rw [ab hz] at h0
    by_cases hb:fV p (n5 (.mk n l)) ls=true
    ·rw [ab hb] at h0;cases h0
    ·simpa using hb
   have rV:(n5 (.mk n l)).kind=2:=by
    unfold fV at hb;simp only [Bool.or_eq_false_iff] at hb;simpa using hb.1.1
   rw [ab hz,F (by rw [rV];decide)] at hc |-
   match l,hk,hw with
   | [k],_,hw =>
    have abr:k.n.kind=2:=rV;rw [dV] at hw
    have fB:k.kids=[]:=by
     have:=hw.2.2.1;obtain ⟨m,j⟩:=k;rw [gZ] at this;exact this.2.1 abr
    have wq:aJ k=1:=by rw [eB,fB,az]
    refine ⟨by rw [FQ];exact ⟨h0,fun h=>by rw [hz] at h;cases h⟩,?_⟩;simp only [dI];rw [xi,fB];simp only [dI]
    have Si:c7 p ⟨0,pl,((a+1:Nat):Int)⟩ (a+1) k ls=⟨0,pl,((a+1:Nat):Int)⟩:=by unfold c7;rw [ab (.inr rfl)]
    rw [Si,aJ,az,az,wq];exact zfx
  ·have hz':dv (.mk n l)=false:=by simpa using hz
   rw [F hz] at hc |-;have h:=Qn p l hw.2.2 (a+1) ⟨0,pl,r.skip⟩ ls rfl zgx hc;refine ⟨by rw [FQ];exact ⟨h0,fun _=>h.1⟩,?_⟩;rw [aJ,show a+(az l+1)=a+1+az l by omega];exact h.2
theorem Qn (p:Src):∀ (l:List T),dV l->∀ (a:Nat) (r:CS) (ls:List ae),r.code=0->r.skip < (a:Int)->(dI (c7 p) l a r ls).1.code=0->EB p l ls/\(dI (c7 p) l a r ls).1.skip < ((a+az l:Nat):Int)
 | [],_,a,r,ls,hr,hs,hc=>by rw [dI,az];exact ⟨trivial,by simpa using hs⟩
 | t::l,hw,a,r,ls,hr,hs,hc=>by
  rw [dV] at hw;rw [dI] at hc |-
  have I:(iF (c7 p) t a r ls).1.code=0:=by
   by_cases I:(iF (c7 p) t a r ls).1.code=0
   ·exact I
   ·rw [xj p l _ _ _ I] at hc;exact hc
  obtain ⟨M,h3⟩:=UL p t hw.1 a r ls hr hs I;obtain ⟨h4,h5⟩:=Qn p l hw.2 _ _ _ I h3 hc;rw [D9] at h4;rw [EB,az,<-gn];exact ⟨⟨M,h4⟩,h5⟩
end
def v7 (names:List ae) (s:ae):Int:=dm (fun x=>x==s) names
def yd (names:List ae) (n:Nd) (known:List ae):Nd :=
 if n.kind=13 then ⟨n.kind,n.at_,v7 names n.s+1,n.s,n.kids⟩
 else if (n.kind=2\/n.kind=7)/\known.contains n.s=true then ⟨n.kind,n.at_,v7 names n.s+1,n.s,n.kids⟩ else n
mutual
def lR (names:List ae):T->List ae->T
 | .mk n l,known=>.mk (yd names n known) (ir names l known)
def ir (names:List ae):List T->List ae->List T
 | [],_=>[]
 | t::r,known=>lR names t known::ir names r (known++fa t)
end
mutual
def zT:T->Prop
 | .mk n l=>(n.kind≠1->n.n=0)/\iZ l
def iZ:List T->Prop
 | []=>True
 | t::r=>zT t/\iZ r
end
mutual
theorem Zr:∀ t:T,zT (er t)↔zT t
 | .mk n l=>by rw [er,zT,zT,U6 l]
theorem U6:∀ l:List T,iZ (aU l)↔iZ l
 | []=>by rw [aU]
 | t::r=>by rw [aU,iZ,iZ,Zr t,U6 r]
end
mutual
theorem E.z:∀ a:E,zT a.tree
 | .num n=>by rw [E.tree,zT];exact ⟨fun h=>absurd rfl h,trivial⟩
 | .name s=>by rw [E.tree,zT];exact ⟨fun _=>rfl,trivial⟩
 | .at_ s a=>zfy
 | .call s l=>by rw [E.tree,zT];exact ⟨fun _=>rfl,E.zs l⟩
 | .un s a=>zfy
 | .bin s a b=>by rw [E.tree,zT,iZ,iZ,iZ];exact ⟨fun _=>rfl,E.z a,E.z b,trivial⟩
theorem E.zs:∀ l:List E,iZ (E.trees l)
 | []=>trivial
 | a::l=>by rw [E.trees,iZ];exact ⟨E.z a,E.zs l⟩
end
mutual
theorem S.z:∀ a:S,zT a.tree
 | .set s a=>zbN
 | .put s a b=>by rw [S.tree,zT,iZ,iZ,iZ];exact ⟨fun _=>rfl,E.z a,E.z b,trivial⟩
 | .if1 c b=>zdn
 | .if2 c b d=>by rw [S.tree,zT,iZ,iZ,iZ,iZ,zT,zT];exact ⟨fun _=>rfl,E.z c,⟨fun _=>rfl,S.zs b⟩,⟨fun _=>rfl,S.zs d⟩,trivial⟩
 | .while_ c b=>zdn
 | .ret a=>zbN
 | .do_ a=>zbN
 | .var s a=>zbN
theorem S.zs:∀ l:List S,iZ (S.trees l)
 | []=>trivial
 | a::l=>by rw [S.trees,iZ];exact ⟨S.z a,S.zs l⟩
end
theorem aaz (l:List S):zT (bY l):=by rw [bY,zT];exact ⟨fun _=>rfl,S.zs l⟩
theorem Vc {names:List ae} {s:ae} (h:s∈names):0 < v7 names s+1:=by
 unfold v7 dm
 cases hf:names.findIdx? (fun x=>x==s) with
 | some i=>exact zfx
 | none =>
  rw [List.findIdx?_eq_none_iff] at hf;have:=hf s h;simp at this
theorem Wm {p:Src} {t:T} {ls:List ae} (hw:gZ t) (h0:b6 p t ls=0) (hk:t.n.kind=4) (hs:t.n.s=iv):∃ k,t.kids=[k]/\k.n.kind=2/\k.kids=[]/\0<=CV p k.n.s/\ls.contains k.n.s=false/\dv t=true:=by
 have e:b6 p t ls=eE p t ls:=by
  unfold b6;rw [F aq,F aq,F aq,ab hk]
 rw [e] at h0
 have hm:nm p t.n.s=1:=by rw [hs];unfold nm;rw [F av,ab (.inr rfl)]
 by_cases hl:t.kids.length=1
 ·have hz:dv t=true:=by unfold dv;rw [hk,hs,hl];rfl
  unfold eE at h0;rw [ab hz] at h0
  have hb:fV p (n5 t) ls=false:=by
   by_cases hb:fV p (n5 t) ls=true
   ·rw [ab hb] at h0;cases h0
   ·simpa using hb
  obtain ⟨n,l⟩:=t
  match l,hl with
  | [k],_ =>
   have bA:fV p k.n ls=false:=hb;unfold fV at bA;simp only [Bool.or_eq_false_iff,bne_eq_false_iff_eq,decide_eq_false_iff_not,Int.not_lt] at bA;rw [gZ,dV] at hw;refine ⟨k,rfl,bA.1.1,?_,bA.1.2,bA.2,hz⟩;have:=hw.2.2.1;obtain ⟨m,j⟩:=k;rw [gZ] at this;exact this.2.1 bA.1.1
 ·have hz:dv t=false:=by unfold dv;rw [show (t.kids.length==1)=false by simpa using hl,Bool.and_false]
  unfold eE at h0;rw [F (by rw [hz];decide),hm,F av,F aq] at h0;cases h0
section
variable (p:Src) (names:List ae) (name:ae)
end
theorem Forms.wf {l:List T} {ls:List (List S)} (h:Forms l ls) {i:Nat} {t:T} (ht:l[i]?=some t):gZ t/\zT t:=by
 have hi:=(bq ht).1;have hlen:=h.len;have hb:ls[i]?=some (ls[i]'aq):=dq _;obtain ⟨_,M⟩:=h.at_ i t _ ht hb;exact ⟨(U4 t).1 (by rw [M];exact Zl _),(Zr t).1 (by rw [M];exact aaz _)⟩
theorem OR (p:Src):∀ (fs:List Fn) (l:List T) (a:Nat),(gI p fs l a).1=0->∀ (i:Nat) f t,fs[i]?=some f->l[i]?=some t->∃ b,(gH p f t b).1=0
 | f::r,t::l,a,h,0,g,u,I,M=>by
  cases I;cases M
  rw [gI] at h
  by_cases hc:(gH p f t a).1=0
  ·exact ⟨a,hc⟩
  ·rw [ab hc] at h;exact absurd h hc
 | f::r,t::l,a,h,i+1,g,u,I,M=>by
  rw [gI] at h
  by_cases hc:(gH p f t a).1=0
  ·rw [F zf7] at h;exact OR p r l _ h i g u zfU zf6
  ·rw [ab hc] at h;exact absurd h hc
 | [],_,a,h,i,g,u,I,M=>by simp at I
 | f::r,[],a,h,i,g,u,I,M=>by simp at M
structure Good (p:Src) (l:List T):Prop where
 st:gV p l
 test:fI p=true
 names:fi (cR p)=false
 len:p.fns.length=l.length
 at_:∀ (i:Nat) f t,p.fns[i]?=some f->l[i]?=some t->FQ p t f.params/\gZ t/\zT t/\eC p.nodes f.body.toNat t/\0<=f.body
theorem VF {p:Src} (h:nf p=true):∃ l,Good p l:=by
 unfold nf at h;rw [aH] at h;obtain ⟨hf,h⟩:=h;obtain ⟨l,hl⟩:=we hf;rw [hl.CW] at h;simp only [decide_eq_true_eq] at h;obtain ⟨ls,hm⟩:=hl.Gm
 have hb:fi (cR p)=false:=by
  unfold Fb at h
  by_cases hb:fi (cR p)=true
  ·rw [ab hb] at h;cases h
  ·simpa using hb
 have kc:(gI p p.fns l 0).1=0:=by
  unfold Fb at h;rw [F zgo] at h;split at h
  ·cases h
  split at h
  ·cases h
  ·exact h
 refine ⟨l,hl,hf,hb,gD.len hl.fns,fun i f t I M=>?_⟩;obtain ⟨b,hc⟩:=OR p _ _ _ kc i f t I M;obtain ⟨w1,w2⟩:=hm.wf M;unfold gH at hc
 have hd:¬ wW f.params=true:=fun hd=>by rw [ab hd] at hc;cases hc
 rw [F hd] at hc;have hi:=(bq M).1;obtain ⟨h5,h6⟩:=gD.at_ hl.fns i f t I M;have h7:=dX.ix l 0 i _ hl.st M;rw [cL] at h5 h7;refine ⟨(UL p t w1 b ⟨0,0,-1⟩ f.params rfl (by show (-1:Int) < _;omega) hc).1,w1,w2,?_,by omega⟩;rw [h5,lk];exact h7
theorem G7 {σ:Type} (f:σ->Nat->T->List ae->σ) (t:T):∀ (l:List T) (a:Nat) (s:σ) (ls:List ae),dI f (l++[t]) a s ls=iF f t (a+az l) (dI f l a s ls).1 (dI f l a s ls).2
 | [],a,s,ls=>by rw [List.nil_append,dI,dI,dI,az,Nat.add_zero]
 | u::l,a,s,ls=>by rw [cons_append,dI,G7 f t l,dI,az,gn]
theorem B9 {σ:Type} (f:σ->Nat->T->List ae->σ) {l:List T} {k:Nat} {t:T} (h:l[k]?=some t) (a:Nat) (s:σ) (ls:List ae) :
  dI f (l.take (k+1)) a s ls=iF f t (a+az (l.take k)) (dI f (l.take k) a s ls).1 (dI f (l.take k) a s ls).2:=by
 have:l.take (k+1)=l.take k++[t]:=by rw [bS,h];rfl
 rw [this,G7]
theorem wx:∀ {l:List T} {n k:Nat} {t:T},l[k]?=some t->(bh n l)[k]?=some (((n+az (l.take k):Nat)):Int)
 | u::l,n,0,t,h=>by simp [bh,az]
 | u::l,n,k+1,t,h=>by
  have:=wx (l:=l) (n:=n+aJ u) (k:=k) (t:=t) zfP;rw [bh,List.getElem?_cons_succ,this,List.take_succ_cons,az,gn]
 | [],n,k,t,h=>by simp at h
theorem lN {l:List T} {k:Nat} {t:T} (h:l[k]?=some t):az (l.take k)+aJ t<=az l:=by
 have I:l.take (k+1)=l.take k++[t]:=by rw [bS,h];rfl
 have M:az l=az (l.take (k+1))+az (l.drop (k+1)):=by rw [<-jE,List.take_append_drop]
 rw [I,jE,az,az] at M;omega
theorem Tq {l:List T} {k:Nat} {t:T} (h:l[k]?=some t):az (l.take (k+1))=az (l.take k)+aJ t:=by
 have I:l.take (k+1)=l.take k++[t]:=by rw [bS,h];rfl
 rw [I,jE,az,az,Nat.add_zero]
theorem I6:∀ (N:Nat) (t:T),aJ t<=N->(fa t).length<=aJ t:=by
 intro N
 induction N with
 | zero=>intro t h;exact zcN
 | succ N ih =>
  intro t h
  have key:∀ l:List T,az l<=N->(dT l).length<=az l:=by
   intro l
   induction l with
   | nil=>intro _;simp [dT]
   | cons u l ih2 =>
    intro h;rw [az] at h;have:=ih u aq;have:=ih2 aq;rw [dT,aM,az];omega
  rw [eB] at h |-;have:=key t.kids aq;rw [TD,aM];split <;> simp <;> omega
theorem lr (l:List T):(dT l).length<=az l:=by
 induction l with
 | nil=>simp [dT]
 | cons u l ih =>
  have:=I6 _ u (aD _);rw [dT,aM,az];omega
theorem B0 {l:List T} {k:Nat} {t:T} (h:l[k]?=some t):dT (l.take (k+1))=dT (l.take k)++fa t:=by
 have I:l.take (k+1)=l.take k++[t]:=by rw [bS,h];rfl
 have:∀ a b:List T,dT (a++b)=dT a++dT b:=by
  intro a b
  induction a with
  | nil=>simp [dT]
  | cons u a ih=>simp [dT,ih]
 rw [I,this];simp [dT]
theorem nY {α:Type} {f:α->Bool} {l:List α} {k:Nat} {x:α} (hk:l[k]?=some x) (h:f x=true) (ba:(l.take k).all (fun y=>!f y)=true):dm f l=(k:Int):=by
 have aj:k < l.length:=by
  rcases Nat.lt_or_ge k l.length with I | I
  ·exact I
  ·rw [List.getElem?_eq_none I] at hk;cases hk
 have hx:l[k]=x:=by rw [dq aj] at hk;exact DU hk
 have:l.findIdx? f=some k:=by
  rw [List.findIdx?_eq_some_iff_getElem];refine ⟨aj,by rw [hx];exact h,fun j hj=>?_⟩;rw [gU] at ba;have:=ba l[j] zfX;exact zb8
 unfold dm;rw [this]
theorem ll {α:Type} {f:α->Bool} {l:List α} (ba:l.all (fun y=>!f y)=true):dm f l = -1:=by
 have:l.findIdx? f=none:=by
  rw [List.findIdx?_eq_none_iff];intro x hx;rw [gU] at ba;simpa using ba x hx
 unfold dm;rw [this]
theorem nV {α:Type} {f:α->Bool} {l:List α} {k:Nat} {x:α} (hk:l[k]?=some x):(l.take (k+1)).all (fun y=>!f y)=((l.take k).all (fun y=>!f y)&&!f x):=by
 rw [bS,hk,List.all_append];simp
theorem Fh {α:Type} (f:α->Bool) (l:List α):decide ((0:Int)<=dm f l)=l.any f:=by
 cases h:l.any f with
 | false =>
  rw [ll (by rw [any_eq_false] at h;rw [gU];intro x hx;simpa using h x hx)];rfl
 | true =>
  unfold dm
  cases M:l.findIdx? f with
  | some i=>simp
  | none =>
   rw [List.findIdx?_eq_none_iff] at M;rw [qc] at h;obtain ⟨x,hx,h3⟩:=h;have:=M x hx;simp [h3] at this
section
variable (fr to:ae)
mutual
def lY:T->Prop
 | .mk n l=>(n.kind=2\/n.kind=3\/n.kind=4\/n.kind=7\/n.kind=8\/n.kind=13\/word n.s=false)/\fy l
def fy:List T->Prop
 | []=>True
 | t::r=>lY t/\fy r
end
end
def QD (b:Int) (n:Nd):Nd:=⟨n.kind,n.at_,n.n,n.s,n.kids.map (·+b)⟩
theorem Dw (b:Nat):∀ (l:List T) (a:Nat),bh (a+b) l=(bh a l).map (·+(b:Int))
 | [],a=>rfl
 | t::l,a=>by
  rw [bh,bh,List.map_cons,<-Dw b l (a+aJ t),show a+b+aJ t=a+aJ t+b by omega]
  congr 1
mutual
theorem RV (b:Nat):∀ (t:T) (a:Nat),gL (a+b) t=(gL a t).map (QD (b:Int))
 | .mk n l,a=>by
  rw [gL,gL,List.map_cons,show a+b+1=a+1+b by omega,zD b l (a+1),Dw b l (a+1)];rfl
theorem zD (b:Nat):∀ (l:List T) (a:Nat),bU (a+b) l=(bU a l).map (QD (b:Int))
 | [],a=>by rw [bU,bU];rfl
 | t::l,a=>by rw [bU,bU,kK,RV b t a,show a+b+aJ t=a+aJ t+b by omega,zD b l (a+aJ t)]
end
mutual
theorem US:∀ t:T,lY (er t)↔lY t
 | .mk n l=>by rw [er,lY,lY,QC l]
theorem QC:∀ l:List T,fy (aU l)↔fy l
 | []=>by rw [aU]
 | t::r=>by rw [aU,fy,fy,US t,QC r]
end
theorem QE {s:ae} (h:eP s=true):word s=false:=by
 have key:∀ l∈levels,∀ x∈l,word x=false:=by decide
 unfold eP at h;obtain ⟨l,hl,hs⟩:=qc.1 h;exact key l hl s (il.1 hs)
mutual
theorem E.sg:∀ a:E,a.ok=true->lY a.tree
 | .num n,_=>by rw [E.tree,lY];exact ⟨.inr (.inr (.inr (.inr (.inr (.inr rfl))))),trivial⟩
 | .name s,_=>by rw [E.tree,lY];exact ⟨.inl rfl,trivial⟩
 | .at_ s a,h=>by rw [E.ok,aH] at h;rw [E.tree,lY,fy,fy];exact ⟨.inr (.inl rfl),E.sg a h.2,trivial⟩
 | .call s l,h=>by rw [E.ok,aH] at h;rw [E.tree,lY];exact ⟨.inr (.inr (.inl rfl)),E.DK l h.2⟩
 | .un s a,h=>by
  rw [E.ok,aH] at h;rw [E.tree,lY,fy,fy];refine ⟨.inr (.inr (.inr (.inr (.inr (.inr ?_))))),E.sg a h.2,trivial⟩;have I:=h.1;simp only [Bool.or_eq_true,beq_iff_eq] at I
  rcases I with (I | I) | I <;> subst I <;> rfl
 | .bin s a b,h=>by
  rw [E.ok,aH,aH] at h;rw [E.tree,lY,fy,fy,fy];exact ⟨.inr (.inr (.inr (.inr (.inr (.inr (QE h.1.1)))))),E.sg a h.1.2,E.sg b h.2,trivial⟩
theorem E.DK:∀ l:List E,E.df l=true->fy (E.trees l)
 | [],_=>trivial
 | a::l,h=>by rw [E.df,aH] at h;rw [E.trees,fy];exact ⟨E.sg a h.1,E.DK l h.2⟩
end
mutual
theorem S.sg:∀ a:S,a.ok=true->lY a.tree
 | .set s a,h=>by rw [S.ok,aH] at h;rw [S.tree,lY,fy,fy];exact ⟨.inr (.inr (.inr (.inl rfl))),E.sg a h.2,trivial⟩
 | .put s a b,h=>by rw [S.ok,aH,aH] at h;rw [S.tree,lY,fy,fy,fy];exact ⟨.inr (.inr (.inr (.inr (.inl rfl)))),E.sg a h.2.1,E.sg b h.2.2,trivial⟩
 | .if1 c b,h=>zbs
 | .if2 c b d,h=>by rw [S.ok,aH,aH] at h;rw [S.tree,lY,fy,fy,fy,fy,lY,lY];exact ⟨.inr (.inr (.inr (.inr (.inr (.inr rfl))))),E.sg c h.1,⟨.inr (.inr (.inr (.inr (.inr (.inr rfl))))),S.DK b h.2.1⟩,⟨.inr (.inr (.inr (.inr (.inr (.inr rfl))))),S.DK d h.2.2⟩,trivial⟩
 | .while_ c b,h=>zbs
 | .ret a,h=>zcK
 | .do_ a,h=>zcK
 | .var s a,h=>by rw [S.ok,aH] at h;rw [S.tree,lY,fy,fy];exact ⟨.inr (.inr (.inr (.inr (.inr (.inl rfl))))),E.sg a h.2,trivial⟩
theorem S.DK:∀ l:List S,S.df l=true->fy (S.trees l)
 | [],_=>trivial
 | a::l,h=>by rw [S.df,aH] at h;rw [S.trees,fy];exact ⟨S.sg a h.1,S.DK l h.2⟩
end
theorem Y2 (l:List S) (h:S.df l=true):lY (bY l):=by rw [bY,lY];exact ⟨.inr (.inr (.inr (.inr (.inr (.inr rfl))))),S.DK l h⟩
theorem Good.sg {p:Src} {l:List T} (h:Good p l) {i:Nat} {t:T} (ht:l[i]?=some t):lY t:=by
 obtain ⟨ls,hm⟩:=h.st.Gm;have hi:=(bq ht).1;have hlen:=hm.len;obtain ⟨I,M⟩:=hm.at_ i t _ ht (dq aq);exact (US t).1 (by rw [M];exact Y2 _ I)
theorem Good.words {p:Src} {l:List T} (h:Good p l) {s:ae} (hs:s∈cR p):word s=true:=by
 have key:∀ s:ae,bs s=true->word s=true:=fun s h=>by
  unfold bs at h;rw [aH,aH] at h;exact h.1.1
 refine key s ?_;unfold cR fg jB at hs
 rcases pQ hs with hs | hs
 ·rcases pQ hs with hs | hs
  ·exact gU.1 h.st.globals s hs
  ·obtain ⟨a,ha,rfl⟩:=oX.1 hs;have:=gU.1 h.st.arrays a ha;unfold o7 at this;rw [aH,aH] at this;exact this.1.1
 ·obtain ⟨f,hf,rfl⟩:=oX.1 hs;obtain ⟨t,_,hq⟩:=(gD.mem h.st.fns).1 f hf;exact hq.name
def yI:Src:=⟨[],[],[],[]⟩
theorem Vx {p:Src} {l:List T} (h:Good p l):p.nodes=bU 0 l:=dX.all h.st.st h.st.len
def fC:Nat->List Fn->List T->List Fn
 | a,f::fs,t::ls=>⟨f.name,f.params,(a:Nat)⟩::fC (a+aJ t) fs ls
 | _,_,_=>[]
theorem wZ (f:Fn) (t:T):∀ (fs:List Fn) (ls:List T) (a:Nat),fs.length=ls.length->fC a (fs++[f]) (ls++[t])=fC a fs ls++[⟨f.name,f.params,((a+az ls:Nat):Int)⟩]
 | [],[],a,_=>by simp [fC,az]
 | [],_::_,a,h=>by simp at h
 | _::_,[],a,h=>by simp at h
 | g::fs,u::ls,a,h=>by
  have:=wZ f t fs ls (a+aJ u) zfP;rw [cons_append,cons_append,fC,this,fC,az,gn];rfl
theorem rZ:∀ (fs:List Fn) (ls:List T) (a:Nat),fs.length=ls.length->(fC a fs ls).length=fs.length
 | [],[],a,_=>rfl
 | [],_::_,a,h=>by simp at h
 | _::_,[],a,h=>by simp at h
 | g::fs,u::ls,a,h=>by rw [fC,length_cons,length_cons,rZ fs ls _ zfP]
theorem Dv {w:Fn->Nat} (hw:∀ (f:Fn) (b:Int),w ⟨f.name,f.params,b⟩=w f):∀ (fs:List Fn) (ls:List T) (a:Nat),fs.length=ls.length->bj w (fC a fs ls)=bj w fs
 | [],[],a,_=>rfl
 | [],_::_,a,h=>by simp at h
 | _::_,[],a,h=>by simp at h
 | g::fs,u::ls,a,h=>by rw [fC,bj,bj,hw,Dv hw fs ls _ zfP]
theorem Ef {w:Nd->Nat} (hw:∀ (n:Nd) (b:Int),w (QD b n)=w n) (l:List T) (a:Nat):bj w (bU a l)=bj w (bU 0 l):=by
 have e:=zD a l 0;rw [cL] at e;rw [e]
 induction bU 0 l with
 | nil=>rfl
 | cons n r ih=>rw [List.map_cons,bj,bj,hw,ih]
def AY (gs:List ae) (ux:List Ar) (fs:List Fn) (ls:List T):Src:=⟨gs,ux,fC 0 fs ls,bU 0 ls⟩
def wb (p:Src) (n:Nd):List Int:=if n.kind=4/\0<=pW p n.s then [pW p n.s] else []
mutual
def qu (p:Src):T->List Int
 | .mk n l=>wb p n++jI p l
def jI (p:Src):List T->List Int
 | []=>[]
 | t::r=>qu p t++jI p r
end
theorem WW (p:Src) (t:T):qu p t=wb p t.n++jI p t.kids:=by cases t;rw [qu];rfl
def gE (p:Src) (s:List Int) (_:Nat) (t:T) (_:List ae):List Int:=s++wb p t.n
mutual
theorem TV (p:Src):∀ (t:T) (a:Nat) (s:List Int) (ls:List ae),(iF (gE p) t a s ls).1=s++qu p t
 | .mk n l,a,s,ls=>by
  rw [iF,qu];simp only;rw [G8 p l];unfold gE;show s++wb p n++_=_;rw [de]
theorem G8 (p:Src):∀ (l:List T) (a:Nat) (s:List Int) (ls:List ae),(dI (gE p) l a s ls).1=s++jI p l
 | [],a,s,ls=>by rw [dI,jI,bO]
 | t::r,a,s,ls=>by rw [dI,G8 p r,TV p t,jI,de]
end
theorem D6 (p:Src) (n:Nd):(wb p n).length<=1:=by unfold wb;split <;> simp
theorem Oi (p:Src):∀ (N:Nat) (t:T),aJ t<=N->(qu p t).length<=aJ t:=by
 intro N
 induction N with
 | zero=>intro t h;exact zcN
 | succ N ih =>
  intro t h
  have key:∀ l:List T,az l<=N->(jI p l).length<=az l:=by
   intro l
   induction l with
   | nil=>intro _;simp [jI]
   | cons u l ih2 =>
    intro h;rw [az] at h;have:=ih u aq;have:=ih2 aq;rw [jI,aM,az];omega
  rw [eB] at h |-;have:=key t.kids aq;have:=D6 p t.n;rw [WW,aM];omega
theorem GZ (p:Src) (l:List T):(jI p l).length<=az l:=by
 induction l with
 | nil=>simp [jI]
 | cons u l ih =>
  have:=Oi p _ u (aD _);rw [jI,aM,az];omega
theorem Oh (p:Src) {l:List T} {k:Nat} {t:T} (h:l[k]?=some t):jI p (l.take (k+1))=jI p (l.take k)++qu p t:=by
 have I:l.take (k+1)=l.take k++[t]:=by rw [bS,h];rfl
 have:∀ a b:List T,jI p (a++b)=jI p a++jI p b:=by
  intro a b
  induction a with
  | nil=>simp [jI]
  | cons u a ih=>simp [jI,ih]
 rw [I,this];simp [jI]
theorem RX (p:Src) (s:ae):pW p s < (p.fns.length:Int):=by
 unfold pW dm
 cases h:p.fns.findIdx? (fun f:Fn=>f.name==s) with
 | none=>exact zfx
 | some i =>
  rw [List.findIdx?_eq_some_iff_getElem] at h;obtain ⟨h,_⟩:=h;exact zfx
theorem Vi (p:Src) (n:Nd):∀ x∈wb p n,0<=x/\x < (p.fns.length:Int):=by
 intro x hx;unfold wb at hx;split at hx
 ·rename_i h;rw [mem_singleton] at hx;subst hx;exact ⟨h.2,RX p _⟩
 ·simp at hx
mutual
theorem Oj (p:Src):∀ (t:T),∀ x∈qu p t,0<=x/\x < (p.fns.length:Int)
 | .mk n l,x,hx=>by
  rw [qu,mem_append] at hx
  rcases hx with h | h
  ·exact Vi p n x h
  ·exact Kc p l x h
theorem Kc (p:Src):∀ (l:List T),∀ x∈jI p l,0<=x/\x < (p.fns.length:Int)
 | [],x,hx=>by simp [jI] at hx
 | t::r,x,hx=>by
  rw [jI,mem_append] at hx
  rcases hx with h | h
  ·exact Oj p t x h
  ·exact Kc p r x h
end
def ep (l:List Int):Prop:=l.Pairwise (· < ·)
theorem yP:∀ {a b:List Int},ep a->ep b->(∀ x,x∈a↔x∈b)->a=b
 | [],[],_,_,_=>rfl
 | [],y::b,_,_,h=>by have:=(h y).2 zfL;simp at this
 | x::a,[],_,_,h=>by have:=(h x).1 zfL;simp at this
 | x::a,y::b,ha,hb,h=>by
  unfold ep at ha hb;rw [pairwise_cons] at ha hb
  have lG:x=y:=by
   have I:=(h x).1 zfL;have M:=(h y).2 zfL
   rcases dw I with I | I
   ·exact I
   rcases dw M with M | M
   ·exact M.symm
   have:=hb.1 x I;have:=ha.1 y M;omega
  subst lG
  have:a=b:=yP ha.2 hb.2 fun z=>by
   constructor
   ·intro hz;have:=(h z).1 (cU _ hz)
    rcases dw this with e | e
    ·have:=ha.1 z hz;omega
    ·exact e
   ·intro hz;have:=(h z).2 (cU _ hz)
    rcases dw this with e | e
    ·have:=hb.1 z hz;omega
    ·exact e
  rw [this]
def sW (n:Int):List Int->List Int
 | []=>[n]
 | x::r=>if n < x then n::x::r else x::sW n r
def dS (l:List Int) (n:Int):List Int:=if l.contains n=true then l else sW n l
theorem Ct {n:Int}:∀ {l:List Int} {x:Int},x∈sW n l↔x=n\/x∈l
 | [],x=>by simp [sW]
 | y::r,x=>by
  rw [sW];split
  ·simp
  ·rw [List.mem_cons,Ct,List.mem_cons];constructor
   ·rintro (h | h | h)
    ·exact .inr (.inl h)
    ·exact .inl h
    ·exact .inr (.inr h)
   ·rintro (h | h | h)
    ·exact .inr (.inl h)
    ·exact .inl h
    ·exact .inr (.inr h)
theorem BJ {n:Int}:∀ {l:List Int},ep l->n ∉ l->ep (sW n l)
 | [],_,_=>by simp [sW,ep]
 | y::r,h,hn=>by
  unfold ep at h |-;rw [pairwise_cons] at h;rw [sW];rw [List.mem_cons,not_or] at hn;split
  ·rename_i aj;rw [pairwise_cons,pairwise_cons];refine ⟨fun z hz=>?_,h.1,h.2⟩
   rcases dw hz with e | e
   ·omega
   ·have:=h.1 z e;omega
  ·rename_i aj;rw [pairwise_cons];refine ⟨fun z hz=>?_,BJ h.2 hn.2⟩
   rcases Ct.1 hz with e | e
   ·have:=hn.1;omega
   ·exact h.1 z e
theorem CH {l:List Int} {n x:Int}:x∈dS l n↔x=n\/x∈l:=by
 unfold dS;split
 ·rename_i h;have:=il.1 h;constructor
  ·exact .inr
  ·rintro (rfl | h)
   ·exact this
   ·exact h
 ·exact Ct
theorem BR {l:List Int} {n:Int} (h:ep l):ep (dS l n):=by
 unfold dS;split
 ·exact h
 ·rename_i hc
  exact BJ h fun e=>hc (il.2 e)
theorem Cr {n:Int}:∀ {l:List Int},(sW n l).length=l.length+1
 | []=>rfl
 | y::r=>by
  rw [sW];split
  ·simp
  ·rw [length_cons,Cr,length_cons]
theorem CG {l:List Int} {n:Int}:(dS l n).length<=l.length+1:=by
 unfold dS;split
 ·omega
 ·rw [Cr];omega
def qm (n:Int) (st:List Int × Bool) (x:Int):List Int × Bool:=if (!st.2&&decide (n < x))=true then (st.1++[n]++[x],true) else (st.1++[x],st.2)
def kQ (l:List Int) (n:Int) (k:Nat):List Int × Bool:=(l.take k).foldl (qm n) ([],false)
theorem FZ {l:List Int} {n:Int} {k:Nat} {x:Int} (h:l[k]?=some x):kQ l n (k+1)=qm n (kQ l n k) x:=by
 unfold kQ;exact zd0
theorem Fi (n:Int):∀ (l acc:List Int),l.foldl (qm n) (acc,true)=(acc++l,true)
 | [],acc=>by simp
 | x::r,acc=>by
  rw [foldl_cons,show qm n (acc,true) x=(acc++[x],true) by simp [qm],Fi n r];simp
theorem Hg (n:Int):∀ (l acc:List Int),(if (l.foldl (qm n) (acc,false)).2=true then (l.foldl (qm n) (acc,false)).1 else (l.foldl (qm n) (acc,false)).1++[n])=acc++sW n l
 | [],acc=>by simp [sW]
 | x::r,acc=>by
  rw [foldl_cons,sW]
  by_cases h:n < x
  ·rw [show qm n (acc,false) x=(acc++[n]++[x],true) by simp [qm,h],Fi,ab h];simp
  ·rw [show qm n (acc,false) x=(acc++[x],false) by simp [qm,h],F h,Hg n r];simp
theorem S7 (l:List Int) (n:Int) (h:l.contains n=false):(if (kQ l n l.length).2=true then (kQ l n l.length).1 else (kQ l n l.length).1++[n])=dS l n:=by
 unfold kQ dS;rw [bH,Hg,F (by rw [h];decide)];rfl
theorem Iv (l:List Int) (n:Int) (k:Nat):(kQ l n k).1.length<=k+1/\((kQ l n k).2=false->(kQ l n k).1.length<=k):=by
 induction k with
 | zero=>simp [kQ]
 | succ k ih =>
  rcases Nat.lt_or_ge k l.length with h | h
  ·rw [FZ (dq h)];unfold qm;split
   ·rename_i hc;rw [aH] at hc;have:=ih.2 (by simpa using hc.1);refine ⟨by simp;omega,fun h=>by cases h⟩
   ·refine ⟨by simp;exact ih.1,fun M=>?_⟩;have:=ih.2 M;simp;omega
  ·have:kQ l n (k+1)=kQ l n k:=by unfold kQ;rw [jN aq,jN aq]
   rw [this];exact ⟨by omega,fun M=>by have:=ih.2 M;omega⟩
def qH (l:List Int):List Int:=l.foldl dS []
theorem wI:∀ (l acc:List Int),ep acc->ep (l.foldl dS acc)/\∀ x,x∈l.foldl dS acc↔x∈acc\/x∈l
 | [],acc,h=>⟨h,fun x=>by simp⟩
 | y::r,acc,h=>by
  obtain ⟨I,M⟩:=wI r (dS acc y) (BR h);refine ⟨I,fun x=>?_⟩;rw [foldl_cons,M,CH,List.mem_cons];constructor
  ·rintro ((h | h) | h)
   ·exact .inr (.inl h)
   ·exact .inl h
   ·exact .inr (.inr h)
  ·rintro (h | h | h)
   ·exact .inl (.inr h)
   ·exact .inl (.inl h)
   ·exact .inr h
theorem uu (l:List Int):ep (qH l):=(wI l [] List.Pairwise.nil).1
theorem yO {l:List Int} {x:Int}:x∈qH l↔x∈l:=by
 have:=(wI l [] List.Pairwise.nil).2 x;unfold qH;rw [this];simp
theorem yQ:∀ {l:List Int} {a b:Int},ep l->(∀ x∈l,a<=x/\x < b)->a<=b->(l.length:Int)<=b - a
 | [],a,b,_,_,h=>by simp;omega
 | x::r,a,b,h,hb,Ue=>by
  unfold ep at h;rw [pairwise_cons] at h;have hx:=hb x zfL;have:=yQ (l:=r) (a:=x+1) (b:=b) h.2 (fun y hy=>by have:=h.1 y hy;have:=hb y (cU _ hy);omega) aq;rw [length_cons];omega
theorem wG {l:List Int} {n:Nat} (h:l.Nodup) (hb:∀ x∈l,0<=x/\x < (n:Int)):l.length<=n:=by
 have I:(qH l).length=l.length:=by
  have key:∀ (l acc:List Int),l.Nodup->(∀ x∈l,x ∉ acc)->(l.foldl dS acc).length=acc.length+l.length:=by
   intro l
   induction l with
   | nil=>intro acc _ _;simp
   | cons y r ih =>
    intro acc I M;rw [List.nodup_cons] at I
    have hy:acc.contains y=false:=by
     cases hc:acc.contains y with
     | false=>rfl
     | true=>exact absurd (il.1 hc) (M y zfL)
    rw [foldl_cons,ih _ I.2 fun x hx hm=>?_]
    ·unfold dS;rw [F (by rw [hy];decide),Cr,length_cons];omega
    ·rcases CH.1 hm with e | e
     ·subst e;exact I.1 hx
     ·exact M x (cU _ hx) e
  have:=key l [] h zfL;unfold qH;rw [this];simp
 have M:=yQ (uu l) (a:=0) (b:=n) (fun x hx=>hb x (yO.1 hx)) aq;omega
def cP (p:Src) (t:T):List Int:=qH (qu p t)
theorem sQ (p:Src) (t:T):ep (cP p t):=uu _
theorem qt (p:Src) (t:T):∀ x∈cP p t,0<=x/\x < (p.fns.length:Int):=fun x hx=>Oj p t x (yO.1 hx)
theorem Bm (p:Src) (t:T):(cP p t).length<=p.fns.length:=by
 have:=yQ (sQ p t) (a:=0) (b:=p.fns.length) (qt p t) aq;omega
theorem sn {l:List Int} (h:ep l):l.Nodup:=by
 unfold ep at h;exact h.imp (fun {a b} Ue=>by omega)
def ff (l ks:List Int):List Int:=ks.foldl (fun l k=>if l.contains k=true then l else l++[k]) l
theorem E0 (l:List Int) (ks:List Int) (k:Nat) (x:Int) (h:ks[k]?=some x):ff l (ks.take (k+1))=if (ff l (ks.take k)).contains x=true then ff l (ks.take k) else ff l (ks.take k)++[x]:=by
 unfold ff;exact zd0
theorem qO:∀ {ks l:List Int} {x:Int},x∈ff l ks↔x∈l\/x∈ks
 | [],l,x=>by simp [ff]
 | k::r,l,x=>by
  have:=@qO r (if l.contains k=true then l else l++[k]) x;unfold ff at this |-;rw [foldl_cons,this,List.mem_cons];split
  ·rename_i hc;have:=il.1 hc;constructor
   ·rintro (h | h)
    ·exact .inl h
    ·exact .inr (.inr h)
   ·rintro (h | h | h)
    ·exact .inl h
    ·subst h;exact .inl this
    ·exact .inr h
  ·rw [mem_append,mem_singleton,or_assoc]
theorem ya:∀ {ks l:List Int},l.Nodup->(ff l ks).Nodup
 | [],l,h=>h
 | k::r,l,h=>by
  have hn:(if l.contains k=true then l else l++[k]).Nodup:=by
   split
   ·exact h
   ·rename_i hc;rw [List.nodup_append];refine ⟨h,by simp,fun a ha b hb e=>?_⟩;rw [mem_singleton] at hb;subst e;subst hb;exact hc (il.2 ha)
  exact ya (ks:=r) hn
theorem yb:∀ (ks l:List Int),∃ m,ff l ks=l++m
 | [],l=>⟨[],by simp [ff]⟩
 | k::r,l=>by
  have e:ff l (k::r)=ff (if l.contains k=true then l else l++[k]) r:=rfl;rw [e];obtain ⟨m,hm⟩:=yb r (if l.contains k=true then l else l++[k]);rw [hm];split
  ·exact ⟨m,rfl⟩
  ·exact ⟨[k]++m,by simp⟩
def lU (cs:Int->List Int):Nat->Nat->List Int->List Int
 | 0,_,l=>l
 | f+1,i,l=>match l[i]? with | none=>l | some x=>lU cs f (i+1) (ff l (cs x))
theorem yc (cs:Int->List Int) (n:Nat) (fk:∀ x,∀ y∈cs x,0<=y/\y < (n:Int)) :
  ∀ (f i:Nat) (L:List Int),L.Nodup->(∀ y∈L,0<=y/\y < (n:Int))->n+1<=f+i ->
   (∀ j x,j < i->L[j]?=some x->∀ y∈cs x,y∈L) ->
   ∀ x∈lU cs f i L,∀ y∈cs x,y∈lU cs f i L
 | 0,i,L,hn,hr,hf,hj=>by
  intro x hx y hy;rw [lU] at hx |-;obtain ⟨j,qz,he⟩:=List.mem_iff_getElem.1 hx;have:=wG hn hr;exact hj j x aq (by rw [dq qz,he]) y hy
 | f+1,i,L,hn,hr,hf,hj=>by
  cases hi:L[i]? with
  | none =>
   have hb:lU cs (f+1) i L=L:=by rw [lU,hi]
   rw [hb];intro x hx y hy;obtain ⟨j,qz,he⟩:=List.mem_iff_getElem.1 hx;have:=qo hi;exact hj j x aq (by rw [dq qz,he]) y hy
  | some x0 =>
   have hb:lU cs (f+1) i L=lU cs f (i+1) (ff L (cs x0)):=by rw [lU,hi]
   rw [hb];refine yc cs n fk f (i+1) _ (ya hn) (fun y hy=>?_) aq (fun j x qg Un y hy=>?_)
   ·rcases qO.1 hy with I | I
    ·exact hr y I
    ·exact fk x0 y I
   ·have sG:i < L.length:=by
     rcases Nat.lt_or_ge i L.length with h | h
     ·exact h
     ·rw [List.getElem?_eq_none h] at hi;cases hi
    obtain ⟨m,hm⟩:=yb (cs x0) L
    have qz:j < L.length:=by omega
    rw [hm,eR qz] at Un
    rcases Nat.lt_or_ge j i with h | h
    ·exact qO.2 (.inl (hj j x h Un y hy))
    ·have:j=i:=by omega
     subst this;rw [hi] at Un;cases Un;exact qO.2 (.inr hy)
theorem zt (cs:Int->List Int) (S:Int->Prop) (hS:∀ x,S x->∀ y∈cs x,S y) :
  ∀ (f i:Nat) (L:List Int),(∀ x∈L,S x)->∀ x∈lU cs f i L,S x
 | 0,i,L,h=>by rw [lU];exact h
 | f+1,i,L,h=>by
  rw [lU];split
  ·exact h
  ·rename_i x0 ru
   refine zt cs S hS f (i+1) _ fun x hx=>?_
   rcases qO.1 hx with I | I
   ·exact h x I
   ·exact hS x0 (h x0 (br ru)) x I
theorem D1 (cs:Int->List Int):∀ (f i:Nat) (L:List Int),∀ x∈L,x∈lU cs f i L
 | 0,i,L=>fun x h=>by rw [lU];exact h
 | f+1,i,L=>fun x h=>by
  rw [lU];split
  ·exact h
  ·exact D1 cs f (i+1) _ x (qO.2 (.inl h))
end Go.Im
