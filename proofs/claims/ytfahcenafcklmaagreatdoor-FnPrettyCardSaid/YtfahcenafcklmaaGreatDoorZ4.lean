/- Part 4 of proofs that are told in their last texts. -/
import Derived.Test.YtfahcenafcklmaaGreatDoorZ3
import Derived.Test.YtfahcenafcklmaaGreatDoorZ2
open List (all_cons cons_append find?_eq_none foldl_cons length_cons length_nil mem_cons_self mem_singleton nil_append sum_cons take_append_drop)
set_option linter.unusedVariables false
set_option linter.unusedSimpArgs false
set_option maxRecDepth 100000
namespace Go.Im
open Go.Xp Go.Sp
mutual
def eL (nodes:List Nd):Nat->T->Prop
 | a,.mk n l=>nodes[a]?=some n/\n.kids=bj (a+1) l/\da nodes (a+1) l
def da (nodes:List Nd):Nat->List T->Prop
 | _,[]=>True
 | a,t::r=>eL nodes a t/\da nodes (a+aQ t) r
end
mutual
def jn:T->Prop
 | .mk n l=>0<=n.at_/\cz l
def cz:List T->Prop
 | []=>True
 | t::r=>jn t/\cz r
end
theorem iQ (t:T):1<=aQ t:=by rw [eg];omega
mutual
theorem eL.le {nodes:List Nd}:∀ (t:T) (a:Nat),eL nodes a t->a+aQ t<=nodes.length
 | .mk n l,a,h=>by
  rw [eL] at h;have D:=(bh h.1).1;have:=da.le l (a+1) h.2.2 D;rw [aQ];omega
theorem da.le {nodes:List Nd}:∀ (l:List T) (a:Nat),da nodes a l->a<=nodes.length->a+aB l<=nodes.length
 | [],a,h,ha=>by rw [aB];exact ha
 | t::r,a,h,ha=>by
  rw [da] at h;have D:=eL.le t a h.1;have:=da.le r _ h.2 D;rw [aB];omega
end
theorem Hr {nodes:List Nd}:∀ (f:Nat),(∀ (a d:Nat) (e:Int),oz nodes f a d=some e->0<=e->∃ t,eL nodes a t/\e=((a+aQ t:Nat):Int)) /\
  (∀ (ks:List Int) (next d:Nat) (e:Int),nB nodes f ks (next:Int) d=some e->0<=e->∃ l,da nodes next l/\ks=bj next l/\e=((next+aB l:Nat):Int)):=by
 intro f
 induction f with
 | zero =>
  refine ⟨fun a d e h _=>by simp [oz] at h,fun ks next d e h _=>?_⟩
  cases ks with
  | nil=>rw [nB] at h;cases h;exact ⟨[],trivial,rfl,by simp [aB]⟩
  | cons k r=>simp [nB] at h
 | succ f ih =>
  refine ⟨fun a d e h he=>?_,fun ks next d e h he=>?_⟩
  ·rw [oz] at h;split at h
   ·cases h;omega
   ·cases hn:nodes[a]? with
    | none=>exact zde
    | some n =>
     rw [hn] at h;simp only at h;rw [show ((a:Int)+1)=((a+1:Nat):Int) by omega] at h;obtain ⟨l,D,I,h3⟩:=ih.2 _ _ _ _ h he;exact ⟨.mk n l,by rw [eL];exact ⟨hn,I,D⟩,by rw [h3,aQ];omega⟩
  ·cases ks with
   | nil=>rw [nB] at h;cases h;exact ⟨[],trivial,rfl,by simp [aB]⟩
   | cons k r =>
    rw [nB] at h;split at h
    ·rename_i hk;subst hk;rw [mI] at h
     cases hq:oz nodes f next (d+1) with
     | none=>rw [hq] at h;cases h
     | some e1 =>
      rw [hq] at h;simp only at h;split at h
      ·cases h;omega
      ·rename_i h0;obtain ⟨t,D,I⟩:=ih.1 _ _ _ hq ak;subst I;obtain ⟨l,h3,h4,h5⟩:=ih.2 _ _ _ _ h he;refine ⟨t::l,by rw [da];exact ⟨D,h3⟩,by rw [bj,<-h4],by rw [h5,aB];omega⟩
    ·cases h;omega
theorem xU {nodes:List Nd}:∀ (f:Nat),(∀ (t:T) (a:Nat),eL nodes a t->2 * aQ t<=f->sub nodes f a=some t) /\
  (∀ (l:List T) (a:Nat) (acc:List T),da nodes a l->2 * aB l+1<=f->oE nodes f (bj a l) acc=some (acc++l)):=by
 intro f
 induction f with
 | zero =>
  exact ⟨fun t a _ h=>by have:=iQ t;omega,fun l a acc _ h=>by omega⟩
 | succ f ih =>
  refine ⟨fun t a hs h=>?_,fun l a acc hs h=>?_⟩
  ·obtain ⟨n,l⟩:=t;rw [eL] at hs;rw [aQ] at h;rw [sub,hs.1];simp only;rw [hs.2.1,ih.2 l (a+1) [] hs.2.2 ak];rfl
  ·cases l with
   | nil=>rw [bj,oE];simp
   | cons t l =>
    rw [da] at hs;rw [aB] at h;have:=iQ t;rw [bj,oE,ad ak,mI,ih.1 t a hs.1 ak];simp only;rw [ih.2 l _ _ hs.2 ak];simp
theorem F9 {nodes:List Nd}:∀ (f:Nat) (t:T) (a:Nat),eL nodes a t->jn t->aQ t<=f->nU nodes f a=some (t,a+aQ t):=by
 intro f
 induction f with
 | zero=>intro t a _ _ h;have:=iQ t;omega
 | succ f ih =>
  intro t a hs ha h;obtain ⟨n,l⟩:=t
  have key:∀ (l:List T) (a:Nat) (acc:List T),da nodes a l->cz l->aB l<=f->qA (nU nodes f) (bj a l) a acc=some (acc++l,a+aB l):=by
   intro l
   induction l with
   | nil=>intro a acc _ _ _;rw [bj,qA,aB];simp
   | cons t l lD =>
    intro a acc hs ha h;rw [da] at hs;rw [cz] at ha;rw [aB] at h;rw [bj,qA,ah rfl,ih t a hs.1 ha.1 ak];simp only;rw [lD _ _ hs.2 ha.2 ak,aB];simp [iD]
  rw [eL] at hs;rw [jn] at ha;rw [aQ] at h;rw [nU,hs.1];simp only;rw [hs.2.1,key l (a+1) [] hs.2.2 ha.2 ak];simp only;rw [ad ak,aQ];simp only [nil_append,Option.some.injEq,Prod.mk.injEq,true_and];omega
theorem ME {nodes:List Nd}:∀ (f:Nat) (t:T) (a e:Nat),nU nodes f a=some (t,e)->eL nodes a t/\e=a+aQ t/\jn t:=by
 intro f
 induction f with
 | zero=>intro t a e h;cases h
 | succ f ih =>
  intro t a e h
  have key:∀ (ks:List Int) (next:Nat) (acc l:List T) (e:Nat),qA (nU nodes f) ks next acc=some (l,e)->∃ l',l=acc++l'/\da nodes next l'/\ks=bj next l'/\e=next+aB l'/\cz l':=by
   intro ks
   induction ks with
   | nil=>intro next acc l e h;rw [qA] at h;cases h;exact ⟨[],by simp,trivial,rfl,by simp [aB],trivial⟩
   | cons k r lD =>
    intro next acc l e h
    rw [qA] at h;split at h
    ·rename_i hk
     cases hq:nU nodes f next with
     | none=>rw [hq] at h;cases h
     | some x =>
      obtain ⟨t,e1⟩:=x;rw [hq] at h;simp only at h;obtain ⟨a1,a2,a3⟩:=ih _ _ _ hq;subst a2;obtain ⟨l',b1,b2,b3,b4,b5⟩:=lD _ _ _ _ h;exact ⟨t::l',by rw [b1];simp,by rw [da];exact ⟨a1,b2⟩,by rw [bj,hk,b3],by rw [b4,aB];omega,by rw [cz];exact ⟨a3,b5⟩⟩
    ·cases h
  rw [nU] at h
  cases hn:nodes[a]? with
  | none=>exact zde
  | some n =>
   rw [hn] at h;simp only at h
   cases hk:qA (nU nodes f) n.kids (a+1) [] with
   | none=>rw [hk] at h;cases h
   | some x =>
    obtain ⟨l,e1⟩:=x;rw [hk] at h;simp only at h;split at h
    ·cases h
    ·rename_i h0;cases h;obtain ⟨l',b1,b2,b3,b4,b5⟩:=key _ _ _ _ _ hk
     have:l'=l:=by rw [b1];rfl
     subst this;exact ⟨by rw [eL];exact ⟨hn,b3,b2⟩,by rw [b4,aQ];omega,by rw [jn];exact ⟨by omega,b5⟩⟩
theorem QY {nodes:List Nd} (hl:nodes.length<=800):∀ (f:Nat),(∀ (t:T) (a d:Nat),eL nodes a t->d<=a->2 * aQ t<=f->oz nodes f a d=some ((a+aQ t:Nat):Int)) /\
  (∀ (l:List T) (a d:Nat),da nodes a l->d < a->2 * aB l+1<=f->nB nodes f (bj a l) (a:Int) d=some ((a+aB l:Nat):Int)):=by
 intro f
 induction f with
 | zero =>
  exact ⟨fun t a d _ _ h=>by have:=iQ t;omega,fun l a d _ _ h=>by omega⟩
 | succ f ih =>
  refine ⟨fun t a d hs hd h=>?_,fun l a d hs hd h=>?_⟩
  ·obtain ⟨n,l⟩:=t;rw [eL] at hs;rw [aQ] at h |-;have ar:=(bh hs.1).1;rw [oz,ad ak,hs.1];simp only;rw [show ((a:Int)+1)=((a+1:Nat):Int) by omega,hs.2.1,ih.2 l (a+1) d hs.2.2 ak ak]
   congr 1;omega
  ·cases l with
   | nil=>rw [bj,nB,aB];simp
   | cons t l =>
    rw [da] at hs;rw [aB] at h |-;have:=iQ t;rw [bj,nB,ah rfl,mI,ih.1 t a (d+1) hs.1 ak ak];simp only;rw [ad ak,ih.2 l _ d hs.2 ak ak]
    congr 1;omega
mutual
theorem eL.at_ {nodes:List Nd}:∀ (t:T) (a i:Nat),eL nodes a t->a<=i->i < a+aQ t->∃ u,eL nodes i u/\(cX t=true->cX u=true)
 | .mk n l,a,i,h,D,I=>by
  by_cases hi:i=a
  ·subst hi;exact ⟨_,h,id⟩
  ·rw [eL] at h;rw [aQ] at I;obtain ⟨u,k1,k2⟩:=da.at_ l (a+1) i h.2.2 ak ak;exact ⟨u,k1,fun hk=>k2 (by rw [cX,au] at hk;exact hk.1)⟩
theorem da.at_ {nodes:List Nd}:∀ (l:List T) (a i:Nat),da nodes a l->a<=i->i < a+aB l->∃ u,eL nodes i u/\(bX l=true->cX u=true)
 | [],a,i,_,D,I=>by rw [aB] at I;omega
 | t::r,a,i,h,D,I=>by
  rw [da] at h;rw [aB] at I
  by_cases hi:i < a+aQ t
  ·obtain ⟨u,k1,k2⟩:=eL.at_ t a i h.1 D hi;exact ⟨u,k1,fun hk=>k2 (by rw [bX,au] at hk;exact hk.1)⟩
  ·obtain ⟨u,k1,k2⟩:=da.at_ r (a+aQ t) i h.2 ak ak;exact ⟨u,k1,fun hk=>k2 (by rw [bX,au] at hk;exact hk.2)⟩
end
theorem KS {nodes:List Nd}:∀ (f:Nat),(∀ (a d:Nat),2 * (nodes.length - a)+1<=f->∃ e,oz nodes f a d=some e/\(0<=e->(a:Int) < e/\a < nodes.length)) /\
  (∀ (ks:List Int) (next d:Nat),2 * (nodes.length - next)+2<=f->∃ e,nB nodes f ks (next:Int) d=some e/\(0<=e->(next:Int)<=e)):=by
 intro f
 induction f with
 | zero=>exact ⟨fun a d h=>by omega,fun ks next d h=>by omega⟩
 | succ f ih =>
  refine ⟨fun a d h=>?_,fun ks next d h=>?_⟩
  ·rw [oz];split
   ·exact zek
   ·rename_i hc
    cases hn:nodes[a]? with
    | none=>rw [List.getElem?_eq_none_iff] at hn;omega
    | some n =>
     simp only;rw [show ((a:Int)+1)=((a+1:Nat):Int) by omega];obtain ⟨e,D,I⟩:=ih.2 n.kids (a+1) d ak;exact ⟨e,D,fun h=>⟨by have:=I h;omega,by omega⟩⟩
  ·cases ks with
   | nil=>rw [nB];exact ⟨_,rfl,fun _=>Int.le_refl _⟩
   | cons k r =>
    rw [nB];split
    ·rename_i hk;subst hk;rw [mI]
     obtain ⟨e,D,I⟩:=ih.1 next (d+1) ak
     rw [D];simp only;split
     ·exact zek
     ·rename_i h0;have h3:=I ak;obtain ⟨m,rfl⟩:∃ m:Nat,e=(m:Int):=⟨e.toNat,by omega⟩;obtain ⟨e',h4,h5⟩:=ih.2 r m d ak;exact ⟨e',h4,fun h=>by have:=h5 h;omega⟩
    ·exact zek
def dH (Q:Fn->T->Prop):List Fn->Nat->List T->Prop
 | [],_,[]=>True
 | f::r,a,t::l=>f.body=(a:Int)/\Q f t/\dH Q r (a+aQ t) l
 | _,_,_=>False
theorem dH.len {Q:Fn->T->Prop}:∀ {fns:List Fn} {a:Nat} {l:List T},dH Q fns a l->fns.length=l.length
 | [],_,[],_=>rfl
 | f::r,a,t::l,h=>by rw [dH] at h;rw [length_cons,length_cons,dH.len h.2.2]
 | [],_,t::l,h=>by cases h
 | f::r,_,[],h=>by cases h
theorem dH.mono {Q R:Fn->T->Prop}:∀ {fns:List Fn} {a:Nat} {l:List T},dH Q fns a l->(∀ f t,f∈fns->t∈l->Q f t->R f t)->dH R fns a l
 | [],_,[],_,_=>trivial
 | f::r,a,t::l,h,hq=>by
  rw [dH] at h |-;exact ⟨h.1,hq _ _ mem_cons_self mem_cons_self h.2.1,dH.mono h.2.2 fun f t hf ht=>hq f t (di _ hf) (di _ ht)⟩
 | [],_,t::l,h,_=>by cases h
 | f::r,_,[],h,_=>by cases h
theorem dH.at_ {Q:Fn->T->Prop}:∀ {fns:List Fn} {a:Nat} {l:List T},dH Q fns a l->∀ (i:Nat) f t,fns[i]?=some f->l[i]?=some t->f.body=((a+aB (l.take i):Nat):Int)/\Q f t
 | [],_,[],_,i,f,t,D,I=>by simp at D
 | f::r,a,t::l,h,i,f',t',D,I=>by
  rw [dH] at h
  cases i with
  | zero=>cases D;cases I;rw [List.take_zero,aB];exact ⟨h.1,h.2.1⟩
  | succ i =>
   obtain ⟨k1,k2⟩:=dH.at_ h.2.2 i f' t' ze7 zfe;exact ⟨by rw [k1,List.take_succ_cons,aB];omega,k2⟩
 | [],_,t::l,h,_,_,_,_,_=>by cases h
 | f::r,_,[],h,_,_,_,_,_=>by cases h
structure IQ (f:Fn) (t:T):Prop where
 name:bC f.name=true
 params:cy f.params=true
 kind:t.n.kind=14
 all:cX t=true
theorem yV {nodes:List Nd}:∀ (fns:List Fn) (next:Nat) (e:Int),gx nodes fns (next:Int)=some (some e)->∃ l,da nodes next l/\dH IQ fns next l/\e=((next+aB l:Nat):Int)
 | [],next,e,h=>by rw [gx] at h;cases h;exact ⟨[],trivial,trivial,by simp [aB]⟩
 | f::r,next,e,h=>by
  rw [gx,mI] at h
  cases hn:oz nodes (fN nodes) next 0 with
  | none=>exact zde
  | some e1 =>
   rw [hn] at h;simp only at h;split at h
   ·cases h
   ·rename_i hc;split at h
    ·cases h
    ·rename_i hp;obtain ⟨t,D,I⟩:=(Hr _).1 _ _ _ hn ak;have hle:=eL.le t _ D;rw [(xU _).1 t next D ze5] at h;simp only at h;split at h
     ·cases h
     ·rename_i hk;subst I;obtain ⟨l,k1,k2,k3⟩:=yV r _ e h;refine ⟨t::l,by rw [da];exact ⟨D,k1⟩,?_,by rw [k3,aB];omega⟩;rw [dH];refine ⟨by omega,⟨?_,?_,?_,?_⟩,k2⟩
      ·cases hq:bC f.name with
       | true=>rfl
       | false=>exact absurd (.inr (.inl hq)) hc
      ·simpa using hp
      ·exact Decidable.byContradiction fun hq=>hk (.inl hq)
      ·cases hq:cX t with
       | true=>rfl
       | false=>exact absurd (.inr hq) hk
theorem yU {nodes:List Nd} (hl:nodes.length<=800):∀ (fns:List Fn) (next:Nat) (l:List T),da nodes next l->dH IQ fns next l->gx nodes fns (next:Int)=some (some ((next+aB l:Nat):Int))
 | [],next,[],_,_=>by rw [gx,aB];rfl
 | f::r,next,t::l,h,hf=>by
  rw [da] at h;rw [dH] at hf;have hle:=eL.le t _ h.1;rw [gx,mI,(QY hl _).1 t next 0 h.1 (aY _) ze5];simp only;rw [ad (by rw [hf.2.1.name];rintro (h | h | h);exact h hf.1;cases h;omega),ad (by rw [hf.2.1.params];decide),(xU _).1 t next h.1 ze5];simp only;rw [ad (by rw [hf.2.1.all];rintro (h | h);exact h hf.2.1.kind;cases h),yU hl r _ l h.2 hf.2.2,aB]
  congr 2;omega
 | [],_,t::l,_,h=>by cases h
 | f::r,_,[],_,h=>by cases h
theorem wV {nodes:List Nd}:∀ (fns:List Fn) (next:Nat),∃ r,gx nodes fns (next:Int)=some r
 | [],next=>⟨_,by rw [gx]⟩
 | f::r,next=>by
  obtain ⟨e,D,I⟩:=(KS (nodes:=nodes) (fN nodes)).1 next 0 ze5
  rw [gx,mI,D];simp only;split
  ·exact ⟨_,rfl⟩
  ·rename_i hc;split
   ·exact ⟨_,rfl⟩
   ·obtain ⟨t,k1,k2⟩:=(Hr _).1 _ _ _ D ak;have hle:=eL.le t _ k1;rw [(xU _).1 t next k1 ze5];simp only;split
    ·exact ⟨_,rfl⟩
    ·rw [k2];exact wV r _
theorem J3 (p:Src):∃ b,od p=some b:=by
 unfold od;split
 ·exact ⟨_,rfl⟩
 ·split
  ·exact ⟨_,rfl⟩
  ·obtain ⟨r,h⟩:=wV (nodes:=p.nodes) p.fns 0;rw [show ((0:Nat):Int)=0 from rfl] at h;rw [h]
   cases r <;> exact ⟨_,rfl⟩
structure b8 (p:Src) (l:List T):Prop where
 globals:cy p.globals=true
 arrays:p.arrays.all nA=true
 st:da p.nodes 0 l
 fns:dH IQ p.fns 0 l
 len:aB l=p.nodes.length
 few:p.nodes.length<=800
theorem RL {p:Src} (h:od p=some true):∃ l,b8 p l:=by
 unfold od at h;split at h
 ·cases h
 ·rename_i D;split at h
  ·cases h
  ·rename_i I;rw [show (0:Int)=((0:Nat):Int) from rfl] at h
   cases hf:gx p.nodes p.fns ((0:Nat):Int) with
   | none=>rw [hf] at h;cases h
   | some r =>
    rw [hf] at h
    cases r with
    | none=>cases h
    | some e =>
     obtain ⟨l,k1,k2,k3⟩:=yV _ _ _ hf;simp only [Option.some.injEq,au,beq_iff_eq,decide_eq_true_eq] at h;exact ⟨l,by simpa using D,by simpa using I,k1,k2,by omega,by omega⟩
theorem b8.od {p:Src} {l:List T} (h:b8 p l):od p=some true:=by
 unfold Go.Sp.od;rw [ad (by rw [h.globals];decide),ad (by rw [h.arrays];decide),show (0:Int)=((0:Nat):Int) from rfl,yU h.few _ _ _ h.st h.fns];simp only [Option.some.injEq,au,beq_iff_eq,decide_eq_true_eq];have:=h.len;have:=h.few;omega
theorem BO {nodes:List Nd}:∀ (fns:List Fn) (next:Nat) (acc l:List T) (e:Nat),lh nodes fns next acc=some (l,e)->∃ l',l=acc++l'/\da nodes next l'/\dH (fun _ _=>True) fns next l'/\e=next+aB l'/\cz l'
 | [],next,acc,l,e,h=>by rw [lh] at h;cases h;exact ⟨[],by simp,trivial,trivial,by simp [aB],trivial⟩
 | f::r,next,acc,l,e,h=>by
  rw [lh] at h
  cases hq:tr nodes next with
  | none=>rw [hq] at h;cases h
  | some x =>
   obtain ⟨t,e1⟩:=x;rw [hq] at h;simp only at h;split at h
   ·rename_i hb;obtain ⟨a1,a2,a3⟩:=ME _ _ _ _ hq;subst a2;obtain ⟨l',b1,b2,b3,b4,b5⟩:=BO r _ _ _ _ h;exact ⟨t::l',by rw [b1];simp,by rw [da];exact ⟨a1,b2⟩,by rw [dH];exact ⟨hb,trivial,b3⟩,by rw [b4,aB];omega,by rw [cz];exact ⟨a3,b5⟩⟩
   ·cases h
theorem Hm {nodes:List Nd} {Q:Fn->T->Prop}:∀ (fns:List Fn) (next:Nat) (acc l:List T),da nodes next l->dH Q fns next l->cz l->lh nodes fns next acc=some (acc++l,next+aB l)
 | [],next,acc,[],_,_,_=>by rw [lh,aB];simp
 | f::r,next,acc,t::l,h,hf,ha=>by
  rw [da] at h;rw [dH] at hf;rw [cz] at ha;have hle:=eL.le t _ h.1;rw [lh,tr,F9 _ t next h.1 ha.1 ak];simp only;rw [ah hf.1,Hm r _ _ l h.2 hf.2.2 ha.2,aB];simp [iD]
 | [],_,_,t::l,_,h,_=>by cases h
 | f::r,_,_,[],_,h,_=>by cases h
mutual
theorem eL.fl {nodes:List Nd}:∀ (t:T) (a:Nat),eL nodes a t->(nodes.take (a+aQ t)).drop a=fQ a t
 | .mk n l,a,h=>by
  have hle:=eL.le _ _ h;rw [eL] at h;rw [aQ] at hle;have D:=da.fl l (a+1) h.2.2 (by have:=(bh h.1).1;omega);rw [fQ,<-h.2.1,<-D,aQ,show a+(aB l+1)=a+1+aB l by omega]
  have I:(nodes.take (a+1+aB l))[a]?=some n:=by rw [List.getElem?_take,ah ak];exact h.1
  obtain ⟨h3,h4⟩:=bh I;rw [o8 h3,h4]
theorem da.fl {nodes:List Nd}:∀ (l:List T) (a:Nat),da nodes a l->a<=nodes.length->(nodes.take (a+aB l)).drop a=cD a l
 | [],a,h,ha=>by
  rw [cD];exact gk (by rw [aB,jw,lH];omega)
 | t::r,a,h,ha=>by
  rw [da] at h;have hle:=eL.le _ _ h.1;have D:=eL.fl t a h.1;have I:=da.fl r (a+aQ t) h.2 hle;have EN:=da.le r _ h.2 hle;rw [cD,<-D,<-I,aB,show a+(aQ t+aB r)=a+aQ t+aB r by omega]
  have h3:nodes.take (a+aQ t)=(nodes.take (a+aQ t+aB r)).take (a+aQ t):=by rw [List.take_take,Nat.min_eq_left ak]
  rw [h3];generalize hm:nodes.take (a+aQ t+aB r)=m
  have qv:m.length=a+aQ t+aB r:=by rw [<-hm,lH];omega
  rw [<-List.drop_append_of_le_length (by rw [lH];omega),take_append_drop]
end
theorem da.all {nodes:List Nd} {l:List T} (h:da nodes 0 l) (hl:aB l=nodes.length):nodes=cD 0 l:=by
 have:=da.fl l 0 h (aY _);rw [eo,hl,iZ,List.drop_zero] at this;exact this
def mx (n:Int):ae:=if n < 0 then 45::eV n.natAbs else eV n.toNat
def rG (s:ae):Int:=match levels.findIdx? (fun l=>l.contains s) with | some i=>(i:Int) | none => -1
def uN (b:Bool) (x:ae):ae:=if b=true then (40::x)++[41] else x
def mz (t:T) (least:Int):Bool:=(t.n.kind==6)&&decide (rG t.n.s < least)
def uk (n:Nd) (l:List T) (x:List ae):ae :=
 if n.kind=1 then mx n.n
 else if n.kind=3 then ((n.s++[91])++x.getD 0 [])++[93]
 else if n.kind=4 then ((n.s++[40])++bp x)++[41]
 else if n.kind=5 then (n.s++[32])++(match l with | a::_=>uN (a.n.kind==6) (x.getD 0 []) | []=>[])
 else if n.kind=6 then (match l with
  | a::b::_=>(((uN (mz a (rG n.s)) (x.getD 0 [])++[32])++n.s)++[32])++uN (mz b (rG n.s+1)) (x.getD 1 [])
  | _=>[])
 else n.s
mutual
def cM:T->ae
 | .mk n l=>uk n l (fS l)
def fS:List T->List ae
 | []=>[]
 | t::r=>cM t::fS r
end
theorem MN (t:T):cM t=uk t.n t.kids (fS t.kids):=by cases t;rw [cM];rfl
theorem CN (l:List T):fS l=l.map cM:=by
 induction l with
 | nil=>rfl
 | cons t l ih=>rw [fS,ih];rfl
mutual
def gw:T->Nat
 | .mk n l=>n.s.length+60+eY l
def eY:List T->Nat
 | []=>0
 | t::r=>gw t+eY r
end
theorem jC (t:T):gw t=t.n.s.length+60+eY t.kids:=by cases t;rw [gw];rfl
theorem q5 {l:List T} {t:T} (h:t∈l):gw t<=eY l:=by
 induction l with
 | nil=>cases h
 | cons a l ih =>
  rw [eY]
  rcases ew h with rfl | h
  ·omega
  ·have:=ih h;omega
theorem Fk (l:List T):l.length * 60<=eY l:=by
 induction l with
 | nil=>simp
 | cons t l ih=>rw [eY,jC,length_cons];omega
theorem C3 {n:Nat} (h:n < 100000000000000000000):(eV n).length<=20:=BR 19 n zeO
theorem pH {n:Int} (h : -9223372036854775808<=n/\n<=9223372036854775807):(mx n).length<=21:=by
 unfold mx;split
 ·have:=C3 (n:=n.natAbs) ak;simp only [length_cons];omega
 ·have:=C3 (n:=n.toNat) ak;omega
theorem yb (b:Bool) (x:ae):(uN b x).length<=x.length+2:=by
 unfold uN;split <;> simp
theorem Ey:∀ (r:List ae),(r.flatMap fun y=>44::32::y).length=(r.map fun y=>y.length+2).sum
 | []=>rfl
 | z::r=>by
  have:=Ey r;simp only [List.flatMap_cons,aJ,List.map_cons,sum_cons,length_cons] at this |-;omega
theorem nI:∀ (x:List ae),(bp x).length<=(x.map fun y=>y.length+2).sum
 | []=>by simp [bp]
 | y::r=>by
  have h:=Ey r;rw [List.map_cons,sum_cons,bp,aJ,h];omega
mutual
def nO:T->Prop
 | .mk n l=>(-9223372036854775808<=n.n/\n.n<=9223372036854775807)/\oY l
def oY:List T->Prop
 | []=>True
 | t::r=>nO t/\oY r
end
theorem l6 (t:T):nO t↔(-9223372036854775808<=t.n.n/\t.n.n<=9223372036854775807)/\oY t.kids:=by cases t;rw [nO];exact Iff.rfl
theorem eC {l:List T} {t:T} (h:oY l) (ht:t∈l):nO t:=by
 induction l with
 | nil=>cases ht
 | cons a l ih =>
  rw [oY] at h
  rcases ew ht with rfl | ht
  ·exact h.1
  ·exact ih h.2 ht
theorem sJ:∀ (N:Nat) (t:T),aQ t<=N->nO t->(cM t).length+4<=gw t:=by
 intro N
 induction N with
 | zero=>intro t h;rw [eg] at h;omega
 | succ N ih =>
  intro t hN hn;rw [eg] at hN;rw [l6] at hn
  have hk:∀ a∈t.kids,(cM a).length+4<=gw a:=fun a ha=>by
   refine ih a ?_ (eC hn.2 ha)
   have:∀ (l:List T),a∈l->aQ a<=aB l:=by
    intro l
    induction l with
    | nil=>intro h;cases h
    | cons b l lD =>
     intro h;rw [aB]
     rcases ew h with rfl | h
     ·omega
     ·have:=lD h;omega
   have:=this _ ha;omega
  have XL:((fS t.kids).map fun y=>y.length+2).sum<=eY t.kids:=by
   have:∀ (l:List T),(∀ a∈l,(cM a).length+4<=gw a)->((fS l).map fun y=>y.length+2).sum<=eY l:=by
    intro l
    induction l with
    | nil=>intro _;simp [fS]
    | cons a l lD =>
     intro h;have D:=h a (mem_cons_self)
     have I:=lD fun b hb=>h b (di _ hb)
     rw [fS,eY,List.map_cons,sum_cons];omega
   exact this _ hk
  have h0:((fS t.kids).getD 0 []).length<=eY t.kids:=by
   cases hl:t.kids with
   | nil=>simp [fS]
   | cons a r =>
    have:=hk a (by rw [hl];exact mem_cons_self);rw [fS,eY];simp;omega
  have Yu:∀ a b r,t.kids=a::b::r->((fS t.kids).getD 0 []).length+((fS t.kids).getD 1 []).length+8<=eY t.kids:=fun a b r hl=>by
   have D:=hk a (by rw [hl];exact mem_cons_self);have I:=hk b (by rw [hl];exact di _ mem_cons_self);rw [hl,fS,fS,eY,eY];simp;omega
  rw [MN,jC];unfold uk;split
  ·have:=pH hn.1;omega
  ·split
   ·exact zab
   ·split
    ·have:=nI (fS t.kids);exact zab
    ·split
     ·cases hl:t.kids with
      | nil=>simp <;> omega
      | cons a r =>
       simp only [aJ,length_cons,length_nil];have:=yb (a.n.kind==6) ((fS (a::r)).getD 0 []);rw [hl] at h0;omega
     ·split
      ·match hl:t.kids with
       | []=>simp <;> omega
       | [a]=>simp <;> omega
       | a::b::r =>
        have D:=Yu a b r hl;rw [hl] at D;have I:=yb (mz a (rG t.n.s)) ((fS (a::b::r)).getD 0 []);have h3:=yb (mz b (rG t.n.s+1)) ((fS (a::b::r)).getD 1 []);exact zab
      ·omega
def kX (own:ae) (n:Nd) (k:Nat) (x b:List ae):ae :=
 if n.kind=13 then ((([118,97,114,32]++n.s)++[32,61,32])++x.getD 0 [])++[59]
 else if n.kind=7 then ((n.s++[32,61,32])++x.getD 0 [])++[59]
 else if n.kind=8 then ((((n.s++[91])++x.getD 0 [])++[93,32,61,32])++x.getD 1 [])++[59]
 else if n.kind=9 then (if k=3 then ((([105,102,32,40]++x.getD 0 [])++[41,32])++b.getD 1 [])++([32,101,108,115,101,32]++b.getD 2 []) else (([105,102,32,40]++x.getD 0 [])++[41,32])++b.getD 1 [])
 else if n.kind=10 then (([119,104,105,108,101,32,40]++x.getD 0 [])++[41,32])++b.getD 1 []
 else if n.kind=11 then ([114,101,116,117,114,110,32]++x.getD 0 [])++[59]
 else if n.kind=12 then x.getD 0 []++[59]
 else own
section
variable (tx:T->ae) (inl:List ae->Nat->ae)
mutual
def eb:Nat->T->ae
 | d,.mk n l=>kX (tx (.mk n l)) n l.length (l.map tx) (fY d l)
def fY:Nat->List T->List ae
 | _,[]=>[]
 | d,t::r=>iT d t::fY d r
def iT:Nat->T->ae
 | d,.mk n l=>inl (ox (d+1) l) d
def ox:Nat->List T->List ae
 | _,[]=>[]
 | d,t::r=>eb d t::ox d r
end
end
theorem F1 (tx:T->ae) (inl:List ae->Nat->ae) (d:Nat) (t:T):eb tx inl d t=kX (tx t) t.n t.kids.length (t.kids.map tx) (fY tx inl d t.kids):=by cases t;rw [eb];rfl
theorem Eh (tx:T->ae) (inl:List ae->Nat->ae) (d:Nat) (t:T):iT tx inl d t=inl (ox tx inl (d+1) t.kids) d:=by cases t;rw [iT];rfl
theorem BN (tx:T->ae) (inl:List ae->Nat->ae) (d:Nat) (l:List T):fY tx inl d l=l.map (iT tx inl d):=by
 induction l with
 | nil=>rfl
 | cons t l ih=>rw [fY,ih];rfl
theorem CE (tx:T->ae) (inl:List ae->Nat->ae) (d:Nat) (l:List T):ox tx inl d l=l.map (eb tx inl d):=by
 induction l with
 | nil=>rfl
 | cons t l ih=>rw [ox,ih];rfl
def rU (acc:ae) (l:List ae):ae:=l.foldl (fun acc s=>acc++(s++[32])) acc
def dk (l:List ae) (d:Nat):ae:=rU [123,32] l++[125]
def ko:List ae->Nat
 | []=>0
 | s::l=>s.length+1+ko l
theorem qD (l:List ae):∀ acc,(rU acc l).length=acc.length+ko l:=by
 induction l with
 | nil=>intro acc;simp [rU,ko]
 | cons s l ih =>
  intro acc;have:=ih (acc++(s++[32]));simp only [rU,foldl_cons,ko,aJ,length_cons,length_nil] at this |-;omega
theorem F3 (a b:List ae):ko (a++b)=ko a+ko b:=by
 induction a with
 | nil=>simp [ko]
 | cons s a ih=>simp only [cons_append,ko,ih];omega
theorem MH (l:List ae) (k:Nat):ko (l.take k)<=ko l:=by
 have:ko l=ko (l.take k)+ko (l.drop k):=by rw [<-F3,take_append_drop]
 omega
theorem KC (acc:ae) (l:List ae) (s:ae):rU acc (l++[s])=rU acc l++(s++[32]):=by simp [rU]
theorem RM {l:List ae} {s:ae} (h:s∈l):s.length<=ko l:=by
 induction l with
 | nil=>cases h
 | cons a l ih =>
  rw [ko]
  rcases ew h with rfl | h
  ·omega
  ·have:=ih h;omega
theorem E7 {l:List ae} {d:Nat} {s:ae} (h:s∈l):s.length<=(dk l d).length:=by
 have D:=RM h;have I:=qD l [123,32];unfold dk;rw [aJ,I];omega
def g1 (s:ae):ae:=([105,110,116,32]++s)++[59,10]
def a1 (a:Ar):ae:=((([105,110,116,32]++a.name)++[91])++mx a.size)++[93,59,10]
def cI (tx:T->ae) (inl:List ae->Nat->ae) (x:Fn × T):ae:=((((([102,117,110,99,32]++x.1.name)++[40])++bp x.1.params)++[41,32])++iT tx inl 0 x.2)++[10]
def bH {α:Type} (f:α->ae):ae->List α->ae
 | acc,[]=>acc
 | acc,x::l=>bH f (acc++f x) l
theorem po {α:Type} (f:α->ae) (l:List α) (x:α):∀ acc,bH f acc (l++[x])=bH f acc l++f x:=by
 induction l with
 | nil=>intro acc;rfl
 | cons y l ih=>intro acc;simp only [cons_append,bH];exact ih _
theorem Nx {α:Type} (f:α->ae) (l k:List α):∀ acc,bH f acc (l++k)=bH f (bH f acc l) k:=by
 induction l with
 | nil=>intro acc;rfl
 | cons y l ih=>intro acc;simp only [cons_append,bH];exact ih _
theorem sw {α:Type} (f:α->ae) (l:List α):∀ acc,acc.length<=(bH f acc l).length:=by
 induction l with
 | nil=>intro acc;exact aD _
 | cons y l ih=>intro acc;have:=ih (acc++f y);rw [bH];rw [aJ] at this;omega
theorem px {α:Type} (f:α->ae) (l:List α) (k:Nat) (acc:ae):(bH f acc (l.take k)).length<=(bH f acc l).length:=by
 have:bH f acc l=bH f (bH f acc (l.take k)) (l.drop k):=by rw [<-Nx,take_append_drop]
 rw [this];exact sw f _ _
def jJ (tx:T->ae) (inl:List ae->Nat->ae) (p:Src) (trees:List T):ae:=bH (cI tx inl) (bH a1 (bH g1 [] p.globals) p.arrays) (p.fns.zip trees)
end Go.Im
namespace Go.Im
def eU {α:Type} (p:α->α->Bool):List α->List α->Bool
 | [],[]=>true
 | a::r,b::s=>p a b&&eU p r s
 | _,_=>false
theorem uQ {α:Type} {p:α->α->Bool}:∀ {a b:List α},eU p a b=true->a.length=b.length
 | [],[],_=>rfl
 | a::r,b::s,h=>by rw [eU,au] at h;rw [length_cons,length_cons,uQ h.2]
 | [],b::s,h=>by cases h
 | a::r,[],h=>by cases h
theorem ry {α:Type} {p:α->α->Bool} {a b:List α} (h:a.length≠b.length):eU p a b=false:=by
 cases hc:eU p a b with
 | false=>rfl
 | true=>exact absurd (uQ hc) h
theorem Ep {α:Type} {p:α->α->Bool}:∀ {a b:List α} {k:Nat} {x y:α},a[k]?=some x->b[k]?=some y->eU p a b=true->p x y=true
 | a::r,b::s,0,x,y,D,I,h=>by cases D;cases I;rw [eU,au] at h;exact h.1
 | a::r,b::s,k+1,x,y,D,I,h=>by rw [eU,au] at h;exact Ep ze7 zfe h.2
 | [],_,k,x,y,D,I,h=>by simp at D
 | a::r,[],k,x,y,D,I,h=>by simp at I
theorem rz {α:Type} {p:α->α->Bool} {a b:List α} {k:Nat} {x y:α} (D:a[k]?=some x) (I:b[k]?=some y) (h:p x y=false):eU p a b=false:=by
 cases hc:eU p a b with
 | false=>rfl
 | true=>have:=Ep D I hc;rw [h] at this;cases this
theorem Hs {α:Type} {p:α->α->Bool}:∀ {a b:List α},a.length=b.length->(∀ (k:Nat) x y,a[k]?=some x->b[k]?=some y->p x y=true)->eU p a b=true
 | [],[],_,_=>rfl
 | a::r,b::s,hl,h=>by
  rw [eU,h 0 a b rfl rfl,Hs zeQ fun k x y D I=>h (k+1) x y ze7 zfe];rfl
 | [],b::s,hl,h=>by simp at hl
 | a::r,[],hl,h=>by simp at hl
def sT {α:Type} (p:α->α->Bool) (a b:List α) (k:Nat):Prop:=∀ j x y,j < k->a[j]?=some x->b[j]?=some y->p x y=true
theorem ml {α:Type} {p:α->α->Bool} {a b:List α} {k:Nat} {x y:α} (D:a[k]?=some x) (I:b[k]?=some y) (h:sT p a b k) (hp:p x y=true):sT p a b (k+1):=fun j u v hj h3 h4=>by
 by_cases he:j=k
 ·subst he;rw [D] at h3;rw [I] at h4;cases h3;cases h4;exact hp
 ·exact h j u v ak h3 h4
theorem nC {α:Type} {p:α->α->Bool} {a b:List α} (hl:a.length=b.length) (h:sT p a b a.length):eU p a b=true :=
 Hs hl fun k x y D I=>h k x y (bh D).1 D I
def rf (a b:Go.Sp.Fn):Bool:=((a.name==b.name)&&eU (fun x y=>x==y) a.params b.params)&&(a.body==b.body)
def jL (a b:Go.Xp.Nd):Bool:=(((a.kind==b.kind)&&(a.n==b.n))&&(a.s==b.s))&&eU (fun x y=>x==y) a.kids b.kids
def yR (x y:Go.Xp.Ar):Bool:=(x.name==y.name)&&(x.size==y.size)
open Go.Xp Go.Sp
theorem lN (l:List T):(aK l).length=l.length:=by rw [sy,cU]
theorem rV (t:T):(er t).n=⟨t.n.kind,0,t.n.n,t.n.s,[]⟩:=by cases t;rw [er];rfl
theorem QZ (t:T):(er t).kids=aK t.kids:=by cases t;rw [er];rfl
mutual
theorem rJ:∀ t:T,aQ (er t)=aQ t
 | .mk n l=>by rw [er,aQ,aQ,og l]
theorem og:∀ l:List T,aB (aK l)=aB l
 | []=>by rw [aK]
 | t::r=>by rw [aK,aB,aB,rJ t,og r]
end
theorem Dj (m:Nat):∀ (l:List T) (i:Nat),bB m i (aK l)=bB m i l
 | [],i=>by rw [aK]
 | t::r,i=>by rw [aK,bB,bB,Dj m r (i+1),rV]
theorem DA:∀ (l:List T),(aK l).all (fun x=>fZ x.n.kind)=l.all (fun x=>fZ x.n.kind)
 | []=>by rw [aK]
 | t::r=>by rw [aK,all_cons,all_cons,DA r,rV]
theorem Uf (n:Nd) (k:Nat) (kd:Nat->Bool) (bl:Bool) (h:0<=n.at_) (h':own ⟨n.kind,0,n.n,n.s,[]⟩ k kd bl=true):own n k kd bl=true:=by
 unfold own at h' |-;rw [ad zeL] at h';rw [ad zeO];exact h'
mutual
theorem An:∀ t:T,cX (er t)=true->jn t->cX t=true
 | .mk n l,h,ha=>by
  rw [er,cX,au] at h;rw [jn] at ha;rw [cX,au];refine ⟨Hi l h.1 ha.2,?_⟩;have I:own ⟨n.kind,0,n.n,n.s,[]⟩ (aK l).length (fun m=>bB m 0 (aK l)) ((aK l).all fun x=>fZ x.n.kind)=true:=h.2;rw [lN,DA] at I;simp only [Dj] at I;exact Uf n _ _ _ ha.1 I
theorem Hi:∀ l:List T,bX (aK l)=true->cz l->bX l=true
 | [],_,_=>rfl
 | t::r,h,ha=>by
  rw [aK,bX,au] at h;rw [cz] at ha;rw [bX,au];exact ⟨An t h.1 ha.1,Hi r h.2 ha.2⟩
end
mutual
theorem Am:∀ t:T,cX t=true->jn t
 | .mk n l,h=>by
  rw [cX,au] at h;rw [jn];refine ⟨?_,Hh l h.1⟩;have I:own n l.length (fun m=>bB m 0 l) (l.all fun x=>fZ x.n.kind)=true:=h.2
  by_cases h0:n.at_ < 0
  ·unfold own at I;rw [ah zfi] at I;cases I
  ·omega
theorem Hh:∀ l:List T,bX l=true->cz l
 | [],_=>trivial
 | t::r,h=>by
  rw [bX,au] at h;rw [cz];exact ⟨Am t h.1,Hh r h.2⟩
end
theorem jU (a:E):fa a.tree.n.kind=true:=by cases a <;> rfl
mutual
theorem E.fO:∀ a:E,a.ok=true->cX a.tree=true
 | .num n,h=>by
  simp only [E.ok,au] at h;rw [E.tree,cX,bX];simp [cd,own,T.n,T.kids];exact h
 | .name s,h=>by
  simp only [E.ok] at h;rw [E.tree,cX,bX];simp [cd,own,T.n,T.kids,h]
 | .at_ s a,h=>by
  simp only [E.ok,au] at h;have I:=E.fO a h.2;have h3:=jU a;rw [E.tree,cX,bX,bX,I];simp [cd,own,T.n,T.kids,h.1,bB];exact h3
 | .call s l,h=>by
  simp only [E.ok,au] at h;obtain ⟨I,h3⟩:=E.rL l h.2;rw [E.tree,cX,I];have:=h3 (E.trees l).length 0 ak;simp [cd,own,T.n,T.kids,h.1,this]
 | .un s a,h=>by
  simp only [E.ok,au] at h;have I:=E.fO a h.2;have h3:=jU a;rw [E.tree,cX,bX,bX,I];simp [cd,own,T.n,T.kids,bB];exact ⟨by simpa using h.1,h3⟩
 | .bin s a b,h=>by
  simp only [E.ok,au] at h;have I:=E.fO a h.1.2;have h3:=jU a;have h4:=E.fO b h.2;have h5:=jU b;rw [E.tree,cX,bX,bX,bX,I,h4];simp [cd,own,T.n,T.kids,bB,h.1.1];exact ⟨h3,h5⟩
theorem E.rL:∀ l:List E,E.bW l=true->bX (E.trees l)=true/\∀ m i,i+(E.trees l).length<=m->bB m i (E.trees l)=true
 | [],_=>⟨rfl,fun m i _=>rfl⟩
 | a::l,h=>by
  simp only [E.bW,au] at h;obtain ⟨I,h3⟩:=E.rL l h.2;refine ⟨by rw [E.trees,bX,E.fO a h.1,I];rfl,fun m i hm=>?_⟩;rw [E.trees,length_cons] at hm;rw [E.trees,bB,ah ak,jU a,h3 m (i+1) ak];rfl
end
theorem Mw (a:S):fZ a.tree.n.kind=true:=by cases a <;> rfl
mutual
theorem S.fO:∀ a:S,a.ok=true->cX a.tree=true
 | .set s a,h=>by
  exact zbS
 | .var s a,h=>by
  exact zbS
 | .ret a,h=>by
  exact zb0
 | .do_ a,h=>by
  exact zb0
 | .put s a b,h=>by
  simp only [S.ok,au] at h;have I:=E.fO a h.2.1;have h3:=jU a;have h4:=E.fO b h.2.2;have h5:=jU b;rw [S.tree,cX,bX,bX,bX,I,h4];simp [cd,own,T.n,T.kids,bB,h.1];exact ⟨h3,h5⟩
 | .if1 c b,h=>by
  exact zbx
 | .if2 c b b2,h=>by
  simp only [S.ok,au] at h;have I:=E.fO c h.1;have h3:=jU c;have h4:=S.pk b h.2.1;have h5:=S.pk b2 h.2.2;rw [S.tree,cX,bX,bX,bX,bX,I,h4,h5];simp [cd,own,T.n,T.kids,bB];exact h3
 | .while_ c b,h=>by
  exact zbx
theorem S.pk:∀ l:List S,S.bW l=true->cX (.mk ⟨14,0,0,[],[]⟩ (S.trees l))=true
 | l,h=>by
  obtain ⟨D,I⟩:=S.rL l h;have h3:cd (.mk ⟨14,0,0,[],[]⟩ (S.trees l))=own ⟨14,0,0,[],[]⟩ (S.trees l).length (fun m=>bB m 0 (S.trees l)) ((S.trees l).all fun x=>fZ x.n.kind):=rfl;rw [cX,D,h3,I];simp [own]
theorem S.rL:∀ l:List S,S.bW l=true->bX (S.trees l)=true/\(S.trees l).all (fun x=>fZ x.n.kind)=true
 | [],_=>⟨rfl,rfl⟩
 | a::l,h=>by
  simp only [S.bW,au] at h;obtain ⟨D,I⟩:=S.rL l h.2;exact ⟨by rw [S.trees,bX,S.fO a h.1,D];rfl,by rw [S.trees,all_cons,I,Mw a];rfl⟩
end
theorem Vv {n:Nd} {k:Nat} {kd:Nat->Bool} {bl:Bool} (h:own n k kd bl=true):dp n.kind k=true:=by
 have hc:n.kind=1\/n.kind=2\/n.kind=3\/n.kind=4\/n.kind=5\/n.kind=6\/n.kind=7\/n.kind=8\/n.kind=9\/n.kind=10\/n.kind=11\/n.kind=12\/n.kind=13\/n.kind=14\/(n.kind < 1\/14 < n.kind):=by omega
 unfold own at h
 by_cases h0:decide (n.at_ < 0)=true
 ·rw [ah h0] at h;cases h
 rw [ad h0] at h
 by_cases D:(n.kind != 1&&n.n != 0)=true
 ·rw [ah D] at h;cases h
 rw [ad D] at h;clear h0 D
 rcases hc with hk | hk | hk | hk | hk | hk | hk | hk | hk | hk | hk | hk | hk | hk | hk
 all_goals (first | (simp [hk] at h;simp [dp,hk];done) | (simp [hk] at h;simp [dp,hk];omega) | (simp [hk] at h;simp [dp,hk,h];done) | skip)
 ·exfalso
  have e1:(n.kind==1)=false:=by simp;omega
  have e2:(n.kind==2)=false:=by simp;omega
  have e3:(n.kind==3)=false:=by simp;omega
  have e4:(n.kind==4)=false:=by simp;omega
  have e5:(n.kind==5)=false:=by simp;omega
  have e6:(n.kind==6)=false:=by simp;omega
  have e7:(n.kind==7)=false:=by simp;omega
  have e8:(n.kind==8)=false:=by simp;omega
  have e9:(n.kind==9)=false:=by simp;omega
  have V0:(n.kind==10)=false:=by simp;omega
  have Yk:(n.kind==11)=false:=by simp;omega
  have Yl:(n.kind==12)=false:=by simp;omega
  have Ym:(n.kind==13)=false:=by simp;omega
  have Yn:(n.kind==14)=false:=by simp;omega
  rw [e1,e2,e3,e4,e5,e6,e7,e8,e9,V0,Yk,Yl,Ym,Yn] at h;simp at h
mutual
theorem I5:∀ t:T,cX t=true->gq t=true
 | .mk n l,h=>by
  rw [cX,au] at h;rw [gq,Ks l h.1,Bool.and_true];exact Vv h.2
theorem Ks:∀ l:List T,bX l=true->zP l=true
 | [],_=>rfl
 | t::r,h=>by
  rw [bX,au] at h;rw [zP,I5 t h.1,Ks r h.2];rfl
end
theorem OS (t:T) (z:Int):mz (er t) z=mz t z:=by unfold mz;rw [rV]
theorem RO (n:Nd) (l:List T) (x:List ae):uk ⟨n.kind,0,n.n,n.s,[]⟩ (aK l) x=uk n l x:=by
 unfold uk
 match l with
 | []=>rw [aK]
 | [a]=>rw [aK,aK];simp only [rV]
 | a::b::r=>rw [aK,aK];simp only [rV,OS]
mutual
theorem Bp:∀ t:T,cM (er t)=cM t
 | .mk n l=>by rw [er,cM,cM,CM l,RO]
theorem CM:∀ l:List T,fS (aK l)=fS l
 | []=>by rw [aK]
 | t::r=>by rw [aK,fS,fS,Bp t,CM r]
end
mutual
theorem Ur (inl:List ae->Nat->ae):∀ (t:T) (d:Nat),eb cM inl d (er t)=eb cM inl d t
 | .mk n l,d=>by
  have h:=Bp (.mk n l);rw [er] at h |-;rw [eb,eb,h,Hk inl l d,lN]
  have:(aK l).map cM=l.map cM:=by rw [<-CN,<-CN,CM]
  rw [this];rfl
theorem Hk (inl:List ae->Nat->ae):∀ (l:List T) (d:Nat),fY cM inl d (aK l)=fY cM inl d l
 | [],d=>by rw [aK]
 | t::r,d=>by rw [aK,fY,fY,Ei inl t d,Hk inl r d]
theorem Ei (inl:List ae->Nat->ae):∀ (t:T) (d:Nat),iT cM inl d (er t)=iT cM inl d t
 | .mk n l,d=>by rw [er,iT,iT,Iz inl l (d+1)]
theorem Iz (inl:List ae->Nat->ae):∀ (l:List T) (d:Nat),ox cM inl d (aK l)=ox cM inl d l
 | [],d=>by rw [aK]
 | t::r,d=>by rw [aK,ox,ox,Ur inl t d,Iz inl r d]
end
theorem L9 {s:ae} (h:fm s=true):rG s=(dz s:Int):=by
 unfold rG dz
 cases hf:levels.findIdx? (fun l=>l.contains s) with
 | some i=>rfl
 | none =>
  rw [List.findIdx?_eq_none_iff] at hf;unfold fm at h;rw [yK] at h;obtain ⟨l,D,I⟩:=h;have:=hf l D;rw [I] at this;cases this
theorem H0 {a:E} (h:a.ok=true) (k:Nat) (hk:k<=9):mz a.tree (k:Int)=decide (a.lv < k):=by
 have key:∀ b:Bool,(false&&b)=decide (9 < k):=fun b=>by rw [Bool.false_and,decide_eq_false ak]
 cases a with
 | bin s x y =>
  simp only [E.ok,au] at h;show (true&&decide (rG s < (k:Int)))=decide (dz s < k);rw [L9 h.1.1,Bool.true_and];exact decide_eq_decide.2 ak
 | num n=>exact key _
 | name n=>exact key _
 | at_ s a=>exact key _
 | call s l=>exact key _
 | un s a=>exact key _
theorem BP (lv k:Nat) (x:ae):uN (decide (lv < k)) x=mj lv k x:=by
 unfold uN mj
 by_cases h:lv < k
 ·rw [ah zeO,ah h]
 ·rw [ad zeO,ad h]
theorem Sa {a:E} (h:a.ok=true):(a.tree.n.kind==6)=decide (a.lv < 9):=by
 cases a with
 | bin s x y =>
  simp only [E.ok,au] at h;have:=(nM h.1.1).1;show true=decide (dz s < 9);exact (decide_eq_true this).symm
 | _=>rfl
mutual
theorem dK:∀ a:E,a.ok=true->cM a.tree=a.txt
 | .num n,h=>by
  simp only [E.ok,au,decide_eq_true_eq] at h;rw [E.tree,cM,E.txt];unfold uk mx;simp only [if_true];rw [ad ak]
 | .name s,h=>by
  rw [E.tree,cM,E.txt];simp [uk]
 | .at_ s a,h=>by
  simp only [E.ok,au] at h;have I:=dK a h.2;rw [E.tree,cM,fS,fS,I,E.txt];simp [uk]
 | .call s l,h=>by
  simp only [E.ok,au] at h;rw [E.tree,cM,IH l h.2,E.txt];simp [uk]
 | .un s a,h=>by
  simp only [E.ok,au] at h;have I:=dK a h.2;rw [E.tree,cM,fS,fS,I,E.txt,<-BP,<-Sa h.2];simp [uk]
 | .bin s a b,h=>by
  simp only [E.ok,au] at h;have I:=dK a h.1.2;have h3:=dK b h.2;have hl:=(nM h.1.1).1;have e1:=H0 h.1.2 (dz s) ak;have e2:=H0 h.2 (dz s+1) ak;rw [E.tree,cM,fS,fS,fS,I,h3,E.txt,<-BP,<-BP,<-e1,<-e2];unfold uk;simp only [L9 h.1.1];simp
theorem IH:∀ l:List E,E.bW l=true->fS (E.trees l)=E.cC l
 | [],_=>rfl
 | a::l,h=>by
  simp only [E.bW,au] at h;rw [E.trees,fS,E.cC,dK a h.1,IH l h.2]
end
theorem xa (x:E->ae):∀ (l:List S) (acc:ae),rU acc (l.map (S.txt x))=S.cC x acc l
 | [],acc=>by rw [S.cC];rfl
 | a::l,acc=>by
  rw [S.cC,<-xa x l];simp [rU,fF]
mutual
theorem RI:∀ (s:S),s.ok=true->∀ d,eb cM dk d s.tree=s.txt E.txt
 | .set s a,h,d=>by
  exact zc8
 | .var s a,h,d=>by
  exact zc8
 | .ret a,h,d=>by
  exact zdl
 | .do_ a,h,d=>by
  exact zdl
 | .put s a b,h,d=>by
  simp only [S.ok,au] at h;rw [S.tree,eb,List.map_cons,List.map_cons,dK a h.2.1,dK b h.2.2,S.txt];simp [kX]
 | .if1 c b,h,d=>by
  exact zbY
 | .if2 c b b2,h,d=>by
  simp only [S.ok,au] at h;have hb:=uM b h.2.1 d;have dS:=uM b2 h.2.2 d;rw [S.tree,eb,List.map_cons,dK c h.1,fY,fY,fY,fY,hb,dS,S.txt];simp [kX,dD]
 | .while_ c b,h,d=>by
  exact zbY
theorem uM:∀ (l:List S),S.bW l=true->∀ d,iT cM dk d (.mk ⟨14,0,0,[],[]⟩ (S.trees l))=dD E.txt l
 | l,h,d=>by
  rw [iT,IA l h (d+1),dk,xa];rfl
theorem IA:∀ (l:List S),S.bW l=true->∀ d,ox cM dk d (S.trees l)=l.map (S.txt E.txt)
 | [],_,d=>by rw [S.trees,ox];rfl
 | a::l,h,d=>by
  simp only [S.bW,au] at h;rw [S.trees,ox,List.map_cons,RI a h.1,IA l h.2]
end
theorem qG {α:Type} {p:α->α->Bool} (h:∀ x,p x x=true):∀ l:List α,eU p l l=true
 | []=>rfl
 | a::l=>by rw [eU,h a,qG h l];rfl
theorem yf {α:Type} [BEq α] [LawfulBEq α]:∀ {a b:List α},eU (fun x y=>x==y) a b=true->a=b
 | [],[],_=>rfl
 | a::r,b::s,h=>by rw [eU,au,beq_iff_eq] at h;rw [h.1,yf h.2]
 | [],b::s,h=>by cases h
 | a::r,[],h=>by cases h
theorem Ht {α:Type} {p:α->α->Bool}:∀ {a b:List α} {c d:List α},a.length=b.length->eU p (a++c) (b++d)=(eU p a b&&eU p c d)
 | [],[],c,d,_=>rfl
 | a::r,b::s,c,d,h=>by rw [cons_append,cons_append,eU,eU,Ht zeO,Bool.and_assoc]
 | [],b::s,_,_,h=>by simp at h
 | a::r,[],_,_,h=>by simp at h
theorem wq:∀ (l:List T) (a:Nat),bj a (aK l)=bj a l
 | [],a=>by rw [aK]
 | t::r,a=>by rw [aK,bj,bj,rJ,wq r]
mutual
theorem Q1:∀ (t u:T) (a:Nat),er t=er u->eU jL (fQ a t) (fQ a u)=true
 | .mk n l,.mk m k,a,h=>by
  rw [er,er] at h
  injection h with D I
  injection D with h3 h4 h5 h6 h7
  rw [fQ,fQ,eU,uU l k (a+1) I,Bool.and_true,<-wq l,<-wq k,I];simp only [jL,h3,h5,h6];simp [qG]
theorem uU:∀ (l k:List T) (a:Nat),aK l=aK k->eU jL (cD a l) (cD a k)=true
 | [],[],a,_=>by rw [cD];rfl
 | t::r,u::s,a,h=>by
  rw [aK,aK] at h
  injection h with D I
  have hz:aQ t=aQ u:=by rw [<-rJ t,D,rJ u]
  rw [cD,cD,Ht (by rw [uV,uV,hz]),Q1 t u a D,<-hz,uU r s _ I];rfl
 | [],u::s,a,h=>by rw [aK,aK] at h;cases h
 | t::r,[],a,h=>by rw [aK,aK] at h;cases h
end
mutual
theorem RG:∀ (t u:T) (a:Nat) (x y:List Nd),eU jL (fQ a t++x) (fQ a u++y)=true->er t=er u/\eU jL x y=true
 | .mk n l,.mk m k,a,x,y,h=>by
  rw [fQ,fQ,cons_append,cons_append,eU,au] at h;obtain ⟨D,I⟩:=h;simp only [jL,au,beq_iff_eq] at D;obtain ⟨⟨⟨h3,h4⟩,h5⟩,h6⟩:=D;have h7:=congrArg List.length (yf h6);rw [my,my] at h7;obtain ⟨h8,h9⟩:=CB l k (a+1) x y h7 I;exact ⟨by rw [er,er,h3,h4,h5,h8],h9⟩
theorem CB:∀ (l k:List T) (a:Nat) (x y:List Nd),l.length=k.length->eU jL (cD a l++x) (cD a k++y)=true->aK l=aK k/\eU jL x y=true
 | [],[],a,x,y,_,h=>by rw [cD,nil_append,nil_append] at h;exact ⟨rfl,h⟩
 | t::r,u::s,a,x,y,hl,h=>by
  rw [cD,cD,fF,fF] at h;obtain ⟨D,I⟩:=RG t u a _ _ h
  have hz:aQ t=aQ u:=by rw [<-rJ t,D,rJ u]
  rw [<-hz] at I;obtain ⟨h3,h4⟩:=CB r s _ x y zeQ I;exact ⟨by rw [aK,aK,D,h3],h4⟩
 | [],u::s,a,x,y,hl,h=>by simp at hl
 | t::r,[],a,x,y,hl,h=>by simp at hl
end
theorem RF {l k:List T} (hl:l.length=k.length) (h:eU jL (cD 0 l) (cD 0 k)=true):aK l=aK k:=by
 have:=CB l k 0 [] [] hl (by rw [fk,fk];exact h);exact this.1
structure PS where
 trees:List T
 globals:List ae
 arrays:List Ar
 fns:List (ae × List ae)
def PS.empty:PS:=⟨[],[],[],[]⟩
def oP:Nat->List ae->RS->Option (List ae × RS)
 | 0,_,_=>none
 | f+1,acc,p =>
  if p.code=0/\is p 0 [41]=false then oP f (acc++[(tok (if acc.length=0 then p else want p [44]) 0).s]) (bx (if acc.length=0 then p else want p [44]))
  else some (acc,want p [41])
def iW (f:Nat) (p:RS) (st:PS):Option (RS × PS) :=
 if is p 0 gQ=true then
  if (bx p.next).code=0/\is (bx p.next) 0 [91]=true then
   if (tok (bx p.next).next 0).kind=1 then
    some (want (want (bx p.next).next.next [93]) [59],{ st with arrays:=st.arrays++[⟨(tok p.next 0).s,(tok (bx p.next).next 0).n⟩] })
   else some (kx (bx p.next).next,st)
  else some (want (bx p.next) [59],{ st with globals:=st.globals++[(tok p.next 0).s] })
 else if is p 0 fv=true then
  match oP f [] (want (bx p.next) [40]) with
  | none=>none
  | some (l,q) =>
   if q.code=0 then match iS f (.block 1) q with
    | none=>none
    | some (t,q)=>some (q,{ st with trees:=st.trees++[t],fns:=st.fns++[((tok p.next 0).s,l)] })
   else some (q,st)
 else some (kx p,st)
def kD:Nat->Nat->RS->PS->Option (RS × PS)
 | 0,_,_,_=>none
 | g+1,f,p,st =>
  if p.code=0/\p.i < p.l.length then match iW f p st with
   | none=>none
   | some (p,st)=>kD g f p st
  else some (p,st)
theorem E5:∀ (f:Nat) (acc:List ae) (p:RS) (l:List ae) (q:RS),p.ok->oP f acc p=some (l,q)->p.to q
 | 0,_,_,_,_,_,h=>by cases h
 | f+1,acc,p,l,q,hp,h=>by
  rw [oP] at h;split at h
  ·have D:p.to (if acc.length=0 then p else want p [44]):=by split;exact iv hp;exact bS hp _
   have I:=eX (D.ok hp);have h3:=E5 f _ _ l q ((D.trans I).ok hp) h;exact (D.trans I).trans h3
  ·cases h;exact bS hp _
theorem Qi {f:Nat} {p q:RS} {st c9:PS} (hp:p.ok) (h:iW f p st=some (q,c9)):p.to q:=by
 unfold iW at h;split at h
 ·rename_i hi;have D:=fp hi;have I:=D.trans (eX (D.ok hp));split at h
  ·rename_i hb;have h3:=I.trans (fp hb.2);split at h
   ·rename_i hk
    have eZ:(tok (bx p.next).next 0).kind≠0:=by rw [hk];decide
    have h4:=h3.trans (cl (by have:=qk eZ;exact this));have h5:=h4.trans (bS (h4.ok hp) [93])
    cases h;exact h5.trans (bS (h5.ok hp) _)
   ·cases h;exact h3.trans (wN (h3.ok hp))
  ·cases h;exact I.trans (bS (I.ok hp) _)
 ·split at h
  ·rename_i hi;have D:=fp hi;have I:=D.trans (eX (D.ok hp));have h3:=I.trans (bS (I.ok hp) [40])
   cases hm:oP f [] (want (bx p.next) [40]) with
   | none=>rw [hm] at h;cases h
   | some r =>
    obtain ⟨l,q1⟩:=r;rw [hm] at h;simp only at h;have h4:=h3.trans (E5 _ _ _ _ _ (h3.ok hp) hm);split at h
    ·cases hb:iS f (.block 1) q1 with
     | none=>exact zaS
     | some r =>
      obtain ⟨t,q2⟩:=r;rw [hb] at h;cases h;exact h4.trans ((AR f).1 _ _ _ _ (h4.ok hp) hb)
    ·cases h;exact h4
  ·cases h;exact wN hp
structure PS.le (a:PS) (n:Nat):Prop where
 trees:a.trees.length<=n
 globals:a.globals.length<=n
 arrays:a.arrays.length<=n
 fns:a.fns.length=a.trees.length
theorem Vb {f n:Nat} {p q:RS} {st c9:PS} (h:iW f p st=some (q,c9)) (hs:st.le n):c9.le (n+1):=by
 obtain ⟨a,b,c,d⟩:=hs;have key:st.le (n+1):=⟨by omega,by omega,by omega,d⟩;unfold iW at h;split at h
 ·split at h
  ·split at h
   ·cases h;exact zbN
   ·cases h;exact key
  ·cases h;exact zbN
 ·split at h
  ·split at h
   ·cases h
   ·split at h
    ·split at h
     ·cases h
     ·cases h;exact zbN
    ·cases h;exact key
  ·cases h;exact key
end Go.Im
namespace Go.Sp
open Go.Xp
inductive Tz (s:ae):Nat->List Tok->Nat->Prop
 | nil (a:Nat):Tz s a [] a
 | blank {a b:Nat} {c:UInt8} {ts:List Tok} (hc:s[a]?=some c) (hb:eH c=true) (h:Tz s (a+1) ts b):Tz s a ts b
 | tok {a a' b:Nat} {c:UInt8} {t:Tok} {ts:List Tok} (hc:s[a]?=some c) (hb:eH c=false) (hr:bR s a [47,42]=false) (ht:eR s a c=(t,a')) (hk:t.kind=1\/t.kind=2\/t.kind=3) (hn:t.n<=2147483647) (ha:a < a') (h:Tz s a' ts b):Tz s a (t::ts) b
theorem Tz.app {s:ae} {a b c:Nat} {ts us:List Tok} (h:Tz s a ts b) (k:Tz s b us c):Tz s a (ts++us) c:=by
 induction h with
 | nil a=>exact k
 | blank hc hb h ih=>exact .blank hc hb (ih k)
 | tok hc hb hr ht hk hn ha h ih=>exact .tok hc hb hr ht hk hn ha (ih k)
theorem Tz.kinds {s:ae} {a b:Nat} {ts:List Tok} (h:Tz s a ts b):∀ t∈ts,t.kind=1\/t.kind=2\/t.kind=3:=by
 induction h with
 | nil a=>intro t h;cases h
 | blank hc hb h ih=>exact ih
 | tok hc hb hr ht hk hn ha h ih =>
  intro t h
  rcases ew h with rfl | h
  ·exact hk
  ·exact ih t h
theorem Tz.len {s:ae} {a b:Nat} {ts:List Tok} (h:Tz s a ts b):a+ts.length<=b:=by
 induction h with
 | nil a=>simp
 | blank hc hb h ih=>omega
 | tok hc hb hr ht hk hn ha h ih=>simp only [length_cons];omega
theorem MB (s:ae):∀ (f f' a:Nat),a<=s.length->s.length < f+a->s.length < f'+a->skip s f a=skip s f' a:=by
 intro f
 induction f with
 | zero=>intro f' a D I;omega
 | succ f ih =>
  intro f' a D I h3;obtain ⟨f',rfl⟩:∃ g,f'=g+1:=⟨f' - 1,by omega⟩;rw [skip,skip]
  cases hc:s[a]? with
  | none=>rfl
  | some c =>
   simp only;have ar:=(bh hc).1;split
   ·exact ih f' (a+1) ak ak ak
   ·split
    ·rename_i hb;have hb:=jE hb;have hb:a+2<=s.length:=hb;have h4:=si s s.length (a+2) hb;have h5:=q9 s s.length (a+2) hb ak;split
     ·rfl
     ·rename_i hn
      have h6:bR s (eS s s.length (a+2)) [42,47]=true:=by
       cases pB:bR s (eS s s.length (a+2)) [42,47] with
       | true=>rfl
       | false=>exact absurd ⟨by omega,pB⟩ h5
      have h6:=jE h6;have h6:eS s s.length (a+2)+2<=s.length:=h6;exact ih f' _ ak ak ak
    ·rfl
theorem Tz.eI {s:ae} {a b:Nat} {ts:List Tok} (h:Tz s a ts b):∀ (f:Nat) (acc:List Tok),ql s (f+ts.length) (skip s (s.length+1) a).1 acc=ql s f (skip s (s.length+1) b).1 (acc++ts):=by
 induction h with
 | nil a=>intro f acc;simp
 | blank hc hb h ih =>
  rename_i a b c ts;intro f acc;have ar:=(bh hc).1;rw [<-ih f acc]
  have:skip s (s.length+1) a=skip s (s.length+1) (a+1):=by
   rw [skip,hc];simp only;rw [ah hb];exact MB s _ _ _ ak ak ak
  rw [this]
 | tok hc hb hr ht hk hn ha h ih =>
  rename_i a a' b c t ts;intro f acc
  have:skip s (s.length+1) a=(a,-1):=by
   rw [skip,hc];simp only;rw [ad (by rw [hb];decide),ad (by rw [hr];decide)]
  rw [this,length_cons,<-iD,ql,hc];simp only [ht];rw [ih f (acc++[t]),fF];rfl
theorem Tz.all {s:ae} {ts:List Tok} (h:Tz s 0 ts s.length):Go.Sp.eI s=some ts:=by
 have D:=h.len;have I:=h.eI (s.length+2 - ts.length) [];unfold Go.Sp.eI;rw [show s.length+2 - ts.length+ts.length=s.length+2 by omega] at I;rw [I]
 have h3:skip s (s.length+1) s.length=(s.length,-1):=by rw [skip];simp
 rw [h3];obtain ⟨g,hg⟩:∃ g,s.length+2 - ts.length=g+1:=⟨s.length+1 - ts.length,by omega⟩;rw [hg,ql];simp
theorem mU {s r:ae} {a:Nat} {c:UInt8} (h:s.drop a=c::r):s[a]?=some c/\s.drop (a+1)=r/\a < s.length:=by
 have D:s[a]?=some c:=by
  have:=List.getElem?_drop (xs:=s) (i:=a) (j:=0);rw [h] at this;simpa using this.symm
 refine ⟨D,?_,(bh D).1⟩;rw [<-List.tail_drop,h];rfl
theorem RC (s:ae) (p:UInt8->Bool):∀ (w post:ae) (f a:Nat),s.drop a=w++post->(∀ c∈w,p c=true)->run s p (f+w.length) a=run s p f (a+w.length):=by
 intro w
 induction w with
 | nil=>intro post f a h hp;rfl
 | cons c w ih =>
  intro post f a h hp;obtain ⟨D,I,_⟩:=mU h;rw [length_cons,<-iD,run,D];simp only;rw [ah (hp c (mem_cons_self)),ih post f (a+1) I (fun c hc=>hp c (di _ hc))]
  congr 1;omega
theorem O3 (s:ae) (p:UInt8->Bool) (post:ae) (f a:Nat) (h:s.drop a=post) (hp:∀ c,post.head?=some c->p c=false):run s p f a=a:=by
 cases f with
 | zero=>rfl
 | succ f =>
  rw [run]
  cases post with
  | nil =>
   have:s[a]?=none:=by
    rw [List.getElem?_eq_none_iff];have:=congrArg List.length h;simp at this;omega
   rw [this]
  | cons c r =>
   exact zdf
theorem take_drop {s w post:ae} {a:Nat} (h:s.drop a=w++post):(s.take (a+w.length)).drop a=w:=by
 rw [List.drop_take,h,Nat.add_sub_cancel_left,List.take_left]
theorem Fj {s w post:ae} {a:Nat} (h:s.drop a=w++post) (ha:a<=s.length):a+w.length+post.length=s.length:=by
 have:=congrArg List.length h;simp only [jw,aJ] at this;omega
theorem Pr {s w post:ae} {a:Nat} {c:UInt8} {r:ae} (ha:a<=s.length) (h:s.drop a=w++post) (hw:w=c::r) (hs:small c=true) (cp:∀ c∈w,dV c=true) (hp:∀ c,post.head?=some c->dV c=false) :
  eR s a c=(⟨if words.contains w=true then 3 else 2,0,w,a⟩,a+w.length):=by
 have hl:=Fj h ha
 have he:eT s a=a+w.length:=by
  unfold eT;obtain ⟨g,hg⟩:∃ g,s.length+1=g+w.length:=⟨s.length+1 - w.length,by omega⟩;rw [hg,RC s dV w post g a h cp];refine O3 s dV post g _ ?_ hp;rw [<-List.drop_drop,h,List.drop_left]
 have hd:dN c=false:=by
  simp only [small,dN,au] at hs |-;have D:=lJ hs.1
  have:¬ ((c.toNat:Int)<=57):=by omega
  simp [this]
 unfold eR;rw [ad (by rw [hd];decide),ah hs];unfold gh;rw [he,take_drop h]
def fold (n:Int) (w:ae):Int:=w.foldl (fun n c=>if n<=2147483647 then n * 10+((c.toNat:Int) - 48) else n) n
theorem JO (s:ae):∀ (w post:ae) (f:Nat) (n:Int) (a:Nat),s.drop a=w++post->(∀ c∈w,dN c=true)->number s (f+w.length) n a=number s f (fold n w) (a+w.length):=by
 intro w
 induction w with
 | nil=>intro post f n a h hp;rfl
 | cons c w ih =>
  intro post f n a h hp;obtain ⟨D,I,_⟩:=mU h;rw [length_cons,<-iD,number,D];simp only;rw [ah (hp c (mem_cons_self)),ih post f _ (a+1) I (fun c hc=>hp c (di _ hc))];rw [show a+1+w.length=a+(w.length+1) by omega];rfl
theorem GY (s:ae) (post:ae) (f:Nat) (n:Int) (a:Nat) (h:s.drop a=post) (hp:∀ c,post.head?=some c->dN c=false):number s f n a=(n,a):=by
 cases f with
 | zero=>rfl
 | succ f =>
  rw [number]
  cases post with
  | nil =>
   have:s[a]?=none:=by
    rw [List.getElem?_eq_none_iff];have:=congrArg List.length h;simp at this;omega
   rw [this]
  | cons c r =>
   exact zdf
theorem KR (k:Nat) (h:k<=9):dN (UInt8.ofNat (48+k))=true/\((UInt8.ofNat (48+k)).toNat:Int)=48+k:=by
 have:(UInt8.ofNat (48+k)).toNat=48+k:=by simp;omega
 refine ⟨?_,by rw [this];omega⟩;simp only [dN,au,this];exact ⟨decide_eq_true ak,decide_eq_true ak⟩
theorem Hq (n:Nat):(∀ c∈eV n,dN c=true)/\(n<=2147483647->fold 0 (eV n)=n)/\eV n≠[]:=by
 induction n using Nat.strongRecOn with
 | _ n ih =>
 unfold eV
 by_cases h:n < 10
 ·rw [dif_pos h];obtain ⟨D,I⟩:=KR n ak;refine ⟨fun c hc=>by rw [mem_singleton] at hc;subst hc;exact D,fun _=>?_,by simp⟩;simp only [fold,foldl_cons,List.foldl_nil];rw [ah ak,I];omega
 ·rw [dif_neg h];obtain ⟨D,I,h3⟩:=ih (n / 10) ak;obtain ⟨h4,h5⟩:=KR (n % 10) ak;refine ⟨fun c hc=>?_,fun hn=>?_,by simp⟩
  ·rcases nY hc with hc | hc
   ·exact D c hc
   ·rw [mem_singleton] at hc;subst hc;exact h4
  ·have:=I ak;unfold fold at this |-;rw [List.foldl_append,this];simp only [foldl_cons,List.foldl_nil];rw [ah ak,h5];omega
theorem Rs {s post:ae} {n a:Nat} {c:UInt8} {r:ae} (ha:a<=s.length) (h:s.drop a=eV n++post) (hw:eV n=c::r) (hn:n<=2147483647) (hp:∀ c,post.head?=some c->dN c=false) :
  eR s a c=(⟨1,n,[],a⟩,a+(eV n).length):=by
 obtain ⟨D,I,h3⟩:=Hq n;have hl:=Fj h ha;have hd:dN c=true:=D c (by rw [hw];exact mem_cons_self);obtain ⟨g,hg⟩:∃ g,s.length+1=g+(eV n).length:=⟨s.length+1 - (eV n).length,by omega⟩;unfold eR;rw [ah hd,hg,JO s (eV n) post g 0 a h D,I hn,GY s post g _ _ (by rw [<-List.drop_drop,h,List.drop_left]) hp]
theorem ur {s r t:ae} {a:Nat} (h:s.drop a=r) (ha:a<=s.length):bR s a t=t.isPrefixOf r:=by
 have hl:a+r.length=s.length:=by have:=congrArg List.length h;simp at this;omega
 unfold bR;rw [List.drop_take,h,Nat.add_sub_cancel_left]
 by_cases hp:t <+: r
 ·obtain ⟨z,rfl⟩:=hp;simp only [aJ] at hl
  have I:t.isPrefixOf (t++z)=true:=by rw [List.isPrefixOf_iff_prefix];exact ⟨z,rfl⟩
  rw [I,List.take_left];simp only [au,beq_self_eq_true,and_true,decide_eq_true_eq];omega
 ·have D:t.isPrefixOf r=false:=by
   cases hh:t.isPrefixOf r with
   | false=>rfl
   | true=>exact absurd (List.isPrefixOf_iff_prefix.1 hh) hp
  rw [D]
  have I:(r.take t.length==t)=false:=by
   rw [beq_eq_false_iff_ne];intro h3;exact hp ⟨r.drop t.length,by have:=take_append_drop t.length r;rw [h3] at this;exact this⟩
  rw [I,Bool.and_false]
def Cy:List UInt8:=[32,40,41,91,93,44,59,123,125,10]
def Sep (post:ae):Prop:=∀ c,post.head?=some c->c∈Cy
theorem Sep.dV {post:ae} (h:Sep post):∀ c,post.head?=some c->dV c=false:=by
 intro c hc
 have:∀ c∈Cy,Go.Sp.dV c=false:=by decide
 exact this c (h c hc)
theorem Sep.dN {post:ae} (h:Sep post):∀ c,post.head?=some c->dN c=false:=by
 intro c hc
 have:∀ c∈Cy,Go.Sp.dN c=false:=by decide
 exact this c (h c hc)
theorem Rv {x y z:ae} (h:x.length<=y.length):x.isPrefixOf (y++z)=x.isPrefixOf y:=by
 induction x generalizing y with
 | nil=>simp
 | cons a x ih =>
  cases y with
  | nil=>simp at h
  | cons b y=>simp only [cons_append,List.isPrefixOf];rw [ih zeO]
theorem find_congr {α:Type} {p q:α->Bool}:∀ {l:List α},(∀ x∈l,p x=q x)->l.find? p=l.find? q
 | [],_=>rfl
 | a::l,h=>by rw [List.find?_cons,List.find?_cons,h a (mem_cons_self),find_congr (fun x hx=>h x (di _ hx))]
theorem Pb {s w post:ae} {a:Nat} {c:UInt8} {r:ae} (ha:a<=s.length) (h:s.drop a=w++post) (hw:w=c::r) (hm:w∈bQ) (hp:Sep post) :
  eR s a c=(⟨3,0,w,a⟩,a+w.length)/\eH c=false/\bR s a [47,42]=false:=by
 have hd:∀ w∈bQ,∀ c,w.head?=some c->dN c=false/\small c=false/\eH c=false:=by
  have:∀ w∈bQ,(match w.head? with | some c=>!dN c&&!small c&&!eH c | none=>true)=true:=by decide
  intro w hw c hc;have:=this w hw;rw [hc] at this;simp only [au,Bool.not_eq_true'] at this;exact ⟨this.1.1,this.1.2,this.2⟩
 obtain ⟨D,I,h3⟩:=hd w hm c (by rw [hw];rfl)
 have PZ:∀ w∈bQ,w.length<=2/\1<=w.length:=by decide
 have key:∀ w∈bQ,bQ.find? (fun x=>x.isPrefixOf w)=some w/\[47,42].isPrefixOf w=false:=by decide
 have XQ:∀ w∈bQ,∀ c∈Cy,bQ.find? (fun x=>x.isPrefixOf (w++[c]))=some w/\[47,42].isPrefixOf (w++[c])=false:=by decide
 have hf:bQ.find? (bR s a)=some w/\bR s a [47,42]=false:=by
  have e1:∀ x,bR s a x=x.isPrefixOf (w++post):=fun x=>ur h ha
  have e2:bQ.find? (bR s a)=bQ.find? (fun x=>x.isPrefixOf (w++post)):=find_congr fun x _=>e1 x
  rw [e2,e1]
  cases post with
  | nil=>rw [fk];exact key w hm
  | cons c' post =>
   have de:=hp c' rfl
   have e3:∀ x:ae,x.length<=2->x.isPrefixOf (w++c'::post)=x.isPrefixOf (w++[c']):=fun x hx=>by
    rw [show w++c'::post=(w++[c'])++post by simp];exact Rv (by rw [aJ];have:=(PZ w hm).2;simp;omega)
   rw [find_congr fun x hx=>e3 x (PZ x hx).1,e3 _ ai];exact XQ w hm c' de
 refine ⟨?_,h3,hf.2⟩;unfold eR;rw [ad (by rw [D];decide),ad (by rw [I];decide),hf.1]
theorem N9 {s post:ae} {a:Nat} {c:UInt8} (ha:a<=s.length) (h:s.drop a=c::post) (hm:c∈[40,41,91,93,44,59,123,125]) :
  eR s a c=(⟨3,0,[c],a⟩,a+1)/\eH c=false/\bR s a [47,42]=false:=by
 have hd:∀ c∈([40,41,91,93,44,59,123,125]:List UInt8),dN c=false/\small c=false/\eH c=false/\c≠47:=by decide
 obtain ⟨D,I,h3,h4⟩:=hd c hm
 have e1:∀ x,bR s a x=x.isPrefixOf (c::post):=fun x=>ur h ha
 have e2:bQ.find? (bR s a)=bQ.find? (fun x=>x.isPrefixOf (c::post)):=find_congr fun x _=>e1 x
 have key:∀ post:ae,∀ c∈([40,41,91,93,44,59,123,125]:List UInt8),bQ.find? (fun x=>x.isPrefixOf (c::post))=some [c]:=by
  intro post c hc;simp only [List.mem_cons,List.not_mem_nil,or_false] at hc
  rcases hc with rfl | rfl | rfl | rfl | rfl | rfl | rfl | rfl <;> rfl
 refine ⟨?_,h3,?_⟩
 ·unfold eR;rw [ad (by rw [D];decide),ad (by rw [I];decide),e2,key post c hm];rfl
 ·rw [e1];simp only [List.isPrefixOf]
  have:((47:UInt8)==c)=false:=by rw [beq_eq_false_iff_ne];exact fun h=>h4 h.symm
  rw [this,Bool.false_and]
end Go.Sp
namespace Go.Im
open Go.Xp Go.Sp
def nQ:List ae:=[[105,110,116],[118,97,114],[102,117,110,99],[105,102],[101,108,115,101],[119,104,105,108,101],[114,101,116,117,114,110],[124,124],[38,38],[61,61],[33,61],[60,61],[62,61],[60,60],[62,62],[40],[41],[123],[125],[91],[93],[44],[59],[61],[60],[62],[43],[45],[42],[47],[37],[38],[124],[94],[33],[126]]
theorem xQ:nQ=words++bQ:=by decide
def lq (s:ae):Bool:=nQ.contains s
def l0:ae->Int->Int
 | [],n=>n
 | c::r,n=>if n<=2147483647 then l0 r (10 * n+((c.toNat:Int) - 48)) else n
def dd (s:ae) (a b:Nat):ae:=(s.take b).drop a
def jt (s:ae) (a:Nat) (k:Nat):Bool:=decide (a+k<=s.length)&&(match s[a]? with | some c=>!(small c) | none=>false)&&lq (dd s a (a+k))
def ij (s:ae) (a:Nat):ae:=if jt s a 2=true then dd s a (a+2) else if jt s a 1=true then dd s a (a+1) else []
def mM (s:ae) (a:Nat):Nat:=run s dN (s.length+1) a
def tJ:Tok:=⟨0,0,[],0⟩
def mf (s:ae) (a:Nat) (c:UInt8):Tok × Nat × Int :=
 if dN c=true then
  if l0 (dd s a (mM s a)) 0 > 2147483647 then (tJ,a,3) else (⟨1,l0 (dd s a (mM s a)) 0,[],a⟩,mM s a,0)
 else if small c=true then (⟨if lq (gh s a)=true then 3 else 2,0,gh s a,a⟩,eT s a,0)
 else if ij s a=[] then (tJ,a,2)
 else (⟨3,0,ij s a,a⟩,a+(ij s a).length,0)
def tj:ae->Option Nat
 | []=>none
 | b::l=>if List.isPrefixOf [42,47] (b::l) then some 0 else match tj l with | none=>none | some n=>some (n+1)
def oB (s:ae):Nat->Nat->List Tok->Option (List Tok × Int × Int)
 | 0,_,_=>none
 | f+1,a,acc=>match s[a]? with
  | none=>some (acc,0,0)
  | some c =>
   if eH c=true then oB s f (a+1) acc
   else if bR s a [47,42]=true then
    match tj (s.drop (a+2)) with
    | none=>some ([],4,a)
    | some n=>oB s f (a+(n+4)) acc
   else if (mf s a c).2.2≠0 then some ([],(mf s a c).2.2,a)
   else oB s f (mf s a c).2.1 (acc++[(mf s a c).1])
structure Al (t:Tok):Prop where
 num:t.kind=1->0<=t.n/\t.n<=2147483647/\t.s=[]
 name:t.kind=2->word t.s=true/\lq t.s=false
 sign:t.kind=3->lq t.s=true
 kinds:t.kind=1\/t.kind=2\/t.kind=3
theorem lk {s:ae} {a b:Nat} (h:b<=s.length):(dd s a b).length=b - a:=by
 unfold dd;rw [jw,lH];omega
theorem py {s:ae} {a b:Nat} {c:UInt8} (h:s[a]?=some c) (hb:a < b) (hl:b<=s.length):dd s a b=c::dd s (a+1) b:=by
 unfold dd;have ar:=(bh h).1
 have:(s.take b)[a]?=some c:=by rw [List.getElem?_take,ah hb];exact h
 have I:=(bh this);rw [o8 I.1,I.2]
theorem Cw (s:ae) (p:UInt8->Bool):∀ (f a:Nat),a<=s.length->∀ c∈dd s a (run s p f a),p c=true:=by
 intro f
 induction f with
 | zero =>
  intro a ha c hc;rw [Go.Sp.run] at hc
  have:(dd s a a).length=0:=by rw [lk ha];omega
  rw [gk this] at hc;cases hc
 | succ f ih =>
  intro a ha c hc;rw [Go.Sp.run] at hc
  have ER:∀ x:ae,x=dd s a a->c∈x->p c=true:=fun x hx hm=>by
   have:(dd s a a).length=0:=by rw [lk ha];omega
   rw [hx,gk this] at hm;cases hm
  cases hq:s[a]? with
  | none=>rw [hq] at hc;exact ER _ rfl hc
  | some d =>
   rw [hq] at hc;simp only at hc;have ar:=(bh hq).1
   by_cases hp:p d=true
   ·rw [ah hp] at hc
    have hO:a+1<=Go.Sp.run s p f (a+1)/\Go.Sp.run s p f (a+1)<=s.length:=by
     have:∀ (f a:Nat),a<=s.length->a<=Go.Sp.run s p f a/\Go.Sp.run s p f a<=s.length:=by
      intro f
      induction f with
      | zero=>intro a h;exact zd6
      | succ f ih =>
       intro a h;rw [Go.Sp.run]
       cases hq:s[a]? with
       | none=>exact zd6
       | some d =>
        simp only;split
        ·have:=ih (a+1) (bh hq).1;omega
        ·exact zd6
     exact this f (a+1) ar
    rw [py hq ak hO.2] at hc
    rcases ew hc with rfl | hc
    ·exact hp
    ·exact ih (a+1) ar c hc
   ·rw [ad hp] at hc;exact ER _ rfl hc
theorem Ie:∀ (w:ae) (n:Int),0<=n->(∀ c∈w,dN c=true)->0<=l0 w n
 | [],n,h,_=>h
 | c::r,n,h,hd=>by
  rw [l0];have hc:=hd c (mem_cons_self);simp only [dN,au,decide_eq_true_eq] at hc;split
  ·exact Ie r _ ak (fun c hc=>hd c (di _ hc))
  ·exact h
theorem Oy {x:ae} (h:lq x=true):x≠[]:=by
 intro h0;subst h0;revert h;decide
theorem IJ {s:ae} {a:Nat} {c:UInt8} (hc:s[a]?=some c) (h0:(mf s a c).2.2=0):Al (mf s a c).1/\(mf s a c).1.at_=a/\a < (mf s a c).2.1/\(mf s a c).2.1<=s.length:=by
 have ar:=(bh hc).1;unfold mf at h0 |-
 by_cases hd:dN c=true
 ·rw [ah hd] at h0 |-
  by_cases hn:l0 (dd s a (mM s a)) 0 > 2147483647
  ·rw [ah hn] at h0;cases h0
  ·rw [ad hn];obtain ⟨e1,e2,e3⟩:=oa s dN (s.length+1) a ak ak
   have tY:a < mM s a:=by
    rcases Nat.lt_or_ge a (mM s a) with h | h
    ·exact h
    ·have he:Go.Sp.run s dN (s.length+1) a=a:=by unfold mM at h;omega
     have:=e1 c (by rw [he];exact hc);rw [hd] at this;cases this
   refine ⟨⟨fun _=>⟨Ie _ _ ai (Cw s dN _ a ak),by simpa using hn,rfl⟩,fun h=>by simp at h,fun h=>by simp at h,.inl rfl⟩,rfl,tY,e3⟩
 ·rw [ad hd] at h0 |-
  by_cases hs:small c=true
  ·rw [ah hs];obtain ⟨e1,e2,e3⟩:=oa s dV (s.length+1) a ak ak
   have Lz:dV c=true:=by simp [dV,hs]
   have tY:a < eT s a:=by
    rcases Nat.lt_or_ge a (eT s a) with h | h
    ·exact h
    ·have he:Go.Sp.run s dV (s.length+1) a=a:=by unfold eT at h;omega
     exact zel
   have hw:word (gh s a)=true:=by
    have D:gh s a=c::dd s (a+1) (eT s a):=py hc tY e3;have I:=Cw s dV (s.length+1) a ak;unfold word;have h3:(gh s a).all dV=true:=fV.2 I;rw [h3,D];simp [hs]
   refine ⟨⟨fun h=>?_,fun h=>⟨hw,?_⟩,fun h=>?_,?_⟩,rfl,tY,e3⟩
   ·simp only at h;exact zed
   ·simp only at h;split at h
    ·cases h
    ·rename_i hh;simpa using hh
   ·simp only at h;split at h
    ·assumption
    ·cases h
   ·simp only;split
    ·exact .inr (.inr rfl)
    ·exact .inr (.inl rfl)
  ·rw [ad hs] at h0 |-
   by_cases hg:ij s a=[]
   ·rw [ah hg] at h0;cases h0
   ·rw [ad hg]
    have key:lq (ij s a)=true/\a+(ij s a).length<=s.length:=by
     unfold ij at hg |-
     have aux:∀ k,jt s a k=true->lq (dd s a (a+k))=true/\a+(dd s a (a+k)).length<=s.length:=fun k h=>by
      simp only [jt,au,decide_eq_true_eq] at h;refine ⟨h.2,?_⟩;rw [lk h.1.1];have:=h.1.1;omega
     split
     ·exact aux 2 (by assumption)
     ·rename_i I;rw [ad I] at hg;split
      ·exact aux 1 (by assumption)
      ·rename_i D;rw [ad D] at hg;exact absurd rfl hg
    have hl:=List.length_pos_iff.2 (Oy key.1);exact ⟨⟨fun h=>by simp at h,fun h=>by simp at h,fun _=>key.1,.inr (.inr rfl)⟩,rfl,by simp only;omega,key.2⟩
theorem B4:∀ {l:ae} {n:Nat},tj l=some n->n+2<=l.length
 | [],n,h=>by cases h
 | b::l,n,h=>by
  rw [tj] at h;split at h
  ·rename_i hp;cases h
   cases l with
   | nil=>simp [List.isPrefixOf] at hp
   | cons d l=>simp
  ·cases hq:tj l with
   | none=>rw [hq] at h;cases h
   | some m=>rw [hq] at h;cases h;have:=B4 hq;simp only [length_cons];omega
theorem nL (s:ae):∀ (f a:Nat) (acc:List Tok),a<=s.length->s.length < f+a->(∀ t∈acc,Al t)->(acc.Pairwise fun x y=>x.at_ < y.at_)->(∀ t∈acc,t.at_ < (a:Int))->acc.length<=a ->
  ∃ ts c z,oB s f a acc=some (ts,c,z)/\(∀ t∈ts,Al t)/\(ts.Pairwise fun x y=>x.at_ < y.at_)/\ts.length<=s.length
 | 0,a,acc,D,I,_,_,_,_=>by omega
 | f+1,a,acc,D,I,h3,h4,h5,h6=>by
  rw [oB]
  cases hc:s[a]? with
  | none=>exact ⟨acc,0,0,rfl,h3,h4,by omega⟩
  | some c =>
   simp only;have ar:=(bh hc).1;split
   ·exact nL s f (a+1) acc ak ak h3 h4 (fun t ht=>by have:=h5 t ht;omega) ak
   ·split
    ·rename_i hb;have gD:=jE hb;simp only [length_cons,length_nil] at gD
     cases hi:tj (s.drop (a+2)) with
     | none=>exact ⟨[],4,a,rfl,fun t h=>by simp at h,.nil,aY _⟩
     | some n =>
      have:=B4 hi;rw [jw] at this;exact nL s f (a+(n+4)) acc ak ak h3 h4 (fun t ht=>by have:=h5 t ht;omega) ak
    ·split
     ·exact ⟨[],_,a,rfl,fun t h=>by simp at h,.nil,aY _⟩
     ·rename_i h0;obtain ⟨k1,k2,k3,k4⟩:=IJ hc zfi;refine nL s f _ _ k4 ak (fun t ht=>?_) ?_ (fun t ht=>?_) (by rw [aJ];simp only [length_cons,length_nil];omega)
      ·rcases nY ht with h | h
       ·exact h3 t h
       ·rw [mem_singleton] at h;subst h;exact k1
      ·rw [List.pairwise_append];refine ⟨h4,List.pairwise_singleton _ _,fun x hx y hy=>?_⟩;rw [mem_singleton] at hy;subst hy;rw [k2];exact h5 x hx
      ·rcases nY ht with h | h
       ·have:=h5 t h;omega
       ·rw [mem_singleton] at h;subst h;rw [k2];omega
theorem zk (s:ae):∀ (f:Nat) (n:Int) (a:Nat),a<=s.length->s.length < f+a->l0 (dd s a (number s f n a).2) n=(number s f n a).1
 | 0,n,a,D,I=>by omega
 | f+1,n,a,D,I=>by
  have ER:dd s a a=[]:=gk (by rw [lk D];omega);rw [number]
  cases hc:s[a]? with
  | none=>simp only;rw [ER,l0]
  | some c =>
   simp only;have ar:=(bh hc).1
   by_cases hd:dN c=true
   ·rw [ah hd];obtain ⟨e1,e2,e3⟩:=so s f (if n<=2147483647 then n * 10+((c.toNat:Int) - 48) else n) (a+1) ak ak;rw [py hc ak e3,l0];have ih:=zk s f (if n<=2147483647 then n * 10+((c.toNat:Int) - 48) else n) (a+1) ak ak
    by_cases hn:n<=2147483647
    ·rw [ah hn] at ih |-;rw [ah hn,Int.mul_comm 10 n];exact ih
    ·rw [ad hn] at ih |-;rw [ad hn];rw [<-ih]
     cases hw:dd s (a+1) (number s f n (a+1)).2 with
     | nil=>rw [l0]
     | cons d r=>rw [l0,ad hn]
   ·rw [ad hd];simp only;rw [ER,l0]
theorem A6 (s:ae):∀ (f:Nat) (n:Int) (a:Nat),(number s f n a).2=Go.Sp.run s dN f a
 | 0,n,a=>rfl
 | f+1,n,a=>by
  rw [number,Go.Sp.run]
  cases hc:s[a]? with
  | none=>rfl
  | some c =>
   simp only;split
   ·exact A6 s f _ (a+1)
   ·rfl
theorem n7 {s x:ae} {a:Nat}:bR s a x=(decide (a+x.length<=s.length)&&(dd s a (a+x.length)==x)):=rfl
theorem J0 {s:ae} {a:Nat} {c:UInt8} (hc:s[a]?=some c) (hs:small c=false):ij s a=(match bQ.find? (bR s a) with | some x=>x | none=>[]):=by
 have ar:=(bh hc).1
 have I:∀ x∈bQ,x.length=1\/x.length=2:=by decide
 have AN:bQ=bQ.take 8++bQ.drop 8:=(take_append_drop 8 bQ).symm
 have kP:∀ x∈bQ.take 8,x.length=2:=by decide
 have gX:∀ x∈bQ.drop 8,x.length=1:=by decide
 have hw:∀ x∈words,∃ d r,x=d::r/\small d=true:=by
  intro x hx
  have:∀ x∈words,(match x with | d::_=>small d | []=>false)=true:=by decide
  have:=this x hx
  cases x with
  | nil=>cases this
  | cons d r=>exact ⟨d,r,rfl,this⟩
 have Og:∀ k,1<=k->a+k<=s.length->dd s a (a+k)=c::dd s (a+1) (a+k):=fun k D I=>py hc ak I
 have dE:∀ k,1<=k->a+k<=s.length->(lq (dd s a (a+k))=true↔dd s a (a+k)∈bQ):=fun k D I=>by
  unfold lq;rw [xQ,mH,List.mem_append];refine ⟨fun h=>h.resolve_left fun hm=>?_,.inr⟩;obtain ⟨d,r,e1,e2⟩:=hw _ hm;rw [Og k D I] at e1
  cases e1;rw [hs] at e2;cases e2
 have Jq:∀ k,1<=k->(jt s a k=true↔a+k<=s.length/\dd s a (a+k)∈bQ):=fun k D=>by
  unfold jt;rw [hc];simp only [hs,Bool.not_false,Bool.and_true,au,decide_eq_true_eq];exact ⟨fun ⟨p,q⟩=>⟨p,(dE k D p).1 q⟩,fun ⟨p,q⟩=>⟨p,(dE k D p).2 q⟩⟩
 have B1:∀ k,1<=k->k<=2->a+k<=s.length->dd s a (a+k)∈bQ->(dd s a (a+k)).length=k:=fun k _ _ h _=>by rw [lk h];omega
 unfold ij
 by_cases t2:jt s a 2=true
 ·rw [ah t2];obtain ⟨p,q⟩:=(Jq 2 ai).1 t2
  have hq:dd s a (a+2)∈bQ.take 8:=by
   rw [AN] at q
   rcases nY q with h | h
   ·exact h
   ·have:=gX _ h;rw [lk p] at this;omega
  rw [AN,List.find?_append]
  have:(bQ.take 8).find? (bR s a)=some (dd s a (a+2)):=by
   cases hf:(bQ.take 8).find? (bR s a) with
   | none =>
    rw [find?_eq_none] at hf;have D:=hf _ hq;rw [n7,lk p,show a+(a+2 - a)=a+2 by omega] at D;simp [p] at D
   | some x =>
    have D:=List.find?_some hf;have h3:=kP x (List.mem_of_find?_eq_some hf);rw [n7,h3] at D;simp only [au,beq_iff_eq] at D;rw [D.2]
  rw [this];rfl
 ·rw [ad t2]
  have XD:(bQ.take 8).find? (bR s a)=none:=by
   rw [find?_eq_none];intro x hx hb;rw [n7,kP x hx] at hb;simp only [au,beq_iff_eq,decide_eq_true_eq] at hb;exact t2 ((Jq 2 ai).2 ⟨hb.1,by rw [hb.2];exact List.mem_of_mem_take hx⟩)
  rw [AN,List.find?_append,XD]
  by_cases t1:jt s a 1=true
  ·rw [ah t1];obtain ⟨p,q⟩:=(Jq 1 ai).1 t1
   have hq:dd s a (a+1)∈bQ.drop 8:=by
    rw [AN] at q
    rcases nY q with h | h
    ·have:=kP _ h;rw [lk p] at this;omega
    ·exact h
   have:(bQ.drop 8).find? (bR s a)=some (dd s a (a+1)):=by
    cases hf:(bQ.drop 8).find? (bR s a) with
    | none =>
     rw [find?_eq_none] at hf;have D:=hf _ hq;rw [n7,lk p,show a+(a+1 - a)=a+1 by omega] at D;simp [p] at D
    | some x =>
     have D:=List.find?_some hf;have h3:=gX x (List.mem_of_find?_eq_some hf);rw [n7,h3] at D;simp only [au,beq_iff_eq] at D;rw [D.2]
   rw [this];rfl
  ·rw [ad t1]
   have:(bQ.drop 8).find? (bR s a)=none:=by
    rw [find?_eq_none];intro x hx hb;rw [n7,gX x hx] at hb;simp only [au,beq_iff_eq,decide_eq_true_eq] at hb;exact t1 ((Jq 1 ai).2 ⟨hb.1,by rw [hb.2];exact List.mem_of_mem_drop hx⟩)
   rw [this];rfl
theorem RQ {s:ae} {a a':Nat} {c:UInt8} {t:Tok} (hc:s[a]?=some c) (h:eR s a c=(t,a')) (hk:t.kind=1\/t.kind=2\/t.kind=3) (hn:t.n<=2147483647):mf s a c=(t,a',0):=by
 have ar:=(bh hc).1;unfold eR at h;unfold mf
 by_cases hd:dN c=true
 ·rw [ah hd] at h |-;cases h;have e1:mM s a=(number s (s.length+1) 0 a).2:=(A6 s _ 0 a).symm;rw [e1,zk s _ 0 a ak ak,ad zft]
 ·rw [ad hd] at h |-
  by_cases hs:small c=true
  ·rw [ah hs] at h |-;cases h
   have LJ:∃ r,gh s a=c::r\/gh s a=[]:=by
    cases hw:gh s a with
    | nil=>exact ⟨[],.inr rfl⟩
    | cons d r =>
     obtain ⟨e1,e2,e3⟩:=oa s dV (s.length+1) a ak ak
     have Lz:dV c=true:=by simp [dV,hs]
     have tY:a < eT s a:=by
      rcases Nat.lt_or_ge a (eT s a) with h | h
      ·exact h
      ·have he:Go.Sp.run s dV (s.length+1) a=a:=by unfold eT at h;omega
       exact zel
     have D:gh s a=c::dd s (a+1) (eT s a):=py hc tY e3;rw [hw] at D;cases D;exact ⟨_,.inl rfl⟩
   have dE:lq (gh s a)=words.contains (gh s a):=by
    unfold lq;rw [xQ]
    have Dc:∀ x∈bQ,(match x with | d::_=>small d | []=>true)=false:=by decide
    obtain ⟨r,D⟩:=LJ
    have:bQ.contains (gh s a)=false:=by
     cases ou:bQ.contains (gh s a) with
     | false=>rfl
     | true =>
      have:=Dc _ (mH.1 ou)
      rcases D with D | D <;> rw [D] at this <;> simp only at this
      ·rw [hs] at this;cases this
      ·cases this
    rw [Bool.eq_iff_iff,mH,List.mem_append,<-mH (as:=bQ),this];simp
   rw [dE]
  ·rw [ad hs] at h |-;rw [J0 hc (by simpa using hs)]
   cases hf:bQ.find? (bR s a) with
   | none=>rw [hf] at h;cases h;simp at hk
   | some x =>
    rw [hf] at h;cases h;simp only;have hx:=List.mem_of_find?_eq_some hf
    have bZ:x≠[]:=by
     intro h0;subst h0;revert hx;decide
    rw [ad bZ]
theorem B7 {s:ae} {a b:Nat} {ts:List Tok} (h:Tz s a ts b):b=s.length->∀ (f:Nat) (acc:List Tok),s.length < f+a->oB s f a acc=some (acc++ts,0,0):=by
 induction h with
 | nil a =>
  intro hb f acc hf
  cases f with
  | zero=>omega
  | succ f =>
   rw [oB];have:s[a]?=none:=List.getElem?_eq_none_iff.2 ak;rw [this];simp
 | blank hc gD h ih =>
  intro hb f acc hf
  cases f with
  | zero=>have:=(bh hc).1;omega
  | succ f =>
   rw [oB,hc];simp only;rw [ah gD];exact ih hb f acc ak
 | tok hc gD hr ht hk hn ha h ih =>
  intro hb f acc hf
  cases f with
  | zero=>have:=(bh hc).1;omega
  | succ f =>
   rw [oB,hc];simp only;rw [ad (by rw [gD];decide),ad (by rw [hr];decide),RQ hc ht hk hn];simp only [ne_eq,not_true_eq_false,if_false];rw [ih hb f _ ak];simp
end Go.Im
