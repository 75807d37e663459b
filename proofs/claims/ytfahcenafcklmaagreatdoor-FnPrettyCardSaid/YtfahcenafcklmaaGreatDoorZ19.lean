/- Part 19 of proofs that are told in their last texts. -/
import Derived.Test.YtfahcenafcklmaaGreatDoorZ6
import Derived.Test.YtfahcenafcklmaaGreatDoorZ5
open List (length_cons length_nil)
set_option linter.unusedVariables false
set_option linter.unusedSimpArgs false
set_option maxRecDepth 100000
namespace Go.Im
open Go.Xp Go.Sp
theorem fB (d:Nat):(cr d).length=2 * d:=by unfold cr;rw [List.length_replicate]
theorem uu (d:Nat):cr (d+1)=cr d++[32,32]:=by
 unfold cr;rw [show 2 * (d+1)=2 * d+2 by omega,<-List.replicate_append_replicate];rfl
def nT (d:Nat):List ae->Nat
 | []=>0
 | s::l=>s.length+(2 * (d+1)+1)+nT d l
theorem zy (d:Nat) (l:List ae):∀ acc,(qE d acc l).length=acc.length+nT d l:=by
 induction l with
 | nil=>intro acc;simp [qE,nT]
 | cons s l ih =>
  intro acc;have:=ih (acc++((cr (d+1)++s)++[10]));simp only [qE,List.foldl_cons,nT,aJ,length_cons,length_nil,fB] at this |-;omega
theorem Pg (d:Nat) (a b:List ae):nT d (a++b)=nT d a+nT d b:=by
 induction a with
 | nil=>simp [nT]
 | cons s a ih=>simp only [List.cons_append,nT,ih];omega
theorem MK (d:Nat) (l:List ae) (k:Nat):nT d (l.take k)<=nT d l:=by
 have:nT d l=nT d (l.take k)+nT d (l.drop k):=by rw [<-Pg,List.take_append_drop]
 omega
theorem KD (d:Nat) (acc:ae) (l:List ae) (s:ae):qE d acc (l++[s])=qE d acc l++((cr (d+1)++s)++[10]):=by simp [qE]
theorem E8 (l:List ae) (d:Nat):(qI l d).length=3+2 * d+nT d l:=by
 unfold qI;simp only [aJ,zy,fB,length_cons,length_nil];omega
theorem z8 {d:Nat} {l:List ae} {s:ae} (h:s∈l):s.length+(2 * (d+1)+1)<=nT d l:=by
 induction l with
 | nil=>cases h
 | cons a l ih =>
  rw [nT]
  rcases ew h with rfl | h
  ·omega
  ·have:=ih h;omega
theorem Ox {l:List ae} {d:Nat} {s:ae} (h:s∈l):s.length<=(qI l d).length:=by
 have D:=z8 (d:=d) h;rw [E8];omega
theorem Ui (B:Nat):∀ (N:Nat),(∀ s:S,aQ s.tree<=N->s.ok=true->∀ d,2 * (d+aQ s.tree)+4<=B->(en d s).length+4+B<=wt s.tree+aQ s.tree * (2 * B)) /\
  (∀ l:List S,aB (S.trees l)<=N->S.bW l=true->∀ d acc,2 * (d+1+aB (S.trees l))+4<=B->(eu d acc l).length<=acc.length+dJ (S.trees l)+aB (S.trees l) * (2 * B)):=by
 intro N
 induction N with
 | zero =>
  refine ⟨fun s h=>by have:=iQ s.tree;omega,fun l h ho d acc hd=>?_⟩
  cases l with
  | nil=>rw [eu];omega
  | cons a l=>rw [S.trees,aB] at h;have:=iQ a.tree;omega
 | succ N ih =>
  obtain ⟨ih1,lD⟩:=ih
  have base:∀ s:S,s.ok=true->(S.txt E.txt s).length+4<=wt s.tree:=fun s h=>S.len E.txt Ik s h
  have leaf:∀ (s:S),s.ok=true->(S.txt E.txt s).length+4+B<=wt s.tree+aQ s.tree * (2 * B):=fun s h=>by
   have D:=base s h;have I:1 * (2 * B)<=aQ s.tree * (2 * B):=la _ (iQ _);omega
  have hS:∀ s:S,aQ s.tree<=N+1->s.ok=true->∀ d,2 * (d+aQ s.tree)+4<=B->(en d s).length+4+B<=wt s.tree+aQ s.tree * (2 * B):=by
   intro s hs ho d hd
   cases s with
   | set s a=>exact zd3
   | put s a b=>exact zd3
   | ret a=>exact zd3
   | do_ a=>exact zd3
   | var s a=>exact zd3
   | if1 c b =>
    exact zaH
   | while_ c b =>
    exact zaH
   | if2 c b b2 =>
    simp only [S.ok,au] at ho;simp only [S.tree,aQ,aB,wt,dJ,Nat.add_mul] at hs hd |-;have hc:=E.len c ho.1;have hz:=iQ c.tree;have D:=lD b ak ho.2.1 d [123,10] ak;have h3:=lD b2 ak ho.2.2 d [123,10] ak;have I:1 * (2 * B)<=aQ c.tree * (2 * B):=la _ hz;rw [en];simp only [aJ,length_cons,length_nil,fB] at D h3 |-;omega
  refine ⟨hS,fun l=>?_⟩
  induction l with
  | nil=>intro _ _ d acc _;rw [eu];omega
  | cons a l Qk =>
   intro hl ho d acc hd;simp only [S.bW,au] at ho;simp only [S.trees,aB,dJ,Nat.add_mul] at hl hd |-;have hz:=iQ a.tree;have D:=hS a ak ho.1 (d+1) ak;have I:=Qk ak ho.2 d (((acc++cr (d+1))++en (d+1) a)++[10]) ak;rw [eu];simp only [aJ,length_cons,length_nil,fB] at I;omega
theorem Ck {B d:Nat} {l:List S} (ho:S.bW l=true) (hd:2 * (d+aQ (aZ l))+4<=B):(pM d l).length<=wt (aZ l)+aQ (aZ l) * (2 * B):=by
 rw [aZ,aQ] at hd |-;have D:=(Ui B _).2 l (aD _) ho d [123,10] ak;unfold pM;simp only [aJ,length_cons,length_nil,fB,wt,Nat.add_mul] at D |-;omega
theorem J4 {α:Type} (c:Nat) (l:List α):aV (fun _=>c) l=l.length * c:=by
 induction l with
 | nil=>simp [aV]
 | cons x l ih=>rw [aV,ih,length_cons,Nat.succ_mul];omega
theorem FG {p:Src} {l:List T} {ls:List (List S)} (h:b8 p l) (hf:Forms l ls) (hw:cv p<=1048576):∀ b∈ls,(pM 0 b).length<=200000000:=fun b hb=>by
 obtain ⟨D,I,h3⟩:=h.WK hf b hb;have h4:=Ck (B:=2004) (d:=0) D ak;have h5:aQ (aZ b) * (2 * 2004)<=800 * (2 * 2004):=la _ I;omega
theorem CZ {p:Src} {l:List T} (h:b8 p l):∀ a∈p.arrays,0<=a.size/\a.size<=2147483647:=fun a ha=>by
 have:=fV.1 h.arrays a ha;unfold nA at this;simp only [au,Bool.not_eq_true',decide_eq_false_iff_not] at this;omega
theorem Iq {p:Src} {l:List T} {ls:List (List S)} (h:b8 p l) (hf:Forms l ls) (hw:cv p<=1048576):(vw p ls).length<=200000000000:=by
 have wZ:=FG h hf hw;have cL:=CZ h
 have e1:aV (fun s=>(g1 s).length) p.globals<=100 * wS p.globals:=fx fun s _=>by simp only [g1,aJ,length_cons,length_nil];omega
 have e2:aV (fun a=>(a1 a).length) p.arrays<=100 * aV (fun a:Ar=>a.name.length+1) p.arrays:=fx fun a ha=>by
  have:=pH (n:=a.size) (by have:=cL a ha;omega);exact zcR
 have e3:aV (fun x=>(qs x).length) (p.fns.zip ls)<=aV (fun x:Fn × List S=>(fun f:Fn=>100 * (f.name.length+wS f.params+1)) x.1+(fun _:List S=>200000000) x.2) (p.fns.zip ls):=CG fun x hx=>by
  have D:=wZ x.2 (List.of_mem_zip hx).2;have I:=nI x.1.params;rw [wM] at I
  have h3:aV (fun s=>s.length+2) x.1.params<=2 * wS x.1.params:=fx fun s _=>by omega
  simp only [qs,aJ,length_cons,length_nil];omega
 have e4:=wL (fun f:Fn=>100 * (f.name.length+wS f.params+1)) (fun _:List S=>200000000) p.fns ls
 have e5:aV (fun f:Fn=>100 * (f.name.length+wS f.params+1)) p.fns<=100 * aV (fun f:Fn=>f.name.length+wS f.params+1) p.fns:=fx fun f _=>aD _
 have e6:aV (fun _:List S=>200000000) ls=ls.length * 200000000:=J4 _ _
 have e7:ls.length<=800:=by
  have D:=hf.len;have I:=jK l;have h3:=h.len;have h4:=h.few;omega
 have e8:=gm e3 e4;unfold vw;unfold cv at hw;rw [lj,lj,lj];simp only [length_nil];generalize aV (fun x=>(qs x).length) (p.fns.zip ls)=v3 at *;exact zaP
theorem xL {p:Src} (hf:fI p=false):oS p=[]:=by
 unfold oS;rw [dif_neg];rintro ⟨_,_,h,_⟩;rw [hf] at h;cases h
theorem Cn {p:Src} (hw:cv p<=1048576):(oS p).length<=200000000000:=by
 cases hf:fI p with
 | false=>rw [xL hf];simp
 | true =>
  obtain ⟨l,hl⟩:=kL hf;obtain ⟨ls,hm⟩:=hl.v8;rw [qS hf hl hm];exact Iq hl hm hw
theorem K8 (t:T):eA t=yW t.n (jz t.kids):=by cases t;rw [eA];rfl
theorem uW:∀ (N:Nat) (t:T),aQ t<=N->nO t->(eA t).length+4<=gw t:=by
 intro N
 induction N with
 | zero=>intro t h;rw [eg] at h;omega
 | succ N ih =>
  intro t hN hn;rw [eg] at hN;rw [l6] at hn
  have hk:∀ a∈t.kids,(eA a).length+4<=gw a:=fun a ha=>ih a zfJ (eC hn.2 ha)
  have XL:((jz t.kids).map fun y=>y.length+2).sum<=eY t.kids:=by
   have:∀ (l:List T),(∀ a∈l,(eA a).length+4<=gw a)->((jz l).map fun y=>y.length+2).sum<=eY l:=by
    intro l
    induction l with
    | nil=>intro _;simp [jz]
    | cons a l lD =>
     intro h;have D:=h a (List.mem_cons_self)
     have I:=lD fun b hb=>h b (di _ hb)
     rw [jz,eY,List.map_cons,List.sum_cons];omega
   exact this _ hk
  have hx:=uZ (l:=t.kids) (f:=eA) (fun a ha=>by have:=hk a ha;omega);have h3:=Pq t.kids;have x0:=hx 0;have x1:=hx 1;rw [<-yh] at x0 x1;rw [K8,jC];unfold yW;split
  ·have:=pH hn.1;omega
  split
  ·exact zab
  split
  ·have:=nI (jz t.kids);exact zab
  split
  ·exact zab
  split
  ·exact zab
  ·omega
theorem RJ:∀ (N:Nat) (t:T),aQ t<=N->nO t->∀ d,(eb eA dk d t).length+4<=gw t/\(iT eA dk d t).length<=gw t:=by
 intro N
 induction N with
 | zero=>intro t h;have:=iQ t;omega
 | succ N ih =>
  intro t hN hn d;have fJ:=eg t;rw [l6] at hn
  have hk:∀ a∈t.kids,∀ d,(eb eA dk d a).length+4<=gw a/\(iT eA dk d a).length<=gw a:=fun a ha d=>ih a zfJ (eC hn.2 ha) d
  have hx:=uZ (l:=t.kids) (f:=eA) (fun a ha=>by have:=uW (aQ a) a (aD _) (eC hn.2 ha);omega);have hb:=uZ (l:=t.kids) (f:=iT eA dk d) (fun a ha=>(hk a ha d).2);have h3:=Pq t.kids;have hw:=jC t;have gz:=uW (aQ t) t (aD _) ((l6 t).2 hn);have x0:=hx 0;have x1:=hx 1;have b1:=hb 1;have b2:=hb 2;constructor
  ·rw [F1,BN];unfold kX;split
   ·exact zab
   split
   ·exact zab
   split
   ·exact zab
   split
   ·split
    ·exact zab
    ·exact zab
   split
   ·exact zab
   split
   ·exact zab
   split
   ·exact zab
   ·omega
  ·rw [Eh,CE]
   have:=CH (f:=eb eA dk (d+1)) (l:=t.kids) fun a ha=>(hk a ha (d+1)).1
   have e:∀ l:List ae,(dk l d).length=3+ko l:=fun l=>by
    unfold dk;rw [aJ,qD];exact zdq
   rw [e];omega
theorem OJ {p:Src} {l:List T} (hn:gY p) (hs:da p.nodes 0 l) (hz:aB l=p.nodes.length):(jJ eA dk p l).length<=100 * cv p:=by
 have hY:=da.num hn.nodes l 0 hs
 have e1:aV (fun s=>(g1 s).length) p.globals<=100 * wS p.globals:=fx fun s _=>by simp only [g1,aJ,length_cons,length_nil];omega
 have e2:aV (fun a=>(a1 a).length) p.arrays<=100 * aV (fun a:Ar=>a.name.length+1) p.arrays:=fx fun a ha=>by
  have:=pH (hn.arrays a ha);exact zcR
 have e3:aV (fun x=>(cI eA dk x).length) (p.fns.zip l)<=aV (fun x:Fn × T=>(fun f:Fn=>100 * (f.name.length+wS f.params+1)) x.1+gw x.2) (p.fns.zip l):=CG fun x hx=>by
  have D:=(RJ (aQ x.2) x.2 (aD _) (eC hY (List.of_mem_zip hx).2) 0).2;have I:=nI x.1.params;rw [wM] at I
  have h3:aV (fun s=>s.length+2) x.1.params<=2 * wS x.1.params:=fx fun s _=>by omega
  simp only [cI,aJ,length_cons,length_nil];omega
 have e4:=wL (fun f:Fn=>100 * (f.name.length+wS f.params+1)) gw p.fns l
 have e5:aV (fun f:Fn=>100 * (f.name.length+wS f.params+1)) p.fns<=100 * aV (fun f:Fn=>f.name.length+wS f.params+1) p.fns:=fx fun f _=>aD _
 have e6:aV lG p.nodes<=100 * aV (fun n:Nd=>n.s.length+n.kids.length+1) p.nodes:=fx fun n _=>by unfold lG;omega
 have e7:aV gw l=aV lG p.nodes:=by rw [<-Ae,vL l 0,<-da.all hs hz]
 unfold jJ cv;rw [lj,lj,lj];simp only [length_nil];have e8:=gm e3 e4;generalize aV (fun x=>(cI eA dk x).length) (p.fns.zip l)=v3 at *;exact zaP
theorem Ml {p:Src} (hf:fI p=false):vr p=[]:=by
 unfold vr;rw [dif_neg];rintro ⟨_,_,h,_⟩;rw [hf] at h;cases h
theorem Cm {p:Src} (hn:gY p) (hw:cv p<=1048576):(vr p).length<=104857600:=by
 cases hf:fI p with
 | false=>rw [Ml hf];simp
 | true =>
  obtain ⟨l,hl⟩:=kL hf;obtain ⟨ls,hm⟩:=hl.v8;rw [vt hf hl hm,<-A1 hm];have:=OJ hn hl.st hl.len;omega
theorem wz:∀ d,cV (cr d) []
 | 0=>cV.nil
 | d+1=>by
  rw [uu];exact ((wz d).app (xR.app xR)).eq zeL
mutual
theorem TR:∀ (s:S) (d:Nat),s.ok=true->cV (en d s) s.tk
 | .set s a,d,h=>by rw [en];exact yo _ h
 | .put s a b,d,h=>by rw [en];exact yo _ h
 | .ret a,d,h=>by rw [en];exact yo _ h
 | .do_ a,d,h=>by rw [en];exact yo _ h
 | .var s a,d,h=>by rw [en];exact yo _ h
 | .if1 c b,d,h=>by
  simp only [S.ok,au] at h;rw [en,S.tk];have D:=((((n8 (w:=[105,102]) ai).app (gB (c:=40) ai)).apps (mZ c h.1)).then (c:=41) ai).s.sp;have I:=D.app (A2 b d h.2)
  have e:[105,102,32,40]++c.txt++[41,32]++(eu d [123,10] b++cr d++[125])=[105,102]++[32]++[40]++c.txt++[41]++[32]++(eu d [123,10] b++cr d++[125]):=by simp
  rw [e];exact I.eq (by simp [eW])
 | .if2 c b b2,d,h=>by
  simp only [S.ok,au] at h;rw [en,S.tk];have D:=((((n8 (w:=[105,102]) ai).app (gB (c:=40) ai)).apps (mZ c h.1)).then (c:=41) ai).s.sp;have I:=D.app (A2 b d h.2.1);have h3:=((I.s.sp.apps (Fp (w:=[101,108,115,101]) ai)).sp).app (A2 b2 d h.2.2)
  have e:[105,102,32,40]++c.txt++[41,32]++(eu d [123,10] b++cr d++[125])++[32,101,108,115,101,32]++(eu d [123,10] b2++cr d++[125])=[105,102]++[32]++[40]++c.txt++[41]++[32]++(eu d [123,10] b++cr d++[125])++[32]++[101,108,115,101]++[32]++(eu d [123,10] b2++cr d++[125]):=by simp
  rw [e];exact h3.eq (by simp [eW,gF])
 | .while_ c b,d,h=>by
  simp only [S.ok,au] at h;rw [en,S.tk];have D:=((((n8 (w:=[119,104,105,108,101]) ai).app (gB (c:=40) ai)).apps (mZ c h.1)).then (c:=41) ai).s.sp;have I:=D.app (A2 b d h.2)
  have e:[119,104,105,108,101,32,40]++c.txt++[41,32]++(eu d [123,10] b++cr d++[125])=[119,104,105,108,101]++[32]++[40]++c.txt++[41]++[32]++(eu d [123,10] b++cr d++[125]):=by simp
  rw [e];exact I.eq (by simp [fC])
theorem A2:∀ (l:List S) (d:Nat),S.bW l=true->cV (eu d [123,10] l++cr d++[125]) (kS [123]::(S.kY l++[kS [125]]))
 | l,d,h=>by
  have h0:cV [123,10] [kS [123]]:=by
   have:=(gB (c:=123) ai).app (pJ (c:=10) ai);exact zcb
  exact (((L7 l d h _ _ h0).app (wz d)).s.then (c:=125) ai).eq zeL
theorem L7:∀ (l:List S) (d:Nat),S.bW l=true->∀ acc m,cV acc m->cV (eu d acc l) (m++S.kY l)
 | [],d,_,acc,m,h=>by rw [eu,S.kY,fk];exact h
 | a::l,d,ho,acc,m,h=>by
  simp only [S.bW,au] at ho;rw [eu,S.kY];have D:=((h.app (wz (d+1))).app (TR a (d+1) ho.1)).app (pJ (c:=10) ai);exact (L7 l d ho.2 _ _ D).eq zeL
end
theorem Rl {x:Fn × List S} (D:bC x.1.name=true) (I:cy x.1.params=true) (h3:S.bW x.2=true):cV (qs x) (r8 x):=by
 have x1:=((n8 (w:=fv) ai).apps (iN D)).then (c:=40) ai;have x2:=(x1.apps (Qr I)).BJ ((gB (c:=41) ai).app xR) (vD (c:=41) (x:=[32]) ai);have x3:=(x2.app (A2 x.2 0 h3)).app (pJ (c:=10) ai);refine cV.eq x3 ?_;simp [r8,Aq]
theorem Uj {p:Src} {l:List T} {ls:List (List S)} (h:b8 p l) (hf:Forms l ls):cV (vw p ls) (Bl p ls):=by
 have l1:=qL (f:=g1) (k:=Aw) p.globals (fun s hs=>Qq (fV.1 h.globals s hs)) [] [] cV.nil;have l2:=qL (f:=a1) (k:=yP) p.arrays (fun s hs=>Qp (fV.1 h.arrays s hs)) _ _ l1;have l3:=qL (f:=qs) (k:=r8) (p.fns.zip ls) (fun x hx=>by obtain ⟨a,b,c⟩:=h.xs hf x hx;exact Rl a b c) _ _ l2;exact l3.eq (by simp [Bl])
theorem G0 {p:Src} (h:fI p=true) (hl:(oS p).length<=6000):∃ q,qd (oS p)=(q,0,0)/\RX p q:=by
 obtain ⟨l,ls,hs,hf,jI⟩:=zD h;have hx:=Uj hs hf;rw [<-qS h hs hf] at hx;obtain ⟨l',D,I,h3⟩:=back hs hf jI hx hl;exact ⟨_,D,Hj h hs hf I h3⟩
theorem KG {α:Type} {f g:α->ae}:∀ (l:List α) (x y:ae),(∀ a∈l,cn (f a)<=cn (g a))->cn x<=cn y->cn (bH f x l)<=cn (bH g y l)
 | [],x,y,_,h=>h
 | a::l,x,y,hl,h=>by
  rw [bH,bH];refine KG l _ _ (fun b hb=>hl b (di _ hb)) ?_;have:=hl a List.mem_cons_self;rw [jy,jy];omega
theorem UP (p:Src):cn (oS p)<=cn (vr p):=by
 cases h:fI p with
 | false=>rw [xL h];exact aY _
 | true =>
  obtain ⟨l,ls,hs,hf,-⟩:=zD h;rw [qS h hs hf,vt h hs hf];unfold vw K7;refine KG _ _ _ (fun x hx=>?_) (aD _);have hb:=S.BQ x.2 0 (hs.xs hf x hx).2.2 [123,10] [123,32] ai;unfold qs ln pM dD;simp only [jy,rv];omega
end Go.Im
