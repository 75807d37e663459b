/- Part 17 of proofs that are told in their last texts. -/
import Derived.Test.YtfahcenafcklmaaGreatDoorZ16
import Derived.Test.YtfahcenafcklmaaGreatDoorZ6
import Derived.Test.YtfahcenafcklmaaGreatDoorZ11
import Derived.Test.YtfahcenafcklmaaGreatDoorZ2
import Derived.Test.YtfahcenafcklmaaGreatDoorZ12
open List (getElem?_eq_none mem_singleton)
set_option linter.unusedVariables false
set_option linter.unusedSimpArgs false
set_option maxRecDepth 100000
set_option maxHeartbeats 2000000
namespace Go
theorem zaM {A:Prop} (s:A:=by exact GW.JL (fn:=f95) rfl rfl (by simp) rfl rfl rfl rfl (fun _ _ h=>by repeat (first | exact h | refine jW ?_ | refine jV ?_))):A:=s
end Go
namespace Go.Xg
open Go.RowKit Go.Xw Go.Proofs
open Go.Xp (Nd)
theorem Mr {K K':Fz} {β bT:Bt} {vs:List Value} {gs:List GV} (h:bm K β vs gs) (hg:∀ g∈gs,∃ x,g=.v x):bm K' bT vs gs :=
 ⟨h.1,fun i v g D I=>by
  obtain ⟨x,rfl⟩:=hg g (bM I)
  rw [Rel.gS (h.2 i v _ D I)];exact .v _⟩
def Ob.LX:Ob->Prop
 | .vech _ _ rows _=>∀ r∈rows,∀ g∈r,∃ x,g=GV.v x
 | _=>False
def VU:Ob->Bk
 | .vech _ _ rows x=>.gr x rows.length
 | _=>.no
def jT (N:List Ob):Bt:=fun i=>match N[i]? with
 | some x=>VU x
 | none=>.no
structure Pk (N:List Ob) (h:Nat->Option Obj):Prop where
 plain:∀ x∈N,x.LX
 dis:∀ i j b,(jT N i).has b->(jT N j).has b->i=j
 dom:∀ b,(h b).isSome=true↔∃ i,(jT N i).has b
 own:∀ w:World,(∀ b o,h b=some o->w.heap[b]?=some o)->∀ (i:Nat) E k rows x,N[i]?=some (.vech E k rows x)->jk k rows/\∃ xs,gV w 0 E k x rows.length xs/\bm (fun _ _=>none) (fun _=>.no) xs rows.flatten
abbrev blob (N:List Ob):Ob:=.blob (Pk N)
theorem w7 {N:List Ob} {i:Nat} {x:Ob} (h:N[i]?=some x):jT N i=VU x:=by unfold jT;rw [h]
theorem Ap {N:List Ob} {i:Nat} (h:N.length<=i):jT N i=.no:=by unfold jT;rw [getElem?_eq_none h]
theorem OX {w w':World} {base e k:Nat} {v:Value} {n:Nat} {xs:List Value} (h:gV w base e k v n xs) (hs:∀ b o,v.ownBlock=some b->w.heap[b]?=some o->w'.heap[b]?=some o):gV w' base e k v n xs:=by
 obtain ⟨D,I⟩:=h;refine ⟨D,?_⟩
 rcases I with I | ⟨g,cap,cur,rfl,hb,hg,r⟩
 ·exact .inl I
 ·exact .inr ⟨g,cap,cur,rfl,hb,hs g _ rfl hg,r⟩
theorem Pk.ob {N:List Ob} {h:Nat->Option Obj} {K:Fz} {β:Bt} {w:World} {i j:Nat} {x:Ob} (hp:Pk N h) (hh:∀ b o,h b=some o->w.heap[b]?=some o/\∀ j,K b j=none) (hx:N[j]?=some x) (kU:β i=jT N j):jD K β w i x:=by
 have dv:=hp.plain x (bM hx)
 cases x with
 | vech E k rows v =>
  obtain ⟨D,xs,I,h3⟩:=hp.own w (fun b o hb=>(hh b o hb).1) j E k rows v hx;refine ⟨xs,by rw [kU,w7 hx];rfl,I,Mr h3 (fun g hg=>?_),D,fun b hb o=>?_⟩
  ·obtain ⟨r,j0,dT⟩:=List.mem_flatten.1 hg;exact dv r j0 g dT
  ·have:(h b).isSome=true:=(hp.dom b).2 ⟨j,by rw [w7 hx];exact hb⟩;obtain ⟨y,hy⟩:=Option.isSome_iff_exists.1 this;exact (hh b y hy).2 o
 | _=>exact dv.elim
theorem Io {K:Fz} {β:Bt} {w:World} {N:List Ob} (s:Nat) (hN:∀ x∈N,x.LX) (ho:∀ (j:Nat) x,N[j]?=some x->jD K β w (s+j) x) (hd:∀ i j b,(β i).has b->(β j).has b->i=j) :
  ∃ h:Nat->Option Obj,(∀ b o,h b=some o->w.heap[b]?=some o/\∀ j,K b j=none)/\Pk N h/\∀ b,(h b).isSome=true->∃ j,j < N.length/\(β (s+j)).has b:=by
 classical
 have kU:∀ j,j < N.length->β (s+j)=jT N j:=fun j hj=>by
  have hx:N[j]?=some N[j]:=ec hj;have hp:=hN _ (bM hx);have h0:=ho j _ hx;rw [w7 hx];generalize N[j]=x at *
  cases x with
  | vech E k rows v=>obtain ⟨xs,D,_⟩:=h0;exact D
  | _=>exact hp.elim
 have ar:∀ j b,(jT N j).has b->j < N.length:=fun j b hb=>by
  rcases Nat.lt_or_ge j N.length with h | h
  ·exact h
  ·rw [Ap h] at hb;exact hb.elim
 have fJ:∀ j b,(jT N j).has b->b < w.heap.size:=fun j b hb=>by
  have hj:=ar j b hb;exact (ho j _ (ec hj)).lt (by rw [kU j hj];exact hb)
 refine ⟨fun b=>if ∃ j,(jT N j).has b then w.heap[b]? else none,fun b o hb=>?_,⟨hN,fun i j b hi hj=>?_,fun b=>?_,fun w' Zt i E k rows x hx=>?_⟩,fun b hb=>?_⟩
 ·simp only at hb;split at hb
  ·rename_i hj;refine ⟨hb,fun o=>?_⟩;obtain ⟨j,hj⟩:=hj;have rE:=ar j b hj;have hx:N[j]?=some N[j]:=ec rE;have hp:=hN _ (bM hx);have h0:=ho j _ hx;rw [w7 hx] at hj;generalize N[j]=x at *
   cases x with
   | vech E k rows v=>obtain ⟨xs,_,_,_,_,h5⟩:=h0;exact h5 b hj o
   | _=>exact hp.elim
  ·cases hb
 ·have D:=ar i b hi;have I:=ar j b hj;have:=hd (s+i) (s+j) b (by rw [kU i D];exact hi) (by rw [kU j I];exact hj);omega
 ·constructor
  ·intro h;split at h
   ·rename_i hj;exact hj
   ·cases h
  ·rintro ⟨j,hj⟩;rw [ah ⟨j,hj⟩];have:=fJ j b hj;simp [this]
 ·have hp:=hN _ (bM hx);obtain ⟨xs,D,I,h3,h4,_⟩:=ho i _ hx;refine ⟨h4,xs,OX I fun b o hb rC=>Zt b o ?_,Mr h3 fun g hg=>?_⟩
  ·show (if ∃ j,(jT N j).has b then w.heap[b]? else none)=some o;rw [ah ⟨i,by rw [w7 hx];exact hb⟩];exact rC
  ·obtain ⟨r,j0,dT⟩:=List.mem_flatten.1 hg;exact hp r j0 g dT
 ·simp only at hb;split at hb
  ·rename_i hj;obtain ⟨j,hj⟩:=hj;have rE:=ar j b hj;exact ⟨j,rE,by rw [kU j rE];exact hj⟩
  ·cases hb
section
variable {B:Bs} {K:Fz} {β:Bt} {Γ:List Ob} {w:World}
theorem Inv.unpack {i:Nat} {N:List Ob} (hI:Inv B K β Γ w) (bO:Γ[i]?=some (blob N)) :
  ∃ bT,dx β bT/\(∀ j,j < N.length->bT (Γ.length+j)=jT N j)/\(∀ j b,(bT j).has b->∃ q,(β q).has b)/\Inv B K bT (oset Γ i .gone++N) w:=by
 obtain ⟨h,e,hh,hp⟩:=hI.ob i _ bO;have hi:=(bh bO).1
 have gD:∀ b,(β i).has b↔(h b).isSome=true:=fun b=>by rw [e];exact Iff.rfl
 have xt:(oset Γ i .gone).length=Γ.length:=by rw [bG,List.length_set]
 have e0:∀ j,j < Γ.length->(if j < Γ.length then (if j=i then Bk.no else β j) else jT N (j - Γ.length))=if j=i then Bk.no else β j:=fun j hj=>ah hj
 have e1:∀ j,Γ.length<=j->(if j < Γ.length then (if j=i then Bk.no else β j) else jT N (j - Γ.length))=jT N (j - Γ.length):=fun j hj=>ad X
 have hle:dx β (fun j=>if j < Γ.length then (if j=i then Bk.no else β j) else jT N (j - Γ.length)):=fun j=>by
  rcases Nat.lt_or_ge j Γ.length with hj | hj
  ·simp only [e0 j hj]
   by_cases hji:j=i
   ·subst hji;rw [e];trivial
   ·rw [ad hji];exact rP.refl _
  ·rw [hI.out j hj];trivial
 have hN:∀ j b,(jT N j).has b->(β i).has b:=fun j b hb=>(gD b).2 ((hp.dom b).2 ⟨j,hb⟩)
 have xn:∀ j b,((fun j=>if j < Γ.length then (if j=i then Bk.no else β j) else jT N (j - Γ.length)) j).has b->(j < Γ.length/\j≠i/\(β j).has b)\/(Γ.length<=j/\(jT N (j - Γ.length)).has b):=fun j b hb=>by
  rcases Nat.lt_or_ge j Γ.length with hj | hj
  ·simp only [e0 j hj] at hb
   by_cases hji:j=i
   ·rw [ah hji] at hb;exact hb.elim
   ·rw [ad hji] at hb;exact .inl ⟨hj,hji,hb⟩
  ·simp only [e1 j hj] at hb;exact .inr ⟨hj,hb⟩
 have hq:∀ j b,((fun j=>if j < Γ.length then (if j=i then Bk.no else β j) else jT N (j - Γ.length)) j).has b->∃ q,(β q).has b:=fun j b hb=>by
  rcases xn j b hb with ⟨_,_,D⟩ | ⟨_,D⟩
  ·exact ⟨j,D⟩
  ·exact ⟨i,hN _ b D⟩
 generalize E3:(fun j=>if j < Γ.length then (if j=i then Bk.no else β j) else jT N (j - Γ.length))=bT at *;refine ⟨bT,hle,fun j hj=>?_,hq,hI.ext,hI.kle,hI.ble.trans hle,hI.loc,hI.fz,fun j x hj=>?_,fun j hj=>?_,fun a c b ha hc=>?_,fun j b hj=>?_,hI.kn,hI.tab.step (S:=gR) (Ext.refl w) (fun _ h=>h.elim) (cZ.refl K) (fun j b hj=>.inl (hq j b hj))⟩
 ·subst E3;simp only;rw [ad X,Nat.add_sub_cancel_left]
 ·rcases Nat.lt_or_ge j Γ.length with hl | hl
  ·rw [il X,bG,fq] at hj
   by_cases hji:i=j
   ·rw [ah hji,ah hi] at hj;cases hj;show bT j=.no;subst E3;simp only;rw [ah hl,ah hji.symm]
   ·rw [ad hji] at hj;exact (hI.ob j x hj).ext (S:=gR) (Ext.refl w) (fun _ _ h=>h) (cZ.refl K) hle (by subst E3;simp only;rw [ah hl,ad (fun e=>hji e.symm)]) (fun _ _ _ h=>h)
  ·rw [jO X,xt] at hj;exact hp.ob hh hj (by subst E3;simp only;rw [ad X])
 ·rw [aJ,xt] at hj;subst E3;simp only;rw [ad X,Ap X]
 ·rcases xn a b ha with ⟨a1,a2,a3⟩ | ⟨a1,a2⟩ <;> rcases xn c b hc with ⟨c1,c2,c3⟩ | ⟨c1,c2⟩
  ·exact hI.dis a c b a3 c3
  ·exact absurd (hI.dis a i b a3 (hN _ b c2)) a2
  ·exact absurd (hI.dis c i b c3 (hN _ b a2)) c2
  ·have:=hp.dis _ _ b a2 c2;omega
 ·obtain ⟨q,hq⟩:=hq j b hj;exact hI.own q b hq
end
section
variable {P:Program} {m:Nat} {fr:List GV} {Γ:List Ob}
theorem Wk.unpack (i:Nat) {N:List Ob} (bO:Γ[i]?=some (blob N)):Wk m fr Γ fr (oset Γ i .gone++N):=fun B K β w l hB hI hF=>by
 obtain ⟨bT,D,_,_,h4⟩:=hI.unpack bO;exact ⟨K,bT,h4,hF.mono (cZ.refl K) D⟩
theorem Wk.pack (A N:List Ob) (bO:Γ=A++N) (hm:m<=A.length) (hN:∀ x∈N,x.LX) (hA:tz A.length A=true):Wk m fr Γ (vX A.length fr) (A++[blob N]):=fun B K β w l hB hI hF=>by
 have pY:∀ (j:Nat) x,N[j]?=some x->Γ[A.length+j]?=some x:=fun j x hj=>by rw [bO,jO X,Nat.add_sub_cancel_left];exact hj
 obtain ⟨h,hh,hp,hd⟩:=Io (K:=K) (β:=β) (w:=w) A.length hN (fun j x hj=>hI.ob _ x (pY j x hj)) hI.dis
 have kB:Γ.take A.length=A:=by rw [bO];simp
 have hc:=hI.cut (n:=A.length) X (by rw [kB];exact hA);rw [kB] at hc;have Og:fc (below A.length) β A.length=.no:=sE (x9 (aD _));have hold:dx (fc (below A.length) β) (ff (fc (below A.length) β) A.length (.set fun b=>(h b).isSome=true)):=iO (by rw [Og];trivial)
 have cE:∀ b,(h b).isSome=true->∀ i,¬ (fc (below A.length) β i).has b:=fun b hb i hi=>by
  obtain ⟨j,_,hj⟩:=hd b hb
  by_cases lW:i < A.length
  ·rw [gJ (ya lW)] at hi;have:=hI.dis i _ b hi hj;omega
  ·rw [sE (x9 X)] at hi;cases hi
 refine ⟨K,ff (fc (below A.length) β) A.length (.set fun b=>(h b).isSome=true),?_,(hF.res).mono (cZ.refl K) hold⟩;refine ⟨hc.ext,hc.kle,hc.ble.trans hold,hc.loc,hc.fz,fun i z hi=>?_,fun i hi=>?_,fun i i' b hi hj=>?_,fun i b hi=>?_,hc.kn,⟨hc.tab.le,hc.tab.pow,hc.tab.spc,fun i b hi=>?_⟩⟩
 ·by_cases rD:i < A.length
  ·rw [il X] at hi;exact (hc.ob i z hi).ext (S:=gR) (Ext.refl w) (fun _ _ h=>h) (cZ.refl K) hold (bU X) (fun _ _ _ h=>h)
  ·have:i=A.length:=by have:=(bh hi).1;rw [aJ,List.length_singleton] at this;omega
   subst this;rw [jO X,wR] at hi;cases hi;exact ⟨h,bD,hh,hp⟩
 ·rw [aJ,List.length_singleton] at hi;rw [bU X];exact sE (x9 X)
 ·by_cases D:i=A.length <;> by_cases I:i'=A.length
  ·omega
  ·subst D;rw [bD] at hi;rw [bU I] at hj;exact absurd hj (cE b hi i')
  ·subst I;rw [bD] at hj;rw [bU D] at hi;exact absurd hi (cE b hj i)
  ·rw [bU D] at hi;rw [bU I] at hj;exact hc.dis i i' b hi hj
 ·rcases mu hi with D | D
  ·obtain ⟨j,_,hj⟩:=hd b D;exact hI.own _ b hj
  ·exact hc.own i b D
 ·rcases mu hi with D | D
  ·obtain ⟨j,_,hj⟩:=hd b D;exact hI.tab.free _ b hj
  ·exact hc.tab.free i b D
end
theorem GC.blob {P:Program} {f:FuncId} {gs:List GV} {N:List Ob} {R:GV->List Ob->Prop} (hc:GC P f gs N R) (hR:∀ g Δ,R g Δ->(∀ x∈Δ,x.LX)/\∃ x,g=.v x) :
  GC P f gs [Go.Xg.blob N] fun g Δ=>∃ N',R g N'/\Δ=[Go.Xg.blob N']:=fun B K β w vs hB hI hF=>by
 obtain ⟨h,e,hh,hp⟩:=hI.ob 0 _ rfl
 have gD:∀ b,(β 0).has b↔(h b).isSome=true:=fun b=>by rw [e];exact Iff.rfl
 have hN:∀ j b,(jT N j).has b->(β 0).has b:=fun j b hb=>(gD b).2 ((hp.dom b).2 ⟨j,hb⟩)
 have hle:dx β (fun j=>jT N j)->bm K (jT N) vs gs:=fun hb=>hF.mono (cZ.refl K) hb
 have cE:∀ i,0 < i->β i=.no:=fun i hi=>hI.out i hi
 have YC:dx β (jT N):=fun j=>by
  rcases Nat.eq_zero_or_pos j with hj | hj
  ·subst hj;rw [e];trivial
  ·rw [cE j hj];trivial
 have YI:Inv (cur K (jT N) N w) K (jT N) N w :=
  ⟨Ext.refl w,cZ.refl K,dx.refl _,fun i hi=>Ap hi,hI.fz,fun i x hx=>hp.ob hh hx rfl,fun i hi=>Ap hi,hp.dis,fun i b hb=>.inl ⟨i,hb⟩,fun _ _ _ h=>.inl h,hI.tab.step (S:=gR) (Ext.refl w) (fun _ h=>h.elim) (cZ.refl K) (fun j b hj=>.inl ⟨0,hN j b hj⟩)⟩
 refine (hc _ K (jT N) w vs rfl YI (hle YC)).mono ?_;rintro v w' ⟨K',bT,g,aU,bE,hr,V6⟩;obtain ⟨dv,x,rfl⟩:=hR g aU V6;obtain ⟨h',Tf,jP,AG⟩:=Io (K:=K') (β:=bT) (w:=w') 0 dv (fun j x hj=>by rw [eo];exact bE.ob j x hj) bE.dis
 have nE:∀ b,(h' b).isSome=true->∃ j,(bT j).has b:=fun b hb=>by obtain ⟨j,_,hj⟩:=AG b hb;exact ⟨0+j,hj⟩
 have wg:∀ b,blocks (jT N) b->(β 0).has b:=fun b ⟨j,hj⟩=>hN j b hj
 refine ⟨K',fun i=>if i=0 then .set (fun b=>(h' b).isSome=true) else .no,.v x,[Go.Xg.blob aU],?_,hr.pc rfl,aU,V6,rfl⟩
 have h0:∀ i b,((fun i=>if i=0 then Bk.set (fun b=>(h' b).isSome=true) else .no) i).has b->i=0/\(h' b).isSome=true:=fun i b hb=>by
  simp only at hb;split at hb
  ·rename_i hi;exact ⟨hi,hb⟩
  ·exact hb.elim
 refine ⟨hI.ext.step bE.ext (fun j hj=>(hI.own 0 j (wg j hj)).symm),hI.kle.trans bE.kle,fun i=>?_,hI.loc,bE.fz,fun i z hi=>?_,fun i hi=>?_,fun i j b hi hj=>?_,fun i b hi=>?_,fun b o g hg=>?_,bE.tab.step (S:=gR) (Ext.refl w') (fun _ h=>h.elim) (cZ.refl K') (fun i b hi=>.inl (nE b (h0 i b hi).2))⟩
 ·have:=hI.ble i
  rcases Nat.eq_zero_or_pos i with hi | hi
  ·subst hi;rw [e] at this;generalize B.β0 0=y at this
   cases y with
   | no=>trivial
   | set S=>trivial
   | fix b=>cases this
   | gr a b=>obtain ⟨_,_,h,_⟩:=this;cases h
  ·rw [hI.loc i (by rw [hB];exact hi)];trivial
 ·cases i with
  | zero =>
   cases hi;exact ⟨h',rfl,Tf,jP⟩
  | succ i=>simp at hi
 ·show (if i=0 then Bk.set (fun b=>(h' b).isSome=true) else .no)=.no;rw [ad (by have:(1:Nat)<=i:=hi;omega)]
 ·rw [(h0 i b hi).1,(h0 j b hj).1]
 ·obtain ⟨j,hj⟩:=nE b (h0 i b hi).2
  rcases bE.own j b hj with D | D
  ·exact hI.own 0 b (wg b D)
  ·exact .inr (gm hI.ext.size D)
 ·rcases bE.kn b o g hg with D | D | D
  ·exact hI.kn b o g D
  ·exact .inr (hI.own 0 b (wg b D))
  ·exact .inr (.inr (gm hI.ext.size D))
theorem A5 {aP:List Nd} {h:Value} {ns:List Value}:∀ x∈cx aP h ns,x.LX:=fun x hx=>by
 rcases ew hx with rfl | hx
 ·intro r hr g hg;obtain ⟨i,hi⟩:=List.getElem?_of_mem hr;rw [List.getElem?_zipWith] at hi;split at hi
  ·cases hi;unfold dn at hg;simp only [List.mem_cons,List.not_mem_nil,or_false] at hg
   rcases hg with rfl | rfl | rfl | rfl | rfl <;> exact ⟨_,rfl⟩
  ·cases hi
 ·obtain ⟨i,hi⟩:=List.getElem?_of_mem hx;rw [List.getElem?_zipWith] at hi;split at hi
  ·cases hi;intro r hr g hg;obtain ⟨s,_,rfl⟩:=yJ.1 hr;rw [List.mem_singleton.1 hg];exact ⟨_,rfl⟩
  ·cases hi
theorem Inv.xO {B:Bs} {K:Fz} {β:Bt} {Γ A:List Ob} {w:World} {aP:List Nd} {h:Value} {ns:List Value} (hI:Inv B K β Γ w) (H:oH aP h ns) (bO:Γ=A++cx aP h ns) (hm:B.m<=A.length) (hA:tz A.length A=true) :
  ∃ K',cZ K K'/\Rel K' (fun _=>.no) h (.sl 5 (aP.map aO))/\Inv B K' (fc (below A.length) β) A w:=by
 have hl:=H.len
 have hN:∀ i,i < aP.length->aP[i]?=some (aP.getD i ⟨0,0,0,[],[]⟩)/\ns[i]?=some (MT ns i):=fun i hi=>by
  unfold MT;rw [List.getD_eq_getElem?_getD,ec hi,ec (show i < ns.length by omega)];exact zag
 have g3:Γ[A.length]?=some (.vech 78 5 (List.zipWith dn aP ns) h):=by rw [bO,jO (aD _),wR];rfl
 have gN:∀ i,i < aP.length->Γ[A.length+1+i]?=some (.vech 3 1 (lZ (aP.getD i ⟨0,0,0,[],[]⟩).kids) (MT ns i)):=fun i hi=>by
  rw [bO,jO X,show A.length+1+i - A.length=i+1 by omega];unfold cx;rw [List.getElem?_cons_succ,Ng (hN i hi).1 (hN i hi).2];rfl
 obtain ⟨K2,IP,R2,k2,i2,f2,l2,r2,o2⟩:=hI.O6 (jf:=A.length) (N:=aP.length) (o:=4) (E:=3) (k':=1) (raw:=fun i=>dn (aP.getD i ⟨0,0,0,[],[]⟩) (MT ns i)) (fin:=fun i=>aO (aP.getD i ⟨0,0,0,[],[]⟩)) (ks:=fun i=>lZ (aP.getD i ⟨0,0,0,[],[]⟩).kids) (hd:=fun i=>MT ns i) (jp:=fun i=>A.length+1+i)
  g3 ⟨by rw [rj];omega,fun i hi=>Ng (hN i hi).1 (hN i hi).2⟩ (fun i hi=>⟨rfl,rfl⟩) gN (fun i hi=>by omega) (fun i j _ _ h=>by omega)
 have e2:R2=aP.map aO:=by
  apply List.ext_getElem?;intro i
  by_cases hi:i < aP.length
  ·rw [r2 i hi,bP,(hN i hi).1];rfl
  ·rw [getElem?_eq_none X,getElem?_eq_none zfn]
 rw [e2] at f2;obtain ⟨K3,k3,q3,i3⟩:=i2.Bh f2
 have kB:(oset IP A.length (.vec 78 5 (aP.map aO).length (aP.map aO))).take A.length=A:=by
  apply List.ext_getElem?;intro q;rw [List.getElem?_take];split
  ·rw [bG,fq,ad X,o2 q X (fun i _=>by omega),bO,il X]
  ·rw [getElem?_eq_none X]
 have i4:=i3.cut (n:=A.length) hm (by rw [kB];exact hA);rw [kB] at i4;exact ⟨K3,k2.trans k3,q3.pc rfl,i4⟩
theorem Wk.xO {m:Nat} {fr:List GV} {Γ:List Ob} (A:List Ob) {aP:List Nd} {h:Value} {ns:List Value} {i o:Nat} {T:TypeId} {cs:List GV} (H:oH aP h ns) (bO:Γ=A++cx aP h ns) (hm:m<=A.length) (hA:tz A.length A=true) (hi:A[i]?=some (.box T cs)) (ho:cs[o]?=some (.v h)) :
  Wk m fr Γ (vX A.length fr) (oset A i (.box T (bN cs o (.sl 5 (aP.map aO))))):=fun B K β w l hB hI hF=>by
 obtain ⟨K',hK,hr,bE⟩:=hI.xO H bO X hA;obtain ⟨b,vs,D,I,h3,h4⟩:=bE.ob i _ hi;exact ⟨K',_,bE.swap ⟨b,vs,D,I,bm.bN (hr.pc rfl) h3 ho,h4⟩,(hF.res).mono hK (dx.refl _)⟩
def Ob.tl:Ob->Bool
 | .vech _ _ _ _=>true
 | .blob _=>true
 | .box _ cs=>qz cs
 | _=>false
theorem Inv.Qw {B:Bs} {K:Fz} {β:Bt} {Γ:List Ob} {w:World} (h:Inv B K β Γ w) {aR:List Nat} (hm:∀ j,j < B.m->aR[j]?=some j) {Δ:List Ob} (hl:Δ.length=aR.length) (hn:aR.Nodup)
  (hx:∀ (j:Nat) x,Δ[j]?=some x->x.tl=true/\∀ i,aR[j]?=some i->Γ[i]?=some x):Inv B K (l8 β aR) Δ w:=by
 have hb:∀ i b,(l8 β aR i).has b->∃ q,aR[i]?=some q/\(β q).has b:=fun i b hi=>by
  unfold l8 at hi
  cases hs:aR[i]? with
  | none=>rw [hs] at hi;cases hi
  | some q=>rw [hs] at hi;exact ⟨q,rfl,hi⟩
 refine ⟨h.ext,h.kle,fun i=>?_,h.loc,h.fz,fun i x hi=>?_,fun i hi=>?_,fun i j b hi hj=>?_,fun i b hi=>?_,h.kn,h.tab.step (S:=gR) (Ext.refl w) (fun _ h=>h.elim) (cZ.refl K) (fun i b2 I=>?_)⟩
 ·rcases Nat.lt_or_ge i B.m with hi | hi
  ·have:l8 β aR i=β i:=by unfold l8;rw [hm i hi]
   rw [this];exact h.ble i
  ·rw [h.loc i hi];trivial
 ·obtain ⟨D,I⟩:=hx i x hi;have ar:=(bh hi).1;have hs:aR[i]?=some (aR[i]'X):=ec _
  have kU:l8 β aR i=β (aR[i]'X):=by unfold l8;rw [hs]
  cases x with
  | vech E k rows v =>
   obtain ⟨xs,e1,e2,e3,e4,e5⟩:=h.ob _ _ (I _ hs);exact ⟨xs,kU.trans e1,e2,e3.qz e4.flat,e4,e5⟩
  | blob p =>
   obtain ⟨g,e1,e2,e3⟩:=h.ob _ _ (I _ hs);exact ⟨g,kU.trans e1,e2,e3⟩
  | box E cs =>
   obtain ⟨b,vs,e1,e2,e3,e4⟩:=h.ob _ _ (I _ hs);exact ⟨b,vs,kU.trans e1,e2,e3.qz (l7 D),e4⟩
  | _=>cases D
 ·unfold l8;rw [getElem?_eq_none X]
 ·obtain ⟨q,D,I⟩:=hb i b hi;obtain ⟨r,h3,h4⟩:=hb j b hj;have:=h.dis q r b I h4;subst this;obtain ⟨a1,a2⟩:=bh D;obtain ⟨b1,b2⟩:=bh h3;exact (List.getElem_inj hn).1 (a2.trans b2.symm)
 ·obtain ⟨q,D,I⟩:=hb i b hi;exact h.own q b I
 ·obtain ⟨q,h3,h4⟩:=hb i b2 I;exact .inl ⟨q,h4⟩
theorem HA {P:Program} {fn:Func} {R:GV->List Ob->Prop} {fr:List GV} {Γ:List Ob} {e:Exit} {t u s:Tmp} {T:TypeId} {k:Nat} [hT:Ty P T true k] {i:Nat} {E:TypeId} {cs:List GV} {y z:Value} (n:Nat) (hr:fn.results=#[.cell t T,.tmp u,.tmp s]) (he:e=.normal\/e=.ret) (hg:cB fr t=.loc i 0) (bO:Γ[i]?=some (.box E cs)) (hk:cs.length=k) (hp:qz cs=true) (fH:cB fr u=.v y) (Lr:cB fr s=.v z)
  (ha:∀ x∈Γ.drop n,x.tl=true) (h:R (.tup [.agg cs,.v y,.v z]) (Γ.drop n)):uY P fn 0 R e fr Γ :=
 ⟨he,fun B K β w l hB hI hF=>by
  obtain ⟨b,vs,D,I,h3,h4⟩:=hI.ob i _ bO
  have LB:nth l t=.pointer (some ⟨b,0,none⟩):=by
   have:=hF.nth t;rw [hg] at this;generalize nth l t=v at this
   cases this with
   | loc _ _ b' bA=>rw [D] at bA;cases bA;rfl
  have jP:l.toArray.getD t undef=.pointer (some ⟨b,0,none⟩):=by rw [jj,LB]
  have AL:=mb (P:=P) (w:=w) (t:=T) (b:=b) (o:=0) (vs:=vs) (k:=k) zfo (fun j v hj=>by
   rw [eo,cell_of_row w b j _ E (0,0) I];simpa using hj)
  have wh:l[t]?.getD undef=.pointer (some ⟨b,0,none⟩):=by simpa using jP
  have h5:bm K (l8 β ((List.range (Γ.length - n)).map (·+n))) vs cs:=h3.qz (l7 hp);have hu:nth l u=y:=Rel.gS (by rw [<-fH];exact hF.nth u);have hs:nth l s=z:=Rel.gS (by rw [<-Lr];exact hF.nth s);have EY:(Γ.drop n).length=((List.range (Γ.length - n)).map (·+n)).length/\((List.range (Γ.length - n)).map (·+n)).Nodup /\
   ∀ (j:Nat) x,(Γ.drop n)[j]?=some x->x.tl=true/\∀ i,((List.range (Γ.length - n)).map (·+n))[j]?=some i->Γ[i]?=some x:=by
   refine ⟨by simp,?_,fun j x hj=>⟨ha x (bM hj),fun i hi=>?_⟩⟩
   ·unfold List.Nodup;rw [List.pairwise_map]
    exact (List.nodup_range (n:=Γ.length - n)).imp fun bZ he=>bZ X
   ·rw [List.getElem?_drop] at hj;rw [bP] at hi
    cases hr:(List.range (Γ.length - n))[j]? with
    | none=>rw [hr] at hi;cases hi
    | some q =>
     rw [hr] at hi;cases hi;have:=(List.getElem?_range (by have:=(bh hr).1;simpa using this)).symm.trans hr;cases this;show Γ[j+n]?=some x;rw [Nat.add_comm];exact hj
  refine ⟨.tuple #[.agg vs.toArray,y,z],K,l8 β ((List.range (Γ.length - n)).map (·+n)),.tup [.agg cs,.v y,.v z],Γ.drop n,?_,hI.Qw (fun j hj=>by rw [hB] at hj;exact absurd hj (Nat.not_lt_zero j)) EY.1 EY.2.1 EY.2.2,?_,h⟩
  ·rw [<-hu,<-hs,<-jj l u,<-jj l s];exact zdo
  ·have hc:bm K (l8 β ((List.range (Γ.length - n)).map (·+n))) [.agg vs.toArray,y,z] [.agg cs,.v y,.v z]:=.cons (.agg vs cs h5.1 h5.2) (.cons (.v _) (.cons (.v _) .nil))
   exact .tup [.agg vs.toArray,y,z] _ hc.1 hc.2⟩
theorem Wk.JI {m:Nat} {fr:List GV} {Γ:List Ob} (hm:m<=Γ.length) (hA:tz Γ.length Γ=true):Wk m fr Γ (vX Γ.length fr) (Γ++[blob (cx [] (.slice none 0 0) [])]) :=
 (Wk.oD 78 5).trans (Wk.pack Γ (cx [] (.slice none 0 0) []) rfl hm A5 hA)
theorem oH.nil:oH [] (.slice none 0 0) []:=⟨⟨none,0,rfl⟩,rfl,fun i x y h=>by simp at h⟩
def FD (Γ:List Ob):List Nat->List Ob->Prop
 | [],[]=>True
 | i::r,x::xs=>(Γ[i]?=some x/\x.tl=true)/\FD Γ r xs
 | _,_=>False
theorem zn {Γ:List Ob}:∀ {aR:List Nat} {Δ:List Ob},FD Γ aR Δ->Δ.length=aR.length/\∀ (j:Nat) x,Δ[j]?=some x->x.tl=true/\∀ i,aR[j]?=some i->Γ[i]?=some x
 | [],[],_=>⟨rfl,fun j x h=>by simp at h⟩
 | i::r,x::xs,h=>by
  obtain ⟨D,I⟩:=zn h.2;refine ⟨by simp [D],fun j y hj=>?_⟩
  cases j with
  | zero=>cases hj;exact ⟨h.1.2,fun i' hi=>by cases hi;exact h.1.1⟩
  | succ j=>exact I j y ze1
 | [],_::_,h=>h.elim
 | _::_,[],h=>h.elim
theorem PG {P:Program} {fn:Func} {m:Nat} {R:GV->List Ob->Prop} {fr:List GV} {Γ:List Ob} {e:Exit} {t:Tmp} {T:TypeId} {k:Nat} [hT:Ty P T true k] {i:Nat} {E:TypeId} {cs:List GV} (aR:List Nat) (Δ:List Ob) (hr:fn.results=#[.cell t T]) (he:e=.normal\/e=.ret) (hg:cB fr t=.loc i 0) (bO:Γ[i]?=some (.box E cs)) (hk:cs.length=k) (hp:qz cs=true)
  (hs:aR.Nodup) (hm:aR.take m=List.range m) (hx:FD Γ aR Δ) (h:R (.agg cs) Δ):uY P fn m R e fr Γ :=
 ⟨he,fun B K β w l hB hI hF=>by
  obtain ⟨b,vs,D,I,h3,h4⟩:=hI.ob i _ bO
  have LB:nth l t=.pointer (some ⟨b,0,none⟩):=by
   have:=hF.nth t;rw [hg] at this;generalize nth l t=v at this
   cases this with
   | loc _ _ b' bA=>rw [D] at bA;cases bA;rfl
  have jP:l.toArray.getD t undef=.pointer (some ⟨b,0,none⟩):=by rw [jj,LB]
  have AL:=mb (P:=P) (w:=w) (t:=T) (b:=b) (o:=0) (vs:=vs) (k:=k) zfo (fun j v hj=>by
   rw [eo,cell_of_row w b j _ E (0,0) I];simpa using hj)
  have wh:l[t]?.getD undef=.pointer (some ⟨b,0,none⟩):=by simpa using jP
  have h5:bm K (l8 β aR) vs cs:=h3.qz (l7 hp);obtain ⟨x1,x2⟩:=zn hx;refine ⟨.agg vs.toArray,K,l8 β aR,.agg cs,Δ,?_,hI.Qw (fun j hj=>?_) x1 hs x2,.agg vs cs h5.1 h5.2,h⟩
  ·exact zdo
  ·rw [hB] at hj
   have Th:(aR.take m)[j]?=some j:=by rw [hm];exact List.getElem?_range hj
   rw [List.getElem?_take,ah hj] at Th
   exact Th⟩
def JP (n:Nat) (r:List GV):Bool:=match r with
 | [.v (.string b)]=>Nat.ble b.data.size n
 | _=>false
theorem RN {n m:Nat} {rows:List (List GV)} (h:rows.all (JP n)=true) (hm:m < rows.length):∃ s:ae,rows[m]?=some [.v (sv s)]/\s.length<=n:=by
 have hx:rows[m]?=some rows[m]:=ec hm;have D:=fV.1 h rows[m] (bM hx);rw [hx];generalize rows[m]=r at *;unfold JP at D;split at D
 ·rename_i b;refine ⟨b.data.toList,?_,by simpa using D⟩;rw [<-VG]
 ·cases D
section
variable {P:Program} {m:Nat} {Q:dL} {fr:List GV} {Γ:List Ob} {ops:Array Oper} {rest:List Oper} {ty:TypeId} {pos:String} {af:Array Edge}
theorem wW {g:GV}:∀ {fr:List GV} {t:Nat},jg fr t=true->cB (bN fr t g) t=g
 | [],t,h=>by cases h
 | x::fr,0,h=>rfl
 | x::fr,t+1,h=>wW (fr:=fr) (t:=t) h
theorem GL.Vz {x y:Operand} {d1 d2:Tmp} {t e t2:TypeId} [hT:nt P t e 1] [hT2:Ty P t2 false 1] {MR:TypeId} {FF:String} {CY:Array Edge} (n:Nat) {q:Nat} {rows:List (List GV)} {kk:IntKind} (hx:bg fr x=.sl 1 rows) (hy:bg fr y=.v (.int kk q)) (hr:rows.all (JP n)=true) (hq:q < rows.length) (lW:jg fr d1=true)
  (h:∀ s:ae,s.length<=n->GL P m ops Q rest (bK (bK fr (some d1) (.box [.v (sv s)] 0)) (some d2) (.v (sv s))) Γ) :
  GL P m ops Q (⟨some d1,.indexAddr t x y,ty,pos,af,none⟩::⟨some d2,.load t2 (.tmp d1),MR,FF,CY,none⟩::rest) fr Γ:=by
 obtain ⟨s,hs,hl⟩:=RN hr hq;refine GL.q (YG.fR hx hy hs) ?_;refine GL.q (YG.TN (cs:=[.v (sv s)]) (o:=0) ?_ rfl) (h s hl);exact wW lW
end
theorem YG.gP {P:Program} {fr:List GV} {Γ:List Ob} {x y:Operand} {t e:TypeId} {k:Nat} [hT:nt P t e k] (i:Nat) {v:Value} {kk:IntKind} {j E n:Nat} {rows:List (List GV)} (hx:bg fr x=.v v) (hy:bg fr y=.v (.int kk j)) (bO:Γ[i]?=some (.vech E k rows v)) (hn:rows.length=n) (hj:j < n):YG P (.indexAddr t x y) fr Γ (.vp i n k j 0):=by
 subst hn;exact YG.aM i hx hy bO hj
theorem YG.Qj {P:Program} {fr:List GV} {Γ:List Ob} {x y:Operand} {t e:TypeId} {k:Nat} [hT:nt P t e k] (i j:Nat) {v:Value} {kk:IntKind} {z:Int} {E n:Nat} {rows:List (List GV)} (hx:bg fr x=.v v) (hy:bg fr y=.v (.int kk z)) (hz:z=(j:Int)) (bO:Γ[i]?=some (.vech E k rows v)) (hn:rows.length=n) (hj:j < n):YG P (.indexAddr t x y) fr Γ (.vp i n k j 0):=by
 subst hz;exact YG.gP i hx hy bO hn hj
end Go.Xg
set_option maxHeartbeats 4000000
namespace Go.Xg
open Go.RowKit Go.Xw Go.Proofs Tryz Go.Sp Go.Im
open Go.Xp (Ar gQ)
attribute [local irreducible] GW GL GO YG GC GA bu bs
def RZ (p:RS) (gl:List ae) (rq:List Ar) (hf hn:Value) (g:GV) (Δ:List Ob):Prop :=
 ∃ q gl' ars' jX ha',p.to q/\Hd gl'.length jX/\Hd ars'.length ha'/\(q.code=0->p.i < q.i/\∀ fs aP,PB ⟨gl,rq,fs,aP⟩ p.i->PB ⟨gl',ars',fs,aP⟩ q.i) /\
  g=.agg [.v jX,.v ha',.v hf,.v hn]/\Δ=[bJ q,.vech 9 1 (jM gl') jX,.vech 98 2 (ars'.map bY) ha']
theorem A3 {p:RS} {s:ae} (hs:s≠[]) (h:(p.aI s).code=0):p.i < (p.aI s).i:=by
 rw [(qN hs h).1];exact Nat.lt_succ_self _
theorem OG (p:RS) (hp:p.ok) (hb:SB p) (gl:List ae) (rq:List Ar) (hg ha hf hn:Value) (Hg:Hd gl.length hg) (Ha:Hd rq.length ha) {nf nn:Nat} (Hf:Hd nf hf) (Hn:Hd nn hn) (u5:gl.length<=1000000) (S1:rq.length<=1000000) :
  GC prog 160 [.loc 0 0,.agg [.v hg,.v ha,.v hf,.v hn]] [bJ p,.vech 9 1 (jM gl) hg,.vech 98 2 (rq.map bY) ha] (RZ p gl rq hf hn):=by
 obtain ⟨ag,cg,rfl⟩:=Hg;obtain ⟨aa,ca,rfl⟩:=Ha;obtain ⟨af,cf,rfl⟩:=Hf;obtain ⟨an,cn,rfl⟩:=Hn;have aag:(jM gl).length=gl.length:=cU _;have Oe:(rq.map bY).length=rq.length:=cU _;have m1:=cw p gQ hp aE;have t1:=bq hp (s:=gQ) aE;have o1:=t1.ok hp;have i1:(p.aI gQ).code=0->p.i < (p.aI gQ).i:=A3 aE;generalize p.aI gQ=p1 at *;have m2:=nK p1 o1;have t2:=t1.trans (dY o1);have o2:=t2.ok hp;have nl:=nN p1
 have ne:¬ p1.code=0->¬ p1.name.2.code=0:=fun h=>by rw [zV h];exact h
 have le:=(dY o1).2.2.2;generalize p1.name=nm at *;obtain ⟨s,p2⟩:=nm;simp only at m2 t2 o2 nl ne le;have m3:=cO p2 0 o2 aE
 by_cases hs:p2.sign 0=[91]
 ·have mq:(p2.sign 0==[91])=true:=by rw [hs];rfl
  have ar:=cW hs aE;have hz2:=ar.2;have ar:=ar.1;rw [Nat.add_zero] at ar;have dv:=o2.2;have t3:=t2.trans (cl ar);have o3:=t3.ok hp;have rB:=hb.to t3
  have li:p2.next.i=p2.i+1:=rfl
  have ls:p2.next.l=p2.l:=rfl
  have lc:p2.next.code=p2.code:=rfl
  have m4:GF prog 163 [.loc 0 0] [bJ p2.next] (.v (ii p2.next.place)) [bJ p2.next]:=iX _ o3;have t4:=t3.trans (II o3);have o4:=t4.ok hp;have hz:=Pd rB;have TP:=(II o3).2.2.2
  have fin:∀ (z:Int) (p4:RS),oZ p2.next=(z,p4)->GF prog 216 [.loc 0 0,.v (sv [93])] [bJ p4] (.tup []) [bJ (p4.aI [93])]/\GF prog 216 [.loc 0 0,.v (sv [59])] [bJ (p4.aI [93])] (.tup []) [bJ ((p4.aI [93]).aI [59])] /\
    ∀ a c n,n=rq.length->RZ p gl rq (.slice af nf cf) (.slice an nn cn) (.agg [.v (.slice ag gl.length cg),.v (.slice a (n+1) c),.v (.slice af nf cf),.v (.slice an nn cn)]) [bJ ((p4.aI [93]).aI [59]),.vech 9 1 (jM gl) (.slice ag gl.length cg),.vech 98 2 (rq.map bY++[[.v (sv s),.v (ii z)]]) (.slice a (n+1) c)]:=fun z p4 e=>by
   rw [e] at t4 o4 hz TP;simp only at t4 o4 hz TP;have t5:=t4.trans (bq o4 (s:=[93]) aE);have o5:=t5.ok hp;have t6:=t5.trans (bq o5 (s:=[59]) aE);refine ⟨cw _ _ o4 aE,cw _ _ o5 aE,?_⟩;rintro a c n rfl;refine ⟨_,gl,rq++[⟨s,z⟩],_,_,t6,⟨_,_,rfl⟩,⟨a,c,by simp⟩,fun hc=>?_,rfl,by rw [lI];rfl⟩;have a1:=A3 aE hc;have a2:=(bq o4 (s:=[93]) aE).2.2.2;have a3:=(bq o5 (s:=[59]) aE).2.2.2
   have lX:p.i < ((p4.aI [93]).aI [59]).i:=by have:=t1.2.2.2;omega
   exact ⟨lX,fun fs aP h=>h.arr ⟨s,z⟩ nl hz lX⟩
  clear t4 o4 hz TP
  cases ht:p2.l[p2.i+1]? with
  | none =>
   have hO:=nZ ht
   have hd:decide (((p2.i+1:Nat):Int) < ((p2.l.map cH).length:Int))=false:=by simp;omega
   have e:oZ p2.next=(0,p2.next.fail 7 p2.next.place):=by unfold oZ;rw [show p2.next.l[p2.next.i]?=none from ht]
   exact zao
  | some t =>
   have aaq:=(bh ht).1
   have hd:decide (((p2.i+1:Nat):Int) < ((p2.l.map cH).length:Int))=true:=by simp;omega
   have hr:=jS ht
   by_cases hk:t.kind=1
   ·have eZ:(t.kind==1)=true:=by simpa using hk
    have e:oZ p2.next=(t.n,p2.next.next):=by unfold oZ;rw [show p2.next.l[p2.next.i]?=some t from ht];simp only;rw [ah hk]
    obtain ⟨m5,m6,fin⟩:=fin _ _ e;refine aj func160 ntmps160 ?_;refine V [0] m1 ?_;refine V [0] m2 ?_;refine V [0] m3 ?_;refine aS (aC 0 24 .nil) ?_;refine bF ?_;refine aS (aC 0 12 .nil) ?_;refine bF ?_;refine V [0] m5 ?_;refine GL.qe 2 rfl rfl rfl rfl rfl rfl rfl rfl ay tL ?_;intro a c;refine zcW ?_;refine V [0] m6 ?_;refine mh ?_;exact fin _ _ _ Oe
   ·have eZ:(t.kind==1)=false:=by simpa using hk
    have e:oZ p2.next=(0,p2.next.fail 7 p2.next.place):=by unfold oZ;rw [show p2.next.l[p2.next.i]?=some t from ht];simp only;rw [ad hk]
    exact zao
 ·have mq:(p2.sign 0==[91])=false:=by
   cases h:(p2.sign 0==[91]) with
   | false=>rfl
   | true=>exact absurd (eq_of_beq h) hs
  have m4:=cw p2 [59] o2 aE;have t4:=t2.trans (bq o2 (s:=[59]) aE);refine aj func160 ntmps160 ?_;refine V [0] m1 ?_;refine V [0] m2 ?_;refine V [0] m3 ?_;refine zes ?_;intro a c;refine zcW ?_;refine V [0] m4 ?_;refine mh ?_;refine ⟨_,gl++[s],rq,_,_,t4,⟨a,c,by simp [jM]⟩,⟨_,_,rfl⟩,fun hc=>?_,rfl,by unfold jM;rw [lI];rfl⟩;have a1:=A3 aE hc;have a2:=t2.2.2.2
  have lX:p.i < (p2.aI [59]).i:=by omega
  exact ⟨lX,fun fs aP h=>h.W7 s nl lX⟩
open GV (U)
open Go.Xp (Nd T aQ fQ fv)
def X7 (p:RS) (fns:List Go.Sp.Fn) (aP:List Nd) (hg ha:Value) (g:GV) (Δ:List Ob):Prop :=
 ∃ q fns' nds' hf' u9 mT,p.to q/\Hd fns'.length hf'/\oH nds' u9 mT/\(q.code=0->p.i < q.i/\∀ gl rq,PB ⟨gl,rq,fns,aP⟩ p.i->PB ⟨gl,rq,fns',nds'⟩ q.i) /\
  g=.agg [.v hg,.v ha,.v hf',.v u9]/\Δ=[bJ q,.vech 65 3 (fns'.map br) hf',blob (cx nds' u9 mT)]
theorem Ra (p:RS) (hp:p.ok) (hb:SB p) (h6:p.l.length<=6000) (fns:List Go.Sp.Fn) (aP:List Nd) (hg ha hf hn:Value) (ns:List Value) {ng na:Nat} (Hg:Hd ng hg) (Ha:Hd na ha) (Hf:Hd fns.length hf) (Hn:oH aP hn ns) (pE:fns.length<=1000000) (Db:aP.length<=1000000) :
  GC prog 161 [.loc 0 0,.agg [.v hg,.v ha,.v hf,.v hn]] [bJ p,.vech 65 3 (fns.map br) hf,blob (cx aP hn ns)] (X7 p fns aP hg ha):=by
 obtain ⟨ag,cg,rfl⟩:=Hg;obtain ⟨aa,ca,rfl⟩:=Ha;obtain ⟨af,cf,rfl⟩:=Hf;have Xo:(fns.map br).length=fns.length:=cU _
 have Xc:=fun (t:T) (h:aQ t<=1000000)=>GC.blob (OH (aQ t) t (aD _) aP hn ns Hn X) (fun g Δ hR=>by
  obtain ⟨h',mT,-,rfl,rfl⟩:=hR
  exact ⟨A5,_,rfl⟩)
 obtain ⟨⟨an,cn,rfl⟩,VM,VN⟩:=id Hn;have m1:=cw p fv hp aE;have t1:=bq hp (s:=fv) aE;have o1:=t1.ok hp;have i1:(p.aI fv).code=0->p.i < (p.aI fv).i:=A3 aE;generalize p.aI fv=p1 at *;have m2:=nK p1 o1;have t2:=t1.trans (dY o1);have o2:=t2.ok hp;have nl:=nN p1
 have ne:¬ p1.code=0->¬ p1.name.2.code=0:=fun h=>by rw [zV h];exact h
 have ZO:=(dY o1).2.2.2;generalize p1.name=nm at *;obtain ⟨s,p2⟩:=nm;simp only at m2 t2 o2 nl ne ZO;have m3:=cw p2 [40] o2 aE;have t3:=t2.trans (bq o2 (s:=[40]) aE);have o3:=t3.ok hp
 have TY:¬ p1.code=0->¬ (p2.aI [40]).code=0:=fun h=>KH aE (ne h)
 have le3:=(bq o2 (s:=[40]) aE).2.2.2;generalize p2.aI [40]=p3 at *;have m4:=cO p3 0 o3 aE;refine aj func161 ntmps161 ?_;refine V [0] m1 ?_;refine GW.join (fun fr Γ=>fr=[.loc 0 0,U,U,.loc 3 0,.loc 4 0,.loc 5 0,U,U,U,U,U,U,U,U,U,U,U,U,U,U,U,U,U,U,U,U,U,U,U,U,U,U,U,U,U,U,U,U,U,U,U,U,U,U,U,U,U,U,U,U,U,U,U,U,U,U,U,U,U,U,U,U,U,U,U]/\Γ=[bJ p2,.vech 65 3 (fns.map br) (.slice af fns.length cf),blob (cx aP (.slice an aP.length cn) ns),.box 28 [.v (.slice ag ng cg),.v (.slice aa na ca),.v (.slice af fns.length cf),.v (.slice an aP.length cn)],.box 28 [.v (.slice none 0 0),.v (.slice none 0 0),.v (.slice none 0 0),.v (.slice none 0 0)],.box 65 [.v (sv s),.v (.slice none 0 0),.v (ii (aP.length:Nat))]]) ?_ ?_
 ·refine aS (.q 0 (aC 2 3 (.f 1 (.q 5 (.a 6 (.a 7 .nil))) 6 (.a 1 (.q 5 (.a 7 .nil)))))) ?_;refine aq ?_;refine GO.fork ?_ ?_
  ·refine ax [0] m2 ?_;exact jN
  ·refine OA rfl rfl (GL.alloc rfl ?_);refine nV ?_;refine aq ?_;refine ax [0] m2 ?_;exact jN
 rintro _ _ ⟨rfl,rfl⟩;refine ab ?_;refine V [0] m3 ?_;refine GL.wk (Wk.oD 9 1) ?_;simp only [List.cons_append,List.nil_append];refine V [0] m4 ?_
 refine GW.join (fun fr Γ=>∃ q acc a c,fr=[.loc 0 0,U,U,.loc 3 0,.loc 4 0,.loc 5 0,U,U,U,U,U,U,U,U,U,U,U,U,U,U,U,U,U,U,U,U,U,U,U,U,U,U,U,U,U,U,U,U,U,U,U,U,U,U,U,U,U,U,U,U,U,U,U,U,U,U,U,U,U,U,U,U,U,U,U]/\Γ=[bJ q,.vech 65 3 (fns.map br) (.slice af fns.length cf),blob (cx aP (.slice an aP.length cn) ns),.box 28 [.v (.slice ag ng cg),.v (.slice aa na ca),.v (.slice af fns.length cf),.v (.slice an aP.length cn)],.box 28 [.v (.slice none 0 0),.v (.slice none 0 0),.v (.slice none 0 0),.v (.slice none 0 0)],.box 65 [.v (sv s),.v (.slice a acc.length c),.v (ii (aP.length:Nat))],.vech 9 1 (jM acc) (.slice a acc.length c)] /\
  p3.to q/\acc.length+p3.i<=q.i+1/\(∀ s∈acc,s.length<=12)/\(¬ p1.code=0->¬ q.code=0)) ?_ ?_
 ·by_cases hs:p3.sign 0=[41]
  ·have mq:(!(p3.sign 0==[41]))=false:=by rw [hs];rfl
   refine ab ?_;exact ⟨_,_,Wk.aX aw,p3,[],none,0,rfl,rfl,iv o3,by simp,fun s h=>zeT,TY⟩
  ·have mq:(!(p3.sign 0==[41]))=true:=by simpa using hs
   have m5:=nK p3 o3;have t5:=dY o3;have o5:=t5.ok o3;have WG:=nN p3
   have WE:¬ p1.code=0->¬ p3.name.2.code=0:=fun h=>by rw [zV (TY h)];exact TY h
   generalize p3.name=nm at *;obtain ⟨s5,p5⟩:=nm;simp only at m5 t5 o5 WG WE;refine ab ?_;have sc:([]:List (List GV)).length=0:=rfl;refine zbp ?_;refine ax [0] m5 ?_;refine zaN ?_;refine OA rfl rfl (GL.sQ 6 (news:=[[.v (sv s5)]]) rfl rfl rfl ay rfl rfl (by refine ⟨?_,?_⟩;(· show _+1<=_;omega);(· show (_+1) * _<=_;omega)) ?_);intro a c;refine nV ?_;refine bF ?_
   refine GW.loop (fun x:Nat=>6000 - x) (fun x fr Γ=>∃ q acc a c,fr=[.loc 0 0,U,U,.loc 3 0,.loc 4 0,.loc 5 0,U,U,U,U,U,U,U,U,U,U,U,U,U,U,U,U,U,U,U,U,U,U,U,U,U,U,U,U,U,U,U,U,U,U,U,U,U,U,U,U,U,U,U,U,U,U,U,U,U,U,U,U,U,U,U,U,U,U,U]/\Γ=[bJ q,.vech 65 3 (fns.map br) (.slice af fns.length cf),blob (cx aP (.slice an aP.length cn) ns),.box 28 [.v (.slice ag ng cg),.v (.slice aa na ca),.v (.slice af fns.length cf),.v (.slice an aP.length cn)],.box 28 [.v (.slice none 0 0),.v (.slice none 0 0),.v (.slice none 0 0),.v (.slice none 0 0)],.box 65 [.v (sv s),.v (.slice a acc.length c),.v (ii (aP.length:Nat))],.vech 9 1 (jM acc) (.slice a acc.length c)] /\
    p3.to q/\acc.length+p3.i<=q.i+1/\(∀ s∈acc,s.length<=12)/\(¬ p1.code=0->¬ q.code=0)/\x=q.i) p5.i ?_ ?_
   ·exact ⟨_,_,(Wk.cut (n:=7) (fU rfl) rfl).trans (Wk.aX aw),p5,[s5],a,c,rfl,rfl,t5,by have:=t5.2.2.2;simp only [List.length_cons,List.length_nil];omega,fun s h=>by rw [mem_singleton] at h;subst h;exact WG,WE,rfl⟩
   ·rintro _ _ _ ⟨q,acc,a,c,rfl,rfl,tq,jH,lS,bZ,rfl⟩;have oq:=tq.ok o3;have m6:=cO q 0 oq aE
    have jZ:q.l.length<=6000:=by rw [tq.1,t3.1];exact h6
    have oq1:=oq.1;have zc:(jM acc).length=acc.length:=cU _
    by_cases hc:q.sign 0=[44]
    ·have de:(q.sign 0==[44])=true:=by rw [hc];rfl
     have ar:=cW hc aE;have P6:=ar.2;have ar:=ar.1;rw [Nat.add_zero] at ar;have tn:=cl ar;have on:=tn.ok oq
     have m7:GF prog 217 [.loc 0 0] [bJ q.next] (.v (sv q.next.name.1)) [bJ q.next.name.2]:=nK q.next on
     have t7:=tq.trans (tn.trans (dY on))
     have WH:=nN q.next
     have ZP:=(dY on).2.2.2
     have HL:q.next.i=q.i+1:=rfl
     have rD:=(t7.ok o3).1
     have ow:q.next.name.2.l.length<=6000:=by rw [t7.1,t3.1];exact h6
     have jY:p1.code=0:=by
      cases Int.decEq p1.code 0 with
      | isTrue h=>exact h
      | isFalse h=>exact absurd P6 (bZ h)
     generalize q.next.name=nm at *
     obtain ⟨s7,p7⟩:=nm;simp only at m7 t7 WH ZP rD ow;refine ab ?_;refine V [0] m6 ?_;refine zbp ?_;refine ax [0] m7 ?_;refine zaN ?_;refine OA rfl rfl (GL.sQ 6 (news:=[[.v (sv s7)]]) rfl rfl rfl ay rfl rfl (by refine ⟨?_,?_⟩;(· show _+1<=_;omega);(· show (_+1) * _<=_;omega)) ?_);intro a2 c2;refine nV ?_;refine bF ?_
     exact ⟨p7.i,⟨_,_,(Wk.cut (n:=7) (fU rfl) rfl).trans (Wk.aX aw),p7,acc++[s7],a2,c2,rfl,by simp [jM],t7,by rw [aJ,List.length_singleton];omega,fun s h=>by
      rcases nY h with h | h
      ·exact lS s h
      ·rw [mem_singleton] at h;subst h;exact WH,fun h=>absurd jY h,rfl⟩,by omega⟩
    ·have de:(q.sign 0==[44])=false:=by
      cases h:(q.sign 0==[44]) with
      | false=>rfl
      | true=>exact absurd (eq_of_beq h) hc
     refine ab ?_;refine V [0] m6 ?_;refine iw ?_;exact ⟨_,_,Wk.aX aw,q,acc,a,c,rfl,rfl,tq,jH,lS,bZ⟩
 ·rintro _ _ ⟨q,acc,a,c,rfl,rfl,tq,jH,lS,bZ⟩;have oq:=tq.ok o3;have m5:=cw q [41] oq aE;have t5:=tq.trans (bq oq (s:=[41]) aE);have o5:=t5.ok o3;have UA:=t3.trans t5;have ZW:=hb.to UA
  have mk:(q.aI [41]).code=0->q.code=0/\(q.aI [41]).i=q.i+1:=fun h=>by
   obtain ⟨D,I,-⟩:=qN aE h;exact ⟨I,by rw [D];rfl⟩
  generalize q.aI [41]=r at *
  have hr6:r.l.length<=6000:=by rw [UA.1];exact h6
  obtain ⟨t,v,hS⟩:=(Mb (5 * r.left+4)).1 1 r o5 (aD _)
  have HJ:r.left<=6000:=by unfold RS.left;omega
  have m6:=(WJ (5 * r.left+4)).block 1 r t v o5 X hS;have t6:=((oX (5 * r.left+4)).1 _ _ _ _ o5 (fun a d' h=>by cases h) hS);obtain ⟨bt,bz,bi⟩:=(Qu (5 * r.left+4)).1 1 r t v o5 ZW hS;have tv:=UA.trans t6;have ov:=tv.ok hp
  have hv6:v.l.length<=6000:=by rw [tv.1];exact h6
  have sf:=ov.1;have hL:=Xc t X
  have back:v.code=0->r.code=0:=fun h=>by
   cases Int.decEq r.code 0 with
   | isTrue h=>exact h
   | isFalse hr =>
    have:=Ft hr (g:=5 * r.left+4) (d:=1) X;rw [this] at hS;cases hS;exact h
  by_cases hc:v.code=0
  ·have de:(v.code==0)=true:=by simpa using hc
   refine ab ?_;refine V [0] m5 ?_;refine V [0] m6 ?_;refine dW [2] hL ?_;rintro _ _ ⟨_,⟨u9,mT,VL,rfl,rfl⟩,rfl⟩;obtain ⟨⟨R5,Se,rfl⟩,-,-⟩:=id VL;refine gg ?_;refine GL.wk (Wk.rh (i:=5) (o:=1) (j:=6) rfl rfl rfl rfl) ?_;refine zcW ?_;refine zes ?_;intro a3 c3;refine zcW ?_;refine mh ?_;have hr:=back hc;obtain ⟨P6,xz⟩:=mk hr
   have jY:p1.code=0:=by
    cases Int.decEq p1.code 0 with
    | isTrue h=>exact h
    | isFalse h=>exact absurd P6 (bZ h)
   have hi:=i1 jY
   have lX:p.i < v.i:=by omega
   refine ⟨v,fns++[⟨s,acc,aP.length⟩],aP++fQ aP.length t,_,_,mT,tv,⟨a3,c3,by rw [Xo];simp⟩,VL,fun _=>⟨lX,fun gl rq h=>h.fn ⟨s,acc,aP.length⟩ t nl lS bt acc.length (v.i - r.i) (aD _) bz X⟩,rfl,by rw [lI];rfl⟩
  ·have de:(v.code==0)=false:=by simpa using hc
   refine ab ?_;refine V [0] m5 ?_;refine V [0] m6 ?_;refine mh ?_;exact ⟨v,fns,aP,_,_,ns,tv,⟨_,_,rfl⟩,Hn,fun h=>absurd h hc,rfl,rfl⟩
def qh (p:Src) (hg ha hf hn:Value) (ns:List Value):List Ob :=
 [.vech 9 1 (jM p.globals) hg,.vech 98 2 (p.arrays.map bY) ha,.vech 65 3 (p.fns.map br) hf,blob (cx p.nodes hn ns)]
structure nu (p:Src) (hg ha hf hn:Value) (ns:List Value):Prop where
 g:Hd p.globals.length hg
 a:Hd p.arrays.length ha
 f:Hd p.fns.length hf
 n:oH p.nodes hn ns
theorem Iy:nu Dn (.slice none 0 0) (.slice none 0 0) (.slice none 0 0) (.slice none 0 0) []:=⟨⟨none,0,rfl⟩,⟨none,0,rfl⟩,⟨none,0,rfl⟩,oH.nil⟩
def Nn (g:GV) (Δ:List Ob):Prop:=∃ p hg ha hf hn ns c z,nu p hg ha hf hn ns/\cv p<=600000/\gY p/\g=.tup [.agg [.v hg,.v ha,.v hf,.v hn],.v (ii c),.v (ii z)]/\Δ=qh p hg ha hf hn ns
theorem Ru (c z:Int):Nn (.tup [.agg [.v (.slice none 0 0),.v (.slice none 0 0),.v (.slice none 0 0),.v (.slice none 0 0)],.v (ii c),.v (ii z)]) (qh Dn (.slice none 0 0) (.slice none 0 0) (.slice none 0 0) (.slice none 0 0) []) :=
 ⟨Dn,_,_,_,_,[],c,z,Iy,aY _,PB.no.num,rfl,rfl⟩
theorem FY {p:Src} {hg ha hf hn:Value} {ns:List Value}:∀ x∈qh p hg ha hf hn ns,x.tl=true:=fun x hx=>by
 unfold qh at hx;simp only [List.mem_cons,List.not_mem_nil,or_false] at hx
 rcases hx with rfl | rfl | rfl | rfl <;> rfl
theorem GW.JL {P:Program} {fn:Func} {Q:dL} {t u s:Tmp} {T:TypeId} [hT:Ty P T true 4] {i:Nat} {E:TypeId} {c z:Int} {fr:List GV} {Γ:List Ob} (hr:fn.results=#[.cell t T,.tmp u,.tmp s]) (hg:cB (vX (Γ.length+3) fr) t=.loc i 0) (hi:i < Γ.length) (bO:Γ[i]?=some (.box E [.v (.slice none 0 0),.v (.slice none 0 0),.v (.slice none 0 0),.v (.slice none 0 0)])) (fH:cB (vX (Γ.length+3) fr) u=.v (ii c)) (Lr:cB (vX (Γ.length+3) fr) s=.v (ii z))
  (hA:tz (Γ.length+3) Γ=true) (hQ:∀ fr Γ,uY P fn 0 Nn .ret fr Γ->Q .ret fr Γ):GW P 0 .ret Q fr Γ:=by
 refine GW.wk (Wk.oD 9 1) ?_;refine GW.wk (Wk.oD 98 2) ?_;refine GW.wk (Wk.oD 65 3) ?_;simp only [fF,List.cons_append,List.nil_append]
 have hl:(Γ++[Ob.vech 9 1 [] (.slice none 0 0),.vech 98 2 [] (.slice none 0 0),.vech 65 3 [] (.slice none 0 0)]).length=Γ.length+3:=by simp
 refine GW.wk (Wk.JI (aY _) (by rw [hl];show qy (below _) (Γ++_)=true;rw [Ig,show qy (below (Γ.length+3)) Γ=true from hA];rfl)) ?_;rw [hl];refine GW.ret ?_;refine hQ _ _ ?_;refine HA (k:=4) Γ.length hr (.inr rfl) hg (by rw [fF,il hi];exact bO) rfl rfl fH Lr ?_ ?_
 ·rw [fF,List.drop_left];exact FY (p:=Dn)
 ·rw [fF,List.drop_left];exact Ru c z
theorem Hb (s:ae) (hs:s.length<=1000000000000):GC prog 95 [.v (sv s)] [] Nn:=by
 refine aj func95 ntmps95 ?_;refine dW [] (UI s hs) ?_;rintro _ _ ⟨rfl,l,c,z,rfl,hL⟩;refine gg ?_
 by_cases hc:c=0
 ·subst hc;obtain ⟨HQ,Lx,HD⟩:=hL rfl;have EO:(l.map cH).length=l.length:=cU _;refine ab ?_
  refine GW.DR (fun fr Γ=>∃ q p hg ha hf hn ns,fr=[U,U,.loc 0 0,U,U,U,U,U,.loc 1 0,.loc 2 0,U,U,U,U,U,U,U,U,U,U,U,U,U,U,U,U,U,U,U,U,U,U,U,U,U,U,U,U,U,U,U,U,U,U,U,U,U,U,U,U,U,U,U,U,U,U,U,U,U,U,U,U,U,U,U,U,U,U,U,U,U,U,U,U,U,U,U]/\Γ=.box 28 [.v (.slice none 0 0),.v (.slice none 0 0),.v (.slice none 0 0),.v (.slice none 0 0)]::bJ q::.box 28 [.v hg,.v ha,.v hf,.v hn]::qh p hg ha hf hn ns /\
   nu p hg ha hf hn ns/\RS.to ⟨l,0,s.length,0,0⟩ q/\(q.code=0->PB p q.i)) ?_ ?_
  ·refine GW.loop (fun x:Nat=>x) (fun x fr Γ=>∃ q p hg ha hf hn ns,fr=[U,U,.loc 0 0,U,U,Go.Xg.eI l,U,U,.loc 1 0,.loc 2 0,U,U,U,U,U,U,U,U,U,U,U,U,U,U,U,U,U,U,U,U,U,U,U,U,U,U,U,U,U,U,U,U,U,U,U,U,U,U,U,U,U,U,U,U,U,U,U,U,U,U,U,U,U,U,U,U,U,U,U,U,U,U,U,U,U,U,U]/\Γ=.box 28 [.v (.slice none 0 0),.v (.slice none 0 0),.v (.slice none 0 0),.v (.slice none 0 0)]::bJ q::.box 28 [.v hg,.v ha,.v hf,.v hn]::qh p hg ha hf hn ns /\
    nu p hg ha hf hn ns/\RS.to ⟨l,0,s.length,0,0⟩ q/\(q.code=0->PB p q.i)/\x=if q.code=0 then 6001 - q.i else 0) 6001 ?_ ?_
   ·exact ⟨_,_,((((Wk.oD 9 1).trans (Wk.oD 98 2)).trans (Wk.oD 65 3)).trans (Wk.JI (aY _) rfl)).trans (Wk.aX aw),⟨l,0,s.length,0,0⟩,Dn,_,_,_,_,[],rfl,rfl,Iy,iv ⟨aY _,by show l.length<=_;omega⟩,fun _=>PB.no,rfl⟩
   ·rintro x _ _ ⟨q,p,hg,ha,hf,hn,ns,rfl,rfl,HG,tq,wX,hx⟩;have o0:RS.ok ⟨l,0,s.length,0,0⟩:=⟨aY _,by show l.length<=_;omega⟩;have oq:=tq.ok o0;have ZV:SB ⟨l,0,s.length,0,0⟩:=⟨HD,by show (0:Int)<=(s.length:Int)/\(s.length:Int)<=6000;omega⟩;have WI:=ZV.to tq;have jZ:q.l=l:=tq.1
    have P7:q.i<=l.length:=by have:=oq.1;rw [jZ] at this;exact this
    unfold qh;obtain ⟨Hg,Ha,Hf,Hn⟩:=HG;obtain ⟨ag,cg,rfl⟩:=id Hg;obtain ⟨aa,ca,rfl⟩:=id Ha;obtain ⟨af,cf,rfl⟩:=id Hf;obtain ⟨⟨an,cn,rfl⟩,VM,VN⟩:=id Hn
    by_cases hc:q.code=0
    ·have de:(q.code==0)=true:=by simpa using hc
     rw [ah hc] at hx
     by_cases hi:q.i < l.length
     ·have hd:decide ((q.i:Int) < ((l.map cH).length:Int))=true:=by rw [EO];simpa using hi
      have m1:=cO q 0 oq aE;have wX:=wX hc;have hw:=wX.w
      have hlen:p.globals.length<=1000000/\p.arrays.length<=1000000/\p.fns.length<=1000000/\p.nodes.length<=1000000:=by
       have:=wJ p;omega
      by_cases D:q.sign 0=gQ
      ·have cY:(q.sign 0==[105,110,116])=true:=by rw [D];rfl
       refine ab ?_;refine V [1] m1 ?_;refine dW [1,3,4] (OG q oq WI p.globals p.arrays _ _ _ _ Hg Ha Hf Hn.head hlen.1 hlen.2.1) ?_;rintro _ _ ⟨q2,Yq,WZ,_,_,t2,⟨VR,VY,rfl⟩,⟨VQ,VW,rfl⟩,Lj,rfl,rfl⟩;refine gg ?_;refine zbk ?_;refine ⟨if q2.code=0 then 6001 - q2.i else 0,⟨_,_,Wk.aX aw,q2,⟨Yq,WZ,p.fns,p.nodes⟩,_,_,_,_,ns,rfl,rfl,⟨⟨_,_,rfl⟩,⟨_,_,rfl⟩,Hf,Hn⟩,tq.trans t2,fun h=>(Lj h).2 _ _ wX,rfl⟩,?_⟩;split
       ·rename_i h;have:=(Lj h).1;omega
       ·omega
      ·have cY:(q.sign 0==[105,110,116])=false:=by
        cases h:(q.sign 0==[105,110,116]) with
        | false=>rfl
        | true=>exact absurd (eq_of_beq h) D
       by_cases I:q.sign 0=fv
       ·have qt:(q.sign 0==[102,117,110,99])=true:=by rw [I];rfl
        refine ab ?_;refine V [1] m1 ?_;refine dW [1,5,6] (Ra q oq WI (by rw [jZ];exact Lx) p.fns p.nodes _ _ _ _ ns Hg Ha Hf Hn hlen.2.2.1 hlen.2.2.2) ?_;rintro _ _ ⟨q2,W5,XW,_,_,FA,t2,⟨CY,VX,rfl⟩,⟨⟨R5,Se,rfl⟩,N2,N3⟩,Lj,rfl,rfl⟩;refine gg ?_;refine zbk ?_;refine ⟨if q2.code=0 then 6001 - q2.i else 0,⟨_,_,Wk.aX aw,q2,⟨p.globals,p.arrays,W5,XW⟩,_,_,_,_,FA,rfl,rfl,⟨Hg,Ha,⟨_,_,rfl⟩,⟨⟨_,_,rfl⟩,N2,N3⟩⟩,tq.trans t2,fun h=>(Lj h).2 _ _ wX,rfl⟩,?_⟩;split
        ·rename_i h;have:=(Lj h).1;omega
        ·omega
       ·have qt:(q.sign 0==[102,117,110,99])=false:=by
         cases h:(q.sign 0==[102,117,110,99]) with
         | false=>rfl
         | true=>exact absurd (eq_of_beq h) I
        have m2:=iX q oq;have m3:=jh q 7 q.place;have t2:=jv oq 7 q.place
        have h7:¬ (q.fail 7 q.place).code=0:=by
         unfold RS.fail;rw [ah hc];show ¬ (7:Int)=0;omega
        generalize q.fail 7 q.place=q2 at *;refine ab ?_;refine V [1] m1 ?_;refine V [1] m2 ?_;refine V [1] m3 ?_;refine zep ?_;refine ⟨0,⟨_,_,Wk.aX aw,q2,p,_,_,_,_,ns,rfl,rfl,⟨Hg,Ha,Hf,Hn⟩,tq.trans t2,fun h=>absurd h h7,by rw [ad h7]⟩,by omega⟩
     ·have hd:decide ((q.i:Int) < ((l.map cH).length:Int))=false:=by rw [EO];simpa using by omega
      exact zcQ
    ·have de:(q.code==0)=false:=by simpa using hc
     exact zcQ
  ·rintro _ _ ⟨q,p,hg,ha,hf,hn,ns,rfl,rfl,HG,tq,wX⟩;have oq:=tq.ok ⟨aY _,by show l.length<=_;omega⟩
   have P7:q.i<=l.length:=by have:=oq.1;rw [tq.1] at this;exact this
   unfold qh
   by_cases hc:q.code=0
   ·have de:(q.code != 0)=false:=by simpa using hc
    have wX:=wX hc;have hw:=wX.w;obtain ⟨Hg,Ha,Hf,Hn⟩:=HG;obtain ⟨ag,cg,rfl⟩:=id Hg;obtain ⟨aa,ca,rfl⟩:=id Ha;obtain ⟨af,cf,rfl⟩:=id Hf;obtain ⟨⟨an,cn,rfl⟩,VM,VN⟩:=id Hn
    by_cases h8:p.nodes.length<=800
    ·have SU:decide ((800:Int) < (p.nodes.length:Int))=false:=decide_eq_false X;refine ab ?_;refine CR ?_;refine HA (k:=4) 3 rfl ik rfl rfl rfl rfl rfl rfl (fun x hx=>FY (p:=p) (hg:=.slice ag p.globals.length cg) (ha:=.slice aa p.arrays.length ca) (hf:=.slice af p.fns.length cf) (hn:=.slice an p.nodes.length cn) (ns:=ns) x hx) ?_;exact ⟨p,_,_,_,_,ns,0,0,⟨Hg,Ha,Hf,Hn⟩,by omega,wX.num,rfl,rfl⟩
    ·have SU:decide ((800:Int) < (p.nodes.length:Int))=true:=decide_eq_true X;refine ab ?_;exact zaM
   ·have de:(q.code != 0)=true:=by simpa using hc
    refine ab ?_;refine aS (aC 0 9 (.a 9 (.q 10 (.q 11 .nil)))) ?_;refine bF ?_;exact zaM
 ·have de:(c != 0)=true:=by simpa using hc
  refine ab ?_;exact zaM
attribute [local irreducible] pS uE qo
theorem L1 (code:ae) (hl:code.length<=1099511627776) (c:dj) (hc:c.i<=code.length) :
  GC prog 186 [.loc 0 0] [jF code c] fun g Δ=>∃ (s:ae) (c':dj),c'.i<=code.length/\s.length<=1000000000/\g=.v (sv s)/\Δ=[jF code c']:=by
 have D:=wy code hl 2 c X hc;have b1:=yB code 2 c;have i1:=DT (code:=code) 2 hc;have e2:zo 2=25800:=rfl;have e3:zo 3=155400:=rfl;have e4:xg 2=49:=rfl;rw [e2] at b1;generalize vG code 2 c=a at *;obtain ⟨s1,c1⟩:=a;simp only at D b1 i1;have I:=HY code hl 2 c1 X i1;have b2:=lP code 2 c1;have i2:=pU (code:=code) 2 i1;rw [e4] at b2;generalize gn code 2 c1=a at *;obtain ⟨s2,c2⟩:=a;simp only at I b2 i2;have h3:=wy code hl 3 c2 X i2;have b3:=yB code 3 c2;have i3:=DT (code:=code) 3 i2;rw [e3] at b3;generalize vG code 3 c2=a at *;obtain ⟨s3,c3⟩:=a;simp only at h3 b3 i3;refine aj func186 ntmps186 ?_;refine V [0] D ?_;refine V [0] I ?_;refine V [0] h3 ?_;refine cq ?_;exact ⟨_,c3,i3,by simp only [aJ,List.length_cons,List.length_nil];omega,rfl,rfl⟩
theorem DK:GC prog 185 [] [] fun g Δ=>Δ=[]/\∃ rows,g=.sl 1 rows/\rows.length=14/\rows.all (JP 1000)=true:=by
 refine aj func185 ntmps185 ?_;refine zaj ?_;refine cq ?_;exact ⟨rfl,_,rfl,by decide +kernel,by decide +kernel⟩
def WY (code:ae) (g:GV) (Δ:List Ob):Prop:=∃ (c:dj) (p:Src) (hg ha hf hn:Value) (ns:List Value),c.i<=code.length/\nu p hg ha hf hn ns/\cv p<=600000/\gY p/\g=.agg [.v hg,.v ha,.v hf,.v hn]/\Δ=jF code c::qh p hg ha hf hn ns
theorem GP (code:ae) (hl:code.length<=1099511627776) (c:dj) (hc:c.i<=code.length) :
  GC prog 133 [.loc 0 0] [jF code c] (WY code):=by
 have D:=dB code 14 c hl hc;have r1:=cQ code c (n:=14) X;have i1:=cP (code:=code) 14 hc;generalize aW code 14 c=a at *;obtain ⟨k,c1⟩:=a;simp only at D r1 i1;obtain ⟨k,rfl⟩:∃ q:Nat,k=(q:Int):=⟨k.toNat,by omega⟩;have I:=dB code 3 c1 hl i1;have r2:=cQ code c1 (n:=3) X;have i2:=cP (code:=code) 3 i1;generalize aW code 3 c1=a at *;obtain ⟨j,c2⟩:=a;simp only at I r2 i2;have h3:=L1 code hl c2 i2;refine aj func133 ntmps133 ?_;refine dW [] DK ?_;rintro _ _ ⟨rfl,rows,rfl,zb,LD⟩;refine zc5 ?_;rw [zb];refine V [0] D ?_;refine GL.Vz 1000 rfl rfl LD (by rw [zb];omega) rfl ?_;intro s hs;refine om ?_;refine dW [] (Hb s X) ?_;rintro _ _ ⟨p,_,_,_,_,ns,z1,z2,⟨⟨ag,cg,rfl⟩,⟨aa,ca,rfl⟩,⟨af,cf,rfl⟩,⟨⟨an,cn,rfl⟩,N2,N3⟩⟩,hw,dQ,rfl,rfl⟩;refine gg ?_;unfold qh;refine ab ?_;refine V [0] I ?_
 by_cases hj:j=0
 ·have lA:(j==0)=true:=by simpa using hj
  refine ab ?_;refine dW [0] h3 ?_;rintro _ _ ⟨s2,c3,i3,jQ,rfl,rfl⟩;refine zc5 ?_;refine dW [] (Hb s2 X) ?_;rintro _ _ ⟨p2,_,_,_,_,FA,z3,z4,⟨⟨VR,VY,rfl⟩,⟨VQ,VW,rfl⟩,⟨CY,VX,rfl⟩,⟨⟨R5,Se,rfl⟩,M2,M3⟩⟩,oO,U6,rfl,rfl⟩;refine gg ?_;unfold qh;refine ab ?_;refine CR ?_;refine PG [0,7,8,9,10] (jF code c3::qh p2 (.slice VR p2.globals.length VY) (.slice VQ p2.arrays.length VW) (.slice CY p2.fns.length VX) (.slice R5 p2.nodes.length Se) FA) rfl ik rfl rfl rfl rfl aE rfl ⟨⟨rfl,rfl⟩,⟨rfl,rfl⟩,⟨rfl,rfl⟩,⟨rfl,rfl⟩,⟨rfl,rfl⟩,trivial⟩ ?_;exact ⟨c3,p2,_,_,_,_,FA,i3,⟨⟨_,_,rfl⟩,⟨_,_,rfl⟩,⟨_,_,rfl⟩,⟨⟨_,_,rfl⟩,M2,M3⟩⟩,oO,U6,rfl,rfl⟩
 ·have lA:(j==0)=false:=by simpa using hj
  refine ab ?_;refine CR ?_;refine PG [0,2,3,4,5] (jF code c2::qh p (.slice ag p.globals.length cg) (.slice aa p.arrays.length ca) (.slice af p.fns.length cf) (.slice an p.nodes.length cn) ns) rfl ik rfl rfl rfl rfl aE rfl ⟨⟨rfl,rfl⟩,⟨rfl,rfl⟩,⟨rfl,rfl⟩,⟨rfl,rfl⟩,⟨rfl,rfl⟩,trivial⟩ ?_;exact ⟨c2,p,_,_,_,_,ns,i2,⟨⟨_,_,rfl⟩,⟨_,_,rfl⟩,⟨_,_,rfl⟩,⟨⟨_,_,rfl⟩,N2,N3⟩⟩,hw,dQ,rfl,rfl⟩
end Go.Xg
