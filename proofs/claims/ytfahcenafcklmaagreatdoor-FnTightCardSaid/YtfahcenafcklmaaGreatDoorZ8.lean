/- Part 8 of proofs that are told in their last texts. -/
import Derived.Test.YtfahcenafcklmaaGreatDoorZ7
open List (flatten_cons getElem?_take)
set_option linter.unusedVariables false
set_option linter.unusedSimpArgs false
set_option maxRecDepth 100000
namespace Go.Xg
open Go.RowKit Go.Xw
open GV (U)
section
variable {B:Bs} {K:Fz} {β:Bt} {Γ:List Ob} {w:World}
def ff (β:Bt) (i:Nat) (x:Bk):Bt:=fun j=>if j=i then x else β j
theorem bD {i:Nat} {x:Bk}:ff β i x i=x:=by simp [ff]
theorem bU {i j:Nat} {x:Bk} (h:j≠i):ff β i x j=β j:=by simp [ff,h]
theorem mu {i j b:Nat} {x:Bk} (h:(ff β i x j).has b):x.has b\/(β j).has b:=by
 by_cases hj:j=i
 ·subst hj;rw [bD] at h;exact .inl h
 ·rw [bU hj] at h;exact .inr h
theorem iO {i:Nat} {x:Bk} (h:rP (β i) x):dx β (ff β i x):=fun j=>by
 by_cases hj:j=i
 ·subst hj;rw [bD];exact h
 ·rw [bU hj];exact rP.refl _
theorem bm.self {vs:List Value}:bm K β vs (vs.map .v):=⟨by simp,fun i v g D I=>by
 rw [bP,D] at I;cases I;exact .v _⟩
theorem Inv.add {w':World} {b:Nat} {vs:List Value} {cs:List GV} {E:TypeId} (h:Inv B K β Γ w) (hn:uG w w' b (.cells vs.toArray E)) (hr:bm K β vs cs) :
  Inv B K (ff β Γ.length (.fix b)) (Γ++[.box E cs]) w':=by
 have cE:β Γ.length=.no:=h.out _ (aD _);have hle:dx β (ff β Γ.length (.fix b)):=iO ze9
 have ar:∀ i b',(β i).has b'->b'≠b:=fun i b' bA=>by have:=h.lt bA;have:=hn.fresh;omega
 have hK:∀ o,K b o=none:=fun o=>by
  cases hk:K b o with
  | none=>rfl
  | some g=>have:=h.fz.lt hk;have:=hn.fresh;omega
 refine ⟨h.ext.step hn.ext (fun j hj=>hj.elim),h.kle,h.ble.trans hle,h.loc,h.fz.ext hn.ext (fun _ _ _ _ h=>h),fun i x hi=>?_,fun i hi=>?_,fun i j b' hi hj=>?_,fun i b' hi=>?_,h.kn,h.tab.step hn.ext (fun _ h=>h.elim) (cZ.refl K) (fun i b2 hi=>by rcases mu hi with D | D;(· cases D;exact .inr (by have:=hn.fresh;omega));exact .inl ⟨i,D⟩)⟩
 ·by_cases rD:i < Γ.length
  ·rw [il rD] at hi
   have bZ:i≠Γ.length:=by omega
   exact (h.ob i x hi).ext hn.ext (fun _ _ h=>h) (cZ.refl K) hle (bU bZ) (fun _ _ _ h=>h)
  ·have:i=Γ.length:=by have:=(bh hi).1;simp at this;omega
   subst this;simp at hi;subst hi;exact ⟨b,vs,bD,hn.blk,hr.mono (cZ.refl K) hle,hK⟩
 ·simp at hi;rw [bU zeM];exact h.out i zeM
 ·by_cases D:i=Γ.length <;> by_cases I:j=Γ.length
  ·omega
  ·subst D;rw [bD] at hi;rw [bU I] at hj;cases hi;exact absurd rfl (ar j _ hj)
  ·subst I;rw [bD] at hj;rw [bU D] at hi;cases hj;exact absurd rfl (ar i _ hi)
  ·exact zeD
 ·by_cases D:i=Γ.length
  ·subst D;rw [bD] at hi;cases hi;exact .inr zfI
  ·rw [bU D] at hi;exact h.own i b' hi
theorem Inv.I4 {w':World} {E k:Nat} {x:Value} {xs:List Value} {rows:List (List GV)} (h:Inv B K β Γ w) (hx:Ext gR w w') (ho:gV w' 0 E k x rows.length xs) (hf:∀ b,x.ownBlock=some b->w.heap.size<=b)
  (hr:bm K β xs rows.flatten) (hk:jk k rows):Inv B K (ff β Γ.length (.gr x rows.length)) (Γ++[.vec E k 0 rows]) w':=by
 have cE:β Γ.length=.no:=h.out _ (aD _);have hle:dx β (ff β Γ.length (.gr x rows.length)):=iO ze9
 have ar:∀ i b',(β i).has b'->x.ownBlock≠some b':=fun i b' bA he=>by have:=h.lt bA;have:=hf b' he;omega
 have hK:∀ b,x.ownBlock=some b->∀ o,K b o=none:=fun b hb o=>by
  cases hk:K b o with
  | none=>rfl
  | some g=>have:=h.fz.lt hk;have:=hf b hb;omega
 refine ⟨h.ext.step hx (fun j hj=>hj.elim),h.kle,h.ble.trans hle,h.loc,h.fz.ext hx (fun _ _ _ _ h=>h),fun i y hi=>?_,fun i hi=>?_,fun i j b' hi hj=>?_,fun i b' hi=>?_,h.kn,h.tab.step hx (fun _ h=>h.elim) (cZ.refl K) (fun i b2 hi=>by rcases mu hi with D | D;(· exact .inr (hf b2 D));exact .inl ⟨i,D⟩)⟩
 ·by_cases rD:i < Γ.length
  ·rw [il rD] at hi
   have bZ:i≠Γ.length:=by omega
   exact (h.ob i y hi).ext hx (fun _ _ h=>h) (cZ.refl K) hle (bU bZ) (fun _ _ _ h=>h)
  ·have:i=Γ.length:=by have:=(bh hi).1;simp at this;omega
   subst this;simp at hi;subst hi;exact ⟨x,xs,bD,ho,hr.mono (cZ.refl K) hle,hk,fun b hb=>⟨fun o _=>hK b hb o,fun o g ho _=>by omega⟩,aY _⟩
 ·simp at hi;rw [bU zeM];exact h.out i zeM
 ·by_cases D:i=Γ.length <;> by_cases I:j=Γ.length
  ·omega
  ·subst D;rw [bD] at hi;rw [bU I] at hj;exact absurd hi (ar j _ hj)
  ·subst I;rw [bD] at hj;rw [bU D] at hi;exact absurd hj (ar i _ hi)
  ·exact zeD
 ·by_cases D:i=Γ.length
  ·subst D;rw [bD] at hi;exact .inr (gm h.ext.size (hf b' hi))
  ·rw [bU D] at hi;exact h.own i b' hi
def lg (K:Fz) (b:Nat) (cs:List GV):Fz:=fun b' o=>if b'=b then cs[o]? else K b' o
theorem uI {b o:Nat} {cs:List GV} {g:GV} (h:cs[o]?=some g):lg K b cs b o=some g:=by simp [lg,h]
theorem Inv.tX {w':World} {b:Nat} {vs:List Value} {cs:List GV} {E:TypeId} (h:Inv B K β Γ w) (hn:uG w w' b (.cells vs.toArray E)) (hr:bm K β vs cs) (hp:∀ g∈cs,g.pc=true) :
  cZ K (lg K b cs)/\Inv B (lg K b cs) β Γ w':=by
 have SW:∀ o,K b o=none:=fun o=>by
  cases hk:K b o with
  | none=>rfl
  | some g=>have:=h.fz.lt hk;have:=hn.fresh;omega
 have hle:cZ K (lg K b cs):=fun b' o g hg=>by
  by_cases hb:b'=b
  ·subst hb;rw [SW] at hg;cases hg
  ·simp [lg,hb,hg]
 refine ⟨hle,h.ext.step hn.ext (fun j hj=>hj.elim),h.kle.trans hle,h.ble,h.loc,fun b' o g hg=>?_,fun i x hi=>?_,h.out,h.dis,h.own,fun b' o g hg=>?_,h.tab.step hn.ext (fun _ h=>h.elim) hle (fun i b2 h=>.inl ⟨i,h⟩)⟩
 ·by_cases hb:b'=b
  ·subst hb;simp [lg] at hg;obtain ⟨v,hv,iL⟩:=hr.at hg;have xv:=hp g (bM hg);exact ⟨xv,v,vT hn.blk (by simpa using hv),(iL.mono hle (dx.refl β)).pc xv⟩
  ·have jX:K b' o=some g:=by simpa [lg,hb] using hg
   obtain ⟨D,v,I,h3⟩:=h.fz b' o g jX;exact ⟨D,v,hn.ext.c I (fun h=>h),h3.mono hle (dx.refl _)⟩
 ·refine (h.ob i x hi).ext hn.ext (fun _ _ h=>h) hle (dx.refl β) rfl (fun b' o hb hk=>?_)
  have:b'≠b:=by have:=h.lt hb;have:=hn.fresh;omega
  simp [lg,this,hk]
 ·by_cases hb:b'=b
  ·exact .inr (.inr zfI)
  ·exact h.kn b' o g (by simpa [lg,hb] using hg)
theorem Inv.store {w':World} {i b:Nat} {E:TypeId} {cs KP:List GV} {UC:List Value} (h:Inv B K β Γ w) (hi:Γ[i]?=some (.box E cs)) (hb:β i=.fix b) (hs:tP w w' b UC.toArray E)
  (hr:bm K β UC KP):Inv B K β (Γ.set i (.box E KP)) w':=by
 obtain ⟨b0,vs,D,I,h3,h4⟩:=h.ob i _ hi;rw [hb] at D;cases D
 have ea:(β i).has b:=by rw [hb];exact rfl
 refine ⟨h.ext.step hs.ext (fun j hj=>?_),h.kle,h.ble,h.loc,h.fz.ext hs.ext (fun b' o g hg he=>?_),fun j x hj=>?_,fun j hj=>h.out j ze1,h.dis,h.own,h.kn,h.tab.step hs.ext (fun j hj=>⟨i,by subst hj;exact ea⟩) (cZ.refl K) (fun i b2 h=>.inl ⟨i,h⟩)⟩
 ·subst hj;exact (h.own i _ ea).symm
 ·subst he;rw [h4] at hg;cases hg
 ·rw [fq] at hj;split at hj
  ·rename_i fA;split at hj
   ·cases hj;subst fA
    exact ⟨b,UC,hb,hs.blk,hr,h4⟩
   ·cases hj
  ·rename_i fA;refine (h.ob j x hj).ext hs.ext (fun b' bA he=>?_) (cZ.refl K) (dx.refl β) rfl (fun _ _ _ h=>h);subst he;exact fA (h.dis i j _ ea bA)
def Ay (K:Fz) (x:Value) (n:Nat) (fl:List GV):Fz:=fun b o=>if x.ownBlock=some b/\o < n then fl[o]? else K b o
theorem yk {x:Value} {n b o:Nat} {fl:List GV} (D:x.ownBlock=some b) (I:o < n):Ay K x n fl b o=fl[o]?:=by unfold Ay;rw [ah ⟨D,I⟩]
theorem wb {x:Value} {n b o:Nat} {fl:List GV} (h:¬ (x.ownBlock=some b/\o < n)):Ay K x n fl b o=K b o:=by unfold Ay;rw [ad h]
theorem Az {x:Value} {n b o:Nat} {fl:List GV} {g:GV} (h:Ay K x n fl b o=some g):(x.ownBlock=some b/\o < n/\fl[o]?=some g)\/(¬ (x.ownBlock=some b/\o < n)/\K b o=some g):=by
 by_cases hc:x.ownBlock=some b/\o < n
 ·rw [yk hc.1 hc.2] at h;exact .inl ⟨hc.1,hc.2,h⟩
 ·rw [wb hc] at h;exact .inr ⟨hc,h⟩
theorem Inv.grow {w':World} {i:Nat} {E k fz:Nat} {rows news:List (List GV)} {h0 x:Value} {xs ns:List Value} (h:Inv B K β Γ w) (hi:Γ[i]?=some (.vec E k fz rows)) (hb:β i=.gr h0 rows.length)
  (th:gV w 0 E k h0 rows.length xs/\bm K β xs rows.flatten) (ho:gV w' 0 E k x (rows.length+news.length) (xs++ns)) (hx:Ext (fun b=>h0.ownBlock=some b) w w') (hf:∀ b,x.ownBlock=some b->h0.ownBlock=some b\/w.heap.size<=b)
  (hr:bm K β ns news.flatten) (hk:jk k news) (bZ:news≠[]) (pZ:∀ b,h0.ownBlock=some b->∀ o v,o < fz * k->gO w.heap b o=some v->gO w'.heap b o=some v) :
  ∃ K',cZ K K'/\dx β (ff β i (.gr x (rows++news).length))/\Inv B K' (ff β i (.gr x (rows++news).length)) (Γ.set i (.vec E k fz (rows++news))) w':=by
 obtain ⟨rA,xs',D,I,h3,h4,h5,h6⟩:=h.ob i _ hi;rw [hb] at D;cases D;clear I h3
 have hlen:news.length≠0:=fun h=>bZ (gk h)
 have hle:dx β (ff β i (.gr x (rows++news).length)):=iO (by rw [hb];exact ⟨x,_,rfl,by simp,fun he=>by rw [aJ] at he;omega⟩)
 have xl:∀ b,h0.ownBlock=some b->(β i).has b:=fun b bA=>by rw [hb];exact bA
 have Jk:rows.flatten.length=rows.length * k:=by rw [<-th.2.1];exact th.1.1
 have aaf:fz * k<=rows.flatten.length:=by rw [Jk];exact la k h6
 have C9:cZ K (Ay K x (fz * k) rows.flatten):=fun b o g hg=>by
  by_cases hc:x.ownBlock=some b/\o < fz * k
  ·rw [yk hc.1 hc.2]
   rcases hf b hc.1 with h7 | h7
   ·have Qa:o < rows.flatten.length:=by omega
    have:=(h5 b h7).2 o rows.flatten[o] hc.2 (by simp [Qa]);rw [this] at hg;cases hg;simp [Qa]
   ·have:=h.fz.lt hg;omega
  ·rw [wb hc];exact hg
 refine ⟨Ay K x (fz * k) rows.flatten,C9,hle,h.ext.step hx (fun j hj=>(h.own i j (xl j hj)).symm),h.kle.trans C9,h.ble.trans hle,h.loc,fun b o g hg=>?_,fun j y hj=>?_,fun j hj=>?_,fun j j' b hj lA=>?_,fun j b hj=>?_,fun b o g hg=>?_,h.tab.step hx (fun j hj=>⟨i,xl j hj⟩) C9 (fun j b2 hi=>by rcases mu hi with D | D;(· exact (hf b2 D).imp (fun I=>⟨i,xl b2 I⟩) id);exact .inl ⟨j,D⟩)⟩
 ·rcases Az hg with ⟨bA,y9,hg⟩ | ⟨hc,hg⟩
  ·have xv:g.pc=true:=by
    exact zdr
   obtain ⟨v,hv,iL⟩:=th.2.at hg;obtain ⟨b2,c,xD,_,_,lV⟩:=ho.cells.2 (by intro h0;have:xs=[]:=(List.append_eq_nil_iff.1 h0).1;rw [this] at hv;simp at hv)
   have dS:b2=b:=by rw [xD] at bA;cases bA;rfl
   subst dS;have ar:o < xs.length:=(bh hv).1;refine ⟨xv,v,?_,(iL.mono C9 hle).pc xv⟩;rw [<-fo];exact lV o v (by rw [il ar];exact hv)
  ·obtain ⟨hp,v,hv,iL⟩:=h.fz b o g hg;refine ⟨hp,v,?_,iL.mono C9 (dx.refl _)⟩
   by_cases h7:h0.ownBlock=some b
   ·by_cases h8:o < fz * k
    ·exact pZ b h7 o v h8 hv
    ·rw [(h5 b h7).1 o zeM] at hg;cases hg
   ·exact hx.c hv h7
 ·rw [fq] at hj;split at hj
  ·rename_i fA;split at hj
   ·cases hj;subst fA
    refine ⟨x,xs++ns,bD,by simpa using ho,?_,?_,fun b bA=>⟨fun o y9=>?_,fun o g y9 hg=>?_⟩,by simp;omega⟩
    ·rw [List.flatten_append];exact (th.2.mono C9 hle).app (hr.mono C9 hle)
    ·intro r LC
     rcases nY LC with h7 | h7
     ·exact h4 r h7
     ·exact hk r h7
    ·rw [wb zeM]
     rcases hf b bA with h7 | h7
     ·exact (h5 b h7).1 o y9
     ·cases eZ:K b o with
      | none=>rfl
      | some g=>have:=h.fz.lt eZ;omega
    ·rw [yk bA y9];rw [List.flatten_append,il zeM] at hg;exact hg
   ·cases hj
  ·rename_i fA;refine (h.ob j y hj).ext hx (fun b bA he=>?_) C9 hle (bU (fun he=>fA he.symm)) (fun b o bA eZ=>?_)
   ·exact fA (h.dis i j b (xl b he) bA)
   ·rw [wb];exact eZ;rintro ⟨h7,_⟩
    rcases hf b h7 with h8 | h8
    ·exact fA (h.dis i j b (xl b h8) bA)
    ·have:=h.lt bA;omega
 ·have lA:Γ.length<=j:=by simpa using hj
  have:i < Γ.length:=(bh hi).1;rw [bU zeM];exact h.out j lA
 ·have key:∀ j b,j≠i->(β j).has b->x.ownBlock≠some b:=fun j b zJ bA he=>by
   rcases hf b he with h7 | h7
   ·exact zJ (h.dis j i b bA (xl b h7))
   ·have:=h.lt bA;omega
  by_cases D:j=i <;> by_cases I:j'=i
  ·omega
  ·subst D;rw [bD] at hj;rw [bU I] at lA;exact absurd hj (key j' b I lA)
  ·subst I;rw [bD] at lA;rw [bU D] at hj;exact absurd lA (key j b D hj)
  ·rw [bU D] at hj;rw [bU I] at lA;exact h.dis j j' b hj lA
 ·by_cases D:j=i
  ·subst D;rw [bD] at hj
   rcases hf b hj with h7 | h7
   ·exact h.own j b (xl b h7)
   ·exact .inr (gm h.ext.size h7)
  ·rw [bU D] at hj;exact h.own j b hj
 ·rcases Az hg with ⟨bA,_,_⟩ | ⟨_,hg⟩
  ·rcases hf b bA with h7 | h7
   ·exact .inr (h.own i b (xl b h7))
   ·exact .inr (.inr (gm h.ext.size h7))
  ·exact h.kn b o g hg
theorem Inv.kG {i E k fz:Nat} {rows:List (List GV)} (h:Inv B K β Γ w) (hi:Γ[i]?=some (.vec E k fz rows)) :
  ∃ K',cZ K K'/\(∀ x b,β i=.gr x rows.length->x.ownBlock=some b->∀ (o:Nat) g,rows.flatten[o]?=some g->K' b o=some g)/\Inv B K' β (Γ.set i (.vec E k rows.length rows)) w:=by
 obtain ⟨x,xs,D,I,h3,h4,h5,h6⟩:=h.ob i _ hi
 have Jk:rows.flatten.length=rows.length * k:=by rw [<-h3.1];exact I.1
 have ea:∀ b,x.ownBlock=some b->(β i).has b:=fun b hb=>by rw [D];exact hb
 have hle:cZ K (Ay K x (rows.length * k) rows.flatten):=fun b o g hg=>by
  by_cases hc:x.ownBlock=some b/\o < rows.length * k
  ·rw [yk hc.1 hc.2]
   have ar:o < rows.flatten.length:=by omega
   by_cases ho:o < fz * k
   ·have:=(h5 b hc.1).2 o rows.flatten[o] ho (by simp [ar]);rw [this] at hg;cases hg;simp [ar]
   ·rw [(h5 b hc.1).1 o zeM] at hg;cases hg
  ·rw [wb hc];exact hg
 refine ⟨Ay K x (rows.length * k) rows.flatten,hle,fun x' b HS hb o g hg=>?_,h.ext,h.kle.trans hle,h.ble,h.loc,fun b o g hg=>?_,fun j y hj=>?_,fun j hj=>h.out j ze1,h.dis,h.own,fun b o g hg=>?_,h.tab.step (S:=gR) (Ext.refl w) (fun _ h=>h.elim) hle (fun i b2 h=>.inl ⟨i,h⟩)⟩
 ·rw [D] at HS;cases HS;rw [yk hb (by rw [<-Jk];exact (bh hg).1)];exact hg
 ·rcases Az hg with ⟨bA,y9,hg⟩ | ⟨hc,hg⟩
  ·have xv:g.pc=true:=by
    exact zdr
   obtain ⟨v,hv,iL⟩:=h3.at hg;obtain ⟨b2,c,xD,_,_,lV⟩:=I.cells.2 (by intro h0;rw [h0] at hv;simp at hv)
   have dS:b2=b:=by rw [xD] at bA;cases bA;rfl
   subst dS;exact ⟨xv,v,by rw [<-fo];exact lV o v hv,(iL.mono hle (dx.refl β)).pc xv⟩
  ·obtain ⟨h7,v,h8,h9⟩:=h.fz b o g hg;exact ⟨h7,v,h8,h9.mono hle (dx.refl _)⟩
 ·rw [fq] at hj;split at hj
  ·rename_i fA;split at hj
   ·cases hj;subst fA
    refine ⟨x,xs,D,I,h3.mono hle (dx.refl β),h4,fun b hb=>⟨fun o ho=>?_,fun o g ho hg=>?_⟩,aD _⟩
    ·rw [wb zeM];exact (h5 b hb).1 o (gm (la k h6) ho)
    ·rw [yk hb ho];exact hg
   ·cases hj
  ·rename_i fA;refine (h.ob j y hj).ext (Ext.refl w) (fun _ _ h=>h) hle (dx.refl β) rfl (fun b o bA eZ=>?_) (S:=gR);rw [wb];exact eZ;rintro ⟨h7,_⟩;exact fA (h.dis i j b (ea b h7) bA)
 ·rcases Az hg with ⟨bA,_,_⟩ | ⟨_,hg⟩
  ·exact .inr (h.own i b (ea b bA))
  ·exact h.kn b o g hg
end
mutual
def dU (f:Nat->Nat):GV->GV
 | .v x=>.v x
 | .U=>.U
 | .agg cs=>.agg (l9 f cs)
 | .tup cs=>.tup (l9 f cs)
 | .sl k rows=>.sl k rows
 | .box cs o=>.box cs o
 | .loc i o=>.loc (f i) o
 | .vec i n=>.vec (f i) n
 | .vp i n k idx off=>.vp (f i) n k idx off
 | .arr i o n=>.arr (f i) o n
 | .fn g a c=>.fn g (l9 f a) (l9 f c)
def l9 (f:Nat->Nat):List GV->List GV
 | []=>[]
 | g::gs=>dU f g::l9 f gs
end
theorem kh (f:Nat->Nat) (gs:List GV):l9 f gs=gs.map (dU f):=by
 induction gs with
 | nil=>rfl
 | cons g gs ih=>simp [l9,ih]
theorem Rel.Bq {K:Fz} {β:Bt} {f:Nat->Nat} {x:Value} {g:GV} (h:Rel K (fun j=>β (f j)) x g):Rel K β x (dU f g):=by
 induction h with
 | v x=>exact .v x
 | U x=>exact .U x
 | agg vs cs hl h ih =>
  rw [dU,kh]
  refine .agg vs _ zeQ fun i v g D I=>?_
  rw [bP] at I
  cases hc:cs[i]? with
  | none=>rw [hc] at I;cases I
  | some c=>rw [hc] at I;cases I;exact ih i v c D hc
 | tup vs cs hl h ih =>
  rw [dU,kh]
  refine .tup vs _ zeQ fun i v g D I=>?_
  rw [bP] at I
  cases hc:cs[i]? with
  | none=>rw [hc] at I;cases I
  | some c=>rw [hc] at I;cases I;exact ih i v c D hc
 | sl0 a c k=>exact .sl0 a c k
 | sl b o c k rows h hc=>exact .sl b o c k rows h hc
 | box b o' o cs h=>exact .box b o' o cs h
 | loc i o b h=>exact .loc _ o b h
 | vec i n a c h=>exact .vec _ n a c h
 | vp i n k idx off x h=>exact .vp _ n k idx off x h
 | arr i o n b c h=>exact .arr _ o n b c h
 | fn g xs ys first cap hl jA h h' ih ve =>
  rw [dU,kh,kh];refine .fn g xs ys _ _ zeQ (by simpa using jA) (fun i v g D I=>?_) (fun i v g D I=>?_)
  ·rw [bP] at I
   cases hc:first[i]? with
   | none=>rw [hc] at I;cases I
   | some c=>rw [hc] at I;cases I;exact ih i v c D hc
  ·rw [bP] at I
   cases hc:cap[i]? with
   | none=>rw [hc] at I;cases I
   | some c=>rw [hc] at I;cases I;exact ve i v c D hc
theorem Rel.A7 {K:Fz} {β:Bt} {f:Nat->Nat} {x:Value} {g:GV} (h:Rel K β x (dU f g)):Rel K (fun j=>β (f j)) x g:=by
 generalize he:dU f g=g' at h
 induction h generalizing g with
 | v x =>
  cases g <;> simp only [dU] at he <;> first | (cases he;done) | skip
  cases he;exact .v x
 | U x =>
  cases g <;> simp only [dU] at he <;> first | (cases he;done) | skip
  exact .U x
 | agg vs cs hl h ih =>
  cases g <;> simp only [dU] at he <;> first | (cases he;done) | skip
  rename_i ds;rw [kh] at he;cases he
  exact .agg vs ds zeQ fun i v g D I=>ih i v (dU f g) D zfx rfl
 | tup vs cs hl h ih =>
  cases g <;> simp only [dU] at he <;> first | (cases he;done) | skip
  rename_i ds;rw [kh] at he;cases he
  exact .tup vs ds zeQ fun i v g D I=>ih i v (dU f g) D zfx rfl
 | sl0 a c k =>
  cases g <;> simp only [dU] at he <;> first | (cases he;done) | skip
  cases he;exact .sl0 a c _
 | sl b o c k rows h hc =>
  cases g <;> simp only [dU] at he <;> first | (cases he;done) | skip
  cases he;exact .sl b o c k rows h hc
 | box b o' o cs h =>
  cases g <;> simp only [dU] at he <;> first | (cases he;done) | skip
  cases he;exact .box b o' o cs h
 | loc i o b h =>
  cases g <;> simp only [dU] at he <;> first | (cases he;done) | skip
  cases he;exact .loc _ o b h
 | vec i n a c h =>
  cases g <;> simp only [dU] at he <;> first | (cases he;done) | skip
  cases he;exact .vec _ n a c h
 | vp i n k idx off x h =>
  cases g <;> simp only [dU] at he <;> first | (cases he;done) | skip
  cases he;exact .vp _ n k idx off x h
 | arr i o n b c h =>
  cases g <;> simp only [dU] at he <;> first | (cases he;done) | skip
  cases he;exact .arr _ o n b c h
 | fn g' xs ys first cap hl jA h h' ih ve =>
  cases g <;> simp only [dU] at he <;> first | (cases he;done) | skip
  rename_i f' ds es;rw [kh,kh] at he;cases he;exact .fn _ xs ys ds es zeQ (by simpa using jA) (fun i v g D I=>ih i v (dU f g) D zfx rfl)
   (fun i v g D I=>ve i v (dU f g) D zfx rfl)
mutual
def GV.ok (p:Nat->Bool):GV->Bool
 | .loc i _=>p i
 | .vec i _=>p i
 | .vp i _ _ _ _=>p i
 | .arr i _ _=>p i
 | .agg cs=>Ds p cs
 | .tup cs=>Ds p cs
 | .fn _ a c=>Ds p a&&Ds p c
 | .v _=>true
 | .U=>true
 | .sl _ _=>true
 | .box _ _=>true
def Ds (p:Nat->Bool):List GV->Bool
 | []=>true
 | g::gs=>GV.ok p g&&Ds p gs
end
def below (n:Nat):Nat->Bool:=fun i=>Nat.blt i n
def other (n:Nat):Nat->Bool:=fun i=>!Nat.beq i n
abbrev GV.lt (n:Nat) (g:GV):Bool:=g.ok (below n)
theorem vm {p:Nat->Bool} {gs:List GV} (h:Ds p gs=true) {g:GV} (hg:g∈gs):g.ok p=true:=by
 induction gs with
 | nil=>cases hg
 | cons x gs ih =>
  simp only [Ds,au] at h
  rcases ew hg with rfl | hg
  ·exact h.1
  ·exact ih h.2 hg
theorem Rel.res {K:Fz} {β:Bt} {p:Nat->Bool} {x:Value} {g:GV} (h:Rel K β x g) (hl:g.ok p=true):Rel K (fc p β) x g:=by
 induction h with
 | v x=>exact .v x
 | U x=>exact .U x
 | agg vs cs ow h ih=>simp only [GV.ok] at hl;exact .agg vs cs ow fun i v g D I=>ih i v g D I (vm hl (bM I))
 | tup vs cs ow h ih=>simp only [GV.ok] at hl;exact .tup vs cs ow fun i v g D I=>ih i v g D I (vm hl (bM I))
 | sl0 a c k=>exact .sl0 a c k
 | sl b o c k rows h hc=>exact .sl b o c k rows h hc
 | box b o' o cs h=>exact .box b o' o cs h
 | loc i o b h=>simp only [GV.ok] at hl;exact .loc _ o b (by rw [gJ hl,h])
 | vec i m a c h=>simp only [GV.ok] at hl;exact .vec _ m a c (by rw [gJ hl];exact h)
 | vp i m k idx off x h=>simp only [GV.ok] at hl;exact .vp _ m k idx off x (by rw [gJ hl];exact h)
 | arr i o m b c h=>simp only [GV.ok] at hl;exact .arr _ o m b c (by rw [gJ hl,h])
 | fn g' xs ys first cap ow jA h h' ih ve =>
  simp only [GV.ok,au] at hl
  exact .fn _ xs ys first cap ow jA (fun i v g D I=>ih i v g D I (vm hl.1 (bM I))) (fun i v g D I=>ve i v g D I (vm hl.2 (bM I)))
def Ob.ok (p:Nat->Bool):Ob->Bool
 | .box _ cs=>Ds p cs
 | _=>true
def Ob.dU (f:Nat->Nat):Ob->Ob
 | .box E cs=>.box E (l9 f cs)
 | x=>x
def qy (p:Nat->Bool):List Ob->Bool
 | []=>true
 | x::r=>Ob.ok p x&&qy p r
abbrev tz (n:Nat) (Γ:List Ob):Bool:=qy (below n) Γ
theorem Ii {p:Nat->Bool} {gs:List Ob} (h:qy p gs=true) {g:Ob} (hg:g∈gs):g.ok p=true:=by
 induction gs with
 | nil=>cases hg
 | cons x gs ih =>
  simp only [qy,au] at h
  rcases ew hg with rfl | hg
  ·exact h.1
  ·exact ih h.2 hg
def JV (p:Nat->Bool):List GV->List GV
 | []=>[]
 | g::gs=>(match GV.ok p g with | true=>g | false=>.U)::JV p gs
abbrev vX (n:Nat) (fr:List GV):List GV:=JV (below n) fr
theorem FR.res {K:Fz} {β:Bt} {p:Nat->Bool} {fr:List GV} {l:List Value} (h:FR K β fr l):FR K (fc p β) (JV p fr) l:=by
 induction h with
 | nil=>exact .nil
 | cons h t ih =>
  rw [JV];split
  ·rename_i hl;exact .cons (h.res hl) ih
  ·exact .cons (.U _) ih
theorem jD.res {K:Fz} {β:Bt} {w:World} {p:Nat->Bool} {i:Nat} {x:Ob} (h:jD K β w i x) (hi:p i=true) (hx:x.ok p=true):jD K (fc p β) w i x:=by
 cases x with
 | gone=>simp only [jD] at h |-;rw [gJ hi,h]
 | box E cs =>
  obtain ⟨b,vs,D,I,h3,h4⟩:=h;exact ⟨b,vs,by rw [gJ hi,D],I,⟨h3.1,fun i v g h5 h6=>(h3.2 i v g h5 h6).res (vm hx (bM h6))⟩,h4⟩
 | vec E k fz rows =>
  obtain ⟨h0,xs,D,I,h3,h4,h5⟩:=h;refine ⟨h0,xs,by rw [gJ hi,D],I,⟨h3.1,fun i v g h6 h7=>(h3.2 i v g h6 h7).pc ?_⟩,h4,h5⟩;exact zaw
 | vech E k rows x =>
  obtain ⟨xs,D,I,h3,h4,h5⟩:=h;refine ⟨xs,by rw [gJ hi,D],I,⟨h3.1,fun i v g h6 h7=>(h3.2 i v g h6 h7).pc ?_⟩,h4,h5⟩;exact zaw
 | lost=>exact fun b hb=>h b (by rw [gJ hi] at hb;exact hb)
 | blk b q=>exact ⟨by rw [gJ hi,h.1],h.2⟩
 | blob q =>
  obtain ⟨g,D,I⟩:=h;exact ⟨g,by rw [gJ hi,D],I⟩
section
variable {B:Bs} {K:Fz} {β:Bt} {Γ:List Ob} {w:World}
theorem ya {n i:Nat} (h:i < n):below n i=true:=by simpa [below] using h
theorem x9 {n i:Nat} (h:n<=i):below n i=false:=by
 cases hb:below n i with
 | false=>rfl
 | true=>simp [below] at hb;omega
theorem Inv.cut {n:Nat} (h:Inv B K β Γ w) (hm:B.m<=n) (hl:tz n (Γ.take n)=true):Inv B K (fc (below n) β) (Γ.take n) w:=by
 have et:∀ i b,(fc (below n) β i).has b->(β i).has b:=fun i b hi=>by
  simp only [fc] at hi;split at hi
  ·exact hi
  ·cases hi
 refine ⟨h.ext,h.kle,fun i=>?_,h.loc,h.fz,fun i x hi=>?_,fun i hi=>?_,fun i j b hi hj=>h.dis i j b (et i b hi) (et j b hj),fun i b hi=>h.own i b (et i b hi),h.kn,h.tab.step (S:=gR) (Ext.refl w) (fun _ h=>h.elim) (cZ.refl K) (fun i b2 I=>.inl ⟨i,et i b2 I⟩)⟩
 ·by_cases lW:i < n
  ·rw [gJ (ya lW)];exact h.ble i
  ·rw [h.loc i zeM];trivial
 ·have ar:=Ii hl (bM hi);rw [getElem?_take] at hi;split at hi
  ·rename_i lW;exact (h.ob i x hi).res (ya lW) ar
  ·cases hi
 ·by_cases lW:i < n
  ·rw [gJ (ya lW)];exact h.out i (by simp at hi;omega)
  ·exact sE (x9 zeM)
theorem Ij {i:Nat}:other i i=false:=by simp [other]
theorem vn {i j:Nat} (h:j≠i):other i j=true:=by
 cases hb:Nat.beq j i with
 | false=>simp [other,hb]
 | true=>exact absurd (Nat.eq_of_beq_eq_true hb) h
theorem Inv.freeze {i:Nat} {E:TypeId} {cs:List GV} (h:Inv B K β Γ w) (hi:Γ[i]?=some (.box E cs)) (hp:∀ g∈cs,g.pc=true) (cE:qy (other i) (Γ.set i .gone)=true) (hm:B.m<=i) :
  ∃ K',cZ K K'/\(∀ b,β i=.fix b->∀ (j:Nat) g,cs[j]?=some g->K' b j=some g)/\Inv B K' (fc (other i) β) (Γ.set i .gone) w:=by
 obtain ⟨b,vs,D,I,h3,h4⟩:=h.ob i _ hi
 have ea:(β i).has b:=by rw [D];exact rfl
 have hle:cZ K (lg K b cs):=fun b' o g hg=>by
  by_cases hb:b'=b
  ·subst hb;rw [h4] at hg;cases hg
  ·simp [lg,hb,hg]
 have et:∀ j b',(fc (other i) β j).has b'->j≠i/\(β j).has b':=fun j b' hj=>by
  by_cases hji:j=i
  ·subst hji;rw [sE Ij] at hj;cases hj
  ·rw [gJ (vn hji)] at hj;exact ⟨hji,hj⟩
 refine ⟨lg K b cs,hle,fun b' bA j g hg=>?_,h.ext,h.kle.trans hle,fun j=>?_,h.loc,fun b' o g hg=>?_,fun j x hj=>?_,fun j hj=>?_,fun j j' b' hj lA=>?_,fun j b' hj=>?_,fun b' o g hg=>?_,h.tab.step (S:=gR) (Ext.refl w) (fun _ h=>h.elim) hle (fun i b2 I=>.inl ⟨i,(et i b2 I).2⟩)⟩
 ·rw [D] at bA;cases bA;exact uI hg
 ·by_cases hji:j=i
  ·subst hji;rw [h.loc j hm];trivial
  ·rw [gJ (vn hji)];exact h.ble j
 ·by_cases hb:b'=b
  ·subst hb;simp [lg] at hg;obtain ⟨v,hv,iL⟩:=h3.at hg;have xv:=hp g (bM hg);exact ⟨xv,v,vT I (by simpa using hv),(iL.mono hle (dx.refl β)).pc xv⟩
  ·have jX:K b' o=some g:=by simpa [lg,hb] using hg
   obtain ⟨h5,v,h6,h7⟩:=h.fz b' o g jX;exact ⟨h5,v,h6,h7.mono hle (dx.refl _)⟩
 ·have ei:=Ii cE (bM hj);rw [fq] at hj;split at hj
  ·rename_i fA;split at hj
   ·cases hj;subst fA;exact sE Ij
   ·cases hj
  ·rename_i fA;refine jD.res ?_ (vn (fun he=>fA he.symm)) ei;refine (h.ob j x hj).ext (Ext.refl w) (fun _ _ h=>h) hle (dx.refl β) rfl (fun b' o bA hk=>?_) (S:=gR)
   have:b'≠b:=fun he=>by subst he;exact fA (h.dis i j _ ea bA)
   simp [lg,this,hk]
 ·have:i < Γ.length:=(bh hi).1
  have lA:Γ.length<=j:=by simpa using hj
  rw [gJ (vn zeM)];exact h.out j lA
 ·exact h.dis j j' b' (et j b' hj).2 (et j' b' lA).2
 ·exact h.own j b' (et j b' hj).2
 ·by_cases hb:b'=b
  ·subst hb;exact .inr (h.own i _ ea)
  ·exact h.kn b' o g (by simpa [lg,hb] using hg)
end
abbrev dL:=Exit->List GV->List Ob->Prop
def gl (B:Bs) (Q:dL):lL:=fun e l w=>∃ K β fr Γ,Inv B K β Γ w/\FR K β fr l/\Q e fr Γ
def GW (P:Program) (m:Nat) (c:Code) (Q:dL) (fr:List GV) (Γ:List Ob):Prop :=
 ∀ B K β w l,B.m=m->Inv B K β Γ w->FR K β fr l->W P c (gl B Q) l w
def GL (P:Program) (m:Nat) (ops:Array Oper) (Q:dL) (rest:List Oper) (fr:List GV) (Γ:List Ob):Prop :=
 ∀ B K β w l,B.m=m->Inv B K β Γ w->FR K β fr l->WL P ops (gl B Q) rest l w
def bu (next:List GV->List Ob->Prop) (Q:dL):dL
 | .normal,fr,Γ=>next fr Γ
 | e,fr,Γ=>Q e fr Γ
def bs (id:Nat) (Q:dL):dL
 | .exit AU,fr,Γ=>if AU=id then Q .normal fr Γ else Q (.exit AU) fr Γ
 | e,fr,Γ=>Q e fr Γ
def Wk (m:Nat) (fr:List GV) (Γ:List Ob) (c6:List GV) (aU:List Ob):Prop :=
 ∀ B K β w l,B.m=m->Inv B K β Γ w->FR K β fr l->∃ K' bT,Inv B K' bT aU w/\FR K' bT c6 l
section
variable {P:Program} {m:Nat} {Q:dL} {fr:List GV} {Γ:List Ob} {ops:Array Oper} {rest:List Oper}
theorem Wk.trans {c6 K6:List GV} {aU IP:List Ob} (h:Wk m fr Γ c6 aU) (k:Wk m c6 aU K6 IP):Wk m fr Γ K6 IP:=fun B K β w l hm hI hF=>by
 exact zby
theorem GW.wk {c:Code} {c6:List GV} {aU:List Ob} (h:Wk m fr Γ c6 aU) (k:GW P m c Q c6 aU):GW P m c Q fr Γ:=fun B K β w l hm hI hF=>by
 exact zby
theorem GL.wk {c6:List GV} {aU:List Ob} (h:Wk m fr Γ c6 aU) (k:GL P m ops Q rest c6 aU):GL P m ops Q rest fr Γ:=fun B K β w l hm hI hF=>by
 exact zby
theorem Wk.cut {n:Nat} (hm:m<=n) (hl:tz n (Γ.take n)=true):Wk m fr Γ (vX n fr) (Γ.take n):=fun B K β w l hB hI hF =>
 ⟨K,fc (below n) β,hI.cut zeM hl,hF.res⟩
inductive tQ:List GV->List GV->Prop
 | nil:tQ [] []
 | U {f:GV} {fs gs:List GV} (h:tQ fs gs):tQ (f::fs) (.U::gs)
 | eq {f g:GV} {fs gs:List GV} (he:f=g) (h:tQ fs gs):tQ (f::fs) (g::gs)
theorem FR.X4 {K:Fz} {β:Bt} {l:List Value} {fr c6:List GV} (h:tQ fr c6) (k:FR K β fr l):FR K β c6 l:=by
 induction h generalizing l with
 | nil=>exact k
 | U h ih=>cases k with | cons k1 k2=>exact .cons (.U _) (ih k2)
 | eq he h ih=>subst he;cases k with | cons k1 k2=>exact .cons k1 (ih k2)
theorem Wk.aX {c6:List GV} (h:tQ fr c6):Wk m fr Γ c6 Γ:=fun B K β w l _ hI hF=>⟨K,β,hI,hF.X4 h⟩
theorem GW.seq {x y:Code} (h:GW P m x (bu (GW P m y Q) Q) fr Γ):GW P m (.seq x y) Q fr Γ:=fun B K β w l hm hI hF=>by
 refine W.seq (W.mono (h B K β w l hm hI hF) ?_);rintro e l w ⟨K,β,fr,Γ,hI,hF,hq⟩
 cases e with
 | normal=>exact hq B K β w l hm hI hF
 | _=>exact zcn
theorem GW.skip (h:Q .normal fr Γ):GW P m .skip Q fr Γ:=fun B K β w l hm hI hF=>W.skip ⟨K,β,fr,Γ,hI,hF,h⟩
theorem GW.exit {n:Nat} (h:Q (.exit n) fr Γ):GW P m (.exit n) Q fr Γ:=fun B K β w l hm hI hF=>W.exit ⟨K,β,fr,Γ,hI,hF,h⟩
theorem GW.ret (h:Q .ret fr Γ):GW P m .ret Q fr Γ:=fun B K β w l hm hI hF=>W.ret ⟨K,β,fr,Γ,hI,hF,h⟩
theorem GW.block {id:Nat} {c:Code} (h:GW P m c (bs id Q) fr Γ):GW P m (.block id c) Q fr Γ:=fun B K β w l hm hI hF=>by
 refine W.block (W.mono (h B K β w l hm hI hF) ?_);rintro e l w ⟨K,β,fr,Γ,hI,hF,hq⟩
 cases e with
 | exit AU =>
  simp only [bs] at hq;simp only [TK];split <;> rename_i hh
  ·rw [ah hh] at hq;exact zcn
  ·rw [ad hh] at hq;exact zcn
 | _=>exact zcn
theorem Rel.gS {K:Fz} {β:Bt} {x a:Value} (h:Rel K β x (.v a)):x=a:=by cases h;rfl
theorem FR.lO {K:Fz} {β:Bt} {l:List Value} {x:Operand} {a:Value} (h:FR K β fr l) (hx:bg fr x=.v a):Xw.ev l x=a:=Rel.gS (by rw [<-hx];exact h.ev x)
theorem GW.cond {c:Operand} {x y:Code} {t:Bool} (hc:bg fr c=.v (.bool t)) (ht:t=true->GW P m x Q fr Γ) (hf:t=false->GW P m y Q fr Γ):GW P m (.cond c x y) Q fr Γ:=fun B K β w l hm hI hF =>
 W.cond (hF.lO hc) (fun h=>ht h B K β w l hm hI hF) (fun h=>hf h B K β w l hm hI hF)
theorem Ki {c:Operand} {x y:Code} {t:Bool} (hc:bg fr c=.v (.bool t)) (ht:t=true) (h:GW P m x Q fr Γ):GW P m (.cond c x y) Q fr Γ:=GW.cond hc (fun _=>h) (fun I=>by rw [ht] at I;cases I)
theorem Kh {c:Operand} {x y:Code} {t:Bool} (hc:bg fr c=.v (.bool t)) (ht:t=false) (h:GW P m y Q fr Γ):GW P m (.cond c x y) Q fr Γ:=GW.cond hc (fun I=>by rw [ht] at I;cases I) (fun _=>h)
theorem GW.mono {c:Code} {Q':dL} (h:GW P m c Q fr Γ) (hq:∀ e fr Γ,Q e fr Γ->Q' e fr Γ):GW P m c Q' fr Γ:=fun B K β w l hm hI hF =>
 W.mono (h B K β w l hm hI hF) fun e l w ⟨K,β,fr,Γ,hI,hF,q⟩=>⟨K,β,fr,Γ,hI,hF,hq _ _ _ q⟩
def Ah (m:Nat) (K:List GV->List Ob->Prop) (fr:List GV) (Γ:List Ob):Prop:=∃ c6 aU,Wk m fr Γ c6 aU/\K c6 aU
theorem GW.loop {c:Code} {α:Type} (μ:α->Nat) (aaI:α->List GV->List Ob->Prop) (x:α) (h0:Ah m (aaI x) fr Γ)
  (round:∀ x fr Γ,aaI x fr Γ->GW P m c (bu (fun c6 aU=>∃ y,Ah m (aaI y) c6 aU/\μ y < μ x) Q) fr Γ):GW P m (.loop c) Q fr Γ:=fun B K β w l hm hI hF=>by
 obtain ⟨c6,aU,hw,h0⟩:=h0;obtain ⟨K',bT,bE,u0⟩:=hw B K β w l hm hI hF;refine W.loop μ (fun x l w=>∃ K β fr Γ,Inv B K β Γ w/\FR K β fr l/\aaI x fr Γ) x ⟨K',bT,c6,aU,bE,u0,h0⟩ ?_;rintro x l w ⟨K,β,fr,Γ,hI,hF,hi⟩;refine W.mono (round x fr Γ hi B K β w l hm hI hF) ?_;rintro e l w ⟨K,β,fr,Γ,hI,hF,hq⟩
 cases e with
 | normal =>
  obtain ⟨y,⟨c6,aU,hw,hy⟩,ar⟩:=hq;obtain ⟨K',bT,bE,u0⟩:=hw B K β w l hm hI hF;exact ⟨y,⟨K',bT,c6,aU,bE,u0,hy⟩,ar⟩
 | _=>exact zcn
theorem GW.region {id:Nat} {ol:List Oper} (h:GL P m ol.toArray Q ol fr Γ):GW P m (.region id ol.toArray false) Q fr Γ:=fun B K β w l hm hI hF=>W.region (h B K β w l hm hI hF)
theorem GL.nil (h:Q .normal fr Γ):GL P m ops Q [] fr Γ:=fun B K β w l hm hI hF=>WL.nil ⟨K,β,fr,Γ,hI,hF,h⟩
end
section
variable {next:List GV->List Ob->Prop} {Q:dL} {fr:List GV} {Γ:List Ob} {id AU:Nat}
theorem bo (h:next fr Γ):bu next Q .normal fr Γ:=h
theorem EC (h:Q (.exit id) fr Γ):bu next Q (.exit id) fr Γ:=h
theorem jW (h:Q .ret fr Γ):bu next Q .ret fr Γ:=h
theorem jb (h:Q .normal fr Γ):bs id Q .normal fr Γ:=h
theorem jV (h:Q .ret fr Γ):bs id Q .ret fr Γ:=h
theorem HB (h:Q .normal fr Γ):bs id Q (.exit id) fr Γ:=by simpa [bs] using h
end
def GC (P:Program) (f:FuncId) (gs:List GV) (Γ:List Ob) (R:GV->List Ob->Prop):Prop :=
 ∀ B K β w vs,B.m=Γ.length->Inv B K β Γ w->bm K β vs gs->nh P f vs w fun v w'=>∃ K' bT g aU,Inv B K' bT aU w'/\Rel K' bT v g/\R g aU
abbrev GF (P:Program) (f:FuncId) (gs:List GV) (Γ:List Ob) (g:GV) (aU:List Ob):Prop:=GC P f gs Γ fun x Δ=>x=g/\Δ=aU
def EB:Nat->List GV
 | 0=>[]
 | n+1=>.v undef::EB n
def xj:List GV->Nat->List GV
 | [],n=>EB n
 | a::r,n=>a::xj r (n - 1)
theorem FR.FH {K:Fz} {β:Bt} (n:Nat):FR K β (EB n) (FH n):=by
 induction n with
 | zero=>exact .nil
 | succ n ih=>exact .cons (.v _) ih
theorem FR.frame {K:Fz} {β:Bt} {vs:List Value} {gs:List GV} (h:bm K β vs gs) (n:Nat):FR K β (xj gs n) (frame vs n):=by
 induction gs generalizing vs n with
 | nil =>
  have:vs=[]:=gk h.1;subst this;exact FR.FH n
 | cons g gs ih =>
  cases vs with
  | nil=>have:=h.1;simp at this
  | cons v vs=>obtain ⟨D,I⟩:=h.oT;exact .cons D (ih I _)
def uY (P:Program) (fn:Func) (m:Nat) (R:GV->List Ob->Prop):dL:=fun e fr Γ =>
 (e=.normal\/e=.ret)/\∀ B K β w l,B.m=m->Inv B K β Γ w->FR K β fr l->∃ v K' bT g aU,(results fn l.toArray).run P w=.ok v w/\Inv B K' bT aU w/\Rel K' bT v g/\R g aU
theorem GC.enter {P:Program} {f:FuncId} {fn:Func} {c:Code} {gs:List GV} {Γ:List Ob} {R:GV->List Ob->Prop} {n:Nat} {fr:List GV}
  (hf:P.funcs[f]?=some fn) (hn:fn.ntmps=n) (hb:fn.body=some c) (hl:xj gs n=fr) (h:GW P Γ.length c (uY P fn Γ.length R) fr Γ):GC P f gs Γ R:=fun B K β w vs hm hI hF=>by
 subst hl;refine nh.enter hf hn hb rfl (W.mono (h B K β w _ hm hI (FR.frame hF n)) ?_);rintro e l w ⟨K,β,fr,Γ,hI,hF,he,hq⟩;obtain ⟨v,K',bT,g,aU,D,I,h3,h4⟩:=hq B K β w l hm hI hF
 rcases he with rfl | rfl
 ·exact ⟨v,D,K',bT,g,aU,I,h3,h4⟩
 ·exact ⟨v,D,K',bT,g,aU,I,h3,h4⟩
section
variable {P:Program} {fn:Func} {m:Nat} {R:GV->List Ob->Prop} {fr:List GV} {Γ:List Ob} {e:Exit}
theorem W6 {n:Nat} (hr:fn.results=#[]) (he:e=.normal\/e=.ret) (hm:m<=n) (hl:tz n (Γ.take n)=true) (h:R (.tup []) (Γ.take n)):uY P fn m R e fr Γ :=
 ⟨he,fun B K β w l hB hI hF=>⟨.tuple #[],K,fc (below n) β,.tup [],Γ.take n,by rw [results_none hr],hI.cut zeM hl,.tup [] [] rfl (fun i v g h=>by simp at h),h⟩⟩
theorem BW {n:Nat} {t:Tmp} {g:GV} (hr:fn.results=#[.tmp t]) (he:e=.normal\/e=.ret) (hg:cB fr t=g) (hm:m<=n) (hl:tz n (Γ.take n)=true) (u5:g.lt n=true) (h:R g (Γ.take n)):uY P fn m R e fr Γ :=
 ⟨he,fun B K β w l hB hI hF=>⟨nth l t,K,fc (below n) β,g,Γ.take n,by rw [results_tmp hr,jj],hI.cut zeM hl,by rw [<-hg] at u5 |-;exact (hF.nth t).res u5,h⟩⟩
theorem SK {n:Nat} {t u:Tmp} {g g':GV} (hr:fn.results=#[.tmp t,.tmp u]) (he:e=.normal\/e=.ret) (hg:cB fr t=g) (jX:cB fr u=g') (hm:m<=n) (hl:tz n (Γ.take n)=true) (u5:(GV.tup [g,g']).lt n=true) (h:R (.tup [g,g']) (Γ.take n)):uY P fn m R e fr Γ :=
 ⟨he,fun B K β w l hB hI hF=>⟨.tuple #[nth l t,nth l u],K,fc (below n) β,.tup [g,g'],Γ.take n,by rw [results_tmp2 hr,jj,jj],hI.cut zeM hl,by
  refine Rel.res ?_ u5;subst hg jX;have hc:bm K β [nth l t,nth l u] [cB fr t,cB fr u]:=.cons (hF.nth t) (.cons (hF.nth u) .nil)
  exact .tup [nth l t,nth l u] _ hc.1 hc.2,h⟩⟩
theorem SL {n:Nat} {t u s:Tmp} {g g' g2:GV} (hr:fn.results=#[.tmp t,.tmp u,.tmp s]) (he:e=.normal\/e=.ret) (hg:cB fr t=g) (jX:cB fr u=g') (fH:cB fr s=g2) (hm:m<=n) (hl:tz n (Γ.take n)=true) (u5:(GV.tup [g,g',g2]).lt n=true)
  (h:R (.tup [g,g',g2]) (Γ.take n)):uY P fn m R e fr Γ :=
 ⟨he,fun B K β w l hB hI hF=>⟨.tuple #[nth l t,nth l u,nth l s],K,fc (below n) β,.tup [g,g',g2],Γ.take n,by
   rw [<-jj l t,<-jj l u,<-jj l s];simp [results,hr],hI.cut zeM hl,by
  refine Rel.res ?_ u5;subst hg jX fH;have hc:bm K β [nth l t,nth l u,nth l s] [cB fr t,cB fr u,cB fr s]:=.cons (hF.nth t) (.cons (hF.nth u) (.cons (hF.nth s) .nil))
  exact .tup [nth l t,nth l u,nth l s] _ hc.1 hc.2,h⟩⟩
theorem SM {n:Nat} {t:Tmp} {T:TypeId} {k:Nat} [hT:Ty P T true k] {i:Nat} {E:TypeId} {cs:List GV} (hr:fn.results=#[.cell t T]) (he:e=.normal\/e=.ret) (hg:cB fr t=.loc i 0) (bO:Γ[i]?=some (.box E cs)) (hk:cs.length=k)
  (hm:m<=n) (hl:tz n (Γ.take n)=true) (u5:(GV.agg cs).lt n=true) (h:R (.agg cs) (Γ.take n)):uY P fn m R e fr Γ :=
 ⟨he,fun B K β w l hB hI hF=>by
  obtain ⟨b,vs,D,I,h3,h4⟩:=hI.ob i _ bO
  have hp:nth l t=.pointer (some ⟨b,0,none⟩):=by
   have:=hF.nth t;rw [hg] at this;generalize nth l t=v at this
   cases this with
   | loc _ _ b' bA=>rw [D] at bA;cases bA;rfl
  have jP:l.toArray.getD t undef=.pointer (some ⟨b,0,none⟩):=by rw [jj,hp]
  have AL:=mb (P:=P) (w:=w) (t:=T) (b:=b) (o:=0) (vs:=vs) (k:=k) zfo (fun j v hj=>by
   rw [eo,cell_of_row w b j _ E (0,0) I];simpa using hj)
  have wh:l[t]?.getD undef=.pointer (some ⟨b,0,none⟩):=by simpa using jP
  exact ⟨.agg vs.toArray,K,fc (below n) β,.agg cs,Γ.take n,by simp [results,hr,wh,asAddr,AL],hI.cut zeM hl,Rel.res (.agg vs cs h3.1 h3.2) u5,h⟩⟩
end
def YG (P:Program) (op:Op) (fr:List GV) (Γ:List Ob) (g:GV):Prop :=
 ∀ B K β w l,Inv B K β Γ w->FR K β fr l->∃ v,ep P l w op v/\Rel K β v g
section
variable {P:Program} {m:Nat} {Q:dL} {fr:List GV} {Γ:List Ob} {ops:Array Oper} {rest:List Oper} {d:Option Tmp} {op:Op} {ty:TypeId} {pos:String} {af:Array Edge}
theorem GL.q {g:GV} (hy:YG P op fr Γ g) (h:GL P m ops Q rest (bK fr d g) Γ):GL P m ops Q (⟨d,op,ty,pos,af,none⟩::rest) fr Γ:=fun B K β w l hm hI hF=>by
 obtain ⟨v,hr,hv⟩:=hy B K β w l hI hF;exact WL.v hr (h B K β w _ hm hI (hF.put d hv))
theorem r6 {c6:List GV} {aU:List Ob} (D:fr=c6) (I:Γ=aU) (h:GL P m ops Q rest c6 aU):GL P m ops Q rest fr Γ:=by subst D;subst I;exact h
theorem GN {c6:List GV} (D:fr=c6) (h:GL P m ops Q rest c6 Γ):GL P m ops Q rest fr Γ:=by subst D;exact h
theorem YG.v1 {x:Operand} {a v:Value} (hx:bg fr x=.v a) (h:∀ l w,ev l x=a->ep P l w op v):YG P op fr Γ (.v v):=fun B K β w l hI hF=>⟨v,h l w (hF.lO hx),.v v⟩
theorem YG.v2 {x y:Operand} {a b v:Value} (hx:bg fr x=.v a) (hy:bg fr y=.v b) (h:∀ l w,ev l x=a->ev l y=b->ep P l w op v):YG P op fr Γ (.v v):=fun B K β w l hI hF=>⟨v,h l w (hF.lO hx) (hF.lO hy),.v v⟩
theorem YG.mv {x:Operand}:YG P (.move x) fr Γ (bg fr x):=fun B K β w l hI hF=>⟨_,R.mv,hF.ev x⟩
theorem YG.ky {x:Operand}:YG P (.assign x) fr Γ (bg fr x):=fun B K β w l hI hF=>⟨_,R.ky,hF.ev x⟩
theorem YG.Cd {fn:Fn} {first cap:List Operand}:YG P (.makeFunc fn first.toArray cap.toArray) fr Γ (.fn fn (first.map (bg fr)) (cap.map (bg fr))):=fun B K β w l hI hF =>
 ⟨_,R.Cd,by
  have D:=hF.args first
  have I:=hF.args cap
  simpa using Rel.fn fn _ _ _ _ D.1 I.1 D.2 I.2⟩
def BX:GV->Value
 | .v x=>x
 | _=>.nilFunc
def SO (ρ:Operand->Value) (op:Op):Option Value :=
 match op with
 | .binOp _ _ _ _ _=>go ρ op
 | .unOp _ _ _=>go ρ op
 | _=>none
theorem Q7 {K:Fz} {β:Bt} {x:Value} {g:GV} (h:Rel K β x g):BX g=x\/BX g=.nilFunc:=by
 cases h <;> first | exact .inl rfl | exact .inr rfl
theorem YG.go {v:Value} (h:SO (fun x=>BX (bg fr x)) op=some v):YG P op fr Γ (.v v):=fun B K β w l hI hF=>by
 refine ⟨v,Q6 ?_,.v v⟩
 have key:∀ x,BX (bg fr x)=ev l x\/BX (bg fr x)=.nilFunc:=fun x=>Q7 (hF.ev x)
 unfold SO at h;split at h
 ·rename_i o t x y t';simp only [Xw.go] at h |-
  rcases key x with hx | hx <;> rcases key y with hy | hy <;> rw [hx,hy] at h
  ·exact h
  ·cases hv:ev l x <;> rw [hv] at h <;> cases h
  ·cases h
  ·cases h
 ·rename_i o t x;simp only [Xw.go,wa] at h |-
  rcases key x with hx | hx <;> rw [hx] at h
  ·exact h
  ·cases o <;> simp only at h <;> cases h
 ·cases h
theorem YG.Qy {c a b:Operand} {t:Bool} (hc:bg fr c=.v (.bool t)) (ht:t=true):YG P (.pick c a b) fr Γ (bg fr a):=fun B K β w l hI hF=>⟨_,R.Qy (hF.lO hc) ht,hF.ev a⟩
theorem YG.Qx {c a b:Operand} {t:Bool} (hc:bg fr c=.v (.bool t)) (ht:t=false):YG P (.pick c a b) fr Γ (bg fr b):=fun B K β w l hI hF=>⟨_,R.Qx (hF.lO hc) ht,hF.ev b⟩
theorem YG.XZ {x:Operand} {i o:Nat} (hx:bg fr x=.loc i o):YG P (.nilCheck x) fr Γ (.loc i o):=fun B K β w l hI hF=>by
 have h:=hF.ev x;rw [hx] at h;generalize hv:ev l x=v at h
 cases h with | loc _ _ b hb=>exact ⟨_,R.JK hv,.loc i o b hb⟩
theorem YG.JI {x:Operand} {cs:List GV} {o:Nat} (hx:bg fr x=.box cs o):YG P (.nilCheck x) fr Γ (.box cs o):=fun B K β w l hI hF=>by
 have h:=hF.ev x;rw [hx] at h;generalize hv:ev l x=v at h
 cases h with | box b o' _ _ hb=>exact ⟨_,R.JK hv,.box b o' o cs hb⟩
theorem YG.OR {x:Operand} {t:TypeId} [hT:pQ P t] {s:ae} (hx:bg fr x=.v (sv s)):YG P (.call ⟨.builtin .len,#[x],#[t]⟩) fr Γ (.v (ii s.length)):=YG.v1 hx fun l w h=>R.OR h
theorem YG.Ve {x:Operand} {t e:TypeId} {k:Nat} [hT:nt P t e k] {k':Nat} {rows:List (List GV)} (hx:bg fr x=.sl k' rows):YG P (.call ⟨.builtin .len,#[x],#[t]⟩) fr Γ (.v (ii rows.length)):=fun B K β w l hI hF=>by
 have h:=hF.ev x;rw [hx] at h;generalize hv:ev l x=v at h
 cases h with
 | sl0 a c=>exact ⟨_,R.JD hv,.v _⟩
 | sl b o c _ _ h _=>exact ⟨_,R.JD hv,.v _⟩
theorem YG.XS {x:Operand} {t e:TypeId} {k:Nat} [hT:nt P t e k] {i n:Nat} (hx:bg fr x=.vec i n):YG P (.call ⟨.builtin .len,#[x],#[t]⟩) fr Γ (.v (ii n)):=fun B K β w l hI hF=>by
 have h:=hF.ev x;rw [hx] at h;generalize hv:ev l x=v at h
 cases h with | vec _ _ a c h=>exact ⟨_,R.JD hv,.v _⟩
theorem YG.XR {x:Operand} {t e:TypeId} {k:Nat} [hT:nt P t e k] {a:Option Addr} {n c:Nat} (hx:bg fr x=.v (.slice a n c)):YG P (.call ⟨.builtin .len,#[x],#[t]⟩) fr Γ (.v (ii n)):=YG.v1 hx fun l w h=>R.JD h
theorem YG.mN {x y:Operand} {t t':TypeId} {a b:ae} (hx:bg fr x=.v (sv a)) (hy:bg fr y=.v (sv b)):YG P (.binOp .eql t x y t') fr Γ (.v (.bool (a==b))):=YG.v2 hx hy fun l w h k=>R.mN h k
theorem YG.mR {x y:Operand} {t t':TypeId} {a b:ae} (hx:bg fr x=.v (sv a)) (hy:bg fr y=.v (sv b)):YG P (.binOp .neq t x y t') fr Γ (.v (.bool (!(a==b)))):=YG.v2 hx hy fun l w h k=>R.mR h k
theorem YG.ia {x y:Operand} {t:TypeId} [hT:pQ P t] {s:ae} {k:IntKind} {i:Nat} {c:UInt8} (hx:bg fr x=.v (sv s)) (hy:bg fr y=.v (.int k i)) (hc:s[i]?=some c):YG P (.index t x y) fr Γ (.v (.int .u8 c.toNat)):=YG.v2 hx hy fun l w h k=>R.ia h k hc
theorem YG.add {x y:Operand} {t t':TypeId} {a b:Int} (hx:bg fr x=.v (ii a)) (hy:bg fr y=.v (ii b)) (hb : -9223372036854775808<=a+b/\a+b<=9223372036854775807):YG P (.binOp .add t x y t') fr Γ (.v (ii (a+b))):=YG.v2 hx hy fun l w h k=>R.add h k hb.1 hb.2
theorem YG.addN {x y:Operand} {t t':TypeId} {a b:Nat} (hx:bg fr x=.v (ii a)) (hy:bg fr y=.v (ii b)) (hb:a+b<=9223372036854775807):YG P (.binOp .add t x y t') fr Γ (.v (ii ((a+b:Nat):Int))):=YG.v2 hx hy fun l w h k=>R.addN h k hb
theorem YG.ja {x y:Operand} {t t':TypeId} {a:Nat} (hx:bg fr x=.v (ii a)) (hy:bg fr y=.v (ii 1)) (hb:a+1<=9223372036854775807):YG P (.binOp .add t x y t') fr Γ (.v (ii ((a+1:Nat):Int))):=YG.v2 hx hy fun l w h k=>R.ja h k hb
theorem YG.sub {x y:Operand} {t t':TypeId} {a b:Int} (hx:bg fr x=.v (ii a)) (hy:bg fr y=.v (ii b)) (hb : -9223372036854775808<=a - b/\a - b<=9223372036854775807):YG P (.binOp .sub t x y t') fr Γ (.v (ii (a - b))):=YG.v2 hx hy fun l w h k=>R.sub h k hb.1 hb.2
theorem YG.mul {x y:Operand} {t t':TypeId} {a b:Int} (hx:bg fr x=.v (ii a)) (hy:bg fr y=.v (ii b)) (hb : -9223372036854775808<=a * b/\a * b<=9223372036854775807):YG P (.binOp .mul t x y t') fr Γ (.v (ii (a * b))):=YG.v2 hx hy fun l w h k=>R.mul h k hb.1 hb.2
theorem YG.cat {x y:Operand} {t t':TypeId} {a b:ae} (hx:bg fr x=.v (sv a)) (hy:bg fr y=.v (sv b)) (hb:a.length+b.length<=9223372036854775807):YG P (.binOp .add t x y t') fr Γ (.v (sv (a++b))):=YG.v2 hx hy fun l w h k=>R.cat h k hb
theorem YG.kl {x:Operand} {t:TypeId} [hT:pQ P t] {s:ae} {lo hi:Operand} {k k':IntKind} {i j:Nat} (hx:bg fr x=.v (sv s)) (iG:bg fr lo=.v (.int k i)) (AJ:bg fr hi=.v (.int k' j)) (hb:i<=j/\j<=s.length):YG P (.slice t x (some lo) (some hi) none) fr Γ (.v (sv ((s.take j).drop i))) :=
 fun B K β w l hI hF=>⟨_,R.Pf (hF.lO hx) ⟨k,hF.lO iG⟩ ⟨k',hF.lO AJ⟩ hb.1 hb.2,.v _⟩
theorem YG.kj {x:Operand} {t:TypeId} [hT:pQ P t] {s:ae} {lo:Operand} {k:IntKind} {i:Nat} (hx:bg fr x=.v (sv s)) (iG:bg fr lo=.v (.int k i)) (hb:i<=s.length):YG P (.slice t x (some lo) none none) fr Γ (.v (sv (s.drop i))) :=
 fun B K β w l hI hF=>⟨_,by
  have:=R.Pf (P:=P) (w:=w) (l:=l) (t:=t) (lo:=some lo) (hi:=none) (i:=i) (j:=s.length) (hF.lO hx) ⟨k,hF.lO iG⟩ rfl hb (aD _);rw [iZ] at this
  exact this,.v _⟩
theorem YG.ki {x:Operand} {t:TypeId} [hT:pQ P t] {s:ae} {hi:Operand} {k:IntKind} {j:Nat} (hx:bg fr x=.v (sv s)) (AJ:bg fr hi=.v (.int k j)) (hb:j<=s.length):YG P (.slice t x none (some hi) none) fr Γ (.v (sv (s.take j))) :=
 fun B K β w l hI hF=>⟨_,R.Pf (P:=P) (w:=w) (l:=l) (t:=t) (lo:=none) (hi:=some hi) (i:=0) (j:=j) (hF.lO hx) rfl ⟨k,hF.lO AJ⟩ (aY _) hb,.v _⟩
theorem YG.ext {x:Operand} {i:Nat} {cs:List GV} {g:GV} (hx:bg fr x=.tup cs) (hg:cs[i]?=some g):YG P (.extract x i) fr Γ g:=fun B K β w l hI hF=>by
 have h:=hF.ev x;rw [hx] at h;generalize hv:ev l x=v at h
 cases h with
 | tup vs _ hl h =>
  have hi:i < vs.length:=by rw [hl];exact (bh hg).1
  exact ⟨vs[i],R.extract hv zfp,h i _ g zfp hg⟩
theorem YG.fR {x y:Operand} {t e:TypeId} {k:Nat} [hT:nt P t e k] {rows:List (List GV)} {kk:IntKind} {i:Nat} {r:List GV} (hx:bg fr x=.sl k rows) (hy:bg fr y=.v (.int kk i)) (hr:rows[i]?=some r):YG P (.indexAddr t x y) fr Γ (.box r 0):=fun B K β w l hI hF=>by
 have h:=hF.ev x;rw [hx] at h;have hi:=(bh hr).1;generalize hv:ev l x=v at h
 cases h with
 | sl0 a c=>simp at hi
 | sl b o c _ _ h _=>exact ⟨_,R.jd hv (hF.lO hy) hi,.box b (o+i * k) 0 r (h i r hr).2⟩
theorem YG.SH {x:Operand} {s:TypeId} {f off k:Nat} {agg:Bool} [hT:ft P s f off k agg] {i o:Nat} (hx:bg fr x=.loc i o):YG P (.fieldAddr s x f) fr Γ (.loc i (o+off)):=fun B K β w l hI hF=>by
 have h:=hF.ev x;rw [hx] at h;generalize hv:ev l x=v at h
 cases h with | loc _ _ b hb=>exact ⟨_,R.N7 hv,.loc i _ b hb⟩
theorem YG.SE {x:Operand} {s:TypeId} {f off k:Nat} {agg:Bool} [hT:ft P s f off k agg] {cs:List GV} {o:Nat} (hx:bg fr x=.box cs o):YG P (.fieldAddr s x f) fr Γ (.box cs (o+off)):=fun B K β w l hI hF=>by
 have h:=hF.ev x;rw [hx] at h;generalize hv:ev l x=v at h
 cases h with | box b o' _ _ hb=>exact ⟨_,R.N7 hv,by rw [iD];exact .box b o' _ cs hb⟩
theorem YG.WB {x:Operand} {t:TypeId} [hT:Ty P t false 1] {i o:Nat} {E:TypeId} {cs:List GV} {g:GV} (hx:bg fr x=.loc i o) (bO:Γ[i]?=some (.box E cs)) (hg:cs[o]?=some g):YG P (.load t x) fr Γ g:=fun B K β w l hI hF=>by
 have h:=hF.ev x;rw [hx] at h;generalize hv:ev l x=v at h
 cases h with
 | loc _ _ b hb =>
  obtain ⟨b',vs,D,I,h3,h4⟩:=hI.ob i _ bO;rw [hb] at D;cases D;obtain ⟨u,hu,hr⟩:=h3.at hg;exact ⟨u,R.ld hv (vT I (by simpa using hu)),hr⟩
theorem YG.TN {x:Operand} {t:TypeId} [hT:Ty P t false 1] {cs:List GV} {o:Nat} {g:GV} (hx:bg fr x=.box cs o) (hg:cs[o]?=some g):YG P (.load t x) fr Γ g:=fun B K β w l hI hF=>by
 have h:=hF.ev x;rw [hx] at h;generalize hv:ev l x=v at h
 cases h with
 | box b o' _ _ hb =>
  obtain ⟨hp,u,hu,hr⟩:=hI.fz _ _ _ (hb o g hg);exact ⟨u,R.ld hv hu,hr.pc hp⟩
theorem tD {k:Nat} {rows:List (List GV)} (hk:jk k rows) {i j:Nat} {r:List GV} {g:GV} (hr:rows[i]?=some r) (hg:r[j]?=some g):rows.flatten[i * k+j]?=some g:=by
 induction rows generalizing i with
 | nil=>simp at hr
 | cons a rows ih =>
  have ha:a.length=k:=(hk a (List.mem_cons_self)).1
  cases i with
  | zero =>
   cases hr;have hj:=(bh hg).1;rw [Nat.zero_mul,eo,flatten_cons,il hj];exact hg
  | succ i =>
   rw [flatten_cons,jO (by rw [ha,Nat.succ_mul];omega),ha];rw [show (i+1) * k+j - k=i * k+j by rw [Nat.succ_mul];omega];exact ih (fun r hr=>hk r (di _ hr)) (by simpa using hr)
theorem YG.OM {x:Operand} {t:TypeId} {k:Nat} [hT:Ty P t true k] {i o:Nat} {E:TypeId} {cs gs:List GV} (hx:bg fr x=.loc i o) (bO:Γ[i]?=some (.box E cs)) (hg:(cs.drop o).take k=gs) (hk:gs.length=k):YG P (.load t x) fr Γ (.agg gs):=fun B K β w l hI hF=>by
 have h:=hF.ev x;rw [hx] at h;generalize hv:ev l x=v at h
 cases h with
 | loc _ _ b hb =>
  obtain ⟨b',vs,D,I,h3,h4⟩:=hI.ob i _ bO;rw [hb] at D;cases D;have h5:=(h3.drop o).take k;rw [hg] at h5;refine ⟨.agg ((vs.drop o).take k).toArray,R.WC hv (by rw [h5.1,hk]) (fun j v hj=>?_),.agg _ _ h5.1 h5.2⟩;rw [getElem?_take] at hj;split at hj
  ·rw [List.getElem?_drop] at hj;exact vT I ze1
  ·cases hj
theorem vU {K:Fz} {β:Bt} {H:Array Obj} {b:Nat}:∀ (gs:List GV) (o:Nat),(∀ (j:Nat) g,gs[j]?=some g->∃ v,gO H b (o+j)=some v/\Rel K β v g)->∃ vs:List Value,bm K β vs gs/\∀ (j:Nat) v,vs[j]?=some v->gO H b (o+j)=some v
 | [],o,_=>⟨[],.nil,fun j v h=>by simp at h⟩
 | g::gs,o,h=>by
  obtain ⟨v,hv,hr⟩:=h 0 g rfl;obtain ⟨vs,D,I⟩:=vU gs (o+1) (fun j g' hg=>by rw [show o+1+j=o+(j+1) by omega];exact h (j+1) g' hg);refine ⟨v::vs,.cons hr D,fun j u hj=>?_⟩
  cases j with
  | zero=>cases hj;exact hv
  | succ j=>rw [show o+(j+1)=o+1+j by omega];exact I j u hj
theorem YG.TO {x:Operand} {t:TypeId} {k:Nat} [hT:Ty P t true k] {cs gs:List GV} {o:Nat} (hx:bg fr x=.box cs o) (hg:(cs.drop o).take k=gs) (hk:gs.length=k):YG P (.load t x) fr Γ (.agg gs):=fun B K β w l hI hF=>by
 have h:=hF.ev x;rw [hx] at h;generalize hv:ev l x=v at h
 cases h with
 | box b o' _ _ hb =>
  obtain ⟨vs,D,I⟩:=vU (K:=K) (β:=β) (H:=w.heap) (b:=b) gs (o'+o) (fun j g hj=>by
   have lA:cs[o+j]?=some g:=by
    rw [<-hg,getElem?_take] at hj;split at hj
    ·rw [List.getElem?_drop] at hj;exact hj
    ·cases hj
   obtain ⟨hp,u,hu,hr⟩:=hI.fz _ _ _ (hb (o+j) g lA)
   exact ⟨u,by rw [iD];exact hu,hr.pc hp⟩)
  exact ⟨.agg vs.toArray,R.WC hv (by rw [D.1,hk]) I,.agg _ _ D.1 D.2⟩
def lR:GV->Option (List GV)
 | .v x=>match JQ x with
  | true=>some [.v x]
  | false=>none
 | .agg cs=>some cs
 | .U=>none
 | .tup _=>none
 | .vp _ _ _ _ _=>none
 | .sl k rows=>some [.sl k rows]
 | .box cs o=>some [.box cs o]
 | .loc i o=>some [.loc i o]
 | .vec i n=>some [.vec i n]
 | .arr i o n=>some [.arr i o n]
 | .fn f a c=>some [.fn f a c]
def oW:List GV->Nat->List GV->List GV
 | cs,_,[]=>cs
 | cs,o,v::r=>oW (bN cs o v) (o+1) r
def yj (pl:Nat->Option (Nat × Nat)):List GV->List (Nat × GV)->Option (List GV)
 | cs,[]=>some cs
 | cs,(i,g)::r=>match pl i with
  | none=>none
  | some (o,k)=>match lR g with
   | none=>none
   | some gs=>if gs.length≠k || decide (o+gs.length > cs.length) then none else yj pl (oW cs o gs) r
theorem Rel.cells {K:Fz} {β:Bt} {x:Value} {g:GV} {gs:List GV} (h:Rel K β x g) (hg:lR g=some gs):∃ vs:List Value,x.cells=vs.toArray/\bm K β vs gs:=by
 have one:∀ {x:Value} {g:GV},Rel K β x g->x.cells=#[x]->∃ vs:List Value,x.cells=vs.toArray/\bm K β vs [g]:=fun hr hc=>⟨[_],hc,.cons hr .nil⟩
 cases h with
 | v x =>
  simp only [lR] at hg;split at hg
  ·rename_i ho;cases hg;exact one (.v _) (wG ho).1
  ·cases hg
 | U x=>cases hg
 | agg vs cs hl h=>cases hg;exact ⟨vs,rfl,hl,h⟩
 | tup vs cs hl h=>cases hg
 | sl0 a c k=>cases hg;exact one (.sl0 a c k) rfl
 | sl b o c k rows h hc=>cases hg;exact one (.sl b o c k rows h hc) rfl
 | box b o' o cs h=>cases hg;exact one (.box b o' o cs h) rfl
 | loc i o b h=>cases hg;exact one (.loc i o b h) rfl
 | vec i n a c h=>cases hg;exact one (.vec i n a c h) rfl
 | vp i n k idx off x h=>cases hg
 | arr i o n b c h=>cases hg;exact one (.arr i o n b c h) rfl
 | fn f xs ys first cap hl jA h h'=>cases hg;exact one (.fn f xs ys first cap hl jA h h') rfl
def mC:List GV->Bool
 | []=>true
 | g::gs=>g.one&&mC gs
def qz:List GV->Bool
 | []=>true
 | g::gs=>g.pc&&qz gs
theorem l7 {gs:List GV} (h:qz gs=true):∀ g∈gs,g.pc=true:=by
 induction gs with
 | nil=>intro g hg;cases hg
 | cons x gs ih =>
  simp only [qz,au] at h;intro g hg
  rcases ew hg with rfl | hg
  ·exact h.1
  ·exact ih h.2 g hg
theorem bm.mA {K:Fz} {β:Bt} {vs:List Value} {gs:List GV} (h:bm K β vs gs) (ho:mC gs=true):mA vs=true:=by
 induction gs generalizing vs with
 | nil=>have:vs=[]:=gk h.1;subst this;rfl
 | cons g gs ih =>
  cases vs with
  | nil=>have:=h.1;simp at this
  | cons v vs =>
   simp only [mC,au] at ho;obtain ⟨D,I⟩:=h.oT;have h3:=(wG (D.one ho.1)).2;have h4:=ih I ho.2;simp only [Xw.mA,List.all_cons,au] at h4 |-;exact ⟨h3,h4⟩
end
theorem bm.mc {K:Fz} {β:Bt} {us:List Value} {hs:List GV} (k:bm K β us hs):∀ {vs:List Value} {gs:List GV} (o:Nat),bm K β vs gs->bm K β (mc vs o us) (oW gs o hs):=by
 have hu:∀ {vs:List Value} {gs:List GV} (o:Nat) {v:Value} {g:GV},Rel K β v g->bm K β vs gs->bm K β (fh vs o v) (bN gs o g):=by
  intro vs
  induction vs with
  | nil =>
   intro gs o v g hv h;have:gs=[]:=gk h.1.symm;subst this;exact .nil
  | cons x vs ih =>
   intro gs o v g hv h
   cases gs with
   | nil=>have:=h.1;simp at this
   | cons y gs =>
    obtain ⟨D,I⟩:=h.oT
    cases o with
    | zero=>exact .cons hv I
    | succ o=>exact .cons D (ih o hv I)
 induction us generalizing hs with
 | nil =>
  intro vs gs o h;have:hs=[]:=gk k.1.symm;subst this;exact h
 | cons u us ih =>
  intro vs gs o h
  cases hs with
  | nil=>have:=k.1;simp at this
  | cons g hs =>
   obtain ⟨D,I⟩:=k.oT;exact ih I (o+1) (hu o D h)
theorem v7 {K:Fz} {β:Bt} {pl:Nat->Option (Nat × Nat)} {l:List Value} {fr:List GV} (hF:FR K β fr l):∀ (parts:List (Nat × Operand)) (vs:List Value) (gs cs:List GV),bm K β vs gs ->
  yj pl gs (parts.map fun x=>(x.1,bg fr x.2))=some cs->∃ us,pW pl vs (parts.map fun x=>(x.1,ev l x.2))=some us/\bm K β us cs
 | [],vs,gs,cs,h,hf=>by cases hf;exact ⟨vs,rfl,h⟩
 | (i,x)::r,vs,gs,cs,h,hf=>by
  simp only [List.map_cons,yj] at hf;simp only [List.map_cons,pW]
  cases hp:pl i with
  | none=>rw [hp] at hf;cases hf
  | some y =>
   obtain ⟨o,k⟩:=y;rw [hp] at hf;simp only at hf |-
   cases hg:lR (bg fr x) with
   | none=>rw [hg] at hf;cases hf
   | some hs =>
    rw [hg] at hf;simp only at hf;obtain ⟨us,mr,mQ⟩:=(hF.ev x).cells hg
    have fJ:(ev l x).cells.size=hs.length:=by rw [mr];simpa using mQ.1
    rw [fJ,h.1];split at hf
    ·cases hf
    ·rename_i hc;rw [ad hc]
     have kP:(ev l x).cells.toList=us:=by rw [mr]
     rw [kP];exact v7 hF r _ _ cs (mQ.mc o h) hf
section
variable {P:Program} {m:Nat} {Q:dL} {fr:List GV} {Γ:List Ob} {ops:Array Oper} {rest:List Oper} {d:Option Tmp} {op:Op} {ty:TypeId} {pos:String} {af:Array Edge}
def oy (z:List Value):List GV:=z.map .v
theorem YG.build {t:TypeId} {pl:List (Nat × Nat)} {z:List Value} [hT:tO P t pl z] {parts:List (Nat × Operand)} {cs:List GV} (hf:yj (fun i=>pl[i]?) (oy z) (parts.map fun x=>(x.1,bg fr x.2))=some cs) :
  YG P (.build t parts.toArray) fr Γ (.agg cs):=fun B K β w l hI hF=>by
 obtain ⟨us,D,I⟩:=v7 hF parts z _ cs bm.self hf;exact ⟨_,R.build D,.agg us cs I.1 I.2⟩
theorem nG {K:Fz} {β:Bt} {l:List Value} {t:Nat} (h:FR K β fr l) (ht:jg fr t=true):jg l t=true:=by
 induction h generalizing t with
 | nil=>cases ht
 | cons _ _ ih=>cases t with | zero=>rfl | succ t=>exact ih ht
theorem sC {l:List Value} {t:Nat} (h:jg l t=true) (u:Value):nth (fh l t u) t=u:=by
 induction l generalizing t with
 | nil=>cases h
 | cons x l ih=>cases t with | zero=>rfl | succ t=>exact ih h
theorem n9 {l:List Value} {t t':Nat} (h:t'≠t) (u:Value):nth (fh l t u) t'=nth l t':=by
 induction l generalizing t t' with
 | nil=>rfl
 | cons x l ih=>cases t with
  | zero=>cases t' with | zero=>exact absurd rfl h | succ t'=>rfl
  | succ t=>exact zdE
theorem GL.alloc {t:TypeId} {z:Value} {cs:List GV} [hT:sO P t z] (hz:oy z.cells.toList=cs) (h:GL P m ops Q rest (bK fr d (.loc Γ.length 0)) (Γ++[.box t cs])):GL P m ops Q (⟨d,.alloc t,ty,pos,af,none⟩::rest) fr Γ:=fun B K β w l hm hI hF=>by
 refine WL.alloc (z:=z) fun b w' hn=>?_
 have bE:=hI.add (vs:=z.cells.toList) (cs:=cs) (E:=t) zft (by rw [<-hz];exact bm.self);exact zca
theorem GL.box {t:TypeId} {x:Operand} {cs:List GV} (hx:lR (bg fr x)=some cs) (h:GL P m ops Q rest (bK fr d (.loc Γ.length 0)) (Γ++[.box t cs])):GL P m ops Q (⟨d,.box t x,ty,pos,af,none⟩::rest) fr Γ:=fun B K β w l hm hI hF=>by
 obtain ⟨vs,D,I⟩:=(hF.ev x).cells hx
 refine WL.box rfl fun b w' hn=>?_
 rw [D] at hn;have bE:=hI.add hn I;exact zca
def oset:List Ob->Nat->Ob->List Ob
 | [],_,_=>[]
 | _::l,0,x=>x::l
 | y::l,n+1,x=>y::oset l n x
theorem bG (l:List Ob) (i:Nat) (x:Ob):oset l i x=l.set i x:=by
 induction l generalizing i with
 | nil=>rfl
 | cons y l ih=>cases i with | zero=>rfl | succ i=>simp [oset,ih]
theorem xP:∀ (us:List Value) (vs:List Value) (o:Nat),uA vs.toArray o us=(mc vs o us).toArray
 | [],vs,o=>rfl
 | u::us,vs,o=>by rw [uA,mc,Bu];exact xP us _ _
theorem GL.st {x y:Operand} {t:TypeId} {agg:Bool} {k:Nat} [hT:Ty P t agg k] {i o:Nat} {E:TypeId} {cs gs:List GV} (hx:bg fr x=.loc i o) (bO:Γ[i]?=some (.box E cs)) (hy:lR (bg fr y)=some gs) (hk:gs.length=k) (D:mC gs=true)
  (hl:Nat.ble (o+k) cs.length=true) (h:GL P m ops Q rest (bK fr d (.v undef)) (oset Γ i (.box E (oW cs o gs)))):GL P m ops Q (⟨d,.store t x y,ty,pos,af,none⟩::rest) fr Γ:=fun B K β w l hm hI hF=>by
 have hr:=hF.ev x;rw [hx] at hr;generalize hv:ev l x=v at hr
 cases hr with
 | loc _ _ b hb =>
  obtain ⟨b',vs,I,h3,h4,h5⟩:=hI.ob i _ bO;rw [hb] at I;cases I;obtain ⟨us,mr,mQ⟩:=(hF.ev y).cells hy
  have jA:o+k<=cs.length:=by simpa using hl
  refine WL.st (t:=t) hv rfl h3 (by rw [mr];simpa [hk] using mQ.1) (by rw [List.size_toArray,h4.1];exact jA) (by rw [mr];simpa using mQ.mA D) fun w' hs=>?_
  rw [mr,List.toList_toArray,xP] at hs;have bE:=hI.store bO hb hs (mQ.mc o h4);rw [<-bG] at bE;exact h B K β w' _ hm bE (hF.put d (.v _))
def chunk:Nat->Nat->List GV->List (List GV)
 | 0,_,_=>[]
 | n+1,k,gs=>gs.take k::chunk n k (gs.drop k)
theorem vV {k:Nat}:∀ (n:Nat) (gs:List GV),gs.length=n * k->(chunk n k gs).flatten=gs/\(chunk n k gs).length=n/\∀ r∈chunk n k gs,r.length=k/\∀ g∈r,g∈gs
 | 0,gs,h=>by
  have:gs=[]:=gk zeO;subst this;exact ⟨rfl,rfl,fun r hr=>by cases hr⟩
 | n+1,gs,h=>by
  have hk:k<=gs.length:=by rw [h,Nat.succ_mul];omega
  obtain ⟨D,I,h3⟩:=vV (k:=k) n (gs.drop k) (by rw [jw,h,Nat.succ_mul];omega);refine ⟨by rw [chunk,flatten_cons,D,List.take_append_drop],by rw [chunk,List.length_cons,I],fun r hr=>?_⟩;rw [chunk] at hr
  rcases ew hr with rfl | hr
  ·exact ⟨by simp [hk],fun g hg=>List.mem_of_mem_take hg⟩
  ·obtain ⟨h4,h5⟩:=h3 r hr;exact ⟨h4,fun g hg=>List.mem_of_mem_drop (h5 g hg)⟩
def zs:Nat->List Value->List GV
 | 0,_=>[]
 | n+1,z=>oy z++zs n z
theorem Nh {K:Fz} {β:Bt} {n k:Nat} {z:List Value} (hz:z.length=k) (hk:0 < k):bm K β ((List.range (n * k)).map fun j=>z.getD (j % k) undef) (zs n z):=by
 induction n with
 | zero=>simpa [zs] using bm.nil
 | succ n ih =>
  have he:(List.range ((n+1) * k)).map (fun j=>z.getD (j % k) undef)=(List.range k).map (fun j=>z.getD (j % k) undef)++(List.range (n * k)).map fun j=>z.getD (j % k) undef:=by
   rw [Nat.succ_mul,Nat.add_comm,List.range_add,lI,List.map_map]
   congr 1
   apply List.map_congr_left;intro j _;simp
  rw [he,zs];refine bm.app ?_ ih
  have:(List.range k).map (fun j=>z.getD (j % k) undef)=z:=by
   apply List.ext_getElem
   ·simp [hz]
   ·intro j D I;simp at D;simp [Nat.mod_eq_of_lt D,ec I]
  rw [this];exact bm.self
theorem GL.TW {t e:TypeId} {k:Nat} {z:List Value} [hT:qp P t e k z] {n:Nat} {parts:List (Nat × Operand)} {cs:List GV} (hn:Nat.ble (n * k) 16777216=true) (hf:yj (fun i=>some (i * k,k)) (zs n z) (parts.map fun x=>(x.1,bg fr x.2))=some cs)
  (hl:Nat.beq cs.length (n * k)=true) (hp:qz cs=true) (h:GL P m ops Q rest (bK fr d (.sl k (chunk n k cs))) Γ):GL P m ops Q (⟨d,.buildSlice t n parts.toArray,ty,pos,af,none⟩::rest) fr Γ:=fun B K β w l hm hI hF=>by
 obtain ⟨us,D,I⟩:=v7 hF parts _ _ cs (Nh (n:=n) hT.zl hT.pos) hf
 have jA:cs.length=n * k:=by simpa using hl
 refine WL.Ce zft D fun b w' sd=>?_
 obtain ⟨hle,bE⟩:=hI.tX sd I (l7 hp);obtain ⟨c1,c2,c3⟩:=vV n cs jA;refine h B _ β w' _ hm bE ((hF.mono hle (dx.refl β)).put d ?_)
 have lE:jk k (chunk n k cs):=fun r hr=>⟨(c3 r hr).1,fun g hg=>l7 hp g ((c3 r hr).2 g hg)⟩
 have:=Rel.sl (K:=lg K b cs) (β:=β) b 0 n k (chunk n k cs) (fun i r hr=>⟨(lE r (bM hr)).1,fun j g hg=>by
  rw [eo];exact uI (by have:=tD lE hr hg;rw [c1] at this;exact this)⟩) (by rw [c2];exact aD _)
 rw [c2] at this;exact this
theorem GL.WD {t e:TypeId} {k:Nat} {z:List Value} [hT:qp P t e k z] {n:Nat} {parts:List (Nat × Operand)} {cs:List GV} (hn:Nat.ble (n * k) 16777216=true) (hf:yj (fun i=>some (i * k,k)) (zs n z) (parts.map fun x=>(x.1,bg fr x.2))=some cs)
  (hl:Nat.beq cs.length (n * k)=true) (hp:qz cs=true) (h:GL P m ops Q rest (bK fr d (.vec Γ.length n)) (Γ++[.vec e k 0 (chunk n k cs)])):GL P m ops Q (⟨d,.buildSlice t n parts.toArray,ty,pos,af,none⟩::rest) fr Γ:=fun B K β w l hm hI hF=>by
 obtain ⟨us,D,I⟩:=v7 hF parts _ _ cs (Nh (n:=n) hT.zl hT.pos) hf
 have jA:cs.length=n * k:=by simpa using hl
 have u9:n * k<=16777216:=by simpa using hn
 have bL:n<=16777216:=gm (Nat.le_mul_of_pos_right n hT.pos) u9
 refine WL.Ce u9 D fun b w' sd=>?_
 obtain ⟨c1,c2,c3⟩:=vV n cs jA
 have lE:jk k (chunk n k cs):=fun r hr=>⟨(c3 r hr).1,fun g hg=>l7 hp g ((c3 r hr).2 g hg)⟩
 have how:=gV.T8 sd (n:=n) (k:=k) (by rw [I.1,jA]) (by simp only [maxLen];omega);have bE:=hI.I4 (x:=.slice (some ⟨b,0,none⟩) n n) (xs:=us) (rows:=chunk n k cs) sd.ext (by rw [c2];exact how.base (aY _)) (fun b' bA=>by cases bA;rw [sd.fresh];exact aD _) (by rw [c1];exact I) lE;refine h B K _ w' _ hm bE ((hF.mono (cZ.refl K) (iO (by rw [hI.out _ (aD _)];trivial))).put d ?_);exact .vec _ n _ n ⟨_,_,bD,by rw [c2];exact aD _,fun _=>rfl⟩
def O7 (x:Operand) (t:Tmp):Bool :=
 match x with
 | .tmp t'=>!Nat.beq t' t
 | _=>true
theorem Sk {l:List Value} {x:Operand} {t:Tmp} (h:O7 x t=true) (u:Value):ev (put l (some t) u) x=ev l x:=by
 cases x with
 | tmp t'=>exact n9 (fun e=>by subst e;simp [O7] at h) u
 | _=>rfl
theorem GL.push {x s:Operand} {t e k mK:Nat} {z:List Value} [hT:rZ P t e k mK] [hZ:qp P t e k z] {d1:Tmp} {MQ:TypeId} {FE:String} {Kq:Array Edge} {i n fz:Nat} {rows:List (List GV)} {gs:List GV}
  (hx:lR (bg fr x)=some gs) (hk:Nat.beq gs.length k=true) (D:mC gs=true) (hp:qz gs=true) (hs:bg fr s=.vec i n) (TA:O7 s d1=true) (hd:jg fr d1=true) (bO:Γ[i]?=some (.vec e k fz rows)) (hn:rows.length=n)
  (hb:(n+1<=9223372036854775807/\(n+1) * mK<=140737488355328)/\k<=16777216)
  (h:GL P m ops Q rest (bK (bK fr (some d1) U) d (.vec i (n+1))) (oset Γ i (.vec e k fz (rows++[gs])))) :
  GL P m ops Q (⟨some d1,.buildSlice t 1 #[(0,x)],MQ,FE,Kq,none⟩::⟨d,.call ⟨.builtin .append,#[s,.tmp d1],#[t,t]⟩,ty,pos,af,none⟩::rest) fr Γ:=fun B K β w l hm hI hF=>by
 subst hn;obtain ⟨us,mr,mQ⟩:=(hF.ev x).cells hx;obtain ⟨h0,xs,o1,o2,o3,o4,o5,o6⟩:=hI.ob i _ bO;have xB:=hF.ev s;rw [hs] at xB
 have vd:ev l s=h0:=by
  generalize hv:ev l s=v at xB
  cases xB with
  | vec _ _ a c hh =>
   obtain ⟨h',m',e1,e2,e3⟩:=hh;rw [o1] at e1;cases e1;exact e3 rfl
 have AG:=nG hF hd
 have eZ:gs.length=k:=by simpa using hk
 refine WL.push (base:=0) (v:=h0) (vs:=us) (val:=ev l x) (xs:=xs) (n:=rows.length) rfl (fun u=>by rw [Sk TA];exact vd) (fun u=>sC AG u) mr (by rw [mQ.1,eZ]) (mQ.mA D) o2 hb.1.1 hb.1.2 hb.2 (aY _) ?_;intro u v' w' how iJ pF va
 obtain ⟨K',hK,kU,bE⟩:=hI.grow bO o1 ⟨o2,o3⟩ (news:=[gs]) (ns:=us) how iJ pF (by simpa using mQ) (fun r hr=>by simp at hr;subst hr;exact ⟨eZ,l7 hp⟩) zeL (fun b bA o v ho hv=>by
  rcases va with h7 | h7
  ·exact h7.c hv (fun h=>h)
  ·have iG:o < xs.length:=by rw [o2.1];exact wT ho (la k o6)
   obtain ⟨b2,c2,kO,_,_,lV⟩:=o2.cells.2 (by intro h0;rw [h0] at iG;simp at iG)
   have dS:b2=b:=by rw [kO] at bA;cases bA;rfl
   subst dS;have Dh:=lV o xs[o] (by simp [iG]);rw [fo,hv] at Dh;cases Dh;obtain ⟨b3,c3,Lo,_,_,Lm⟩:=how.cells.2 (by intro h0;have:xs=[]:=(List.append_eq_nil_iff.1 h0).1;rw [this] at iG;simp at iG)
   have rB:b3=b2:=by rw [Lo,bA] at h7;cases h7;rfl
   subst rB
   rw [<-fo];exact Lm o _ zfz)
 rw [<-bG] at bE;refine h B K' _ w' _ hm bE (((hF.mono hK kU).put (some d1) (.U u)).put d ?_);obtain ⟨a,c,rfl⟩:=how.shape;exact .vec i _ a c ⟨_,_,bD,by simp,fun _=>rfl⟩
theorem Wk.Ch {t:Nat} {a:Option Addr} {c:Nat} (E k:Nat) (ht:cB fr t=.v (.slice none 0 0)):Wk m fr Γ (bN fr t (.vec Γ.length 0)) (Γ++[.vec E k 0 []]):=fun B K β w l hm hI hF=>by
 have cE:β Γ.length=.no:=hI.out _ (aD _);have bE:=hI.I4 (w':=w) (E:=E) (k:=k) (x:=.slice none 0 0) (xs:=[]) (rows:=[]) (Ext.refl w) (gV.nil w 0 E k) (fun b hb=>by cases hb) bm.nil (fun r hr=>by cases hr);refine ⟨K,_,bE,?_⟩;have u0:=hF.mono (cZ.refl K) (iO (i:=Γ.length) (x:=.gr (.slice none 0 0) ([]:List (List GV)).length) ze9);have hv:nth l t=.slice none 0 0:=Rel.gS (by rw [<-ht];exact hF.nth t)
 have hu:∀ (l:List Value) (t:Nat) (v:Value),nth l t=v->(∃ a n c,v=.slice a n c)->fh l t v=l:=by
  intro l
  induction l with
  | nil=>intro t v _ _;rfl
  | cons x l ih =>
   intro t v D I
   cases t with
   | zero=>simp only [nth] at D;subst D;rfl
   | succ t=>simp only [nth] at D;simp only [fh];rw [ih t v D I]
 have:=u0.fh t (v:=.slice none 0 0) (g:=.vec Γ.length 0) (.vec _ 0 none 0 ⟨_,_,bD,aD _,fun _=>rfl⟩);rw [hu l t _ hv ⟨_,_,_,rfl⟩] at this;exact this
theorem Gb {l:List Value} {t:Nat} (h:jg l t=true):fh l t (nth l t)=l:=by
 induction l generalizing t with
 | nil=>cases h
 | cons x l ih=>cases t with | zero=>rfl | succ t=>simp only [fh,nth];rw [ih h]
theorem Wk.kG {t i n E k fz:Nat} {rows:List (List GV)} (ht:cB fr t=.vec i n) (lW:jg fr t=true) (bO:Γ[i]?=some (.vec E k fz rows)) (hn:rows.length=n):Wk m fr Γ (bN fr t (.sl k rows)) (oset Γ i (.vec E k n rows)):=fun B K β w l hm hI hF=>by
 subst hn;obtain ⟨h0,xs,o1,o2,o3,o4,o5,o6⟩:=hI.ob i _ bO;obtain ⟨K',hK,AH,bE⟩:=hI.kG bO;rw [<-bG] at bE;refine ⟨K',β,bE,?_⟩;have hr:=hF.nth t;rw [ht] at hr
 have iL:Rel K' β (nth l t) (.sl k rows):=by
  generalize nth l t=v at hr
  cases hr with
  | vec _ _ a c hh =>
   obtain ⟨h',m',e1,e2,e3⟩:=hh;rw [o1] at e1;cases e1;have e4:=e3 rfl
   rcases o2.2 with ⟨e5,e6⟩ | ⟨g,cap,cu,e5,_,_,s9,_⟩
   ·have:rows=[]:=gk e6;subst this;exact .sl0 _ _ _
   ·rw [e5] at e4;cases e4;exact zbA
 have:=(hF.mono hK (dx.refl β)).fh t iL;rw [Gb (nG hF lW)] at this;exact this
def qH (i:Nat) (cs:List GV):GV->GV
 | .loc j o=>match Nat.beq j i with
  | true=>.box cs o
  | false=>.loc j o
 | g=>match g.ok (other i) with
  | true=>g
  | false=>.U
theorem Rel.Yp {K K':Fz} {β:Bt} {i b:Nat} {cs:List GV} {x:Value} {g:GV} (h:Rel K β x g) (hk:cZ K K') (hb:β i=.fix b) (hc:∀ (j:Nat) g,cs[j]?=some g->K' b j=some g):Rel K' (fc (other i) β) x (qH i cs g):=by
 have gen:∀ {g:GV},Rel K β x g->Rel K' (fc (other i) β) x (match g.ok (other i) with | true=>g | false=>.U):=by
  intro g h;split
  ·rename_i ho;exact (h.mono hk (dx.refl β)).res ho
  ·exact .U _
 cases g with
 | loc j o =>
  simp only [qH];split
  ·rename_i hj
   have hj:j=i:=by simpa using hj
   subst hj
   cases h with
   | loc _ _ b' bA =>
    rw [hb] at bA;cases bA;have:=Rel.box (K:=K') (β:=fc (other j) β) b 0 o cs (fun q g hg=>by rw [eo];exact hc q g hg);rw [eo] at this;exact this
  ·rename_i hj
   have hj:j≠i:=by intro e;subst e;simp at hj
   exact (h.mono hk (dx.refl β)).res (vn hj)
 | _=>exact gen h
def rW (i:Nat) (cs:List GV):List GV->List GV
 | []=>[]
 | g::gs=>qH i cs g::rW i cs gs
theorem Wk.freeze {i:Nat} {E:TypeId} {cs:List GV} (bO:Γ[i]?=some (.box E cs)) (hp:qz cs=true) (cE:qy (other i) (oset Γ i .gone)=true) (hm:m<=i):Wk m fr Γ (rW i cs fr) (oset Γ i .gone):=fun B K β w l hB hI hF=>by
 rw [bG] at cE |-;obtain ⟨b,vs,D,I,h3,h4⟩:=hI.ob i _ bO;obtain ⟨K',hK,AH,bE⟩:=hI.freeze bO (l7 hp) cE zeM;refine ⟨K',_,bE,?_⟩;clear hI bE cE bO
 induction hF with
 | nil=>exact .nil
 | cons h t ih=>exact .cons (h.Yp hK D (AH b D)) ih
end
end Go.Xg
