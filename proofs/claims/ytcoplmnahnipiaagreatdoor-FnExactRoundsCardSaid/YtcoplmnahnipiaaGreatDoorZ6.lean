/- Part 6 of proofs that are told in their last texts. -/
import Derived.Test.YtcoplmnahnipiaaGreatDoorZ2
import Derived.Test.YtcoplmnahnipiaaGreatDoorZ5
import Derived.Test.YtcoplmnahnipiaaGreatDoorZ3
import Derived.Lib.SlicesCompact
open List (any_eq_false append_nil cons_append getElem?_eq_getElem getElem?_map getElem?_of_mem getElem?_set length_append length_map length_take length_zipWith map_take mem_of_getElem? mem_singleton nil_append set_cons_zero take_add_one take_length)
set_option linter.unusedVariables false
set_option linter.unusedSimpArgs false
set_option maxRecDepth 100000
set_option maxHeartbeats 2000000
namespace Go.Xg
open Go.RowKit Go.Xw Go.Proofs
open Go.Xp (Nd Ar)
open Go.Sp (Src)
open Go.Im (wS dN bb mY rq fC dm mW kl mV)
open Go.Im (kz ky kx)
attribute [local irreducible] GW GL GO YG GC GA aW aZ
theorem PM (l:List Int) (hl:l.length<=1048576):GF Tryz.prog 135 [ints l] [] (ints l) []:=by
 have hm:(l.map (fun i=>[GV.v (ii i)])).length=l.length:=by simp
 refine aj Tryz.func135 Tryz.ntmps135 ?_;refine GL.yM rfl ⟨by omega,by omega⟩ ?_;intro a c;refine bK ?_;refine ae ?_;refine GW.loop (fun k:Nat=>l.length - k) (fun k fr Γ=>∃ R Z,fr=[ints l,.U,.U,.v (.slice a (l.map (fun i=>[GV.v (ii i)])).length c),.v (ii (k:Nat)),.U,.U,.U,.U,.U,.U,.U,.U,.U,.U,.U,.U,.U,.U,.U,.U,.U]/\Γ=[.vech 3 1 R (.slice a (l.map (fun i=>[GV.v (ii i)])).length c)]/\k<=l.length/\R=(l.take k).map (fun i=>[GV.v (ii i)])++List.replicate (l.length - k) Z) 0 ?_ ?_
 ·exact ⟨_,_,Wk.ax ao,_,_,rfl,rfl,Nat.zero_le _,by rw [hm];rfl⟩
 rintro k _ _ ⟨R,Z,rfl,rfl,hk,hR⟩
 have mI:R.length=l.length:=by rw [hR];exact ky hk
 have et:R.length=(l.map (fun i=>[GV.v (ii i)])).length:=by rw [hm];exact mI
 by_cases ar:k < l.length
 ·have hx:l[k]?=some l[k]:=by simp [ar]
  have hr:(l.map (fun i=>[GV.v (ii i)]))[k]?=some ([GV.v (ii l[k])]):=by rw [getElem?_map,hx];rfl
  have db:decide ((k:Int) < ((l.map (fun i=>[GV.v (ii i)])).length:Int))=true:=by rw [hm];simpa using ar
  have b8:=kz (f:=(fun i=>[GV.v (ii i)])) (Z:=Z) hx;rw [<-hR] at b8;clear hR;generalize l[k]=x at *;refine ae ?_;refine jj ?_;refine ae ?_;exact ⟨k+1,⟨_,_,Wk.ax ao,_,Z,rfl,rfl,ar,b8⟩,by show l.length - (k+1) < l.length - k;omega⟩
 ·have db:decide ((k:Int) < ((l.map (fun i=>[GV.v (ii i)])).length:Int))=false:=by rw [hm];simpa using ar
  have kT:k=l.length:=by omega
  subst kT;rw [kx] at hR;subst hR;refine ae ?_;refine aX ?_;refine GW.wk (by apply Wk.oo (t:=3) (i:=0) <;> rfl) ?_;simp only [oset,bo];exact aw
theorem yT (l:List ai) (hl:l.length<=1048576):GF Tryz.prog 41 [strs l] [] (strs l) []:=by
 have hm:(l.map (fun s=>[GV.v (sv s)])).length=l.length:=by simp
 refine aj Tryz.func41 Tryz.ntmps41 ?_;refine GL.yM rfl ⟨by omega,by omega⟩ ?_;intro a c;refine bK ?_;refine ae ?_;refine GW.loop (fun k:Nat=>l.length - k) (fun k fr Γ=>∃ R Z,fr=[strs l,.U,.U,.v (.slice a (l.map (fun s=>[GV.v (sv s)])).length c),.v (ii (k:Nat)),.U,.U,.U,.U,.U,.U,.U,.U,.U,.U,.U,.U,.U,.U,.U,.U,.U]/\Γ=[.vech 9 1 R (.slice a (l.map (fun s=>[GV.v (sv s)])).length c)]/\k<=l.length/\R=(l.take k).map (fun s=>[GV.v (sv s)])++List.replicate (l.length - k) Z) 0 ?_ ?_
 ·exact ⟨_,_,Wk.ax ao,_,_,rfl,rfl,Nat.zero_le _,by rw [hm];rfl⟩
 rintro k _ _ ⟨R,Z,rfl,rfl,hk,hR⟩
 have mI:R.length=l.length:=by rw [hR];exact ky hk
 have et:R.length=(l.map (fun s=>[GV.v (sv s)])).length:=by rw [hm];exact mI
 by_cases ar:k < l.length
 ·have hx:l[k]?=some l[k]:=by simp [ar]
  have hr:(l.map (fun s=>[GV.v (sv s)]))[k]?=some ([GV.v (sv l[k])]):=by rw [getElem?_map,hx];rfl
  have db:decide ((k:Int) < ((l.map (fun s=>[GV.v (sv s)])).length:Int))=true:=by rw [hm];simpa using ar
  have b8:=kz (f:=(fun s=>[GV.v (sv s)])) (Z:=Z) hx;rw [<-hR] at b8;clear hR;generalize l[k]=x at *;refine ae ?_;refine jj ?_;refine ae ?_;exact ⟨k+1,⟨_,_,Wk.ax ao,_,Z,rfl,rfl,ar,b8⟩,by show l.length - (k+1) < l.length - k;omega⟩
 ·have db:decide ((k:Int) < ((l.map (fun s=>[GV.v (sv s)])).length:Int))=false:=by rw [hm];simpa using ar
  have kT:k=l.length:=by omega
  subst kT;rw [kx] at hR;subst hR;refine ae ?_;refine aX ?_;refine GW.wk (by apply Wk.oo (t:=3) (i:=0) <;> rfl) ?_;simp only [oset,bo];exact aw
theorem Dj (x:Ar):GF Tryz.prog 100 [.agg (aB x)] [] (.agg (aB x)) []:=by
 refine aj Tryz.func100 Tryz.ntmps100 ?_;exact dc
theorem Ke (l:List Ar) (hl:l.length<=1048576):GF Tryz.prog 42 [.sl 2 (l.map aB)] [] (.sl 2 (l.map aB)) []:=by
 have hm:(l.map aB).length=l.length:=by simp
 refine aj Tryz.func42 Tryz.ntmps42 ?_;refine GL.yM rfl ⟨by omega,by omega⟩ ?_;intro a c;refine bK ?_;refine ae ?_;refine GW.loop (fun k:Nat=>l.length - k) (fun k fr Γ=>∃ R Z,fr=[.sl 2 (l.map aB),.U,.U,.v (.slice a (l.map aB).length c),.v (ii (k:Nat)),.U,.U,.U,.U,.U,.U,.U,.U,.U,.U,.U,.U,.U,.U,.U,.U,.U,.U]/\Γ=[.vech 88 2 R (.slice a (l.map aB).length c)]/\k<=l.length/\R=(l.take k).map aB++List.replicate (l.length - k) Z) 0 ?_ ?_
 ·exact ⟨_,_,Wk.ax ao,_,_,rfl,rfl,Nat.zero_le _,by rw [hm];rfl⟩
 rintro k _ _ ⟨R,Z,rfl,rfl,hk,hR⟩
 have mI:R.length=l.length:=by rw [hR];exact ky hk
 have et:R.length=(l.map aB).length:=by rw [hm];exact mI
 by_cases ar:k < l.length
 ·have hx:l[k]?=some l[k]:=by simp [ar]
  have hr:(l.map aB)[k]?=some (aB l[k]):=by rw [getElem?_map,hx];rfl
  have db:decide ((k:Int) < ((l.map aB).length:Int))=true:=by rw [hm];simpa using ar
  have b8:=kz (f:=aB) (Z:=Z) hx;rw [<-hR] at b8;have hc:=Dj l[k];clear hR;generalize l[k]=x at *;refine ae ?_;refine ab [] (hc) ?_;refine jj ?_;refine ae ?_;exact ⟨k+1,⟨_,_,Wk.ax ao,_,Z,rfl,rfl,ar,b8⟩,by show l.length - (k+1) < l.length - k;omega⟩
 ·have db:decide ((k:Int) < ((l.map aB).length:Int))=false:=by rw [hm];simpa using ar
  have kT:k=l.length:=by omega
  subst kT;rw [kx] at hR;subst hR;refine ae ?_;refine aX ?_;refine GW.wk (by apply Wk.oo (t:=3) (i:=0) <;> rfl) ?_;simp only [oset,bo];exact aw
theorem U6 (x:Go.Sp.Fn) (hp:x.params.length<=1048576):GF Tryz.prog 101 [.agg (au x)] [] (.agg (au x)) []:=by
 have h0:=yT x.params hp;refine aj Tryz.func101 Tryz.ntmps101 ?_;refine ab [] (h0) ?_;exact dc
theorem Sz (l:List Go.Sp.Fn) (hl:l.length<=1048576) (he:∀ x∈l,x.params.length<=1048576):GF Tryz.prog 43 [.sl 3 (l.map au)] [] (.sl 3 (l.map au)) []:=by
 have hm:(l.map au).length=l.length:=by simp
 refine aj Tryz.func43 Tryz.ntmps43 ?_;refine GL.yM rfl ⟨by omega,by omega⟩ ?_;intro a c;refine bK ?_;refine ae ?_;refine GW.loop (fun k:Nat=>l.length - k) (fun k fr Γ=>∃ R Z,fr=[.sl 3 (l.map au),.U,.U,.v (.slice a (l.map au).length c),.v (ii (k:Nat)),.U,.U,.U,.U,.U,.U,.U,.U,.U,.U,.U,.U,.U,.U,.U,.U,.U,.U]/\Γ=[.vech 60 3 R (.slice a (l.map au).length c)]/\k<=l.length/\R=(l.take k).map au++List.replicate (l.length - k) Z) 0 ?_ ?_
 ·exact ⟨_,_,Wk.ax ao,_,_,rfl,rfl,Nat.zero_le _,by rw [hm];rfl⟩
 rintro k _ _ ⟨R,Z,rfl,rfl,hk,hR⟩
 have mI:R.length=l.length:=by rw [hR];exact ky hk
 have et:R.length=(l.map au).length:=by rw [hm];exact mI
 by_cases ar:k < l.length
 ·have hx:l[k]?=some l[k]:=by simp [ar]
  have hr:(l.map au)[k]?=some (au l[k]):=by rw [getElem?_map,hx];rfl
  have db:decide ((k:Int) < ((l.map au).length:Int))=true:=by rw [hm];simpa using ar
  have b8:=kz (f:=au) (Z:=Z) hx;rw [<-hR] at b8;have hex:=he _ (mem_of_getElem? hx);have hc:=U6 l[k] hex;clear hR;generalize l[k]=x at *;refine ae ?_;refine ab [] (hc) ?_;refine jj ?_;refine ae ?_;exact ⟨k+1,⟨_,_,Wk.ax ao,_,Z,rfl,rfl,ar,b8⟩,by show l.length - (k+1) < l.length - k;omega⟩
 ·have db:decide ((k:Int) < ((l.map au).length:Int))=false:=by rw [hm];simpa using ar
  have kT:k=l.length:=by omega
  subst kT;rw [kx] at hR;subst hR;refine ae ?_;refine aX ?_;refine GW.wk (by apply Wk.oo (t:=3) (i:=0) <;> rfl) ?_;simp only [oset,bo];exact aw
theorem PO (x:Nd) (hp:x.kids.length<=1048576):GF Tryz.prog 102 [.agg (ay x)] [] (.agg (ay x)) []:=by
 have h0:=PM x.kids hp;refine aj Tryz.func102 Tryz.ntmps102 ?_;refine ab [] (h0) ?_;exact dc
theorem Nj (l:List Nd) (hl:l.length<=1048576) (he:∀ x∈l,x.kids.length<=1048576):GF Tryz.prog 44 [.sl 5 (l.map ay)] [] (.sl 5 (l.map ay)) []:=by
 have hm:(l.map ay).length=l.length:=by simp
 refine aj Tryz.func44 Tryz.ntmps44 ?_;refine GL.yM rfl ⟨by omega,by omega⟩ ?_;intro a c;refine bK ?_;refine ae ?_;refine GW.loop (fun k:Nat=>l.length - k) (fun k fr Γ=>∃ R Z,fr=[.sl 5 (l.map ay),.U,.U,.v (.slice a (l.map ay).length c),.v (ii (k:Nat)),.U,.U,.U,.U,.U,.U,.U,.U,.U,.U,.U,.U,.U,.U,.U,.U,.U,.U]/\Γ=[.vech 91 5 R (.slice a (l.map ay).length c)]/\k<=l.length/\R=(l.take k).map ay++List.replicate (l.length - k) Z) 0 ?_ ?_
 ·exact ⟨_,_,Wk.ax ao,_,_,rfl,rfl,Nat.zero_le _,by rw [hm];rfl⟩
 rintro k _ _ ⟨R,Z,rfl,rfl,hk,hR⟩
 have mI:R.length=l.length:=by rw [hR];exact ky hk
 have et:R.length=(l.map ay).length:=by rw [hm];exact mI
 by_cases ar:k < l.length
 ·have hx:l[k]?=some l[k]:=by simp [ar]
  have hr:(l.map ay)[k]?=some (ay l[k]):=by rw [getElem?_map,hx];rfl
  have db:decide ((k:Int) < ((l.map ay).length:Int))=true:=by rw [hm];simpa using ar
  have b8:=kz (f:=ay) (Z:=Z) hx;rw [<-hR] at b8;have hex:=he _ (mem_of_getElem? hx);have hc:=PO l[k] hex;clear hR;generalize l[k]=x at *;refine ae ?_;refine ab [] (hc) ?_;refine jj ?_;refine ae ?_;exact ⟨k+1,⟨_,_,Wk.ax ao,_,Z,rfl,rfl,ar,b8⟩,by show l.length - (k+1) < l.length - k;omega⟩
 ·have db:decide ((k:Int) < ((l.map ay).length:Int))=false:=by rw [hm];simpa using ar
  have kT:k=l.length:=by omega
  subst kT;rw [kx] at hR;subst hR;refine ae ?_;refine aX ?_;refine GW.wk (by apply Wk.oo (t:=3) (i:=0) <;> rfl) ?_;simp only [oset,bo];exact aw
theorem AZ (x:Src) (hg:x.globals.length<=1048576) (ha:x.arrays.length<=1048576) (hf:x.fns.length<=1048576) (uv:∀ f∈x.fns,f.params.length<=1048576) (hn:x.nodes.length<=1048576) (sk:∀ n∈x.nodes,n.kids.length<=1048576):GF Tryz.prog 12 [.agg (av x)] [] (.agg (av x)) []:=by
 have h0:=yT x.globals hg;have h1:=Ke x.arrays ha;have h2:=Sz x.fns hf uv;have h3:=Nj x.nodes hn sk;refine aj Tryz.func12 Tryz.ntmps12 ?_;refine ab [] (h0) ?_;refine ab [] (h1) ?_;refine ab [] (h2) ?_;refine ab [] (h3) ?_;exact dc
end Go.Xg
namespace Go.Xg
open Go.RowKit Go.Xw
def Ob.mq:Ob->Bool
 | .vech _ _ _ _=>true
 | _=>false
def px (β:Bt) (aM:List Nat):Bt:=fun j=>match aM[j]? with
 | some i=>β i
 | none=>.no
section
variable {B:Bs} {K:Fz} {β:Bt} {Γ:List Ob} {w:World}
theorem aY.qV {K:Fz} {β bM:Bt} {vs:List Value} {gs:List GV} (h:aY K β vs gs) (hp:∀ g∈gs,g.pc=true):aY K bM vs gs:=⟨h.1,fun i v g h1 h2=>(h.2 i v g h1 h2).pc (hp g (mem_of_getElem? h2))⟩
theorem fm.flat {k:Nat} {rows:List (List GV)} (h:fm k rows):∀ g∈rows.flatten,g.pc=true:=fun g hg=>by
 obtain ⟨r,h1,h2⟩:=List.mem_flatten.1 hg;exact (h r h1).2 g h2
theorem Inv.pick (h:Inv B K β Γ w) (hm:B.m=0) {aM:List Nat} {Δ:List Ob} (hl:Δ.length=aM.length) (hn:aM.Nodup)
  (hx:∀ (j:Nat) x,Δ[j]?=some x->x.mq=true/\∀ i,aM[j]?=some i->Γ[i]?=some x):Inv B K (px β aM) Δ w:=by
 have hb:∀ i b,(px β aM i).blk=some b->∃ q,aM[i]?=some q/\(β q).blk=some b:=fun i b hi=>by
  unfold px at hi
  cases hs:aM[i]? with
  | none=>rw [hs] at hi;cases hi
  | some q=>rw [hs] at hi;exact ⟨q,rfl,hi⟩
 refine ⟨h.ext,h.kle,fun i=>by rw [h.loc i ah];trivial,h.loc,h.fz,fun i x hi=>?_,fun i hi=>?_,fun i j b hi hj=>?_,fun i b hi=>?_,h.kn,h.tab.step (S:=gQ) (Ext.refl w) (fun _ h=>h.elim) (cj.refl K) (fun i b2 h2=>?_)⟩
 ·obtain ⟨h1,h2⟩:=hx i x hi;have ar:=(List.getElem?_eq_some_iff.1 hi).1;have hs:aM[i]?=some (aM[i]'ah):=getElem?_eq_getElem _
  cases x with
  | vech E k rows v =>
   obtain ⟨xs,e1,e2,e3,e4,e5⟩:=h.ob _ _ (h2 _ hs);refine ⟨xs,?_,e2,e3.qV e4.flat,e4,e5⟩;show px β aM i=_;unfold px;rw [hs];exact e1
  | _=>cases h1
 ·unfold px;rw [List.getElem?_eq_none ah]
 ·obtain ⟨q,h1,h2⟩:=hb i b hi;obtain ⟨r,h3,h4⟩:=hb j b hj;have:=h.dis q r b h2 h4;subst this;obtain ⟨a1,a2⟩:=List.getElem?_eq_some_iff.1 h1;obtain ⟨b1,b2⟩:=List.getElem?_eq_some_iff.1 h3;exact (List.getElem_inj hn).1 (a2.trans b2.symm)
 ·obtain ⟨q,h1,h2⟩:=hb i b hi;exact h.own q b h2
 ·obtain ⟨q,h3,h4⟩:=hb i b2 h2;exact .inl ⟨q,h4⟩
theorem Inv.view {i E k:Nat} {rows:List (List GV)} {x:Value} (h:Inv B K β Γ w) (hi:Γ[i]?=some (.vech E k rows x)):∃ K1,cj K K1/\iO K1 w/\fH K1 (fun _=>.no) w/\Rel K1 (fun _=>.no) x (.sl k rows):=by
 obtain ⟨K',hK,hr,bf⟩:=h.qz hi;exact ⟨K',hK,bf.fz,⟨bf.tab.le,bf.tab.pow,bf.tab.spc,fun i b h=>by cases h⟩,hr.pc rfl⟩
theorem Inv.Yl (h:Inv B K β Γ w):fH K (fun _=>.no) w:=⟨h.tab.le,h.tab.pow,h.tab.spc,fun i b h=>by cases h⟩
theorem Inv.new (h:iO K w) (ht:fH K (fun _=>.no) w):Inv ⟨w,gQ,K,fun _=>.no,0⟩ K (fun _=>.no) [] w :=
 ⟨Ext.refl w,cj.refl _,cX.refl _,fun _ _=>rfl,h,fun i x h=>by simp at h,fun _ _=>rfl,fun i j b h=>(by cases h),fun i b h=>(by cases h),fun b o g h=>.inl h,ht⟩
theorem Inv.J7 {i idx o j E k T k':Nat} {rows ks:List (List GV)} {x h:Value} {r:List GV} (hI:Inv B K β Γ w) (hi:Γ[i]?=some (.vech T k rows h)) (hr:rows[idx]?=some r) (ho:r[o]?=some (.v x)) (bL:i≠j) (hj:Γ[j]?=some (.vech E k' ks x)) :
  ∃ K',cj K K'/\Inv B K' β (oset (oset Γ j (.vec E k' ks.length ks)) i (.vech T k (dr rows idx o (.sl k' ks)) h)) w:=by
 obtain ⟨K',hK,eL,bf⟩:=hI.qz hj;obtain ⟨xs,h1,h2,h3,h4,h5⟩:=bf.ob i (.vech T k rows h) (by rw [ba,getElem?_set,if_neg (fun e=>bL e.symm)];exact hi);have ar:=(List.getElem?_eq_some_iff.1 hr).1
 have Ma:o < k:=by rw [<-(h4 r (mem_of_getElem? hr)).1];exact (List.getElem?_eq_some_iff.1 ho).1
 exact ⟨K',hK,bf.swap ⟨xs,by rw [fp];exact h1,by rw [fp];exact h2,by rw [tB Ma h4 ar];exact aY.bo eL h3 (sC h4 hr ho),x8 rfl h4,h5⟩⟩
theorem rL {rows:List (List GV)} {i o:Nat} {g:GV} {r:List GV} (hr:rows[i]?=some r):∀ q,(dr rows i o g)[q]?=if q=i then some (bo r o g) else rows[q]?:=by
 induction rows generalizing i with
 | nil=>simp at hr
 | cons x rs ih =>
  intro q
  cases i with
  | zero =>
   cases hr
   cases q with
   | zero=>simp [dr]
   | succ q=>simp [dr]
  | succ i =>
   cases q with
   | zero=>simp [dr]
   | succ q =>
    have:=ih (by simpa using hr) q;simp only [dr,List.getElem?_cons_succ,this]
    by_cases h:q=i
    ·simp [h]
    ·simp [h]
theorem Inv.FE {T k o E k' jf N:Nat} {h:Value} {raw fin:Nat->List GV} {ks:Nat->List (List GV)} {hd:Nat->Value} {jp:Nat->Nat} (hI:Inv B K β Γ w) {DB:List (List GV)} (Zn:Γ[jf]?=some (.vech T k DB h)) (h0:DB.length=N/\∀ i,i < N->DB[i]?=some (raw i))
  (X1:∀ i,i < N->(raw i)[o]?=some (.v (hd i))/\bo (raw i) o (.sl k' (ks i))=fin i) (jH:∀ i,i < N->Γ[jp i]?=some (.vech E k' (ks i) (hd i))) (bL:∀ i,i < N->jp i≠jf) (Ew:∀ i i',i < N->i' < N->jp i=jp i'->i=i') :
  ∃ K' aJ rows,cj K K'/\Inv B K' β aJ w/\aJ[jf]?=some (.vech T k rows h)/\rows.length=N/\(∀ i,i < N->rows[i]?=some (fin i))/\∀ q,q≠jf->(∀ i,i < N->q≠jp i)->aJ[q]?=Γ[q]?:=by
 have key:∀ n,n<=N->∃ K' aJ rows,cj K K'/\Inv B K' β aJ w/\aJ[jf]?=some (.vech T k rows h)/\rows.length=N/\(∀ i,i < n->rows[i]?=some (fin i))/\(∀ i,n<=i->i < N->rows[i]?=some (raw i))/\(∀ i,n<=i->i < N->aJ[jp i]?=some (.vech E k' (ks i) (hd i)))/\∀ q,q≠jf->(∀ i,i < N->q≠jp i)->aJ[q]?=Γ[q]?:=by
  intro n
  induction n with
  | zero=>intro _;exact ⟨K,Γ,DB,cj.refl K,hI,Zn,h0.1,fun i h=>by omega,fun i _ h=>h0.2 i h,fun i _ h=>jH i h,fun _ _ _=>rfl⟩
  | succ n ih =>
   intro hn;obtain ⟨K',aJ,rows,a1,a2,a3,a4,a5,a6,a7,a8⟩:=ih ah;have hr:=a6 n (Nat.le_refl _) ah;obtain ⟨c1,c2⟩:=X1 n ah;obtain ⟨K2,b1,b2⟩:=a2.J7 a3 hr c1 (fun e=>bL n ah e.symm) (a7 n (Nat.le_refl _) ah);have ar:=(List.getElem?_eq_some_iff.1 a3).1;refine ⟨K2,_,dr rows n o (.sl k' (ks n)),a1.trans b1,b2,?_,by rw [fp];exact a4,fun i hi=>?_,fun i hi L6=>?_,fun i hi L6=>?_,fun q hq WT=>?_⟩
   ·rw [ba,ba,getElem?_set];simp [ar]
   ·rw [rL hr,c2]
    by_cases e:i=n
    ·rw [if_pos e,e]
    ·rw [if_neg e];exact a5 i ah
   ·rw [rL hr,if_neg ah];exact a6 i ah L6
   ·rw [ba,ba,getElem?_set,if_neg (fun e=>bL i L6 e.symm),getElem?_set,if_neg (fun e=>by have:=Ew n i ah L6 e;omega)];exact a7 i ah L6
   ·rw [ba,ba,getElem?_set,if_neg (fun e=>hq e.symm),getElem?_set,if_neg (fun e=>WT n ah e.symm)];exact a8 q hq WT
 obtain ⟨K',aJ,rows,a1,a2,a3,a4,a5,_,_,a8⟩:=key N (Nat.le_refl _);exact ⟨K',aJ,rows,a1,a2,a3,a4,a5,a8⟩
end
section
variable {P:Program} {fn:Func} {R:GV->List Ob->Prop} {fr:List GV} {Γ:List Ob} {e:Exit}
theorem VB {t:Tmp} {x:Value} (aM:List Nat) (Δ:List Ob) (hr:fn.results=#[.tmp t]) (he:e=.normal\/e=.ret) (hg:cq fr t=.v x) (hl:Δ.length=aM.length) (hn:aM.Nodup)
  (hx:∀ (j:Nat) x,Δ[j]?=some x->x.mq=true/\∀ i,aM[j]?=some i->Γ[i]?=some x) (h:R (.v x) Δ):r7 P fn 0 R e fr Γ :=
 ⟨he,fun B K β w l hB hI hF=>⟨nth l t,K,px β aM,.v x,Δ,by rw [results_tmp hr,jt],hI.pick hB hl hn hx,by have:=hF.nth t;rw [hg] at this;rw [Rel.eo this];exact .v _,h⟩⟩
theorem VC {t:Tmp} {T:TypeId} {k:Nat} [hT:Ty P T true k] {i:Nat} {E:TypeId} {cs:List GV} (aM:List Nat) (Δ:List Ob) (hr:fn.results=#[.cell t T]) (he:e=.normal\/e=.ret) (hg:cq fr t=.loc i 0) (bu:Γ[i]?=some (.box E cs)) (hk:cs.length=k) (hp:qV cs=true)
  (hl:Δ.length=aM.length) (hn:aM.Nodup) (hx:∀ (j:Nat) x,Δ[j]?=some x->x.mq=true/\∀ i,aM[j]?=some i->Γ[i]?=some x) (h:R (.agg cs) Δ):r7 P fn 0 R e fr Γ :=
 ⟨he,fun B K β w l hB hI hF=>by
  obtain ⟨b,vs,h1,h2,h3,h4⟩:=hI.ob i _ bu
  have TW:nth l t=.pointer (some ⟨b,0,none⟩):=by
   have:=hF.nth t;rw [hg] at this;generalize nth l t=v at this
   cases this with
   | loc _ _ b' bj=>rw [h1] at bj;cases bj;rfl
  have kH:l.toArray.getD t undef=.pointer (some ⟨b,0,none⟩):=by rw [jt,TW]
  have Ex:=mR (P:=P) (w:=w) (t:=T) (b:=b) (o:=0) (vs:=vs) (k:=k) (by rw [h3.1,hk]) (fun j v hj=>by
   rw [Nat.zero_add,cell_of_row w b j _ E (0,0) h2];simpa using hj)
  have zn:l[t]?.getD undef=.pointer (some ⟨b,0,none⟩):=by simpa using kH
  have h5:aY K (px β aM) vs cs:=h3.qV (l6 hp)
  exact ⟨.agg vs.toArray,K,px β aM,.agg cs,Δ,by simp [results,hr,zn,asAddr,Ex],hI.pick hB hl hn hx,.agg vs cs h5.1 h5.2,h⟩⟩
end
section
variable {P:Program} {fn:Func} {R:GV->List Ob->Prop} {fr:List GV} {Γ:List Ob} {e:Exit}
theorem Cu {Γ:List Ob} {n:Nat} (h:∀ x∈Γ.drop n,x.mq=true):(Γ.drop n).length=((List.range (Γ.length - n)).map (·+n)).length/\((List.range (Γ.length - n)).map (·+n)).Nodup /\
  ∀ (j:Nat) x,(Γ.drop n)[j]?=some x->x.mq=true/\∀ i,((List.range (Γ.length - n)).map (·+n))[j]?=some i->Γ[i]?=some x:=by
 refine ⟨by simp,?_,fun j x hj=>⟨h x (mem_of_getElem? hj),fun i hi=>?_⟩⟩
 ·unfold List.Nodup;rw [List.pairwise_map]
  exact List.nodup_range.imp fun bL he=>bL ah
 ·have ar:=(List.getElem?_eq_some_iff.1 hj).1;rw [List.length_drop] at ar;rw [getElem?_map,List.getElem?_range ar] at hi;cases hi;rw [List.getElem?_drop] at hj;show Γ[j+n]?=some x;rw [Nat.add_comm];exact hj
theorem rz {t:Tmp} {x:Value} (n:Nat) (hr:fn.results=#[.tmp t]) (he:e=.normal\/e=.ret) (hg:cq fr t=.v x) (ha:∀ x∈Γ.drop n,x.mq=true) (h:R (.v x) (Γ.drop n)):r7 P fn 0 R e fr Γ :=
 have hd:=Cu ha
 VB _ (Γ.drop n) hr he hg hd.1 hd.2.1 hd.2.2 h
theorem Jg {t:Tmp} {T:TypeId} {k:Nat} [hT:Ty P T true k] {i:Nat} {E:TypeId} {cs:List GV} (n:Nat) (hr:fn.results=#[.cell t T]) (he:e=.normal\/e=.ret) (hg:cq fr t=.loc i 0) (bu:Γ[i]?=some (.box E cs)) (hk:cs.length=k) (hp:qV cs=true)
  (ha:∀ x∈Γ.drop n,x.mq=true) (h:R (.agg cs) (Γ.drop n)):r7 P fn 0 R e fr Γ :=
 have hd:=Cu ha
 VC _ (Γ.drop n) hr he hg bu hk hp hd.1 hd.2.1 hd.2.2 h
end
section
variable {P:Program} {m:Nat} {Q:dH} {fr:List GV} {Γ:List Ob} {ops:Array Oper} {rest:List Oper} {d:Option Tmp} {op:Op} {ty:TypeId} {pos:String} {af:Array Edge}
theorem GL.Xl {t:TypeId} {x:Operand} {cs:List GV} (hx:lN (aS fr x)=some cs) (hp:qV cs=true) (h:GL P m ops Q rest (bm fr d (.box cs 0)) Γ):GL P m ops Q (⟨d,.box t x,ty,pos,af,none⟩::rest) fr Γ:=fun B K β w l hm hI hF=>by
 obtain ⟨vs,h1,h2⟩:=(hF.ev x).cells hx
 refine WL.box rfl fun b w' hn=>?_
 rw [h1] at hn;obtain ⟨hle,bf⟩:=hI.sY hn h2 (l6 hp);exact h B _ β w' _ hm bf ((hF.mono hle (cX.refl β)).put d (Rel.box (K:=kr K b cs) (β:=β) b 0 0 cs (fun j g hg=>by rw [Nat.zero_add];exact tZ hg)))
theorem GL.borrow {f:FuncId} [hf:aD P f] {args:List Operand} {lW:Array TypeId} {gs:List GV} {v:Value} (hc:GF P f gs [] (.v v) [])
  (hv:∀ B K β w l,Inv B K β Γ w->FR K β fr l->∃ K1,iO K1 w/\fH K1 (fun _=>.no) w/\aY K1 (fun _=>.no) (args.map (ev l)) gs)
  (h:GL P m ops Q rest (bm fr d (.v v)) Γ):GL P m ops Q (⟨d,.call ⟨.value (.func f),args.toArray,lW⟩,ty,pos,af,none⟩::rest) fr Γ:=fun B K β w l hm hI hF=>by
 obtain ⟨K1,h1,h2,h3⟩:=hv B K β w l hI hF
 have qO:(execOp (ev l) ⟨d,.call ⟨.value (.func f),args.toArray,lW⟩,ty,pos,af,none⟩).run P w=.ok (.enter f (args.map (ev l)).toArray) w:=by simp [execOp,resolve,ev,Deferred.ofValue,invoke,kZ]
 refine WL.calls qO (hc _ K1 _ w _ rfl (Inv.new h1 h2) h3) ?_;rintro x w' ⟨K',bM,g,aJ,bf,eL,rfl,rfl⟩;exact h B K β w' _ hm (hI.same bf.ext) (hF.put d (by rw [Rel.eo eL];exact .v _))
theorem GL.Hf {f:FuncId} [hf:aD P f] {args:List Operand} {lW:Array TypeId} {gs:List GV} {E k n:Nat} {rows:List (List GV)} (hc:GC P f gs [] fun g Δ=>∃ a c,g=.v (.slice a n c)/\Δ=[.vech E k rows (.slice a n c)])
  (hn:rows.length=n) (jz:∀ r∈rows,∀ g∈r,∃ x,g=.v x)
  (hv:∀ B K β w l,Inv B K β Γ w->FR K β fr l->∃ K1,iO K1 w/\fH K1 (fun _=>.no) w/\aY K1 (fun _=>.no) (args.map (ev l)) gs)
  (h:∀ a c,GL P m ops Q rest (bm fr d (.v (.slice a n c))) (Γ++[.vech E k rows (.slice a n c)])):GL P m ops Q (⟨d,.call ⟨.value (.func f),args.toArray,lW⟩,ty,pos,af,none⟩::rest) fr Γ:=fun B K β w l hm hI hF=>by
 obtain ⟨K1,h1,h2,h3⟩:=hv B K β w l hI hF
 have qO:(execOp (ev l) ⟨d,.call ⟨.value (.func f),args.toArray,lW⟩,ty,pos,af,none⟩).run P w=.ok (.enter f (args.map (ev l)).toArray) w:=by simp [execOp,resolve,ev,Deferred.ofValue,invoke,kZ]
 refine WL.calls qO (hc _ K1 _ w _ rfl (Inv.new h1 h2) h3) ?_;rintro x w' ⟨K',bM,g,aJ,bf,eL,a,c,rfl,rfl⟩;subst hn;obtain ⟨xs,e1,e2,e3,e4,e5⟩:=bf.ob 0 _ rfl;have hIs:=hI.same bf.ext
 have xW:∀ g∈rows.flatten,∃ x,g=.v x:=fun g hg=>by
  obtain ⟨r,h5,h6⟩:=List.mem_flatten.1 hg;exact jz r h5 g h6
 have hr:aY K β xs rows.flatten:=⟨e3.1,fun i v g h5 h6=>by
  obtain ⟨y,rfl⟩:=xW g (mem_of_getElem? h6)
  rw [Rel.eo (e3.2 i v _ h5 h6)];exact .v _⟩
 have dq:∀ b,(Value.slice a rows.length c).ownBlock=some b->w.heap.size<=b:=fun b hb=>by
  rcases bf.own 0 b (by rw [e1];exact hb) with h5 | h5
  ·exact h5.elim
  ·exact h5
 have bT:β Γ.length=.no:=hI.out _ (Nat.le_refl _);have nC:=hI.Bb (w':=w') (x:=.slice a rows.length c) bf.ext e2 dq hr e4;have hb:en β Γ.length (.gr (.slice a rows.length c) rows.length) Γ.length=.gr (.slice a rows.length c) rows.length:=bc;have hle:cX β (en β Γ.length (.gr (.slice a rows.length c) rows.length)):=fM (by rw [bT];trivial)
 have Eh:=nC.swap (i:=Γ.length) (y:=.vech E k rows (.slice a rows.length c)) ⟨xs,hb,e2,hr.mono (cj.refl K) hle,e4,fun b hb o=>by
  cases hk:K b o with
  | none=>rfl
  | some g=>have:=hI.fz.lt hk;have:=dq b hb;omega⟩
 rw [ba] at Eh;simp only [length_append,List.length_cons,List.length_nil,List.set_append_right _ _ (Nat.le_refl _),Nat.sub_self,set_cons_zero] at Eh;exact h a c B K _ w' _ hm Eh ((hF.mono (cj.refl K) hle).put d (by rw [Rel.eo eL];exact .v _))
theorem sD {P:Program} {w:World} {t e ty:TypeId} {i:TypeInfo} (hu:P.underlying t=some (.slice e)) (hi:P.info? e=some i) (a b:Option Addr) (n c d:Nat) (hc:n<=c) :
  (Builtin.append_ #[t,t] ty #[.slice a n c,.slice b 0 d]).run P w=.ok (.slice a n c) w:=by
 cases a <;> cases b <;> simp [Builtin.append_,run_underlying hu,sizeOf,typeInfo,hi,Builtin.lenOf,hc,Builtin.firstCells,loadCells,loadCellsFrom,storeCells]
theorem GL.Vm {s x:Operand} {t e k gC:Nat} [hT:nO P t e k gC] (i:Nat) {dt:Tmp} {v:Value} {rows:List (List GV)} (hx:aS fr x=.sl k []) (hs:aS fr s=.v v) (bu:Γ[i]?=some (.vech e k rows v))
  (h:GL P m ops Q rest (bm fr (some dt) (.v v)) Γ):GL P m ops Q (⟨some dt,.call ⟨.builtin .append,#[s,x],#[t,t]⟩,ty,pos,af,none⟩::rest) fr Γ:=fun B K β w l hm hI hF=>by
 obtain ⟨hu,⟨j,z,hi,_⟩,_⟩:=hT.parts;obtain ⟨xs,o1,o2,_⟩:=hI.ob i _ bu;have pQ:ev l s=v:=hF.gD hs;have qP:=hF.ev x;rw [hx] at qP;generalize qQ:ev l x=vx at qP
 obtain ⟨b,d',rfl⟩:∃ b d',vx=.slice b 0 d':=by
  cases qP with
  | sl0 a c k=>exact ⟨a,c,rfl⟩
  | sl b o c _ _ hr _=>exact ⟨_,_,rfl⟩
 obtain ⟨a,n,c,rfl,hc⟩:∃ a n c,v=.slice a n c/\n<=c:=by
  rcases o2.2 with ⟨e1,e2⟩ | ⟨g,cap,cur,e1,_,_,e2,_⟩
  ·exact ⟨_,_,_,e1,Nat.le_refl _⟩
  ·exact ⟨_,_,_,e1,e2⟩
 have mb:=sD (P:=P) (w:=w) (ty:=ty) hu hi a b n c d' hc;exact WL.val (v:=.slice a n c) (w':=w) (by simp [execOp,resolve,invoke,builtin,pQ,qQ,mb]) (h B K β w _ hm hI (hF.put _ (.v _)))
theorem GL.Vq {s x:Operand} {t e k gC:Nat} [hT:nO P t e k gC] {i n fz:Nat} {dt:Tmp} {rows:List (List GV)} (hx:aS fr x=.sl k []) (hs:aS fr s=.vec i n) (bu:Γ[i]?=some (.vec e k fz rows)) (hn:rows.length=n)
  (h:GL P m ops Q rest (bm fr (some dt) (.vec i n)) Γ):GL P m ops Q (⟨some dt,.call ⟨.builtin .append,#[s,x],#[t,t]⟩,ty,pos,af,none⟩::rest) fr Γ:=fun B K β w l hm hI hF=>by
 subst hn;obtain ⟨hu,⟨j,z,hi,_⟩,_⟩:=hT.parts;obtain ⟨h0,xs,o1,o2,_⟩:=hI.ob i _ bu;have so:=hF.ev s;rw [hs] at so
 have pQ:ev l s=h0:=by
  generalize hv:ev l s=v at so
  cases so with
  | vec _ _ a c hh =>
   obtain ⟨h',m',e1,e2,e3⟩:=hh;rw [o1] at e1;cases e1;exact e3 rfl
 have qP:=hF.ev x;rw [hx] at qP;generalize qQ:ev l x=vx at qP
 obtain ⟨b,d',rfl⟩:∃ b d',vx=.slice b 0 d':=by
  cases qP with
  | sl0 a c k=>exact ⟨a,c,rfl⟩
  | sl b o c _ _ hr _=>exact ⟨_,_,rfl⟩
 obtain ⟨a,n,c,rfl,hc⟩:∃ a n c,h0=.slice a n c/\n<=c:=by
  rcases o2.2 with ⟨e1,e2⟩ | ⟨g,cap,cur,e1,_,_,e2,_⟩
  ·exact ⟨_,_,_,e1,Nat.le_refl _⟩
  ·exact ⟨_,_,_,e1,e2⟩
 have mb:=sD (P:=P) (w:=w) (ty:=ty) hu hi a b n c d' hc;exact WL.val (v:=.slice a n c) (w':=w) (by simp [execOp,resolve,invoke,builtin,pQ,qQ,mb]) (h B K β w _ hm hI (hF.put _ (by have:=hF.ev s;rw [hs,pQ] at this;exact this)))
theorem C4 {Γ:List Ob} {i:Nat} {x:Ob} (h:Γ[i]?=some x):oset Γ i x=Γ:=by
 rw [ba];apply List.ext_getElem?;intro j;rw [getElem?_set]
 by_cases e:i=j
 ·subst e;have:=(List.getElem?_eq_some_iff.1 h).1;rw [if_pos rfl,if_pos this,h]
 ·rw [if_neg e]
theorem GL.Du {s x:Operand} {t e k gC:Nat} [hT:nO P t e k gC] (i:Nat) {n:Nat} {dt:Tmp} {a0:Option Addr} {c0:Nat} {rows news:List (List GV)} (hx:aS fr x=.sl k news) (hs:aS fr s=.v (.slice a0 n c0)) (bu:Γ[i]?=some (.vech e k rows (.slice a0 n c0))) (hn:rows.length=n) (h1:lG news=true)
  (hb:n+news.length<=9223372036854775807/\(n+news.length) * gC<=140737488355328)
  (h:∀ a c,GL P m ops Q rest (bm fr (some dt) (.v (.slice a (n+news.length) c))) (oset Γ i (.vech e k (rows++news) (.slice a (n+news.length) c)))) :
  GL P m ops Q (⟨some dt,.call ⟨.builtin .append,#[s,x],#[t,t]⟩,ty,pos,af,none⟩::rest) fr Γ:=by
 cases news with
 | nil =>
  have h0:=h a0 c0;rw [append_nil,show n+([]:List (List GV)).length=n from rfl,C4 bu] at h0;exact GL.Vm i hx hs bu h0
 | cons r rs=>exact GL.pW i hx hs bu hn h1 rfl hb h
theorem GL.Vp {s x:Operand} {t e k gC:Nat} [hT:nO P t e k gC] {i n fz:Nat} {dt:Tmp} {rows news:List (List GV)} (hx:aS fr x=.sl k news) (hs:aS fr s=.vec i n) (bu:Γ[i]?=some (.vec e k fz rows)) (hn:rows.length=n) (h1:lG news=true)
  (hb:n+news.length<=9223372036854775807/\(n+news.length) * gC<=140737488355328)
  (h:GL P m ops Q rest (bm fr (some dt) (.vec i (n+news.length))) (oset Γ i (.vec e k fz (rows++news)))) :
  GL P m ops Q (⟨some dt,.call ⟨.builtin .append,#[s,x],#[t,t]⟩,ty,pos,af,none⟩::rest) fr Γ:=by
 cases news with
 | nil =>
  rw [append_nil,show n+([]:List (List GV)).length=n from rfl,C4 bu] at h;exact GL.Vq hx hs bu hn h
 | cons r rs=>exact GL.app hx hs bu hn h1 rfl hb h
theorem M2:∀ (us vs:List Value),vs.length=us.length->gq vs 0 us=us:=by
 have key:∀ (us a vs:List Value),vs.length=us.length->gq (a++vs) a.length us=a++us:=by
  intro us
  induction us with
  | nil=>intro a vs h;rw [List.eq_nil_of_length_eq_zero h];rfl
  | cons u us ih =>
   intro a vs h
   cases vs with
   | nil=>simp at h
   | cons v vs =>
    have hu:eK (a++v::vs) a.length u=(a++[u])++vs:=by
     clear ih h
     induction a with
     | nil=>rfl
     | cons x a ih=>rw [cons_append,List.length_cons,eK,ih];rfl
    have:=ih (a++[u]) vs (by simpa using h);rw [length_append,List.length_singleton] at this;rw [gq,hu,this];simp
 intro us vs h;exact key us [] vs h
theorem GL.UD {t:TypeId} {z:Value} {agg:Bool} {k:Nat} [hZ:pF P t z] [hT:Ty P t agg k] {dt ts:Tmp} {cs:List GV} {ty2:TypeId} {Yj:String} {Yz:Array Edge} {d2:Option Tmp} (ZU:z.cells.size=k) (hy:lN (cq fr ts)=some cs) (bL:Nat.beq ts dt=false) (gI:jb fr dt=true) (hk:cs.length=k) (h1:lF cs=true) (hp:qV cs=true)
  (h:GL P m ops Q rest (bm (bm fr (some dt) (.box cs 0)) d2 (.v undef)) Γ):GL P m ops Q (⟨some dt,.alloc t,ty,pos,af,none⟩::⟨d2,.store t (.tmp dt) (.tmp ts),ty2,Yj,Yz,none⟩::rest) fr Γ:=fun B K β w l hm hI hF=>by
 refine WL.alloc (z:=z) fun b w1 hn=>?_
 obtain ⟨us,jE,ke⟩:=(hF.nth ts).cells hy
 have EB:ts≠dt:=by intro e;subst e;simp at bL
 have Uj:ev (put l (some dt) (.pointer (some ⟨b,0,none⟩))) (.tmp ts)=nth l ts:=nt EB _;have HO:ev (put l (some dt) (.pointer (some ⟨b,0,none⟩))) (.tmp dt)=.pointer (some ⟨b,0,none⟩):=rI (lR hF gI) _
 have CM:us.length=k:=by rw [ke.1,hk]
 refine WL.st (t:=t) (k:=k) HO Uj hn.blk (by rw [jE];simpa using CM) ah (by rw [jE];simpa using ke.kV h1) fun w2 hs=>?_
 have b8:tR z.cells 0 us=us.toArray:=by
  have:=tC us z.cells.toList 0;rw [M2 us _ (by rw [Array.length_toList,ZU,CM])] at this;simpa using this
 rw [jE,List.toList_toArray,b8] at hs;have XW:tX w w2 b (.cells us.toArray t):=⟨hn.fresh,by rw [hs.size];exact hn.size,hs.blk,hn.ext.step hs.ext fun j hj=>.inl (by subst hj;rw [hn.fresh];exact Nat.le_refl _)⟩;obtain ⟨hle,bf⟩:=hI.sY XW ke (l6 hp);exact h B _ β w2 _ hm bf (((hF.mono hle (cX.refl β)).put (some dt) (Rel.box (K:=kr K b cs) (β:=β) b 0 0 cs (fun j g hg=>by rw [Nat.zero_add];exact tZ hg))).put d2 (.v _))
end
end Go.Xg
namespace Go.Xg
open Go.RowKit Go.Xw Go.Proofs
open Go.Xp (Nd Ar)
open Go.Sp (Src)
open Go.Im (kz ky kx)
attribute [local irreducible] GW GL GO YG GC GA aW aZ
def bW (l:List ai):List (List GV):=l.map fun s=>[GV.v (sv s)]
def bp (l:List Int):List (List GV):=l.map fun i=>[GV.v (ii i)]
def Hd (n:Nat) (h:Value):Prop:=∃ a c,h=.slice a n c
theorem yU (l:List ai) (hl:l.length<=1048576):GC Tryz.prog 41 [strs l] [] fun g Δ=>∃ h,Hd l.length h/\g=.v h/\Δ=[.vech 9 1 (bW l) h]:=by
 have hm:(l.map (fun s=>[GV.v (sv s)])).length=l.length:=by simp
 refine aj Tryz.func41 Tryz.ntmps41 ?_;refine GL.yM rfl ⟨by omega,by omega⟩ ?_;intro a c;refine bK ?_;refine ae ?_;refine GW.loop (fun k:Nat=>l.length - k) (fun k fr Γ=>∃ R Z,fr=[strs l,.U,.U,.v (.slice a (l.map (fun s=>[GV.v (sv s)])).length c),.v (ii (k:Nat)),.U,.U,.U,.U,.U,.U,.U,.U,.U,.U,.U,.U,.U,.U,.U,.U,.U]/\Γ=[.vech 9 1 R (.slice a (l.map (fun s=>[GV.v (sv s)])).length c)]/\k<=l.length/\R=(l.take k).map (fun s=>[GV.v (sv s)])++List.replicate (l.length - k) Z) 0 ?_ ?_
 ·exact ⟨_,_,Wk.ax ao,_,_,rfl,rfl,Nat.zero_le _,by rw [hm];rfl⟩
 rintro k _ _ ⟨R,Z,rfl,rfl,hk,hR⟩
 have mI:R.length=l.length:=by rw [hR];exact ky hk
 have et:R.length=(l.map (fun s=>[GV.v (sv s)])).length:=by rw [hm];exact mI
 by_cases ar:k < l.length
 ·have hx:l[k]?=some l[k]:=by simp [ar]
  have hr:(l.map (fun s=>[GV.v (sv s)]))[k]?=some ((fun s=>[GV.v (sv s)]) l[k]):=by rw [getElem?_map,hx];rfl
  have db:decide ((k:Int) < ((l.map (fun s=>[GV.v (sv s)])).length:Int))=true:=by rw [hm];simpa using ar
  have b8:=kz (f:=(fun s=>[GV.v (sv s)])) (Z:=Z) hx;rw [<-hR] at b8;clear hR;generalize l[k]=x at *;refine ae ?_;refine jj ?_;refine ae ?_;exact ⟨k+1,⟨_,_,Wk.ax ao,_,Z,rfl,rfl,ar,b8⟩,by show l.length - (k+1) < l.length - k;omega⟩
 ·have db:decide ((k:Int) < ((l.map (fun s=>[GV.v (sv s)])).length:Int))=false:=by rw [hm];simpa using ar
  have kT:k=l.length:=by omega
  subst kT;rw [kx] at hR;subst hR;refine ae ?_;refine aX ?_;refine ae ?_
  (repeat (first | refine GW.ret ?_ | refine cr ?_ | refine cn ?_ | refine aK ?_ | refine bS ?_))
  exact rz 0 rfl (by first | exact .inr rfl | exact .inl rfl) rfl (fun x hx=>by rw [List.mem_singleton.1 hx];rfl) ⟨_,⟨_,_,by rw [hm]⟩,rfl,rfl⟩
theorem PN (l:List Int) (hl:l.length<=1048576):GC Tryz.prog 135 [ints l] [] fun g Δ=>∃ h,Hd l.length h/\g=.v h/\Δ=[.vech 3 1 (bp l) h]:=by
 have hm:(l.map (fun i=>[GV.v (ii i)])).length=l.length:=by simp
 refine aj Tryz.func135 Tryz.ntmps135 ?_;refine GL.yM rfl ⟨by omega,by omega⟩ ?_;intro a c;refine bK ?_;refine ae ?_;refine GW.loop (fun k:Nat=>l.length - k) (fun k fr Γ=>∃ R Z,fr=[ints l,.U,.U,.v (.slice a (l.map (fun i=>[GV.v (ii i)])).length c),.v (ii (k:Nat)),.U,.U,.U,.U,.U,.U,.U,.U,.U,.U,.U,.U,.U,.U,.U,.U,.U]/\Γ=[.vech 3 1 R (.slice a (l.map (fun i=>[GV.v (ii i)])).length c)]/\k<=l.length/\R=(l.take k).map (fun i=>[GV.v (ii i)])++List.replicate (l.length - k) Z) 0 ?_ ?_
 ·exact ⟨_,_,Wk.ax ao,_,_,rfl,rfl,Nat.zero_le _,by rw [hm];rfl⟩
 rintro k _ _ ⟨R,Z,rfl,rfl,hk,hR⟩
 have mI:R.length=l.length:=by rw [hR];exact ky hk
 have et:R.length=(l.map (fun i=>[GV.v (ii i)])).length:=by rw [hm];exact mI
 by_cases ar:k < l.length
 ·have hx:l[k]?=some l[k]:=by simp [ar]
  have hr:(l.map (fun i=>[GV.v (ii i)]))[k]?=some ((fun i=>[GV.v (ii i)]) l[k]):=by rw [getElem?_map,hx];rfl
  have db:decide ((k:Int) < ((l.map (fun i=>[GV.v (ii i)])).length:Int))=true:=by rw [hm];simpa using ar
  have b8:=kz (f:=(fun i=>[GV.v (ii i)])) (Z:=Z) hx;rw [<-hR] at b8;clear hR;generalize l[k]=x at *;refine ae ?_;refine jj ?_;refine ae ?_;exact ⟨k+1,⟨_,_,Wk.ax ao,_,Z,rfl,rfl,ar,b8⟩,by show l.length - (k+1) < l.length - k;omega⟩
 ·have db:decide ((k:Int) < ((l.map (fun i=>[GV.v (ii i)])).length:Int))=false:=by rw [hm];simpa using ar
  have kT:k=l.length:=by omega
  subst kT;rw [kx] at hR;subst hR;refine ae ?_;refine aX ?_;refine ae ?_
  (repeat (first | refine GW.ret ?_ | refine cr ?_ | refine cn ?_ | refine aK ?_ | refine bS ?_))
  exact rz 0 rfl (by first | exact .inr rfl | exact .inl rfl) rfl (fun x hx=>by rw [List.mem_singleton.1 hx];rfl) ⟨_,⟨_,_,by rw [hm]⟩,rfl,rfl⟩
theorem Kf (l:List Ar) (hl:l.length<=1048576):GC Tryz.prog 42 [.sl 2 (l.map aB)] [] fun g Δ=>∃ h,Hd l.length h/\g=.v h/\Δ=[.vech 88 2 (List.map aB l) h]:=by
 have hm:(l.map (aB)).length=l.length:=by simp
 refine aj Tryz.func42 Tryz.ntmps42 ?_;refine GL.yM rfl ⟨by omega,by omega⟩ ?_;intro a c;refine bK ?_;refine ae ?_;refine GW.loop (fun k:Nat=>l.length - k) (fun k fr Γ=>∃ R Z,fr=[.sl 2 (l.map aB),.U,.U,.v (.slice a (l.map (aB)).length c),.v (ii (k:Nat)),.U,.U,.U,.U,.U,.U,.U,.U,.U,.U,.U,.U,.U,.U,.U,.U,.U,.U]/\Γ=[.vech 88 2 R (.slice a (l.map (aB)).length c)]/\k<=l.length/\R=(l.take k).map (aB)++List.replicate (l.length - k) Z) 0 ?_ ?_
 ·exact ⟨_,_,Wk.ax ao,_,_,rfl,rfl,Nat.zero_le _,by rw [hm];rfl⟩
 rintro k _ _ ⟨R,Z,rfl,rfl,hk,hR⟩
 have mI:R.length=l.length:=by rw [hR];exact ky hk
 have et:R.length=(l.map (aB)).length:=by rw [hm];exact mI
 by_cases ar:k < l.length
 ·have hx:l[k]?=some l[k]:=by simp [ar]
  have hr:(l.map (aB))[k]?=some ((aB) l[k]):=by rw [getElem?_map,hx];rfl
  have db:decide ((k:Int) < ((l.map (aB)).length:Int))=true:=by rw [hm];simpa using ar
  have b8:=kz (f:=(aB)) (Z:=Z) hx;rw [<-hR] at b8;have hc:=Dj l[k];clear hR;generalize l[k]=x at *;refine ae ?_;refine ab [] (hc) ?_;refine jj ?_;refine ae ?_;exact ⟨k+1,⟨_,_,Wk.ax ao,_,Z,rfl,rfl,ar,b8⟩,by show l.length - (k+1) < l.length - k;omega⟩
 ·have db:decide ((k:Int) < ((l.map (aB)).length:Int))=false:=by rw [hm];simpa using ar
  have kT:k=l.length:=by omega
  subst kT;rw [kx] at hR;subst hR;refine ae ?_;refine aX ?_;refine ae ?_
  (repeat (first | refine GW.ret ?_ | refine cr ?_ | refine cn ?_ | refine aK ?_ | refine bS ?_))
  exact rz 0 rfl (by first | exact .inr rfl | exact .inl rfl) rfl (fun x hx=>by rw [List.mem_singleton.1 hx];rfl) ⟨_,⟨_,_,by rw [hm]⟩,rfl,rfl⟩
def pA (x:Go.Sp.Fn) (h:Value):List GV:=[.v (sv x.name),.v h,.v (ii x.body)]
def qA (x:Go.Sp.Fn) (h:Value):Ob:=.vech 9 1 (bW x.params) h
theorem U7 (x:Go.Sp.Fn) (hp:x.params.length<=1048576):GC Tryz.prog 101 [.agg (au x)] [] fun g Δ=>∃ h,Hd x.params.length h/\g=.agg (pA x h)/\Δ=[qA x h]:=by
 have h0:=yU x.params hp;refine aj Tryz.func101 Tryz.ntmps101 ?_;refine bO [] (h0) ?_;rintro _ _ ⟨_,⟨a1,c1,rfl⟩,rfl,rfl⟩;refine ct ?_;refine ae ?_
 (repeat (first | refine GW.ret ?_ | refine cr ?_ | refine cn ?_ | refine aK ?_ | refine bS ?_))
 refine Jg 3 rfl (by first | exact .inr rfl | exact .inl rfl) rfl rfl rfl rfl ?_ ?_
 ·intro x hx;rw [List.mem_singleton.1 hx];rfl
 ·exact ⟨_,⟨_,_,rfl⟩,rfl,rfl⟩
theorem SA (l:List Go.Sp.Fn) (hl:l.length<=1048576) (he:∀ x∈l,x.params.length<=1048576):GC Tryz.prog 43 [.sl 3 (l.map au)] [] fun g Δ=>∃ h hs,Hd l.length h/\hs.length=l.length/\(∀ (i:Nat) x y,l[i]?=some x->hs[i]?=some y->Hd x.params.length y)/\g=.v h /\
  Δ=.vech 60 3 (List.zipWith pA l hs) h::List.zipWith qA l hs:=by
 have hm:(l.map au).length=l.length:=by simp
 refine aj Tryz.func43 Tryz.ntmps43 ?_;refine GL.yM rfl ⟨by omega,by omega⟩ ?_;intro a c;refine bK ?_;refine ae ?_
 refine GW.loop (fun k:Nat=>l.length - k) (fun k fr Γ=>∃ R Z hs,fr=[.sl 3 (l.map au),.U,.U,.v (.slice a (l.map au).length c),.v (ii (k:Nat)),.U,.U,.U,.U,.U,.U,.U,.U,.U,.U,.U,.U,.U,.U,.U,.U,.U,.U]/\Γ=.vech 60 3 R (.slice a (l.map au).length c)::List.zipWith qA (l.take k) hs/\k<=l.length/\hs.length=k /\
  (∀ (i:Nat) x y,l[i]?=some x->hs[i]?=some y->Hd x.params.length y)/\R=List.zipWith pA (l.take k) hs++List.replicate (l.length - k) Z) 0 ?_ ?_
 ·exact ⟨_,_,Wk.ax ao,_,_,[],rfl,rfl,Nat.zero_le _,rfl,(fun i x y _ h=>by simp at h),by rw [hm];rfl⟩
 rintro k _ _ ⟨R,Z,hs,rfl,rfl,hk,Et,L4,hR⟩
 have mI:R.length=l.length:=by rw [hR,length_append,length_zipWith,length_take,List.length_replicate];omega
 have et:R.length=(l.map au).length:=by rw [hm];exact mI
 by_cases ar:k < l.length
 ·have hx:l[k]?=some l[k]:=by simp [ar]
  have hr:(l.map au)[k]?=some (au l[k]):=by rw [getElem?_map,hx];rfl
  have db:decide ((k:Int) < ((l.map au).length:Int))=true:=by rw [hm];simpa using ar
  have hex:=he _ (mem_of_getElem? hx);have hc:=U7 l[k] hex
  have jD:l.take (k+1)=l.take k++[l[k]]:=by rw [take_add_one,hx];rfl
  have Mi:∀ {γ:Type} (f:Go.Sp.Fn->Value->γ) (h:Value),List.zipWith f (l.take (k+1)) (hs++[h])=List.zipWith f (l.take k) hs++[f l[k] h]:=fun f h=>by
   rw [jD,List.zipWith_append (by rw [length_take];omega)];rfl
  have b8:∀ h,R.set k (pA l[k] h)=List.zipWith pA (l.take (k+1)) (hs++[h])++List.replicate (l.length - (k+1)) Z:=fun h=>by
   have hz:(List.zipWith pA (l.take k) hs).length=k:=by rw [length_zipWith,length_take];omega
   rw [hR,Mi,show l.length - k=(l.length - (k+1))+1 by omega,List.replicate_succ,List.set_append_right _ _ ah,hz,Nat.sub_self,set_cons_zero];simp
  have OL:∀ h,Hd l[k].params.length h->∀ (i:Nat) x y,l[i]?=some x->(hs++[h])[i]?=some y->Hd x.params.length y:=fun h hh i x y h1 h2=>by
   by_cases hik:i < hs.length
   ·rw [List.getElem?_append_left hik] at h2;exact L4 i x y h1 h2
   ·have h3:=(List.getElem?_eq_some_iff.1 h2).1;rw [length_append,List.length_singleton] at h3
    have:i=k:=by omega
    subst this;rw [List.getElem?_append_right ah,Et,Nat.sub_self] at h2;rw [hx] at h1
    cases h1;cases h2;exact hh
  clear hR;have TS:=Mi qA;unfold pA qA at hc;generalize Zs:l[k]=x at *;refine ae ?_;refine bO [] (hc) ?_;rintro _ _ ⟨_,⟨a1,c1,rfl⟩,rfl,rfl⟩;refine ct ?_;refine ae ?_;refine jj ?_;refine ae ?_;refine ⟨k+1,⟨_,_,Wk.ax ao,_,Z,hs++[_],rfl,?_,ar,by simp [Et],OL _ ⟨a1,c1,rfl⟩,b8 _⟩,by show l.length - (k+1) < l.length - k;omega⟩;rw [TS];rfl
 ·have db:decide ((k:Int) < ((l.map au).length:Int))=false:=by rw [hm];simpa using ar
  have kT:k=l.length:=by omega
  subst kT;rw [take_length,Nat.sub_self,List.replicate_zero,append_nil] at hR;subst hR;rw [take_length];refine ae ?_;refine aX ?_;refine ae ?_
  (repeat (first | refine GW.ret ?_ | refine cr ?_ | refine cn ?_ | refine aK ?_ | refine bS ?_))
  refine rz 0 rfl (by first | exact .inr rfl | exact .inl rfl) rfl (fun x hx=>?_) ⟨_,hs,⟨_,_,by rw [hm]⟩,Et,L4,rfl,rfl⟩
  rcases List.mem_cons.1 hx with rfl | hx
  ·rfl
  ·obtain ⟨i,hi⟩:=getElem?_of_mem hx;rw [List.getElem?_zipWith] at hi;split at hi
   ·cases hi;rfl
   ·cases hi
def lf (x:Nd) (h:Value):List GV:=[.v (ii x.kind),.v (ii x.at_),.v (ii x.n),.v (sv x.s),.v h]
def l9 (x:Nd) (h:Value):Ob:=.vech 3 1 (bp x.kids) h
theorem PQ (x:Nd) (hp:x.kids.length<=1048576):GC Tryz.prog 102 [.agg (ay x)] [] fun g Δ=>∃ h,Hd x.kids.length h/\g=.agg (lf x h)/\Δ=[l9 x h]:=by
 have h0:=PN x.kids hp;refine aj Tryz.func102 Tryz.ntmps102 ?_;refine bO [] (h0) ?_;rintro _ _ ⟨_,⟨a1,c1,rfl⟩,rfl,rfl⟩;refine ct ?_;refine ae ?_
 (repeat (first | refine GW.ret ?_ | refine cr ?_ | refine cn ?_ | refine aK ?_ | refine bS ?_))
 refine Jg 3 rfl (by first | exact .inr rfl | exact .inl rfl) rfl rfl rfl rfl ?_ ?_
 ·intro x hx;rw [List.mem_singleton.1 hx];rfl
 ·exact ⟨_,⟨_,_,rfl⟩,rfl,rfl⟩
theorem Nk (l:List Nd) (hl:l.length<=1048576) (he:∀ x∈l,x.kids.length<=1048576):GC Tryz.prog 44 [.sl 5 (l.map ay)] [] fun g Δ=>∃ h hs,Hd l.length h/\hs.length=l.length/\(∀ (i:Nat) x y,l[i]?=some x->hs[i]?=some y->Hd x.kids.length y)/\g=.v h /\
  Δ=.vech 91 5 (List.zipWith lf l hs) h::List.zipWith l9 l hs:=by
 have hm:(l.map ay).length=l.length:=by simp
 refine aj Tryz.func44 Tryz.ntmps44 ?_;refine GL.yM rfl ⟨by omega,by omega⟩ ?_;intro a c;refine bK ?_;refine ae ?_
 refine GW.loop (fun k:Nat=>l.length - k) (fun k fr Γ=>∃ R Z hs,fr=[.sl 5 (l.map ay),.U,.U,.v (.slice a (l.map ay).length c),.v (ii (k:Nat)),.U,.U,.U,.U,.U,.U,.U,.U,.U,.U,.U,.U,.U,.U,.U,.U,.U,.U]/\Γ=.vech 91 5 R (.slice a (l.map ay).length c)::List.zipWith l9 (l.take k) hs/\k<=l.length/\hs.length=k /\
  (∀ (i:Nat) x y,l[i]?=some x->hs[i]?=some y->Hd x.kids.length y)/\R=List.zipWith lf (l.take k) hs++List.replicate (l.length - k) Z) 0 ?_ ?_
 ·exact ⟨_,_,Wk.ax ao,_,_,[],rfl,rfl,Nat.zero_le _,rfl,(fun i x y _ h=>by simp at h),by rw [hm];rfl⟩
 rintro k _ _ ⟨R,Z,hs,rfl,rfl,hk,Et,L4,hR⟩
 have mI:R.length=l.length:=by rw [hR,length_append,length_zipWith,length_take,List.length_replicate];omega
 have et:R.length=(l.map ay).length:=by rw [hm];exact mI
 by_cases ar:k < l.length
 ·have hx:l[k]?=some l[k]:=by simp [ar]
  have hr:(l.map ay)[k]?=some (ay l[k]):=by rw [getElem?_map,hx];rfl
  have db:decide ((k:Int) < ((l.map ay).length:Int))=true:=by rw [hm];simpa using ar
  have hex:=he _ (mem_of_getElem? hx);have hc:=PQ l[k] hex
  have jD:l.take (k+1)=l.take k++[l[k]]:=by rw [take_add_one,hx];rfl
  have Mi:∀ {γ:Type} (f:Nd->Value->γ) (h:Value),List.zipWith f (l.take (k+1)) (hs++[h])=List.zipWith f (l.take k) hs++[f l[k] h]:=fun f h=>by
   rw [jD,List.zipWith_append (by rw [length_take];omega)];rfl
  have b8:∀ h,R.set k (lf l[k] h)=List.zipWith lf (l.take (k+1)) (hs++[h])++List.replicate (l.length - (k+1)) Z:=fun h=>by
   have hz:(List.zipWith lf (l.take k) hs).length=k:=by rw [length_zipWith,length_take];omega
   rw [hR,Mi,show l.length - k=(l.length - (k+1))+1 by omega,List.replicate_succ,List.set_append_right _ _ ah,hz,Nat.sub_self,set_cons_zero];simp
  have OL:∀ h,Hd l[k].kids.length h->∀ (i:Nat) x y,l[i]?=some x->(hs++[h])[i]?=some y->Hd x.kids.length y:=fun h hh i x y h1 h2=>by
   by_cases hik:i < hs.length
   ·rw [List.getElem?_append_left hik] at h2;exact L4 i x y h1 h2
   ·have h3:=(List.getElem?_eq_some_iff.1 h2).1;rw [length_append,List.length_singleton] at h3
    have:i=k:=by omega
    subst this;rw [List.getElem?_append_right ah,Et,Nat.sub_self] at h2;rw [hx] at h1
    cases h1;cases h2;exact hh
  clear hR;have TS:=Mi l9;unfold lf l9 at hc;generalize Zs:l[k]=x at *;refine ae ?_;refine bO [] (hc) ?_;rintro _ _ ⟨_,⟨a1,c1,rfl⟩,rfl,rfl⟩;refine ct ?_;refine ae ?_;refine jj ?_;refine ae ?_;refine ⟨k+1,⟨_,_,Wk.ax ao,_,Z,hs++[_],rfl,?_,ar,by simp [Et],OL _ ⟨a1,c1,rfl⟩,b8 _⟩,by show l.length - (k+1) < l.length - k;omega⟩;rw [TS];rfl
 ·have db:decide ((k:Int) < ((l.map ay).length:Int))=false:=by rw [hm];simpa using ar
  have kT:k=l.length:=by omega
  subst kT;rw [take_length,Nat.sub_self,List.replicate_zero,append_nil] at hR;subst hR;rw [take_length];refine ae ?_;refine aX ?_;refine ae ?_
  (repeat (first | refine GW.ret ?_ | refine cr ?_ | refine cn ?_ | refine aK ?_ | refine bS ?_))
  refine rz 0 rfl (by first | exact .inr rfl | exact .inl rfl) rfl (fun x hx=>?_) ⟨_,hs,⟨_,_,by rw [hm]⟩,Et,L4,rfl,rfl⟩
  rcases List.mem_cons.1 hx with rfl | hx
  ·rfl
  ·obtain ⟨i,hi⟩:=getElem?_of_mem hx;rw [List.getElem?_zipWith] at hi;split at hi
   ·cases hi;rfl
   ·cases hi
def gw (p:Src) (hg ha hf hn:Value) (fs ns:List Value):List Ob :=
 .vech 9 1 (bW p.globals) hg::.vech 88 2 (p.arrays.map aB) ha::.vech 60 3 (List.zipWith pA p.fns fs) hf::(List.zipWith qA p.fns fs++.vech 91 5 (List.zipWith lf p.nodes ns) hn::List.zipWith l9 p.nodes ns)
structure wB (p:Src) (hg ha hf hn:Value) (fs ns:List Value):Prop where
 g:Hd p.globals.length hg
 a:Hd p.arrays.length ha
 f:Hd p.fns.length hf
 n:Hd p.nodes.length hn
 fl:fs.length=p.fns.length
 nl:ns.length=p.nodes.length
 fh:∀ (i:Nat) x y,p.fns[i]?=some x->fs[i]?=some y->Hd x.params.length y
 nh:∀ (i:Nat) x y,p.nodes[i]?=some x->ns[i]?=some y->Hd x.kids.length y
theorem zN {α:Type} {f:α->Value->Ob} (hf:∀ a h,(f a h).mq=true) {l:List α} {hs:List Value}:∀ x∈List.zipWith f l hs,x.mq=true:=fun x hx=>by
 obtain ⟨i,hi⟩:=getElem?_of_mem hx;rw [List.getElem?_zipWith] at hi;split at hi
 ·cases hi;exact hf _ _
 ·cases hi
theorem vO (p:Src) (hg ha hf hn:Value) (fs ns:List Value):∀ x∈gw p hg ha hf hn fs ns,x.mq=true:=fun x hx=>by
 unfold gw at hx
 rcases List.mem_cons.1 hx with rfl | hx
 ·rfl
 rcases List.mem_cons.1 hx with rfl | hx
 ·rfl
 rcases List.mem_cons.1 hx with rfl | hx
 ·rfl
 rcases List.mem_append.1 hx with hx | hx
 ·exact zN (fun _ _=>rfl) x hx
 rcases List.mem_cons.1 hx with rfl | hx
 ·rfl
 ·exact zN (fun _ _=>rfl) x hx
theorem Gc {α:Type} {f:α->Value->Ob} (hf:∀ a h,(f a h).mq=true) {l:List α} {hs:List Value} (r:Nat->Nat):(List.zipWith f l hs).map (Ob.dk r)=List.zipWith f l hs:=by
 refine (List.map_congr_left fun x hx=>?_).trans (List.map_id _);have:=zN hf x hx
 cases x <;> first | rfl | cases this
theorem A0 (x:Src) (hg:x.globals.length<=1048576) (ha:x.arrays.length<=1048576) (hf:x.fns.length<=1048576) (uv:∀ f∈x.fns,f.params.length<=1048576) (hn:x.nodes.length<=1048576) (sk:∀ n∈x.nodes,n.kids.length<=1048576) :
  GC Tryz.prog 12 [.agg (av x)] [] fun g Δ=>∃ hg ha hf hn fs ns,wB x hg ha hf hn fs ns/\g=.agg [.v hg,.v ha,.v hf,.v hn]/\Δ=gw x hg ha hf hn fs ns:=by
 have h0:=yU x.globals hg;have h1:=Kf x.arrays ha;have h2:=SA x.fns hf uv;have h3:=Nk x.nodes hn sk;refine aj Tryz.func12 Tryz.ntmps12 ?_;refine bO [] (h0) ?_;rintro _ _ ⟨_,⟨a0,c0,rfl⟩,rfl,rfl⟩;refine ct ?_;refine ae ?_;refine bO [] (h1) ?_;rintro _ _ ⟨_,⟨a1,c1,rfl⟩,rfl,rfl⟩;refine ct ?_;refine ae ?_;refine bO [] (h2) ?_;rintro _ _ ⟨_,fs,⟨a2,c2,rfl⟩,e1,e2,rfl,rfl⟩;rw [List.map_cons,Gc (fun _ _=>rfl)];refine ct ?_;refine ae ?_;refine bO [] (h3) ?_;rintro _ _ ⟨_,ns,⟨a3,c3,rfl⟩,e3,e4,rfl,rfl⟩;rw [List.map_cons,Gc (fun _ _=>rfl)];refine ct ?_;refine ae ?_
 (repeat (first | refine GW.ret ?_ | refine cr ?_ | refine cn ?_ | refine aK ?_ | refine bS ?_))
 refine Jg 3 rfl (by first | exact .inr rfl | exact .inl rfl) rfl rfl rfl rfl ?_ ?_
 ·exact vO x _ _ _ _ fs ns
 ·exact ⟨_,_,_,_,fs,ns,⟨⟨_,_,rfl⟩,⟨_,_,rfl⟩,⟨_,_,rfl⟩,⟨_,_,rfl⟩,e1,e3,e2,e4⟩,rfl,rfl⟩
end Go.Xg
namespace Go.Xg
open Go.RowKit Go.Xw Go.Proofs
open Go.Xp (Nd T Ar aO az)
open Go.Sp (Src)
open Go.Im
attribute [local irreducible] GW GL GO YG GC GA aW aZ
section
variable {B:Bs} {K:Fz} {β:Bt} {w:World} {l:List Value} {fr:List GV} {A C:List Ob}
theorem gB {x y:Operand} {E k:Nat} {rows:List (List GV)} {h z:Value} (hI:Inv B K β (A++(.vech E k rows h::C)) w) (hF:FR K β fr l) (hx:aS fr x=.v h) (hy:aS fr y=.v z) :
  ∃ K1,iO K1 w/\fH K1 (fun _=>.no) w/\aY K1 (fun _=>.no) ([x,y].map (ev l)) [.sl k rows,.v z]:=by
 obtain ⟨K1,hk,h1,h2,h3⟩:=hI.view (i:=A.length) (E:=E) (k:=k) (rows:=rows) (x:=h) (by rw [List.getElem?_append_right (Nat.le_refl _),Nat.sub_self];rfl);refine ⟨K1,h1,h2,?_⟩;show aY K1 _ [ev l x,ev l y] _;rw [hF.gD hx,hF.gD hy];exact .cons h3 (.cons (.v _) .nil)
end
theorem uS (l:List ai):(bW l).length=l.length:=by simp [bW]
theorem NM (xs:List Int) (s:Int) (hl:xs.length<=1099511627776):GF Tryz.prog 110 [ints xs,.v (ii s)] [] (.v (ii (cJ (fun x=>s==x) xs))) []:=by
 have eu:(xs.map fun i=>[GV.v (ii i)]).length=xs.length:=by simp
 refine aj Tryz.func110 Tryz.ntmps110 ?_;refine GW.range (xs.map fun i=>[GV.v (ii i)]).length (fun k fr Γ=>fr=[ints xs,.v (ii s),.U,.U,.U,.U,ints xs,.v (ii ((xs.map fun i=>[GV.v (ii i)]).length:Int)),.v (ii (k:Nat)),.U,.U,.U,.U,.U,.U,.U,.U,.U,.U]/\Γ=[]/\((xs.take k).all fun x=>!(s==x))=true) ?_ ah ?_ ?_ ?_
 ·exact ⟨_,_,Wk.ax ao,rfl,rfl,rfl⟩
 ·rintro k _ _ ⟨rfl,rfl,_⟩;exact ⟨rfl,rfl,rfl⟩
 ·rintro k _ _ ar ⟨rfl,rfl,aR⟩;rw [eu] at ar;obtain ⟨x,cQ⟩:∃ x,xs[k]?=some x:=⟨xs[k],by simp [ar]⟩;have hr:=oQ cQ;have bt:=mA (f:=fun y:Int=>s==y) cQ
  have hit:=fun h0=>nm (f:=fun y:Int=>s==y) cQ h0 aR
  cases hb:(s==x) with
  | true =>
   rw [hit hb];exact aw
  | false =>
   refine ae ?_;exact ⟨rfl,rfl,_,_,Wk.ax ao,rfl,rfl,by rw [bt,aR,hb];rfl⟩
 ·rintro _ _ ⟨rfl,rfl,aR⟩;rw [eu,take_length] at aR;rw [kA aR];exact aw
theorem tH (xs:List Int) (s:Int) (hl:xs.length<=1099511627776):GF Tryz.prog 56 [ints xs,.v (ii s)] [] (.v (.bool (xs.contains s))) []:=by
 have hi:=NM xs s hl
 have he:xs.contains s=xs.any (fun x=>s==x):=by rw [List.contains_eq_any_beq]
 rw [he,<-Cx];generalize cJ (fun x=>s==x) xs=i at *;refine aj Tryz.func56 Tryz.ntmps56 ?_;refine ab [] (hi) ?_;exact aq
end Go.Xg
set_option maxHeartbeats 4000000
namespace Go.Xg
open Go.RowKit Go.Xw Go.Proofs
open Go.Xp (Nd T Ar aO az)
open Go.Sp (Src)
open Go.Im
attribute [local irreducible] GW GL GO YG GC GA aW aZ
theorem Fl (l:List ai):lG (l.map fun s=>[GV.v (sv s)])=true:=by
 induction l with
 | nil=>rfl
 | cons s l ih=>rw [List.map_cons,lG,ih];rfl
theorem GW.Li {P:Program} {m:Nat} {c:Code} {Q:dH} {fr bV:List GV} {Γ aJ:List Ob} (h1:rS fr bV) (h2:Γ=aJ) (h:GW P m c Q bV aJ):GW P m c Q fr Γ:=by
 subst h2;exact GW.wk (Wk.ax h1) h
end Go.Xg
namespace Go.Xg
open Go.RowKit Go.Xw Go.Proofs
open Go.Xp (Nd T Ar aO az)
open Go.Sp (Src)
open Go.Im
attribute [local irreducible] GW GL GO YG GC GA aW aZ
def tj (n:Nd):Bool:=(n.kind==4&&n.s==[115,105,122,101])&&((n.kids.length:Int)==1)
theorem Ay (p:Src) (a:Nat) (n:Nd) (hn:p.nodes[a]?=some n):GF Tryz.prog 172 [.agg (av p),.v (ii (a:Nat))] [] (.v (.bool (tj n))) []:=by
 have hr:=jw hn
 have eW:(n.kids.map fun i=>[GV.v (ii i)]).length=n.kids.length:=by simp
 unfold tj;rw [<-eW];unfold ay ints at hr;generalize (n.kids.map fun i=>[GV.v (ii i)])=kk at *
 cases h1:(n.kind==4)
 all_goals cases h2:(n.s==[115,105,122,101])
 all_goals
  refine aj Tryz.func172 Tryz.ntmps172 ?_;exact aq
theorem UB (p:Src) (s:ai) (hn:p.fns.length<=1099511627776):GF Tryz.prog 245 [.agg (av p),.v (sv s)] [] (.v (ii (mr p s))) []:=by
 have hF:=Ls p s hn;unfold mr oh ph iu
 cases h1:(s==[103,101,116]) with
 | true =>
  rw [if_pos (by simpa using h1)];refine aj Tryz.func245 Tryz.ntmps245 ?_;exact aq
 | false =>
  rw [if_neg (by simpa using h1)]
  cases h2:(s==[112,117,116]) with
  | true =>
   rw [if_pos (.inl (by simpa using h2))];refine aj Tryz.func245 Tryz.ntmps245 ?_;exact aq
  | false =>
   cases h3:(s==[115,105,122,101]) with
   | true =>
    rw [if_pos (.inr (by simpa using h3))];refine aj Tryz.func245 Tryz.ntmps245 ?_;exact aq
   | false =>
    rw [if_neg (by simpa using And.intro (show ¬ s=[112,117,116] by simpa using h2) (show ¬ s=[115,105,122,101] by simpa using h3))];unfold cJ at hF
    cases hx:p.fns.findIdx? (fun f:Go.Sp.Fn=>f.name==s) with
    | none =>
     rw [hx] at hF
     have hd:decide ((0:Int) <= -1)=false:=by decide
     refine aj Tryz.func245 Tryz.ntmps245 ?_;refine ab [] (hF) ?_;exact aq
    | some i =>
     rw [hx] at hF;have hi:i < p.fns.length:=(List.findIdx?_eq_some_iff_getElem.1 hx).1;obtain ⟨f,hf⟩:∃ f,p.fns[i]?=some f:=⟨p.fns[i],by simp [hi]⟩
     have hr:(p.fns.map au)[i]?=some (au f):=by rw [getElem?_map,hf];rfl
     have cE:(f.params.map fun s=>[GV.v (sv s)]).length=f.params.length:=by simp
     have hd:decide ((0:Int)<=((i:Nat):Int))=true:=by simp
     unfold au at hr;simp only at hF |-;unfold kW;rw [hf];simp only;rw [<-cE];refine aj Tryz.func245 Tryz.ntmps245 ?_;refine ab [] (hF) ?_;exact aq
end Go.Xg
namespace Go.Xg
open Go.RowKit Go.Xw Go.Proofs
open Go.Xp (Nd T Ar aO az dQ bQ)
open Go.Sp (Src)
open Go.Im
attribute [local irreducible] GW GL GO YG GC GA aW aZ
theorem HV {p:Src} {a:Nat} {n:Nd} {l:List T} (b6:eg p.nodes a (.mk n l)):dI (.mk n l)=tj n:=by
 rw [eg] at b6;unfold dI tj iu
 congr 1
 rw [b6.2.1,dQ]
 exact Bool.eq_iff_iff.2 (by
  show ((l.length==1)=true)↔_
  simp only [beq_iff_eq];omega)
theorem Gp (p:Src) (a:Nat) (n:Nd) (l:List T) (ls:List ai) (b6:eg p.nodes a (.mk n l)) (gH:p.fns.length<=1099511627776) (iU:p.arrays.length<=1099511627776) (lP:ls.length<=1099511627776) :
  GF Tryz.prog 209 [.agg (av p),.v (ii (a:Nat)),strs ls] [] (.v (ii (eN p (.mk n l) ls))) []:=by
 have hs:=HV b6;rw [eg] at b6;obtain ⟨hn,hk,tf⟩:=b6;have hS:=Ay p a n hn;have hr:=jw hn
 have eW:(n.kids.map fun i=>[GV.v (ii i)]).length=l.length:=by rw [length_map,hk,dQ]
 unfold eN;rw [hs]
 cases hz:tj n with
 | true =>
  rw [hz] at hS;rw [if_pos rfl]
  have eX:l.length=1:=by
   unfold tj at hz;simp only [Bool.and_eq_true,beq_iff_eq] at hz;rw [hk,dQ] at hz;omega
  obtain ⟨u,rfl⟩:∃ u,l=[u]:=by
   match l,eX with
   | [u],_=>exact ⟨u,rfl⟩
  have hm:p.nodes[a+1]?=some u.n:=by
   rw [dj] at tf;have:=tf.1
   cases u;rw [eg] at this;exact this.1
  have yF:n.kids[0]?=some (((a+1:Nat)):Int):=by rw [hk];rfl
  have qO:=oQ yF;have fR:=jw hm;show GF _ _ _ _ (.v (ii (if fP p u.n ls=true then 24 else 0))) _;generalize u.n=m at *;have hA:=Cm p m.s iU;have hL:=jP ls m.s lP;have hb:fP p m ls=((m.kind != 2 || decide (cJ (fun x:Ar=>x.name==m.s) p.arrays < 0)) || ls.contains m.s):=rfl;rw [hb];generalize cJ (fun x:Ar=>x.name==m.s) p.arrays=z at *;unfold ay at hr fR
  cases h1:(m.kind != 2) with
  | true =>
   refine aj Tryz.func209 Tryz.ntmps209 ?_;refine ab [] (hS) ?_;refine aE (aH [0,1,2,3,4,5,6,7] (.a 8 (.a 9 .nil))) ?_;refine ak ?_;exact aw
  | false =>
   cases h2:decide (z < 0) with
   | true =>
    refine aj Tryz.func209 Tryz.ntmps209 ?_;refine ab [] (hS) ?_;refine aE (aH [0,1,2,3,4,5,6,7] (.a 8 (.a 9 .nil))) ?_;refine ak ?_;refine ae ?_;refine ab [] (hA) ?_;exact aq
   | false =>
    generalize ls.contains m.s=b at *;cases b
    all_goals
     refine aj Tryz.func209 Tryz.ntmps209 ?_;refine ab [] (hS) ?_;refine aE (aH [0,1,2,3,4,5,6,7] (.a 8 (.a 9 .nil))) ?_;refine ak ?_;refine ae ?_;refine ab [] (hA) ?_;refine ab [] (hL) ?_;exact aq
 | false =>
  rw [hz] at hS;rw [if_neg (by decide)];have hM:=UB p n.s gH;show GF _ _ _ _ (.v (ii (if mr p n.s = -1 then 22 else if mr p n.s=(l.length:Int) then 0 else 23))) _;generalize mr p n.s=z at *;rw [<-eW];unfold ay at hr;unfold ints at hr;generalize (n.kids.map fun i=>[GV.v (ii i)])=kk at *
  cases h1:(z == -1) with
  | true =>
   rw [if_pos (by simpa using h1)];refine aj Tryz.func209 Tryz.ntmps209 ?_;refine ab [] (hS) ?_;refine ab [] (hM) ?_;exact aq
  | false =>
   rw [if_neg (by simpa using h1)]
   cases h2:(z==(kk.length:Int)) with
   | true =>
    rw [if_pos (by simpa using h2)];refine aj Tryz.func209 Tryz.ntmps209 ?_;refine ab [] (hS) ?_;refine ab [] (hM) ?_;exact aq
   | false =>
    rw [if_neg (by simpa using h2)];refine aj Tryz.func209 Tryz.ntmps209 ?_;refine ab [] (hS) ?_;refine ab [] (hM) ?_;exact aq
theorem GM (p:Src) (a:Nat) (n:Nd) (l:List T) (ls:List ai) (b6:eg p.nodes a (.mk n l)) (gH:p.fns.length<=1099511627776) (iU:p.arrays.length<=1099511627776) (jU:p.globals.length<=1099511627776) (lP:ls.length<=1099511627776) :
  GF Tryz.prog 173 [.agg (av p),.v (ii (a:Nat)),strs ls] [] (.v (ii (bR p (.mk n l) ls))) []:=by
 have hC:=Gp p a n l ls b6 gH iU lP
 have hn:p.nodes[a]?=some n:=by rw [eg] at b6;exact b6.1
 clear b6;have hr:=jw hn;have hL:=jP ls n.s lP;have hG:=jP p.globals n.s jU;have hA:=Cm p n.s iU
 have pb:(ls.map fun s=>[GV.v (sv s)]).length=ls.length:=by simp
 have he:bR p (.mk n l) ls=(if n.kind=13 then (if ls.contains n.s=true then 21 else if ls.length>=40 then 26 else 0)
  else if n.kind=2\/n.kind=7 then (if ls.contains n.s=false/\p.globals.contains n.s=false then 22 else 0)
  else if n.kind=3\/n.kind=8 then (if ls.contains n.s=true\/cJ (fun x:Ar=>x.name==n.s) p.arrays < 0 then 24 else 0)
  else if n.kind=4 then eN p (.mk n l) ls else 0):=rfl
 rw [he];generalize eN p (.mk n l) ls=cf at *;obtain ⟨kd,at_,nn,s,ks⟩:=n;simp only at *;unfold ay at hr;simp only at hr;generalize cJ (fun x:Ar=>x.name==s) p.arrays=z at *;generalize ls.contains s=b at *;generalize p.globals.contains s=g at *;rw [<-pb]
 by_cases eB:kd=13
 ·subst eB
  have Io:((13:Int)==13)=true:=by decide
  rw [if_pos rfl]
  cases b with
  | true =>
   refine aj Tryz.func173 Tryz.ntmps173 ?_;refine ab [] (hL) ?_;exact aq
  | false =>
   cases h4:decide ((40:Int)<=(((ls.map fun s=>[GV.v (sv s)]).length:Nat):Int)) with
   | true =>
    rw [if_neg (by decide),if_pos (by simp at h4;omega)];refine aj Tryz.func173 Tryz.ntmps173 ?_;refine ab [] (hL) ?_;exact aq
   | false =>
    rw [if_neg (by decide),if_neg (by simp at h4;omega)];refine aj Tryz.func173 Tryz.ntmps173 ?_;refine ab [] (hL) ?_;exact aq
 rw [if_neg eB]
 by_cases h2:kd=2
 ·subst h2
  have Io:((2:Int)==13)=false:=by decide
  have q2:((2:Int)==2)=true:=by decide
  rw [if_pos (by decide)]
  cases b with
  | true =>
   refine aj Tryz.func173 Tryz.ntmps173 ?_;refine ab [] (hL) ?_;exact aq
  | false =>
   cases g
   all_goals
    refine aj Tryz.func173 Tryz.ntmps173 ?_;refine ab [] (hL) ?_;refine ab [] (hG) ?_;exact aq
 by_cases h7:kd=7
 ·subst h7
  have Io:((7:Int)==13)=false:=by decide
  have q2:((7:Int)==2)=false:=by decide
  have q7:((7:Int)==7)=true:=by decide
  rw [if_pos (by decide)]
  cases b with
  | true =>
   refine aj Tryz.func173 Tryz.ntmps173 ?_;refine ab [] (hL) ?_;exact aq
  | false =>
   cases g
   all_goals
    refine aj Tryz.func173 Tryz.ntmps173 ?_;refine ab [] (hL) ?_;refine ab [] (hG) ?_;exact aq
 rw [if_neg (by rintro (h | h);(· exact h2 h);exact h7 h)]
 by_cases h3:kd=3
 ·subst h3
  have Io:((3:Int)==13)=false:=by decide
  have q2:((3:Int)==2)=false:=by decide
  have q7:((3:Int)==7)=false:=by decide
  have q3:((3:Int)==3)=true:=by decide
  rw [if_pos (by decide)]
  cases b with
  | true =>
   refine aj Tryz.func173 Tryz.ntmps173 ?_;refine ab [] (hL) ?_;exact aq
  | false =>
   cases hz:decide (z < 0) with
   | true =>
    rw [if_pos (.inr (by simpa using hz))];refine aj Tryz.func173 Tryz.ntmps173 ?_;refine ab [] (hL) ?_;refine ab [] (hA) ?_;exact aq
   | false =>
    rw [if_neg (by rintro (h | h);(· cases h);(· simp at hz;omega))];refine aj Tryz.func173 Tryz.ntmps173 ?_;refine ab [] (hL) ?_;refine ab [] (hA) ?_;exact aq
 by_cases h8:kd=8
 ·subst h8
  have Io:((8:Int)==13)=false:=by decide
  have q2:((8:Int)==2)=false:=by decide
  have q7:((8:Int)==7)=false:=by decide
  have q3:((8:Int)==3)=false:=by decide
  have q8:((8:Int)==8)=true:=by decide
  rw [if_pos (by decide)]
  cases b with
  | true =>
   refine aj Tryz.func173 Tryz.ntmps173 ?_;refine ab [] (hL) ?_;exact aq
  | false =>
   cases hz:decide (z < 0) with
   | true =>
    rw [if_pos (.inr (by simpa using hz))];refine aj Tryz.func173 Tryz.ntmps173 ?_;refine ab [] (hL) ?_;refine ab [] (hA) ?_;exact aq
   | false =>
    rw [if_neg (by rintro (h | h);(· cases h);(· simp at hz;omega))];refine aj Tryz.func173 Tryz.ntmps173 ?_;refine ab [] (hL) ?_;refine ab [] (hA) ?_;exact aq
 rw [if_neg (by rintro (h | h);(· exact h3 h);exact h8 h)]
 by_cases h4:kd=4
 ·subst h4
  have Io:((4:Int)==13)=false:=by decide
  have q2:((4:Int)==2)=false:=by decide
  have q7:((4:Int)==7)=false:=by decide
  have q3:((4:Int)==3)=false:=by decide
  have q8:((4:Int)==8)=false:=by decide
  have q4:((4:Int)==4)=true:=by decide
  rw [if_pos rfl];refine aj Tryz.func173 Tryz.ntmps173 ?_;refine ab [] (hL) ?_;refine ab [] (hC) ?_;exact aq
 rw [if_neg h4]
 have Io:(kd==13)=false:=by simpa using eB
 have q2:(kd==2)=false:=by simpa using h2
 have q7:(kd==7)=false:=by simpa using h7
 have q3:(kd==3)=false:=by simpa using h3
 have q8:(kd==8)=false:=by simpa using h8
 have q4:(kd==4)=false:=by simpa using h4
 refine aj Tryz.func173 Tryz.ntmps173 ?_;refine ab [] (hL) ?_;exact aq
end Go.Xg
namespace Go.Xg
open Go.RowKit Go.Xw Go.Proofs
open Go.Xp (Nd T Ar aO az dQ bQ)
open Go.Sp (Src)
open Go.Im
attribute [local irreducible] GW GL GO YG GC GA aW aZ
theorem Te {K K1:Fz} {β:Bt} {v:Value} {gs:List GV} (hk:cj K K1) (hp:∀ g∈gs,g.pc=true) (h:Rel K β v (.agg gs)):Rel K1 (fun _=>.no) v (.agg gs):=by
 cases h with
 | agg vs cs hl h =>
  exact .agg vs gs hl fun i v g h1 h2=>((h i v g h1 h2).mono hk (cX.refl β)).pc (hp g (mem_of_getElem? h2))
theorem Ja (p:Src):∀ g∈av p,g.pc=true:=fun g hg=>by
 simp only [av,List.mem_cons,List.not_mem_nil,or_false] at hg
 rcases hg with rfl | rfl | rfl | rfl <;> rfl
theorem ni {B:Bs} {K:Fz} {β:Bt} {w:World} {l:List Value} {fr:List GV} {A C:List Ob} {p:Src} {x y u:Operand} {E k:Nat} {rows:List (List GV)} {h z:Value} (hI:Inv B K β (A++(.vech E k rows h::C)) w) (hF:FR K β fr l) (hx:aS fr x=.agg (av p)) (hy:aS fr y=.v z) (hu:aS fr u=.v h) :
  ∃ K1,iO K1 w/\fH K1 (fun _=>.no) w/\aY K1 (fun _=>.no) ([x,y,u].map (ev l)) [.agg (av p),.v z,.sl k rows]:=by
 obtain ⟨K1,hk,h1,h2,h3⟩:=hI.view (i:=A.length) (E:=E) (k:=k) (rows:=rows) (x:=h) (by rw [List.getElem?_append_right (Nat.le_refl _),Nat.sub_self];rfl);have hr:=hF.ev x;rw [hx] at hr;refine ⟨K1,h1,h2,?_⟩;show aY K1 _ [ev l x,ev l y,ev l u] _;rw [hF.gD hy,hF.gD hu];exact .cons (Te hk (Ja p) hr) (.cons (.v _) (.cons h3 .nil))
theorem Sv (p:Src) (a:Nat) (n:Nd) (l:List T) (ls:List ai) (c:CS) (E1 E5 E6:TypeId) (ad:Option Addr) (cp:Nat) (b6:eg p.nodes a (.mk n l)) (gH:p.fns.length<=1099511627776) (iU:p.arrays.length<=1099511627776) (jU:p.globals.length<=1099511627776) (lP:ls.length<=1099511627776) :
  GF Tryz.prog 171 [.v (ii (a:Nat)),.v (.slice ad ls.length cp),.loc 0 0,.loc 1 0,.box (av p) 0,.loc 2 0] [.box E1 [.v (ii c.code)],.box E5 [.v (ii c.skip)],.box E6 [.v (ii c.place)],.vech 9 1 (bW ls) (.slice ad ls.length cp)] (.tup [])
   [.box E1 [.v (ii (b9 p c a (.mk n l) ls).code)],.box E5 [.v (ii (b9 p c a (.mk n l) ls).skip)],.box E6 [.v (ii (b9 p c a (.mk n l) ls).place)],.vech 9 1 (bW ls) (.slice ad ls.length cp)]:=by
 have hs:=HV b6;have hN:=GM p a n l ls b6 gH iU jU lP;rw [eg] at b6;obtain ⟨hn,hk,tf⟩:=b6;have hS:=Ay p a n hn;have hr:=jw hn;obtain ⟨code,place,skip⟩:=c;unfold b9;rw [hs];simp only;generalize bR p (.mk n l) ls=z at *
 cases h1:(code != 0) with
 | true =>
  rw [if_pos (.inl (by simpa using h1))];refine aj Tryz.func171 Tryz.ntmps171 ?_;exact fO
 | false =>
  cases h2:(((a:Nat):Int)==skip) with
  | true =>
   rw [if_pos (.inr (by simpa using h2))];refine aj Tryz.func171 Tryz.ntmps171 ?_;exact fO
  | false =>
   rw [if_neg (by rintro (h | h);(· simp at h1;exact h h1);(· simp at h2;exact h2 h))];simp only
   cases hz:tj n with
   | false =>
    rw [hz] at hS;rw [if_neg (show ¬ (false=true) by decide)];unfold ay at hr
    cases h3:(z != 0) with
    | true =>
     rw [if_pos (by simpa using h3)];refine aj Tryz.func171 Tryz.ntmps171 ?_;refine ab [] (hS) ?_;refine GL.borrow hN (fun B K β w l hI hF=>ni (A:=[_,_,_]) (C:=[]) hI hF rfl rfl rfl) ?_;refine bZ ?_;exact lI
    | false =>
     rw [if_neg (by simpa using h3)];refine aj Tryz.func171 Tryz.ntmps171 ?_;refine ab [] (hS) ?_;refine GL.borrow hN (fun B K β w l hI hF=>ni (A:=[_,_,_]) (C:=[]) hI hF rfl rfl rfl) ?_;refine bZ ?_;exact lI
   | true =>
    rw [hz] at hS;rw [if_pos rfl]
    have eX:l.length=1:=by
     unfold tj at hz;simp only [Bool.and_eq_true,beq_iff_eq] at hz;rw [hk,dQ] at hz;omega
    obtain ⟨u,rfl⟩:∃ u,l=[u]:=by
     match l,eX with
     | [u],_=>exact ⟨u,rfl⟩
    have hm:p.nodes[a+1]?=some u.n:=by
     rw [dj] at tf;have:=tf.1
     cases u;rw [eg] at this;exact this.1
    have yF:n.kids[0]?=some (((a+1:Nat)):Int):=by rw [hk];rfl
    have qO:=oQ yF;have fR:=jw hm;rw [show mO (.mk n [u])=u.n from rfl];generalize u.n=m at *;unfold ay at hr fR
    cases h4:(m.kind != 2) with
    | true =>
     rw [if_pos (show m.kind≠2 by simpa using h4)]
     cases h3:(z != 0) with
     | true =>
      rw [if_pos (by simpa using h3)];refine aj Tryz.func171 Tryz.ntmps171 ?_;refine ab [] (hS) ?_;refine GL.borrow hN (fun B K β w l hI hF=>ni (A:=[_,_,_]) (C:=[]) hI hF rfl rfl rfl) ?_;refine bZ ?_;exact lI
     | false =>
      rw [if_neg (by simpa using h3)];refine aj Tryz.func171 Tryz.ntmps171 ?_;refine ab [] (hS) ?_;refine GL.borrow hN (fun B K β w l hI hF=>ni (A:=[_,_,_]) (C:=[]) hI hF rfl rfl rfl) ?_;refine bZ ?_;exact lI
    | false =>
     rw [if_neg (show ¬ (m.kind≠2) by simpa using h4)]
     cases h3:(z != 0) with
     | true =>
      rw [if_pos (by simpa using h3)];refine aj Tryz.func171 Tryz.ntmps171 ?_;refine ab [] (hS) ?_;refine GL.borrow hN (fun B K β w l hI hF=>ni (A:=[_,_,_]) (C:=[]) hI hF rfl rfl rfl) ?_;refine bZ ?_;exact lI
     | false =>
      rw [if_neg (by simpa using h3)];refine aj Tryz.func171 Tryz.ntmps171 ?_;refine ab [] (hS) ?_;refine GL.borrow hN (fun B K β w l hI hF=>ni (A:=[_,_,_]) (C:=[]) hI hF rfl rfl rfl) ?_;refine bZ ?_;exact lI
end Go.Xg
namespace Go.Xg
open Go.RowKit Go.Xw Go.Proofs
open Go.Xp (Nd T Ar aO az dQ)
open Go.Sp (Src)
open Go.Im
attribute [local irreducible] GW GL GO YG GC GA aW aZ
def IF (p:Src):GV:=.fn (.func 171) [] [.loc 0 0,.loc 1 0,.box (av p) 0,.loc 2 0]
def Q3 (p:Src):GV:=.fn (.func 127) [] [.loc 3 0,.loc 4 0,.box (av p) 0,.loc 5 0]
def C6 (p:Src) (E1 E5 E6 E2 E3 E4:TypeId) (s:CS) (ls:List ai) (ad:Option Addr) (cp:Nat):List Ob :=
 [.box E1 [.v (ii s.code)],.box E5 [.v (ii s.skip)],.box E6 [.v (ii s.place)],.box E2 [IF p],.box E3 [.v (.slice ad ls.length cp)],.box E4 [Q3 p],.vech 9 1 (bW ls) (.slice ad ls.length cp)]
theorem P0 (p:Src) (E1 E5 E6 E2 E3 E4:TypeId) (hp:p.nodes.length<=1048576) (eW:∀ n∈p.nodes,n.kids.length<=1099511627776) (gH:p.fns.length<=1099511627776) (iU:p.arrays.length<=1099511627776) (jU:p.globals.length<=1099511627776):∀ (N:Nat) (t:T),aO t<=N->∀ (a:Nat) (s:CS) (ls:List ai) (ad:Option Addr) (cp:Nat),eg p.nodes a t->ls.length+aO t<=8388608 ->
  GC Tryz.prog 127 [.v (ii (a:Nat)),.loc 3 0,.loc 4 0,.box (av p) 0,.loc 5 0] (C6 p E1 E5 E6 E2 E3 E4 s ls ad cp) fun g Δ=>g=.tup []/\∃ pG pI,Δ=C6 p E1 E5 E6 E2 E3 E4 (ij (b9 p) t a s ls).1 (ij (b9 p) t a s ls).2 pG pI:=by
 intro N
 induction N with
 | zero=>intro t h;have:=jN t;omega
 | succ N ih =>
 intro t hN a s ls ad cp b6 lP
 cases t with
 | mk n l =>
 rw [Go.Xp.aO] at hN lP;have Ud:=b6;rw [eg] at b6;obtain ⟨hn,hk,tf⟩:=b6;rw [ij];have hr:=jw hn;have nY:=eW n (mem_of_getElem? hn);have ht:=Sv p a n l ls s E1 E5 E6 ad cp Ud gH iU jU ah;generalize fF:(b9 p) s a (.mk n l) ls=s1 at *
 have Ak:n.kids.length=l.length:=by rw [hk,dQ]
 unfold ay at hr;unfold C6 IF Q3;refine aj Tryz.func127 Tryz.ntmps127 ?_;refine GL.vd [0,1,2,6] ht rfl rfl rfl (by repeat (first | exact trivial | refine ⟨rfl,?_⟩)) ?_;rintro _ _ ⟨rfl,rfl⟩;refine ct ?_;refine ae ?_;refine GW.range (n.kids.map fun i=>[GV.v (ii i)]).length (fun k fr Γ=>∃ pG pI,fr=[.v (ii (a:Nat)),.loc 3 0,.loc 4 0,.box (av p) 0,.loc 5 0,.U,.U,.U,.U,.U,.U,.U,.U,.U,.U,.U,.U,ints n.kids,.v (ii ((n.kids.map fun i=>[GV.v (ii i)]).length:Int)),.v (ii (k:Nat)),.U,.U,.U,.U,.U,.U,.U,.U,.U,.U,.U,.U,.U,.U,.U,.U,.U,.U,.U,.U,.U,.U,.U]/\Γ=C6 p E1 E5 E6 E2 E3 E4 (dP (b9 p) (l.take k) (a+1) s1 ls).1 (dP (b9 p) (l.take k) (a+1) s1 ls).2 pG pI) ?_ (by rw [length_map];omega) ?_ ?_ ?_
 ·exact ⟨_,_,Wk.ax ao,ad,cp,rfl,rfl⟩
 ·rintro k _ _ ⟨ad,cp,rfl,rfl⟩;exact ⟨rfl,rfl,rfl⟩
 ·rintro k _ _ ar ⟨ad,cp,rfl,rfl⟩;rw [length_map,Ak] at ar;obtain ⟨u,hu⟩:∃ u,l[k]?=some u:=⟨l[k],by simp [ar]⟩;have kU:=xk (n:=a+1) hu;rw [<-hk] at kU;have wh:=oQ kU;have cK:=sI hu;have Ue:eg p.nodes (a+1+az (l.take k)) u:=dj.ix l (a+1) k u tf hu
  have hlen:(dP (b9 p) (l.take k) (a+1) s1 ls).2.length<=ls.length+az (l.take k):=by
   rw [pZ,length_append];have:=tF (l.take k);omega
  rw [D2 _ hu];generalize (dP (b9 p) (l.take k) (a+1) s1 ls).1=s2 at *;generalize (dP (b9 p) (l.take k) (a+1) s1 ls).2=ls2 at *;have hv:=ih u ah (a+1+az (l.take k)) s2 ls2 ad cp Ue ah;unfold C6 IF Q3 at hv |-;refine ae ?_;refine GL.vd [0,1,2,3,4,5,6] hv rfl rfl rfl (by repeat (first | exact trivial | refine ⟨rfl,?_⟩)) ?_;rintro _ _ ⟨rfl,pG,pI,rfl⟩;refine ct ?_;refine ae ?_;exact ⟨rfl,rfl,_,_,Wk.ax ao,pG,pI,rfl,rfl⟩
 ·rintro _ _ ⟨ad,cp,rfl,rfl⟩;rw [length_map,Ak,take_length]
  have hlen:(dP (b9 p) l (a+1) s1 ls).2.length<=ls.length+az l:=by
   rw [pZ,length_append];have:=tF l;omega
  generalize (dP (b9 p) l (a+1) s1 ls).1=s2 at *;generalize (dP (b9 p) l (a+1) s1 ls).2=ls2 at *;have QA:(bW ls2).length=ls2.length:=uS ls2;unfold C6 IF Q3;refine aK ?_
  cases hv:(n.kind==13) with
  | false =>
   rw [if_neg (by simpa using hv)];refine ae ?_;refine cM ?_;exact ⟨rfl,ad,cp,rfl⟩
  | true =>
   rw [if_pos (by simpa using hv)];refine ae ?_;refine aE (aH [0,1,2,3,4,5,6] (.a 7 (.a 8 (.a 9 .nil)))) ?_;refine ak ?_;refine eE ?_;refine ak ?_;refine OA rfl rfl (GL.pW 6 (news:=[[.v (sv n.s)]]) rfl rfl rfl (by first | rfl | assumption) rfl rfl (by refine ⟨?_,?_⟩;(· show _+1<=_;omega);(· show (_+1) * _<=_;omega)) ?_);intro rT rX;refine dB ?_;refine ak ?_;refine ae ?_;refine cM ?_;exact ⟨rfl,rT,rX,by simp [bW]⟩
theorem Rs (p:Src) (E1 E5 E6:TypeId) (i:Nat) (f:Go.Sp.Fn) (t:T) (s:CS) (hp:p.nodes.length<=1048576) (eW:∀ n∈p.nodes,n.kids.length<=1099511627776) (gH:p.fns.length<=1099511627776) (iU:p.arrays.length<=1099511627776) (jU:p.globals.length<=1099511627776)
  (hf:p.fns[i]?=some f) (xa:f.params.length<=1048576) (hb:0<=f.body) (b6:eg p.nodes f.body.toNat t) (cK:aO t<=1048576) :
  GF Tryz.prog 88 [.agg (av p),.v (ii (i:Nat)),IF p] [.box E1 [.v (ii s.code)],.box E5 [.v (ii s.skip)],.box E6 [.v (ii s.place)]] (.tup []) [.box E1 [.v (ii (ij (b9 p) t f.body.toNat s f.params).1.code)],.box E5 [.v (ii (ij (b9 p) t f.body.toNat s f.params).1.skip)],.box E6 [.v (ii (ij (b9 p) t f.body.toNat s f.params).1.place)]]:=by
 have hr:(p.fns.map au)[i]?=some (au f):=by rw [getElem?_map,hf];rfl
 have cE:(f.params.map fun s=>[GV.v (sv s)]).length=f.params.length:=by simp
 have gM:=Fl f.params;obtain ⟨b,wY⟩:∃ b:Nat,f.body=(b:Int):=⟨f.body.toNat,by omega⟩;rw [wY,Int.toNat_natCast] at b6 |-;unfold au at hr;rw [wY] at hr;unfold IF;refine da Tryz.func88 Tryz.ntmps88 ?_;refine iN ?_;refine GL.wk (Wk.freeze (i:=3) rfl rfl rfl (Nat.le_refl _)) ?_;refine GN (by simp only [nK,mG];rfl) ?_;refine GL.wk (Wk.ax (bV:=[.U,.v (ii (i:Nat)),.U,.box (av p) 0,.U,.loc 4 0,.U,.U,.U,.U,.U,.U,.U,strs f.params,.U,.U,.U,.U,.U,.U,.U,.U,.U,.U]) ao) ?_;refine GL.wk (Wk.mP 9 1) ?_;refine GL.Du 5 rfl rfl rfl rfl gM (by refine ⟨?_,?_⟩;(· rw [cE];omega);(· rw [cE];omega)) ?_;intro ad cp;rw [cE];refine bZ ?_;simp only [nil_append,List.length_nil,Nat.zero_add];refine ae ?_;refine GW.Li (bV:=[.U,.v (ii (i:Nat)),.U,.box (av p) 0,.U,.loc 4 0,.loc 6 0,.loc 7 0,.U,.U,.U,.U,.U,.U,.U,.U,.U,.U,.U,.U,.U,.U,.U,.U]) (aJ:=[.box E1 [.v (ii s.code)],.box E5 [.v (ii s.skip)],.box E6 [.v (ii s.place)],.gone,.box _ [.fn (.func 171) [] [.loc 0 0,.loc 1 0,.box (av p) 0,.loc 2 0]],.vech 9 1 (bW f.params) (.slice ad f.params.length cp),.box _ [.v (.slice ad f.params.length cp)],.box _ [.fn (.func 127) [] [.loc 4 0,.loc 6 0,.box (av p) 0,.loc 7 0]]]) ao rfl ?_;refine aE (aH [0,1,2,3,4,5,6] (.a 7 .nil)) ?_;refine ak ?_;have hv:=P0 p E1 E5 E6;refine OA rfl rfl (GL.vd [0,1,2,4,6,7,5] (hv _ _ _ hp eW gH iU jU _ t (Nat.le_refl _) b s f.params ad cp b6 ah) rfl rfl rfl (by repeat (first | exact trivial | refine ⟨rfl,?_⟩)) ?_);rintro _ _ ⟨rfl,pG,pI,rfl⟩;refine ⟨by simp [C6],?_⟩;unfold C6;refine dB ?_;refine ak ?_;exact lI
end Go.Xg
namespace Go.Im
open Go.Xp Go.Sp
theorem Hl {l:List ai}:tM l=false↔∀ k,k < l.length->nj l k=false:=by
 unfold tM;rw [any_eq_false];constructor
 ·intro h k hk;have:=h k (List.mem_range.2 hk);simpa using this
 ·intro h k hk;rw [h k (List.mem_range.1 hk)];decide
end Go.Im
namespace Go.Xg
open Go.RowKit Go.Xw Go.Proofs
open Go.Xp (Nd T Ar aO az dQ)
open Go.Sp (Src)
open Go.Im
theorem YG.DA {P:Program} {fr:List GV} {Γ:List Ob} {x up:Operand} {t e:TypeId} {k:Nat} [hT:mg P t e k] {rows:List (List GV)} {kk:IntKind} {i:Nat} (hx:aS fr x=.sl k rows) (ZP:aS fr up=.v (.int kk i)) (hi:i < rows.length):YG P (.slice t x none (some up) none) fr Γ (.sl k (rows.take i)):=fun B K β w l hI hF=>by
 have h:=hF.ev x;rw [hx] at h;have HJ:=hF.gD ZP;generalize hv:ev l x=v at h
 cases h with
 | sl0 a c=>simp at hi
 | sl b o c _ _ h hc =>
  refine ⟨.slice (some ⟨b,o,none⟩) i c,fun d ty pos af=>?_,?_⟩
  ·have nD:¬ (c=0):=by omega
   have hle:(i:Int)<=(c:Int):=by omega
   have zm:i<=c:=by omega
   simp [execOp,Instr.sliceAt,Instr.slice,Instr.sliceBounds,Instr.sliceBound,asIntOf,hv,HJ,run_underlying hT.und,im hT.siz,nD,hle,zm,oX]
  ·have:=Rel.sl (K:=K) (β:=β) b o c k (rows.take i) (fun j r hr=>?_) (by simp;omega)
   ·rw [length_take,Nat.min_eq_left (Nat.le_of_lt hi)] at this;exact this
   ·have hj:j < i:=by
     rcases Nat.lt_or_ge j i with h1 | h1
     ·exact h1
     ·rw [List.getElem?_eq_none (by rw [length_take];omega)] at hr;cases hr
    rw [List.getElem?_take,if_pos hj] at hr;exact h j r hr
attribute [local irreducible] GW GL GO YG GC GA aW aZ
theorem Lt (p:Src) (i:Nat) (f:Go.Sp.Fn) (t:T) (hp:p.nodes.length<=1048576) (eW:∀ n∈p.nodes,n.kids.length<=1099511627776) (gH:p.fns.length<=1099511627776) (iU:p.arrays.length<=1099511627776) (jU:p.globals.length<=1099511627776)
  (hf:p.fns[i]?=some f) (xa:f.params.length<=1048576) (hb:0<=f.body) (b6:eg p.nodes f.body.toNat t) (cK:aO t<=1048576) :
  GF Tryz.prog 140 [.agg (av p),.v (ii (i:Nat))] [] (.tup [.v (ii (fb p f t f.body.toNat).1),.v (ii (fb p f t f.body.toNat).2)]) []:=by
 have hr:(p.fns.map au)[i]?=some (au f):=by rw [getElem?_map,hf];rfl
 have eu:(f.params.map fun s=>[GV.v (sv s)]).length=f.params.length:=by simp
 have hE:=Rs p 3 3 3 i f t ⟨0,0,-1⟩ hp eW gH iU jU hf xa hb b6 cK;unfold au at hr;unfold fb;refine aj Tryz.func140 Tryz.ntmps140 ?_;refine GW.range (f.params.map fun s=>[GV.v (sv s)]).length (fun k fr Γ=>fr=[.U,.v (ii (i:Nat)),.loc 0 0,.U,.U,.U,strs f.params,.U,.U,.U,.U,.U,.U,.U,.U,.U,.U,.U,strs f.params,.v (ii ((f.params.map fun s=>[GV.v (sv s)]).length:Int)),.v (ii (k:Nat)),.U,.U,.U,.U,.U,.U,.U,.U,.U,.U,.U,.U,.U,.U,.U,.U]/\Γ=[.box 34 (av p)]/\∀ j,j < k->nj f.params j=false) ?_ ah ?_ ?_ ?_
 ·exact ⟨_,_,Wk.ax ao,rfl,rfl,fun j hj=>absurd hj (Nat.not_lt_zero _)⟩
 ·rintro k _ _ ⟨rfl,rfl,_⟩;exact ⟨rfl,rfl,rfl⟩
 ·rintro k _ _ ar ⟨rfl,rfl,aR⟩;have ma:=ar;rw [eu] at ar;obtain ⟨x,hx⟩:∃ x,f.params[k]?=some x:=⟨f.params[k],by simp [ar]⟩
  have QF:(f.params.map fun s=>[GV.v (sv s)])[k]?=some [.v (sv x)]:=by rw [getElem?_map,hx];rfl
  have hC:=jP (f.params.take k) x (by rw [length_take];omega)
  have hd:nj f.params k=(f.params.take k).contains x:=by unfold nj;rw [hx]
  rw [<-hd] at hC;unfold strs at hC;rw [map_take] at hC
  cases eC:nj f.params k with
  | true =>
   rw [eC] at hC
   have TG:tM f.params=true:=by
    cases h:tM f.params with
    | true=>rfl
    | false=>rw [Hl.1 h k ar] at eC;cases eC
   rw [if_pos TG];refine ae ?_;refine GL.q (YG.DA rfl rfl ma) ?_;refine bZ ?_;refine ae ?_;refine ab [] (hC) ?_;exact lJ
  | false =>
   rw [eC] at hC;refine ae ?_;refine GL.q (YG.DA rfl rfl ma) ?_;refine bZ ?_;refine ae ?_;refine ab [] (hC) ?_
   exact ⟨rfl,rfl,_,_,Wk.ax ao,rfl,rfl,fun j hj=>by
    rcases Nat.lt_succ_iff_lt_or_eq.1 hj with h | rfl
    ·exact aR j h
    ·exact eC⟩
 ·rintro _ _ ⟨rfl,rfl,aR⟩;rw [eu] at aR;rw [if_neg (by rw [Hl.2 aR];decide)];refine aK ?_;refine GW.wk (Wk.freeze (i:=0) rfl rfl rfl (Nat.zero_le _)) ?_;refine GW.Li (bV:=[.U,.v (ii (i:Nat)),.box (av p) 0,.U,.U,.U,.U,.U,.U,.U,.U,.U,.U,.U,.U,.U,.U,.U,.U,.U,.U,.U,.U,.U,.U,.U,.U,.U,.U,.U,.U,.U,.U,.U,.U,.U,.U]) (aJ:=[.gone]) ao rfl ?_;refine ae ?_;refine ab [1,3,2] (hE) ?_;refine aE (aH [0,1,2,3] .nil) ?_;refine ak ?_;exact qm
end Go.Xg
namespace Go.Im
open Go.Xp Go.Sp
theorem ru {l:List Ar} {k:Nat} {a:Ar} (h:l[k]?=some a):dw (l.take (k+1))=dw (l.take k)+a.size:=by
 unfold dw;rw [take_add_one,h,List.foldl_append];rfl
theorem tL {l:List Ar} (h:∀ a∈l,0<=a.size/\a.size<=2147483648):∀ k,0<=dw (l.take k)/\dw (l.take k)<=(k:Int) * 2147483648:=by
 intro k
 induction k with
 | zero=>simp [dw]
 | succ k ih =>
  cases hx:l[k]? with
  | none =>
   have:l.take (k+1)=l.take k:=by rw [take_add_one,hx];simp
   rw [this];omega
  | some a =>
   have:=h a (mem_of_getElem? hx);rw [ru hx];omega
end Go.Im
namespace Go.Xg
open Go.RowKit Go.Xw Go.Proofs
open Go.Xp (Nd T Ar aO az)
open Go.Sp (Src)
open Go.Im
attribute [local irreducible] GW GL GO YG GC GA aW aZ
theorem Nn (p:Src) (gH:p.fns.length<=1099511627776) (iU:p.arrays.length<=1048576) (cK:∀ a∈p.arrays,0<=a.size/\a.size<=2147483648):GF Tryz.prog 137 [.agg (av p)] [] (.v (.bool (ic p))) []:=by
 have eu:(p.arrays.map aB).length=p.arrays.length:=by simp
 have jm:(p.fns.map au).length=p.fns.length:=by simp
 have jU:(p.globals.map fun s=>[GV.v (sv s)]).length=p.globals.length:=by simp
 have hC:=sO (oF:=170) (fun x=>decide (x.params.length > 40)) p.fns gH (fun x _=>Kg x);unfold ic;generalize p.fns.any (fun x=>decide (x.params.length > 40))=b4 at *;have hb:=tL cK;refine aj Tryz.func137 Tryz.ntmps137 ?_;refine GW.range (p.arrays.map aB).length (fun k fr Γ=>fr=[.U,.loc 0 0,.U,.v (ii (dw (p.arrays.take k))),.U,.U,.U,.sl 2 (p.arrays.map aB),.v (ii ((p.arrays.map aB).length:Int)),.v (ii (k:Nat)),.U,.U,.U,.U,.U,.U,.U,.U,.U,.U,.U,.U,.U,.U,.U,.U,.U,.U,.U,.U,.U,.U,.U,.U,.U,.U,.U,.U,.U,.U]/\Γ=[.box 34 (av p)]/\(p.arrays.take k).all (fun a=>!(a.size==0))=true) ?_ ah ?_ ?_ ?_
 ·exact ⟨_,_,Wk.ax ao,rfl,rfl,rfl⟩
 ·rintro k _ _ ⟨rfl,rfl,_⟩;exact ⟨rfl,rfl,rfl⟩
 ·rintro k _ _ ar ⟨rfl,rfl,aR⟩;rw [eu] at ar;obtain ⟨x,hx⟩:∃ x,p.arrays[k]?=some x:=⟨p.arrays[k],by simp [ar]⟩
  have hr:(p.arrays.map aB)[k]?=some (aB x):=by rw [getElem?_map,hx];rfl
  have bt:=mA (f:=fun a:Ar=>a.size==0) hx;have gE:=ru hx;have ea:=hb k;have oL:=cK x (mem_of_getElem? hx);unfold aB at hr
  cases h1:(x.size==0) with
  | true =>
   have:p.arrays.any (fun a=>a.size==0)=true:=List.any_eq_true.2 ⟨x,mem_of_getElem? hx,h1⟩;rw [this];exact aw
  | false =>
   rw [gE];generalize dw (p.arrays.take k)=c at *;refine ae ?_;exact ⟨rfl,rfl,_,_,(Wk.cut (n:=1) (Nat.zero_le _) rfl).trans (Wk.ax ao),rfl,rfl,by rw [bt,aR,h1];rfl⟩
 ·rintro _ _ ⟨rfl,rfl,aR⟩;rw [eu,take_length] at aR |-
  have:p.arrays.any (fun a=>a.size==0)=false:=by
   rw [any_eq_false];rw [List.all_eq_true] at aR;intro x hx;simpa using aR x hx
  rw [this];have e1:decide (p.fns.length > 40)=decide ((40:Int) < ((p.fns.map au).length:Int)):=decide_eq_decide.2 (by rw [jm];omega);have e2:decide (p.globals.length > 29)=decide ((29:Int) < ((p.globals.map fun s=>[GV.v (sv s)]).length:Int)):=decide_eq_decide.2 (by rw [jU];omega);have e3:decide (dw p.arrays > 8000)=decide ((8000:Int) < dw p.arrays):=rfl;rw [e1,e2,e3];generalize dw p.arrays=c at *;refine aK ?_
  cases h1:decide ((40:Int) < ((p.fns.map au).length:Int))
  all_goals cases h2:decide ((29:Int) < ((p.globals.map fun s=>[GV.v (sv s)]).length:Int))
  all_goals cases h3:decide ((8000:Int) < c)
  all_goals
   refine ae ?_
   first
    | (refine bI ?_;exact ⟨rfl,rfl⟩)
    | (refine gA [] (hC) ?_;refine ae ?_;refine bI ?_;exact ⟨rfl,rfl⟩)
end Go.Xg
namespace Go.Im
open Go.Xp Go.Sp
theorem Be {l:List ai}:dT l=false↔∀ k,k < l.length->jL l k=false:=by
 unfold dT;rw [any_eq_false];constructor
 ·intro h k hk;have:=h k (List.mem_range.2 hk);simpa using this
 ·intro h k hk;rw [h k (List.mem_range.1 hk)];decide
theorem D7 (p:Src) (l:List T) (a:Nat):fc p [] l a=(0,0):=by unfold fc;rfl
end Go.Im
namespace Go.Xg
open Go.RowKit Go.Xw Go.Proofs
open Go.Xp (Nd T Ar aO az)
open Go.Sp (Src)
open Go.Im
attribute [local irreducible] GW GL GO YG GC GA aW aZ
theorem Kp (p:Src) (hF:GF Tryz.prog 136 [.agg (av p)] [] (.v (.bool false)) []):GF Tryz.prog 103 [.agg (av p)] [] (.tup [.v (ii 20),.v (ii 0)]) []:=by
 refine aj Tryz.func103 Tryz.ntmps103 ?_;refine ab [] (hF) ?_;exact lJ
theorem IP (p:Src) (l:List T) (ns:List ai) (Am:ns.length<=8388608) (jm:p.fns.length=l.length) (gH:p.fns.length<=1048576)
  (hF:GF Tryz.prog 136 [.agg (av p)] [] (.v (.bool true)) [])
  (hA:GC Tryz.prog 82 [.agg (av p)] [] fun g Δ=>∃ a c,g=.v (.slice a ns.length c)/\Δ=[.vech 9 1 (bW ns) (.slice a ns.length c)])
  (hT:GF Tryz.prog 137 [.agg (av p)] [] (.v (.bool (ic p))) [])
  (hq:∀ i f t,p.fns[i]?=some f->l[i]?=some t->GF Tryz.prog 140 [.agg (av p),.v (ii (i:Nat))] [] (.tup [.v (ii (fb p f t (az (l.take i))).1),.v (ii (fb p f t (az (l.take i))).2)]) []) :
  GF Tryz.prog 103 [.agg (av p)] []
   (.tup [.v (ii (if dT ns=true then ((21,0):Int × Int) else if ic p=true then (26,0) else if p.fns.any lT=false then (25,0) else fc p p.fns l 0).1),.v (ii (if dT ns=true then ((21,0):Int × Int) else if ic p=true then (26,0) else if p.fns.any lT=false then (25,0) else fc p p.fns l 0).2)]) []:=by
 have eu:(ns.map fun s=>[GV.v (sv s)]).length=ns.length:=by simp
 have oI:(p.fns.map au).length=p.fns.length:=by simp
 have hM:=sO (oF:=139) lT p.fns ah (fun x _=>NI x);generalize ic p=tm at *;refine aj Tryz.func103 Tryz.ntmps103 ?_;refine ab [] (hF) ?_;refine bO [] (hA) ?_;rintro _ _ ⟨ad,cp,rfl,rfl⟩;refine ct ?_;refine GL.wk (Wk.oo (t:=14) (i:=1) rfl rfl rfl) ?_;refine GL.wk (Wk.cut (n:=1) (Nat.zero_le _) rfl) ?_;refine GL.wk (Wk.ax (bV:=[.U,.loc 0 0,.U,.U,.U,.U,.U,.U,.U,.U,.U,.U,.U,.U,strs ns,.U,.U,.U,.U,.U,.U,.U,.U,.U,.U,.U,.U,.U,.U,.U,.U,.U,.U,.U,.U,.U,.U,.U,.U,.U,.U,.U,.U,.U,.U,.U,.U,.U,.U,.U,.U,.U,.U,.U,.U]) ao) ?_;refine bZ ?_;refine ae ?_;refine GW.range (ns.map fun s=>[GV.v (sv s)]).length (fun k fr Γ=>fr=[.U,.loc 0 0,.U,.U,strs ns,.U,.U,.U,.U,.U,.U,.U,.U,.U,.U,strs ns,.v (ii ((ns.map fun s=>[GV.v (sv s)]).length:Int)),.v (ii (k:Nat)),.U,.U,.U,.U,.U,.U,.U,.U,.U,.U,.U,.U,.U,.U,.U,.U,.U,.U,.U,.U,.U,.U,.U,.U,.U,.U,.U,.U,.U,.U,.U,.U,.U,.U,.U,.U,.U]/\Γ=[.box 34 (av p)]/\∀ j,j < k->jL ns j=false) ?_ ah ?_ ?_ ?_
 ·exact ⟨_,_,Wk.ax ao,rfl,rfl,fun j hj=>absurd hj (Nat.not_lt_zero _)⟩
 ·rintro k _ _ ⟨rfl,rfl,_⟩;exact ⟨rfl,rfl,rfl⟩
 ·rintro k _ _ ar ⟨rfl,rfl,aR⟩;have ma:=ar;rw [eu] at ar;obtain ⟨x,hx⟩:∃ x,ns[k]?=some x:=⟨ns[k],by simp [ar]⟩
  have QF:(ns.map fun s=>[GV.v (sv s)])[k]?=some [.v (sv x)]:=by rw [getElem?_map,hx];rfl
  have hR:=Mr x;have hC:=jP (ns.take k) x (by rw [length_take];omega)
  have hd:jL ns k=(lC x || (ns.take k).contains x):=by unfold jL;rw [hx]
  unfold strs at hC;rw [map_take] at hC
  cases h1:lC x with
  | true =>
   rw [h1] at hR hd
   have wY:dT ns=true:=by
    cases h:dT ns with
    | true=>rfl
    | false=>rw [Be.1 h k ar] at hd;simp at hd
   rw [if_pos wY];refine ae ?_;refine ab [] (hR) ?_;exact lJ
  | false =>
   rw [h1] at hR hd
   cases eC:(ns.take k).contains x with
   | true =>
    rw [eC] at hC hd
    have wY:dT ns=true:=by
     cases h:dT ns with
     | true=>rfl
     | false=>rw [Be.1 h k ar] at hd;simp at hd
    rw [if_pos wY];refine ae ?_;refine ab [] (hR) ?_;refine GL.q (YG.DA rfl rfl ma) ?_;refine bZ ?_;refine ae ?_;refine ab [] (hC) ?_;exact lJ
   | false =>
    rw [eC] at hC hd;refine ae ?_;refine ab [] (hR) ?_;refine GL.q (YG.DA rfl rfl ma) ?_;refine bZ ?_;refine ae ?_;refine ab [] (hC) ?_
    exact ⟨rfl,rfl,_,_,Wk.ax ao,rfl,rfl,fun j hj=>by
     rcases Nat.lt_succ_iff_lt_or_eq.1 hj with h | rfl
     ·exact aR j h
     ·exact hd⟩
 ·rintro _ _ ⟨rfl,rfl,aR⟩;rw [eu] at aR;rw [if_neg (show ¬ dT ns=true by rw [Be.2 aR];decide)];refine aK ?_
  cases tm with
  | true =>
   rw [if_pos rfl];refine ae ?_;refine ab [] (hT) ?_;exact lJ
  | false =>
   rw [if_neg (by decide)]
   cases hmn:p.fns.any lT with
   | false =>
    rw [hmn] at hM;rw [if_pos rfl];refine ae ?_;refine ab [] (hT) ?_;refine ab [] (hM) ?_;exact lJ
   | true =>
    rw [hmn] at hM;rw [if_neg (by decide)];refine ae ?_;refine ab [] (hT) ?_;refine ab [] (hM) ?_;refine GW.range (p.fns.map au).length (fun k fr Γ=>fr=[.U,.loc 0 0,.U,.U,.U,.U,.U,.U,.U,.U,.U,.U,.U,.U,.U,.U,.U,.U,.U,.U,.U,.U,.U,.U,.U,.U,.U,.U,.U,.U,.U,.U,.U,.U,.U,.U,.U,.U,.U,.sl 3 (p.fns.map au),.v (ii ((p.fns.map au).length:Int)),.v (ii (k:Nat)),.U,.U,.U,.U,.U,.U,.U,.U,.U,.U,.U,.U,.U]/\Γ=[.box 34 (av p)]/\fc p p.fns l 0=fc p (p.fns.drop k) (l.drop k) (az (l.take k))) ?_ ah ?_ ?_ ?_
    ·exact ⟨_,_,Wk.ax ao,rfl,rfl,by rw [List.drop_zero,List.drop_zero,List.take_zero,az]⟩
    ·rintro k _ _ ⟨rfl,rfl,_⟩;exact ⟨rfl,rfl,rfl⟩
    ·rintro k _ _ ar ⟨rfl,rfl,he⟩;rw [oI] at ar;obtain ⟨f,hf⟩:∃ f,p.fns[k]?=some f:=⟨p.fns[k],by simp [ar]⟩;obtain ⟨t,ht⟩:∃ t,l[k]?=some t:=⟨l[k]'ah,getElem?_eq_getElem _⟩;have hQ:=hq k f t hf ht
     have LY:p.fns.drop k=f::p.fns.drop (k+1):=by rw [List.drop_eq_getElem_cons ar];rw [getElem?_eq_getElem ar] at hf;rw [Option.some.inj hf]
     have db:l.drop k=t::l.drop (k+1):=by rw [List.drop_eq_getElem_cons ah];rw [getElem?_eq_getElem ah] at ht;rw [Option.some.inj ht]
     rw [LY,db,fc,<-PJ ht] at he
     cases h1:((fb p f t (az (l.take k))).1 != 0) with
     | true =>
      rw [if_pos (by simpa using h1)] at he;rw [he];generalize fb p f t (az (l.take k))=r at *;refine ae ?_;refine ab [] (hQ) ?_;exact lJ
     | false =>
      rw [if_neg (by simpa using h1)] at he;generalize fb p f t (az (l.take k))=r at *;refine ae ?_;refine ab [] (hQ) ?_;exact ⟨rfl,rfl,_,_,Wk.ax ao,rfl,rfl,he⟩
    ·rintro _ _ ⟨rfl,rfl,he⟩;rw [oI,List.drop_length,D7] at he;rw [he];refine aK ?_;exact qm
theorem LI (p:Src) (c z:Int) (h:GF Tryz.prog 103 [.agg (av p)] [] (.tup [.v (ii c),.v (ii z)]) []):GF Tryz.prog 45 [.agg (av p)] [] (.v (.bool (c==0))) []:=by
 refine aj Tryz.func45 Tryz.ntmps45 ?_;refine ab [] (h) ?_;exact aq
end Go.Xg
namespace Go.Xg
open Go.RowKit Go.Xw Go.Proofs
open Go.Xp (Nd T Ar aO az)
open Go.Sp (Src)
open Go.Im
attribute [local irreducible] GW GL GO YG GC GA aW aZ
theorem RJ (p:Src) (fn:Int) (w g:Bool) (gH:p.fns.length<=1048576) (hg:GF Tryz.prog 45 [.agg (av p)] [] (.v (.bool g)) [])
  (hW:GF Tryz.prog 53 [.v (ii fn),.v (ii 0),.v (ii (((p.fns.map au).length:Int) - 1))] [] (.v (.bool w)) []):GF Tryz.prog 55 [.agg (av p),.v (ii fn)] [] (.v (.bool (w&&g))) []:=by
 have oI:(p.fns.map au).length=p.fns.length:=by simp
 cases w with
 | false =>
  refine aj Tryz.func55 Tryz.ntmps55 ?_;refine ab [] (hW) ?_;exact aq
 | true =>
  refine aj Tryz.func55 Tryz.ntmps55 ?_;refine ab [] (hW) ?_;refine ab [] (hg) ?_;exact aq
end Go.Xg
set_option maxHeartbeats 2000000
namespace Go.Xg
open Go.RowKit Go.Xw Go.Proofs
open Go.Xp (Nd T Ar)
open Go.Sp (Src)
open Go.Im
attribute [local irreducible] GW GL GO YG GC GA aW aZ
def cC (p:Src) (h:Value) (c:SS):List GV:=[strs p.globals,.sl 2 (p.arrays.map aB),.sl 3 (p.fns.map au),.sl 5 (p.nodes.map ay),.v h,.v (ii c.code),.v (ii c.at_)]
theorem gJ (p:Src) (h:Value) (c:SS) (k z:Int):GF Tryz.prog 153 [.loc 0 0,.v (ii k),.v (ii z)] [.box 133 (cC p h c)] (.tup []) [.box 133 (cC p h (c.fail k z))]:=by
 unfold SS.fail
 cases hc:(c.code==0) with
 | true =>
  rw [if_pos (by simpa using hc)];unfold cC;refine aj Tryz.func153 Tryz.ntmps153 ?_;exact fO
 | false =>
  rw [if_neg (by simpa using hc)];unfold cC;refine aj Tryz.func153 Tryz.ntmps153 ?_;exact fO
theorem JH (s:ai):GF Tryz.prog 72 [.v (sv s)] [] (.v (.bool (lC s))) []:=by
 unfold lC oh ph iu
 cases h1:(s==[103,101,116])
 all_goals cases h2:(s==[112,117,116])
 all_goals
  refine aj Tryz.func72 Tryz.ntmps72 ?_;exact aq
theorem AD (p:Src) (s:ai) (hn:p.arrays.length<=1099511627776):GF Tryz.prog 116 [.agg (av p),.v (sv s)] [] (.v (ii (cJ (fun x:Ar=>x.name==s) p.arrays))) []:=by
 have eu:(p.arrays.map aB).length=p.arrays.length:=by simp
 refine aj Tryz.func116 Tryz.ntmps116 ?_;refine GW.range (p.arrays.map aB).length (fun k fr Γ=>fr=[.U,.v (sv s),.loc 0 0,.U,.U,.U,.U,.U,.sl 2 (p.arrays.map aB),.v (ii ((p.arrays.map aB).length:Int)),.v (ii (k:Nat)),.U,.U,.U,.U,.U,.U,.U,.U,.U,.U]/\Γ=[.box 34 (av p)]/\(p.arrays.take k).all (fun y=>!(y.name==s))=true) ?_ ah ?_ ?_ ?_
 ·exact ⟨_,_,Wk.ax ao,rfl,rfl,rfl⟩
 ·rintro k _ _ ⟨rfl,rfl,_⟩;exact ⟨rfl,rfl,rfl⟩
 ·rintro k _ _ ar ⟨rfl,rfl,aR⟩;rw [eu] at ar;obtain ⟨x,cQ⟩:∃ x,p.arrays[k]?=some x:=⟨p.arrays[k],by simp [ar]⟩
  have hr:(p.arrays.map aB)[k]?=some (aB x):=by rw [getElem?_map,cQ];rfl
  have bt:=mA (f:=fun y:Ar=>y.name==s) cQ
  have hit:=fun h0=>nm (f:=fun y:Ar=>y.name==s) cQ h0 aR
  unfold aB at hr
  cases hb:(x.name==s) with
  | true =>
   rw [hit hb];exact aw
  | false =>
   refine ae ?_;exact ⟨rfl,rfl,_,_,(Wk.cut (n:=1) (Nat.zero_le _) rfl).trans (Wk.ax ao),rfl,rfl,by rw [bt,aR,hb];rfl⟩
 ·rintro _ _ ⟨rfl,rfl,aR⟩;rw [eu,take_length] at aR;rw [kA aR];exact aw
theorem BG (p:Src) (s:ai) (hn:p.fns.length<=1099511627776):GF Tryz.prog 117 [.agg (av p),.v (sv s)] [] (.v (ii (cJ (fun x:Go.Sp.Fn=>x.name==s) p.fns))) []:=by
 have eu:(p.fns.map au).length=p.fns.length:=by simp
 refine aj Tryz.func117 Tryz.ntmps117 ?_;refine GW.range (p.fns.map au).length (fun k fr Γ=>fr=[.U,.v (sv s),.loc 0 0,.U,.U,.U,.U,.U,.sl 3 (p.fns.map au),.v (ii ((p.fns.map au).length:Int)),.v (ii (k:Nat)),.U,.U,.U,.U,.U,.U,.U,.U,.U,.U]/\Γ=[.box 34 (av p)]/\(p.fns.take k).all (fun y=>!(y.name==s))=true) ?_ ah ?_ ?_ ?_
 ·exact ⟨_,_,Wk.ax ao,rfl,rfl,rfl⟩
 ·rintro k _ _ ⟨rfl,rfl,_⟩;exact ⟨rfl,rfl,rfl⟩
 ·rintro k _ _ ar ⟨rfl,rfl,aR⟩;rw [eu] at ar;obtain ⟨x,cQ⟩:∃ x,p.fns[k]?=some x:=⟨p.fns[k],by simp [ar]⟩
  have hr:(p.fns.map au)[k]?=some (au x):=by rw [getElem?_map,cQ];rfl
  have bt:=mA (f:=fun y:Go.Sp.Fn=>y.name==s) cQ
  have hit:=fun h0=>nm (f:=fun y:Go.Sp.Fn=>y.name==s) cQ h0 aR
  unfold au at hr
  cases hb:(x.name==s) with
  | true =>
   rw [hit hb];exact aw
  | false =>
   refine ae ?_;exact ⟨rfl,rfl,_,_,(Wk.cut (n:=1) (Nat.zero_le _) rfl).trans (Wk.ax ao),rfl,rfl,by rw [bt,aR,hb];rfl⟩
 ·rintro _ _ ⟨rfl,rfl,aR⟩;rw [eu,take_length] at aR;rw [kA aR];exact aw
theorem zy (l:List Int) (n:Int) (hn:l.length<=1099511627776):GF Tryz.prog 51 [ints l,.v (ii n)] [] (.v (.bool (l.contains n))) []:=by
 have eu:(l.map fun i=>[GV.v (ii i)]).length=l.length:=by simp
 refine aj Tryz.func51 Tryz.ntmps51 ?_;refine GW.range (l.map fun i=>[GV.v (ii i)]).length (fun k fr Γ=>fr=[ints l,.v (ii n),.U,.U,.U,.U,.U,ints l,.v (ii ((l.map fun i=>[GV.v (ii i)]).length:Int)),.v (ii (k:Nat)),.U,.U,.U,.U,.U,.U,.U]/\Γ=[]/\(l.take k).contains n=false) ?_ ah ?_ ?_ ?_
 ·exact ⟨_,_,Wk.ax ao,rfl,rfl,rfl⟩
 ·rintro k _ _ ⟨rfl,rfl,_⟩;exact ⟨rfl,rfl,rfl⟩
 ·rintro k _ _ ar ⟨rfl,rfl,hc⟩;rw [eu] at ar;obtain ⟨x,cQ⟩:∃ x,l[k]?=some x:=⟨l[k],by simp [ar]⟩;have hr:=oQ cQ
  have bt:(l.take (k+1)).contains n=((l.take k).contains n || (x==n)):=by
   rw [take_add_one,cQ,List.contains_append];show (_ || [x].contains n)=_
   congr 1
   rw [List.contains_cons,List.contains_nil,Bool.or_false];exact Bool.beq_comm
  have hm:=mem_of_getElem? cQ
  cases hb:(x==n) with
  | true =>
   have h3:x=n:=by simpa using hb
   rw [show l.contains n=true by rw [<-h3];exact List.contains_iff_mem.2 hm];exact aw
  | false =>
   refine ae ?_;exact ⟨rfl,rfl,_,_,Wk.ax ao,rfl,rfl,by rw [bt,hc,hb];rfl⟩
 ·rintro _ _ ⟨rfl,rfl,hc⟩;rw [eu,take_length] at hc;rw [hc];exact aw
end Go.Xg
set_option maxHeartbeats 4000000
namespace Go.Im
open Go.Xp Go.Sp
def wK (l:List ai) (k:Nat):Bool:=(List.range k).any (nj l)
theorem Cv (l:List ai) (k:Nat):wK l (k+1)=(wK l k || nj l k):=by
 unfold wK;rw [List.range_succ,List.any_append];simp
def jI (f:Go.Sp.Fn) (c:SS) (k:Nat):SS:=⟨f.params.take k,if wK f.params k=true then fB c.code 21 else c.code,if wK f.params k=true/\c.code=0 then 0 else c.at_⟩
theorem Pp {f:Go.Sp.Fn} {c:SS} {k:Nat} (h:nj f.params k=true):(jI f c (k+1)).code=((jI f c k).fail 21 0).code/\(jI f c (k+1)).at_=((jI f c k).fail 21 0).at_:=by
 unfold jI SS.fail;simp only [Cv,h,Bool.or_true,true_and,if_true];unfold fB
 cases wK f.params k <;> by_cases h0:c.code=0 <;> simp [h0]
theorem MU {f:Go.Sp.Fn} {c:SS} {k:Nat} (h:nj f.params k=false):(jI f c (k+1)).code=(jI f c k).code/\(jI f c (k+1)).at_=(jI f c k).at_:=by
 unfold jI;simp only [Cv,h,Bool.or_false,and_self]
end Go.Im
namespace Go.Xg
open Go.RowKit Go.Xw Go.Proofs
open Go.Xp (Nd T Ar aO az)
open Go.Sp (Src)
open Go.Im
attribute [local irreducible] GW GL GO YG GC GA aW aZ
theorem GB (p:Src) (h0:Value) (c:SS) (f:Go.Sp.Fn) (xa:f.params.length<=1048576) :
  GC Tryz.prog 132 [.loc 0 0,.agg (au f)] [.box 133 (cC p h0 c)] fun g Δ=>g=.tup []/\∃ ad cp,Δ=[.box 133 (cC p (.slice ad f.params.length cp) (po f c)),.vech 9 1 (bW f.params) (.slice ad f.params.length cp)]:=by
 have eu:(f.params.map fun s=>[GV.v (sv s)]).length=f.params.length:=by simp
 have ot:po f c=⟨f.params,(jI f c f.params.length).code,(jI f c f.params.length).at_⟩:=by
  unfold po jI wK tM;rfl
 rw [ot]
 have o9:(jI f c 0).code=c.code/\(jI f c 0).at_=c.at_:=by unfold jI wK;simp
 rw [show cC p h0 c=cC p h0 (jI f c 0) by unfold cC;rw [o9.1,o9.2]];unfold cC au;refine da Tryz.func132 Tryz.ntmps132 ?_;refine GW.wk (Wk.mP 9 1) ?_;simp only [cons_append,nil_append];refine ae ?_;refine GW.range (f.params.map fun s=>[GV.v (sv s)]).length (fun k fr Γ=>∃ ad cp R n B,fr=[.loc 0 0,.U,.U,.loc 2 0,.U,.U,.U,.U,.U,.U,strs f.params,.v (ii ((f.params.map fun s=>[GV.v (sv s)]).length:Int)),.v (ii (k:Nat)),.U,.U,.U,.U,.U,.U,.U,.U,.U,.U,.U,.U,.U,.U,.U,.U,.U,.U,.U,.U,.U,.U]/\Γ=[.box 133 (cC p (.slice ad n cp) (jI f c k)),.vech 9 1 R (.slice ad n cp),B]/\R.length=n/\R=bW (f.params.take k)) ?_ ah ?_ ?_ ?_
 ·exact ⟨_,_,Wk.ax ao,none,0,[],0,_,rfl,rfl,rfl,by simp [bW]⟩
 ·rintro k _ _ ⟨ad,cp,R,n,B,rfl,rfl,_⟩;exact ⟨rfl,rfl,rfl⟩
 ·rintro k _ _ ar ⟨ad,cp,R,n,B,rfl,rfl,et,hR⟩;rw [eu] at ar;obtain ⟨x,hx⟩:∃ x,f.params[k]?=some x:=⟨f.params[k],by simp [ar]⟩
  have QF:(f.params.map fun s=>[GV.v (sv s)])[k]?=some [.v (sv x)]:=by rw [getElem?_map,hx];rfl
  have bt:bW (f.params.take (k+1))=R++[[.v (sv x)]]:=by rw [take_add_one,hx,hR];simp [bW]
  have qL:n<=1048576:=by rw [<-et,hR,uS,length_take];omega
  have hL:GF Tryz.prog 74 [.sl 1 R,.v (sv x)] [] (.v (.bool ((f.params.take k).contains x))) []:=by
   rw [hR];exact iP (f.params.take k) x (by rw [length_take];omega)
  have hd:nj f.params k=(f.params.take k).contains x:=by unfold nj;rw [hx]
  rw [<-hd] at hL;have gm:=gJ p (.slice ad n cp) (jI f c k) 21 0;clear hR
  cases hb:nj f.params k with
  | true =>
   rw [hb] at hL;obtain ⟨e1,e2⟩:=Pp (c:=c) hb;unfold cC at gm |-;rw [e1,e2];generalize (jI f c k).fail 21 0=s1 at *;generalize jI f c k=s0 at *;refine ae ?_;refine GL.borrow hL (fun B K β w l hI hF=>gB (A:=[_]) (C:=[_]) hI hF rfl rfl) ?_;refine bZ ?_;refine ae ?_;refine ab [0] (gm) ?_;refine GL.jA 1 rfl rfl rfl rfl rfl rfl rfl rfl (by first | rfl | assumption) ⟨⟨by omega,by omega⟩,by decide⟩ ?_;intro rT rX;refine bK ?_;refine ae ?_;exact ⟨rfl,rfl,_,_,Wk.ax ao,rT,rX,_,_,_,rfl,rfl,by simp [et],bt.symm⟩
  | false =>
   rw [hb] at hL;obtain ⟨e1,e2⟩:=MU (c:=c) hb;unfold cC at gm |-;rw [e1,e2];generalize jI f c k=s0 at *;refine ae ?_;refine GL.borrow hL (fun B K β w l hI hF=>gB (A:=[_]) (C:=[_]) hI hF rfl rfl) ?_;refine bZ ?_;refine ae ?_;refine GL.jA 1 rfl rfl rfl rfl rfl rfl rfl rfl (by first | rfl | assumption) ⟨⟨by omega,by omega⟩,by decide⟩ ?_;intro rT rX;refine bK ?_;refine ae ?_;exact ⟨rfl,rfl,_,_,Wk.ax ao,rT,rX,_,_,_,rfl,rfl,by simp [et],bt.symm⟩
 ·rintro _ _ ⟨ad,cp,R,n,B,rfl,rfl,et,hR⟩;rw [eu] at hR |-;rw [take_length] at hR
  have qN:n=f.params.length:=by rw [<-et,hR,uS]
  subst qN;refine ae ?_
  (repeat (first | refine GW.ret ?_ | refine cr ?_ | refine cn ?_ | refine aK ?_ | refine bS ?_))
  exact Th (n:=2) rfl (by first | exact .inr rfl | exact .inl rfl) (Nat.le_of_ble_eq_true rfl) rfl ⟨rfl,ad,cp,by rw [hR];rfl⟩
end Go.Xg
namespace Go.Xg
open Go.RowKit Go.Xw Go.Proofs
open Go.Xp (Nd T Ar aO az)
open Go.Sp (Src)
open Go.Im
attribute [local irreducible] GW GL GO YG GC GA aW aZ
def cO (p:Src) (c:SS) (ls:List ai) (ad:Option Addr) (cp:Nat):List Ob:=[.box 133 (cC p (.slice ad ls.length cp) c),.vech 9 1 (bW ls) (.slice ad ls.length cp)]
theorem Gy (p:Src) (c:SS) (n:Nd) (l:List T) (ad:Option Addr) (cp:Nat) (h1:(n.s==[103,101,116])=true) (hl:l.length<=1099511627776) :
  GF Tryz.prog 154 [.loc 0 0,.agg (cT (.mk n l))] (cO p c c.ls ad cp) (.v (.bool true)) (cO p (ep c n l.length 0) c.ls ad cp):=by
 have eP:(aP l).length=l.length:=aQ l;unfold cO;unfold ep;show GF _ _ _ _ (.v (.bool true)) [.box _ (cC p _ (if l.length≠0 then _ else _)),_];have gm:=gJ p (.slice ad c.ls.length cp) c 23 n.at_;unfold cC at gm |-
 cases hk:(((aP l).length:Int) != ((0:Nat):Int)) with
 | true =>
  rw [if_pos (show l.length≠0 by rw [eP,bne_iff_ne] at hk;omega)];generalize c.fail 23 n.at_=c1 at *;refine aj Tryz.func154 Tryz.ntmps154 ?_;refine ab [0] (gm) ?_;exact aq
 | false =>
  rw [if_neg (show ¬ l.length≠0 by rw [eP,bne_eq_false_iff_eq] at hk;omega)];refine aj Tryz.func154 Tryz.ntmps154 ?_;exact aq
theorem Gz (p:Src) (c:SS) (n:Nd) (l:List T) (ad:Option Addr) (cp:Nat) (h1:(n.s==[103,101,116])=false) (h2:(n.s==[112,117,116])=true) (hl:l.length<=1099511627776) :
  GF Tryz.prog 154 [.loc 0 0,.agg (cT (.mk n l))] (cO p c c.ls ad cp) (.v (.bool true)) (cO p (ep c n l.length 1) c.ls ad cp):=by
 have eP:(aP l).length=l.length:=aQ l;unfold cO;unfold ep;show GF _ _ _ _ (.v (.bool true)) [.box _ (cC p _ (if l.length≠1 then _ else _)),_];have gm:=gJ p (.slice ad c.ls.length cp) c 23 n.at_;unfold cC at gm |-
 cases hk:(((aP l).length:Int) != ((1:Nat):Int)) with
 | true =>
  rw [if_pos (show l.length≠1 by rw [eP,bne_iff_ne] at hk;omega)];generalize c.fail 23 n.at_=c1 at *;refine aj Tryz.func154 Tryz.ntmps154 ?_;refine ab [0] (gm) ?_;exact aq
 | false =>
  rw [if_neg (show ¬ l.length≠1 by rw [eP,bne_eq_false_iff_eq] at hk;omega)];refine aj Tryz.func154 Tryz.ntmps154 ?_;exact aq
theorem JD (p:Src) (c:SS) (n:Nd) (l:List T) (ad:Option Addr) (cp:Nat) (h1:(n.s==[103,101,116])=false) (h2:(n.s==[112,117,116])=false) (h3:(n.s==[115,105,122,101])=false) (hl:l.length<=1099511627776)
  (hF:GF Tryz.prog 117 [.agg (av p),.v (sv n.s)] [] (.v (ii (-1))) []) :
  GF Tryz.prog 154 [.loc 0 0,.agg (cT (.mk n l))] (cO p c c.ls ad cp) (.v (.bool false)) (cO p (c.fail 22 n.at_) c.ls ad cp):=by
 have gm:=gJ p (.slice ad c.ls.length cp) c 22 n.at_
 have hd:decide ((-1:Int) < 0)=true:=by decide
 unfold cO;unfold cC at gm |-;generalize c.fail 22 n.at_=c1 at *;refine aj Tryz.func154 Tryz.ntmps154 ?_;refine aE (aH [0,1,2,3,4,5,6] (.a 7 (.q 8 .nil))) ?_;refine ak ?_;refine aC [] (hF) ?_;refine ae ?_;refine ab [0] (gm) ?_;exact aq
theorem JC (p:Src) (c:SS) (n:Nd) (l:List T) (i:Nat) (f:Go.Sp.Fn) (ad:Option Addr) (cp:Nat) (h1:(n.s==[103,101,116])=false) (h2:(n.s==[112,117,116])=false) (h3:(n.s==[115,105,122,101])=false) (hl:l.length<=1099511627776)
  (hf:p.fns[i]?=some f) (hF:GF Tryz.prog 117 [.agg (av p),.v (sv n.s)] [] (.v (ii ((i:Nat):Int))) []) :
  GF Tryz.prog 154 [.loc 0 0,.agg (cT (.mk n l))] (cO p c c.ls ad cp) (.v (.bool true)) (cO p (ep c n l.length f.params.length) c.ls ad cp):=by
 have eP:(aP l).length=l.length:=aQ l
 have hd:decide (((i:Nat):Int) < 0)=false:=by simp
 have hr:(p.fns.map au)[i]?=some (au f):=by rw [getElem?_map,hf];rfl
 have cE:(f.params.map fun s=>[GV.v (sv s)]).length=f.params.length:=by simp
 unfold au at hr;rw [<-cE];unfold cO;unfold ep;show GF _ _ _ _ (.v (.bool true)) [.box _ (cC p _ (if l.length≠(f.params.map fun s=>[GV.v (sv s)]).length then _ else _)),_];have gm:=gJ p (.slice ad c.ls.length cp) c 23 n.at_;unfold cC at gm |-
 cases hk:(((aP l).length:Int) != (((f.params.map fun s=>[GV.v (sv s)]).length:Nat):Int)) with
 | true =>
  rw [if_pos (show l.length≠(f.params.map fun s=>[GV.v (sv s)]).length by rw [eP,bne_iff_ne] at hk;omega)];generalize c.fail 23 n.at_=c1 at *;refine aj Tryz.func154 Tryz.ntmps154 ?_;refine aE (aH [0,1,2,3,4,5,6] (.a 7 (.q 8 .nil))) ?_;refine ak ?_;refine aC [] (hF) ?_;refine ae ?_;refine ab [0] (gm) ?_;exact aq
 | false =>
  rw [if_neg (show ¬ l.length≠(f.params.map fun s=>[GV.v (sv s)]).length by rw [eP,bne_eq_false_iff_eq] at hk;omega)];refine aj Tryz.func154 Tryz.ntmps154 ?_;refine aE (aH [0,1,2,3,4,5,6] (.a 7 (.q 8 .nil))) ?_;refine ak ?_;refine aC [] (hF) ?_;exact aw
end Go.Xg
namespace Go.Xg
open Go.RowKit Go.Xw Go.Proofs
open Go.Xp (Nd T Ar aO az)
open Go.Sp (Src)
open Go.Im
attribute [local irreducible] GW GL GO YG GC GA aW aZ
theorem Dp (p:Src) (c:SS) (n:Nd) (u:T) (ad:Option Addr) (cp:Nat) (h1:(n.s==[103,101,116])=false) (h2:(n.s==[112,117,116])=false) (h3:(n.s==[115,105,122,101])=true) (iU:p.arrays.length<=1099511627776) (lP:c.ls.length<=1099511627776) :
  GF Tryz.prog 154 [.loc 0 0,.agg (cT (.mk n [u]))] (cO p c c.ls ad cp) (.v (.bool false)) (cO p (if fP p u.n c.ls=true then c.fail 24 n.at_ else c) c.ls ad cp):=by
 have qO:(aP [u])[0]?=some (cT u):=cL rfl;have hA:=AD p u.n.s iU;have hL:=iP c.ls u.n.s lP;have gm:=gJ p (.slice ad c.ls.length cp) c 24 n.at_;rw [show fP p u.n c.ls=((u.n.kind != 2 || decide (cJ (fun x:Ar=>x.name==u.n.s) p.arrays < 0)) || c.ls.contains u.n.s) from rfl];generalize cJ (fun x:Ar=>x.name==u.n.s) p.arrays=z at *;unfold cO;unfold cC at gm |-
 cases h4:(u.n.kind != 2) with
 | true =>
  rw [if_pos (by first | rfl | decide)];generalize c.fail 24 n.at_=c1 at *;refine aj Tryz.func154 Tryz.ntmps154 ?_;refine aE (aH [0,1,2,3,4,5,6,7,8,9,10,11,12,13,14,15,16,17,18,19,20] (.a 21 (.q 22 (.q 23 (.q 24 (.q 25 (.q 26 (.q 27 (.q 28 (.q 29 (.q 30 (.q 31 (.q 32 (.q 33 (.q 34 (.a 35 (.q 36 (.q 37 .nil)))))))))))))))))) ?_;refine ak ?_;refine ak ?_;refine ae ?_;refine ab [0] (gm) ?_;exact aq
 | false =>
  cases h5:decide (z < 0) with
  | true =>
   rw [if_pos (by first | rfl | decide)];generalize c.fail 24 n.at_=c1 at *;refine aj Tryz.func154 Tryz.ntmps154 ?_;refine aE (aH [0,1,2,3,4,5,6,7,8,9,10,11,12,13,14,15,16,17,18,19,20] (.a 21 (.q 22 (.q 23 (.q 24 (.q 25 (.q 26 (.q 27 (.q 28 (.q 29 (.q 30 (.q 31 (.q 32 (.q 33 (.q 34 (.a 35 (.q 36 (.q 37 .nil)))))))))))))))))) ?_;refine ak ?_;refine bz [] (hA) ?_;refine ak ?_;refine ae ?_;refine ab [0] (gm) ?_;exact aq
  | false =>
   generalize c.ls.contains u.n.s=b at *
   cases b with
   | true =>
    rw [if_pos (by first | rfl | decide)];generalize c.fail 24 n.at_=c1 at *;refine aj Tryz.func154 Tryz.ntmps154 ?_;refine aE (aH [0,1,2,3,4,5,6,7,8,9,10,11,12,13,14,15,16,17,18,19,20] (.a 21 (.q 22 (.q 23 (.q 24 (.q 25 (.q 26 (.q 27 (.q 28 (.q 29 (.q 30 (.q 31 (.q 32 (.q 33 (.q 34 (.a 35 (.q 36 (.q 37 .nil)))))))))))))))))) ?_;refine ak ?_;refine bz [] (hA) ?_;refine Qa rfl rfl rfl (by first | exact rfl | assumption) (GL.borrow hL (fun B K β w l hI hF=>gB (A:=[_]) (C:=[_]) hI hF rfl rfl) ?_);refine dB ?_;refine ak ?_;refine ae ?_;refine ab [0] (gm) ?_;exact aq
   | false =>
    rw [if_neg (by decide)];refine aj Tryz.func154 Tryz.ntmps154 ?_;refine aE (aH [0,1,2,3,4,5,6,7,8,9,10,11,12,13,14,15,16,17,18,19,20] (.a 21 (.q 22 (.q 23 (.q 24 (.q 25 (.q 26 (.q 27 (.q 28 (.q 29 (.q 30 (.q 31 (.q 32 (.q 33 (.q 34 (.a 35 (.q 36 (.q 37 .nil)))))))))))))))))) ?_;refine ak ?_;refine bz [] (hA) ?_;refine Qa rfl rfl rfl (by first | exact rfl | assumption) (GL.borrow hL (fun B K β w l hI hF=>gB (A:=[_]) (C:=[_]) hI hF rfl rfl) ?_);refine dB ?_;refine ak ?_;exact aw
theorem Dq (p:Src) (c:SS) (n:Nd) (l:List T) (ad:Option Addr) (cp:Nat) (h1:(n.s==[103,101,116])=false) (h2:(n.s==[112,117,116])=false) (h3:(n.s==[115,105,122,101])=true) (hl:l.length≠1) :
  GF Tryz.prog 154 [.loc 0 0,.agg (cT (.mk n l))] (cO p c c.ls ad cp) (.v (.bool false)) (cO p (c.fail 23 n.at_) c.ls ad cp):=by
 have gm:=gJ p (.slice ad c.ls.length cp) c 23 n.at_;have eP:(aP l).length=l.length:=aQ l
 have g1:(((aP l).length:Int)==1)=false:=by rw [eP,beq_eq_false_iff_ne];omega
 have g2:(((aP l).length:Int) != 1)=true:=by rw [eP,bne_iff_ne];omega
 unfold cO;unfold cC at gm |-;generalize c.fail 23 n.at_=c1 at *;refine aj Tryz.func154 Tryz.ntmps154 ?_;refine aE (aH [0,1,2,3,4,5,6,7,8,9,10,11,12,13,14,15,16,17,18,19,20] (.a 21 (.q 22 (.q 23 (.q 24 (.q 25 (.q 26 (.q 27 (.q 28 (.q 29 (.q 30 (.q 31 (.q 32 (.q 33 (.q 34 (.a 35 (.q 36 (.q 37 .nil)))))))))))))))))) ?_;refine ak ?_;refine ae ?_;refine ab [0] (gm) ?_;exact aq
end Go.Xg
namespace Go.Xg
open Go.RowKit Go.Xw Go.Proofs
open Go.Xp (Nd T Ar aO az)
open Go.Sp (Src)
open Go.Im
attribute [local irreducible] GW GL GO YG GC GA aW aZ
theorem Mw (p:Src) (c:SS) (t:T) (ad:Option Addr) (cp:Nat) (iU:p.arrays.length<=1099511627776) (gH:p.fns.length<=1099511627776) (lP:c.ls.length<=1099511627776) (hl:t.kids.length<=1099511627776) :
  GF Tryz.prog 154 [.loc 0 0,.agg (cT t)] (cO p c c.ls ad cp) (.v (.bool (ff p c t).2)) (cO p (ff p c t).1 c.ls ad cp):=by
 cases t with
 | mk n l =>
 have hl:l.length<=1099511627776:=hl
 cases h1:(n.s==[103,101,116]) with
 | true =>
  have e:ff p c (.mk n l)=(ep c n l.length 0,true):=by
   unfold ff oh;exact if_pos (show n.s=_ by simpa using h1)
  rw [e];exact Gy p c n l ad cp h1 hl
 | false =>
  have n1:¬ n.s=[103,101,116]:=by simpa using h1
  cases h2:(n.s==[112,117,116]) with
  | true =>
   have e:ff p c (.mk n l)=(ep c n l.length 1,true):=by
    unfold ff oh ph;rw [if_neg (show ¬ (T.mk n l).n.s=_ from n1)];exact if_pos (show n.s=_ by simpa using h2)
   rw [e];exact Gz p c n l ad cp h1 h2 hl
  | false =>
   have n2:¬ n.s=[112,117,116]:=by simpa using h2
   cases h3:(n.s==[115,105,122,101]) with
   | true =>
    have e:ff p c (.mk n l)=(ep (if l.length=1/\fP p (mO (.mk n l)) c.ls=true then c.fail 24 n.at_ else c) n l.length 1,false):=by
     unfold ff oh ph iu;rw [if_neg (show ¬ (T.mk n l).n.s=_ from n1),if_neg (show ¬ (T.mk n l).n.s=_ from n2)];exact if_pos (show n.s=_ by simpa using h3)
    rw [e]
    by_cases hk:l.length=1
    ·obtain ⟨u,rfl⟩:∃ u,l=[u]:=by
      match l,hk with
      | [u],_=>exact ⟨u,rfl⟩
     have e2:ep (if [u].length=1/\fP p (mO (.mk n [u])) c.ls=true then c.fail 24 n.at_ else c) n [u].length 1=(if fP p u.n c.ls=true then c.fail 24 n.at_ else c):=by
      unfold ep;rw [if_neg (by simp)];show (if _/\fP p u.n c.ls=true then _ else _)=_
      by_cases hb:fP p u.n c.ls=true
      ·rw [if_pos hb];exact if_pos ⟨rfl,hb⟩
      ·rw [if_neg hb];exact if_neg fun h=>hb h.2
     rw [e2];exact Dp p c n u ad cp h1 h2 h3 iU lP
    ·have e2:ep (if l.length=1/\fP p (mO (.mk n l)) c.ls=true then c.fail 24 n.at_ else c) n l.length 1=c.fail 23 n.at_:=by
      rw [if_neg fun h=>hk h.1];unfold ep;exact if_pos hk
     rw [e2];exact Dq p c n l ad cp h1 h2 h3 hk
   | false =>
    have n3:¬ n.s=[115,105,122,101]:=by simpa using h3
    have hF:=BG p n.s gH;unfold cJ at hF
    cases hx:p.fns.findIdx? (fun f:Go.Sp.Fn=>f.name==n.s) with
    | none =>
     rw [hx] at hF
     have e:ff p c (.mk n l)=(c.fail 22 n.at_,false):=by
      unfold ff oh ph iu;rw [if_neg (show ¬ (T.mk n l).n.s=_ from n1),if_neg (show ¬ (T.mk n l).n.s=_ from n2),if_neg (show ¬ (T.mk n l).n.s=_ from n3)];show (match p.fns.findIdx? (fun f:Go.Sp.Fn=>f.name==n.s) with | none=>_ | some i=>_)=_;rw [hx];rfl
     rw [e];exact JD p c n l ad cp h1 h2 h3 hl hF
    | some i =>
     rw [hx] at hF;have hi:i < p.fns.length:=(List.findIdx?_eq_some_iff_getElem.1 hx).1;obtain ⟨f,hf⟩:∃ f,p.fns[i]?=some f:=⟨p.fns[i],by simp [hi]⟩
     have e:ff p c (.mk n l)=(ep c n l.length f.params.length,true):=by
      unfold ff oh ph iu;rw [if_neg (show ¬ (T.mk n l).n.s=_ from n1),if_neg (show ¬ (T.mk n l).n.s=_ from n2),if_neg (show ¬ (T.mk n l).n.s=_ from n3)];show (match p.fns.findIdx? (fun f:Go.Sp.Fn=>f.name==n.s) with | none=>_ | some i=>_)=_;rw [hx];show (ep c n l.length (kW p i),true)=_;unfold kW;rw [hf]
     rw [e];exact JC p c n l i f ad cp h1 h2 h3 hl hf hF
end Go.Xg
namespace Go.Im
open Go.Xp Go.Sp
theorem CY (p:Src) (u:T):∀ (l:List T) (c:SS),gO p (l++[u]) c=mu p u (gO p l c)
 | [],c=>by rw [nil_append,gO,gO,gO]
 | t::l,c=>by rw [cons_append,gO,gO,CY p u l]
theorem MM (p:Src) {l:List T} {k:Nat} {u:T} (h:l[k]?=some u) (c:SS):gO p (l.take (k+1)) c=mu p u (gO p (l.take k) c):=by
 rw [take_add_one,h];exact CY p u _ c
theorem PV (c:SS) (n:Nd):(lj c n).ls.length<=c.ls.length+1:=by
 unfold lj;split
 ·omega
 split
 ·simp [SS.nk]
 split
 ·simp [SS.nk]
 ·simp
mutual
theorem RX (p:Src):∀ (t:T) (c:SS),(mu p t c).ls.length<=c.ls.length+aO t
 | .mk n l,c=>by
  rw [mu,aO];refine Nat.le_trans (PV _ _) ?_;split
  ·have:=vE p l (iQ p c (.mk n l)).1;rw [uN] at this;omega
  ·rw [uN];omega
theorem vE (p:Src):∀ (l:List T) (c:SS),(gO p l c).ls.length<=c.ls.length+az l
 | [],c=>by rw [gO,az];omega
 | t::r,c=>by
  rw [gO,az];have h1:=vE p r (mu p t c);have h2:=RX p t c;omega
end
end Go.Im
namespace Go.Xg
open Go.RowKit Go.Xw Go.Proofs
open Go.Xp (Nd T Ar aO az cx)
open Go.Sp (Src)
open Go.Im
attribute [local irreducible] GW GL GO YG GC GA aW aZ
theorem Mx (p:Src) (iU:p.arrays.length<=1099511627776) (gH:p.fns.length<=1099511627776) (jU:p.globals.length<=1099511627776):∀ (N:Nat) (t:T),aO t<=N->∀ (c:SS) (ad:Option Addr) (cp:Nat),c.ls.length+aO t<=8388608 ->
  GC Tryz.prog 133 [.loc 0 0,.agg (cT t)] (cO p c c.ls ad cp) fun g Δ=>g=.tup []/\∃ pG pI,Δ=cO p (mu p t c) (mu p t c).ls pG pI:=by
 intro N
 induction N with
 | zero=>intro t h;have:=jN t;omega
 | succ N ih =>
 intro t hN c ad cp lP
 cases t with
 | mk n l =>
 rw [Go.Xp.aO] at hN lP;have pb:=cx l;have eP:(aP l).length=l.length:=aQ l;rw [mu];have cE:=uN p c (.mk n l);have hL:=iP c.ls n.s ah;have hG:=iP p.globals n.s jU;have hA:=AD p n.s iU;have hC:=Mw p c (.mk n l) ad cp iU gH ah (by show l.length<=_;omega);have Qn:=gJ p (.slice ad c.ls.length cp) c 22 n.at_;have HG:=gJ p (.slice ad c.ls.length cp) c 24 n.at_
 have he:iQ p c (.mk n l)=(if n.kind=2\/n.kind=7 then (if c.ls.contains n.s=false/\p.globals.contains n.s=false then c.fail 22 n.at_ else c,true)
  else if n.kind=3\/n.kind=8 then (if c.ls.contains n.s=true\/cJ (fun x:Ar=>x.name==n.s) p.arrays < 0 then c.fail 24 n.at_ else c,true)
  else if n.kind=4 then ff p c (.mk n l) else (c,true)):=rfl
 obtain ⟨P,hP⟩:∃ P,iQ p c (.mk n l)=P:=⟨_,rfl⟩;rw [hP] at he cE |-;unfold cO at hC |-;unfold cC at hC Qn HG |-;refine aj Tryz.func133 Tryz.ntmps133 ?_;refine aE (aH [0,1,2,3,4,5] (.a 6 (.q 7 .nil))) ?_;refine ak ?_;refine OA rfl rfl (GL.borrow hL (fun B K β w l hI hF=>gB (A:=[_]) (C:=[_,_]) hI hF rfl rfl) ?_);refine dB ?_;refine ak ?_;refine IK ?_;refine GW.join (fun fr Γ=>fr=[.loc 0 0,.U,.U,.loc 2 0,.loc 3 0,.U,.v (.bool P.2),.U,.U,.U,.U,.U,.U,.U,.U,.U,.U,.U,.U,.U,.U,.U,.U,.U,.U,.U,.U,.U,.U,.U,.U,.U,.U,.U,.U,.U,.U,.U,.U,.U,.U,.U,.U,.U,.U,.U,.U,.U,.U,.U,.U,.U,.U,.U,.U,.U,.U,.U,.U,.U,.U,.U,.U,.U,.U,.U,.U,.U,.U,.U,.U,.U,.U,.U,.U,.U,.U,.U,.U,.U,.U,.U,.U,.U,.U,.U,.U,.U,.U,.U,.U,.U,.U,.U,.U,.U,.U,.U,.U,.U,.U,.U,.U,.U,.U,.U,.U,.U,.U,.U]/\Γ=[.box 133 (cC p (.slice ad c.ls.length cp) P.1),.vech 9 1 (bW c.ls) (.slice ad c.ls.length cp),.box 94 (cT (.mk n l)),.box 91 (ay n)]) ?_ ?_
 ·obtain ⟨kd,at_,nn,s,ks⟩:=n;simp only at *;unfold cC;generalize ff p c (.mk ⟨kd,at_,nn,s,ks⟩ l)=cs at *;generalize cJ (fun x:Ar=>x.name==s) p.arrays=z at *;generalize c.ls.contains s=b at *;generalize p.globals.contains s=g at *;generalize c.fail 22 at_=c22 at *;generalize c.fail 24 at_=c24 at *
  by_cases h2:kd=2
  ·subst h2
   have q2:((2:Int)==2)=true:=by decide
   rw [if_pos (by decide)] at he;subst he
   cases b with
   | true =>
    refine ae ?_;refine aE (aH [0,1,2,3,4,5,6,7,8,9] (.a 10 (.q 11 (.q 12 .nil)))) ?_;refine ak ?_;refine ae ?_;exact ⟨_,_,Wk.ax ao,rfl,rfl⟩
   | false =>
    cases g with
    | true =>
     refine ae ?_;refine aE (aH [0,1,2,3,4,5,6,7,8,9] (.a 10 (.q 11 (.q 12 .nil)))) ?_;refine ak ?_;refine bz [] (hG) ?_;refine ae ?_;exact ⟨_,_,Wk.ax ao,rfl,rfl⟩
    | false =>
     refine ae ?_;refine aE (aH [0,1,2,3,4,5,6,7,8,9] (.a 10 (.q 11 (.q 12 .nil)))) ?_;refine ak ?_;refine bz [] (hG) ?_;refine ae ?_;refine ab [0] (Qn) ?_;exact ⟨_,_,Wk.ax ao,rfl,rfl⟩
  by_cases h7:kd=7
  ·subst h7
   have q2:((7:Int)==2)=false:=by decide
   have q7:((7:Int)==7)=true:=by decide
   rw [if_pos (by decide)] at he;subst he
   cases b with
   | true =>
    refine ae ?_;refine aE (aH [0,1,2,3,4,5,6,7,8,9] (.a 10 (.q 11 (.q 12 .nil)))) ?_;refine ak ?_;refine ae ?_;exact ⟨_,_,Wk.ax ao,rfl,rfl⟩
   | false =>
    cases g with
    | true =>
     refine ae ?_;refine aE (aH [0,1,2,3,4,5,6,7,8,9] (.a 10 (.q 11 (.q 12 .nil)))) ?_;refine ak ?_;refine bz [] (hG) ?_;refine ae ?_;exact ⟨_,_,Wk.ax ao,rfl,rfl⟩
    | false =>
     refine ae ?_;refine aE (aH [0,1,2,3,4,5,6,7,8,9] (.a 10 (.q 11 (.q 12 .nil)))) ?_;refine ak ?_;refine bz [] (hG) ?_;refine ae ?_;refine ab [0] (Qn) ?_;exact ⟨_,_,Wk.ax ao,rfl,rfl⟩
  rw [if_neg (by rintro (h | h);(· exact h2 h);exact h7 h)] at he
  by_cases h3:kd=3
  ·subst h3
   have q2:((3:Int)==2)=false:=by decide
   have q7:((3:Int)==7)=false:=by decide
   have q3:((3:Int)==3)=true:=by decide
   rw [if_pos (by decide)] at he
   cases b with
   | true =>
    subst he;refine ae ?_;refine aE (aH [0,1,2,3,4,5,6,7] (.a 8 (.q 9 (.q 10 .nil)))) ?_;refine ak ?_;refine ae ?_;refine ab [0] (HG) ?_;exact ⟨_,_,Wk.ax ao,rfl,rfl⟩
   | false =>
    cases hz:decide (z < 0) with
    | true =>
     rw [if_pos (.inr (by simpa using hz))] at he;subst he;refine ae ?_;refine aE (aH [0,1,2,3,4,5,6,7] (.a 8 (.q 9 (.q 10 .nil)))) ?_;refine ak ?_;refine bz [] (hA) ?_;refine ae ?_;refine ab [0] (HG) ?_;exact ⟨_,_,Wk.ax ao,rfl,rfl⟩
    | false =>
     rw [if_neg (by rintro (h | h);(· cases h);(· simp at hz;omega))] at he;subst he;refine ae ?_;refine aE (aH [0,1,2,3,4,5,6,7] (.a 8 (.q 9 (.q 10 .nil)))) ?_;refine ak ?_;refine bz [] (hA) ?_;refine ae ?_;exact ⟨_,_,Wk.ax ao,rfl,rfl⟩
  by_cases h8:kd=8
  ·subst h8
   have q2:((8:Int)==2)=false:=by decide
   have q7:((8:Int)==7)=false:=by decide
   have q3:((8:Int)==3)=false:=by decide
   have q8:((8:Int)==8)=true:=by decide
   rw [if_pos (by decide)] at he
   cases b with
   | true =>
    subst he;refine ae ?_;refine aE (aH [0,1,2,3,4,5,6,7] (.a 8 (.q 9 (.q 10 .nil)))) ?_;refine ak ?_;refine ae ?_;refine ab [0] (HG) ?_;exact ⟨_,_,Wk.ax ao,rfl,rfl⟩
   | false =>
    cases hz:decide (z < 0) with
    | true =>
     rw [if_pos (.inr (by simpa using hz))] at he;subst he;refine ae ?_;refine aE (aH [0,1,2,3,4,5,6,7] (.a 8 (.q 9 (.q 10 .nil)))) ?_;refine ak ?_;refine bz [] (hA) ?_;refine ae ?_;refine ab [0] (HG) ?_;exact ⟨_,_,Wk.ax ao,rfl,rfl⟩
    | false =>
     rw [if_neg (by rintro (h | h);(· cases h);(· simp at hz;omega))] at he;subst he;refine ae ?_;refine aE (aH [0,1,2,3,4,5,6,7] (.a 8 (.q 9 (.q 10 .nil)))) ?_;refine ak ?_;refine bz [] (hA) ?_;refine ae ?_;exact ⟨_,_,Wk.ax ao,rfl,rfl⟩
  rw [if_neg (by rintro (h | h);(· exact h3 h);exact h8 h)] at he
  by_cases h4:kd=4
  ·subst h4
   have q2:((4:Int)==2)=false:=by decide
   have q7:((4:Int)==7)=false:=by decide
   have q3:((4:Int)==3)=false:=by decide
   have q8:((4:Int)==8)=false:=by decide
   have q4:((4:Int)==4)=true:=by decide
   rw [if_pos rfl] at he;subst he;refine ae ?_;refine ab [0,1] (hC) ?_;exact ⟨_,_,Wk.ax ao,rfl,rfl⟩
  rw [if_neg h4] at he;subst he
  have q2:(kd==2)=false:=by simpa using h2
  have q7:(kd==7)=false:=by simpa using h7
  have q3:(kd==3)=false:=by simpa using h3
  have q8:(kd==8)=false:=by simpa using h8
  have q4:(kd==4)=false:=by simpa using h4
  refine ae ?_;exact ⟨_,_,Wk.ax ao,rfl,rfl⟩
 ·rintro _ _ ⟨rfl,rfl⟩;clear he hC Qn HG;obtain ⟨c1,d⟩:=P;simp only at cE |-;rw [<-cE] at lP;rw [show cC p (.slice ad c.ls.length cp) c1=cC p (.slice ad c1.ls.length cp) c1 by rw [cE],<-cE];clear hL;refine ae ?_;refine GW.range (aP l).length (fun k fr Γ=>∃ ad cp c2,fr=[.loc 0 0,.U,.U,.loc 2 0,.loc 3 0,.U,.v (.bool d),.U,.U,.U,.U,.U,.U,.U,.U,.U,.U,.U,.U,.U,.U,.U,.U,.U,.U,.U,.U,.U,.U,.U,.U,.U,.U,.U,.U,.U,.U,.U,.U,.U,.U,.U,.U,.U,.U,.U,.U,.U,.U,.U,.U,.U,.U,.U,.U,.U,.U,.U,.U,.U,.U,.U,.U,.U,.sl 6 (aP l),.v (ii ((aP l).length:Int)),.v (ii (k:Nat)),.U,.U,.U,.U,.U,.U,.U,.U,.U,.U,.U,.U,.U,.U,.U,.U,.U,.U,.U,.U,.U,.U,.U,.U,.U,.U,.U,.U,.U,.U,.U,.U,.U,.U,.U,.U,.U,.U,.U,.U,.U,.U,.U]/\Γ=[.box 133 (cC p (.slice ad c2.ls.length cp) c2),.vech 9 1 (bW c2.ls) (.slice ad c2.ls.length cp),.box 94 (cT (.mk n l)),.box 91 (ay n)]/\c2=(if d=true then gO p (l.take k) c1 else c1)) ?_ ah ?_ ?_ ?_
  ·exact ⟨_,_,Wk.ax ao,ad,cp,c1,rfl,rfl,by cases d <;> simp [gO]⟩
  ·rintro k _ _ ⟨ad,cp,c2,rfl,rfl,_⟩;exact ⟨rfl,rfl,rfl⟩
  ·rintro k _ _ ar ⟨ad,cp,c2,rfl,rfl,jl⟩;rw [eP] at ar;obtain ⟨u,hu⟩:∃ u,l[k]?=some u:=⟨l[k],by simp [ar]⟩;have hr:=cL hu;have cK:=sI hu
   cases d with
   | false =>
    refine ae ?_;exact ⟨rfl,rfl,_,_,(Wk.cut (n:=4) (Nat.le_of_ble_eq_true rfl) rfl).trans (Wk.ax ao),ad,cp,c2,rfl,rfl,jl⟩
   | true =>
    rw [if_pos rfl] at jl;have hlen:=vE p (l.take k) c1;rw [<-jl] at hlen;have hi:=ih u ah c2 ad cp ah;unfold cO at hi;rw [if_pos rfl,MM p hu,<-jl];refine ae ?_;refine bO [0,1] (hi) ?_;rintro _ _ ⟨rfl,pG,pI,rfl⟩;refine ct ?_;refine ae ?_;exact ⟨rfl,rfl,_,_,(Wk.cut (n:=4) (Nat.le_of_ble_eq_true rfl) rfl).trans (Wk.ax ao),pG,pI,_,rfl,rfl,rfl⟩
  ·rintro _ _ ⟨ad,cp,c2,rfl,rfl,jl⟩;rw [eP,take_length] at jl;rw [<-jl]
   have hlen:c2.ls.length<=8388608:=by
    rw [jl];split
    ·have:=vE p l c1;omega
    ·omega
   clear jl ih;refine aK ?_;have hL:=iP c2.ls n.s ah;have QA:=uS c2.ls;have HF:=gJ p (.slice ad c2.ls.length cp) c2 21 n.at_;have WB:=gJ p (.slice ad c2.ls.length cp) c2 26 n.at_;have Z7:=c2.nk 21 n.at_;have Z8:=c2.nk 26 n.at_
   cases hv:(n.kind != 13) with
   | true =>
    have e:lj c2 n=c2:=by unfold lj;exact if_pos (by simpa using hv)
    rw [e];refine ae ?_;refine cM ?_;exact ⟨rfl,ad,cp,rfl⟩
   | false =>
    have Av:¬ n.kind≠13:=by simpa using hv
    unfold cC at HF WB
    cases hb:c2.ls.contains n.s with
    | true =>
     rw [hb] at hL
     have e:lj c2 n=⟨(c2.fail 21 n.at_).ls++[n.s],(c2.fail 21 n.at_).code,(c2.fail 21 n.at_).at_⟩:=by unfold lj;rw [if_neg Av];exact if_pos hb
     rw [e];generalize c2.fail 21 n.at_=y at *;unfold cC;refine ae ?_;refine aE (aH [0,1,2,3,4,5] (.a 6 .nil)) ?_;refine ak ?_;refine OA rfl rfl (GL.borrow hL (fun B K β w l hI hF=>gB (A:=[_]) (C:=[_,_]) hI hF rfl rfl) ?_);refine dB ?_;refine ak ?_;refine ae ?_;refine ab [0] (HF) ?_;refine aE (aH [0,1,2,3,4,5,6] (.a 7 (.a 8 (.q 9 (.q 10 (.a 11 .nil)))))) ?_;refine ak ?_;refine eE ?_;refine ak ?_;refine OA rfl rfl (GL.pW 1 (news:=[[.v (sv n.s)]]) rfl rfl rfl (by first | rfl | assumption) rfl rfl (by refine ⟨?_,?_⟩;(· show _+1<=_;omega);(· show (_+1) * _<=_;omega)) ?_);intro rT rX;refine dB ?_;refine ak ?_;refine ae ?_;refine cM ?_;exact ⟨rfl,rT,rX,by simp [cO,cC,bW,Z7]⟩
    | false =>
     rw [hb] at hL
     cases h40:((c2.ls.length:Int)==40) with
     | true =>
      have e:lj c2 n=⟨(c2.fail 26 n.at_).ls++[n.s],(c2.fail 26 n.at_).code,(c2.fail 26 n.at_).at_⟩:=by
       unfold lj;rw [if_neg Av,if_neg (by rw [hb];decide)];exact if_pos (by rw [beq_iff_eq] at h40;omega)
      rw [e];generalize c2.fail 26 n.at_=y at *;unfold cC;refine ae ?_;refine aE (aH [0,1,2,3,4,5] (.a 6 .nil)) ?_;refine ak ?_;refine OA rfl rfl (GL.borrow hL (fun B K β w l hI hF=>gB (A:=[_]) (C:=[_,_]) hI hF rfl rfl) ?_);refine dB ?_;refine ak ?_;refine ae ?_;refine ab [0] (WB) ?_;refine aE (aH [0,1,2,3,4,5,6] (.a 7 (.a 8 (.q 9 (.q 10 (.a 11 .nil)))))) ?_;refine ak ?_;refine eE ?_;refine ak ?_;refine OA rfl rfl (GL.pW 1 (news:=[[.v (sv n.s)]]) rfl rfl rfl (by first | rfl | assumption) rfl rfl (by refine ⟨?_,?_⟩;(· show _+1<=_;omega);(· show (_+1) * _<=_;omega)) ?_);intro rT rX;refine dB ?_;refine ak ?_;refine ae ?_;refine cM ?_;exact ⟨rfl,rT,rX,by simp [cO,cC,bW,Z8]⟩
     | false =>
      have e:lj c2 n=⟨c2.ls++[n.s],c2.code,c2.at_⟩:=by
       unfold lj;rw [if_neg Av,if_neg (by rw [hb];decide)];exact if_neg (by rw [beq_eq_false_iff_ne] at h40;omega)
      rw [e];unfold cC;refine ae ?_;refine aE (aH [0,1,2,3,4,5] (.a 6 .nil)) ?_;refine ak ?_;refine OA rfl rfl (GL.borrow hL (fun B K β w l hI hF=>gB (A:=[_]) (C:=[_,_]) hI hF rfl rfl) ?_);refine dB ?_;refine ak ?_;refine ae ?_;refine aE (aH [0,1,2,3,4,5,6] (.a 7 (.a 8 (.q 9 (.q 10 (.a 11 .nil)))))) ?_;refine ak ?_;refine eE ?_;refine ak ?_;refine OA rfl rfl (GL.pW 1 (news:=[[.v (sv n.s)]]) rfl rfl rfl (by first | rfl | assumption) rfl rfl (by refine ⟨?_,?_⟩;(· show _+1<=_;omega);(· show (_+1) * _<=_;omega)) ?_);intro rT rX;refine dB ?_;refine ak ?_;refine ae ?_;refine cM ?_;exact ⟨rfl,rT,rX,by simp [cO,cC,bW]⟩
end Go.Xg
namespace Go.Xg
open Go.RowKit Go.Xw Go.Proofs
open Go.Xp (Nd T Ar aO az)
open Go.Sp (Src)
open Go.Im
attribute [local irreducible] GW GL GO YG GC GA aW aZ
theorem Bq (p:Src) (h:Value) (k e:Int):GF Tryz.prog 153 [.loc 0 0,.v (ii e),.v (ii 0)] [.box 133 (cC p h ⟨[],k,0⟩)] (.tup []) [.box 133 (cC p h ⟨[],fB k e,0⟩)]:=by
 have:=gJ p h ⟨[],k,0⟩ e 0
 rwa [show (SS.fail ⟨[],k,0⟩ e 0)=⟨[],fB k e,0⟩ by unfold SS.fail fB;by_cases hk:k=0 <;> simp [hk]] at this
theorem EU (p:Src) (h:Value) (k:Int) (iU:p.arrays.length<=1048576) (cK:∀ a∈p.arrays,0<=a.size/\a.size<=2147483648)
  (rest:(p.arrays.all fun a=>!lH a)=true->GF Tryz.prog 131 [.loc 0 0] [.box 133 (cC p h ⟨[],k,0⟩)] (.tup []) [.box 133 (cC p h ⟨[],qi p k,0⟩)]) :
  GF Tryz.prog 131 [.loc 0 0] [.box 133 (cC p h ⟨[],k,0⟩)] (.tup []) [.box 133 (cC p h ⟨[],qi p k,0⟩)]:=by
 cases sZ:(p.arrays.all fun a=>!lH a) with
 | true=>exact rest sZ
 | false =>
 have eu:(p.arrays.map aB).length=p.arrays.length:=by simp
 have hb:=tL cK;have wU:=Bq p h k 26
 have El:p.arrays.any lH=true:=by
  cases h0:p.arrays.any lH with
  | true=>rfl
  | false =>
   rw [any_eq_false] at h0;rw [List.all_eq_false] at sZ;obtain ⟨x,hx,h1⟩:=sZ;have:=h0 x hx;simp at h1;rw [h1] at this;exact absurd rfl this
 rw [show qi p k=fB k 26 by unfold qi;exact if_pos El];unfold cC at wU |-;refine aj Tryz.func131 Tryz.ntmps131 ?_;refine GW.range (p.arrays.map aB).length (fun k' fr Γ=>fr=[.loc 0 0,.U,.v (ii (dw (p.arrays.take k'))),.U,.U,.U,.U,.U,.U,.U,.U,.U,.sl 2 (p.arrays.map aB),.v (ii ((p.arrays.map aB).length:Int)),.v (ii (k':Nat)),.U,.U,.U,.U,.U,.U,.U,.U,.U,.U,.U,.U,.U,.U,.U,.U,.U,.U,.U,.U,.U,.U,.U,.U,.U,.U,.U,.U,.U,.U,.U,.U,.U,.U,.U,.U,.U,.U,.U,.U,.U,.U,.U,.U,.U,.U,.U,.U,.U,.U,.U,.U,.U,.U,.U,.U,.U,.U,.U,.U,.U,.U,.U,.U,.U,.U,.U,.U,.U,.U,.U,.U,.U,.U,.U,.U,.U,.U,.U]/\Γ=[.box 133 [strs p.globals,.sl 2 (p.arrays.map aB),.sl 3 (p.fns.map au),.sl 5 (p.nodes.map ay),.v h,.v (ii k),.v (ii 0)]]/\(p.arrays.take k').all (fun a=>!lH a)=true) ?_ ah ?_ ?_ ?_
 ·exact ⟨_,_,Wk.ax ao,rfl,rfl,rfl⟩
 ·rintro k' _ _ ⟨rfl,rfl,_⟩;exact ⟨rfl,rfl,rfl⟩
 ·rintro k' _ _ ar ⟨rfl,rfl,aR⟩;rw [eu] at ar;obtain ⟨x,hx⟩:∃ x,p.arrays[k']?=some x:=⟨p.arrays[k'],by simp [ar]⟩
  have hr:(p.arrays.map aB)[k']?=some (aB x):=by rw [getElem?_map,hx];rfl
  have bt:=mA (f:=lH) hx;have gE:=ru hx;have ea:=hb k';have oL:=cK x (mem_of_getElem? hx);have hd:lH x=(decide (x.size < 1) || decide (8000 < x.size)):=rfl;unfold aB at hr
  cases h1:decide (x.size < 1) with
  | true =>
   refine ae ?_;refine ab [0] (wU) ?_;exact fO
  | false =>
   cases h2:decide (8000 < x.size) with
   | true =>
    refine ae ?_;refine ab [0] (wU) ?_;exact fO
   | false =>
    rw [gE];generalize dw (p.arrays.take k')=c at *;refine ae ?_;exact ⟨rfl,rfl,_,_,(Wk.cut (n:=1) (Nat.le_refl _) rfl).trans (Wk.ax ao),rfl,rfl,by rw [bt,aR,hd,h1,h2];rfl⟩
 ·rintro _ _ ⟨rfl,rfl,aR⟩;rw [eu,take_length] at aR;rw [aR] at sZ;cases sZ
end Go.Xg
namespace Go.Im
open Go.Xp Go.Sp
theorem RA (k e:Int) (he:e≠0):fB (fB k e) e=fB k e:=by unfold fB;by_cases h:k=0 <;> simp [h,he]
end Go.Im
namespace Go.Xg
open Go.RowKit Go.Xw Go.Proofs
open Go.Xp (Nd T Ar aO az)
open Go.Sp (Src)
open Go.Im
attribute [local irreducible] GW GL GO YG GC GA aW aZ
theorem Dr (p:Src) (h:Value) (k:Int) (iU:p.arrays.length<=1048576) (gH:p.fns.length<=1048576) (cK:∀ a∈p.arrays,0<=a.size/\a.size<=2147483648) (sZ:(p.arrays.all fun a=>!lH a)=true) :
  GF Tryz.prog 131 [.loc 0 0] [.box 133 (cC p h ⟨[],k,0⟩)] (.tup []) [.box 133 (cC p h ⟨[],qi p k,0⟩)]:=by
 have eu:(p.arrays.map aB).length=p.arrays.length:=by simp
 have jm:(p.fns.map au).length=p.fns.length:=by simp
 have jU:(p.globals.map fun s=>[GV.v (sv s)]).length=p.globals.length:=by simp
 have hb:=tL cK
 have El:p.arrays.any lH=false:=by
  rw [any_eq_false];rw [List.all_eq_true] at sZ;intro x hx;simpa using sZ x hx
 have wU:=Bq p h;unfold cC at wU |-;refine aj Tryz.func131 Tryz.ntmps131 ?_;refine GW.range (p.arrays.map aB).length (fun k' fr Γ=>fr=[.loc 0 0,.U,.v (ii (dw (p.arrays.take k'))),.U,.U,.U,.U,.U,.U,.U,.U,.U,.sl 2 (p.arrays.map aB),.v (ii ((p.arrays.map aB).length:Int)),.v (ii (k':Nat)),.U,.U,.U,.U,.U,.U,.U,.U,.U,.U,.U,.U,.U,.U,.U,.U,.U,.U,.U,.U,.U,.U,.U,.U,.U,.U,.U,.U,.U,.U,.U,.U,.U,.U,.U,.U,.U,.U,.U,.U,.U,.U,.U,.U,.U,.U,.U,.U,.U,.U,.U,.U,.U,.U,.U,.U,.U,.U,.U,.U,.U,.U,.U,.U,.U,.U,.U,.U,.U,.U,.U,.U,.U,.U,.U,.U,.U,.U,.U]/\Γ=[.box 133 [strs p.globals,.sl 2 (p.arrays.map aB),.sl 3 (p.fns.map au),.sl 5 (p.nodes.map ay),.v h,.v (ii k),.v (ii 0)]]) ?_ ah ?_ ?_ ?_
 ·exact ⟨_,_,Wk.ax ao,rfl,rfl⟩
 ·rintro k' _ _ ⟨rfl,rfl⟩;exact ⟨rfl,rfl,rfl⟩
 ·rintro k' _ _ ar ⟨rfl,rfl⟩;rw [eu] at ar;obtain ⟨x,hx⟩:∃ x,p.arrays[k']?=some x:=⟨p.arrays[k'],by simp [ar]⟩
  have hr:(p.arrays.map aB)[k']?=some (aB x):=by rw [getElem?_map,hx];rfl
  have gE:=ru hx;have ea:=hb k';have oL:=cK x (mem_of_getElem? hx)
  have hd:lH x=false:=by
   rw [any_eq_false] at El;have:=El x (mem_of_getElem? hx);simpa using this
  unfold lH at hd;rw [Bool.or_eq_false_iff] at hd;obtain ⟨h1,h2⟩:=hd;have h2:decide (8000 < x.size)=false:=h2;unfold aB at hr;rw [gE];generalize dw (p.arrays.take k')=c at *;refine ae ?_;exact ⟨rfl,rfl,_,_,(Wk.cut (n:=1) (Nat.le_refl _) rfl).trans (Wk.ax ao),rfl,rfl⟩
 ·rintro _ _ ⟨rfl,rfl⟩;rw [eu,take_length];refine aK ?_;refine GW.seq ?_;have e1:decide (p.fns.length > 40)=decide ((40:Int) < ((p.fns.map au).length:Int)):=decide_eq_decide.2 (by rw [jm];omega);have e2:decide (p.globals.length > 29)=decide ((29:Int) < ((p.globals.map fun s=>[GV.v (sv s)]).length:Int)):=decide_eq_decide.2 ah
  have XC:rV p=((decide ((40:Int) < ((p.fns.map au).length:Int)) || decide ((29:Int) < ((p.globals.map fun s=>[GV.v (sv s)]).length:Int))) || decide ((8000:Int) < dw p.arrays)):=by unfold rV;rw [e1,e2]
  refine GW.join (fun fr Γ=>fr=[.loc 0 0,.U,.U,.U,.U,.U,.U,.U,.U,.U,.U,.U,.U,.U,.U,.U,.U,.U,.U,.U,.U,.U,.U,.U,.U,.U,.U,.U,.U,.U,.U,.U,.U,.U,.U,.U,.U,.U,.U,.U,.U,.U,.U,.U,.U,.U,.U,.U,.U,.U,.U,.U,.U,.U,.U,.U,.U,.U,.U,.U,.U,.U,.U,.U,.U,.U,.U,.U,.U,.U,.U,.U,.U,.U,.U,.U,.U,.U,.U,.U,.U,.U,.U,.U,.U,.U,.U,.U,.U,.U,.U,.U,.U,.U]/\Γ=[.box 133 [strs p.globals,.sl 2 (p.arrays.map aB),.sl 3 (p.fns.map au),.sl 5 (p.nodes.map ay),.v h,.v (ii (if rV p=true then fB k 26 else k)),.v (ii 0)]]) ?_ ?_
  ·rw [XC];have Jj:=wU k 26;generalize dw p.arrays=c at *
   cases h1:decide ((40:Int) < ((p.fns.map au).length:Int))
   all_goals cases h2:decide ((29:Int) < ((p.globals.map fun s=>[GV.v (sv s)]).length:Int))
   all_goals cases h3:decide ((8000:Int) < c)
   all_goals
    refine ae ?_
    first
     | exact ⟨_,_,Wk.ax ao,rfl,rfl⟩
     | (refine gA [0] (Jj) ?_;refine ae ?_;exact ⟨_,_,Wk.ax ao,rfl,rfl⟩)
  ·rintro _ _ ⟨rfl,rfl⟩;generalize td:(if rV p=true then fB k 26 else k)=k1
   have VL:∀ j:Nat,∀ x:Go.Sp.Fn,p.fns[j]?=some x->(p.fns.take (j+1)).any (fun f=>decide (f.params.length > 40))=((p.fns.take j).any (fun f=>decide (f.params.length > 40)) || decide (x.params.length > 40)):=fun j x hx=>by
    rw [take_add_one,hx,List.any_append];simp
   refine ae ?_;refine GW.range (p.fns.map au).length (fun j fr Γ=>∃ kk,fr=[.loc 0 0,.U,.U,.U,.U,.U,.U,.U,.U,.U,.U,.U,.U,.U,.U,.U,.U,.U,.U,.U,.U,.U,.U,.U,.U,.U,.U,.U,.U,.U,.U,.U,.U,.U,.U,.U,.U,.U,.U,.U,.U,.U,.U,.U,.U,.U,.U,.U,.U,.U,.U,.U,.U,.U,.U,.U,.U,.U,.U,.sl 3 (p.fns.map au),.v (ii ((p.fns.map au).length:Int)),.v (ii (j:Nat)),.U,.U,.U,.U,.U,.U,.U,.U,.U,.U,.U,.U,.U,.U,.U,.U,.U,.U,.U,.U,.U,.U,.U,.U,.U,.U,.U,.U,.U,.U,.U,.U]/\Γ=[.box 133 [strs p.globals,.sl 2 (p.arrays.map aB),.sl 3 (p.fns.map au),.sl 5 (p.nodes.map ay),.v h,.v (ii kk),.v (ii 0)]]/\kk=(if (p.fns.take j).any (fun f=>decide (f.params.length > 40))=true then fB k1 26 else k1)) ?_ ah ?_ ?_ ?_
   ·exact ⟨_,_,Wk.ax ao,k1,rfl,rfl,by simp⟩
   ·rintro j _ _ ⟨kk,rfl,rfl,_⟩;exact ⟨rfl,rfl,rfl⟩
   ·rintro j _ _ ar ⟨kk,rfl,rfl,kU⟩;rw [jm] at ar;obtain ⟨x,hx⟩:∃ x,p.fns[j]?=some x:=⟨p.fns[j],by simp [ar]⟩
    have hr:(p.fns.map au)[j]?=some (au x):=by rw [getElem?_map,hx];rfl
    have cE:(x.params.map fun s=>[GV.v (sv s)]).length=x.params.length:=by simp
    have jW:=VL j x hx;have hd:decide (x.params.length > 40)=decide ((40:Int) < ((x.params.map fun s=>[GV.v (sv s)]).length:Int)):=decide_eq_decide.2 ah;have Jj:=wU kk 26;rw [jW,hd];unfold au at hr
    cases h1:decide ((40:Int) < ((x.params.map fun s=>[GV.v (sv s)]).length:Int)) with
    | true =>
     have e:fB kk 26=fB k1 26:=by rw [kU];split;(· exact RA _ _ (by decide));rfl
     rw [e] at Jj;refine ae ?_;refine ab [0] (Jj) ?_;exact ⟨rfl,rfl,_,_,(Wk.cut (n:=1) (Nat.le_refl _) rfl).trans (Wk.ax ao),_,rfl,rfl,by simp⟩
    | false =>
     refine ae ?_;exact ⟨rfl,rfl,_,_,(Wk.cut (n:=1) (Nat.le_refl _) rfl).trans (Wk.ax ao),kk,rfl,rfl,by rw [kU,Bool.or_false]⟩
   ·rintro _ _ ⟨kk,rfl,rfl,kU⟩;rw [jm,take_length] at kU
    have hs:qi p k=(if jh p=true then fB kk 25 else kk):=by
     unfold qi;rw [if_neg (by rw [El];decide),td,<-kU]
    rw [hs];refine aK ?_;have Tr:=wU kk 25;have hM:=BG p uD ah;unfold cJ at hM;clear hs kU td
    cases hx:p.fns.findIdx? (fun f:Go.Sp.Fn=>f.name==uD) with
    | none =>
     rw [hx] at hM
     have hd:decide ((-1:Int) < 0)=true:=by decide
     simp only at hM;rw [show (if jh p=true then fB kk 25 else kk)=fB kk 25 from if_pos (by unfold jh;rw [hx])];refine ae ?_;refine ab [] (hM) ?_;refine ab [0] (Tr) ?_;exact fO
    | some i =>
     rw [hx] at hM;have hi:i < p.fns.length:=(List.findIdx?_eq_some_iff_getElem.1 hx).1;obtain ⟨f,hf⟩:∃ f,p.fns[i]?=some f:=⟨p.fns[i],by simp [hi]⟩
     have hr:(p.fns.map au)[i]?=some (au f):=by rw [getElem?_map,hf];rfl
     have cE:(f.params.map fun s=>[GV.v (sv s)]).length=f.params.length:=by simp
     have hd:decide (((i:Nat):Int) < 0)=false:=by simp
     have jY:decide (kW p i > 0)=decide ((0:Int) < ((f.params.map fun s=>[GV.v (sv s)]).length:Int)):=by
      unfold kW;rw [hf];exact decide_eq_decide.2 (by simp only;omega)
     simp only at hM
     have pL:jh p=decide (kW p i > 0):=by unfold jh;rw [hx]
     rw [jY] at pL;unfold au at hr
     cases h1:decide ((0:Int) < ((f.params.map fun s=>[GV.v (sv s)]).length:Int)) with
     | true =>
      rw [show (if jh p=true then fB kk 25 else kk)=fB kk 25 from if_pos (by rw [pL,h1])];refine ae ?_;refine ab [] (hM) ?_;refine ab [0] (Tr) ?_;exact fO
     | false =>
      rw [show (if jh p=true then fB kk 25 else kk)=kk from if_neg (by rw [pL,h1];decide)];refine ae ?_;refine ab [] (hM) ?_;exact fO
end Go.Xg
namespace Go.Im
open Go.Xp Go.Sp
theorem Oz (p:Src) (l:List T) (c:SS):mF p [] l c=c:=by unfold mF;rfl
end Go.Im
namespace Go.Xg
open Go.RowKit Go.Xw Go.Proofs
open Go.Xp (Nd T Ar aO az)
open Go.Sp (Src)
open Go.Im
attribute [local irreducible] GW GL GO YG GC GA aW aZ
theorem Ko (p:Src) (hF:GF Tryz.prog 129 [.agg (av p)] [] (.v (.bool false)) []):GF Tryz.prog 97 [.agg (av p)] [] (.tup [.v (ii 20),.v (ii 0)]) []:=by
 refine aj Tryz.func97 Tryz.ntmps97 ?_;refine ab [] (hF) ?_;exact lJ
theorem IM (p:Src) (l:List T) (c1 c2:SS) (jm:p.fns.length=l.length) (gH:p.fns.length<=1048576) (iU:p.arrays.length<=1099511627776) (jU:p.globals.length<=1099511627776)
  (xa:∀ f∈p.fns,f.params.length<=1048576) (cK:∀ t∈l,aO t<=1048576)
  (hF:GF Tryz.prog 129 [.agg (av p)] [] (.v (.bool true)) [])
  (hN:GF Tryz.prog 130 [.loc 0 0] [.box 133 (cC p (.slice none 0 0) ⟨[],0,0⟩)] (.tup []) [.box 133 (cC p (.slice none 0 0) c1)])
  (hS:GF Tryz.prog 131 [.loc 0 0] [.box 133 (cC p (.slice none 0 0) c1)] (.tup []) [.box 133 (cC p (.slice none 0 0) c2)])
  (pe:∀ (i:Nat) (f:Go.Sp.Fn) (t:T),p.fns[i]?=some f->l[i]?=some t->GF Tryz.prog 99 [.agg (av p),.v (ii f.body)] [] (.agg (cT t)) []) :
  GF Tryz.prog 97 [.agg (av p)] [] (.tup [.v (ii (mF p p.fns l c2).code),.v (ii (mF p p.fns l c2).at_)]) []:=by
 have oI:(p.fns.map au).length=p.fns.length:=by simp
 unfold cC at hN hS;refine aj Tryz.func97 Tryz.ntmps97 ?_;refine ab [] (hF) ?_;refine ab [1] (hN) ?_;refine ab [1] (hS) ?_;refine GW.range (p.fns.map au).length (fun k fr Γ=>∃ h c,fr=[.U,.loc 0 0,.U,.U,.loc 1 0,.U,.U,.U,.U,.U,.U,.U,.U,.U,.U,.U,.U,.U,.sl 3 (p.fns.map au),.v (ii ((p.fns.map au).length:Int)),.v (ii (k:Nat)),.U,.U,.U,.U,.U,.U,.U,.U,.U,.U,.U,.U,.U,.U,.U,.U,.U,.U,.U,.U,.U,.U,.U,.U,.U,.U]/\Γ=[.box 34 (av p),.box 133 (cC p h c)]/\mF p p.fns l c2=mF p (p.fns.drop k) (l.drop k) c) ?_ ah ?_ ?_ ?_
 ·exact ⟨_,_,Wk.ax ao,_,c2,rfl,rfl,rfl⟩
 ·rintro k _ _ ⟨h,c,rfl,rfl,_⟩;exact ⟨rfl,rfl,rfl⟩
 ·rintro k _ _ ar ⟨h,c,rfl,rfl,he⟩;rw [oI] at ar;obtain ⟨f,hf⟩:∃ f,p.fns[k]?=some f:=⟨p.fns[k],by simp [ar]⟩;obtain ⟨t,ht⟩:∃ t,l[k]?=some t:=⟨l[k]'ah,getElem?_eq_getElem _⟩
  have hr:(p.fns.map au)[k]?=some (au f):=by rw [getElem?_map,hf];rfl
  have LY:p.fns.drop k=f::p.fns.drop (k+1):=by rw [List.drop_eq_getElem_cons ar];rw [getElem?_eq_getElem ar] at hf;rw [Option.some.inj hf]
  have db:l.drop k=t::l.drop (k+1):=by rw [List.drop_eq_getElem_cons ah];rw [getElem?_eq_getElem ah] at ht;rw [Option.some.inj ht]
  have hp:=xa f (mem_of_getElem? hf);have hz:=cK t (mem_of_getElem? ht);have T0:=pe k f t hf ht;have hP:=GB p h c f hp;rw [LY,db,mF] at he
  cases hc:(c.code==0) with
  | false =>
   rw [if_neg (by simpa using hc)] at he;unfold cC au at *;refine ae ?_;exact ⟨rfl,rfl,_,_,(Wk.cut (n:=2) (Nat.zero_le _) rfl).trans (Wk.ax ao),h,c,rfl,rfl,he⟩
  | true =>
   rw [if_pos (by simpa using hc)] at he
   have WG:=fun ad cp=>Mx p iU ah jU _ t (Nat.le_refl _) (po f c) ad cp (by show f.params.length+_<=_;omega)
   rw [he];generalize mu p t (po f c)=c3 at *;unfold cO at WG;unfold au at hr hP;rw [show cC p h c=[strs p.globals,.sl 2 (p.arrays.map aB),.sl 3 (p.fns.map au),.sl 5 (p.nodes.map ay),.v h,.v (ii c.code),.v (ii c.at_)] from rfl] at *;refine ae ?_;refine bO [1] (hP) ?_;rintro _ _ ⟨rfl,ad,cp,rfl⟩;refine ct ?_;refine ae ?_;refine ab [] (T0) ?_;refine bO [1,3] (WG ad cp) ?_;rintro _ _ ⟨rfl,pG,pI,rfl⟩;refine ct ?_;refine ae ?_;exact ⟨rfl,rfl,_,_,(Wk.cut (n:=2) (Nat.zero_le _) rfl).trans (Wk.ax ao),_,c3,rfl,rfl,rfl⟩
 ·rintro _ _ ⟨h,c,rfl,rfl,he⟩;rw [oI,List.drop_length,Oz] at he;rw [he];unfold cC;refine aK ?_;refine ae ?_;refine aE (aH [0,1,2,3,4,5,6,7,8,9] .nil) ?_;refine ak ?_;exact qm
end Go.Xg
namespace Go.Xg
open Go.RowKit Go.Xw Go.Proofs
open Go.Xp (Nd T Ar aO az cx)
open Go.Sp (Src)
open Go.Im
attribute [local irreducible] GW GL GO YG GC GA aW aZ
end Go.Xg
namespace Go.Xg
open Go.RowKit Go.Xw Go.Proofs
section
variable {P:Program} {m:Nat} {ops:Array Oper} {Q:dH} {rest:List Oper} {fr:List GV} {Γ:List Ob}
theorem Ns {o:Oper} {a:Act} {next next':Act->World->Prop} {Q Q':Exit->Act->World->Prop} (hn:∀ a w,next a w->next' a w) (hq:∀ e a w,Q e a w->Q' e a w):∀ r,o.upon P a next Q r->o.upon P a next' Q' r:=by
 have hl:LetsOut Q->LetsOut Q':=fun ⟨a,w,h⟩=>⟨a,w,hq _ _ _ h⟩
 intro r h;unfold Oper.upon at h |-;split at h
 ·exact hn _ _ h
 ·exact hn _ _ h
 ·exact hn _ _ h
 ·refine Calls.mono h fun e w' he=>?_
  cases e with
  | returned v=>exact hn _ _ he
  | panicked ch=>exact hq _ _ _ he
  | outgrown=>exact hl he
 ·exact Rows.mono h fun v w' hv=>hn _ _ hv
 ·exact hq _ _ _ h
 ·exact h
theorem yW {Q Q':Exit->Act->World->Prop} (hq:∀ e a w,Q e a w->Q' e a w):∀ (l:List Oper) (a:Act) (w:World),wpList P ops Q l a w->wpList P ops Q' l a w
 | [],a,w,h=>hq _ _ _ h
 | o::l,a,w,h=>by
  have ih:=yW hq l;unfold wpList at h |-;split at h
  ·rename_i hw;rw [if_pos hw]
   rcases h with h | ⟨h1,h2⟩
   ·exact .inl (Ns ih hq _ h)
   ·exact .inr ⟨h1,by obtain ⟨a,w,h⟩:=h2;exact ⟨a,w,hq _ _ _ h⟩⟩
  ·rename_i hw;rw [if_neg hw];exact ih _ _ h
theorem GL.mono {Q':dH} (h:GL P m ops Q rest fr Γ) (hq:∀ e fr Γ,Q e fr Γ->Q' e fr Γ):GL P m ops Q' rest fr Γ:=fun B K β w l hm hI hF =>
 yW (fun e a w ⟨l,ha,K,β,fr,Γ,hI,hF,q⟩=>⟨l,ha,K,β,fr,Γ,hI,hF,hq _ _ _ q⟩) _ _ _ (h B K β w l hm hI hF)
theorem GL.VS {z y:Code} (K:List GV->List Ob->Prop) (h1:GL P m ops (aW (GW P m z (aW (ym m K) Q)) Q) rest fr Γ) (h2:∀ fr Γ,K fr Γ->GW P m y Q fr Γ):GL P m ops (aW (GW P m z (aW (GW P m y Q) Q)) (aW (GW P m y Q) Q)) rest fr Γ:=by
 refine h1.mono fun e fr Γ hq=>?_
 cases e with
 | normal=>exact GW.join K hq h2
 | _=>exact hq
theorem GL.vn {t i n E k:Nat} {rows:List (List GV)} (ht:cq fr t=.vec i n) (gI:jb fr t=true) (bu:Γ[i]?=some (.vec E k 0 rows)) (hn:rows.length=n)
  (h:∀ a c,GL P m ops Q rest (bo fr t (.v (.slice a n c))) (oset Γ i (.vech E k rows (.slice a n c)))):GL P m ops Q rest fr Γ:=fun B K β w l hm hI hF=>by
 subst hn;obtain ⟨a,c,hb,bf⟩:=hI.vn bu
 have hv:nth l t=.slice a rows.length c:=by
  have:=hF.nth t;rw [ht] at this;generalize nth l t=x at this
  cases this with
  | vec i n a' c' h =>
   obtain ⟨h0,m0,e1,_,e3⟩:=h;rw [hb] at e1;cases e1;exact e3 rfl
 have:=hF.eK t (Rel.v (K:=K) (β:=β) (.slice a rows.length c));rw [<-hv,zL (lR hF gI),hv] at this;exact h a c B K β w l hm bf this
end
end Go.Xg
namespace Go.Im
open Go.Xp Go.Sp
def H3 (x y:Int):Bool:=decide (x<=y)
structure Yp (d:Array Int) (m:Nat):Prop where
 rise:gk (Go.Lib.compactUpTo d m)
 le:∀ x∈Go.Lib.compactUpTo d m,0 < m/\x<=d[m - 1]!
 mem:∀ x,x∈Go.Lib.compactUpTo d m↔∃ i,i < m/\d[i]! = x
 len:(Go.Lib.compactUpTo d m).length<=m
theorem Rp {d:Array Int} {n:Nat} (hs:∀ i,i+1 < n->d[i]! <= d[i+1]!):∀ m,m<=n->Yp d m:=by
 intro m
 induction m with
 | zero=>intro _;exact ⟨List.Pairwise.nil,fun x hx=>(by cases hx),fun x=>(by simp [Go.Lib.compactUpTo]),Nat.le_refl _⟩
 | succ m ih =>
  intro hm;obtain ⟨h1,h2,h3,h4⟩:=ih (by omega);have e:=Go.Lib.compactUpTo_succ d m
  by_cases hk:Go.Lib.keeps d m=true
  ·rw [if_pos hk] at e
   have ar:∀ x∈Go.Lib.compactUpTo d m,x < d[m]! := fun x hx=>by
    obtain ⟨h5,h6⟩:=h2 x hx;have h7:=hs (m - 1) (by omega);rw [Nat.sub_add_cancel h5] at h7
    have:d[m]! ≠ d[m - 1]! := by
     unfold Go.Lib.keeps at hk;simp only [decide_eq_true_eq] at hk
     rcases hk with h | h
     ·omega
     ·exact h
    omega
   refine ⟨?_,fun x hx=>?_,fun x=>?_,?_⟩
   ·rw [e];unfold gk at *;rw [List.pairwise_append];exact ⟨h1,by simp,fun a ha b hb=>by rw [mem_singleton] at hb;rw [hb];exact ar a ha⟩
   ·rw [e,List.mem_append,mem_singleton] at hx;rw [Nat.add_sub_cancel]
    rcases hx with h | h
    ·have:=ar x h;omega
    ·omega
   ·rw [e,List.mem_append,mem_singleton,h3];constructor
    ·rintro (⟨i,hi,hx⟩ | hx)
     ·exact ⟨i,by omega,hx⟩
     ·exact ⟨m,by omega,hx.symm⟩
    ·rintro ⟨i,hi,hx⟩
     by_cases him:i=m
     ·subst him;exact .inr hx.symm
     ·exact .inl ⟨i,by omega,hx⟩
   ·rw [e,length_append];simp;omega
  ·rw [if_neg hk,append_nil] at e
   have QB:0 < m:=by
    rcases Nat.eq_zero_or_pos m with h | h
    ·subst h;exact absurd (by simp [Go.Lib.keeps]) hk
    ·exact h
   have heq:d[m]! = d[m - 1]! := by
    unfold Go.Lib.keeps at hk;simp only [decide_eq_true_eq,not_or] at hk;exact Decidable.not_not.1 hk.2
   refine ⟨by rw [e];exact h1,fun x hx=>?_,fun x=>?_,by rw [e];omega⟩
   ·rw [e] at hx;rw [Nat.add_sub_cancel,heq];exact ⟨by omega,(h2 x hx).2⟩
   ·rw [e,h3];constructor
    ·rintro ⟨i,hi,hx⟩;exact ⟨i,by omega,hx⟩
    ·rintro ⟨i,hi,hx⟩
     by_cases him:i=m
     ·subst him;exact ⟨i - 1,by omega,by rw [<-heq];exact hx⟩
     ·exact ⟨i,by omega,hx⟩
def fZ (l:List Int):List Int:=l.mergeSort H3
theorem Df (l:List Int):(fZ l).Perm l:=List.mergeSort_perm l H3
theorem mT (l:List Int):(fZ l).length=l.length:=(Df l).length_eq
theorem vP {l:List Int} {x:Int}:x∈fZ l↔x∈l:=(Df l).mem_iff
theorem G2 (l:List Int):(fZ l).Pairwise (·<=·):=by
 have:=List.pairwise_mergeSort (le:=H3) (fun a b c h1 h2=>by unfold H3 at *;simp at *;omega) (fun a b=>by unfold H3;simp;omega) l
 exact this.imp fun {a b} h=>by unfold H3 at h;simpa using h
theorem SR (l:List Int):Go.Lib.compact (fZ l)=n9 l/\(Go.Lib.compact (fZ l)).length<=(fZ l).length:=by
 have hs:=G2 l
 have hg:∀ i,i < (fZ l).length->∃ x,(fZ l)[i]?=some x/\(fZ l).toArray[i]! = x:=fun i hi=>⟨(fZ l)[i],getElem?_eq_getElem _,by simp [getElem!_pos,hi]⟩
 have h:=Rp (d:=(fZ l).toArray) (n:=(fZ l).length) (fun i hi=>by
  rw [List.pairwise_iff_getElem] at hs;have:=hs i (i+1) (by omega) hi (by omega)
  simpa [getElem!_pos,hi,show i < (fZ l).length by omega] using this) _ (Nat.le_refl _)
 refine ⟨AN h.rise (ri l) fun x=>?_,h.len⟩;unfold Go.Lib.compact;rw [h.mem,vL];constructor
 ·rintro ⟨i,hi,hx⟩;obtain ⟨y,hy,he⟩:=hg i hi;rw [he] at hx;subst hx;exact vP.1 (mem_of_getElem? hy)
 ·intro hx;obtain ⟨i,hi⟩:=getElem?_of_mem (vP.2 hx);have ar:=(List.getElem?_eq_some_iff.1 hi).1;obtain ⟨y,hy,he⟩:=hg i ar;rw [hi] at hy;cases hy;exact ⟨i,ar,he⟩
end Go.Im
