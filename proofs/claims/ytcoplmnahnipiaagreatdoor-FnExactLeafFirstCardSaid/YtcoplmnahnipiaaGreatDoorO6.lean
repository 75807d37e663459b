/- Part 6 of proofs that are told in their last texts. -/
import Derived.Test.YtcoplmnahnipiaaGreatDoorO2
import Derived.Test.YtcoplmnahnipiaaGreatDoorO5
import Derived.Test.YtcoplmnahnipiaaGreatDoorO3
import Derived.Lib.SlicesCompact
open List (any_eq_false append_nil cons_append getElem?_eq_getElem getElem?_map getElem?_of_mem getElem?_set length_append length_map length_take length_zipWith map_take mem_of_getElem? mem_singleton nil_append set_cons_zero take_add_one take_length)
set_option linter.unusedVariables false
set_option linter.unusedSimpArgs false
set_option maxRecDepth 100000
set_option maxHeartbeats 2000000
namespace Go.Xg
open Go.RowKit Go.Xw Go.Proofs
open Go.Xp (Nd Ar)
open Go.Sp (Src)
open Go.Im (wS dB bf nK rS gq dJ nJ kQ nI)
open Go.Im (kZ kY kX)
attribute [local irreducible] GW GL GO YG GC GA aY ba
theorem Qn (l:List Int) (hl:l.length<=1048576):GF Tryz.prog 135 [ints l] [] (ints l) []:=by
 have hm:(l.map (fun i=>[GV.v (ii i)])).length=l.length:=by simp
 refine aj Tryz.func135 Tryz.ntmps135 ?_;refine GL.zo rfl ⟨by omega,by omega⟩ ?_;intro a c;refine bT ?_;refine ae ?_;refine GW.loop (fun k:Nat=>l.length - k) (fun k fr Γ=>∃ R Z,fr=[ints l,.U,.U,.v (.slice a (l.map (fun i=>[GV.v (ii i)])).length c),.v (ii (k:Nat)),.U,.U,.U,.U,.U,.U,.U,.U,.U,.U,.U,.U,.U,.U,.U,.U,.U]/\Γ=[.vech 3 1 R (.slice a (l.map (fun i=>[GV.v (ii i)])).length c)]/\k<=l.length/\R=(l.take k).map (fun i=>[GV.v (ii i)])++List.replicate (l.length - k) Z) 0 ?_ ?_
 ·exact ⟨_,_,Wk.aD ar,_,_,rfl,rfl,Nat.zero_le _,by rw [hm];rfl⟩
 rintro k _ _ ⟨R,Z,rfl,rfl,hk,hR⟩
 have nz:R.length=l.length:=by rw [hR];exact kY hk
 have eG:R.length=(l.map (fun i=>[GV.v (ii i)])).length:=by rw [hm];exact nz
 by_cases ao:k < l.length
 ·have hx:l[k]?=some l[k]:=by simp [ao]
  have hr:(l.map (fun i=>[GV.v (ii i)]))[k]?=some ([GV.v (ii l[k])]):=by rw [getElem?_map,hx];rfl
  have dr:decide ((k:Int) < ((l.map (fun i=>[GV.v (ii i)])).length:Int))=true:=by rw [hm];simpa using ao
  have b9:=kZ (f:=(fun i=>[GV.v (ii i)])) (Z:=Z) hx;rw [<-hR] at b9;clear hR;generalize l[k]=x at *;refine ae ?_;refine jK ?_;refine ae ?_;exact ⟨k+1,⟨_,_,Wk.aD ar,_,Z,rfl,rfl,ao,b9⟩,by show l.length - (k+1) < l.length - k;omega⟩
 ·have dr:decide ((k:Int) < ((l.map (fun i=>[GV.v (ii i)])).length:Int))=false:=by rw [hm];simpa using ao
  have lA:k=l.length:=by omega
  subst lA;rw [kX] at hR;subst hR;refine bH ?_;refine GW.wk (by apply Wk.pY (t:=3) (i:=0) <;> rfl) ?_;simp only [oset,bx];exact aw
theorem zx (l:List ai) (hl:l.length<=1048576):GF Tryz.prog 41 [strs l] [] (strs l) []:=by
 have hm:(l.map (fun s=>[GV.v (sv s)])).length=l.length:=by simp
 refine aj Tryz.func41 Tryz.ntmps41 ?_;refine GL.zo rfl ⟨by omega,by omega⟩ ?_;intro a c;refine bT ?_;refine ae ?_;refine GW.loop (fun k:Nat=>l.length - k) (fun k fr Γ=>∃ R Z,fr=[strs l,.U,.U,.v (.slice a (l.map (fun s=>[GV.v (sv s)])).length c),.v (ii (k:Nat)),.U,.U,.U,.U,.U,.U,.U,.U,.U,.U,.U,.U,.U,.U,.U,.U,.U]/\Γ=[.vech 9 1 R (.slice a (l.map (fun s=>[GV.v (sv s)])).length c)]/\k<=l.length/\R=(l.take k).map (fun s=>[GV.v (sv s)])++List.replicate (l.length - k) Z) 0 ?_ ?_
 ·exact ⟨_,_,Wk.aD ar,_,_,rfl,rfl,Nat.zero_le _,by rw [hm];rfl⟩
 rintro k _ _ ⟨R,Z,rfl,rfl,hk,hR⟩
 have nz:R.length=l.length:=by rw [hR];exact kY hk
 have eG:R.length=(l.map (fun s=>[GV.v (sv s)])).length:=by rw [hm];exact nz
 by_cases ao:k < l.length
 ·have hx:l[k]?=some l[k]:=by simp [ao]
  have hr:(l.map (fun s=>[GV.v (sv s)]))[k]?=some ([GV.v (sv l[k])]):=by rw [getElem?_map,hx];rfl
  have dr:decide ((k:Int) < ((l.map (fun s=>[GV.v (sv s)])).length:Int))=true:=by rw [hm];simpa using ao
  have b9:=kZ (f:=(fun s=>[GV.v (sv s)])) (Z:=Z) hx;rw [<-hR] at b9;clear hR;generalize l[k]=x at *;refine ae ?_;refine jK ?_;refine ae ?_;exact ⟨k+1,⟨_,_,Wk.aD ar,_,Z,rfl,rfl,ao,b9⟩,by show l.length - (k+1) < l.length - k;omega⟩
 ·have dr:decide ((k:Int) < ((l.map (fun s=>[GV.v (sv s)])).length:Int))=false:=by rw [hm];simpa using ao
  have lA:k=l.length:=by omega
  subst lA;rw [kX] at hR;subst hR;refine bH ?_;refine GW.wk (by apply Wk.pY (t:=3) (i:=0) <;> rfl) ?_;simp only [oset,bx];exact aw
theorem DL (x:Ar):GF Tryz.prog 100 [.agg (aH x)] [] (.agg (aH x)) []:=by
 refine aj Tryz.func100 Tryz.ntmps100 ?_;exact dm
theorem KR (l:List Ar) (hl:l.length<=1048576):GF Tryz.prog 42 [.sl 2 (l.map aH)] [] (.sl 2 (l.map aH)) []:=by
 have hm:(l.map aH).length=l.length:=by simp
 refine aj Tryz.func42 Tryz.ntmps42 ?_;refine GL.zo rfl ⟨by omega,by omega⟩ ?_;intro a c;refine bT ?_;refine ae ?_;refine GW.loop (fun k:Nat=>l.length - k) (fun k fr Γ=>∃ R Z,fr=[.sl 2 (l.map aH),.U,.U,.v (.slice a (l.map aH).length c),.v (ii (k:Nat)),.U,.U,.U,.U,.U,.U,.U,.U,.U,.U,.U,.U,.U,.U,.U,.U,.U,.U]/\Γ=[.vech 88 2 R (.slice a (l.map aH).length c)]/\k<=l.length/\R=(l.take k).map aH++List.replicate (l.length - k) Z) 0 ?_ ?_
 ·exact ⟨_,_,Wk.aD ar,_,_,rfl,rfl,Nat.zero_le _,by rw [hm];rfl⟩
 rintro k _ _ ⟨R,Z,rfl,rfl,hk,hR⟩
 have nz:R.length=l.length:=by rw [hR];exact kY hk
 have eG:R.length=(l.map aH).length:=by rw [hm];exact nz
 by_cases ao:k < l.length
 ·have hx:l[k]?=some l[k]:=by simp [ao]
  have hr:(l.map aH)[k]?=some (aH l[k]):=by rw [getElem?_map,hx];rfl
  have dr:decide ((k:Int) < ((l.map aH).length:Int))=true:=by rw [hm];simpa using ao
  have b9:=kZ (f:=aH) (Z:=Z) hx;rw [<-hR] at b9;have hc:=DL l[k];clear hR;generalize l[k]=x at *;refine ae ?_;refine ab [] hc ?_;refine jK ?_;refine ae ?_;exact ⟨k+1,⟨_,_,Wk.aD ar,_,Z,rfl,rfl,ao,b9⟩,by show l.length - (k+1) < l.length - k;omega⟩
 ·have dr:decide ((k:Int) < ((l.map aH).length:Int))=false:=by rw [hm];simpa using ao
  have lA:k=l.length:=by omega
  subst lA;rw [kX] at hR;subst hR;refine bH ?_;refine GW.wk (by apply Wk.pY (t:=3) (i:=0) <;> rfl) ?_;simp only [oset,bx];exact aw
theorem VQ (x:Go.Sp.Fn) (hp:x.params.length<=1048576):GF Tryz.prog 101 [.agg (ax x)] [] (.agg (ax x)) []:=by
 have h0:=zx x.params hp;refine aj Tryz.func101 Tryz.ntmps101 ?_;refine ab [] h0 ?_;exact dm
theorem Tm (l:List Go.Sp.Fn) (hl:l.length<=1048576) (he:∀ x∈l,x.params.length<=1048576):GF Tryz.prog 43 [.sl 3 (l.map ax)] [] (.sl 3 (l.map ax)) []:=by
 have hm:(l.map ax).length=l.length:=by simp
 refine aj Tryz.func43 Tryz.ntmps43 ?_;refine GL.zo rfl ⟨by omega,by omega⟩ ?_;intro a c;refine bT ?_;refine ae ?_;refine GW.loop (fun k:Nat=>l.length - k) (fun k fr Γ=>∃ R Z,fr=[.sl 3 (l.map ax),.U,.U,.v (.slice a (l.map ax).length c),.v (ii (k:Nat)),.U,.U,.U,.U,.U,.U,.U,.U,.U,.U,.U,.U,.U,.U,.U,.U,.U,.U]/\Γ=[.vech 60 3 R (.slice a (l.map ax).length c)]/\k<=l.length/\R=(l.take k).map ax++List.replicate (l.length - k) Z) 0 ?_ ?_
 ·exact ⟨_,_,Wk.aD ar,_,_,rfl,rfl,Nat.zero_le _,by rw [hm];rfl⟩
 rintro k _ _ ⟨R,Z,rfl,rfl,hk,hR⟩
 have nz:R.length=l.length:=by rw [hR];exact kY hk
 have eG:R.length=(l.map ax).length:=by rw [hm];exact nz
 by_cases ao:k < l.length
 ·have hx:l[k]?=some l[k]:=by simp [ao]
  have hr:(l.map ax)[k]?=some (ax l[k]):=by rw [getElem?_map,hx];rfl
  have dr:decide ((k:Int) < ((l.map ax).length:Int))=true:=by rw [hm];simpa using ao
  have b9:=kZ (f:=ax) (Z:=Z) hx;rw [<-hR] at b9;have hex:=he _ (mem_of_getElem? hx);have hc:=VQ l[k] hex;clear hR;generalize l[k]=x at *;refine ae ?_;refine ab [] hc ?_;refine jK ?_;refine ae ?_;exact ⟨k+1,⟨_,_,Wk.aD ar,_,Z,rfl,rfl,ao,b9⟩,by show l.length - (k+1) < l.length - k;omega⟩
 ·have dr:decide ((k:Int) < ((l.map ax).length:Int))=false:=by rw [hm];simpa using ao
  have lA:k=l.length:=by omega
  subst lA;rw [kX] at hR;subst hR;refine bH ?_;refine GW.wk (by apply Wk.pY (t:=3) (i:=0) <;> rfl) ?_;simp only [oset,bx];exact aw
theorem Qp (x:Nd) (hp:x.kids.length<=1048576):GF Tryz.prog 102 [.agg (az x)] [] (.agg (az x)) []:=by
 have h0:=Qn x.kids hp;refine aj Tryz.func102 Tryz.ntmps102 ?_;refine ab [] h0 ?_;exact dm
theorem N5 (l:List Nd) (hl:l.length<=1048576) (he:∀ x∈l,x.kids.length<=1048576):GF Tryz.prog 44 [.sl 5 (l.map az)] [] (.sl 5 (l.map az)) []:=by
 have hm:(l.map az).length=l.length:=by simp
 refine aj Tryz.func44 Tryz.ntmps44 ?_;refine GL.zo rfl ⟨by omega,by omega⟩ ?_;intro a c;refine bT ?_;refine ae ?_;refine GW.loop (fun k:Nat=>l.length - k) (fun k fr Γ=>∃ R Z,fr=[.sl 5 (l.map az),.U,.U,.v (.slice a (l.map az).length c),.v (ii (k:Nat)),.U,.U,.U,.U,.U,.U,.U,.U,.U,.U,.U,.U,.U,.U,.U,.U,.U,.U]/\Γ=[.vech 91 5 R (.slice a (l.map az).length c)]/\k<=l.length/\R=(l.take k).map az++List.replicate (l.length - k) Z) 0 ?_ ?_
 ·exact ⟨_,_,Wk.aD ar,_,_,rfl,rfl,Nat.zero_le _,by rw [hm];rfl⟩
 rintro k _ _ ⟨R,Z,rfl,rfl,hk,hR⟩
 have nz:R.length=l.length:=by rw [hR];exact kY hk
 have eG:R.length=(l.map az).length:=by rw [hm];exact nz
 by_cases ao:k < l.length
 ·have hx:l[k]?=some l[k]:=by simp [ao]
  have hr:(l.map az)[k]?=some (az l[k]):=by rw [getElem?_map,hx];rfl
  have dr:decide ((k:Int) < ((l.map az).length:Int))=true:=by rw [hm];simpa using ao
  have b9:=kZ (f:=az) (Z:=Z) hx;rw [<-hR] at b9;have hex:=he _ (mem_of_getElem? hx);have hc:=Qp l[k] hex;clear hR;generalize l[k]=x at *;refine ae ?_;refine ab [] hc ?_;refine jK ?_;refine ae ?_;exact ⟨k+1,⟨_,_,Wk.aD ar,_,Z,rfl,rfl,ao,b9⟩,by show l.length - (k+1) < l.length - k;omega⟩
 ·have dr:decide ((k:Int) < ((l.map az).length:Int))=false:=by rw [hm];simpa using ao
  have lA:k=l.length:=by omega
  subst lA;rw [kX] at hR;subst hR;refine bH ?_;refine GW.wk (by apply Wk.pY (t:=3) (i:=0) <;> rfl) ?_;simp only [oset,bx];exact aw
theorem KT (x:Src) (hg:x.globals.length<=1048576) (ha:x.arrays.length<=1048576) (hf:x.fns.length<=1048576) (AX:∀ f∈x.fns,f.params.length<=1048576) (hn:x.nodes.length<=1048576) (xH:∀ n∈x.nodes,n.kids.length<=1048576):GF Tryz.prog 12 [.agg (ay x)] [] (.agg (ay x)) []:=by
 have h0:=zx x.globals hg;have h1:=KR x.arrays ha;have h2:=Tm x.fns hf AX;have h3:=N5 x.nodes hn xH;refine aj Tryz.func12 Tryz.ntmps12 ?_;refine ab [] h0 ?_;refine ab [] h1 ?_;refine ab [] h2 ?_;refine ab [] h3 ?_;exact dm
end Go.Xg
namespace Go.Xg
open Go.RowKit Go.Xw
def Ob.lS:Ob->Bool
 | .vech _ _ _ _=>true
 | _=>false
def pV (β:Bt) (aQ:List Nat):Bt:=fun j=>match aQ[j]? with
 | some i=>β i
 | none=>.no
section
variable {B:Bs} {K:Fz} {β:Bt} {Γ:List Ob} {w:World}
theorem bb.rv {K:Fz} {β bV:Bt} {vs:List Value} {gs:List GV} (h:bb K β vs gs) (hp:∀ g∈gs,g.pc=true):bb K bV vs gs:=⟨h.1,fun i v g h1 h2=>(h.2 i v g h1 h2).pc (hp g (mem_of_getElem? h2))⟩
theorem fy.flat {k:Nat} {rows:List (List GV)} (h:fy k rows):∀ g∈rows.flatten,g.pc=true:=fun g hg=>by
 obtain ⟨r,h1,h2⟩:=List.mem_flatten.1 hg;exact (h r h1).2 g h2
theorem Inv.pick (h:Inv B K β Γ w) (hm:B.m=0) {aQ:List Nat} {Δ:List Ob} (hl:Δ.length=aQ.length) (hn:aQ.Nodup)
  (hx:∀ (j:Nat) x,Δ[j]?=some x->x.lS=true/\∀ i,aQ[j]?=some i->Γ[i]?=some x):Inv B K (pV β aQ) Δ w:=by
 have hb:∀ i b,(pV β aQ i).blk=some b->∃ q,aQ[i]?=some q/\(β q).blk=some b:=fun i b hi=>by
  unfold pV at hi
  cases hs:aQ[i]? with
  | none=>rw [hs] at hi;cases hi
  | some q=>rw [hs] at hi;exact ⟨q,rfl,hi⟩
 refine ⟨h.ext,h.kle,fun i=>by rw [h.loc i ah];trivial,h.loc,h.fz,fun i x hi=>?_,fun i hi=>?_,fun i j b hi hj=>?_,fun i b hi=>?_,h.kn,h.tab.step (S:=ic) (Ext.refl w) (fun _ h=>h.elim) (cq.refl K) (fun i b2 h2=>?_)⟩
 ·obtain ⟨h1,h2⟩:=hx i x hi;have ao:=(List.getElem?_eq_some_iff.1 hi).1;have hs:aQ[i]?=some (aQ[i]'ah):=getElem?_eq_getElem _
  cases x with
  | vech E k rows v =>
   obtain ⟨xs,e1,e2,e3,e4,e5⟩:=h.ob _ _ (h2 _ hs);refine ⟨xs,?_,e2,e3.rv e4.flat,e4,e5⟩;show pV β aQ i=_;unfold pV;rw [hs];exact e1
  | _=>cases h1
 ·unfold pV;rw [List.getElem?_eq_none ah]
 ·obtain ⟨q,h1,h2⟩:=hb i b hi;obtain ⟨r,h3,h4⟩:=hb j b hj;have:=h.dis q r b h2 h4;subst this;obtain ⟨a1,a2⟩:=List.getElem?_eq_some_iff.1 h1;obtain ⟨b1,b2⟩:=List.getElem?_eq_some_iff.1 h3;exact (List.getElem_inj hn).1 (a2.trans b2.symm)
 ·obtain ⟨q,h1,h2⟩:=hb i b hi;exact h.own q b h2
 ·obtain ⟨q,h3,h4⟩:=hb i b2 h2;exact .inl ⟨q,h4⟩
theorem Inv.view {i E k:Nat} {rows:List (List GV)} {x:Value} (h:Inv B K β Γ w) (hi:Γ[i]?=some (.vech E k rows x)):∃ K1,cq K K1/\ir K1 w/\fQ K1 (fun _=>.no) w/\Rel K1 (fun _=>.no) x (.sl k rows):=by
 obtain ⟨K',hK,hr,bj⟩:=h.pZ hi;exact ⟨K',hK,bj.fz,⟨bj.tab.le,bj.tab.pow,bj.tab.spc,fun i b h=>by cases h⟩,hr.pc rfl⟩
theorem Inv.ZK (h:Inv B K β Γ w):fQ K (fun _=>.no) w:=⟨h.tab.le,h.tab.pow,h.tab.spc,fun i b h=>by cases h⟩
theorem Inv.new (h:ir K w) (ht:fQ K (fun _=>.no) w):Inv ⟨w,ic,K,fun _=>.no,0⟩ K (fun _=>.no) [] w :=
 ⟨Ext.refl w,cq.refl _,cZ.refl _,fun _ _=>rfl,h,fun i x h=>by simp at h,fun _ _=>rfl,fun i j b h=>(by cases h),fun i b h=>(by cases h),fun b o g h=>.inl h,ht⟩
theorem Inv.KJ {i idx o j E k T k':Nat} {rows ks:List (List GV)} {x h:Value} {r:List GV} (hI:Inv B K β Γ w) (hi:Γ[i]?=some (.vech T k rows h)) (hr:rows[idx]?=some r) (ho:r[o]?=some (.v x)) (bJ:i≠j) (hj:Γ[j]?=some (.vech E k' ks x)) :
  ∃ K',cq K K'/\Inv B K' β (oset (oset Γ j (.vec E k' ks.length ks)) i (.vech T k (di rows idx o (.sl k' ks)) h)) w:=by
 obtain ⟨K',hK,eT,bj⟩:=hI.pZ hj;obtain ⟨xs,h1,h2,h3,h4,h5⟩:=bj.ob i (.vech T k rows h) (by rw [bc,getElem?_set,if_neg (fun e=>bJ e.symm)];exact hi);have ao:=(List.getElem?_eq_some_iff.1 hr).1
 have MR:o < k:=by rw [<-(h4 r (mem_of_getElem? hr)).1];exact (List.getElem?_eq_some_iff.1 ho).1
 exact ⟨K',hK,bj.swap ⟨xs,by rw [fB];exact h1,by rw [fB];exact h2,by rw [ui MR h4 ao];exact bb.bx eT h3 (tt h4 hr ho),yI rfl h4,h5⟩⟩
theorem so {rows:List (List GV)} {i o:Nat} {g:GV} {r:List GV} (hr:rows[i]?=some r):∀ q,(di rows i o g)[q]?=if q=i then some (bx r o g) else rows[q]?:=by
 induction rows generalizing i with
 | nil=>simp at hr
 | cons x rs ih =>
  intro q
  cases i with
  | zero =>
   cases hr
   cases q with
   | zero=>simp [di]
   | succ q=>simp [di]
  | succ i =>
   cases q with
   | zero=>simp [di]
   | succ q =>
    have:=ih (by simpa using hr) q;simp only [di,List.getElem?_cons_succ,this]
    by_cases h:q=i
    ·simp [h]
    ·simp [h]
theorem Inv.Ag {T k o E k' jf N:Nat} {h:Value} {raw fin:Nat->List GV} {ks:Nat->List (List GV)} {hd:Nat->Value} {jp:Nat->Nat} (hI:Inv B K β Γ w) {D3:List (List GV)} (C8:Γ[jf]?=some (.vech T k D3 h)) (h0:D3.length=N/\∀ i,i < N->D3[i]?=some (raw i))
  (Zk:∀ i,i < N->(raw i)[o]?=some (.v (hd i))/\bx (raw i) o (.sl k' (ks i))=fin i) (gZ:∀ i,i < N->Γ[jp i]?=some (.vech E k' (ks i) (hd i))) (bJ:∀ i,i < N->jp i≠jf) (E9:∀ i i',i < N->i' < N->jp i=jp i'->i=i') :
  ∃ K' aL rows,cq K K'/\Inv B K' β aL w/\aL[jf]?=some (.vech T k rows h)/\rows.length=N/\(∀ i,i < N->rows[i]?=some (fin i))/\∀ q,q≠jf->(∀ i,i < N->q≠jp i)->aL[q]?=Γ[q]?:=by
 have key:∀ n,n<=N->∃ K' aL rows,cq K K'/\Inv B K' β aL w/\aL[jf]?=some (.vech T k rows h)/\rows.length=N/\(∀ i,i < n->rows[i]?=some (fin i))/\(∀ i,n<=i->i < N->rows[i]?=some (raw i))/\(∀ i,n<=i->i < N->aL[jp i]?=some (.vech E k' (ks i) (hd i)))/\∀ q,q≠jf->(∀ i,i < N->q≠jp i)->aL[q]?=Γ[q]?:=by
  intro n
  induction n with
  | zero=>intro _;exact ⟨K,Γ,D3,cq.refl K,hI,C8,h0.1,fun i h=>by omega,fun i _ h=>h0.2 i h,fun i _ h=>gZ i h,fun _ _ _=>rfl⟩
  | succ n ih =>
   intro hn;obtain ⟨K',aL,rows,a1,a2,a3,a4,a5,a6,a7,a8⟩:=ih ah;have hr:=a6 n (Nat.le_refl _) ah;obtain ⟨c1,c2⟩:=Zk n ah;obtain ⟨K2,b1,b2⟩:=a2.KJ a3 hr c1 (fun e=>bJ n ah e.symm) (a7 n (Nat.le_refl _) ah);have ao:=(List.getElem?_eq_some_iff.1 a3).1;refine ⟨K2,_,di rows n o (.sl k' (ks n)),a1.trans b1,b2,?_,by rw [fB];exact a4,fun i hi=>?_,fun i hi MM=>?_,fun i hi MM=>?_,fun q hq XO=>?_⟩
   ·rw [bc,bc,getElem?_set];simp [ao]
   ·rw [so hr,c2]
    by_cases e:i=n
    ·rw [if_pos e,e]
    ·rw [if_neg e];exact a5 i ah
   ·rw [so hr,if_neg ah];exact a6 i ah MM
   ·rw [bc,bc,getElem?_set,if_neg (fun e=>bJ i MM e.symm),getElem?_set,if_neg (fun e=>by have:=E9 n i ah MM e;omega)];exact a7 i ah MM
   ·rw [bc,bc,getElem?_set,if_neg (fun e=>hq e.symm),getElem?_set,if_neg (fun e=>XO n ah e.symm)];exact a8 q hq XO
 obtain ⟨K',aL,rows,a1,a2,a3,a4,a5,_,_,a8⟩:=key N (Nat.le_refl _);exact ⟨K',aL,rows,a1,a2,a3,a4,a5,a8⟩
end
section
variable {P:Program} {fn:Func} {R:GV->List Ob->Prop} {fr:List GV} {Γ:List Ob} {e:Exit}
theorem Wn {t:Tmp} {x:Value} (aQ:List Nat) (Δ:List Ob) (hr:fn.results=#[.tmp t]) (he:e=.normal\/e=.ret) (hg:cH fr t=.v x) (hl:Δ.length=aQ.length) (hn:aQ.Nodup)
  (hx:∀ (j:Nat) x,Δ[j]?=some x->x.lS=true/\∀ i,aQ[j]?=some i->Γ[i]?=some x) (h:R (.v x) Δ):sL P fn 0 R e fr Γ :=
 ⟨he,fun B K β w l hB hI hF=>⟨nth l t,K,pV β aQ,.v x,Δ,by rw [results_tmp hr,jW],hI.pick hB hl hn hx,by have:=hF.nth t;rw [hg] at this;rw [Rel.eD this];exact .v _,h⟩⟩
theorem Wo {t:Tmp} {T:TypeId} {k:Nat} [hT:Ty P T true k] {i:Nat} {E:TypeId} {cs:List GV} (aQ:List Nat) (Δ:List Ob) (hr:fn.results=#[.cell t T]) (he:e=.normal\/e=.ret) (hg:cH fr t=.loc i 0) (bB:Γ[i]?=some (.box E cs)) (hk:cs.length=k) (hp:rv cs=true)
  (hl:Δ.length=aQ.length) (hn:aQ.Nodup) (hx:∀ (j:Nat) x,Δ[j]?=some x->x.lS=true/\∀ i,aQ[j]?=some i->Γ[i]?=some x) (h:R (.agg cs) Δ):sL P fn 0 R e fr Γ :=
 ⟨he,fun B K β w l hB hI hF=>by
  obtain ⟨b,vs,h1,h2,h3,h4⟩:=hI.ob i _ bB
  have UM:nth l t=.pointer (some ⟨b,0,none⟩):=by
   have:=hF.nth t;rw [hg] at this;generalize nth l t=v at this
   cases this with
   | loc _ _ b' bt=>rw [h1] at bt;cases bt;rfl
  have iT:l.toArray.getD t undef=.pointer (some ⟨b,0,none⟩):=by rw [jW,UM]
  have Fa:=nG (P:=P) (w:=w) (t:=T) (b:=b) (o:=0) (vs:=vs) (k:=k) (by rw [h3.1,hk]) (fun j v hj=>by
   rw [Nat.zero_add,cell_of_row w b j _ E (0,0) h2];simpa using hj)
  have zR:l[t]?.getD undef=.pointer (some ⟨b,0,none⟩):=by simpa using iT
  have h5:bb K (pV β aQ) vs cs:=h3.rv (mN hp)
  exact ⟨.agg vs.toArray,K,pV β aQ,.agg cs,Δ,by simp [results,hr,zR,asAddr,Fa],hI.pick hB hl hn hx,.agg vs cs h5.1 h5.2,h⟩⟩
end
section
variable {P:Program} {fn:Func} {R:GV->List Ob->Prop} {fr:List GV} {Γ:List Ob} {e:Exit}
theorem CU {Γ:List Ob} {n:Nat} (h:∀ x∈Γ.drop n,x.lS=true):(Γ.drop n).length=((List.range (Γ.length - n)).map (·+n)).length/\((List.range (Γ.length - n)).map (·+n)).Nodup /\
  ∀ (j:Nat) x,(Γ.drop n)[j]?=some x->x.lS=true/\∀ i,((List.range (Γ.length - n)).map (·+n))[j]?=some i->Γ[i]?=some x:=by
 refine ⟨by simp,?_,fun j x hj=>⟨h x (mem_of_getElem? hj),fun i hi=>?_⟩⟩
 ·unfold List.Nodup;rw [List.pairwise_map]
  exact List.nodup_range.imp fun bJ he=>bJ ah
 ·have ao:=(List.getElem?_eq_some_iff.1 hj).1;rw [List.length_drop] at ao;rw [getElem?_map,List.getElem?_range ao] at hi;cases hi;rw [List.getElem?_drop] at hj;show Γ[j+n]?=some x;rw [Nat.add_comm];exact hj
theorem qR {t:Tmp} {x:Value} (n:Nat) (hr:fn.results=#[.tmp t]) (he:e=.normal\/e=.ret) (hg:cH fr t=.v x) (ha:∀ x∈Γ.drop n,x.lS=true) (h:R (.v x) (Γ.drop n)):sL P fn 0 R e fr Γ :=
 have hd:=CU ha
 Wn _ (Γ.drop n) hr he hg hd.1 hd.2.1 hd.2.2 h
theorem JK {t:Tmp} {T:TypeId} {k:Nat} [hT:Ty P T true k] {i:Nat} {E:TypeId} {cs:List GV} (n:Nat) (hr:fn.results=#[.cell t T]) (he:e=.normal\/e=.ret) (hg:cH fr t=.loc i 0) (bB:Γ[i]?=some (.box E cs)) (hk:cs.length=k) (hp:rv cs=true)
  (ha:∀ x∈Γ.drop n,x.lS=true) (h:R (.agg cs) (Γ.drop n)):sL P fn 0 R e fr Γ :=
 have hd:=CU ha
 Wo _ (Γ.drop n) hr he hg bB hk hp hd.1 hd.2.1 hd.2.2 h
end
section
variable {P:Program} {m:Nat} {Q:dP} {fr:List GV} {Γ:List Ob} {ops:Array Oper} {rest:List Oper} {d:Option Tmp} {op:Op} {ty:TypeId} {pos:String} {af:Array Edge}
theorem GL.Jw {t:TypeId} {x:Operand} {cs:List GV} (hx:mo (aV fr x)=some cs) (hp:rv cs=true) (h:GL P m ops Q rest (bu fr d (.box cs 0)) Γ):GL P m ops Q (⟨d,.box t x,ty,pos,af,none⟩::rest) fr Γ:=fun B K β w l hm hI hF=>by
 obtain ⟨vs,h1,h2⟩:=(hF.ev x).cells hx
 refine WL.box rfl fun b w' hn=>?_
 rw [h1] at hn;obtain ⟨hle,bj⟩:=hI.tR hn h2 (mN hp);exact h B _ β w' _ hm bj ((hF.mono hle (cZ.refl β)).put d (Rel.box (K:=kU K b cs) (β:=β) b 0 0 cs (fun j g hg=>by rw [Nat.zero_add];exact uK hg)))
theorem GL.borrow {f:FuncId} [hf:aI P f] {args:List Operand} {mG:Array TypeId} {gs:List GV} {v:Value} (hc:GF P f gs [] (.v v) [])
  (hv:∀ B K β w l,Inv B K β Γ w->FR K β fr l->∃ K1,ir K1 w/\fQ K1 (fun _=>.no) w/\bb K1 (fun _=>.no) (args.map (ev l)) gs)
  (h:GL P m ops Q rest (bu fr d (.v v)) Γ):GL P m ops Q (⟨d,.call ⟨.value (.func f),args.toArray,mG⟩,ty,pos,af,none⟩::rest) fr Γ:=fun B K β w l hm hI hF=>by
 obtain ⟨K1,h1,h2,h3⟩:=hv B K β w l hI hF
 have rm:(execOp (ev l) ⟨d,.call ⟨.value (.func f),args.toArray,mG⟩,ty,pos,af,none⟩).run P w=.ok (.enter f (args.map (ev l)).toArray) w:=by simp [execOp,resolve,ev,Deferred.ofValue,invoke,lH]
 refine WL.calls rm (hc _ K1 _ w _ rfl (Inv.new h1 h2) h3) ?_;rintro x w' ⟨K',bV,g,aL,bj,eT,rfl,rfl⟩;exact h B K β w' _ hm (hI.same bj.ext) (hF.put d (by rw [Rel.eD eT];exact .v _))
theorem GL.R4 {f:FuncId} [hf:aI P f] {args:List Operand} {mG:Array TypeId} {gs:List GV} {E k n:Nat} {rows:List (List GV)} (hc:GC P f gs [] fun g Δ=>∃ a c,g=.v (.slice a n c)/\Δ=[.vech E k rows (.slice a n c)])
  (hn:rows.length=n) (ke:∀ r∈rows,∀ g∈r,∃ x,g=.v x)
  (hv:∀ B K β w l,Inv B K β Γ w->FR K β fr l->∃ K1,ir K1 w/\fQ K1 (fun _=>.no) w/\bb K1 (fun _=>.no) (args.map (ev l)) gs)
  (h:∀ a c,GL P m ops Q rest (bu fr d (.v (.slice a n c))) (Γ++[.vech E k rows (.slice a n c)])):GL P m ops Q (⟨d,.call ⟨.value (.func f),args.toArray,mG⟩,ty,pos,af,none⟩::rest) fr Γ:=fun B K β w l hm hI hF=>by
 obtain ⟨K1,h1,h2,h3⟩:=hv B K β w l hI hF
 have rm:(execOp (ev l) ⟨d,.call ⟨.value (.func f),args.toArray,mG⟩,ty,pos,af,none⟩).run P w=.ok (.enter f (args.map (ev l)).toArray) w:=by simp [execOp,resolve,ev,Deferred.ofValue,invoke,lH]
 refine WL.calls rm (hc _ K1 _ w _ rfl (Inv.new h1 h2) h3) ?_;rintro x w' ⟨K',bV,g,aL,bj,eT,a,c,rfl,rfl⟩;subst hn;obtain ⟨xs,e1,e2,e3,e4,e5⟩:=bj.ob 0 _ rfl;have hIs:=hI.same bj.ext
 have yB:∀ g∈rows.flatten,∃ x,g=.v x:=fun g hg=>by
  obtain ⟨r,h5,h6⟩:=List.mem_flatten.1 hg;exact ke r h5 g h6
 have hr:bb K β xs rows.flatten:=⟨e3.1,fun i v g h5 h6=>by
  obtain ⟨y,rfl⟩:=yB g (mem_of_getElem? h6)
  rw [Rel.eD (e3.2 i v _ h5 h6)];exact .v _⟩
 have dA:∀ b,(Value.slice a rows.length c).ownBlock=some b->w.heap.size<=b:=fun b hb=>by
  rcases bj.own 0 b (by rw [e1];exact hb) with h5 | h5
  ·exact h5.elim
  ·exact h5
 have bN:β Γ.length=.no:=hI.out _ (Nat.le_refl _);have n7:=hI.BJ (w':=w') (x:=.slice a rows.length c) bj.ext e2 dA hr e4;have hb:eC β Γ.length (.gr (.slice a rows.length c) rows.length) Γ.length=.gr (.slice a rows.length c) rows.length:=bm;have hle:cZ β (eC β Γ.length (.gr (.slice a rows.length c) rows.length)):=fV (by rw [bN];trivial)
 have ET:=n7.swap (i:=Γ.length) (y:=.vech E k rows (.slice a rows.length c)) ⟨xs,hb,e2,hr.mono (cq.refl K) hle,e4,fun b hb o=>by
  cases hk:K b o with
  | none=>rfl
  | some g=>have:=hI.fz.lt hk;have:=dA b hb;omega⟩
 rw [bc] at ET;simp only [length_append,List.length_cons,List.length_nil,List.set_append_right _ _ (Nat.le_refl _),Nat.sub_self,set_cons_zero] at ET;exact h a c B K _ w' _ hm ET ((hF.mono (cq.refl K) hle).put d (by rw [Rel.eD eT];exact .v _))
theorem tu {P:Program} {w:World} {t e ty:TypeId} {i:TypeInfo} (hu:P.underlying t=some (.slice e)) (hi:P.info? e=some i) (a b:Option Addr) (n c d:Nat) (hc:n<=c) :
  (Builtin.append_ #[t,t] ty #[.slice a n c,.slice b 0 d]).run P w=.ok (.slice a n c) w:=by
 cases a <;> cases b <;> simp [Builtin.append_,run_underlying hu,sizeOf,typeInfo,hi,Builtin.lenOf,hc,Builtin.firstCells,loadCells,loadCellsFrom,storeCells]
theorem GL.V6 {s x:Operand} {t e k gS:Nat} [hT:nZ P t e k gS] (i:Nat) {dt:Tmp} {v:Value} {rows:List (List GV)} (hx:aV fr x=.sl k []) (hs:aV fr s=.v v) (bB:Γ[i]?=some (.vech e k rows v))
  (h:GL P m ops Q rest (bu fr (some dt) (.v v)) Γ):GL P m ops Q (⟨some dt,.call ⟨.builtin .append,#[s,x],#[t,t]⟩,ty,pos,af,none⟩::rest) fr Γ:=fun B K β w l hm hI hF=>by
 obtain ⟨hu,⟨j,z,hi,_⟩,_⟩:=hT.parts;obtain ⟨xs,o1,o2,_⟩:=hI.ob i _ bB;have qm:ev l s=v:=hF.gy hs;have pj:=hF.ev x;rw [hx] at pj;generalize rn:ev l x=vx at pj
 obtain ⟨b,d',rfl⟩:∃ b d',vx=.slice b 0 d':=by
  cases pj with
  | sl0 a c k=>exact ⟨a,c,rfl⟩
  | sl b o c _ _ hr _=>exact ⟨_,_,rfl⟩
 obtain ⟨a,n,c,rfl,hc⟩:∃ a n c,v=.slice a n c/\n<=c:=by
  rcases o2.2 with ⟨e1,e2⟩ | ⟨g,cap,cur,e1,_,_,e2,_⟩
  ·exact ⟨_,_,_,e1,Nat.le_refl _⟩
  ·exact ⟨_,_,_,e1,e2⟩
 have mT:=tu (P:=P) (w:=w) (ty:=ty) hu hi a b n c d' hc;exact WL.val (v:=.slice a n c) (w':=w) (by simp [execOp,resolve,invoke,builtin,qm,rn,mT]) (h B K β w _ hm hI (hF.put _ (.v _)))
theorem GL.Wa {s x:Operand} {t e k gS:Nat} [hT:nZ P t e k gS] {i n fz:Nat} {dt:Tmp} {rows:List (List GV)} (hx:aV fr x=.sl k []) (hs:aV fr s=.vec i n) (bB:Γ[i]?=some (.vec e k fz rows)) (hn:rows.length=n)
  (h:GL P m ops Q rest (bu fr (some dt) (.vec i n)) Γ):GL P m ops Q (⟨some dt,.call ⟨.builtin .append,#[s,x],#[t,t]⟩,ty,pos,af,none⟩::rest) fr Γ:=fun B K β w l hm hI hF=>by
 subst hn;obtain ⟨hu,⟨j,z,hi,_⟩,_⟩:=hT.parts;obtain ⟨h0,xs,o1,o2,_⟩:=hI.ob i _ bB;have sW:=hF.ev s;rw [hs] at sW
 have qm:ev l s=h0:=by
  generalize hv:ev l s=v at sW
  cases sW with
  | vec _ _ a c hh =>
   obtain ⟨h',m',e1,e2,e3⟩:=hh;rw [o1] at e1;cases e1;exact e3 rfl
 have pj:=hF.ev x;rw [hx] at pj;generalize rn:ev l x=vx at pj
 obtain ⟨b,d',rfl⟩:∃ b d',vx=.slice b 0 d':=by
  cases pj with
  | sl0 a c k=>exact ⟨a,c,rfl⟩
  | sl b o c _ _ hr _=>exact ⟨_,_,rfl⟩
 obtain ⟨a,n,c,rfl,hc⟩:∃ a n c,h0=.slice a n c/\n<=c:=by
  rcases o2.2 with ⟨e1,e2⟩ | ⟨g,cap,cur,e1,_,_,e2,_⟩
  ·exact ⟨_,_,_,e1,Nat.le_refl _⟩
  ·exact ⟨_,_,_,e1,e2⟩
 have mT:=tu (P:=P) (w:=w) (ty:=ty) hu hi a b n c d' hc;exact WL.val (v:=.slice a n c) (w':=w) (by simp [execOp,resolve,invoke,builtin,qm,rn,mT]) (h B K β w _ hm hI (hF.put _ (by have:=hF.ev s;rw [hs,qm] at this;exact this)))
theorem Dy {Γ:List Ob} {i:Nat} {x:Ob} (h:Γ[i]?=some x):oset Γ i x=Γ:=by
 rw [bc];apply List.ext_getElem?;intro j;rw [getElem?_set]
 by_cases e:i=j
 ·subst e;have:=(List.getElem?_eq_some_iff.1 h).1;rw [if_pos rfl,if_pos this,h]
 ·rw [if_neg e]
theorem GL.DW {s x:Operand} {t e k gS:Nat} [hT:nZ P t e k gS] (i:Nat) {n:Nat} {dt:Tmp} {a0:Option Addr} {c0:Nat} {rows news:List (List GV)} (hx:aV fr x=.sl k news) (hs:aV fr s=.v (.slice a0 n c0)) (bB:Γ[i]?=some (.vech e k rows (.slice a0 n c0))) (hn:rows.length=n) (h1:l9 news=true)
  (hb:n+news.length<=9223372036854775807/\(n+news.length) * gS<=140737488355328)
  (h:∀ a c,GL P m ops Q rest (bu fr (some dt) (.v (.slice a (n+news.length) c))) (oset Γ i (.vech e k (rows++news) (.slice a (n+news.length) c)))) :
  GL P m ops Q (⟨some dt,.call ⟨.builtin .append,#[s,x],#[t,t]⟩,ty,pos,af,none⟩::rest) fr Γ:=by
 cases news with
 | nil =>
  have h0:=h a0 c0;rw [append_nil,show n+([]:List (List GV)).length=n from rfl,Dy bB] at h0;exact GL.V6 i hx hs bB h0
 | cons r rs=>exact GL.pD i hx hs bB hn h1 rfl hb h
theorem GL.V9 {s x:Operand} {t e k gS:Nat} [hT:nZ P t e k gS] {i n fz:Nat} {dt:Tmp} {rows news:List (List GV)} (hx:aV fr x=.sl k news) (hs:aV fr s=.vec i n) (bB:Γ[i]?=some (.vec e k fz rows)) (hn:rows.length=n) (h1:l9 news=true)
  (hb:n+news.length<=9223372036854775807/\(n+news.length) * gS<=140737488355328)
  (h:GL P m ops Q rest (bu fr (some dt) (.vec i (n+news.length))) (oset Γ i (.vec e k fz (rows++news)))) :
  GL P m ops Q (⟨some dt,.call ⟨.builtin .append,#[s,x],#[t,t]⟩,ty,pos,af,none⟩::rest) fr Γ:=by
 cases news with
 | nil =>
  rw [append_nil,show n+([]:List (List GV)).length=n from rfl,Dy bB] at h;exact GL.Wa hx hs bB hn h
 | cons r rs=>exact GL.app hx hs bB hn h1 rfl hb h
theorem NQ:∀ (us vs:List Value),vs.length=us.length->gK vs 0 us=us:=by
 have key:∀ (us a vs:List Value),vs.length=us.length->gK (a++vs) a.length us=a++us:=by
  intro us
  induction us with
  | nil=>intro a vs h;rw [List.eq_nil_of_length_eq_zero h];rfl
  | cons u us ih =>
   intro a vs h
   cases vs with
   | nil=>simp at h
   | cons v vs =>
    have hu:eS (a++v::vs) a.length u=(a++[u])++vs:=by
     clear ih h
     induction a with
     | nil=>rfl
     | cons x a ih=>rw [cons_append,List.length_cons,eS,ih];rfl
    have:=ih (a++[u]) vs (by simpa using h);rw [length_append,List.length_singleton] at this;rw [gK,hu,this];simp
 intro us vs h;exact key us [] vs h
theorem GL.Ko {t:TypeId} {z:Value} {agg:Bool} {k:Nat} [hZ:pb P t z] [hT:Ty P t agg k] {dt ts:Tmp} {cs:List GV} {ty2:TypeId} {ZI:String} {Z0:Array Edge} {d2:Option Tmp} (hzk:z.cells.size=k) (hy:mo (cH fr ts)=some cs) (bJ:Nat.beq ts dt=false) (gV:jE fr dt=true) (hk:cs.length=k) (h1:l8 cs=true) (hp:rv cs=true)
  (h:GL P m ops Q rest (bu (bu fr (some dt) (.box cs 0)) d2 (.v undef)) Γ):GL P m ops Q (⟨some dt,.alloc t,ty,pos,af,none⟩::⟨d2,.store t (.tmp dt) (.tmp ts),ty2,ZI,Z0,none⟩::rest) fr Γ:=fun B K β w l hm hI hF=>by
 refine WL.alloc (z:=z) fun b w1 hn=>?_
 obtain ⟨us,kj,kK⟩:=(hF.nth ts).cells hy
 have Ff:ts≠dt:=by intro e;subst e;simp at bJ
 have U3:ev (put l (some dt) (.pointer (some ⟨b,0,none⟩))) (.tmp ts)=nth l ts:=nU Ff _;have Il:ev (put l (some dt) (.pointer (some ⟨b,0,none⟩))) (.tmp dt)=.pointer (some ⟨b,0,none⟩):=sj (mz hF gV) _
 have De:us.length=k:=by rw [kK.1,hk]
 refine WL.st (t:=t) (k:=k) Il U3 hn.blk (by rw [kj];simpa using De) ah (by rw [kj];simpa using kK.lD h1) fun w2 hs=>?_
 have b9:uE z.cells 0 us=us.toArray:=by
  have:=uj us z.cells.toList 0;rw [NQ us _ (by rw [Array.length_toList,hzk,De])] at this;simpa using this
 rw [kj,List.toList_toArray,b9] at hs;have Zf:uI w w2 b (.cells us.toArray t):=⟨hn.fresh,by rw [hs.size];exact hn.size,hs.blk,hn.ext.step hs.ext fun j hj=>.inl (by subst hj;rw [hn.fresh];exact Nat.le_refl _)⟩;obtain ⟨hle,bj⟩:=hI.tR Zf kK (mN hp);exact h B _ β w2 _ hm bj (((hF.mono hle (cZ.refl β)).put (some dt) (Rel.box (K:=kU K b cs) (β:=β) b 0 0 cs (fun j g hg=>by rw [Nat.zero_add];exact uK hg))).put d2 (.v _))
end
end Go.Xg
namespace Go.Xg
open Go.RowKit Go.Xw Go.Proofs
open Go.Xp (Nd Ar)
open Go.Sp (Src)
open Go.Im (kZ kY kX)
attribute [local irreducible] GW GL GO YG GC GA aY ba
def cl (l:List ai):List (List GV):=l.map fun s=>[GV.v (sv s)]
def aZ (l:List Int):List (List GV):=l.map fun i=>[GV.v (ii i)]
def Hd (n:Nat) (h:Value):Prop:=∃ a c,h=.slice a n c
theorem zy (l:List ai) (hl:l.length<=1048576):GC Tryz.prog 41 [strs l] [] fun g Δ=>∃ h,Hd l.length h/\g=.v h/\Δ=[.vech 9 1 (cl l) h]:=by
 have hm:(l.map (fun s=>[GV.v (sv s)])).length=l.length:=by simp
 refine aj Tryz.func41 Tryz.ntmps41 ?_;refine GL.zo rfl ⟨by omega,by omega⟩ ?_;intro a c;refine bT ?_;refine ae ?_;refine GW.loop (fun k:Nat=>l.length - k) (fun k fr Γ=>∃ R Z,fr=[strs l,.U,.U,.v (.slice a (l.map (fun s=>[GV.v (sv s)])).length c),.v (ii (k:Nat)),.U,.U,.U,.U,.U,.U,.U,.U,.U,.U,.U,.U,.U,.U,.U,.U,.U]/\Γ=[.vech 9 1 R (.slice a (l.map (fun s=>[GV.v (sv s)])).length c)]/\k<=l.length/\R=(l.take k).map (fun s=>[GV.v (sv s)])++List.replicate (l.length - k) Z) 0 ?_ ?_
 ·exact ⟨_,_,Wk.aD ar,_,_,rfl,rfl,Nat.zero_le _,by rw [hm];rfl⟩
 rintro k _ _ ⟨R,Z,rfl,rfl,hk,hR⟩
 have nz:R.length=l.length:=by rw [hR];exact kY hk
 have eG:R.length=(l.map (fun s=>[GV.v (sv s)])).length:=by rw [hm];exact nz
 by_cases ao:k < l.length
 ·have hx:l[k]?=some l[k]:=by simp [ao]
  have hr:(l.map (fun s=>[GV.v (sv s)]))[k]?=some ((fun s=>[GV.v (sv s)]) l[k]):=by rw [getElem?_map,hx];rfl
  have dr:decide ((k:Int) < ((l.map (fun s=>[GV.v (sv s)])).length:Int))=true:=by rw [hm];simpa using ao
  have b9:=kZ (f:=(fun s=>[GV.v (sv s)])) (Z:=Z) hx;rw [<-hR] at b9;clear hR;generalize l[k]=x at *;refine ae ?_;refine jK ?_;refine ae ?_;exact ⟨k+1,⟨_,_,Wk.aD ar,_,Z,rfl,rfl,ao,b9⟩,by show l.length - (k+1) < l.length - k;omega⟩
 ·have dr:decide ((k:Int) < ((l.map (fun s=>[GV.v (sv s)])).length:Int))=false:=by rw [hm];simpa using ao
  have lA:k=l.length:=by omega
  subst lA;rw [kX] at hR;subst hR;refine bH ?_;refine ae ?_;refine jo ?_;exact qR 0 rfl cy rfl (fun x hx=>by rw [List.mem_singleton.1 hx];rfl) ⟨_,⟨_,_,by rw [hm]⟩,rfl,rfl⟩
theorem Qo (l:List Int) (hl:l.length<=1048576):GC Tryz.prog 135 [ints l] [] fun g Δ=>∃ h,Hd l.length h/\g=.v h/\Δ=[.vech 3 1 (aZ l) h]:=by
 have hm:(l.map (fun i=>[GV.v (ii i)])).length=l.length:=by simp
 refine aj Tryz.func135 Tryz.ntmps135 ?_;refine GL.zo rfl ⟨by omega,by omega⟩ ?_;intro a c;refine bT ?_;refine ae ?_;refine GW.loop (fun k:Nat=>l.length - k) (fun k fr Γ=>∃ R Z,fr=[ints l,.U,.U,.v (.slice a (l.map (fun i=>[GV.v (ii i)])).length c),.v (ii (k:Nat)),.U,.U,.U,.U,.U,.U,.U,.U,.U,.U,.U,.U,.U,.U,.U,.U,.U]/\Γ=[.vech 3 1 R (.slice a (l.map (fun i=>[GV.v (ii i)])).length c)]/\k<=l.length/\R=(l.take k).map (fun i=>[GV.v (ii i)])++List.replicate (l.length - k) Z) 0 ?_ ?_
 ·exact ⟨_,_,Wk.aD ar,_,_,rfl,rfl,Nat.zero_le _,by rw [hm];rfl⟩
 rintro k _ _ ⟨R,Z,rfl,rfl,hk,hR⟩
 have nz:R.length=l.length:=by rw [hR];exact kY hk
 have eG:R.length=(l.map (fun i=>[GV.v (ii i)])).length:=by rw [hm];exact nz
 by_cases ao:k < l.length
 ·have hx:l[k]?=some l[k]:=by simp [ao]
  have hr:(l.map (fun i=>[GV.v (ii i)]))[k]?=some ((fun i=>[GV.v (ii i)]) l[k]):=by rw [getElem?_map,hx];rfl
  have dr:decide ((k:Int) < ((l.map (fun i=>[GV.v (ii i)])).length:Int))=true:=by rw [hm];simpa using ao
  have b9:=kZ (f:=(fun i=>[GV.v (ii i)])) (Z:=Z) hx;rw [<-hR] at b9;clear hR;generalize l[k]=x at *;refine ae ?_;refine jK ?_;refine ae ?_;exact ⟨k+1,⟨_,_,Wk.aD ar,_,Z,rfl,rfl,ao,b9⟩,by show l.length - (k+1) < l.length - k;omega⟩
 ·have dr:decide ((k:Int) < ((l.map (fun i=>[GV.v (ii i)])).length:Int))=false:=by rw [hm];simpa using ao
  have lA:k=l.length:=by omega
  subst lA;rw [kX] at hR;subst hR;refine bH ?_;refine ae ?_;refine jo ?_;exact qR 0 rfl cy rfl (fun x hx=>by rw [List.mem_singleton.1 hx];rfl) ⟨_,⟨_,_,by rw [hm]⟩,rfl,rfl⟩
theorem KS (l:List Ar) (hl:l.length<=1048576):GC Tryz.prog 42 [.sl 2 (l.map aH)] [] fun g Δ=>∃ h,Hd l.length h/\g=.v h/\Δ=[.vech 88 2 (List.map aH l) h]:=by
 have hm:(l.map (aH)).length=l.length:=by simp
 refine aj Tryz.func42 Tryz.ntmps42 ?_;refine GL.zo rfl ⟨by omega,by omega⟩ ?_;intro a c;refine bT ?_;refine ae ?_;refine GW.loop (fun k:Nat=>l.length - k) (fun k fr Γ=>∃ R Z,fr=[.sl 2 (l.map aH),.U,.U,.v (.slice a (l.map (aH)).length c),.v (ii (k:Nat)),.U,.U,.U,.U,.U,.U,.U,.U,.U,.U,.U,.U,.U,.U,.U,.U,.U,.U]/\Γ=[.vech 88 2 R (.slice a (l.map (aH)).length c)]/\k<=l.length/\R=(l.take k).map (aH)++List.replicate (l.length - k) Z) 0 ?_ ?_
 ·exact ⟨_,_,Wk.aD ar,_,_,rfl,rfl,Nat.zero_le _,by rw [hm];rfl⟩
 rintro k _ _ ⟨R,Z,rfl,rfl,hk,hR⟩
 have nz:R.length=l.length:=by rw [hR];exact kY hk
 have eG:R.length=(l.map (aH)).length:=by rw [hm];exact nz
 by_cases ao:k < l.length
 ·have hx:l[k]?=some l[k]:=by simp [ao]
  have hr:(l.map (aH))[k]?=some ((aH) l[k]):=by rw [getElem?_map,hx];rfl
  have dr:decide ((k:Int) < ((l.map (aH)).length:Int))=true:=by rw [hm];simpa using ao
  have b9:=kZ (f:=(aH)) (Z:=Z) hx;rw [<-hR] at b9;have hc:=DL l[k];clear hR;generalize l[k]=x at *;refine ae ?_;refine ab [] hc ?_;refine jK ?_;refine ae ?_;exact ⟨k+1,⟨_,_,Wk.aD ar,_,Z,rfl,rfl,ao,b9⟩,by show l.length - (k+1) < l.length - k;omega⟩
 ·have dr:decide ((k:Int) < ((l.map (aH)).length:Int))=false:=by rw [hm];simpa using ao
  have lA:k=l.length:=by omega
  subst lA;rw [kX] at hR;subst hR;refine bH ?_;refine ae ?_;refine jo ?_;exact qR 0 rfl cy rfl (fun x hx=>by rw [List.mem_singleton.1 hx];rfl) ⟨_,⟨_,_,by rw [hm]⟩,rfl,rfl⟩
def p8 (x:Go.Sp.Fn) (h:Value):List GV:=[.v (sv x.name),.v h,.v (ii x.body)]
def qV (x:Go.Sp.Fn) (h:Value):Ob:=.vech 9 1 (cl x.params) h
theorem VR (x:Go.Sp.Fn) (hp:x.params.length<=1048576):GC Tryz.prog 101 [.agg (ax x)] [] fun g Δ=>∃ h,Hd x.params.length h/\g=.agg (p8 x h)/\Δ=[qV x h]:=by
 have h0:=zy x.params hp;refine aj Tryz.func101 Tryz.ntmps101 ?_;refine cv [] h0 ?_;rintro _ _ ⟨_,⟨a1,c1,rfl⟩,rfl,rfl⟩;refine c8 ?_;refine ae ?_;refine jo ?_;refine JK 3 rfl cy rfl rfl rfl rfl ?_ ?_
 ·intro x hx;rw [List.mem_singleton.1 hx];rfl
 ·exact ⟨_,⟨_,_,rfl⟩,rfl,rfl⟩
theorem Tn (l:List Go.Sp.Fn) (hl:l.length<=1048576) (he:∀ x∈l,x.params.length<=1048576):GC Tryz.prog 43 [.sl 3 (l.map ax)] [] fun g Δ=>∃ h hs,Hd l.length h/\hs.length=l.length/\(∀ (i:Nat) x y,l[i]?=some x->hs[i]?=some y->Hd x.params.length y)/\g=.v h /\
  Δ=.vech 60 3 (List.zipWith p8 l hs) h::List.zipWith qV l hs:=by
 have hm:(l.map ax).length=l.length:=by simp
 refine aj Tryz.func43 Tryz.ntmps43 ?_;refine GL.zo rfl ⟨by omega,by omega⟩ ?_;intro a c;refine bT ?_;refine ae ?_
 refine GW.loop (fun k:Nat=>l.length - k) (fun k fr Γ=>∃ R Z hs,fr=[.sl 3 (l.map ax),.U,.U,.v (.slice a (l.map ax).length c),.v (ii (k:Nat)),.U,.U,.U,.U,.U,.U,.U,.U,.U,.U,.U,.U,.U,.U,.U,.U,.U,.U]/\Γ=.vech 60 3 R (.slice a (l.map ax).length c)::List.zipWith qV (l.take k) hs/\k<=l.length/\hs.length=k /\
  (∀ (i:Nat) x y,l[i]?=some x->hs[i]?=some y->Hd x.params.length y)/\R=List.zipWith p8 (l.take k) hs++List.replicate (l.length - k) Z) 0 ?_ ?_
 ·exact ⟨_,_,Wk.aD ar,_,_,[],rfl,rfl,Nat.zero_le _,rfl,(fun i x y _ h=>by simp at h),by rw [hm];rfl⟩
 rintro k _ _ ⟨R,Z,hs,rfl,rfl,hk,E7,ML,hR⟩
 have nz:R.length=l.length:=by rw [hR,length_append,length_zipWith,length_take,List.length_replicate];omega
 have eG:R.length=(l.map ax).length:=by rw [hm];exact nz
 by_cases ao:k < l.length
 ·have hx:l[k]?=some l[k]:=by simp [ao]
  have hr:(l.map ax)[k]?=some (ax l[k]):=by rw [getElem?_map,hx];rfl
  have dr:decide ((k:Int) < ((l.map ax).length:Int))=true:=by rw [hm];simpa using ao
  have hex:=he _ (mem_of_getElem? hx);have hc:=VR l[k] hex
  have ki:l.take (k+1)=l.take k++[l[k]]:=by rw [take_add_one,hx];rfl
  have MY:∀ {γ:Type} (f:Go.Sp.Fn->Value->γ) (h:Value),List.zipWith f (l.take (k+1)) (hs++[h])=List.zipWith f (l.take k) hs++[f l[k] h]:=fun f h=>by
   rw [ki,List.zipWith_append (by rw [length_take];omega)];rfl
  have b9:∀ h,R.set k (p8 l[k] h)=List.zipWith p8 (l.take (k+1)) (hs++[h])++List.replicate (l.length - (k+1)) Z:=fun h=>by
   have hz:(List.zipWith p8 (l.take k) hs).length=k:=by rw [length_zipWith,length_take];omega
   rw [hR,MY,show l.length - k=(l.length - (k+1))+1 by omega,List.replicate_succ,List.set_append_right _ _ ah,hz,Nat.sub_self,set_cons_zero];simp
  have Pg:∀ h,Hd l[k].params.length h->∀ (i:Nat) x y,l[i]?=some x->(hs++[h])[i]?=some y->Hd x.params.length y:=fun h hh i x y h1 h2=>by
   by_cases hik:i < hs.length
   ·rw [List.getElem?_append_left hik] at h2;exact ML i x y h1 h2
   ·have h3:=(List.getElem?_eq_some_iff.1 h2).1;rw [length_append,List.length_singleton] at h3
    have:i=k:=by omega
    subst this;rw [List.getElem?_append_right ah,E7,Nat.sub_self] at h2;rw [hx] at h1
    cases h1;cases h2;exact hh
  clear hR;have UJ:=MY qV;unfold p8 qV at hc;generalize hlx:l[k]=x at *;refine ae ?_;refine cv [] hc ?_;rintro _ _ ⟨_,⟨a1,c1,rfl⟩,rfl,rfl⟩;refine c8 ?_;refine ae ?_;refine jK ?_;refine ae ?_;refine ⟨k+1,⟨_,_,Wk.aD ar,_,Z,hs++[_],rfl,?_,ao,by simp [E7],Pg _ ⟨a1,c1,rfl⟩,b9 _⟩,by show l.length - (k+1) < l.length - k;omega⟩;rw [UJ];rfl
 ·have dr:decide ((k:Int) < ((l.map ax).length:Int))=false:=by rw [hm];simpa using ao
  have lA:k=l.length:=by omega
  subst lA;rw [take_length,Nat.sub_self,List.replicate_zero,append_nil] at hR;subst hR;rw [take_length];refine bH ?_;refine ae ?_;refine jo ?_;refine qR 0 rfl cy rfl (fun x hx=>?_) ⟨_,hs,⟨_,_,by rw [hm]⟩,E7,ML,rfl,rfl⟩
  rcases List.mem_cons.1 hx with rfl | hx
  ·rfl
  ·obtain ⟨i,hi⟩:=getElem?_of_mem hx;rw [List.getElem?_zipWith] at hi;split at hi
   ·cases hi;rfl
   ·cases hi
def lJ (x:Nd) (h:Value):List GV:=[.v (ii x.kind),.v (ii x.at_),.v (ii x.n),.v (sv x.s),.v h]
def mQ (x:Nd) (h:Value):Ob:=.vech 3 1 (aZ x.kids) h
theorem Qq (x:Nd) (hp:x.kids.length<=1048576):GC Tryz.prog 102 [.agg (az x)] [] fun g Δ=>∃ h,Hd x.kids.length h/\g=.agg (lJ x h)/\Δ=[mQ x h]:=by
 have h0:=Qo x.kids hp;refine aj Tryz.func102 Tryz.ntmps102 ?_;refine cv [] h0 ?_;rintro _ _ ⟨_,⟨a1,c1,rfl⟩,rfl,rfl⟩;refine c8 ?_;refine ae ?_;refine jo ?_;refine JK 3 rfl cy rfl rfl rfl rfl ?_ ?_
 ·intro x hx;rw [List.mem_singleton.1 hx];rfl
 ·exact ⟨_,⟨_,_,rfl⟩,rfl,rfl⟩
theorem N6 (l:List Nd) (hl:l.length<=1048576) (he:∀ x∈l,x.kids.length<=1048576):GC Tryz.prog 44 [.sl 5 (l.map az)] [] fun g Δ=>∃ h hs,Hd l.length h/\hs.length=l.length/\(∀ (i:Nat) x y,l[i]?=some x->hs[i]?=some y->Hd x.kids.length y)/\g=.v h /\
  Δ=.vech 91 5 (List.zipWith lJ l hs) h::List.zipWith mQ l hs:=by
 have hm:(l.map az).length=l.length:=by simp
 refine aj Tryz.func44 Tryz.ntmps44 ?_;refine GL.zo rfl ⟨by omega,by omega⟩ ?_;intro a c;refine bT ?_;refine ae ?_
 refine GW.loop (fun k:Nat=>l.length - k) (fun k fr Γ=>∃ R Z hs,fr=[.sl 5 (l.map az),.U,.U,.v (.slice a (l.map az).length c),.v (ii (k:Nat)),.U,.U,.U,.U,.U,.U,.U,.U,.U,.U,.U,.U,.U,.U,.U,.U,.U,.U]/\Γ=.vech 91 5 R (.slice a (l.map az).length c)::List.zipWith mQ (l.take k) hs/\k<=l.length/\hs.length=k /\
  (∀ (i:Nat) x y,l[i]?=some x->hs[i]?=some y->Hd x.kids.length y)/\R=List.zipWith lJ (l.take k) hs++List.replicate (l.length - k) Z) 0 ?_ ?_
 ·exact ⟨_,_,Wk.aD ar,_,_,[],rfl,rfl,Nat.zero_le _,rfl,(fun i x y _ h=>by simp at h),by rw [hm];rfl⟩
 rintro k _ _ ⟨R,Z,hs,rfl,rfl,hk,E7,ML,hR⟩
 have nz:R.length=l.length:=by rw [hR,length_append,length_zipWith,length_take,List.length_replicate];omega
 have eG:R.length=(l.map az).length:=by rw [hm];exact nz
 by_cases ao:k < l.length
 ·have hx:l[k]?=some l[k]:=by simp [ao]
  have hr:(l.map az)[k]?=some (az l[k]):=by rw [getElem?_map,hx];rfl
  have dr:decide ((k:Int) < ((l.map az).length:Int))=true:=by rw [hm];simpa using ao
  have hex:=he _ (mem_of_getElem? hx);have hc:=Qq l[k] hex
  have ki:l.take (k+1)=l.take k++[l[k]]:=by rw [take_add_one,hx];rfl
  have MY:∀ {γ:Type} (f:Nd->Value->γ) (h:Value),List.zipWith f (l.take (k+1)) (hs++[h])=List.zipWith f (l.take k) hs++[f l[k] h]:=fun f h=>by
   rw [ki,List.zipWith_append (by rw [length_take];omega)];rfl
  have b9:∀ h,R.set k (lJ l[k] h)=List.zipWith lJ (l.take (k+1)) (hs++[h])++List.replicate (l.length - (k+1)) Z:=fun h=>by
   have hz:(List.zipWith lJ (l.take k) hs).length=k:=by rw [length_zipWith,length_take];omega
   rw [hR,MY,show l.length - k=(l.length - (k+1))+1 by omega,List.replicate_succ,List.set_append_right _ _ ah,hz,Nat.sub_self,set_cons_zero];simp
  have Pg:∀ h,Hd l[k].kids.length h->∀ (i:Nat) x y,l[i]?=some x->(hs++[h])[i]?=some y->Hd x.kids.length y:=fun h hh i x y h1 h2=>by
   by_cases hik:i < hs.length
   ·rw [List.getElem?_append_left hik] at h2;exact ML i x y h1 h2
   ·have h3:=(List.getElem?_eq_some_iff.1 h2).1;rw [length_append,List.length_singleton] at h3
    have:i=k:=by omega
    subst this;rw [List.getElem?_append_right ah,E7,Nat.sub_self] at h2;rw [hx] at h1
    cases h1;cases h2;exact hh
  clear hR;have UJ:=MY mQ;unfold lJ mQ at hc;generalize hlx:l[k]=x at *;refine ae ?_;refine cv [] hc ?_;rintro _ _ ⟨_,⟨a1,c1,rfl⟩,rfl,rfl⟩;refine c8 ?_;refine ae ?_;refine jK ?_;refine ae ?_;refine ⟨k+1,⟨_,_,Wk.aD ar,_,Z,hs++[_],rfl,?_,ao,by simp [E7],Pg _ ⟨a1,c1,rfl⟩,b9 _⟩,by show l.length - (k+1) < l.length - k;omega⟩;rw [UJ];rfl
 ·have dr:decide ((k:Int) < ((l.map az).length:Int))=false:=by rw [hm];simpa using ao
  have lA:k=l.length:=by omega
  subst lA;rw [take_length,Nat.sub_self,List.replicate_zero,append_nil] at hR;subst hR;rw [take_length];refine bH ?_;refine ae ?_;refine jo ?_;refine qR 0 rfl cy rfl (fun x hx=>?_) ⟨_,hs,⟨_,_,by rw [hm]⟩,E7,ML,rfl,rfl⟩
  rcases List.mem_cons.1 hx with rfl | hx
  ·rfl
  ·obtain ⟨i,hi⟩:=getElem?_of_mem hx;rw [List.getElem?_zipWith] at hi;split at hi
   ·cases hi;rfl
   ·cases hi
def jn (p:Src) (hg ha hf hn:Value) (fs ns:List Value):List Ob :=
 .vech 9 1 (cl p.globals) hg::.vech 88 2 (p.arrays.map aH) ha::.vech 60 3 (List.zipWith p8 p.fns fs) hf::(List.zipWith qV p.fns fs++.vech 91 5 (List.zipWith lJ p.nodes ns) hn::List.zipWith mQ p.nodes ns)
structure BI (p:Src) (hg ha hf hn:Value) (fs ns:List Value):Prop where
 g:Hd p.globals.length hg
 a:Hd p.arrays.length ha
 f:Hd p.fns.length hf
 n:Hd p.nodes.length hn
 fl:fs.length=p.fns.length
 nl:ns.length=p.nodes.length
 fh:∀ (i:Nat) x y,p.fns[i]?=some x->fs[i]?=some y->Hd x.params.length y
 nh:∀ (i:Nat) x y,p.nodes[i]?=some x->ns[i]?=some y->Hd x.kids.length y
theorem Ap {α:Type} {f:α->Value->Ob} (hf:∀ a h,(f a h).lS=true) {l:List α} {hs:List Value}:∀ x∈List.zipWith f l hs,x.lS=true:=fun x hx=>by
 obtain ⟨i,hi⟩:=getElem?_of_mem hx;rw [List.getElem?_zipWith] at hi;split at hi
 ·cases hi;exact hf _ _
 ·cases hi
theorem Aj (p:Src) (hg ha hf hn:Value) (fs ns:List Value):∀ x∈jn p hg ha hf hn fs ns,x.lS=true:=fun x hx=>by
 unfold jn at hx
 rcases List.mem_cons.1 hx with rfl | hx
 ·rfl
 rcases List.mem_cons.1 hx with rfl | hx
 ·rfl
 rcases List.mem_cons.1 hx with rfl | hx
 ·rfl
 rcases List.mem_append.1 hx with hx | hx
 ·exact Ap (fun _ _=>rfl) x hx
 rcases List.mem_cons.1 hx with rfl | hx
 ·rfl
 ·exact Ap (fun _ _=>rfl) x hx
theorem GD {α:Type} {f:α->Value->Ob} (hf:∀ a h,(f a h).lS=true) {l:List α} {hs:List Value} (r:Nat->Nat):(List.zipWith f l hs).map (Ob.dz r)=List.zipWith f l hs:=by
 refine (List.map_congr_left fun x hx=>?_).trans (List.map_id _);have:=Ap hf x hx
 cases x <;> first | rfl | cases this
theorem KU (x:Src) (hg:x.globals.length<=1048576) (ha:x.arrays.length<=1048576) (hf:x.fns.length<=1048576) (AX:∀ f∈x.fns,f.params.length<=1048576) (hn:x.nodes.length<=1048576) (xH:∀ n∈x.nodes,n.kids.length<=1048576) :
  GC Tryz.prog 12 [.agg (ay x)] [] fun g Δ=>∃ hg ha hf hn fs ns,BI x hg ha hf hn fs ns/\g=.agg [.v hg,.v ha,.v hf,.v hn]/\Δ=jn x hg ha hf hn fs ns:=by
 have h0:=zy x.globals hg;have h1:=KS x.arrays ha;have h2:=Tn x.fns hf AX;have h3:=N6 x.nodes hn xH;refine aj Tryz.func12 Tryz.ntmps12 ?_;refine cv [] h0 ?_;rintro _ _ ⟨_,⟨a0,c0,rfl⟩,rfl,rfl⟩;refine c8 ?_;refine ae ?_;refine cv [] h1 ?_;rintro _ _ ⟨_,⟨a1,c1,rfl⟩,rfl,rfl⟩;refine c8 ?_;refine ae ?_;refine cv [] h2 ?_;rintro _ _ ⟨_,fs,⟨a2,c2,rfl⟩,e1,e2,rfl,rfl⟩;rw [List.map_cons,GD (fun _ _=>rfl)];refine c8 ?_;refine ae ?_;refine cv [] h3 ?_;rintro _ _ ⟨_,ns,⟨a3,c3,rfl⟩,e3,e4,rfl,rfl⟩;rw [List.map_cons,GD (fun _ _=>rfl)];refine c8 ?_;refine ae ?_;refine jo ?_;refine JK 3 rfl cy rfl rfl rfl rfl ?_ ?_
 ·exact Aj x _ _ _ _ fs ns
 ·exact ⟨_,_,_,_,fs,ns,⟨⟨_,_,rfl⟩,⟨_,_,rfl⟩,⟨_,_,rfl⟩,⟨_,_,rfl⟩,e1,e3,e2,e4⟩,rfl,rfl⟩
end Go.Xg
namespace Go.Xg
open Go.RowKit Go.Xw Go.Proofs
open Go.Xp (Nd T Ar aR aB)
open Go.Sp (Src)
open Go.Im
attribute [local irreducible] GW GL GO YG GC GA aY ba
section
variable {B:Bs} {K:Fz} {β:Bt} {w:World} {l:List Value} {fr:List GV} {A C:List Ob}
theorem gR {x y:Operand} {E k:Nat} {rows:List (List GV)} {h z:Value} (hI:Inv B K β (A++(.vech E k rows h::C)) w) (hF:FR K β fr l) (hx:aV fr x=.v h) (hy:aV fr y=.v z) :
  ∃ K1,ir K1 w/\fQ K1 (fun _=>.no) w/\bb K1 (fun _=>.no) ([x,y].map (ev l)) [.sl k rows,.v z]:=by
 obtain ⟨K1,hk,h1,h2,h3⟩:=hI.view (i:=A.length) (E:=E) (k:=k) (rows:=rows) (x:=h) (by rw [List.getElem?_append_right (Nat.le_refl _),Nat.sub_self];rfl);refine ⟨K1,h1,h2,?_⟩;show bb K1 _ [ev l x,ev l y] _;rw [hF.gy hx,hF.gy hy];exact .cons h3 (.cons (.v _) .nil)
end
theorem vz (l:List ai):(cl l).length=l.length:=by simp [cl]
theorem OH (xs:List Int) (s:Int) (hl:xs.length<=1099511627776):GF Tryz.prog 110 [ints xs,.v (ii s)] [] (.v (ii (bM (fun x=>s==x) xs))) []:=by
 have dh:(xs.map fun i=>[GV.v (ii i)]).length=xs.length:=by simp
 refine aj Tryz.func110 Tryz.ntmps110 ?_;refine GW.range (xs.map fun i=>[GV.v (ii i)]).length (fun k fr Γ=>fr=[ints xs,.v (ii s),.U,.U,.U,.U,ints xs,.v (ii ((xs.map fun i=>[GV.v (ii i)]).length:Int)),.v (ii (k:Nat)),.U,.U,.U,.U,.U,.U,.U,.U,.U,.U]/\Γ=[]/\((xs.take k).all fun x=>!(s==x))=true) ?_ ah ?_ ?_ ?_
 ·exact iF
 ·exact fE
 ·rintro k _ _ ao ⟨rfl,rfl,aM⟩;rw [dh] at ao;obtain ⟨x,b6⟩:∃ x,xs[k]?=some x:=⟨xs[k],by simp [ao]⟩;have hr:=nV b6;have bh:=jL (f:=fun y:Int=>s==y) b6
  have hit:=fun h0=>ju (f:=fun y:Int=>s==y) b6 h0 aM
  cases hb:(s==x) with
  | true =>
   rw [hit hb];exact aw
  | false =>
   refine ae ?_;exact ⟨rfl,rfl,_,_,Wk.aD ar,rfl,rfl,by rw [bh,aM,hb];rfl⟩
 ·rintro _ _ ⟨rfl,rfl,aM⟩;rw [dh,take_length] at aM;rw [gB aM];exact aw
theorem ov (xs:List Int) (s:Int) (hl:xs.length<=1099511627776):GF Tryz.prog 56 [ints xs,.v (ii s)] [] (.v (.bool (xs.contains s))) []:=by
 have hi:=OH xs s hl
 have he:xs.contains s=xs.any (fun x=>s==x):=by rw [List.contains_eq_any_beq]
 rw [he,<-xq];generalize bM (fun x=>s==x) xs=i at *;refine aj Tryz.func56 Tryz.ntmps56 ?_;refine ab [] hi ?_;exact al
end Go.Xg
set_option maxHeartbeats 4000000
namespace Go.Xg
open Go.RowKit Go.Xw Go.Proofs
open Go.Xp (Nd T Ar aR aB)
open Go.Sp (Src)
open Go.Im
attribute [local irreducible] GW GL GO YG GC GA aY ba
theorem FQ (l:List ai):l9 (l.map fun s=>[GV.v (sv s)])=true:=by
 induction l with
 | nil=>rfl
 | cons s l ih=>rw [List.map_cons,l9,ih];rfl
theorem GW.L4 {P:Program} {m:Nat} {c:Code} {Q:dP} {fr cj:List GV} {Γ aL:List Ob} (h1:sB fr cj) (h2:Γ=aL) (h:GW P m c Q cj aL):GW P m c Q fr Γ:=by
 subst h2;exact GW.wk (Wk.aD h1) h
def tZ (n:Nd):Bool:=(n.kind==4&&n.s==[115,105,122,101])&&((n.kids.length:Int)==1)
theorem Ba (p:Src) (a:Nat) (n:Nd) (hn:p.nodes[a]?=some n):GF Tryz.prog 172 [.agg (ay p),.v (ii (a:Nat))] [] (.v (.bool (tZ n))) []:=by
 have hr:=jZ hn
 have eX:(n.kids.map fun i=>[GV.v (ii i)]).length=n.kids.length:=by simp
 unfold tZ;rw [<-eX];unfold az ints at hr;generalize (n.kids.map fun i=>[GV.v (ii i)])=kk at *
 cases h1:(n.kind==4)
 all_goals cases h2:(n.s==[115,105,122,101])
 all_goals
  refine aj Tryz.func172 Tryz.ntmps172 ?_;exact al
theorem Vm (p:Src) (s:ai) (hn:p.fns.length<=1099511627776):GF Tryz.prog 245 [.agg (ay p),.v (sv s)] [] (.v (ii (nj p s))) []:=by
 have hF:=Mf p s hn;unfold nj oS pQ iN
 cases h1:(s==[103,101,116]) with
 | true =>
  rw [if_pos (by simpa using h1)];refine aj Tryz.func245 Tryz.ntmps245 ?_;exact al
 | false =>
  rw [if_neg (by simpa using h1)]
  cases h2:(s==[112,117,116]) with
  | true =>
   rw [if_pos (.inl (by simpa using h2))];refine aj Tryz.func245 Tryz.ntmps245 ?_;exact al
  | false =>
   cases h3:(s==[115,105,122,101]) with
   | true =>
    rw [if_pos (.inr (by simpa using h3))];refine aj Tryz.func245 Tryz.ntmps245 ?_;exact al
   | false =>
    rw [if_neg (by simpa using And.intro (show ¬ s=[112,117,116] by simpa using h2) (show ¬ s=[115,105,122,101] by simpa using h3))];unfold bM at hF
    cases hx:p.fns.findIdx? (fun f:Go.Sp.Fn=>f.name==s) with
    | none =>
     rw [hx] at hF
     have hd:decide ((0:Int) <= -1)=false:=by decide
     refine aj Tryz.func245 Tryz.ntmps245 ?_;refine ab [] hF ?_;exact al
    | some i =>
     rw [hx] at hF;have hi:i < p.fns.length:=(List.findIdx?_eq_some_iff_getElem.1 hx).1;obtain ⟨f,hf⟩:∃ f,p.fns[i]?=some f:=⟨p.fns[i],by simp [hi]⟩
     have hr:(p.fns.map ax)[i]?=some (ax f):=by rw [getElem?_map,hf];rfl
     have cW:(f.params.map fun s=>[GV.v (sv s)]).length=f.params.length:=by simp
     have hd:decide ((0:Int)<=((i:Nat):Int))=true:=by simp
     unfold ax at hr;simp only at hF |-;unfold lE;rw [hf];simp only;rw [<-cW];refine aj Tryz.func245 Tryz.ntmps245 ?_;refine ab [] hF ?_;exact al
end Go.Xg
namespace Go.Xg
open Go.RowKit Go.Xw Go.Proofs
open Go.Xp (Nd T Ar aR aB dY bY)
open Go.Sp (Src)
open Go.Im
attribute [local irreducible] GW GL GO YG GC GA aY ba
theorem Iu {p:Src} {a:Nat} {n:Nd} {l:List T} (b7:et p.nodes a (.mk n l)):dR (.mk n l)=tZ n:=by
 rw [et] at b7;unfold dR tZ iN
 congr 1
 rw [b7.2.1,dY]
 exact Bool.eq_iff_iff.2 (by
  show ((l.length==1)=true)↔_
  simp only [beq_iff_eq];omega)
theorem G2 (p:Src) (a:Nat) (n:Nd) (l:List T) (ls:List ai) (b7:et p.nodes a (.mk n l)) (iL:p.fns.length<=1099511627776) (jr:p.arrays.length<=1099511627776) (mw:ls.length<=1099511627776) :
  GF Tryz.prog 209 [.agg (ay p),.v (ii (a:Nat)),strs ls] [] (.v (ii (eV p (.mk n l) ls))) []:=by
 have hs:=Iu b7;rw [et] at b7;obtain ⟨hn,hk,tX⟩:=b7;have hS:=Ba p a n hn;have hr:=jZ hn
 have eX:(n.kids.map fun i=>[GV.v (ii i)]).length=l.length:=by rw [length_map,hk,dY]
 unfold eV;rw [hs]
 cases hz:tZ n with
 | true =>
  rw [hz] at hS;rw [if_pos rfl]
  have ff:l.length=1:=by
   unfold tZ at hz;simp only [Bool.and_eq_true,beq_iff_eq] at hz;rw [hk,dY] at hz;omega
  obtain ⟨u,rfl⟩:∃ u,l=[u]:=by
   match l,ff with
   | [u],_=>exact ⟨u,rfl⟩
  have hm:p.nodes[a+1]?=some u.n:=by
   rw [dy] at tX;have:=tX.1
   cases u;rw [et] at this;exact this.1
  have zh:n.kids[0]?=some (((a+1:Nat)):Int):=by rw [hk];rfl
  have rm:=nV zh;have gh:=jZ hm;show GF _ _ _ _ (.v (ii (if fY p u.n ls=true then 24 else 0))) _;generalize u.n=m at *;have hA:=CM p m.s jr;have hL:=ky ls m.s mw;have hb:fY p m ls=((m.kind != 2 || decide (bM (fun x:Ar=>x.name==m.s) p.arrays < 0)) || ls.contains m.s):=rfl;rw [hb];generalize bM (fun x:Ar=>x.name==m.s) p.arrays=z at *;unfold az at hr gh
  cases h1:(m.kind != 2) with
  | true =>
   refine aj Tryz.func209 Tryz.ntmps209 ?_;refine ab [] hS ?_;refine aJ (aC 0 8 (.a 8 (.a 9 .nil))) ?_;refine au ?_;exact aw
  | false =>
   cases h2:decide (z < 0) with
   | true =>
    refine aj Tryz.func209 Tryz.ntmps209 ?_;refine ab [] hS ?_;refine aJ (aC 0 8 (.a 8 (.a 9 .nil))) ?_;refine bg ?_;refine ab [] hA ?_;exact al
   | false =>
    generalize ls.contains m.s=b at *;cases b
    all_goals
     refine aj Tryz.func209 Tryz.ntmps209 ?_;refine ab [] hS ?_;refine aJ (aC 0 8 (.a 8 (.a 9 .nil))) ?_;refine bg ?_;refine ab [] hA ?_;refine ab [] hL ?_;exact al
 | false =>
  rw [hz] at hS;rw [if_neg aK];have hM:=Vm p n.s iL;show GF _ _ _ _ (.v (ii (if nj p n.s = -1 then 22 else if nj p n.s=(l.length:Int) then 0 else 23))) _;generalize nj p n.s=z at *;rw [<-eX];unfold az at hr;unfold ints at hr;generalize (n.kids.map fun i=>[GV.v (ii i)])=kk at *
  cases h1:(z == -1) with
  | true =>
   rw [if_pos (by simpa using h1)];refine aj Tryz.func209 Tryz.ntmps209 ?_;refine ab [] hS ?_;refine ab [] hM ?_;exact al
  | false =>
   rw [if_neg (by simpa using h1)]
   cases h2:(z==(kk.length:Int)) with
   | true =>
    rw [if_pos (by simpa using h2)];refine aj Tryz.func209 Tryz.ntmps209 ?_;refine ab [] hS ?_;refine ab [] hM ?_;exact al
   | false =>
    rw [if_neg (by simpa using h2)];refine aj Tryz.func209 Tryz.ntmps209 ?_;refine ab [] hS ?_;refine ab [] hM ?_;exact al
theorem Hk (p:Src) (a:Nat) (n:Nd) (l:List T) (ls:List ai) (b7:et p.nodes a (.mk n l)) (iL:p.fns.length<=1099511627776) (jr:p.arrays.length<=1099511627776) (jR:p.globals.length<=1099511627776) (mw:ls.length<=1099511627776) :
  GF Tryz.prog 173 [.agg (ay p),.v (ii (a:Nat)),strs ls] [] (.v (ii (bZ p (.mk n l) ls))) []:=by
 have hC:=G2 p a n l ls b7 iL jr mw
 have hn:p.nodes[a]?=some n:=by rw [et] at b7;exact b7.1
 clear b7;have hr:=jZ hn;have hL:=ky ls n.s mw;have hG:=ky p.globals n.s jR;have hA:=CM p n.s jr
 have pL:(ls.map fun s=>[GV.v (sv s)]).length=ls.length:=by simp
 have he:bZ p (.mk n l) ls=(if n.kind=13 then (if ls.contains n.s=true then 21 else if ls.length>=40 then 26 else 0)
  else if n.kind=2\/n.kind=7 then (if ls.contains n.s=false/\p.globals.contains n.s=false then 22 else 0)
  else if n.kind=3\/n.kind=8 then (if ls.contains n.s=true\/bM (fun x:Ar=>x.name==n.s) p.arrays < 0 then 24 else 0)
  else if n.kind=4 then eV p (.mk n l) ls else 0):=rfl
 rw [he];generalize eV p (.mk n l) ls=cf at *;obtain ⟨kd,at_,nn,s,ks⟩:=n;simp only at *;unfold az at hr;simp only at hr;generalize bM (fun x:Ar=>x.name==s) p.arrays=z at *;generalize ls.contains s=b at *;generalize p.globals.contains s=g at *;rw [<-pL]
 by_cases eK:kd=13
 ·subst eK
  have IW:((13:Int)==13)=true:=by decide
  rw [if_pos rfl]
  cases b with
  | true =>
   refine aj Tryz.func173 Tryz.ntmps173 ?_;refine ab [] hL ?_;exact al
  | false =>
   cases h4:decide ((40:Int)<=(((ls.map fun s=>[GV.v (sv s)]).length:Nat):Int)) with
   | true =>
    rw [if_neg aK,if_pos (by simp at h4;omega)];refine aj Tryz.func173 Tryz.ntmps173 ?_;refine ab [] hL ?_;exact al
   | false =>
    rw [if_neg aK,if_neg (by simp at h4;omega)];refine aj Tryz.func173 Tryz.ntmps173 ?_;refine ab [] hL ?_;exact al
 rw [if_neg eK]
 by_cases h2:kd=2
 ·subst h2
  have IW:((2:Int)==13)=false:=by decide
  have q2:((2:Int)==2)=true:=by decide
  rw [if_pos aK]
  cases b with
  | true =>
   refine aj Tryz.func173 Tryz.ntmps173 ?_;refine ab [] hL ?_;exact al
  | false =>
   cases g
   all_goals
    refine aj Tryz.func173 Tryz.ntmps173 ?_;refine ab [] hL ?_;refine ab [] hG ?_;exact al
 by_cases h7:kd=7
 ·subst h7
  have IW:((7:Int)==13)=false:=by decide
  have q2:((7:Int)==2)=false:=by decide
  have q7:((7:Int)==7)=true:=by decide
  rw [if_pos aK]
  cases b with
  | true =>
   refine aj Tryz.func173 Tryz.ntmps173 ?_;refine ab [] hL ?_;exact al
  | false =>
   cases g
   all_goals
    refine aj Tryz.func173 Tryz.ntmps173 ?_;refine ab [] hL ?_;refine ab [] hG ?_;exact al
 rw [if_neg (by rintro (h | h);(· exact h2 h);exact h7 h)]
 by_cases h3:kd=3
 ·subst h3
  have IW:((3:Int)==13)=false:=by decide
  have q2:((3:Int)==2)=false:=by decide
  have q7:((3:Int)==7)=false:=by decide
  have q3:((3:Int)==3)=true:=by decide
  rw [if_pos aK]
  cases b with
  | true =>
   refine aj Tryz.func173 Tryz.ntmps173 ?_;refine ab [] hL ?_;exact al
  | false =>
   cases hz:decide (z < 0) with
   | true =>
    rw [if_pos (.inr (by simpa using hz))];refine aj Tryz.func173 Tryz.ntmps173 ?_;refine ab [] hL ?_;refine ab [] hA ?_;exact al
   | false =>
    rw [if_neg (by rintro (h | h);(· cases h);(· simp at hz;omega))];refine aj Tryz.func173 Tryz.ntmps173 ?_;refine ab [] hL ?_;refine ab [] hA ?_;exact al
 by_cases h8:kd=8
 ·subst h8
  have IW:((8:Int)==13)=false:=by decide
  have q2:((8:Int)==2)=false:=by decide
  have q7:((8:Int)==7)=false:=by decide
  have q3:((8:Int)==3)=false:=by decide
  have q8:((8:Int)==8)=true:=by decide
  rw [if_pos aK]
  cases b with
  | true =>
   refine aj Tryz.func173 Tryz.ntmps173 ?_;refine ab [] hL ?_;exact al
  | false =>
   cases hz:decide (z < 0) with
   | true =>
    rw [if_pos (.inr (by simpa using hz))];refine aj Tryz.func173 Tryz.ntmps173 ?_;refine ab [] hL ?_;refine ab [] hA ?_;exact al
   | false =>
    rw [if_neg (by rintro (h | h);(· cases h);(· simp at hz;omega))];refine aj Tryz.func173 Tryz.ntmps173 ?_;refine ab [] hL ?_;refine ab [] hA ?_;exact al
 rw [if_neg (by rintro (h | h);(· exact h3 h);exact h8 h)]
 by_cases h4:kd=4
 ·subst h4
  have IW:((4:Int)==13)=false:=by decide
  have q2:((4:Int)==2)=false:=by decide
  have q7:((4:Int)==7)=false:=by decide
  have q3:((4:Int)==3)=false:=by decide
  have q8:((4:Int)==8)=false:=by decide
  have q4:((4:Int)==4)=true:=by decide
  rw [if_pos rfl];refine aj Tryz.func173 Tryz.ntmps173 ?_;refine ab [] hL ?_;refine ab [] hC ?_;exact al
 rw [if_neg h4]
 have IW:(kd==13)=false:=by simpa using eK
 have q2:(kd==2)=false:=by simpa using h2
 have q7:(kd==7)=false:=by simpa using h7
 have q3:(kd==3)=false:=by simpa using h3
 have q8:(kd==8)=false:=by simpa using h8
 have q4:(kd==4)=false:=by simpa using h4
 refine aj Tryz.func173 Tryz.ntmps173 ?_;refine ab [] hL ?_;exact al
theorem TV {K K1:Fz} {β:Bt} {v:Value} {gs:List GV} (hk:cq K K1) (hp:∀ g∈gs,g.pc=true) (h:Rel K β v (.agg gs)):Rel K1 (fun _=>.no) v (.agg gs):=by
 cases h with
 | agg vs cs hl h =>
  exact .agg vs gs hl fun i v g h1 h2=>((h i v g h1 h2).mono hk (cZ.refl β)).pc (hp g (mem_of_getElem? h2))
theorem JD (p:Src):∀ g∈ay p,g.pc=true:=fun g hg=>by
 simp only [ay,List.mem_cons,List.not_mem_nil,or_false] at hg
 rcases hg with rfl | rfl | rfl | rfl <;> rfl
theorem kA {B:Bs} {K:Fz} {β:Bt} {w:World} {l:List Value} {fr:List GV} {A C:List Ob} {p:Src} {x y u:Operand} {E k:Nat} {rows:List (List GV)} {h z:Value} (hI:Inv B K β (A++(.vech E k rows h::C)) w) (hF:FR K β fr l) (hx:aV fr x=.agg (ay p)) (hy:aV fr y=.v z) (hu:aV fr u=.v h) :
  ∃ K1,ir K1 w/\fQ K1 (fun _=>.no) w/\bb K1 (fun _=>.no) ([x,y,u].map (ev l)) [.agg (ay p),.v z,.sl k rows]:=by
 obtain ⟨K1,hk,h1,h2,h3⟩:=hI.view (i:=A.length) (E:=E) (k:=k) (rows:=rows) (x:=h) (by rw [List.getElem?_append_right (Nat.le_refl _),Nat.sub_self];rfl);have hr:=hF.ev x;rw [hx] at hr;refine ⟨K1,h1,h2,?_⟩;show bb K1 _ [ev l x,ev l y,ev l u] _;rw [hF.gy hy,hF.gy hu];exact .cons (TV hk (JD p) hr) (.cons (.v _) (.cons h3 .nil))
theorem Tj (p:Src) (a:Nat) (n:Nd) (l:List T) (ls:List ai) (c:CS) (E1 E5 E6:TypeId) (ad:Option Addr) (cp:Nat) (b7:et p.nodes a (.mk n l)) (iL:p.fns.length<=1099511627776) (jr:p.arrays.length<=1099511627776) (jR:p.globals.length<=1099511627776) (mw:ls.length<=1099511627776) :
  GF Tryz.prog 171 [.v (ii (a:Nat)),.v (.slice ad ls.length cp),.loc 0 0,.loc 1 0,.box (ay p) 0,.loc 2 0] [.box E1 [.v (ii c.code)],.box E5 [.v (ii c.skip)],.box E6 [.v (ii c.place)],.vech 9 1 (cl ls) (.slice ad ls.length cp)] (.tup [])
   [.box E1 [.v (ii (ct p c a (.mk n l) ls).code)],.box E5 [.v (ii (ct p c a (.mk n l) ls).skip)],.box E6 [.v (ii (ct p c a (.mk n l) ls).place)],.vech 9 1 (cl ls) (.slice ad ls.length cp)]:=by
 have hs:=Iu b7;have hN:=Hk p a n l ls b7 iL jr jR mw;rw [et] at b7;obtain ⟨hn,hk,tX⟩:=b7;have hS:=Ba p a n hn;have hr:=jZ hn;obtain ⟨code,place,skip⟩:=c;unfold ct;rw [hs];simp only;generalize bZ p (.mk n l) ls=z at *
 cases h1:(code != 0) with
 | true =>
  rw [if_pos (.inl (by simpa using h1))];refine aj Tryz.func171 Tryz.ntmps171 ?_;exact fX
 | false =>
  cases h2:(((a:Nat):Int)==skip) with
  | true =>
   rw [if_pos (.inr (by simpa using h2))];refine aj Tryz.func171 Tryz.ntmps171 ?_;exact fX
  | false =>
   rw [if_neg (by rintro (h | h);(· simp at h1;exact h h1);(· simp at h2;exact h2 h))];simp only
   cases hz:tZ n with
   | false =>
    rw [hz] at hS;rw [if_neg (show ¬ (false=true) by decide)];unfold az at hr
    cases h3:(z != 0) with
    | true =>
     rw [if_pos (by simpa using h3)];refine aj Tryz.func171 Tryz.ntmps171 ?_;refine ab [] hS ?_;refine GL.borrow hN (fun B K β w l hI hF=>kA (A:=[_,_,_]) (C:=[]) hI hF rfl rfl rfl) ?_;refine b8 ?_;exact mf
    | false =>
     rw [if_neg (by simpa using h3)];refine aj Tryz.func171 Tryz.ntmps171 ?_;refine ab [] hS ?_;refine GL.borrow hN (fun B K β w l hI hF=>kA (A:=[_,_,_]) (C:=[]) hI hF rfl rfl rfl) ?_;refine b8 ?_;exact mf
   | true =>
    rw [hz] at hS;rw [if_pos rfl]
    have ff:l.length=1:=by
     unfold tZ at hz;simp only [Bool.and_eq_true,beq_iff_eq] at hz;rw [hk,dY] at hz;omega
    obtain ⟨u,rfl⟩:∃ u,l=[u]:=by
     match l,ff with
     | [u],_=>exact ⟨u,rfl⟩
    have hm:p.nodes[a+1]?=some u.n:=by
     rw [dy] at tX;have:=tX.1
     cases u;rw [et] at this;exact this.1
    have zh:n.kids[0]?=some (((a+1:Nat)):Int):=by rw [hk];rfl
    have rm:=nV zh;have gh:=jZ hm;rw [show nE (.mk n [u])=u.n from rfl];generalize u.n=m at *;unfold az at hr gh
    cases h4:(m.kind != 2) with
    | true =>
     rw [if_pos (show m.kind≠2 by simpa using h4)]
     cases h3:(z != 0) with
     | true =>
      rw [if_pos (by simpa using h3)];refine aj Tryz.func171 Tryz.ntmps171 ?_;refine ab [] hS ?_;refine GL.borrow hN (fun B K β w l hI hF=>kA (A:=[_,_,_]) (C:=[]) hI hF rfl rfl rfl) ?_;refine b8 ?_;exact mf
     | false =>
      rw [if_neg (by simpa using h3)];refine aj Tryz.func171 Tryz.ntmps171 ?_;refine ab [] hS ?_;refine GL.borrow hN (fun B K β w l hI hF=>kA (A:=[_,_,_]) (C:=[]) hI hF rfl rfl rfl) ?_;refine b8 ?_;exact mf
    | false =>
     rw [if_neg (show ¬ (m.kind≠2) by simpa using h4)]
     cases h3:(z != 0) with
     | true =>
      rw [if_pos (by simpa using h3)];refine aj Tryz.func171 Tryz.ntmps171 ?_;refine ab [] hS ?_;refine GL.borrow hN (fun B K β w l hI hF=>kA (A:=[_,_,_]) (C:=[]) hI hF rfl rfl rfl) ?_;refine b8 ?_;exact mf
     | false =>
      rw [if_neg (by simpa using h3)];refine aj Tryz.func171 Tryz.ntmps171 ?_;refine ab [] hS ?_;refine GL.borrow hN (fun B K β w l hI hF=>kA (A:=[_,_,_]) (C:=[]) hI hF rfl rfl rfl) ?_;refine b8 ?_;exact mf
end Go.Xg
namespace Go.Xg
open Go.RowKit Go.Xw Go.Proofs
open Go.Xp (Nd T Ar aR aB dY)
open Go.Sp (Src)
open Go.Im
attribute [local irreducible] GW GL GO YG GC GA aY ba
def Jb (p:Src):GV:=.fn (.func 171) [] [.loc 0 0,.loc 1 0,.box (ay p) 0,.loc 2 0]
def RH (p:Src):GV:=.fn (.func 127) [] [.loc 3 0,.loc 4 0,.box (ay p) 0,.loc 5 0]
def DA (p:Src) (E1 E5 E6 E2 E3 E4:TypeId) (s:CS) (ls:List ai) (ad:Option Addr) (cp:Nat):List Ob :=
 [.box E1 [.v (ii s.code)],.box E5 [.v (ii s.skip)],.box E6 [.v (ii s.place)],.box E2 [Jb p],.box E3 [.v (.slice ad ls.length cp)],.box E4 [RH p],.vech 9 1 (cl ls) (.slice ad ls.length cp)]
theorem Qy (p:Src) (E1 E5 E6 E2 E3 E4:TypeId) (hp:p.nodes.length<=1048576) (eX:∀ n∈p.nodes,n.kids.length<=1099511627776) (iL:p.fns.length<=1099511627776) (jr:p.arrays.length<=1099511627776) (jR:p.globals.length<=1099511627776):∀ (N:Nat) (t:T),aR t<=N->∀ (a:Nat) (s:CS) (ls:List ai) (ad:Option Addr) (cp:Nat),et p.nodes a t->ls.length+aR t<=8388608 ->
  GC Tryz.prog 127 [.v (ii (a:Nat)),.loc 3 0,.loc 4 0,.box (ay p) 0,.loc 5 0] (DA p E1 E5 E6 E2 E3 E4 s ls ad cp) fun g Δ=>g=.tup []/\∃ qe qg,Δ=DA p E1 E5 E6 E2 E3 E4 (iG (ct p) t a s ls).1 (iG (ct p) t a s ls).2 qe qg:=by
 intro N
 induction N with
 | zero=>intro t h;have:=kv t;omega
 | succ N ih =>
 intro t hN a s ls ad cp b7 mw
 cases t with
 | mk n l =>
 rw [Go.Xp.aR] at hN mw;have UX:=b7;rw [et] at b7;obtain ⟨hn,hk,tX⟩:=b7;rw [iG];have hr:=jZ hn;have oG:=eX n (mem_of_getElem? hn);have ht:=Tj p a n l ls s E1 E5 E6 ad cp UX iL jr jR ah;generalize gz:(ct p) s a (.mk n l) ls=s1 at *
 have A0:n.kids.length=l.length:=by rw [hk,dY]
 unfold az at hr;unfold DA Jb RH;refine aj Tryz.func127 Tryz.ntmps127 ?_;refine GL.vO [0,1,2,6] ht rfl rfl rfl (by repeat (first | exact trivial | refine ⟨rfl,?_⟩)) ?_;rintro _ _ ⟨rfl,rfl⟩;refine c8 ?_;refine ae ?_;refine GW.range (n.kids.map fun i=>[GV.v (ii i)]).length (fun k fr Γ=>∃ qe qg,fr=[.v (ii (a:Nat)),.loc 3 0,.loc 4 0,.box (ay p) 0,.loc 5 0,.U,.U,.U,.U,.U,.U,.U,.U,.U,.U,.U,.U,ints n.kids,.v (ii ((n.kids.map fun i=>[GV.v (ii i)]).length:Int)),.v (ii (k:Nat)),.U,.U,.U,.U,.U,.U,.U,.U,.U,.U,.U,.U,.U,.U,.U,.U,.U,.U,.U,.U,.U,.U,.U]/\Γ=DA p E1 E5 E6 E2 E3 E4 (dX (ct p) (l.take k) (a+1) s1 ls).1 (dX (ct p) (l.take k) (a+1) s1 ls).2 qe qg) ?_ (by rw [length_map];omega) ?_ ?_ ?_
 ·exact ⟨_,_,Wk.aD ar,ad,cp,rfl,rfl⟩
 ·rintro k _ _ ⟨ad,cp,rfl,rfl⟩;exact dO
 ·rintro k _ _ ao ⟨ad,cp,rfl,rfl⟩;rw [length_map,A0] at ao;obtain ⟨u,hu⟩:∃ u,l[k]?=some u:=⟨l[k],by simp [ao]⟩;have lB:=xS (n:=a+1) hu;rw [<-hk] at lB;have tW:=nV lB;have cR:=tC hu;have UY:et p.nodes (a+1+aB (l.take k)) u:=dy.ix l (a+1) k u tX hu
  have hlen:(dX (ct p) (l.take k) (a+1) s1 ls).2.length<=ls.length+aB (l.take k):=by
   rw [qu,length_append];have:=uo (l.take k);omega
  rw [ED _ hu];generalize (dX (ct p) (l.take k) (a+1) s1 ls).1=s2 at *;generalize (dX (ct p) (l.take k) (a+1) s1 ls).2=ls2 at *;have hv:=ih u ah (a+1+aB (l.take k)) s2 ls2 ad cp UY ah;unfold DA Jb RH at hv |-;refine ae ?_;refine GL.vO [0,1,2,3,4,5,6] hv rfl rfl rfl (by repeat (first | exact trivial | refine ⟨rfl,?_⟩)) ?_;rintro _ _ ⟨rfl,qe,qg,rfl⟩;refine c8 ?_;refine ae ?_;exact ⟨rfl,rfl,_,_,Wk.aD ar,qe,qg,rfl,rfl⟩
 ·rintro _ _ ⟨ad,cp,rfl,rfl⟩;rw [length_map,A0,take_length]
  have hlen:(dX (ct p) l (a+1) s1 ls).2.length<=ls.length+aB l:=by
   rw [qu,length_append];have:=uo l;omega
  generalize (dX (ct p) l (a+1) s1 ls).1=s2 at *;generalize (dX (ct p) l (a+1) s1 ls).2=ls2 at *;have Q7:(cl ls2).length=ls2.length:=vz ls2;unfold DA Jb RH;refine be ?_
  cases hv:(n.kind==13) with
  | false =>
   rw [if_neg (by simpa using hv)];refine ae ?_;refine cU ?_;exact ⟨rfl,ad,cp,rfl⟩
  | true =>
   rw [if_pos (by simpa using hv)];refine ae ?_;refine aJ (aC 0 7 (.a 7 (.a 8 (.a 9 .nil)))) ?_;refine au ?_;refine ey ?_;refine au ?_;refine OA rfl rfl (GL.pD 6 (news:=[[.v (sv n.s)]]) rfl rfl rfl bd rfl rfl (by refine ⟨?_,?_⟩;(· show _+1<=_;omega);(· show (_+1) * _<=_;omega)) ?_);intro sC sG;refine dj ?_;refine bg ?_;refine cU ?_;exact ⟨rfl,sC,sG,by simp [cl]⟩
theorem Se (p:Src) (E1 E5 E6:TypeId) (i:Nat) (f:Go.Sp.Fn) (t:T) (s:CS) (hp:p.nodes.length<=1048576) (eX:∀ n∈p.nodes,n.kids.length<=1099511627776) (iL:p.fns.length<=1099511627776) (jr:p.arrays.length<=1099511627776) (jR:p.globals.length<=1099511627776)
  (hf:p.fns[i]?=some f) (xJ:f.params.length<=1048576) (hb:0<=f.body) (b7:et p.nodes f.body.toNat t) (cR:aR t<=1048576) :
  GF Tryz.prog 88 [.agg (ay p),.v (ii (i:Nat)),Jb p] [.box E1 [.v (ii s.code)],.box E5 [.v (ii s.skip)],.box E6 [.v (ii s.place)]] (.tup []) [.box E1 [.v (ii (iG (ct p) t f.body.toNat s f.params).1.code)],.box E5 [.v (ii (iG (ct p) t f.body.toNat s f.params).1.skip)],.box E6 [.v (ii (iG (ct p) t f.body.toNat s f.params).1.place)]]:=by
 have hr:(p.fns.map ax)[i]?=some (ax f):=by rw [getElem?_map,hf];rfl
 have cW:(f.params.map fun s=>[GV.v (sv s)]).length=f.params.length:=by simp
 have hY:=FQ f.params;obtain ⟨b,xA⟩:∃ b:Nat,f.body=(b:Int):=⟨f.body.toNat,by omega⟩;rw [xA,Int.toNat_natCast] at b7 |-;unfold ax at hr;rw [xA] at hr;unfold Jb;refine df Tryz.func88 Tryz.ntmps88 ?_;refine jh ?_;refine GL.wk (Wk.freeze (i:=3) rfl rfl rfl (Nat.le_refl _)) ?_;refine GN (by simp only [om,nw];rfl) ?_;refine GL.wk (Wk.aD (cj:=[.U,.v (ii (i:Nat)),.U,.box (ay p) 0,.U,.loc 4 0,.U,.U,.U,.U,.U,.U,.U,strs f.params,.U,.U,.U,.U,.U,.U,.U,.U,.U,.U]) ar) ?_;refine GL.wk (Wk.oq 9 1) ?_;refine GL.DW 5 rfl rfl rfl rfl hY (by refine ⟨?_,?_⟩;(· rw [cW];omega);(· rw [cW];omega)) ?_;intro ad cp;rw [cW];refine b8 ?_;simp only [nil_append,List.length_nil,Nat.zero_add];refine ae ?_;refine GW.L4 (cj:=[.U,.v (ii (i:Nat)),.U,.box (ay p) 0,.U,.loc 4 0,.loc 6 0,.loc 7 0,.U,.U,.U,.U,.U,.U,.U,.U,.U,.U,.U,.U,.U,.U,.U,.U]) (aL:=[.box E1 [.v (ii s.code)],.box E5 [.v (ii s.skip)],.box E6 [.v (ii s.place)],.gone,.box _ [.fn (.func 171) [] [.loc 0 0,.loc 1 0,.box (ay p) 0,.loc 2 0]],.vech 9 1 (cl f.params) (.slice ad f.params.length cp),.box _ [.v (.slice ad f.params.length cp)],.box _ [.fn (.func 127) [] [.loc 4 0,.loc 6 0,.box (ay p) 0,.loc 7 0]]]) ar rfl ?_;refine aJ (aC 0 7 (.a 7 .nil)) ?_;refine au ?_;have hv:=Qy p E1 E5 E6;refine OA rfl rfl (GL.vO [0,1,2,4,6,7,5] (hv _ _ _ hp eX iL jr jR _ t (Nat.le_refl _) b s f.params ad cp b7 ah) rfl rfl rfl (by repeat (first | exact trivial | refine ⟨rfl,?_⟩)) ?_);rintro _ _ ⟨rfl,qe,qg,rfl⟩;refine ⟨by simp [DA],?_⟩;unfold DA;refine dj ?_;refine au ?_;exact mf
end Go.Xg
namespace Go.Im
open Go.Xp Go.Sp
theorem HL {l:List ai}:uy l=false↔∀ k,k < l.length->nP l k=false:=by
 unfold uy;rw [any_eq_false];constructor
 ·intro h k hk;have:=h k (List.mem_range.2 hk);simpa using this
 ·intro h k hk;rw [h k (List.mem_range.1 hk)];decide
end Go.Im
namespace Go.Xg
open Go.RowKit Go.Xw Go.Proofs
open Go.Xp (Nd T Ar aR aB dY)
open Go.Sp (Src)
open Go.Im
theorem YG.D2 {P:Program} {fr:List GV} {Γ:List Ob} {x up:Operand} {t e:TypeId} {k:Nat} [hT:mj P t e k] {rows:List (List GV)} {kk:IntKind} {i:Nat} (hx:aV fr x=.sl k rows) (hup:aV fr up=.v (.int kk i)) (hi:i < rows.length):YG P (.slice t x none (some up) none) fr Γ (.sl k (rows.take i)):=fun B K β w l hI hF=>by
 have h:=hF.ev x;rw [hx] at h;have Ig:=hF.gy hup;generalize hv:ev l x=v at h
 cases h with
 | sl0 a c=>simp at hi
 | sl b o c _ _ h hc =>
  refine ⟨.slice (some ⟨b,o,none⟩) i c,fun d ty pos af=>?_,?_⟩
  ·have n9:¬ (c=0):=by omega
   have hle:(i:Int)<=(c:Int):=by omega
   have zQ:i<=c:=by omega
   simp [execOp,Instr.sliceAt,Instr.slice,Instr.sliceBounds,Instr.sliceBound,asIntOf,hv,Ig,run_underlying hT.und,iJ hT.siz,n9,hle,zQ,pC]
  ·have:=Rel.sl (K:=K) (β:=β) b o c k (rows.take i) (fun j r hr=>?_) (by simp;omega)
   ·rw [length_take,Nat.min_eq_left (Nat.le_of_lt hi)] at this;exact this
   ·have hj:j < i:=by
     rcases Nat.lt_or_ge j i with h1 | h1
     ·exact h1
     ·rw [List.getElem?_eq_none (by rw [length_take];omega)] at hr;cases hr
    rw [List.getElem?_take,if_pos hj] at hr;exact h j r hr
attribute [local irreducible] GW GL GO YG GC GA aY ba
theorem Mg (p:Src) (i:Nat) (f:Go.Sp.Fn) (t:T) (hp:p.nodes.length<=1048576) (eX:∀ n∈p.nodes,n.kids.length<=1099511627776) (iL:p.fns.length<=1099511627776) (jr:p.arrays.length<=1099511627776) (jR:p.globals.length<=1099511627776)
  (hf:p.fns[i]?=some f) (xJ:f.params.length<=1048576) (hb:0<=f.body) (b7:et p.nodes f.body.toNat t) (cR:aR t<=1048576) :
  GF Tryz.prog 140 [.agg (ay p),.v (ii (i:Nat))] [] (.tup [.v (ii (fo p f t f.body.toNat).1),.v (ii (fo p f t f.body.toNat).2)]) []:=by
 have hr:(p.fns.map ax)[i]?=some (ax f):=by rw [getElem?_map,hf];rfl
 have dh:(f.params.map fun s=>[GV.v (sv s)]).length=f.params.length:=by simp
 have hE:=Se p 3 3 3 i f t ⟨0,0,-1⟩ hp eX iL jr jR hf xJ hb b7 cR;unfold ax at hr;unfold fo;refine aj Tryz.func140 Tryz.ntmps140 ?_;refine GW.range (f.params.map fun s=>[GV.v (sv s)]).length (fun k fr Γ=>fr=[.U,.v (ii (i:Nat)),.loc 0 0,.U,.U,.U,strs f.params,.U,.U,.U,.U,.U,.U,.U,.U,.U,.U,.U,strs f.params,.v (ii ((f.params.map fun s=>[GV.v (sv s)]).length:Int)),.v (ii (k:Nat)),.U,.U,.U,.U,.U,.U,.U,.U,.U,.U,.U,.U,.U,.U,.U,.U]/\Γ=[.box 34 (ay p)]/\∀ j,j < k->nP f.params j=false) ?_ ah ?_ ?_ ?_
 ·exact ⟨_,_,Wk.aD ar,rfl,rfl,fun j hj=>absurd hj (Nat.not_lt_zero _)⟩
 ·exact fE
 ·rintro k _ _ ao ⟨rfl,rfl,aM⟩;have mR:=ao;rw [dh] at ao;obtain ⟨x,hx⟩:∃ x,f.params[k]?=some x:=⟨f.params[k],by simp [ao]⟩
  have Rc:(f.params.map fun s=>[GV.v (sv s)])[k]?=some [.v (sv x)]:=by rw [getElem?_map,hx];rfl
  have hC:=ky (f.params.take k) x (by rw [length_take];omega)
  have hd:nP f.params k=(f.params.take k).contains x:=by unfold nP;rw [hx]
  rw [<-hd] at hC;unfold strs at hC;rw [map_take] at hC
  cases eL:nP f.params k with
  | true =>
   rw [eL] at hC
   have Uv:uy f.params=true:=by
    cases h:uy f.params with
    | true=>rfl
    | false=>rw [HL.1 h k ao] at eL;cases eL
   rw [if_pos Uv];refine ae ?_;refine GL.q (YG.D2 rfl rfl mR) ?_;refine b8 ?_;refine ae ?_;refine ab [] hC ?_;exact mg
  | false =>
   rw [eL] at hC;refine ae ?_;refine GL.q (YG.D2 rfl rfl mR) ?_;refine b8 ?_;refine ae ?_;refine ab [] hC ?_
   exact ⟨rfl,rfl,_,_,Wk.aD ar,rfl,rfl,fun j hj=>by
    rcases Nat.lt_succ_iff_lt_or_eq.1 hj with h | rfl
    ·exact aM j h
    ·exact eL⟩
 ·rintro _ _ ⟨rfl,rfl,aM⟩;rw [dh] at aM;rw [if_neg (by rw [HL.2 aM];decide)];refine be ?_;refine GW.wk (Wk.freeze (i:=0) rfl rfl rfl (Nat.zero_le _)) ?_;refine GW.L4 (cj:=[.U,.v (ii (i:Nat)),.box (ay p) 0,.U,.U,.U,.U,.U,.U,.U,.U,.U,.U,.U,.U,.U,.U,.U,.U,.U,.U,.U,.U,.U,.U,.U,.U,.U,.U,.U,.U,.U,.U,.U,.U,.U,.U]) (aL:=[.gone]) ar rfl ?_;refine ae ?_;refine ab [1,3,2] hE ?_;refine aJ (aC 0 4 .nil) ?_;refine au ?_;exact qJ
end Go.Xg
namespace Go.Im
open Go.Xp Go.Sp
theorem rU {l:List Ar} {k:Nat} {a:Ar} (h:l[k]?=some a):dE (l.take (k+1))=dE (l.take k)+a.size:=by
 unfold dE;rw [take_add_one,h,List.foldl_append];rfl
theorem ux {l:List Ar} (h:∀ a∈l,0<=a.size/\a.size<=2147483648):∀ k,0<=dE (l.take k)/\dE (l.take k)<=(k:Int) * 2147483648:=by
 intro k
 induction k with
 | zero=>simp [dE]
 | succ k ih =>
  cases hx:l[k]? with
  | none =>
   have:l.take (k+1)=l.take k:=by rw [take_add_one,hx];simp
   rw [this];omega
  | some a =>
   have:=h a (mem_of_getElem? hx);rw [rU hx];omega
end Go.Im
namespace Go.Xg
open Go.RowKit Go.Xw Go.Proofs
open Go.Xp (Nd T Ar aR aB)
open Go.Sp (Src)
open Go.Im
attribute [local irreducible] GW GL GO YG GC GA aY ba
theorem N8 (p:Src) (iL:p.fns.length<=1099511627776) (jr:p.arrays.length<=1048576) (cR:∀ a∈p.arrays,0<=a.size/\a.size<=2147483648):GF Tryz.prog 137 [.agg (ay p)] [] (.v (.bool (iC p))) []:=by
 have dh:(p.arrays.map aH).length=p.arrays.length:=by simp
 have jB:(p.fns.map ax).length=p.fns.length:=by simp
 have jR:(p.globals.map fun s=>[GV.v (sv s)]).length=p.globals.length:=by simp
 have hC:=tJ (jN:=170) (fun x=>decide (x.params.length > 40)) p.fns iL (fun x _=>KV x);unfold iC;generalize p.fns.any (fun x=>decide (x.params.length > 40))=b4 at *;have hb:=ux cR;refine aj Tryz.func137 Tryz.ntmps137 ?_;refine GW.range (p.arrays.map aH).length (fun k fr Γ=>fr=[.U,.loc 0 0,.U,.v (ii (dE (p.arrays.take k))),.U,.U,.U,.sl 2 (p.arrays.map aH),.v (ii ((p.arrays.map aH).length:Int)),.v (ii (k:Nat)),.U,.U,.U,.U,.U,.U,.U,.U,.U,.U,.U,.U,.U,.U,.U,.U,.U,.U,.U,.U,.U,.U,.U,.U,.U,.U,.U,.U,.U,.U]/\Γ=[.box 34 (ay p)]/\(p.arrays.take k).all (fun a=>!(a.size==0))=true) ?_ ah ?_ ?_ ?_
 ·exact iF
 ·exact fE
 ·rintro k _ _ ao ⟨rfl,rfl,aM⟩;rw [dh] at ao;obtain ⟨x,hx⟩:∃ x,p.arrays[k]?=some x:=⟨p.arrays[k],by simp [ao]⟩
  have hr:(p.arrays.map aH)[k]?=some (aH x):=by rw [getElem?_map,hx];rfl
  have bh:=jL (f:=fun a:Ar=>a.size==0) hx;have gT:=rU hx;have eo:=hb k;have nC:=cR x (mem_of_getElem? hx);unfold aH at hr
  cases h1:(x.size==0) with
  | true =>
   have:p.arrays.any (fun a=>a.size==0)=true:=List.any_eq_true.2 ⟨x,mem_of_getElem? hx,h1⟩;rw [this];exact aw
  | false =>
   rw [gT];generalize dE (p.arrays.take k)=c at *;refine ae ?_;exact ⟨rfl,rfl,_,_,(Wk.cut (n:=1) (Nat.zero_le _) rfl).trans (Wk.aD ar),rfl,rfl,by rw [bh,aM,h1];rfl⟩
 ·rintro _ _ ⟨rfl,rfl,aM⟩;rw [dh,take_length] at aM |-
  have:p.arrays.any (fun a=>a.size==0)=false:=by
   rw [any_eq_false];rw [List.all_eq_true] at aM;intro x hx;simpa using aM x hx
  rw [this];have e1:decide (p.fns.length > 40)=decide ((40:Int) < ((p.fns.map ax).length:Int)):=decide_eq_decide.2 (by rw [jB];omega);have e2:decide (p.globals.length > 29)=decide ((29:Int) < ((p.globals.map fun s=>[GV.v (sv s)]).length:Int)):=decide_eq_decide.2 (by rw [jR];omega);have e3:decide (dE p.arrays > 8000)=decide ((8000:Int) < dE p.arrays):=rfl;rw [e1,e2,e3];generalize dE p.arrays=c at *;refine be ?_
  cases h1:decide ((40:Int) < ((p.fns.map ax).length:Int))
  all_goals cases h2:decide ((29:Int) < ((p.globals.map fun s=>[GV.v (sv s)]).length:Int))
  all_goals cases h3:decide ((8000:Int) < c)
  all_goals
   refine ae ?_
   first
    | (refine bU ?_;exact ⟨rfl,rfl⟩)
    | (refine gQ [] hC ?_;refine ae ?_;refine bU ?_;exact ⟨rfl,rfl⟩)
end Go.Xg
namespace Go.Im
open Go.Xp Go.Sp
theorem BM {l:List ai}:ed l=false↔∀ k,k < l.length->kr l k=false:=by
 unfold ed;rw [any_eq_false];constructor
 ·intro h k hk;have:=h k (List.mem_range.2 hk);simpa using this
 ·intro h k hk;rw [h k (List.mem_range.1 hk)];decide
theorem EJ (p:Src) (l:List T) (a:Nat):fp p [] l a=(0,0):=by unfold fp;rfl
end Go.Im
namespace Go.Xg
open Go.RowKit Go.Xw Go.Proofs
open Go.Xp (Nd T Ar aR aB)
open Go.Sp (Src)
open Go.Im
attribute [local irreducible] GW GL GO YG GC GA aY ba
theorem Ld (p:Src) (hF:GF Tryz.prog 136 [.agg (ay p)] [] (.v (.bool false)) []):GF Tryz.prog 103 [.agg (ay p)] [] (.tup [.v (ii 20),.v (ii 0)]) []:=by
 refine aj Tryz.func103 Tryz.ntmps103 ?_;refine ab [] hF ?_;exact mg
theorem Jk (p:Src) (l:List T) (ns:List ai) (A2:ns.length<=8388608) (jB:p.fns.length=l.length) (iL:p.fns.length<=1048576)
  (hF:GF Tryz.prog 136 [.agg (ay p)] [] (.v (.bool true)) [])
  (hA:GC Tryz.prog 82 [.agg (ay p)] [] fun g Δ=>∃ a c,g=.v (.slice a ns.length c)/\Δ=[.vech 9 1 (cl ns) (.slice a ns.length c)])
  (hT:GF Tryz.prog 137 [.agg (ay p)] [] (.v (.bool (iC p))) [])
  (hq:∀ i f t,p.fns[i]?=some f->l[i]?=some t->GF Tryz.prog 140 [.agg (ay p),.v (ii (i:Nat))] [] (.tup [.v (ii (fo p f t (aB (l.take i))).1),.v (ii (fo p f t (aB (l.take i))).2)]) []) :
  GF Tryz.prog 103 [.agg (ay p)] []
   (.tup [.v (ii (if ed ns=true then ((21,0):Int × Int) else if iC p=true then (26,0) else if p.fns.any mC=false then (25,0) else fp p p.fns l 0).1),.v (ii (if ed ns=true then ((21,0):Int × Int) else if iC p=true then (26,0) else if p.fns.any mC=false then (25,0) else fp p p.fns l 0).2)]) []:=by
 have dh:(ns.map fun s=>[GV.v (sv s)]).length=ns.length:=by simp
 have pK:(p.fns.map ax).length=p.fns.length:=by simp
 have hM:=tJ (jN:=139) mC p.fns ah (fun x _=>OC x);generalize iC p=tm at *;refine aj Tryz.func103 Tryz.ntmps103 ?_;refine ab [] hF ?_;refine cv [] hA ?_;rintro _ _ ⟨ad,cp,rfl,rfl⟩;refine c8 ?_;refine GL.wk (Wk.pY (t:=14) (i:=1) rfl rfl rfl) ?_;refine GL.wk (Wk.cut (n:=1) (Nat.zero_le _) rfl) ?_;refine GL.wk (Wk.aD (cj:=[.U,.loc 0 0,.U,.U,.U,.U,.U,.U,.U,.U,.U,.U,.U,.U,strs ns,.U,.U,.U,.U,.U,.U,.U,.U,.U,.U,.U,.U,.U,.U,.U,.U,.U,.U,.U,.U,.U,.U,.U,.U,.U,.U,.U,.U,.U,.U,.U,.U,.U,.U,.U,.U,.U,.U,.U,.U]) ar) ?_;refine b8 ?_;refine ae ?_;refine GW.range (ns.map fun s=>[GV.v (sv s)]).length (fun k fr Γ=>fr=[.U,.loc 0 0,.U,.U,strs ns,.U,.U,.U,.U,.U,.U,.U,.U,.U,.U,strs ns,.v (ii ((ns.map fun s=>[GV.v (sv s)]).length:Int)),.v (ii (k:Nat)),.U,.U,.U,.U,.U,.U,.U,.U,.U,.U,.U,.U,.U,.U,.U,.U,.U,.U,.U,.U,.U,.U,.U,.U,.U,.U,.U,.U,.U,.U,.U,.U,.U,.U,.U,.U,.U]/\Γ=[.box 34 (ay p)]/\∀ j,j < k->kr ns j=false) ?_ ah ?_ ?_ ?_
 ·exact ⟨_,_,Wk.aD ar,rfl,rfl,fun j hj=>absurd hj (Nat.not_lt_zero _)⟩
 ·exact fE
 ·rintro k _ _ ao ⟨rfl,rfl,aM⟩;have mR:=ao;rw [dh] at ao;obtain ⟨x,hx⟩:∃ x,ns[k]?=some x:=⟨ns[k],by simp [ao]⟩
  have Rc:(ns.map fun s=>[GV.v (sv s)])[k]?=some [.v (sv x)]:=by rw [getElem?_map,hx];rfl
  have hR:=M6 x;have hC:=ky (ns.take k) x (by rw [length_take];omega)
  have hd:kr ns k=(lZ x || (ns.take k).contains x):=by unfold kr;rw [hx]
  unfold strs at hC;rw [map_take] at hC
  cases h1:lZ x with
  | true =>
   rw [h1] at hR hd
   have xA:ed ns=true:=by
    cases h:ed ns with
    | true=>rfl
    | false=>rw [BM.1 h k ao] at hd;simp at hd
   rw [if_pos xA];refine ae ?_;refine ab [] hR ?_;exact mg
  | false =>
   rw [h1] at hR hd
   cases eL:(ns.take k).contains x with
   | true =>
    rw [eL] at hC hd
    have xA:ed ns=true:=by
     cases h:ed ns with
     | true=>rfl
     | false=>rw [BM.1 h k ao] at hd;simp at hd
    rw [if_pos xA];refine ae ?_;refine ab [] hR ?_;refine GL.q (YG.D2 rfl rfl mR) ?_;refine b8 ?_;refine ae ?_;refine ab [] hC ?_;exact mg
   | false =>
    rw [eL] at hC hd;refine ae ?_;refine ab [] hR ?_;refine GL.q (YG.D2 rfl rfl mR) ?_;refine b8 ?_;refine ae ?_;refine ab [] hC ?_
    exact ⟨rfl,rfl,_,_,Wk.aD ar,rfl,rfl,fun j hj=>by
     rcases Nat.lt_succ_iff_lt_or_eq.1 hj with h | rfl
     ·exact aM j h
     ·exact hd⟩
 ·rintro _ _ ⟨rfl,rfl,aM⟩;rw [dh] at aM;rw [if_neg (show ¬ ed ns=true by rw [BM.2 aM];decide)];refine be ?_
  cases tm with
  | true =>
   rw [if_pos rfl];refine ae ?_;refine ab [] hT ?_;exact mg
  | false =>
   rw [if_neg aK]
   cases hmn:p.fns.any mC with
   | false =>
    rw [hmn] at hM;rw [if_pos rfl];refine ae ?_;refine ab [] hT ?_;refine ab [] hM ?_;exact mg
   | true =>
    rw [hmn] at hM;rw [if_neg aK];refine ae ?_;refine ab [] hT ?_;refine ab [] hM ?_;refine GW.range (p.fns.map ax).length (fun k fr Γ=>fr=[.U,.loc 0 0,.U,.U,.U,.U,.U,.U,.U,.U,.U,.U,.U,.U,.U,.U,.U,.U,.U,.U,.U,.U,.U,.U,.U,.U,.U,.U,.U,.U,.U,.U,.U,.U,.U,.U,.U,.U,.U,.sl 3 (p.fns.map ax),.v (ii ((p.fns.map ax).length:Int)),.v (ii (k:Nat)),.U,.U,.U,.U,.U,.U,.U,.U,.U,.U,.U,.U,.U]/\Γ=[.box 34 (ay p)]/\fp p p.fns l 0=fp p (p.fns.drop k) (l.drop k) (aB (l.take k))) ?_ ah ?_ ?_ ?_
    ·exact ⟨_,_,Wk.aD ar,rfl,rfl,by rw [List.drop_zero,List.drop_zero,List.take_zero,aB]⟩
    ·exact fE
    ·rintro k _ _ ao ⟨rfl,rfl,he⟩;rw [pK] at ao;obtain ⟨f,hf⟩:∃ f,p.fns[k]?=some f:=⟨p.fns[k],by simp [ao]⟩;obtain ⟨t,ht⟩:∃ t,l[k]?=some t:=⟨l[k]'ah,getElem?_eq_getElem _⟩;have hQ:=hq k f t hf ht
     have MH:p.fns.drop k=f::p.fns.drop (k+1):=by rw [List.drop_eq_getElem_cons ao];rw [getElem?_eq_getElem ao] at hf;rw [Option.some.inj hf]
     have dr:l.drop k=t::l.drop (k+1):=by rw [List.drop_eq_getElem_cons ah];rw [getElem?_eq_getElem ah] at ht;rw [Option.some.inj ht]
     rw [MH,dr,fp,<-Qk ht] at he
     cases h1:((fo p f t (aB (l.take k))).1 != 0) with
     | true =>
      rw [if_pos (by simpa using h1)] at he;rw [he];generalize fo p f t (aB (l.take k))=r at *;refine ae ?_;refine ab [] hQ ?_;exact mg
     | false =>
      rw [if_neg (by simpa using h1)] at he;generalize fo p f t (aB (l.take k))=r at *;refine ae ?_;refine ab [] hQ ?_;exact ⟨rfl,rfl,_,_,Wk.aD ar,rfl,rfl,he⟩
    ·rintro _ _ ⟨rfl,rfl,he⟩;rw [pK,List.drop_length,EJ] at he;rw [he];refine be ?_;exact qJ
theorem Mt (p:Src) (c z:Int) (h:GF Tryz.prog 103 [.agg (ay p)] [] (.tup [.v (ii c),.v (ii z)]) []):GF Tryz.prog 45 [.agg (ay p)] [] (.v (.bool (c==0))) []:=by
 refine aj Tryz.func45 Tryz.ntmps45 ?_;refine ab [] h ?_;exact al
end Go.Xg
set_option maxHeartbeats 2000000
namespace Go.Xg
open Go.RowKit Go.Xw Go.Proofs
open Go.Xp (Nd T Ar)
open Go.Sp (Src)
open Go.Im
attribute [local irreducible] GW GL GO YG GC GA aY ba
def cC (p:Src) (h:Value) (c:SS):List GV:=[strs p.globals,.sl 2 (p.arrays.map aH),.sl 3 (p.fns.map ax),.sl 5 (p.nodes.map az),.v h,.v (ii c.code),.v (ii c.at_)]
theorem gW (p:Src) (h:Value) (c:SS) (k z:Int):GF Tryz.prog 153 [.loc 0 0,.v (ii k),.v (ii z)] [.box 133 (cC p h c)] (.tup []) [.box 133 (cC p h (c.fail k z))]:=by
 unfold SS.fail
 cases hc:(c.code==0) with
 | true =>
  rw [if_pos (by simpa using hc)];unfold cC;refine aj Tryz.func153 Tryz.ntmps153 ?_;exact fX
 | false =>
  rw [if_neg (by simpa using hc)];unfold cC;refine aj Tryz.func153 Tryz.ntmps153 ?_;exact fX
theorem Kd (s:ai):GF Tryz.prog 72 [.v (sv s)] [] (.v (.bool (lZ s))) []:=by
 unfold lZ oS pQ iN
 cases h1:(s==[103,101,116])
 all_goals cases h2:(s==[112,117,116])
 all_goals
  refine aj Tryz.func72 Tryz.ntmps72 ?_;exact al
theorem Bf (p:Src) (s:ai) (hn:p.arrays.length<=1099511627776):GF Tryz.prog 116 [.agg (ay p),.v (sv s)] [] (.v (ii (bM (fun x:Ar=>x.name==s) p.arrays))) []:=by
 have dh:(p.arrays.map aH).length=p.arrays.length:=by simp
 refine aj Tryz.func116 Tryz.ntmps116 ?_;refine GW.range (p.arrays.map aH).length (fun k fr Γ=>fr=[.U,.v (sv s),.loc 0 0,.U,.U,.U,.U,.U,.sl 2 (p.arrays.map aH),.v (ii ((p.arrays.map aH).length:Int)),.v (ii (k:Nat)),.U,.U,.U,.U,.U,.U,.U,.U,.U,.U]/\Γ=[.box 34 (ay p)]/\(p.arrays.take k).all (fun y=>!(y.name==s))=true) ?_ ah ?_ ?_ ?_
 ·exact iF
 ·exact fE
 ·rintro k _ _ ao ⟨rfl,rfl,aM⟩;rw [dh] at ao;obtain ⟨x,b6⟩:∃ x,p.arrays[k]?=some x:=⟨p.arrays[k],by simp [ao]⟩
  have hr:(p.arrays.map aH)[k]?=some (aH x):=by rw [getElem?_map,b6];rfl
  have bh:=jL (f:=fun y:Ar=>y.name==s) b6
  have hit:=fun h0=>ju (f:=fun y:Ar=>y.name==s) b6 h0 aM
  unfold aH at hr
  cases hb:(x.name==s) with
  | true =>
   rw [hit hb];exact aw
  | false =>
   refine ae ?_;exact ⟨rfl,rfl,_,_,(Wk.cut (n:=1) (Nat.zero_le _) rfl).trans (Wk.aD ar),rfl,rfl,by rw [bh,aM,hb];rfl⟩
 ·rintro _ _ ⟨rfl,rfl,aM⟩;rw [dh,take_length] at aM;rw [gB aM];exact aw
theorem B7 (p:Src) (s:ai) (hn:p.fns.length<=1099511627776):GF Tryz.prog 117 [.agg (ay p),.v (sv s)] [] (.v (ii (bM (fun x:Go.Sp.Fn=>x.name==s) p.fns))) []:=by
 have dh:(p.fns.map ax).length=p.fns.length:=by simp
 refine aj Tryz.func117 Tryz.ntmps117 ?_;refine GW.range (p.fns.map ax).length (fun k fr Γ=>fr=[.U,.v (sv s),.loc 0 0,.U,.U,.U,.U,.U,.sl 3 (p.fns.map ax),.v (ii ((p.fns.map ax).length:Int)),.v (ii (k:Nat)),.U,.U,.U,.U,.U,.U,.U,.U,.U,.U]/\Γ=[.box 34 (ay p)]/\(p.fns.take k).all (fun y=>!(y.name==s))=true) ?_ ah ?_ ?_ ?_
 ·exact iF
 ·exact fE
 ·rintro k _ _ ao ⟨rfl,rfl,aM⟩;rw [dh] at ao;obtain ⟨x,b6⟩:∃ x,p.fns[k]?=some x:=⟨p.fns[k],by simp [ao]⟩
  have hr:(p.fns.map ax)[k]?=some (ax x):=by rw [getElem?_map,b6];rfl
  have bh:=jL (f:=fun y:Go.Sp.Fn=>y.name==s) b6
  have hit:=fun h0=>ju (f:=fun y:Go.Sp.Fn=>y.name==s) b6 h0 aM
  unfold ax at hr
  cases hb:(x.name==s) with
  | true =>
   rw [hit hb];exact aw
  | false =>
   refine ae ?_;exact ⟨rfl,rfl,_,_,(Wk.cut (n:=1) (Nat.zero_le _) rfl).trans (Wk.aD ar),rfl,rfl,by rw [bh,aM,hb];rfl⟩
 ·rintro _ _ ⟨rfl,rfl,aM⟩;rw [dh,take_length] at aM;rw [gB aM];exact aw
theorem z7 (l:List Int) (n:Int) (hn:l.length<=1099511627776):GF Tryz.prog 51 [ints l,.v (ii n)] [] (.v (.bool (l.contains n))) []:=by
 have dh:(l.map fun i=>[GV.v (ii i)]).length=l.length:=by simp
 refine aj Tryz.func51 Tryz.ntmps51 ?_;refine GW.range (l.map fun i=>[GV.v (ii i)]).length (fun k fr Γ=>fr=[ints l,.v (ii n),.U,.U,.U,.U,.U,ints l,.v (ii ((l.map fun i=>[GV.v (ii i)]).length:Int)),.v (ii (k:Nat)),.U,.U,.U,.U,.U,.U,.U]/\Γ=[]/\(l.take k).contains n=false) ?_ ah ?_ ?_ ?_
 ·exact iF
 ·exact fE
 ·rintro k _ _ ao ⟨rfl,rfl,hc⟩;rw [dh] at ao;obtain ⟨x,b6⟩:∃ x,l[k]?=some x:=⟨l[k],by simp [ao]⟩;have hr:=nV b6
  have bh:(l.take (k+1)).contains n=((l.take k).contains n || (x==n)):=by
   rw [take_add_one,b6,List.contains_append];show (_ || [x].contains n)=_
   congr 1
   rw [List.contains_cons,List.contains_nil,Bool.or_false];exact Bool.beq_comm
  have hm:=mem_of_getElem? b6
  cases hb:(x==n) with
  | true =>
   have h3:x=n:=by simpa using hb
   rw [show l.contains n=true by rw [<-h3];exact List.contains_iff_mem.2 hm];exact aw
  | false =>
   refine ae ?_;exact ⟨rfl,rfl,_,_,Wk.aD ar,rfl,rfl,by rw [bh,hc,hb];rfl⟩
 ·rintro _ _ ⟨rfl,rfl,hc⟩;rw [dh,take_length] at hc;rw [hc];exact aw
end Go.Xg
set_option maxHeartbeats 4000000
namespace Go.Im
open Go.Xp Go.Sp
def xk (l:List ai) (k:Nat):Bool:=(List.range k).any (nP l)
theorem CV (l:List ai) (k:Nat):xk l (k+1)=(xk l k || nP l k):=by
 unfold xk;rw [List.range_succ,List.any_append];simp
def ko (f:Go.Sp.Fn) (c:SS) (k:Nat):SS:=⟨f.params.take k,if xk f.params k=true then fM c.code 21 else c.code,if xk f.params k=true/\c.code=0 then 0 else c.at_⟩
theorem P0 {f:Go.Sp.Fn} {c:SS} {k:Nat} (h:nP f.params k=true):(ko f c (k+1)).code=((ko f c k).fail 21 0).code/\(ko f c (k+1)).at_=((ko f c k).fail 21 0).at_:=by
 unfold ko SS.fail;simp only [CV,h,Bool.or_true,true_and,if_true];unfold fM
 cases xk f.params k <;> by_cases h0:c.code=0 <;> simp [h0]
theorem NI {f:Go.Sp.Fn} {c:SS} {k:Nat} (h:nP f.params k=false):(ko f c (k+1)).code=(ko f c k).code/\(ko f c (k+1)).at_=(ko f c k).at_:=by
 unfold ko;simp only [CV,h,Bool.or_false,and_self]
end Go.Im
namespace Go.Xg
open Go.RowKit Go.Xw Go.Proofs
open Go.Xp (Nd T Ar aR aB)
open Go.Sp (Src)
open Go.Im
attribute [local irreducible] GW GL GO YG GC GA aY ba
theorem He (p:Src) (h0:Value) (c:SS) (f:Go.Sp.Fn) (xJ:f.params.length<=1048576) :
  GC Tryz.prog 132 [.loc 0 0,.agg (ax f)] [.box 133 (cC p h0 c)] fun g Δ=>g=.tup []/\∃ ad cp,Δ=[.box 133 (cC p (.slice ad f.params.length cp) (pU f c)),.vech 9 1 (cl f.params) (.slice ad f.params.length cp)]:=by
 have dh:(f.params.map fun s=>[GV.v (sv s)]).length=f.params.length:=by simp
 have oV:pU f c=⟨f.params,(ko f c f.params.length).code,(ko f c f.params.length).at_⟩:=by
  unfold pU ko xk uy;rfl
 rw [oV]
 have pJ:(ko f c 0).code=c.code/\(ko f c 0).at_=c.at_:=by unfold ko xk;simp
 rw [show cC p h0 c=cC p h0 (ko f c 0) by unfold cC;rw [pJ.1,pJ.2]];unfold cC ax;refine df Tryz.func132 Tryz.ntmps132 ?_;refine GW.wk (Wk.oq 9 1) ?_;simp only [cons_append,nil_append];refine ae ?_;refine GW.range (f.params.map fun s=>[GV.v (sv s)]).length (fun k fr Γ=>∃ ad cp R n B,fr=[.loc 0 0,.U,.U,.loc 2 0,.U,.U,.U,.U,.U,.U,strs f.params,.v (ii ((f.params.map fun s=>[GV.v (sv s)]).length:Int)),.v (ii (k:Nat)),.U,.U,.U,.U,.U,.U,.U,.U,.U,.U,.U,.U,.U,.U,.U,.U,.U,.U,.U,.U,.U,.U]/\Γ=[.box 133 (cC p (.slice ad n cp) (ko f c k)),.vech 9 1 R (.slice ad n cp),B]/\R.length=n/\R=cl (f.params.take k)) ?_ ah ?_ ?_ ?_
 ·exact ⟨_,_,Wk.aD ar,none,0,[],0,_,rfl,rfl,rfl,by simp [cl]⟩
 ·rintro k _ _ ⟨ad,cp,R,n,B,rfl,rfl,_⟩;exact dO
 ·rintro k _ _ ao ⟨ad,cp,R,n,B,rfl,rfl,eG,hR⟩;rw [dh] at ao;obtain ⟨x,hx⟩:∃ x,f.params[k]?=some x:=⟨f.params[k],by simp [ao]⟩
  have Rc:(f.params.map fun s=>[GV.v (sv s)])[k]?=some [.v (sv x)]:=by rw [getElem?_map,hx];rfl
  have bh:cl (f.params.take (k+1))=R++[[.v (sv x)]]:=by rw [take_add_one,hx,hR];simp [cl]
  have tV:n<=1048576:=by rw [<-eG,hR,vz,length_take];omega
  have hL:GF Tryz.prog 74 [.sl 1 R,.v (sv x)] [] (.v (.bool ((f.params.take k).contains x))) []:=by
   rw [hR];exact jk (f.params.take k) x (by rw [length_take];omega)
  have hd:nP f.params k=(f.params.take k).contains x:=by unfold nP;rw [hx]
  rw [<-hd] at hL;have gH:=gW p (.slice ad n cp) (ko f c k) 21 0;clear hR
  cases hb:nP f.params k with
  | true =>
   rw [hb] at hL;obtain ⟨e1,e2⟩:=P0 (c:=c) hb;unfold cC at gH |-;rw [e1,e2];generalize (ko f c k).fail 21 0=s1 at *;generalize ko f c k=s0 at *;refine ae ?_;refine GL.borrow hL (fun B K β w l hI hF=>gR (A:=[_]) (C:=[_]) hI hF rfl rfl) ?_;refine b8 ?_;refine ae ?_;refine ab [0] gH ?_;refine GL.jx 1 rfl rfl rfl rfl rfl rfl rfl rfl bd mc ?_;intro sC sG;refine bT ?_;refine ae ?_;exact ⟨rfl,rfl,_,_,Wk.aD ar,sC,sG,_,_,_,rfl,rfl,by simp [eG],bh.symm⟩
  | false =>
   rw [hb] at hL;obtain ⟨e1,e2⟩:=NI (c:=c) hb;unfold cC at gH |-;rw [e1,e2];generalize ko f c k=s0 at *;refine ae ?_;refine GL.borrow hL (fun B K β w l hI hF=>gR (A:=[_]) (C:=[_]) hI hF rfl rfl) ?_;refine b8 ?_;refine ae ?_;refine GL.jx 1 rfl rfl rfl rfl rfl rfl rfl rfl bd mc ?_;intro sC sG;refine bT ?_;refine ae ?_;exact ⟨rfl,rfl,_,_,Wk.aD ar,sC,sG,_,_,_,rfl,rfl,by simp [eG],bh.symm⟩
 ·rintro _ _ ⟨ad,cp,R,n,B,rfl,rfl,eG,hR⟩;rw [dh] at hR |-;rw [take_length] at hR
  have rl:n=f.params.length:=by rw [<-eG,hR,vz]
  subst rl;refine ae ?_;refine jo ?_;exact TY (n:=2) rfl cy (Nat.le_of_ble_eq_true rfl) rfl ⟨rfl,ad,cp,by rw [hR];rfl⟩
def cO (p:Src) (c:SS) (ls:List ai) (ad:Option Addr) (cp:Nat):List Ob:=[.box 133 (cC p (.slice ad ls.length cp) c),.vech 9 1 (cl ls) (.slice ad ls.length cp)]
theorem Hb (p:Src) (c:SS) (n:Nd) (l:List T) (ad:Option Addr) (cp:Nat) (h1:(n.s==[103,101,116])=true) (hl:l.length<=1099511627776) :
  GF Tryz.prog 154 [.loc 0 0,.agg (cT (.mk n l))] (cO p c c.ls ad cp) (.v (.bool true)) (cO p (eF c n l.length 0) c.ls ad cp):=by
 have eW:(aS l).length=l.length:=aU l;unfold cO;unfold eF;show GF _ _ _ _ (.v (.bool true)) [.box _ (cC p _ (if l.length≠0 then _ else _)),_];have gH:=gW p (.slice ad c.ls.length cp) c 23 n.at_;unfold cC at gH |-
 cases hk:(((aS l).length:Int) != ((0:Nat):Int)) with
 | true =>
  rw [if_pos (show l.length≠0 by rw [eW,bne_iff_ne] at hk;omega)];generalize c.fail 23 n.at_=c1 at *;refine aj Tryz.func154 Tryz.ntmps154 ?_;refine ab [0] gH ?_;exact al
 | false =>
  rw [if_neg (show ¬ l.length≠0 by rw [eW,bne_eq_false_iff_eq] at hk;omega)];refine aj Tryz.func154 Tryz.ntmps154 ?_;exact al
theorem Hc (p:Src) (c:SS) (n:Nd) (l:List T) (ad:Option Addr) (cp:Nat) (h1:(n.s==[103,101,116])=false) (h2:(n.s==[112,117,116])=true) (hl:l.length<=1099511627776) :
  GF Tryz.prog 154 [.loc 0 0,.agg (cT (.mk n l))] (cO p c c.ls ad cp) (.v (.bool true)) (cO p (eF c n l.length 1) c.ls ad cp):=by
 have eW:(aS l).length=l.length:=aU l;unfold cO;unfold eF;show GF _ _ _ _ (.v (.bool true)) [.box _ (cC p _ (if l.length≠1 then _ else _)),_];have gH:=gW p (.slice ad c.ls.length cp) c 23 n.at_;unfold cC at gH |-
 cases hk:(((aS l).length:Int) != ((1:Nat):Int)) with
 | true =>
  rw [if_pos (show l.length≠1 by rw [eW,bne_iff_ne] at hk;omega)];generalize c.fail 23 n.at_=c1 at *;refine aj Tryz.func154 Tryz.ntmps154 ?_;refine ab [0] gH ?_;exact al
 | false =>
  rw [if_neg (show ¬ l.length≠1 by rw [eW,bne_eq_false_iff_eq] at hk;omega)];refine aj Tryz.func154 Tryz.ntmps154 ?_;exact al
theorem Ka (p:Src) (c:SS) (n:Nd) (l:List T) (ad:Option Addr) (cp:Nat) (h1:(n.s==[103,101,116])=false) (h2:(n.s==[112,117,116])=false) (h3:(n.s==[115,105,122,101])=false) (hl:l.length<=1099511627776)
  (hF:GF Tryz.prog 117 [.agg (ay p),.v (sv n.s)] [] (.v (ii (-1))) []) :
  GF Tryz.prog 154 [.loc 0 0,.agg (cT (.mk n l))] (cO p c c.ls ad cp) (.v (.bool false)) (cO p (c.fail 22 n.at_) c.ls ad cp):=by
 have gH:=gW p (.slice ad c.ls.length cp) c 22 n.at_
 have hd:decide ((-1:Int) < 0)=true:=by decide
 unfold cO;unfold cC at gH |-;generalize c.fail 22 n.at_=c1 at *;refine aj Tryz.func154 Tryz.ntmps154 ?_;refine aJ (aC 0 7 (.a 7 (.q 8 .nil))) ?_;refine au ?_;refine aE [] hF ?_;refine ae ?_;refine ab [0] gH ?_;exact al
theorem J9 (p:Src) (c:SS) (n:Nd) (l:List T) (i:Nat) (f:Go.Sp.Fn) (ad:Option Addr) (cp:Nat) (h1:(n.s==[103,101,116])=false) (h2:(n.s==[112,117,116])=false) (h3:(n.s==[115,105,122,101])=false) (hl:l.length<=1099511627776)
  (hf:p.fns[i]?=some f) (hF:GF Tryz.prog 117 [.agg (ay p),.v (sv n.s)] [] (.v (ii ((i:Nat):Int))) []) :
  GF Tryz.prog 154 [.loc 0 0,.agg (cT (.mk n l))] (cO p c c.ls ad cp) (.v (.bool true)) (cO p (eF c n l.length f.params.length) c.ls ad cp):=by
 have eW:(aS l).length=l.length:=aU l
 have hd:decide (((i:Nat):Int) < 0)=false:=by simp
 have hr:(p.fns.map ax)[i]?=some (ax f):=by rw [getElem?_map,hf];rfl
 have cW:(f.params.map fun s=>[GV.v (sv s)]).length=f.params.length:=by simp
 unfold ax at hr;rw [<-cW];unfold cO;unfold eF;show GF _ _ _ _ (.v (.bool true)) [.box _ (cC p _ (if l.length≠(f.params.map fun s=>[GV.v (sv s)]).length then _ else _)),_];have gH:=gW p (.slice ad c.ls.length cp) c 23 n.at_;unfold cC at gH |-
 cases hk:(((aS l).length:Int) != (((f.params.map fun s=>[GV.v (sv s)]).length:Nat):Int)) with
 | true =>
  rw [if_pos (show l.length≠(f.params.map fun s=>[GV.v (sv s)]).length by rw [eW,bne_iff_ne] at hk;omega)];generalize c.fail 23 n.at_=c1 at *;refine aj Tryz.func154 Tryz.ntmps154 ?_;refine aJ (aC 0 7 (.a 7 (.q 8 .nil))) ?_;refine au ?_;refine aE [] hF ?_;refine ae ?_;refine ab [0] gH ?_;exact al
 | false =>
  rw [if_neg (show ¬ l.length≠(f.params.map fun s=>[GV.v (sv s)]).length by rw [eW,bne_eq_false_iff_eq] at hk;omega)];refine aj Tryz.func154 Tryz.ntmps154 ?_;refine aJ (aC 0 7 (.a 7 (.q 8 .nil))) ?_;refine au ?_;refine aE [] hF ?_;exact aw
theorem DQ (p:Src) (c:SS) (n:Nd) (u:T) (ad:Option Addr) (cp:Nat) (h1:(n.s==[103,101,116])=false) (h2:(n.s==[112,117,116])=false) (h3:(n.s==[115,105,122,101])=true) (jr:p.arrays.length<=1099511627776) (mw:c.ls.length<=1099511627776) :
  GF Tryz.prog 154 [.loc 0 0,.agg (cT (.mk n [u]))] (cO p c c.ls ad cp) (.v (.bool false)) (cO p (if fY p u.n c.ls=true then c.fail 24 n.at_ else c) c.ls ad cp):=by
 have rm:(aS [u])[0]?=some (cT u):=cS rfl;have hA:=Bf p u.n.s jr;have hL:=jk c.ls u.n.s mw;have gH:=gW p (.slice ad c.ls.length cp) c 24 n.at_;rw [show fY p u.n c.ls=((u.n.kind != 2 || decide (bM (fun x:Ar=>x.name==u.n.s) p.arrays < 0)) || c.ls.contains u.n.s) from rfl];generalize bM (fun x:Ar=>x.name==u.n.s) p.arrays=z at *;unfold cO;unfold cC at gH |-
 cases h4:(u.n.kind != 2) with
 | true =>
  rw [if_pos (by first | rfl | decide)];generalize c.fail 24 n.at_=c1 at *;refine aj Tryz.func154 Tryz.ntmps154 ?_;refine aJ (aC 0 21 (.a 21 (aC 22 13 (.a 35 (.q 36 (.q 37 .nil)))))) ?_;refine au ?_;refine bg ?_;refine ab [0] gH ?_;exact al
 | false =>
  cases h5:decide (z < 0) with
  | true =>
   rw [if_pos (by first | rfl | decide)];generalize c.fail 24 n.at_=c1 at *;refine aj Tryz.func154 Tryz.ntmps154 ?_;refine aJ (aC 0 21 (.a 21 (aC 22 13 (.a 35 (.q 36 (.q 37 .nil)))))) ?_;refine au ?_;refine bC [] hA ?_;refine bg ?_;refine ab [0] gH ?_;exact al
  | false =>
   generalize c.ls.contains u.n.s=b at *
   cases b with
   | true =>
    rw [if_pos (by first | rfl | decide)];generalize c.fail 24 n.at_=c1 at *;refine aj Tryz.func154 Tryz.ntmps154 ?_;refine aJ (aC 0 21 (.a 21 (aC 22 13 (.a 35 (.q 36 (.q 37 .nil)))))) ?_;refine au ?_;refine bC [] hA ?_;refine Lp rfl rfl rfl (by first | exact rfl | assumption) (GL.borrow hL (fun B K β w l hI hF=>gR (A:=[_]) (C:=[_]) hI hF rfl rfl) ?_);refine dj ?_;refine bg ?_;refine ab [0] gH ?_;exact al
   | false =>
    rw [if_neg aK];refine aj Tryz.func154 Tryz.ntmps154 ?_;refine aJ (aC 0 21 (.a 21 (aC 22 13 (.a 35 (.q 36 (.q 37 .nil)))))) ?_;refine au ?_;refine bC [] hA ?_;refine Lp rfl rfl rfl (by first | exact rfl | assumption) (GL.borrow hL (fun B K β w l hI hF=>gR (A:=[_]) (C:=[_]) hI hF rfl rfl) ?_);refine dj ?_;refine au ?_;exact aw
theorem DR (p:Src) (c:SS) (n:Nd) (l:List T) (ad:Option Addr) (cp:Nat) (h1:(n.s==[103,101,116])=false) (h2:(n.s==[112,117,116])=false) (h3:(n.s==[115,105,122,101])=true) (hl:l.length≠1) :
  GF Tryz.prog 154 [.loc 0 0,.agg (cT (.mk n l))] (cO p c c.ls ad cp) (.v (.bool false)) (cO p (c.fail 23 n.at_) c.ls ad cp):=by
 have gH:=gW p (.slice ad c.ls.length cp) c 23 n.at_;have eW:(aS l).length=l.length:=aU l
 have g1:(((aS l).length:Int)==1)=false:=by rw [eW,beq_eq_false_iff_ne];omega
 have g2:(((aS l).length:Int) != 1)=true:=by rw [eW,bne_iff_ne];omega
 unfold cO;unfold cC at gH |-;generalize c.fail 23 n.at_=c1 at *;refine aj Tryz.func154 Tryz.ntmps154 ?_;refine aJ (aC 0 21 (.a 21 (aC 22 13 (.a 35 (.q 36 (.q 37 .nil)))))) ?_;refine bg ?_;refine ab [0] gH ?_;exact al
theorem Nf (p:Src) (c:SS) (t:T) (ad:Option Addr) (cp:Nat) (jr:p.arrays.length<=1099511627776) (iL:p.fns.length<=1099511627776) (mw:c.ls.length<=1099511627776) (hl:t.kids.length<=1099511627776) :
  GF Tryz.prog 154 [.loc 0 0,.agg (cT t)] (cO p c c.ls ad cp) (.v (.bool (ft p c t).2)) (cO p (ft p c t).1 c.ls ad cp):=by
 cases t with
 | mk n l =>
 have hl:l.length<=1099511627776:=hl
 cases h1:(n.s==[103,101,116]) with
 | true =>
  have e:ft p c (.mk n l)=(eF c n l.length 0,true):=by
   unfold ft oS;exact if_pos (show n.s=_ by simpa using h1)
  rw [e];exact Hb p c n l ad cp h1 hl
 | false =>
  have n1:¬ n.s=[103,101,116]:=by simpa using h1
  cases h2:(n.s==[112,117,116]) with
  | true =>
   have e:ft p c (.mk n l)=(eF c n l.length 1,true):=by
    unfold ft oS pQ;rw [if_neg (show ¬ (T.mk n l).n.s=_ from n1)];exact if_pos (show n.s=_ by simpa using h2)
   rw [e];exact Hc p c n l ad cp h1 h2 hl
  | false =>
   have n2:¬ n.s=[112,117,116]:=by simpa using h2
   cases h3:(n.s==[115,105,122,101]) with
   | true =>
    have e:ft p c (.mk n l)=(eF (if l.length=1/\fY p (nE (.mk n l)) c.ls=true then c.fail 24 n.at_ else c) n l.length 1,false):=by
     unfold ft oS pQ iN;rw [if_neg (show ¬ (T.mk n l).n.s=_ from n1),if_neg (show ¬ (T.mk n l).n.s=_ from n2)];exact if_pos (show n.s=_ by simpa using h3)
    rw [e]
    by_cases hk:l.length=1
    ·obtain ⟨u,rfl⟩:∃ u,l=[u]:=by
      match l,hk with
      | [u],_=>exact ⟨u,rfl⟩
     have e2:eF (if [u].length=1/\fY p (nE (.mk n [u])) c.ls=true then c.fail 24 n.at_ else c) n [u].length 1=(if fY p u.n c.ls=true then c.fail 24 n.at_ else c):=by
      unfold eF;rw [if_neg (by simp)];show (if _/\fY p u.n c.ls=true then _ else _)=_
      by_cases hb:fY p u.n c.ls=true
      ·rw [if_pos hb];exact if_pos ⟨rfl,hb⟩
      ·rw [if_neg hb];exact if_neg fun h=>hb h.2
     rw [e2];exact DQ p c n u ad cp h1 h2 h3 jr mw
    ·have e2:eF (if l.length=1/\fY p (nE (.mk n l)) c.ls=true then c.fail 24 n.at_ else c) n l.length 1=c.fail 23 n.at_:=by
      rw [if_neg fun h=>hk h.1];unfold eF;exact if_pos hk
     rw [e2];exact DR p c n l ad cp h1 h2 h3 hk
   | false =>
    have n3:¬ n.s=[115,105,122,101]:=by simpa using h3
    have hF:=B7 p n.s iL;unfold bM at hF
    cases hx:p.fns.findIdx? (fun f:Go.Sp.Fn=>f.name==n.s) with
    | none =>
     rw [hx] at hF
     have e:ft p c (.mk n l)=(c.fail 22 n.at_,false):=by
      unfold ft oS pQ iN;rw [if_neg (show ¬ (T.mk n l).n.s=_ from n1),if_neg (show ¬ (T.mk n l).n.s=_ from n2),if_neg (show ¬ (T.mk n l).n.s=_ from n3)];show (match p.fns.findIdx? (fun f:Go.Sp.Fn=>f.name==n.s) with | none=>_ | some i=>_)=_;rw [hx];rfl
     rw [e];exact Ka p c n l ad cp h1 h2 h3 hl hF
    | some i =>
     rw [hx] at hF;have hi:i < p.fns.length:=(List.findIdx?_eq_some_iff_getElem.1 hx).1;obtain ⟨f,hf⟩:∃ f,p.fns[i]?=some f:=⟨p.fns[i],by simp [hi]⟩
     have e:ft p c (.mk n l)=(eF c n l.length f.params.length,true):=by
      unfold ft oS pQ iN;rw [if_neg (show ¬ (T.mk n l).n.s=_ from n1),if_neg (show ¬ (T.mk n l).n.s=_ from n2),if_neg (show ¬ (T.mk n l).n.s=_ from n3)];show (match p.fns.findIdx? (fun f:Go.Sp.Fn=>f.name==n.s) with | none=>_ | some i=>_)=_;rw [hx];show (eF c n l.length (lE p i),true)=_;unfold lE;rw [hf]
     rw [e];exact J9 p c n l i f ad cp h1 h2 h3 hl hf hF
end Go.Xg
namespace Go.Im
open Go.Xp Go.Sp
theorem Ds (p:Src) (u:T):∀ (l:List T) (c:SS),ia p (l++[u]) c=nk p u (ia p l c)
 | [],c=>by rw [nil_append,ia,ia,ia]
 | t::l,c=>by rw [cons_append,ia,ia,Ds p u l]
theorem Nz (p:Src) {l:List T} {k:Nat} {u:T} (h:l[k]?=some u) (c:SS):ia p (l.take (k+1)) c=nk p u (ia p (l.take k) c):=by
 rw [take_add_one,h];exact Ds p u _ c
theorem Qu (c:SS) (n:Nd):(lM c n).ls.length<=c.ls.length+1:=by
 unfold lM;split
 ·omega
 split
 ·simp [SS.nQ]
 split
 ·simp [SS.nQ]
 ·simp
mutual
theorem SN (p:Src):∀ (t:T) (c:SS),(nk p t c).ls.length<=c.ls.length+aR t
 | .mk n l,c=>by
  rw [nk,aR];refine Nat.le_trans (Qu _ _) ?_;split
  ·have:=wu p l (jl p c (.mk n l)).1;rw [vq] at this;omega
  ·rw [vq];omega
theorem wu (p:Src):∀ (l:List T) (c:SS),(ia p l c).ls.length<=c.ls.length+aB l
 | [],c=>by rw [ia,aB];omega
 | t::r,c=>by
  rw [ia,aB];have h1:=wu p r (nk p t c);have h2:=SN p t c;omega
end
end Go.Im
namespace Go.Xg
open Go.RowKit Go.Xw Go.Proofs
open Go.Xp (Nd T Ar aR aB bR)
open Go.Sp (Src)
open Go.Im
attribute [local irreducible] GW GL GO YG GC GA aY ba
theorem Ng (p:Src) (jr:p.arrays.length<=1099511627776) (iL:p.fns.length<=1099511627776) (jR:p.globals.length<=1099511627776):∀ (N:Nat) (t:T),aR t<=N->∀ (c:SS) (ad:Option Addr) (cp:Nat),c.ls.length+aR t<=8388608 ->
  GC Tryz.prog 133 [.loc 0 0,.agg (cT t)] (cO p c c.ls ad cp) fun g Δ=>g=.tup []/\∃ qe qg,Δ=cO p (nk p t c) (nk p t c).ls qe qg:=by
 intro N
 induction N with
 | zero=>intro t h;have:=kv t;omega
 | succ N ih =>
 intro t hN c ad cp mw
 cases t with
 | mk n l =>
 rw [Go.Xp.aR] at hN mw;have pL:=bR l;have eW:(aS l).length=l.length:=aU l;rw [nk];have cW:=vq p c (.mk n l);have hL:=jk c.ls n.s ah;have hG:=jk p.globals n.s jR;have hA:=Bf p n.s jr;have hC:=Nf p c (.mk n l) ad cp jr iL ah (by show l.length<=_;omega);have QS:=gW p (.slice ad c.ls.length cp) c 22 n.at_;have H8:=gW p (.slice ad c.ls.length cp) c 24 n.at_
 have he:jl p c (.mk n l)=(if n.kind=2\/n.kind=7 then (if c.ls.contains n.s=false/\p.globals.contains n.s=false then c.fail 22 n.at_ else c,true)
  else if n.kind=3\/n.kind=8 then (if c.ls.contains n.s=true\/bM (fun x:Ar=>x.name==n.s) p.arrays < 0 then c.fail 24 n.at_ else c,true)
  else if n.kind=4 then ft p c (.mk n l) else (c,true)):=rfl
 obtain ⟨P,hP⟩:∃ P,jl p c (.mk n l)=P:=⟨_,rfl⟩;rw [hP] at he cW |-;unfold cO at hC |-;unfold cC at hC QS H8 |-;refine aj Tryz.func133 Tryz.ntmps133 ?_;refine aJ (aC 0 6 (.a 6 (.q 7 .nil))) ?_;refine au ?_;refine OA rfl rfl (GL.borrow hL (fun B K β w l hI hF=>gR (A:=[_]) (C:=[_,_]) hI hF rfl rfl) ?_);refine dj ?_;refine au ?_;refine Jh ?_;refine GW.join (fun fr Γ=>fr=[.loc 0 0,.U,.U,.loc 2 0,.loc 3 0,.U,.v (.bool P.2),.U,.U,.U,.U,.U,.U,.U,.U,.U,.U,.U,.U,.U,.U,.U,.U,.U,.U,.U,.U,.U,.U,.U,.U,.U,.U,.U,.U,.U,.U,.U,.U,.U,.U,.U,.U,.U,.U,.U,.U,.U,.U,.U,.U,.U,.U,.U,.U,.U,.U,.U,.U,.U,.U,.U,.U,.U,.U,.U,.U,.U,.U,.U,.U,.U,.U,.U,.U,.U,.U,.U,.U,.U,.U,.U,.U,.U,.U,.U,.U,.U,.U,.U,.U,.U,.U,.U,.U,.U,.U,.U,.U,.U,.U,.U,.U,.U,.U,.U,.U,.U,.U,.U]/\Γ=[.box 133 (cC p (.slice ad c.ls.length cp) P.1),.vech 9 1 (cl c.ls) (.slice ad c.ls.length cp),.box 94 (cT (.mk n l)),.box 91 (az n)]) ?_ ?_
 ·obtain ⟨kd,at_,nn,s,ks⟩:=n;simp only at *;unfold cC;generalize ft p c (.mk ⟨kd,at_,nn,s,ks⟩ l)=cs at *;generalize bM (fun x:Ar=>x.name==s) p.arrays=z at *;generalize c.ls.contains s=b at *;generalize p.globals.contains s=g at *;generalize c.fail 22 at_=c22 at *;generalize c.fail 24 at_=c24 at *
  by_cases h2:kd=2
  ·subst h2
   have q2:((2:Int)==2)=true:=by decide
   rw [if_pos aK] at he;subst he
   cases b with
   | true =>
    refine ae ?_;refine aJ (aC 0 10 (.a 10 (.q 11 (.q 12 .nil)))) ?_;refine bg ?_;exact jq
   | false =>
    cases g with
    | true =>
     refine ae ?_;refine aJ (aC 0 10 (.a 10 (.q 11 (.q 12 .nil)))) ?_;refine au ?_;refine bC [] hG ?_;exact ij
    | false =>
     refine ae ?_;refine aJ (aC 0 10 (.a 10 (.q 11 (.q 12 .nil)))) ?_;refine au ?_;refine bC [] hG ?_;refine ae ?_;refine ab [0] QS ?_;exact jq
  by_cases h7:kd=7
  ·subst h7
   have q2:((7:Int)==2)=false:=by decide
   have q7:((7:Int)==7)=true:=by decide
   rw [if_pos aK] at he;subst he
   cases b with
   | true =>
    refine ae ?_;refine aJ (aC 0 10 (.a 10 (.q 11 (.q 12 .nil)))) ?_;refine bg ?_;exact jq
   | false =>
    cases g with
    | true =>
     refine ae ?_;refine aJ (aC 0 10 (.a 10 (.q 11 (.q 12 .nil)))) ?_;refine au ?_;refine bC [] hG ?_;exact ij
    | false =>
     refine ae ?_;refine aJ (aC 0 10 (.a 10 (.q 11 (.q 12 .nil)))) ?_;refine au ?_;refine bC [] hG ?_;refine ae ?_;refine ab [0] QS ?_;exact jq
  rw [if_neg (by rintro (h | h);(· exact h2 h);exact h7 h)] at he
  by_cases h3:kd=3
  ·subst h3
   have q2:((3:Int)==2)=false:=by decide
   have q7:((3:Int)==7)=false:=by decide
   have q3:((3:Int)==3)=true:=by decide
   rw [if_pos aK] at he
   cases b with
   | true =>
    subst he;refine ae ?_;refine aJ (aC 0 8 (.a 8 (.q 9 (.q 10 .nil)))) ?_;refine bg ?_;refine ab [0] H8 ?_;exact jq
   | false =>
    cases hz:decide (z < 0) with
    | true =>
     rw [if_pos (.inr (by simpa using hz))] at he;subst he;refine ae ?_;refine aJ (aC 0 8 (.a 8 (.q 9 (.q 10 .nil)))) ?_;refine au ?_;refine bC [] hA ?_;refine ae ?_;refine ab [0] H8 ?_;exact jq
    | false =>
     rw [if_neg (by rintro (h | h);(· cases h);(· simp at hz;omega))] at he;subst he;refine ae ?_;refine aJ (aC 0 8 (.a 8 (.q 9 (.q 10 .nil)))) ?_;refine au ?_;refine bC [] hA ?_;exact ij
  by_cases h8:kd=8
  ·subst h8
   have q2:((8:Int)==2)=false:=by decide
   have q7:((8:Int)==7)=false:=by decide
   have q3:((8:Int)==3)=false:=by decide
   have q8:((8:Int)==8)=true:=by decide
   rw [if_pos aK] at he
   cases b with
   | true =>
    subst he;refine ae ?_;refine aJ (aC 0 8 (.a 8 (.q 9 (.q 10 .nil)))) ?_;refine bg ?_;refine ab [0] H8 ?_;exact jq
   | false =>
    cases hz:decide (z < 0) with
    | true =>
     rw [if_pos (.inr (by simpa using hz))] at he;subst he;refine ae ?_;refine aJ (aC 0 8 (.a 8 (.q 9 (.q 10 .nil)))) ?_;refine au ?_;refine bC [] hA ?_;refine ae ?_;refine ab [0] H8 ?_;exact jq
    | false =>
     rw [if_neg (by rintro (h | h);(· cases h);(· simp at hz;omega))] at he;subst he;refine ae ?_;refine aJ (aC 0 8 (.a 8 (.q 9 (.q 10 .nil)))) ?_;refine au ?_;refine bC [] hA ?_;exact ij
  rw [if_neg (by rintro (h | h);(· exact h3 h);exact h8 h)] at he
  by_cases h4:kd=4
  ·subst h4
   have q2:((4:Int)==2)=false:=by decide
   have q7:((4:Int)==7)=false:=by decide
   have q3:((4:Int)==3)=false:=by decide
   have q8:((4:Int)==8)=false:=by decide
   have q4:((4:Int)==4)=true:=by decide
   rw [if_pos rfl] at he;subst he;refine ae ?_;refine ab [0,1] hC ?_;exact jq
  rw [if_neg h4] at he;subst he
  have q2:(kd==2)=false:=by simpa using h2
  have q7:(kd==7)=false:=by simpa using h7
  have q3:(kd==3)=false:=by simpa using h3
  have q8:(kd==8)=false:=by simpa using h8
  have q4:(kd==4)=false:=by simpa using h4
  exact ij
 ·rintro _ _ ⟨rfl,rfl⟩;clear he hC QS H8;obtain ⟨c1,d⟩:=P;simp only at cW |-;rw [<-cW] at mw;rw [show cC p (.slice ad c.ls.length cp) c1=cC p (.slice ad c1.ls.length cp) c1 by rw [cW],<-cW];clear hL;refine ae ?_;refine GW.range (aS l).length (fun k fr Γ=>∃ ad cp c2,fr=[.loc 0 0,.U,.U,.loc 2 0,.loc 3 0,.U,.v (.bool d),.U,.U,.U,.U,.U,.U,.U,.U,.U,.U,.U,.U,.U,.U,.U,.U,.U,.U,.U,.U,.U,.U,.U,.U,.U,.U,.U,.U,.U,.U,.U,.U,.U,.U,.U,.U,.U,.U,.U,.U,.U,.U,.U,.U,.U,.U,.U,.U,.U,.U,.U,.U,.U,.U,.U,.U,.U,.sl 6 (aS l),.v (ii ((aS l).length:Int)),.v (ii (k:Nat)),.U,.U,.U,.U,.U,.U,.U,.U,.U,.U,.U,.U,.U,.U,.U,.U,.U,.U,.U,.U,.U,.U,.U,.U,.U,.U,.U,.U,.U,.U,.U,.U,.U,.U,.U,.U,.U,.U,.U,.U,.U,.U,.U]/\Γ=[.box 133 (cC p (.slice ad c2.ls.length cp) c2),.vech 9 1 (cl c2.ls) (.slice ad c2.ls.length cp),.box 94 (cT (.mk n l)),.box 91 (az n)]/\c2=(if d=true then ia p (l.take k) c1 else c1)) ?_ ah ?_ ?_ ?_
  ·exact ⟨_,_,Wk.aD ar,ad,cp,c1,rfl,rfl,by cases d <;> simp [ia]⟩
  ·rintro k _ _ ⟨ad,cp,c2,rfl,rfl,_⟩;exact dO
  ·rintro k _ _ ao ⟨ad,cp,c2,rfl,rfl,jP⟩;rw [eW] at ao;obtain ⟨u,hu⟩:∃ u,l[k]?=some u:=⟨l[k],by simp [ao]⟩;have hr:=cS hu;have cR:=tC hu
   cases d with
   | false =>
    refine ae ?_;exact ⟨rfl,rfl,_,_,(Wk.cut (n:=4) (Nat.le_of_ble_eq_true rfl) rfl).trans (Wk.aD ar),ad,cp,c2,rfl,rfl,jP⟩
   | true =>
    rw [if_pos rfl] at jP;have hlen:=wu p (l.take k) c1;rw [<-jP] at hlen;have hi:=ih u ah c2 ad cp ah;unfold cO at hi;rw [if_pos rfl,Nz p hu,<-jP];refine ae ?_;refine cv [0,1] hi ?_;rintro _ _ ⟨rfl,qe,qg,rfl⟩;refine c8 ?_;refine ae ?_;exact ⟨rfl,rfl,_,_,(Wk.cut (n:=4) (Nat.le_of_ble_eq_true rfl) rfl).trans (Wk.aD ar),qe,qg,_,rfl,rfl,rfl⟩
  ·rintro _ _ ⟨ad,cp,c2,rfl,rfl,jP⟩;rw [eW,take_length] at jP;rw [<-jP]
   have hlen:c2.ls.length<=8388608:=by
    rw [jP];split
    ·have:=wu p l c1;omega
    ·omega
   clear jP ih;refine be ?_;have hL:=jk c2.ls n.s ah;have Q7:=vz c2.ls;have H7:=gW p (.slice ad c2.ls.length cp) c2 21 n.at_;have Xs:=gW p (.slice ad c2.ls.length cp) c2 26 n.at_;have l21:=c2.nQ 21 n.at_;have l26:=c2.nQ 26 n.at_
   cases hv:(n.kind != 13) with
   | true =>
    have e:lM c2 n=c2:=by unfold lM;exact if_pos (by simpa using hv)
    rw [e];refine ae ?_;refine cU ?_;exact ⟨rfl,ad,cp,rfl⟩
   | false =>
    have A8:¬ n.kind≠13:=by simpa using hv
    unfold cC at H7 Xs
    cases hb:c2.ls.contains n.s with
    | true =>
     rw [hb] at hL
     have e:lM c2 n=⟨(c2.fail 21 n.at_).ls++[n.s],(c2.fail 21 n.at_).code,(c2.fail 21 n.at_).at_⟩:=by unfold lM;rw [if_neg A8];exact if_pos hb
     rw [e];generalize c2.fail 21 n.at_=y at *;unfold cC;refine ae ?_;refine aJ (aC 0 6 (.a 6 .nil)) ?_;refine au ?_;refine OA rfl rfl (GL.borrow hL (fun B K β w l hI hF=>gR (A:=[_]) (C:=[_,_]) hI hF rfl rfl) ?_);refine dj ?_;refine bg ?_;refine ab [0] H7 ?_;refine aJ (aC 0 7 (.a 7 (.a 8 (.q 9 (.q 10 (.a 11 .nil)))))) ?_;refine au ?_;refine ey ?_;refine au ?_;refine OA rfl rfl (GL.pD 1 (news:=[[.v (sv n.s)]]) rfl rfl rfl bd rfl rfl (by refine ⟨?_,?_⟩;(· show _+1<=_;omega);(· show (_+1) * _<=_;omega)) ?_);intro sC sG;refine dj ?_;refine bg ?_;refine cU ?_;exact ⟨rfl,sC,sG,by simp [cO,cC,cl,l21]⟩
    | false =>
     rw [hb] at hL
     cases h40:((c2.ls.length:Int)==40) with
     | true =>
      have e:lM c2 n=⟨(c2.fail 26 n.at_).ls++[n.s],(c2.fail 26 n.at_).code,(c2.fail 26 n.at_).at_⟩:=by
       unfold lM;rw [if_neg A8,if_neg (by rw [hb];decide)];exact if_pos (by rw [beq_iff_eq] at h40;omega)
      rw [e];generalize c2.fail 26 n.at_=y at *;unfold cC;refine ae ?_;refine aJ (aC 0 6 (.a 6 .nil)) ?_;refine au ?_;refine OA rfl rfl (GL.borrow hL (fun B K β w l hI hF=>gR (A:=[_]) (C:=[_,_]) hI hF rfl rfl) ?_);refine dj ?_;refine bg ?_;refine ab [0] Xs ?_;refine aJ (aC 0 7 (.a 7 (.a 8 (.q 9 (.q 10 (.a 11 .nil)))))) ?_;refine au ?_;refine ey ?_;refine au ?_;refine OA rfl rfl (GL.pD 1 (news:=[[.v (sv n.s)]]) rfl rfl rfl bd rfl rfl (by refine ⟨?_,?_⟩;(· show _+1<=_;omega);(· show (_+1) * _<=_;omega)) ?_);intro sC sG;refine dj ?_;refine bg ?_;refine cU ?_;exact ⟨rfl,sC,sG,by simp [cO,cC,cl,l26]⟩
     | false =>
      have e:lM c2 n=⟨c2.ls++[n.s],c2.code,c2.at_⟩:=by
       unfold lM;rw [if_neg A8,if_neg (by rw [hb];decide)];exact if_neg (by rw [beq_eq_false_iff_ne] at h40;omega)
      rw [e];unfold cC;refine ae ?_;refine aJ (aC 0 6 (.a 6 .nil)) ?_;refine au ?_;refine OA rfl rfl (GL.borrow hL (fun B K β w l hI hF=>gR (A:=[_]) (C:=[_,_]) hI hF rfl rfl) ?_);refine dj ?_;refine bg ?_;refine aJ (aC 0 7 (.a 7 (.a 8 (.q 9 (.q 10 (.a 11 .nil)))))) ?_;refine au ?_;refine ey ?_;refine au ?_;refine OA rfl rfl (GL.pD 1 (news:=[[.v (sv n.s)]]) rfl rfl rfl bd rfl rfl (by refine ⟨?_,?_⟩;(· show _+1<=_;omega);(· show (_+1) * _<=_;omega)) ?_);intro sC sG;refine dj ?_;refine bg ?_;refine cU ?_;exact ⟨rfl,sC,sG,by simp [cO,cC,cl]⟩
end Go.Xg
namespace Go.Xg
open Go.RowKit Go.Xw Go.Proofs
open Go.Xp (Nd T Ar aR aB)
open Go.Sp (Src)
open Go.Im
attribute [local irreducible] GW GL GO YG GC GA aY ba
theorem B0 (p:Src) (h:Value) (k e:Int):GF Tryz.prog 153 [.loc 0 0,.v (ii e),.v (ii 0)] [.box 133 (cC p h ⟨[],k,0⟩)] (.tup []) [.box 133 (cC p h ⟨[],fM k e,0⟩)]:=by
 have:=gW p h ⟨[],k,0⟩ e 0
 rwa [show (SS.fail ⟨[],k,0⟩ e 0)=⟨[],fM k e,0⟩ by unfold SS.fail fM;by_cases hk:k=0 <;> simp [hk]] at this
theorem Fy (p:Src) (h:Value) (k:Int) (jr:p.arrays.length<=1048576) (cR:∀ a∈p.arrays,0<=a.size/\a.size<=2147483648)
  (rest:(p.arrays.all fun a=>!mb a)=true->GF Tryz.prog 131 [.loc 0 0] [.box 133 (cC p h ⟨[],k,0⟩)] (.tup []) [.box 133 (cC p h ⟨[],qF p k,0⟩)]) :
  GF Tryz.prog 131 [.loc 0 0] [.box 133 (cC p h ⟨[],k,0⟩)] (.tup []) [.box 133 (cC p h ⟨[],qF p k,0⟩)]:=by
 cases tU:(p.arrays.all fun a=>!mb a) with
 | true=>exact rest tU
 | false =>
 have dh:(p.arrays.map aH).length=p.arrays.length:=by simp
 have hb:=ux cR;have xv:=B0 p h k 26
 have EW:p.arrays.any mb=true:=by
  cases h0:p.arrays.any mb with
  | true=>rfl
  | false =>
   rw [any_eq_false] at h0;rw [List.all_eq_false] at tU;obtain ⟨x,hx,h1⟩:=tU;have:=h0 x hx;simp at h1;rw [h1] at this;exact absurd rfl this
 rw [show qF p k=fM k 26 by unfold qF;exact if_pos EW];unfold cC at xv |-;refine aj Tryz.func131 Tryz.ntmps131 ?_;refine GW.range (p.arrays.map aH).length (fun k' fr Γ=>fr=[.loc 0 0,.U,.v (ii (dE (p.arrays.take k'))),.U,.U,.U,.U,.U,.U,.U,.U,.U,.sl 2 (p.arrays.map aH),.v (ii ((p.arrays.map aH).length:Int)),.v (ii (k':Nat)),.U,.U,.U,.U,.U,.U,.U,.U,.U,.U,.U,.U,.U,.U,.U,.U,.U,.U,.U,.U,.U,.U,.U,.U,.U,.U,.U,.U,.U,.U,.U,.U,.U,.U,.U,.U,.U,.U,.U,.U,.U,.U,.U,.U,.U,.U,.U,.U,.U,.U,.U,.U,.U,.U,.U,.U,.U,.U,.U,.U,.U,.U,.U,.U,.U,.U,.U,.U,.U,.U,.U,.U,.U,.U,.U,.U,.U,.U,.U]/\Γ=[.box 133 [strs p.globals,.sl 2 (p.arrays.map aH),.sl 3 (p.fns.map ax),.sl 5 (p.nodes.map az),.v h,.v (ii k),.v (ii 0)]]/\(p.arrays.take k').all (fun a=>!mb a)=true) ?_ ah ?_ ?_ ?_
 ·exact iF
 ·rintro k' _ _ ⟨rfl,rfl,_⟩;exact dO
 ·rintro k' _ _ ao ⟨rfl,rfl,aM⟩;rw [dh] at ao;obtain ⟨x,hx⟩:∃ x,p.arrays[k']?=some x:=⟨p.arrays[k'],by simp [ao]⟩
  have hr:(p.arrays.map aH)[k']?=some (aH x):=by rw [getElem?_map,hx];rfl
  have bh:=jL (f:=mb) hx;have gT:=rU hx;have eo:=hb k';have nC:=cR x (mem_of_getElem? hx);have hd:mb x=(decide (x.size < 1) || decide (8000 < x.size)):=rfl;unfold aH at hr
  cases h1:decide (x.size < 1) with
  | true =>
   refine ae ?_;refine ab [0] xv ?_;exact fX
  | false =>
   cases h2:decide (8000 < x.size) with
   | true =>
    refine ae ?_;refine ab [0] xv ?_;exact fX
   | false =>
    rw [gT];generalize dE (p.arrays.take k')=c at *;refine ae ?_;exact ⟨rfl,rfl,_,_,(Wk.cut (n:=1) (Nat.le_refl _) rfl).trans (Wk.aD ar),rfl,rfl,by rw [bh,aM,hd,h1,h2];rfl⟩
 ·rintro _ _ ⟨rfl,rfl,aM⟩;rw [dh,take_length] at aM;rw [aM] at tU;cases tU
end Go.Xg
namespace Go.Im
open Go.Xp Go.Sp
theorem Sl (k e:Int) (he:e≠0):fM (fM k e) e=fM k e:=by unfold fM;by_cases h:k=0 <;> simp [h,he]
end Go.Im
namespace Go.Xg
open Go.RowKit Go.Xw Go.Proofs
open Go.Xp (Nd T Ar aR aB)
open Go.Sp (Src)
open Go.Im
attribute [local irreducible] GW GL GO YG GC GA aY ba
theorem DS (p:Src) (h:Value) (k:Int) (jr:p.arrays.length<=1048576) (iL:p.fns.length<=1048576) (cR:∀ a∈p.arrays,0<=a.size/\a.size<=2147483648) (tU:(p.arrays.all fun a=>!mb a)=true) :
  GF Tryz.prog 131 [.loc 0 0] [.box 133 (cC p h ⟨[],k,0⟩)] (.tup []) [.box 133 (cC p h ⟨[],qF p k,0⟩)]:=by
 have dh:(p.arrays.map aH).length=p.arrays.length:=by simp
 have jB:(p.fns.map ax).length=p.fns.length:=by simp
 have jR:(p.globals.map fun s=>[GV.v (sv s)]).length=p.globals.length:=by simp
 have hb:=ux cR
 have EW:p.arrays.any mb=false:=by
  rw [any_eq_false];rw [List.all_eq_true] at tU;intro x hx;simpa using tU x hx
 have xv:=B0 p h;unfold cC at xv |-;refine aj Tryz.func131 Tryz.ntmps131 ?_;refine GW.range (p.arrays.map aH).length (fun k' fr Γ=>fr=[.loc 0 0,.U,.v (ii (dE (p.arrays.take k'))),.U,.U,.U,.U,.U,.U,.U,.U,.U,.sl 2 (p.arrays.map aH),.v (ii ((p.arrays.map aH).length:Int)),.v (ii (k':Nat)),.U,.U,.U,.U,.U,.U,.U,.U,.U,.U,.U,.U,.U,.U,.U,.U,.U,.U,.U,.U,.U,.U,.U,.U,.U,.U,.U,.U,.U,.U,.U,.U,.U,.U,.U,.U,.U,.U,.U,.U,.U,.U,.U,.U,.U,.U,.U,.U,.U,.U,.U,.U,.U,.U,.U,.U,.U,.U,.U,.U,.U,.U,.U,.U,.U,.U,.U,.U,.U,.U,.U,.U,.U,.U,.U,.U,.U,.U,.U]/\Γ=[.box 133 [strs p.globals,.sl 2 (p.arrays.map aH),.sl 3 (p.fns.map ax),.sl 5 (p.nodes.map az),.v h,.v (ii k),.v (ii 0)]]) ?_ ah ?_ ?_ ?_
 ·exact jq
 ·rintro k' _ _ ⟨rfl,rfl⟩;exact dO
 ·rintro k' _ _ ao ⟨rfl,rfl⟩;rw [dh] at ao;obtain ⟨x,hx⟩:∃ x,p.arrays[k']?=some x:=⟨p.arrays[k'],by simp [ao]⟩
  have hr:(p.arrays.map aH)[k']?=some (aH x):=by rw [getElem?_map,hx];rfl
  have gT:=rU hx;have eo:=hb k';have nC:=cR x (mem_of_getElem? hx)
  have hd:mb x=false:=by
   rw [any_eq_false] at EW;have:=EW x (mem_of_getElem? hx);simpa using this
  unfold mb at hd;rw [Bool.or_eq_false_iff] at hd;obtain ⟨h1,h2⟩:=hd;have h2:decide (8000 < x.size)=false:=h2;unfold aH at hr;rw [gT];generalize dE (p.arrays.take k')=c at *;refine ae ?_;exact ⟨rfl,rfl,_,_,(Wk.cut (n:=1) (Nat.le_refl _) rfl).trans (Wk.aD ar),rfl,rfl⟩
 ·rintro _ _ ⟨rfl,rfl⟩;rw [dh,take_length];refine be ?_;refine GW.seq ?_;have e1:decide (p.fns.length > 40)=decide ((40:Int) < ((p.fns.map ax).length:Int)):=decide_eq_decide.2 (by rw [jB];omega);have e2:decide (p.globals.length > 29)=decide ((29:Int) < ((p.globals.map fun s=>[GV.v (sv s)]).length:Int)):=decide_eq_decide.2 ah
  have YV:sE p=((decide ((40:Int) < ((p.fns.map ax).length:Int)) || decide ((29:Int) < ((p.globals.map fun s=>[GV.v (sv s)]).length:Int))) || decide ((8000:Int) < dE p.arrays)):=by unfold sE;rw [e1,e2]
  refine GW.join (fun fr Γ=>fr=[.loc 0 0,.U,.U,.U,.U,.U,.U,.U,.U,.U,.U,.U,.U,.U,.U,.U,.U,.U,.U,.U,.U,.U,.U,.U,.U,.U,.U,.U,.U,.U,.U,.U,.U,.U,.U,.U,.U,.U,.U,.U,.U,.U,.U,.U,.U,.U,.U,.U,.U,.U,.U,.U,.U,.U,.U,.U,.U,.U,.U,.U,.U,.U,.U,.U,.U,.U,.U,.U,.U,.U,.U,.U,.U,.U,.U,.U,.U,.U,.U,.U,.U,.U,.U,.U,.U,.U,.U,.U,.U,.U,.U,.U,.U,.U]/\Γ=[.box 133 [strs p.globals,.sl 2 (p.arrays.map aH),.sl 3 (p.fns.map ax),.sl 5 (p.nodes.map az),.v h,.v (ii (if sE p=true then fM k 26 else k)),.v (ii 0)]]) ?_ ?_
  ·rw [YV];have JN:=xv k 26;generalize dE p.arrays=c at *
   cases h1:decide ((40:Int) < ((p.fns.map ax).length:Int))
   all_goals cases h2:decide ((29:Int) < ((p.globals.map fun s=>[GV.v (sv s)]).length:Int))
   all_goals cases h3:decide ((8000:Int) < c)
   all_goals
    refine ae ?_
    first
     | exact jq
     | (refine gQ [0] JN ?_;refine ae ?_;exact ⟨_,_,Wk.aD ar,rfl,rfl⟩)
  ·rintro _ _ ⟨rfl,rfl⟩;generalize rN:(if sE p=true then fM k 26 else k)=k1
   have Wy:∀ j:Nat,∀ x:Go.Sp.Fn,p.fns[j]?=some x->(p.fns.take (j+1)).any (fun f=>decide (f.params.length > 40))=((p.fns.take j).any (fun f=>decide (f.params.length > 40)) || decide (x.params.length > 40)):=fun j x hx=>by
    rw [take_add_one,hx,List.any_append];simp
   refine ae ?_;refine GW.range (p.fns.map ax).length (fun j fr Γ=>∃ kk,fr=[.loc 0 0,.U,.U,.U,.U,.U,.U,.U,.U,.U,.U,.U,.U,.U,.U,.U,.U,.U,.U,.U,.U,.U,.U,.U,.U,.U,.U,.U,.U,.U,.U,.U,.U,.U,.U,.U,.U,.U,.U,.U,.U,.U,.U,.U,.U,.U,.U,.U,.U,.U,.U,.U,.U,.U,.U,.U,.U,.U,.U,.sl 3 (p.fns.map ax),.v (ii ((p.fns.map ax).length:Int)),.v (ii (j:Nat)),.U,.U,.U,.U,.U,.U,.U,.U,.U,.U,.U,.U,.U,.U,.U,.U,.U,.U,.U,.U,.U,.U,.U,.U,.U,.U,.U,.U,.U,.U,.U,.U]/\Γ=[.box 133 [strs p.globals,.sl 2 (p.arrays.map aH),.sl 3 (p.fns.map ax),.sl 5 (p.nodes.map az),.v h,.v (ii kk),.v (ii 0)]]/\kk=(if (p.fns.take j).any (fun f=>decide (f.params.length > 40))=true then fM k1 26 else k1)) ?_ ah ?_ ?_ ?_
   ·exact ⟨_,_,Wk.aD ar,k1,rfl,rfl,by simp⟩
   ·rintro j _ _ ⟨kk,rfl,rfl,_⟩;exact dO
   ·rintro j _ _ ao ⟨kk,rfl,rfl,lB⟩;rw [jB] at ao;obtain ⟨x,hx⟩:∃ x,p.fns[j]?=some x:=⟨p.fns[j],by simp [ao]⟩
    have hr:(p.fns.map ax)[j]?=some (ax x):=by rw [getElem?_map,hx];rfl
    have cW:(x.params.map fun s=>[GV.v (sv s)]).length=x.params.length:=by simp
    have mx:=Wy j x hx;have hd:decide (x.params.length > 40)=decide ((40:Int) < ((x.params.map fun s=>[GV.v (sv s)]).length:Int)):=decide_eq_decide.2 ah;have JN:=xv kk 26;rw [mx,hd];unfold ax at hr
    cases h1:decide ((40:Int) < ((x.params.map fun s=>[GV.v (sv s)]).length:Int)) with
    | true =>
     have e:fM kk 26=fM k1 26:=by rw [lB];split;(· exact Sl _ _ aK);rfl
     rw [e] at JN;refine ae ?_;refine ab [0] JN ?_;exact ⟨rfl,rfl,_,_,(Wk.cut (n:=1) (Nat.le_refl _) rfl).trans (Wk.aD ar),_,rfl,rfl,by simp⟩
    | false =>
     refine ae ?_;exact ⟨rfl,rfl,_,_,(Wk.cut (n:=1) (Nat.le_refl _) rfl).trans (Wk.aD ar),kk,rfl,rfl,by rw [lB,Bool.or_false]⟩
   ·rintro _ _ ⟨kk,rfl,rfl,lB⟩;rw [jB,take_length] at lB
    have hs:qF p k=(if jI p=true then fM kk 25 else kk):=by
     unfold qF;rw [if_neg (by rw [EW];decide),rN,<-lB]
    rw [hs];refine be ?_;have Uf:=xv kk 25;have hM:=B7 p vf ah;unfold bM at hM;clear hs lB rN
    cases hx:p.fns.findIdx? (fun f:Go.Sp.Fn=>f.name==vf) with
    | none =>
     rw [hx] at hM
     have hd:decide ((-1:Int) < 0)=true:=by decide
     simp only at hM;rw [show (if jI p=true then fM kk 25 else kk)=fM kk 25 from if_pos (by unfold jI;rw [hx])];refine ae ?_;refine ab [] hM ?_;refine ab [0] Uf ?_;exact fX
    | some i =>
     rw [hx] at hM;have hi:i < p.fns.length:=(List.findIdx?_eq_some_iff_getElem.1 hx).1;obtain ⟨f,hf⟩:∃ f,p.fns[i]?=some f:=⟨p.fns[i],by simp [hi]⟩
     have hr:(p.fns.map ax)[i]?=some (ax f):=by rw [getElem?_map,hf];rfl
     have cW:(f.params.map fun s=>[GV.v (sv s)]).length=f.params.length:=by simp
     have hd:decide (((i:Nat):Int) < 0)=false:=by simp
     have kF:decide (lE p i > 0)=decide ((0:Int) < ((f.params.map fun s=>[GV.v (sv s)]).length:Int)):=by
      unfold lE;rw [hf];exact decide_eq_decide.2 (by simp only;omega)
     simp only at hM
     have qi:jI p=decide (lE p i > 0):=by unfold jI;rw [hx]
     rw [kF] at qi;unfold ax at hr
     cases h1:decide ((0:Int) < ((f.params.map fun s=>[GV.v (sv s)]).length:Int)) with
     | true =>
      rw [show (if jI p=true then fM kk 25 else kk)=fM kk 25 from if_pos (by rw [qi,h1])];refine ae ?_;refine ab [] hM ?_;refine ab [0] Uf ?_;exact fX
     | false =>
      rw [show (if jI p=true then fM kk 25 else kk)=kk from if_neg (by rw [qi,h1];decide)];refine ae ?_;refine ab [] hM ?_;exact fX
end Go.Xg
namespace Go.Im
open Go.Xp Go.Sp
theorem O3 (p:Src) (l:List T) (c:SS):nu p [] l c=c:=by unfold nu;rfl
end Go.Im
namespace Go.Xg
open Go.RowKit Go.Xw Go.Proofs
open Go.Xp (Nd T Ar aR aB)
open Go.Sp (Src)
open Go.Im
attribute [local irreducible] GW GL GO YG GC GA aY ba
theorem Lc (p:Src) (hF:GF Tryz.prog 129 [.agg (ay p)] [] (.v (.bool false)) []):GF Tryz.prog 97 [.agg (ay p)] [] (.tup [.v (ii 20),.v (ii 0)]) []:=by
 refine aj Tryz.func97 Tryz.ntmps97 ?_;refine ab [] hF ?_;exact mg
theorem Jj (p:Src) (l:List T) (c1 c2:SS) (jB:p.fns.length=l.length) (iL:p.fns.length<=1048576) (jr:p.arrays.length<=1099511627776) (jR:p.globals.length<=1099511627776)
  (xJ:∀ f∈p.fns,f.params.length<=1048576) (cR:∀ t∈l,aR t<=1048576)
  (hF:GF Tryz.prog 129 [.agg (ay p)] [] (.v (.bool true)) [])
  (hN:GF Tryz.prog 130 [.loc 0 0] [.box 133 (cC p (.slice none 0 0) ⟨[],0,0⟩)] (.tup []) [.box 133 (cC p (.slice none 0 0) c1)])
  (hS:GF Tryz.prog 131 [.loc 0 0] [.box 133 (cC p (.slice none 0 0) c1)] (.tup []) [.box 133 (cC p (.slice none 0 0) c2)])
  (pN:∀ (i:Nat) (f:Go.Sp.Fn) (t:T),p.fns[i]?=some f->l[i]?=some t->GF Tryz.prog 99 [.agg (ay p),.v (ii f.body)] [] (.agg (cT t)) []) :
  GF Tryz.prog 97 [.agg (ay p)] [] (.tup [.v (ii (nu p p.fns l c2).code),.v (ii (nu p p.fns l c2).at_)]) []:=by
 have pK:(p.fns.map ax).length=p.fns.length:=by simp
 unfold cC at hN hS;refine aj Tryz.func97 Tryz.ntmps97 ?_;refine ab [] hF ?_;refine ab [1] hN ?_;refine ab [1] hS ?_;refine GW.range (p.fns.map ax).length (fun k fr Γ=>∃ h c,fr=[.U,.loc 0 0,.U,.U,.loc 1 0,.U,.U,.U,.U,.U,.U,.U,.U,.U,.U,.U,.U,.U,.sl 3 (p.fns.map ax),.v (ii ((p.fns.map ax).length:Int)),.v (ii (k:Nat)),.U,.U,.U,.U,.U,.U,.U,.U,.U,.U,.U,.U,.U,.U,.U,.U,.U,.U,.U,.U,.U,.U,.U,.U,.U,.U]/\Γ=[.box 34 (ay p),.box 133 (cC p h c)]/\nu p p.fns l c2=nu p (p.fns.drop k) (l.drop k) c) ?_ ah ?_ ?_ ?_
 ·exact ⟨_,_,Wk.aD ar,_,c2,rfl,rfl,rfl⟩
 ·rintro k _ _ ⟨h,c,rfl,rfl,_⟩;exact dO
 ·rintro k _ _ ao ⟨h,c,rfl,rfl,he⟩;rw [pK] at ao;obtain ⟨f,hf⟩:∃ f,p.fns[k]?=some f:=⟨p.fns[k],by simp [ao]⟩;obtain ⟨t,ht⟩:∃ t,l[k]?=some t:=⟨l[k]'ah,getElem?_eq_getElem _⟩
  have hr:(p.fns.map ax)[k]?=some (ax f):=by rw [getElem?_map,hf];rfl
  have MH:p.fns.drop k=f::p.fns.drop (k+1):=by rw [List.drop_eq_getElem_cons ao];rw [getElem?_eq_getElem ao] at hf;rw [Option.some.inj hf]
  have dr:l.drop k=t::l.drop (k+1):=by rw [List.drop_eq_getElem_cons ah];rw [getElem?_eq_getElem ah] at ht;rw [Option.some.inj ht]
  have hp:=xJ f (mem_of_getElem? hf);have hz:=cR t (mem_of_getElem? ht);have UR:=pN k f t hf ht;have hP:=He p h c f hp;rw [MH,dr,nu] at he
  cases hc:(c.code==0) with
  | false =>
   rw [if_neg (by simpa using hc)] at he;unfold cC ax at *;refine ae ?_;exact ⟨rfl,rfl,_,_,(Wk.cut (n:=2) (Nat.zero_le _) rfl).trans (Wk.aD ar),h,c,rfl,rfl,he⟩
  | true =>
   rw [if_pos (by simpa using hc)] at he
   have XA:=fun ad cp=>Ng p jr ah jR _ t (Nat.le_refl _) (pU f c) ad cp (by show f.params.length+_<=_;omega)
   rw [he];generalize nk p t (pU f c)=c3 at *;unfold cO at XA;unfold ax at hr hP;rw [show cC p h c=[strs p.globals,.sl 2 (p.arrays.map aH),.sl 3 (p.fns.map ax),.sl 5 (p.nodes.map az),.v h,.v (ii c.code),.v (ii c.at_)] from rfl] at *;refine ae ?_;refine cv [1] hP ?_;rintro _ _ ⟨rfl,ad,cp,rfl⟩;refine c8 ?_;refine ae ?_;refine ab [] UR ?_;refine cv [1,3] (XA ad cp) ?_;rintro _ _ ⟨rfl,qe,qg,rfl⟩;refine c8 ?_;refine ae ?_;exact ⟨rfl,rfl,_,_,(Wk.cut (n:=2) (Nat.zero_le _) rfl).trans (Wk.aD ar),_,c3,rfl,rfl,rfl⟩
 ·rintro _ _ ⟨h,c,rfl,rfl,he⟩;rw [pK,List.drop_length,O3] at he;rw [he];unfold cC;refine be ?_;refine ae ?_;refine aJ (aC 0 10 .nil) ?_;refine au ?_;exact qJ
end Go.Xg
namespace Go.Xg
open Go.RowKit Go.Xw Go.Proofs
open Go.Xp (Nd T Ar aR aB bR)
open Go.Sp (Src)
open Go.Im
attribute [local irreducible] GW GL GO YG GC GA aY ba
end Go.Xg
namespace Go.Xg
open Go.RowKit Go.Xw Go.Proofs
section
variable {P:Program} {m:Nat} {ops:Array Oper} {Q:dP} {rest:List Oper} {fr:List GV} {Γ:List Ob}
theorem Od {o:Oper} {a:Act} {next next':Act->World->Prop} {Q Q':Exit->Act->World->Prop} (hn:∀ a w,next a w->next' a w) (hq:∀ e a w,Q e a w->Q' e a w):∀ r,o.upon P a next Q r->o.upon P a next' Q' r:=by
 have hl:LetsOut Q->LetsOut Q':=fun ⟨a,w,h⟩=>⟨a,w,hq _ _ _ h⟩
 intro r h;unfold Oper.upon at h |-;split at h
 ·exact hn _ _ h
 ·exact hn _ _ h
 ·exact hn _ _ h
 ·refine Calls.mono h fun e w' he=>?_
  cases e with
  | returned v=>exact hn _ _ he
  | panicked ch=>exact hq _ _ _ he
  | outgrown=>exact hl he
 ·exact Rows.mono h fun v w' hv=>hn _ _ hv
 ·exact hq _ _ _ h
 ·exact h
theorem zA {Q Q':Exit->Act->World->Prop} (hq:∀ e a w,Q e a w->Q' e a w):∀ (l:List Oper) (a:Act) (w:World),wpList P ops Q l a w->wpList P ops Q' l a w
 | [],a,w,h=>hq _ _ _ h
 | o::l,a,w,h=>by
  have ih:=zA hq l;unfold wpList at h |-;split at h
  ·rename_i hw;rw [if_pos hw]
   rcases h with h | ⟨h1,h2⟩
   ·exact .inl (Od ih hq _ h)
   ·exact .inr ⟨h1,by obtain ⟨a,w,h⟩:=h2;exact ⟨a,w,hq _ _ _ h⟩⟩
  ·rename_i hw;rw [if_neg hw];exact ih _ _ h
theorem GL.mono {Q':dP} (h:GL P m ops Q rest fr Γ) (hq:∀ e fr Γ,Q e fr Γ->Q' e fr Γ):GL P m ops Q' rest fr Γ:=fun B K β w l hm hI hF =>
 zA (fun e a w ⟨l,ha,K,β,fr,Γ,hI,hF,q⟩=>⟨l,ha,K,β,fr,Γ,hI,hF,hq _ _ _ q⟩) _ _ _ (h B K β w l hm hI hF)
theorem GL.WG {z y:Code} (K:List GV->List Ob->Prop) (h1:GL P m ops (aY (GW P m z (aY (yU m K) Q)) Q) rest fr Γ) (h2:∀ fr Γ,K fr Γ->GW P m y Q fr Γ):GL P m ops (aY (GW P m z (aY (GW P m y Q) Q)) (aY (GW P m y Q) Q)) rest fr Γ:=by
 refine h1.mono fun e fr Γ hq=>?_
 cases e with
 | normal=>exact GW.join K hq h2
 | _=>exact hq
theorem GL.sQ {t i n E k:Nat} {rows:List (List GV)} (ht:cH fr t=.vec i n) (gV:jE fr t=true) (bB:Γ[i]?=some (.vec E k 0 rows)) (hn:rows.length=n)
  (h:∀ a c,GL P m ops Q rest (bx fr t (.v (.slice a n c))) (oset Γ i (.vech E k rows (.slice a n c)))):GL P m ops Q rest fr Γ:=fun B K β w l hm hI hF=>by
 subst hn;obtain ⟨a,c,hb,bj⟩:=hI.sQ bB
 have hv:nth l t=.slice a rows.length c:=by
  have:=hF.nth t;rw [ht] at this;generalize nth l t=x at this
  cases this with
  | vec i n a' c' h =>
   obtain ⟨h0,m0,e1,_,e3⟩:=h;rw [hb] at e1;cases e1;exact e3 rfl
 have:=hF.eS t (Rel.v (K:=K) (β:=β) (.slice a rows.length c));rw [<-hv,An (mz hF gV),hv] at this;exact h a c B K β w l hm bj this
end
end Go.Xg
namespace Go.Im
open Go.Xp Go.Sp
def Ix (x y:Int):Bool:=decide (x<=y)
structure ZP (d:Array Int) (m:Nat):Prop where
 rise:gD (Go.Lib.compactUpTo d m)
 le:∀ x∈Go.Lib.compactUpTo d m,0 < m/\x<=d[m - 1]!
 mem:∀ x,x∈Go.Lib.compactUpTo d m↔∃ i,i < m/\d[i]! = x
 len:(Go.Lib.compactUpTo d m).length<=m
theorem Sb {d:Array Int} {n:Nat} (hs:∀ i,i+1 < n->d[i]! <= d[i+1]!):∀ m,m<=n->ZP d m:=by
 intro m
 induction m with
 | zero=>intro _;exact ⟨List.Pairwise.nil,fun x hx=>(by cases hx),fun x=>(by simp [Go.Lib.compactUpTo]),Nat.le_refl _⟩
 | succ m ih =>
  intro hm;obtain ⟨h1,h2,h3,h4⟩:=ih (by omega);have e:=Go.Lib.compactUpTo_succ d m
  by_cases hk:Go.Lib.keeps d m=true
  ·rw [if_pos hk] at e
   have ao:∀ x∈Go.Lib.compactUpTo d m,x < d[m]! := fun x hx=>by
    obtain ⟨h5,h6⟩:=h2 x hx;have h7:=hs (m - 1) (by omega);rw [Nat.sub_add_cancel h5] at h7
    have:d[m]! ≠ d[m - 1]! := by
     unfold Go.Lib.keeps at hk;simp only [decide_eq_true_eq] at hk
     rcases hk with h | h
     ·omega
     ·exact h
    omega
   refine ⟨?_,fun x hx=>?_,fun x=>?_,?_⟩
   ·rw [e];unfold gD at *;rw [List.pairwise_append];exact ⟨h1,by simp,fun a ha b hb=>by rw [mem_singleton] at hb;rw [hb];exact ao a ha⟩
   ·rw [e,List.mem_append,mem_singleton] at hx;rw [Nat.add_sub_cancel]
    rcases hx with h | h
    ·have:=ao x h;omega
    ·omega
   ·rw [e,List.mem_append,mem_singleton,h3];constructor
    ·rintro (⟨i,hi,hx⟩ | hx)
     ·exact ⟨i,by omega,hx⟩
     ·exact ⟨m,by omega,hx.symm⟩
    ·rintro ⟨i,hi,hx⟩
     by_cases him:i=m
     ·subst him;exact .inr hx.symm
     ·exact .inl ⟨i,by omega,hx⟩
   ·rw [e,length_append];simp;omega
  ·rw [if_neg hk,append_nil] at e
   have Q8:0 < m:=by
    rcases Nat.eq_zero_or_pos m with h | h
    ·subst h;exact absurd (by simp [Go.Lib.keeps]) hk
    ·exact h
   have heq:d[m]! = d[m - 1]! := by
    unfold Go.Lib.keeps at hk;simp only [decide_eq_true_eq,not_or] at hk;exact Decidable.not_not.1 hk.2
   refine ⟨by rw [e];exact h1,fun x hx=>?_,fun x=>?_,by rw [e];omega⟩
   ·rw [e] at hx;rw [Nat.add_sub_cancel,heq];exact ⟨by omega,(h2 x hx).2⟩
   ·rw [e,h3];constructor
    ·rintro ⟨i,hi,hx⟩;exact ⟨i,by omega,hx⟩
    ·rintro ⟨i,hi,hx⟩
     by_cases him:i=m
     ·subst him;exact ⟨i - 1,by omega,by rw [<-heq];exact hx⟩
     ·exact ⟨i,by omega,hx⟩
def fC (l:List Int):List Int:=l.mergeSort Ix
theorem DH (l:List Int):(fC l).Perm l:=List.mergeSort_perm l Ix
theorem ma (l:List Int):(fC l).length=l.length:=(DH l).length_eq
theorem tA {l:List Int} {x:Int}:x∈fC l↔x∈l:=(DH l).mem_iff
theorem Ht (l:List Int):(fC l).Pairwise (·<=·):=by
 have:=List.pairwise_mergeSort (le:=Ix) (fun a b c h1 h2=>by unfold Ix at *;simp at *;omega) (fun a b=>by unfold Ix;simp;omega) l
 exact this.imp fun {a b} h=>by unfold Ix at h;simpa using h
theorem TH (l:List Int):Go.Lib.compact (fC l)=oM l/\(Go.Lib.compact (fC l)).length<=(fC l).length:=by
 have hs:=Ht l
 have hg:∀ i,i < (fC l).length->∃ x,(fC l)[i]?=some x/\(fC l).toArray[i]! = x:=fun i hi=>⟨(fC l)[i],getElem?_eq_getElem _,by simp [getElem!_pos,hi]⟩
 have h:=Sb (d:=(fC l).toArray) (n:=(fC l).length) (fun i hi=>by
  rw [List.pairwise_iff_getElem] at hs;have:=hs i (i+1) (by omega) hi (by omega)
  simpa [getElem!_pos,hi,show i < (fC l).length by omega] using this) _ (Nat.le_refl _)
 refine ⟨Bn h.rise (rI l) fun x=>?_,h.len⟩;unfold Go.Lib.compact;rw [h.mem,wC];constructor
 ·rintro ⟨i,hi,hx⟩;obtain ⟨y,hy,he⟩:=hg i hi;rw [he] at hx;subst hx;exact tA.1 (mem_of_getElem? hy)
 ·intro hx;obtain ⟨i,hi⟩:=getElem?_of_mem (tA.2 hx);have ao:=(List.getElem?_eq_some_iff.1 hi).1;obtain ⟨y,hy,he⟩:=hg i ao;rw [hi] at hy;cases hy;exact ⟨i,ao,he⟩
end Go.Im
