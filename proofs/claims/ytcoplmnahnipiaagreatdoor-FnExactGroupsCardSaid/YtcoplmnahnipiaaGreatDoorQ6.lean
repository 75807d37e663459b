/- Part 6 of proofs that are told in their last texts. -/
import Derived.Test.YtcoplmnahnipiaaGreatDoorQ2
import Derived.Test.YtcoplmnahnipiaaGreatDoorQ5
import Derived.Test.YtcoplmnahnipiaaGreatDoorQ3
import Derived.Lib.SlicesCompact
open List (any_eq_false append_nil cons_append getElem?_eq_getElem getElem?_map getElem?_of_mem getElem?_set length_append length_map length_take length_zipWith map_take mem_of_getElem? mem_singleton nil_append take_add_one take_length)
set_option linter.unusedVariables false
set_option linter.unusedSimpArgs false
set_option maxRecDepth 100000
set_option maxHeartbeats 2000000
namespace Go.Xg
open Go.RowKit Go.Xw Go.Proofs
open Go.Xp (Nd Ar)
open Go.Sp (Src)
open Go.Im (wS eh be nL si gk dH nK kG nJ)
open Go.Im (kT kR kQ)
attribute [local irreducible] GW GL GO YG GC GA aU aZ
theorem Qt (l:List Int) (hl:l.length<=1048576):GF Tryz.prog 135 [ints l] [] (ints l) []:=by
 have hm:(l.map (fun i=>[GV.v (ii i)])).length=l.length:=by simp
 refine ai Tryz.func135 Tryz.ntmps135 ?_;refine GL.zt rfl ⟨by omega,by omega⟩ ?_;intro a c;refine bI ?_;refine ae ?_;refine GW.loop (fun k:Nat=>l.length - k) (fun k fr Γ=>∃ R Z,fr=[ints l,.U,.U,.v (.slice a (l.map (fun i=>[GV.v (ii i)])).length c),.v (ii (k:Nat)),.U,.U,.U,.U,.U,.U,.U,.U,.U,.U,.U,.U,.U,.U,.U,.U,.U]/\Γ=[.vech 3 1 R (.slice a (l.map (fun i=>[GV.v (ii i)])).length c)]/\k<=l.length/\R=(l.take k).map (fun i=>[GV.v (ii i)])++List.replicate (l.length - k) Z) 0 ?_ ?_
 ·exact ⟨_,_,Wk.aC aq,_,_,rfl,rfl,Nat.zero_le _,by rw [hm];rfl⟩
 rintro k _ _ ⟨R,Z,rfl,rfl,hk,hR⟩
 have nA:R.length=l.length:=by rw [hR];exact kR hk
 have eE:R.length=(l.map (fun i=>[GV.v (ii i)])).length:=by rw [hm];exact nA
 by_cases ak:k < l.length
 ·have hx:l[k]?=some l[k]:=by simp [ak]
  have hr:(l.map (fun i=>[GV.v (ii i)]))[k]?=some ([GV.v (ii l[k])]):=by rw [getElem?_map,hx];rfl
  have dd:decide ((k:Int) < ((l.map (fun i=>[GV.v (ii i)])).length:Int))=true:=by rw [hm];simpa using ak
  have bU:=kT (f:=(fun i=>[GV.v (ii i)])) (Z:=Z) hx;rw [<-hR] at bU;clear hR;generalize l[k]=x at *;refine ae ?_;refine jH ?_;refine ae ?_;exact ⟨k+1,⟨_,_,Wk.aC aq,_,Z,rfl,rfl,ak,bU⟩,by show l.length - (k+1) < l.length - k;omega⟩
 ·have dd:decide ((k:Int) < ((l.map (fun i=>[GV.v (ii i)])).length:Int))=false:=by rw [hm];simpa using ak
  have lz:k=l.length:=by omega
  subst lz;rw [kQ] at hR;subst hR;refine bH ?_;refine GW.wk (by apply Wk.rm (t:=3) (i:=0) <;> rfl) ?_;simp only [oset,bs];exact av
theorem zB (l:List ah) (hl:l.length<=1048576):GF Tryz.prog 41 [strs l] [] (strs l) []:=by
 have hm:(l.map (fun s=>[GV.v (sv s)])).length=l.length:=by simp
 refine ai Tryz.func41 Tryz.ntmps41 ?_;refine GL.zt rfl ⟨by omega,by omega⟩ ?_;intro a c;refine bI ?_;refine ae ?_;refine GW.loop (fun k:Nat=>l.length - k) (fun k fr Γ=>∃ R Z,fr=[strs l,.U,.U,.v (.slice a (l.map (fun s=>[GV.v (sv s)])).length c),.v (ii (k:Nat)),.U,.U,.U,.U,.U,.U,.U,.U,.U,.U,.U,.U,.U,.U,.U,.U,.U]/\Γ=[.vech 9 1 R (.slice a (l.map (fun s=>[GV.v (sv s)])).length c)]/\k<=l.length/\R=(l.take k).map (fun s=>[GV.v (sv s)])++List.replicate (l.length - k) Z) 0 ?_ ?_
 ·exact ⟨_,_,Wk.aC aq,_,_,rfl,rfl,Nat.zero_le _,by rw [hm];rfl⟩
 rintro k _ _ ⟨R,Z,rfl,rfl,hk,hR⟩
 have nA:R.length=l.length:=by rw [hR];exact kR hk
 have eE:R.length=(l.map (fun s=>[GV.v (sv s)])).length:=by rw [hm];exact nA
 by_cases ak:k < l.length
 ·have hx:l[k]?=some l[k]:=by simp [ak]
  have hr:(l.map (fun s=>[GV.v (sv s)]))[k]?=some ([GV.v (sv l[k])]):=by rw [getElem?_map,hx];rfl
  have dd:decide ((k:Int) < ((l.map (fun s=>[GV.v (sv s)])).length:Int))=true:=by rw [hm];simpa using ak
  have bU:=kT (f:=(fun s=>[GV.v (sv s)])) (Z:=Z) hx;rw [<-hR] at bU;clear hR;generalize l[k]=x at *;refine ae ?_;refine jH ?_;refine ae ?_;exact ⟨k+1,⟨_,_,Wk.aC aq,_,Z,rfl,rfl,ak,bU⟩,by show l.length - (k+1) < l.length - k;omega⟩
 ·have dd:decide ((k:Int) < ((l.map (fun s=>[GV.v (sv s)])).length:Int))=false:=by rw [hm];simpa using ak
  have lz:k=l.length:=by omega
  subst lz;rw [kQ] at hR;subst hR;refine bH ?_;refine GW.wk (by apply Wk.rm (t:=3) (i:=0) <;> rfl) ?_;simp only [oset,bs];exact av
theorem DL (x:Ar):GF Tryz.prog 100 [.agg (aD x)] [] (.agg (aD x)) []:=by
 refine ai Tryz.func100 Tryz.ntmps100 ?_;exact dm
theorem KY (l:List Ar) (hl:l.length<=1048576):GF Tryz.prog 42 [.sl 2 (l.map aD)] [] (.sl 2 (l.map aD)) []:=by
 have hm:(l.map aD).length=l.length:=by simp
 refine ai Tryz.func42 Tryz.ntmps42 ?_;refine GL.zt rfl ⟨by omega,by omega⟩ ?_;intro a c;refine bI ?_;refine ae ?_;refine GW.loop (fun k:Nat=>l.length - k) (fun k fr Γ=>∃ R Z,fr=[.sl 2 (l.map aD),.U,.U,.v (.slice a (l.map aD).length c),.v (ii (k:Nat)),.U,.U,.U,.U,.U,.U,.U,.U,.U,.U,.U,.U,.U,.U,.U,.U,.U,.U]/\Γ=[.vech 88 2 R (.slice a (l.map aD).length c)]/\k<=l.length/\R=(l.take k).map aD++List.replicate (l.length - k) Z) 0 ?_ ?_
 ·exact ⟨_,_,Wk.aC aq,_,_,rfl,rfl,Nat.zero_le _,by rw [hm];rfl⟩
 rintro k _ _ ⟨R,Z,rfl,rfl,hk,hR⟩
 have nA:R.length=l.length:=by rw [hR];exact kR hk
 have eE:R.length=(l.map aD).length:=by rw [hm];exact nA
 by_cases ak:k < l.length
 ·have hx:l[k]?=some l[k]:=by simp [ak]
  have hr:(l.map aD)[k]?=some (aD l[k]):=by rw [getElem?_map,hx];rfl
  have dd:decide ((k:Int) < ((l.map aD).length:Int))=true:=by rw [hm];simpa using ak
  have bU:=kT (f:=aD) (Z:=Z) hx;rw [<-hR] at bU;have hc:=DL l[k];clear hR;generalize l[k]=x at *;refine ae ?_;refine ab [] hc ?_;refine jH ?_;refine ae ?_;exact ⟨k+1,⟨_,_,Wk.aC aq,_,Z,rfl,rfl,ak,bU⟩,by show l.length - (k+1) < l.length - k;omega⟩
 ·have dd:decide ((k:Int) < ((l.map aD).length:Int))=false:=by rw [hm];simpa using ak
  have lz:k=l.length:=by omega
  subst lz;rw [kQ] at hR;subst hR;refine bH ?_;refine GW.wk (by apply Wk.rm (t:=3) (i:=0) <;> rfl) ?_;simp only [oset,bs];exact av
theorem VY (x:Go.Sp.Fn) (hp:x.params.length<=1048576):GF Tryz.prog 101 [.agg (aw x)] [] (.agg (aw x)) []:=by
 have h0:=zB x.params hp;refine ai Tryz.func101 Tryz.ntmps101 ?_;refine ab [] h0 ?_;exact dm
theorem Tq (l:List Go.Sp.Fn) (hl:l.length<=1048576) (he:∀ x∈l,x.params.length<=1048576):GF Tryz.prog 43 [.sl 3 (l.map aw)] [] (.sl 3 (l.map aw)) []:=by
 have hm:(l.map aw).length=l.length:=by simp
 refine ai Tryz.func43 Tryz.ntmps43 ?_;refine GL.zt rfl ⟨by omega,by omega⟩ ?_;intro a c;refine bI ?_;refine ae ?_;refine GW.loop (fun k:Nat=>l.length - k) (fun k fr Γ=>∃ R Z,fr=[.sl 3 (l.map aw),.U,.U,.v (.slice a (l.map aw).length c),.v (ii (k:Nat)),.U,.U,.U,.U,.U,.U,.U,.U,.U,.U,.U,.U,.U,.U,.U,.U,.U,.U]/\Γ=[.vech 60 3 R (.slice a (l.map aw).length c)]/\k<=l.length/\R=(l.take k).map aw++List.replicate (l.length - k) Z) 0 ?_ ?_
 ·exact ⟨_,_,Wk.aC aq,_,_,rfl,rfl,Nat.zero_le _,by rw [hm];rfl⟩
 rintro k _ _ ⟨R,Z,rfl,rfl,hk,hR⟩
 have nA:R.length=l.length:=by rw [hR];exact kR hk
 have eE:R.length=(l.map aw).length:=by rw [hm];exact nA
 by_cases ak:k < l.length
 ·have hx:l[k]?=some l[k]:=by simp [ak]
  have hr:(l.map aw)[k]?=some (aw l[k]):=by rw [getElem?_map,hx];rfl
  have dd:decide ((k:Int) < ((l.map aw).length:Int))=true:=by rw [hm];simpa using ak
  have bU:=kT (f:=aw) (Z:=Z) hx;rw [<-hR] at bU;have hex:=he _ (mem_of_getElem? hx);have hc:=VY l[k] hex;clear hR;generalize l[k]=x at *;refine ae ?_;refine ab [] hc ?_;refine jH ?_;refine ae ?_;exact ⟨k+1,⟨_,_,Wk.aC aq,_,Z,rfl,rfl,ak,bU⟩,by show l.length - (k+1) < l.length - k;omega⟩
 ·have dd:decide ((k:Int) < ((l.map aw).length:Int))=false:=by rw [hm];simpa using ak
  have lz:k=l.length:=by omega
  subst lz;rw [kQ] at hR;subst hR;refine bH ?_;refine GW.wk (by apply Wk.rm (t:=3) (i:=0) <;> rfl) ?_;simp only [oset,bs];exact av
theorem Qv (x:Nd) (hp:x.kids.length<=1048576):GF Tryz.prog 102 [.agg (ay x)] [] (.agg (ay x)) []:=by
 have h0:=Qt x.kids hp;refine ai Tryz.func102 Tryz.ntmps102 ?_;refine ab [] h0 ?_;exact dm
theorem N9 (l:List Nd) (hl:l.length<=1048576) (he:∀ x∈l,x.kids.length<=1048576):GF Tryz.prog 44 [.sl 5 (l.map ay)] [] (.sl 5 (l.map ay)) []:=by
 have hm:(l.map ay).length=l.length:=by simp
 refine ai Tryz.func44 Tryz.ntmps44 ?_;refine GL.zt rfl ⟨by omega,by omega⟩ ?_;intro a c;refine bI ?_;refine ae ?_;refine GW.loop (fun k:Nat=>l.length - k) (fun k fr Γ=>∃ R Z,fr=[.sl 5 (l.map ay),.U,.U,.v (.slice a (l.map ay).length c),.v (ii (k:Nat)),.U,.U,.U,.U,.U,.U,.U,.U,.U,.U,.U,.U,.U,.U,.U,.U,.U,.U]/\Γ=[.vech 91 5 R (.slice a (l.map ay).length c)]/\k<=l.length/\R=(l.take k).map ay++List.replicate (l.length - k) Z) 0 ?_ ?_
 ·exact ⟨_,_,Wk.aC aq,_,_,rfl,rfl,Nat.zero_le _,by rw [hm];rfl⟩
 rintro k _ _ ⟨R,Z,rfl,rfl,hk,hR⟩
 have nA:R.length=l.length:=by rw [hR];exact kR hk
 have eE:R.length=(l.map ay).length:=by rw [hm];exact nA
 by_cases ak:k < l.length
 ·have hx:l[k]?=some l[k]:=by simp [ak]
  have hr:(l.map ay)[k]?=some (ay l[k]):=by rw [getElem?_map,hx];rfl
  have dd:decide ((k:Int) < ((l.map ay).length:Int))=true:=by rw [hm];simpa using ak
  have bU:=kT (f:=ay) (Z:=Z) hx;rw [<-hR] at bU;have hex:=he _ (mem_of_getElem? hx);have hc:=Qv l[k] hex;clear hR;generalize l[k]=x at *;refine ae ?_;refine ab [] hc ?_;refine jH ?_;refine ae ?_;exact ⟨k+1,⟨_,_,Wk.aC aq,_,Z,rfl,rfl,ak,bU⟩,by show l.length - (k+1) < l.length - k;omega⟩
 ·have dd:decide ((k:Int) < ((l.map ay).length:Int))=false:=by rw [hm];simpa using ak
  have lz:k=l.length:=by omega
  subst lz;rw [kQ] at hR;subst hR;refine bH ?_;refine GW.wk (by apply Wk.rm (t:=3) (i:=0) <;> rfl) ?_;simp only [oset,bs];exact av
theorem K7 (x:Src) (hg:x.globals.length<=1048576) (ha:x.arrays.length<=1048576) (hf:x.fns.length<=1048576) (AY:∀ f∈x.fns,f.params.length<=1048576) (hn:x.nodes.length<=1048576) (xL:∀ n∈x.nodes,n.kids.length<=1048576):GF Tryz.prog 12 [.agg (ax x)] [] (.agg (ax x)) []:=by
 have h0:=zB x.globals hg;have h1:=KY x.arrays ha;have h2:=Tq x.fns hf AY;have h3:=N9 x.nodes hn xL;refine ai Tryz.func12 Tryz.ntmps12 ?_;refine ab [] h0 ?_;refine ab [] h1 ?_;refine ab [] h2 ?_;refine ab [] h3 ?_;exact dm
end Go.Xg
namespace Go.Xg
open Go.RowKit Go.Xw
def Ob.lR:Ob->Bool
 | .vech _ _ _ _=>true
 | _=>false
def p9 (β:Bt) (aO:List Nat):Bt:=fun j=>match aO[j]? with
 | some i=>β i
 | none=>.no
section
variable {B:Bs} {K:Fz} {β:Bt} {Γ:List Ob} {w:World}
theorem ba.rN {K:Fz} {β bA:Bt} {vs:List Value} {gs:List GV} (h:ba K β vs gs) (hp:∀ g∈gs,g.pc=true):ba K bA vs gs:=⟨h.1,fun i v g h1 h2=>(h.2 i v g h1 h2).pc (hp g (mem_of_getElem? h2))⟩
theorem fy.flat {k:Nat} {rows:List (List GV)} (h:fy k rows):∀ g∈rows.flatten,g.pc=true:=fun g hg=>by
 obtain ⟨r,h1,h2⟩:=List.mem_flatten.1 hg;exact (h r h1).2 g h2
theorem Inv.pick (h:Inv B K β Γ w) (hm:B.m=0) {aO:List Nat} {Δ:List Ob} (hl:Δ.length=aO.length) (hn:aO.Nodup)
  (hx:∀ (j:Nat) x,Δ[j]?=some x->x.lR=true/\∀ i,aO[j]?=some i->Γ[i]?=some x):Inv B K (p9 β aO) Δ w:=by
 have hb:∀ i b,(p9 β aO i).blk=some b->∃ q,aO[i]?=some q/\(β q).blk=some b:=fun i b hi=>by
  unfold p9 at hi
  cases hs:aO[i]? with
  | none=>rw [hs] at hi;cases hi
  | some q=>rw [hs] at hi;exact ⟨q,rfl,hi⟩
 refine ⟨h.ext,h.kle,fun i=>by rw [h.loc i ag];trivial,h.loc,h.fz,fun i x hi=>?_,fun i hi=>?_,fun i j b hi hj=>?_,fun i b hi=>?_,h.kn,h.tab.step (S:=gn) (Ext.refl w) (fun _ h=>h.elim) (cl.refl K) (fun i b2 h2=>?_)⟩
 ·obtain ⟨h1,h2⟩:=hx i x hi;have ak:=(List.getElem?_eq_some_iff.1 hi).1;have hs:aO[i]?=some (aO[i]'ag):=getElem?_eq_getElem _
  cases x with
  | vech E k rows v =>
   obtain ⟨xs,e1,e2,e3,e4,e5⟩:=h.ob _ _ (h2 _ hs);refine ⟨xs,?_,e2,e3.rN e4.flat,e4,e5⟩;show p9 β aO i=_;unfold p9;rw [hs];exact e1
  | _=>cases h1
 ·unfold p9;rw [List.getElem?_eq_none ag]
 ·obtain ⟨q,h1,h2⟩:=hb i b hi;obtain ⟨r,h3,h4⟩:=hb j b hj;have:=h.dis q r b h2 h4;subst this;obtain ⟨a1,a2⟩:=List.getElem?_eq_some_iff.1 h1;obtain ⟨b1,b2⟩:=List.getElem?_eq_some_iff.1 h3;exact (List.getElem_inj hn).1 (a2.trans b2.symm)
 ·obtain ⟨q,h1,h2⟩:=hb i b hi;exact h.own q b h2
 ·obtain ⟨q,h3,h4⟩:=hb i b2 h2;exact .inl ⟨q,h4⟩
theorem Inv.view {i E k:Nat} {rows:List (List GV)} {x:Value} (h:Inv B K β Γ w) (hi:Γ[i]?=some (.vech E k rows x)):∃ K1,cl K K1/\jh K1 w/\gD K1 (fun _=>.no) w/\Rel K1 (fun _=>.no) x (.sl k rows):=by
 obtain ⟨K',hK,hr,bg⟩:=h.qb hi;exact ⟨K',hK,bg.fz,⟨bg.tab.le,bg.tab.pow,bg.tab.spc,fun i b h=>by cases h⟩,hr.pc rfl⟩
theorem Inv.ZO (h:Inv B K β Γ w):gD K (fun _=>.no) w:=⟨h.tab.le,h.tab.pow,h.tab.spc,fun i b h=>by cases h⟩
theorem Inv.new (h:jh K w) (ht:gD K (fun _=>.no) w):Inv ⟨w,gn,K,fun _=>.no,0⟩ K (fun _=>.no) [] w :=
 ⟨Ext.refl w,cl.refl _,cY.refl _,fun _ _=>rfl,h,fun i x h=>by simp at h,fun _ _=>rfl,fun i j b h=>(by cases h),fun i b h=>(by cases h),fun b o g h=>.inl h,ht⟩
theorem Inv.KP {i idx o j E k T k':Nat} {rows ks:List (List GV)} {x h:Value} {r:List GV} (hI:Inv B K β Γ w) (hi:Γ[i]?=some (.vech T k rows h)) (hr:rows[idx]?=some r) (ho:r[o]?=some (.v x)) (bP:i≠j) (hj:Γ[j]?=some (.vech E k' ks x)) :
  ∃ K',cl K K'/\Inv B K' β (oset (oset Γ j (.vec E k' ks.length ks)) i (.vech T k (dk rows idx o (.sl k' ks)) h)) w:=by
 obtain ⟨K',hK,eU,bg⟩:=hI.qb hj;obtain ⟨xs,h1,h2,h3,h4,h5⟩:=bg.ob i (.vech T k rows h) (by rw [bd,getElem?_set,if_neg (fun e=>bP e.symm)];exact hi);have ak:=(List.getElem?_eq_some_iff.1 hr).1
 have MZ:o < k:=by rw [<-(h4 r (mem_of_getElem? hr)).1];exact (List.getElem?_eq_some_iff.1 ho).1
 exact ⟨K',hK,bg.swap ⟨xs,by rw [fB];exact h1,by rw [fB];exact h2,by rw [uo MZ h4 ak];exact ba.bs eU h3 (tC h4 hr ho),yL rfl h4,h5⟩⟩
theorem sG {rows:List (List GV)} {i o:Nat} {g:GV} {r:List GV} (hr:rows[i]?=some r):∀ q,(dk rows i o g)[q]?=if q=i then some (bs r o g) else rows[q]?:=by
 induction rows generalizing i with
 | nil=>simp at hr
 | cons x rs ih =>
  intro q
  cases i with
  | zero =>
   cases hr
   cases q with
   | zero=>simp [dk]
   | succ q=>simp [dk]
  | succ i =>
   cases q with
   | zero=>simp [dk]
   | succ q =>
    have:=ih (by simpa using hr) q;simp only [dk,List.getElem?_cons_succ,this]
    by_cases h:q=i
    ·simp [h]
    ·simp [h]
theorem Inv.Ai {T k o E k' jf N:Nat} {h:Value} {raw fin:Nat->List GV} {ks:Nat->List (List GV)} {hd:Nat->Value} {jp:Nat->Nat} (hI:Inv B K β Γ w) {D7:List (List GV)} (MW:Γ[jf]?=some (.vech T k D7 h)) (h0:D7.length=N/\∀ i,i < N->D7[i]?=some (raw i))
  (Zo:∀ i,i < N->(raw i)[o]?=some (.v (hd i))/\bs (raw i) o (.sl k' (ks i))=fin i) (fp:∀ i,i < N->Γ[jp i]?=some (.vech E k' (ks i) (hd i))) (bP:∀ i,i < N->jp i≠jf) (Fb:∀ i i',i < N->i' < N->jp i=jp i'->i=i') :
  ∃ K' aK rows,cl K K'/\Inv B K' β aK w/\aK[jf]?=some (.vech T k rows h)/\rows.length=N/\(∀ i,i < N->rows[i]?=some (fin i))/\∀ q,q≠jf->(∀ i,i < N->q≠jp i)->aK[q]?=Γ[q]?:=by
 have key:∀ n,n<=N->∃ K' aK rows,cl K K'/\Inv B K' β aK w/\aK[jf]?=some (.vech T k rows h)/\rows.length=N/\(∀ i,i < n->rows[i]?=some (fin i))/\(∀ i,n<=i->i < N->rows[i]?=some (raw i))/\(∀ i,n<=i->i < N->aK[jp i]?=some (.vech E k' (ks i) (hd i)))/\∀ q,q≠jf->(∀ i,i < N->q≠jp i)->aK[q]?=Γ[q]?:=by
  intro n
  induction n with
  | zero=>intro _;exact ⟨K,Γ,D7,cl.refl K,hI,MW,h0.1,fun i h=>by omega,fun i _ h=>h0.2 i h,fun i _ h=>fp i h,fun _ _ _=>rfl⟩
  | succ n ih =>
   intro hn;obtain ⟨K',aK,rows,a1,a2,a3,a4,a5,a6,a7,a8⟩:=ih ag;have hr:=a6 n (Nat.le_refl _) ag;obtain ⟨c1,c2⟩:=Zo n ag;obtain ⟨K2,b1,b2⟩:=a2.KP a3 hr c1 (fun e=>bP n ag e.symm) (a7 n (Nat.le_refl _) ag);have ak:=(List.getElem?_eq_some_iff.1 a3).1;refine ⟨K2,_,dk rows n o (.sl k' (ks n)),a1.trans b1,b2,?_,by rw [fB];exact a4,fun i hi=>?_,fun i hi MT=>?_,fun i hi MT=>?_,fun q hq XX=>?_⟩
   ·rw [bd,bd,getElem?_set];simp [ak]
   ·rw [sG hr,c2]
    by_cases e:i=n
    ·rw [if_pos e,e]
    ·rw [if_neg e];exact a5 i ag
   ·rw [sG hr,if_neg ag];exact a6 i ag MT
   ·rw [bd,bd,getElem?_set,if_neg (fun e=>bP i MT e.symm),getElem?_set,if_neg (fun e=>by have:=Fb n i ag MT e;omega)];exact a7 i ag MT
   ·rw [bd,bd,getElem?_set,if_neg (fun e=>hq e.symm),getElem?_set,if_neg (fun e=>XX n ag e.symm)];exact a8 q hq XX
 obtain ⟨K',aK,rows,a1,a2,a3,a4,a5,_,_,a8⟩:=key N (Nat.le_refl _);exact ⟨K',aK,rows,a1,a2,a3,a4,a5,a8⟩
end
section
variable {P:Program} {fn:Func} {R:GV->List Ob->Prop} {fr:List GV} {Γ:List Ob} {e:Exit}
theorem Wv {t:Tmp} {x:Value} (aO:List Nat) (Δ:List Ob) (hr:fn.results=#[.tmp t]) (he:e=.normal\/e=.ret) (hg:cE fr t=.v x) (hl:Δ.length=aO.length) (hn:aO.Nodup)
  (hx:∀ (j:Nat) x,Δ[j]?=some x->x.lR=true/\∀ i,aO[j]?=some i->Γ[i]?=some x) (h:R (.v x) Δ):sW P fn 0 R e fr Γ :=
 ⟨he,fun B K β w l hB hI hF=>⟨nth l t,K,p9 β aO,.v x,Δ,by rw [results_tmp hr,jQ],hI.pick hB hl hn hx,by have:=hF.nth t;rw [hg] at this;rw [Rel.eC this];exact .v _,h⟩⟩
theorem Ww {t:Tmp} {T:TypeId} {k:Nat} [hT:Ty P T true k] {i:Nat} {E:TypeId} {cs:List GV} (aO:List Nat) (Δ:List Ob) (hr:fn.results=#[.cell t T]) (he:e=.normal\/e=.ret) (hg:cE fr t=.loc i 0) (bz:Γ[i]?=some (.box E cs)) (hk:cs.length=k) (hp:rN cs=true)
  (hl:Δ.length=aO.length) (hn:aO.Nodup) (hx:∀ (j:Nat) x,Δ[j]?=some x->x.lR=true/\∀ i,aO[j]?=some i->Γ[i]?=some x) (h:R (.agg cs) Δ):sW P fn 0 R e fr Γ :=
 ⟨he,fun B K β w l hB hI hF=>by
  obtain ⟨b,vs,h1,h2,h3,h4⟩:=hI.ob i _ bz
  have UR:nth l t=.pointer (some ⟨b,0,none⟩):=by
   have:=hF.nth t;rw [hg] at this;generalize nth l t=v at this
   cases this with
   | loc _ _ b' bq=>rw [h1] at bq;cases bq;rfl
  have la:l.toArray.getD t undef=.pointer (some ⟨b,0,none⟩):=by rw [jQ,UR]
  have Fc:=nG (P:=P) (w:=w) (t:=T) (b:=b) (o:=0) (vs:=vs) (k:=k) (by rw [h3.1,hk]) (fun j v hj=>by
   rw [Nat.zero_add,cell_of_row w b j _ E (0,0) h2];simpa using hj)
  have zW:l[t]?.getD undef=.pointer (some ⟨b,0,none⟩):=by simpa using la
  have h5:ba K (p9 β aO) vs cs:=h3.rN (mO hp)
  exact ⟨.agg vs.toArray,K,p9 β aO,.agg cs,Δ,by simp [results,hr,zW,asAddr,Fc],hI.pick hB hl hn hx,.agg vs cs h5.1 h5.2,h⟩⟩
end
section
variable {P:Program} {fn:Func} {R:GV->List Ob->Prop} {fr:List GV} {Γ:List Ob} {e:Exit}
theorem CU {Γ:List Ob} {n:Nat} (h:∀ x∈Γ.drop n,x.lR=true):(Γ.drop n).length=((List.range (Γ.length - n)).map (·+n)).length/\((List.range (Γ.length - n)).map (·+n)).Nodup /\
  ∀ (j:Nat) x,(Γ.drop n)[j]?=some x->x.lR=true/\∀ i,((List.range (Γ.length - n)).map (·+n))[j]?=some i->Γ[i]?=some x:=by
 refine ⟨by simp,?_,fun j x hj=>⟨h x (mem_of_getElem? hj),fun i hi=>?_⟩⟩
 ·unfold List.Nodup;rw [List.pairwise_map]
  exact List.nodup_range.imp fun bP he=>bP ag
 ·have ak:=(List.getElem?_eq_some_iff.1 hj).1;rw [List.length_drop] at ak;rw [getElem?_map,List.getElem?_range ak] at hi;cases hi;rw [List.getElem?_drop] at hj;show Γ[j+n]?=some x;rw [Nat.add_comm];exact hj
theorem oS {t:Tmp} {x:Value} (n:Nat) (hr:fn.results=#[.tmp t]) (he:e=.normal\/e=.ret) (hg:cE fr t=.v x) (ha:∀ x∈Γ.drop n,x.lR=true) (h:R (.v x) (Γ.drop n)):sW P fn 0 R e fr Γ :=
 have hd:=CU ha
 Wv _ (Γ.drop n) hr he hg hd.1 hd.2.1 hd.2.2 h
theorem JO {t:Tmp} {T:TypeId} {k:Nat} [hT:Ty P T true k] {i:Nat} {E:TypeId} {cs:List GV} (n:Nat) (hr:fn.results=#[.cell t T]) (he:e=.normal\/e=.ret) (hg:cE fr t=.loc i 0) (bz:Γ[i]?=some (.box E cs)) (hk:cs.length=k) (hp:rN cs=true)
  (ha:∀ x∈Γ.drop n,x.lR=true) (h:R (.agg cs) (Γ.drop n)):sW P fn 0 R e fr Γ :=
 have hd:=CU ha
 Ww _ (Γ.drop n) hr he hg bz hk hp hd.1 hd.2.1 hd.2.2 h
end
section
variable {P:Program} {m:Nat} {Q:dB} {fr:List GV} {Γ:List Ob} {ops:Array Oper} {rest:List Oper} {d:Option Tmp} {op:Op} {ty:TypeId} {pos:String} {af:Array Edge}
theorem GL.Ex {t:TypeId} {x:Operand} {cs:List GV} (hx:mq (aX fr x)=some cs) (hp:rN cs=true) (h:GL P m ops Q rest (br fr d (.box cs 0)) Γ):GL P m ops Q (⟨d,.box t x,ty,pos,af,none⟩::rest) fr Γ:=fun B K β w l hm hI hF=>by
 obtain ⟨vs,h1,h2⟩:=(hF.ev x).cells hx
 refine WL.box rfl fun b w' hn=>?_
 rw [h1] at hn;obtain ⟨hle,bg⟩:=hI.tW hn h2 (mO hp);exact h B _ β w' _ hm bg ((hF.mono hle (cY.refl β)).put d (Rel.box (K:=kM K b cs) (β:=β) b 0 0 cs (fun j g hg=>by rw [Nat.zero_add];exact uQ hg)))
theorem GL.borrow {f:FuncId} [hf:aH P f] {args:List Operand} {mH:Array TypeId} {gs:List GV} {v:Value} (hc:GF P f gs [] (.v v) [])
  (hv:∀ B K β w l,Inv B K β Γ w->FR K β fr l->∃ K1,jh K1 w/\gD K1 (fun _=>.no) w/\ba K1 (fun _=>.no) (args.map (ev l)) gs)
  (h:GL P m ops Q rest (br fr d (.v v)) Γ):GL P m ops Q (⟨d,.call ⟨.value (.func f),args.toArray,mH⟩,ty,pos,af,none⟩::rest) fr Γ:=fun B K β w l hm hI hF=>by
 obtain ⟨K1,h1,h2,h3⟩:=hv B K β w l hI hF
 have oH:(execOp (ev l) ⟨d,.call ⟨.value (.func f),args.toArray,mH⟩,ty,pos,af,none⟩).run P w=.ok (.enter f (args.map (ev l)).toArray) w:=by simp [execOp,resolve,ev,Deferred.ofValue,invoke,lG]
 refine WL.calls oH (hc _ K1 _ w _ rfl (Inv.new h1 h2) h3) ?_;rintro x w' ⟨K',bA,g,aK,bg,eU,rfl,rfl⟩;exact h B K β w' _ hm (hI.same bg.ext) (hF.put d (by rw [Rel.eC eU];exact .v _))
theorem tD {P:Program} {w:World} {t e ty:TypeId} {i:TypeInfo} (hu:P.underlying t=some (.slice e)) (hi:P.info? e=some i) (a b:Option Addr) (n c d:Nat) (hc:n<=c) :
  (Builtin.append_ #[t,t] ty #[.slice a n c,.slice b 0 d]).run P w=.ok (.slice a n c) w:=by
 cases a <;> cases b <;> simp [Builtin.append_,run_underlying hu,sizeOf,typeInfo,hi,Builtin.lenOf,hc,Builtin.firstCells,loadCells,loadCellsFrom,storeCells]
theorem GL.We {s x:Operand} {t e k gT:Nat} [hT:n7 P t e k gT] (i:Nat) {dt:Tmp} {v:Value} {rows:List (List GV)} (hx:aX fr x=.sl k []) (hs:aX fr s=.v v) (bz:Γ[i]?=some (.vech e k rows v))
  (h:GL P m ops Q rest (br fr (some dt) (.v v)) Γ):GL P m ops Q (⟨some dt,.call ⟨.builtin .append,#[s,x],#[t,t]⟩,ty,pos,af,none⟩::rest) fr Γ:=fun B K β w l hm hI hF=>by
 obtain ⟨hu,⟨j,z,hi,_⟩,_⟩:=hT.parts;obtain ⟨xs,o1,o2,_⟩:=hI.ob i _ bz;have qy:ev l s=v:=hF.gU hs;have rG:=hF.ev x;rw [hx] at rG;generalize rH:ev l x=vx at rG
 obtain ⟨b,d',rfl⟩:∃ b d',vx=.slice b 0 d':=by
  cases rG with
  | sl0 a c k=>exact ⟨a,c,rfl⟩
  | sl b o c _ _ hr _=>exact ⟨_,_,rfl⟩
 obtain ⟨a,n,c,rfl,hc⟩:∃ a n c,v=.slice a n c/\n<=c:=by
  rcases o2.2 with ⟨e1,e2⟩ | ⟨g,cap,cur,e1,_,_,e2,_⟩
  ·exact ⟨_,_,_,e1,Nat.le_refl _⟩
  ·exact ⟨_,_,_,e1,e2⟩
 have mU:=tD (P:=P) (w:=w) (ty:=ty) hu hi a b n c d' hc;exact WL.val (v:=.slice a n c) (w':=w) (by simp [execOp,resolve,invoke,builtin,qy,rH,mU]) (h B K β w _ hm hI (hF.put _ (.v _)))
theorem GL.Wi {s x:Operand} {t e k gT:Nat} [hT:n7 P t e k gT] {i n fz:Nat} {dt:Tmp} {rows:List (List GV)} (hx:aX fr x=.sl k []) (hs:aX fr s=.vec i n) (bz:Γ[i]?=some (.vec e k fz rows)) (hn:rows.length=n)
  (h:GL P m ops Q rest (br fr (some dt) (.vec i n)) Γ):GL P m ops Q (⟨some dt,.call ⟨.builtin .append,#[s,x],#[t,t]⟩,ty,pos,af,none⟩::rest) fr Γ:=fun B K β w l hm hI hF=>by
 subst hn;obtain ⟨hu,⟨j,z,hi,_⟩,_⟩:=hT.parts;obtain ⟨h0,xs,o1,o2,_⟩:=hI.ob i _ bz;have th:=hF.ev s;rw [hs] at th
 have qy:ev l s=h0:=by
  generalize hv:ev l s=v at th
  cases th with
  | vec _ _ a c hh =>
   obtain ⟨h',m',e1,e2,e3⟩:=hh;rw [o1] at e1;cases e1;exact e3 rfl
 have rG:=hF.ev x;rw [hx] at rG;generalize rH:ev l x=vx at rG
 obtain ⟨b,d',rfl⟩:∃ b d',vx=.slice b 0 d':=by
  cases rG with
  | sl0 a c k=>exact ⟨a,c,rfl⟩
  | sl b o c _ _ hr _=>exact ⟨_,_,rfl⟩
 obtain ⟨a,n,c,rfl,hc⟩:∃ a n c,h0=.slice a n c/\n<=c:=by
  rcases o2.2 with ⟨e1,e2⟩ | ⟨g,cap,cur,e1,_,_,e2,_⟩
  ·exact ⟨_,_,_,e1,Nat.le_refl _⟩
  ·exact ⟨_,_,_,e1,e2⟩
 have mU:=tD (P:=P) (w:=w) (ty:=ty) hu hi a b n c d' hc;exact WL.val (v:=.slice a n c) (w':=w) (by simp [execOp,resolve,invoke,builtin,qy,rH,mU]) (h B K β w _ hm hI (hF.put _ (by have:=hF.ev s;rw [hs,qy] at this;exact this)))
theorem Dy {Γ:List Ob} {i:Nat} {x:Ob} (h:Γ[i]?=some x):oset Γ i x=Γ:=by
 rw [bd];apply List.ext_getElem?;intro j;rw [getElem?_set]
 by_cases e:i=j
 ·subst e;have:=(List.getElem?_eq_some_iff.1 h).1;rw [if_pos rfl,if_pos this,h]
 ·rw [if_neg e]
theorem GL.DY {s x:Operand} {t e k gT:Nat} [hT:n7 P t e k gT] (i:Nat) {n:Nat} {dt:Tmp} {a0:Option Addr} {c0:Nat} {rows news:List (List GV)} (hx:aX fr x=.sl k news) (hs:aX fr s=.v (.slice a0 n c0)) (bz:Γ[i]?=some (.vech e k rows (.slice a0 n c0))) (hn:rows.length=n) (h1:ma news=true)
  (hb:n+news.length<=9223372036854775807/\(n+news.length) * gT<=140737488355328)
  (h:∀ a c,GL P m ops Q rest (br fr (some dt) (.v (.slice a (n+news.length) c))) (oset Γ i (.vech e k (rows++news) (.slice a (n+news.length) c)))) :
  GL P m ops Q (⟨some dt,.call ⟨.builtin .append,#[s,x],#[t,t]⟩,ty,pos,af,none⟩::rest) fr Γ:=by
 cases news with
 | nil =>
  have h0:=h a0 c0;rw [append_nil,show n+([]:List (List GV)).length=n from rfl,Dy bz] at h0;exact GL.We i hx hs bz h0
 | cons r rs=>exact GL.pJ i hx hs bz hn h1 rfl hb h
theorem GL.Wh {s x:Operand} {t e k gT:Nat} [hT:n7 P t e k gT] {i n fz:Nat} {dt:Tmp} {rows news:List (List GV)} (hx:aX fr x=.sl k news) (hs:aX fr s=.vec i n) (bz:Γ[i]?=some (.vec e k fz rows)) (hn:rows.length=n) (h1:ma news=true)
  (hb:n+news.length<=9223372036854775807/\(n+news.length) * gT<=140737488355328)
  (h:GL P m ops Q rest (br fr (some dt) (.vec i (n+news.length))) (oset Γ i (.vec e k fz (rows++news)))) :
  GL P m ops Q (⟨some dt,.call ⟨.builtin .append,#[s,x],#[t,t]⟩,ty,pos,af,none⟩::rest) fr Γ:=by
 cases news with
 | nil =>
  rw [append_nil,show n+([]:List (List GV)).length=n from rfl,Dy bz] at h;exact GL.Wi hx hs bz hn h
 | cons r rs=>exact GL.app hx hs bz hn h1 rfl hb h
theorem NV:∀ (us vs:List Value),vs.length=us.length->gL vs 0 us=us:=by
 have key:∀ (us a vs:List Value),vs.length=us.length->gL (a++vs) a.length us=a++us:=by
  intro us
  induction us with
  | nil=>intro a vs h;rw [List.eq_nil_of_length_eq_zero h];rfl
  | cons u us ih =>
   intro a vs h
   cases vs with
   | nil=>simp at h
   | cons v vs =>
    have hu:eT (a++v::vs) a.length u=(a++[u])++vs:=by
     clear ih h
     induction a with
     | nil=>rfl
     | cons x a ih=>rw [cons_append,List.length_cons,eT,ih];rfl
    have:=ih (a++[u]) vs (by simpa using h);rw [length_append,List.length_singleton] at this;rw [gL,hu,this];simp
 intro us vs h;exact key us [] vs h
theorem GL.Vu {t:TypeId} {z:Value} {agg:Bool} {k:Nat} [hZ:ql P t z] [hT:Ty P t agg k] {dt ts:Tmp} {cs:List GV} {ty2:TypeId} {ZM:String} {Z3:Array Edge} {d2:Option Tmp} (hzk:z.cells.size=k) (hy:mq (cE fr ts)=some cs) (bP:Nat.beq ts dt=false) (fO:jB fr dt=true) (hk:cs.length=k) (h1:l9 cs=true) (hp:rN cs=true)
  (h:GL P m ops Q rest (br (br fr (some dt) (.box cs 0)) d2 (.v undef)) Γ):GL P m ops Q (⟨some dt,.alloc t,ty,pos,af,none⟩::⟨d2,.store t (.tmp dt) (.tmp ts),ty2,ZM,Z3,none⟩::rest) fr Γ:=fun B K β w l hm hI hF=>by
 refine WL.alloc (z:=z) fun b w1 hn=>?_
 obtain ⟨us,j0,kC⟩:=(hF.nth ts).cells hy
 have Fh:ts≠dt:=by intro e;subst e;simp at bP
 have U7:ev (put l (some dt) (.pointer (some ⟨b,0,none⟩))) (.tmp ts)=nth l ts:=nX Fh _;have Iu:ev (put l (some dt) (.pointer (some ⟨b,0,none⟩))) (.tmp dt)=.pointer (some ⟨b,0,none⟩):=sD (mz hF fO) _
 have Dd:us.length=k:=by rw [kC.1,hk]
 refine WL.st (t:=t) (k:=k) Iu U7 hn.blk (by rw [j0];simpa using Dd) ag (by rw [j0];simpa using kC.lC h1) fun w2 hs=>?_
 have bU:uJ z.cells 0 us=us.toArray:=by
  have:=ur us z.cells.toList 0;rw [NV us _ (by rw [Array.length_toList,hzk,Dd])] at this;simpa using this
 rw [j0,List.toList_toArray,bU] at hs;have B6:uO w w2 b (.cells us.toArray t):=⟨hn.fresh,by rw [hs.size];exact hn.size,hs.blk,hn.ext.step hs.ext fun j hj=>.inl (by subst hj;rw [hn.fresh];exact Nat.le_refl _)⟩;obtain ⟨hle,bg⟩:=hI.tW B6 kC (mO hp);exact h B _ β w2 _ hm bg (((hF.mono hle (cY.refl β)).put (some dt) (Rel.box (K:=kM K b cs) (β:=β) b 0 0 cs (fun j g hg=>by rw [Nat.zero_add];exact uQ hg))).put d2 (.v _))
end
end Go.Xg
namespace Go.Xg
open Go.RowKit Go.Xw Go.Proofs
open Go.Xp (Nd Ar)
open Go.Sp (Src)
open Go.Im (kT kR kQ)
attribute [local irreducible] GW GL GO YG GC GA aU aZ
def b9 (l:List ah):List (List GV):=l.map fun s=>[GV.v (sv s)]
def bc (l:List Int):List (List GV):=l.map fun i=>[GV.v (ii i)]
def Hd (n:Nat) (h:Value):Prop:=∃ a c,h=.slice a n c
theorem zC (l:List ah) (hl:l.length<=1048576):GC Tryz.prog 41 [strs l] [] fun g Δ=>∃ h,Hd l.length h/\g=.v h/\Δ=[.vech 9 1 (b9 l) h]:=by
 have hm:(l.map (fun s=>[GV.v (sv s)])).length=l.length:=by simp
 refine ai Tryz.func41 Tryz.ntmps41 ?_;refine GL.zt rfl ⟨by omega,by omega⟩ ?_;intro a c;refine bI ?_;refine ae ?_;refine GW.loop (fun k:Nat=>l.length - k) (fun k fr Γ=>∃ R Z,fr=[strs l,.U,.U,.v (.slice a (l.map (fun s=>[GV.v (sv s)])).length c),.v (ii (k:Nat)),.U,.U,.U,.U,.U,.U,.U,.U,.U,.U,.U,.U,.U,.U,.U,.U,.U]/\Γ=[.vech 9 1 R (.slice a (l.map (fun s=>[GV.v (sv s)])).length c)]/\k<=l.length/\R=(l.take k).map (fun s=>[GV.v (sv s)])++List.replicate (l.length - k) Z) 0 ?_ ?_
 ·exact ⟨_,_,Wk.aC aq,_,_,rfl,rfl,Nat.zero_le _,by rw [hm];rfl⟩
 rintro k _ _ ⟨R,Z,rfl,rfl,hk,hR⟩
 have nA:R.length=l.length:=by rw [hR];exact kR hk
 have eE:R.length=(l.map (fun s=>[GV.v (sv s)])).length:=by rw [hm];exact nA
 by_cases ak:k < l.length
 ·have hx:l[k]?=some l[k]:=by simp [ak]
  have hr:(l.map (fun s=>[GV.v (sv s)]))[k]?=some ((fun s=>[GV.v (sv s)]) l[k]):=by rw [getElem?_map,hx];rfl
  have dd:decide ((k:Int) < ((l.map (fun s=>[GV.v (sv s)])).length:Int))=true:=by rw [hm];simpa using ak
  have bU:=kT (f:=(fun s=>[GV.v (sv s)])) (Z:=Z) hx;rw [<-hR] at bU;clear hR;generalize l[k]=x at *;refine ae ?_;refine jH ?_;refine ae ?_;exact ⟨k+1,⟨_,_,Wk.aC aq,_,Z,rfl,rfl,ak,bU⟩,by show l.length - (k+1) < l.length - k;omega⟩
 ·have dd:decide ((k:Int) < ((l.map (fun s=>[GV.v (sv s)])).length:Int))=false:=by rw [hm];simpa using ak
  have lz:k=l.length:=by omega
  subst lz;rw [kQ] at hR;subst hR;refine bH ?_;refine ae ?_;refine ic ?_;exact oS 0 rfl cj rfl (fun x hx=>by rw [List.mem_singleton.1 hx];rfl) ⟨_,⟨_,_,by rw [hm]⟩,rfl,rfl⟩
theorem Qu (l:List Int) (hl:l.length<=1048576):GC Tryz.prog 135 [ints l] [] fun g Δ=>∃ h,Hd l.length h/\g=.v h/\Δ=[.vech 3 1 (bc l) h]:=by
 have hm:(l.map (fun i=>[GV.v (ii i)])).length=l.length:=by simp
 refine ai Tryz.func135 Tryz.ntmps135 ?_;refine GL.zt rfl ⟨by omega,by omega⟩ ?_;intro a c;refine bI ?_;refine ae ?_;refine GW.loop (fun k:Nat=>l.length - k) (fun k fr Γ=>∃ R Z,fr=[ints l,.U,.U,.v (.slice a (l.map (fun i=>[GV.v (ii i)])).length c),.v (ii (k:Nat)),.U,.U,.U,.U,.U,.U,.U,.U,.U,.U,.U,.U,.U,.U,.U,.U,.U]/\Γ=[.vech 3 1 R (.slice a (l.map (fun i=>[GV.v (ii i)])).length c)]/\k<=l.length/\R=(l.take k).map (fun i=>[GV.v (ii i)])++List.replicate (l.length - k) Z) 0 ?_ ?_
 ·exact ⟨_,_,Wk.aC aq,_,_,rfl,rfl,Nat.zero_le _,by rw [hm];rfl⟩
 rintro k _ _ ⟨R,Z,rfl,rfl,hk,hR⟩
 have nA:R.length=l.length:=by rw [hR];exact kR hk
 have eE:R.length=(l.map (fun i=>[GV.v (ii i)])).length:=by rw [hm];exact nA
 by_cases ak:k < l.length
 ·have hx:l[k]?=some l[k]:=by simp [ak]
  have hr:(l.map (fun i=>[GV.v (ii i)]))[k]?=some ((fun i=>[GV.v (ii i)]) l[k]):=by rw [getElem?_map,hx];rfl
  have dd:decide ((k:Int) < ((l.map (fun i=>[GV.v (ii i)])).length:Int))=true:=by rw [hm];simpa using ak
  have bU:=kT (f:=(fun i=>[GV.v (ii i)])) (Z:=Z) hx;rw [<-hR] at bU;clear hR;generalize l[k]=x at *;refine ae ?_;refine jH ?_;refine ae ?_;exact ⟨k+1,⟨_,_,Wk.aC aq,_,Z,rfl,rfl,ak,bU⟩,by show l.length - (k+1) < l.length - k;omega⟩
 ·have dd:decide ((k:Int) < ((l.map (fun i=>[GV.v (ii i)])).length:Int))=false:=by rw [hm];simpa using ak
  have lz:k=l.length:=by omega
  subst lz;rw [kQ] at hR;subst hR;refine bH ?_;refine ae ?_;refine ic ?_;exact oS 0 rfl cj rfl (fun x hx=>by rw [List.mem_singleton.1 hx];rfl) ⟨_,⟨_,_,by rw [hm]⟩,rfl,rfl⟩
theorem KZ (l:List Ar) (hl:l.length<=1048576):GC Tryz.prog 42 [.sl 2 (l.map aD)] [] fun g Δ=>∃ h,Hd l.length h/\g=.v h/\Δ=[.vech 88 2 (List.map aD l) h]:=by
 have hm:(l.map (aD)).length=l.length:=by simp
 refine ai Tryz.func42 Tryz.ntmps42 ?_;refine GL.zt rfl ⟨by omega,by omega⟩ ?_;intro a c;refine bI ?_;refine ae ?_;refine GW.loop (fun k:Nat=>l.length - k) (fun k fr Γ=>∃ R Z,fr=[.sl 2 (l.map aD),.U,.U,.v (.slice a (l.map (aD)).length c),.v (ii (k:Nat)),.U,.U,.U,.U,.U,.U,.U,.U,.U,.U,.U,.U,.U,.U,.U,.U,.U,.U]/\Γ=[.vech 88 2 R (.slice a (l.map (aD)).length c)]/\k<=l.length/\R=(l.take k).map (aD)++List.replicate (l.length - k) Z) 0 ?_ ?_
 ·exact ⟨_,_,Wk.aC aq,_,_,rfl,rfl,Nat.zero_le _,by rw [hm];rfl⟩
 rintro k _ _ ⟨R,Z,rfl,rfl,hk,hR⟩
 have nA:R.length=l.length:=by rw [hR];exact kR hk
 have eE:R.length=(l.map (aD)).length:=by rw [hm];exact nA
 by_cases ak:k < l.length
 ·have hx:l[k]?=some l[k]:=by simp [ak]
  have hr:(l.map (aD))[k]?=some ((aD) l[k]):=by rw [getElem?_map,hx];rfl
  have dd:decide ((k:Int) < ((l.map (aD)).length:Int))=true:=by rw [hm];simpa using ak
  have bU:=kT (f:=(aD)) (Z:=Z) hx;rw [<-hR] at bU;have hc:=DL l[k];clear hR;generalize l[k]=x at *;refine ae ?_;refine ab [] hc ?_;refine jH ?_;refine ae ?_;exact ⟨k+1,⟨_,_,Wk.aC aq,_,Z,rfl,rfl,ak,bU⟩,by show l.length - (k+1) < l.length - k;omega⟩
 ·have dd:decide ((k:Int) < ((l.map (aD)).length:Int))=false:=by rw [hm];simpa using ak
  have lz:k=l.length:=by omega
  subst lz;rw [kQ] at hR;subst hR;refine bH ?_;refine ae ?_;refine ic ?_;exact oS 0 rfl cj rfl (fun x hx=>by rw [List.mem_singleton.1 hx];rfl) ⟨_,⟨_,_,by rw [hm]⟩,rfl,rfl⟩
def qd (x:Go.Sp.Fn) (h:Value):List GV:=[.v (sv x.name),.v h,.v (ii x.body)]
def rn (x:Go.Sp.Fn) (h:Value):Ob:=.vech 9 1 (b9 x.params) h
theorem VZ (x:Go.Sp.Fn) (hp:x.params.length<=1048576):GC Tryz.prog 101 [.agg (aw x)] [] fun g Δ=>∃ h,Hd x.params.length h/\g=.agg (qd x h)/\Δ=[rn x h]:=by
 have h0:=zC x.params hp;refine ai Tryz.func101 Tryz.ntmps101 ?_;refine cm [] h0 ?_;rintro _ _ ⟨_,⟨a1,c1,rfl⟩,rfl,rfl⟩;refine cW ?_;refine ae ?_;refine ic ?_;refine JO 3 rfl cj rfl rfl rfl rfl ?_ ?_
 ·intro x hx;rw [List.mem_singleton.1 hx];rfl
 ·exact ⟨_,⟨_,_,rfl⟩,rfl,rfl⟩
theorem Tr (l:List Go.Sp.Fn) (hl:l.length<=1048576) (he:∀ x∈l,x.params.length<=1048576):GC Tryz.prog 43 [.sl 3 (l.map aw)] [] fun g Δ=>∃ h hs,Hd l.length h/\hs.length=l.length/\(∀ (i:Nat) x y,l[i]?=some x->hs[i]?=some y->Hd x.params.length y)/\g=.v h /\
  Δ=.vech 60 3 (List.zipWith qd l hs) h::List.zipWith rn l hs:=by
 have hm:(l.map aw).length=l.length:=by simp
 refine ai Tryz.func43 Tryz.ntmps43 ?_;refine GL.zt rfl ⟨by omega,by omega⟩ ?_;intro a c;refine bI ?_;refine ae ?_
 refine GW.loop (fun k:Nat=>l.length - k) (fun k fr Γ=>∃ R Z hs,fr=[.sl 3 (l.map aw),.U,.U,.v (.slice a (l.map aw).length c),.v (ii (k:Nat)),.U,.U,.U,.U,.U,.U,.U,.U,.U,.U,.U,.U,.U,.U,.U,.U,.U,.U]/\Γ=.vech 60 3 R (.slice a (l.map aw).length c)::List.zipWith rn (l.take k) hs/\k<=l.length/\hs.length=k /\
  (∀ (i:Nat) x y,l[i]?=some x->hs[i]?=some y->Hd x.params.length y)/\R=List.zipWith qd (l.take k) hs++List.replicate (l.length - k) Z) 0 ?_ ?_
 ·exact ⟨_,_,Wk.aC aq,_,_,[],rfl,rfl,Nat.zero_le _,rfl,(fun i x y _ h=>by simp at h),by rw [hm];rfl⟩
 rintro k _ _ ⟨R,Z,hs,rfl,rfl,hk,E9,MS,hR⟩
 have nA:R.length=l.length:=by rw [hR,length_append,length_zipWith,length_take,List.length_replicate];omega
 have eE:R.length=(l.map aw).length:=by rw [hm];exact nA
 by_cases ak:k < l.length
 ·have hx:l[k]?=some l[k]:=by simp [ak]
  have hr:(l.map aw)[k]?=some (aw l[k]):=by rw [getElem?_map,hx];rfl
  have dd:decide ((k:Int) < ((l.map aw).length:Int))=true:=by rw [hm];simpa using ak
  have hex:=he _ (mem_of_getElem? hx);have hc:=VZ l[k] hex
  have jZ:l.take (k+1)=l.take k++[l[k]]:=by rw [take_add_one,hx];rfl
  have M6:∀ {γ:Type} (f:Go.Sp.Fn->Value->γ) (h:Value),List.zipWith f (l.take (k+1)) (hs++[h])=List.zipWith f (l.take k) hs++[f l[k] h]:=fun f h=>by
   rw [jZ,List.zipWith_append (by rw [length_take];omega)];rfl
  have bU:∀ h,R.set k (qd l[k] h)=List.zipWith qd (l.take (k+1)) (hs++[h])++List.replicate (l.length - (k+1)) Z:=fun h=>by
   have hz:(List.zipWith qd (l.take k) hs).length=k:=by rw [length_zipWith,length_take];omega
   rw [hR,M6,show l.length - k=(l.length - (k+1))+1 by omega,List.replicate_succ,List.set_append_right _ _ ag,hz,Nat.sub_self,List.set_cons_zero];simp
  have Pn:∀ h,Hd l[k].params.length h->∀ (i:Nat) x y,l[i]?=some x->(hs++[h])[i]?=some y->Hd x.params.length y:=fun h hh i x y h1 h2=>by
   by_cases hik:i < hs.length
   ·rw [List.getElem?_append_left hik] at h2;exact MS i x y h1 h2
   ·have h3:=(List.getElem?_eq_some_iff.1 h2).1;rw [length_append,List.length_singleton] at h3
    have:i=k:=by omega
    subst this;rw [List.getElem?_append_right ag,E9,Nat.sub_self] at h2;rw [hx] at h1
    cases h1;cases h2;exact hh
  clear hR;have UO:=M6 rn;unfold qd rn at hc;generalize hlx:l[k]=x at *;refine ae ?_;refine cm [] hc ?_;rintro _ _ ⟨_,⟨a1,c1,rfl⟩,rfl,rfl⟩;refine cW ?_;refine ae ?_;refine jH ?_;refine ae ?_;refine ⟨k+1,⟨_,_,Wk.aC aq,_,Z,hs++[_],rfl,?_,ak,by simp [E9],Pn _ ⟨a1,c1,rfl⟩,bU _⟩,by show l.length - (k+1) < l.length - k;omega⟩;rw [UO];rfl
 ·have dd:decide ((k:Int) < ((l.map aw).length:Int))=false:=by rw [hm];simpa using ak
  have lz:k=l.length:=by omega
  subst lz;rw [take_length,Nat.sub_self,List.replicate_zero,append_nil] at hR;subst hR;rw [take_length];refine bH ?_;refine ae ?_;refine ic ?_;refine oS 0 rfl cj rfl (fun x hx=>?_) ⟨_,hs,⟨_,_,by rw [hm]⟩,E9,MS,rfl,rfl⟩
  rcases List.mem_cons.1 hx with rfl | hx
  ·rfl
  ·obtain ⟨i,hi⟩:=getElem?_of_mem hx;rw [List.getElem?_zipWith] at hi;split at hi
   ·cases hi;rfl
   ·cases hi
def lI (x:Nd) (h:Value):List GV:=[.v (ii x.kind),.v (ii x.at_),.v (ii x.n),.v (sv x.s),.v h]
def mR (x:Nd) (h:Value):Ob:=.vech 3 1 (bc x.kids) h
theorem Qw (x:Nd) (hp:x.kids.length<=1048576):GC Tryz.prog 102 [.agg (ay x)] [] fun g Δ=>∃ h,Hd x.kids.length h/\g=.agg (lI x h)/\Δ=[mR x h]:=by
 have h0:=Qu x.kids hp;refine ai Tryz.func102 Tryz.ntmps102 ?_;refine cm [] h0 ?_;rintro _ _ ⟨_,⟨a1,c1,rfl⟩,rfl,rfl⟩;refine cW ?_;refine ae ?_;refine ic ?_;refine JO 3 rfl cj rfl rfl rfl rfl ?_ ?_
 ·intro x hx;rw [List.mem_singleton.1 hx];rfl
 ·exact ⟨_,⟨_,_,rfl⟩,rfl,rfl⟩
theorem Oa (l:List Nd) (hl:l.length<=1048576) (he:∀ x∈l,x.kids.length<=1048576):GC Tryz.prog 44 [.sl 5 (l.map ay)] [] fun g Δ=>∃ h hs,Hd l.length h/\hs.length=l.length/\(∀ (i:Nat) x y,l[i]?=some x->hs[i]?=some y->Hd x.kids.length y)/\g=.v h /\
  Δ=.vech 91 5 (List.zipWith lI l hs) h::List.zipWith mR l hs:=by
 have hm:(l.map ay).length=l.length:=by simp
 refine ai Tryz.func44 Tryz.ntmps44 ?_;refine GL.zt rfl ⟨by omega,by omega⟩ ?_;intro a c;refine bI ?_;refine ae ?_
 refine GW.loop (fun k:Nat=>l.length - k) (fun k fr Γ=>∃ R Z hs,fr=[.sl 5 (l.map ay),.U,.U,.v (.slice a (l.map ay).length c),.v (ii (k:Nat)),.U,.U,.U,.U,.U,.U,.U,.U,.U,.U,.U,.U,.U,.U,.U,.U,.U,.U]/\Γ=.vech 91 5 R (.slice a (l.map ay).length c)::List.zipWith mR (l.take k) hs/\k<=l.length/\hs.length=k /\
  (∀ (i:Nat) x y,l[i]?=some x->hs[i]?=some y->Hd x.kids.length y)/\R=List.zipWith lI (l.take k) hs++List.replicate (l.length - k) Z) 0 ?_ ?_
 ·exact ⟨_,_,Wk.aC aq,_,_,[],rfl,rfl,Nat.zero_le _,rfl,(fun i x y _ h=>by simp at h),by rw [hm];rfl⟩
 rintro k _ _ ⟨R,Z,hs,rfl,rfl,hk,E9,MS,hR⟩
 have nA:R.length=l.length:=by rw [hR,length_append,length_zipWith,length_take,List.length_replicate];omega
 have eE:R.length=(l.map ay).length:=by rw [hm];exact nA
 by_cases ak:k < l.length
 ·have hx:l[k]?=some l[k]:=by simp [ak]
  have hr:(l.map ay)[k]?=some (ay l[k]):=by rw [getElem?_map,hx];rfl
  have dd:decide ((k:Int) < ((l.map ay).length:Int))=true:=by rw [hm];simpa using ak
  have hex:=he _ (mem_of_getElem? hx);have hc:=Qw l[k] hex
  have jZ:l.take (k+1)=l.take k++[l[k]]:=by rw [take_add_one,hx];rfl
  have M6:∀ {γ:Type} (f:Nd->Value->γ) (h:Value),List.zipWith f (l.take (k+1)) (hs++[h])=List.zipWith f (l.take k) hs++[f l[k] h]:=fun f h=>by
   rw [jZ,List.zipWith_append (by rw [length_take];omega)];rfl
  have bU:∀ h,R.set k (lI l[k] h)=List.zipWith lI (l.take (k+1)) (hs++[h])++List.replicate (l.length - (k+1)) Z:=fun h=>by
   have hz:(List.zipWith lI (l.take k) hs).length=k:=by rw [length_zipWith,length_take];omega
   rw [hR,M6,show l.length - k=(l.length - (k+1))+1 by omega,List.replicate_succ,List.set_append_right _ _ ag,hz,Nat.sub_self,List.set_cons_zero];simp
  have Pn:∀ h,Hd l[k].kids.length h->∀ (i:Nat) x y,l[i]?=some x->(hs++[h])[i]?=some y->Hd x.kids.length y:=fun h hh i x y h1 h2=>by
   by_cases hik:i < hs.length
   ·rw [List.getElem?_append_left hik] at h2;exact MS i x y h1 h2
   ·have h3:=(List.getElem?_eq_some_iff.1 h2).1;rw [length_append,List.length_singleton] at h3
    have:i=k:=by omega
    subst this;rw [List.getElem?_append_right ag,E9,Nat.sub_self] at h2;rw [hx] at h1
    cases h1;cases h2;exact hh
  clear hR;have UO:=M6 mR;unfold lI mR at hc;generalize hlx:l[k]=x at *;refine ae ?_;refine cm [] hc ?_;rintro _ _ ⟨_,⟨a1,c1,rfl⟩,rfl,rfl⟩;refine cW ?_;refine ae ?_;refine jH ?_;refine ae ?_;refine ⟨k+1,⟨_,_,Wk.aC aq,_,Z,hs++[_],rfl,?_,ak,by simp [E9],Pn _ ⟨a1,c1,rfl⟩,bU _⟩,by show l.length - (k+1) < l.length - k;omega⟩;rw [UO];rfl
 ·have dd:decide ((k:Int) < ((l.map ay).length:Int))=false:=by rw [hm];simpa using ak
  have lz:k=l.length:=by omega
  subst lz;rw [take_length,Nat.sub_self,List.replicate_zero,append_nil] at hR;subst hR;rw [take_length];refine bH ?_;refine ae ?_;refine ic ?_;refine oS 0 rfl cj rfl (fun x hx=>?_) ⟨_,hs,⟨_,_,by rw [hm]⟩,E9,MS,rfl,rfl⟩
  rcases List.mem_cons.1 hx with rfl | hx
  ·rfl
  ·obtain ⟨i,hi⟩:=getElem?_of_mem hx;rw [List.getElem?_zipWith] at hi;split at hi
   ·cases hi;rfl
   ·cases hi
def jm (p:Src) (hg ha hf hn:Value) (fs ns:List Value):List Ob :=
 .vech 9 1 (b9 p.globals) hg::.vech 88 2 (p.arrays.map aD) ha::.vech 60 3 (List.zipWith qd p.fns fs) hf::(List.zipWith rn p.fns fs++.vech 91 5 (List.zipWith lI p.nodes ns) hn::List.zipWith mR p.nodes ns)
structure BI (p:Src) (hg ha hf hn:Value) (fs ns:List Value):Prop where
 g:Hd p.globals.length hg
 a:Hd p.arrays.length ha
 f:Hd p.fns.length hf
 n:Hd p.nodes.length hn
 fl:fs.length=p.fns.length
 nl:ns.length=p.nodes.length
 fh:∀ (i:Nat) x y,p.fns[i]?=some x->fs[i]?=some y->Hd x.params.length y
 nh:∀ (i:Nat) x y,p.nodes[i]?=some x->ns[i]?=some y->Hd x.kids.length y
theorem Ay {α:Type} {f:α->Value->Ob} (hf:∀ a h,(f a h).lR=true) {l:List α} {hs:List Value}:∀ x∈List.zipWith f l hs,x.lR=true:=fun x hx=>by
 obtain ⟨i,hi⟩:=getElem?_of_mem hx;rw [List.getElem?_zipWith] at hi;split at hi
 ·cases hi;exact hf _ _
 ·cases hi
theorem Al (p:Src) (hg ha hf hn:Value) (fs ns:List Value):∀ x∈jm p hg ha hf hn fs ns,x.lR=true:=fun x hx=>by
 unfold jm at hx
 rcases List.mem_cons.1 hx with rfl | hx
 ·rfl
 rcases List.mem_cons.1 hx with rfl | hx
 ·rfl
 rcases List.mem_cons.1 hx with rfl | hx
 ·rfl
 rcases List.mem_append.1 hx with hx | hx
 ·exact Ay (fun _ _=>rfl) x hx
 rcases List.mem_cons.1 hx with rfl | hx
 ·rfl
 ·exact Ay (fun _ _=>rfl) x hx
theorem GP {α:Type} {f:α->Value->Ob} (hf:∀ a h,(f a h).lR=true) {l:List α} {hs:List Value} (r:Nat->Nat):(List.zipWith f l hs).map (Ob.dx r)=List.zipWith f l hs:=by
 refine (List.map_congr_left fun x hx=>?_).trans (List.map_id _);have:=Ay hf x hx
 cases x <;> first | rfl | cases this
theorem K8 (x:Src) (hg:x.globals.length<=1048576) (ha:x.arrays.length<=1048576) (hf:x.fns.length<=1048576) (AY:∀ f∈x.fns,f.params.length<=1048576) (hn:x.nodes.length<=1048576) (xL:∀ n∈x.nodes,n.kids.length<=1048576) :
  GC Tryz.prog 12 [.agg (ax x)] [] fun g Δ=>∃ hg ha hf hn fs ns,BI x hg ha hf hn fs ns/\g=.agg [.v hg,.v ha,.v hf,.v hn]/\Δ=jm x hg ha hf hn fs ns:=by
 have h0:=zC x.globals hg;have h1:=KZ x.arrays ha;have h2:=Tr x.fns hf AY;have h3:=Oa x.nodes hn xL;refine ai Tryz.func12 Tryz.ntmps12 ?_;refine cm [] h0 ?_;rintro _ _ ⟨_,⟨a0,c0,rfl⟩,rfl,rfl⟩;refine cW ?_;refine ae ?_;refine cm [] h1 ?_;rintro _ _ ⟨_,⟨a1,c1,rfl⟩,rfl,rfl⟩;refine cW ?_;refine ae ?_;refine cm [] h2 ?_;rintro _ _ ⟨_,fs,⟨a2,c2,rfl⟩,e1,e2,rfl,rfl⟩;rw [List.map_cons,GP (fun _ _=>rfl)];refine cW ?_;refine ae ?_;refine cm [] h3 ?_;rintro _ _ ⟨_,ns,⟨a3,c3,rfl⟩,e3,e4,rfl,rfl⟩;rw [List.map_cons,GP (fun _ _=>rfl)];refine cW ?_;refine ae ?_;refine ic ?_;refine JO 3 rfl cj rfl rfl rfl rfl ?_ ?_
 ·exact Al x _ _ _ _ fs ns
 ·exact ⟨_,_,_,_,fs,ns,⟨⟨_,_,rfl⟩,⟨_,_,rfl⟩,⟨_,_,rfl⟩,⟨_,_,rfl⟩,e1,e3,e2,e4⟩,rfl,rfl⟩
end Go.Xg
namespace Go.Xg
open Go.RowKit Go.Xw Go.Proofs
open Go.Xp (Nd T Ar aP az)
open Go.Sp (Src)
open Go.Im
attribute [local irreducible] GW GL GO YG GC GA aU aZ
section
variable {B:Bs} {K:Fz} {β:Bt} {w:World} {l:List Value} {fr:List GV} {A C:List Ob}
theorem gS {x y:Operand} {E k:Nat} {rows:List (List GV)} {h z:Value} (hI:Inv B K β (A++(.vech E k rows h::C)) w) (hF:FR K β fr l) (hx:aX fr x=.v h) (hy:aX fr y=.v z) :
  ∃ K1,jh K1 w/\gD K1 (fun _=>.no) w/\ba K1 (fun _=>.no) ([x,y].map (ev l)) [.sl k rows,.v z]:=by
 obtain ⟨K1,hk,h1,h2,h3⟩:=hI.view (i:=A.length) (E:=E) (k:=k) (rows:=rows) (x:=h) (by rw [List.getElem?_append_right (Nat.le_refl _),Nat.sub_self];rfl);refine ⟨K1,h1,h2,?_⟩;show ba K1 _ [ev l x,ev l y] _;rw [hF.gU hx,hF.gU hy];exact .cons h3 (.cons (.v _) .nil)
end
theorem vF (l:List ah):(b9 l).length=l.length:=by simp [b9]
theorem OO (xs:List Int) (s:Int) (hl:xs.length<=1099511627776):GF Tryz.prog 110 [ints xs,.v (ii s)] [] (.v (ii (cD (fun x=>s==x) xs))) []:=by
 have dI:(xs.map fun i=>[GV.v (ii i)]).length=xs.length:=by simp
 refine ai Tryz.func110 Tryz.ntmps110 ?_;refine GW.range (xs.map fun i=>[GV.v (ii i)]).length (fun k fr Γ=>fr=[ints xs,.v (ii s),.U,.U,.U,.U,ints xs,.v (ii ((xs.map fun i=>[GV.v (ii i)]).length:Int)),.v (ii (k:Nat)),.U,.U,.U,.U,.U,.U,.U,.U,.U,.U]/\Γ=[]/\((xs.take k).all fun x=>!(s==x))=true) ?_ ag ?_ ?_ ?_
 ·exact jy
 ·exact gx
 ·rintro k _ _ ak ⟨rfl,rfl,aQ⟩;rw [dI] at ak;obtain ⟨x,cI⟩:∃ x,xs[k]?=some x:=⟨xs[k],by simp [ak]⟩;have hr:=pC cI;have bu:=lW (f:=fun y:Int=>s==y) cI
  have hit:=fun h0=>lZ (f:=fun y:Int=>s==y) cI h0 aQ
  cases hb:(s==x) with
  | true =>
   rw [hit hb];exact av
  | false =>
   refine ae ?_;exact ⟨rfl,rfl,_,_,Wk.aC aq,rfl,rfl,by rw [bu,aQ,hb];rfl⟩
 ·rintro _ _ ⟨rfl,rfl,aQ⟩;rw [dI,take_length] at aQ;rw [jz aQ];exact av
theorem yX (xs:List Int) (s:Int) (hl:xs.length<=1099511627776):GF Tryz.prog 56 [ints xs,.v (ii s)] [] (.v (.bool (xs.contains s))) []:=by
 have hi:=OO xs s hl
 have he:xs.contains s=xs.any (fun x=>s==x):=by rw [List.contains_eq_any_beq]
 rw [he,<-CX];generalize cD (fun x=>s==x) xs=i at *;refine ai Tryz.func56 Tryz.ntmps56 ?_;refine ab [] hi ?_;exact al
end Go.Xg
set_option maxHeartbeats 4000000
namespace Go.Xg
open Go.RowKit Go.Xw Go.Proofs
open Go.Xp (Nd T Ar aP az)
open Go.Sp (Src)
open Go.Im
attribute [local irreducible] GW GL GO YG GC GA aU aZ
theorem FZ (l:List ah):ma (l.map fun s=>[GV.v (sv s)])=true:=by
 induction l with
 | nil=>rfl
 | cons s l ih=>rw [List.map_cons,ma,ih];rfl
theorem GW.Ma {P:Program} {m:Nat} {c:Code} {Q:dB} {fr b7:List GV} {Γ aK:List Ob} (h1:sN fr b7) (h2:Γ=aK) (h:GW P m c Q b7 aK):GW P m c Q fr Γ:=by
 subst h2;exact GW.wk (Wk.aC h1) h
def uc (n:Nd):Bool:=(n.kind==4&&n.s==[115,105,122,101])&&((n.kids.length:Int)==1)
theorem Bb (p:Src) (a:Nat) (n:Nd) (hn:p.nodes[a]?=some n):GF Tryz.prog 172 [.agg (ax p),.v (ii (a:Nat))] [] (.v (.bool (uc n))) []:=by
 have hr:=jT hn
 have eR:(n.kids.map fun i=>[GV.v (ii i)]).length=n.kids.length:=by simp
 unfold uc;rw [<-eR];unfold ay ints at hr;generalize (n.kids.map fun i=>[GV.v (ii i)])=kk at *
 cases h1:(n.kind==4)
 all_goals cases h2:(n.s==[115,105,122,101])
 all_goals
  refine ai Tryz.func172 Tryz.ntmps172 ?_;exact al
theorem Vs (p:Src) (s:ah) (hn:p.fns.length<=1099511627776):GF Tryz.prog 245 [.agg (ax p),.v (sv s)] [] (.v (ii (nj p s))) []:=by
 have hF:=Mk p s hn;unfold nj oT pX iN
 cases h1:(s==[103,101,116]) with
 | true =>
  rw [if_pos (by simpa using h1)];refine ai Tryz.func245 Tryz.ntmps245 ?_;exact al
 | false =>
  rw [if_neg (by simpa using h1)]
  cases h2:(s==[112,117,116]) with
  | true =>
   rw [if_pos (.inl (by simpa using h2))];refine ai Tryz.func245 Tryz.ntmps245 ?_;exact al
  | false =>
   cases h3:(s==[115,105,122,101]) with
   | true =>
    rw [if_pos (.inr (by simpa using h3))];refine ai Tryz.func245 Tryz.ntmps245 ?_;exact al
   | false =>
    rw [if_neg (by simpa using And.intro (show ¬ s=[112,117,116] by simpa using h2) (show ¬ s=[115,105,122,101] by simpa using h3))];unfold cD at hF
    cases hx:p.fns.findIdx? (fun f:Go.Sp.Fn=>f.name==s) with
    | none =>
     rw [hx] at hF
     have hd:decide ((0:Int) <= -1)=false:=by decide
     refine ai Tryz.func245 Tryz.ntmps245 ?_;refine ab [] hF ?_;exact al
    | some i =>
     rw [hx] at hF;have hi:i < p.fns.length:=(List.findIdx?_eq_some_iff_getElem.1 hx).1;obtain ⟨f,hf⟩:∃ f,p.fns[i]?=some f:=⟨p.fns[i],by simp [hi]⟩
     have hr:(p.fns.map aw)[i]?=some (aw f):=by rw [getElem?_map,hf];rfl
     have cQ:(f.params.map fun s=>[GV.v (sv s)]).length=f.params.length:=by simp
     have hd:decide ((0:Int)<=((i:Nat):Int))=true:=by simp
     unfold aw at hr;simp only at hF |-;unfold lD;rw [hf];simp only;rw [<-cQ];refine ai Tryz.func245 Tryz.ntmps245 ?_;refine ab [] hF ?_;exact al
end Go.Xg
namespace Go.Xg
open Go.RowKit Go.Xw Go.Proofs
open Go.Xp (Nd T Ar aP az dV bX)
open Go.Sp (Src)
open Go.Im
attribute [local irreducible] GW GL GO YG GC GA aU aZ
theorem IB {p:Src} {a:Nat} {n:Nd} {l:List T} (cn:et p.nodes a (.mk n l)):dO (.mk n l)=uc n:=by
 rw [et] at cn;unfold dO uc iN
 congr 1
 rw [cn.2.1,dV]
 exact Bool.eq_iff_iff.2 (by
  show ((l.length==1)=true)↔_
  simp only [beq_iff_eq];omega)
theorem G6 (p:Src) (a:Nat) (n:Nd) (l:List T) (ls:List ah) (cn:et p.nodes a (.mk n l)) (iK:p.fns.length<=1099511627776) (jo:p.arrays.length<=1099511627776) (my:ls.length<=1099511627776) :
  GF Tryz.prog 209 [.agg (ax p),.v (ii (a:Nat)),strs ls] [] (.v (ii (eW p (.mk n l) ls))) []:=by
 have hs:=IB cn;rw [et] at cn;obtain ⟨hn,hk,ua⟩:=cn;have hS:=Bb p a n hn;have hr:=jT hn
 have eR:(n.kids.map fun i=>[GV.v (ii i)]).length=l.length:=by rw [length_map,hk,dV]
 unfold eW;rw [hs]
 cases hz:uc n with
 | true =>
  rw [hz] at hS;rw [if_pos rfl]
  have eS:l.length=1:=by
   unfold uc at hz;simp only [Bool.and_eq_true,beq_iff_eq] at hz;rw [hk,dV] at hz;omega
  obtain ⟨u,rfl⟩:∃ u,l=[u]:=by
   match l,eS with
   | [u],_=>exact ⟨u,rfl⟩
  have hm:p.nodes[a+1]?=some u.n:=by
   rw [dw] at ua;have:=ua.1
   cases u;rw [et] at this;exact this.1
  have zj:n.kids[0]?=some (((a+1:Nat)):Int):=by rw [hk];rfl
  have oH:=pC zj;have fX:=jT hm;show GF _ _ _ _ (.v (ii (if fU p u.n ls=true then 24 else 0))) _;generalize u.n=m at *;have hA:=CM p m.s jo;have hL:=kp ls m.s my;have hb:fU p m ls=((m.kind != 2 || decide (cD (fun x:Ar=>x.name==m.s) p.arrays < 0)) || ls.contains m.s):=rfl;rw [hb];generalize cD (fun x:Ar=>x.name==m.s) p.arrays=z at *;unfold ay at hr fX
  cases h1:(m.kind != 2) with
  | true =>
   refine ai Tryz.func209 Tryz.ntmps209 ?_;refine ab [] hS ?_;refine aI (aB 0 8 (.a 8 (.a 9 .nil))) ?_;refine ar ?_;exact av
  | false =>
   cases h2:decide (z < 0) with
   | true =>
    refine ai Tryz.func209 Tryz.ntmps209 ?_;refine ab [] hS ?_;refine aI (aB 0 8 (.a 8 (.a 9 .nil))) ?_;refine bf ?_;refine ab [] hA ?_;exact al
   | false =>
    generalize ls.contains m.s=b at *;cases b
    all_goals
     refine ai Tryz.func209 Tryz.ntmps209 ?_;refine ab [] hS ?_;refine aI (aB 0 8 (.a 8 (.a 9 .nil))) ?_;refine bf ?_;refine ab [] hA ?_;refine ab [] hL ?_;exact al
 | false =>
  rw [hz] at hS;rw [if_neg aJ];have hM:=Vs p n.s iK;show GF _ _ _ _ (.v (ii (if nj p n.s = -1 then 22 else if nj p n.s=(l.length:Int) then 0 else 23))) _;generalize nj p n.s=z at *;rw [<-eR];unfold ay at hr;unfold ints at hr;generalize (n.kids.map fun i=>[GV.v (ii i)])=kk at *
  cases h1:(z == -1) with
  | true =>
   rw [if_pos (by simpa using h1)];refine ai Tryz.func209 Tryz.ntmps209 ?_;refine ab [] hS ?_;refine ab [] hM ?_;exact al
  | false =>
   rw [if_neg (by simpa using h1)]
   cases h2:(z==(kk.length:Int)) with
   | true =>
    rw [if_pos (by simpa using h2)];refine ai Tryz.func209 Tryz.ntmps209 ?_;refine ab [] hS ?_;refine ab [] hM ?_;exact al
   | false =>
    rw [if_neg (by simpa using h2)];refine ai Tryz.func209 Tryz.ntmps209 ?_;refine ab [] hS ?_;refine ab [] hM ?_;exact al
theorem Hq (p:Src) (a:Nat) (n:Nd) (l:List T) (ls:List ah) (cn:et p.nodes a (.mk n l)) (iK:p.fns.length<=1099511627776) (jo:p.arrays.length<=1099511627776) (jq:p.globals.length<=1099511627776) (my:ls.length<=1099511627776) :
  GF Tryz.prog 173 [.agg (ax p),.v (ii (a:Nat)),strs ls] [] (.v (ii (bY p (.mk n l) ls))) []:=by
 have hC:=G6 p a n l ls cn iK jo my
 have hn:p.nodes[a]?=some n:=by rw [et] at cn;exact cn.1
 clear cn;have hr:=jT hn;have hL:=kp ls n.s my;have hG:=kp p.globals n.s jq;have hA:=CM p n.s jo
 have pQ:(ls.map fun s=>[GV.v (sv s)]).length=ls.length:=by simp
 have he:bY p (.mk n l) ls=(if n.kind=13 then (if ls.contains n.s=true then 21 else if ls.length>=40 then 26 else 0)
  else if n.kind=2\/n.kind=7 then (if ls.contains n.s=false/\p.globals.contains n.s=false then 22 else 0)
  else if n.kind=3\/n.kind=8 then (if ls.contains n.s=true\/cD (fun x:Ar=>x.name==n.s) p.arrays < 0 then 24 else 0)
  else if n.kind=4 then eW p (.mk n l) ls else 0):=rfl
 rw [he];generalize eW p (.mk n l) ls=cf at *;obtain ⟨kd,at_,nn,s,ks⟩:=n;simp only at *;unfold ay at hr;simp only at hr;generalize cD (fun x:Ar=>x.name==s) p.arrays=z at *;generalize ls.contains s=b at *;generalize p.globals.contains s=g at *;rw [<-pQ]
 by_cases eH:kd=13
 ·subst eH
  have I1:((13:Int)==13)=true:=by decide
  rw [if_pos rfl]
  cases b with
  | true =>
   refine ai Tryz.func173 Tryz.ntmps173 ?_;refine ab [] hL ?_;exact al
  | false =>
   cases h4:decide ((40:Int)<=(((ls.map fun s=>[GV.v (sv s)]).length:Nat):Int)) with
   | true =>
    rw [if_neg aJ,if_pos (by simp at h4;omega)];refine ai Tryz.func173 Tryz.ntmps173 ?_;refine ab [] hL ?_;exact al
   | false =>
    rw [if_neg aJ,if_neg (by simp at h4;omega)];refine ai Tryz.func173 Tryz.ntmps173 ?_;refine ab [] hL ?_;exact al
 rw [if_neg eH]
 by_cases h2:kd=2
 ·subst h2
  have I1:((2:Int)==13)=false:=by decide
  have q2:((2:Int)==2)=true:=by decide
  rw [if_pos aJ]
  cases b with
  | true =>
   refine ai Tryz.func173 Tryz.ntmps173 ?_;refine ab [] hL ?_;exact al
  | false =>
   cases g
   all_goals
    refine ai Tryz.func173 Tryz.ntmps173 ?_;refine ab [] hL ?_;refine ab [] hG ?_;exact al
 by_cases h7:kd=7
 ·subst h7
  have I1:((7:Int)==13)=false:=by decide
  have q2:((7:Int)==2)=false:=by decide
  have q7:((7:Int)==7)=true:=by decide
  rw [if_pos aJ]
  cases b with
  | true =>
   refine ai Tryz.func173 Tryz.ntmps173 ?_;refine ab [] hL ?_;exact al
  | false =>
   cases g
   all_goals
    refine ai Tryz.func173 Tryz.ntmps173 ?_;refine ab [] hL ?_;refine ab [] hG ?_;exact al
 rw [if_neg (by rintro (h | h);(· exact h2 h);exact h7 h)]
 by_cases h3:kd=3
 ·subst h3
  have I1:((3:Int)==13)=false:=by decide
  have q2:((3:Int)==2)=false:=by decide
  have q7:((3:Int)==7)=false:=by decide
  have q3:((3:Int)==3)=true:=by decide
  rw [if_pos aJ]
  cases b with
  | true =>
   refine ai Tryz.func173 Tryz.ntmps173 ?_;refine ab [] hL ?_;exact al
  | false =>
   cases hz:decide (z < 0) with
   | true =>
    rw [if_pos (.inr (by simpa using hz))];refine ai Tryz.func173 Tryz.ntmps173 ?_;refine ab [] hL ?_;refine ab [] hA ?_;exact al
   | false =>
    rw [if_neg (by rintro (h | h);(· cases h);(· simp at hz;omega))];refine ai Tryz.func173 Tryz.ntmps173 ?_;refine ab [] hL ?_;refine ab [] hA ?_;exact al
 by_cases h8:kd=8
 ·subst h8
  have I1:((8:Int)==13)=false:=by decide
  have q2:((8:Int)==2)=false:=by decide
  have q7:((8:Int)==7)=false:=by decide
  have q3:((8:Int)==3)=false:=by decide
  have q8:((8:Int)==8)=true:=by decide
  rw [if_pos aJ]
  cases b with
  | true =>
   refine ai Tryz.func173 Tryz.ntmps173 ?_;refine ab [] hL ?_;exact al
  | false =>
   cases hz:decide (z < 0) with
   | true =>
    rw [if_pos (.inr (by simpa using hz))];refine ai Tryz.func173 Tryz.ntmps173 ?_;refine ab [] hL ?_;refine ab [] hA ?_;exact al
   | false =>
    rw [if_neg (by rintro (h | h);(· cases h);(· simp at hz;omega))];refine ai Tryz.func173 Tryz.ntmps173 ?_;refine ab [] hL ?_;refine ab [] hA ?_;exact al
 rw [if_neg (by rintro (h | h);(· exact h3 h);exact h8 h)]
 by_cases h4:kd=4
 ·subst h4
  have I1:((4:Int)==13)=false:=by decide
  have q2:((4:Int)==2)=false:=by decide
  have q7:((4:Int)==7)=false:=by decide
  have q3:((4:Int)==3)=false:=by decide
  have q8:((4:Int)==8)=false:=by decide
  have q4:((4:Int)==4)=true:=by decide
  rw [if_pos rfl];refine ai Tryz.func173 Tryz.ntmps173 ?_;refine ab [] hL ?_;refine ab [] hC ?_;exact al
 rw [if_neg h4]
 have I1:(kd==13)=false:=by simpa using eH
 have q2:(kd==2)=false:=by simpa using h2
 have q7:(kd==7)=false:=by simpa using h7
 have q3:(kd==3)=false:=by simpa using h3
 have q8:(kd==8)=false:=by simpa using h8
 have q4:(kd==4)=false:=by simpa using h4
 refine ai Tryz.func173 Tryz.ntmps173 ?_;refine ab [] hL ?_;exact al
theorem T9 {K K1:Fz} {β:Bt} {v:Value} {gs:List GV} (hk:cl K K1) (hp:∀ g∈gs,g.pc=true) (h:Rel K β v (.agg gs)):Rel K1 (fun _=>.no) v (.agg gs):=by
 cases h with
 | agg vs cs hl h =>
  exact .agg vs gs hl fun i v g h1 h2=>((h i v g h1 h2).mono hk (cY.refl β)).pc (hp g (mem_of_getElem? h2))
theorem JJ (p:Src):∀ g∈ax p,g.pc=true:=fun g hg=>by
 simp only [ax,List.mem_cons,List.not_mem_nil,or_false] at hg
 rcases hg with rfl | rfl | rfl | rfl <;> rfl
theorem nQ {B:Bs} {K:Fz} {β:Bt} {w:World} {l:List Value} {fr:List GV} {A C:List Ob} {p:Src} {x y u:Operand} {E k:Nat} {rows:List (List GV)} {h z:Value} (hI:Inv B K β (A++(.vech E k rows h::C)) w) (hF:FR K β fr l) (hx:aX fr x=.agg (ax p)) (hy:aX fr y=.v z) (hu:aX fr u=.v h) :
  ∃ K1,jh K1 w/\gD K1 (fun _=>.no) w/\ba K1 (fun _=>.no) ([x,y,u].map (ev l)) [.agg (ax p),.v z,.sl k rows]:=by
 obtain ⟨K1,hk,h1,h2,h3⟩:=hI.view (i:=A.length) (E:=E) (k:=k) (rows:=rows) (x:=h) (by rw [List.getElem?_append_right (Nat.le_refl _),Nat.sub_self];rfl);have hr:=hF.ev x;rw [hx] at hr;refine ⟨K1,h1,h2,?_⟩;show ba K1 _ [ev l x,ev l y,ev l u] _;rw [hF.gU hy,hF.gU hu];exact .cons (T9 hk (JJ p) hr) (.cons (.v _) (.cons h3 .nil))
theorem Tn (p:Src) (a:Nat) (n:Nd) (l:List T) (ls:List ah) (c:CS) (E1 E5 E6:TypeId) (ad:Option Addr) (cp:Nat) (cn:et p.nodes a (.mk n l)) (iK:p.fns.length<=1099511627776) (jo:p.arrays.length<=1099511627776) (jq:p.globals.length<=1099511627776) (my:ls.length<=1099511627776) :
  GF Tryz.prog 171 [.v (ii (a:Nat)),.v (.slice ad ls.length cp),.loc 0 0,.loc 1 0,.box (ax p) 0,.loc 2 0] [.box E1 [.v (ii c.code)],.box E5 [.v (ii c.skip)],.box E6 [.v (ii c.place)],.vech 9 1 (b9 ls) (.slice ad ls.length cp)] (.tup [])
   [.box E1 [.v (ii (cv p c a (.mk n l) ls).code)],.box E5 [.v (ii (cv p c a (.mk n l) ls).skip)],.box E6 [.v (ii (cv p c a (.mk n l) ls).place)],.vech 9 1 (b9 ls) (.slice ad ls.length cp)]:=by
 have hs:=IB cn;have hN:=Hq p a n l ls cn iK jo jq my;rw [et] at cn;obtain ⟨hn,hk,ua⟩:=cn;have hS:=Bb p a n hn;have hr:=jT hn;obtain ⟨code,place,skip⟩:=c;unfold cv;rw [hs];simp only;generalize bY p (.mk n l) ls=z at *
 cases h1:(code != 0) with
 | true =>
  rw [if_pos (.inl (by simpa using h1))];refine ai Tryz.func171 Tryz.ntmps171 ?_;exact fT
 | false =>
  cases h2:(((a:Nat):Int)==skip) with
  | true =>
   rw [if_pos (.inr (by simpa using h2))];refine ai Tryz.func171 Tryz.ntmps171 ?_;exact fT
  | false =>
   rw [if_neg (by rintro (h | h);(· simp at h1;exact h h1);(· simp at h2;exact h2 h))];simp only
   cases hz:uc n with
   | false =>
    rw [hz] at hS;rw [if_neg (show ¬ (false=true) by decide)];unfold ay at hr
    cases h3:(z != 0) with
    | true =>
     rw [if_pos (by simpa using h3)];refine ai Tryz.func171 Tryz.ntmps171 ?_;refine ab [] hS ?_;refine GL.borrow hN (fun B K β w l hI hF=>nQ (A:=[_,_,_]) (C:=[]) hI hF rfl rfl rfl) ?_;refine cr ?_;exact me
    | false =>
     rw [if_neg (by simpa using h3)];refine ai Tryz.func171 Tryz.ntmps171 ?_;refine ab [] hS ?_;refine GL.borrow hN (fun B K β w l hI hF=>nQ (A:=[_,_,_]) (C:=[]) hI hF rfl rfl rfl) ?_;refine cr ?_;exact me
   | true =>
    rw [hz] at hS;rw [if_pos rfl]
    have eS:l.length=1:=by
     unfold uc at hz;simp only [Bool.and_eq_true,beq_iff_eq] at hz;rw [hk,dV] at hz;omega
    obtain ⟨u,rfl⟩:∃ u,l=[u]:=by
     match l,eS with
     | [u],_=>exact ⟨u,rfl⟩
    have hm:p.nodes[a+1]?=some u.n:=by
     rw [dw] at ua;have:=ua.1
     cases u;rw [et] at this;exact this.1
    have zj:n.kids[0]?=some (((a+1:Nat)):Int):=by rw [hk];rfl
    have oH:=pC zj;have fX:=jT hm;rw [show nE (.mk n [u])=u.n from rfl];generalize u.n=m at *;unfold ay at hr fX
    cases h4:(m.kind != 2) with
    | true =>
     rw [if_pos (show m.kind≠2 by simpa using h4)]
     cases h3:(z != 0) with
     | true =>
      rw [if_pos (by simpa using h3)];refine ai Tryz.func171 Tryz.ntmps171 ?_;refine ab [] hS ?_;refine GL.borrow hN (fun B K β w l hI hF=>nQ (A:=[_,_,_]) (C:=[]) hI hF rfl rfl rfl) ?_;refine cr ?_;exact me
     | false =>
      rw [if_neg (by simpa using h3)];refine ai Tryz.func171 Tryz.ntmps171 ?_;refine ab [] hS ?_;refine GL.borrow hN (fun B K β w l hI hF=>nQ (A:=[_,_,_]) (C:=[]) hI hF rfl rfl rfl) ?_;refine cr ?_;exact me
    | false =>
     rw [if_neg (show ¬ (m.kind≠2) by simpa using h4)]
     cases h3:(z != 0) with
     | true =>
      rw [if_pos (by simpa using h3)];refine ai Tryz.func171 Tryz.ntmps171 ?_;refine ab [] hS ?_;refine GL.borrow hN (fun B K β w l hI hF=>nQ (A:=[_,_,_]) (C:=[]) hI hF rfl rfl rfl) ?_;refine cr ?_;exact me
     | false =>
      rw [if_neg (by simpa using h3)];refine ai Tryz.func171 Tryz.ntmps171 ?_;refine ab [] hS ?_;refine GL.borrow hN (fun B K β w l hI hF=>nQ (A:=[_,_,_]) (C:=[]) hI hF rfl rfl rfl) ?_;refine cr ?_;exact me
end Go.Xg
namespace Go.Xg
open Go.RowKit Go.Xw Go.Proofs
open Go.Xp (Nd T Ar aP az dV)
open Go.Sp (Src)
open Go.Im
attribute [local irreducible] GW GL GO YG GC GA aU aZ
def Jg (p:Src):GV:=.fn (.func 171) [] [.loc 0 0,.loc 1 0,.box (ax p) 0,.loc 2 0]
def RO (p:Src):GV:=.fn (.func 127) [] [.loc 3 0,.loc 4 0,.box (ax p) 0,.loc 5 0]
def DA (p:Src) (E1 E5 E6 E2 E3 E4:TypeId) (s:CS) (ls:List ah) (ad:Option Addr) (cp:Nat):List Ob :=
 [.box E1 [.v (ii s.code)],.box E5 [.v (ii s.skip)],.box E6 [.v (ii s.place)],.box E2 [Jg p],.box E3 [.v (.slice ad ls.length cp)],.box E4 [RO p],.vech 9 1 (b9 ls) (.slice ad ls.length cp)]
theorem QE (p:Src) (E1 E5 E6 E2 E3 E4:TypeId) (hp:p.nodes.length<=1048576) (eR:∀ n∈p.nodes,n.kids.length<=1099511627776) (iK:p.fns.length<=1099511627776) (jo:p.arrays.length<=1099511627776) (jq:p.globals.length<=1099511627776):∀ (N:Nat) (t:T),aP t<=N->∀ (a:Nat) (s:CS) (ls:List ah) (ad:Option Addr) (cp:Nat),et p.nodes a t->ls.length+aP t<=8388608 ->
  GC Tryz.prog 127 [.v (ii (a:Nat)),.loc 3 0,.loc 4 0,.box (ax p) 0,.loc 5 0] (DA p E1 E5 E6 E2 E3 E4 s ls ad cp) fun g Δ=>g=.tup []/\∃ qm qo,Δ=DA p E1 E5 E6 E2 E3 E4 (iD (cv p) t a s ls).1 (iD (cv p) t a s ls).2 qm qo:=by
 intro N
 induction N with
 | zero=>intro t h;have:=km t;omega
 | succ N ih =>
 intro t hN a s ls ad cp cn my
 cases t with
 | mk n l =>
 rw [Go.Xp.aP] at hN my;have U0:=cn;rw [et] at cn;obtain ⟨hn,hk,ua⟩:=cn;rw [iD];have hr:=jT hn;have oF:=eR n (mem_of_getElem? hn);have ht:=Tn p a n l ls s E1 E5 E6 ad cp U0 iK jo jq ag;generalize gy:(cv p) s a (.mk n l) ls=s1 at *
 have A0:n.kids.length=l.length:=by rw [hk,dV]
 unfold ay at hr;unfold DA Jg RO;refine ai Tryz.func127 Tryz.ntmps127 ?_;refine GL.vS [0,1,2,6] ht rfl rfl rfl (by repeat (first | exact trivial | refine ⟨rfl,?_⟩)) ?_;rintro _ _ ⟨rfl,rfl⟩;refine cW ?_;refine ae ?_;refine GW.range (n.kids.map fun i=>[GV.v (ii i)]).length (fun k fr Γ=>∃ qm qo,fr=[.v (ii (a:Nat)),.loc 3 0,.loc 4 0,.box (ax p) 0,.loc 5 0,.U,.U,.U,.U,.U,.U,.U,.U,.U,.U,.U,.U,ints n.kids,.v (ii ((n.kids.map fun i=>[GV.v (ii i)]).length:Int)),.v (ii (k:Nat)),.U,.U,.U,.U,.U,.U,.U,.U,.U,.U,.U,.U,.U,.U,.U,.U,.U,.U,.U,.U,.U,.U,.U]/\Γ=DA p E1 E5 E6 E2 E3 E4 (dU (cv p) (l.take k) (a+1) s1 ls).1 (dU (cv p) (l.take k) (a+1) s1 ls).2 qm qo) ?_ (by rw [length_map];omega) ?_ ?_ ?_
 ·exact ⟨_,_,Wk.aC aq,ad,cp,rfl,rfl⟩
 ·rintro k _ _ ⟨ad,cp,rfl,rfl⟩;exact dS
 ·rintro k _ _ ak ⟨ad,cp,rfl,rfl⟩;rw [length_map,A0] at ak;obtain ⟨u,hu⟩:∃ u,l[k]?=some u:=⟨l[k],by simp [ak]⟩;have iL:=xV (n:=a+1) hu;rw [<-hk] at iL;have rE:=pC iL;have cS:=tI hu;have U1:et p.nodes (a+1+az (l.take k)) u:=dw.ix l (a+1) k u ua hu
  have hlen:(dU (cv p) (l.take k) (a+1) s1 ls).2.length<=ls.length+az (l.take k):=by
   rw [qF,length_append];have:=uw (l.take k);omega
  rw [EH _ hu];generalize (dU (cv p) (l.take k) (a+1) s1 ls).1=s2 at *;generalize (dU (cv p) (l.take k) (a+1) s1 ls).2=ls2 at *;have hv:=ih u ag (a+1+az (l.take k)) s2 ls2 ad cp U1 ag;unfold DA Jg RO at hv |-;refine ae ?_;refine GL.vS [0,1,2,3,4,5,6] hv rfl rfl rfl (by repeat (first | exact trivial | refine ⟨rfl,?_⟩)) ?_;rintro _ _ ⟨rfl,qm,qo,rfl⟩;refine cW ?_;refine ae ?_;exact ⟨rfl,rfl,_,_,Wk.aC aq,qm,qo,rfl,rfl⟩
 ·rintro _ _ ⟨ad,cp,rfl,rfl⟩;rw [length_map,A0,take_length]
  have hlen:(dU (cv p) l (a+1) s1 ls).2.length<=ls.length+az l:=by
   rw [qF,length_append];have:=uw l;omega
  generalize (dU (cv p) l (a+1) s1 ls).1=s2 at *;generalize (dU (cv p) l (a+1) s1 ls).2=ls2 at *;have Rb:(b9 ls2).length=ls2.length:=vF ls2;unfold DA Jg RO;refine bb ?_
  cases hv:(n.kind==13) with
  | false =>
   rw [if_neg (by simpa using hv)];refine ae ?_;refine cV ?_;exact ⟨rfl,ad,cp,rfl⟩
  | true =>
   rw [if_pos (by simpa using hv)];refine ae ?_;refine aI (aB 0 7 (.a 7 (.a 8 (.a 9 .nil)))) ?_;refine ar ?_;refine ey ?_;refine ar ?_;refine OA rfl rfl (GL.pJ 6 (news:=[[.v (sv n.s)]]) rfl rfl rfl aY rfl rfl (by refine ⟨?_,?_⟩;(· show _+1<=_;omega);(· show (_+1) * _<=_;omega)) ?_);intro sO sS;refine dy ?_;refine bf ?_;refine cV ?_;exact ⟨rfl,sO,sS,by simp [b9]⟩
theorem Sk (p:Src) (E1 E5 E6:TypeId) (i:Nat) (f:Go.Sp.Fn) (t:T) (s:CS) (hp:p.nodes.length<=1048576) (eR:∀ n∈p.nodes,n.kids.length<=1099511627776) (iK:p.fns.length<=1099511627776) (jo:p.arrays.length<=1099511627776) (jq:p.globals.length<=1099511627776)
  (hf:p.fns[i]?=some f) (xN:f.params.length<=1048576) (hb:0<=f.body) (cn:et p.nodes f.body.toNat t) (cS:aP t<=1048576) :
  GF Tryz.prog 88 [.agg (ax p),.v (ii (i:Nat)),Jg p] [.box E1 [.v (ii s.code)],.box E5 [.v (ii s.skip)],.box E6 [.v (ii s.place)]] (.tup []) [.box E1 [.v (ii (iD (cv p) t f.body.toNat s f.params).1.code)],.box E5 [.v (ii (iD (cv p) t f.body.toNat s f.params).1.skip)],.box E6 [.v (ii (iD (cv p) t f.body.toNat s f.params).1.place)]]:=by
 have hr:(p.fns.map aw)[i]?=some (aw f):=by rw [getElem?_map,hf];rfl
 have cQ:(f.params.map fun s=>[GV.v (sv s)]).length=f.params.length:=by simp
 have gZ:=FZ f.params;obtain ⟨b,xE⟩:∃ b:Nat,f.body=(b:Int):=⟨f.body.toNat,by omega⟩;rw [xE,Int.toNat_natCast] at cn |-;unfold aw at hr;rw [xE] at hr;unfold Jg;refine da Tryz.func88 Tryz.ntmps88 ?_;refine jg ?_;refine GL.wk (Wk.freeze (i:=3) rfl rfl rfl (Nat.le_refl _)) ?_;refine GN (by simp only [ot,ny];rfl) ?_;refine GL.wk (Wk.aC (b7:=[.U,.v (ii (i:Nat)),.U,.box (ax p) 0,.U,.loc 4 0,.U,.U,.U,.U,.U,.U,.U,strs f.params,.U,.U,.U,.U,.U,.U,.U,.U,.U,.U]) aq) ?_;refine GL.wk (Wk.oY 9 1) ?_;refine GL.DY 5 rfl rfl rfl rfl gZ (by refine ⟨?_,?_⟩;(· rw [cQ];omega);(· rw [cQ];omega)) ?_;intro ad cp;rw [cQ];refine cr ?_;simp only [nil_append,List.length_nil,Nat.zero_add];refine ae ?_;refine GW.Ma (b7:=[.U,.v (ii (i:Nat)),.U,.box (ax p) 0,.U,.loc 4 0,.loc 6 0,.loc 7 0,.U,.U,.U,.U,.U,.U,.U,.U,.U,.U,.U,.U,.U,.U,.U,.U]) (aK:=[.box E1 [.v (ii s.code)],.box E5 [.v (ii s.skip)],.box E6 [.v (ii s.place)],.gone,.box _ [.fn (.func 171) [] [.loc 0 0,.loc 1 0,.box (ax p) 0,.loc 2 0]],.vech 9 1 (b9 f.params) (.slice ad f.params.length cp),.box _ [.v (.slice ad f.params.length cp)],.box _ [.fn (.func 127) [] [.loc 4 0,.loc 6 0,.box (ax p) 0,.loc 7 0]]]) aq rfl ?_;refine aI (aB 0 7 (.a 7 .nil)) ?_;refine ar ?_;have hv:=QE p E1 E5 E6;refine OA rfl rfl (GL.vS [0,1,2,4,6,7,5] (hv _ _ _ hp eR iK jo jq _ t (Nat.le_refl _) b s f.params ad cp cn ag) rfl rfl rfl (by repeat (first | exact trivial | refine ⟨rfl,?_⟩)) ?_);rintro _ _ ⟨rfl,qm,qo,rfl⟩;refine ⟨by simp [DA],?_⟩;unfold DA;refine dy ?_;refine ar ?_;exact me
end Go.Xg
namespace Go.Im
open Go.Xp Go.Sp
theorem HU {l:List ah}:uD l=false↔∀ k,k < l.length->nS l k=false:=by
 unfold uD;rw [any_eq_false];constructor
 ·intro h k hk;have:=h k (List.mem_range.2 hk);simpa using this
 ·intro h k hk;rw [h k (List.mem_range.1 hk)];decide
end Go.Im
namespace Go.Xg
open Go.RowKit Go.Xw Go.Proofs
open Go.Xp (Nd T Ar aP az dV)
open Go.Sp (Src)
open Go.Im
theorem YG.D6 {P:Program} {fr:List GV} {Γ:List Ob} {x up:Operand} {t e:TypeId} {k:Nat} [hT:mi P t e k] {rows:List (List GV)} {kk:IntKind} {i:Nat} (hx:aX fr x=.sl k rows) (hup:aX fr up=.v (.int kk i)) (hi:i < rows.length):YG P (.slice t x none (some up) none) fr Γ (.sl k (rows.take i)):=fun B K β w l hI hF=>by
 have h:=hF.ev x;rw [hx] at h;have Ip:=hF.gU hup;generalize hv:ev l x=v at h
 cases h with
 | sl0 a c=>simp at hi
 | sl b o c _ _ h hc =>
  refine ⟨.slice (some ⟨b,o,none⟩) i c,fun d ty pos af=>?_,?_⟩
  ·have oc:¬ (c=0):=by omega
   have hle:(i:Int)<=(c:Int):=by omega
   have zV:i<=c:=by omega
   simp [execOp,Instr.sliceAt,Instr.slice,Instr.sliceBounds,Instr.sliceBound,asIntOf,hv,Ip,run_underlying hT.und,iI hT.siz,oc,hle,zV,pI]
  ·have:=Rel.sl (K:=K) (β:=β) b o c k (rows.take i) (fun j r hr=>?_) (by simp;omega)
   ·rw [length_take,Nat.min_eq_left (Nat.le_of_lt hi)] at this;exact this
   ·have hj:j < i:=by
     rcases Nat.lt_or_ge j i with h1 | h1
     ·exact h1
     ·rw [List.getElem?_eq_none (by rw [length_take];omega)] at hr;cases hr
    rw [List.getElem?_take,if_pos hj] at hr;exact h j r hr
attribute [local irreducible] GW GL GO YG GC GA aU aZ
theorem Ml (p:Src) (i:Nat) (f:Go.Sp.Fn) (t:T) (hp:p.nodes.length<=1048576) (eR:∀ n∈p.nodes,n.kids.length<=1099511627776) (iK:p.fns.length<=1099511627776) (jo:p.arrays.length<=1099511627776) (jq:p.globals.length<=1099511627776)
  (hf:p.fns[i]?=some f) (xN:f.params.length<=1048576) (hb:0<=f.body) (cn:et p.nodes f.body.toNat t) (cS:aP t<=1048576) :
  GF Tryz.prog 140 [.agg (ax p),.v (ii (i:Nat))] [] (.tup [.v (ii (fk p f t f.body.toNat).1),.v (ii (fk p f t f.body.toNat).2)]) []:=by
 have hr:(p.fns.map aw)[i]?=some (aw f):=by rw [getElem?_map,hf];rfl
 have dI:(f.params.map fun s=>[GV.v (sv s)]).length=f.params.length:=by simp
 have hE:=Sk p 3 3 3 i f t ⟨0,0,-1⟩ hp eR iK jo jq hf xN hb cn cS;unfold aw at hr;unfold fk;refine ai Tryz.func140 Tryz.ntmps140 ?_;refine GW.range (f.params.map fun s=>[GV.v (sv s)]).length (fun k fr Γ=>fr=[.U,.v (ii (i:Nat)),.loc 0 0,.U,.U,.U,strs f.params,.U,.U,.U,.U,.U,.U,.U,.U,.U,.U,.U,strs f.params,.v (ii ((f.params.map fun s=>[GV.v (sv s)]).length:Int)),.v (ii (k:Nat)),.U,.U,.U,.U,.U,.U,.U,.U,.U,.U,.U,.U,.U,.U,.U,.U]/\Γ=[.box 34 (ax p)]/\∀ j,j < k->nS f.params j=false) ?_ ag ?_ ?_ ?_
 ·exact ⟨_,_,Wk.aC aq,rfl,rfl,fun j hj=>absurd hj (Nat.not_lt_zero _)⟩
 ·exact gx
 ·rintro k _ _ ak ⟨rfl,rfl,aQ⟩;have mT:=ak;rw [dI] at ak;obtain ⟨x,hx⟩:∃ x,f.params[k]?=some x:=⟨f.params[k],by simp [ak]⟩
  have Ri:(f.params.map fun s=>[GV.v (sv s)])[k]?=some [.v (sv x)]:=by rw [getElem?_map,hx];rfl
  have hC:=kp (f.params.take k) x (by rw [length_take];omega)
  have hd:nS f.params k=(f.params.take k).contains x:=by unfold nS;rw [hx]
  rw [<-hd] at hC;unfold strs at hC;rw [map_take] at hC
  cases eI:nS f.params k with
  | true =>
   rw [eI] at hC
   have UA:uD f.params=true:=by
    cases h:uD f.params with
    | true=>rfl
    | false=>rw [HU.1 h k ak] at eI;cases eI
   rw [if_pos UA];refine ae ?_;refine GL.q (YG.D6 rfl rfl mT) ?_;refine cr ?_;refine ae ?_;refine ab [] hC ?_;exact mf
  | false =>
   rw [eI] at hC;refine ae ?_;refine GL.q (YG.D6 rfl rfl mT) ?_;refine cr ?_;refine ae ?_;refine ab [] hC ?_
   exact ⟨rfl,rfl,_,_,Wk.aC aq,rfl,rfl,fun j hj=>by
    rcases Nat.lt_succ_iff_lt_or_eq.1 hj with h | rfl
    ·exact aQ j h
    ·exact eI⟩
 ·rintro _ _ ⟨rfl,rfl,aQ⟩;rw [dI] at aQ;rw [if_neg (by rw [HU.2 aQ];decide)];refine bb ?_;refine GW.wk (Wk.freeze (i:=0) rfl rfl rfl (Nat.zero_le _)) ?_;refine GW.Ma (b7:=[.U,.v (ii (i:Nat)),.box (ax p) 0,.U,.U,.U,.U,.U,.U,.U,.U,.U,.U,.U,.U,.U,.U,.U,.U,.U,.U,.U,.U,.U,.U,.U,.U,.U,.U,.U,.U,.U,.U,.U,.U,.U,.U]) (aK:=[.gone]) aq rfl ?_;refine ae ?_;refine ab [1,3,2] hE ?_;refine aI (aB 0 4 .nil) ?_;refine ar ?_;exact qZ
end Go.Xg
namespace Go.Im
open Go.Xp Go.Sp
theorem sj {l:List Ar} {k:Nat} {a:Ar} (h:l[k]?=some a):dC (l.take (k+1))=dC (l.take k)+a.size:=by
 unfold dC;rw [take_add_one,h,List.foldl_append];rfl
theorem uC {l:List Ar} (h:∀ a∈l,0<=a.size/\a.size<=2147483648):∀ k,0<=dC (l.take k)/\dC (l.take k)<=(k:Int) * 2147483648:=by
 intro k
 induction k with
 | zero=>simp [dC]
 | succ k ih =>
  cases hx:l[k]? with
  | none =>
   have:l.take (k+1)=l.take k:=by rw [take_add_one,hx];simp
   rw [this];omega
  | some a =>
   have:=h a (mem_of_getElem? hx);rw [sj hx];omega
end Go.Im
namespace Go.Xg
open Go.RowKit Go.Xw Go.Proofs
open Go.Xp (Nd T Ar aP az)
open Go.Sp (Src)
open Go.Im
attribute [local irreducible] GW GL GO YG GC GA aU aZ
theorem Od (p:Src) (iK:p.fns.length<=1099511627776) (jo:p.arrays.length<=1048576) (cS:∀ a∈p.arrays,0<=a.size/\a.size<=2147483648):GF Tryz.prog 137 [.agg (ax p)] [] (.v (.bool (iy p))) []:=by
 have dI:(p.arrays.map aD).length=p.arrays.length:=by simp
 have jK:(p.fns.map aw).length=p.fns.length:=by simp
 have jq:(p.globals.map fun s=>[GV.v (sv s)]).length=p.globals.length:=by simp
 have hC:=tM (mn:=170) (fun x=>decide (x.params.length > 40)) p.fns iK (fun x _=>K9 x);unfold iy;generalize p.fns.any (fun x=>decide (x.params.length > 40))=b4 at *;have hb:=uC cS;refine ai Tryz.func137 Tryz.ntmps137 ?_;refine GW.range (p.arrays.map aD).length (fun k fr Γ=>fr=[.U,.loc 0 0,.U,.v (ii (dC (p.arrays.take k))),.U,.U,.U,.sl 2 (p.arrays.map aD),.v (ii ((p.arrays.map aD).length:Int)),.v (ii (k:Nat)),.U,.U,.U,.U,.U,.U,.U,.U,.U,.U,.U,.U,.U,.U,.U,.U,.U,.U,.U,.U,.U,.U,.U,.U,.U,.U,.U,.U,.U,.U]/\Γ=[.box 34 (ax p)]/\(p.arrays.take k).all (fun a=>!(a.size==0))=true) ?_ ag ?_ ?_ ?_
 ·exact jy
 ·exact gx
 ·rintro k _ _ ak ⟨rfl,rfl,aQ⟩;rw [dI] at ak;obtain ⟨x,hx⟩:∃ x,p.arrays[k]?=some x:=⟨p.arrays[k],by simp [ak]⟩
  have hr:(p.arrays.map aD)[k]?=some (aD x):=by rw [getElem?_map,hx];rfl
  have bu:=lW (f:=fun a:Ar=>a.size==0) hx;have gV:=sj hx;have ek:=hb k;have px:=cS x (mem_of_getElem? hx);unfold aD at hr
  cases h1:(x.size==0) with
  | true =>
   have:p.arrays.any (fun a=>a.size==0)=true:=List.any_eq_true.2 ⟨x,mem_of_getElem? hx,h1⟩;rw [this];exact av
  | false =>
   rw [gV];generalize dC (p.arrays.take k)=c at *;refine ae ?_;exact ⟨rfl,rfl,_,_,(Wk.cut (n:=1) (Nat.zero_le _) rfl).trans (Wk.aC aq),rfl,rfl,by rw [bu,aQ,h1];rfl⟩
 ·rintro _ _ ⟨rfl,rfl,aQ⟩;rw [dI,take_length] at aQ |-
  have:p.arrays.any (fun a=>a.size==0)=false:=by
   rw [any_eq_false];rw [List.all_eq_true] at aQ;intro x hx;simpa using aQ x hx
  rw [this];have e1:decide (p.fns.length > 40)=decide ((40:Int) < ((p.fns.map aw).length:Int)):=decide_eq_decide.2 (by rw [jK];omega);have e2:decide (p.globals.length > 29)=decide ((29:Int) < ((p.globals.map fun s=>[GV.v (sv s)]).length:Int)):=decide_eq_decide.2 (by rw [jq];omega);have e3:decide (dC p.arrays > 8000)=decide ((8000:Int) < dC p.arrays):=rfl;rw [e1,e2,e3];generalize dC p.arrays=c at *;refine bb ?_
  cases h1:decide ((40:Int) < ((p.fns.map aw).length:Int))
  all_goals cases h2:decide ((29:Int) < ((p.globals.map fun s=>[GV.v (sv s)]).length:Int))
  all_goals cases h3:decide ((8000:Int) < c)
  all_goals
   refine ae ?_
   first
    | (refine bR ?_;exact ⟨rfl,rfl⟩)
    | (refine iz [] hC ?_;refine ae ?_;refine bR ?_;exact ⟨rfl,rfl⟩)
end Go.Xg
namespace Go.Im
open Go.Xp Go.Sp
theorem BL {l:List ah}:dY l=false↔∀ k,k < l.length->kj l k=false:=by
 unfold dY;rw [any_eq_false];constructor
 ·intro h k hk;have:=h k (List.mem_range.2 hk);simpa using this
 ·intro h k hk;rw [h k (List.mem_range.1 hk)];decide
theorem EM (p:Src) (l:List T) (a:Nat):fm p [] l a=(0,0):=by unfold fm;rfl
end Go.Im
namespace Go.Xg
open Go.RowKit Go.Xw Go.Proofs
open Go.Xp (Nd T Ar aP az)
open Go.Sp (Src)
open Go.Im
attribute [local irreducible] GW GL GO YG GC GA aU aZ
theorem Li (p:Src) (hF:GF Tryz.prog 136 [.agg (ax p)] [] (.v (.bool false)) []):GF Tryz.prog 103 [.agg (ax p)] [] (.tup [.v (ii 20),.v (ii 0)]) []:=by
 refine ai Tryz.func103 Tryz.ntmps103 ?_;refine ab [] hF ?_;exact mf
theorem Jp (p:Src) (l:List T) (ns:List ah) (A2:ns.length<=8388608) (jK:p.fns.length=l.length) (iK:p.fns.length<=1048576)
  (hF:GF Tryz.prog 136 [.agg (ax p)] [] (.v (.bool true)) [])
  (hA:GC Tryz.prog 82 [.agg (ax p)] [] fun g Δ=>∃ a c,g=.v (.slice a ns.length c)/\Δ=[.vech 9 1 (b9 ns) (.slice a ns.length c)])
  (hT:GF Tryz.prog 137 [.agg (ax p)] [] (.v (.bool (iy p))) [])
  (hq:∀ i f t,p.fns[i]?=some f->l[i]?=some t->GF Tryz.prog 140 [.agg (ax p),.v (ii (i:Nat))] [] (.tup [.v (ii (fk p f t (az (l.take i))).1),.v (ii (fk p f t (az (l.take i))).2)]) []) :
  GF Tryz.prog 103 [.agg (ax p)] []
   (.tup [.v (ii (if dY ns=true then ((21,0):Int × Int) else if iy p=true then (26,0) else if p.fns.any mC=false then (25,0) else fm p p.fns l 0).1),.v (ii (if dY ns=true then ((21,0):Int × Int) else if iy p=true then (26,0) else if p.fns.any mC=false then (25,0) else fm p p.fns l 0).2)]) []:=by
 have dI:(ns.map fun s=>[GV.v (sv s)]).length=ns.length:=by simp
 have vd:(p.fns.map aw).length=p.fns.length:=by simp
 have hM:=tM (mn:=139) mC p.fns ag (fun x _=>OH x);generalize iy p=tm at *;refine ai Tryz.func103 Tryz.ntmps103 ?_;refine ab [] hF ?_;refine cm [] hA ?_;rintro _ _ ⟨ad,cp,rfl,rfl⟩;refine cW ?_;refine GL.wk (Wk.rm (t:=14) (i:=1) rfl rfl rfl) ?_;refine GL.wk (Wk.cut (n:=1) (Nat.zero_le _) rfl) ?_;refine GL.wk (Wk.aC (b7:=[.U,.loc 0 0,.U,.U,.U,.U,.U,.U,.U,.U,.U,.U,.U,.U,strs ns,.U,.U,.U,.U,.U,.U,.U,.U,.U,.U,.U,.U,.U,.U,.U,.U,.U,.U,.U,.U,.U,.U,.U,.U,.U,.U,.U,.U,.U,.U,.U,.U,.U,.U,.U,.U,.U,.U,.U,.U]) aq) ?_;refine cr ?_;refine ae ?_;refine GW.range (ns.map fun s=>[GV.v (sv s)]).length (fun k fr Γ=>fr=[.U,.loc 0 0,.U,.U,strs ns,.U,.U,.U,.U,.U,.U,.U,.U,.U,.U,strs ns,.v (ii ((ns.map fun s=>[GV.v (sv s)]).length:Int)),.v (ii (k:Nat)),.U,.U,.U,.U,.U,.U,.U,.U,.U,.U,.U,.U,.U,.U,.U,.U,.U,.U,.U,.U,.U,.U,.U,.U,.U,.U,.U,.U,.U,.U,.U,.U,.U,.U,.U,.U,.U]/\Γ=[.box 34 (ax p)]/\∀ j,j < k->kj ns j=false) ?_ ag ?_ ?_ ?_
 ·exact ⟨_,_,Wk.aC aq,rfl,rfl,fun j hj=>absurd hj (Nat.not_lt_zero _)⟩
 ·exact gx
 ·rintro k _ _ ak ⟨rfl,rfl,aQ⟩;have mT:=ak;rw [dI] at ak;obtain ⟨x,hx⟩:∃ x,ns[k]?=some x:=⟨ns[k],by simp [ak]⟩
  have Ri:(ns.map fun s=>[GV.v (sv s)])[k]?=some [.v (sv x)]:=by rw [getElem?_map,hx];rfl
  have hR:=Ng x;have hC:=kp (ns.take k) x (by rw [length_take];omega)
  have hd:kj ns k=(l6 x || (ns.take k).contains x):=by unfold kj;rw [hx]
  unfold strs at hC;rw [map_take] at hC
  cases h1:l6 x with
  | true =>
   rw [h1] at hR hd
   have xE:dY ns=true:=by
    cases h:dY ns with
    | true=>rfl
    | false=>rw [BL.1 h k ak] at hd;simp at hd
   rw [if_pos xE];refine ae ?_;refine ab [] hR ?_;exact mf
  | false =>
   rw [h1] at hR hd
   cases eI:(ns.take k).contains x with
   | true =>
    rw [eI] at hC hd
    have xE:dY ns=true:=by
     cases h:dY ns with
     | true=>rfl
     | false=>rw [BL.1 h k ak] at hd;simp at hd
    rw [if_pos xE];refine ae ?_;refine ab [] hR ?_;refine GL.q (YG.D6 rfl rfl mT) ?_;refine cr ?_;refine ae ?_;refine ab [] hC ?_;exact mf
   | false =>
    rw [eI] at hC hd;refine ae ?_;refine ab [] hR ?_;refine GL.q (YG.D6 rfl rfl mT) ?_;refine cr ?_;refine ae ?_;refine ab [] hC ?_
    exact ⟨rfl,rfl,_,_,Wk.aC aq,rfl,rfl,fun j hj=>by
     rcases Nat.lt_succ_iff_lt_or_eq.1 hj with h | rfl
     ·exact aQ j h
     ·exact hd⟩
 ·rintro _ _ ⟨rfl,rfl,aQ⟩;rw [dI] at aQ;rw [if_neg (show ¬ dY ns=true by rw [BL.2 aQ];decide)];refine bb ?_
  cases tm with
  | true =>
   rw [if_pos rfl];refine ae ?_;refine ab [] hT ?_;exact mf
  | false =>
   rw [if_neg aJ]
   cases hmn:p.fns.any mC with
   | false =>
    rw [hmn] at hM;rw [if_pos rfl];refine ae ?_;refine ab [] hT ?_;refine ab [] hM ?_;exact mf
   | true =>
    rw [hmn] at hM;rw [if_neg aJ];refine ae ?_;refine ab [] hT ?_;refine ab [] hM ?_;refine GW.range (p.fns.map aw).length (fun k fr Γ=>fr=[.U,.loc 0 0,.U,.U,.U,.U,.U,.U,.U,.U,.U,.U,.U,.U,.U,.U,.U,.U,.U,.U,.U,.U,.U,.U,.U,.U,.U,.U,.U,.U,.U,.U,.U,.U,.U,.U,.U,.U,.U,.sl 3 (p.fns.map aw),.v (ii ((p.fns.map aw).length:Int)),.v (ii (k:Nat)),.U,.U,.U,.U,.U,.U,.U,.U,.U,.U,.U,.U,.U]/\Γ=[.box 34 (ax p)]/\fm p p.fns l 0=fm p (p.fns.drop k) (l.drop k) (az (l.take k))) ?_ ag ?_ ?_ ?_
    ·exact ⟨_,_,Wk.aC aq,rfl,rfl,by rw [List.drop_zero,List.drop_zero,List.take_zero,az]⟩
    ·exact gx
    ·rintro k _ _ ak ⟨rfl,rfl,he⟩;rw [vd] at ak;obtain ⟨f,hf⟩:∃ f,p.fns[k]?=some f:=⟨p.fns[k],by simp [ak]⟩;obtain ⟨t,ht⟩:∃ t,l[k]?=some t:=⟨l[k]'ag,getElem?_eq_getElem _⟩;have hQ:=hq k f t hf ht
     have MN:p.fns.drop k=f::p.fns.drop (k+1):=by rw [List.drop_eq_getElem_cons ak];rw [getElem?_eq_getElem ak] at hf;rw [Option.some.inj hf]
     have dd:l.drop k=t::l.drop (k+1):=by rw [List.drop_eq_getElem_cons ag];rw [getElem?_eq_getElem ag] at ht;rw [Option.some.inj ht]
     rw [MN,dd,fm,<-Qq ht] at he
     cases h1:((fk p f t (az (l.take k))).1 != 0) with
     | true =>
      rw [if_pos (by simpa using h1)] at he;rw [he];generalize fk p f t (az (l.take k))=r at *;refine ae ?_;refine ab [] hQ ?_;exact mf
     | false =>
      rw [if_neg (by simpa using h1)] at he;generalize fk p f t (az (l.take k))=r at *;refine ae ?_;refine ab [] hQ ?_;exact ⟨rfl,rfl,_,_,Wk.aC aq,rfl,rfl,he⟩
    ·rintro _ _ ⟨rfl,rfl,he⟩;rw [vd,List.drop_length,EM] at he;rw [he];refine bb ?_;exact qZ
theorem MA (p:Src) (c z:Int) (h:GF Tryz.prog 103 [.agg (ax p)] [] (.tup [.v (ii c),.v (ii z)]) []):GF Tryz.prog 45 [.agg (ax p)] [] (.v (.bool (c==0))) []:=by
 refine ai Tryz.func45 Tryz.ntmps45 ?_;refine ab [] h ?_;exact al
end Go.Xg
set_option maxHeartbeats 2000000
namespace Go.Xg
open Go.RowKit Go.Xw Go.Proofs
open Go.Xp (Nd T Ar)
open Go.Sp (Src)
open Go.Im
attribute [local irreducible] GW GL GO YG GC GA aU aZ
def cC (p:Src) (h:Value) (c:SS):List GV:=[strs p.globals,.sl 2 (p.arrays.map aD),.sl 3 (p.fns.map aw),.sl 5 (p.nodes.map ay),.v h,.v (ii c.code),.v (ii c.at_)]
theorem gW (p:Src) (h:Value) (c:SS) (k z:Int):GF Tryz.prog 153 [.loc 0 0,.v (ii k),.v (ii z)] [.box 133 (cC p h c)] (.tup []) [.box 133 (cC p h (c.fail k z))]:=by
 unfold SS.fail
 cases hc:(c.code==0) with
 | true =>
  rw [if_pos (by simpa using hc)];unfold cC;refine ai Tryz.func153 Tryz.ntmps153 ?_;exact fT
 | false =>
  rw [if_neg (by simpa using hc)];unfold cC;refine ai Tryz.func153 Tryz.ntmps153 ?_;exact fT
theorem Ki (s:ah):GF Tryz.prog 72 [.v (sv s)] [] (.v (.bool (l6 s))) []:=by
 unfold l6 oT pX iN
 cases h1:(s==[103,101,116])
 all_goals cases h2:(s==[112,117,116])
 all_goals
  refine ai Tryz.func72 Tryz.ntmps72 ?_;exact al
theorem Bf (p:Src) (s:ah) (hn:p.arrays.length<=1099511627776):GF Tryz.prog 116 [.agg (ax p),.v (sv s)] [] (.v (ii (cD (fun x:Ar=>x.name==s) p.arrays))) []:=by
 have dI:(p.arrays.map aD).length=p.arrays.length:=by simp
 refine ai Tryz.func116 Tryz.ntmps116 ?_;refine GW.range (p.arrays.map aD).length (fun k fr Γ=>fr=[.U,.v (sv s),.loc 0 0,.U,.U,.U,.U,.U,.sl 2 (p.arrays.map aD),.v (ii ((p.arrays.map aD).length:Int)),.v (ii (k:Nat)),.U,.U,.U,.U,.U,.U,.U,.U,.U,.U]/\Γ=[.box 34 (ax p)]/\(p.arrays.take k).all (fun y=>!(y.name==s))=true) ?_ ag ?_ ?_ ?_
 ·exact jy
 ·exact gx
 ·rintro k _ _ ak ⟨rfl,rfl,aQ⟩;rw [dI] at ak;obtain ⟨x,cI⟩:∃ x,p.arrays[k]?=some x:=⟨p.arrays[k],by simp [ak]⟩
  have hr:(p.arrays.map aD)[k]?=some (aD x):=by rw [getElem?_map,cI];rfl
  have bu:=lW (f:=fun y:Ar=>y.name==s) cI
  have hit:=fun h0=>lZ (f:=fun y:Ar=>y.name==s) cI h0 aQ
  unfold aD at hr
  cases hb:(x.name==s) with
  | true =>
   rw [hit hb];exact av
  | false =>
   refine ae ?_;exact ⟨rfl,rfl,_,_,(Wk.cut (n:=1) (Nat.zero_le _) rfl).trans (Wk.aC aq),rfl,rfl,by rw [bu,aQ,hb];rfl⟩
 ·rintro _ _ ⟨rfl,rfl,aQ⟩;rw [dI,take_length] at aQ;rw [jz aQ];exact av
theorem B8 (p:Src) (s:ah) (hn:p.fns.length<=1099511627776):GF Tryz.prog 117 [.agg (ax p),.v (sv s)] [] (.v (ii (cD (fun x:Go.Sp.Fn=>x.name==s) p.fns))) []:=by
 have dI:(p.fns.map aw).length=p.fns.length:=by simp
 refine ai Tryz.func117 Tryz.ntmps117 ?_;refine GW.range (p.fns.map aw).length (fun k fr Γ=>fr=[.U,.v (sv s),.loc 0 0,.U,.U,.U,.U,.U,.sl 3 (p.fns.map aw),.v (ii ((p.fns.map aw).length:Int)),.v (ii (k:Nat)),.U,.U,.U,.U,.U,.U,.U,.U,.U,.U]/\Γ=[.box 34 (ax p)]/\(p.fns.take k).all (fun y=>!(y.name==s))=true) ?_ ag ?_ ?_ ?_
 ·exact jy
 ·exact gx
 ·rintro k _ _ ak ⟨rfl,rfl,aQ⟩;rw [dI] at ak;obtain ⟨x,cI⟩:∃ x,p.fns[k]?=some x:=⟨p.fns[k],by simp [ak]⟩
  have hr:(p.fns.map aw)[k]?=some (aw x):=by rw [getElem?_map,cI];rfl
  have bu:=lW (f:=fun y:Go.Sp.Fn=>y.name==s) cI
  have hit:=fun h0=>lZ (f:=fun y:Go.Sp.Fn=>y.name==s) cI h0 aQ
  unfold aw at hr
  cases hb:(x.name==s) with
  | true =>
   rw [hit hb];exact av
  | false =>
   refine ae ?_;exact ⟨rfl,rfl,_,_,(Wk.cut (n:=1) (Nat.zero_le _) rfl).trans (Wk.aC aq),rfl,rfl,by rw [bu,aQ,hb];rfl⟩
 ·rintro _ _ ⟨rfl,rfl,aQ⟩;rw [dI,take_length] at aQ;rw [jz aQ];exact av
theorem FC (l:List Int) (n:Int) (hn:l.length<=1099511627776):GF Tryz.prog 51 [ints l,.v (ii n)] [] (.v (.bool (l.contains n))) []:=by
 have dI:(l.map fun i=>[GV.v (ii i)]).length=l.length:=by simp
 refine ai Tryz.func51 Tryz.ntmps51 ?_;refine GW.range (l.map fun i=>[GV.v (ii i)]).length (fun k fr Γ=>fr=[ints l,.v (ii n),.U,.U,.U,.U,.U,ints l,.v (ii ((l.map fun i=>[GV.v (ii i)]).length:Int)),.v (ii (k:Nat)),.U,.U,.U,.U,.U,.U,.U]/\Γ=[]/\(l.take k).contains n=false) ?_ ag ?_ ?_ ?_
 ·exact jy
 ·exact gx
 ·rintro k _ _ ak ⟨rfl,rfl,hc⟩;rw [dI] at ak;obtain ⟨x,cI⟩:∃ x,l[k]?=some x:=⟨l[k],by simp [ak]⟩;have hr:=pC cI
  have bu:(l.take (k+1)).contains n=((l.take k).contains n || (x==n)):=by
   rw [take_add_one,cI,List.contains_append];show (_ || [x].contains n)=_
   congr 1
   rw [List.contains_cons,List.contains_nil,Bool.or_false];exact Bool.beq_comm
  have hm:=mem_of_getElem? cI
  cases hb:(x==n) with
  | true =>
   have h3:x=n:=by simpa using hb
   rw [show l.contains n=true by rw [<-h3];exact List.contains_iff_mem.2 hm];exact av
  | false =>
   refine ae ?_;exact ⟨rfl,rfl,_,_,Wk.aC aq,rfl,rfl,by rw [bu,hc,hb];rfl⟩
 ·rintro _ _ ⟨rfl,rfl,hc⟩;rw [dI,take_length] at hc;rw [hc];exact av
end Go.Xg
set_option maxHeartbeats 4000000
namespace Go.Im
open Go.Xp Go.Sp
def xo (l:List ah) (k:Nat):Bool:=(List.range k).any (nS l)
theorem CV (l:List ah) (k:Nat):xo l (k+1)=(xo l k || nS l k):=by
 unfold xo;rw [List.range_succ,List.any_append];simp
def kg (f:Go.Sp.Fn) (c:SS) (k:Nat):SS:=⟨f.params.take k,if xo f.params k=true then fK c.code 21 else c.code,if xo f.params k=true/\c.code=0 then 0 else c.at_⟩
theorem P6 {f:Go.Sp.Fn} {c:SS} {k:Nat} (h:nS f.params k=true):(kg f c (k+1)).code=((kg f c k).fail 21 0).code/\(kg f c (k+1)).at_=((kg f c k).fail 21 0).at_:=by
 unfold kg SS.fail;simp only [CV,h,Bool.or_true,true_and,if_true];unfold fK
 cases xo f.params k <;> by_cases h0:c.code=0 <;> simp [h0]
theorem NN {f:Go.Sp.Fn} {c:SS} {k:Nat} (h:nS f.params k=false):(kg f c (k+1)).code=(kg f c k).code/\(kg f c (k+1)).at_=(kg f c k).at_:=by
 unfold kg;simp only [CV,h,Bool.or_false,and_self]
end Go.Im
namespace Go.Xg
open Go.RowKit Go.Xw Go.Proofs
open Go.Xp (Nd T Ar aP az)
open Go.Sp (Src)
open Go.Im
attribute [local irreducible] GW GL GO YG GC GA aU aZ
theorem Hj (p:Src) (h0:Value) (c:SS) (f:Go.Sp.Fn) (xN:f.params.length<=1048576) :
  GC Tryz.prog 132 [.loc 0 0,.agg (aw f)] [.box 133 (cC p h0 c)] fun g Δ=>g=.tup []/\∃ ad cp,Δ=[.box 133 (cC p (.slice ad f.params.length cp) (p8 f c)),.vech 9 1 (b9 f.params) (.slice ad f.params.length cp)]:=by
 have dI:(f.params.map fun s=>[GV.v (sv s)]).length=f.params.length:=by simp
 have oW:p8 f c=⟨f.params,(kg f c f.params.length).code,(kg f c f.params.length).at_⟩:=by
  unfold p8 kg xo uD;rfl
 rw [oW]
 have pP:(kg f c 0).code=c.code/\(kg f c 0).at_=c.at_:=by unfold kg xo;simp
 rw [show cC p h0 c=cC p h0 (kg f c 0) by unfold cC;rw [pP.1,pP.2]];unfold cC aw;refine da Tryz.func132 Tryz.ntmps132 ?_;refine GW.wk (Wk.oY 9 1) ?_;simp only [cons_append,nil_append];refine ae ?_;refine GW.range (f.params.map fun s=>[GV.v (sv s)]).length (fun k fr Γ=>∃ ad cp R n B,fr=[.loc 0 0,.U,.U,.loc 2 0,.U,.U,.U,.U,.U,.U,strs f.params,.v (ii ((f.params.map fun s=>[GV.v (sv s)]).length:Int)),.v (ii (k:Nat)),.U,.U,.U,.U,.U,.U,.U,.U,.U,.U,.U,.U,.U,.U,.U,.U,.U,.U,.U,.U,.U,.U]/\Γ=[.box 133 (cC p (.slice ad n cp) (kg f c k)),.vech 9 1 R (.slice ad n cp),B]/\R.length=n/\R=b9 (f.params.take k)) ?_ ag ?_ ?_ ?_
 ·exact ⟨_,_,Wk.aC aq,none,0,[],0,_,rfl,rfl,rfl,by simp [b9]⟩
 ·rintro k _ _ ⟨ad,cp,R,n,B,rfl,rfl,_⟩;exact dS
 ·rintro k _ _ ak ⟨ad,cp,R,n,B,rfl,rfl,eE,hR⟩;rw [dI] at ak;obtain ⟨x,hx⟩:∃ x,f.params[k]?=some x:=⟨f.params[k],by simp [ak]⟩
  have Ri:(f.params.map fun s=>[GV.v (sv s)])[k]?=some [.v (sv x)]:=by rw [getElem?_map,hx];rfl
  have bu:b9 (f.params.take (k+1))=R++[[.v (sv x)]]:=by rw [take_add_one,hx,hR];simp [b9]
  have vg:n<=1048576:=by rw [<-eE,hR,vF,length_take];omega
  have hL:GF Tryz.prog 74 [.sl 1 R,.v (sv x)] [] (.v (.bool ((f.params.take k).contains x))) []:=by
   rw [hR];exact jj (f.params.take k) x (by rw [length_take];omega)
  have hd:nS f.params k=(f.params.take k).contains x:=by unfold nS;rw [hx]
  rw [<-hd] at hL;have gH:=gW p (.slice ad n cp) (kg f c k) 21 0;clear hR
  cases hb:nS f.params k with
  | true =>
   rw [hb] at hL;obtain ⟨e1,e2⟩:=P6 (c:=c) hb;unfold cC at gH |-;rw [e1,e2];generalize (kg f c k).fail 21 0=s1 at *;generalize kg f c k=s0 at *;refine ae ?_;refine GL.borrow hL (fun B K β w l hI hF=>gS (A:=[_]) (C:=[_]) hI hF rfl rfl) ?_;refine cr ?_;refine ae ?_;refine ab [0] gH ?_;refine GL.jv 1 rfl rfl rfl rfl rfl rfl rfl rfl aY mc ?_;intro sO sS;refine bI ?_;refine ae ?_;exact ⟨rfl,rfl,_,_,Wk.aC aq,sO,sS,_,_,_,rfl,rfl,by simp [eE],bu.symm⟩
  | false =>
   rw [hb] at hL;obtain ⟨e1,e2⟩:=NN (c:=c) hb;unfold cC at gH |-;rw [e1,e2];generalize kg f c k=s0 at *;refine ae ?_;refine GL.borrow hL (fun B K β w l hI hF=>gS (A:=[_]) (C:=[_]) hI hF rfl rfl) ?_;refine cr ?_;refine ae ?_;refine GL.jv 1 rfl rfl rfl rfl rfl rfl rfl rfl aY mc ?_;intro sO sS;refine bI ?_;refine ae ?_;exact ⟨rfl,rfl,_,_,Wk.aC aq,sO,sS,_,_,_,rfl,rfl,by simp [eE],bu.symm⟩
 ·rintro _ _ ⟨ad,cp,R,n,B,rfl,rfl,eE,hR⟩;rw [dI] at hR |-;rw [take_length] at hR
  have rD:n=f.params.length:=by rw [<-eE,hR,vF]
  subst rD;refine ae ?_;refine ic ?_;exact Uc (n:=2) rfl cj (Nat.le_of_ble_eq_true rfl) rfl ⟨rfl,ad,cp,by rw [hR];rfl⟩
def cO (p:Src) (c:SS) (ls:List ah) (ad:Option Addr) (cp:Nat):List Ob:=[.box 133 (cC p (.slice ad ls.length cp) c),.vech 9 1 (b9 ls) (.slice ad ls.length cp)]
theorem Hh (p:Src) (c:SS) (n:Nd) (l:List T) (ad:Option Addr) (cp:Nat) (h1:(n.s==[103,101,116])=true) (hl:l.length<=1099511627776) :
  GF Tryz.prog 154 [.loc 0 0,.agg (cT (.mk n l))] (cO p c c.ls ad cp) (.v (.bool true)) (cO p (eD c n l.length 0) c.ls ad cp):=by
 have eX:(aR l).length=l.length:=aS l;unfold cO;unfold eD;show GF _ _ _ _ (.v (.bool true)) [.box _ (cC p _ (if l.length≠0 then _ else _)),_];have gH:=gW p (.slice ad c.ls.length cp) c 23 n.at_;unfold cC at gH |-
 cases hk:(((aR l).length:Int) != ((0:Nat):Int)) with
 | true =>
  rw [if_pos (show l.length≠0 by rw [eX,bne_iff_ne] at hk;omega)];generalize c.fail 23 n.at_=c1 at *;refine ai Tryz.func154 Tryz.ntmps154 ?_;refine ab [0] gH ?_;exact al
 | false =>
  rw [if_neg (show ¬ l.length≠0 by rw [eX,bne_eq_false_iff_eq] at hk;omega)];refine ai Tryz.func154 Tryz.ntmps154 ?_;exact al
theorem Hi (p:Src) (c:SS) (n:Nd) (l:List T) (ad:Option Addr) (cp:Nat) (h1:(n.s==[103,101,116])=false) (h2:(n.s==[112,117,116])=true) (hl:l.length<=1099511627776) :
  GF Tryz.prog 154 [.loc 0 0,.agg (cT (.mk n l))] (cO p c c.ls ad cp) (.v (.bool true)) (cO p (eD c n l.length 1) c.ls ad cp):=by
 have eX:(aR l).length=l.length:=aS l;unfold cO;unfold eD;show GF _ _ _ _ (.v (.bool true)) [.box _ (cC p _ (if l.length≠1 then _ else _)),_];have gH:=gW p (.slice ad c.ls.length cp) c 23 n.at_;unfold cC at gH |-
 cases hk:(((aR l).length:Int) != ((1:Nat):Int)) with
 | true =>
  rw [if_pos (show l.length≠1 by rw [eX,bne_iff_ne] at hk;omega)];generalize c.fail 23 n.at_=c1 at *;refine ai Tryz.func154 Tryz.ntmps154 ?_;refine ab [0] gH ?_;exact al
 | false =>
  rw [if_neg (show ¬ l.length≠1 by rw [eX,bne_eq_false_iff_eq] at hk;omega)];refine ai Tryz.func154 Tryz.ntmps154 ?_;exact al
theorem Kf (p:Src) (c:SS) (n:Nd) (l:List T) (ad:Option Addr) (cp:Nat) (h1:(n.s==[103,101,116])=false) (h2:(n.s==[112,117,116])=false) (h3:(n.s==[115,105,122,101])=false) (hl:l.length<=1099511627776)
  (hF:GF Tryz.prog 117 [.agg (ax p),.v (sv n.s)] [] (.v (ii (-1))) []) :
  GF Tryz.prog 154 [.loc 0 0,.agg (cT (.mk n l))] (cO p c c.ls ad cp) (.v (.bool false)) (cO p (c.fail 22 n.at_) c.ls ad cp):=by
 have gH:=gW p (.slice ad c.ls.length cp) c 22 n.at_
 have hd:decide ((-1:Int) < 0)=true:=by decide
 unfold cO;unfold cC at gH |-;generalize c.fail 22 n.at_=c1 at *;refine ai Tryz.func154 Tryz.ntmps154 ?_;refine aI (aB 0 7 (.a 7 (.q 8 .nil))) ?_;refine ar ?_;refine aE [] hF ?_;refine ae ?_;refine ab [0] gH ?_;exact al
theorem Ke (p:Src) (c:SS) (n:Nd) (l:List T) (i:Nat) (f:Go.Sp.Fn) (ad:Option Addr) (cp:Nat) (h1:(n.s==[103,101,116])=false) (h2:(n.s==[112,117,116])=false) (h3:(n.s==[115,105,122,101])=false) (hl:l.length<=1099511627776)
  (hf:p.fns[i]?=some f) (hF:GF Tryz.prog 117 [.agg (ax p),.v (sv n.s)] [] (.v (ii ((i:Nat):Int))) []) :
  GF Tryz.prog 154 [.loc 0 0,.agg (cT (.mk n l))] (cO p c c.ls ad cp) (.v (.bool true)) (cO p (eD c n l.length f.params.length) c.ls ad cp):=by
 have eX:(aR l).length=l.length:=aS l
 have hd:decide (((i:Nat):Int) < 0)=false:=by simp
 have hr:(p.fns.map aw)[i]?=some (aw f):=by rw [getElem?_map,hf];rfl
 have cQ:(f.params.map fun s=>[GV.v (sv s)]).length=f.params.length:=by simp
 unfold aw at hr;rw [<-cQ];unfold cO;unfold eD;show GF _ _ _ _ (.v (.bool true)) [.box _ (cC p _ (if l.length≠(f.params.map fun s=>[GV.v (sv s)]).length then _ else _)),_];have gH:=gW p (.slice ad c.ls.length cp) c 23 n.at_;unfold cC at gH |-
 cases hk:(((aR l).length:Int) != (((f.params.map fun s=>[GV.v (sv s)]).length:Nat):Int)) with
 | true =>
  rw [if_pos (show l.length≠(f.params.map fun s=>[GV.v (sv s)]).length by rw [eX,bne_iff_ne] at hk;omega)];generalize c.fail 23 n.at_=c1 at *;refine ai Tryz.func154 Tryz.ntmps154 ?_;refine aI (aB 0 7 (.a 7 (.q 8 .nil))) ?_;refine ar ?_;refine aE [] hF ?_;refine ae ?_;refine ab [0] gH ?_;exact al
 | false =>
  rw [if_neg (show ¬ l.length≠(f.params.map fun s=>[GV.v (sv s)]).length by rw [eX,bne_eq_false_iff_eq] at hk;omega)];refine ai Tryz.func154 Tryz.ntmps154 ?_;refine aI (aB 0 7 (.a 7 (.q 8 .nil))) ?_;refine ar ?_;refine aE [] hF ?_;exact av
theorem DS (p:Src) (c:SS) (n:Nd) (u:T) (ad:Option Addr) (cp:Nat) (h1:(n.s==[103,101,116])=false) (h2:(n.s==[112,117,116])=false) (h3:(n.s==[115,105,122,101])=true) (jo:p.arrays.length<=1099511627776) (my:c.ls.length<=1099511627776) :
  GF Tryz.prog 154 [.loc 0 0,.agg (cT (.mk n [u]))] (cO p c c.ls ad cp) (.v (.bool false)) (cO p (if fU p u.n c.ls=true then c.fail 24 n.at_ else c) c.ls ad cp):=by
 have oH:(aR [u])[0]?=some (cT u):=cU rfl;have hA:=Bf p u.n.s jo;have hL:=jj c.ls u.n.s my;have gH:=gW p (.slice ad c.ls.length cp) c 24 n.at_;rw [show fU p u.n c.ls=((u.n.kind != 2 || decide (cD (fun x:Ar=>x.name==u.n.s) p.arrays < 0)) || c.ls.contains u.n.s) from rfl];generalize cD (fun x:Ar=>x.name==u.n.s) p.arrays=z at *;unfold cO;unfold cC at gH |-
 cases h4:(u.n.kind != 2) with
 | true =>
  rw [if_pos (by first | rfl | decide)];generalize c.fail 24 n.at_=c1 at *;refine ai Tryz.func154 Tryz.ntmps154 ?_;refine aI (aB 0 21 (.a 21 (aB 22 13 (.a 35 (.q 36 (.q 37 .nil)))))) ?_;refine ar ?_;refine bf ?_;refine ab [0] gH ?_;exact al
 | false =>
  cases h5:decide (z < 0) with
  | true =>
   rw [if_pos (by first | rfl | decide)];generalize c.fail 24 n.at_=c1 at *;refine ai Tryz.func154 Tryz.ntmps154 ?_;refine aI (aB 0 21 (.a 21 (aB 22 13 (.a 35 (.q 36 (.q 37 .nil)))))) ?_;refine ar ?_;refine bB [] hA ?_;refine bf ?_;refine ab [0] gH ?_;exact al
  | false =>
   generalize c.ls.contains u.n.s=b at *
   cases b with
   | true =>
    rw [if_pos (by first | rfl | decide)];generalize c.fail 24 n.at_=c1 at *;refine ai Tryz.func154 Tryz.ntmps154 ?_;refine aI (aB 0 21 (.a 21 (aB 22 13 (.a 35 (.q 36 (.q 37 .nil)))))) ?_;refine ar ?_;refine bB [] hA ?_;refine Lu rfl rfl rfl (by first | exact rfl | assumption) (GL.borrow hL (fun B K β w l hI hF=>gS (A:=[_]) (C:=[_]) hI hF rfl rfl) ?_);refine dy ?_;refine bf ?_;refine ab [0] gH ?_;exact al
   | false =>
    rw [if_neg aJ];refine ai Tryz.func154 Tryz.ntmps154 ?_;refine aI (aB 0 21 (.a 21 (aB 22 13 (.a 35 (.q 36 (.q 37 .nil)))))) ?_;refine ar ?_;refine bB [] hA ?_;refine Lu rfl rfl rfl (by first | exact rfl | assumption) (GL.borrow hL (fun B K β w l hI hF=>gS (A:=[_]) (C:=[_]) hI hF rfl rfl) ?_);refine dy ?_;refine ar ?_;exact av
theorem DT (p:Src) (c:SS) (n:Nd) (l:List T) (ad:Option Addr) (cp:Nat) (h1:(n.s==[103,101,116])=false) (h2:(n.s==[112,117,116])=false) (h3:(n.s==[115,105,122,101])=true) (hl:l.length≠1) :
  GF Tryz.prog 154 [.loc 0 0,.agg (cT (.mk n l))] (cO p c c.ls ad cp) (.v (.bool false)) (cO p (c.fail 23 n.at_) c.ls ad cp):=by
 have gH:=gW p (.slice ad c.ls.length cp) c 23 n.at_;have eX:(aR l).length=l.length:=aS l
 have g1:(((aR l).length:Int)==1)=false:=by rw [eX,beq_eq_false_iff_ne];omega
 have g2:(((aR l).length:Int) != 1)=true:=by rw [eX,bne_iff_ne];omega
 unfold cO;unfold cC at gH |-;generalize c.fail 23 n.at_=c1 at *;refine ai Tryz.func154 Tryz.ntmps154 ?_;refine aI (aB 0 21 (.a 21 (aB 22 13 (.a 35 (.q 36 (.q 37 .nil)))))) ?_;refine bf ?_;refine ab [0] gH ?_;exact al
theorem Nn (p:Src) (c:SS) (t:T) (ad:Option Addr) (cp:Nat) (jo:p.arrays.length<=1099511627776) (iK:p.fns.length<=1099511627776) (my:c.ls.length<=1099511627776) (hl:t.kids.length<=1099511627776) :
  GF Tryz.prog 154 [.loc 0 0,.agg (cT t)] (cO p c c.ls ad cp) (.v (.bool (fq p c t).2)) (cO p (fq p c t).1 c.ls ad cp):=by
 cases t with
 | mk n l =>
 have hl:l.length<=1099511627776:=hl
 cases h1:(n.s==[103,101,116]) with
 | true =>
  have e:fq p c (.mk n l)=(eD c n l.length 0,true):=by
   unfold fq oT;exact if_pos (show n.s=_ by simpa using h1)
  rw [e];exact Hh p c n l ad cp h1 hl
 | false =>
  have n1:¬ n.s=[103,101,116]:=by simpa using h1
  cases h2:(n.s==[112,117,116]) with
  | true =>
   have e:fq p c (.mk n l)=(eD c n l.length 1,true):=by
    unfold fq oT pX;rw [if_neg (show ¬ (T.mk n l).n.s=_ from n1)];exact if_pos (show n.s=_ by simpa using h2)
   rw [e];exact Hi p c n l ad cp h1 h2 hl
  | false =>
   have n2:¬ n.s=[112,117,116]:=by simpa using h2
   cases h3:(n.s==[115,105,122,101]) with
   | true =>
    have e:fq p c (.mk n l)=(eD (if l.length=1/\fU p (nE (.mk n l)) c.ls=true then c.fail 24 n.at_ else c) n l.length 1,false):=by
     unfold fq oT pX iN;rw [if_neg (show ¬ (T.mk n l).n.s=_ from n1),if_neg (show ¬ (T.mk n l).n.s=_ from n2)];exact if_pos (show n.s=_ by simpa using h3)
    rw [e]
    by_cases hk:l.length=1
    ·obtain ⟨u,rfl⟩:∃ u,l=[u]:=by
      match l,hk with
      | [u],_=>exact ⟨u,rfl⟩
     have e2:eD (if [u].length=1/\fU p (nE (.mk n [u])) c.ls=true then c.fail 24 n.at_ else c) n [u].length 1=(if fU p u.n c.ls=true then c.fail 24 n.at_ else c):=by
      unfold eD;rw [if_neg (by simp)];show (if _/\fU p u.n c.ls=true then _ else _)=_
      by_cases hb:fU p u.n c.ls=true
      ·rw [if_pos hb];exact if_pos ⟨rfl,hb⟩
      ·rw [if_neg hb];exact if_neg fun h=>hb h.2
     rw [e2];exact DS p c n u ad cp h1 h2 h3 jo my
    ·have e2:eD (if l.length=1/\fU p (nE (.mk n l)) c.ls=true then c.fail 24 n.at_ else c) n l.length 1=c.fail 23 n.at_:=by
      rw [if_neg fun h=>hk h.1];unfold eD;exact if_pos hk
     rw [e2];exact DT p c n l ad cp h1 h2 h3 hk
   | false =>
    have n3:¬ n.s=[115,105,122,101]:=by simpa using h3
    have hF:=B8 p n.s iK;unfold cD at hF
    cases hx:p.fns.findIdx? (fun f:Go.Sp.Fn=>f.name==n.s) with
    | none =>
     rw [hx] at hF
     have e:fq p c (.mk n l)=(c.fail 22 n.at_,false):=by
      unfold fq oT pX iN;rw [if_neg (show ¬ (T.mk n l).n.s=_ from n1),if_neg (show ¬ (T.mk n l).n.s=_ from n2),if_neg (show ¬ (T.mk n l).n.s=_ from n3)];show (match p.fns.findIdx? (fun f:Go.Sp.Fn=>f.name==n.s) with | none=>_ | some i=>_)=_;rw [hx];rfl
     rw [e];exact Kf p c n l ad cp h1 h2 h3 hl hF
    | some i =>
     rw [hx] at hF;have hi:i < p.fns.length:=(List.findIdx?_eq_some_iff_getElem.1 hx).1;obtain ⟨f,hf⟩:∃ f,p.fns[i]?=some f:=⟨p.fns[i],by simp [hi]⟩
     have e:fq p c (.mk n l)=(eD c n l.length f.params.length,true):=by
      unfold fq oT pX iN;rw [if_neg (show ¬ (T.mk n l).n.s=_ from n1),if_neg (show ¬ (T.mk n l).n.s=_ from n2),if_neg (show ¬ (T.mk n l).n.s=_ from n3)];show (match p.fns.findIdx? (fun f:Go.Sp.Fn=>f.name==n.s) with | none=>_ | some i=>_)=_;rw [hx];show (eD c n l.length (lD p i),true)=_;unfold lD;rw [hf]
     rw [e];exact Ke p c n l i f ad cp h1 h2 h3 hl hf hF
end Go.Xg
namespace Go.Im
open Go.Xp Go.Sp
theorem Dr (p:Src) (u:T):∀ (l:List T) (c:SS),ia p (l++[u]) c=nk p u (ia p l c)
 | [],c=>by rw [nil_append,ia,ia,ia]
 | t::l,c=>by rw [cons_append,ia,ia,Dr p u l]
theorem NG (p:Src) {l:List T} {k:Nat} {u:T} (h:l[k]?=some u) (c:SS):ia p (l.take (k+1)) c=nk p u (ia p (l.take k) c):=by
 rw [take_add_one,h];exact Dr p u _ c
theorem QA (c:SS) (n:Nd):(lL c n).ls.length<=c.ls.length+1:=by
 unfold lL;split
 ·omega
 split
 ·simp [SS.nT]
 split
 ·simp [SS.nT]
 ·simp
mutual
theorem SQ (p:Src):∀ (t:T) (c:SS),(nk p t c).ls.length<=c.ls.length+aP t
 | .mk n l,c=>by
  rw [nk,aP];refine Nat.le_trans (QA _ _) ?_;split
  ·have:=wA p l (jk p c (.mk n l)).1;rw [vA] at this;omega
  ·rw [vA];omega
theorem wA (p:Src):∀ (l:List T) (c:SS),(ia p l c).ls.length<=c.ls.length+az l
 | [],c=>by rw [ia,az];omega
 | t::r,c=>by
  rw [ia,az];have h1:=wA p r (nk p t c);have h2:=SQ p t c;omega
end
end Go.Im
namespace Go.Xg
open Go.RowKit Go.Xw Go.Proofs
open Go.Xp (Nd T Ar aP az bL)
open Go.Sp (Src)
open Go.Im
attribute [local irreducible] GW GL GO YG GC GA aU aZ
theorem Np (p:Src) (jo:p.arrays.length<=1099511627776) (iK:p.fns.length<=1099511627776) (jq:p.globals.length<=1099511627776):∀ (N:Nat) (t:T),aP t<=N->∀ (c:SS) (ad:Option Addr) (cp:Nat),c.ls.length+aP t<=8388608 ->
  GC Tryz.prog 133 [.loc 0 0,.agg (cT t)] (cO p c c.ls ad cp) fun g Δ=>g=.tup []/\∃ qm qo,Δ=cO p (nk p t c) (nk p t c).ls qm qo:=by
 intro N
 induction N with
 | zero=>intro t h;have:=km t;omega
 | succ N ih =>
 intro t hN c ad cp my
 cases t with
 | mk n l =>
 rw [Go.Xp.aP] at hN my;have pQ:=bL l;have eX:(aR l).length=l.length:=aS l;rw [nk];have cQ:=vA p c (.mk n l);have hL:=jj c.ls n.s ag;have hG:=jj p.globals n.s jq;have hA:=Bf p n.s jo;have hC:=Nn p c (.mk n l) ad cp jo iK ag (by show l.length<=_;omega);have QY:=gW p (.slice ad c.ls.length cp) c 22 n.at_;have Ik:=gW p (.slice ad c.ls.length cp) c 24 n.at_
 have he:jk p c (.mk n l)=(if n.kind=2\/n.kind=7 then (if c.ls.contains n.s=false/\p.globals.contains n.s=false then c.fail 22 n.at_ else c,true)
  else if n.kind=3\/n.kind=8 then (if c.ls.contains n.s=true\/cD (fun x:Ar=>x.name==n.s) p.arrays < 0 then c.fail 24 n.at_ else c,true)
  else if n.kind=4 then fq p c (.mk n l) else (c,true)):=rfl
 obtain ⟨P,hP⟩:∃ P,jk p c (.mk n l)=P:=⟨_,rfl⟩;rw [hP] at he cQ |-;unfold cO at hC |-;unfold cC at hC QY Ik |-;refine ai Tryz.func133 Tryz.ntmps133 ?_;refine aI (aB 0 6 (.a 6 (.q 7 .nil))) ?_;refine ar ?_;refine OA rfl rfl (GL.borrow hL (fun B K β w l hI hF=>gS (A:=[_]) (C:=[_,_]) hI hF rfl rfl) ?_);refine dy ?_;refine ar ?_;refine Jm ?_;refine GW.join (fun fr Γ=>fr=[.loc 0 0,.U,.U,.loc 2 0,.loc 3 0,.U,.v (.bool P.2),.U,.U,.U,.U,.U,.U,.U,.U,.U,.U,.U,.U,.U,.U,.U,.U,.U,.U,.U,.U,.U,.U,.U,.U,.U,.U,.U,.U,.U,.U,.U,.U,.U,.U,.U,.U,.U,.U,.U,.U,.U,.U,.U,.U,.U,.U,.U,.U,.U,.U,.U,.U,.U,.U,.U,.U,.U,.U,.U,.U,.U,.U,.U,.U,.U,.U,.U,.U,.U,.U,.U,.U,.U,.U,.U,.U,.U,.U,.U,.U,.U,.U,.U,.U,.U,.U,.U,.U,.U,.U,.U,.U,.U,.U,.U,.U,.U,.U,.U,.U,.U,.U,.U]/\Γ=[.box 133 (cC p (.slice ad c.ls.length cp) P.1),.vech 9 1 (b9 c.ls) (.slice ad c.ls.length cp),.box 94 (cT (.mk n l)),.box 91 (ay n)]) ?_ ?_
 ·obtain ⟨kd,at_,nn,s,ks⟩:=n;simp only at *;unfold cC;generalize fq p c (.mk ⟨kd,at_,nn,s,ks⟩ l)=cs at *;generalize cD (fun x:Ar=>x.name==s) p.arrays=z at *;generalize c.ls.contains s=b at *;generalize p.globals.contains s=g at *;generalize c.fail 22 at_=c22 at *;generalize c.fail 24 at_=c24 at *
  by_cases h2:kd=2
  ·subst h2
   have q2:((2:Int)==2)=true:=by decide
   rw [if_pos aJ] at he;subst he
   cases b with
   | true =>
    refine ae ?_;refine aI (aB 0 10 (.a 10 (.q 11 (.q 12 .nil)))) ?_;refine bf ?_;exact jn
   | false =>
    cases g with
    | true =>
     refine ae ?_;refine aI (aB 0 10 (.a 10 (.q 11 (.q 12 .nil)))) ?_;refine ar ?_;refine bB [] hG ?_;exact ij
    | false =>
     refine ae ?_;refine aI (aB 0 10 (.a 10 (.q 11 (.q 12 .nil)))) ?_;refine ar ?_;refine bB [] hG ?_;refine ae ?_;refine ab [0] QY ?_;exact jn
  by_cases h7:kd=7
  ·subst h7
   have q2:((7:Int)==2)=false:=by decide
   have q7:((7:Int)==7)=true:=by decide
   rw [if_pos aJ] at he;subst he
   cases b with
   | true =>
    refine ae ?_;refine aI (aB 0 10 (.a 10 (.q 11 (.q 12 .nil)))) ?_;refine bf ?_;exact jn
   | false =>
    cases g with
    | true =>
     refine ae ?_;refine aI (aB 0 10 (.a 10 (.q 11 (.q 12 .nil)))) ?_;refine ar ?_;refine bB [] hG ?_;exact ij
    | false =>
     refine ae ?_;refine aI (aB 0 10 (.a 10 (.q 11 (.q 12 .nil)))) ?_;refine ar ?_;refine bB [] hG ?_;refine ae ?_;refine ab [0] QY ?_;exact jn
  rw [if_neg (by rintro (h | h);(· exact h2 h);exact h7 h)] at he
  by_cases h3:kd=3
  ·subst h3
   have q2:((3:Int)==2)=false:=by decide
   have q7:((3:Int)==7)=false:=by decide
   have q3:((3:Int)==3)=true:=by decide
   rw [if_pos aJ] at he
   cases b with
   | true =>
    subst he;refine ae ?_;refine aI (aB 0 8 (.a 8 (.q 9 (.q 10 .nil)))) ?_;refine bf ?_;refine ab [0] Ik ?_;exact jn
   | false =>
    cases hz:decide (z < 0) with
    | true =>
     rw [if_pos (.inr (by simpa using hz))] at he;subst he;refine ae ?_;refine aI (aB 0 8 (.a 8 (.q 9 (.q 10 .nil)))) ?_;refine ar ?_;refine bB [] hA ?_;refine ae ?_;refine ab [0] Ik ?_;exact jn
    | false =>
     rw [if_neg (by rintro (h | h);(· cases h);(· simp at hz;omega))] at he;subst he;refine ae ?_;refine aI (aB 0 8 (.a 8 (.q 9 (.q 10 .nil)))) ?_;refine ar ?_;refine bB [] hA ?_;exact ij
  by_cases h8:kd=8
  ·subst h8
   have q2:((8:Int)==2)=false:=by decide
   have q7:((8:Int)==7)=false:=by decide
   have q3:((8:Int)==3)=false:=by decide
   have q8:((8:Int)==8)=true:=by decide
   rw [if_pos aJ] at he
   cases b with
   | true =>
    subst he;refine ae ?_;refine aI (aB 0 8 (.a 8 (.q 9 (.q 10 .nil)))) ?_;refine bf ?_;refine ab [0] Ik ?_;exact jn
   | false =>
    cases hz:decide (z < 0) with
    | true =>
     rw [if_pos (.inr (by simpa using hz))] at he;subst he;refine ae ?_;refine aI (aB 0 8 (.a 8 (.q 9 (.q 10 .nil)))) ?_;refine ar ?_;refine bB [] hA ?_;refine ae ?_;refine ab [0] Ik ?_;exact jn
    | false =>
     rw [if_neg (by rintro (h | h);(· cases h);(· simp at hz;omega))] at he;subst he;refine ae ?_;refine aI (aB 0 8 (.a 8 (.q 9 (.q 10 .nil)))) ?_;refine ar ?_;refine bB [] hA ?_;exact ij
  rw [if_neg (by rintro (h | h);(· exact h3 h);exact h8 h)] at he
  by_cases h4:kd=4
  ·subst h4
   have q2:((4:Int)==2)=false:=by decide
   have q7:((4:Int)==7)=false:=by decide
   have q3:((4:Int)==3)=false:=by decide
   have q8:((4:Int)==8)=false:=by decide
   have q4:((4:Int)==4)=true:=by decide
   rw [if_pos rfl] at he;subst he;refine ae ?_;refine ab [0,1] hC ?_;exact jn
  rw [if_neg h4] at he;subst he
  have q2:(kd==2)=false:=by simpa using h2
  have q7:(kd==7)=false:=by simpa using h7
  have q3:(kd==3)=false:=by simpa using h3
  have q8:(kd==8)=false:=by simpa using h8
  have q4:(kd==4)=false:=by simpa using h4
  exact ij
 ·rintro _ _ ⟨rfl,rfl⟩;clear he hC QY Ik;obtain ⟨c1,d⟩:=P;simp only at cQ |-;rw [<-cQ] at my;rw [show cC p (.slice ad c.ls.length cp) c1=cC p (.slice ad c1.ls.length cp) c1 by rw [cQ],<-cQ];clear hL;refine ae ?_;refine GW.range (aR l).length (fun k fr Γ=>∃ ad cp c2,fr=[.loc 0 0,.U,.U,.loc 2 0,.loc 3 0,.U,.v (.bool d),.U,.U,.U,.U,.U,.U,.U,.U,.U,.U,.U,.U,.U,.U,.U,.U,.U,.U,.U,.U,.U,.U,.U,.U,.U,.U,.U,.U,.U,.U,.U,.U,.U,.U,.U,.U,.U,.U,.U,.U,.U,.U,.U,.U,.U,.U,.U,.U,.U,.U,.U,.U,.U,.U,.U,.U,.U,.sl 6 (aR l),.v (ii ((aR l).length:Int)),.v (ii (k:Nat)),.U,.U,.U,.U,.U,.U,.U,.U,.U,.U,.U,.U,.U,.U,.U,.U,.U,.U,.U,.U,.U,.U,.U,.U,.U,.U,.U,.U,.U,.U,.U,.U,.U,.U,.U,.U,.U,.U,.U,.U,.U,.U,.U]/\Γ=[.box 133 (cC p (.slice ad c2.ls.length cp) c2),.vech 9 1 (b9 c2.ls) (.slice ad c2.ls.length cp),.box 94 (cT (.mk n l)),.box 91 (ay n)]/\c2=(if d=true then ia p (l.take k) c1 else c1)) ?_ ag ?_ ?_ ?_
  ·exact ⟨_,_,Wk.aC aq,ad,cp,c1,rfl,rfl,by cases d <;> simp [ia]⟩
  ·rintro k _ _ ⟨ad,cp,c2,rfl,rfl,_⟩;exact dS
  ·rintro k _ _ ak ⟨ad,cp,c2,rfl,rfl,jJ⟩;rw [eX] at ak;obtain ⟨u,hu⟩:∃ u,l[k]?=some u:=⟨l[k],by simp [ak]⟩;have hr:=cU hu;have cS:=tI hu
   cases d with
   | false =>
    refine ae ?_;exact ⟨rfl,rfl,_,_,(Wk.cut (n:=4) (Nat.le_of_ble_eq_true rfl) rfl).trans (Wk.aC aq),ad,cp,c2,rfl,rfl,jJ⟩
   | true =>
    rw [if_pos rfl] at jJ;have hlen:=wA p (l.take k) c1;rw [<-jJ] at hlen;have hi:=ih u ag c2 ad cp ag;unfold cO at hi;rw [if_pos rfl,NG p hu,<-jJ];refine ae ?_;refine cm [0,1] hi ?_;rintro _ _ ⟨rfl,qm,qo,rfl⟩;refine cW ?_;refine ae ?_;exact ⟨rfl,rfl,_,_,(Wk.cut (n:=4) (Nat.le_of_ble_eq_true rfl) rfl).trans (Wk.aC aq),qm,qo,_,rfl,rfl,rfl⟩
  ·rintro _ _ ⟨ad,cp,c2,rfl,rfl,jJ⟩;rw [eX,take_length] at jJ;rw [<-jJ]
   have hlen:c2.ls.length<=8388608:=by
    rw [jJ];split
    ·have:=wA p l c1;omega
    ·omega
   clear jJ ih;refine bb ?_;have hL:=jj c2.ls n.s ag;have Rb:=vF c2.ls;have Ij:=gW p (.slice ad c2.ls.length cp) c2 21 n.at_;have XC:=gW p (.slice ad c2.ls.length cp) c2 26 n.at_;have l21:=c2.nT 21 n.at_;have l26:=c2.nT 26 n.at_
   cases hv:(n.kind != 13) with
   | true =>
    have e:lL c2 n=c2:=by unfold lL;exact if_pos (by simpa using hv)
    rw [e];refine ae ?_;refine cV ?_;exact ⟨rfl,ad,cp,rfl⟩
   | false =>
    have A8:¬ n.kind≠13:=by simpa using hv
    unfold cC at Ij XC
    cases hb:c2.ls.contains n.s with
    | true =>
     rw [hb] at hL
     have e:lL c2 n=⟨(c2.fail 21 n.at_).ls++[n.s],(c2.fail 21 n.at_).code,(c2.fail 21 n.at_).at_⟩:=by unfold lL;rw [if_neg A8];exact if_pos hb
     rw [e];generalize c2.fail 21 n.at_=y at *;unfold cC;refine ae ?_;refine aI (aB 0 6 (.a 6 .nil)) ?_;refine ar ?_;refine OA rfl rfl (GL.borrow hL (fun B K β w l hI hF=>gS (A:=[_]) (C:=[_,_]) hI hF rfl rfl) ?_);refine dy ?_;refine bf ?_;refine ab [0] Ij ?_;refine aI (aB 0 7 (.a 7 (.a 8 (.q 9 (.q 10 (.a 11 .nil)))))) ?_;refine ar ?_;refine ey ?_;refine ar ?_;refine OA rfl rfl (GL.pJ 1 (news:=[[.v (sv n.s)]]) rfl rfl rfl aY rfl rfl (by refine ⟨?_,?_⟩;(· show _+1<=_;omega);(· show (_+1) * _<=_;omega)) ?_);intro sO sS;refine dy ?_;refine bf ?_;refine cV ?_;exact ⟨rfl,sO,sS,by simp [cO,cC,b9,l21]⟩
    | false =>
     rw [hb] at hL
     cases h40:((c2.ls.length:Int)==40) with
     | true =>
      have e:lL c2 n=⟨(c2.fail 26 n.at_).ls++[n.s],(c2.fail 26 n.at_).code,(c2.fail 26 n.at_).at_⟩:=by
       unfold lL;rw [if_neg A8,if_neg (by rw [hb];decide)];exact if_pos (by rw [beq_iff_eq] at h40;omega)
      rw [e];generalize c2.fail 26 n.at_=y at *;unfold cC;refine ae ?_;refine aI (aB 0 6 (.a 6 .nil)) ?_;refine ar ?_;refine OA rfl rfl (GL.borrow hL (fun B K β w l hI hF=>gS (A:=[_]) (C:=[_,_]) hI hF rfl rfl) ?_);refine dy ?_;refine bf ?_;refine ab [0] XC ?_;refine aI (aB 0 7 (.a 7 (.a 8 (.q 9 (.q 10 (.a 11 .nil)))))) ?_;refine ar ?_;refine ey ?_;refine ar ?_;refine OA rfl rfl (GL.pJ 1 (news:=[[.v (sv n.s)]]) rfl rfl rfl aY rfl rfl (by refine ⟨?_,?_⟩;(· show _+1<=_;omega);(· show (_+1) * _<=_;omega)) ?_);intro sO sS;refine dy ?_;refine bf ?_;refine cV ?_;exact ⟨rfl,sO,sS,by simp [cO,cC,b9,l26]⟩
     | false =>
      have e:lL c2 n=⟨c2.ls++[n.s],c2.code,c2.at_⟩:=by
       unfold lL;rw [if_neg A8,if_neg (by rw [hb];decide)];exact if_neg (by rw [beq_eq_false_iff_ne] at h40;omega)
      rw [e];unfold cC;refine ae ?_;refine aI (aB 0 6 (.a 6 .nil)) ?_;refine ar ?_;refine OA rfl rfl (GL.borrow hL (fun B K β w l hI hF=>gS (A:=[_]) (C:=[_,_]) hI hF rfl rfl) ?_);refine dy ?_;refine bf ?_;refine aI (aB 0 7 (.a 7 (.a 8 (.q 9 (.q 10 (.a 11 .nil)))))) ?_;refine ar ?_;refine ey ?_;refine ar ?_;refine OA rfl rfl (GL.pJ 1 (news:=[[.v (sv n.s)]]) rfl rfl rfl aY rfl rfl (by refine ⟨?_,?_⟩;(· show _+1<=_;omega);(· show (_+1) * _<=_;omega)) ?_);intro sO sS;refine dy ?_;refine bf ?_;refine cV ?_;exact ⟨rfl,sO,sS,by simp [cO,cC,b9]⟩
end Go.Xg
namespace Go.Xg
open Go.RowKit Go.Xw Go.Proofs
open Go.Xp (Nd T Ar aP az)
open Go.Sp (Src)
open Go.Im
attribute [local irreducible] GW GL GO YG GC GA aU aZ
theorem BX (p:Src) (h:Value) (k e:Int):GF Tryz.prog 153 [.loc 0 0,.v (ii e),.v (ii 0)] [.box 133 (cC p h ⟨[],k,0⟩)] (.tup []) [.box 133 (cC p h ⟨[],fK k e,0⟩)]:=by
 have:=gW p h ⟨[],k,0⟩ e 0
 rwa [show (SS.fail ⟨[],k,0⟩ e 0)=⟨[],fK k e,0⟩ by unfold SS.fail fK;by_cases hk:k=0 <;> simp [hk]] at this
theorem FB (p:Src) (h:Value) (k:Int) (jo:p.arrays.length<=1048576) (cS:∀ a∈p.arrays,0<=a.size/\a.size<=2147483648)
  (rest:(p.arrays.all fun a=>!mb a)=true->GF Tryz.prog 131 [.loc 0 0] [.box 133 (cC p h ⟨[],k,0⟩)] (.tup []) [.box 133 (cC p h ⟨[],qV p k,0⟩)]) :
  GF Tryz.prog 131 [.loc 0 0] [.box 133 (cC p h ⟨[],k,0⟩)] (.tup []) [.box 133 (cC p h ⟨[],qV p k,0⟩)]:=by
 cases tX:(p.arrays.all fun a=>!mb a) with
 | true=>exact rest tX
 | false =>
 have dI:(p.arrays.map aD).length=p.arrays.length:=by simp
 have hb:=uC cS;have xz:=BX p h k 26
 have EX:p.arrays.any mb=true:=by
  cases h0:p.arrays.any mb with
  | true=>rfl
  | false =>
   rw [any_eq_false] at h0;rw [List.all_eq_false] at tX;obtain ⟨x,hx,h1⟩:=tX;have:=h0 x hx;simp at h1;rw [h1] at this;exact absurd rfl this
 rw [show qV p k=fK k 26 by unfold qV;exact if_pos EX];unfold cC at xz |-;refine ai Tryz.func131 Tryz.ntmps131 ?_;refine GW.range (p.arrays.map aD).length (fun k' fr Γ=>fr=[.loc 0 0,.U,.v (ii (dC (p.arrays.take k'))),.U,.U,.U,.U,.U,.U,.U,.U,.U,.sl 2 (p.arrays.map aD),.v (ii ((p.arrays.map aD).length:Int)),.v (ii (k':Nat)),.U,.U,.U,.U,.U,.U,.U,.U,.U,.U,.U,.U,.U,.U,.U,.U,.U,.U,.U,.U,.U,.U,.U,.U,.U,.U,.U,.U,.U,.U,.U,.U,.U,.U,.U,.U,.U,.U,.U,.U,.U,.U,.U,.U,.U,.U,.U,.U,.U,.U,.U,.U,.U,.U,.U,.U,.U,.U,.U,.U,.U,.U,.U,.U,.U,.U,.U,.U,.U,.U,.U,.U,.U,.U,.U,.U,.U,.U,.U]/\Γ=[.box 133 [strs p.globals,.sl 2 (p.arrays.map aD),.sl 3 (p.fns.map aw),.sl 5 (p.nodes.map ay),.v h,.v (ii k),.v (ii 0)]]/\(p.arrays.take k').all (fun a=>!mb a)=true) ?_ ag ?_ ?_ ?_
 ·exact jy
 ·rintro k' _ _ ⟨rfl,rfl,_⟩;exact dS
 ·rintro k' _ _ ak ⟨rfl,rfl,aQ⟩;rw [dI] at ak;obtain ⟨x,hx⟩:∃ x,p.arrays[k']?=some x:=⟨p.arrays[k'],by simp [ak]⟩
  have hr:(p.arrays.map aD)[k']?=some (aD x):=by rw [getElem?_map,hx];rfl
  have bu:=lW (f:=mb) hx;have gV:=sj hx;have ek:=hb k';have px:=cS x (mem_of_getElem? hx);have hd:mb x=(decide (x.size < 1) || decide (8000 < x.size)):=rfl;unfold aD at hr
  cases h1:decide (x.size < 1) with
  | true =>
   refine ae ?_;refine ab [0] xz ?_;exact fT
  | false =>
   cases h2:decide (8000 < x.size) with
   | true =>
    refine ae ?_;refine ab [0] xz ?_;exact fT
   | false =>
    rw [gV];generalize dC (p.arrays.take k')=c at *;refine ae ?_;exact ⟨rfl,rfl,_,_,(Wk.cut (n:=1) (Nat.le_refl _) rfl).trans (Wk.aC aq),rfl,rfl,by rw [bu,aQ,hd,h1,h2];rfl⟩
 ·rintro _ _ ⟨rfl,rfl,aQ⟩;rw [dI,take_length] at aQ;rw [aQ] at tX;cases tX
end Go.Xg
namespace Go.Im
open Go.Xp Go.Sp
theorem Ss (k e:Int) (he:e≠0):fK (fK k e) e=fK k e:=by unfold fK;by_cases h:k=0 <;> simp [h,he]
end Go.Im
namespace Go.Xg
open Go.RowKit Go.Xw Go.Proofs
open Go.Xp (Nd T Ar aP az)
open Go.Sp (Src)
open Go.Im
attribute [local irreducible] GW GL GO YG GC GA aU aZ
theorem DU (p:Src) (h:Value) (k:Int) (jo:p.arrays.length<=1048576) (iK:p.fns.length<=1048576) (cS:∀ a∈p.arrays,0<=a.size/\a.size<=2147483648) (tX:(p.arrays.all fun a=>!mb a)=true) :
  GF Tryz.prog 131 [.loc 0 0] [.box 133 (cC p h ⟨[],k,0⟩)] (.tup []) [.box 133 (cC p h ⟨[],qV p k,0⟩)]:=by
 have dI:(p.arrays.map aD).length=p.arrays.length:=by simp
 have jK:(p.fns.map aw).length=p.fns.length:=by simp
 have jq:(p.globals.map fun s=>[GV.v (sv s)]).length=p.globals.length:=by simp
 have hb:=uC cS
 have EX:p.arrays.any mb=false:=by
  rw [any_eq_false];rw [List.all_eq_true] at tX;intro x hx;simpa using tX x hx
 have xz:=BX p h;unfold cC at xz |-;refine ai Tryz.func131 Tryz.ntmps131 ?_;refine GW.range (p.arrays.map aD).length (fun k' fr Γ=>fr=[.loc 0 0,.U,.v (ii (dC (p.arrays.take k'))),.U,.U,.U,.U,.U,.U,.U,.U,.U,.sl 2 (p.arrays.map aD),.v (ii ((p.arrays.map aD).length:Int)),.v (ii (k':Nat)),.U,.U,.U,.U,.U,.U,.U,.U,.U,.U,.U,.U,.U,.U,.U,.U,.U,.U,.U,.U,.U,.U,.U,.U,.U,.U,.U,.U,.U,.U,.U,.U,.U,.U,.U,.U,.U,.U,.U,.U,.U,.U,.U,.U,.U,.U,.U,.U,.U,.U,.U,.U,.U,.U,.U,.U,.U,.U,.U,.U,.U,.U,.U,.U,.U,.U,.U,.U,.U,.U,.U,.U,.U,.U,.U,.U,.U,.U,.U]/\Γ=[.box 133 [strs p.globals,.sl 2 (p.arrays.map aD),.sl 3 (p.fns.map aw),.sl 5 (p.nodes.map ay),.v h,.v (ii k),.v (ii 0)]]) ?_ ag ?_ ?_ ?_
 ·exact jn
 ·rintro k' _ _ ⟨rfl,rfl⟩;exact dS
 ·rintro k' _ _ ak ⟨rfl,rfl⟩;rw [dI] at ak;obtain ⟨x,hx⟩:∃ x,p.arrays[k']?=some x:=⟨p.arrays[k'],by simp [ak]⟩
  have hr:(p.arrays.map aD)[k']?=some (aD x):=by rw [getElem?_map,hx];rfl
  have gV:=sj hx;have ek:=hb k';have px:=cS x (mem_of_getElem? hx)
  have hd:mb x=false:=by
   rw [any_eq_false] at EX;have:=EX x (mem_of_getElem? hx);simpa using this
  unfold mb at hd;rw [Bool.or_eq_false_iff] at hd;obtain ⟨h1,h2⟩:=hd;have h2:decide (8000 < x.size)=false:=h2;unfold aD at hr;rw [gV];generalize dC (p.arrays.take k')=c at *;refine ae ?_;exact ⟨rfl,rfl,_,_,(Wk.cut (n:=1) (Nat.le_refl _) rfl).trans (Wk.aC aq),rfl,rfl⟩
 ·rintro _ _ ⟨rfl,rfl⟩;rw [dI,take_length];refine bb ?_;refine GW.seq ?_;have e1:decide (p.fns.length > 40)=decide ((40:Int) < ((p.fns.map aw).length:Int)):=decide_eq_decide.2 (by rw [jK];omega);have e2:decide (p.globals.length > 29)=decide ((29:Int) < ((p.globals.map fun s=>[GV.v (sv s)]).length:Int)):=decide_eq_decide.2 ag
  have Y1:sQ p=((decide ((40:Int) < ((p.fns.map aw).length:Int)) || decide ((29:Int) < ((p.globals.map fun s=>[GV.v (sv s)]).length:Int))) || decide ((8000:Int) < dC p.arrays)):=by unfold sQ;rw [e1,e2]
  refine GW.join (fun fr Γ=>fr=[.loc 0 0,.U,.U,.U,.U,.U,.U,.U,.U,.U,.U,.U,.U,.U,.U,.U,.U,.U,.U,.U,.U,.U,.U,.U,.U,.U,.U,.U,.U,.U,.U,.U,.U,.U,.U,.U,.U,.U,.U,.U,.U,.U,.U,.U,.U,.U,.U,.U,.U,.U,.U,.U,.U,.U,.U,.U,.U,.U,.U,.U,.U,.U,.U,.U,.U,.U,.U,.U,.U,.U,.U,.U,.U,.U,.U,.U,.U,.U,.U,.U,.U,.U,.U,.U,.U,.U,.U,.U,.U,.U,.U,.U,.U,.U]/\Γ=[.box 133 [strs p.globals,.sl 2 (p.arrays.map aD),.sl 3 (p.fns.map aw),.sl 5 (p.nodes.map ay),.v h,.v (ii (if sQ p=true then fK k 26 else k)),.v (ii 0)]]) ?_ ?_
  ·rw [Y1];have JR:=xz k 26;generalize dC p.arrays=c at *
   cases h1:decide ((40:Int) < ((p.fns.map aw).length:Int))
   all_goals cases h2:decide ((29:Int) < ((p.globals.map fun s=>[GV.v (sv s)]).length:Int))
   all_goals cases h3:decide ((8000:Int) < c)
   all_goals
    refine ae ?_
    first
     | exact jn
     | (refine iz [0] JR ?_;refine ae ?_;exact ⟨_,_,Wk.aC aq,rfl,rfl⟩)
  ·rintro _ _ ⟨rfl,rfl⟩;generalize sd:(if sQ p=true then fK k 26 else k)=k1
   have WG:∀ j:Nat,∀ x:Go.Sp.Fn,p.fns[j]?=some x->(p.fns.take (j+1)).any (fun f=>decide (f.params.length > 40))=((p.fns.take j).any (fun f=>decide (f.params.length > 40)) || decide (x.params.length > 40)):=fun j x hx=>by
    rw [take_add_one,hx,List.any_append];simp
   refine ae ?_;refine GW.range (p.fns.map aw).length (fun j fr Γ=>∃ kk,fr=[.loc 0 0,.U,.U,.U,.U,.U,.U,.U,.U,.U,.U,.U,.U,.U,.U,.U,.U,.U,.U,.U,.U,.U,.U,.U,.U,.U,.U,.U,.U,.U,.U,.U,.U,.U,.U,.U,.U,.U,.U,.U,.U,.U,.U,.U,.U,.U,.U,.U,.U,.U,.U,.U,.U,.U,.U,.U,.U,.U,.U,.sl 3 (p.fns.map aw),.v (ii ((p.fns.map aw).length:Int)),.v (ii (j:Nat)),.U,.U,.U,.U,.U,.U,.U,.U,.U,.U,.U,.U,.U,.U,.U,.U,.U,.U,.U,.U,.U,.U,.U,.U,.U,.U,.U,.U,.U,.U,.U,.U]/\Γ=[.box 133 [strs p.globals,.sl 2 (p.arrays.map aD),.sl 3 (p.fns.map aw),.sl 5 (p.nodes.map ay),.v h,.v (ii kk),.v (ii 0)]]/\kk=(if (p.fns.take j).any (fun f=>decide (f.params.length > 40))=true then fK k1 26 else k1)) ?_ ag ?_ ?_ ?_
   ·exact ⟨_,_,Wk.aC aq,k1,rfl,rfl,by simp⟩
   ·rintro j _ _ ⟨kk,rfl,rfl,_⟩;exact dS
   ·rintro j _ _ ak ⟨kk,rfl,rfl,iL⟩;rw [jK] at ak;obtain ⟨x,hx⟩:∃ x,p.fns[j]?=some x:=⟨p.fns[j],by simp [ak]⟩
    have hr:(p.fns.map aw)[j]?=some (aw x):=by rw [getElem?_map,hx];rfl
    have cQ:(x.params.map fun s=>[GV.v (sv s)]).length=x.params.length:=by simp
    have pS:=WG j x hx;have hd:decide (x.params.length > 40)=decide ((40:Int) < ((x.params.map fun s=>[GV.v (sv s)]).length:Int)):=decide_eq_decide.2 ag;have JR:=xz kk 26;rw [pS,hd];unfold aw at hr
    cases h1:decide ((40:Int) < ((x.params.map fun s=>[GV.v (sv s)]).length:Int)) with
    | true =>
     have e:fK kk 26=fK k1 26:=by rw [iL];split;(· exact Ss _ _ aJ);rfl
     rw [e] at JR;refine ae ?_;refine ab [0] JR ?_;exact ⟨rfl,rfl,_,_,(Wk.cut (n:=1) (Nat.le_refl _) rfl).trans (Wk.aC aq),_,rfl,rfl,by simp⟩
    | false =>
     refine ae ?_;exact ⟨rfl,rfl,_,_,(Wk.cut (n:=1) (Nat.le_refl _) rfl).trans (Wk.aC aq),kk,rfl,rfl,by rw [iL,Bool.or_false]⟩
   ·rintro _ _ ⟨kk,rfl,rfl,iL⟩;rw [jK,take_length] at iL
    have hs:qV p k=(if jF p=true then fK kk 25 else kk):=by
     unfold qV;rw [if_neg (by rw [EX];decide),sd,<-iL]
    rw [hs];refine bb ?_;have Um:=xz kk 25;have hM:=B8 p vm ag;unfold cD at hM;clear hs iL sd
    cases hx:p.fns.findIdx? (fun f:Go.Sp.Fn=>f.name==vm) with
    | none =>
     rw [hx] at hM
     have hd:decide ((-1:Int) < 0)=true:=by decide
     simp only at hM;rw [show (if jF p=true then fK kk 25 else kk)=fK kk 25 from if_pos (by unfold jF;rw [hx])];refine ae ?_;refine ab [] hM ?_;refine ab [0] Um ?_;exact fT
    | some i =>
     rw [hx] at hM;have hi:i < p.fns.length:=(List.findIdx?_eq_some_iff_getElem.1 hx).1;obtain ⟨f,hf⟩:∃ f,p.fns[i]?=some f:=⟨p.fns[i],by simp [hi]⟩
     have hr:(p.fns.map aw)[i]?=some (aw f):=by rw [getElem?_map,hf];rfl
     have cQ:(f.params.map fun s=>[GV.v (sv s)]).length=f.params.length:=by simp
     have hd:decide (((i:Nat):Int) < 0)=false:=by simp
     have jY:decide (lD p i > 0)=decide ((0:Int) < ((f.params.map fun s=>[GV.v (sv s)]).length:Int)):=by
      unfold lD;rw [hf];exact decide_eq_decide.2 (by simp only;omega)
     simp only at hM
     have qu:jF p=decide (lD p i > 0):=by unfold jF;rw [hx]
     rw [jY] at qu;unfold aw at hr
     cases h1:decide ((0:Int) < ((f.params.map fun s=>[GV.v (sv s)]).length:Int)) with
     | true =>
      rw [show (if jF p=true then fK kk 25 else kk)=fK kk 25 from if_pos (by rw [qu,h1])];refine ae ?_;refine ab [] hM ?_;refine ab [0] Um ?_;exact fT
     | false =>
      rw [show (if jF p=true then fK kk 25 else kk)=kk from if_neg (by rw [qu,h1];decide)];refine ae ?_;refine ab [] hM ?_;exact fT
end Go.Xg
namespace Go.Im
open Go.Xp Go.Sp
theorem O9 (p:Src) (l:List T) (c:SS):nw p [] l c=c:=by unfold nw;rfl
end Go.Im
namespace Go.Xg
open Go.RowKit Go.Xw Go.Proofs
open Go.Xp (Nd T Ar aP az)
open Go.Sp (Src)
open Go.Im
attribute [local irreducible] GW GL GO YG GC GA aU aZ
theorem Lh (p:Src) (hF:GF Tryz.prog 129 [.agg (ax p)] [] (.v (.bool false)) []):GF Tryz.prog 97 [.agg (ax p)] [] (.tup [.v (ii 20),.v (ii 0)]) []:=by
 refine ai Tryz.func97 Tryz.ntmps97 ?_;refine ab [] hF ?_;exact mf
theorem Jo (p:Src) (l:List T) (c1 c2:SS) (jK:p.fns.length=l.length) (iK:p.fns.length<=1048576) (jo:p.arrays.length<=1099511627776) (jq:p.globals.length<=1099511627776)
  (xN:∀ f∈p.fns,f.params.length<=1048576) (cS:∀ t∈l,aP t<=1048576)
  (hF:GF Tryz.prog 129 [.agg (ax p)] [] (.v (.bool true)) [])
  (hN:GF Tryz.prog 130 [.loc 0 0] [.box 133 (cC p (.slice none 0 0) ⟨[],0,0⟩)] (.tup []) [.box 133 (cC p (.slice none 0 0) c1)])
  (hS:GF Tryz.prog 131 [.loc 0 0] [.box 133 (cC p (.slice none 0 0) c1)] (.tup []) [.box 133 (cC p (.slice none 0 0) c2)])
  (pU:∀ (i:Nat) (f:Go.Sp.Fn) (t:T),p.fns[i]?=some f->l[i]?=some t->GF Tryz.prog 99 [.agg (ax p),.v (ii f.body)] [] (.agg (cT t)) []) :
  GF Tryz.prog 97 [.agg (ax p)] [] (.tup [.v (ii (nw p p.fns l c2).code),.v (ii (nw p p.fns l c2).at_)]) []:=by
 have vd:(p.fns.map aw).length=p.fns.length:=by simp
 unfold cC at hN hS;refine ai Tryz.func97 Tryz.ntmps97 ?_;refine ab [] hF ?_;refine ab [1] hN ?_;refine ab [1] hS ?_;refine GW.range (p.fns.map aw).length (fun k fr Γ=>∃ h c,fr=[.U,.loc 0 0,.U,.U,.loc 1 0,.U,.U,.U,.U,.U,.U,.U,.U,.U,.U,.U,.U,.U,.sl 3 (p.fns.map aw),.v (ii ((p.fns.map aw).length:Int)),.v (ii (k:Nat)),.U,.U,.U,.U,.U,.U,.U,.U,.U,.U,.U,.U,.U,.U,.U,.U,.U,.U,.U,.U,.U,.U,.U,.U,.U,.U]/\Γ=[.box 34 (ax p),.box 133 (cC p h c)]/\nw p p.fns l c2=nw p (p.fns.drop k) (l.drop k) c) ?_ ag ?_ ?_ ?_
 ·exact ⟨_,_,Wk.aC aq,_,c2,rfl,rfl,rfl⟩
 ·rintro k _ _ ⟨h,c,rfl,rfl,_⟩;exact dS
 ·rintro k _ _ ak ⟨h,c,rfl,rfl,he⟩;rw [vd] at ak;obtain ⟨f,hf⟩:∃ f,p.fns[k]?=some f:=⟨p.fns[k],by simp [ak]⟩;obtain ⟨t,ht⟩:∃ t,l[k]?=some t:=⟨l[k]'ag,getElem?_eq_getElem _⟩
  have hr:(p.fns.map aw)[k]?=some (aw f):=by rw [getElem?_map,hf];rfl
  have MN:p.fns.drop k=f::p.fns.drop (k+1):=by rw [List.drop_eq_getElem_cons ak];rw [getElem?_eq_getElem ak] at hf;rw [Option.some.inj hf]
  have dd:l.drop k=t::l.drop (k+1):=by rw [List.drop_eq_getElem_cons ag];rw [getElem?_eq_getElem ag] at ht;rw [Option.some.inj ht]
  have hp:=xN f (mem_of_getElem? hf);have hz:=cS t (mem_of_getElem? ht);have UU:=pU k f t hf ht;have hP:=Hj p h c f hp;rw [MN,dd,nw] at he
  cases hc:(c.code==0) with
  | false =>
   rw [if_neg (by simpa using hc)] at he;unfold cC aw at *;refine ae ?_;exact ⟨rfl,rfl,_,_,(Wk.cut (n:=2) (Nat.zero_le _) rfl).trans (Wk.aC aq),h,c,rfl,rfl,he⟩
  | true =>
   rw [if_pos (by simpa using hc)] at he
   have XI:=fun ad cp=>Np p jo ag jq _ t (Nat.le_refl _) (p8 f c) ad cp (by show f.params.length+_<=_;omega)
   rw [he];generalize nk p t (p8 f c)=c3 at *;unfold cO at XI;unfold aw at hr hP;rw [show cC p h c=[strs p.globals,.sl 2 (p.arrays.map aD),.sl 3 (p.fns.map aw),.sl 5 (p.nodes.map ay),.v h,.v (ii c.code),.v (ii c.at_)] from rfl] at *;refine ae ?_;refine cm [1] hP ?_;rintro _ _ ⟨rfl,ad,cp,rfl⟩;refine cW ?_;refine ae ?_;refine ab [] UU ?_;refine cm [1,3] (XI ad cp) ?_;rintro _ _ ⟨rfl,qm,qo,rfl⟩;refine cW ?_;refine ae ?_;exact ⟨rfl,rfl,_,_,(Wk.cut (n:=2) (Nat.zero_le _) rfl).trans (Wk.aC aq),_,c3,rfl,rfl,rfl⟩
 ·rintro _ _ ⟨h,c,rfl,rfl,he⟩;rw [vd,List.drop_length,O9] at he;rw [he];unfold cC;refine bb ?_;refine ae ?_;refine aI (aB 0 10 .nil) ?_;refine ar ?_;exact qZ
end Go.Xg
namespace Go.Xg
open Go.RowKit Go.Xw Go.Proofs
open Go.Xp (Nd T Ar aP az bL)
open Go.Sp (Src)
open Go.Im
attribute [local irreducible] GW GL GO YG GC GA aU aZ
end Go.Xg
namespace Go.Xg
open Go.RowKit Go.Xw Go.Proofs
section
variable {P:Program} {m:Nat} {ops:Array Oper} {Q:dB} {rest:List Oper} {fr:List GV} {Γ:List Ob}
theorem Oh {o:Oper} {a:Act} {next next':Act->World->Prop} {Q Q':Exit->Act->World->Prop} (hn:∀ a w,next a w->next' a w) (hq:∀ e a w,Q e a w->Q' e a w):∀ r,o.upon P a next Q r->o.upon P a next' Q' r:=by
 have hl:LetsOut Q->LetsOut Q':=fun ⟨a,w,h⟩=>⟨a,w,hq _ _ _ h⟩
 intro r h;unfold Oper.upon at h |-;split at h
 ·exact hn _ _ h
 ·exact hn _ _ h
 ·exact hn _ _ h
 ·refine Calls.mono h fun e w' he=>?_
  cases e with
  | returned v=>exact hn _ _ he
  | panicked ch=>exact hq _ _ _ he
  | outgrown=>exact hl he
 ·exact Rows.mono h fun v w' hv=>hn _ _ hv
 ·exact hq _ _ _ h
 ·exact h
theorem zE {Q Q':Exit->Act->World->Prop} (hq:∀ e a w,Q e a w->Q' e a w):∀ (l:List Oper) (a:Act) (w:World),wpList P ops Q l a w->wpList P ops Q' l a w
 | [],a,w,h=>hq _ _ _ h
 | o::l,a,w,h=>by
  have ih:=zE hq l;unfold wpList at h |-;split at h
  ·rename_i hw;rw [if_pos hw]
   rcases h with h | ⟨h1,h2⟩
   ·exact .inl (Oh ih hq _ h)
   ·exact .inr ⟨h1,by obtain ⟨a,w,h⟩:=h2;exact ⟨a,w,hq _ _ _ h⟩⟩
  ·rename_i hw;rw [if_neg hw];exact ih _ _ h
theorem GL.mono {Q':dB} (h:GL P m ops Q rest fr Γ) (hq:∀ e fr Γ,Q e fr Γ->Q' e fr Γ):GL P m ops Q' rest fr Γ:=fun B K β w l hm hI hF =>
 zE (fun e a w ⟨l,ha,K,β,fr,Γ,hI,hF,q⟩=>⟨l,ha,K,β,fr,Γ,hI,hF,hq _ _ _ q⟩) _ _ _ (h B K β w l hm hI hF)
theorem GL.WO {z y:Code} (K:List GV->List Ob->Prop) (h1:GL P m ops (aU (GW P m z (aU (yZ m K) Q)) Q) rest fr Γ) (h2:∀ fr Γ,K fr Γ->GW P m y Q fr Γ):GL P m ops (aU (GW P m z (aU (GW P m y Q) Q)) (aU (GW P m y Q) Q)) rest fr Γ:=by
 refine h1.mono fun e fr Γ hq=>?_
 cases e with
 | normal=>exact GW.join K hq h2
 | _=>exact hq
theorem GL.qJ {t i n E k:Nat} {rows:List (List GV)} (ht:cE fr t=.vec i n) (fO:jB fr t=true) (bz:Γ[i]?=some (.vec E k 0 rows)) (hn:rows.length=n)
  (h:∀ a c,GL P m ops Q rest (bs fr t (.v (.slice a n c))) (oset Γ i (.vech E k rows (.slice a n c)))):GL P m ops Q rest fr Γ:=fun B K β w l hm hI hF=>by
 subst hn;obtain ⟨a,c,hb,bg⟩:=hI.qJ bz
 have hv:nth l t=.slice a rows.length c:=by
  have:=hF.nth t;rw [ht] at this;generalize nth l t=x at this
  cases this with
  | vec i n a' c' h =>
   obtain ⟨h0,m0,e1,_,e3⟩:=h;rw [hb] at e1;cases e1;exact e3 rfl
 have:=hF.eT t (Rel.v (K:=K) (β:=β) (.slice a rows.length c));rw [<-hv,Aw (mz hF fO),hv] at this;exact h a c B K β w l hm bg this
end
end Go.Xg
namespace Go.Im
open Go.Xp Go.Sp
def IF (x y:Int):Bool:=decide (x<=y)
structure ZT (d:Array Int) (m:Nat):Prop where
 rise:gB (Go.Lib.compactUpTo d m)
 le:∀ x∈Go.Lib.compactUpTo d m,0 < m/\x<=d[m - 1]!
 mem:∀ x,x∈Go.Lib.compactUpTo d m↔∃ i,i < m/\d[i]! = x
 len:(Go.Lib.compactUpTo d m).length<=m
theorem Sh {d:Array Int} {n:Nat} (hs:∀ i,i+1 < n->d[i]! <= d[i+1]!):∀ m,m<=n->ZT d m:=by
 intro m
 induction m with
 | zero=>intro _;exact ⟨List.Pairwise.nil,fun x hx=>(by cases hx),fun x=>(by simp [Go.Lib.compactUpTo]),Nat.le_refl _⟩
 | succ m ih =>
  intro hm;obtain ⟨h1,h2,h3,h4⟩:=ih (by omega);have e:=Go.Lib.compactUpTo_succ d m
  by_cases hk:Go.Lib.keeps d m=true
  ·rw [if_pos hk] at e
   have ak:∀ x∈Go.Lib.compactUpTo d m,x < d[m]! := fun x hx=>by
    obtain ⟨h5,h6⟩:=h2 x hx;have h7:=hs (m - 1) (by omega);rw [Nat.sub_add_cancel h5] at h7
    have:d[m]! ≠ d[m - 1]! := by
     unfold Go.Lib.keeps at hk;simp only [decide_eq_true_eq] at hk
     rcases hk with h | h
     ·omega
     ·exact h
    omega
   refine ⟨?_,fun x hx=>?_,fun x=>?_,?_⟩
   ·rw [e];unfold gB at *;rw [List.pairwise_append];exact ⟨h1,by simp,fun a ha b hb=>by rw [mem_singleton] at hb;rw [hb];exact ak a ha⟩
   ·rw [e,List.mem_append,mem_singleton] at hx;rw [Nat.add_sub_cancel]
    rcases hx with h | h
    ·have:=ak x h;omega
    ·omega
   ·rw [e,List.mem_append,mem_singleton,h3];constructor
    ·rintro (⟨i,hi,hx⟩ | hx)
     ·exact ⟨i,by omega,hx⟩
     ·exact ⟨m,by omega,hx.symm⟩
    ·rintro ⟨i,hi,hx⟩
     by_cases him:i=m
     ·subst him;exact .inr hx.symm
     ·exact .inl ⟨i,by omega,hx⟩
   ·rw [e,length_append];simp;omega
  ·rw [if_neg hk,append_nil] at e
   have Rc:0 < m:=by
    rcases Nat.eq_zero_or_pos m with h | h
    ·subst h;exact absurd (by simp [Go.Lib.keeps]) hk
    ·exact h
   have heq:d[m]! = d[m - 1]! := by
    unfold Go.Lib.keeps at hk;simp only [decide_eq_true_eq,not_or] at hk;exact Decidable.not_not.1 hk.2
   refine ⟨by rw [e];exact h1,fun x hx=>?_,fun x=>?_,by rw [e];omega⟩
   ·rw [e] at hx;rw [Nat.add_sub_cancel,heq];exact ⟨by omega,(h2 x hx).2⟩
   ·rw [e,h3];constructor
    ·rintro ⟨i,hi,hx⟩;exact ⟨i,by omega,hx⟩
    ·rintro ⟨i,hi,hx⟩
     by_cases him:i=m
     ·subst him;exact ⟨i - 1,by omega,by rw [<-heq];exact hx⟩
     ·exact ⟨i,by omega,hx⟩
def gw (l:List Int):List Int:=l.mergeSort IF
theorem DH (l:List Int):(gw l).Perm l:=List.mergeSort_perm l IF
theorem nH (l:List Int):(gw l).length=l.length:=(DH l).length_eq
theorem wL {l:List Int} {x:Int}:x∈gw l↔x∈l:=(DH l).mem_iff
theorem Hz (l:List Int):(gw l).Pairwise (·<=·):=by
 have:=List.pairwise_mergeSort (le:=IF) (fun a b c h1 h2=>by unfold IF at *;simp at *;omega) (fun a b=>by unfold IF;simp;omega) l
 exact this.imp fun {a b} h=>by unfold IF at h;simpa using h
theorem TO (l:List Int):Go.Lib.compact (gw l)=oL l/\(Go.Lib.compact (gw l)).length<=(gw l).length:=by
 have hs:=Hz l
 have hg:∀ i,i < (gw l).length->∃ x,(gw l)[i]?=some x/\(gw l).toArray[i]! = x:=fun i hi=>⟨(gw l)[i],getElem?_eq_getElem _,by simp [getElem!_pos,hi]⟩
 have h:=Sh (d:=(gw l).toArray) (n:=(gw l).length) (fun i hi=>by
  rw [List.pairwise_iff_getElem] at hs;have:=hs i (i+1) (by omega) hi (by omega)
  simpa [getElem!_pos,hi,show i < (gw l).length by omega] using this) _ (Nat.le_refl _)
 refine ⟨Bn h.rise (r6 l) fun x=>?_,h.len⟩;unfold Go.Lib.compact;rw [h.mem,wI];constructor
 ·rintro ⟨i,hi,hx⟩;obtain ⟨y,hy,he⟩:=hg i hi;rw [he] at hx;subst hx;exact wL.1 (mem_of_getElem? hy)
 ·intro hx;obtain ⟨i,hi⟩:=getElem?_of_mem (wL.2 hx);have ak:=(List.getElem?_eq_some_iff.1 hi).1;obtain ⟨y,hy,he⟩:=hg i ak;rw [hi] at hy;cases hy;exact ⟨i,ak,he⟩
end Go.Im
