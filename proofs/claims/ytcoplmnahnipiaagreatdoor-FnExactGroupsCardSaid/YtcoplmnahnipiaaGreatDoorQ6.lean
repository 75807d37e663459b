/- Part 6 of proofs that are told in their last texts. -/
import Derived.Test.YtcoplmnahnipiaaGreatDoorQ2
import Derived.Test.YtcoplmnahnipiaaGreatDoorQ5
import Derived.Test.YtcoplmnahnipiaaGreatDoorQ3
import Derived.Lib.SlicesCompact
open List (any_eq_false append_nil cons_append getElem?_eq_getElem getElem?_map getElem?_of_mem getElem?_set length_append length_map length_take length_zipWith map_take mem_of_getElem? mem_singleton nil_append take_add_one take_length)
set_option linter.unusedVariables false
set_option linter.unusedSimpArgs false
set_option maxRecDepth 100000
set_option maxHeartbeats 2000000
namespace Go.Xg
open Go.RowKit Go.Xw Go.Proofs
open Go.Xp (Nd Ar)
open Go.Sp (Src)
open Go.Im (wS ej be nM sd gm dJ nL kH nK)
open Go.Im (kU kT kR)
attribute [local irreducible] GW GL GO YG GC GA aV aZ
theorem QD (l:List Int) (hl:l.length<=1048576):GF Tryz.prog 135 [ints l] [] (ints l) []:=by
 have hm:(l.map (fun i=>[GV.v (ii i)])).length=l.length:=by simp
 refine ai Tryz.func135 Tryz.ntmps135 ?_;refine GL.zu rfl ⟨by omega,by omega⟩ ?_;intro a c;refine bJ ?_;refine ae ?_;refine GW.loop (fun k:Nat=>l.length - k) (fun k fr Γ=>∃ R Z,fr=[ints l,.U,.U,.v (.slice a (l.map (fun i=>[GV.v (ii i)])).length c),.v (ii (k:Nat)),.U,.U,.U,.U,.U,.U,.U,.U,.U,.U,.U,.U,.U,.U,.U,.U,.U]/\Γ=[.vech 3 1 R (.slice a (l.map (fun i=>[GV.v (ii i)])).length c)]/\k<=l.length/\R=(l.take k).map (fun i=>[GV.v (ii i)])++List.replicate (l.length - k) Z) 0 ?_ ?_
 ·exact ⟨_,_,Wk.aC aq,_,_,rfl,rfl,Nat.zero_le _,by rw [hm];rfl⟩
 rintro k _ _ ⟨R,Z,rfl,rfl,hk,hR⟩
 have nB:R.length=l.length:=by rw [hR];exact kT hk
 have eF:R.length=(l.map (fun i=>[GV.v (ii i)])).length:=by rw [hm];exact nB
 by_cases ak:k < l.length
 ·have hx:l[k]?=some l[k]:=by simp [ak]
  have hr:(l.map (fun i=>[GV.v (ii i)]))[k]?=some ([GV.v (ii l[k])]):=by rw [getElem?_map,hx];rfl
  have de:decide ((k:Int) < ((l.map (fun i=>[GV.v (ii i)])).length:Int))=true:=by rw [hm];simpa using ak
  have bU:=kU (f:=(fun i=>[GV.v (ii i)])) (Z:=Z) hx;rw [<-hR] at bU;clear hR;generalize l[k]=x at *;refine ae ?_;refine jI ?_;refine ae ?_;exact ⟨k+1,⟨_,_,Wk.aC aq,_,Z,rfl,rfl,ak,bU⟩,by show l.length - (k+1) < l.length - k;omega⟩
 ·have de:decide ((k:Int) < ((l.map (fun i=>[GV.v (ii i)])).length:Int))=false:=by rw [hm];simpa using ak
  have lz:k=l.length:=by omega
  subst lz;rw [kR] at hR;subst hR;refine bI ?_;refine GW.wk (by apply Wk.rl (t:=3) (i:=0) <;> rfl) ?_;simp only [oset,bs];exact av
theorem zE (l:List ah) (hl:l.length<=1048576):GF Tryz.prog 41 [strs l] [] (strs l) []:=by
 have hm:(l.map (fun s=>[GV.v (sv s)])).length=l.length:=by simp
 refine ai Tryz.func41 Tryz.ntmps41 ?_;refine GL.zu rfl ⟨by omega,by omega⟩ ?_;intro a c;refine bJ ?_;refine ae ?_;refine GW.loop (fun k:Nat=>l.length - k) (fun k fr Γ=>∃ R Z,fr=[strs l,.U,.U,.v (.slice a (l.map (fun s=>[GV.v (sv s)])).length c),.v (ii (k:Nat)),.U,.U,.U,.U,.U,.U,.U,.U,.U,.U,.U,.U,.U,.U,.U,.U,.U]/\Γ=[.vech 9 1 R (.slice a (l.map (fun s=>[GV.v (sv s)])).length c)]/\k<=l.length/\R=(l.take k).map (fun s=>[GV.v (sv s)])++List.replicate (l.length - k) Z) 0 ?_ ?_
 ·exact ⟨_,_,Wk.aC aq,_,_,rfl,rfl,Nat.zero_le _,by rw [hm];rfl⟩
 rintro k _ _ ⟨R,Z,rfl,rfl,hk,hR⟩
 have nB:R.length=l.length:=by rw [hR];exact kT hk
 have eF:R.length=(l.map (fun s=>[GV.v (sv s)])).length:=by rw [hm];exact nB
 by_cases ak:k < l.length
 ·have hx:l[k]?=some l[k]:=by simp [ak]
  have hr:(l.map (fun s=>[GV.v (sv s)]))[k]?=some ([GV.v (sv l[k])]):=by rw [getElem?_map,hx];rfl
  have de:decide ((k:Int) < ((l.map (fun s=>[GV.v (sv s)])).length:Int))=true:=by rw [hm];simpa using ak
  have bU:=kU (f:=(fun s=>[GV.v (sv s)])) (Z:=Z) hx;rw [<-hR] at bU;clear hR;generalize l[k]=x at *;refine ae ?_;refine jI ?_;refine ae ?_;exact ⟨k+1,⟨_,_,Wk.aC aq,_,Z,rfl,rfl,ak,bU⟩,by show l.length - (k+1) < l.length - k;omega⟩
 ·have de:decide ((k:Int) < ((l.map (fun s=>[GV.v (sv s)])).length:Int))=false:=by rw [hm];simpa using ak
  have lz:k=l.length:=by omega
  subst lz;rw [kR] at hR;subst hR;refine bI ?_;refine GW.wk (by apply Wk.rl (t:=3) (i:=0) <;> rfl) ?_;simp only [oset,bs];exact av
theorem DS (x:Ar):GF Tryz.prog 100 [.agg (aD x)] [] (.agg (aD x)) []:=by
 refine ai Tryz.func100 Tryz.ntmps100 ?_;exact dp
theorem Lg (l:List Ar) (hl:l.length<=1048576):GF Tryz.prog 42 [.sl 2 (l.map aD)] [] (.sl 2 (l.map aD)) []:=by
 have hm:(l.map aD).length=l.length:=by simp
 refine ai Tryz.func42 Tryz.ntmps42 ?_;refine GL.zu rfl ⟨by omega,by omega⟩ ?_;intro a c;refine bJ ?_;refine ae ?_;refine GW.loop (fun k:Nat=>l.length - k) (fun k fr Γ=>∃ R Z,fr=[.sl 2 (l.map aD),.U,.U,.v (.slice a (l.map aD).length c),.v (ii (k:Nat)),.U,.U,.U,.U,.U,.U,.U,.U,.U,.U,.U,.U,.U,.U,.U,.U,.U,.U]/\Γ=[.vech 88 2 R (.slice a (l.map aD).length c)]/\k<=l.length/\R=(l.take k).map aD++List.replicate (l.length - k) Z) 0 ?_ ?_
 ·exact ⟨_,_,Wk.aC aq,_,_,rfl,rfl,Nat.zero_le _,by rw [hm];rfl⟩
 rintro k _ _ ⟨R,Z,rfl,rfl,hk,hR⟩
 have nB:R.length=l.length:=by rw [hR];exact kT hk
 have eF:R.length=(l.map aD).length:=by rw [hm];exact nB
 by_cases ak:k < l.length
 ·have hx:l[k]?=some l[k]:=by simp [ak]
  have hr:(l.map aD)[k]?=some (aD l[k]):=by rw [getElem?_map,hx];rfl
  have de:decide ((k:Int) < ((l.map aD).length:Int))=true:=by rw [hm];simpa using ak
  have bU:=kU (f:=aD) (Z:=Z) hx;rw [<-hR] at bU;have hc:=DS l[k];clear hR;generalize l[k]=x at *;refine ae ?_;refine ab [] hc ?_;refine jI ?_;refine ae ?_;exact ⟨k+1,⟨_,_,Wk.aC aq,_,Z,rfl,rfl,ak,bU⟩,by show l.length - (k+1) < l.length - k;omega⟩
 ·have de:decide ((k:Int) < ((l.map aD).length:Int))=false:=by rw [hm];simpa using ak
  have lz:k=l.length:=by omega
  subst lz;rw [kR] at hR;subst hR;refine bI ?_;refine GW.wk (by apply Wk.rl (t:=3) (i:=0) <;> rfl) ?_;simp only [oset,bs];exact av
theorem V2 (x:Go.Sp.Fn) (hp:x.params.length<=1048576):GF Tryz.prog 101 [.agg (aw x)] [] (.agg (aw x)) []:=by
 have h0:=zE x.params hp;refine ai Tryz.func101 Tryz.ntmps101 ?_;refine ab [] h0 ?_;exact dp
theorem TA (l:List Go.Sp.Fn) (hl:l.length<=1048576) (he:∀ x∈l,x.params.length<=1048576):GF Tryz.prog 43 [.sl 3 (l.map aw)] [] (.sl 3 (l.map aw)) []:=by
 have hm:(l.map aw).length=l.length:=by simp
 refine ai Tryz.func43 Tryz.ntmps43 ?_;refine GL.zu rfl ⟨by omega,by omega⟩ ?_;intro a c;refine bJ ?_;refine ae ?_;refine GW.loop (fun k:Nat=>l.length - k) (fun k fr Γ=>∃ R Z,fr=[.sl 3 (l.map aw),.U,.U,.v (.slice a (l.map aw).length c),.v (ii (k:Nat)),.U,.U,.U,.U,.U,.U,.U,.U,.U,.U,.U,.U,.U,.U,.U,.U,.U,.U]/\Γ=[.vech 60 3 R (.slice a (l.map aw).length c)]/\k<=l.length/\R=(l.take k).map aw++List.replicate (l.length - k) Z) 0 ?_ ?_
 ·exact ⟨_,_,Wk.aC aq,_,_,rfl,rfl,Nat.zero_le _,by rw [hm];rfl⟩
 rintro k _ _ ⟨R,Z,rfl,rfl,hk,hR⟩
 have nB:R.length=l.length:=by rw [hR];exact kT hk
 have eF:R.length=(l.map aw).length:=by rw [hm];exact nB
 by_cases ak:k < l.length
 ·have hx:l[k]?=some l[k]:=by simp [ak]
  have hr:(l.map aw)[k]?=some (aw l[k]):=by rw [getElem?_map,hx];rfl
  have de:decide ((k:Int) < ((l.map aw).length:Int))=true:=by rw [hm];simpa using ak
  have bU:=kU (f:=aw) (Z:=Z) hx;rw [<-hR] at bU;have hex:=he _ (mem_of_getElem? hx);have hc:=V2 l[k] hex;clear hR;generalize l[k]=x at *;refine ae ?_;refine ab [] hc ?_;refine jI ?_;refine ae ?_;exact ⟨k+1,⟨_,_,Wk.aC aq,_,Z,rfl,rfl,ak,bU⟩,by show l.length - (k+1) < l.length - k;omega⟩
 ·have de:decide ((k:Int) < ((l.map aw).length:Int))=false:=by rw [hm];simpa using ak
  have lz:k=l.length:=by omega
  subst lz;rw [kR] at hR;subst hR;refine bI ?_;refine GW.wk (by apply Wk.rl (t:=3) (i:=0) <;> rfl) ?_;simp only [oset,bs];exact av
theorem QF (x:Nd) (hp:x.kids.length<=1048576):GF Tryz.prog 102 [.agg (ay x)] [] (.agg (ay x)) []:=by
 have h0:=QD x.kids hp;refine ai Tryz.func102 Tryz.ntmps102 ?_;refine ab [] h0 ?_;exact dp
theorem Oi (l:List Nd) (hl:l.length<=1048576) (he:∀ x∈l,x.kids.length<=1048576):GF Tryz.prog 44 [.sl 5 (l.map ay)] [] (.sl 5 (l.map ay)) []:=by
 have hm:(l.map ay).length=l.length:=by simp
 refine ai Tryz.func44 Tryz.ntmps44 ?_;refine GL.zu rfl ⟨by omega,by omega⟩ ?_;intro a c;refine bJ ?_;refine ae ?_;refine GW.loop (fun k:Nat=>l.length - k) (fun k fr Γ=>∃ R Z,fr=[.sl 5 (l.map ay),.U,.U,.v (.slice a (l.map ay).length c),.v (ii (k:Nat)),.U,.U,.U,.U,.U,.U,.U,.U,.U,.U,.U,.U,.U,.U,.U,.U,.U,.U]/\Γ=[.vech 91 5 R (.slice a (l.map ay).length c)]/\k<=l.length/\R=(l.take k).map ay++List.replicate (l.length - k) Z) 0 ?_ ?_
 ·exact ⟨_,_,Wk.aC aq,_,_,rfl,rfl,Nat.zero_le _,by rw [hm];rfl⟩
 rintro k _ _ ⟨R,Z,rfl,rfl,hk,hR⟩
 have nB:R.length=l.length:=by rw [hR];exact kT hk
 have eF:R.length=(l.map ay).length:=by rw [hm];exact nB
 by_cases ak:k < l.length
 ·have hx:l[k]?=some l[k]:=by simp [ak]
  have hr:(l.map ay)[k]?=some (ay l[k]):=by rw [getElem?_map,hx];rfl
  have de:decide ((k:Int) < ((l.map ay).length:Int))=true:=by rw [hm];simpa using ak
  have bU:=kU (f:=ay) (Z:=Z) hx;rw [<-hR] at bU;have hex:=he _ (mem_of_getElem? hx);have hc:=QF l[k] hex;clear hR;generalize l[k]=x at *;refine ae ?_;refine ab [] hc ?_;refine jI ?_;refine ae ?_;exact ⟨k+1,⟨_,_,Wk.aC aq,_,Z,rfl,rfl,ak,bU⟩,by show l.length - (k+1) < l.length - k;omega⟩
 ·have de:decide ((k:Int) < ((l.map ay).length:Int))=false:=by rw [hm];simpa using ak
  have lz:k=l.length:=by omega
  subst lz;rw [kR] at hR;subst hR;refine bI ?_;refine GW.wk (by apply Wk.rl (t:=3) (i:=0) <;> rfl) ?_;simp only [oset,bs];exact av
theorem Li (x:Src) (hg:x.globals.length<=1048576) (ha:x.arrays.length<=1048576) (hf:x.fns.length<=1048576) (A2:∀ f∈x.fns,f.params.length<=1048576) (hn:x.nodes.length<=1048576) (xJ:∀ n∈x.nodes,n.kids.length<=1048576):GF Tryz.prog 12 [.agg (ax x)] [] (.agg (ax x)) []:=by
 have h0:=zE x.globals hg;have h1:=Lg x.arrays ha;have h2:=TA x.fns hf A2;have h3:=Oi x.nodes hn xJ;refine ai Tryz.func12 Tryz.ntmps12 ?_;refine ab [] h0 ?_;refine ab [] h1 ?_;refine ab [] h2 ?_;refine ab [] h3 ?_;exact dp
end Go.Xg
namespace Go.Xg
open Go.RowKit Go.Xw
def Ob.lR:Ob->Bool
 | .vech _ _ _ _=>true
 | _=>false
def p9 (β:Bt) (aO:List Nat):Bt:=fun j=>match aO[j]? with
 | some i=>β i
 | none=>.no
section
variable {B:Bs} {K:Fz} {β:Bt} {Γ:List Ob} {w:World}
theorem ba.rM {K:Fz} {β bA:Bt} {vs:List Value} {gs:List GV} (h:ba K β vs gs) (hp:∀ g∈gs,g.pc=true):ba K bA vs gs:=⟨h.1,fun i v g h1 h2=>(h.2 i v g h1 h2).pc (hp g (mem_of_getElem? h2))⟩
theorem fA.flat {k:Nat} {rows:List (List GV)} (h:fA k rows):∀ g∈rows.flatten,g.pc=true:=fun g hg=>by
 obtain ⟨r,h1,h2⟩:=List.mem_flatten.1 hg;exact (h r h1).2 g h2
theorem Inv.pick (h:Inv B K β Γ w) (hm:B.m=0) {aO:List Nat} {Δ:List Ob} (hl:Δ.length=aO.length) (hn:aO.Nodup)
  (hx:∀ (j:Nat) x,Δ[j]?=some x->x.lR=true/\∀ i,aO[j]?=some i->Γ[i]?=some x):Inv B K (p9 β aO) Δ w:=by
 have hb:∀ i b,(p9 β aO i).blk=some b->∃ q,aO[i]?=some q/\(β q).blk=some b:=fun i b hi=>by
  unfold p9 at hi
  cases hs:aO[i]? with
  | none=>rw [hs] at hi;cases hi
  | some q=>rw [hs] at hi;exact ⟨q,rfl,hi⟩
 refine ⟨h.ext,h.kle,fun i=>by rw [h.loc i ag];trivial,h.loc,h.fz,fun i x hi=>?_,fun i hi=>?_,fun i j b hi hj=>?_,fun i b hi=>?_,h.kn,h.tab.step (S:=gq) (Ext.refl w) (fun _ h=>h.elim) (cm.refl K) (fun i b2 h2=>?_)⟩
 ·obtain ⟨h1,h2⟩:=hx i x hi;have ak:=(List.getElem?_eq_some_iff.1 hi).1;have hs:aO[i]?=some (aO[i]'ag):=getElem?_eq_getElem _
  cases x with
  | vech E k rows v =>
   obtain ⟨xs,e1,e2,e3,e4,e5⟩:=h.ob _ _ (h2 _ hs);refine ⟨xs,?_,e2,e3.rM e4.flat,e4,e5⟩;show p9 β aO i=_;unfold p9;rw [hs];exact e1
  | _=>cases h1
 ·unfold p9;rw [List.getElem?_eq_none ag]
 ·obtain ⟨q,h1,h2⟩:=hb i b hi;obtain ⟨r,h3,h4⟩:=hb j b hj;have:=h.dis q r b h2 h4;subst this;obtain ⟨a1,a2⟩:=List.getElem?_eq_some_iff.1 h1;obtain ⟨b1,b2⟩:=List.getElem?_eq_some_iff.1 h3;exact (List.getElem_inj hn).1 (a2.trans b2.symm)
 ·obtain ⟨q,h1,h2⟩:=hb i b hi;exact h.own q b h2
 ·obtain ⟨q,h3,h4⟩:=hb i b2 h2;exact .inl ⟨q,h4⟩
theorem Inv.view {i E k:Nat} {rows:List (List GV)} {x:Value} (h:Inv B K β Γ w) (hi:Γ[i]?=some (.vech E k rows x)):∃ K1,cm K K1/\ji K1 w/\gE K1 (fun _=>.no) w/\Rel K1 (fun _=>.no) x (.sl k rows):=by
 obtain ⟨K',hK,hr,bg⟩:=h.qb hi;exact ⟨K',hK,bg.fz,⟨bg.tab.le,bg.tab.pow,bg.tab.spc,fun i b h=>by cases h⟩,hr.pc rfl⟩
theorem Inv.ZQ (h:Inv B K β Γ w):gE K (fun _=>.no) w:=⟨h.tab.le,h.tab.pow,h.tab.spc,fun i b h=>by cases h⟩
theorem Inv.new (h:ji K w) (ht:gE K (fun _=>.no) w):Inv ⟨w,gq,K,fun _=>.no,0⟩ K (fun _=>.no) [] w :=
 ⟨Ext.refl w,cm.refl _,cZ.refl _,fun _ _=>rfl,h,fun i x h=>by simp at h,fun _ _=>rfl,fun i j b h=>(by cases h),fun i b h=>(by cases h),fun b o g h=>.inl h,ht⟩
theorem Inv.KZ {i idx o j E k T k':Nat} {rows ks:List (List GV)} {x h:Value} {r:List GV} (hI:Inv B K β Γ w) (hi:Γ[i]?=some (.vech T k rows h)) (hr:rows[idx]?=some r) (ho:r[o]?=some (.v x)) (bP:i≠j) (hj:Γ[j]?=some (.vech E k' ks x)) :
  ∃ K',cm K K'/\Inv B K' β (oset (oset Γ j (.vec E k' ks.length ks)) i (.vech T k (dm rows idx o (.sl k' ks)) h)) w:=by
 obtain ⟨K',hK,eV,bg⟩:=hI.qb hj;obtain ⟨xs,h1,h2,h3,h4,h5⟩:=bg.ob i (.vech T k rows h) (by rw [bd,getElem?_set,if_neg (fun e=>bP e.symm)];exact hi);have ak:=(List.getElem?_eq_some_iff.1 hr).1
 have M8:o < k:=by rw [<-(h4 r (mem_of_getElem? hr)).1];exact (List.getElem?_eq_some_iff.1 ho).1
 exact ⟨K',hK,bg.swap ⟨xs,by rw [fC];exact h1,by rw [fC];exact h2,by rw [uj M8 h4 ak];exact ba.bs eV h3 (tz h4 hr ho),yM rfl h4,h5⟩⟩
theorem sD {rows:List (List GV)} {i o:Nat} {g:GV} {r:List GV} (hr:rows[i]?=some r):∀ q,(dm rows i o g)[q]?=if q=i then some (bs r o g) else rows[q]?:=by
 induction rows generalizing i with
 | nil=>simp at hr
 | cons x rs ih =>
  intro q
  cases i with
  | zero =>
   cases hr
   cases q with
   | zero=>simp [dm]
   | succ q=>simp [dm]
  | succ i =>
   cases q with
   | zero=>simp [dm]
   | succ q =>
    have:=ih (by simpa using hr) q;simp only [dm,List.getElem?_cons_succ,this]
    by_cases h:q=i
    ·simp [h]
    ·simp [h]
theorem Inv.Al {T k o E k' jf N:Nat} {h:Value} {raw fin:Nat->List GV} {ks:Nat->List (List GV)} {hd:Nat->Value} {jp:Nat->Nat} (hI:Inv B K β Γ w) {Eg:List (List GV)} (M5:Γ[jf]?=some (.vech T k Eg h)) (h0:Eg.length=N/\∀ i,i < N->Eg[i]?=some (raw i))
  (Zq:∀ i,i < N->(raw i)[o]?=some (.v (hd i))/\bs (raw i) o (.sl k' (ks i))=fin i) (fq:∀ i,i < N->Γ[jp i]?=some (.vech E k' (ks i) (hd i))) (bP:∀ i,i < N->jp i≠jf) (Fj:∀ i i',i < N->i' < N->jp i=jp i'->i=i') :
  ∃ K' aK rows,cm K K'/\Inv B K' β aK w/\aK[jf]?=some (.vech T k rows h)/\rows.length=N/\(∀ i,i < N->rows[i]?=some (fin i))/\∀ q,q≠jf->(∀ i,i < N->q≠jp i)->aK[q]?=Γ[q]?:=by
 have key:∀ n,n<=N->∃ K' aK rows,cm K K'/\Inv B K' β aK w/\aK[jf]?=some (.vech T k rows h)/\rows.length=N/\(∀ i,i < n->rows[i]?=some (fin i))/\(∀ i,n<=i->i < N->rows[i]?=some (raw i))/\(∀ i,n<=i->i < N->aK[jp i]?=some (.vech E k' (ks i) (hd i)))/\∀ q,q≠jf->(∀ i,i < N->q≠jp i)->aK[q]?=Γ[q]?:=by
  intro n
  induction n with
  | zero=>intro _;exact ⟨K,Γ,Eg,cm.refl K,hI,M5,h0.1,fun i h=>by omega,fun i _ h=>h0.2 i h,fun i _ h=>fq i h,fun _ _ _=>rfl⟩
  | succ n ih =>
   intro hn;obtain ⟨K',aK,rows,a1,a2,a3,a4,a5,a6,a7,a8⟩:=ih ag;have hr:=a6 n (Nat.le_refl _) ag;obtain ⟨c1,c2⟩:=Zq n ag;obtain ⟨K2,b1,b2⟩:=a2.KZ a3 hr c1 (fun e=>bP n ag e.symm) (a7 n (Nat.le_refl _) ag);have ak:=(List.getElem?_eq_some_iff.1 a3).1;refine ⟨K2,_,dm rows n o (.sl k' (ks n)),a1.trans b1,b2,?_,by rw [fC];exact a4,fun i hi=>?_,fun i hi M2=>?_,fun i hi M2=>?_,fun q hq X1=>?_⟩
   ·rw [bd,bd,getElem?_set];simp [ak]
   ·rw [sD hr,c2]
    by_cases e:i=n
    ·rw [if_pos e,e]
    ·rw [if_neg e];exact a5 i ag
   ·rw [sD hr,if_neg ag];exact a6 i ag M2
   ·rw [bd,bd,getElem?_set,if_neg (fun e=>bP i M2 e.symm),getElem?_set,if_neg (fun e=>by have:=Fj n i ag M2 e;omega)];exact a7 i ag M2
   ·rw [bd,bd,getElem?_set,if_neg (fun e=>hq e.symm),getElem?_set,if_neg (fun e=>X1 n ag e.symm)];exact a8 q hq X1
 obtain ⟨K',aK,rows,a1,a2,a3,a4,a5,_,_,a8⟩:=key N (Nat.le_refl _);exact ⟨K',aK,rows,a1,a2,a3,a4,a5,a8⟩
end
section
variable {P:Program} {fn:Func} {R:GV->List Ob->Prop} {fr:List GV} {Γ:List Ob} {e:Exit}
theorem Wz {t:Tmp} {x:Value} (aO:List Nat) (Δ:List Ob) (hr:fn.results=#[.tmp t]) (he:e=.normal\/e=.ret) (hg:cH fr t=.v x) (hl:Δ.length=aO.length) (hn:aO.Nodup)
  (hx:∀ (j:Nat) x,Δ[j]?=some x->x.lR=true/\∀ i,aO[j]?=some i->Γ[i]?=some x) (h:R (.v x) Δ):sT P fn 0 R e fr Γ :=
 ⟨he,fun B K β w l hB hI hF=>⟨nth l t,K,p9 β aO,.v x,Δ,by rw [results_tmp hr,jR],hI.pick hB hl hn hx,by have:=hF.nth t;rw [hg] at this;rw [Rel.eD this];exact .v _,h⟩⟩
theorem WA {t:Tmp} {T:TypeId} {k:Nat} [hT:Ty P T true k] {i:Nat} {E:TypeId} {cs:List GV} (aO:List Nat) (Δ:List Ob) (hr:fn.results=#[.cell t T]) (he:e=.normal\/e=.ret) (hg:cH fr t=.loc i 0) (bz:Γ[i]?=some (.box E cs)) (hk:cs.length=k) (hp:rM cs=true)
  (hl:Δ.length=aO.length) (hn:aO.Nodup) (hx:∀ (j:Nat) x,Δ[j]?=some x->x.lR=true/\∀ i,aO[j]?=some i->Γ[i]?=some x) (h:R (.agg cs) Δ):sT P fn 0 R e fr Γ :=
 ⟨he,fun B K β w l hB hI hF=>by
  obtain ⟨b,vs,h1,h2,h3,h4⟩:=hI.ob i _ bz
  have UY:nth l t=.pointer (some ⟨b,0,none⟩):=by
   have:=hF.nth t;rw [hg] at this;generalize nth l t=v at this
   cases this with
   | loc _ _ b' bq=>rw [h1] at bq;cases bq;rfl
  have lf:l.toArray.getD t undef=.pointer (some ⟨b,0,none⟩):=by rw [jR,UY]
  have Fk:=nH (P:=P) (w:=w) (t:=T) (b:=b) (o:=0) (vs:=vs) (k:=k) (by rw [h3.1,hk]) (fun j v hj=>by
   rw [Nat.zero_add,cell_of_row w b j _ E (0,0) h2];simpa using hj)
  have zZ:l[t]?.getD undef=.pointer (some ⟨b,0,none⟩):=by simpa using lf
  have h5:ba K (p9 β aO) vs cs:=h3.rM (mP hp)
  exact ⟨.agg vs.toArray,K,p9 β aO,.agg cs,Δ,by simp [results,hr,zZ,asAddr,Fk],hI.pick hB hl hn hx,.agg vs cs h5.1 h5.2,h⟩⟩
end
section
variable {P:Program} {fn:Func} {R:GV->List Ob->Prop} {fr:List GV} {Γ:List Ob} {e:Exit}
theorem CZ {Γ:List Ob} {n:Nat} (h:∀ x∈Γ.drop n,x.lR=true):(Γ.drop n).length=((List.range (Γ.length - n)).map (·+n)).length/\((List.range (Γ.length - n)).map (·+n)).Nodup /\
  ∀ (j:Nat) x,(Γ.drop n)[j]?=some x->x.lR=true/\∀ i,((List.range (Γ.length - n)).map (·+n))[j]?=some i->Γ[i]?=some x:=by
 refine ⟨by simp,?_,fun j x hj=>⟨h x (mem_of_getElem? hj),fun i hi=>?_⟩⟩
 ·unfold List.Nodup;rw [List.pairwise_map]
  exact List.nodup_range.imp fun bP he=>bP ag
 ·have ak:=(List.getElem?_eq_some_iff.1 hj).1;rw [List.length_drop] at ak;rw [getElem?_map,List.getElem?_range ak] at hi;cases hi;rw [List.getElem?_drop] at hj;show Γ[j+n]?=some x;rw [Nat.add_comm];exact hj
theorem oS {t:Tmp} {x:Value} (n:Nat) (hr:fn.results=#[.tmp t]) (he:e=.normal\/e=.ret) (hg:cH fr t=.v x) (ha:∀ x∈Γ.drop n,x.lR=true) (h:R (.v x) (Γ.drop n)):sT P fn 0 R e fr Γ :=
 have hd:=CZ ha
 Wz _ (Γ.drop n) hr he hg hd.1 hd.2.1 hd.2.2 h
theorem JY {t:Tmp} {T:TypeId} {k:Nat} [hT:Ty P T true k] {i:Nat} {E:TypeId} {cs:List GV} (n:Nat) (hr:fn.results=#[.cell t T]) (he:e=.normal\/e=.ret) (hg:cH fr t=.loc i 0) (bz:Γ[i]?=some (.box E cs)) (hk:cs.length=k) (hp:rM cs=true)
  (ha:∀ x∈Γ.drop n,x.lR=true) (h:R (.agg cs) (Γ.drop n)):sT P fn 0 R e fr Γ :=
 have hd:=CZ ha
 WA _ (Γ.drop n) hr he hg bz hk hp hd.1 hd.2.1 hd.2.2 h
end
section
variable {P:Program} {m:Nat} {Q:dD} {fr:List GV} {Γ:List Ob} {ops:Array Oper} {rest:List Oper} {d:Option Tmp} {op:Op} {ty:TypeId} {pos:String} {af:Array Edge}
theorem GL.EE {t:TypeId} {x:Operand} {cs:List GV} (hx:mr (aY fr x)=some cs) (hp:rM cs=true) (h:GL P m ops Q rest (br fr d (.box cs 0)) Γ):GL P m ops Q (⟨d,.box t x,ty,pos,af,none⟩::rest) fr Γ:=fun B K β w l hm hI hF=>by
 obtain ⟨vs,h1,h2⟩:=(hF.ev x).cells hx
 refine WL.box rfl fun b w' hn=>?_
 rw [h1] at hn;obtain ⟨hle,bg⟩:=hI.tS hn h2 (mP hp);exact h B _ β w' _ hm bg ((hF.mono hle (cZ.refl β)).put d (Rel.box (K:=kO K b cs) (β:=β) b 0 0 cs (fun j g hg=>by rw [Nat.zero_add];exact uN hg)))
theorem GL.borrow {f:FuncId} [hf:aH P f] {args:List Operand} {mI:Array TypeId} {gs:List GV} {v:Value} (hc:GF P f gs [] (.v v) [])
  (hv:∀ B K β w l,Inv B K β Γ w->FR K β fr l->∃ K1,ji K1 w/\gE K1 (fun _=>.no) w/\ba K1 (fun _=>.no) (args.map (ev l)) gs)
  (h:GL P m ops Q rest (br fr d (.v v)) Γ):GL P m ops Q (⟨d,.call ⟨.value (.func f),args.toArray,mI⟩,ty,pos,af,none⟩::rest) fr Γ:=fun B K β w l hm hI hF=>by
 obtain ⟨K1,h1,h2,h3⟩:=hv B K β w l hI hF
 have oI:(execOp (ev l) ⟨d,.call ⟨.value (.func f),args.toArray,mI⟩,ty,pos,af,none⟩).run P w=.ok (.enter f (args.map (ev l)).toArray) w:=by simp [execOp,resolve,ev,Deferred.ofValue,invoke,lG]
 refine WL.calls oI (hc _ K1 _ w _ rfl (Inv.new h1 h2) h3) ?_;rintro x w' ⟨K',bA,g,aK,bg,eV,rfl,rfl⟩;exact h B K β w' _ hm (hI.same bg.ext) (hF.put d (by rw [Rel.eD eV];exact .v _))
theorem tA {P:Program} {w:World} {t e ty:TypeId} {i:TypeInfo} (hu:P.underlying t=some (.slice e)) (hi:P.info? e=some i) (a b:Option Addr) (n c d:Nat) (hc:n<=c) :
  (Builtin.append_ #[t,t] ty #[.slice a n c,.slice b 0 d]).run P w=.ok (.slice a n c) w:=by
 cases a <;> cases b <;> simp [Builtin.append_,run_underlying hu,sizeOf,typeInfo,hi,Builtin.lenOf,hc,Builtin.firstCells,loadCells,loadCellsFrom,storeCells]
theorem GL.Wi {s x:Operand} {t e k gU:Nat} [hT:n8 P t e k gU] (i:Nat) {dt:Tmp} {v:Value} {rows:List (List GV)} (hx:aY fr x=.sl k []) (hs:aY fr s=.v v) (bz:Γ[i]?=some (.vech e k rows v))
  (h:GL P m ops Q rest (br fr (some dt) (.v v)) Γ):GL P m ops Q (⟨some dt,.call ⟨.builtin .append,#[s,x],#[t,t]⟩,ty,pos,af,none⟩::rest) fr Γ:=fun B K β w l hm hI hF=>by
 obtain ⟨hu,⟨j,z,hi,_⟩,_⟩:=hT.parts;obtain ⟨xs,o1,o2,_⟩:=hI.ob i _ bz;have qx:ev l s=v:=hF.gV hs;have rF:=hF.ev x;rw [hx] at rF;generalize rG:ev l x=vx at rF
 obtain ⟨b,d',rfl⟩:∃ b d',vx=.slice b 0 d':=by
  cases rF with
  | sl0 a c k=>exact ⟨a,c,rfl⟩
  | sl b o c _ _ hr _=>exact ⟨_,_,rfl⟩
 obtain ⟨a,n,c,rfl,hc⟩:∃ a n c,v=.slice a n c/\n<=c:=by
  rcases o2.2 with ⟨e1,e2⟩ | ⟨g,cap,cur,e1,_,_,e2,_⟩
  ·exact ⟨_,_,_,e1,Nat.le_refl _⟩
  ·exact ⟨_,_,_,e1,e2⟩
 have mV:=tA (P:=P) (w:=w) (ty:=ty) hu hi a b n c d' hc;exact WL.val (v:=.slice a n c) (w':=w) (by simp [execOp,resolve,invoke,builtin,qx,rG,mV]) (h B K β w _ hm hI (hF.put _ (.v _)))
theorem GL.Wn {s x:Operand} {t e k gU:Nat} [hT:n8 P t e k gU] {i n fz:Nat} {dt:Tmp} {rows:List (List GV)} (hx:aY fr x=.sl k []) (hs:aY fr s=.vec i n) (bz:Γ[i]?=some (.vec e k fz rows)) (hn:rows.length=n)
  (h:GL P m ops Q rest (br fr (some dt) (.vec i n)) Γ):GL P m ops Q (⟨some dt,.call ⟨.builtin .append,#[s,x],#[t,t]⟩,ty,pos,af,none⟩::rest) fr Γ:=fun B K β w l hm hI hF=>by
 subst hn;obtain ⟨hu,⟨j,z,hi,_⟩,_⟩:=hT.parts;obtain ⟨h0,xs,o1,o2,_⟩:=hI.ob i _ bz;have td:=hF.ev s;rw [hs] at td
 have qx:ev l s=h0:=by
  generalize hv:ev l s=v at td
  cases td with
  | vec _ _ a c hh =>
   obtain ⟨h',m',e1,e2,e3⟩:=hh;rw [o1] at e1;cases e1;exact e3 rfl
 have rF:=hF.ev x;rw [hx] at rF;generalize rG:ev l x=vx at rF
 obtain ⟨b,d',rfl⟩:∃ b d',vx=.slice b 0 d':=by
  cases rF with
  | sl0 a c k=>exact ⟨a,c,rfl⟩
  | sl b o c _ _ hr _=>exact ⟨_,_,rfl⟩
 obtain ⟨a,n,c,rfl,hc⟩:∃ a n c,h0=.slice a n c/\n<=c:=by
  rcases o2.2 with ⟨e1,e2⟩ | ⟨g,cap,cur,e1,_,_,e2,_⟩
  ·exact ⟨_,_,_,e1,Nat.le_refl _⟩
  ·exact ⟨_,_,_,e1,e2⟩
 have mV:=tA (P:=P) (w:=w) (ty:=ty) hu hi a b n c d' hc;exact WL.val (v:=.slice a n c) (w':=w) (by simp [execOp,resolve,invoke,builtin,qx,rG,mV]) (h B K β w _ hm hI (hF.put _ (by have:=hF.ev s;rw [hs,qx] at this;exact this)))
theorem DF {Γ:List Ob} {i:Nat} {x:Ob} (h:Γ[i]?=some x):oset Γ i x=Γ:=by
 rw [bd];apply List.ext_getElem?;intro j;rw [getElem?_set]
 by_cases e:i=j
 ·subst e;have:=(List.getElem?_eq_some_iff.1 h).1;rw [if_pos rfl,if_pos this,h]
 ·rw [if_neg e]
theorem GL.D5 {s x:Operand} {t e k gU:Nat} [hT:n8 P t e k gU] (i:Nat) {n:Nat} {dt:Tmp} {a0:Option Addr} {c0:Nat} {rows news:List (List GV)} (hx:aY fr x=.sl k news) (hs:aY fr s=.v (.slice a0 n c0)) (bz:Γ[i]?=some (.vech e k rows (.slice a0 n c0))) (hn:rows.length=n) (h1:mb news=true)
  (hb:n+news.length<=9223372036854775807/\(n+news.length) * gU<=140737488355328)
  (h:∀ a c,GL P m ops Q rest (br fr (some dt) (.v (.slice a (n+news.length) c))) (oset Γ i (.vech e k (rows++news) (.slice a (n+news.length) c)))) :
  GL P m ops Q (⟨some dt,.call ⟨.builtin .append,#[s,x],#[t,t]⟩,ty,pos,af,none⟩::rest) fr Γ:=by
 cases news with
 | nil =>
  have h0:=h a0 c0;rw [append_nil,show n+([]:List (List GV)).length=n from rfl,DF bz] at h0;exact GL.Wi i hx hs bz h0
 | cons r rs=>exact GL.pJ i hx hs bz hn h1 rfl hb h
theorem GL.Wm {s x:Operand} {t e k gU:Nat} [hT:n8 P t e k gU] {i n fz:Nat} {dt:Tmp} {rows news:List (List GV)} (hx:aY fr x=.sl k news) (hs:aY fr s=.vec i n) (bz:Γ[i]?=some (.vec e k fz rows)) (hn:rows.length=n) (h1:mb news=true)
  (hb:n+news.length<=9223372036854775807/\(n+news.length) * gU<=140737488355328)
  (h:GL P m ops Q rest (br fr (some dt) (.vec i (n+news.length))) (oset Γ i (.vec e k fz (rows++news)))) :
  GL P m ops Q (⟨some dt,.call ⟨.builtin .append,#[s,x],#[t,t]⟩,ty,pos,af,none⟩::rest) fr Γ:=by
 cases news with
 | nil =>
  rw [append_nil,show n+([]:List (List GV)).length=n from rfl,DF bz] at h;exact GL.Wn hx hs bz hn h
 | cons r rs=>exact GL.app hx hs bz hn h1 rfl hb h
theorem N3:∀ (us vs:List Value),vs.length=us.length->gM vs 0 us=us:=by
 have key:∀ (us a vs:List Value),vs.length=us.length->gM (a++vs) a.length us=a++us:=by
  intro us
  induction us with
  | nil=>intro a vs h;rw [List.eq_nil_of_length_eq_zero h];rfl
  | cons u us ih =>
   intro a vs h
   cases vs with
   | nil=>simp at h
   | cons v vs =>
    have hu:eU (a++v::vs) a.length u=(a++[u])++vs:=by
     clear ih h
     induction a with
     | nil=>rfl
     | cons x a ih=>rw [cons_append,List.length_cons,eU,ih];rfl
    have:=ih (a++[u]) vs (by simpa using h);rw [length_append,List.length_singleton] at this;rw [gM,hu,this];simp
 intro us vs h;exact key us [] vs h
theorem GL.Vy {t:TypeId} {z:Value} {agg:Bool} {k:Nat} [hZ:qk P t z] [hT:Ty P t agg k] {dt ts:Tmp} {cs:List GV} {ty2:TypeId} {ZO:String} {Z5:Array Edge} {d2:Option Tmp} (hzk:z.cells.size=k) (hy:mr (cH fr ts)=some cs) (bP:Nat.beq ts dt=false) (fP:jC fr dt=true) (hk:cs.length=k) (h1:ma cs=true) (hp:rM cs=true)
  (h:GL P m ops Q rest (br (br fr (some dt) (.box cs 0)) d2 (.v undef)) Γ):GL P m ops Q (⟨some dt,.alloc t,ty,pos,af,none⟩::⟨d2,.store t (.tmp dt) (.tmp ts),ty2,ZO,Z5,none⟩::rest) fr Γ:=fun B K β w l hm hI hF=>by
 refine WL.alloc (z:=z) fun b w1 hn=>?_
 obtain ⟨us,kc,kD⟩:=(hF.nth ts).cells hy
 have Fp:ts≠dt:=by intro e;subst e;simp at bP
 have Vd:ev (put l (some dt) (.pointer (some ⟨b,0,none⟩))) (.tmp ts)=nth l ts:=nY Fp _;have ID:ev (put l (some dt) (.pointer (some ⟨b,0,none⟩))) (.tmp dt)=.pointer (some ⟨b,0,none⟩):=sA (mA hF fP) _
 have Di:us.length=k:=by rw [kD.1,hk]
 refine WL.st (t:=t) (k:=k) ID Vd hn.blk (by rw [kc];simpa using Di) ag (by rw [kc];simpa using kD.lC h1) fun w2 hs=>?_
 have bU:uG z.cells 0 us=us.toArray:=by
  have:=um us z.cells.toList 0;rw [N3 us _ (by rw [Array.length_toList,hzk,Di])] at this;simpa using this
 rw [kc,List.toList_toArray,bU] at hs;have Cd:uL w w2 b (.cells us.toArray t):=⟨hn.fresh,by rw [hs.size];exact hn.size,hs.blk,hn.ext.step hs.ext fun j hj=>.inl (by subst hj;rw [hn.fresh];exact Nat.le_refl _)⟩;obtain ⟨hle,bg⟩:=hI.tS Cd kD (mP hp);exact h B _ β w2 _ hm bg (((hF.mono hle (cZ.refl β)).put (some dt) (Rel.box (K:=kO K b cs) (β:=β) b 0 0 cs (fun j g hg=>by rw [Nat.zero_add];exact uN hg))).put d2 (.v _))
end
end Go.Xg
namespace Go.Xg
open Go.RowKit Go.Xw Go.Proofs
open Go.Xp (Nd Ar)
open Go.Sp (Src)
open Go.Im (kU kT kR)
attribute [local irreducible] GW GL GO YG GC GA aV aZ
def ca (l:List ah):List (List GV):=l.map fun s=>[GV.v (sv s)]
def bc (l:List Int):List (List GV):=l.map fun i=>[GV.v (ii i)]
def Hd (n:Nat) (h:Value):Prop:=∃ a c,h=.slice a n c
theorem zF (l:List ah) (hl:l.length<=1048576):GC Tryz.prog 41 [strs l] [] fun g Δ=>∃ h,Hd l.length h/\g=.v h/\Δ=[.vech 9 1 (ca l) h]:=by
 have hm:(l.map (fun s=>[GV.v (sv s)])).length=l.length:=by simp
 refine ai Tryz.func41 Tryz.ntmps41 ?_;refine GL.zu rfl ⟨by omega,by omega⟩ ?_;intro a c;refine bJ ?_;refine ae ?_;refine GW.loop (fun k:Nat=>l.length - k) (fun k fr Γ=>∃ R Z,fr=[strs l,.U,.U,.v (.slice a (l.map (fun s=>[GV.v (sv s)])).length c),.v (ii (k:Nat)),.U,.U,.U,.U,.U,.U,.U,.U,.U,.U,.U,.U,.U,.U,.U,.U,.U]/\Γ=[.vech 9 1 R (.slice a (l.map (fun s=>[GV.v (sv s)])).length c)]/\k<=l.length/\R=(l.take k).map (fun s=>[GV.v (sv s)])++List.replicate (l.length - k) Z) 0 ?_ ?_
 ·exact ⟨_,_,Wk.aC aq,_,_,rfl,rfl,Nat.zero_le _,by rw [hm];rfl⟩
 rintro k _ _ ⟨R,Z,rfl,rfl,hk,hR⟩
 have nB:R.length=l.length:=by rw [hR];exact kT hk
 have eF:R.length=(l.map (fun s=>[GV.v (sv s)])).length:=by rw [hm];exact nB
 by_cases ak:k < l.length
 ·have hx:l[k]?=some l[k]:=by simp [ak]
  have hr:(l.map (fun s=>[GV.v (sv s)]))[k]?=some ((fun s=>[GV.v (sv s)]) l[k]):=by rw [getElem?_map,hx];rfl
  have de:decide ((k:Int) < ((l.map (fun s=>[GV.v (sv s)])).length:Int))=true:=by rw [hm];simpa using ak
  have bU:=kU (f:=(fun s=>[GV.v (sv s)])) (Z:=Z) hx;rw [<-hR] at bU;clear hR;generalize l[k]=x at *;refine ae ?_;refine jI ?_;refine ae ?_;exact ⟨k+1,⟨_,_,Wk.aC aq,_,Z,rfl,rfl,ak,bU⟩,by show l.length - (k+1) < l.length - k;omega⟩
 ·have de:decide ((k:Int) < ((l.map (fun s=>[GV.v (sv s)])).length:Int))=false:=by rw [hm];simpa using ak
  have lz:k=l.length:=by omega
  subst lz;rw [kR] at hR;subst hR;refine bI ?_;refine ae ?_;refine ig ?_;exact oS 0 rfl cl rfl (fun x hx=>by rw [List.mem_singleton.1 hx];rfl) ⟨_,⟨_,_,by rw [hm]⟩,rfl,rfl⟩
theorem QE (l:List Int) (hl:l.length<=1048576):GC Tryz.prog 135 [ints l] [] fun g Δ=>∃ h,Hd l.length h/\g=.v h/\Δ=[.vech 3 1 (bc l) h]:=by
 have hm:(l.map (fun i=>[GV.v (ii i)])).length=l.length:=by simp
 refine ai Tryz.func135 Tryz.ntmps135 ?_;refine GL.zu rfl ⟨by omega,by omega⟩ ?_;intro a c;refine bJ ?_;refine ae ?_;refine GW.loop (fun k:Nat=>l.length - k) (fun k fr Γ=>∃ R Z,fr=[ints l,.U,.U,.v (.slice a (l.map (fun i=>[GV.v (ii i)])).length c),.v (ii (k:Nat)),.U,.U,.U,.U,.U,.U,.U,.U,.U,.U,.U,.U,.U,.U,.U,.U,.U]/\Γ=[.vech 3 1 R (.slice a (l.map (fun i=>[GV.v (ii i)])).length c)]/\k<=l.length/\R=(l.take k).map (fun i=>[GV.v (ii i)])++List.replicate (l.length - k) Z) 0 ?_ ?_
 ·exact ⟨_,_,Wk.aC aq,_,_,rfl,rfl,Nat.zero_le _,by rw [hm];rfl⟩
 rintro k _ _ ⟨R,Z,rfl,rfl,hk,hR⟩
 have nB:R.length=l.length:=by rw [hR];exact kT hk
 have eF:R.length=(l.map (fun i=>[GV.v (ii i)])).length:=by rw [hm];exact nB
 by_cases ak:k < l.length
 ·have hx:l[k]?=some l[k]:=by simp [ak]
  have hr:(l.map (fun i=>[GV.v (ii i)]))[k]?=some ((fun i=>[GV.v (ii i)]) l[k]):=by rw [getElem?_map,hx];rfl
  have de:decide ((k:Int) < ((l.map (fun i=>[GV.v (ii i)])).length:Int))=true:=by rw [hm];simpa using ak
  have bU:=kU (f:=(fun i=>[GV.v (ii i)])) (Z:=Z) hx;rw [<-hR] at bU;clear hR;generalize l[k]=x at *;refine ae ?_;refine jI ?_;refine ae ?_;exact ⟨k+1,⟨_,_,Wk.aC aq,_,Z,rfl,rfl,ak,bU⟩,by show l.length - (k+1) < l.length - k;omega⟩
 ·have de:decide ((k:Int) < ((l.map (fun i=>[GV.v (ii i)])).length:Int))=false:=by rw [hm];simpa using ak
  have lz:k=l.length:=by omega
  subst lz;rw [kR] at hR;subst hR;refine bI ?_;refine ae ?_;refine ig ?_;exact oS 0 rfl cl rfl (fun x hx=>by rw [List.mem_singleton.1 hx];rfl) ⟨_,⟨_,_,by rw [hm]⟩,rfl,rfl⟩
theorem Lh (l:List Ar) (hl:l.length<=1048576):GC Tryz.prog 42 [.sl 2 (l.map aD)] [] fun g Δ=>∃ h,Hd l.length h/\g=.v h/\Δ=[.vech 88 2 (List.map aD l) h]:=by
 have hm:(l.map (aD)).length=l.length:=by simp
 refine ai Tryz.func42 Tryz.ntmps42 ?_;refine GL.zu rfl ⟨by omega,by omega⟩ ?_;intro a c;refine bJ ?_;refine ae ?_;refine GW.loop (fun k:Nat=>l.length - k) (fun k fr Γ=>∃ R Z,fr=[.sl 2 (l.map aD),.U,.U,.v (.slice a (l.map (aD)).length c),.v (ii (k:Nat)),.U,.U,.U,.U,.U,.U,.U,.U,.U,.U,.U,.U,.U,.U,.U,.U,.U,.U]/\Γ=[.vech 88 2 R (.slice a (l.map (aD)).length c)]/\k<=l.length/\R=(l.take k).map (aD)++List.replicate (l.length - k) Z) 0 ?_ ?_
 ·exact ⟨_,_,Wk.aC aq,_,_,rfl,rfl,Nat.zero_le _,by rw [hm];rfl⟩
 rintro k _ _ ⟨R,Z,rfl,rfl,hk,hR⟩
 have nB:R.length=l.length:=by rw [hR];exact kT hk
 have eF:R.length=(l.map (aD)).length:=by rw [hm];exact nB
 by_cases ak:k < l.length
 ·have hx:l[k]?=some l[k]:=by simp [ak]
  have hr:(l.map (aD))[k]?=some ((aD) l[k]):=by rw [getElem?_map,hx];rfl
  have de:decide ((k:Int) < ((l.map (aD)).length:Int))=true:=by rw [hm];simpa using ak
  have bU:=kU (f:=(aD)) (Z:=Z) hx;rw [<-hR] at bU;have hc:=DS l[k];clear hR;generalize l[k]=x at *;refine ae ?_;refine ab [] hc ?_;refine jI ?_;refine ae ?_;exact ⟨k+1,⟨_,_,Wk.aC aq,_,Z,rfl,rfl,ak,bU⟩,by show l.length - (k+1) < l.length - k;omega⟩
 ·have de:decide ((k:Int) < ((l.map (aD)).length:Int))=false:=by rw [hm];simpa using ak
  have lz:k=l.length:=by omega
  subst lz;rw [kR] at hR;subst hR;refine bI ?_;refine ae ?_;refine ig ?_;exact oS 0 rfl cl rfl (fun x hx=>by rw [List.mem_singleton.1 hx];rfl) ⟨_,⟨_,_,by rw [hm]⟩,rfl,rfl⟩
def qd (x:Go.Sp.Fn) (h:Value):List GV:=[.v (sv x.name),.v h,.v (ii x.body)]
def rm (x:Go.Sp.Fn) (h:Value):Ob:=.vech 9 1 (ca x.params) h
theorem V3 (x:Go.Sp.Fn) (hp:x.params.length<=1048576):GC Tryz.prog 101 [.agg (aw x)] [] fun g Δ=>∃ h,Hd x.params.length h/\g=.agg (qd x h)/\Δ=[rm x h]:=by
 have h0:=zF x.params hp;refine ai Tryz.func101 Tryz.ntmps101 ?_;refine cn [] h0 ?_;rintro _ _ ⟨_,⟨a1,c1,rfl⟩,rfl,rfl⟩;refine cX ?_;refine ae ?_;refine ig ?_;refine JY 3 rfl cl rfl rfl rfl rfl ?_ ?_
 ·intro x hx;rw [List.mem_singleton.1 hx];rfl
 ·exact ⟨_,⟨_,_,rfl⟩,rfl,rfl⟩
theorem TB (l:List Go.Sp.Fn) (hl:l.length<=1048576) (he:∀ x∈l,x.params.length<=1048576):GC Tryz.prog 43 [.sl 3 (l.map aw)] [] fun g Δ=>∃ h hs,Hd l.length h/\hs.length=l.length/\(∀ (i:Nat) x y,l[i]?=some x->hs[i]?=some y->Hd x.params.length y)/\g=.v h /\
  Δ=.vech 60 3 (List.zipWith qd l hs) h::List.zipWith rm l hs:=by
 have hm:(l.map aw).length=l.length:=by simp
 refine ai Tryz.func43 Tryz.ntmps43 ?_;refine GL.zu rfl ⟨by omega,by omega⟩ ?_;intro a c;refine bJ ?_;refine ae ?_
 refine GW.loop (fun k:Nat=>l.length - k) (fun k fr Γ=>∃ R Z hs,fr=[.sl 3 (l.map aw),.U,.U,.v (.slice a (l.map aw).length c),.v (ii (k:Nat)),.U,.U,.U,.U,.U,.U,.U,.U,.U,.U,.U,.U,.U,.U,.U,.U,.U,.U]/\Γ=.vech 60 3 R (.slice a (l.map aw).length c)::List.zipWith rm (l.take k) hs/\k<=l.length/\hs.length=k /\
  (∀ (i:Nat) x y,l[i]?=some x->hs[i]?=some y->Hd x.params.length y)/\R=List.zipWith qd (l.take k) hs++List.replicate (l.length - k) Z) 0 ?_ ?_
 ·exact ⟨_,_,Wk.aC aq,_,_,[],rfl,rfl,Nat.zero_le _,rfl,(fun i x y _ h=>by simp at h),by rw [hm];rfl⟩
 rintro k _ _ ⟨R,Z,hs,rfl,rfl,hk,Fh,M1,hR⟩
 have nB:R.length=l.length:=by rw [hR,length_append,length_zipWith,length_take,List.length_replicate];omega
 have eF:R.length=(l.map aw).length:=by rw [hm];exact nB
 by_cases ak:k < l.length
 ·have hx:l[k]?=some l[k]:=by simp [ak]
  have hr:(l.map aw)[k]?=some (aw l[k]):=by rw [getElem?_map,hx];rfl
  have de:decide ((k:Int) < ((l.map aw).length:Int))=true:=by rw [hm];simpa using ak
  have hex:=he _ (mem_of_getElem? hx);have hc:=V3 l[k] hex
  have j0:l.take (k+1)=l.take k++[l[k]]:=by rw [take_add_one,hx];rfl
  have Nh:∀ {γ:Type} (f:Go.Sp.Fn->Value->γ) (h:Value),List.zipWith f (l.take (k+1)) (hs++[h])=List.zipWith f (l.take k) hs++[f l[k] h]:=fun f h=>by
   rw [j0,List.zipWith_append (by rw [length_take];omega)];rfl
  have bU:∀ h,R.set k (qd l[k] h)=List.zipWith qd (l.take (k+1)) (hs++[h])++List.replicate (l.length - (k+1)) Z:=fun h=>by
   have hz:(List.zipWith qd (l.take k) hs).length=k:=by rw [length_zipWith,length_take];omega
   rw [hR,Nh,show l.length - k=(l.length - (k+1))+1 by omega,List.replicate_succ,List.set_append_right _ _ ag,hz,Nat.sub_self,List.set_cons_zero];simp
  have Px:∀ h,Hd l[k].params.length h->∀ (i:Nat) x y,l[i]?=some x->(hs++[h])[i]?=some y->Hd x.params.length y:=fun h hh i x y h1 h2=>by
   by_cases hik:i < hs.length
   ·rw [List.getElem?_append_left hik] at h2;exact M1 i x y h1 h2
   ·have h3:=(List.getElem?_eq_some_iff.1 h2).1;rw [length_append,List.length_singleton] at h3
    have:i=k:=by omega
    subst this;rw [List.getElem?_append_right ag,Fh,Nat.sub_self] at h2;rw [hx] at h1
    cases h1;cases h2;exact hh
  clear hR;have UU:=Nh rm;unfold qd rm at hc;generalize hlx:l[k]=x at *;refine ae ?_;refine cn [] hc ?_;rintro _ _ ⟨_,⟨a1,c1,rfl⟩,rfl,rfl⟩;refine cX ?_;refine ae ?_;refine jI ?_;refine ae ?_;refine ⟨k+1,⟨_,_,Wk.aC aq,_,Z,hs++[_],rfl,?_,ak,by simp [Fh],Px _ ⟨a1,c1,rfl⟩,bU _⟩,by show l.length - (k+1) < l.length - k;omega⟩;rw [UU];rfl
 ·have de:decide ((k:Int) < ((l.map aw).length:Int))=false:=by rw [hm];simpa using ak
  have lz:k=l.length:=by omega
  subst lz;rw [take_length,Nat.sub_self,List.replicate_zero,append_nil] at hR;subst hR;rw [take_length];refine bI ?_;refine ae ?_;refine ig ?_;refine oS 0 rfl cl rfl (fun x hx=>?_) ⟨_,hs,⟨_,_,by rw [hm]⟩,Fh,M1,rfl,rfl⟩
  rcases List.mem_cons.1 hx with rfl | hx
  ·rfl
  ·obtain ⟨i,hi⟩:=getElem?_of_mem hx;rw [List.getElem?_zipWith] at hi;split at hi
   ·cases hi;rfl
   ·cases hi
def lI (x:Nd) (h:Value):List GV:=[.v (ii x.kind),.v (ii x.at_),.v (ii x.n),.v (sv x.s),.v h]
def mT (x:Nd) (h:Value):Ob:=.vech 3 1 (bc x.kids) h
theorem QG (x:Nd) (hp:x.kids.length<=1048576):GC Tryz.prog 102 [.agg (ay x)] [] fun g Δ=>∃ h,Hd x.kids.length h/\g=.agg (lI x h)/\Δ=[mT x h]:=by
 have h0:=QE x.kids hp;refine ai Tryz.func102 Tryz.ntmps102 ?_;refine cn [] h0 ?_;rintro _ _ ⟨_,⟨a1,c1,rfl⟩,rfl,rfl⟩;refine cX ?_;refine ae ?_;refine ig ?_;refine JY 3 rfl cl rfl rfl rfl rfl ?_ ?_
 ·intro x hx;rw [List.mem_singleton.1 hx];rfl
 ·exact ⟨_,⟨_,_,rfl⟩,rfl,rfl⟩
theorem Oj (l:List Nd) (hl:l.length<=1048576) (he:∀ x∈l,x.kids.length<=1048576):GC Tryz.prog 44 [.sl 5 (l.map ay)] [] fun g Δ=>∃ h hs,Hd l.length h/\hs.length=l.length/\(∀ (i:Nat) x y,l[i]?=some x->hs[i]?=some y->Hd x.kids.length y)/\g=.v h /\
  Δ=.vech 91 5 (List.zipWith lI l hs) h::List.zipWith mT l hs:=by
 have hm:(l.map ay).length=l.length:=by simp
 refine ai Tryz.func44 Tryz.ntmps44 ?_;refine GL.zu rfl ⟨by omega,by omega⟩ ?_;intro a c;refine bJ ?_;refine ae ?_
 refine GW.loop (fun k:Nat=>l.length - k) (fun k fr Γ=>∃ R Z hs,fr=[.sl 5 (l.map ay),.U,.U,.v (.slice a (l.map ay).length c),.v (ii (k:Nat)),.U,.U,.U,.U,.U,.U,.U,.U,.U,.U,.U,.U,.U,.U,.U,.U,.U,.U]/\Γ=.vech 91 5 R (.slice a (l.map ay).length c)::List.zipWith mT (l.take k) hs/\k<=l.length/\hs.length=k /\
  (∀ (i:Nat) x y,l[i]?=some x->hs[i]?=some y->Hd x.kids.length y)/\R=List.zipWith lI (l.take k) hs++List.replicate (l.length - k) Z) 0 ?_ ?_
 ·exact ⟨_,_,Wk.aC aq,_,_,[],rfl,rfl,Nat.zero_le _,rfl,(fun i x y _ h=>by simp at h),by rw [hm];rfl⟩
 rintro k _ _ ⟨R,Z,hs,rfl,rfl,hk,Fh,M1,hR⟩
 have nB:R.length=l.length:=by rw [hR,length_append,length_zipWith,length_take,List.length_replicate];omega
 have eF:R.length=(l.map ay).length:=by rw [hm];exact nB
 by_cases ak:k < l.length
 ·have hx:l[k]?=some l[k]:=by simp [ak]
  have hr:(l.map ay)[k]?=some (ay l[k]):=by rw [getElem?_map,hx];rfl
  have de:decide ((k:Int) < ((l.map ay).length:Int))=true:=by rw [hm];simpa using ak
  have hex:=he _ (mem_of_getElem? hx);have hc:=QG l[k] hex
  have j0:l.take (k+1)=l.take k++[l[k]]:=by rw [take_add_one,hx];rfl
  have Nh:∀ {γ:Type} (f:Nd->Value->γ) (h:Value),List.zipWith f (l.take (k+1)) (hs++[h])=List.zipWith f (l.take k) hs++[f l[k] h]:=fun f h=>by
   rw [j0,List.zipWith_append (by rw [length_take];omega)];rfl
  have bU:∀ h,R.set k (lI l[k] h)=List.zipWith lI (l.take (k+1)) (hs++[h])++List.replicate (l.length - (k+1)) Z:=fun h=>by
   have hz:(List.zipWith lI (l.take k) hs).length=k:=by rw [length_zipWith,length_take];omega
   rw [hR,Nh,show l.length - k=(l.length - (k+1))+1 by omega,List.replicate_succ,List.set_append_right _ _ ag,hz,Nat.sub_self,List.set_cons_zero];simp
  have Px:∀ h,Hd l[k].kids.length h->∀ (i:Nat) x y,l[i]?=some x->(hs++[h])[i]?=some y->Hd x.kids.length y:=fun h hh i x y h1 h2=>by
   by_cases hik:i < hs.length
   ·rw [List.getElem?_append_left hik] at h2;exact M1 i x y h1 h2
   ·have h3:=(List.getElem?_eq_some_iff.1 h2).1;rw [length_append,List.length_singleton] at h3
    have:i=k:=by omega
    subst this;rw [List.getElem?_append_right ag,Fh,Nat.sub_self] at h2;rw [hx] at h1
    cases h1;cases h2;exact hh
  clear hR;have UU:=Nh mT;unfold lI mT at hc;generalize hlx:l[k]=x at *;refine ae ?_;refine cn [] hc ?_;rintro _ _ ⟨_,⟨a1,c1,rfl⟩,rfl,rfl⟩;refine cX ?_;refine ae ?_;refine jI ?_;refine ae ?_;refine ⟨k+1,⟨_,_,Wk.aC aq,_,Z,hs++[_],rfl,?_,ak,by simp [Fh],Px _ ⟨a1,c1,rfl⟩,bU _⟩,by show l.length - (k+1) < l.length - k;omega⟩;rw [UU];rfl
 ·have de:decide ((k:Int) < ((l.map ay).length:Int))=false:=by rw [hm];simpa using ak
  have lz:k=l.length:=by omega
  subst lz;rw [take_length,Nat.sub_self,List.replicate_zero,append_nil] at hR;subst hR;rw [take_length];refine bI ?_;refine ae ?_;refine ig ?_;refine oS 0 rfl cl rfl (fun x hx=>?_) ⟨_,hs,⟨_,_,by rw [hm]⟩,Fh,M1,rfl,rfl⟩
  rcases List.mem_cons.1 hx with rfl | hx
  ·rfl
  ·obtain ⟨i,hi⟩:=getElem?_of_mem hx;rw [List.getElem?_zipWith] at hi;split at hi
   ·cases hi;rfl
   ·cases hi
def jn (p:Src) (hg ha hf hn:Value) (fs ns:List Value):List Ob :=
 .vech 9 1 (ca p.globals) hg::.vech 88 2 (p.arrays.map aD) ha::.vech 60 3 (List.zipWith qd p.fns fs) hf::(List.zipWith rm p.fns fs++.vech 91 5 (List.zipWith lI p.nodes ns) hn::List.zipWith mT p.nodes ns)
structure BN (p:Src) (hg ha hf hn:Value) (fs ns:List Value):Prop where
 g:Hd p.globals.length hg
 a:Hd p.arrays.length ha
 f:Hd p.fns.length hf
 n:Hd p.nodes.length hn
 fl:fs.length=p.fns.length
 nl:ns.length=p.nodes.length
 fh:∀ (i:Nat) x y,p.fns[i]?=some x->fs[i]?=some y->Hd x.params.length y
 nh:∀ (i:Nat) x y,p.nodes[i]?=some x->ns[i]?=some y->Hd x.kids.length y
theorem AB {α:Type} {f:α->Value->Ob} (hf:∀ a h,(f a h).lR=true) {l:List α} {hs:List Value}:∀ x∈List.zipWith f l hs,x.lR=true:=fun x hx=>by
 obtain ⟨i,hi⟩:=getElem?_of_mem hx;rw [List.getElem?_zipWith] at hi;split at hi
 ·cases hi;exact hf _ _
 ·cases hi
theorem Ao (p:Src) (hg ha hf hn:Value) (fs ns:List Value):∀ x∈jn p hg ha hf hn fs ns,x.lR=true:=fun x hx=>by
 unfold jn at hx
 rcases List.mem_cons.1 hx with rfl | hx
 ·rfl
 rcases List.mem_cons.1 hx with rfl | hx
 ·rfl
 rcases List.mem_cons.1 hx with rfl | hx
 ·rfl
 rcases List.mem_append.1 hx with hx | hx
 ·exact AB (fun _ _=>rfl) x hx
 rcases List.mem_cons.1 hx with rfl | hx
 ·rfl
 ·exact AB (fun _ _=>rfl) x hx
theorem G2 {α:Type} {f:α->Value->Ob} (hf:∀ a h,(f a h).lR=true) {l:List α} {hs:List Value} (r:Nat->Nat):(List.zipWith f l hs).map (Ob.dz r)=List.zipWith f l hs:=by
 refine (List.map_congr_left fun x hx=>?_).trans (List.map_id _);have:=AB hf x hx
 cases x <;> first | rfl | cases this
theorem Lj (x:Src) (hg:x.globals.length<=1048576) (ha:x.arrays.length<=1048576) (hf:x.fns.length<=1048576) (A2:∀ f∈x.fns,f.params.length<=1048576) (hn:x.nodes.length<=1048576) (xJ:∀ n∈x.nodes,n.kids.length<=1048576) :
  GC Tryz.prog 12 [.agg (ax x)] [] fun g Δ=>∃ hg ha hf hn fs ns,BN x hg ha hf hn fs ns/\g=.agg [.v hg,.v ha,.v hf,.v hn]/\Δ=jn x hg ha hf hn fs ns:=by
 have h0:=zF x.globals hg;have h1:=Lh x.arrays ha;have h2:=TB x.fns hf A2;have h3:=Oj x.nodes hn xJ;refine ai Tryz.func12 Tryz.ntmps12 ?_;refine cn [] h0 ?_;rintro _ _ ⟨_,⟨a0,c0,rfl⟩,rfl,rfl⟩;refine cX ?_;refine ae ?_;refine cn [] h1 ?_;rintro _ _ ⟨_,⟨a1,c1,rfl⟩,rfl,rfl⟩;refine cX ?_;refine ae ?_;refine cn [] h2 ?_;rintro _ _ ⟨_,fs,⟨a2,c2,rfl⟩,e1,e2,rfl,rfl⟩;rw [List.map_cons,G2 (fun _ _=>rfl)];refine cX ?_;refine ae ?_;refine cn [] h3 ?_;rintro _ _ ⟨_,ns,⟨a3,c3,rfl⟩,e3,e4,rfl,rfl⟩;rw [List.map_cons,G2 (fun _ _=>rfl)];refine cX ?_;refine ae ?_;refine ig ?_;refine JY 3 rfl cl rfl rfl rfl rfl ?_ ?_
 ·exact Ao x _ _ _ _ fs ns
 ·exact ⟨_,_,_,_,fs,ns,⟨⟨_,_,rfl⟩,⟨_,_,rfl⟩,⟨_,_,rfl⟩,⟨_,_,rfl⟩,e1,e3,e2,e4⟩,rfl,rfl⟩
end Go.Xg
namespace Go.Xg
open Go.RowKit Go.Xw Go.Proofs
open Go.Xp (Nd T Ar aP az)
open Go.Sp (Src)
open Go.Im
attribute [local irreducible] GW GL GO YG GC GA aV aZ
section
variable {B:Bs} {K:Fz} {β:Bt} {w:World} {l:List Value} {fr:List GV} {A C:List Ob}
theorem gT {x y:Operand} {E k:Nat} {rows:List (List GV)} {h z:Value} (hI:Inv B K β (A++(.vech E k rows h::C)) w) (hF:FR K β fr l) (hx:aY fr x=.v h) (hy:aY fr y=.v z) :
  ∃ K1,ji K1 w/\gE K1 (fun _=>.no) w/\ba K1 (fun _=>.no) ([x,y].map (ev l)) [.sl k rows,.v z]:=by
 obtain ⟨K1,hk,h1,h2,h3⟩:=hI.view (i:=A.length) (E:=E) (k:=k) (rows:=rows) (x:=h) (by rw [List.getElem?_append_right (Nat.le_refl _),Nat.sub_self];rfl);refine ⟨K1,h1,h2,?_⟩;show ba K1 _ [ev l x,ev l y] _;rw [hF.gV hx,hF.gV hy];exact .cons h3 (.cons (.v _) .nil)
end
theorem vC (l:List ah):(ca l).length=l.length:=by simp [ca]
theorem O0 (xs:List Int) (s:Int) (hl:xs.length<=1099511627776):GF Tryz.prog 110 [ints xs,.v (ii s)] [] (.v (ii (cE (fun x=>s==x) xs))) []:=by
 have dK:(xs.map fun i=>[GV.v (ii i)]).length=xs.length:=by simp
 refine ai Tryz.func110 Tryz.ntmps110 ?_;refine GW.range (xs.map fun i=>[GV.v (ii i)]).length (fun k fr Γ=>fr=[ints xs,.v (ii s),.U,.U,.U,.U,ints xs,.v (ii ((xs.map fun i=>[GV.v (ii i)]).length:Int)),.v (ii (k:Nat)),.U,.U,.U,.U,.U,.U,.U,.U,.U,.U]/\Γ=[]/\((xs.take k).all fun x=>!(s==x))=true) ?_ ag ?_ ?_ ?_
 ·exact jz
 ·exact gy
 ·rintro k _ _ ak ⟨rfl,rfl,aQ⟩;rw [dK] at ak;obtain ⟨x,cJ⟩:∃ x,xs[k]?=some x:=⟨xs[k],by simp [ak]⟩;have hr:=pC cJ;have bu:=lX (f:=fun y:Int=>s==y) cJ
  have hit:=fun h0=>l6 (f:=fun y:Int=>s==y) cJ h0 aQ
  cases hb:(s==x) with
  | true =>
   rw [hit hb];exact av
  | false =>
   refine ae ?_;exact ⟨rfl,rfl,_,_,Wk.aC aq,rfl,rfl,by rw [bu,aQ,hb];rfl⟩
 ·rintro _ _ ⟨rfl,rfl,aQ⟩;rw [dK,take_length] at aQ;rw [jA aQ];exact av
theorem yY (xs:List Int) (s:Int) (hl:xs.length<=1099511627776):GF Tryz.prog 56 [ints xs,.v (ii s)] [] (.v (.bool (xs.contains s))) []:=by
 have hi:=O0 xs s hl
 have he:xs.contains s=xs.any (fun x=>s==x):=by rw [List.contains_eq_any_beq]
 rw [he,<-C3];generalize cE (fun x=>s==x) xs=i at *;refine ai Tryz.func56 Tryz.ntmps56 ?_;refine ab [] hi ?_;exact al
end Go.Xg
set_option maxHeartbeats 4000000
namespace Go.Xg
open Go.RowKit Go.Xw Go.Proofs
open Go.Xp (Nd T Ar aP az)
open Go.Sp (Src)
open Go.Im
attribute [local irreducible] GW GL GO YG GC GA aV aZ
theorem F6 (l:List ah):mb (l.map fun s=>[GV.v (sv s)])=true:=by
 induction l with
 | nil=>rfl
 | cons s l ih=>rw [List.map_cons,mb,ih];rfl
theorem GW.Mj {P:Program} {m:Nat} {c:Code} {Q:dD} {fr b8:List GV} {Γ aK:List Ob} (h1:sK fr b8) (h2:Γ=aK) (h:GW P m c Q b8 aK):GW P m c Q fr Γ:=by
 subst h2;exact GW.wk (Wk.aC h1) h
def tZ (n:Nd):Bool:=(n.kind==4&&n.s==[115,105,122,101])&&((n.kids.length:Int)==1)
theorem Bf (p:Src) (a:Nat) (n:Nd) (hn:p.nodes[a]?=some n):GF Tryz.prog 172 [.agg (ax p),.v (ii (a:Nat))] [] (.v (.bool (tZ n))) []:=by
 have hr:=jU hn
 have eS:(n.kids.map fun i=>[GV.v (ii i)]).length=n.kids.length:=by simp
 unfold tZ;rw [<-eS];unfold ay ints at hr;generalize (n.kids.map fun i=>[GV.v (ii i)])=kk at *
 cases h1:(n.kind==4)
 all_goals cases h2:(n.s==[115,105,122,101])
 all_goals
  refine ai Tryz.func172 Tryz.ntmps172 ?_;exact al
theorem Vw (p:Src) (s:ah) (hn:p.fns.length<=1099511627776):GF Tryz.prog 245 [.agg (ax p),.v (sv s)] [] (.v (ii (nk p s))) []:=by
 have hF:=Mt p s hn;unfold nk oT pX iO
 cases h1:(s==[103,101,116]) with
 | true =>
  rw [if_pos (by simpa using h1)];refine ai Tryz.func245 Tryz.ntmps245 ?_;exact al
 | false =>
  rw [if_neg (by simpa using h1)]
  cases h2:(s==[112,117,116]) with
  | true =>
   rw [if_pos (.inl (by simpa using h2))];refine ai Tryz.func245 Tryz.ntmps245 ?_;exact al
  | false =>
   cases h3:(s==[115,105,122,101]) with
   | true =>
    rw [if_pos (.inr (by simpa using h3))];refine ai Tryz.func245 Tryz.ntmps245 ?_;exact al
   | false =>
    rw [if_neg (by simpa using And.intro (show ¬ s=[112,117,116] by simpa using h2) (show ¬ s=[115,105,122,101] by simpa using h3))];unfold cE at hF
    cases hx:p.fns.findIdx? (fun f:Go.Sp.Fn=>f.name==s) with
    | none =>
     rw [hx] at hF
     have hd:decide ((0:Int) <= -1)=false:=by decide
     refine ai Tryz.func245 Tryz.ntmps245 ?_;refine ab [] hF ?_;exact al
    | some i =>
     rw [hx] at hF;have hi:i < p.fns.length:=(List.findIdx?_eq_some_iff_getElem.1 hx).1;obtain ⟨f,hf⟩:∃ f,p.fns[i]?=some f:=⟨p.fns[i],by simp [hi]⟩
     have hr:(p.fns.map aw)[i]?=some (aw f):=by rw [getElem?_map,hf];rfl
     have cR:(f.params.map fun s=>[GV.v (sv s)]).length=f.params.length:=by simp
     have hd:decide ((0:Int)<=((i:Nat):Int))=true:=by simp
     unfold aw at hr;simp only at hF |-;unfold lD;rw [hf];simp only;rw [<-cR];refine ai Tryz.func245 Tryz.ntmps245 ?_;refine ab [] hF ?_;exact al
end Go.Xg
namespace Go.Xg
open Go.RowKit Go.Xw Go.Proofs
open Go.Xp (Nd T Ar aP az dX bX)
open Go.Sp (Src)
open Go.Im
attribute [local irreducible] GW GL GO YG GC GA aV aZ
theorem IL {p:Src} {a:Nat} {n:Nd} {l:List T} (cq:eu p.nodes a (.mk n l)):dR (.mk n l)=tZ n:=by
 rw [eu] at cq;unfold dR tZ iO
 congr 1
 rw [cq.2.1,dX]
 exact Bool.eq_iff_iff.2 (by
  show ((l.length==1)=true)↔_
  simp only [beq_iff_eq];omega)
theorem Hg (p:Src) (a:Nat) (n:Nd) (l:List T) (ls:List ah) (cq:eu p.nodes a (.mk n l)) (iL:p.fns.length<=1099511627776) (jq:p.arrays.length<=1099511627776) (mz:ls.length<=1099511627776) :
  GF Tryz.prog 209 [.agg (ax p),.v (ii (a:Nat)),strs ls] [] (.v (ii (eX p (.mk n l) ls))) []:=by
 have hs:=IL cq;rw [eu] at cq;obtain ⟨hn,hk,tX⟩:=cq;have hS:=Bf p a n hn;have hr:=jU hn
 have eS:(n.kids.map fun i=>[GV.v (ii i)]).length=l.length:=by rw [length_map,hk,dX]
 unfold eX;rw [hs]
 cases hz:tZ n with
 | true =>
  rw [hz] at hS;rw [if_pos rfl]
  have eT:l.length=1:=by
   unfold tZ at hz;simp only [Bool.and_eq_true,beq_iff_eq] at hz;rw [hk,dX] at hz;omega
  obtain ⟨u,rfl⟩:∃ u,l=[u]:=by
   match l,eT with
   | [u],_=>exact ⟨u,rfl⟩
  have hm:p.nodes[a+1]?=some u.n:=by
   rw [dy] at tX;have:=tX.1
   cases u;rw [eu] at this;exact this.1
  have zk:n.kids[0]?=some (((a+1:Nat)):Int):=by rw [hk];rfl
  have oI:=pC zk;have fY:=jU hm;show GF _ _ _ _ (.v (ii (if fV p u.n ls=true then 24 else 0))) _;generalize u.n=m at *;have hA:=CR p m.s jq;have hL:=kq ls m.s mz;have hb:fV p m ls=((m.kind != 2 || decide (cE (fun x:Ar=>x.name==m.s) p.arrays < 0)) || ls.contains m.s):=rfl;rw [hb];generalize cE (fun x:Ar=>x.name==m.s) p.arrays=z at *;unfold ay at hr fY
  cases h1:(m.kind != 2) with
  | true =>
   refine ai Tryz.func209 Tryz.ntmps209 ?_;refine ab [] hS ?_;refine aI (aB 0 8 (.a 8 (.a 9 .nil))) ?_;refine ar ?_;exact av
  | false =>
   cases h2:decide (z < 0) with
   | true =>
    refine ai Tryz.func209 Tryz.ntmps209 ?_;refine ab [] hS ?_;refine aI (aB 0 8 (.a 8 (.a 9 .nil))) ?_;refine bf ?_;refine ab [] hA ?_;exact al
   | false =>
    generalize ls.contains m.s=b at *;cases b
    all_goals
     refine ai Tryz.func209 Tryz.ntmps209 ?_;refine ab [] hS ?_;refine aI (aB 0 8 (.a 8 (.a 9 .nil))) ?_;refine bf ?_;refine ab [] hA ?_;refine ab [] hL ?_;exact al
 | false =>
  rw [hz] at hS;rw [if_neg aJ];have hM:=Vw p n.s iL;show GF _ _ _ _ (.v (ii (if nk p n.s = -1 then 22 else if nk p n.s=(l.length:Int) then 0 else 23))) _;generalize nk p n.s=z at *;rw [<-eS];unfold ay at hr;unfold ints at hr;generalize (n.kids.map fun i=>[GV.v (ii i)])=kk at *
  cases h1:(z == -1) with
  | true =>
   rw [if_pos (by simpa using h1)];refine ai Tryz.func209 Tryz.ntmps209 ?_;refine ab [] hS ?_;refine ab [] hM ?_;exact al
  | false =>
   rw [if_neg (by simpa using h1)]
   cases h2:(z==(kk.length:Int)) with
   | true =>
    rw [if_pos (by simpa using h2)];refine ai Tryz.func209 Tryz.ntmps209 ?_;refine ab [] hS ?_;refine ab [] hM ?_;exact al
   | false =>
    rw [if_neg (by simpa using h2)];refine ai Tryz.func209 Tryz.ntmps209 ?_;refine ab [] hS ?_;refine ab [] hM ?_;exact al
theorem Hz (p:Src) (a:Nat) (n:Nd) (l:List T) (ls:List ah) (cq:eu p.nodes a (.mk n l)) (iL:p.fns.length<=1099511627776) (jq:p.arrays.length<=1099511627776) (jr:p.globals.length<=1099511627776) (mz:ls.length<=1099511627776) :
  GF Tryz.prog 173 [.agg (ax p),.v (ii (a:Nat)),strs ls] [] (.v (ii (bY p (.mk n l) ls))) []:=by
 have hC:=Hg p a n l ls cq iL jq mz
 have hn:p.nodes[a]?=some n:=by rw [eu] at cq;exact cq.1
 clear cq;have hr:=jU hn;have hL:=kq ls n.s mz;have hG:=kq p.globals n.s jr;have hA:=CR p n.s jq
 have pQ:(ls.map fun s=>[GV.v (sv s)]).length=ls.length:=by simp
 have he:bY p (.mk n l) ls=(if n.kind=13 then (if ls.contains n.s=true then 21 else if ls.length>=40 then 26 else 0)
  else if n.kind=2\/n.kind=7 then (if ls.contains n.s=false/\p.globals.contains n.s=false then 22 else 0)
  else if n.kind=3\/n.kind=8 then (if ls.contains n.s=true\/cE (fun x:Ar=>x.name==n.s) p.arrays < 0 then 24 else 0)
  else if n.kind=4 then eX p (.mk n l) ls else 0):=rfl
 rw [he];generalize eX p (.mk n l) ls=cf at *;obtain ⟨kd,at_,nn,s,ks⟩:=n;simp only at *;unfold ay at hr;simp only at hr;generalize cE (fun x:Ar=>x.name==s) p.arrays=z at *;generalize ls.contains s=b at *;generalize p.globals.contains s=g at *;rw [<-pQ]
 by_cases eI:kd=13
 ·subst eI
  have Ja:((13:Int)==13)=true:=by decide
  rw [if_pos rfl]
  cases b with
  | true =>
   refine ai Tryz.func173 Tryz.ntmps173 ?_;refine ab [] hL ?_;exact al
  | false =>
   cases h4:decide ((40:Int)<=(((ls.map fun s=>[GV.v (sv s)]).length:Nat):Int)) with
   | true =>
    rw [if_neg aJ,if_pos (by simp at h4;omega)];refine ai Tryz.func173 Tryz.ntmps173 ?_;refine ab [] hL ?_;exact al
   | false =>
    rw [if_neg aJ,if_neg (by simp at h4;omega)];refine ai Tryz.func173 Tryz.ntmps173 ?_;refine ab [] hL ?_;exact al
 rw [if_neg eI]
 by_cases h2:kd=2
 ·subst h2
  have Ja:((2:Int)==13)=false:=by decide
  have q2:((2:Int)==2)=true:=by decide
  rw [if_pos aJ]
  cases b with
  | true =>
   refine ai Tryz.func173 Tryz.ntmps173 ?_;refine ab [] hL ?_;exact al
  | false =>
   cases g
   all_goals
    refine ai Tryz.func173 Tryz.ntmps173 ?_;refine ab [] hL ?_;refine ab [] hG ?_;exact al
 by_cases h7:kd=7
 ·subst h7
  have Ja:((7:Int)==13)=false:=by decide
  have q2:((7:Int)==2)=false:=by decide
  have q7:((7:Int)==7)=true:=by decide
  rw [if_pos aJ]
  cases b with
  | true =>
   refine ai Tryz.func173 Tryz.ntmps173 ?_;refine ab [] hL ?_;exact al
  | false =>
   cases g
   all_goals
    refine ai Tryz.func173 Tryz.ntmps173 ?_;refine ab [] hL ?_;refine ab [] hG ?_;exact al
 rw [if_neg (by rintro (h | h);(· exact h2 h);exact h7 h)]
 by_cases h3:kd=3
 ·subst h3
  have Ja:((3:Int)==13)=false:=by decide
  have q2:((3:Int)==2)=false:=by decide
  have q7:((3:Int)==7)=false:=by decide
  have q3:((3:Int)==3)=true:=by decide
  rw [if_pos aJ]
  cases b with
  | true =>
   refine ai Tryz.func173 Tryz.ntmps173 ?_;refine ab [] hL ?_;exact al
  | false =>
   cases hz:decide (z < 0) with
   | true =>
    rw [if_pos (.inr (by simpa using hz))];refine ai Tryz.func173 Tryz.ntmps173 ?_;refine ab [] hL ?_;refine ab [] hA ?_;exact al
   | false =>
    rw [if_neg (by rintro (h | h);(· cases h);(· simp at hz;omega))];refine ai Tryz.func173 Tryz.ntmps173 ?_;refine ab [] hL ?_;refine ab [] hA ?_;exact al
 by_cases h8:kd=8
 ·subst h8
  have Ja:((8:Int)==13)=false:=by decide
  have q2:((8:Int)==2)=false:=by decide
  have q7:((8:Int)==7)=false:=by decide
  have q3:((8:Int)==3)=false:=by decide
  have q8:((8:Int)==8)=true:=by decide
  rw [if_pos aJ]
  cases b with
  | true =>
   refine ai Tryz.func173 Tryz.ntmps173 ?_;refine ab [] hL ?_;exact al
  | false =>
   cases hz:decide (z < 0) with
   | true =>
    rw [if_pos (.inr (by simpa using hz))];refine ai Tryz.func173 Tryz.ntmps173 ?_;refine ab [] hL ?_;refine ab [] hA ?_;exact al
   | false =>
    rw [if_neg (by rintro (h | h);(· cases h);(· simp at hz;omega))];refine ai Tryz.func173 Tryz.ntmps173 ?_;refine ab [] hL ?_;refine ab [] hA ?_;exact al
 rw [if_neg (by rintro (h | h);(· exact h3 h);exact h8 h)]
 by_cases h4:kd=4
 ·subst h4
  have Ja:((4:Int)==13)=false:=by decide
  have q2:((4:Int)==2)=false:=by decide
  have q7:((4:Int)==7)=false:=by decide
  have q3:((4:Int)==3)=false:=by decide
  have q8:((4:Int)==8)=false:=by decide
  have q4:((4:Int)==4)=true:=by decide
  rw [if_pos rfl];refine ai Tryz.func173 Tryz.ntmps173 ?_;refine ab [] hL ?_;refine ab [] hC ?_;exact al
 rw [if_neg h4]
 have Ja:(kd==13)=false:=by simpa using eI
 have q2:(kd==2)=false:=by simpa using h2
 have q7:(kd==7)=false:=by simpa using h7
 have q3:(kd==3)=false:=by simpa using h3
 have q8:(kd==8)=false:=by simpa using h8
 have q4:(kd==4)=false:=by simpa using h4
 refine ai Tryz.func173 Tryz.ntmps173 ?_;refine ab [] hL ?_;exact al
theorem Uf {K K1:Fz} {β:Bt} {v:Value} {gs:List GV} (hk:cm K K1) (hp:∀ g∈gs,g.pc=true) (h:Rel K β v (.agg gs)):Rel K1 (fun _=>.no) v (.agg gs):=by
 cases h with
 | agg vs cs hl h =>
  exact .agg vs gs hl fun i v g h1 h2=>((h i v g h1 h2).mono hk (cZ.refl β)).pc (hp g (mem_of_getElem? h2))
theorem JT (p:Src):∀ g∈ax p,g.pc=true:=fun g hg=>by
 simp only [ax,List.mem_cons,List.not_mem_nil,or_false] at hg
 rcases hg with rfl | rfl | rfl | rfl <;> rfl
theorem nR {B:Bs} {K:Fz} {β:Bt} {w:World} {l:List Value} {fr:List GV} {A C:List Ob} {p:Src} {x y u:Operand} {E k:Nat} {rows:List (List GV)} {h z:Value} (hI:Inv B K β (A++(.vech E k rows h::C)) w) (hF:FR K β fr l) (hx:aY fr x=.agg (ax p)) (hy:aY fr y=.v z) (hu:aY fr u=.v h) :
  ∃ K1,ji K1 w/\gE K1 (fun _=>.no) w/\ba K1 (fun _=>.no) ([x,y,u].map (ev l)) [.agg (ax p),.v z,.sl k rows]:=by
 obtain ⟨K1,hk,h1,h2,h3⟩:=hI.view (i:=A.length) (E:=E) (k:=k) (rows:=rows) (x:=h) (by rw [List.getElem?_append_right (Nat.le_refl _),Nat.sub_self];rfl);have hr:=hF.ev x;rw [hx] at hr;refine ⟨K1,h1,h2,?_⟩;show ba K1 _ [ev l x,ev l y,ev l u] _;rw [hF.gV hy,hF.gV hu];exact .cons (Uf hk (JT p) hr) (.cons (.v _) (.cons h3 .nil))
theorem Tv (p:Src) (a:Nat) (n:Nd) (l:List T) (ls:List ah) (c:CS) (E1 E5 E6:TypeId) (ad:Option Addr) (cp:Nat) (cq:eu p.nodes a (.mk n l)) (iL:p.fns.length<=1099511627776) (jq:p.arrays.length<=1099511627776) (jr:p.globals.length<=1099511627776) (mz:ls.length<=1099511627776) :
  GF Tryz.prog 171 [.v (ii (a:Nat)),.v (.slice ad ls.length cp),.loc 0 0,.loc 1 0,.box (ax p) 0,.loc 2 0] [.box E1 [.v (ii c.code)],.box E5 [.v (ii c.skip)],.box E6 [.v (ii c.place)],.vech 9 1 (ca ls) (.slice ad ls.length cp)] (.tup [])
   [.box E1 [.v (ii (cw p c a (.mk n l) ls).code)],.box E5 [.v (ii (cw p c a (.mk n l) ls).skip)],.box E6 [.v (ii (cw p c a (.mk n l) ls).place)],.vech 9 1 (ca ls) (.slice ad ls.length cp)]:=by
 have hs:=IL cq;have hN:=Hz p a n l ls cq iL jq jr mz;rw [eu] at cq;obtain ⟨hn,hk,tX⟩:=cq;have hS:=Bf p a n hn;have hr:=jU hn;obtain ⟨code,place,skip⟩:=c;unfold cw;rw [hs];simp only;generalize bY p (.mk n l) ls=z at *
 cases h1:(code != 0) with
 | true =>
  rw [if_pos (.inl (by simpa using h1))];refine ai Tryz.func171 Tryz.ntmps171 ?_;exact fU
 | false =>
  cases h2:(((a:Nat):Int)==skip) with
  | true =>
   rw [if_pos (.inr (by simpa using h2))];refine ai Tryz.func171 Tryz.ntmps171 ?_;exact fU
  | false =>
   rw [if_neg (by rintro (h | h);(· simp at h1;exact h h1);(· simp at h2;exact h2 h))];simp only
   cases hz:tZ n with
   | false =>
    rw [hz] at hS;rw [if_neg (show ¬ (false=true) by decide)];unfold ay at hr
    cases h3:(z != 0) with
    | true =>
     rw [if_pos (by simpa using h3)];refine ai Tryz.func171 Tryz.ntmps171 ?_;refine ab [] hS ?_;refine GL.borrow hN (fun B K β w l hI hF=>nR (A:=[_,_,_]) (C:=[]) hI hF rfl rfl rfl) ?_;refine ct ?_;exact mf
    | false =>
     rw [if_neg (by simpa using h3)];refine ai Tryz.func171 Tryz.ntmps171 ?_;refine ab [] hS ?_;refine GL.borrow hN (fun B K β w l hI hF=>nR (A:=[_,_,_]) (C:=[]) hI hF rfl rfl rfl) ?_;refine ct ?_;exact mf
   | true =>
    rw [hz] at hS;rw [if_pos rfl]
    have eT:l.length=1:=by
     unfold tZ at hz;simp only [Bool.and_eq_true,beq_iff_eq] at hz;rw [hk,dX] at hz;omega
    obtain ⟨u,rfl⟩:∃ u,l=[u]:=by
     match l,eT with
     | [u],_=>exact ⟨u,rfl⟩
    have hm:p.nodes[a+1]?=some u.n:=by
     rw [dy] at tX;have:=tX.1
     cases u;rw [eu] at this;exact this.1
    have zk:n.kids[0]?=some (((a+1:Nat)):Int):=by rw [hk];rfl
    have oI:=pC zk;have fY:=jU hm;rw [show nF (.mk n [u])=u.n from rfl];generalize u.n=m at *;unfold ay at hr fY
    cases h4:(m.kind != 2) with
    | true =>
     rw [if_pos (show m.kind≠2 by simpa using h4)]
     cases h3:(z != 0) with
     | true =>
      rw [if_pos (by simpa using h3)];refine ai Tryz.func171 Tryz.ntmps171 ?_;refine ab [] hS ?_;refine GL.borrow hN (fun B K β w l hI hF=>nR (A:=[_,_,_]) (C:=[]) hI hF rfl rfl rfl) ?_;refine ct ?_;exact mf
     | false =>
      rw [if_neg (by simpa using h3)];refine ai Tryz.func171 Tryz.ntmps171 ?_;refine ab [] hS ?_;refine GL.borrow hN (fun B K β w l hI hF=>nR (A:=[_,_,_]) (C:=[]) hI hF rfl rfl rfl) ?_;refine ct ?_;exact mf
    | false =>
     rw [if_neg (show ¬ (m.kind≠2) by simpa using h4)]
     cases h3:(z != 0) with
     | true =>
      rw [if_pos (by simpa using h3)];refine ai Tryz.func171 Tryz.ntmps171 ?_;refine ab [] hS ?_;refine GL.borrow hN (fun B K β w l hI hF=>nR (A:=[_,_,_]) (C:=[]) hI hF rfl rfl rfl) ?_;refine ct ?_;exact mf
     | false =>
      rw [if_neg (by simpa using h3)];refine ai Tryz.func171 Tryz.ntmps171 ?_;refine ab [] hS ?_;refine GL.borrow hN (fun B K β w l hI hF=>nR (A:=[_,_,_]) (C:=[]) hI hF rfl rfl rfl) ?_;refine ct ?_;exact mf
end Go.Xg
namespace Go.Xg
open Go.RowKit Go.Xw Go.Proofs
open Go.Xp (Nd T Ar aP az dX)
open Go.Sp (Src)
open Go.Im
attribute [local irreducible] GW GL GO YG GC GA aV aZ
def Jp (p:Src):GV:=.fn (.func 171) [] [.loc 0 0,.loc 1 0,.box (ax p) 0,.loc 2 0]
def RX (p:Src):GV:=.fn (.func 127) [] [.loc 3 0,.loc 4 0,.box (ax p) 0,.loc 5 0]
def DH (p:Src) (E1 E5 E6 E2 E3 E4:TypeId) (s:CS) (ls:List ah) (ad:Option Addr) (cp:Nat):List Ob :=
 [.box E1 [.v (ii s.code)],.box E5 [.v (ii s.skip)],.box E6 [.v (ii s.place)],.box E2 [Jp p],.box E3 [.v (.slice ad ls.length cp)],.box E4 [RX p],.vech 9 1 (ca ls) (.slice ad ls.length cp)]
theorem QO (p:Src) (E1 E5 E6 E2 E3 E4:TypeId) (hp:p.nodes.length<=1048576) (eS:∀ n∈p.nodes,n.kids.length<=1099511627776) (iL:p.fns.length<=1099511627776) (jq:p.arrays.length<=1099511627776) (jr:p.globals.length<=1099511627776):∀ (N:Nat) (t:T),aP t<=N->∀ (a:Nat) (s:CS) (ls:List ah) (ad:Option Addr) (cp:Nat),eu p.nodes a t->ls.length+aP t<=8388608 ->
  GC Tryz.prog 127 [.v (ii (a:Nat)),.loc 3 0,.loc 4 0,.box (ax p) 0,.loc 5 0] (DH p E1 E5 E6 E2 E3 E4 s ls ad cp) fun g Δ=>g=.tup []/\∃ ql qn,Δ=DH p E1 E5 E6 E2 E3 E4 (iF (cw p) t a s ls).1 (iF (cw p) t a s ls).2 ql qn:=by
 intro N
 induction N with
 | zero=>intro t h;have:=ko t;omega
 | succ N ih =>
 intro t hN a s ls ad cp cq mz
 cases t with
 | mk n l =>
 rw [Go.Xp.aP] at hN mz;have U6:=cq;rw [eu] at cq;obtain ⟨hn,hk,tX⟩:=cq;rw [iF];have hr:=jU hn;have oG:=eS n (mem_of_getElem? hn);have ht:=Tv p a n l ls s E1 E5 E6 ad cp U6 iL jq jr ag;generalize gz:(cw p) s a (.mk n l) ls=s1 at *
 have A4:n.kids.length=l.length:=by rw [hk,dX]
 unfold ay at hr;unfold DH Jp RX;refine ai Tryz.func127 Tryz.ntmps127 ?_;refine GL.vP [0,1,2,6] ht rfl rfl rfl (by repeat (first | exact trivial | refine ⟨rfl,?_⟩)) ?_;rintro _ _ ⟨rfl,rfl⟩;refine cX ?_;refine ae ?_;refine GW.range (n.kids.map fun i=>[GV.v (ii i)]).length (fun k fr Γ=>∃ ql qn,fr=[.v (ii (a:Nat)),.loc 3 0,.loc 4 0,.box (ax p) 0,.loc 5 0,.U,.U,.U,.U,.U,.U,.U,.U,.U,.U,.U,.U,ints n.kids,.v (ii ((n.kids.map fun i=>[GV.v (ii i)]).length:Int)),.v (ii (k:Nat)),.U,.U,.U,.U,.U,.U,.U,.U,.U,.U,.U,.U,.U,.U,.U,.U,.U,.U,.U,.U,.U,.U,.U]/\Γ=DH p E1 E5 E6 E2 E3 E4 (dW (cw p) (l.take k) (a+1) s1 ls).1 (dW (cw p) (l.take k) (a+1) s1 ls).2 ql qn) ?_ (by rw [length_map];omega) ?_ ?_ ?_
 ·exact ⟨_,_,Wk.aC aq,ad,cp,rfl,rfl⟩
 ·rintro k _ _ ⟨ad,cp,rfl,rfl⟩;exact dQ
 ·rintro k _ _ ak ⟨ad,cp,rfl,rfl⟩;rw [length_map,A4] at ak;obtain ⟨u,hu⟩:∃ u,l[k]?=some u:=⟨l[k],by simp [ak]⟩;have iM:=xT (n:=a+1) hu;rw [<-hk] at iM;have rD:=pC iM;have cU:=tF hu;have U7:eu p.nodes (a+1+az (l.take k)) u:=dy.ix l (a+1) k u tX hu
  have hlen:(dW (cw p) (l.take k) (a+1) s1 ls).2.length<=ls.length+az (l.take k):=by
   rw [qE,length_append];have:=ur (l.take k);omega
  rw [EO _ hu];generalize (dW (cw p) (l.take k) (a+1) s1 ls).1=s2 at *;generalize (dW (cw p) (l.take k) (a+1) s1 ls).2=ls2 at *;have hv:=ih u ag (a+1+az (l.take k)) s2 ls2 ad cp U7 ag;unfold DH Jp RX at hv |-;refine ae ?_;refine GL.vP [0,1,2,3,4,5,6] hv rfl rfl rfl (by repeat (first | exact trivial | refine ⟨rfl,?_⟩)) ?_;rintro _ _ ⟨rfl,ql,qn,rfl⟩;refine cX ?_;refine ae ?_;exact ⟨rfl,rfl,_,_,Wk.aC aq,ql,qn,rfl,rfl⟩
 ·rintro _ _ ⟨ad,cp,rfl,rfl⟩;rw [length_map,A4,take_length]
  have hlen:(dW (cw p) l (a+1) s1 ls).2.length<=ls.length+az l:=by
   rw [qE,length_append];have:=ur l;omega
  generalize (dW (cw p) l (a+1) s1 ls).1=s2 at *;generalize (dW (cw p) l (a+1) s1 ls).2=ls2 at *;have Rn:(ca ls2).length=ls2.length:=vC ls2;unfold DH Jp RX;refine bb ?_
  cases hv:(n.kind==13) with
  | false =>
   rw [if_neg (by simpa using hv)];refine ae ?_;refine cW ?_;exact ⟨rfl,ad,cp,rfl⟩
  | true =>
   rw [if_pos (by simpa using hv)];refine ae ?_;refine aI (aB 0 7 (.a 7 (.a 8 (.a 9 .nil)))) ?_;refine ar ?_;refine eA ?_;refine ar ?_;refine OA rfl rfl (GL.pJ 6 (news:=[[.v (sv n.s)]]) rfl rfl rfl aR rfl rfl (by refine ⟨?_,?_⟩;(· show _+1<=_;omega);(· show (_+1) * _<=_;omega)) ?_);intro sL sP;refine dA ?_;refine bf ?_;refine cW ?_;exact ⟨rfl,sL,sP,by simp [ca]⟩
theorem Su (p:Src) (E1 E5 E6:TypeId) (i:Nat) (f:Go.Sp.Fn) (t:T) (s:CS) (hp:p.nodes.length<=1048576) (eS:∀ n∈p.nodes,n.kids.length<=1099511627776) (iL:p.fns.length<=1099511627776) (jq:p.arrays.length<=1099511627776) (jr:p.globals.length<=1099511627776)
  (hf:p.fns[i]?=some f) (xL:f.params.length<=1048576) (hb:0<=f.body) (cq:eu p.nodes f.body.toNat t) (cU:aP t<=1048576) :
  GF Tryz.prog 88 [.agg (ax p),.v (ii (i:Nat)),Jp p] [.box E1 [.v (ii s.code)],.box E5 [.v (ii s.skip)],.box E6 [.v (ii s.place)]] (.tup []) [.box E1 [.v (ii (iF (cw p) t f.body.toNat s f.params).1.code)],.box E5 [.v (ii (iF (cw p) t f.body.toNat s f.params).1.skip)],.box E6 [.v (ii (iF (cw p) t f.body.toNat s f.params).1.place)]]:=by
 have hr:(p.fns.map aw)[i]?=some (aw f):=by rw [getElem?_map,hf];rfl
 have cR:(f.params.map fun s=>[GV.v (sv s)]).length=f.params.length:=by simp
 have ia:=F6 f.params;obtain ⟨b,xC⟩:∃ b:Nat,f.body=(b:Int):=⟨f.body.toNat,by omega⟩;rw [xC,Int.toNat_natCast] at cq |-;unfold aw at hr;rw [xC] at hr;unfold Jp;refine db Tryz.func88 Tryz.ntmps88 ?_;refine jh ?_;refine GL.wk (Wk.freeze (i:=3) rfl rfl rfl (Nat.le_refl _)) ?_;refine GN (by simp only [ou,nz];rfl) ?_;refine GL.wk (Wk.aC (b8:=[.U,.v (ii (i:Nat)),.U,.box (ax p) 0,.U,.loc 4 0,.U,.U,.U,.U,.U,.U,.U,strs f.params,.U,.U,.U,.U,.U,.U,.U,.U,.U,.U]) aq) ?_;refine GL.wk (Wk.oY 9 1) ?_;refine GL.D5 5 rfl rfl rfl rfl ia (by refine ⟨?_,?_⟩;(· rw [cR];omega);(· rw [cR];omega)) ?_;intro ad cp;rw [cR];refine ct ?_;simp only [nil_append,List.length_nil,Nat.zero_add];refine ae ?_;refine GW.Mj (b8:=[.U,.v (ii (i:Nat)),.U,.box (ax p) 0,.U,.loc 4 0,.loc 6 0,.loc 7 0,.U,.U,.U,.U,.U,.U,.U,.U,.U,.U,.U,.U,.U,.U,.U,.U]) (aK:=[.box E1 [.v (ii s.code)],.box E5 [.v (ii s.skip)],.box E6 [.v (ii s.place)],.gone,.box _ [.fn (.func 171) [] [.loc 0 0,.loc 1 0,.box (ax p) 0,.loc 2 0]],.vech 9 1 (ca f.params) (.slice ad f.params.length cp),.box _ [.v (.slice ad f.params.length cp)],.box _ [.fn (.func 127) [] [.loc 4 0,.loc 6 0,.box (ax p) 0,.loc 7 0]]]) aq rfl ?_;refine aI (aB 0 7 (.a 7 .nil)) ?_;refine ar ?_;have hv:=QO p E1 E5 E6;refine OA rfl rfl (GL.vP [0,1,2,4,6,7,5] (hv _ _ _ hp eS iL jq jr _ t (Nat.le_refl _) b s f.params ad cp cq ag) rfl rfl rfl (by repeat (first | exact trivial | refine ⟨rfl,?_⟩)) ?_);rintro _ _ ⟨rfl,ql,qn,rfl⟩;refine ⟨by simp [DH],?_⟩;unfold DH;refine dA ?_;refine ar ?_;exact mf
end Go.Xg
namespace Go.Im
open Go.Xp Go.Sp
theorem H6 {l:List ah}:uA l=false↔∀ k,k < l.length->nT l k=false:=by
 unfold uA;rw [any_eq_false];constructor
 ·intro h k hk;have:=h k (List.mem_range.2 hk);simpa using this
 ·intro h k hk;rw [h k (List.mem_range.1 hk)];decide
end Go.Im
namespace Go.Xg
open Go.RowKit Go.Xw Go.Proofs
open Go.Xp (Nd T Ar aP az dX)
open Go.Sp (Src)
open Go.Im
theorem YG.Ef {P:Program} {fr:List GV} {Γ:List Ob} {x up:Operand} {t e:TypeId} {k:Nat} [hT:mj P t e k] {rows:List (List GV)} {kk:IntKind} {i:Nat} (hx:aY fr x=.sl k rows) (hup:aY fr up=.v (.int kk i)) (hi:i < rows.length):YG P (.slice t x none (some up) none) fr Γ (.sl k (rows.take i)):=fun B K β w l hI hF=>by
 have h:=hF.ev x;rw [hx] at h;have Iy:=hF.gV hup;generalize hv:ev l x=v at h
 cases h with
 | sl0 a c=>simp at hi
 | sl b o c _ _ h hc =>
  refine ⟨.slice (some ⟨b,o,none⟩) i c,fun d ty pos af=>?_,?_⟩
  ·have od:¬ (c=0):=by omega
   have hle:(i:Int)<=(c:Int):=by omega
   have zY:i<=c:=by omega
   simp [execOp,Instr.sliceAt,Instr.slice,Instr.sliceBounds,Instr.sliceBound,asIntOf,hv,Iy,run_underlying hT.und,iJ hT.siz,od,hle,zY,pI]
  ·have:=Rel.sl (K:=K) (β:=β) b o c k (rows.take i) (fun j r hr=>?_) (by simp;omega)
   ·rw [length_take,Nat.min_eq_left (Nat.le_of_lt hi)] at this;exact this
   ·have hj:j < i:=by
     rcases Nat.lt_or_ge j i with h1 | h1
     ·exact h1
     ·rw [List.getElem?_eq_none (by rw [length_take];omega)] at hr;cases hr
    rw [List.getElem?_take,if_pos hj] at hr;exact h j r hr
attribute [local irreducible] GW GL GO YG GC GA aV aZ
theorem Mu (p:Src) (i:Nat) (f:Go.Sp.Fn) (t:T) (hp:p.nodes.length<=1048576) (eS:∀ n∈p.nodes,n.kids.length<=1099511627776) (iL:p.fns.length<=1099511627776) (jq:p.arrays.length<=1099511627776) (jr:p.globals.length<=1099511627776)
  (hf:p.fns[i]?=some f) (xL:f.params.length<=1048576) (hb:0<=f.body) (cq:eu p.nodes f.body.toNat t) (cU:aP t<=1048576) :
  GF Tryz.prog 140 [.agg (ax p),.v (ii (i:Nat))] [] (.tup [.v (ii (fm p f t f.body.toNat).1),.v (ii (fm p f t f.body.toNat).2)]) []:=by
 have hr:(p.fns.map aw)[i]?=some (aw f):=by rw [getElem?_map,hf];rfl
 have dK:(f.params.map fun s=>[GV.v (sv s)]).length=f.params.length:=by simp
 have hE:=Su p 3 3 3 i f t ⟨0,0,-1⟩ hp eS iL jq jr hf xL hb cq cU;unfold aw at hr;unfold fm;refine ai Tryz.func140 Tryz.ntmps140 ?_;refine GW.range (f.params.map fun s=>[GV.v (sv s)]).length (fun k fr Γ=>fr=[.U,.v (ii (i:Nat)),.loc 0 0,.U,.U,.U,strs f.params,.U,.U,.U,.U,.U,.U,.U,.U,.U,.U,.U,strs f.params,.v (ii ((f.params.map fun s=>[GV.v (sv s)]).length:Int)),.v (ii (k:Nat)),.U,.U,.U,.U,.U,.U,.U,.U,.U,.U,.U,.U,.U,.U,.U,.U]/\Γ=[.box 34 (ax p)]/\∀ j,j < k->nT f.params j=false) ?_ ag ?_ ?_ ?_
 ·exact ⟨_,_,Wk.aC aq,rfl,rfl,fun j hj=>absurd hj (Nat.not_lt_zero _)⟩
 ·exact gy
 ·rintro k _ _ ak ⟨rfl,rfl,aQ⟩;have mU:=ak;rw [dK] at ak;obtain ⟨x,hx⟩:∃ x,f.params[k]?=some x:=⟨f.params[k],by simp [ak]⟩
  have Ru:(f.params.map fun s=>[GV.v (sv s)])[k]?=some [.v (sv x)]:=by rw [getElem?_map,hx];rfl
  have hC:=kq (f.params.take k) x (by rw [length_take];omega)
  have hd:nT f.params k=(f.params.take k).contains x:=by unfold nT;rw [hx]
  rw [<-hd] at hC;unfold strs at hC;rw [map_take] at hC
  cases eJ:nT f.params k with
  | true =>
   rw [eJ] at hC
   have UG:uA f.params=true:=by
    cases h:uA f.params with
    | true=>rfl
    | false=>rw [H6.1 h k ak] at eJ;cases eJ
   rw [if_pos UG];refine ae ?_;refine GL.q (YG.Ef rfl rfl mU) ?_;refine ct ?_;refine ae ?_;refine ab [] hC ?_;exact mg
  | false =>
   rw [eJ] at hC;refine ae ?_;refine GL.q (YG.Ef rfl rfl mU) ?_;refine ct ?_;refine ae ?_;refine ab [] hC ?_
   exact ⟨rfl,rfl,_,_,Wk.aC aq,rfl,rfl,fun j hj=>by
    rcases Nat.lt_succ_iff_lt_or_eq.1 hj with h | rfl
    ·exact aQ j h
    ·exact eJ⟩
 ·rintro _ _ ⟨rfl,rfl,aQ⟩;rw [dK] at aQ;rw [if_neg (by rw [H6.2 aQ];decide)];refine bb ?_;refine GW.wk (Wk.freeze (i:=0) rfl rfl rfl (Nat.zero_le _)) ?_;refine GW.Mj (b8:=[.U,.v (ii (i:Nat)),.box (ax p) 0,.U,.U,.U,.U,.U,.U,.U,.U,.U,.U,.U,.U,.U,.U,.U,.U,.U,.U,.U,.U,.U,.U,.U,.U,.U,.U,.U,.U,.U,.U,.U,.U,.U,.U]) (aK:=[.gone]) aq rfl ?_;refine ae ?_;refine ab [1,3,2] hE ?_;refine aI (aB 0 4 .nil) ?_;refine ar ?_;exact qY
end Go.Xg
namespace Go.Im
open Go.Xp Go.Sp
theorem se {l:List Ar} {k:Nat} {a:Ar} (h:l[k]?=some a):dE (l.take (k+1))=dE (l.take k)+a.size:=by
 unfold dE;rw [take_add_one,h,List.foldl_append];rfl
theorem uz {l:List Ar} (h:∀ a∈l,0<=a.size/\a.size<=2147483648):∀ k,0<=dE (l.take k)/\dE (l.take k)<=(k:Int) * 2147483648:=by
 intro k
 induction k with
 | zero=>simp [dE]
 | succ k ih =>
  cases hx:l[k]? with
  | none =>
   have:l.take (k+1)=l.take k:=by rw [take_add_one,hx];simp
   rw [this];omega
  | some a =>
   have:=h a (mem_of_getElem? hx);rw [se hx];omega
end Go.Im
namespace Go.Xg
open Go.RowKit Go.Xw Go.Proofs
open Go.Xp (Nd T Ar aP az)
open Go.Sp (Src)
open Go.Im
attribute [local irreducible] GW GL GO YG GC GA aV aZ
theorem Om (p:Src) (iL:p.fns.length<=1099511627776) (jq:p.arrays.length<=1048576) (cU:∀ a∈p.arrays,0<=a.size/\a.size<=2147483648):GF Tryz.prog 137 [.agg (ax p)] [] (.v (.bool (iz p))) []:=by
 have dK:(p.arrays.map aD).length=p.arrays.length:=by simp
 have jL:(p.fns.map aw).length=p.fns.length:=by simp
 have jr:(p.globals.map fun s=>[GV.v (sv s)]).length=p.globals.length:=by simp
 have hC:=tJ (mo:=170) (fun x=>decide (x.params.length > 40)) p.fns iL (fun x _=>Lk x);unfold iz;generalize p.fns.any (fun x=>decide (x.params.length > 40))=b4 at *;have hb:=uz cU;refine ai Tryz.func137 Tryz.ntmps137 ?_;refine GW.range (p.arrays.map aD).length (fun k fr Γ=>fr=[.U,.loc 0 0,.U,.v (ii (dE (p.arrays.take k))),.U,.U,.U,.sl 2 (p.arrays.map aD),.v (ii ((p.arrays.map aD).length:Int)),.v (ii (k:Nat)),.U,.U,.U,.U,.U,.U,.U,.U,.U,.U,.U,.U,.U,.U,.U,.U,.U,.U,.U,.U,.U,.U,.U,.U,.U,.U,.U,.U,.U,.U]/\Γ=[.box 34 (ax p)]/\(p.arrays.take k).all (fun a=>!(a.size==0))=true) ?_ ag ?_ ?_ ?_
 ·exact jz
 ·exact gy
 ·rintro k _ _ ak ⟨rfl,rfl,aQ⟩;rw [dK] at ak;obtain ⟨x,hx⟩:∃ x,p.arrays[k]?=some x:=⟨p.arrays[k],by simp [ak]⟩
  have hr:(p.arrays.map aD)[k]?=some (aD x):=by rw [getElem?_map,hx];rfl
  have bu:=lX (f:=fun a:Ar=>a.size==0) hx;have gW:=se hx;have en:=hb k;have px:=cU x (mem_of_getElem? hx);unfold aD at hr
  cases h1:(x.size==0) with
  | true =>
   have:p.arrays.any (fun a=>a.size==0)=true:=List.any_eq_true.2 ⟨x,mem_of_getElem? hx,h1⟩;rw [this];exact av
  | false =>
   rw [gW];generalize dE (p.arrays.take k)=c at *;refine ae ?_;exact ⟨rfl,rfl,_,_,(Wk.cut (n:=1) (Nat.zero_le _) rfl).trans (Wk.aC aq),rfl,rfl,by rw [bu,aQ,h1];rfl⟩
 ·rintro _ _ ⟨rfl,rfl,aQ⟩;rw [dK,take_length] at aQ |-
  have:p.arrays.any (fun a=>a.size==0)=false:=by
   rw [any_eq_false];rw [List.all_eq_true] at aQ;intro x hx;simpa using aQ x hx
  rw [this];have e1:decide (p.fns.length > 40)=decide ((40:Int) < ((p.fns.map aw).length:Int)):=decide_eq_decide.2 (by rw [jL];omega);have e2:decide (p.globals.length > 29)=decide ((29:Int) < ((p.globals.map fun s=>[GV.v (sv s)]).length:Int)):=decide_eq_decide.2 (by rw [jr];omega);have e3:decide (dE p.arrays > 8000)=decide ((8000:Int) < dE p.arrays):=rfl;rw [e1,e2,e3];generalize dE p.arrays=c at *;refine bb ?_
  cases h1:decide ((40:Int) < ((p.fns.map aw).length:Int))
  all_goals cases h2:decide ((29:Int) < ((p.globals.map fun s=>[GV.v (sv s)]).length:Int))
  all_goals cases h3:decide ((8000:Int) < c)
  all_goals
   refine ae ?_
   first
    | (refine bR ?_;exact ⟨rfl,rfl⟩)
    | (refine iC [] hC ?_;refine ae ?_;refine bR ?_;exact ⟨rfl,rfl⟩)
end Go.Xg
namespace Go.Im
open Go.Xp Go.Sp
theorem BQ {l:List ah}:ea l=false↔∀ k,k < l.length->kl l k=false:=by
 unfold ea;rw [any_eq_false];constructor
 ·intro h k hk;have:=h k (List.mem_range.2 hk);simpa using this
 ·intro h k hk;rw [h k (List.mem_range.1 hk)];decide
theorem EU (p:Src) (l:List T) (a:Nat):fo p [] l a=(0,0):=by unfold fo;rfl
end Go.Im
namespace Go.Xg
open Go.RowKit Go.Xw Go.Proofs
open Go.Xp (Nd T Ar aP az)
open Go.Sp (Src)
open Go.Im
attribute [local irreducible] GW GL GO YG GC GA aV aZ
theorem Lr (p:Src) (hF:GF Tryz.prog 136 [.agg (ax p)] [] (.v (.bool false)) []):GF Tryz.prog 103 [.agg (ax p)] [] (.tup [.v (ii 20),.v (ii 0)]) []:=by
 refine ai Tryz.func103 Tryz.ntmps103 ?_;refine ab [] hF ?_;exact mg
theorem Jy (p:Src) (l:List T) (ns:List ah) (A6:ns.length<=8388608) (jL:p.fns.length=l.length) (iL:p.fns.length<=1048576)
  (hF:GF Tryz.prog 136 [.agg (ax p)] [] (.v (.bool true)) [])
  (hA:GC Tryz.prog 82 [.agg (ax p)] [] fun g Δ=>∃ a c,g=.v (.slice a ns.length c)/\Δ=[.vech 9 1 (ca ns) (.slice a ns.length c)])
  (hT:GF Tryz.prog 137 [.agg (ax p)] [] (.v (.bool (iz p))) [])
  (hq:∀ i f t,p.fns[i]?=some f->l[i]?=some t->GF Tryz.prog 140 [.agg (ax p),.v (ii (i:Nat))] [] (.tup [.v (ii (fm p f t (az (l.take i))).1),.v (ii (fm p f t (az (l.take i))).2)]) []) :
  GF Tryz.prog 103 [.agg (ax p)] []
   (.tup [.v (ii (if ea ns=true then ((21,0):Int × Int) else if iz p=true then (26,0) else if p.fns.any mD=false then (25,0) else fo p p.fns l 0).1),.v (ii (if ea ns=true then ((21,0):Int × Int) else if iz p=true then (26,0) else if p.fns.any mD=false then (25,0) else fo p p.fns l 0).2)]) []:=by
 have dK:(ns.map fun s=>[GV.v (sv s)]).length=ns.length:=by simp
 have va:(p.fns.map aw).length=p.fns.length:=by simp
 have hM:=tJ (mo:=139) mD p.fns ag (fun x _=>OT x);generalize iz p=tm at *;refine ai Tryz.func103 Tryz.ntmps103 ?_;refine ab [] hF ?_;refine cn [] hA ?_;rintro _ _ ⟨ad,cp,rfl,rfl⟩;refine cX ?_;refine GL.wk (Wk.rl (t:=14) (i:=1) rfl rfl rfl) ?_;refine GL.wk (Wk.cut (n:=1) (Nat.zero_le _) rfl) ?_;refine GL.wk (Wk.aC (b8:=[.U,.loc 0 0,.U,.U,.U,.U,.U,.U,.U,.U,.U,.U,.U,.U,strs ns,.U,.U,.U,.U,.U,.U,.U,.U,.U,.U,.U,.U,.U,.U,.U,.U,.U,.U,.U,.U,.U,.U,.U,.U,.U,.U,.U,.U,.U,.U,.U,.U,.U,.U,.U,.U,.U,.U,.U,.U]) aq) ?_;refine ct ?_;refine ae ?_;refine GW.range (ns.map fun s=>[GV.v (sv s)]).length (fun k fr Γ=>fr=[.U,.loc 0 0,.U,.U,strs ns,.U,.U,.U,.U,.U,.U,.U,.U,.U,.U,strs ns,.v (ii ((ns.map fun s=>[GV.v (sv s)]).length:Int)),.v (ii (k:Nat)),.U,.U,.U,.U,.U,.U,.U,.U,.U,.U,.U,.U,.U,.U,.U,.U,.U,.U,.U,.U,.U,.U,.U,.U,.U,.U,.U,.U,.U,.U,.U,.U,.U,.U,.U,.U,.U]/\Γ=[.box 34 (ax p)]/\∀ j,j < k->kl ns j=false) ?_ ag ?_ ?_ ?_
 ·exact ⟨_,_,Wk.aC aq,rfl,rfl,fun j hj=>absurd hj (Nat.not_lt_zero _)⟩
 ·exact gy
 ·rintro k _ _ ak ⟨rfl,rfl,aQ⟩;have mU:=ak;rw [dK] at ak;obtain ⟨x,hx⟩:∃ x,ns[k]?=some x:=⟨ns[k],by simp [ak]⟩
  have Ru:(ns.map fun s=>[GV.v (sv s)])[k]?=some [.v (sv x)]:=by rw [getElem?_map,hx];rfl
  have hR:=Nr x;have hC:=kq (ns.take k) x (by rw [length_take];omega)
  have hd:kl ns k=(l7 x || (ns.take k).contains x):=by unfold kl;rw [hx]
  unfold strs at hC;rw [map_take] at hC
  cases h1:l7 x with
  | true =>
   rw [h1] at hR hd
   have xC:ea ns=true:=by
    cases h:ea ns with
    | true=>rfl
    | false=>rw [BQ.1 h k ak] at hd;simp at hd
   rw [if_pos xC];refine ae ?_;refine ab [] hR ?_;exact mg
  | false =>
   rw [h1] at hR hd
   cases eJ:(ns.take k).contains x with
   | true =>
    rw [eJ] at hC hd
    have xC:ea ns=true:=by
     cases h:ea ns with
     | true=>rfl
     | false=>rw [BQ.1 h k ak] at hd;simp at hd
    rw [if_pos xC];refine ae ?_;refine ab [] hR ?_;refine GL.q (YG.Ef rfl rfl mU) ?_;refine ct ?_;refine ae ?_;refine ab [] hC ?_;exact mg
   | false =>
    rw [eJ] at hC hd;refine ae ?_;refine ab [] hR ?_;refine GL.q (YG.Ef rfl rfl mU) ?_;refine ct ?_;refine ae ?_;refine ab [] hC ?_
    exact ⟨rfl,rfl,_,_,Wk.aC aq,rfl,rfl,fun j hj=>by
     rcases Nat.lt_succ_iff_lt_or_eq.1 hj with h | rfl
     ·exact aQ j h
     ·exact hd⟩
 ·rintro _ _ ⟨rfl,rfl,aQ⟩;rw [dK] at aQ;rw [if_neg (show ¬ ea ns=true by rw [BQ.2 aQ];decide)];refine bb ?_
  cases tm with
  | true =>
   rw [if_pos rfl];refine ae ?_;refine ab [] hT ?_;exact mg
  | false =>
   rw [if_neg aJ]
   cases hmn:p.fns.any mD with
   | false =>
    rw [hmn] at hM;rw [if_pos rfl];refine ae ?_;refine ab [] hT ?_;refine ab [] hM ?_;exact mg
   | true =>
    rw [hmn] at hM;rw [if_neg aJ];refine ae ?_;refine ab [] hT ?_;refine ab [] hM ?_;refine GW.range (p.fns.map aw).length (fun k fr Γ=>fr=[.U,.loc 0 0,.U,.U,.U,.U,.U,.U,.U,.U,.U,.U,.U,.U,.U,.U,.U,.U,.U,.U,.U,.U,.U,.U,.U,.U,.U,.U,.U,.U,.U,.U,.U,.U,.U,.U,.U,.U,.U,.sl 3 (p.fns.map aw),.v (ii ((p.fns.map aw).length:Int)),.v (ii (k:Nat)),.U,.U,.U,.U,.U,.U,.U,.U,.U,.U,.U,.U,.U]/\Γ=[.box 34 (ax p)]/\fo p p.fns l 0=fo p (p.fns.drop k) (l.drop k) (az (l.take k))) ?_ ag ?_ ?_ ?_
    ·exact ⟨_,_,Wk.aC aq,rfl,rfl,by rw [List.drop_zero,List.drop_zero,List.take_zero,az]⟩
    ·exact gy
    ·rintro k _ _ ak ⟨rfl,rfl,he⟩;rw [va] at ak;obtain ⟨f,hf⟩:∃ f,p.fns[k]?=some f:=⟨p.fns[k],by simp [ak]⟩;obtain ⟨t,ht⟩:∃ t,l[k]?=some t:=⟨l[k]'ag,getElem?_eq_getElem _⟩;have hQ:=hq k f t hf ht
     have MW:p.fns.drop k=f::p.fns.drop (k+1):=by rw [List.drop_eq_getElem_cons ak];rw [getElem?_eq_getElem ak] at hf;rw [Option.some.inj hf]
     have de:l.drop k=t::l.drop (k+1):=by rw [List.drop_eq_getElem_cons ag];rw [getElem?_eq_getElem ag] at ht;rw [Option.some.inj ht]
     rw [MW,de,fo,<-QA ht] at he
     cases h1:((fm p f t (az (l.take k))).1 != 0) with
     | true =>
      rw [if_pos (by simpa using h1)] at he;rw [he];generalize fm p f t (az (l.take k))=r at *;refine ae ?_;refine ab [] hQ ?_;exact mg
     | false =>
      rw [if_neg (by simpa using h1)] at he;generalize fm p f t (az (l.take k))=r at *;refine ae ?_;refine ab [] hQ ?_;exact ⟨rfl,rfl,_,_,Wk.aC aq,rfl,rfl,he⟩
    ·rintro _ _ ⟨rfl,rfl,he⟩;rw [va,List.drop_length,EU] at he;rw [he];refine bb ?_;exact qY
theorem MJ (p:Src) (c z:Int) (h:GF Tryz.prog 103 [.agg (ax p)] [] (.tup [.v (ii c),.v (ii z)]) []):GF Tryz.prog 45 [.agg (ax p)] [] (.v (.bool (c==0))) []:=by
 refine ai Tryz.func45 Tryz.ntmps45 ?_;refine ab [] h ?_;exact al
end Go.Xg
set_option maxHeartbeats 2000000
namespace Go.Xg
open Go.RowKit Go.Xw Go.Proofs
open Go.Xp (Nd T Ar)
open Go.Sp (Src)
open Go.Im
attribute [local irreducible] GW GL GO YG GC GA aV aZ
def cC (p:Src) (h:Value) (c:SS):List GV:=[strs p.globals,.sl 2 (p.arrays.map aD),.sl 3 (p.fns.map aw),.sl 5 (p.nodes.map ay),.v h,.v (ii c.code),.v (ii c.at_)]
theorem gX (p:Src) (h:Value) (c:SS) (k z:Int):GF Tryz.prog 153 [.loc 0 0,.v (ii k),.v (ii z)] [.box 133 (cC p h c)] (.tup []) [.box 133 (cC p h (c.fail k z))]:=by
 unfold SS.fail
 cases hc:(c.code==0) with
 | true =>
  rw [if_pos (by simpa using hc)];unfold cC;refine ai Tryz.func153 Tryz.ntmps153 ?_;exact fU
 | false =>
  rw [if_neg (by simpa using hc)];unfold cC;refine ai Tryz.func153 Tryz.ntmps153 ?_;exact fU
theorem Kr (s:ah):GF Tryz.prog 72 [.v (sv s)] [] (.v (.bool (l7 s))) []:=by
 unfold l7 oT pX iO
 cases h1:(s==[103,101,116])
 all_goals cases h2:(s==[112,117,116])
 all_goals
  refine ai Tryz.func72 Tryz.ntmps72 ?_;exact al
theorem Bj (p:Src) (s:ah) (hn:p.arrays.length<=1099511627776):GF Tryz.prog 116 [.agg (ax p),.v (sv s)] [] (.v (ii (cE (fun x:Ar=>x.name==s) p.arrays))) []:=by
 have dK:(p.arrays.map aD).length=p.arrays.length:=by simp
 refine ai Tryz.func116 Tryz.ntmps116 ?_;refine GW.range (p.arrays.map aD).length (fun k fr Γ=>fr=[.U,.v (sv s),.loc 0 0,.U,.U,.U,.U,.U,.sl 2 (p.arrays.map aD),.v (ii ((p.arrays.map aD).length:Int)),.v (ii (k:Nat)),.U,.U,.U,.U,.U,.U,.U,.U,.U,.U]/\Γ=[.box 34 (ax p)]/\(p.arrays.take k).all (fun y=>!(y.name==s))=true) ?_ ag ?_ ?_ ?_
 ·exact jz
 ·exact gy
 ·rintro k _ _ ak ⟨rfl,rfl,aQ⟩;rw [dK] at ak;obtain ⟨x,cJ⟩:∃ x,p.arrays[k]?=some x:=⟨p.arrays[k],by simp [ak]⟩
  have hr:(p.arrays.map aD)[k]?=some (aD x):=by rw [getElem?_map,cJ];rfl
  have bu:=lX (f:=fun y:Ar=>y.name==s) cJ
  have hit:=fun h0=>l6 (f:=fun y:Ar=>y.name==s) cJ h0 aQ
  unfold aD at hr
  cases hb:(x.name==s) with
  | true =>
   rw [hit hb];exact av
  | false =>
   refine ae ?_;exact ⟨rfl,rfl,_,_,(Wk.cut (n:=1) (Nat.zero_le _) rfl).trans (Wk.aC aq),rfl,rfl,by rw [bu,aQ,hb];rfl⟩
 ·rintro _ _ ⟨rfl,rfl,aQ⟩;rw [dK,take_length] at aQ;rw [jA aQ];exact av
theorem Cg (p:Src) (s:ah) (hn:p.fns.length<=1099511627776):GF Tryz.prog 117 [.agg (ax p),.v (sv s)] [] (.v (ii (cE (fun x:Go.Sp.Fn=>x.name==s) p.fns))) []:=by
 have dK:(p.fns.map aw).length=p.fns.length:=by simp
 refine ai Tryz.func117 Tryz.ntmps117 ?_;refine GW.range (p.fns.map aw).length (fun k fr Γ=>fr=[.U,.v (sv s),.loc 0 0,.U,.U,.U,.U,.U,.sl 3 (p.fns.map aw),.v (ii ((p.fns.map aw).length:Int)),.v (ii (k:Nat)),.U,.U,.U,.U,.U,.U,.U,.U,.U,.U]/\Γ=[.box 34 (ax p)]/\(p.fns.take k).all (fun y=>!(y.name==s))=true) ?_ ag ?_ ?_ ?_
 ·exact jz
 ·exact gy
 ·rintro k _ _ ak ⟨rfl,rfl,aQ⟩;rw [dK] at ak;obtain ⟨x,cJ⟩:∃ x,p.fns[k]?=some x:=⟨p.fns[k],by simp [ak]⟩
  have hr:(p.fns.map aw)[k]?=some (aw x):=by rw [getElem?_map,cJ];rfl
  have bu:=lX (f:=fun y:Go.Sp.Fn=>y.name==s) cJ
  have hit:=fun h0=>l6 (f:=fun y:Go.Sp.Fn=>y.name==s) cJ h0 aQ
  unfold aw at hr
  cases hb:(x.name==s) with
  | true =>
   rw [hit hb];exact av
  | false =>
   refine ae ?_;exact ⟨rfl,rfl,_,_,(Wk.cut (n:=1) (Nat.zero_le _) rfl).trans (Wk.aC aq),rfl,rfl,by rw [bu,aQ,hb];rfl⟩
 ·rintro _ _ ⟨rfl,rfl,aQ⟩;rw [dK,take_length] at aQ;rw [jA aQ];exact av
theorem FJ (l:List Int) (n:Int) (hn:l.length<=1099511627776):GF Tryz.prog 51 [ints l,.v (ii n)] [] (.v (.bool (l.contains n))) []:=by
 have dK:(l.map fun i=>[GV.v (ii i)]).length=l.length:=by simp
 refine ai Tryz.func51 Tryz.ntmps51 ?_;refine GW.range (l.map fun i=>[GV.v (ii i)]).length (fun k fr Γ=>fr=[ints l,.v (ii n),.U,.U,.U,.U,.U,ints l,.v (ii ((l.map fun i=>[GV.v (ii i)]).length:Int)),.v (ii (k:Nat)),.U,.U,.U,.U,.U,.U,.U]/\Γ=[]/\(l.take k).contains n=false) ?_ ag ?_ ?_ ?_
 ·exact jz
 ·exact gy
 ·rintro k _ _ ak ⟨rfl,rfl,hc⟩;rw [dK] at ak;obtain ⟨x,cJ⟩:∃ x,l[k]?=some x:=⟨l[k],by simp [ak]⟩;have hr:=pC cJ
  have bu:(l.take (k+1)).contains n=((l.take k).contains n || (x==n)):=by
   rw [take_add_one,cJ,List.contains_append];show (_ || [x].contains n)=_
   congr 1
   rw [List.contains_cons,List.contains_nil,Bool.or_false];exact Bool.beq_comm
  have hm:=mem_of_getElem? cJ
  cases hb:(x==n) with
  | true =>
   have h3:x=n:=by simpa using hb
   rw [show l.contains n=true by rw [<-h3];exact List.contains_iff_mem.2 hm];exact av
  | false =>
   refine ae ?_;exact ⟨rfl,rfl,_,_,Wk.aC aq,rfl,rfl,by rw [bu,hc,hb];rfl⟩
 ·rintro _ _ ⟨rfl,rfl,hc⟩;rw [dK,take_length] at hc;rw [hc];exact av
end Go.Xg
set_option maxHeartbeats 4000000
namespace Go.Im
open Go.Xp Go.Sp
def xl (l:List ah) (k:Nat):Bool:=(List.range k).any (nT l)
theorem C0 (l:List ah) (k:Nat):xl l (k+1)=(xl l k || nT l k):=by
 unfold xl;rw [List.range_succ,List.any_append];simp
def kh (f:Go.Sp.Fn) (c:SS) (k:Nat):SS:=⟨f.params.take k,if xl f.params k=true then fL c.code 21 else c.code,if xl f.params k=true/\c.code=0 then 0 else c.at_⟩
theorem Qg {f:Go.Sp.Fn} {c:SS} {k:Nat} (h:nT f.params k=true):(kh f c (k+1)).code=((kh f c k).fail 21 0).code/\(kh f c (k+1)).at_=((kh f c k).fail 21 0).at_:=by
 unfold kh SS.fail;simp only [C0,h,Bool.or_true,true_and,if_true];unfold fL
 cases xl f.params k <;> by_cases h0:c.code=0 <;> simp [h0]
theorem NV {f:Go.Sp.Fn} {c:SS} {k:Nat} (h:nT f.params k=false):(kh f c (k+1)).code=(kh f c k).code/\(kh f c (k+1)).at_=(kh f c k).at_:=by
 unfold kh;simp only [C0,h,Bool.or_false,and_self]
end Go.Im
namespace Go.Xg
open Go.RowKit Go.Xw Go.Proofs
open Go.Xp (Nd T Ar aP az)
open Go.Sp (Src)
open Go.Im
attribute [local irreducible] GW GL GO YG GC GA aV aZ
theorem Hs (p:Src) (h0:Value) (c:SS) (f:Go.Sp.Fn) (xL:f.params.length<=1048576) :
  GC Tryz.prog 132 [.loc 0 0,.agg (aw f)] [.box 133 (cC p h0 c)] fun g Δ=>g=.tup []/\∃ ad cp,Δ=[.box 133 (cC p (.slice ad f.params.length cp) (p8 f c)),.vech 9 1 (ca f.params) (.slice ad f.params.length cp)]:=by
 have dK:(f.params.map fun s=>[GV.v (sv s)]).length=f.params.length:=by simp
 have oW:p8 f c=⟨f.params,(kh f c f.params.length).code,(kh f c f.params.length).at_⟩:=by
  unfold p8 kh xl uA;rfl
 rw [oW]
 have pP:(kh f c 0).code=c.code/\(kh f c 0).at_=c.at_:=by unfold kh xl;simp
 rw [show cC p h0 c=cC p h0 (kh f c 0) by unfold cC;rw [pP.1,pP.2]];unfold cC aw;refine db Tryz.func132 Tryz.ntmps132 ?_;refine GW.wk (Wk.oY 9 1) ?_;simp only [cons_append,nil_append];refine ae ?_;refine GW.range (f.params.map fun s=>[GV.v (sv s)]).length (fun k fr Γ=>∃ ad cp R n B,fr=[.loc 0 0,.U,.U,.loc 2 0,.U,.U,.U,.U,.U,.U,strs f.params,.v (ii ((f.params.map fun s=>[GV.v (sv s)]).length:Int)),.v (ii (k:Nat)),.U,.U,.U,.U,.U,.U,.U,.U,.U,.U,.U,.U,.U,.U,.U,.U,.U,.U,.U,.U,.U,.U]/\Γ=[.box 133 (cC p (.slice ad n cp) (kh f c k)),.vech 9 1 R (.slice ad n cp),B]/\R.length=n/\R=ca (f.params.take k)) ?_ ag ?_ ?_ ?_
 ·exact ⟨_,_,Wk.aC aq,none,0,[],0,_,rfl,rfl,rfl,by simp [ca]⟩
 ·rintro k _ _ ⟨ad,cp,R,n,B,rfl,rfl,_⟩;exact dQ
 ·rintro k _ _ ak ⟨ad,cp,R,n,B,rfl,rfl,eF,hR⟩;rw [dK] at ak;obtain ⟨x,hx⟩:∃ x,f.params[k]?=some x:=⟨f.params[k],by simp [ak]⟩
  have Ru:(f.params.map fun s=>[GV.v (sv s)])[k]?=some [.v (sv x)]:=by rw [getElem?_map,hx];rfl
  have bu:ca (f.params.take (k+1))=R++[[.v (sv x)]]:=by rw [take_add_one,hx,hR];simp [ca]
  have vd:n<=1048576:=by rw [<-eF,hR,vC,length_take];omega
  have hL:GF Tryz.prog 74 [.sl 1 R,.v (sv x)] [] (.v (.bool ((f.params.take k).contains x))) []:=by
   rw [hR];exact jk (f.params.take k) x (by rw [length_take];omega)
  have hd:nT f.params k=(f.params.take k).contains x:=by unfold nT;rw [hx]
  rw [<-hd] at hL;have gI:=gX p (.slice ad n cp) (kh f c k) 21 0;clear hR
  cases hb:nT f.params k with
  | true =>
   rw [hb] at hL;obtain ⟨e1,e2⟩:=Qg (c:=c) hb;unfold cC at gI |-;rw [e1,e2];generalize (kh f c k).fail 21 0=s1 at *;generalize kh f c k=s0 at *;refine ae ?_;refine GL.borrow hL (fun B K β w l hI hF=>gT (A:=[_]) (C:=[_]) hI hF rfl rfl) ?_;refine ct ?_;refine ae ?_;refine ab [0] gI ?_;refine GL.jw 1 rfl rfl rfl rfl rfl rfl rfl rfl aR me ?_;intro sL sP;refine bJ ?_;refine ae ?_;exact ⟨rfl,rfl,_,_,Wk.aC aq,sL,sP,_,_,_,rfl,rfl,by simp [eF],bu.symm⟩
  | false =>
   rw [hb] at hL;obtain ⟨e1,e2⟩:=NV (c:=c) hb;unfold cC at gI |-;rw [e1,e2];generalize kh f c k=s0 at *;refine ae ?_;refine GL.borrow hL (fun B K β w l hI hF=>gT (A:=[_]) (C:=[_]) hI hF rfl rfl) ?_;refine ct ?_;refine ae ?_;refine GL.jw 1 rfl rfl rfl rfl rfl rfl rfl rfl aR me ?_;intro sL sP;refine bJ ?_;refine ae ?_;exact ⟨rfl,rfl,_,_,Wk.aC aq,sL,sP,_,_,_,rfl,rfl,by simp [eF],bu.symm⟩
 ·rintro _ _ ⟨ad,cp,R,n,B,rfl,rfl,eF,hR⟩;rw [dK] at hR |-;rw [take_length] at hR
  have rC:n=f.params.length:=by rw [<-eF,hR,vC]
  subst rC;refine ae ?_;refine ig ?_;exact Ui (n:=2) rfl cl (Nat.le_of_ble_eq_true rfl) rfl ⟨rfl,ad,cp,by rw [hR];rfl⟩
def cO (p:Src) (c:SS) (ls:List ah) (ad:Option Addr) (cp:Nat):List Ob:=[.box 133 (cC p (.slice ad ls.length cp) c),.vech 9 1 (ca ls) (.slice ad ls.length cp)]
theorem Hq (p:Src) (c:SS) (n:Nd) (l:List T) (ad:Option Addr) (cp:Nat) (h1:(n.s==[103,101,116])=true) (hl:l.length<=1099511627776) :
  GF Tryz.prog 154 [.loc 0 0,.agg (cT (.mk n l))] (cO p c c.ls ad cp) (.v (.bool true)) (cO p (eE c n l.length 0) c.ls ad cp):=by
 have eY:(aS l).length=l.length:=aU l;unfold cO;unfold eE;show GF _ _ _ _ (.v (.bool true)) [.box _ (cC p _ (if l.length≠0 then _ else _)),_];have gI:=gX p (.slice ad c.ls.length cp) c 23 n.at_;unfold cC at gI |-
 cases hk:(((aS l).length:Int) != ((0:Nat):Int)) with
 | true =>
  rw [if_pos (show l.length≠0 by rw [eY,bne_iff_ne] at hk;omega)];generalize c.fail 23 n.at_=c1 at *;refine ai Tryz.func154 Tryz.ntmps154 ?_;refine ab [0] gI ?_;exact al
 | false =>
  rw [if_neg (show ¬ l.length≠0 by rw [eY,bne_eq_false_iff_eq] at hk;omega)];refine ai Tryz.func154 Tryz.ntmps154 ?_;exact al
theorem Hr (p:Src) (c:SS) (n:Nd) (l:List T) (ad:Option Addr) (cp:Nat) (h1:(n.s==[103,101,116])=false) (h2:(n.s==[112,117,116])=true) (hl:l.length<=1099511627776) :
  GF Tryz.prog 154 [.loc 0 0,.agg (cT (.mk n l))] (cO p c c.ls ad cp) (.v (.bool true)) (cO p (eE c n l.length 1) c.ls ad cp):=by
 have eY:(aS l).length=l.length:=aU l;unfold cO;unfold eE;show GF _ _ _ _ (.v (.bool true)) [.box _ (cC p _ (if l.length≠1 then _ else _)),_];have gI:=gX p (.slice ad c.ls.length cp) c 23 n.at_;unfold cC at gI |-
 cases hk:(((aS l).length:Int) != ((1:Nat):Int)) with
 | true =>
  rw [if_pos (show l.length≠1 by rw [eY,bne_iff_ne] at hk;omega)];generalize c.fail 23 n.at_=c1 at *;refine ai Tryz.func154 Tryz.ntmps154 ?_;refine ab [0] gI ?_;exact al
 | false =>
  rw [if_neg (show ¬ l.length≠1 by rw [eY,bne_eq_false_iff_eq] at hk;omega)];refine ai Tryz.func154 Tryz.ntmps154 ?_;exact al
theorem Ko (p:Src) (c:SS) (n:Nd) (l:List T) (ad:Option Addr) (cp:Nat) (h1:(n.s==[103,101,116])=false) (h2:(n.s==[112,117,116])=false) (h3:(n.s==[115,105,122,101])=false) (hl:l.length<=1099511627776)
  (hF:GF Tryz.prog 117 [.agg (ax p),.v (sv n.s)] [] (.v (ii (-1))) []) :
  GF Tryz.prog 154 [.loc 0 0,.agg (cT (.mk n l))] (cO p c c.ls ad cp) (.v (.bool false)) (cO p (c.fail 22 n.at_) c.ls ad cp):=by
 have gI:=gX p (.slice ad c.ls.length cp) c 22 n.at_
 have hd:decide ((-1:Int) < 0)=true:=by decide
 unfold cO;unfold cC at gI |-;generalize c.fail 22 n.at_=c1 at *;refine ai Tryz.func154 Tryz.ntmps154 ?_;refine aI (aB 0 7 (.a 7 (.q 8 .nil))) ?_;refine ar ?_;refine aE [] hF ?_;refine ae ?_;refine ab [0] gI ?_;exact al
theorem Kn (p:Src) (c:SS) (n:Nd) (l:List T) (i:Nat) (f:Go.Sp.Fn) (ad:Option Addr) (cp:Nat) (h1:(n.s==[103,101,116])=false) (h2:(n.s==[112,117,116])=false) (h3:(n.s==[115,105,122,101])=false) (hl:l.length<=1099511627776)
  (hf:p.fns[i]?=some f) (hF:GF Tryz.prog 117 [.agg (ax p),.v (sv n.s)] [] (.v (ii ((i:Nat):Int))) []) :
  GF Tryz.prog 154 [.loc 0 0,.agg (cT (.mk n l))] (cO p c c.ls ad cp) (.v (.bool true)) (cO p (eE c n l.length f.params.length) c.ls ad cp):=by
 have eY:(aS l).length=l.length:=aU l
 have hd:decide (((i:Nat):Int) < 0)=false:=by simp
 have hr:(p.fns.map aw)[i]?=some (aw f):=by rw [getElem?_map,hf];rfl
 have cR:(f.params.map fun s=>[GV.v (sv s)]).length=f.params.length:=by simp
 unfold aw at hr;rw [<-cR];unfold cO;unfold eE;show GF _ _ _ _ (.v (.bool true)) [.box _ (cC p _ (if l.length≠(f.params.map fun s=>[GV.v (sv s)]).length then _ else _)),_];have gI:=gX p (.slice ad c.ls.length cp) c 23 n.at_;unfold cC at gI |-
 cases hk:(((aS l).length:Int) != (((f.params.map fun s=>[GV.v (sv s)]).length:Nat):Int)) with
 | true =>
  rw [if_pos (show l.length≠(f.params.map fun s=>[GV.v (sv s)]).length by rw [eY,bne_iff_ne] at hk;omega)];generalize c.fail 23 n.at_=c1 at *;refine ai Tryz.func154 Tryz.ntmps154 ?_;refine aI (aB 0 7 (.a 7 (.q 8 .nil))) ?_;refine ar ?_;refine aE [] hF ?_;refine ae ?_;refine ab [0] gI ?_;exact al
 | false =>
  rw [if_neg (show ¬ l.length≠(f.params.map fun s=>[GV.v (sv s)]).length by rw [eY,bne_eq_false_iff_eq] at hk;omega)];refine ai Tryz.func154 Tryz.ntmps154 ?_;refine aI (aB 0 7 (.a 7 (.q 8 .nil))) ?_;refine ar ?_;refine aE [] hF ?_;exact av
theorem DZ (p:Src) (c:SS) (n:Nd) (u:T) (ad:Option Addr) (cp:Nat) (h1:(n.s==[103,101,116])=false) (h2:(n.s==[112,117,116])=false) (h3:(n.s==[115,105,122,101])=true) (jq:p.arrays.length<=1099511627776) (mz:c.ls.length<=1099511627776) :
  GF Tryz.prog 154 [.loc 0 0,.agg (cT (.mk n [u]))] (cO p c c.ls ad cp) (.v (.bool false)) (cO p (if fV p u.n c.ls=true then c.fail 24 n.at_ else c) c.ls ad cp):=by
 have oI:(aS [u])[0]?=some (cT u):=cV rfl;have hA:=Bj p u.n.s jq;have hL:=jk c.ls u.n.s mz;have gI:=gX p (.slice ad c.ls.length cp) c 24 n.at_;rw [show fV p u.n c.ls=((u.n.kind != 2 || decide (cE (fun x:Ar=>x.name==u.n.s) p.arrays < 0)) || c.ls.contains u.n.s) from rfl];generalize cE (fun x:Ar=>x.name==u.n.s) p.arrays=z at *;unfold cO;unfold cC at gI |-
 cases h4:(u.n.kind != 2) with
 | true =>
  rw [if_pos (by first | rfl | decide)];generalize c.fail 24 n.at_=c1 at *;refine ai Tryz.func154 Tryz.ntmps154 ?_;refine aI (aB 0 21 (.a 21 (aB 22 13 (.a 35 (.q 36 (.q 37 .nil)))))) ?_;refine ar ?_;refine bf ?_;refine ab [0] gI ?_;exact al
 | false =>
  cases h5:decide (z < 0) with
  | true =>
   rw [if_pos (by first | rfl | decide)];generalize c.fail 24 n.at_=c1 at *;refine ai Tryz.func154 Tryz.ntmps154 ?_;refine aI (aB 0 21 (.a 21 (aB 22 13 (.a 35 (.q 36 (.q 37 .nil)))))) ?_;refine ar ?_;refine bB [] hA ?_;refine bf ?_;refine ab [0] gI ?_;exact al
  | false =>
   generalize c.ls.contains u.n.s=b at *
   cases b with
   | true =>
    rw [if_pos (by first | rfl | decide)];generalize c.fail 24 n.at_=c1 at *;refine ai Tryz.func154 Tryz.ntmps154 ?_;refine aI (aB 0 21 (.a 21 (aB 22 13 (.a 35 (.q 36 (.q 37 .nil)))))) ?_;refine ar ?_;refine bB [] hA ?_;refine LD rfl rfl rfl (by first | exact rfl | assumption) (GL.borrow hL (fun B K β w l hI hF=>gT (A:=[_]) (C:=[_]) hI hF rfl rfl) ?_);refine dA ?_;refine bf ?_;refine ab [0] gI ?_;exact al
   | false =>
    rw [if_neg aJ];refine ai Tryz.func154 Tryz.ntmps154 ?_;refine aI (aB 0 21 (.a 21 (aB 22 13 (.a 35 (.q 36 (.q 37 .nil)))))) ?_;refine ar ?_;refine bB [] hA ?_;refine LD rfl rfl rfl (by first | exact rfl | assumption) (GL.borrow hL (fun B K β w l hI hF=>gT (A:=[_]) (C:=[_]) hI hF rfl rfl) ?_);refine dA ?_;refine ar ?_;exact av
theorem D0 (p:Src) (c:SS) (n:Nd) (l:List T) (ad:Option Addr) (cp:Nat) (h1:(n.s==[103,101,116])=false) (h2:(n.s==[112,117,116])=false) (h3:(n.s==[115,105,122,101])=true) (hl:l.length≠1) :
  GF Tryz.prog 154 [.loc 0 0,.agg (cT (.mk n l))] (cO p c c.ls ad cp) (.v (.bool false)) (cO p (c.fail 23 n.at_) c.ls ad cp):=by
 have gI:=gX p (.slice ad c.ls.length cp) c 23 n.at_;have eY:(aS l).length=l.length:=aU l
 have g1:(((aS l).length:Int)==1)=false:=by rw [eY,beq_eq_false_iff_ne];omega
 have g2:(((aS l).length:Int) != 1)=true:=by rw [eY,bne_iff_ne];omega
 unfold cO;unfold cC at gI |-;generalize c.fail 23 n.at_=c1 at *;refine ai Tryz.func154 Tryz.ntmps154 ?_;refine aI (aB 0 21 (.a 21 (aB 22 13 (.a 35 (.q 36 (.q 37 .nil)))))) ?_;refine bf ?_;refine ab [0] gI ?_;exact al
theorem Nx (p:Src) (c:SS) (t:T) (ad:Option Addr) (cp:Nat) (jq:p.arrays.length<=1099511627776) (iL:p.fns.length<=1099511627776) (mz:c.ls.length<=1099511627776) (hl:t.kids.length<=1099511627776) :
  GF Tryz.prog 154 [.loc 0 0,.agg (cT t)] (cO p c c.ls ad cp) (.v (.bool (ft p c t).2)) (cO p (ft p c t).1 c.ls ad cp):=by
 cases t with
 | mk n l =>
 have hl:l.length<=1099511627776:=hl
 cases h1:(n.s==[103,101,116]) with
 | true =>
  have e:ft p c (.mk n l)=(eE c n l.length 0,true):=by
   unfold ft oT;exact if_pos (show n.s=_ by simpa using h1)
  rw [e];exact Hq p c n l ad cp h1 hl
 | false =>
  have n1:¬ n.s=[103,101,116]:=by simpa using h1
  cases h2:(n.s==[112,117,116]) with
  | true =>
   have e:ft p c (.mk n l)=(eE c n l.length 1,true):=by
    unfold ft oT pX;rw [if_neg (show ¬ (T.mk n l).n.s=_ from n1)];exact if_pos (show n.s=_ by simpa using h2)
   rw [e];exact Hr p c n l ad cp h1 h2 hl
  | false =>
   have n2:¬ n.s=[112,117,116]:=by simpa using h2
   cases h3:(n.s==[115,105,122,101]) with
   | true =>
    have e:ft p c (.mk n l)=(eE (if l.length=1/\fV p (nF (.mk n l)) c.ls=true then c.fail 24 n.at_ else c) n l.length 1,false):=by
     unfold ft oT pX iO;rw [if_neg (show ¬ (T.mk n l).n.s=_ from n1),if_neg (show ¬ (T.mk n l).n.s=_ from n2)];exact if_pos (show n.s=_ by simpa using h3)
    rw [e]
    by_cases hk:l.length=1
    ·obtain ⟨u,rfl⟩:∃ u,l=[u]:=by
      match l,hk with
      | [u],_=>exact ⟨u,rfl⟩
     have e2:eE (if [u].length=1/\fV p (nF (.mk n [u])) c.ls=true then c.fail 24 n.at_ else c) n [u].length 1=(if fV p u.n c.ls=true then c.fail 24 n.at_ else c):=by
      unfold eE;rw [if_neg (by simp)];show (if _/\fV p u.n c.ls=true then _ else _)=_
      by_cases hb:fV p u.n c.ls=true
      ·rw [if_pos hb];exact if_pos ⟨rfl,hb⟩
      ·rw [if_neg hb];exact if_neg fun h=>hb h.2
     rw [e2];exact DZ p c n u ad cp h1 h2 h3 jq mz
    ·have e2:eE (if l.length=1/\fV p (nF (.mk n l)) c.ls=true then c.fail 24 n.at_ else c) n l.length 1=c.fail 23 n.at_:=by
      rw [if_neg fun h=>hk h.1];unfold eE;exact if_pos hk
     rw [e2];exact D0 p c n l ad cp h1 h2 h3 hk
   | false =>
    have n3:¬ n.s=[115,105,122,101]:=by simpa using h3
    have hF:=Cg p n.s iL;unfold cE at hF
    cases hx:p.fns.findIdx? (fun f:Go.Sp.Fn=>f.name==n.s) with
    | none =>
     rw [hx] at hF
     have e:ft p c (.mk n l)=(c.fail 22 n.at_,false):=by
      unfold ft oT pX iO;rw [if_neg (show ¬ (T.mk n l).n.s=_ from n1),if_neg (show ¬ (T.mk n l).n.s=_ from n2),if_neg (show ¬ (T.mk n l).n.s=_ from n3)];show (match p.fns.findIdx? (fun f:Go.Sp.Fn=>f.name==n.s) with | none=>_ | some i=>_)=_;rw [hx];rfl
     rw [e];exact Ko p c n l ad cp h1 h2 h3 hl hF
    | some i =>
     rw [hx] at hF;have hi:i < p.fns.length:=(List.findIdx?_eq_some_iff_getElem.1 hx).1;obtain ⟨f,hf⟩:∃ f,p.fns[i]?=some f:=⟨p.fns[i],by simp [hi]⟩
     have e:ft p c (.mk n l)=(eE c n l.length f.params.length,true):=by
      unfold ft oT pX iO;rw [if_neg (show ¬ (T.mk n l).n.s=_ from n1),if_neg (show ¬ (T.mk n l).n.s=_ from n2),if_neg (show ¬ (T.mk n l).n.s=_ from n3)];show (match p.fns.findIdx? (fun f:Go.Sp.Fn=>f.name==n.s) with | none=>_ | some i=>_)=_;rw [hx];show (eE c n l.length (lD p i),true)=_;unfold lD;rw [hf]
     rw [e];exact Kn p c n l i f ad cp h1 h2 h3 hl hf hF
end Go.Xg
namespace Go.Im
open Go.Xp Go.Sp
theorem Dy (p:Src) (u:T):∀ (l:List T) (c:SS),ic p (l++[u]) c=nm p u (ic p l c)
 | [],c=>by rw [nil_append,ic,ic,ic]
 | t::l,c=>by rw [cons_append,ic,ic,Dy p u l]
theorem NO (p:Src) {l:List T} {k:Nat} {u:T} (h:l[k]?=some u) (c:SS):ic p (l.take (k+1)) c=nm p u (ic p (l.take k) c):=by
 rw [take_add_one,h];exact Dy p u _ c
theorem QK (c:SS) (n:Nd):(lL c n).ls.length<=c.ls.length+1:=by
 unfold lL;split
 ·omega
 split
 ·simp [SS.nU]
 split
 ·simp [SS.nU]
 ·simp
mutual
theorem S1 (p:Src):∀ (t:T) (c:SS),(nm p t c).ls.length<=c.ls.length+aP t
 | .mk n l,c=>by
  rw [nm,aP];refine Nat.le_trans (QK _ _) ?_;split
  ·have:=wx p l (jl p c (.mk n l)).1;rw [vw] at this;omega
  ·rw [vw];omega
theorem wx (p:Src):∀ (l:List T) (c:SS),(ic p l c).ls.length<=c.ls.length+az l
 | [],c=>by rw [ic,az];omega
 | t::r,c=>by
  rw [ic,az];have h1:=wx p r (nm p t c);have h2:=S1 p t c;omega
end
end Go.Im
namespace Go.Xg
open Go.RowKit Go.Xw Go.Proofs
open Go.Xp (Nd T Ar aP az bL)
open Go.Sp (Src)
open Go.Im
attribute [local irreducible] GW GL GO YG GC GA aV aZ
theorem Ny (p:Src) (jq:p.arrays.length<=1099511627776) (iL:p.fns.length<=1099511627776) (jr:p.globals.length<=1099511627776):∀ (N:Nat) (t:T),aP t<=N->∀ (c:SS) (ad:Option Addr) (cp:Nat),c.ls.length+aP t<=8388608 ->
  GC Tryz.prog 133 [.loc 0 0,.agg (cT t)] (cO p c c.ls ad cp) fun g Δ=>g=.tup []/\∃ ql qn,Δ=cO p (nm p t c) (nm p t c).ls ql qn:=by
 intro N
 induction N with
 | zero=>intro t h;have:=ko t;omega
 | succ N ih =>
 intro t hN c ad cp mz
 cases t with
 | mk n l =>
 rw [Go.Xp.aP] at hN mz;have pQ:=bL l;have eY:(aS l).length=l.length:=aU l;rw [nm];have cR:=vw p c (.mk n l);have hL:=jk c.ls n.s ag;have hG:=jk p.globals n.s jr;have hA:=Bj p n.s jq;have hC:=Nx p c (.mk n l) ad cp jq iL ag (by show l.length<=_;omega);have Q8:=gX p (.slice ad c.ls.length cp) c 22 n.at_;have Iv:=gX p (.slice ad c.ls.length cp) c 24 n.at_
 have he:jl p c (.mk n l)=(if n.kind=2\/n.kind=7 then (if c.ls.contains n.s=false/\p.globals.contains n.s=false then c.fail 22 n.at_ else c,true)
  else if n.kind=3\/n.kind=8 then (if c.ls.contains n.s=true\/cE (fun x:Ar=>x.name==n.s) p.arrays < 0 then c.fail 24 n.at_ else c,true)
  else if n.kind=4 then ft p c (.mk n l) else (c,true)):=rfl
 obtain ⟨P,hP⟩:∃ P,jl p c (.mk n l)=P:=⟨_,rfl⟩;rw [hP] at he cR |-;unfold cO at hC |-;unfold cC at hC Q8 Iv |-;refine ai Tryz.func133 Tryz.ntmps133 ?_;refine aI (aB 0 6 (.a 6 (.q 7 .nil))) ?_;refine ar ?_;refine OA rfl rfl (GL.borrow hL (fun B K β w l hI hF=>gT (A:=[_]) (C:=[_,_]) hI hF rfl rfl) ?_);refine dA ?_;refine ar ?_;refine Jv ?_;refine GW.join (fun fr Γ=>fr=[.loc 0 0,.U,.U,.loc 2 0,.loc 3 0,.U,.v (.bool P.2),.U,.U,.U,.U,.U,.U,.U,.U,.U,.U,.U,.U,.U,.U,.U,.U,.U,.U,.U,.U,.U,.U,.U,.U,.U,.U,.U,.U,.U,.U,.U,.U,.U,.U,.U,.U,.U,.U,.U,.U,.U,.U,.U,.U,.U,.U,.U,.U,.U,.U,.U,.U,.U,.U,.U,.U,.U,.U,.U,.U,.U,.U,.U,.U,.U,.U,.U,.U,.U,.U,.U,.U,.U,.U,.U,.U,.U,.U,.U,.U,.U,.U,.U,.U,.U,.U,.U,.U,.U,.U,.U,.U,.U,.U,.U,.U,.U,.U,.U,.U,.U,.U,.U]/\Γ=[.box 133 (cC p (.slice ad c.ls.length cp) P.1),.vech 9 1 (ca c.ls) (.slice ad c.ls.length cp),.box 94 (cT (.mk n l)),.box 91 (ay n)]) ?_ ?_
 ·obtain ⟨kd,at_,nn,s,ks⟩:=n;simp only at *;unfold cC;generalize ft p c (.mk ⟨kd,at_,nn,s,ks⟩ l)=cs at *;generalize cE (fun x:Ar=>x.name==s) p.arrays=z at *;generalize c.ls.contains s=b at *;generalize p.globals.contains s=g at *;generalize c.fail 22 at_=c22 at *;generalize c.fail 24 at_=c24 at *
  by_cases h2:kd=2
  ·subst h2
   have q2:((2:Int)==2)=true:=by decide
   rw [if_pos aJ] at he;subst he
   cases b with
   | true =>
    refine ae ?_;refine aI (aB 0 10 (.a 10 (.q 11 (.q 12 .nil)))) ?_;refine bf ?_;exact jo
   | false =>
    cases g with
    | true =>
     refine ae ?_;refine aI (aB 0 10 (.a 10 (.q 11 (.q 12 .nil)))) ?_;refine ar ?_;refine bB [] hG ?_;exact ik
    | false =>
     refine ae ?_;refine aI (aB 0 10 (.a 10 (.q 11 (.q 12 .nil)))) ?_;refine ar ?_;refine bB [] hG ?_;refine ae ?_;refine ab [0] Q8 ?_;exact jo
  by_cases h7:kd=7
  ·subst h7
   have q2:((7:Int)==2)=false:=by decide
   have q7:((7:Int)==7)=true:=by decide
   rw [if_pos aJ] at he;subst he
   cases b with
   | true =>
    refine ae ?_;refine aI (aB 0 10 (.a 10 (.q 11 (.q 12 .nil)))) ?_;refine bf ?_;exact jo
   | false =>
    cases g with
    | true =>
     refine ae ?_;refine aI (aB 0 10 (.a 10 (.q 11 (.q 12 .nil)))) ?_;refine ar ?_;refine bB [] hG ?_;exact ik
    | false =>
     refine ae ?_;refine aI (aB 0 10 (.a 10 (.q 11 (.q 12 .nil)))) ?_;refine ar ?_;refine bB [] hG ?_;refine ae ?_;refine ab [0] Q8 ?_;exact jo
  rw [if_neg (by rintro (h | h);(· exact h2 h);exact h7 h)] at he
  by_cases h3:kd=3
  ·subst h3
   have q2:((3:Int)==2)=false:=by decide
   have q7:((3:Int)==7)=false:=by decide
   have q3:((3:Int)==3)=true:=by decide
   rw [if_pos aJ] at he
   cases b with
   | true =>
    subst he;refine ae ?_;refine aI (aB 0 8 (.a 8 (.q 9 (.q 10 .nil)))) ?_;refine bf ?_;refine ab [0] Iv ?_;exact jo
   | false =>
    cases hz:decide (z < 0) with
    | true =>
     rw [if_pos (.inr (by simpa using hz))] at he;subst he;refine ae ?_;refine aI (aB 0 8 (.a 8 (.q 9 (.q 10 .nil)))) ?_;refine ar ?_;refine bB [] hA ?_;refine ae ?_;refine ab [0] Iv ?_;exact jo
    | false =>
     rw [if_neg (by rintro (h | h);(· cases h);(· simp at hz;omega))] at he;subst he;refine ae ?_;refine aI (aB 0 8 (.a 8 (.q 9 (.q 10 .nil)))) ?_;refine ar ?_;refine bB [] hA ?_;exact ik
  by_cases h8:kd=8
  ·subst h8
   have q2:((8:Int)==2)=false:=by decide
   have q7:((8:Int)==7)=false:=by decide
   have q3:((8:Int)==3)=false:=by decide
   have q8:((8:Int)==8)=true:=by decide
   rw [if_pos aJ] at he
   cases b with
   | true =>
    subst he;refine ae ?_;refine aI (aB 0 8 (.a 8 (.q 9 (.q 10 .nil)))) ?_;refine bf ?_;refine ab [0] Iv ?_;exact jo
   | false =>
    cases hz:decide (z < 0) with
    | true =>
     rw [if_pos (.inr (by simpa using hz))] at he;subst he;refine ae ?_;refine aI (aB 0 8 (.a 8 (.q 9 (.q 10 .nil)))) ?_;refine ar ?_;refine bB [] hA ?_;refine ae ?_;refine ab [0] Iv ?_;exact jo
    | false =>
     rw [if_neg (by rintro (h | h);(· cases h);(· simp at hz;omega))] at he;subst he;refine ae ?_;refine aI (aB 0 8 (.a 8 (.q 9 (.q 10 .nil)))) ?_;refine ar ?_;refine bB [] hA ?_;exact ik
  rw [if_neg (by rintro (h | h);(· exact h3 h);exact h8 h)] at he
  by_cases h4:kd=4
  ·subst h4
   have q2:((4:Int)==2)=false:=by decide
   have q7:((4:Int)==7)=false:=by decide
   have q3:((4:Int)==3)=false:=by decide
   have q8:((4:Int)==8)=false:=by decide
   have q4:((4:Int)==4)=true:=by decide
   rw [if_pos rfl] at he;subst he;refine ae ?_;refine ab [0,1] hC ?_;exact jo
  rw [if_neg h4] at he;subst he
  have q2:(kd==2)=false:=by simpa using h2
  have q7:(kd==7)=false:=by simpa using h7
  have q3:(kd==3)=false:=by simpa using h3
  have q8:(kd==8)=false:=by simpa using h8
  have q4:(kd==4)=false:=by simpa using h4
  exact ik
 ·rintro _ _ ⟨rfl,rfl⟩;clear he hC Q8 Iv;obtain ⟨c1,d⟩:=P;simp only at cR |-;rw [<-cR] at mz;rw [show cC p (.slice ad c.ls.length cp) c1=cC p (.slice ad c1.ls.length cp) c1 by rw [cR],<-cR];clear hL;refine ae ?_;refine GW.range (aS l).length (fun k fr Γ=>∃ ad cp c2,fr=[.loc 0 0,.U,.U,.loc 2 0,.loc 3 0,.U,.v (.bool d),.U,.U,.U,.U,.U,.U,.U,.U,.U,.U,.U,.U,.U,.U,.U,.U,.U,.U,.U,.U,.U,.U,.U,.U,.U,.U,.U,.U,.U,.U,.U,.U,.U,.U,.U,.U,.U,.U,.U,.U,.U,.U,.U,.U,.U,.U,.U,.U,.U,.U,.U,.U,.U,.U,.U,.U,.U,.sl 6 (aS l),.v (ii ((aS l).length:Int)),.v (ii (k:Nat)),.U,.U,.U,.U,.U,.U,.U,.U,.U,.U,.U,.U,.U,.U,.U,.U,.U,.U,.U,.U,.U,.U,.U,.U,.U,.U,.U,.U,.U,.U,.U,.U,.U,.U,.U,.U,.U,.U,.U,.U,.U,.U,.U]/\Γ=[.box 133 (cC p (.slice ad c2.ls.length cp) c2),.vech 9 1 (ca c2.ls) (.slice ad c2.ls.length cp),.box 94 (cT (.mk n l)),.box 91 (ay n)]/\c2=(if d=true then ic p (l.take k) c1 else c1)) ?_ ag ?_ ?_ ?_
  ·exact ⟨_,_,Wk.aC aq,ad,cp,c1,rfl,rfl,by cases d <;> simp [ic]⟩
  ·rintro k _ _ ⟨ad,cp,c2,rfl,rfl,_⟩;exact dQ
  ·rintro k _ _ ak ⟨ad,cp,c2,rfl,rfl,jK⟩;rw [eY] at ak;obtain ⟨u,hu⟩:∃ u,l[k]?=some u:=⟨l[k],by simp [ak]⟩;have hr:=cV hu;have cU:=tF hu
   cases d with
   | false =>
    refine ae ?_;exact ⟨rfl,rfl,_,_,(Wk.cut (n:=4) (Nat.le_of_ble_eq_true rfl) rfl).trans (Wk.aC aq),ad,cp,c2,rfl,rfl,jK⟩
   | true =>
    rw [if_pos rfl] at jK;have hlen:=wx p (l.take k) c1;rw [<-jK] at hlen;have hi:=ih u ag c2 ad cp ag;unfold cO at hi;rw [if_pos rfl,NO p hu,<-jK];refine ae ?_;refine cn [0,1] hi ?_;rintro _ _ ⟨rfl,ql,qn,rfl⟩;refine cX ?_;refine ae ?_;exact ⟨rfl,rfl,_,_,(Wk.cut (n:=4) (Nat.le_of_ble_eq_true rfl) rfl).trans (Wk.aC aq),ql,qn,_,rfl,rfl,rfl⟩
  ·rintro _ _ ⟨ad,cp,c2,rfl,rfl,jK⟩;rw [eY,take_length] at jK;rw [<-jK]
   have hlen:c2.ls.length<=8388608:=by
    rw [jK];split
    ·have:=wx p l c1;omega
    ·omega
   clear jK ih;refine bb ?_;have hL:=jk c2.ls n.s ag;have Rn:=vC c2.ls;have Iu:=gX p (.slice ad c2.ls.length cp) c2 21 n.at_;have XG:=gX p (.slice ad c2.ls.length cp) c2 26 n.at_;have l21:=c2.nU 21 n.at_;have l26:=c2.nU 26 n.at_
   cases hv:(n.kind != 13) with
   | true =>
    have e:lL c2 n=c2:=by unfold lL;exact if_pos (by simpa using hv)
    rw [e];refine ae ?_;refine cW ?_;exact ⟨rfl,ad,cp,rfl⟩
   | false =>
    have Bc:¬ n.kind≠13:=by simpa using hv
    unfold cC at Iu XG
    cases hb:c2.ls.contains n.s with
    | true =>
     rw [hb] at hL
     have e:lL c2 n=⟨(c2.fail 21 n.at_).ls++[n.s],(c2.fail 21 n.at_).code,(c2.fail 21 n.at_).at_⟩:=by unfold lL;rw [if_neg Bc];exact if_pos hb
     rw [e];generalize c2.fail 21 n.at_=y at *;unfold cC;refine ae ?_;refine aI (aB 0 6 (.a 6 .nil)) ?_;refine ar ?_;refine OA rfl rfl (GL.borrow hL (fun B K β w l hI hF=>gT (A:=[_]) (C:=[_,_]) hI hF rfl rfl) ?_);refine dA ?_;refine bf ?_;refine ab [0] Iu ?_;refine aI (aB 0 7 (.a 7 (.a 8 (.q 9 (.q 10 (.a 11 .nil)))))) ?_;refine ar ?_;refine eA ?_;refine ar ?_;refine OA rfl rfl (GL.pJ 1 (news:=[[.v (sv n.s)]]) rfl rfl rfl aR rfl rfl (by refine ⟨?_,?_⟩;(· show _+1<=_;omega);(· show (_+1) * _<=_;omega)) ?_);intro sL sP;refine dA ?_;refine bf ?_;refine cW ?_;exact ⟨rfl,sL,sP,by simp [cO,cC,ca,l21]⟩
    | false =>
     rw [hb] at hL
     cases h40:((c2.ls.length:Int)==40) with
     | true =>
      have e:lL c2 n=⟨(c2.fail 26 n.at_).ls++[n.s],(c2.fail 26 n.at_).code,(c2.fail 26 n.at_).at_⟩:=by
       unfold lL;rw [if_neg Bc,if_neg (by rw [hb];decide)];exact if_pos (by rw [beq_iff_eq] at h40;omega)
      rw [e];generalize c2.fail 26 n.at_=y at *;unfold cC;refine ae ?_;refine aI (aB 0 6 (.a 6 .nil)) ?_;refine ar ?_;refine OA rfl rfl (GL.borrow hL (fun B K β w l hI hF=>gT (A:=[_]) (C:=[_,_]) hI hF rfl rfl) ?_);refine dA ?_;refine bf ?_;refine ab [0] XG ?_;refine aI (aB 0 7 (.a 7 (.a 8 (.q 9 (.q 10 (.a 11 .nil)))))) ?_;refine ar ?_;refine eA ?_;refine ar ?_;refine OA rfl rfl (GL.pJ 1 (news:=[[.v (sv n.s)]]) rfl rfl rfl aR rfl rfl (by refine ⟨?_,?_⟩;(· show _+1<=_;omega);(· show (_+1) * _<=_;omega)) ?_);intro sL sP;refine dA ?_;refine bf ?_;refine cW ?_;exact ⟨rfl,sL,sP,by simp [cO,cC,ca,l26]⟩
     | false =>
      have e:lL c2 n=⟨c2.ls++[n.s],c2.code,c2.at_⟩:=by
       unfold lL;rw [if_neg Bc,if_neg (by rw [hb];decide)];exact if_neg (by rw [beq_eq_false_iff_ne] at h40;omega)
      rw [e];unfold cC;refine ae ?_;refine aI (aB 0 6 (.a 6 .nil)) ?_;refine ar ?_;refine OA rfl rfl (GL.borrow hL (fun B K β w l hI hF=>gT (A:=[_]) (C:=[_,_]) hI hF rfl rfl) ?_);refine dA ?_;refine bf ?_;refine aI (aB 0 7 (.a 7 (.a 8 (.q 9 (.q 10 (.a 11 .nil)))))) ?_;refine ar ?_;refine eA ?_;refine ar ?_;refine OA rfl rfl (GL.pJ 1 (news:=[[.v (sv n.s)]]) rfl rfl rfl aR rfl rfl (by refine ⟨?_,?_⟩;(· show _+1<=_;omega);(· show (_+1) * _<=_;omega)) ?_);intro sL sP;refine dA ?_;refine bf ?_;refine cW ?_;exact ⟨rfl,sL,sP,by simp [cO,cC,ca]⟩
end Go.Xg
namespace Go.Xg
open Go.RowKit Go.Xw Go.Proofs
open Go.Xp (Nd T Ar aP az)
open Go.Sp (Src)
open Go.Im
attribute [local irreducible] GW GL GO YG GC GA aV aZ
theorem B4 (p:Src) (h:Value) (k e:Int):GF Tryz.prog 153 [.loc 0 0,.v (ii e),.v (ii 0)] [.box 133 (cC p h ⟨[],k,0⟩)] (.tup []) [.box 133 (cC p h ⟨[],fL k e,0⟩)]:=by
 have:=gX p h ⟨[],k,0⟩ e 0
 rwa [show (SS.fail ⟨[],k,0⟩ e 0)=⟨[],fL k e,0⟩ by unfold SS.fail fL;by_cases hk:k=0 <;> simp [hk]] at this
theorem FI (p:Src) (h:Value) (k:Int) (jq:p.arrays.length<=1048576) (cU:∀ a∈p.arrays,0<=a.size/\a.size<=2147483648)
  (rest:(p.arrays.all fun a=>!mc a)=true->GF Tryz.prog 131 [.loc 0 0] [.box 133 (cC p h ⟨[],k,0⟩)] (.tup []) [.box 133 (cC p h ⟨[],qU p k,0⟩)]) :
  GF Tryz.prog 131 [.loc 0 0] [.box 133 (cC p h ⟨[],k,0⟩)] (.tup []) [.box 133 (cC p h ⟨[],qU p k,0⟩)]:=by
 cases tU:(p.arrays.all fun a=>!mc a) with
 | true=>exact rest tU
 | false =>
 have dK:(p.arrays.map aD).length=p.arrays.length:=by simp
 have hb:=uz cU;have xw:=B4 p h k 26
 have Fa:p.arrays.any mc=true:=by
  cases h0:p.arrays.any mc with
  | true=>rfl
  | false =>
   rw [any_eq_false] at h0;rw [List.all_eq_false] at tU;obtain ⟨x,hx,h1⟩:=tU;have:=h0 x hx;simp at h1;rw [h1] at this;exact absurd rfl this
 rw [show qU p k=fL k 26 by unfold qU;exact if_pos Fa];unfold cC at xw |-;refine ai Tryz.func131 Tryz.ntmps131 ?_;refine GW.range (p.arrays.map aD).length (fun k' fr Γ=>fr=[.loc 0 0,.U,.v (ii (dE (p.arrays.take k'))),.U,.U,.U,.U,.U,.U,.U,.U,.U,.sl 2 (p.arrays.map aD),.v (ii ((p.arrays.map aD).length:Int)),.v (ii (k':Nat)),.U,.U,.U,.U,.U,.U,.U,.U,.U,.U,.U,.U,.U,.U,.U,.U,.U,.U,.U,.U,.U,.U,.U,.U,.U,.U,.U,.U,.U,.U,.U,.U,.U,.U,.U,.U,.U,.U,.U,.U,.U,.U,.U,.U,.U,.U,.U,.U,.U,.U,.U,.U,.U,.U,.U,.U,.U,.U,.U,.U,.U,.U,.U,.U,.U,.U,.U,.U,.U,.U,.U,.U,.U,.U,.U,.U,.U,.U,.U]/\Γ=[.box 133 [strs p.globals,.sl 2 (p.arrays.map aD),.sl 3 (p.fns.map aw),.sl 5 (p.nodes.map ay),.v h,.v (ii k),.v (ii 0)]]/\(p.arrays.take k').all (fun a=>!mc a)=true) ?_ ag ?_ ?_ ?_
 ·exact jz
 ·rintro k' _ _ ⟨rfl,rfl,_⟩;exact dQ
 ·rintro k' _ _ ak ⟨rfl,rfl,aQ⟩;rw [dK] at ak;obtain ⟨x,hx⟩:∃ x,p.arrays[k']?=some x:=⟨p.arrays[k'],by simp [ak]⟩
  have hr:(p.arrays.map aD)[k']?=some (aD x):=by rw [getElem?_map,hx];rfl
  have bu:=lX (f:=mc) hx;have gW:=se hx;have en:=hb k';have px:=cU x (mem_of_getElem? hx);have hd:mc x=(decide (x.size < 1) || decide (8000 < x.size)):=rfl;unfold aD at hr
  cases h1:decide (x.size < 1) with
  | true =>
   refine ae ?_;refine ab [0] xw ?_;exact fU
  | false =>
   cases h2:decide (8000 < x.size) with
   | true =>
    refine ae ?_;refine ab [0] xw ?_;exact fU
   | false =>
    rw [gW];generalize dE (p.arrays.take k')=c at *;refine ae ?_;exact ⟨rfl,rfl,_,_,(Wk.cut (n:=1) (Nat.le_refl _) rfl).trans (Wk.aC aq),rfl,rfl,by rw [bu,aQ,hd,h1,h2];rfl⟩
 ·rintro _ _ ⟨rfl,rfl,aQ⟩;rw [dK,take_length] at aQ;rw [aQ] at tU;cases tU
end Go.Xg
namespace Go.Im
open Go.Xp Go.Sp
theorem SB (k e:Int) (he:e≠0):fL (fL k e) e=fL k e:=by unfold fL;by_cases h:k=0 <;> simp [h,he]
end Go.Im
namespace Go.Xg
open Go.RowKit Go.Xw Go.Proofs
open Go.Xp (Nd T Ar aP az)
open Go.Sp (Src)
open Go.Im
attribute [local irreducible] GW GL GO YG GC GA aV aZ
theorem D1 (p:Src) (h:Value) (k:Int) (jq:p.arrays.length<=1048576) (iL:p.fns.length<=1048576) (cU:∀ a∈p.arrays,0<=a.size/\a.size<=2147483648) (tU:(p.arrays.all fun a=>!mc a)=true) :
  GF Tryz.prog 131 [.loc 0 0] [.box 133 (cC p h ⟨[],k,0⟩)] (.tup []) [.box 133 (cC p h ⟨[],qU p k,0⟩)]:=by
 have dK:(p.arrays.map aD).length=p.arrays.length:=by simp
 have jL:(p.fns.map aw).length=p.fns.length:=by simp
 have jr:(p.globals.map fun s=>[GV.v (sv s)]).length=p.globals.length:=by simp
 have hb:=uz cU
 have Fa:p.arrays.any mc=false:=by
  rw [any_eq_false];rw [List.all_eq_true] at tU;intro x hx;simpa using tU x hx
 have xw:=B4 p h;unfold cC at xw |-;refine ai Tryz.func131 Tryz.ntmps131 ?_;refine GW.range (p.arrays.map aD).length (fun k' fr Γ=>fr=[.loc 0 0,.U,.v (ii (dE (p.arrays.take k'))),.U,.U,.U,.U,.U,.U,.U,.U,.U,.sl 2 (p.arrays.map aD),.v (ii ((p.arrays.map aD).length:Int)),.v (ii (k':Nat)),.U,.U,.U,.U,.U,.U,.U,.U,.U,.U,.U,.U,.U,.U,.U,.U,.U,.U,.U,.U,.U,.U,.U,.U,.U,.U,.U,.U,.U,.U,.U,.U,.U,.U,.U,.U,.U,.U,.U,.U,.U,.U,.U,.U,.U,.U,.U,.U,.U,.U,.U,.U,.U,.U,.U,.U,.U,.U,.U,.U,.U,.U,.U,.U,.U,.U,.U,.U,.U,.U,.U,.U,.U,.U,.U,.U,.U,.U,.U]/\Γ=[.box 133 [strs p.globals,.sl 2 (p.arrays.map aD),.sl 3 (p.fns.map aw),.sl 5 (p.nodes.map ay),.v h,.v (ii k),.v (ii 0)]]) ?_ ag ?_ ?_ ?_
 ·exact jo
 ·rintro k' _ _ ⟨rfl,rfl⟩;exact dQ
 ·rintro k' _ _ ak ⟨rfl,rfl⟩;rw [dK] at ak;obtain ⟨x,hx⟩:∃ x,p.arrays[k']?=some x:=⟨p.arrays[k'],by simp [ak]⟩
  have hr:(p.arrays.map aD)[k']?=some (aD x):=by rw [getElem?_map,hx];rfl
  have gW:=se hx;have en:=hb k';have px:=cU x (mem_of_getElem? hx)
  have hd:mc x=false:=by
   rw [any_eq_false] at Fa;have:=Fa x (mem_of_getElem? hx);simpa using this
  unfold mc at hd;rw [Bool.or_eq_false_iff] at hd;obtain ⟨h1,h2⟩:=hd;have h2:decide (8000 < x.size)=false:=h2;unfold aD at hr;rw [gW];generalize dE (p.arrays.take k')=c at *;refine ae ?_;exact ⟨rfl,rfl,_,_,(Wk.cut (n:=1) (Nat.le_refl _) rfl).trans (Wk.aC aq),rfl,rfl⟩
 ·rintro _ _ ⟨rfl,rfl⟩;rw [dK,take_length];refine bb ?_;refine GW.seq ?_;have e1:decide (p.fns.length > 40)=decide ((40:Int) < ((p.fns.map aw).length:Int)):=decide_eq_decide.2 (by rw [jL];omega);have e2:decide (p.globals.length > 29)=decide ((29:Int) < ((p.globals.map fun s=>[GV.v (sv s)]).length:Int)):=decide_eq_decide.2 ag
  have Y3:sN p=((decide ((40:Int) < ((p.fns.map aw).length:Int)) || decide ((29:Int) < ((p.globals.map fun s=>[GV.v (sv s)]).length:Int))) || decide ((8000:Int) < dE p.arrays)):=by unfold sN;rw [e1,e2]
  refine GW.join (fun fr Γ=>fr=[.loc 0 0,.U,.U,.U,.U,.U,.U,.U,.U,.U,.U,.U,.U,.U,.U,.U,.U,.U,.U,.U,.U,.U,.U,.U,.U,.U,.U,.U,.U,.U,.U,.U,.U,.U,.U,.U,.U,.U,.U,.U,.U,.U,.U,.U,.U,.U,.U,.U,.U,.U,.U,.U,.U,.U,.U,.U,.U,.U,.U,.U,.U,.U,.U,.U,.U,.U,.U,.U,.U,.U,.U,.U,.U,.U,.U,.U,.U,.U,.U,.U,.U,.U,.U,.U,.U,.U,.U,.U,.U,.U,.U,.U,.U,.U]/\Γ=[.box 133 [strs p.globals,.sl 2 (p.arrays.map aD),.sl 3 (p.fns.map aw),.sl 5 (p.nodes.map ay),.v h,.v (ii (if sN p=true then fL k 26 else k)),.v (ii 0)]]) ?_ ?_
  ·rw [Y3];have J1:=xw k 26;generalize dE p.arrays=c at *
   cases h1:decide ((40:Int) < ((p.fns.map aw).length:Int))
   all_goals cases h2:decide ((29:Int) < ((p.globals.map fun s=>[GV.v (sv s)]).length:Int))
   all_goals cases h3:decide ((8000:Int) < c)
   all_goals
    refine ae ?_
    first
     | exact jo
     | (refine iC [0] J1 ?_;refine ae ?_;exact ⟨_,_,Wk.aC aq,rfl,rfl⟩)
  ·rintro _ _ ⟨rfl,rfl⟩;generalize r8:(if sN p=true then fL k 26 else k)=k1
   have WK:∀ j:Nat,∀ x:Go.Sp.Fn,p.fns[j]?=some x->(p.fns.take (j+1)).any (fun f=>decide (f.params.length > 40))=((p.fns.take j).any (fun f=>decide (f.params.length > 40)) || decide (x.params.length > 40)):=fun j x hx=>by
    rw [take_add_one,hx,List.any_append];simp
   refine ae ?_;refine GW.range (p.fns.map aw).length (fun j fr Γ=>∃ kk,fr=[.loc 0 0,.U,.U,.U,.U,.U,.U,.U,.U,.U,.U,.U,.U,.U,.U,.U,.U,.U,.U,.U,.U,.U,.U,.U,.U,.U,.U,.U,.U,.U,.U,.U,.U,.U,.U,.U,.U,.U,.U,.U,.U,.U,.U,.U,.U,.U,.U,.U,.U,.U,.U,.U,.U,.U,.U,.U,.U,.U,.U,.sl 3 (p.fns.map aw),.v (ii ((p.fns.map aw).length:Int)),.v (ii (j:Nat)),.U,.U,.U,.U,.U,.U,.U,.U,.U,.U,.U,.U,.U,.U,.U,.U,.U,.U,.U,.U,.U,.U,.U,.U,.U,.U,.U,.U,.U,.U,.U,.U]/\Γ=[.box 133 [strs p.globals,.sl 2 (p.arrays.map aD),.sl 3 (p.fns.map aw),.sl 5 (p.nodes.map ay),.v h,.v (ii kk),.v (ii 0)]]/\kk=(if (p.fns.take j).any (fun f=>decide (f.params.length > 40))=true then fL k1 26 else k1)) ?_ ag ?_ ?_ ?_
   ·exact ⟨_,_,Wk.aC aq,k1,rfl,rfl,by simp⟩
   ·rintro j _ _ ⟨kk,rfl,rfl,_⟩;exact dQ
   ·rintro j _ _ ak ⟨kk,rfl,rfl,iM⟩;rw [jL] at ak;obtain ⟨x,hx⟩:∃ x,p.fns[j]?=some x:=⟨p.fns[j],by simp [ak]⟩
    have hr:(p.fns.map aw)[j]?=some (aw x):=by rw [getElem?_map,hx];rfl
    have cR:(x.params.map fun s=>[GV.v (sv s)]).length=x.params.length:=by simp
    have pS:=WK j x hx;have hd:decide (x.params.length > 40)=decide ((40:Int) < ((x.params.map fun s=>[GV.v (sv s)]).length:Int)):=decide_eq_decide.2 ag;have J1:=xw kk 26;rw [pS,hd];unfold aw at hr
    cases h1:decide ((40:Int) < ((x.params.map fun s=>[GV.v (sv s)]).length:Int)) with
    | true =>
     have e:fL kk 26=fL k1 26:=by rw [iM];split;(· exact SB _ _ aJ);rfl
     rw [e] at J1;refine ae ?_;refine ab [0] J1 ?_;exact ⟨rfl,rfl,_,_,(Wk.cut (n:=1) (Nat.le_refl _) rfl).trans (Wk.aC aq),_,rfl,rfl,by simp⟩
    | false =>
     refine ae ?_;exact ⟨rfl,rfl,_,_,(Wk.cut (n:=1) (Nat.le_refl _) rfl).trans (Wk.aC aq),kk,rfl,rfl,by rw [iM,Bool.or_false]⟩
   ·rintro _ _ ⟨kk,rfl,rfl,iM⟩;rw [jL,take_length] at iM
    have hs:qU p k=(if jG p=true then fL kk 25 else kk):=by
     unfold qU;rw [if_neg (by rw [Fa];decide),r8,<-iM]
    rw [hs];refine bb ?_;have Us:=xw kk 25;have hM:=Cg p vj ag;unfold cE at hM;clear hs iM r8
    cases hx:p.fns.findIdx? (fun f:Go.Sp.Fn=>f.name==vj) with
    | none =>
     rw [hx] at hM
     have hd:decide ((-1:Int) < 0)=true:=by decide
     simp only at hM;rw [show (if jG p=true then fL kk 25 else kk)=fL kk 25 from if_pos (by unfold jG;rw [hx])];refine ae ?_;refine ab [] hM ?_;refine ab [0] Us ?_;exact fU
    | some i =>
     rw [hx] at hM;have hi:i < p.fns.length:=(List.findIdx?_eq_some_iff_getElem.1 hx).1;obtain ⟨f,hf⟩:∃ f,p.fns[i]?=some f:=⟨p.fns[i],by simp [hi]⟩
     have hr:(p.fns.map aw)[i]?=some (aw f):=by rw [getElem?_map,hf];rfl
     have cR:(f.params.map fun s=>[GV.v (sv s)]).length=f.params.length:=by simp
     have hd:decide (((i:Nat):Int) < 0)=false:=by simp
     have jZ:decide (lD p i > 0)=decide ((0:Int) < ((f.params.map fun s=>[GV.v (sv s)]).length:Int)):=by
      unfold lD;rw [hf];exact decide_eq_decide.2 (by simp only;omega)
     simp only at hM
     have qt:jG p=decide (lD p i > 0):=by unfold jG;rw [hx]
     rw [jZ] at qt;unfold aw at hr
     cases h1:decide ((0:Int) < ((f.params.map fun s=>[GV.v (sv s)]).length:Int)) with
     | true =>
      rw [show (if jG p=true then fL kk 25 else kk)=fL kk 25 from if_pos (by rw [qt,h1])];refine ae ?_;refine ab [] hM ?_;refine ab [0] Us ?_;exact fU
     | false =>
      rw [show (if jG p=true then fL kk 25 else kk)=kk from if_neg (by rw [qt,h1];decide)];refine ae ?_;refine ab [] hM ?_;exact fU
end Go.Xg
namespace Go.Im
open Go.Xp Go.Sp
theorem Pk (p:Src) (l:List T) (c:SS):ny p [] l c=c:=by unfold ny;rfl
end Go.Im
namespace Go.Xg
open Go.RowKit Go.Xw Go.Proofs
open Go.Xp (Nd T Ar aP az)
open Go.Sp (Src)
open Go.Im
attribute [local irreducible] GW GL GO YG GC GA aV aZ
theorem Lq (p:Src) (hF:GF Tryz.prog 129 [.agg (ax p)] [] (.v (.bool false)) []):GF Tryz.prog 97 [.agg (ax p)] [] (.tup [.v (ii 20),.v (ii 0)]) []:=by
 refine ai Tryz.func97 Tryz.ntmps97 ?_;refine ab [] hF ?_;exact mg
theorem Jx (p:Src) (l:List T) (c1 c2:SS) (jL:p.fns.length=l.length) (iL:p.fns.length<=1048576) (jq:p.arrays.length<=1099511627776) (jr:p.globals.length<=1099511627776)
  (xL:∀ f∈p.fns,f.params.length<=1048576) (cU:∀ t∈l,aP t<=1048576)
  (hF:GF Tryz.prog 129 [.agg (ax p)] [] (.v (.bool true)) [])
  (hN:GF Tryz.prog 130 [.loc 0 0] [.box 133 (cC p (.slice none 0 0) ⟨[],0,0⟩)] (.tup []) [.box 133 (cC p (.slice none 0 0) c1)])
  (hS:GF Tryz.prog 131 [.loc 0 0] [.box 133 (cC p (.slice none 0 0) c1)] (.tup []) [.box 133 (cC p (.slice none 0 0) c2)])
  (pU:∀ (i:Nat) (f:Go.Sp.Fn) (t:T),p.fns[i]?=some f->l[i]?=some t->GF Tryz.prog 99 [.agg (ax p),.v (ii f.body)] [] (.agg (cT t)) []) :
  GF Tryz.prog 97 [.agg (ax p)] [] (.tup [.v (ii (ny p p.fns l c2).code),.v (ii (ny p p.fns l c2).at_)]) []:=by
 have va:(p.fns.map aw).length=p.fns.length:=by simp
 unfold cC at hN hS;refine ai Tryz.func97 Tryz.ntmps97 ?_;refine ab [] hF ?_;refine ab [1] hN ?_;refine ab [1] hS ?_;refine GW.range (p.fns.map aw).length (fun k fr Γ=>∃ h c,fr=[.U,.loc 0 0,.U,.U,.loc 1 0,.U,.U,.U,.U,.U,.U,.U,.U,.U,.U,.U,.U,.U,.sl 3 (p.fns.map aw),.v (ii ((p.fns.map aw).length:Int)),.v (ii (k:Nat)),.U,.U,.U,.U,.U,.U,.U,.U,.U,.U,.U,.U,.U,.U,.U,.U,.U,.U,.U,.U,.U,.U,.U,.U,.U,.U]/\Γ=[.box 34 (ax p),.box 133 (cC p h c)]/\ny p p.fns l c2=ny p (p.fns.drop k) (l.drop k) c) ?_ ag ?_ ?_ ?_
 ·exact ⟨_,_,Wk.aC aq,_,c2,rfl,rfl,rfl⟩
 ·rintro k _ _ ⟨h,c,rfl,rfl,_⟩;exact dQ
 ·rintro k _ _ ak ⟨h,c,rfl,rfl,he⟩;rw [va] at ak;obtain ⟨f,hf⟩:∃ f,p.fns[k]?=some f:=⟨p.fns[k],by simp [ak]⟩;obtain ⟨t,ht⟩:∃ t,l[k]?=some t:=⟨l[k]'ag,getElem?_eq_getElem _⟩
  have hr:(p.fns.map aw)[k]?=some (aw f):=by rw [getElem?_map,hf];rfl
  have MW:p.fns.drop k=f::p.fns.drop (k+1):=by rw [List.drop_eq_getElem_cons ak];rw [getElem?_eq_getElem ak] at hf;rw [Option.some.inj hf]
  have de:l.drop k=t::l.drop (k+1):=by rw [List.drop_eq_getElem_cons ag];rw [getElem?_eq_getElem ag] at ht;rw [Option.some.inj ht]
  have hp:=xL f (mem_of_getElem? hf);have hz:=cU t (mem_of_getElem? ht);have U1:=pU k f t hf ht;have hP:=Hs p h c f hp;rw [MW,de,ny] at he
  cases hc:(c.code==0) with
  | false =>
   rw [if_neg (by simpa using hc)] at he;unfold cC aw at *;refine ae ?_;exact ⟨rfl,rfl,_,_,(Wk.cut (n:=2) (Nat.zero_le _) rfl).trans (Wk.aC aq),h,c,rfl,rfl,he⟩
  | true =>
   rw [if_pos (by simpa using hc)] at he
   have XM:=fun ad cp=>Ny p jq ag jr _ t (Nat.le_refl _) (p8 f c) ad cp (by show f.params.length+_<=_;omega)
   rw [he];generalize nm p t (p8 f c)=c3 at *;unfold cO at XM;unfold aw at hr hP;rw [show cC p h c=[strs p.globals,.sl 2 (p.arrays.map aD),.sl 3 (p.fns.map aw),.sl 5 (p.nodes.map ay),.v h,.v (ii c.code),.v (ii c.at_)] from rfl] at *;refine ae ?_;refine cn [1] hP ?_;rintro _ _ ⟨rfl,ad,cp,rfl⟩;refine cX ?_;refine ae ?_;refine ab [] U1 ?_;refine cn [1,3] (XM ad cp) ?_;rintro _ _ ⟨rfl,ql,qn,rfl⟩;refine cX ?_;refine ae ?_;exact ⟨rfl,rfl,_,_,(Wk.cut (n:=2) (Nat.zero_le _) rfl).trans (Wk.aC aq),_,c3,rfl,rfl,rfl⟩
 ·rintro _ _ ⟨h,c,rfl,rfl,he⟩;rw [va,List.drop_length,Pk] at he;rw [he];unfold cC;refine bb ?_;refine ae ?_;refine aI (aB 0 10 .nil) ?_;refine ar ?_;exact qY
end Go.Xg
namespace Go.Xg
open Go.RowKit Go.Xw Go.Proofs
open Go.Xp (Nd T Ar aP az bL)
open Go.Sp (Src)
open Go.Im
attribute [local irreducible] GW GL GO YG GC GA aV aZ
end Go.Xg
namespace Go.Xg
open Go.RowKit Go.Xw Go.Proofs
section
variable {P:Program} {m:Nat} {ops:Array Oper} {Q:dD} {rest:List Oper} {fr:List GV} {Γ:List Ob}
theorem Ov {o:Oper} {a:Act} {next next':Act->World->Prop} {Q Q':Exit->Act->World->Prop} (hn:∀ a w,next a w->next' a w) (hq:∀ e a w,Q e a w->Q' e a w):∀ r,o.upon P a next Q r->o.upon P a next' Q' r:=by
 have hl:LetsOut Q->LetsOut Q':=fun ⟨a,w,h⟩=>⟨a,w,hq _ _ _ h⟩
 intro r h;unfold Oper.upon at h |-;split at h
 ·exact hn _ _ h
 ·exact hn _ _ h
 ·exact hn _ _ h
 ·refine Calls.mono h fun e w' he=>?_
  cases e with
  | returned v=>exact hn _ _ he
  | panicked ch=>exact hq _ _ _ he
  | outgrown=>exact hl he
 ·exact Rows.mono h fun v w' hv=>hn _ _ hv
 ·exact hq _ _ _ h
 ·exact h
theorem zH {Q Q':Exit->Act->World->Prop} (hq:∀ e a w,Q e a w->Q' e a w):∀ (l:List Oper) (a:Act) (w:World),wpList P ops Q l a w->wpList P ops Q' l a w
 | [],a,w,h=>hq _ _ _ h
 | o::l,a,w,h=>by
  have ih:=zH hq l;unfold wpList at h |-;split at h
  ·rename_i hw;rw [if_pos hw]
   rcases h with h | ⟨h1,h2⟩
   ·exact .inl (Ov ih hq _ h)
   ·exact .inr ⟨h1,by obtain ⟨a,w,h⟩:=h2;exact ⟨a,w,hq _ _ _ h⟩⟩
  ·rename_i hw;rw [if_neg hw];exact ih _ _ h
theorem GL.mono {Q':dD} (h:GL P m ops Q rest fr Γ) (hq:∀ e fr Γ,Q e fr Γ->Q' e fr Γ):GL P m ops Q' rest fr Γ:=fun B K β w l hm hI hF =>
 zH (fun e a w ⟨l,ha,K,β,fr,Γ,hI,hF,q⟩=>⟨l,ha,K,β,fr,Γ,hI,hF,hq _ _ _ q⟩) _ _ _ (h B K β w l hm hI hF)
theorem GL.WT {z y:Code} (K:List GV->List Ob->Prop) (h1:GL P m ops (aV (GW P m z (aV (y5 m K) Q)) Q) rest fr Γ) (h2:∀ fr Γ,K fr Γ->GW P m y Q fr Γ):GL P m ops (aV (GW P m z (aV (GW P m y Q) Q)) (aV (GW P m y Q) Q)) rest fr Γ:=by
 refine h1.mono fun e fr Γ hq=>?_
 cases e with
 | normal=>exact GW.join K hq h2
 | _=>exact hq
theorem GL.qI {t i n E k:Nat} {rows:List (List GV)} (ht:cH fr t=.vec i n) (fP:jC fr t=true) (bz:Γ[i]?=some (.vec E k 0 rows)) (hn:rows.length=n)
  (h:∀ a c,GL P m ops Q rest (bs fr t (.v (.slice a n c))) (oset Γ i (.vech E k rows (.slice a n c)))):GL P m ops Q rest fr Γ:=fun B K β w l hm hI hF=>by
 subst hn;obtain ⟨a,c,hb,bg⟩:=hI.qI bz
 have hv:nth l t=.slice a rows.length c:=by
  have:=hF.nth t;rw [ht] at this;generalize nth l t=x at this
  cases this with
  | vec i n a' c' h =>
   obtain ⟨h0,m0,e1,_,e3⟩:=h;rw [hb] at e1;cases e1;exact e3 rfl
 have:=hF.eU t (Rel.v (K:=K) (β:=β) (.slice a rows.length c));rw [<-hv,Az (mA hF fP),hv] at this;exact h a c B K β w l hm bg this
end
end Go.Xg
namespace Go.Im
open Go.Xp Go.Sp
def IQ (x y:Int):Bool:=decide (x<=y)
structure ZV (d:Array Int) (m:Nat):Prop where
 rise:gC (Go.Lib.compactUpTo d m)
 le:∀ x∈Go.Lib.compactUpTo d m,0 < m/\x<=d[m - 1]!
 mem:∀ x,x∈Go.Lib.compactUpTo d m↔∃ i,i < m/\d[i]! = x
 len:(Go.Lib.compactUpTo d m).length<=m
theorem Sr {d:Array Int} {n:Nat} (hs:∀ i,i+1 < n->d[i]! <= d[i+1]!):∀ m,m<=n->ZV d m:=by
 intro m
 induction m with
 | zero=>intro _;exact ⟨List.Pairwise.nil,fun x hx=>(by cases hx),fun x=>(by simp [Go.Lib.compactUpTo]),Nat.le_refl _⟩
 | succ m ih =>
  intro hm;obtain ⟨h1,h2,h3,h4⟩:=ih bZ;have e:=Go.Lib.compactUpTo_succ d m
  by_cases hk:Go.Lib.keeps d m=true
  ·rw [if_pos hk] at e
   have ak:∀ x∈Go.Lib.compactUpTo d m,x < d[m]! := fun x hx=>by
    obtain ⟨h5,h6⟩:=h2 x hx;have h7:=hs (m - 1) bZ;rw [Nat.sub_add_cancel h5] at h7
    have:d[m]! ≠ d[m - 1]! := by
     unfold Go.Lib.keeps at hk;simp only [decide_eq_true_eq] at hk
     rcases hk with h | h
     ·omega
     ·exact h
    omega
   refine ⟨?_,fun x hx=>?_,fun x=>?_,?_⟩
   ·rw [e];unfold gC at *;rw [List.pairwise_append];exact ⟨h1,by simp,fun a ha b hb=>by rw [mem_singleton] at hb;rw [hb];exact ak a ha⟩
   ·rw [e,List.mem_append,mem_singleton] at hx;rw [Nat.add_sub_cancel]
    rcases hx with h | h
    ·have:=ak x h;omega
    ·omega
   ·rw [e,List.mem_append,mem_singleton,h3];constructor
    ·rintro (⟨i,hi,hx⟩ | hx)
     ·exact ⟨i,by omega,hx⟩
     ·exact ⟨m,by omega,hx.symm⟩
    ·rintro ⟨i,hi,hx⟩
     by_cases him:i=m
     ·subst him;exact .inr hx.symm
     ·exact .inl ⟨i,by omega,hx⟩
   ·rw [e,length_append];simp;omega
  ·rw [if_neg hk,append_nil] at e
   have Rp:0 < m:=by
    rcases Nat.eq_zero_or_pos m with h | h
    ·subst h;exact absurd (by simp [Go.Lib.keeps]) hk
    ·exact h
   have heq:d[m]! = d[m - 1]! := by
    unfold Go.Lib.keeps at hk;simp only [decide_eq_true_eq,not_or] at hk;exact Decidable.not_not.1 hk.2
   refine ⟨by rw [e];exact h1,fun x hx=>?_,fun x=>?_,by rw [e];omega⟩
   ·rw [e] at hx;rw [Nat.add_sub_cancel,heq];exact ⟨by omega,(h2 x hx).2⟩
   ·rw [e,h3];constructor
    ·rintro ⟨i,hi,hx⟩;exact ⟨i,by omega,hx⟩
    ·rintro ⟨i,hi,hx⟩
     by_cases him:i=m
     ·subst him;exact ⟨i - 1,by omega,by rw [<-heq];exact hx⟩
     ·exact ⟨i,by omega,hx⟩
def gx (l:List Int):List Int:=l.mergeSort IQ
theorem DO (l:List Int):(gx l).Perm l:=List.mergeSort_perm l IQ
theorem nI (l:List Int):(gx l).length=l.length:=(DO l).length_eq
theorem wI {l:List Int} {x:Int}:x∈gx l↔x∈l:=(DO l).mem_iff
theorem HJ (l:List Int):(gx l).Pairwise (·<=·):=by
 have:=List.pairwise_mergeSort (le:=IQ) (fun a b c h1 h2=>by unfold IQ at *;simp at *;omega) (fun a b=>by unfold IQ;simp;omega) l
 exact this.imp fun {a b} h=>by unfold IQ at h;simpa using h
theorem TW (l:List Int):Go.Lib.compact (gx l)=oM l/\(Go.Lib.compact (gx l)).length<=(gx l).length:=by
 have hs:=HJ l
 have hg:∀ i,i < (gx l).length->∃ x,(gx l)[i]?=some x/\(gx l).toArray[i]! = x:=fun i hi=>⟨(gx l)[i],getElem?_eq_getElem _,by simp [getElem!_pos,hi]⟩
 have h:=Sr (d:=(gx l).toArray) (n:=(gx l).length) (fun i hi=>by
  rw [List.pairwise_iff_getElem] at hs;have:=hs i (i+1) bZ hi bZ
  simpa [getElem!_pos,hi,show i < (gx l).length by omega] using this) _ (Nat.le_refl _)
 refine ⟨Br h.rise (rX l) fun x=>?_,h.len⟩;unfold Go.Lib.compact;rw [h.mem,wF];constructor
 ·rintro ⟨i,hi,hx⟩;obtain ⟨y,hy,he⟩:=hg i hi;rw [he] at hx;subst hx;exact wI.1 (mem_of_getElem? hy)
 ·intro hx;obtain ⟨i,hi⟩:=getElem?_of_mem (wI.2 hx);have ak:=(List.getElem?_eq_some_iff.1 hi).1;obtain ⟨y,hy,he⟩:=hg i ak;rw [hi] at hy;cases hy;exact ⟨i,ak,he⟩
end Go.Im
