/- Part 8 of proofs that are told in their last texts. -/
import Derived.Test.YtcoplmnahnipiaaGreatDoorY7
import Derived.Test.YtcoplmnahnipiaaGreatDoorY2
import Derived.Test.YtcoplmnahnipiaaGreatDoorY5
import Derived.Laws.StructEq
import Derived.Test.YtcoplmnahnipiaaGreatDoorY1
import Derived.Test.YtcoplmnahnipiaaGreatDoorY6
import Derived.Test.YtcoplmnahnipiaaGreatDoorY3
open List (all_eq_true append_nil ext_getElem? getElem?_map getElem?_mapIdx getElem_mem length_append length_cons length_drop length_map length_nil length_take map_append mem_of_getElem? nil_append take_add_one take_length)
set_option linter.unusedVariables false
set_option linter.unusedSimpArgs false
set_option maxRecDepth 100000
set_option maxHeartbeats 2000000
namespace Go.Xg
open Go.RowKit Go.Xw Go.Proofs
open Go.Xp (Tok Nd T Ar levels cm bt aK ay)
open Go.Sp (Src)
open Go.Im
attribute [local irreducible] GW GL GO YG GC GA aS aW
theorem Ps (ex bk:FuncId) [he:aC Tryz.prog ex] [hb:aC Tryz.prog bk] (tx:T->ah) (inl:List ah->Nat->ah) (W:Wr ex bk tx inl) (p:Src) (trees:List T) (hlen:(ml tx inl p trees).length<=1099511627776) (hft:p.fns.length=trees.length)
  (hg:p.globals.length<=1099511627776) (ha:p.arrays.length<=1099511627776) (hf:p.fns.length<=1099511627776) (iT:∀ a∈p.arrays,-9223372036854775808<=a.size/\a.size<=9223372036854775807) (DA:∀ f∈p.fns,f.params.length<=1099511627776)
  (ht:∀ t∈trees,fH t=true/\oE t/\jm t<=1099511627776/\aK t+1<=1099511627776) :
  GF Tryz.prog 159 [.agg (ar p),.sl 1 (bW trees),.v (ik ex),.v (ik bk)] [] (.v (sv (ml tx inl p trees))) []:=by
 have W0:(p.globals.map fun s=>[GV.v (sv s)]).length=p.globals.length:=by simp
 have kc:(p.arrays.map aB).length=p.arrays.length:=by simp
 have WZ:(p.fns.map au).length=p.fns.length:=by simp
 have l2:=Ct (f1 tx inl) (p.fns.zip trees) (c8 a1 (c8 g1 [] p.globals) p.arrays);have l1:=Ct a1 p.arrays (c8 g1 [] p.globals);unfold ml at hlen |-;refine ai Tryz.func159 Tryz.ntmps159 ?_;refine GW.wk (Wk.CN (t:=9) (a:=none) (c:=0) 5 1 rfl) ?_;refine GW.range (p.globals.map fun s=>[GV.v (sv s)]).length (fun k fr Γ=>∃ acc m rows,fr=[.aaF,.sl 1 (bW trees),.v (ik ex),.v (ik bk),.loc 0 0,.aaF,.aaF,.aaF,.aaF,.vec 1 m,.aaF,.aaF,.aaF,.aaF,.aaF,.aaF,.aaF,.aaF,strs p.globals,.v (ii ((p.globals.map fun s=>[GV.v (sv s)]).length:Int)),.v (ii (k:Nat)),.aaF,.aaF,.aaF,.aaF,.aaF,.aaF,.aaF,.aaF,.aaF,.aaF,.aaF,.aaF,.aaF,.aaF,.aaF,.aaF,.aaF,.aaF,.aaF,.aaF,.aaF,.aaF,.aaF,.aaF,.aaF,.aaF,.aaF,.aaF,.aaF,.aaF,.aaF,.aaF,.aaF,.aaF,.aaF,.aaF,.aaF,.aaF,.aaF,.aaF,.aaF,.aaF,.aaF,.aaF,.aaF,.aaF,.aaF,.aaF,.aaF,.aaF,.aaF,.aaF,.aaF,.aaF,.aaF,.aaF,.aaF,.aaF,.aaF,.aaF,.aaF]/\Γ=[.box 34 (ar p),.vec 5 1 0 rows]/\rows.length=m/\rows=bZ acc/\acc=c8 g1 [] (p.globals.take k)) ?_ ae ?_ ?_ ?_
 ·exact ⟨_,_,Wk.aw al,[],0,[],rfl,rfl,rfl,rfl,rfl⟩
 ·rintro k _ _ ⟨acc,m,rows,rfl,rfl,_⟩;exact ⟨rfl,rfl,rfl⟩
 ·rintro k _ _ aq ⟨acc,m,rows,rfl,rfl,hm,bp,kE⟩;rw [W0] at aq
  have cP:p.globals[k]?=some p.globals[k]:=by simp [aq]
  have pA:(p.globals.map fun s=>[GV.v (sv s)])[k]?=some [.v (sv p.globals[k])]:=by rw [getElem?_map,cP];rfl
  have bq:c8 g1 [] (p.globals.take (k+1))=acc++g1 p.globals[k]:=by rw [take_add_one,cP,kE];exact xl g1 _ _ _
  have hle:=xm g1 p.globals (k+1) [];rw [bq,length_append] at hle
  have W1:rows.length=acc.length:=by rw [bp];simp [bZ]
  generalize p.globals[k]=z at *
  have hz:(g1 z).length=z.length+6:=by unfold g1;simp
  refine ab ?_;refine GL.Cj (str:=g1 z) rfl rfl rfl (by first | rfl | assumption) rfl ae ?_;refine bI ?_;refine ab ?_;exact ⟨rfl,rfl,_,_,Wk.aw al,acc++g1 z,_,_,rfl,rfl,by rw [length_append,hm];simp [bZ],by rw [bp];exact (tP acc (g1 z)).symm,bq.symm⟩
 ·rintro _ _ ⟨acc,m,rows,rfl,rfl,hm,bp,kE⟩;rw [W0,take_length] at kE;rw [<-kE] at hlen l1 l2 |-;refine aD ?_;refine ab ?_;refine GW.range (p.arrays.map aB).length (fun k fr Γ=>∃ qg m rows,fr=[.aaF,.sl 1 (bW trees),.v (ik ex),.v (ik bk),.loc 0 0,.aaF,.aaF,.aaF,.aaF,.vec 1 m,.aaF,.aaF,.aaF,.aaF,.aaF,.aaF,.aaF,.aaF,.aaF,.aaF,.aaF,.aaF,.aaF,.aaF,.aaF,.aaF,.aaF,.aaF,.aaF,.aaF,.aaF,.sl 2 (p.arrays.map aB),.v (ii ((p.arrays.map aB).length:Int)),.v (ii (k:Nat)),.aaF,.aaF,.aaF,.aaF,.aaF,.aaF,.aaF,.aaF,.aaF,.aaF,.aaF,.aaF,.aaF,.aaF,.aaF,.aaF,.aaF,.aaF,.aaF,.aaF,.aaF,.aaF,.aaF,.aaF,.aaF,.aaF,.aaF,.aaF,.aaF,.aaF,.aaF,.aaF,.aaF,.aaF,.aaF,.aaF,.aaF,.aaF,.aaF,.aaF,.aaF,.aaF,.aaF,.aaF,.aaF,.aaF,.aaF,.aaF]/\Γ=[.box 34 (ar p),.vec 5 1 0 rows]/\rows.length=m/\rows=bZ qg/\qg=c8 a1 acc (p.arrays.take k)) ?_ ae ?_ ?_ ?_
  ·exact ⟨_,_,Wk.aw al,acc,m,rows,rfl,rfl,hm,bp,rfl⟩
  ·rintro k _ _ ⟨qg,m,rows,rfl,rfl,_⟩;exact ⟨rfl,rfl,rfl⟩
  ·clear hm bp;rintro k _ _ aq ⟨qg,m,rows,rfl,rfl,hm,bp,Ej⟩;rw [kc] at aq
   have cP:p.arrays[k]?=some p.arrays[k]:=by simp [aq]
   have pA:(p.arrays.map aB)[k]?=some (aB p.arrays[k]):=by rw [getElem?_map,cP];rfl
   have bq:c8 a1 acc (p.arrays.take (k+1))=qg++a1 p.arrays[k]:=by rw [take_add_one,cP,Ej];exact xl a1 _ _ _
   have hle:=xm a1 p.arrays (k+1) acc;rw [bq,length_append] at hle
   have W1:rows.length=qg.length:=by rw [bp];simp [bZ]
   have xT:=iT p.arrays[k] (getElem_mem aq);generalize p.arrays[k]=z at *;have hit:=Lo z.size xT.1 xT.2;have wY:=xX xT
   have hz:(a1 z).length=z.name.length+(nw z.size).length+8:=by unfold a1;simp;omega
   unfold aB at pA;refine ab ?_;refine GW.draw (.q 0 (.q 1 (.q 2 (.q 3 (.q 4 (.q 5 (.q 6 (.a 7 (.q 8 (.q 9 (.a 10 (.q 11 .nil)))))))))))) (by kernel_rfl) (by kernel_rfl) ?_;refine aj ?_;refine az [] (hit) ?_;refine OA rfl rfl (GL.Cj (str:=a1 z) rfl rfl rfl (by first | rfl | assumption) rfl ae (GL.nil (aD (ey.mk (by repeat (first | exact iz.n | (apply iz.w;(· decide +kernel)) | (apply iz.y;(· first | (apply YQ.t;(· exact rfl);(· exact rfl);(· (first | (apply K.ld;first | exact YG.x9 rfl rfl (by first | rfl | assumption) | exact YG.sW rfl rfl rfl rfl | exact YG.ldV rfl rfl (by first | rfl | assumption) (by first | rfl | assumption) (by first | rfl | assumption) | exact YG.x8 rfl rfl (by first | rfl | assumption) (by first | rfl | assumption) (by first | rfl | assumption)) | (apply K.idx;first | exact YG.idxV rfl rfl rfl (by first | rfl | assumption) ae | exact YG.bs 0 rfl rfl rfl (by first | omega | assumption | (simp only [length_append,length_cons,length_nil];omega)) | exact YG.bs 1 rfl rfl rfl (by first | omega | assumption | (simp only [length_append,length_cons,length_nil];omega)) | exact YG.bs 2 rfl rfl rfl (by first | omega | assumption | (simp only [length_append,length_cons,length_nil];omega)) | exact YG.bs 3 rfl rfl rfl (by first | omega | assumption | (simp only [length_append,length_cons,length_nil];omega)) | exact YG.bs 4 rfl rfl rfl (by first | omega | assumption | (simp only [length_append,length_cons,length_nil];omega)) | exact YG.bs 5 rfl rfl rfl (by first | omega | assumption | (simp only [length_append,length_cons,length_nil];omega)) | exact YG.bs 6 rfl rfl rfl (by first | omega | assumption | (simp only [length_append,length_cons,length_nil];omega))) | (apply K.pn;first | exact YG.fldV rfl rfl (by first | rfl | assumption) | exact YG.sE rfl rfl (by first | rfl | assumption)) | exact YG.rv 1 rfl rfl (by first | rfl | assumption) (by first | rfl | assumption) | exact YG.mv | exact YG.tN | (apply K.bin;first | exact YG.go rfl | exact YG.pe rfl rfl ae | exact YG.ph rfl rfl | exact YG.pJ rfl rfl | exact YG.uY rfl rfl | exact YG.vq rfl rfl | exact YG.cat rfl rfl ae | exact YG.cat rfl rfl (by simp only [length_append,length_cons,length_nil];omega) | exact YG.dk rfl rfl ae | exact YG.add rfl rfl ae | exact YG.sub rfl rfl ae | exact YG.mul rfl rfl ae | exact YG.tA rfl rfl ae | exact YG.quo rfl rfl ae | exact YG.rem rfl rfl ae | exact YG.ny rfl rfl) | (apply K.pn;first | exact YG.sF rfl | exact YG.sD rfl) | (apply K.ld;first | exact YG.x7 rfl (by first | rfl | assumption) | exact YG.sV rfl rfl rfl) | (apply K.len;first | exact YG.pI rfl | exact YG.qu rfl | exact YG.sX rfl | exact YG.sY rfl | exact YG.lenA rfl) | (apply K.ye;first | exact YG.tg rfl | exact YG.tf rfl) | (apply K.pick;first | exact YG.vz rfl (by first | rfl | assumption) | exact YG.vy rfl (by first | rfl | assumption)) | (apply K.idx;first | exact YG.ou rfl rfl (by assumption) | exact YG.fp rfl rfl (by assumption) rfl | exact YG.fp rfl rfl (by assumption) ae | exact YG.qp rfl rfl ae) | exact YG.ext rfl rfl | exact YG.go rfl | (apply K.ym;first | exact YG.tz rfl rfl rfl ae | exact YG.tw rfl rfl ae | exact YG.tu rfl rfl ae | exact YG.mY 1 rfl rfl rfl (by first | rfl | assumption)) | exact YG.qs rfl rfl (by assumption) | exact YG.idxSC rfl rfl (by assumption) rfl | (apply K.jc;first | exact YG.mkfn0 | exact YG.jc) | exact YG.build rfl | exact YG.neg rfl ae | exact YG.qm rfl rfl | exact YG.xp rfl (by first | rfl | exact IntWalk.i64_in _ ae | exact IntWalk.u8_in _ ae | assumption) | exact YG.str rfl (by first | rfl | assumption)))) | (apply YQ.t;(· exact rfl);(· apply CA;(· exact rfl);(· first | exact rfl | assumption));(· (first | (apply K.ld;first | exact YG.x9 rfl rfl (by first | rfl | assumption) | exact YG.sW rfl rfl rfl rfl | exact YG.ldV rfl rfl (by first | rfl | assumption) (by first | rfl | assumption) (by first | rfl | assumption) | exact YG.x8 rfl rfl (by first | rfl | assumption) (by first | rfl | assumption) (by first | rfl | assumption)) | (apply K.idx;first | exact YG.idxV rfl rfl rfl (by first | rfl | assumption) ae | exact YG.bs 0 rfl rfl rfl (by first | omega | assumption | (simp only [length_append,length_cons,length_nil];omega)) | exact YG.bs 1 rfl rfl rfl (by first | omega | assumption | (simp only [length_append,length_cons,length_nil];omega)) | exact YG.bs 2 rfl rfl rfl (by first | omega | assumption | (simp only [length_append,length_cons,length_nil];omega)) | exact YG.bs 3 rfl rfl rfl (by first | omega | assumption | (simp only [length_append,length_cons,length_nil];omega)) | exact YG.bs 4 rfl rfl rfl (by first | omega | assumption | (simp only [length_append,length_cons,length_nil];omega)) | exact YG.bs 5 rfl rfl rfl (by first | omega | assumption | (simp only [length_append,length_cons,length_nil];omega)) | exact YG.bs 6 rfl rfl rfl (by first | omega | assumption | (simp only [length_append,length_cons,length_nil];omega))) | (apply K.pn;first | exact YG.fldV rfl rfl (by first | rfl | assumption) | exact YG.sE rfl rfl (by first | rfl | assumption)) | exact YG.rv 1 rfl rfl (by first | rfl | assumption) (by first | rfl | assumption) | exact YG.mv | exact YG.tN | (apply K.bin;first | exact YG.go rfl | exact YG.pe rfl rfl ae | exact YG.ph rfl rfl | exact YG.pJ rfl rfl | exact YG.uY rfl rfl | exact YG.vq rfl rfl | exact YG.cat rfl rfl ae | exact YG.cat rfl rfl (by simp only [length_append,length_cons,length_nil];omega) | exact YG.dk rfl rfl ae | exact YG.add rfl rfl ae | exact YG.sub rfl rfl ae | exact YG.mul rfl rfl ae | exact YG.tA rfl rfl ae | exact YG.quo rfl rfl ae | exact YG.rem rfl rfl ae | exact YG.ny rfl rfl) | (apply K.pn;first | exact YG.sF rfl | exact YG.sD rfl) | (apply K.ld;first | exact YG.x7 rfl (by first | rfl | assumption) | exact YG.sV rfl rfl rfl) | (apply K.len;first | exact YG.pI rfl | exact YG.qu rfl | exact YG.sX rfl | exact YG.sY rfl | exact YG.lenA rfl) | (apply K.ye;first | exact YG.tg rfl | exact YG.tf rfl) | (apply K.pick;first | exact YG.vz rfl (by first | rfl | assumption) | exact YG.vy rfl (by first | rfl | assumption)) | (apply K.idx;first | exact YG.ou rfl rfl (by assumption) | exact YG.fp rfl rfl (by assumption) rfl | exact YG.fp rfl rfl (by assumption) ae | exact YG.qp rfl rfl ae) | exact YG.ext rfl rfl | exact YG.go rfl | (apply K.ym;first | exact YG.tz rfl rfl rfl ae | exact YG.tw rfl rfl ae | exact YG.tu rfl rfl ae | exact YG.mY 1 rfl rfl rfl (by first | rfl | assumption)) | exact YG.qs rfl rfl (by assumption) | exact YG.idxSC rfl rfl (by assumption) rfl | (apply K.jc;first | exact YG.mkfn0 | exact YG.jc) | exact YG.build rfl | exact YG.neg rfl ae | exact YG.qm rfl rfl | exact YG.xp rfl (by first | rfl | exact IntWalk.i64_in _ ae | exact IntWalk.u8_in _ ae | assumption) | exact YG.str rfl (by first | rfl | assumption)))) | (apply YQ.f;(· exact rfl);(· apply Fh;(· exact rfl);(· first | exact rfl | assumption))))))) ?_))))
   refine N8 ?_;refine aj ?_;refine ab ?_;exact ⟨rfl,rfl,_,_,(Wk.cut (n:=2) (Nat.zero_le _) rfl).trans (Wk.aw al),qg++a1 z,_,_,rfl,rfl,by rw [length_append,hm];simp [bZ],by rw [bp];exact (tP qg (a1 z)).symm,bq.symm⟩
  ·clear hm bp;rintro _ _ ⟨qg,m,rows,rfl,rfl,hm,bp,Ej⟩;rw [kc,take_length] at Ej;rw [<-Ej] at hlen l2 |-
   have xQ:∀ (k:Nat) (f:Go.Sp.Fn),p.fns[k]?=some f->f.params.length<=1099511627776:=fun k f h=>DA f (mem_of_getElem? h)
   refine aD ?_;refine ab ?_;refine GW.range (p.fns.map au).length (fun k fr Γ=>∃ uu m rows,fr=[.aaF,.sl 1 (bW trees),.aaF,.aaF,.aaF,.aaF,.aaF,.aaF,.aaF,.vec 1 m,.aaF,.aaF,.aaF,.aaF,.loc 2 0,.aaF,.aaF,.aaF,.aaF,.aaF,.aaF,.aaF,.aaF,.aaF,.aaF,.aaF,.aaF,.aaF,.aaF,.aaF,.aaF,.aaF,.aaF,.aaF,.aaF,.aaF,.aaF,.aaF,.aaF,.aaF,.aaF,.aaF,.aaF,.aaF,.aaF,.aaF,.aaF,.aaF,.aaF,.aaF,.aaF,.aaF,.aaF,.sl 3 (p.fns.map au),.v (ii ((p.fns.map au).length:Int)),.v (ii (k:Nat)),.aaF,.aaF,.aaF,.aaF,.aaF,.aaF,.aaF,.aaF,.aaF,.aaF,.aaF,.aaF,.aaF,.aaF,.aaF,.aaF,.aaF,.aaF,.aaF,.aaF,.aaF,.aaF,.aaF,.aaF,.aaF,.aaF]/\Γ=[.box 34 (ar p),.vec 5 1 0 rows,.box 192 [.v (ik ex),.v (ik bk)]]/\rows.length=m/\rows=bZ uu/\uu=c8 (f1 tx inl) qg ((p.fns.zip trees).take k)) ?_ ae ?_ ?_ ?_
   ·exact ⟨_,_,Wk.aw al,qg,m,rows,rfl,rfl,hm,bp,rfl⟩
   ·rintro k _ _ ⟨uu,m,rows,rfl,rfl,_⟩;exact ⟨rfl,rfl,rfl⟩
   ·clear hm bp;rintro k _ _ aq ⟨uu,m,rows,rfl,rfl,hm,bp,Ek⟩;rw [WZ] at aq
    have mi:k < trees.length:=by omega
    have cP:p.fns[k]?=some p.fns[k]:=by simp [aq]
    have wZ:trees[k]?=some trees[k]:=by simp [mi]
    have pA:(p.fns.map au)[k]?=some (au p.fns[k]):=by rw [getElem?_map,cP];rfl
    have aal:=vC wZ
    have ZA:(p.fns.zip trees)[k]?=some (p.fns[k],trees[k]):=by rw [List.getElem?_zip_eq_some];exact ⟨cP,wZ⟩
    have bq:c8 (f1 tx inl) qg ((p.fns.zip trees).take (k+1))=uu++f1 tx inl (p.fns[k],trees[k]):=by rw [take_add_one,ZA,Ek];exact xl (f1 tx inl) _ _ _
    have hle:=xm (f1 tx inl) (p.fns.zip trees) (k+1) qg;rw [bq,length_append] at hle
    have W1:rows.length=uu.length:=by rw [bp];simp [bZ]
    obtain ⟨q1,q2,q3,q4⟩:=ht trees[k] (getElem_mem mi);have MP:=xQ k _ cP;generalize p.fns[k]=f at *;generalize trees[k]=t at *
    have hz:(f1 tx inl (f,t)).length=f.name.length+(bt f.params).length+(mr tx inl 0 t).length+9:=by unfold f1;simp;omega
    have hJ:=Lp f.params ae MP
    have Ka:∀ (l:List T) (a:T),a∈l->aK a<=ay l:=by
     intro l
     induction l with
     | nil=>intro a h;cases h
     | cons b l ih2 =>
      intro a h;rw [ay]
      rcases List.mem_cons.1 h with rfl | h
      ·omega
      ·have:=ih2 a h;omega
    have hB:=zi ex bk tx inl W t 0 ae (by have:=Go.Xp.b7 t.kids;have:=Go.Xp.dZ t;omega) ae fun a MD TV=>by
     have h1:=Ka _ a MD;have h2:=Go.Xp.dZ t;have h3:=tH MD;have h4:=oo t;rw [xY,Bool.and_eq_true,sT,all_eq_true] at q1;rw [qz] at q2;exact HQ ex bk tx inl W _ a (Nat.le_refl _) (q1.2 a MD) (jl q2.2 MD) ae (0+1) ae TV
    unfold au at pA;refine ab ?_;refine GW.draw (.q 0 (.q 1 (.q 2 (.q 3 (.q 4 (.q 5 (.q 6 (.q 10 (.q 11 (.q 12 (.q 13 (.q 14 (.a 7 (.q 8 (.q 9 (.a 15 (.q 16 (.q 17 (.a 18 (.q 19 .nil)))))))))))))))))))) (by kernel_rfl) (by kernel_rfl) ?_;refine aj ?_;refine az [] (hJ) ?_;refine az [] (hB) ?_;refine OA rfl rfl (GL.Cj (str:=f1 tx inl (f,t)) rfl rfl rfl (by first | rfl | assumption) rfl ae (GL.nil (aD (ey.mk (by repeat (first | exact iz.n | (apply iz.w;(· decide +kernel)) | (apply iz.y;(· first | (apply YQ.t;(· exact rfl);(· exact rfl);(· (first | (apply K.ld;first | exact YG.x9 rfl rfl (by first | rfl | assumption) | exact YG.sW rfl rfl rfl rfl | exact YG.ldV rfl rfl (by first | rfl | assumption) (by first | rfl | assumption) (by first | rfl | assumption) | exact YG.x8 rfl rfl (by first | rfl | assumption) (by first | rfl | assumption) (by first | rfl | assumption)) | (apply K.idx;first | exact YG.idxV rfl rfl rfl (by first | rfl | assumption) ae | exact YG.bs 0 rfl rfl rfl (by first | omega | assumption | (simp only [length_append,length_cons,length_nil];omega)) | exact YG.bs 1 rfl rfl rfl (by first | omega | assumption | (simp only [length_append,length_cons,length_nil];omega)) | exact YG.bs 2 rfl rfl rfl (by first | omega | assumption | (simp only [length_append,length_cons,length_nil];omega)) | exact YG.bs 3 rfl rfl rfl (by first | omega | assumption | (simp only [length_append,length_cons,length_nil];omega)) | exact YG.bs 4 rfl rfl rfl (by first | omega | assumption | (simp only [length_append,length_cons,length_nil];omega)) | exact YG.bs 5 rfl rfl rfl (by first | omega | assumption | (simp only [length_append,length_cons,length_nil];omega)) | exact YG.bs 6 rfl rfl rfl (by first | omega | assumption | (simp only [length_append,length_cons,length_nil];omega))) | (apply K.pn;first | exact YG.fldV rfl rfl (by first | rfl | assumption) | exact YG.sE rfl rfl (by first | rfl | assumption)) | exact YG.rv 1 rfl rfl (by first | rfl | assumption) (by first | rfl | assumption) | exact YG.mv | exact YG.tN | (apply K.bin;first | exact YG.go rfl | exact YG.pe rfl rfl ae | exact YG.ph rfl rfl | exact YG.pJ rfl rfl | exact YG.uY rfl rfl | exact YG.vq rfl rfl | exact YG.cat rfl rfl ae | exact YG.cat rfl rfl (by simp only [length_append,length_cons,length_nil];omega) | exact YG.dk rfl rfl ae | exact YG.add rfl rfl ae | exact YG.sub rfl rfl ae | exact YG.mul rfl rfl ae | exact YG.tA rfl rfl ae | exact YG.quo rfl rfl ae | exact YG.rem rfl rfl ae | exact YG.ny rfl rfl) | (apply K.pn;first | exact YG.sF rfl | exact YG.sD rfl) | (apply K.ld;first | exact YG.x7 rfl (by first | rfl | assumption) | exact YG.sV rfl rfl rfl) | (apply K.len;first | exact YG.pI rfl | exact YG.qu rfl | exact YG.sX rfl | exact YG.sY rfl | exact YG.lenA rfl) | (apply K.ye;first | exact YG.tg rfl | exact YG.tf rfl) | (apply K.pick;first | exact YG.vz rfl (by first | rfl | assumption) | exact YG.vy rfl (by first | rfl | assumption)) | (apply K.idx;first | exact YG.ou rfl rfl (by assumption) | exact YG.fp rfl rfl (by assumption) rfl | exact YG.fp rfl rfl (by assumption) ae | exact YG.qp rfl rfl ae) | exact YG.ext rfl rfl | exact YG.go rfl | (apply K.ym;first | exact YG.tz rfl rfl rfl ae | exact YG.tw rfl rfl ae | exact YG.tu rfl rfl ae | exact YG.mY 1 rfl rfl rfl (by first | rfl | assumption)) | exact YG.qs rfl rfl (by assumption) | exact YG.idxSC rfl rfl (by assumption) rfl | (apply K.jc;first | exact YG.mkfn0 | exact YG.jc) | exact YG.build rfl | exact YG.neg rfl ae | exact YG.qm rfl rfl | exact YG.xp rfl (by first | rfl | exact IntWalk.i64_in _ ae | exact IntWalk.u8_in _ ae | assumption) | exact YG.str rfl (by first | rfl | assumption)))) | (apply YQ.t;(· exact rfl);(· apply CA;(· exact rfl);(· first | exact rfl | assumption));(· (first | (apply K.ld;first | exact YG.x9 rfl rfl (by first | rfl | assumption) | exact YG.sW rfl rfl rfl rfl | exact YG.ldV rfl rfl (by first | rfl | assumption) (by first | rfl | assumption) (by first | rfl | assumption) | exact YG.x8 rfl rfl (by first | rfl | assumption) (by first | rfl | assumption) (by first | rfl | assumption)) | (apply K.idx;first | exact YG.idxV rfl rfl rfl (by first | rfl | assumption) ae | exact YG.bs 0 rfl rfl rfl (by first | omega | assumption | (simp only [length_append,length_cons,length_nil];omega)) | exact YG.bs 1 rfl rfl rfl (by first | omega | assumption | (simp only [length_append,length_cons,length_nil];omega)) | exact YG.bs 2 rfl rfl rfl (by first | omega | assumption | (simp only [length_append,length_cons,length_nil];omega)) | exact YG.bs 3 rfl rfl rfl (by first | omega | assumption | (simp only [length_append,length_cons,length_nil];omega)) | exact YG.bs 4 rfl rfl rfl (by first | omega | assumption | (simp only [length_append,length_cons,length_nil];omega)) | exact YG.bs 5 rfl rfl rfl (by first | omega | assumption | (simp only [length_append,length_cons,length_nil];omega)) | exact YG.bs 6 rfl rfl rfl (by first | omega | assumption | (simp only [length_append,length_cons,length_nil];omega))) | (apply K.pn;first | exact YG.fldV rfl rfl (by first | rfl | assumption) | exact YG.sE rfl rfl (by first | rfl | assumption)) | exact YG.rv 1 rfl rfl (by first | rfl | assumption) (by first | rfl | assumption) | exact YG.mv | exact YG.tN | (apply K.bin;first | exact YG.go rfl | exact YG.pe rfl rfl ae | exact YG.ph rfl rfl | exact YG.pJ rfl rfl | exact YG.uY rfl rfl | exact YG.vq rfl rfl | exact YG.cat rfl rfl ae | exact YG.cat rfl rfl (by simp only [length_append,length_cons,length_nil];omega) | exact YG.dk rfl rfl ae | exact YG.add rfl rfl ae | exact YG.sub rfl rfl ae | exact YG.mul rfl rfl ae | exact YG.tA rfl rfl ae | exact YG.quo rfl rfl ae | exact YG.rem rfl rfl ae | exact YG.ny rfl rfl) | (apply K.pn;first | exact YG.sF rfl | exact YG.sD rfl) | (apply K.ld;first | exact YG.x7 rfl (by first | rfl | assumption) | exact YG.sV rfl rfl rfl) | (apply K.len;first | exact YG.pI rfl | exact YG.qu rfl | exact YG.sX rfl | exact YG.sY rfl | exact YG.lenA rfl) | (apply K.ye;first | exact YG.tg rfl | exact YG.tf rfl) | (apply K.pick;first | exact YG.vz rfl (by first | rfl | assumption) | exact YG.vy rfl (by first | rfl | assumption)) | (apply K.idx;first | exact YG.ou rfl rfl (by assumption) | exact YG.fp rfl rfl (by assumption) rfl | exact YG.fp rfl rfl (by assumption) ae | exact YG.qp rfl rfl ae) | exact YG.ext rfl rfl | exact YG.go rfl | (apply K.ym;first | exact YG.tz rfl rfl rfl ae | exact YG.tw rfl rfl ae | exact YG.tu rfl rfl ae | exact YG.mY 1 rfl rfl rfl (by first | rfl | assumption)) | exact YG.qs rfl rfl (by assumption) | exact YG.idxSC rfl rfl (by assumption) rfl | (apply K.jc;first | exact YG.mkfn0 | exact YG.jc) | exact YG.build rfl | exact YG.neg rfl ae | exact YG.qm rfl rfl | exact YG.xp rfl (by first | rfl | exact IntWalk.i64_in _ ae | exact IntWalk.u8_in _ ae | assumption) | exact YG.str rfl (by first | rfl | assumption)))) | (apply YQ.f;(· exact rfl);(· apply Fh;(· exact rfl);(· first | exact rfl | assumption))))))) ?_))))
    refine N8 ?_;refine aj ?_;refine ab ?_;exact ⟨rfl,rfl,_,_,(Wk.cut (n:=3) (Nat.zero_le _) rfl).trans (Wk.aw al),uu++f1 tx inl (f,t),_,_,rfl,rfl,by rw [length_append,hm];simp [bZ],by rw [bp];exact (tP uu _).symm,bq.symm⟩
   ·clear hm bp;rintro _ _ ⟨uu,m,rows,rfl,rfl,hm,bp,Ek⟩;rw [WZ,show (p.fns.zip trees).take p.fns.length=p.fns.zip trees from List.take_of_length_le (by simp;omega)] at Ek;rw [<-Ek] at hlen |-;refine aD ?_;refine GW.wk (Wk.iv (t:=9) rfl rfl rfl hm) ?_
    have aab:rows=uu.map fun c=>[.v (.int .u8 (c.toNat:Int))]:=bp
    exact av
end Go.Xg
namespace Go.Xg
open Go.RowKit Go.Xw Go.Proofs
open Go.Im (eU qX qY sB lx mJ)
attribute [local irreducible] GW GL GO YG GC GA aS aW
theorem HS (a b:List ah) (ha:a.length<=1099511627776) (hb:b.length<=1099511627776):GF Tryz.prog 164 [strs a,strs b] [] (.v (.bool (eU (fun x y=>x==y) a b))) []:=by
 have kc:(a.map fun s=>[GV.v (sv s)]).length=a.length:=by simp
 have p8:(b.map fun s=>[GV.v (sv s)]).length=b.length:=by simp
 by_cases hl:a.length=b.length
 ·have hd:(((a.map fun s=>[GV.v (sv s)]).length:Int) != ((b.map fun s=>[GV.v (sv s)]).length:Int))=false:=by rw [kc,p8,hl];simp
  refine ai Tryz.func164 Tryz.ntmps164 ?_;refine GW.range (a.map fun s=>[GV.v (sv s)]).length (fun k fr Γ=>fr=[strs a,strs b,.aaF,.aaF,.aaF,.aaF,.aaF,.aaF,.aaF,.aaF,.aaF,.aaF,.v (ii ((a.map fun s=>[GV.v (sv s)]).length:Int)),.v (ii (k:Nat)),.aaF,.aaF,.aaF,.aaF,.aaF,.aaF,.aaF,.aaF,.aaF,.aaF,.aaF,.aaF]/\Γ=[]/\sB (fun x y=>x==y) a b k) ?_ ae ?_ ?_ ?_
  ·exact ⟨_,_,Wk.aw al,rfl,rfl,fun j x y h=>by omega⟩
  ·rintro k _ _ ⟨rfl,rfl,_⟩;exact ⟨rfl,rfl,rfl⟩
  ·rintro k _ _ aq ⟨rfl,rfl,ki⟩;rw [kc] at aq
   have mx:a[k]?=some a[k]:=by simp [aq]
   have pC:k < b.length:=by omega
   have n8:b[k]?=some b[k]:=by simp [pC]
   have FM:(a.map fun s=>[GV.v (sv s)])[k]?=some [GV.v (sv a[k])]:=by rw [getElem?_map,mx];rfl
   have FN:(b.map fun s=>[GV.v (sv s)])[k]?=some [GV.v (sv b[k])]:=by rw [getElem?_map,n8];rfl
   generalize a[k]=x at *;generalize b[k]=y at *
   cases iD:(x==y) with
   | true =>
    have hn:(x != y)=false:=by simp only [bne,iD];rfl
    have bH:(!(x==y))=false:=by rw [iD];rfl
    refine ab ?_;refine GW.draw (.q 0 (.q 1 (.q 2 (.q 3 (.q 4 (.q 5 (.q 6 (.q 7 (.q 8 .nil))))))))) (by kernel_rfl) (by kernel_rfl) ?_;refine aj ?_;refine ab ?_;exact ⟨rfl,rfl,_,_,Wk.aw al,rfl,rfl,lx mx n8 ki iD⟩
   | false =>
    have hn:(x != y)=true:=by simp only [bne,iD];rfl
    have bH:(!(x==y))=true:=by rw [iD];rfl
    rw [qY mx n8 (p:=fun x y=>x==y) iD];refine ab ?_;refine GW.draw (.q 0 (.q 1 (.q 2 (.q 3 (.q 4 (.q 5 (.q 6 (.q 7 (.q 8 .nil))))))))) (by kernel_rfl) (by kernel_rfl) ?_;refine aj ?_;exact av
  ·rintro _ _ ⟨rfl,rfl,ki⟩;rw [kc] at ki;rw [mJ hl ki];exact av
 ·have hd:(((a.map fun s=>[GV.v (sv s)]).length:Int) != ((b.map fun s=>[GV.v (sv s)]).length:Int))=true:=by rw [kc,p8];simpa using by omega
  rw [qX hl];refine ai Tryz.func164 Tryz.ntmps164 ?_;exact ao
theorem Ry (a b:List Int) (ha:a.length<=1099511627776) (hb:b.length<=1099511627776):GF Tryz.prog 208 [ints a,ints b] [] (.v (.bool (eU (fun x y=>x==y) a b))) []:=by
 have kc:(a.map fun s=>[GV.v (ii s)]).length=a.length:=by simp
 have p8:(b.map fun s=>[GV.v (ii s)]).length=b.length:=by simp
 by_cases hl:a.length=b.length
 ·have hd:(((a.map fun s=>[GV.v (ii s)]).length:Int) != ((b.map fun s=>[GV.v (ii s)]).length:Int))=false:=by rw [kc,p8,hl];simp
  refine ai Tryz.func208 Tryz.ntmps208 ?_;refine GW.range (a.map fun s=>[GV.v (ii s)]).length (fun k fr Γ=>fr=[ints a,ints b,.aaF,.aaF,.aaF,.aaF,.aaF,.aaF,.aaF,.aaF,.aaF,.aaF,.v (ii ((a.map fun s=>[GV.v (ii s)]).length:Int)),.v (ii (k:Nat)),.aaF,.aaF,.aaF,.aaF,.aaF,.aaF,.aaF,.aaF,.aaF,.aaF,.aaF,.aaF]/\Γ=[]/\sB (fun x y=>x==y) a b k) ?_ ae ?_ ?_ ?_
  ·exact ⟨_,_,Wk.aw al,rfl,rfl,fun j x y h=>by omega⟩
  ·rintro k _ _ ⟨rfl,rfl,_⟩;exact ⟨rfl,rfl,rfl⟩
  ·rintro k _ _ aq ⟨rfl,rfl,ki⟩;rw [kc] at aq
   have mx:a[k]?=some a[k]:=by simp [aq]
   have pC:k < b.length:=by omega
   have n8:b[k]?=some b[k]:=by simp [pC]
   have FM:(a.map fun s=>[GV.v (ii s)])[k]?=some [GV.v (ii a[k])]:=by rw [getElem?_map,mx];rfl
   have FN:(b.map fun s=>[GV.v (ii s)])[k]?=some [GV.v (ii b[k])]:=by rw [getElem?_map,n8];rfl
   generalize a[k]=x at *;generalize b[k]=y at *
   cases iD:(x==y) with
   | true =>
    have hn:(x != y)=false:=by simp only [bne,iD];rfl
    have bH:(!(x==y))=false:=by rw [iD];rfl
    refine ab ?_;refine GW.draw (.q 0 (.q 1 (.q 2 (.q 3 (.q 4 (.q 5 (.q 6 (.q 7 (.q 8 .nil))))))))) (by kernel_rfl) (by kernel_rfl) ?_;refine aj ?_;refine ab ?_;exact ⟨rfl,rfl,_,_,Wk.aw al,rfl,rfl,lx mx n8 ki iD⟩
   | false =>
    have hn:(x != y)=true:=by simp only [bne,iD];rfl
    have bH:(!(x==y))=true:=by rw [iD];rfl
    rw [qY mx n8 (p:=fun x y=>x==y) iD];refine ab ?_;refine GW.draw (.q 0 (.q 1 (.q 2 (.q 3 (.q 4 (.q 5 (.q 6 (.q 7 (.q 8 .nil))))))))) (by kernel_rfl) (by kernel_rfl) ?_;refine aj ?_;exact av
  ·rintro _ _ ⟨rfl,rfl,ki⟩;rw [kc] at ki;rw [mJ hl ki];exact av
 ·have hd:(((a.map fun s=>[GV.v (ii s)]).length:Int) != ((b.map fun s=>[GV.v (ii s)]).length:Int))=true:=by rw [kc,p8];simpa using by omega
  rw [qX hl];refine ai Tryz.func208 Tryz.ntmps208 ?_;exact ao
end Go.Xg
namespace Go.Xg
open Go.RowKit Go.Xw Go.Proofs
open Go.Xp (Nd)
open Go.Im (qQ km eU qX qY sB lx mJ)
attribute [local irreducible] GW GL GO YG GC GA aS aW
theorem PO (a b:Go.Sp.Fn) (ha:a.params.length<=1099511627776) (hb:b.params.length<=1099511627776):GF Tryz.prog 167 [.agg (au a),.agg (au b)] [] (.v (.bool (qQ a b))) []:=by
 have he:=HS a.params b.params ha hb;unfold qQ au
 cases h1:(a.name==b.name) with
 | false =>
  refine ai Tryz.func167 Tryz.ntmps167 ?_;exact ao
 | true =>
  cases h2:eU (fun x y=>x==y) a.params b.params with
  | false =>
   rw [h2] at he;refine ai Tryz.func167 Tryz.ntmps167 ?_;refine U [] (he) ?_;exact ao
  | true =>
   rw [h2] at he;refine ai Tryz.func167 Tryz.ntmps167 ?_;refine U [] (he) ?_;exact ao
theorem KR (a b:Nd) (ha:a.kids.length<=1099511627776) (hb:b.kids.length<=1099511627776):GF Tryz.prog 169 [.agg (ax a),.agg (ax b)] [] (.v (.bool (km a b))) []:=by
 have he:=Ry a.kids b.kids ha hb;unfold km ax;generalize eU (fun x y=>x==y) a.kids b.kids=q at *
 cases h1:(a.kind==b.kind) with
 | false =>
  refine ai Tryz.func169 Tryz.ntmps169 ?_;exact ao
 | true =>
  cases h2:(a.n==b.n) with
  | false =>
   refine ai Tryz.func169 Tryz.ntmps169 ?_;exact ao
  | true =>
   cases h3:(a.s==b.s) with
   | false =>
    refine ai Tryz.func169 Tryz.ntmps169 ?_;exact ao
   | true =>
    refine ai Tryz.func169 Tryz.ntmps169 ?_;refine U [] (he) ?_;exact ao
theorem Hb (a b:List Go.Sp.Fn) (ha:a.length<=1099511627776) (hb:b.length<=1099511627776) (ka:∀ x∈a,x.params.length<=1099511627776) (kb:∀ x∈b,x.params.length<=1099511627776) :
  GF Tryz.prog 166 [.sl 3 (a.map au),.sl 3 (b.map au),.v (.func (.func 167) #[] #[])] [] (.v (.bool (eU qQ a b))) []:=by
 have kc:(a.map au).length=a.length:=by simp
 have p8:(b.map au).length=b.length:=by simp
 by_cases hl:a.length=b.length
 ·have hd:(((a.map au).length:Int) != ((b.map au).length:Int))=false:=by rw [kc,p8,hl];simp
  refine ai Tryz.func166 Tryz.ntmps166 ?_;refine GW.range (a.map au).length (fun k fr Γ=>fr=[.aaF,.sl 3 (b.map au),.v (.func (.func 167) #[] #[]),.aaF,.aaF,.aaF,.aaF,.aaF,.aaF,.aaF,.aaF,.aaF,.aaF,.aaF,.aaF,.sl 3 (a.map au),.v (ii ((a.map au).length:Int)),.v (ii (k:Nat)),.aaF,.aaF,.aaF,.aaF,.aaF,.aaF,.aaF,.aaF,.aaF,.aaF,.aaF,.aaF,.aaF,.aaF]/\Γ=[]/\sB qQ a b k) ?_ ae ?_ ?_ ?_
  ·exact ⟨_,_,Wk.aw al,rfl,rfl,fun j x y h=>by omega⟩
  ·rintro k _ _ ⟨rfl,rfl,_⟩;exact ⟨rfl,rfl,rfl⟩
  ·rintro k _ _ aq ⟨rfl,rfl,ki⟩;rw [kc] at aq
   have mx:a[k]?=some a[k]:=by simp [aq]
   have pC:k < b.length:=by omega
   have n8:b[k]?=some b[k]:=by simp [pC]
   have FM:(a.map au)[k]?=some (au a[k]):=by rw [getElem?_map,mx];rfl
   have FN:(b.map au)[k]?=some (au b[k]):=by rw [getElem?_map,n8];rfl
   have hs:=PO a[k] b[k] (ka _ (getElem_mem aq)) (kb _ (getElem_mem pC));generalize a[k]=x at *;generalize b[k]=y at *;unfold au at FM FN hs
   cases iD:qQ x y with
   | true =>
    rw [iD] at hs;refine ab ?_;refine ig [] (hs) ?_;refine ab ?_;exact ⟨rfl,rfl,_,_,(Wk.cut (n:=0) (Nat.le_refl _) rfl).trans (Wk.aw al),rfl,rfl,lx mx n8 ki iD⟩
   | false =>
    rw [iD] at hs;rw [qY mx n8 (p:=qQ) iD];refine ab ?_;refine ig [] (hs) ?_;exact av
  ·rintro _ _ ⟨rfl,rfl,ki⟩;rw [kc] at ki;rw [mJ hl ki];exact av
 ·have hd:(((a.map au).length:Int) != ((b.map au).length:Int))=true:=by rw [kc,p8];simpa using by omega
  rw [qX hl];refine ai Tryz.func166 Tryz.ntmps166 ?_;exact ao
theorem Hc (a b:List Nd) (ha:a.length<=1099511627776) (hb:b.length<=1099511627776) (ka:∀ x∈a,x.kids.length<=1099511627776) (kb:∀ x∈b,x.kids.length<=1099511627776) :
  GF Tryz.prog 168 [.sl 5 (a.map ax),.sl 5 (b.map ax),.v (.func (.func 169) #[] #[])] [] (.v (.bool (eU km a b))) []:=by
 have kc:(a.map ax).length=a.length:=by simp
 have p8:(b.map ax).length=b.length:=by simp
 by_cases hl:a.length=b.length
 ·have hd:(((a.map ax).length:Int) != ((b.map ax).length:Int))=false:=by rw [kc,p8,hl];simp
  refine ai Tryz.func168 Tryz.ntmps168 ?_;refine GW.range (a.map ax).length (fun k fr Γ=>fr=[.aaF,.sl 5 (b.map ax),.v (.func (.func 169) #[] #[]),.aaF,.aaF,.aaF,.aaF,.aaF,.aaF,.aaF,.aaF,.aaF,.aaF,.aaF,.aaF,.sl 5 (a.map ax),.v (ii ((a.map ax).length:Int)),.v (ii (k:Nat)),.aaF,.aaF,.aaF,.aaF,.aaF,.aaF,.aaF,.aaF,.aaF,.aaF,.aaF,.aaF,.aaF,.aaF]/\Γ=[]/\sB km a b k) ?_ ae ?_ ?_ ?_
  ·exact ⟨_,_,Wk.aw al,rfl,rfl,fun j x y h=>by omega⟩
  ·rintro k _ _ ⟨rfl,rfl,_⟩;exact ⟨rfl,rfl,rfl⟩
  ·rintro k _ _ aq ⟨rfl,rfl,ki⟩;rw [kc] at aq
   have mx:a[k]?=some a[k]:=by simp [aq]
   have pC:k < b.length:=by omega
   have n8:b[k]?=some b[k]:=by simp [pC]
   have FM:(a.map ax)[k]?=some (ax a[k]):=by rw [getElem?_map,mx];rfl
   have FN:(b.map ax)[k]?=some (ax b[k]):=by rw [getElem?_map,n8];rfl
   have hs:=KR a[k] b[k] (ka _ (getElem_mem aq)) (kb _ (getElem_mem pC));generalize a[k]=x at *;generalize b[k]=y at *;unfold ax at FM FN hs
   cases iD:km x y with
   | true =>
    rw [iD] at hs;refine ab ?_;refine ig [] (hs) ?_;refine ab ?_;exact ⟨rfl,rfl,_,_,(Wk.cut (n:=0) (Nat.le_refl _) rfl).trans (Wk.aw al),rfl,rfl,lx mx n8 ki iD⟩
   | false =>
    rw [iD] at hs;rw [qY mx n8 (p:=km) iD];refine ab ?_;refine ig [] (hs) ?_;exact av
  ·rintro _ _ ⟨rfl,rfl,ki⟩;rw [kc] at ki;rw [mJ hl ki];exact av
 ·have hd:(((a.map ax).length:Int) != ((b.map ax).length:Int))=true:=by rw [kc,p8];simpa using by omega
  rw [qX hl];refine ai Tryz.func168 Tryz.ntmps168 ?_;exact ao
end Go.Xg
namespace Go.Xg
open Go.RowKit Go.Xw Go.Proofs
open Go.Xp (Nd Ar)
open Go.Im (zn eU qX qY sB lx mJ)
theorem VI (w:World) (s s':ah) (n n':Int):(Op.equalIn 10000 88 (.agg #[sv s,ii n]) (.agg #[sv s',ii n'])).run Tryz.prog w=.ok ((s==s')&&(n==n')) w:=by
 have hf:(Tryz.prog.fieldsOf 88).toList=[(Tryz.prog.fieldsOf 88)[0]!,(Tryz.prog.fieldsOf 88)[1]!]:=by kernel_rfl
 have a0:((Tryz.prog.fieldsOf 88)[0]!).type=9:=by kernel_rfl
 have a1:((Tryz.prog.fieldsOf 88)[1]!).type=3:=by kernel_rfl
 have b0:((Tryz.prog.fieldsOf 88)[0]!).offset=0:=by kernel_rfl
 have b1:((Tryz.prog.fieldsOf 88)[1]!).offset=1:=by kernel_rfl
 have c0:((Tryz.prog.fieldsOf 88)[0]!).name = "Name" := by kernel_rfl
 have c1:((Tryz.prog.fieldsOf 88)[1]!).name = "Size" := by kernel_rfl
 rw [show (10000:Nat)=9999+1 from rfl,run_equalIn_agg w 9999 _ _ _ (by kernel_rfl) (by kernel_rfl),hf];generalize (Tryz.prog.fieldsOf 88)[0]! = f0 at *;generalize (Tryz.prog.fieldsOf 88)[1]! = f1 at *
 have hs:Tryz.prog.underlying 9=some .string:=by kernel_rfl
 have hi:Tryz.prog.underlying 3=some (.int .i64):=by kernel_rfl
 have p0:∀ (a:ah) (b:Int) w,(part f0.type #[sv a,ii b] f0.offset).run Tryz.prog w=.ok (sv a) w:=fun a b w=>by
  rw [a0,b0];rfl
 have p1:∀ (a:ah) (b:Int) w,(part f1.type #[sv a,ii b] f1.offset).run Tryz.prog w=.ok (ii b) w:=fun a b w=>by
  rw [a1,b1];rfl
 have e0:∀ w,(Op.equalIn 9999 f0.type (sv s) (sv s')).run Tryz.prog w=.ok (s==s') w:=fun w=>by
  rw [a0,show (9999:Nat)=9998+1 from rfl];have:=run_equalIn_string (P:=Tryz.prog) w 9998 9 ⟨s.toArray⟩ ⟨s'.toArray⟩ hs;rw [show sv s=.string ⟨s.toArray⟩ from rfl,show sv s'=.string ⟨s'.toArray⟩ from rfl,this];simp [toList_mk]
 have e1:∀ w,(Op.equalIn 9999 f1.type (ii n) (ii n')).run Tryz.prog w=.ok (n==n') w:=fun w=>by
  rw [a1,show (9999:Nat)=9998+1 from rfl];exact run_equalIn_int (P:=Tryz.prog) w 9998 3 .i64 .i64 n n' hi
 have n0:f0.name ≠ "_" := by rw [c0];decide
 have n1:f1.name ≠ "_" := by rw [c1];decide
 rw [Op.eqFields,if_pos n0];simp only [Sem.run_bind,p0,Result.andThen_ok,e0]
 cases s==s' with
 | false=>simp
 | true =>
  simp only [Bool.not_true,Bool.false_eq_true,if_false,Bool.true_and];rw [Op.eqFields,if_pos n1];simp only [Sem.run_bind,p1,Result.andThen_ok,e1]
  cases n==n' with
  | false=>simp
  | true=>simp [Op.eqFields]
theorem YG.UM {fr:List GV} {Γ:List Ob} {x y:Operand} {t':TypeId} {s s':ah} {n n':Int} (hx:aP fr x=.agg [.v (sv s),.v (ii n)]) (hy:aP fr y=.agg [.v (sv s'),.v (ii n')]) :
  YG Tryz.prog (.binOp .neq 88 x y t') fr Γ (.v (.bool (!((s==s')&&(n==n'))))):=fun B K β w l hI hF=>by
 have two:∀ {v:Value} {a b:Value},Rel K β v (.agg [.v a,.v b])->v=.agg #[a,b]:=fun {v a b} h=>by
  cases h with
  | agg vs _ hl hh =>
   match vs,hl with
   | [u1,u2],_ =>
    have h1:=Rel.dR (hh 0 u1 (.v a) rfl rfl);have h2:=Rel.dR (hh 1 u2 (.v b) rfl rfl);rw [h1,h2]
 have rm:=two (by rw [<-hx];exact hF.ev x);have Uu:=two (by rw [<-hy];exact hF.ev y);refine ⟨_,fun d ty pos af=>?_,.v _⟩;have hg:=run_eqGuard_agg (P:=Tryz.prog) w .neq 88 x y #[sv s,ii n] #[sv s',ii n'] (by kernel_rfl);have hn:=run_neq_struct (P:=Tryz.prog) w 88 #[sv s,ii n] #[sv s',ii n'];rw [VI,Result.andThen_ok] at hn;simp [execOp,rm,Uu,hg,hn]
attribute [local irreducible] GW GL GO YG GC GA aS aW
theorem Rw (a b:List Ar) (ha:a.length<=1099511627776) (hb:b.length<=1099511627776):GF Tryz.prog 165 [(.sl 2 (a.map fun s=>aB s)),(.sl 2 (b.map fun s=>aB s))] [] (.v (.bool (eU zn a b))) []:=by
 have kc:(a.map fun s=>aB s).length=a.length:=by simp
 have p8:(b.map fun s=>aB s).length=b.length:=by simp
 by_cases hl:a.length=b.length
 ·have hd:(((a.map fun s=>aB s).length:Int) != ((b.map fun s=>aB s).length:Int))=false:=by rw [kc,p8,hl];simp
  refine ai Tryz.func165 Tryz.ntmps165 ?_;refine GW.range (a.map fun s=>aB s).length (fun k fr Γ=>fr=[(.sl 2 (a.map fun s=>aB s)),(.sl 2 (b.map fun s=>aB s)),.aaF,.aaF,.aaF,.aaF,.aaF,.aaF,.aaF,.aaF,.aaF,.aaF,.v (ii ((a.map fun s=>aB s).length:Int)),.v (ii (k:Nat)),.aaF,.aaF,.aaF,.aaF,.aaF,.aaF,.aaF,.aaF,.aaF,.aaF,.aaF,.aaF]/\Γ=[]/\sB zn a b k) ?_ ae ?_ ?_ ?_
  ·exact ⟨_,_,Wk.aw al,rfl,rfl,fun j x y h=>by omega⟩
  ·rintro k _ _ ⟨rfl,rfl,_⟩;exact ⟨rfl,rfl,rfl⟩
  ·rintro k _ _ aq ⟨rfl,rfl,ki⟩;rw [kc] at aq
   have mx:a[k]?=some a[k]:=by simp [aq]
   have pC:k < b.length:=by omega
   have n8:b[k]?=some b[k]:=by simp [pC]
   have FM:(a.map fun s=>aB s)[k]?=some (aB a[k]):=by rw [getElem?_map,mx];rfl
   have FN:(b.map fun s=>aB s)[k]?=some (aB b[k]):=by rw [getElem?_map,n8];rfl
   generalize a[k]=x at *;generalize b[k]=y at *;unfold aB at FM FN
   cases iD:zn x y with
   | true =>
    have bH:(!((x.name==y.name)&&(x.size==y.size)))=false:=by rw [show ((x.name==y.name)&&(x.size==y.size))=zn x y from rfl,iD];rfl
    refine ab ?_;refine GW.draw (.q 0 (.q 1 (.q 2 (.q 3 (.q 4 (.q 5 (.q 6 (.q 7 (.q 8 .nil))))))))) (by kernel_rfl) (by kernel_rfl) ?_;refine aj ?_;apply OP
    ·exact rfl
    ·intro Γ;exact YG.UM rfl rfl
    refine Rp ?_;refine aj ?_;refine ab ?_;exact ⟨rfl,rfl,_,_,Wk.aw al,rfl,rfl,lx mx n8 ki iD⟩
   | false =>
    have bH:(!((x.name==y.name)&&(x.size==y.size)))=true:=by rw [show ((x.name==y.name)&&(x.size==y.size))=zn x y from rfl,iD];rfl
    rw [qY mx n8 (p:=zn) iD];refine ab ?_;refine GW.draw (.q 0 (.q 1 (.q 2 (.q 3 (.q 4 (.q 5 (.q 6 (.q 7 (.q 8 .nil))))))))) (by kernel_rfl) (by kernel_rfl) ?_;refine aj ?_;apply OP
    ·exact rfl
    ·intro Γ;exact YG.UM rfl rfl
    refine Rp ?_;refine aj ?_;exact av
  ·rintro _ _ ⟨rfl,rfl,ki⟩;rw [kc] at ki;rw [mJ hl ki];exact av
 ·have hd:(((a.map fun s=>aB s).length:Int) != ((b.map fun s=>aB s).length:Int))=true:=by rw [kc,p8];simpa using by omega
  rw [qX hl];refine ai Tryz.func165 Tryz.ntmps165 ?_;exact ao
end Go.Xg
set_option maxHeartbeats 1000000
namespace Go.Xg
open Go.RowKit Go.Xw Go.Proofs
open Go.Xp (Tok Nd T bb one levels fY dF dY dh cY nU)
open Go.Sp Go.Im
attribute [local irreducible] GW GL GO YG GC GA aS aW
structure HT (f:Nat):Prop where
 expr:∀ d p t q x,p.ok->d+f<=1099511627776->iE f (.expr d) p=some (t,q)->GF Tryz.prog 288 [.loc 0 0,.v (ii (d:Nat))] [bD p x] (qT t) [bD q x]
 level:∀ k d p t q x,p.ok->k<=9->d+f<=1099511627776->iE f (.level k d) p=some (t,q)->GF Tryz.prog 299 [.loc 0 0,.v (ii (k:Nat)),.v (ii (d:Nat))] [bD p x] (qT t) [bD q x]
 operand:∀ d p t q x,p.ok->d+f<=1099511627776->iE f (.operand d) p=some (t,q)->GF Tryz.prog 304 [.loc 0 0,.v (ii (d:Nat))] [bD p x] (qT t) [bD q x]
 exprs:∀ d p l q x,p.ok->d+f<=1099511627776->iA f d [] p=some (l,q)->GF Tryz.prog 306 [.loc 0 0,.v (ii (d:Nat))] [bD p x] (.sl 1 (jL l)) [bD q x]
theorem G8:GF Tryz.prog 271 [.v (ii 0),.v (ii 0),.v (sv []),.sl 1 []] [] (qT T.zero) []:=ej 0 0 [] [] [] rfl
theorem Tl {f:Nat} (C:HT f) (d:Nat) (p:RS) (t:T) (q:RS) (x:PX) (hp:p.ok) (hd:d+(f+1)<=1099511627776) (h:iE (f+1) (.expr d) p=some (t,q)) :
  GF Tryz.prog 288 [.loc 0 0,.v (ii (d:Nat))] [bD p x] (qT t) [bD q x]:=by
 rw [iE] at h;have dz:=vX p d x hp
 by_cases hc:(bE p d).code=0
 ·have df:((bE p d).code==0)=true:=by simpa using hc
  rw [if_pos hc] at h;rw [df] at dz;rw [nY hc] at h dz;have hl:=C.level 0 (d+1) p t q x hp ae ae h;refine ai Tryz.func288 Tryz.ntmps288 ?_;refine U [0] (dz) ?_;refine U [0] (hl) ?_;exact ao
 ·have df:((bE p d).code==0)=false:=by simpa using hc
  rw [if_neg hc] at h;rw [df] at dz;cases h;refine ai Tryz.func288 Tryz.ntmps288 ?_;refine U [0] (dz) ?_;refine U [] (G8) ?_;exact ao
theorem Sg {f:Nat} (C:∀ f',f'<=f->HT f') (k d:Nat) (p:RS) (t:T) (q:RS) (x:PX) (hp:p.ok) (hk:k<=9) (hd:d+(f+1)<=1099511627776) (h:iE (f+1) (.level k d) p=some (t,q)) :
  GF Tryz.prog 299 [.loc 0 0,.v (ii (k:Nat)),.v (ii (d:Nat))] [bD p x] (qT t) [bD q x]:=by
 rw [iE] at h
 by_cases Bz:k=9
 ·subst Bz;rw [if_pos rfl] at h;have ho:=(C f (Nat.le_refl _)).operand d p t q x hp ae h;refine ai Tryz.func299 Tryz.ntmps299 ?_;refine U [] (sZ) ?_;refine U [0] (ho) ?_;exact ao
 ·rw [if_neg Bz] at h
  have XZ:((k:Int)==9)=false:=by simp;omega
  cases he:iE f (.level (k+1) d) p with
  | none=>rw [he] at h;cases h
  | some r =>
   obtain ⟨out,p1⟩:=r;rw [he] at h;simp only at h;have ji:=((iF f).1 _ _ _ _ hp he).ok hp;have hl:=(C f (Nat.le_refl _)).level (k+1) d p out p1 x hp ae ae he;refine ai Tryz.func299 Tryz.ntmps299 ?_;refine U [] (sZ) ?_;refine U [0] (hl) ?_;refine GW.loop (fun z:Nat × T × RS=>z.1) (fun z fr Γ=>fr=[.loc 0 0,.v (ii (k:Nat)),.v (ii (d:Nat)),.aaF,.aaF,.aaF,.aaF,qT z.2.1,.aaF,.aaF,.aaF,.aaF,.aaF,.aaF,.aaF,.aaF,.aaF,.aaF,.aaF,.aaF,.aaF,.aaF,.aaF,.aaF,.aaF,.aaF,.aaF,.aaF,.aaF,.aaF,.aaF,.aaF,.aaF,.aaF,.aaF,.aaF,.aaF,.aaF,.aaF,.aaF,.aaF,.aaF,.aaF,.aaF,.aaF,.aaF,.aaF,.aaF,.aaF,.aaF,.aaF,.aaF,.aaF,.aaF,.aaF,.aaF,.aaF,.aaF,.aaF,.aaF,.aaF,.aaF,.aaF,.aaF]/\Γ=[bD z.2.2 x]/\z.2.2.ok/\z.1<=f/\iE z.1 (.loop k d z.2.1) z.2.2=some (t,q)) (f,out,p1) ?_ ?_
   ·exact ⟨_,_,Wk.aw al,rfl,rfl,ji,Nat.le_refl _,h⟩
   ·clear h he hl;rintro ⟨g,out,p⟩ _ _ ⟨rfl,rfl,hp,MJ,h⟩;simp only at hp MJ h
    cases g with
    | zero=>simp [iE] at h
    | succ g =>
    rw [iE] at h
    have hk:k < 9:=by omega
    have ht:=qU p 0 x hp (by decide)
    by_cases hc:p.code=0
    ·have df:(p.code==0)=true:=by simpa using hc
     by_cases h3:(tok p 0).kind=3
     ·have jI:((tok p 0).kind==3)=true:=by simpa using h3
      have QR:=IZ hk;have QN:=jW (levels.getD k []) (tok p 0).s (CH k hk)
      by_cases hit:(levels.getD k []).contains (tok p 0).s=true
      ·rw [if_pos ⟨hc,h3,hit⟩] at h;rw [hit] at QN;have aq:p.i < p.l.length:=ry (k:=0) ae;have cB:=hp.2
       cases hb:iE g (.level (k+1) d) p.next with
       | none=>rw [hb] at h;cases h
       | some r =>
        obtain ⟨b,p2⟩:=r;rw [hb] at h;simp only at h;have cZ:=(dj aq).ok hp;have dA:=((iF g).1 _ _ _ _ cZ hb).ok cZ
        have jh:=(C g ae).level (k+1) d p.next b p2 x cZ ae ae hb
        generalize tok p 0=tk at *;have gT:=ej 6 tk.at_ tk.s [out,b] [[qT out],[qT b]] (fV _);refine ab ?_;refine GW.draw (.q 0 (.q 1 (.q 2 (.q 3 (.q 4 (.q 5 (.q 6 (.a 7 (.q 8 (.q 9 (.q 10 (.q 11 (.q 13 (.q 16 (.a 12 (.q 14 (.q 15 (.a 17 (.q 18 (.a 19 (.q 20 .nil))))))))))))))))))))) (by kernel_rfl) (by kernel_rfl) ?_;refine aj ?_;refine bu [0] (ht) ?_;refine bu [] (sZ) ?_;refine bu [0] (ht) ?_;refine bu [] (QN) ?_;refine ab ?_;refine U [0] (ht) ?_;refine GW.draw (.q 0 (.q 1 (.q 2 (.q 3 (.q 4 (.q 5 (.q 6 (.q 7 (.q 8 (.a 9 (.a 10 (.a 11 (.q 12 .nil))))))))))))) (by kernel_rfl) (by kernel_rfl) ?_;refine aj ?_;refine az [0] (jh) ?_;refine eC ?_;refine aj ?_;refine az [] (gT) ?_;refine ab ?_;exact ⟨(g,one 6 tk.at_ tk.s [out,b],p2),⟨_,_,(Wk.cut (n:=1) (Nat.le_of_ble_eq_true rfl) rfl).trans (Wk.aw al),rfl,rfl,dA,by omega,h⟩,by simp⟩
      ·have hit:(levels.getD k []).contains (tok p 0).s=false:=by simpa using hit
       rw [if_neg (by rw [hit];simp)] at h
       obtain ⟨rfl,rfl⟩:out=t/\p=q:=by simpa using h
       rw [hit] at QN;generalize tok p 0=tk at *;refine ab ?_;refine GW.draw (.q 0 (.q 1 (.q 2 (.q 3 (.q 4 (.q 5 (.q 6 (.a 7 (.q 8 (.q 9 (.q 10 (.q 11 (.q 13 (.q 16 (.a 12 (.q 14 (.q 15 (.a 17 (.q 18 (.a 19 (.q 20 .nil))))))))))))))))))))) (by kernel_rfl) (by kernel_rfl) ?_;refine aj ?_;refine bu [0] (ht) ?_;refine bu [] (sZ) ?_;refine bu [0] (ht) ?_;refine bu [] (QN) ?_;refine ab ?_;refine aU ?_;exact av
     ·have jI:((tok p 0).kind==3)=false:=by simpa using h3
      rw [if_neg (fun hh=>h3 hh.2.1)] at h
      obtain ⟨rfl,rfl⟩:out=t/\p=q:=by simpa using h
      generalize tok p 0=tk at *;refine ab ?_;refine GW.draw (.q 0 (.q 1 (.q 2 (.q 3 (.q 4 (.q 5 (.q 6 (.a 7 (.q 8 (.q 9 (.q 10 (.q 11 (.q 13 (.q 16 (.a 12 (.q 14 (.q 15 (.a 17 (.q 18 (.a 19 (.q 20 .nil))))))))))))))))))))) (by kernel_rfl) (by kernel_rfl) ?_;refine aj ?_;refine bu [0] (ht) ?_;refine ab ?_;refine aU ?_;exact av
    ·have df:(p.code==0)=false:=by simpa using hc
     rw [if_neg (fun hh=>hc hh.1)] at h
     obtain ⟨rfl,rfl⟩:out=t/\p=q:=by simpa using h
     refine ab ?_;refine GW.draw (.q 0 (.q 1 (.q 2 (.q 3 (.q 4 (.q 5 (.q 6 (.a 7 (.q 8 (.q 9 (.q 10 (.q 11 (.q 13 (.q 16 (.a 12 (.q 14 (.q 15 (.a 17 (.q 18 (.a 19 (.q 20 .nil))))))))))))))))))))) (by kernel_rfl) (by kernel_rfl) ?_;refine aj ?_;refine ab ?_;refine aU ?_;exact av
theorem RV {f:Nat} (C:∀ f',f'<=f->HT f') (d:Nat) (p:RS) (l:List T) (q:RS) (x:PX) (hp:p.ok) (hd:d+(f+1)<=1099511627776) (h:iA (f+1) d [] p=some (l,q)) :
  GF Tryz.prog 306 [.loc 0 0,.v (ii (d:Nat))] [bD p x] (.sl 1 (jL l)) [bD q x]:=by
 refine ai Tryz.func306 Tryz.ntmps306 ?_;refine GW.wk (Wk.CN (t:=5) (a:=none) (c:=0) 152 1 rfl) ?_;refine GW.loop (fun z:Nat × List T × RS=>z.1) (fun z fr Γ=>∃ n rows,fr=[.loc 0 0,.v (ii (d:Nat)),.aaF,.aaF,.aaF,.vec 1 n,.aaF,.aaF,.aaF,.aaF,.aaF,.aaF,.aaF,.aaF,.aaF,.aaF,.aaF,.aaF,.aaF,.aaF,.aaF,.aaF,.aaF,.aaF,.aaF,.aaF,.aaF,.aaF,.aaF,.aaF,.aaF,.aaF]/\Γ=[bD z.2.2 x,.vec 152 1 0 rows]/\rows.length=n/\rows=jL z.2.1/\n+z.1<=f+1/\z.2.2.ok/\iA z.1 d z.2.1 z.2.2=some (l,q)) (f+1,[],p) ?_ ?_
 ·exact ⟨_,_,Wk.aw al,0,[],rfl,rfl,rfl,rfl,by simp,hp,h⟩
 ·clear h hp;rintro ⟨g,acc,p⟩ _ _ ⟨n,rows,rfl,rfl,hn,bp,zC,hp,h⟩;simp only at bp zC hp h
  cases g with
  | zero=>simp [iA] at h
  | succ g =>
  rw [iA] at h;have hi:=jx p 0 [41] x hp (by decide)
  have kE:acc.length=n:=by rw [<-hn,bp,mc]
  by_cases hc:p.code=0
  ·have df:(p.code==0)=true:=by simpa using hc
   cases hs:is p 0 [41] with
   | true =>
    rw [hs] at hi;rw [if_neg (fun hh=>by have:=hh.2;rw [hs] at this;cases this)] at h
    obtain ⟨rfl,rfl⟩:acc=l/\want p [41]=q:=by simpa using h
    have hw:=eD p [41] x hp;subst bp;refine ab ?_;refine U [0] (hi) ?_;refine aU ?_;refine ab ?_;refine bC ?_;refine ab ?_;refine U [0] (hw) ?_;refine GW.wk (Wk.iv (t:=4) rfl rfl rfl hn) ?_;exact ao
   | false =>
    rw [hs] at hi;rw [if_pos ⟨hc,hs⟩] at h
    by_cases h0:acc.length=0
    ·rw [if_pos h0] at h
     have sH:decide ((0:Int) < (n:Int))=false:=by simpa using by omega
     cases hb:iE g (.expr d) p with
     | none=>rw [hb] at h;cases h
     | some r =>
      obtain ⟨a,p2⟩:=r;rw [hb] at h;simp only at h;have dA:=((iF g).1 _ _ _ _ hp hb).ok hp;have he:=(C g ae).expr d p a p2 x hp ae hb;refine ab ?_;refine U [0] (hi) ?_;refine U [0] (he) ?_;refine ea ?_;refine ab ?_;exact ⟨(g,acc++[a],p2),⟨_,_,Wk.aw al,_,_,rfl,rfl,by simp [hn],by rw [vw,bp],by show n+1+g<=f+1;omega,dA,h⟩,by simp⟩
    ·rw [if_neg h0] at h
     have sH:decide ((0:Int) < (n:Int))=true:=by simpa using by omega
     have lB:=(bX hp [44]).ok hp;have hw:=eD p [44] x hp
     cases hb:iE g (.expr d) (want p [44]) with
     | none=>rw [hb] at h;cases h
     | some r =>
      obtain ⟨a,p2⟩:=r;rw [hb] at h;simp only at h;have dA:=((iF g).1 _ _ _ _ lB hb).ok lB;have he:=(C g ae).expr d _ a p2 x lB ae hb;refine ab ?_;refine U [0] (hi) ?_;refine bC ?_;refine ab ?_;refine U [0] (hw) ?_;refine U [0] (he) ?_;refine ea ?_;refine ab ?_;exact ⟨(g,acc++[a],p2),⟨_,_,Wk.aw al,_,_,rfl,rfl,by simp [hn],by rw [vw,bp],by show n+1+g<=f+1;omega,dA,h⟩,by simp⟩
  ·have df:(p.code==0)=false:=by simpa using hc
   rw [if_neg (fun hh=>hc hh.1)] at h
   obtain ⟨rfl,rfl⟩:acc=l/\want p [41]=q:=by simpa using h
   have hw:=eD p [41] x hp;subst bp;refine ab ?_;refine aU ?_;refine ab ?_;refine bC ?_;refine ab ?_;refine U [0] (hw) ?_;refine GW.wk (Wk.iv (t:=4) rfl rfl rfl hn) ?_;exact ao
end Go.Xg
namespace Go.Xg
open Go.RowKit Go.Xw Go.Proofs
open Go.Xp (Tok Nd T bb one levels fY dF dY dh cY nU)
open Go.Sp Go.Im
attribute [local irreducible] GW GL GO YG GC GA aS aW
theorem NB {f:Nat} (C:HT f) (d:Nat) (p:RS) (t:T) (q:RS) (x:PX) (hp:p.ok) (hd:d+(f+1)<=1099511627776) (h:iE (f+1) (.operand d) p=some (t,q)) :
  GF Tryz.prog 304 [.loc 0 0,.v (ii (d:Nat))] [bD p x] (qT t) [bD q x]:=by
 rw [iE] at h;have dz:=vX p d x hp;have ht:=qU p 0 x hp (by decide)
 by_cases hc:(bE p d).code=0
 case neg =>
  have df:((bE p d).code==0)=false:=by simpa using hc
  rw [if_neg hc] at h;rw [df] at dz;cases h;refine ai Tryz.func304 Tryz.ntmps304 ?_;refine U [0] (ht) ?_;refine U [0] (dz) ?_;refine U [] (G8) ?_;exact ao
 case pos =>
 have df:((bE p d).code==0)=true:=by simpa using hc
 rw [if_pos hc] at h;rw [df,nY hc] at dz;clear hc df;have h1:=jx p 0 [45] x hp (by decide);have h2:=jx p 0 [33] x hp (by decide);have h3:=jx p 0 [126] x hp (by decide);have cB:=hp.2;have Dz:=hp.1
 cases ff:is p 0 [45] with
 | true =>
  rw [ff] at h1;rw [if_pos (.inl ff)] at h;have aq:p.i < p.l.length:=is_lt (k:=0) ff;have cZ:=(dj aq).ok hp
  cases hb:iE f (.operand (d+1)) p.next with
  | none=>rw [hb] at h;cases h
  | some r =>
   obtain ⟨b,p2⟩:=r;rw [hb] at h;cases h
   have xP:=C.operand (d+1) p.next b _ x cZ ae hb
   generalize tok p 0=tk at *;have gT:=ej 5 tk.at_ tk.s [b] [[qT b]] (fV _);refine ai Tryz.func304 Tryz.ntmps304 ?_;refine U [0] (ht) ?_;refine U [0] (dz) ?_;refine U [0] (h1) ?_;refine GW.draw (.q 0 (.q 1 (.q 2 (.q 3 (.q 4 (.q 5 (.q 6 (.a 7 (.a 8 (.a 9 (.q 10 .nil))))))))))) (by kernel_rfl) (by kernel_rfl) ?_;refine aj ?_;refine az [0] (xP) ?_;refine eC ?_;refine aj ?_;refine az [] (gT) ?_;exact av
 | false =>
 rw [ff] at h1
 cases gI:is p 0 [33] with
 | true =>
  rw [gI] at h2;rw [if_pos (.inr (.inl gI))] at h;have aq:p.i < p.l.length:=is_lt (k:=0) gI;have cZ:=(dj aq).ok hp
  cases hb:iE f (.operand (d+1)) p.next with
  | none=>rw [hb] at h;cases h
  | some r =>
   obtain ⟨b,p2⟩:=r;rw [hb] at h;cases h
   have xP:=C.operand (d+1) p.next b _ x cZ ae hb
   generalize tok p 0=tk at *;have gT:=ej 5 tk.at_ tk.s [b] [[qT b]] (fV _);refine ai Tryz.func304 Tryz.ntmps304 ?_;refine U [0] (ht) ?_;refine U [0] (dz) ?_;refine U [0] (h1) ?_;refine U [0] (h2) ?_;refine GW.draw (.q 0 (.q 1 (.q 2 (.q 3 (.q 4 (.q 5 (.q 6 (.a 7 (.a 8 (.a 9 (.q 10 .nil))))))))))) (by kernel_rfl) (by kernel_rfl) ?_;refine aj ?_;refine az [0] (xP) ?_;refine eC ?_;refine aj ?_;refine az [] (gT) ?_;exact av
 | false =>
 rw [gI] at h2
 cases nJ:is p 0 [126] with
 | true =>
  rw [nJ] at h3;rw [if_pos (.inr (.inr nJ))] at h;have aq:p.i < p.l.length:=is_lt (k:=0) nJ;have cZ:=(dj aq).ok hp
  cases hb:iE f (.operand (d+1)) p.next with
  | none=>rw [hb] at h;cases h
  | some r =>
   obtain ⟨b,p2⟩:=r;rw [hb] at h;cases h
   have xP:=C.operand (d+1) p.next b _ x cZ ae hb
   generalize tok p 0=tk at *;have gT:=ej 5 tk.at_ tk.s [b] [[qT b]] (fV _);refine ai Tryz.func304 Tryz.ntmps304 ?_;refine U [0] (ht) ?_;refine U [0] (dz) ?_;refine U [0] (h1) ?_;refine U [0] (h2) ?_;refine U [0] (h3) ?_;refine GW.draw (.q 0 (.q 1 (.q 2 (.q 3 (.q 4 (.q 5 (.q 6 (.a 7 (.a 8 (.a 9 (.q 10 .nil))))))))))) (by kernel_rfl) (by kernel_rfl) ?_;refine aj ?_;refine az [0] (xP) ?_;refine eC ?_;refine aj ?_;refine az [] (gT) ?_;exact av
 | false =>
 rw [nJ] at h3;rw [if_neg (by rw [ff,gI,nJ];decide)] at h
 by_cases hk:(tok p 0).kind=1
 case pos =>
  rw [if_pos hk] at h;have aq:p.i < p.l.length:=ry (k:=0) ae
  have kY:((tok p 0).kind==1)=true:=by simpa using hk
  cases h;generalize tok p 0=tk at *;have gT:=Nw 1 tk.at_ [] [];refine ai Tryz.func304 Tryz.ntmps304 ?_;refine U [0] (ht) ?_;refine U [0] (dz) ?_;refine U [0] (h1) ?_;refine U [0] (h2) ?_;refine U [0] (h3) ?_;refine U [] (gT) ?_;refine GW.wk (Wk.freeze (i:=2) rfl rfl rfl (Nat.le_of_ble_eq_true rfl)) ?_;exact ao
 case neg =>
 rw [if_neg hk] at h
 have kY:((tok p 0).kind==1)=false:=by simpa using hk
 have h4:=jx p 0 [40] x hp (by decide)
 cases w6:is p 0 [40] with
 | true =>
  rw [w6] at h4;rw [if_pos w6] at h;have aq:p.i < p.l.length:=is_lt (k:=0) w6;have cZ:=(dj aq).ok hp
  cases hb:iE f (.expr (d+1)) p.next with
  | none=>rw [hb] at h;cases h
  | some r =>
   obtain ⟨b,p2⟩:=r;rw [hb] at h;cases h;have dA:=((iF f).1 _ _ _ _ cZ hb).ok cZ
   have xP:=C.expr (d+1) p.next _ p2 x cZ ae hb
   have hw:=eD p2 [41] x dA;generalize tok p 0=tk at *;refine ai Tryz.func304 Tryz.ntmps304 ?_;refine U [0] (ht) ?_;refine U [0] (dz) ?_;refine U [0] (h1) ?_;refine U [0] (h2) ?_;refine U [0] (h3) ?_;refine U [0] (h4) ?_;refine U [0] (xP) ?_;refine bC ?_;refine ab ?_;refine U [0] (hw) ?_;exact ao
 | false =>
 rw [w6] at h4;rw [if_neg (by rw [w6];decide)] at h;have hn:=qw p x hp;have cZ:=(gy hp).ok hp
 by_cases gH:(be p).code=0
 case neg =>
  rw [if_neg gH] at h
  have XQ:((be p).code != 0)=true:=by simpa using gH
  cases h;generalize tok p 0=tk at *;generalize be p=p1 at *;have gT:=ej 2 tk.at_ tk.s [] [] rfl;refine ai Tryz.func304 Tryz.ntmps304 ?_;refine U [0] (ht) ?_;refine U [0] (dz) ?_;refine U [0] (h1) ?_;refine U [0] (h2) ?_;refine U [0] (h3) ?_;refine U [0] (h4) ?_;refine U [0] (hn) ?_;refine U [] (gT) ?_;exact ao
 case pos =>
 rw [if_pos gH] at h
 have XQ:((be p).code != 0)=false:=by simpa using gH
 generalize be p=p1 at *;generalize tok p 0=tk at *;have h5:=jx p1 0 [91] x cZ (by decide);have aar:=cZ.2;have aaq:=cZ.1
 cases hs5:is p1 0 [91] with
 | true =>
  rw [hs5] at h5;rw [if_pos hs5] at h;have aq:p1.i < p1.l.length:=is_lt (k:=0) hs5;have FL:=(dj aq).ok cZ
  cases hb:iE f (.expr (d+1)) p1.next with
  | none=>rw [hb] at h;cases h
  | some r =>
   obtain ⟨b,p2⟩:=r;rw [hb] at h;cases h;have dA:=((iF f).1 _ _ _ _ FL hb).ok FL
   have xP:=C.expr (d+1) p1.next b p2 x FL ae hb
   have hw:=eD p2 [93] x dA;have gT:=ej 3 tk.at_ tk.s [b] [[qT b]] (fV _);refine ai Tryz.func304 Tryz.ntmps304 ?_;refine U [0] (ht) ?_;refine U [0] (dz) ?_;refine U [0] (h1) ?_;refine U [0] (h2) ?_;refine U [0] (h3) ?_;refine U [0] (h4) ?_;refine U [0] (hn) ?_;refine U [0] (h5) ?_;refine U [0] (xP) ?_;refine bC ?_;refine ab ?_;refine U [0] (hw) ?_;refine bC ?_;refine ab ?_;refine U [] (gT) ?_;exact ao
 | false =>
 rw [hs5] at h5;rw [if_neg (by rw [hs5];decide)] at h;have h6:=jx p1 0 [40] x cZ (by decide)
 cases hs6:is p1 0 [40] with
 | true =>
  rw [hs6] at h6;rw [if_pos hs6] at h;have aq:p1.i < p1.l.length:=is_lt (k:=0) hs6;have FL:=(dj aq).ok cZ
  cases hb:iA f (d+1) [] p1.next with
  | none=>rw [hb] at h;cases h
  | some r =>
   obtain ⟨b,p2⟩:=r;rw [hb] at h;cases h
   have xP:=C.exprs (d+1) p1.next b _ x FL ae hb
   have gT:=ej 4 tk.at_ tk.s b (jL b) rfl;refine ai Tryz.func304 Tryz.ntmps304 ?_;refine U [0] (ht) ?_;refine U [0] (dz) ?_;refine U [0] (h1) ?_;refine U [0] (h2) ?_;refine U [0] (h3) ?_;refine U [0] (h4) ?_;refine U [0] (hn) ?_;refine U [0] (h5) ?_;refine U [0] (h6) ?_;refine GW.draw (.q 0 (.q 1 (.q 2 (.q 3 (.q 4 (.q 5 (.a 6 (.a 7 (.q 8 .nil))))))))) (by kernel_rfl) (by kernel_rfl) ?_;refine aj ?_;refine az [0] (xP) ?_;refine az [] (gT) ?_;exact av
 | false =>
  rw [hs6] at h6;rw [if_neg (by rw [hs6];decide)] at h;cases h;have gT:=ej 2 tk.at_ tk.s [] [] rfl;refine ai Tryz.func304 Tryz.ntmps304 ?_;refine U [0] (ht) ?_;refine U [0] (dz) ?_;refine U [0] (h1) ?_;refine U [0] (h2) ?_;refine U [0] (h3) ?_;refine U [0] (h4) ?_;refine U [0] (hn) ?_;refine U [0] (h5) ?_;refine U [0] (h6) ?_;refine U [] (gT) ?_;exact ao
theorem Xf (f:Nat):HT f:=by
 induction f using Nat.strongRecOn with
 | _ f ih =>
  cases f with
  | zero=>exact ⟨fun d p t q x _ _ h=>by simp [iE] at h,fun k d p t q x _ _ _ h=>by simp [iE] at h,fun d p t q x _ _ h=>by simp [iE] at h,fun d p l q x _ _ h=>by simp [iA] at h⟩
  | succ f =>
   have C:=ih f (Nat.lt_succ_self f)
   have Cs:∀ f',f'<=f->HT f':=fun f' h=>ih f' (Nat.lt_succ_of_le h)
   exact ⟨fun d p t q x hp hd h=>Tl C d p t q x hp hd h,fun k d p t q x hp hk hd h=>Sg Cs k d p t q x hp hk hd h,fun d p t q x hp hd h=>NB C d p t q x hp hd h,fun d p l q x hp hd h=>RV Cs d p l q x hp hd h⟩
end Go.Xg
namespace Go.Im
open Go.Xp Go.Sp
def U7 (f d:Nat) (p:RS):Option (T × RS) :=
 if (tok p 0).kind=2/\is p 1 [61]=true then match iE f (.expr (d+1)) (want (be p) [61]) with
  | none=>none
  | some (e,q)=>some (one 7 (tok p 0).at_ (tok p 0).s [e],want q [59])
 else match iE f (.expr (d+1)) p with
  | none=>none
  | some (e,q) =>
   if wG p q e then match e.kids,iE f (.expr (d+1)) (want q [61]) with
    | a::_,some (v,q)=>some (one 8 (tok p 0).at_ e.n.s [a,v],want q [59])
    | _,_=>none
   else some (one 12 (tok p 0).at_ [] [e],want q [59])
end Go.Im
namespace Go.Xg
open Go.RowKit Go.Xw Go.Proofs
open Go.Xp (Tok Nd T bb one levels fY dF dY dh cY nU)
open Go.Sp Go.Im
attribute [local irreducible] GW GL GO YG GC GA aS aW
theorem PY {f:Nat} (d:Nat) (p:RS) (t:T) (q:RS) (x:PX) (hp:p.ok) (hd:d+1+f<=1099511627776) (h:U7 f d p=some (t,q)) :
  GF Tryz.prog 289 [.loc 0 0,.v (ii (d:Nat))] [bD p x] (qT t) [bD q x]:=by
 unfold U7 at h;have C:=Xf f;have ht:=qU p 0 x hp (by decide);have hi:=jx p 1 [61] x hp (by decide)
 have main:∀ kk,((tok p 0).kind==2)=kk->(kk=true->is p 1 [61]=false)->GF Tryz.prog 289 [.loc 0 0,.v (ii (d:Nat))] [bD p x] (qT t) [bD q x]:=by
  intro kk hk rb
  rw [if_neg (fun hh=>by
   have h1:kk=true:=by rw [<-hk];simpa using hh.1
   have h2:=rb h1
   rw [hh.2] at h2;cases h2)] at h
  cases he:iE f (.expr (d+1)) p with
  | none=>rw [he] at h;cases h
  | some r =>
   obtain ⟨e,q1⟩:=r;rw [he] at h;simp only at h;have p9:=((iF f).1 _ _ _ _ hp he).ok hp;have aaw:=p9.1;have aax:=p9.2;have hex:=C.expr (d+1) p e q1 x hp ae he;have QP:=jx q1 0 [61] x p9 (by decide)
   have Fq:e.n.kind=3->q1.code=0->∃ zO,q1.l[q1.i - 1]?=some zO/\uc q1=zO.s/\1<=q1.i:=by
    intro _ hc;have h1:=Uy f _ _ _ _ hp he hc (fun k d out h=>by cases h);have h2:=p9.1
    have aq:q1.i - 1 < q1.l.length:=by omega
    exact ⟨q1.l[q1.i - 1],by simp [aq],by unfold uc;simp [aq],by omega⟩
   by_cases hput:wG p q1 e
   ·rw [if_pos hput] at h;have kg:=hput;obtain ⟨s1,s2,s3,s4,s5,s6⟩:=kg;obtain ⟨zO,a1,a2,a3⟩:=Fq s1 s2
    have la:kk=true:=by rw [<-hk];simpa using s5
    subst la;have zA:=rb rfl;rw [zA] at hi;rw [s6] at QP
    match Dw:e.kids,hv:iE f (.expr (d+1)) (want q1 [61]),h with
    | a::rk,some (v,q2),h =>
     cases h;have lB:=(bX p9 [61]).ok p9;have IC:=((iF f).1 _ _ _ _ lB hv).ok lB;have hw:=eD q1 [61] x p9;have XU:=C.expr (d+1) _ v q2 x lB ae hv;have oc:=eD q2 [59] x IC;have hr:=jT a1;have c6:(jL e.kids)[0]?=some [qT a]:=BZ (by rw [Dw];rfl);have MR:(jL (a::rk))[0]?=some [qT a]:=BZ rfl
     have b1:(e.n.kind==3)=true:=by simpa using s1
     have b2:(q1.code==0)=true:=by simpa using s2
     have b3:(zO.s==[93])=true:=by rw [<-a2];simpa using s3
     have b4:(e.n.at_==(tok p 0).at_)=true:=by simpa using s4
     have gT:=ej 8 (tok p 0).at_ e.n.s [a,v] [[qT a],[qT v]] (fV _);generalize tok p 0=tk at *;refine ai Tryz.func289 Tryz.ntmps289 ?_;refine U [0] (ht) ?_;refine U [0] (hi) ?_;refine U [0] (hex) ?_;refine GW.draw (.q 0 (.q 1 (.q 2 (.q 3 (.q 4 (.q 5 (.q 6 (.q 7 (.q 8 (.q 9 (.q 10 (.q 11 (.q 12 (.q 13 (.q 14 (.q 15 (.q 16 (.q 17 (.q 18 (.q 19 (.q 20 (.q 21 (.q 22 (.q 23 (.q 24 (.q 25 (.q 26 (.q 27 (.q 28 (.q 29 (.q 30 (.q 31 (.q 32 (.q 33 (.q 34 (.q 35 (.q 36 (.q 37 (.q 38 (.q 39 (.q 40 (.q 41 (.q 42 (.q 43 (.q 44 (.a 45 (.q 46 .nil))))))))))))))))))))))))))))))))))))))))))))))) (by kernel_rfl) (by kernel_rfl) ?_;refine aj ?_;refine bu [0] (QP) ?_;refine ab ?_;refine bC ?_;refine ab ?_;refine U [0] (hw) ?_;refine U [0] (XU) ?_;refine bC ?_;refine ab ?_;refine U [0] (oc) ?_;refine GW.draw (.q 0 (.q 1 (.q 2 (.q 3 (.q 4 (.q 5 (.q 6 (.q 7 (.q 8 (.q 9 (.q 10 (.q 11 (.q 12 (.q 13 (.a 14 (.a 15 (.q 16 .nil))))))))))))))))) (by kernel_rfl) (by kernel_rfl) ?_;refine aj ?_;refine eC ?_;refine aj ?_;refine az [] (gT) ?_;exact av
    | [],_,h=>simp at h
    | _::_,none,h=>simp at h
   ·rw [if_neg hput] at h;cases h;have hw:=eD q1 [59] x p9;have gT:=ej 12 (tok p 0).at_ [] [e] [[qT e]] (fV _)
    cases kk with
    | true =>
     have zA:=rb rfl;rw [zA] at hi;refine ai Tryz.func289 Tryz.ntmps289 ?_;refine U [0] (ht) ?_;refine U [0] (hi) ?_;refine U [0] (hex) ?_;refine GW.join (fun fr Γ=>fr=[.loc 0 0,.v (ii (d:Nat)),.aaF,.aaF,.aaF,.loc 1 0,.aaF,.aaF,qT e,.aaF,.aaF,.aaF,.aaF,.aaF,.aaF,.aaF,.aaF,.aaF,.aaF,.aaF,.aaF,.aaF,.aaF,.aaF,.aaF,.aaF,.aaF,.aaF,.aaF,.aaF,.aaF,.aaF,.aaF,.aaF,.aaF,.aaF,.aaF,.aaF,.aaF,.aaF,.aaF,.aaF,.aaF,.aaF,.aaF,.aaF,.aaF,.aaF,.aaF,.aaF,.aaF,.aaF,.aaF,.aaF,.aaF,.aaF,.aaF,.aaF,.aaF,.aaF,.aaF,.aaF,.aaF,.aaF,.aaF,.aaF,.aaF,.aaF,.aaF,.aaF,.aaF,.aaF,.aaF,.aaF,.aaF,.aaF,.aaF,.aaF,.aaF,.aaF,.aaF,.aaF,.aaF,.aaF,.aaF,.aaF,.aaF,.v (.bool false),.aaF,.aaF,.aaF,.aaF,.aaF,.aaF,.aaF,.aaF,.aaF,.aaF,.aaF,.aaF,.aaF,.aaF,.aaF,.aaF,.aaF,.aaF,.aaF,.aaF,.aaF,.aaF,.aaF,.aaF,.aaF,.aaF,.aaF,.aaF,.aaF,.aaF,.aaF,.aaF,.aaF,.aaF]/\Γ=[bD q1 x,.box 203 (cU (tok p 0))]) ?_ ?_
     ·by_cases s1:e.n.kind=3
      ·have b1:(e.n.kind==3)=true:=by simpa using s1
       by_cases s2:q1.code=0
       ·have b2:(q1.code==0)=true:=by simpa using s2
        obtain ⟨zO,a1,a2,a3⟩:=Fq s1 s2;have hr:=jT a1
        by_cases s3:uc q1=[93]
        ·have b3:(zO.s==[93])=true:=by rw [<-a2];simpa using s3
         by_cases s4:e.n.at_=(tok p 0).at_
         ·have b4:(e.n.at_==(tok p 0).at_)=true:=by simpa using s4
          have s6:is q1 0 [61]=false:=by
           cases h6:is q1 0 [61] with
           | false=>rfl
           | true=>exact absurd ⟨s1,s2,s3,s4,by simpa using hk,h6⟩ hput
          rw [s6] at QP;generalize tok p 0=tk at *;refine GW.draw (.q 0 (.q 1 (.q 2 (.q 3 (.q 4 (.q 5 (.q 6 (.q 7 (.q 8 (.q 9 (.q 10 (.q 11 (.q 12 (.q 13 (.q 14 (.q 15 (.q 16 (.q 17 (.q 18 (.q 19 (.q 20 (.q 21 (.q 22 (.q 23 (.q 24 (.q 25 (.q 26 (.q 27 (.q 28 (.q 29 (.q 30 (.q 31 (.q 32 (.q 33 (.q 34 (.q 35 (.q 36 (.q 37 (.q 38 (.q 39 (.q 40 (.q 41 (.q 42 (.q 43 (.q 44 (.a 45 (.q 46 .nil))))))))))))))))))))))))))))))))))))))))))))))) (by kernel_rfl) (by kernel_rfl) ?_;refine aj ?_;refine bu [0] (QP) ?_;refine ab ?_;exact ⟨_,_,Wk.aw al,rfl,rfl⟩
         ·have b4:(e.n.at_==(tok p 0).at_)=false:=by simpa using s4
          generalize tok p 0=tk at *;refine GW.draw (.q 0 (.q 1 (.q 2 (.q 3 (.q 4 (.q 5 (.q 6 (.q 7 (.q 8 (.q 9 (.q 10 (.q 11 (.q 12 (.q 13 (.q 14 (.q 15 (.q 16 (.q 17 (.q 18 (.q 19 (.q 20 (.q 21 (.q 22 (.q 23 (.q 24 (.q 25 (.q 26 (.q 27 (.q 28 (.q 29 (.q 30 (.q 31 (.q 32 (.q 33 (.q 34 (.q 35 (.q 36 (.q 37 (.q 38 (.q 39 (.q 40 (.q 41 (.q 42 (.q 43 (.q 44 (.a 45 (.q 46 .nil))))))))))))))))))))))))))))))))))))))))))))))) (by kernel_rfl) (by kernel_rfl) ?_;refine aj ?_;refine ab ?_;exact ⟨_,_,Wk.aw al,rfl,rfl⟩
        ·have b3:(zO.s==[93])=false:=by rw [<-a2];simpa using s3
         generalize tok p 0=tk at *;refine GW.draw (.q 0 (.q 1 (.q 2 (.q 3 (.q 4 (.q 5 (.q 6 (.q 7 (.q 8 (.q 9 (.q 10 (.q 11 (.q 12 (.q 13 (.q 14 (.q 15 (.q 16 (.q 17 (.q 18 (.q 19 (.q 20 (.q 21 (.q 22 (.q 23 (.q 24 (.q 25 (.q 26 (.q 27 (.q 28 (.q 29 (.q 30 (.q 31 (.q 32 (.q 33 (.q 34 (.q 35 (.q 36 (.q 37 (.q 38 (.q 39 (.q 40 (.q 41 (.q 42 (.q 43 (.q 44 (.a 45 (.q 46 .nil))))))))))))))))))))))))))))))))))))))))))))))) (by kernel_rfl) (by kernel_rfl) ?_;refine aj ?_;refine ab ?_;exact ⟨_,_,Wk.aw al,rfl,rfl⟩
       ·have b2:(q1.code==0)=false:=by simpa using s2
        generalize tok p 0=tk at *;refine GW.draw (.q 0 (.q 1 (.q 2 (.q 3 (.q 4 (.q 5 (.q 6 (.q 7 (.q 8 (.q 9 (.q 10 (.q 11 (.q 12 (.q 13 (.q 14 (.q 15 (.q 16 (.q 17 (.q 18 (.q 19 (.q 20 (.q 21 (.q 22 (.q 23 (.q 24 (.q 25 (.q 26 (.q 27 (.q 28 (.q 29 (.q 30 (.q 31 (.q 32 (.q 33 (.q 34 (.q 35 (.q 36 (.q 37 (.q 38 (.q 39 (.q 40 (.q 41 (.q 42 (.q 43 (.q 44 (.a 45 (.q 46 .nil))))))))))))))))))))))))))))))))))))))))))))))) (by kernel_rfl) (by kernel_rfl) ?_;refine aj ?_;refine ab ?_;exact ⟨_,_,Wk.aw al,rfl,rfl⟩
      ·have b1:(e.n.kind==3)=false:=by simpa using s1
       generalize tok p 0=tk at *;refine GW.draw (.q 0 (.q 1 (.q 2 (.q 3 (.q 4 (.q 5 (.q 6 (.q 7 (.q 8 (.q 9 (.q 10 (.q 11 (.q 12 (.q 13 (.q 14 (.q 15 (.q 16 (.q 17 (.q 18 (.q 19 (.q 20 (.q 21 (.q 22 (.q 23 (.q 24 (.q 25 (.q 26 (.q 27 (.q 28 (.q 29 (.q 30 (.q 31 (.q 32 (.q 33 (.q 34 (.q 35 (.q 36 (.q 37 (.q 38 (.q 39 (.q 40 (.q 41 (.q 42 (.q 43 (.q 44 (.a 45 (.q 46 .nil))))))))))))))))))))))))))))))))))))))))))))))) (by kernel_rfl) (by kernel_rfl) ?_;refine aj ?_;refine ab ?_;exact ⟨_,_,Wk.aw al,rfl,rfl⟩
     ·rintro _ _ ⟨rfl,rfl⟩;generalize tok p 0=tk at *;refine ab ?_;refine bC ?_;refine ab ?_;refine U [0] (hw) ?_;refine bC ?_;refine ab ?_;refine U [] (gT) ?_;exact ao
    | false =>
     refine ai Tryz.func289 Tryz.ntmps289 ?_;refine U [0] (ht) ?_;refine U [0] (hex) ?_;refine GW.join (fun fr Γ=>fr=[.loc 0 0,.v (ii (d:Nat)),.aaF,.aaF,.aaF,.loc 1 0,.aaF,.aaF,qT e,.aaF,.aaF,.aaF,.aaF,.aaF,.aaF,.aaF,.aaF,.aaF,.aaF,.aaF,.aaF,.aaF,.aaF,.aaF,.aaF,.aaF,.aaF,.aaF,.aaF,.aaF,.aaF,.aaF,.aaF,.aaF,.aaF,.aaF,.aaF,.aaF,.aaF,.aaF,.aaF,.aaF,.aaF,.aaF,.aaF,.aaF,.aaF,.aaF,.aaF,.aaF,.aaF,.aaF,.aaF,.aaF,.aaF,.aaF,.aaF,.aaF,.aaF,.aaF,.aaF,.aaF,.aaF,.aaF,.aaF,.aaF,.aaF,.aaF,.aaF,.aaF,.aaF,.aaF,.aaF,.aaF,.aaF,.aaF,.aaF,.aaF,.aaF,.aaF,.aaF,.aaF,.aaF,.aaF,.aaF,.aaF,.aaF,.v (.bool false),.aaF,.aaF,.aaF,.aaF,.aaF,.aaF,.aaF,.aaF,.aaF,.aaF,.aaF,.aaF,.aaF,.aaF,.aaF,.aaF,.aaF,.aaF,.aaF,.aaF,.aaF,.aaF,.aaF,.aaF,.aaF,.aaF,.aaF,.aaF,.aaF,.aaF,.aaF,.aaF,.aaF,.aaF]/\Γ=[bD q1 x,.box 203 (cU (tok p 0))]) ?_ ?_
     ·by_cases s1:e.n.kind=3
      ·have b1:(e.n.kind==3)=true:=by simpa using s1
       by_cases s2:q1.code=0
       ·have b2:(q1.code==0)=true:=by simpa using s2
        obtain ⟨zO,a1,a2,a3⟩:=Fq s1 s2;have hr:=jT a1
        by_cases s3:uc q1=[93]
        ·have b3:(zO.s==[93])=true:=by rw [<-a2];simpa using s3
         by_cases s4:e.n.at_=(tok p 0).at_
         ·have b4:(e.n.at_==(tok p 0).at_)=true:=by simpa using s4
          generalize tok p 0=tk at *;refine GW.draw (.q 0 (.q 1 (.q 2 (.q 3 (.q 4 (.q 5 (.q 6 (.q 7 (.q 8 (.q 9 (.q 10 (.q 11 (.q 12 (.q 13 (.q 14 (.q 15 (.q 16 (.q 17 (.q 18 (.q 19 (.q 20 (.q 21 (.q 22 (.q 23 (.q 24 (.q 25 (.q 26 (.q 27 (.q 28 (.q 29 (.q 30 (.q 31 (.q 32 (.q 33 (.q 34 (.q 35 (.q 36 (.q 37 (.q 38 (.q 39 (.q 40 (.q 41 (.q 42 (.q 43 (.q 44 (.a 45 (.q 46 .nil))))))))))))))))))))))))))))))))))))))))))))))) (by kernel_rfl) (by kernel_rfl) ?_;refine aj ?_;refine ab ?_;exact ⟨_,_,Wk.aw al,rfl,rfl⟩
         ·have b4:(e.n.at_==(tok p 0).at_)=false:=by simpa using s4
          generalize tok p 0=tk at *;refine GW.draw (.q 0 (.q 1 (.q 2 (.q 3 (.q 4 (.q 5 (.q 6 (.q 7 (.q 8 (.q 9 (.q 10 (.q 11 (.q 12 (.q 13 (.q 14 (.q 15 (.q 16 (.q 17 (.q 18 (.q 19 (.q 20 (.q 21 (.q 22 (.q 23 (.q 24 (.q 25 (.q 26 (.q 27 (.q 28 (.q 29 (.q 30 (.q 31 (.q 32 (.q 33 (.q 34 (.q 35 (.q 36 (.q 37 (.q 38 (.q 39 (.q 40 (.q 41 (.q 42 (.q 43 (.q 44 (.a 45 (.q 46 .nil))))))))))))))))))))))))))))))))))))))))))))))) (by kernel_rfl) (by kernel_rfl) ?_;refine aj ?_;refine ab ?_;exact ⟨_,_,Wk.aw al,rfl,rfl⟩
        ·have b3:(zO.s==[93])=false:=by rw [<-a2];simpa using s3
         generalize tok p 0=tk at *;refine GW.draw (.q 0 (.q 1 (.q 2 (.q 3 (.q 4 (.q 5 (.q 6 (.q 7 (.q 8 (.q 9 (.q 10 (.q 11 (.q 12 (.q 13 (.q 14 (.q 15 (.q 16 (.q 17 (.q 18 (.q 19 (.q 20 (.q 21 (.q 22 (.q 23 (.q 24 (.q 25 (.q 26 (.q 27 (.q 28 (.q 29 (.q 30 (.q 31 (.q 32 (.q 33 (.q 34 (.q 35 (.q 36 (.q 37 (.q 38 (.q 39 (.q 40 (.q 41 (.q 42 (.q 43 (.q 44 (.a 45 (.q 46 .nil))))))))))))))))))))))))))))))))))))))))))))))) (by kernel_rfl) (by kernel_rfl) ?_;refine aj ?_;refine ab ?_;exact ⟨_,_,Wk.aw al,rfl,rfl⟩
       ·have b2:(q1.code==0)=false:=by simpa using s2
        generalize tok p 0=tk at *;refine GW.draw (.q 0 (.q 1 (.q 2 (.q 3 (.q 4 (.q 5 (.q 6 (.q 7 (.q 8 (.q 9 (.q 10 (.q 11 (.q 12 (.q 13 (.q 14 (.q 15 (.q 16 (.q 17 (.q 18 (.q 19 (.q 20 (.q 21 (.q 22 (.q 23 (.q 24 (.q 25 (.q 26 (.q 27 (.q 28 (.q 29 (.q 30 (.q 31 (.q 32 (.q 33 (.q 34 (.q 35 (.q 36 (.q 37 (.q 38 (.q 39 (.q 40 (.q 41 (.q 42 (.q 43 (.q 44 (.a 45 (.q 46 .nil))))))))))))))))))))))))))))))))))))))))))))))) (by kernel_rfl) (by kernel_rfl) ?_;refine aj ?_;refine ab ?_;exact ⟨_,_,Wk.aw al,rfl,rfl⟩
      ·have b1:(e.n.kind==3)=false:=by simpa using s1
       generalize tok p 0=tk at *;refine GW.draw (.q 0 (.q 1 (.q 2 (.q 3 (.q 4 (.q 5 (.q 6 (.q 7 (.q 8 (.q 9 (.q 10 (.q 11 (.q 12 (.q 13 (.q 14 (.q 15 (.q 16 (.q 17 (.q 18 (.q 19 (.q 20 (.q 21 (.q 22 (.q 23 (.q 24 (.q 25 (.q 26 (.q 27 (.q 28 (.q 29 (.q 30 (.q 31 (.q 32 (.q 33 (.q 34 (.q 35 (.q 36 (.q 37 (.q 38 (.q 39 (.q 40 (.q 41 (.q 42 (.q 43 (.q 44 (.a 45 (.q 46 .nil))))))))))))))))))))))))))))))))))))))))))))))) (by kernel_rfl) (by kernel_rfl) ?_;refine aj ?_;refine ab ?_;exact ⟨_,_,Wk.aw al,rfl,rfl⟩
     ·rintro _ _ ⟨rfl,rfl⟩;generalize tok p 0=tk at *;refine ab ?_;refine bC ?_;refine ab ?_;refine U [0] (hw) ?_;refine bC ?_;refine ab ?_;refine U [] (gT) ?_;exact ao
 by_cases hk:(tok p 0).kind=2
 ·cases zA:is p 1 [61] with
  | true =>
   clear main;rw [if_pos ⟨hk,zA⟩] at h;rw [zA] at hi
   have kY:((tok p 0).kind==2)=true:=by simpa using hk
   have hn:=qw p x hp;have cZ:=(gy hp).ok hp;have hw:=eD (be p) [61] x cZ;have lB:=(bX cZ [61]).ok cZ
   cases he:iE f (.expr (d+1)) (want (be p) [61]) with
   | none=>rw [he] at h;cases h
   | some r =>
    obtain ⟨e,q1⟩:=r;rw [he] at h;cases h;have p9:=((iF f).1 _ _ _ _ lB he).ok lB;have hex:=C.expr (d+1) _ e q1 x lB ae he;have oc:=eD q1 [59] x p9;have gT:=ej 7 (tok p 0).at_ (tok p 0).s [e] [[qT e]] (fV _);generalize tok p 0=tk at *;refine ai Tryz.func289 Tryz.ntmps289 ?_;refine U [0] (ht) ?_;refine U [0] (hi) ?_;refine U [0] (hn) ?_;refine bC ?_;refine ab ?_;refine U [0] (hw) ?_;refine U [0] (hex) ?_;refine bC ?_;refine ab ?_;refine U [0] (oc) ?_;refine bC ?_;refine ab ?_;refine U [] (gT) ?_;exact ao
  | false=>exact main true (by simpa using hk) (fun _=>zA)
 ·exact main false (by simpa using hk) (fun h=>by cases h)
end Go.Xg
namespace Go.Xg
open Go.RowKit Go.Xw Go.Proofs
open Go.Xp (Tok Nd T bb one levels fY dF dY dh cY nU qf)
open Go.Sp Go.Im
attribute [local irreducible] GW GL GO YG GC GA aS aW
theorem Nv (k a:Int) (s:ah):GF Tryz.prog 271 [.v (ii k),.v (ii a),.v (sv s),.v (.slice none 0 0)] [] (.loc 0 0) [.box 190 [.v (ii k),.v (ii a),.v (ii 0),.v (sv s),.v (.slice none 0 0),.v (.slice none 0 0)]]:=by
 refine ai Tryz.func271 Tryz.ntmps271 ?_;refine GW.wk (Wk.cells 0 rfl (ds:=[.v (ii k),.v (ii a),.v (ii 0),.v (sv s),.v (.slice none 0 0),.v (.slice none 0 0)]) iL) ?_;refine GW.ret ?_;refine po (n:=1) rfl (by first | exact .inr rfl | exact .inl rfl) rfl (Nat.zero_le _) rfl rfl ?_;exact ⟨rfl,rfl⟩
structure Qp (f:Nat):Prop where
 block:∀ d p t q x,p.ok->d+3+f<=1099511627776->iS f (.block d) p=some (t,q)->GF Tryz.prog 244 [.loc 0 0,.v (ii (d:Nat))] [bD p x] (qT t) [bD q x]
 stmt:∀ d p t q x,p.ok->d+3+f<=1099511627776->iS f (.stmt d) p=some (t,q)->GF Tryz.prog 273 [.loc 0 0,.v (ii (d:Nat))] [bD p x] (qT t) [bD q x]
theorem RE {f:Nat} (C:∀ f',f'<=f->Qp f') (d:Nat) (p:RS) (t:T) (q:RS) (x:PX) (hp:p.ok) (hd:d+3+(f+1)<=1099511627776) (h:iS (f+1) (.block d) p=some (t,q)) :
  GF Tryz.prog 244 [.loc 0 0,.v (ii (d:Nat))] [bD p x] (qT t) [bD q x]:=by
 rw [iS] at h;have dz:=vX p d x hp;have ht:=qU p 0 x hp (by decide);have Dx:=Nv 14 (tok p 0).at_ []
 by_cases hc:(bE p d).code=0
 case neg =>
  have df:((bE p d).code==0)=false:=by simpa using hc
  rw [if_neg hc] at h;rw [df] at dz;cases h;generalize tok p 0=tk at *;refine ai Tryz.func244 Tryz.ntmps244 ?_;refine U [0] (ht) ?_;refine U [] (Dx) ?_;refine U [0] (dz) ?_;refine GW.wk (Wk.cells 1 rfl (ds:=[.v (ii 14),.v (ii tk.at_),.v (ii 0),.v (sv []),.v (.slice none 0 0),.sl 1 []]) iL) ?_;refine GW.wk (Wk.freeze (i:=1) rfl rfl rfl (Nat.le_of_ble_eq_true rfl)) ?_;exact ao
 case pos =>
 have df:((bE p d).code==0)=true:=by simpa using hc
 rw [if_pos hc] at h;rw [df,nY hc] at dz;clear hc df;have lB:=(bX hp [123]).ok hp;have hw:=eD p [123] x hp
 cases he:iB f (d+1) [] (want p [123]) with
 | none=>rw [he] at h;cases h
 | some r =>
  obtain ⟨l,q1⟩:=r;rw [he] at h;cases h;generalize tok p 0=tk at *;refine ai Tryz.func244 Tryz.ntmps244 ?_;refine U [0] (ht) ?_;refine U [] (Dx) ?_;refine U [0] (dz) ?_;refine bC ?_;refine ab ?_;refine U [0] (hw) ?_;refine GW.wk (Wk.KB (i:=1) (o:=5) 152 1 rfl rfl) ?_;refine GW.loop (fun z:Nat × List T × RS=>z.1) (fun z fr Γ=>∃ n rows,fr=[.loc 0 0,.v (ii (d:Nat)),.aaF,.aaF,.aaF,.loc 1 0,.aaF,.aaF,.aaF,.aaF,.aaF,.aaF,.aaF,.aaF,.aaF,.aaF,.aaF,.aaF,.aaF,.aaF,.aaF,.aaF,.aaF,.aaF,.aaF,.aaF,.aaF,.aaF,.aaF,.aaF,.aaF,.aaF,.aaF,.aaF,.aaF,.aaF,.aaF,.aaF,.aaF,.aaF,.aaF,.aaF,.aaF,.aaF,.aaF]/\Γ=[bD z.2.2 x,.box 190 [.v (ii 14),.v (ii tk.at_),.v (ii 0),.v (sv []),.v (.slice none 0 0),.vec 2 n],.vec 152 1 0 rows]/\rows.length=n/\rows=jL z.2.1/\n+z.1<=f/\z.2.2.ok/\iB z.1 (d+1) z.2.1 z.2.2=some (l,q1)) (f,[],want p [123]) ?_ ?_
  ·exact ⟨_,_,Wk.aw al,0,[],rfl,rfl,rfl,rfl,by simp,lB,he⟩
  ·clear he lB hw dz ht;rintro ⟨g,acc,p⟩ _ _ ⟨n,rows,rfl,rfl,hn,bp,zC,hp,h⟩;simp only at bp zC hp h
   cases g with
   | zero=>simp [iB] at h
   | succ g =>
   rw [iB] at h;have hi:=jx p 0 [125] x hp (by decide)
   by_cases hc:p.code=0
   ·have df:(p.code==0)=true:=by simpa using hc
    cases hs:is p 0 [125] with
    | true =>
     rw [hs] at hi;rw [if_neg (fun hh=>by have:=hh.2;rw [hs] at this;cases this)] at h
     obtain ⟨rfl,rfl⟩:acc=l/\p=q1:=by simpa using h
     have hw:=eD p [125] x hp;subst bp;refine ab ?_;refine U [0] (hi) ?_;refine aU ?_;refine ab ?_;refine bC ?_;refine ab ?_;refine U [0] (hw) ?_;refine GW.wk (Wk.yZ (i:=1) (o:=5) rfl rfl rfl rfl hn) ?_;refine GW.wk (Wk.freeze (i:=1) rfl rfl rfl (Nat.le_of_ble_eq_true rfl)) ?_;exact ao
    | false =>
     rw [hs] at hi;rw [if_pos ⟨hc,hs⟩] at h
     cases hb:iS g (.stmt (d+1)) p with
     | none=>rw [hb] at h;cases h
     | some r =>
      obtain ⟨a,p2⟩:=r;rw [hb] at h;simp only at h;have dA:=((Em g).1 _ _ _ _ hp hb).ok hp;have bY:=(C g ae).stmt (d+1) p a p2 x hp ae hb;refine ab ?_;refine U [0] (hi) ?_;refine GW.draw (.q 0 (.q 1 (.q 2 (.q 3 (.q 4 (.q 5 (.q 6 (.q 7 (.a 8 (.a 9 (.a 10 (.q 11 (.q 12 (.a 13 .nil)))))))))))))) (by kernel_rfl) (by kernel_rfl) ?_;refine aj ?_;refine az [0] (bY) ?_;refine eC ?_;refine aj ?_;refine C1 ?_;refine aj ?_;refine ab ?_;exact ⟨(g,acc++[a],p2),⟨_,_,Wk.aw al,_,_,rfl,rfl,by simp [hn],by rw [vw,bp];rfl,by show n+1+g<=f;omega,dA,h⟩,by simp⟩
   ·have df:(p.code==0)=false:=by simpa using hc
    rw [if_neg (fun hh=>hc hh.1)] at h
    obtain ⟨rfl,rfl⟩:acc=l/\p=q1:=by simpa using h
    have hw:=eD p [125] x hp;subst bp;refine ab ?_;refine aU ?_;refine ab ?_;refine bC ?_;refine ab ?_;refine U [0] (hw) ?_;refine GW.wk (Wk.yZ (i:=1) (o:=5) rfl rfl rfl rfl hn) ?_;refine GW.wk (Wk.freeze (i:=1) rfl rfl rfl (Nat.le_of_ble_eq_true rfl)) ?_;exact ao
theorem Vc {f:Nat} (C:Qp f) (d:Nat) (p:RS) (t:T) (q:RS) (x:PX) (hp:p.ok) (hd:d+3+(f+1)<=1099511627776) (h:iS (f+1) (.stmt d) p=some (t,q)) :
  GF Tryz.prog 273 [.loc 0 0,.v (ii (d:Nat))] [bD p x] (qT t) [bD q x]:=by
 rw [iS] at h;have E:=Xf f;have dz:=vX p d x hp;have ht:=qU p 0 x hp (by decide)
 by_cases hc:(bE p d).code=0
 case neg =>
  have df:((bE p d).code==0)=false:=by simpa using hc
  rw [if_neg hc] at h;rw [df] at dz;cases h;refine ai Tryz.func273 Tryz.ntmps273 ?_;refine U [0] (ht) ?_;refine U [0] (dz) ?_;refine U [] (G8) ?_;exact ao
 case pos =>
 have df:((bE p d).code==0)=true:=by simpa using hc
 rw [if_pos hc] at h;rw [df,nY hc] at dz;clear hc df;have cB:=hp.2;have Dz:=hp.1;have h1:=jx p 0 fY x hp (by decide);have h2:=jx p 0 dF x hp (by decide);have h3:=jx p 0 dh x hp (by decide);have h4:=jx p 0 cY x hp (by decide)
 cases ff:is p 0 fY with
 | true =>
  rw [ff] at h1;rw [if_pos ff] at h;have aq:p.i < p.l.length:=is_lt (k:=0) ff;have cZ:=(dj aq).ok hp
  have hn:=qw p.next x cZ
  have xS:=(gy cZ).ok cZ;have hw:=eD _ [61] x xS;have lB:=(bX xS [61]).ok xS
  cases he:iE f (.expr (d+1)) (want (be p.next) [61]) with
  | none=>rw [he] at h;cases h
  | some r =>
   obtain ⟨e,q1⟩:=r;rw [he] at h;cases h;have p9:=((iF f).1 _ _ _ _ lB he).ok lB;have hex:=E.expr (d+1) _ e q1 x lB ae he;have oc:=eD q1 [59] x p9;have gT:=ej 13 (tok p 0).at_ (tok p.next 0).s [e] [[qT e]] (fV _);generalize tok p 0=tk at *
   generalize tok p.next 0=tn at *
   refine ai Tryz.func273 Tryz.ntmps273 ?_;refine U [0] (ht) ?_;refine U [0] (dz) ?_;refine U [0] (h1) ?_;refine U [0] (hn) ?_;refine bC ?_;refine ab ?_;refine U [0] (hw) ?_;refine U [0] (hex) ?_;refine bC ?_;refine ab ?_;refine U [0] (oc) ?_;refine bC ?_;refine ab ?_;refine U [] (gT) ?_;exact ao
 | false =>
 rw [ff] at h1;rw [if_neg (by rw [ff];decide)] at h
 have main:∀ bi bw:Bool,is p 0 dF=bi->is p 0 dh=bw->(bi=true\/bw=true)->GF Tryz.prog 273 [.loc 0 0,.v (ii (d:Nat))] [bD p x] (qT t) [bD q x]:=by
  intro bi bw vb WV vf
  have mw:is p 0 dF=true\/is p 0 dh=true:=by rw [vb,WV];exact vf
  have aq:p.i < p.l.length:=by rcases mw with hh | hh <;> exact is_lt (k:=0) hh
  rw [if_pos mw] at h;have cZ:=(dj aq).ok hp
  have hw:=eD p.next [40] x cZ
  have lB:=(bX cZ [40]).ok cZ
  cases he:iE f (.expr (d+1)) (want p.next [40]) with
  | none=>rw [he] at h;cases h
  | some r =>
  obtain ⟨c,q1⟩:=r;rw [he] at h;simp only at h;have p9:=((iF f).1 _ _ _ _ lB he).ok lB;have hex:=E.expr (d+1) _ c q1 x lB ae he;have oc:=eD q1 [41] x p9;have Ud:=(bX p9 [41]).ok p9
  cases hb:iS f (.block (d+1)) (want q1 [41]) with
  | none=>rw [hb] at h;cases h
  | some r =>
  obtain ⟨b,q2⟩:=r;rw [hb] at h;simp only at h;have IC:=((Em f).1 _ _ _ _ Ud hb).ok Ud;have aaz:=IC.2;have aay:=IC.1;have dr:=C.block (d+1) _ b q2 x Ud ae hb;have eP:=jx q2 0 dY x IC (by decide);rw [vb] at h2;rw [WV] at h3
  cases bi with
  | true =>
   have Kb:∀ (cc ee:Bool),(q2.code==0)=cc->is q2 0 dY=ee->(cc=false\/ee=false)->GF Tryz.prog 273 [.loc 0 0,.v (ii (d:Nat))] [bD p x] (qT t) [bD q x]:=by
    intro cc ee sK wX Ua
    rw [if_neg (fun hh=>by
     rcases Ua with h0 | h0
     ·rw [h0] at sK;have:=hh.2.1;simp [this] at sK
     ·rw [h0] at wX;rw [wX] at hh;exact absurd hh.2.2 (by decide)),if_pos vb] at h
    cases h;rw [wX] at eP;have gT:=ej 9 (tok p 0).at_ [] [c,b] [[qT c],[qT b]] (fV _);generalize tok p 0=tk at *
    cases cc with
    | true =>
     cases ee with
     | true=>simp at Ua
     | false =>
      refine ai Tryz.func273 Tryz.ntmps273 ?_;refine U [0] (ht) ?_;refine U [0] (dz) ?_;refine U [0] (h1) ?_;refine U [0] (h2) ?_;refine U [0] (h2) ?_;refine bC ?_;refine ab ?_;refine U [0] (hw) ?_;refine U [0] (hex) ?_;refine ma ?_;refine ab ?_;refine bC ?_;refine ab ?_;refine U [0] (oc) ?_;refine U [0] (dr) ?_;refine ea ?_;refine ab ?_;refine U [0] (eP) ?_;refine GL.wk (Wk.iv (t:=108) rfl rfl rfl rfl) ?_;refine bI ?_;refine U [] (gT) ?_;exact ao
    | false =>
     refine ai Tryz.func273 Tryz.ntmps273 ?_;refine U [0] (ht) ?_;refine U [0] (dz) ?_;refine U [0] (h1) ?_;refine U [0] (h2) ?_;refine U [0] (h2) ?_;refine bC ?_;refine ab ?_;refine U [0] (hw) ?_;refine U [0] (hex) ?_;refine ma ?_;refine ab ?_;refine bC ?_;refine ab ?_;refine U [0] (oc) ?_;refine U [0] (dr) ?_;refine ea ?_;refine ab ?_;refine GL.wk (Wk.iv (t:=108) rfl rfl rfl rfl) ?_;refine bI ?_;refine U [] (gT) ?_;exact ao
   by_cases jt:q2.code=0
   ·cases wX:is q2 0 dY with
    | true =>
     clear Kb;rw [if_pos ⟨vb,jt,wX⟩] at h;rw [wX] at eP
     have sK:(q2.code==0)=true:=by simpa using jt
     have mi:q2.i < q2.l.length:=is_lt (k:=0) wX;have ZO:=(dj mi).ok IC
     cases eB:iS f (.block (d+1)) q2.next with
     | none=>rw [eB] at h;cases h
     | some r =>
      obtain ⟨b2,q3⟩:=r;rw [eB] at h;cases h;have VQ:=C.block (d+1) _ b2 _ x ZO ae eB;have gT:=ej 9 (tok p 0).at_ [] [c,b,b2] [[qT c],[qT b],[qT b2]] (fV _);generalize tok p 0=tk at *;refine ai Tryz.func273 Tryz.ntmps273 ?_;refine U [0] (ht) ?_;refine U [0] (dz) ?_;refine U [0] (h1) ?_;refine U [0] (h2) ?_;refine U [0] (h2) ?_;refine bC ?_;refine ab ?_;refine U [0] (hw) ?_;refine U [0] (hex) ?_;refine ma ?_;refine ab ?_;refine bC ?_;refine ab ?_;refine U [0] (oc) ?_;refine U [0] (dr) ?_;refine ea ?_;refine ab ?_;refine U [0] (eP) ?_;refine U [0] (VQ) ?_;refine ea ?_;refine ab ?_;refine GL.wk (Wk.iv (t:=108) rfl rfl rfl rfl) ?_;refine bI ?_;refine U [] (gT) ?_;exact ao
    | false=>exact Kb true false (by simpa using jt) wX (.inr rfl)
   ·exact Kb false _ (by simpa using jt) rfl (.inl rfl)
  | false =>
   have XP:bw=true:=by simpa using vf
   subst XP;rw [if_neg (fun hh=>by have:=hh.1;rw [vb] at this;cases this),if_neg (by rw [vb];decide)] at h;cases h;have gT:=ej 10 (tok p 0).at_ [] [c,b] [[qT c],[qT b]] (fV _);generalize tok p 0=tk at *;refine ai Tryz.func273 Tryz.ntmps273 ?_;refine U [0] (ht) ?_;refine U [0] (dz) ?_;refine U [0] (h1) ?_;refine U [0] (h2) ?_;refine U [0] (h3) ?_;refine U [0] (h2) ?_;refine bC ?_;refine ab ?_;refine U [0] (hw) ?_;refine U [0] (hex) ?_;refine ma ?_;refine ab ?_;refine bC ?_;refine ab ?_;refine U [0] (oc) ?_;refine U [0] (dr) ?_;refine ea ?_;refine ab ?_;refine GL.wk (Wk.iv (t:=108) rfl rfl rfl rfl) ?_;refine bI ?_;refine U [] (gT) ?_;exact ao
 cases gI:is p 0 dF with
 | true=>exact main true _ gI rfl (.inl rfl)
 | false =>
 cases nJ:is p 0 dh with
 | true=>exact main false true gI nJ (.inr rfl)
 | false =>
 clear main;rw [gI] at h2;rw [nJ] at h3;rw [if_neg (by rw [gI,nJ];decide)] at h
 cases w6:is p 0 cY with
 | true =>
  rw [w6] at h4;rw [if_pos w6] at h;have aq:p.i < p.l.length:=is_lt (k:=0) w6;have cZ:=(dj aq).ok hp
  cases he:iE f (.expr (d+1)) p.next with
  | none=>rw [he] at h;cases h
  | some r =>
   obtain ⟨e,q1⟩:=r;rw [he] at h;cases h;have p9:=((iF f).1 _ _ _ _ cZ he).ok cZ;have hex:=E.expr (d+1) _ e q1 x cZ ae he;have oc:=eD q1 [59] x p9;have gT:=ej 11 (tok p 0).at_ [] [e] [[qT e]] (fV _);generalize tok p 0=tk at *;refine ai Tryz.func273 Tryz.ntmps273 ?_;refine U [0] (ht) ?_;refine U [0] (dz) ?_;refine U [0] (h1) ?_;refine U [0] (h2) ?_;refine U [0] (h3) ?_;refine U [0] (h4) ?_;refine U [0] (hex) ?_;refine bC ?_;refine ab ?_;refine U [0] (oc) ?_;refine bC ?_;refine ab ?_;refine U [] (gT) ?_;exact ao
 | false =>
  rw [w6] at h4;rw [if_neg (by rw [w6];decide)] at h;have Ul:=PY (f:=f) d p t q x hp ae h;generalize tok p 0=tk at *;refine ai Tryz.func273 Tryz.ntmps273 ?_;refine U [0] (ht) ?_;refine U [0] (dz) ?_;refine U [0] (h1) ?_;refine U [0] (h2) ?_;refine U [0] (h3) ?_;refine U [0] (h4) ?_;refine U [0] (Ul) ?_;exact ao
theorem Xj (f:Nat):Qp f:=by
 induction f using Nat.strongRecOn with
 | _ f ih =>
  cases f with
  | zero=>exact ⟨fun d p t q x _ _ h=>by simp [iS] at h,fun d p t q x _ _ h=>by simp [iS] at h⟩
  | succ f =>
   have C:=ih f (Nat.lt_succ_self f)
   have Cs:∀ f',f'<=f->Qp f':=fun f' h=>ih f' (Nat.lt_succ_of_le h)
   exact ⟨fun d p t q x hp hd h=>RE Cs d p t q x hp hd h,fun d p t q x hp hd h=>Vc C d p t q x hp hd h⟩
end Go.Xg
namespace Go.Xg
open Go.RowKit Go.Xw Go.Proofs
open Go.Xp (Tok Nd T aK ay ly dW bO)
attribute [local irreducible] GW GL GO YG GC GA aS aW
def rG (n:Nd):List GV:=[.v (ii n.kind),.v (ii n.at_),.v (ii n.n),.v (sv n.s),ints n.kids]
def CR (t:T) (x:Value):List GV:=[.v (ii t.n.kind),.v (ii t.n.at_),.v (ii t.n.n),.v (sv t.n.s),.v x]
theorem Md:∀ (N:Nat) (t:T),aK t<=N->∀ (n:Nat) (rows:List (List GV)) (a:Option Addr) (c:Nat),rows.length=n->n+aK t<=1099511627776 ->
  GC Tryz.prog 207 [.v (.slice a n c),qT t] [.vech 91 5 rows (.slice a n c)] fun g aH=>∃ a c,g=.v (.slice a (n+aK t) c)/\aH=[.vech 91 5 (rows++(ly n t).map rG) (.slice a (n+aK t) c)]:=by
 intro N
 induction N with
 | zero=>intro t h;rw [Go.Xp.dZ] at h;omega
 | succ N ih =>
 intro t hN n rows a c hn hb;subst hn;rw [Go.Xp.dZ] at hb hN;have eH:=Go.Xp.b7 t.kids;refine ai Tryz.func207 Tryz.ntmps207 ?_;refine GL.jG 0 rfl rfl rfl rfl rfl rfl rfl rfl (by first | rfl | assumption) ⟨⟨by omega,by omega⟩,by decide⟩ ?_;intro a c;refine bI ?_;refine ab ?_;refine GW.wk (Wk.mU 3 1) ?_
 refine GW.range (jL t.kids).length (fun k fr Γ=>∃ a c a2 c2,fr=[.v (.slice a (rows.length+1+ay (t.kids.take k)) c),qT t,.aaF,.aaF,.aaF,.v (ii (rows.length:Nat)),.aaF,.aaF,.aaF,.aaF,.aaF,.aaF,.aaF,.aaF,.aaF,.aaF,.aaF,.aaF,.aaF,.aaF,.sl 1 (jL t.kids),.v (ii ((jL t.kids).length:Int)),.v (ii (k:Nat)),.aaF,.aaF,.aaF,.aaF,.aaF,.aaF,.aaF,.aaF,.aaF,.aaF,.aaF,.aaF,.aaF,.aaF,.aaF,.aaF,.aaF,.aaF,.aaF,.aaF,.aaF] /\
  Γ=[.vech 91 5 (rows++CR t (.slice a2 k c2)::(dW (rows.length+1) (t.kids.take k)).map rG) (.slice a (rows.length+1+ay (t.kids.take k)) c),.vech 3 1 ((bO (rows.length+1) (t.kids.take k)).map fun z=>[.v (ii z)]) (.slice a2 k c2)]) ?_ (by rw [mc];omega) ?_ ?_ ?_
 ·refine ⟨_,_,Wk.aw al,a,c,none,0,rfl,?_⟩;rfl
 ·rintro k _ _ ⟨a,c,a2,c2,rfl,rfl⟩;exact ⟨rfl,rfl,rfl⟩
 ·rintro k _ _ aq ⟨a,c,a2,c2,rfl,rfl⟩;rw [mc] at aq;obtain ⟨xZ,jO⟩:∃ xZ,t.kids[k]?=some xZ:=⟨t.kids[k],by simp [aq]⟩;have hr:=BZ jO;have cI:=Go.Xp.uH jO;have hle:=Go.Xp.uG t.kids (k+1)
  have jJ:t.kids.take (k+1)=t.kids.take k++[xZ]:=by rw [take_add_one,jO];rfl
  have hX:((dW (rows.length+1) (t.kids.take k)).map rG).length=ay (t.kids.take k):=by rw [length_map,Go.Xp.yG]
  have Dw:((bO (rows.length+1) (t.kids.take k)).map fun z=>[GV.v (ii z)]).length=k:=by rw [length_map,Go.Xp.dQ,length_take];omega
  rw [jJ,Go.Xp.Kh,Go.Xp.Ip,Go.Xp.mf];simp only [bO,dW,ay,append_nil,Nat.add_zero,map_append,List.map_cons,List.map_nil,<-Nat.add_assoc]
  have Dv:=fun (rs:List (List GV)) a c h=>ih xZ ae (rows.length+1+ay (t.kids.take k)) rs a c h ae
  generalize (dW (rows.length+1) (t.kids.take k)).map rG=X at *;generalize ((bO (rows.length+1) (t.kids.take k)).map fun z=>[GV.v (ii z)])=ks at *;generalize ay (t.kids.take k)=s at *;subst Dw
  have jh:∀ r:List GV,(rows++r::X).length=rows.length+1+s:=fun r=>by simp;omega
  have bp:(rows++CR t (.slice a2 ks.length c2)::X)[rows.length]?=some (CR t (.slice a2 ks.length c2)):=by simp
  have eI:=jh (CR t (.slice a2 ks.length c2));unfold CR at bp eI |-;refine ab ?_;refine GL.jG 1 rfl rfl rfl rfl rfl rfl rfl rfl (by first | rfl | assumption) ⟨⟨by omega,by omega⟩,by decide⟩ ?_;intro a3 c3;refine bI ?_;refine ab ?_;refine om ?_;rw [Gs];simp only [bj];refine ab ?_;refine bJ [0] (Dv _ _ _ (jh _)) ?_;rintro _ _ ⟨a4,c4,rfl,rfl⟩;refine cj ?_;refine ab ?_;refine ⟨rfl,rfl,_,_,Wk.aw al,a4,c4,a3,c3,rfl,?_⟩;rw [List.append_assoc];rfl
 ·rintro _ _ ⟨a,c,a2,c2,rfl,rfl⟩;rw [mc,take_length];rw [Go.Xp.dZ,Go.Xp.Mb]
  have Dw:((bO (rows.length+1) t.kids).map fun z=>[GV.v (ii z)]).length=t.kids.length:=by rw [length_map,Go.Xp.dQ]
  have rb:ints (bO (rows.length+1) t.kids)=.sl 1 ((bO (rows.length+1) t.kids).map fun z=>[GV.v (ii z)]):=rfl;rw [List.map_cons];simp only [rG,CR];rw [rb,show rows.length+(ay t.kids+1)=rows.length+1+ay t.kids by omega];generalize (dW (rows.length+1) t.kids).map rG=X at *;generalize ((bO (rows.length+1) t.kids).map fun z=>[GV.v (ii z)])=ks at *;generalize ay t.kids=s at *
  have bp:∀ r:List GV,(rows++r::X)[rows.length]?=some r:=fun r=>by simp
  refine aD ?_;apply GW.wk
  ·apply Wk.KS (i:=0) (idx:=rows.length) (o:=4) (j:=1)
   ·rfl
   ·exact bp _
   ·rfl
   ·rfl
   ·rfl
  rw [Gs];simp only [bj];refine ab ?_;refine bG ?_;exact ⟨_,_,rfl,rfl⟩
end Go.Xg
namespace Go.Xg
open Go.RowKit Go.Xw Go.Proofs
open Go.Xp (Tok Nd T bb one levels fY dF dY dh cY kQ l6 nU Ar)
open Go.Sp Go.Im
attribute [local irreducible] GW GL GO YG GC GA aS aW
structure HW where
 aT:Option Addr
 cT:Nat
 aG:Option Addr
 cG:Nat
 aA:Option Addr
 cA:Nat
 aF:Option Addr
 cF:Nat
def qA (x:Ar):List GV:=[.v (sv x.name),.v (ii x.size)]
def pN (x:ah × List ah):List GV:=[.v (sv x.1),strs x.2,.v (ii 0)]
def kG (x:ah):List GV:=[.v (sv x)]
abbrev hx (st:PS) (h:HW):PX:=⟨.slice h.aT st.trees.length h.cT,.slice h.aG st.globals.length h.cG,.slice h.aA st.arrays.length h.cA,.slice h.aF st.fns.length h.cF,.slice none 0 0⟩
abbrev uA (p:RS) (st:PS) (h:HW):List Ob:=[bD p (hx st h),.vech 152 1 (jL st.trees) (.slice h.aT st.trees.length h.cT),.vech 9 1 (st.globals.map kG) (.slice h.aG st.globals.length h.cG),.vech 88 2 (st.arrays.map qA) (.slice h.aA st.arrays.length h.cA),.vech 60 3 (st.fns.map pN) (.slice h.aF st.fns.length h.cF)]
theorem wv {α β:Type} (g:α->β) (l:List α) (x:α):(l++[x]).map g=l.map g++[g x]:=by simp
theorem Oe {f:Nat} (p:RS) (st:PS) (h:HW) (q:RS) (dK:PS) (n:Nat) (hp:p.ok) (hn:st.le n) (hb:n+1<=1099511627776) (hs:is p 0 kQ=true) (hw:iW f p st=some (q,dK)) :
  GC Tryz.prog 206 [.loc 0 0] (uA p st h) (fun g aH=>g=.tup []/\∃ h',aH=uA q dK h'):=by
 obtain ⟨Dz,cB⟩:=id hp;obtain ⟨FE,bH,ZG,ZH⟩:=hn;unfold iW at hw;rw [if_pos hs] at hw;have hi:=jx p 0 kQ (hx st h) hp (by decide);rw [hs] at hi;have ji:=(jd hs).ok hp
 have dX:=qw p.next (hx st h) ji
 have dA:=(gy ji).ok ji;generalize (tok p.next 0).s=s at *
 generalize be p.next=p2 at *
 have rI:=jx p2 0 [91] (hx st h) dA (by decide)
 have aaa:¬ (p2.code=0/\is p2 0 [91]=true)->True:=fun _=>trivial
 cases hc:(p2.code==0) with
 | false =>
  have df:¬ p2.code=0:=by simpa using hc
  rw [if_neg (fun hh=>df hh.1)] at hw;cases hw
  have xJ:(st.globals.map kG).length+1=(st.globals++[s]).length:=by simp
  have oP:st.globals.map kG++[[GV.v (sv s)]]=(st.globals++[s]).map kG:=by simp [kG]
  have hlen:(st.globals.map kG).length+1<=1099511627776:=by simp;omega
  refine ai Tryz.func206 Tryz.ntmps206 ?_;refine U [0] (hi) ?_;refine U [0] (dX) ?_;refine GL.jG 2 rfl rfl rfl rfl rfl rfl rfl rfl (by first | rfl | assumption) ⟨⟨by omega,by omega⟩,by decide⟩ ?_;intro a c;refine bI ?_;rw [xJ,oP];refine ab ?_;refine bC ?_;refine ab ?_;refine U [0] (eD p2 [59] (hx { st with globals:=st.globals++[s] } { h with aG:=a,cG:=c }) dA) ?_;refine cK ?_;exact ⟨rfl,{ h with aG:=a,cG:=c },rfl⟩
 | true =>
  have df:p2.code=0:=by simpa using hc
  cases eB:is p2 0 [91] with
  | false =>
   rw [eB] at rI;rw [if_neg (fun hh=>by have:=hh.2;rw [eB] at this;cases this)] at hw;cases hw
   have xJ:(st.globals.map kG).length+1=(st.globals++[s]).length:=by simp
   have oP:st.globals.map kG++[[GV.v (sv s)]]=(st.globals++[s]).map kG:=by simp [kG]
   have hlen:(st.globals.map kG).length+1<=1099511627776:=by simp;omega
   refine ai Tryz.func206 Tryz.ntmps206 ?_;refine U [0] (hi) ?_;refine U [0] (dX) ?_;refine U [0] (rI) ?_;refine GL.jG 2 rfl rfl rfl rfl rfl rfl rfl rfl (by first | rfl | assumption) ⟨⟨by omega,by omega⟩,by decide⟩ ?_;intro a c;refine bI ?_;rw [xJ,oP];refine ab ?_;refine bC ?_;refine ab ?_;refine U [0] (eD p2 [59] (hx { st with globals:=st.globals++[s] } { h with aG:=a,cG:=c }) dA) ?_;refine cK ?_;exact ⟨rfl,{ h with aG:=a,cG:=c },rfl⟩
  | true =>
   rw [eB] at rI;rw [if_pos ⟨df,eB⟩] at hw;have zE:=(jd eB).ok dA;have aas:=dA.1;have Ub:=dA.2;have aat:=zE.1;have aau:=zE.2
   have ht:=qU p2.next 0 (hx st h) zE (by decide)
   have FV:=za p2.next (hx st h) zE
   have Fq:(tok p2.next 0).kind=1->p2.next.next.ok:=fun hk=>(dj (ry (p:=p2.next) (k:=0) (by rw [hk];decide))).ok zE
   generalize tok p2.next 0=tk at *
   by_cases hk:tk.kind=1
   ·rw [if_pos hk] at hw;cases hw
    have kY:(tk.kind != 1)=false:=by simpa using hk
    have QV:=Fq hk;have aav:=QV.1
    have FT:=eD p2.next.next [93] (hx st h) QV
    have ZN:=(bX QV [93]).ok QV
    generalize want p2.next.next [93]=p5 at *
    have xJ:(st.arrays.map qA).length+1=(st.arrays++[(⟨s,tk.n⟩:Ar)]).length:=by simp
    have oP:st.arrays.map qA++[[GV.v (sv s),.v (ii tk.n)]]=(st.arrays++[(⟨s,tk.n⟩:Ar)]).map qA:=by simp [qA]
    have hlen:(st.arrays.map qA).length+1<=1099511627776:=by simp;omega
    refine ai Tryz.func206 Tryz.ntmps206 ?_;refine U [0] (hi) ?_;refine U [0] (dX) ?_;refine U [0] (rI) ?_;refine U [0] (ht) ?_;refine bC ?_;refine ab ?_;refine U [0] (FT) ?_;refine GW.draw (.q 0 (.q 1 (.q 2 (.q 3 (.q 4 (.q 5 (.q 6 (.q 7 (.q 8 (.q 9 (.a 10 (.a 11 (.q 12 (.q 13 (.q 14 (.a 15 .nil)))))))))))))))) (by kernel_rfl) (by kernel_rfl) ?_;refine aj ?_;refine eC ?_;refine aj ?_;refine OA rfl rfl (GL.qh 3 rfl rfl rfl (by first | rfl | assumption) rfl rfl (by refine ⟨?_,?_⟩;(· show _+1<=_;omega);(· show (_+1) * _<=_;omega)) ?_);intro a c;refine dD ?_;generalize hX:chunk 1 2 _=X
    obtain rfl:X=[qA ⟨s,tk.n⟩]:=by rw [<-hX];rfl
    clear hX
    try (generalize hX:chunk 1 2 _=X;obtain rfl:X=[qA ⟨s,tk.n⟩]:=by rw [<-hX];rfl)
    rw [show (st.arrays.map qA).length+[qA ⟨s,tk.n⟩].length=(st.arrays++[(⟨s,tk.n⟩:Ar)]).length by simp,<-wv qA st.arrays ⟨s,tk.n⟩];refine aj ?_;refine ab ?_;refine bC ?_;refine ab ?_;refine U [0] (eD p5 [59] (hx { st with arrays:=st.arrays++[⟨s,tk.n⟩] } { h with aA:=a,cA:=c }) ZN) ?_;refine cK ?_;exact ⟨rfl,{ h with aA:=a,cA:=c },rfl⟩
   ·rw [if_neg hk] at hw;cases hw
    have kY:(tk.kind != 1)=true:=by simpa using hk
    refine ai Tryz.func206 Tryz.ntmps206 ?_;refine U [0] (hi) ?_;refine U [0] (dX) ?_;refine U [0] (rI) ?_;refine U [0] (ht) ?_;refine U [0] (FV) ?_;refine cK ?_;exact ⟨rfl,h,rfl⟩
end Go.Xg
namespace Go.Xg
open Go.RowKit Go.Xw Go.Proofs
open Go.Xp (Tok Nd T bb one levels fY dF dY dh cY kQ l6 nU Ar)
open Go.Sp Go.Im
attribute [local irreducible] GW GL GO YG GC GA aS aW
theorem Lb {f:Nat} (p:RS) (st:PS) (h:HW) (q:RS) (dK:PS) (hp:p.ok) (hs:is p 0 kQ=false) (gI:is p 0 l6=false) (hw:iW f p st=some (q,dK)) :
  GC Tryz.prog 206 [.loc 0 0] (uA p st h) (fun g aH=>g=.tup []/\∃ h',aH=uA q dK h'):=by
 unfold iW at hw;rw [if_neg (by rw [hs];decide),if_neg (by rw [gI];decide)] at hw;cases hw;have hi:=jx p 0 kQ (hx st h) hp (by decide);have rI:=jx p 0 l6 (hx st h) hp (by decide);have FV:=za p (hx st h) hp;rw [hs] at hi;rw [gI] at rI;refine ai Tryz.func206 Tryz.ntmps206 ?_;refine U [0] (hi) ?_;refine U [0] (rI) ?_;refine U [0] (FV) ?_;refine cK ?_;exact ⟨rfl,h,rfl⟩
abbrev VG (p:RS) (st:PS) (h:HW) (s:ah) (acc:List ah) (a:Option Addr) (c:Nat):List Ob:=uA p st h++[.box 60 [.v (sv s),.v (.slice a acc.length c),.v (ii 0)],.vech 9 1 (acc.map kG) (.slice a acc.length c)]
theorem Lc {f:Nat} (p:RS) (st:PS) (h:HW) (q:RS) (dK:PS) (n:Nat) (hp:p.ok) (hn:st.le n) (hb:n+f+4<=1099511627776) (vh:is p 0 kQ=false) (hs:is p 0 l6=true) (hw:iW f p st=some (q,dK)) :
  GC Tryz.prog 206 [.loc 0 0] (uA p st h) (fun g aH=>g=.tup []/\∃ h',aH=uA q dK h'):=by
 obtain ⟨Dz,cB⟩:=id hp;obtain ⟨FE,bH,ZG,ZH⟩:=hn;unfold iW at hw;rw [if_neg (by rw [vh];decide),if_pos hs] at hw;have ML:=jx p 0 kQ (hx st h) hp (by decide);rw [vh] at ML;have hi:=jx p 0 l6 (hx st h) hp (by decide);rw [hs] at hi;have ji:=(jd hs).ok hp
 have dX:=qw p.next (hx st h) ji
 have dA:=(gy ji).ok ji;generalize (tok p.next 0).s=s at *
 generalize be p.next=p2 at *
 have oc:=eD p2 [40] (hx st h) dA;have zE:=(bX dA [40]).ok dA;generalize want p2 [40]=p3 at *
 cases hm:od f [] p3 with
 | none=>rw [hm] at hw;cases hw
 | some r =>
 obtain ⟨l,q1⟩:=r;rw [hm] at hw;simp only at hw;refine ai Tryz.func206 Tryz.ntmps206 ?_;refine U [0] (ML) ?_;refine U [0] (hi) ?_;refine U [0] (dX) ?_;refine bC ?_;refine ab ?_;refine U [0] (oc) ?_;refine GW.wk (Wk.mU 9 1) ?_;refine GW.loop (fun z:Nat × List ah × RS=>z.1) (fun z fr Γ=>∃ a c,fr=[.loc 0 0,.aaF,.aaF,.aaF,.loc 5 0,.aaF,.aaF,.aaF,.aaF,.aaF,.aaF,.aaF,.aaF,.aaF,.aaF,.aaF,.aaF,.aaF,.aaF,.aaF,.aaF,.aaF,.aaF,.aaF,.aaF,.aaF,.aaF,.aaF,.aaF,.aaF,.aaF,.aaF,.aaF,.aaF,.aaF,.aaF,.aaF,.aaF,.aaF,.aaF,.aaF,.aaF,.aaF,.aaF,.aaF,.aaF,.aaF,.aaF,.aaF,.aaF,.aaF,.aaF,.aaF,.aaF,.aaF,.aaF,.aaF,.aaF,.aaF,.aaF,.aaF,.aaF,.aaF,.aaF,.aaF,.aaF,.aaF,.aaF,.aaF,.aaF,.aaF,.aaF,.aaF,.aaF,.aaF,.aaF,.aaF,.aaF,.aaF,.aaF,.aaF,.aaF,.aaF,.aaF,.aaF,.aaF,.aaF,.aaF,.aaF,.aaF,.aaF,.aaF,.aaF,.aaF,.aaF,.aaF,.aaF,.aaF,.aaF,.aaF,.aaF,.aaF,.aaF,.aaF,.aaF,.aaF,.aaF,.aaF,.aaF,.aaF,.aaF,.aaF,.aaF,.aaF,.aaF,.aaF,.aaF,.aaF,.aaF,.aaF,.aaF,.aaF,.aaF,.aaF,.aaF,.aaF,.aaF,.aaF,.aaF,.aaF,.aaF,.aaF,.aaF,.aaF,.aaF,.aaF,.aaF,.aaF,.aaF,.aaF,.aaF,.aaF,.aaF,.aaF,.aaF,.aaF,.aaF,.aaF,.aaF,.aaF,.aaF,.aaF,.aaF]/\Γ=VG z.2.2 st h s z.2.1 a c/\z.2.2.ok/\z.2.1.length+z.1<=f/\od z.1 z.2.1 z.2.2=some (l,q1)) (f,[],p3) ?_ ?_
 ·exact ⟨_,_,Wk.aw al,none,0,rfl,rfl,zE,by simp,hm⟩
 clear hm zE oc dA dX hi ML ji;rintro ⟨g,acc,p⟩ _ _ ⟨a,c,rfl,rfl,hp,zC,hm⟩;simp only at hp zC hm
 cases g with
 | zero=>cases hm
 | succ g =>
 rw [od] at hm;have hi:=jx p 0 [41] (hx st h) hp (by decide)
 by_cases hgo:p.code=0/\is p 0 [41]=false
 ·obtain ⟨hc,nJ⟩:=id hgo;rw [if_pos hgo] at hm;rw [nJ] at hi
  have df:(p.code==0)=true:=by simpa using hc
  by_cases h0:acc.length=0
  ·obtain rfl:=List.eq_nil_of_length_eq_zero h0
   have hd:decide ((0:Int) < (([]:List ah).length:Int))=false:=by decide
   rw [if_pos (by rfl)] at hm;have dX:=qw p (hx st h) hp;have dA:=(gy hp).ok hp;generalize (tok p 0).s=s2 at *;refine ab ?_;refine U [0] (hi) ?_;refine GW.draw (.q 0 (.q 1 (.q 2 (.a 3 (.a 4 (.a 5 (.q 6 (.a 7 .nil)))))))) (by kernel_rfl) (by kernel_rfl) ?_;refine aj ?_;refine az [0] (dX) ?_;refine eC ?_;refine aj ?_;refine OA rfl rfl (GL.qh 6 (news:=[kG s2]) rfl rfl rfl (by first | rfl | assumption) rfl rfl (by refine ⟨?_,?_⟩;(· show _+1<=_;omega);(· show (_+1) * _<=_;omega)) ?_);intro a2 c2;refine dD ?_;refine aj ?_;refine ab ?_;exact ⟨(g,[s2],be p),⟨_,_,Wk.aw al,a2,c2,rfl,rfl,dA,by simp at zC |-;omega,hm⟩,by simp⟩
  ·have hd:decide ((0:Int) < (acc.length:Int))=true:=by simpa using by omega
   rw [if_neg h0] at hm;have Z1:=eD p [44] (hx st h) hp;have lB:=(bX hp [44]).ok hp;generalize want p [44]=pw at *;have dX:=qw pw (hx st h) lB;have dA:=(gy lB).ok lB;generalize (tok pw 0).s=s2 at *
   have hlen:(acc.map kG).length<=f:=by simp;omega
   refine ab ?_;refine U [0] (hi) ?_;refine bC ?_;refine ab ?_;refine U [0] (Z1) ?_;refine GW.draw (.q 0 (.q 1 (.q 2 (.a 3 (.a 4 (.a 5 (.q 6 (.a 7 .nil)))))))) (by kernel_rfl) (by kernel_rfl) ?_;refine aj ?_;refine az [0] (dX) ?_;refine eC ?_;refine aj ?_;refine OA rfl rfl (GL.qh 6 (news:=[kG s2]) rfl rfl rfl (by first | rfl | assumption) rfl rfl (by refine ⟨?_,?_⟩;(· show _+1<=_;omega);(· show (_+1) * _<=_;omega)) ?_);intro a2 c2;refine dD ?_
   try rw [show (acc.map kG).length+1=(acc++[s2]).length by simp]
   rw [show (acc.map kG).length+[kG s2].length=(acc++[s2]).length by simp,<-wv kG acc s2];refine aj ?_;refine ab ?_;exact ⟨(g,acc++[s2],be pw),⟨_,_,Wk.aw al,a2,c2,rfl,rfl,dA,by simp;omega,hm⟩,by simp⟩
 ·rw [if_neg hgo] at hm
  obtain ⟨rfl,rfl⟩:acc=l/\want p [41]=q1:=by simpa using hm
  clear hm;have Q0:=eD p [41] (hx st h) hp;have W3:=(bX hp [41]).ok hp
  have eI:(jL st.trees).length+1<=1099511627776:=by rw [mc];omega
  have jh:(st.fns.map pN).length+1<=1099511627776:=by simp;omega
  by_cases hc:p.code=0
  ·have df:(p.code==0)=true:=by simpa using hc
   have nJ:is p 0 [41]=true:=by
    cases h3:is p 0 [41] with
    | true=>rfl
    | false=>exact absurd ⟨hc,h3⟩ hgo
   rw [nJ] at hi
   by_cases hqc:(want p [41]).code=0
   ·have O9:((want p [41]).code==0)=true:=by simpa using hqc
    rw [if_pos hqc] at hw
    cases ef:iS f (.block 1) (want p [41]) with
    | none=>rw [ef] at hw;cases hw
    | some r =>
    obtain ⟨t,qq⟩:=r;rw [ef] at hw
    obtain ⟨rfl,rfl⟩:qq=q/\_=dK:=by simpa using hw
    have dr:=(Xj f).block 1 _ t qq (hx st h) W3 ae ef;clear ef hqc;generalize want p [41]=pq at *;refine ab ?_;refine U [0] (hi) ?_;refine aU ?_;refine ab ?_;refine bC ?_;refine ab ?_;refine U [0] (Q0) ?_;refine GW.draw (.q 0 (.q 1 (.q 2 (.q 3 (.q 4 (.q 5 (.a 6 (.a 7 (.a 8 (.q 9 (.q 10 (.a 11 .nil)))))))))))) (by kernel_rfl) (by kernel_rfl) ?_;refine aj ?_;refine az [0] (dr) ?_;refine eC ?_;refine aj ?_;refine OA rfl rfl (GL.qh 1 (news:=[[qT t]]) rfl rfl rfl (by first | rfl | assumption) rfl rfl (by refine ⟨?_,?_⟩;(· show _+1<=_;omega);(· show (_+1) * _<=_;omega)) ?_);intro a3 c3;refine dD ?_
    try rw [show (jL st.trees).length+1=(st.trees++[t]).length by simp [mc]]
    rw [show (jL st.trees).length+[[qT t]].length=(st.trees++[t]).length by simp [mc],<-vw st.trees t];refine aj ?_;refine ab ?_;apply GW.wk
    ·apply Wk.yX (i:=5) (o:=1) (j:=6)
     ·rfl
     ·rfl
     ·rfl
     ·rfl
    simp only [oset,bj];refine GW.draw (.q 0 (.q 1 (.q 2 (.q 3 (.q 4 (.q 5 (.q 6 (.a 7 (.a 8 (.q 9 (.q 10 (.q 11 (.a 12 .nil))))))))))))) (by kernel_rfl) (by kernel_rfl) ?_;refine aj ?_;refine eC ?_;refine aj ?_;refine OA rfl rfl (GL.qh 4 (news:=[pN (s,acc)]) rfl rfl rfl (by first | rfl | assumption) rfl rfl (by refine ⟨?_,?_⟩;(· show _+1<=_;omega);(· show (_+1) * _<=_;omega)) ?_);intro a4 c4;refine dD ?_
    try rw [show (st.fns.map pN).length+1=(st.fns++[(s,acc)]).length by simp]
    rw [show (st.fns.map pN).length+[pN (s,acc)].length=(st.fns++[(s,acc)]).length by simp,<-wv pN st.fns (s,acc)];refine aj ?_;refine ab ?_;refine cK ?_;exact ⟨rfl,{ h with aT:=a3,cT:=c3,aF:=a4,cF:=c4 },rfl⟩
   ·have O9:((want p [41]).code==0)=false:=by simpa using hqc
    rw [if_neg hqc] at hw;cases hw;clear hqc;generalize want p [41]=pq at *;refine ab ?_;refine U [0] (hi) ?_;refine aU ?_;refine ab ?_;refine bC ?_;refine ab ?_;refine U [0] (Q0) ?_;refine cK ?_;exact ⟨rfl,h,rfl⟩
  ·have df:(p.code==0)=false:=by simpa using hc
   by_cases hqc:(want p [41]).code=0
   ·have O9:((want p [41]).code==0)=true:=by simpa using hqc
    rw [if_pos hqc] at hw
    cases ef:iS f (.block 1) (want p [41]) with
    | none=>rw [ef] at hw;cases hw
    | some r =>
    obtain ⟨t,qq⟩:=r;rw [ef] at hw
    obtain ⟨rfl,rfl⟩:qq=q/\_=dK:=by simpa using hw
    have dr:=(Xj f).block 1 _ t qq (hx st h) W3 ae ef;clear ef hqc;generalize want p [41]=pq at *;refine ab ?_;refine aU ?_;refine ab ?_;refine bC ?_;refine ab ?_;refine U [0] (Q0) ?_;refine GW.draw (.q 0 (.q 1 (.q 2 (.q 3 (.q 4 (.q 5 (.a 6 (.a 7 (.a 8 (.q 9 (.q 10 (.a 11 .nil)))))))))))) (by kernel_rfl) (by kernel_rfl) ?_;refine aj ?_;refine az [0] (dr) ?_;refine eC ?_;refine aj ?_;refine OA rfl rfl (GL.qh 1 (news:=[[qT t]]) rfl rfl rfl (by first | rfl | assumption) rfl rfl (by refine ⟨?_,?_⟩;(· show _+1<=_;omega);(· show (_+1) * _<=_;omega)) ?_);intro a3 c3;refine dD ?_
    try rw [show (jL st.trees).length+1=(st.trees++[t]).length by simp [mc]]
    rw [show (jL st.trees).length+[[qT t]].length=(st.trees++[t]).length by simp [mc],<-vw st.trees t];refine aj ?_;refine ab ?_;apply GW.wk
    ·apply Wk.yX (i:=5) (o:=1) (j:=6)
     ·rfl
     ·rfl
     ·rfl
     ·rfl
    simp only [oset,bj];refine GW.draw (.q 0 (.q 1 (.q 2 (.q 3 (.q 4 (.q 5 (.q 6 (.a 7 (.a 8 (.q 9 (.q 10 (.q 11 (.a 12 .nil))))))))))))) (by kernel_rfl) (by kernel_rfl) ?_;refine aj ?_;refine eC ?_;refine aj ?_;refine OA rfl rfl (GL.qh 4 (news:=[pN (s,acc)]) rfl rfl rfl (by first | rfl | assumption) rfl rfl (by refine ⟨?_,?_⟩;(· show _+1<=_;omega);(· show (_+1) * _<=_;omega)) ?_);intro a4 c4;refine dD ?_
    try rw [show (st.fns.map pN).length+1=(st.fns++[(s,acc)]).length by simp]
    rw [show (st.fns.map pN).length+[pN (s,acc)].length=(st.fns++[(s,acc)]).length by simp,<-wv pN st.fns (s,acc)];refine aj ?_;refine ab ?_;refine cK ?_;exact ⟨rfl,{ h with aT:=a3,cT:=c3,aF:=a4,cF:=c4 },rfl⟩
   ·have O9:((want p [41]).code==0)=false:=by simpa using hqc
    rw [if_neg hqc] at hw;cases hw;clear hqc;generalize want p [41]=pq at *;refine ab ?_;refine aU ?_;refine ab ?_;refine bC ?_;refine ab ?_;refine U [0] (Q0) ?_;refine cK ?_;exact ⟨rfl,h,rfl⟩
end Go.Xg
namespace Go.Xg
open Go.RowKit Go.Xw Go.Proofs
open Go.Xp (Tok Nd T bb one levels fY dF dY dh cY kQ l6 nU Ar ay aK dW ly)
open Go.Sp Go.Im
attribute [local irreducible] GW GL GO YG GC GA aS aW
theorem SZ {f:Nat} (p:RS) (st:PS) (h:HW) (q:RS) (dK:PS) (n:Nat) (hp:p.ok) (hn:st.le n) (hb:n+f+4<=1099511627776) (hw:iW f p st=some (q,dK)) :
  GC Tryz.prog 206 [.loc 0 0] (uA p st h) (fun g aH=>g=.tup []/\∃ h',aH=uA q dK h'):=by
 cases h1:is p 0 kQ with
 | true=>exact Oe p st h q dK n hp hn ae h1 hw
 | false =>
  cases h2:is p 0 l6 with
  | true=>exact Lc p st h q dK n hp hn hb h1 h2 hw
  | false=>exact Lb p st h q dK hp h1 h2 hw
def mD (fns:List (ah × List ah)) (trees:List T) (k:Nat):List (List GV):=fns.mapIdx fun i x=>[.v (sv x.1),strs x.2,.v (ii (if i < k then ((ay (trees.take i):Nat):Int) else 0))]
theorem Gr:∀ (rows:List (List GV)) (i j o:Nat) (g:GV),(du rows i o g)[j]?=if j=i then (rows[j]?).map (fun r=>bj r o g) else rows[j]?
 | [],i,j,o,g=>by simp [du]
 | r::rs,0,0,o,g=>by simp [du]
 | r::rs,0,j+1,o,g=>by simp [du]
 | r::rs,i+1,0,o,g=>by simp [du]
 | r::rs,i+1,j+1,o,g=>by
  rw [du,List.getElem?_cons_succ,Gr rs i j o g];simp
theorem Sz (fns:List (ah × List ah)) (trees:List T):fns.map pN=mD fns trees 0:=by
 apply ext_getElem?;intro i;rw [mD,getElem?_mapIdx,getElem?_map]
 cases fns[i]? <;> simp [pN]
theorem NK (fns:List (ah × List ah)) (trees:List T) (k:Nat):du (mD fns trees k) k 2 (.v (ii ((ay (trees.take k):Nat):Int)))=mD fns trees (k+1):=by
 apply ext_getElem?;intro i;rw [Gr,mD,mD,getElem?_mapIdx,getElem?_mapIdx]
 by_cases h:i=k
 ·subst h;rw [if_pos rfl]
  cases fns[i]? with
  | none=>rfl
  | some x=>simp [bj]
 ·rw [if_neg h]
  cases fns[i]? with
  | none=>rfl
  | some x =>
   have:(i < k)=(i < k+1):=by simp;omega
   simp [this]
theorem PM {fns:List (ah × List ah)} {trees:List T} {k:Nat} (j:Nat) (h:k < fns.length):∃ x,(mD fns trees j)[k]?=some [.v (sv x.1),strs x.2,.v (ii (if k < j then ((ay (trees.take k):Nat):Int) else 0))]/\fns[k]?=some x:=by
 refine ⟨fns[k],?_,by simp [h]⟩;rw [mD,getElem?_mapIdx];simp [h]
def Jb (q:RS) (st:PS):GV :=
 if q.code=0 then
  if ay st.trees > 800 then .tup [.agg [.sl 1 [],.sl 2 [],.sl 3 [],.sl 5 []],.v (ii 10),.v (ii 0)]
  else .tup [.agg [.sl 1 (st.globals.map kG),.sl 2 (st.arrays.map qA),.sl 3 (mD st.fns st.trees st.trees.length),.sl 5 ((dW 0 st.trees).map rG)],.v (ii 0),.v (ii 0)]
 else .tup [.agg [.sl 1 [],.sl 2 [],.sl 3 [],.sl 5 []],.v (ii q.code),.v (ii q.at_)]
theorem HI {G f:Nat} (ts:List Tok) (e:Int) (q:RS) (st:PS) (hl:ts.length<=1099511627776) (hb:G+f+4<=1099511627776) (hz:q.code=0->ay st.trees<=1099511627776) (h:my G f ⟨ts,0,e,0,0⟩ .empty=some (q,st)) :
  GF Tryz.prog 163 [ic ts,.v (ii e)] [] (Jb q st) []:=by
 unfold Jb;refine ai Tryz.func163 Tryz.ntmps163 ?_;refine GW.wk (Wk.mU 152 1) ?_;refine GW.wk (Wk.mU 9 1) ?_;refine GW.wk (Wk.mU 88 2) ?_;refine GW.wk (Wk.mU 60 3) ?_;refine GW.loop (fun z:Nat × RS × PS=>z.1) (fun z fr Γ=>∃ h n,fr=[ic ts,.v (ii e),.aaF,.aaF,.loc 0 0,.v (ii 0),.v (ii 0),.loc 1 0,.aaF,.aaF,.aaF,.aaF,.aaF,.aaF,.aaF,.aaF,.aaF,.aaF,.aaF,.aaF,.aaF,.aaF,.aaF,.aaF,.aaF,.aaF,.aaF,.aaF,.aaF,.aaF,.aaF,.aaF,.aaF,.aaF,.aaF,.aaF,.aaF,.aaF,.aaF,.aaF,.aaF,.aaF,.aaF,.aaF,.aaF,.aaF,.aaF,.aaF,.aaF,.aaF,.aaF,.aaF,.aaF,.aaF,.aaF,.aaF,.aaF,.aaF,.aaF,.aaF,.aaF,.aaF,.aaF,.aaF,.aaF,.aaF,.aaF,.aaF,.aaF,.aaF,.aaF,.aaF,.aaF,.aaF,.aaF,.aaF,.aaF,.aaF,.aaF]/\Γ=.box 34 [.v (.slice none 0 0),.v (.slice none 0 0),.v (.slice none 0 0),.v (.slice none 0 0)]::uA z.2.1 z.2.2 h/\z.2.1.l=ts/\z.2.1.ok/\z.2.2.le n/\n+z.1<=G/\my z.1 f z.2.1 z.2.2=some (q,st)) (G,⟨ts,0,e,0,0⟩,.empty) ?_ ?_
 ·exact ⟨_,_,Wk.aw al,⟨none,0,none,0,none,0,none,0⟩,0,rfl,rfl,rfl,⟨Nat.zero_le _,hl⟩,⟨Nat.le_refl _,Nat.le_refl _,Nat.le_refl _,rfl⟩,by simp,h⟩
 clear h;rintro ⟨g,p,s⟩ _ _ ⟨hd,n,rfl,rfl,cB,hp,hn,zC,h⟩;simp only at cB hp hn zC h
 cases g with
 | zero=>cases h
 | succ g =>
 rw [my] at h
 by_cases hgo:p.code=0/\p.i < p.l.length
 ·rw [if_pos hgo] at h
  have df:(p.code==0)=true:=by simpa using hgo.1
  have aq:decide ((p.i:Int) < ((ts.map cU).length:Int))=true:=by
   have:=hgo.2;rw [cB] at this;simpa using this
  cases hw:iW f p s with
  | none=>rw [hw] at h;cases h
  | some r =>
   obtain ⟨p2,s2⟩:=r;rw [hw] at h;simp only at h;have ki:=V2 hp hw;refine ab ?_;refine bJ [1,2,3,4,5] (SZ p s hd p2 s2 n hp hn ae hw) ?_;rintro _ _ ⟨rfl,dc,rfl⟩;refine cj ?_;refine ab ?_;exact ⟨(g,p2,s2),⟨_,_,Wk.aw al,dc,n+1,rfl,rfl,by rw [ki.1,cB],ki.ok hp,V0 hw hn,by show n+1+g<=G;omega,h⟩,by simp⟩
 ·rw [if_neg hgo] at h
  obtain ⟨rfl,rfl⟩:p=q/\s=st:=by simpa using h
  clear h
  have hex:∀ b1 b2:Bool,(p.code==0)=b1->decide ((p.i:Int) < ((ts.map cU).length:Int))=b2->b1=true->b2=false:=fun b1 b2 h1 h2 h3=>by
   subst h3
   cases b2 with
   | false=>rfl
   | true=>exact absurd ⟨by simpa using h1,by rw [cB];simpa using h2⟩ hgo
  by_cases hc:p.code=0
  ·rw [if_pos hc];have hz:=hz hc
   have df:(p.code==0)=true:=by simpa using hc
   have jt:(p.code != 0)=false:=by simpa using hc
   have aq:=hex _ _ df rfl rfl;have mi:=hn.trees;have hlf:=hn.fns;have sP:=mc s.trees;have pB:=Go.Xp.b7 s.trees;refine ab ?_;refine aU ?_;refine ab ?_;refine GW.wk (by apply Wk.nB (t:=52) (i:=2) <;> rfl) ?_;simp only [oset,bj];refine ab ?_;refine GW.wk (Wk.mU 91 5) ?_;rw [Sz s.fns s.trees]
   refine GW.range s.trees.length (fun k fr Γ=>∃ aN cN,fr=[.aaF,.aaF,.aaF,.aaF,.loc 0 0,.v (ii 0),.v (ii 0),.aaF,.loc 6 0,.aaF,.aaF,.aaF,.aaF,.aaF,.aaF,.aaF,.aaF,.aaF,.aaF,.aaF,.aaF,.aaF,.aaF,.aaF,.aaF,.aaF,.aaF,.aaF,.aaF,.aaF,.aaF,.aaF,.aaF,.aaF,.aaF,.aaF,.aaF,.aaF,.aaF,.aaF,.aaF,.aaF,.aaF,.aaF,.aaF,.aaF,.aaF,.aaF,.aaF,.aaF,.aaF,.aaF,.sl 1 (jL s.trees),.v (ii (s.trees.length:Int)),.v (ii (k:Nat)),.aaF,.aaF,.aaF,.aaF,.aaF,.aaF,.aaF,.aaF,.aaF,.aaF,.aaF,.aaF,.aaF,.aaF,.aaF,.aaF,.aaF,.aaF,.aaF,.aaF,.aaF,.aaF,.aaF,.aaF]/\Γ=[.box 34 [.v (.slice none 0 0),.v (.slice none 0 0),.v (.slice none 0 0),.v (.slice none 0 0)],bD p (hx s hd),.vec 152 1 (jL s.trees).length (jL s.trees),.vech 9 1 (s.globals.map kG) (.slice hd.aG s.globals.length hd.cG),.vech 88 2 (s.arrays.map qA) (.slice hd.aA s.arrays.length hd.cA),.vech 60 3 (mD s.fns s.trees k) (.slice hd.aF s.fns.length hd.cF),
    .box 34 [.v (.slice hd.aG s.globals.length hd.cG),.v (.slice hd.aA s.arrays.length hd.cA),.v (.slice hd.aF s.fns.length hd.cF),.v (.slice aN (ay (s.trees.take k)) cN)],.vech 91 5 ((dW 0 (s.trees.take k)).map rG) (.slice aN (ay (s.trees.take k)) cN)]) ?_ ae ?_ ?_ ?_
   ·exact ⟨_,_,Wk.aw al,none,0,rfl,rfl⟩
   ·rintro k _ _ ⟨aN,cN,rfl,rfl⟩;exact ⟨rfl,rfl,rfl⟩
   ·rintro k _ _ aq ⟨aN,cN,rfl,rfl⟩;obtain ⟨t,ht⟩:∃ t,s.trees[k]?=some t:=⟨s.trees[k],by simp [aq]⟩;have hr:=BZ ht;have cI:=Go.Xp.uH ht;have hle:=Go.Xp.uG s.trees (k+1)
    have jJ:s.trees.take (k+1)=s.trees.take k++[t]:=by rw [take_add_one,ht];rfl
    obtain ⟨x,nK,IH⟩:=PM (fns:=s.fns) (trees:=s.trees) (k:=k) k ae;rw [if_neg (Nat.lt_irrefl k)] at nK;have vg:k < (mD s.fns s.trees k).length:=(List.getElem?_eq_some_iff.1 nK).1
    have hX:((dW 0 (s.trees.take k)).map rG).length=ay (s.trees.take k):=by rw [length_map,Go.Xp.yG]
    have iU:=Md (aK t) t (Nat.le_refl _) (ay (s.trees.take k)) _ aN cN hX ae;rw [<-NK s.fns s.trees k,jJ,Go.Xp.Ip,Go.Xp.mf];simp only [dW,ay,append_nil,Nat.add_zero,Nat.zero_add,map_append];generalize (dW 0 (s.trees.take k)).map rG=X at *;generalize ay (s.trees.take k)=z at *;generalize mD s.fns s.trees k=R at *;refine ab ?_;refine om ?_;refine ab ?_;refine bJ [7] (iU) ?_;rintro _ _ ⟨a5,c5,rfl,rfl⟩;refine cj ?_;refine ab ?_;exact ⟨rfl,rfl,_,_,Wk.aw al,a5,c5,rfl,rfl⟩
   ·rintro _ _ ⟨aN,cN,rfl,rfl⟩;rw [take_length]
    have hX:((dW 0 s.trees).map rG).length=ay s.trees:=by rw [length_map,Go.Xp.yG]
    by_cases h8:ay s.trees > 800
    ·rw [if_pos h8]
     have Y8:decide ((800:Int) < (ay s.trees:Int))=true:=by simpa using by omega
     generalize ay s.trees=z at *;refine ab ?_;refine B9 ?_;exact ⟨_,iL,rfl,rfl⟩
    ·rw [if_neg h8]
     have Y8:decide ((800:Int) < (((dW 0 s.trees).map rG).length:Int))=false:=by rw [hX];simpa using by omega
     refine aD ?_;refine GW.wk (by apply Wk.yX (i:=6) (o:=0) (j:=3) <;> rfl) ?_;simp only [oset,bj];refine GW.wk (by apply Wk.yX (i:=6) (o:=1) (j:=4) <;> rfl) ?_;simp only [oset,bj];refine GW.wk (by apply Wk.yX (i:=6) (o:=2) (j:=5) <;> rfl) ?_;simp only [oset,bj];refine GW.wk (by apply Wk.yX (i:=6) (o:=3) (j:=7) <;> rfl) ?_;simp only [oset,bj];refine ab ?_;refine lE ?_;exact ⟨rfl,rfl⟩
  ·rw [if_neg hc]
   have df:(p.code==0)=false:=by simpa using hc
   have jt:(p.code != 0)=true:=by simpa using hc
   refine ab ?_;refine aU ?_;refine ab ?_;refine GW.draw (.q 0 (.q 1 (.q 2 (.q 3 (.q 4 (.q 5 (.q 6 (.q 7 (.q 8 (.a 9 (.q 10 (.q 11 .nil)))))))))))) (by kernel_rfl) (by kernel_rfl) ?_;refine aj ?_;refine ab ?_;refine B9 ?_;exact ⟨_,iL,rfl,rfl⟩
end Go.Xg
namespace Go.Xg
open Go.RowKit Go.Xw Go.Proofs
open Go.Xp (Tok Nd T)
open Go.Sp (small dM dH bo eR en dw)
open Go.Im (ll jw cl fX fC jr jA pQ jR mn pE)
attribute [local irreducible] GW GL GO YG GC GA aS aW
theorem yC (c:UInt8):GF Tryz.prog 186 [Df c] [] (.v (.bool (dM c))) []:=by
 unfold dM;refine db Tryz.func186 Tryz.ntmps186 ?_
 cases h:decide ((48:Int)<=(c.toNat:Int))
 all_goals
  exact av
theorem AW (c:UInt8):GF Tryz.prog 146 [Df c] [] (.v (.bool (small c))) []:=by
 unfold small;refine db Tryz.func146 Tryz.ntmps146 ?_
 cases h:decide ((97:Int)<=(c.toNat:Int))
 all_goals
  exact av
theorem KA (c:UInt8):GF Tryz.prog 148 [Df c] [] (.v (.bool (dH c))) []:=by
 unfold dH;have hs:=AW c;have hd:=yC c;generalize small c=b1 at *;generalize dM c=b2 at *;refine ai Tryz.func148 Tryz.ntmps148 ?_;refine gB [] (hs) ?_
 cases b1 with
 | true =>
  exact av
 | false =>
  cases h1:decide ((65:Int)<=(c.toNat:Int)) with
  | true =>
   cases h2:decide ((c.toNat:Int)<=90) with
   | true =>
    exact av
   | false =>
    refine ab ?_;refine gB [] (hd) ?_
    cases b2 with
    | true =>
     exact av
    | false =>
     exact av
  | false =>
   refine ab ?_;refine gB [] (hd) ?_
   cases b2 with
   | true =>
    exact av
   | false =>
    exact av
theorem Ri (test:FuncId) [hf:aC Tryz.prog test] (p:UInt8->Bool) (ht:∀ c,GF Tryz.prog test [Df c] [] (.v (.bool (p c))) []) (s:ah) (a:Nat) (hs:s.length<=1099511627776) (ha:a<=s.length) :
  GF Tryz.prog 147 [.v (sv s),.v (ii (a:Nat)),.v (.func (.func test) #[] #[])] [] (.v (ii (Go.Sp.run s p (s.length+1) a:Nat))) []:=by
 generalize hR:Go.Sp.run s p (s.length+1) a=R;refine ai Tryz.func147 Tryz.ntmps147 ?_;refine GW.loop (fun x:Nat × Nat=>x.1) (fun x fr Γ=>fr=[.v (sv s),.v (ii (x.2:Nat)),.v (.func (.func test) #[] #[]),.aaF,.aaF,.aaF,.aaF,.aaF,.aaF,.aaF,.aaF,.aaF,.aaF,.aaF,.aaF,.aaF,.aaF,.aaF,.aaF,.aaF,.aaF]/\Γ=[]/\x.2<=s.length/\s.length < x.1+x.2/\Go.Sp.run s p x.1 x.2=R) (s.length+1,a) ?_ ?_
 ·exact ⟨_,_,Wk.aw al,rfl,rfl,ha,by simp only;omega,hR⟩
 ·rintro ⟨f,a⟩ _ _ ⟨rfl,rfl,ha,Zq,h⟩;simp only at ha Zq h
  cases f with
  | zero=>omega
  | succ f =>
  rw [Go.Sp.run] at h
  cases hc:s[a]? with
  | none =>
   rw [hc] at h;simp only at h;subst h;have kX:s.length<=a:=List.getElem?_eq_none_iff.1 hc
   have hd:decide ((a:Int) < (s.length:Int))=false:=by simpa using kX
   refine ab ?_;refine aU ?_;exact av
  | some c =>
   rw [hc] at h;simp only at h;have aq:a < s.length:=(List.getElem?_eq_some_iff.1 hc).1
   have hd:decide ((a:Int) < (s.length:Int))=true:=by simpa using aq
   have lW:=ht c
   cases hdc:p c with
   | false =>
    rw [hdc] at lW;rw [if_neg (by rw [hdc];simp)] at h;subst h;refine ab ?_;refine ig [] (lW) ?_;refine ab ?_;refine aU ?_;exact av
   | true =>
    rw [hdc] at lW;rw [if_pos hdc] at h;refine ab ?_;refine ig [] (lW) ?_;refine ab ?_;exact ⟨(f,a+1),⟨_,_,Wk.aw al,rfl,rfl,aq,by simp only;omega,h⟩,by simp⟩
theorem NQ:Go.Lib.asciiSpaceTab=vF:=by decide
theorem L8:Go.Lib.fields [105,110,116,32,118,97,114,32,102,117,110,99,32,105,102,32,101,108,115,101,32,119,104,105,108,101,32,114,101,116,117,114,110,32,124,124,32,38,38,32,61,61,32,33,61,32,60,61,32,62,61,32,60,60,32,62,62,32,40,32,41,32,123,32,125,32,91,32,93,32,44,32,59,32,61,32,60,32,62,32,43,32,45,32,42,32,47,32,37,32,38,32,124,32,94,32,33,32,126]=ll:=by decide +kernel
end Go.Xg
namespace Go.Xg
open Go.RowKit Go.Xw Go.Proofs
open Go.Xp (Tok Nd T)
open Go.Sp (small dM dH bo eR en dw)
open Go.Im (ll jw cl fX fC jr jA pQ jR mn pE)
attribute [local irreducible] GW GL GO YG GC GA aS aW
theorem lT.AY {P:Program} {f:FuncId} {vs:List Value} {w:World} {R:Value->World->Prop} (h:Calls P f vs.toArray w fun e w'=>∃ v,e=.returned v/\R v w'):lT P f vs w R:=h
theorem Oq:GF Tryz.prog 216 [.v (sv [105,110,116,32,118,97,114,32,102,117,110,99,32,105,102,32,101,108,115,101,32,119,104,105,108,101,32,114,101,116,117,114,110,32,124,124,32,38,38,32,61,61,32,33,61,32,60,61,32,62,61,32,60,60,32,62,62,32,40,32,41,32,123,32,125,32,91,32,93,32,44,32,59,32,61,32,60,32,62,32,43,32,45,32,42,32,47,32,37,32,38,32,124,32,94,32,33,32,126])] [] (strs ll) []:=by
 have:=GF.Yq (P:=Tryz.prog) (f:=216) (vs:=[sv [105,110,116,32,118,97,114,32,102,117,110,99,32,105,102,32,101,108,115,101,32,119,104,105,108,101,32,114,101,116,117,114,110,32,124,124,32,38,38,32,61,61,32,33,61,32,60,61,32,62,61,32,60,60,32,62,62,32,40,32,41,32,123,32,125,32,91,32,93,32,44,32,59,32,61,32,60,32,62,32,43,32,45,32,42,32,47,32,37,32,38,32,124,32,94,32,33,32,126]]) (us:=ll.map sv) (E:=9) fun K β w ht hf=>?_
 ·rw [List.map_map] at this;exact this
 ·obtain ⟨E,z,kP⟩:=so.all ht hf ht.spc (zs:=vF.map fun z=>Value.int .u8 z) (by decide) (fun m o x hx=>by
   rw [getElem?_map] at hx;unfold xg;rw [if_neg (by decide),if_neg (by decide),if_pos rfl]
   cases hs:vF[o]? with
   | none=>rw [hs] at hx;cases hx
   | some y=>rw [hs] at hx;cases hx;rfl)
  have AM:Go.Lib.TabIs Tryz.prog w "strings.asciiSpace" .u8 Go.Lib.asciiSpaceTab:=by
   unfold Go.Lib.TabIs World.var?;rw [show Tryz.prog.globalNamed "strings.asciiSpace" = some 0 by kernel_rfl,NQ];simp only [Option.bind_some,kP]
  have h:=Tryz.strings_Fields_laid ⟨[105,110,116,32,118,97,114,32,102,117,110,99,32,105,102,32,101,108,115,101,32,119,104,105,108,101,32,114,101,116,117,114,110,32,124,124,32,38,38,32,61,61,32,33,61,32,60,61,32,62,61,32,60,60,32,62,62,32,40,32,41,32,123,32,125,32,91,32,93,32,44,32,59,32,61,32,60,32,62,32,43,32,45,32,42,32,47,32,37,32,38,32,124,32,94,32,33,32,126].toArray⟩ w (by decide) (fun j b hb=>by
   have:∀ b∈([105,110,116,32,118,97,114,32,102,117,110,99,32,105,102,32,101,108,115,101,32,119,104,105,108,101,32,114,101,116,117,114,110,32,124,124,32,38,38,32,61,61,32,33,61,32,60,61,32,62,61,32,60,60,32,62,62,32,40,32,41,32,123,32,125,32,91,32,93,32,44,32,59,32,61,32,60,32,62,32,43,32,45,32,42,32,47,32,37,32,38,32,124,32,94,32,33,32,126]:List UInt8),b.toNat < 128:=by decide
   exact this b (mem_of_getElem? hb)) AM
  refine lT.AY (Calls.mono h ?_);rintro e w' ⟨h1,h2⟩;rw [show ((⟨[105,110,116,32,118,97,114,32,102,117,110,99,32,105,102,32,101,108,115,101,32,119,104,105,108,101,32,114,101,116,117,114,110,32,124,124,32,38,38,32,61,61,32,33,61,32,60,61,32,62,61,32,60,60,32,62,62,32,40,32,41,32,123,32,125,32,91,32,93,32,44,32,59,32,61,32,60,32,62,32,43,32,45,32,42,32,47,32,37,32,38,32,124,32,94,32,33,32,126].toArray⟩:ByteArray).data.toList)=[105,110,116,32,118,97,114,32,102,117,110,99,32,105,102,32,101,108,115,101,32,119,104,105,108,101,32,114,101,116,117,114,110,32,124,124,32,38,38,32,61,61,32,33,61,32,60,61,32,62,61,32,60,60,32,62,62,32,40,32,41,32,123,32,125,32,91,32,93,32,44,32,59,32,61,32,60,32,62,32,43,32,45,32,42,32,47,32,37,32,38,32,124,32,94,32,33,32,126] from rfl,L8] at h1 h2;exact ⟨_,h1,by rw [length_map],h2⟩
theorem SE:GF Tryz.prog 187 [] [] (strs ll) []:=by
 have h:=Oq;generalize ll=l at *;refine ai Tryz.func187 Tryz.ntmps187 ?_;refine U [] (h) ?_;exact ao
theorem AR (s:ah):GF Tryz.prog 149 [.v (sv s)] [] (.v (.bool (jw s))) []:=by
 have h:=SE;have hc:=jW ll s (by decide);unfold jw;generalize ll=l at *;refine ai Tryz.func149 Tryz.ntmps149 ?_;refine U [] (h) ?_;refine U [] (hc) ?_;exact ao
end Go.Xg
namespace Go.Xg
open Go.RowKit Go.Xw Go.Proofs
open Go.Xp (Tok Nd T)
open Go.Sp (small dM dH bo eR en dw)
open Go.Im (ll jw cl fX fC jr jA pQ jR mn pE)
attribute [local irreducible] GW GL GO YG GC GA aS aW
theorem PU (s:ah) (a:Nat) (c:UInt8) (hs:s.length<=1099511627776) (hc:s[a]?=some c):GF Tryz.prog 238 [.v (sv s),.v (ii (a:Nat))] [] (.v (sv (fC s a))) []:=by
 have aq:a < s.length:=(List.getElem?_eq_some_iff.1 hc).1;have iC:=AW c;refine ai Tryz.func238 Tryz.ntmps238 ?_;refine GW.loop (fun x:Nat=>x) (fun x fr Γ=>fr=[.v (sv s),.v (ii (a:Nat)),.aaF,.aaF,.aaF,.v (ii (x:Nat)),.aaF,.aaF,.aaF,.aaF,.aaF,.aaF,.aaF,.aaF,.aaF,.aaF,.aaF,.aaF,.aaF,.aaF,.aaF,.aaF,.aaF,.aaF,.aaF,.aaF,.aaF,.aaF,.aaF,.aaF,.aaF,.aaF,.aaF,.aaF,.aaF,.aaF,.aaF,.aaF]/\Γ=[]/\x<=2/\∀ j,x < j->j<=2->fX s a j=false) 2 ?_ ?_
 ·exact ⟨_,_,Wk.aw al,rfl,rfl,Nat.le_refl _,fun j h1 h2=>by omega⟩
 ·rintro x _ _ ⟨rfl,rfl,hx,bR⟩
  have qO:∀ k,x=k+1->fX s a x=false->∀ j,k < j->j<=2->fX s a j=false:=fun k hk ht j h1 h2=>by
   by_cases hj:j=x
   ·rw [hj];exact ht
   ·exact bR j ae h2
  have N3:∀ k,fX s a k=(decide (a+k<=s.length)&&!(small c)&&jw (cl s a (a+k))):=fun k=>by unfold fX;rw [hc]
  match x,hx,bR,qO with
  | 0,_,bR,_ =>
   have e:fC s a=[]:=by unfold fC;rw [bR 2 ae ae,bR 1 ae ae];rfl
   rw [e];refine ab ?_;refine aU ?_;exact av
  | 1,_,bR,qO =>
   have hle:decide (((a+1:Nat):Int)<=(s.length:Int))=true:=by simpa using by omega
   have hb:a<=a+1/\a+1<=s.length:=by omega
   have ht:=N3 1;rw [show decide (a+1<=s.length)=true from decide_eq_true ae] at ht
   cases hsc:small c with
   | true =>
    rw [hsc] at iC ht;refine ab ?_;refine U [] (iC) ?_;exact ⟨0,⟨_,_,Wk.aw al,rfl,rfl,by omega,qO 0 rfl ht⟩,by omega⟩
   | false =>
    rw [hsc] at iC ht;have dE:=AR (cl s a (a+1))
    cases hg:jw (cl s a (a+1)) with
    | false =>
     rw [hg] at dE ht;refine ab ?_;refine U [] (iC) ?_;refine U [] (dE) ?_;exact ⟨0,⟨_,_,Wk.aw al,rfl,rfl,by omega,qO 0 rfl ht⟩,by omega⟩
    | true =>
     rw [hg] at dE ht
     have e:fC s a=cl s a (a+1):=by unfold fC;rw [bR 2 ae ae,ht];rfl
     rw [e];refine ab ?_;refine U [] (iC) ?_;refine U [] (dE) ?_;exact ao
  | 2,_,bR,qO =>
   have ht:=N3 2
   by_cases jh:a+2<=s.length
   ·have hle:decide (((a+2:Nat):Int)<=(s.length:Int))=true:=by simpa using by omega
    have hb:a<=a+2/\a+2<=s.length:=by omega
    rw [show decide (a+2<=s.length)=true by simpa using jh] at ht
    cases hsc:small c with
    | true =>
     rw [hsc] at iC ht;refine ab ?_;refine U [] (iC) ?_;exact ⟨1,⟨_,_,Wk.aw al,rfl,rfl,by omega,qO 1 rfl ht⟩,by omega⟩
    | false =>
     rw [hsc] at iC ht;have dE:=AR (cl s a (a+2))
     cases hg:jw (cl s a (a+2)) with
     | false =>
      rw [hg] at dE ht;refine ab ?_;refine U [] (iC) ?_;refine U [] (dE) ?_;exact ⟨1,⟨_,_,Wk.aw al,rfl,rfl,by omega,qO 1 rfl ht⟩,by omega⟩
     | true =>
      rw [hg] at dE ht
      have e:fC s a=cl s a (a+2):=by unfold fC;rw [ht];rfl
      rw [e];refine ab ?_;refine U [] (iC) ?_;refine U [] (dE) ?_;exact ao
   ·have hle:decide (((a+2:Nat):Int)<=(s.length:Int))=false:=by simpa using by omega
    rw [show decide (a+2<=s.length)=false by simpa using jh] at ht;refine ab ?_;exact ⟨1,⟨_,_,Wk.aw al,rfl,rfl,by omega,qO 1 rfl ht⟩,by omega⟩
  | n+3,hx,_,_=>omega
def KD (n:Int) (e:Nat) (a:Nat):GV:=if n > 2147483647 then .tup [.agg (cU pQ),.v (ii (a:Nat)),.v (ii 3)] else .tup [.agg (cU ⟨1,n,[],a⟩),.v (ii (e:Nat)),.v (ii 0)]
theorem N1 (s:ah) (a:Nat) (c:UInt8) (hs:s.length<=1099511627776) (hc:s[a]?=some c) (hd:dM c=true) :
  GF Tryz.prog 205 [.v (sv s),.v (ii (a:Nat))] [] (KD (jA (cl s a (jr s a)) 0) (jr s a) a) []:=by
 have aq:a < s.length:=(List.getElem?_eq_some_iff.1 hc).1;have lW:=yC c;rw [hd] at lW;have mj:=Ri 186 dM yC s a hs ae;obtain ⟨e1,e2,e3⟩:=Go.Sp.o0 s dM (s.length+1) a ae ae;have aO:=Go.Im.CU s dM (s.length+1) a ae;unfold jr;generalize Go.Sp.run s dM (s.length+1) a=e at *;clear e1;generalize hR:jA (cl s a e) 0=R;refine ai Tryz.func205 Tryz.ntmps205 ?_;refine U [] (lW) ?_;refine U [] (mj) ?_;refine GW.loop (fun x:Nat × Int=>e - x.1) (fun x fr Γ=>fr=[.v (sv s),.v (ii (a:Nat)),.aaF,.aaF,.loc 0 0,.v (ii 0),.v (ii 0),.aaF,.v (ii (e:Nat)),.v (ii x.2),.v (ii (x.1:Nat)),.aaF,.aaF,.aaF,.aaF,.aaF,.aaF,.aaF,.aaF,.aaF,.aaF,.aaF,.aaF,.aaF,.aaF,.aaF,.aaF,.aaF,.aaF,.aaF,.aaF,.aaF,.aaF,.aaF,.aaF,.aaF,.aaF,.aaF,.aaF,.aaF,.aaF,.aaF,.aaF,.aaF,.aaF,.aaF,.aaF,.aaF,.aaF,.aaF,.aaF,.aaF,.aaF,.aaF,.aaF,.aaF,.aaF,.aaF,.aaF,.aaF,.aaF,.aaF,.aaF,.aaF,.aaF,.aaF,.aaF,.aaF,.aaF,.aaF,.aaF,.aaF,.aaF,.aaF,.aaF,.aaF,.aaF,.aaF,.aaF,.aaF,.aaF]/\Γ=[.box 203 (cU pQ)]/\a<=x.1/\x.1<=e/\jA (cl s x.1 e) x.2=R/\0<=x.2/\x.2<=21474836480) (a,0) ?_ ?_
 ·exact ⟨_,_,Wk.aw al,rfl,rfl,Nat.le_refl _,e2,hR,by simp,by simp⟩
 ·rintro ⟨i,n⟩ _ _ ⟨rfl,rfl,hi,Zx,h,Dx,FE⟩;simp only at hi Zx h Dx FE
  have fin:R=n->True:=fun _=>trivial
  by_cases mi:i < e
  ·have MH:decide ((i:Int) < (e:Int))=true:=by simpa using mi
   by_cases hn:n<=2147483647
   ·have BB:decide (n<=2147483647)=true:=by simpa using hn
    have wY:i < s.length:=by omega
    obtain ⟨d,dc⟩:∃ d,s[i]?=some d:=⟨s[i],by simp [wY]⟩
    have fA:dM d=true:=by
     have:d∈cl s a e:=by
      unfold cl;rw [List.mem_iff_getElem?];exact ⟨i - a,by rw [List.getElem?_drop,List.getElem?_take,show a+(i - a)=i by omega,if_pos mi];exact dc⟩
     exact aO d this
    have xT:(48:Int)<=(d.toNat:Int)/\(d.toNat:Int)<=57:=by
     simp only [dM,Bool.and_eq_true,decide_eq_true_eq] at fA;exact fA
    rw [Go.Im.oL dc mi e3,jA,if_pos hn] at h;refine ab ?_;exact ⟨(i+1,10 * n+((d.toNat:Int) - 48)),⟨_,_,Wk.aw al,rfl,rfl,by simp only;omega,mi,h,by simp only;omega,by simp only;omega⟩,by simp only;omega⟩
   ·have BB:decide (n<=2147483647)=false:=by simpa using hn
    have eu:R=n:=by
     rw [<-h]
     cases hw:cl s i e with
     | nil=>rw [jA]
     | cons d r=>rw [jA,if_neg hn]
    rw [eu];clear h eu hR fin
    have bH:decide (2147483647 < n)=true:=by simpa using by omega
    unfold KD;rw [if_pos ae];refine ab ?_;refine aU ?_;refine ab ?_;refine lE ?_;exact ⟨rfl,rfl⟩
  ·have MH:decide ((i:Int) < (e:Int))=false:=by simpa using by omega
   have eu:R=n:=by
    rw [<-h];have:cl s i e=[]:=List.eq_nil_of_length_eq_zero (by rw [Go.Im.ky e3];omega);rw [this,jA]
   rw [eu];clear h eu hR fin;unfold KD
   by_cases hn:n > 2147483647
   ·have bH:decide (2147483647 < n)=true:=by simpa using hn
    rw [if_pos hn];refine ab ?_;refine aU ?_;refine ab ?_;refine lE ?_;exact ⟨rfl,rfl⟩
   ·have bH:decide (2147483647 < n)=false:=by simpa using hn
    rw [if_neg hn];refine ab ?_;refine aU ?_;refine ab ?_;refine lE ?_;exact ⟨rfl,rfl⟩
theorem SY (s:ah) (a:Nat) (c:UInt8) (hs:s.length<=1099511627776) (hc:s[a]?=some c) :
  GF Tryz.prog 205 [.v (sv s),.v (ii (a:Nat))] [] (.tup [.agg (cU (jR s a c).1),.v (ii ((jR s a c).2.1:Nat)),.v (ii (jR s a c).2.2)]) []:=by
 have aq:a < s.length:=(List.getElem?_eq_some_iff.1 hc).1;have lW:=yC c;have iC:=AW c
 by_cases hd:dM c=true
 ·have h:=N1 s a c hs hc hd;unfold KD at h;unfold jR;rw [if_pos hd];split at h
  ·rename_i hn;rw [if_pos hn];exact h
  ·rename_i hn;rw [if_neg hn];exact h
 ·have MG:dM c=false:=by simpa using hd
  unfold jR;rw [if_neg hd];rw [MG] at lW
  by_cases hsc:small c=true
  ·rw [if_pos hsc];rw [hsc] at iC;have mj:=Ri 148 dH KA s a hs ae;obtain ⟨e1,e2,e3⟩:=Go.Sp.o0 s dH (s.length+1) a ae ae;have hw:eR s a=(s.take (en s a)).drop a:=rfl;have dE:=AR (eR s a);unfold en at hw |-;rw [hw] at dE |-;generalize Go.Sp.run s dH (s.length+1) a=e at *;have hb:a<=e/\e<=s.length:=⟨e2,e3⟩
   cases hg:jw ((s.take e).drop a) with
   | true =>
    rw [hg] at dE;refine ai Tryz.func205 Tryz.ntmps205 ?_;refine U [] (lW) ?_;refine U [] (iC) ?_;refine U [] (mj) ?_;refine U [] (dE) ?_;refine lE ?_;exact ⟨rfl,rfl⟩
   | false =>
    rw [hg] at dE;refine ai Tryz.func205 Tryz.ntmps205 ?_;refine U [] (lW) ?_;refine U [] (iC) ?_;refine U [] (mj) ?_;refine U [] (dE) ?_;refine lE ?_;exact ⟨rfl,rfl⟩
  ·have Yd:small c=false:=by simpa using hsc
   rw [if_neg hsc];rw [Yd] at iC;have W7:=PU s a c hs hc
   have hlen:(fC s a).length<=2:=by
    have:(fC s a=cl s a (a+2)\/fC s a=cl s a (a+1))\/fC s a=[]:=by
     unfold fC;split
     ·exact .inl (.inl rfl)
     ·split
      ·exact .inl (.inr rfl)
      ·exact .inr rfl
    rcases this with (h | h) | h <;> rw [h]
    ·unfold cl;rw [length_drop,length_take];omega
    ·unfold cl;rw [length_drop,length_take];omega
    ·simp
   generalize fC s a=x at *
   by_cases hx:x=[]
   ·have IG:(x==[])=true:=by simpa using hx
    rw [if_pos hx];refine ai Tryz.func205 Tryz.ntmps205 ?_;refine U [] (lW) ?_;refine U [] (iC) ?_;refine U [] (W7) ?_;refine lE ?_;exact ⟨rfl,rfl⟩
   ·have IG:(x==[])=false:=by simpa using hx
    rw [if_neg hx];refine ai Tryz.func205 Tryz.ntmps205 ?_;refine U [] (lW) ?_;refine U [] (iC) ?_;refine U [] (W7) ?_;refine lE ?_;exact ⟨rfl,rfl⟩
end Go.Xg
namespace Go.Xg
open Go.RowKit Go.Xw Go.Proofs
open Go.Xp (Tok Nd T)
open Go.Sp (small dM dH bo eR en dw)
open Go.Im (ll jw cl fX fC jr jA pQ jR mn pE)
attribute [local irreducible] GW GL GO YG GC GA aS aW
def CC (x t:ah):Bool:=decide (t.length<=x.length)&&(x.take t.length==t)
theorem JF (x t:ah) (hx:x.length<=1099511627776) (ht:t.length<=1099511627776):GF Tryz.prog 236 [.v (sv x),.v (sv t)] [] (.v (.bool (CC x t))) []:=by
 unfold CC
 by_cases h:t.length<=x.length
 ·have h1:decide ((t.length:Int)<=(x.length:Int))=true:=by simpa using h
  rw [decide_eq_true h];refine ai Tryz.func236 Tryz.ntmps236 ?_;exact ao
 ·have h1:decide ((t.length:Int)<=(x.length:Int))=false:=by simpa using by omega
  rw [decide_eq_false h];refine ai Tryz.func236 Tryz.ntmps236 ?_;exact ao
theorem Hi (x t:ah) (hx:x.length<=1099511627776) (ht:t.length<=1099511627776):GF Tryz.prog 203 [.v (sv x),.v (sv t)] [] (.v (.bool (CC x t))) []:=by
 have h:=JF x t hx ht;generalize CC x t=b at *;refine ai Tryz.func203 Tryz.ntmps203 ?_;refine U [] (h) ?_;exact ao
theorem Hs {s t:ah} {a:Nat} (ha:a<=s.length):CC (s.drop a) t=bo s a t:=by
 unfold CC bo;rw [length_drop,List.drop_take,show a+t.length - a=t.length by omega]
 congr 1
 rw [Bool.eq_iff_iff];simp;omega
theorem Hj (c:UInt8):GF Tryz.prog 202 [.v (sv [32,9,10,13]),Df c] [] (.v (ii (Go.Lib.indexByte [32,9,10,13] c))) []:=by
 refine GF.UH (vs:=[sv [32,9,10,13],.int .u8 (c.toNat:Int)]) fun K β w ht hf=>?_
 refine lT.AY (Calls.mono (Tryz.strings_IndexByte ⟨[32,9,10,13].toArray⟩ (c.toNat:Int) w) ?_);rintro e w' ⟨h1,h2⟩;refine ⟨_,h1,?_,by rw [h2];exact Ext.refl w⟩;simp
theorem Ov (x:ah) (hx:x.length<=4294967280):GF Tryz.prog 204 [.v (sv x),.v (sv [42,47])] [] (.v (ii (Go.Lib.index x [42,47]))) []:=by
 refine GF.UH (vs:=[sv x,sv [42,47]]) fun K β w ht hf=>?_
 obtain ⟨m,hm⟩:=ht.maxLen hf;refine lT.AY (Calls.mono (Tryz.strings_Index ⟨x.toArray⟩ ⟨[42,47].toArray⟩ m w (by show (x.toArray).size < _;simp;omega) hm) ?_);rintro e w' ⟨h1,h2⟩;refine ⟨_,h1,?_,by rw [h2];exact Ext.refl w⟩;simp
theorem OC (c:UInt8):decide ((0:Int)<=Go.Lib.indexByte [32,9,10,13] c)=dw c:=by
 have hb:dw c=((32:UInt8)==c || (9:UInt8)==c || (10:UInt8)==c || (13:UInt8)==c):=by
  have e:∀ k:UInt8,((c.toNat:Int)==(k.toNat:Int))=(k==c):=fun k=>by
   rw [Bool.eq_iff_iff];simp only [beq_iff_eq]
   exact ⟨fun h=>by
    have:c.toNat=k.toNat:=by omega
    exact (UInt8.toNat_inj.1 this).symm,fun h=>by rw [h]⟩
  have e1:=e 32;have e2:=e 9;have e3:=e 10;have e4:=e 13;unfold dw;rw [<-e1,<-e2,<-e3,<-e4];rfl
 rw [hb];unfold Go.Lib.indexByte Go.Lib.indexByte Go.Lib.indexByte Go.Lib.indexByte Go.Lib.indexByte
 cases (32:UInt8)==c <;> cases (9:UInt8)==c <;> cases (10:UInt8)==c <;> cases (13:UInt8)==c <;> decide
theorem M4 (l:ah):Go.Lib.index l [42,47]=(match pE l with | none => -1 | some n=>(n:Int)):=by
 induction l with
 | nil=>rfl
 | cons b l ih =>
  rw [Go.Lib.index,pE];split
  ·rfl
  ·rw [ih]
   cases pE l with
   | none=>rfl
   | some n =>
    simp only;rw [if_neg (by simp <;> omega)];simp
theorem PA (s:ah) (f:Nat) (ts:List Tok) (c z:Int) (hs:s.length<=4294967280) (h:mn s f 0 []=some (ts,c,z)) :
  GF Tryz.prog 162 [.v (sv s)] [] (.tup [ic ts,.v (ii c),.v (ii z)]) []:=by
 refine ai Tryz.func162 Tryz.ntmps162 ?_;refine GW.wk (Wk.CN (t:=5) (a:=none) (c:=0) 203 4 rfl) ?_;refine GW.loop (fun x:Nat × Nat × List Tok=>x.1) (fun x fr Γ=>∃ n rows,fr=[.v (sv s),.aaF,.v (.slice none 0 0),.v (ii 0),.v (ii 0),.vec 0 n,.v (ii (x.2.1:Nat)),.aaF,.aaF,.aaF,.aaF,.aaF,.aaF,.aaF,.aaF,.aaF,.aaF,.aaF,.aaF,.aaF,.aaF,.aaF,.aaF,.aaF,.aaF,.aaF,.aaF,.aaF,.aaF,.aaF,.aaF,.aaF,.aaF,.aaF,.aaF,.aaF,.aaF,.aaF,.aaF,.aaF,.aaF,.aaF,.aaF,.aaF,.aaF,.aaF,.aaF,.aaF,.aaF,.aaF,.aaF,.aaF,.aaF,.aaF,.aaF]/\Γ=[.vec 203 4 0 rows]/\rows.length=n/\rows=x.2.2.map cU/\x.2.1<=s.length/\n<=x.2.1/\mn s x.1 x.2.1 x.2.2=some (ts,c,z)) (f,0,[]) ?_ ?_
 ·exact ⟨_,_,Wk.aw al,0,[],rfl,rfl,rfl,rfl,Nat.zero_le _,Nat.le_refl _,h⟩
 ·clear h;rintro ⟨f,a,acc⟩ _ _ ⟨n,rows,rfl,rfl,hn,bp,ha,IB,h⟩;simp only at bp ha IB h
  cases f with
  | zero=>cases h
  | succ f =>
  rw [mn] at h
  cases hc:s[a]? with
  | none =>
   rw [hc] at h;cases h;have kX:s.length<=a:=List.getElem?_eq_none_iff.1 hc
   have hd:decide ((a:Int) < (s.length:Int))=false:=by simpa using kX
   refine ab ?_;refine aU ?_;refine GW.wk (Wk.iv (t:=5) rfl rfl rfl hn) ?_;refine ab ?_;refine Ju ?_;exact ⟨by rw [bp];rfl,rfl⟩
  | some ch =>
   rw [hc] at h;simp only at h;have aq:a < s.length:=(List.getElem?_eq_some_iff.1 hc).1
   have hd:decide ((a:Int) < (s.length:Int))=true:=by simpa using aq
   have MN:=Hj ch;have oO:=OC ch
   cases hb:dw ch with
   | true =>
    rw [if_pos hb] at h;rw [hb] at oO;generalize Go.Lib.indexByte [32,9,10,13] ch=ib at *;refine ab ?_;refine U [] (MN) ?_;refine aU ?_;exact ⟨(f,a+1,acc),⟨_,_,Wk.aw al,n,rows,rfl,rfl,hn,bp,aq,by simp only;omega,h⟩,by simp⟩
   | false =>
    rw [if_neg (by rw [hb];decide)] at h;rw [hb] at oO;generalize Go.Lib.indexByte [32,9,10,13] ch=ib at *;have mQ:=Hi (s.drop a) [47,42] (by rw [length_drop];omega) (by decide);rw [Hs ha] at mQ
    cases mP:bo s a [47,42] with
    | true =>
     rw [if_pos mP] at h;rw [mP] at mQ;have mu:=Go.Sp.iZ mP;simp only [length_cons,length_nil] at mu;have xL:=Ov (s.drop (a+2)) (by rw [length_drop];omega);rw [M4] at xL
     have MD:a+2<=s.length:=by omega
     cases hi:pE (s.drop (a+2)) with
     | none =>
      rw [hi] at xL h;cases h;refine ab ?_;refine U [] (MN) ?_;refine U [] (mQ) ?_;refine U [] (xL) ?_;refine qG ?_;exact ⟨_,iL,rfl,rfl⟩
     | some e =>
      rw [hi] at xL h;have eP:=Go.Im.CE hi;rw [length_drop] at eP
      have TQ:decide (((e:Nat):Int) < 0)=false:=by simp
      refine ab ?_;refine U [] (MN) ?_;refine U [] (mQ) ?_;refine U [] (xL) ?_;refine aU ?_;exact ⟨(f,a+(e+4),acc),⟨_,_,Wk.aw al,n,rows,rfl,rfl,hn,bp,by simp only;omega,by simp only;omega,h⟩,by simp⟩
    | false =>
     rw [if_neg (by rw [mP];decide)] at h;rw [mP] at mQ;have jJ:=SY s a ch ae hc
     have eJ:=fun h0=>Go.Im.Js hc h0
     generalize jR s a ch=R at *;obtain ⟨t,e,code⟩:=R;simp only at jJ h eJ
     by_cases h0:code=0
     ·rw [if_neg (by simpa using h0)] at h
      have sH:(code != 0)=false:=by simpa using h0
      obtain ⟨_,_,k3,k4⟩:=eJ h0;refine ab ?_;refine U [] (MN) ?_;refine U [] (mQ) ?_;refine U [] (jJ) ?_;refine ea ?_;refine ab ?_;exact ⟨(f,e,acc++[t]),⟨_,_,(Wk.cut (n:=1) (Nat.le_of_ble_eq_true rfl) rfl).trans (Wk.aw al),_,_,rfl,rfl,by simp [hn],by rw [map_append,bp];rfl,k4,by simp only;omega,h⟩,by simp⟩
     ·rw [if_pos h0] at h
      have sH:(code != 0)=true:=by simpa using h0
      cases h;refine ab ?_;refine U [] (MN) ?_;refine U [] (mQ) ?_;refine U [] (jJ) ?_;refine qG ?_;exact ⟨_,iL,rfl,rfl⟩
end Go.Xg
namespace Go.Xg
open Go.RowKit Go.Xw Go.Proofs
open Go.Xp (Tok Nd T aK ay)
open Go.Sp (Src)
open Go.Im (nL pU tr gW cL fH uC)
attribute [local irreducible] GW GL GO YG GC GA aS aW
theorem Pm:∀ (N:Nat) (t:T),aK t<=N->aK t<=1099511627776->GF Tryz.prog 158 [uT t] [] (.v (.bool (fH t))) []:=by
 intro N
 induction N with
 | zero=>intro t h;rw [Go.Xp.dZ] at h;omega
 | succ N ih =>
 intro t hN hb;rw [Go.Xp.dZ] at hN hb;have eH:=Go.Xp.b7 t.kids;have oR:=qC t.kids;rw [Go.Im.xY,Go.Im.sT];unfold uT;generalize t.n.kind=kd;refine db Tryz.func158 Tryz.ntmps158 ?_;refine Jw ?_;refine GW.join (fun fr Γ=>fr=[.box [.v (ii kd),.v (ii t.n.at_),.v (ii t.n.n),.v (sv t.n.s),ints t.n.kids,.sl 1 (bW t.kids)] 0,.aaF,.aaF,.aaF,.v (.bool (cL kd t.kids.length)),.aaF,.aaF,.aaF,.aaF,.aaF,.aaF,.aaF,.aaF,.aaF,.aaF,.aaF,.aaF,.aaF,.aaF,.aaF,.aaF,.aaF,.aaF,.aaF,.aaF,.aaF,.aaF,.aaF,.aaF,.aaF,.aaF,.aaF,.aaF,.aaF,.aaF,.aaF,.aaF,.aaF,.aaF,.aaF,.aaF,.aaF,.aaF,.aaF,.aaF,.aaF,.aaF,.aaF,.aaF,.aaF,.aaF,.aaF,.aaF,.aaF,.aaF,.aaF,.aaF,.aaF,.aaF,.aaF,.aaF,.aaF,.aaF,.aaF]/\Γ=[]) ?_ ?_
 ·rw [<-oR];generalize (bW t.kids)=l
  by_cases h1:kd=1
  ·subst h1
   have f1:((1:Int)==1)=true:=by decide
   rw [show cL 1 l.length=((l.length:Int)==0) by unfold cL;simp];refine ab ?_;exact ⟨_,_,Wk.aw al,rfl,rfl⟩
  by_cases h2:kd=2
  ·subst h2
   have f1:((2:Int)==1)=false:=by decide
   have f2:((2:Int)==2)=true:=by decide
   rw [show cL 2 l.length=((l.length:Int)==0) by unfold cL;simp];refine ab ?_;exact ⟨_,_,Wk.aw al,rfl,rfl⟩
  by_cases h4:kd=4
  ·subst h4
   have f1:((4:Int)==1)=false:=by decide
   have f2:((4:Int)==2)=false:=by decide
   have f4:((4:Int)==4)=true:=by decide
   rw [show cL 4 l.length=true by unfold cL;simp];refine ab ?_;exact ⟨_,_,Wk.aw al,rfl,rfl⟩
  by_cases Bn:kd=14
  ·subst Bn
   have f1:((14:Int)==1)=false:=by decide
   have f2:((14:Int)==2)=false:=by decide
   have f4:((14:Int)==4)=false:=by decide
   have f14:((14:Int)==14)=true:=by decide
   rw [show cL 14 l.length=true by unfold cL;simp];refine ab ?_;exact ⟨_,_,Wk.aw al,rfl,rfl⟩
  by_cases h3:kd=3
  ·subst h3
   have f1:((3:Int)==1)=false:=by decide
   have f2:((3:Int)==2)=false:=by decide
   have f4:((3:Int)==4)=false:=by decide
   have f14:((3:Int)==14)=false:=by decide
   have f3:((3:Int)==3)=true:=by decide
   rw [show cL 3 l.length=((l.length:Int)==1) by unfold cL;simp];refine ab ?_;exact ⟨_,_,Wk.aw al,rfl,rfl⟩
  by_cases h5:kd=5
  ·subst h5
   have f1:((5:Int)==1)=false:=by decide
   have f2:((5:Int)==2)=false:=by decide
   have f4:((5:Int)==4)=false:=by decide
   have f14:((5:Int)==14)=false:=by decide
   have f3:((5:Int)==3)=false:=by decide
   have f5:((5:Int)==5)=true:=by decide
   rw [show cL 5 l.length=((l.length:Int)==1) by unfold cL;simp];refine ab ?_;exact ⟨_,_,Wk.aw al,rfl,rfl⟩
  by_cases h7:kd=7
  ·subst h7
   have f1:((7:Int)==1)=false:=by decide
   have f2:((7:Int)==2)=false:=by decide
   have f4:((7:Int)==4)=false:=by decide
   have f14:((7:Int)==14)=false:=by decide
   have f3:((7:Int)==3)=false:=by decide
   have f5:((7:Int)==5)=false:=by decide
   have f7:((7:Int)==7)=true:=by decide
   rw [show cL 7 l.length=((l.length:Int)==1) by unfold cL;simp];refine ab ?_;exact ⟨_,_,Wk.aw al,rfl,rfl⟩
  by_cases n5:kd=11
  ·subst n5
   have f1:((11:Int)==1)=false:=by decide
   have f2:((11:Int)==2)=false:=by decide
   have f4:((11:Int)==4)=false:=by decide
   have f14:((11:Int)==14)=false:=by decide
   have f3:((11:Int)==3)=false:=by decide
   have f5:((11:Int)==5)=false:=by decide
   have f7:((11:Int)==7)=false:=by decide
   have f11:((11:Int)==11)=true:=by decide
   rw [show cL 11 l.length=((l.length:Int)==1) by unfold cL;simp];refine ab ?_;exact ⟨_,_,Wk.aw al,rfl,rfl⟩
  by_cases nF:kd=12
  ·subst nF
   have f1:((12:Int)==1)=false:=by decide
   have f2:((12:Int)==2)=false:=by decide
   have f4:((12:Int)==4)=false:=by decide
   have f14:((12:Int)==14)=false:=by decide
   have f3:((12:Int)==3)=false:=by decide
   have f5:((12:Int)==5)=false:=by decide
   have f7:((12:Int)==7)=false:=by decide
   have f11:((12:Int)==11)=false:=by decide
   have f12:((12:Int)==12)=true:=by decide
   rw [show cL 12 l.length=((l.length:Int)==1) by unfold cL;simp];refine ab ?_;exact ⟨_,_,Wk.aw al,rfl,rfl⟩
  by_cases eA:kd=13
  ·subst eA
   have f1:((13:Int)==1)=false:=by decide
   have f2:((13:Int)==2)=false:=by decide
   have f4:((13:Int)==4)=false:=by decide
   have f14:((13:Int)==14)=false:=by decide
   have f3:((13:Int)==3)=false:=by decide
   have f5:((13:Int)==5)=false:=by decide
   have f7:((13:Int)==7)=false:=by decide
   have f11:((13:Int)==11)=false:=by decide
   have f12:((13:Int)==12)=false:=by decide
   have f13:((13:Int)==13)=true:=by decide
   rw [show cL 13 l.length=((l.length:Int)==1) by unfold cL;simp];refine ab ?_;exact ⟨_,_,Wk.aw al,rfl,rfl⟩
  by_cases h6:kd=6
  ·subst h6
   have f1:((6:Int)==1)=false:=by decide
   have f2:((6:Int)==2)=false:=by decide
   have f4:((6:Int)==4)=false:=by decide
   have f14:((6:Int)==14)=false:=by decide
   have f3:((6:Int)==3)=false:=by decide
   have f5:((6:Int)==5)=false:=by decide
   have f7:((6:Int)==7)=false:=by decide
   have f11:((6:Int)==11)=false:=by decide
   have f12:((6:Int)==12)=false:=by decide
   have f13:((6:Int)==13)=false:=by decide
   have f6:((6:Int)==6)=true:=by decide
   rw [show cL 6 l.length=((l.length:Int)==2) by unfold cL;simp];refine ab ?_;exact ⟨_,_,Wk.aw al,rfl,rfl⟩
  by_cases h8:kd=8
  ·subst h8
   have f1:((8:Int)==1)=false:=by decide
   have f2:((8:Int)==2)=false:=by decide
   have f4:((8:Int)==4)=false:=by decide
   have f14:((8:Int)==14)=false:=by decide
   have f3:((8:Int)==3)=false:=by decide
   have f5:((8:Int)==5)=false:=by decide
   have f7:((8:Int)==7)=false:=by decide
   have f11:((8:Int)==11)=false:=by decide
   have f12:((8:Int)==12)=false:=by decide
   have f13:((8:Int)==13)=false:=by decide
   have f6:((8:Int)==6)=false:=by decide
   have f8:((8:Int)==8)=true:=by decide
   rw [show cL 8 l.length=((l.length:Int)==2) by unfold cL;simp];refine ab ?_;exact ⟨_,_,Wk.aw al,rfl,rfl⟩
  by_cases kL:kd=10
  ·subst kL
   have f1:((10:Int)==1)=false:=by decide
   have f2:((10:Int)==2)=false:=by decide
   have f4:((10:Int)==4)=false:=by decide
   have f14:((10:Int)==14)=false:=by decide
   have f3:((10:Int)==3)=false:=by decide
   have f5:((10:Int)==5)=false:=by decide
   have f7:((10:Int)==7)=false:=by decide
   have f11:((10:Int)==11)=false:=by decide
   have f12:((10:Int)==12)=false:=by decide
   have f13:((10:Int)==13)=false:=by decide
   have f6:((10:Int)==6)=false:=by decide
   have f8:((10:Int)==8)=false:=by decide
   have f10:((10:Int)==10)=true:=by decide
   rw [show cL 10 l.length=((l.length:Int)==2) by unfold cL;simp];refine ab ?_;exact ⟨_,_,Wk.aw al,rfl,rfl⟩
  by_cases h9:kd=9
  ·subst h9
   have f1:((9:Int)==1)=false:=by decide
   have f2:((9:Int)==2)=false:=by decide
   have f4:((9:Int)==4)=false:=by decide
   have f14:((9:Int)==14)=false:=by decide
   have f3:((9:Int)==3)=false:=by decide
   have f5:((9:Int)==5)=false:=by decide
   have f7:((9:Int)==7)=false:=by decide
   have f11:((9:Int)==11)=false:=by decide
   have f12:((9:Int)==12)=false:=by decide
   have f13:((9:Int)==13)=false:=by decide
   have f6:((9:Int)==6)=false:=by decide
   have f8:((9:Int)==8)=false:=by decide
   have f10:((9:Int)==10)=false:=by decide
   have f9:((9:Int)==9)=true:=by decide
   cases hq:((l.length:Int)==2) with
   | true =>
    rw [show cL 9 l.length=true by unfold cL;simp [hq]];refine ab ?_;exact ⟨_,_,Wk.aw al,rfl,rfl⟩
   | false =>
    rw [show cL 9 l.length=((l.length:Int)==3) by unfold cL;simp [hq]];refine ab ?_;exact ⟨_,_,Wk.aw al,rfl,rfl⟩
  have e:cL kd l.length=false:=by unfold cL;simp [h1,h2,h4,Bn,h3,h5,h7,n5,nF,eA,h6,h8,kL,h9]
  rw [e]
  have g1:(kd==1)=false:=by simpa using h1
  have g2:(kd==2)=false:=by simpa using h2
  have g4:(kd==4)=false:=by simpa using h4
  have g14:(kd==14)=false:=by simpa using Bn
  have g3:(kd==3)=false:=by simpa using h3
  have g5:(kd==5)=false:=by simpa using h5
  have g7:(kd==7)=false:=by simpa using h7
  have g11:(kd==11)=false:=by simpa using n5
  have g12:(kd==12)=false:=by simpa using nF
  have g13:(kd==13)=false:=by simpa using eA
  have g6:(kd==6)=false:=by simpa using h6
  have g8:(kd==8)=false:=by simpa using h8
  have g10:(kd==10)=false:=by simpa using kL
  have g9:(kd==9)=false:=by simpa using h9
  refine ab ?_;exact ⟨_,_,Wk.aw al,rfl,rfl⟩
 ·rintro _ _ ⟨rfl,rfl⟩;generalize cL kd t.kids.length=b0;refine ab ?_;refine GW.range (bW t.kids).length (fun k fr Γ=>fr=[.aaF,.aaF,.aaF,.aaF,.v (.bool (b0&&(t.kids.take k).all fH)),.aaF,.aaF,.aaF,.aaF,.aaF,.aaF,.aaF,.aaF,.aaF,.aaF,.aaF,.aaF,.aaF,.aaF,.aaF,.aaF,.aaF,.aaF,.aaF,.aaF,.aaF,.aaF,.aaF,.aaF,.aaF,.aaF,.aaF,.aaF,.aaF,.aaF,.aaF,.aaF,.aaF,.aaF,.aaF,.aaF,.aaF,.aaF,.aaF,.aaF,.aaF,.aaF,.aaF,.aaF,.aaF,.aaF,.sl 1 (bW t.kids),.v (ii ((bW t.kids).length:Int)),.v (ii (k:Nat)),.aaF,.aaF,.aaF,.aaF,.aaF,.aaF,.aaF,.aaF,.aaF,.aaF]/\Γ=[]) ?_ ae ?_ ?_ ?_
  ·refine ⟨_,_,Wk.aw (bU:=[.aaF,.aaF,.aaF,.aaF,.v (.bool b0),.aaF,.aaF,.aaF,.aaF,.aaF,.aaF,.aaF,.aaF,.aaF,.aaF,.aaF,.aaF,.aaF,.aaF,.aaF,.aaF,.aaF,.aaF,.aaF,.aaF,.aaF,.aaF,.aaF,.aaF,.aaF,.aaF,.aaF,.aaF,.aaF,.aaF,.aaF,.aaF,.aaF,.aaF,.aaF,.aaF,.aaF,.aaF,.aaF,.aaF,.aaF,.aaF,.aaF,.aaF,.aaF,.aaF,.sl 1 (bW t.kids),.v (ii ((bW t.kids).length:Int)),.v (ii (0:Nat)),.aaF,.aaF,.aaF,.aaF,.aaF,.aaF,.aaF,.aaF,.aaF,.aaF]) al,?_,rfl⟩;rw [List.take_zero,List.all_nil,Bool.and_true]
  ·rintro k _ _ ⟨rfl,rfl⟩;exact ⟨rfl,rfl,rfl⟩
  ·rintro k _ _ aq ⟨rfl,rfl⟩;rw [oR] at aq;obtain ⟨xZ,jO⟩:∃ xZ,t.kids[k]?=some xZ:=⟨t.kids[k],by simp [aq]⟩;have hr:=vC jO;have cI:=Go.Xp.uH jO;have hle:=Go.Xp.uG t.kids (k+1);have Dv:=ih xZ ae ae
   have aO:(t.kids.take (k+1)).all fH=((t.kids.take k).all fH&&fH xZ):=by rw [take_add_one,jO,List.all_append];simp
   rw [aO,<-Bool.and_assoc];generalize (b0&&(t.kids.take k).all fH)=b at *
   cases b with
   | true =>
    refine ab ?_;refine U [] (Dv) ?_;exact ⟨rfl,rfl,_,_,Wk.aw al,rfl,rfl⟩
   | false =>
    refine ab ?_;exact ⟨rfl,rfl,_,_,Wk.aw al,rfl,rfl⟩
  ·rintro _ _ ⟨rfl,rfl⟩;rw [oR,take_length];exact av
def wB (l:List T):Int:=match l.findIdx? (fun t=>!(fH t)) with | some i=>(i:Int) | none => -1
theorem M6 (t:T) (hb:aK t<=1099511627776):GF Tryz.prog 157 [uT t] [] (.v (.bool (!(fH t)))) []:=by
 have h:=Pm _ t (Nat.le_refl _) hb;generalize fH t=b at *;refine ai Tryz.func157 Tryz.ntmps157 ?_;refine U [] (h) ?_;exact ao
theorem Hl (l:List T) (hl:l.length<=1099511627776) (hb:∀ t∈l,aK t<=1099511627776) :
  GF Tryz.prog 194 [.sl 1 (bW l),.v (.func (.func 157) #[] #[])] [] (.v (ii (wB l))) []:=by
 have oR:=qC l;refine ai Tryz.func194 Tryz.ntmps194 ?_;refine GW.range (bW l).length (fun k fr Γ=>fr=[.sl 1 (bW l),.v (.func (.func 157) #[] #[]),.aaF,.aaF,.aaF,.aaF,.aaF,.v (ii ((bW l).length:Int)),.v (ii (k:Nat)),.aaF,.aaF,.aaF,.aaF,.aaF,.aaF,.aaF,.aaF,.aaF,.aaF]/\Γ=[]/\(l.take k).all fH=true) ?_ ae ?_ ?_ ?_
 ·exact ⟨_,_,Wk.aw al,rfl,rfl,rfl⟩
 ·rintro k _ _ ⟨rfl,rfl,_⟩;exact ⟨rfl,rfl,rfl⟩
 ·rintro k _ _ aq ⟨rfl,rfl,aO⟩;rw [oR] at aq
  have cP:l[k]?=some l[k]:=by simp [aq]
  have hr:=vC cP;have bR:=M6 l[k] (hb _ (getElem_mem aq))
  have bq:(l.take (k+1)).all fH=((l.take k).all fH&&fH l[k]):=by rw [take_add_one,cP,List.all_append];simp
  have zy:fH l[k]=false->wB l=(k:Int):=fun h0=>by
   have:l.findIdx? (fun t=>!(fH t))=some k:=by
    rw [List.findIdx?_eq_some_iff_getElem];refine ⟨aq,by simp [h0],fun j hj=>?_⟩;rw [all_eq_true] at aO;have:=aO l[j] (by rw [List.mem_take_iff_getElem];exact ⟨j,by omega,rfl⟩);simp [this]
   unfold wB;rw [this]
  generalize l[k]=t at *
  cases hk:fH t with
  | true =>
   rw [hk] at bR bq;refine ab ?_;refine ig [] (bR) ?_;refine ab ?_;exact ⟨rfl,rfl,_,_,Wk.aw al,rfl,rfl,by rw [bq,aO];rfl⟩
  | false =>
   rw [hk] at bR;rw [zy hk];refine ab ?_;refine ig [] (bR) ?_;exact av
 ·rintro _ _ ⟨rfl,rfl,aO⟩;rw [oR,take_length] at aO
  have:l.findIdx? (fun t=>!(fH t))=none:=by
   rw [List.findIdx?_eq_none_iff];intro x hx;rw [all_eq_true] at aO;simp [aO x hx]
  unfold wB;rw [this];exact av
theorem PE (l:List T):decide ((0:Int)<=wB l)=!(l.all fH):=by
 unfold wB
 cases h:l.findIdx? (fun t=>!(fH t)) with
 | some i =>
  rw [List.findIdx?_eq_some_iff_getElem] at h;obtain ⟨h1,h2,_⟩:=h
  have:l.all fH=false:=by
   rw [List.all_eq_false];exact ⟨l[i],getElem_mem _,by simpa using h2⟩
  rw [this];simp
 | none =>
  rw [List.findIdx?_eq_none_iff] at h
  have:l.all fH=true:=by rw [all_eq_true];intro x hx;simpa using h x hx
  rw [this];rfl
theorem uJ (l:List T) (hl:l.length<=1099511627776) (hb:∀ t∈l,aK t<=1099511627776) :
  GF Tryz.prog 156 [.sl 1 (bW l),.v (.func (.func 157) #[] #[])] [] (.v (.bool (!(l.all fH)))) []:=by
 have h:=Hl l hl hb;rw [<-PE];generalize wB l=z at *;refine ai Tryz.func156 Tryz.ntmps156 ?_;refine U [] (h) ?_;exact ao
end Go.Xg
set_option maxHeartbeats 2000000
namespace Go.Xg
open Go.RowKit Go.Xw Go.Proofs
open Go.Xp (Tok Nd T Ar aK ay dW)
open Go.Sp (Src)
open Go.Im
attribute [local irreducible] GW GL GO YG GC GA aS aW
theorem Ql:Wr 160 161 cE fi :=
 ⟨fun a h1 h2 h3=>SU _ a (Nat.le_refl _) h1 h2 h3,fun l d h1 h2 h3=>Pe l d h1 h2,fun l d s h=>Pf h⟩
theorem Ex (p:Src) (h:p.nodes.length > 800):GF Tryz.prog 136 [.agg (ar p)] [] (.v (.bool false)) []:=by
 have hm:(p.nodes.map ax).length=p.nodes.length:=by simp
 have hd:decide ((800:Int) < ((p.nodes.map ax).length:Int))=true:=by rw [hm];simpa using by omega
 refine ai Tryz.func136 Tryz.ntmps136 ?_;exact ao
theorem Ce (p:Src) (h:p.nodes.length<=800) (hk:∀ n∈p.nodes,n.kids.length<=1099511627776) (hf:p.fns.length<=1099511627776) (hb:gW p.nodes p.fns 0 []=none):GF Tryz.prog 136 [.agg (ar p)] [] (.v (.bool false)) []:=by
 have hm:(p.nodes.map ax).length=p.nodes.length:=by simp
 have hd:decide ((800:Int) < ((p.nodes.map ax).length:Int))=false:=by rw [hm];simpa using by omega
 have hB:=vQ p ae hk hf;rw [hb] at hB;unfold Cn at hB;refine ai Tryz.func136 Tryz.ntmps136 ?_;refine U [] (hB) ?_;exact ao
theorem He (p:Src) (l:List T) (e:Nat) (h:p.nodes.length<=800) (hk:∀ n∈p.nodes,n.kids.length<=1099511627776) (hf:p.fns.length<=1099511627776) (hb:gW p.nodes p.fns 0 []=some (l,e)) (he:e≠p.nodes.length):GF Tryz.prog 136 [.agg (ar p)] [] (.v (.bool false)) []:=by
 have hm:(p.nodes.map ax).length=p.nodes.length:=by simp
 have hd:decide ((800:Int) < ((p.nodes.map ax).length:Int))=false:=by rw [hm];simpa using by omega
 have hB:=vQ p ae hk hf;rw [hb] at hB;unfold Cn at hB;simp only at hB;rw [show ((e:Int)==(p.nodes.length:Int))=false by simp only [beq_eq_false_iff_ne,ne_eq];omega] at hB;refine ai Tryz.func136 Tryz.ntmps136 ?_;refine U [] (hB) ?_;exact ao
theorem Ew (p:Src) (l:List T) (h:p.nodes.length<=800) (hk:∀ n∈p.nodes,n.kids.length<=1099511627776) (hf:p.fns.length<=1099511627776) (hb:gW p.nodes p.fns 0 []=some (l,p.nodes.length)) (hl:l.length<=1099511627776) (hs:∀ t∈l,aK t<=1099511627776) (hn:l.all fH=false):GF Tryz.prog 136 [.agg (ar p)] [] (.v (.bool false)) []:=by
 have hm:(p.nodes.map ax).length=p.nodes.length:=by simp
 have hd:decide ((800:Int) < ((p.nodes.map ax).length:Int))=false:=by rw [hm];simpa using by omega
 have hB:=vQ p ae hk hf;rw [hb] at hB;unfold Cn at hB;simp only at hB;rw [show ((p.nodes.length:Int)==(p.nodes.length:Int))=true by simp] at hB;have hC:=uJ l hl hs;rw [hn] at hC;refine ai Tryz.func136 Tryz.ntmps136 ?_;refine U [] (hB) ?_;refine U [] (hC) ?_;exact ao
theorem NJ (st:PS) (h:st.fns.length=st.trees.length):mD st.fns st.trees st.trees.length=(ot st).map au:=by
 unfold mD ot;apply ext_getElem?;intro i;rw [getElem?_map,getElem?_mapIdx,getElem?_mapIdx]
 cases hx:st.fns[i]? with
 | none=>rfl
 | some x =>
  have hi:=(List.getElem?_eq_some_iff.1 hx).1;simp only [Option.map_some];rw [if_pos ae];rfl
def Rj (st:PS):Src:=⟨st.globals,st.arrays,ot st,dW 0 st.trees⟩
theorem UZ {q:Go.Sp.RS} {st:PS} (hc:q.code=0) (h8:¬ ay st.trees > 800) (h:st.fns.length=st.trees.length):Jb q st=.tup [.agg (ar (Rj st)),.v (ii 0),.v (ii 0)]:=by
 unfold Jb;rw [if_pos hc,if_neg h8,NJ st h];rfl
theorem Hf (p:Src) (l:List T) (x:ah) (ts:List Tok) (c z:Int) (h:p.nodes.length<=800) (hB:GF Tryz.prog 155 [.agg (ar p)] [] (.tup [.sl 1 (bW l),.v (.bool true)]) [])
  (hC:GF Tryz.prog 156 [.sl 1 (bW l),.v (.func (.func 157) #[] #[])] [] (.v (.bool false)) [])
  (hL:GF Tryz.prog 159 [.agg (ar p),.sl 1 (bW l),.v (ik 160),.v (ik 161)] [] (.v (sv x)) [])
  (hX:GF Tryz.prog 162 [.v (sv x)] [] (.tup [ic ts,.v (ii c),.v (ii z)]) []) (hc:(c != 0)=true) :
  GF Tryz.prog 136 [.agg (ar p)] [] (.v (.bool false)) []:=by
 have hm:(p.nodes.map ax).length=p.nodes.length:=by simp
 have hd:decide ((800:Int) < ((p.nodes.map ax).length:Int))=false:=by rw [hm];simpa using by omega
 refine ai Tryz.func136 Tryz.ntmps136 ?_;refine U [] (hB) ?_;refine U [] (hC) ?_;refine U [] (hL) ?_;refine U [] (hX) ?_;exact ao
theorem zg (p:Src) (l:List T) (x:ah) (ts:List Tok) (c k a:Int) (h:p.nodes.length<=800) (hB:GF Tryz.prog 155 [.agg (ar p)] [] (.tup [.sl 1 (bW l),.v (.bool true)]) [])
  (hC:GF Tryz.prog 156 [.sl 1 (bW l),.v (.func (.func 157) #[] #[])] [] (.v (.bool false)) [])
  (hL:GF Tryz.prog 159 [.agg (ar p),.sl 1 (bW l),.v (ik 160),.v (ik 161)] [] (.v (sv x)) [])
  (hX:GF Tryz.prog 162 [.v (sv x)] [] (.tup [ic ts,.v (ii 0),.v (ii c)]) [])
  (hP:GF Tryz.prog 163 [ic ts,.v (ii (x.length:Int))] [] (.tup [.agg [.sl 1 [],.sl 2 [],.sl 3 [],.sl 5 []],.v (ii k),.v (ii a)]) []) (hk:(k==0)=false) :
  GF Tryz.prog 136 [.agg (ar p)] [] (.v (.bool false)) []:=by
 have hm:(p.nodes.map ax).length=p.nodes.length:=by simp
 have hd:decide ((800:Int) < ((p.nodes.map ax).length:Int))=false:=by rw [hm];simpa using by omega
 refine ai Tryz.func136 Tryz.ntmps136 ?_;refine U [] (hB) ?_;refine U [] (hC) ?_;refine U [] (hL) ?_;refine U [] (hX) ?_;refine U [] (hP) ?_;exact ao
theorem JA (p r:Src) (l:List T) (x:ah) (ts:List Tok) (c:Int) (h:p.nodes.length<=800) (hB:GF Tryz.prog 155 [.agg (ar p)] [] (.tup [.sl 1 (bW l),.v (.bool true)]) [])
  (hC:GF Tryz.prog 156 [.sl 1 (bW l),.v (.func (.func 157) #[] #[])] [] (.v (.bool false)) [])
  (hL:GF Tryz.prog 159 [.agg (ar p),.sl 1 (bW l),.v (ik 160),.v (ik 161)] [] (.v (sv x)) [])
  (hX:GF Tryz.prog 162 [.v (sv x)] [] (.tup [ic ts,.v (ii 0),.v (ii c)]) [])
   (hg:GF Tryz.prog 164 [strs p.globals,strs r.globals] [] (.v (.bool false)) [])
  (hP:GF Tryz.prog 163 [ic ts,.v (ii (x.length:Int))] [] (.tup [.agg (ar r),.v (ii 0),.v (ii 0)]) []) :
  GF Tryz.prog 136 [.agg (ar p)] [] (.v (.bool false)) []:=by
 have hm:(p.nodes.map ax).length=p.nodes.length:=by simp
 have hd:decide ((800:Int) < ((p.nodes.map ax).length:Int))=false:=by rw [hm];simpa using by omega
 refine ai Tryz.func136 Tryz.ntmps136 ?_;refine U [] (hB) ?_;refine U [] (hC) ?_;refine U [] (hL) ?_;refine U [] (hX) ?_;refine U [] (hP) ?_;refine U [] (hg) ?_;exact ao
theorem JB (p r:Src) (l:List T) (x:ah) (ts:List Tok) (c:Int) (h:p.nodes.length<=800) (hB:GF Tryz.prog 155 [.agg (ar p)] [] (.tup [.sl 1 (bW l),.v (.bool true)]) [])
  (hC:GF Tryz.prog 156 [.sl 1 (bW l),.v (.func (.func 157) #[] #[])] [] (.v (.bool false)) [])
  (hL:GF Tryz.prog 159 [.agg (ar p),.sl 1 (bW l),.v (ik 160),.v (ik 161)] [] (.v (sv x)) [])
  (hX:GF Tryz.prog 162 [.v (sv x)] [] (.tup [ic ts,.v (ii 0),.v (ii c)]) [])
   (hg:GF Tryz.prog 164 [strs p.globals,strs r.globals] [] (.v (.bool true)) [])
  (ha:GF Tryz.prog 165 [(.sl 2 (p.arrays.map fun s=>aB s)),(.sl 2 (r.arrays.map fun s=>aB s))] [] (.v (.bool false)) [])
  (hP:GF Tryz.prog 163 [ic ts,.v (ii (x.length:Int))] [] (.tup [.agg (ar r),.v (ii 0),.v (ii 0)]) []) :
  GF Tryz.prog 136 [.agg (ar p)] [] (.v (.bool false)) []:=by
 have hm:(p.nodes.map ax).length=p.nodes.length:=by simp
 have hd:decide ((800:Int) < ((p.nodes.map ax).length:Int))=false:=by rw [hm];simpa using by omega
 refine ai Tryz.func136 Tryz.ntmps136 ?_;refine U [] (hB) ?_;refine U [] (hC) ?_;refine U [] (hL) ?_;refine U [] (hX) ?_;refine U [] (hP) ?_;refine U [] (hg) ?_;refine U [] (ha) ?_;exact ao
theorem JC (p r:Src) (l:List T) (x:ah) (ts:List Tok) (c:Int) (h:p.nodes.length<=800) (hB:GF Tryz.prog 155 [.agg (ar p)] [] (.tup [.sl 1 (bW l),.v (.bool true)]) [])
  (hC:GF Tryz.prog 156 [.sl 1 (bW l),.v (.func (.func 157) #[] #[])] [] (.v (.bool false)) [])
  (hL:GF Tryz.prog 159 [.agg (ar p),.sl 1 (bW l),.v (ik 160),.v (ik 161)] [] (.v (sv x)) [])
  (hX:GF Tryz.prog 162 [.v (sv x)] [] (.tup [ic ts,.v (ii 0),.v (ii c)]) [])
   (hg:GF Tryz.prog 164 [strs p.globals,strs r.globals] [] (.v (.bool true)) [])
  (ha:GF Tryz.prog 165 [(.sl 2 (p.arrays.map fun s=>aB s)),(.sl 2 (r.arrays.map fun s=>aB s))] [] (.v (.bool true)) [])
  (hf:GF Tryz.prog 166 [.sl 3 (p.fns.map au),.sl 3 (r.fns.map au),.v (.func (.func 167) #[] #[])] [] (.v (.bool false)) [])
  (hP:GF Tryz.prog 163 [ic ts,.v (ii (x.length:Int))] [] (.tup [.agg (ar r),.v (ii 0),.v (ii 0)]) []) :
  GF Tryz.prog 136 [.agg (ar p)] [] (.v (.bool false)) []:=by
 have hm:(p.nodes.map ax).length=p.nodes.length:=by simp
 have hd:decide ((800:Int) < ((p.nodes.map ax).length:Int))=false:=by rw [hm];simpa using by omega
 refine ai Tryz.func136 Tryz.ntmps136 ?_;refine U [] (hB) ?_;refine U [] (hC) ?_;refine U [] (hL) ?_;refine U [] (hX) ?_;refine U [] (hP) ?_;refine U [] (hg) ?_;refine U [] (ha) ?_;refine U [] (hf) ?_;exact ao
theorem JD (p r:Src) (l:List T) (x:ah) (ts:List Tok) (c:Int) (b:Bool) (h:p.nodes.length<=800) (hB:GF Tryz.prog 155 [.agg (ar p)] [] (.tup [.sl 1 (bW l),.v (.bool true)]) [])
  (hC:GF Tryz.prog 156 [.sl 1 (bW l),.v (.func (.func 157) #[] #[])] [] (.v (.bool false)) [])
  (hL:GF Tryz.prog 159 [.agg (ar p),.sl 1 (bW l),.v (ik 160),.v (ik 161)] [] (.v (sv x)) [])
  (hX:GF Tryz.prog 162 [.v (sv x)] [] (.tup [ic ts,.v (ii 0),.v (ii c)]) [])
   (hg:GF Tryz.prog 164 [strs p.globals,strs r.globals] [] (.v (.bool true)) [])
  (ha:GF Tryz.prog 165 [(.sl 2 (p.arrays.map fun s=>aB s)),(.sl 2 (r.arrays.map fun s=>aB s))] [] (.v (.bool true)) [])
  (hf:GF Tryz.prog 166 [.sl 3 (p.fns.map au),.sl 3 (r.fns.map au),.v (.func (.func 167) #[] #[])] [] (.v (.bool true)) [])
  (hn:GF Tryz.prog 168 [.sl 5 (p.nodes.map ax),.sl 5 (r.nodes.map ax),.v (.func (.func 169) #[] #[])] [] (.v (.bool b)) [])
  (hP:GF Tryz.prog 163 [ic ts,.v (ii (x.length:Int))] [] (.tup [.agg (ar r),.v (ii 0),.v (ii 0)]) []) :
  GF Tryz.prog 136 [.agg (ar p)] [] (.v (.bool b)) []:=by
 have hm:(p.nodes.map ax).length=p.nodes.length:=by simp
 have hd:decide ((800:Int) < ((p.nodes.map ax).length:Int))=false:=by rw [hm];simpa using by omega
 refine ai Tryz.func136 Tryz.ntmps136 ?_;refine U [] (hB) ?_;refine U [] (hC) ?_;refine U [] (hL) ?_;refine U [] (hX) ?_;refine U [] (hP) ?_;refine U [] (hg) ?_;refine U [] (ha) ?_;refine U [] (hf) ?_;refine U [] (hn) ?_;exact ao
theorem Ey (p r:Src) (l:List T) (x:ah) (ts:List Tok) (c:Int) (b1 b2 b3 b4:Bool) (h:p.nodes.length<=800) (hB:GF Tryz.prog 155 [.agg (ar p)] [] (.tup [.sl 1 (bW l),.v (.bool true)]) [])
  (hC:GF Tryz.prog 156 [.sl 1 (bW l),.v (.func (.func 157) #[] #[])] [] (.v (.bool false)) [])
  (hL:GF Tryz.prog 159 [.agg (ar p),.sl 1 (bW l),.v (ik 160),.v (ik 161)] [] (.v (sv x)) [])
  (hX:GF Tryz.prog 162 [.v (sv x)] [] (.tup [ic ts,.v (ii 0),.v (ii c)]) [])
  (hg:GF Tryz.prog 164 [strs p.globals,strs r.globals] [] (.v (.bool b1)) [])
  (ha:GF Tryz.prog 165 [(.sl 2 (p.arrays.map fun s=>aB s)),(.sl 2 (r.arrays.map fun s=>aB s))] [] (.v (.bool b2)) [])
  (hf:GF Tryz.prog 166 [.sl 3 (p.fns.map au),.sl 3 (r.fns.map au),.v (.func (.func 167) #[] #[])] [] (.v (.bool b3)) [])
  (hn:GF Tryz.prog 168 [.sl 5 (p.nodes.map ax),.sl 5 (r.nodes.map ax),.v (.func (.func 169) #[] #[])] [] (.v (.bool b4)) [])
  (hP:GF Tryz.prog 163 [ic ts,.v (ii (x.length:Int))] [] (.tup [.agg (ar r),.v (ii 0),.v (ii 0)]) []) :
  GF Tryz.prog 136 [.agg (ar p)] [] (.v (.bool (b1&&(b2&&(b3&&b4))))) []:=by
 cases b1 with
 | false=>exact JA p r l x ts c h hB hC hL hX hg hP
 | true =>
  cases b2 with
  | false=>exact JB p r l x ts c h hB hC hL hX hg ha hP
  | true =>
   cases b3 with
   | false=>exact JC p r l x ts c h hB hC hL hX hg ha hf hP
   | true=>exact JD p r l x ts c b4 h hB hC hL hX hg ha hf hn hP
end Go.Xg
set_option maxHeartbeats 1000000
namespace Go.Xg
open Go.RowKit Go.Xw Go.Proofs
open Go.Xp (Tok Nd T Ar aK ay dW)
open Go.Sp (Src)
open Go.Im
attribute [local irreducible] GW GL GO YG GC GA aS aW
theorem Mg {st:PS} {f:Go.Sp.Fn} (h:f∈ot st):∃ x∈st.fns,f.params=x.2:=by
 unfold ot at h;obtain ⟨i,hi⟩:=List.getElem?_of_mem h;rw [getElem?_mapIdx] at hi
 cases hx:st.fns[i]? with
 | none=>rw [hx] at hi;cases hi
 | some x=>rw [hx] at hi;cases hi;exact ⟨x,mem_of_getElem? hx,rfl⟩
theorem Lm (p:Src) (hw:cM p<=1048576) (hn:kU p):GF Tryz.prog 136 [.agg (ar p)] [] (.v (.bool (fI p))) []:=by
 obtain ⟨⟨s1,s2⟩,⟨s3,s4⟩,⟨s5,s6⟩,⟨s7,s8⟩⟩:=cW p
 have eH:∀ n∈p.nodes,n.kids.length<=1099511627776:=fun n h=>by have:=(s8 n h).2;omega
 have hB:=vQ p ae eH ae;unfold fI
 by_cases h8:p.nodes.length > 800
 ·rw [if_pos h8];exact Ex p h8
 rw [if_neg h8]
 cases hb:gW p.nodes p.fns 0 [] with
 | none=>exact Ce p ae eH ae hb
 | some y =>
  obtain ⟨l,e⟩:=y;simp only
  by_cases he:e≠p.nodes.length
  ·rw [if_pos he];exact He p l e ae eH ae hb he
  rw [if_neg he]
  have he:e=p.nodes.length:=by simpa using he
  subst he;obtain ⟨l',h1,h2,h3,h4,h5⟩:=Co _ _ _ _ _ hb;rw [nil_append] at h1;subst h1
  have hz:ay l=p.nodes.length:=by omega
  have aam:=Sa hn h2 hz;have oR:=GY h2 hz;have pB:=fm.len h3;have X9:=dm.num hn.nodes l 0 h2
  by_cases hk:l.all fH=false
  ·rw [if_pos hk];exact Ew p l ae eH ae hb ae (fun t ht=>by have:=(oR t ht).2;omega) hk
  rw [if_neg hk]
  have hk:l.all fH=true:=by simpa using hk
  obtain ⟨ts,c,z,q,st,hr⟩:=reads (ml cE fi p l);rw [A0 hr];rw [hb] at hB;unfold Cn at hB;simp only at hB;rw [show ((p.nodes.length:Int)==(p.nodes.length:Int))=true by simp] at hB;have hC:=uJ l ae (fun t ht=>by have:=(oR t ht).2;omega);rw [hk] at hC;have hL:=Ps 160 161 cE fi Ql p l ae ae ae ae ae hn.arrays (fun f h=>by have:=(s6 f h).2.1;omega)
   (fun t ht=>⟨List.all_eq_true.1 hk t ht,jl X9 ht,by have:=(oR t ht).1;omega,by have:=(oR t ht).2;omega⟩)
  have hX:=PA _ _ ts c z ae hr.lex;have aaE:=hr.len;have hP:=HI ts (((ml cE fi p l).length:Nat):Int) q st ae ae (fun h=>by have:=(hr.ok h).2;omega) hr.read;have iC:=M1 _ _ _ _ _ _ (Nat.le_refl _) hr.read ⟨Nat.zero_le _,Nat.zero_le _,Nat.zero_le _,fun x h=>by cases h⟩;have eJ:=hr.ok;clear hr hb;generalize hxg:ml cE fi p l=x at *
  by_cases hc:c≠0
  ·rw [if_pos hc];exact Hf p l x ts c z ae hB hC hL hX (by simpa using hc)
  rw [if_neg hc]
  have hc:c=0:=by simpa using hc
  subst hc
  by_cases hq:q.code≠0
  ·rw [if_pos hq];unfold Jb at hP;rw [if_neg hq] at hP;exact zg p l x ts z q.code q.at_ ae hB hC hL hX hP (by simpa using hq)
  rw [if_neg hq]
  have hq:q.code=0:=by simpa using hq
  obtain ⟨DA,MV⟩:=eJ hq
  by_cases h9:ay st.trees > 800
  ·rw [if_pos h9];unfold Jb at hP;rw [if_pos hq,if_pos h9] at hP;exact zg p l x ts z 10 0 ae hB hC hL hX hP (by decide)
  rw [if_neg h9];rw [UZ hq h9 DA.len] at hP;obtain ⟨m1,m2,m3,m4⟩:=iC
  have iU:(dW 0 st.trees).length<=800:=by rw [Go.Xp.yG];omega
  unfold same;refine Ey p (Rj st) l x ts z _ _ _ _ ae hB hC hL hX ?_ ?_ ?_ ?_ hP
  ·exact HS _ _ ae (by show st.globals.length<=_;omega)
  ·exact Rw _ _ ae (by show st.arrays.length<=_;omega)
  ·refine Hb p.fns (ot st) ae ?_ (fun f h=>by have:=(s6 f h).2.1;omega) (fun f h=>?_)
   ·unfold ot;rw [List.length_mapIdx];omega
   ·obtain ⟨y,hy,h6⟩:=Mg h;rw [h6];have:=m4 y hy;omega
  ·exact Hc p.nodes (dW 0 st.trees) ae ae eH (fun n h=>by have:=AE st.trees 0 n h;omega)
theorem G5 (n lo hi:Int):GF Tryz.prog 53 [.v (ii n),.v (ii lo),.v (ii hi)] [] (.v (.bool (decide (lo<=n)&&decide (n<=hi)))) []:=by
 cases h:decide (lo<=n)
 all_goals
  refine ai Tryz.func53 Tryz.ntmps53 ?_;exact ao
end Go.Xg
set_option maxHeartbeats 2000000
namespace Go.Im
open Go.Xp Go.Sp
theorem BQ (p:Src):(cw p).length=p.globals.length+p.arrays.length+p.fns.length:=by simp [cw,eF,gX];omega
end Go.Im
namespace Go.Xg
open Go.RowKit Go.Xw Go.Proofs
open Go.Xp (Nd Ar)
open Go.Sp (Src)
open Go.Im
attribute [local irreducible] GW GL GO YG GC GA aS aW
theorem wE:∀ l:List ah,lN (bV l)=true
 | []=>rfl
 | s::l=>by
  have:=wE l;unfold bV at this |-;rw [List.map_cons,lN,this];rfl
theorem oG (l:List ah):(bV l).length=l.length:=by simp [bV]
theorem JI (p:Src) (hw:cM p<=1048576):GC Tryz.prog 82 [.agg (ar p)] [] fun g Δ=>∃ a c,g=.v (.slice a (cw p).length c)/\Δ=[.vech 9 1 (bV (cw p)) (.slice a (cw p).length c)]:=by
 obtain ⟨⟨a1,a2⟩,⟨b1,b2⟩,⟨c1,c2⟩,⟨d1,d2⟩⟩:=cW p
 have Bw:(p.globals.map fun s=>[GV.v (sv s)]).length=p.globals.length:=by simp
 have gM:lN (p.globals.map fun s=>[GV.v (sv s)])=true:=wE p.globals;refine db Tryz.func82 Tryz.ntmps82 ?_;refine GW.wk (Wk.mU 9 1) ?_;simp only [nil_append];refine ab ?_;refine GL.Eh 0 rfl rfl rfl rfl gM (by refine ⟨?_,?_⟩;(· rw [Bw];omega);(· rw [Bw];omega)) ?_;intro a c;rw [Bw];refine bT ?_;simp only [nil_append,length_nil,Nat.zero_add];refine ab ?_;refine GW.range (p.arrays.map aB).length (fun k fr Γ=>∃ a c R n,fr=[.aaF,.loc 1 0,.aaF,.v (.slice a n c),.aaF,.aaF,.aaF,.aaF,.aaF,.aaF,.aaF,.aaF,.sl 2 (p.arrays.map aB),.v (ii ((p.arrays.map aB).length:Int)),.v (ii (k:Nat)),.aaF,.aaF,.aaF,.aaF,.aaF,.aaF,.aaF,.aaF,.aaF,.aaF,.aaF,.aaF,.aaF,.aaF,.aaF,.aaF,.aaF,.aaF,.aaF,.aaF,.aaF,.aaF,.aaF]/\Γ=[.vech 9 1 R (.slice a n c),.box 34 (ar p)]/\R.length=n/\R=bV (p.globals++(eF p).take k)) ?_ (by rw [length_map];omega) ?_ ?_ ?_
 ·exact ⟨_,_,Wk.aw al,_,_,_,_,rfl,rfl,Bw,by simp [bV]⟩
 ·rintro k _ _ ⟨a,c,R,n,rfl,rfl,_⟩;exact ⟨rfl,rfl,rfl⟩
 ·rintro k _ _ hk ⟨a,c,R,n,rfl,rfl,eu,hR⟩
  have hk:k < p.arrays.length:=by simpa using hk
  have hx:p.arrays[k]?=some p.arrays[k]:=by simp [hk]
  have hr:=Gp hx
  have bq:bV (p.globals++(eF p).take (k+1))=R++[[.v (sv p.arrays[k].name)]]:=by
   have:(eF p)[k]?=some p.arrays[k].name:=by rw [eF,getElem?_map,hx];rfl
   rw [take_add_one,this,hR];simp [bV]
  have rf:n<=4194304:=by
   rw [<-eu,hR,oG,length_append,length_take];omega
  clear hR;unfold aB at hr;generalize p.arrays[k]=x at *;refine ab ?_;refine GL.jG 0 rfl rfl rfl rfl rfl rfl rfl rfl (by first | rfl | assumption) ⟨⟨by omega,by omega⟩,by decide⟩ ?_;intro a2 c2;refine bI ?_;refine ab ?_;exact ⟨rfl,rfl,_,_,(Wk.cut (n:=2) (Nat.zero_le _) rfl).trans (Wk.aw al),a2,c2,_,_,rfl,rfl,by simp [eu],bq.symm⟩
 ·rintro _ _ ⟨a,c,R,n,rfl,rfl,eu,hR⟩;rw [length_map,show p.arrays.length=(eF p).length by simp [eF],take_length] at hR;refine aD ?_;refine ab ?_;refine GW.range (p.fns.map au).length (fun k fr Γ=>∃ a c R n,fr=[.aaF,.loc 1 0,.aaF,.v (.slice a n c),.aaF,.aaF,.aaF,.aaF,.aaF,.aaF,.aaF,.aaF,.aaF,.aaF,.aaF,.aaF,.aaF,.aaF,.aaF,.aaF,.aaF,.aaF,.aaF,.aaF,.aaF,.sl 3 (p.fns.map au),.v (ii ((p.fns.map au).length:Int)),.v (ii (k:Nat)),.aaF,.aaF,.aaF,.aaF,.aaF,.aaF,.aaF,.aaF,.aaF,.aaF]/\Γ=[.vech 9 1 R (.slice a n c),.box 34 (ar p)]/\R.length=n/\R=bV ((p.globals++eF p)++(gX p).take k)) ?_ (by rw [length_map];omega) ?_ ?_ ?_
  ·exact ⟨_,_,Wk.aw al,_,_,_,_,rfl,rfl,eu,by rw [hR];simp⟩
  ·rintro k _ _ ⟨a,c,R,n,rfl,rfl,_⟩;exact ⟨rfl,rfl,rfl⟩
  ·rintro k _ _ hk ⟨a,c,R,n,rfl,rfl,eu,hR⟩
   have hk:k < p.fns.length:=by simpa using hk
   have hx:p.fns[k]?=some p.fns[k]:=by simp [hk]
   have hr:=BX hx
   have bq:bV ((p.globals++eF p)++(gX p).take (k+1))=R++[[.v (sv p.fns[k].name)]]:=by
    have:(gX p)[k]?=some p.fns[k].name:=by rw [gX,getElem?_map,hx];rfl
    rw [take_add_one,this,hR];simp [bV]
   have rf:n<=4194304:=by
    rw [<-eu,hR,oG,length_append,length_append,length_take,eF,length_map];omega
   clear hR;unfold au at hr;generalize p.fns[k]=x at *;refine ab ?_;refine GL.jG 0 rfl rfl rfl rfl rfl rfl rfl rfl (by first | rfl | assumption) ⟨⟨by omega,by omega⟩,by decide⟩ ?_;intro a2 c2;refine bI ?_;refine ab ?_;exact ⟨rfl,rfl,_,_,(Wk.cut (n:=2) (Nat.zero_le _) rfl).trans (Wk.aw al),a2,c2,_,_,rfl,rfl,by simp [eu],bq.symm⟩
  ·rintro _ _ ⟨a,c,R,n,rfl,rfl,eu,hR⟩;rw [length_map,show p.fns.length=(gX p).length by simp [gX],take_length] at hR
   have ri:n=(cw p).length:=by rw [<-eu,hR,oG];rfl
   subst ri;refine aD ?_;refine ab ?_
   (repeat (first | refine GW.ret ?_ | refine cr ?_ | refine cn ?_ | refine aD ?_ | refine bQ ?_))
   exact po (n:=1) rfl (by first | exact .inr rfl | exact .inl rfl) rfl (Nat.zero_le _) rfl rfl ⟨a,c,rfl,by rw [hR];rfl⟩
end Go.Xg
set_option maxHeartbeats 4000000
namespace Go.Im
open Go.Xp Go.Sp
def w9 (l:List ah) (k:Nat):Int:=if (List.range k).any (jS l)=true then 21 else 0
theorem PD (l:List ah) (k:Nat):w9 l (k+1)=if jS l k=true then fE (w9 l k) 21 else w9 l k:=by
 unfold w9;rw [List.range_succ,List.any_append]
 cases h:(List.range k).any (jS l) with
 | true=>simp [fE]
 | false=>simp [fE]
theorem Sl (l:List ah):w9 l l.length=if dU l=true then 21 else 0:=rfl
end Go.Im
namespace Go.Xg
open Go.RowKit Go.Xw Go.Proofs
open Go.Xp (Nd T Ar aK ay)
open Go.Sp (Src)
open Go.Im
attribute [local irreducible] GW GL GO YG GC GA aS aW
theorem Ko (p:Src) (hw:cM p<=1048576) :
  GF Tryz.prog 130 [.loc 0 0] [.box 133 (cC p (.slice none 0 0) ⟨[],0,0⟩)] (.tup []) [.box 133 (cC p (.slice none 0 0) ⟨[],(if dU (cw p)=true then 21 else 0),0⟩)]:=by
 obtain ⟨⟨a1,a2⟩,⟨b1,b2⟩,⟨c1,c2⟩,⟨d1,d2⟩⟩:=cW p
 have Bw:(p.globals.map fun s=>[GV.v (sv s)]).length=p.globals.length:=by simp
 have gM:lN (p.globals.map fun s=>[GV.v (sv s)])=true:=wE p.globals;have ri:=BQ p;rw [<-Sl]
 have xB:=fun k=>Cy p (.slice none 0 0) (w9 (cw p) k) 21
 rw [show (0:Int)=w9 (cw p) 0 from rfl];unfold cC at xB |-;refine ai Tryz.func130 Tryz.ntmps130 ?_;refine ma ?_;refine ab ?_;refine ma ?_;refine ab ?_;refine GL.VA rfl rfl rfl rfl gM (by refine ⟨?_,?_⟩;(· rw [Bw];omega);(· rw [Bw];omega)) ?_;rw [Bw];refine bT ?_;simp only [Nat.zero_add];refine ab ?_;refine GW.range (p.arrays.map aB).length (fun k fr Γ=>∃ R n,fr=[.loc 0 0,.aaF,.vec 1 0,.vec 2 n,.aaF,.aaF,.aaF,.aaF,.aaF,.aaF,.aaF,.aaF,.aaF,.aaF,.aaF,.aaF,.aaF,.aaF,.aaF,.aaF,.aaF,.aaF,.sl 2 (p.arrays.map aB),.v (ii ((p.arrays.map aB).length:Int)),.v (ii (k:Nat)),.aaF,.aaF,.aaF,.aaF,.aaF,.aaF,.aaF,.aaF,.aaF,.aaF,.aaF,.aaF,.aaF,.aaF,.aaF,.aaF,.aaF,.aaF,.aaF,.aaF,.aaF,.aaF,.aaF,.aaF,.aaF,.aaF,.aaF,.aaF,.aaF,.aaF,.aaF,.aaF,.aaF,.aaF,.aaF,.aaF,.aaF,.aaF,.aaF,.aaF,.aaF,.aaF,.aaF,.aaF,.aaF]/\Γ=[.box 133 [strs p.globals,.sl 2 (p.arrays.map aB),.sl 3 (p.fns.map au),.sl 5 (p.nodes.map ax),.v (.slice none 0 0),.v (ii (w9 (cw p) 0)),.v (ii 0)],.vec 9 1 0 [],.vec 9 1 0 R]/\R.length=n/\R=bV (p.globals++(eF p).take k)) ?_ (by rw [length_map];omega) ?_ ?_ ?_
 ·exact ⟨_,_,Wk.aw al,_,_,rfl,rfl,Bw,by simp [bV,chunk]⟩
 ·rintro k _ _ ⟨R,n,rfl,rfl,_⟩;exact ⟨rfl,rfl,rfl⟩
 ·rintro k _ _ hk ⟨R,n,rfl,rfl,eu,hR⟩
  have hk:k < p.arrays.length:=by simpa using hk
  have hx:p.arrays[k]?=some p.arrays[k]:=by simp [hk]
  have hr:=Gp hx
  have bq:bV (p.globals++(eF p).take (k+1))=R++[[.v (sv p.arrays[k].name)]]:=by
   have:(eF p)[k]?=some p.arrays[k].name:=by rw [eF,getElem?_map,hx];rfl
   rw [take_add_one,this,hR];simp [bV]
  have rf:n<=4194304:=by
   rw [<-eu,hR,oG,length_append,length_take];omega
  have hb:n+1<=9223372036854775807/\(n+1) * 16<=140737488355328:=by omega
  clear hR;unfold aB at hr;generalize p.arrays[k]=x at *;refine ab ?_;refine ea ?_;refine ab ?_;exact ⟨rfl,rfl,_,_,(Wk.cut (n:=3) (Nat.le_of_ble_eq_true rfl) rfl).trans (Wk.aw al),_,_,rfl,rfl,by simp [eu],bq.symm⟩
 ·rintro _ _ ⟨R,n,rfl,rfl,eu,hR⟩;rw [length_map,show p.arrays.length=(eF p).length by simp [eF],take_length] at hR;refine aD ?_;refine ab ?_;refine GW.range (p.fns.map au).length (fun k fr Γ=>∃ R n,fr=[.loc 0 0,.aaF,.vec 1 0,.vec 2 n,.aaF,.aaF,.aaF,.aaF,.aaF,.aaF,.aaF,.aaF,.aaF,.aaF,.aaF,.aaF,.aaF,.aaF,.aaF,.aaF,.aaF,.aaF,.aaF,.aaF,.aaF,.aaF,.aaF,.aaF,.aaF,.aaF,.aaF,.aaF,.aaF,.aaF,.aaF,.aaF,.aaF,.aaF,.sl 3 (p.fns.map au),.v (ii ((p.fns.map au).length:Int)),.v (ii (k:Nat)),.aaF,.aaF,.aaF,.aaF,.aaF,.aaF,.aaF,.aaF,.aaF,.aaF,.aaF,.aaF,.aaF,.aaF,.aaF,.aaF,.aaF,.aaF,.aaF,.aaF,.aaF,.aaF,.aaF,.aaF,.aaF,.aaF,.aaF,.aaF,.aaF]/\Γ=[.box 133 [strs p.globals,.sl 2 (p.arrays.map aB),.sl 3 (p.fns.map au),.sl 5 (p.nodes.map ax),.v (.slice none 0 0),.v (ii (w9 (cw p) 0)),.v (ii 0)],.vec 9 1 0 [],.vec 9 1 0 R]/\R.length=n/\R=bV ((p.globals++eF p)++(gX p).take k)) ?_ (by rw [length_map];omega) ?_ ?_ ?_
  ·exact ⟨_,_,Wk.aw al,_,_,rfl,rfl,eu,by rw [hR];simp⟩
  ·rintro k _ _ ⟨R,n,rfl,rfl,_⟩;exact ⟨rfl,rfl,rfl⟩
  ·rintro k _ _ hk ⟨R,n,rfl,rfl,eu,hR⟩
   have hk:k < p.fns.length:=by simpa using hk
   have hx:p.fns[k]?=some p.fns[k]:=by simp [hk]
   have hr:=BX hx
   have bq:bV ((p.globals++eF p)++(gX p).take (k+1))=R++[[.v (sv p.fns[k].name)]]:=by
    have:(gX p)[k]?=some p.fns[k].name:=by rw [gX,getElem?_map,hx];rfl
    rw [take_add_one,this,hR];simp [bV]
   have rf:n<=4194304:=by
    rw [<-eu,hR,oG,length_append,length_append,length_take,eF,length_map];omega
   have hb:n+1<=9223372036854775807/\(n+1) * 16<=140737488355328:=by omega
   clear hR;unfold au at hr;generalize p.fns[k]=x at *;refine ab ?_;refine ea ?_;refine ab ?_;exact ⟨rfl,rfl,_,_,(Wk.cut (n:=3) (Nat.le_of_ble_eq_true rfl) rfl).trans (Wk.aw al),_,_,rfl,rfl,by simp [eu],bq.symm⟩
  ·rintro _ _ ⟨R,n,rfl,rfl,eu,hR⟩;rw [length_map,show p.fns.length=(gX p).length by simp [gX],take_length] at hR;have hR:R=bV (cw p):=hR
   have mO:R.length=(cw p).length:=by rw [hR,oG]
   have TZ:n=R.length:=eu.symm;subst TZ;refine aD ?_;refine GW.wk (Wk.iv (t:=3) rfl rfl rfl rfl) ?_;refine GW.wk (Wk.cut (n:=2) (Nat.le_of_ble_eq_true rfl) rfl) ?_;refine GW.L4 (bU:=[.loc 0 0,.aaF,.vec 1 0,.sl 1 R,.aaF,.aaF,.aaF,.aaF,.aaF,.aaF,.aaF,.aaF,.aaF,.aaF,.aaF,.aaF,.aaF,.aaF,.aaF,.aaF,.aaF,.aaF,.aaF,.aaF,.aaF,.aaF,.aaF,.aaF,.aaF,.aaF,.aaF,.aaF,.aaF,.aaF,.aaF,.aaF,.aaF,.aaF,.aaF,.aaF,.aaF,.aaF,.aaF,.aaF,.aaF,.aaF,.aaF,.aaF,.aaF,.aaF,.aaF,.aaF,.aaF,.aaF,.aaF,.aaF,.aaF,.aaF,.aaF,.aaF,.aaF,.aaF,.aaF,.aaF,.aaF,.aaF,.aaF,.aaF,.aaF,.aaF]) (aH:=[.box 133 [strs p.globals,.sl 2 (p.arrays.map aB),.sl 3 (p.fns.map au),.sl 5 (p.nodes.map ax),.v (.slice none 0 0),.v (ii (w9 (cw p) 0)),.v (ii 0)],.vec 9 1 0 []]) al rfl ?_;refine ab ?_;refine GW.range R.length (fun k fr Γ=>∃ S n fz,fr=[.loc 0 0,.aaF,.vec 1 n,.aaF,.aaF,.aaF,.aaF,.aaF,.aaF,.aaF,.aaF,.aaF,.aaF,.aaF,.aaF,.aaF,.aaF,.aaF,.aaF,.aaF,.aaF,.aaF,.aaF,.aaF,.aaF,.aaF,.aaF,.aaF,.aaF,.aaF,.aaF,.aaF,.aaF,.aaF,.aaF,.aaF,.aaF,.aaF,.aaF,.aaF,.aaF,.aaF,.aaF,.aaF,.aaF,.aaF,.aaF,.aaF,.aaF,.aaF,.sl 1 R,.v (ii (R.length:Int)),.v (ii (k:Nat)),.aaF,.aaF,.aaF,.aaF,.aaF,.aaF,.aaF,.aaF,.aaF,.aaF,.aaF,.aaF,.aaF,.aaF,.aaF,.aaF,.aaF]/\Γ=[.box 133 [strs p.globals,.sl 2 (p.arrays.map aB),.sl 3 (p.fns.map au),.sl 5 (p.nodes.map ax),.v (.slice none 0 0),.v (ii (w9 (cw p) k)),.v (ii 0)],.vec 9 1 fz S]/\S.length=n/\S=bV ((cw p).take k)) ?_ ae ?_ ?_ ?_
   ·exact ⟨_,_,Wk.aw al,_,_,_,rfl,rfl,rfl,by simp [bV]⟩
   ·rintro k _ _ ⟨S,n,fz,rfl,rfl,_⟩;exact ⟨rfl,rfl,rfl⟩
   ·rintro k _ _ hk ⟨S,n,fz,rfl,rfl,eO,hS⟩;rw [mO] at hk;obtain ⟨x,hx⟩:∃ x,(cw p)[k]?=some x:=⟨(cw p)[k],by simp [hk]⟩
    have QW:R[k]?=some [.v (sv x)]:=by rw [hR,bV,getElem?_map,hx];rfl
    have bq:bV ((cw p).take (k+1))=S++[[.v (sv x)]]:=by rw [take_add_one,hx,hS];simp [bV]
    have rf:n<=8388608:=by rw [<-eO,hS,oG,length_take];omega
    have hb:n+1<=9223372036854775807/\(n+1) * 16<=140737488355328:=by omega
    have hd:jS (cw p) k=(lJ x || ((cw p).take k).contains x):=by unfold jS;rw [hx]
    have Mz:=Kp x
    have hL:GF Tryz.prog 74 [.sl 1 S,.v (sv x)] [] (.v (.bool (((cw p).take k).contains x))) []:=by
     rw [hS];exact iO ((cw p).take k) x (by rw [length_take];omega)
    have hF:=xB k;rw [PD];clear hS hR mO;generalize w9 (cw p) k=cd at *;generalize jS (cw p) k=bn at *
    cases h1:lJ x with
    | true =>
     rw [h1] at Mz hd;subst hd;rw [if_pos (by simp)];refine ab ?_;refine U [] (Mz) ?_;refine U [0] (hF) ?_;refine ea ?_;refine ab ?_;exact ⟨rfl,rfl,_,_,Wk.aw al,_,_,_,rfl,rfl,by simp [eO],bq.symm⟩
    | false =>
     rw [h1] at Mz hd
     cases h2:((cw p).take k).contains x with
     | true =>
      rw [h2] at hL hd;subst hd;rw [if_pos (by simp)];refine ab ?_;refine U [] (Mz) ?_;refine GL.wk (Wk.iv (t:=59) rfl rfl rfl eO) ?_;refine bI ?_;refine ab ?_;refine U [] (hL) ?_;refine U [0] (hF) ?_;refine ea ?_;refine ab ?_;exact ⟨rfl,rfl,_,_,Wk.aw al,_,_,_,rfl,rfl,by simp [eO],bq.symm⟩
     | false =>
      rw [h2] at hL hd;subst hd;rw [if_neg (by simp)];refine ab ?_;refine U [] (Mz) ?_;refine GL.wk (Wk.iv (t:=59) rfl rfl rfl eO) ?_;refine bI ?_;refine ab ?_;refine U [] (hL) ?_;refine ea ?_;refine ab ?_;exact ⟨rfl,rfl,_,_,Wk.aw al,_,_,_,rfl,rfl,by simp [eO],bq.symm⟩
   ·rintro _ _ ⟨S,n,fz,rfl,rfl,eO,hS⟩;rw [mO];exact fP
end Go.Xg
namespace Go.Xg
open Go.RowKit Go.Xw Go.Proofs
open Go.Xp (Nd T Ar aK ay)
open Go.Sp (Src)
open Go.Im
attribute [local irreducible] GW GL GO YG GC GA aS aW
theorem IQ (p:Src) (c z:Int) (h:GF Tryz.prog 97 [.agg (ar p)] [] (.tup [.v (ii c),.v (ii z)]) []):GF Tryz.prog 39 [.agg (ar p)] [] (.v (.bool (c==0))) []:=by
 refine ai Tryz.func39 Tryz.ntmps39 ?_;refine U [] (h) ?_;exact ao
end Go.Xg
namespace Go.Im
open Go.Xp Go.Sp
def gY (p:Src) (fn:Int):Bool:=(eo p&&decide ((0:Int)<=fn))&&decide (fn < (p.fns.length:Int))
end Go.Im
namespace Go.Xg
open Go.RowKit Go.Xw Go.Proofs
open Go.Xp (Nd T Ar aK ay b7)
open Go.Sp (Src)
open Go.Im
attribute [local irreducible] GW GL GO YG GC GA aS aW
theorem Jm {l:List T} {t:T} (h:t∈l):aK t<=ay l:=by
 obtain ⟨k,hk⟩:=List.getElem?_of_mem h;have:=tC hk;omega
theorem Fi {p:Src} (h:fI p=false):eo p=false:=by unfold eo;rw [h];rfl
theorem Dq {p:Src} {l:List T} (h:fI p=true) (hl:fD p l):eo p=((Bf p l).1==0):=by
 unfold eo;rw [h,hl.zj];simp only [Bool.true_and];rfl
theorem yK (p:Src) (hw:cM p<=1048576) (hn:kU p):GF Tryz.prog 45 [.agg (ar p)] [] (.v (.bool (eo p))) []:=by
 obtain ⟨⟨a1,a2⟩,⟨b1,b2⟩,⟨c1,c2⟩,⟨d1,d2⟩⟩:=cW p;have hF:=Lm p hw hn
 cases hf:fI p with
 | false =>
  rw [hf] at hF;have:=Mt p _ _ (Lh p hF);rw [Fi hf];exact this
 | true =>
  rw [hf] at hF;obtain ⟨l,hl⟩:=qZ hf;have hlen:=fm.len hl.fns;have ri:=BQ p;have iT:=Dd hl
  have hc:=Jz p l (cw p) ae hlen ae hF (JI p hw) (N2 p ae ae fun a ha=>⟨(iT a ha).1,by have:=(iT a ha).2;omega⟩) fun i f t h1 h2=>by
   obtain ⟨e1,_⟩:=fm.at_ hl.fns i f t h1 h2;have h7:=dm.ix l 0 i _ hl.st h2;rw [Nat.zero_add] at e1 h7
   have hb:f.body.toNat=ay (l.take i):=by rw [e1,Int.toNat_natCast]
   have hz:=Jm (mem_of_getElem? h2);have:=hl.len;have:=Mf p i f t ae (fun n h=>by have:=(d2 n h).2;omega) ae ae ae h1 (by have:=(c2 f (mem_of_getElem? h1)).2.1;omega) ae (by rw [hb];exact h7) ae;rw [hb] at this;exact this
  rw [Dq hf hl];exact Mt p _ _ hc
theorem u9 (p:Src) (hw:cM p<=1048576):GF Tryz.prog 39 [.agg (ar p)] [] (.v (.bool (eo p))) []:=by
 obtain ⟨⟨a1,a2⟩,⟨b1,b2⟩,⟨c1,c2⟩,⟨d1,d2⟩⟩:=cW p;have hF:=Ll p hw
 cases hf:fI p with
 | false =>
  rw [hf] at hF;have:=IQ p _ _ (Lg p hF);rw [Fi hf];exact this
 | true =>
  rw [hf] at hF;obtain ⟨l,hl⟩:=qZ hf;have hlen:=fm.len hl.fns;have iT:=Dd hl
  have Uq:∀ a∈p.arrays,0<=a.size/\a.size<=2147483648:=fun a ha=>⟨(iT a ha).1,by have:=(iT a ha).2;omega⟩
  obtain ⟨ls,hm⟩:=hl.JX
  have hS:=fun k=>F1 p (.slice none 0 0) k ae Uq fun h=>Ee p (.slice none 0 0) k ae ae Uq h
  have hle:=hl.len
  have hc:=Jy p l _ _ hlen ae ae ae (fun f h=>by have:=(c2 f h).2.1;omega) (fun t ht=>by have:=Jm ht;omega) hF (Ko p hw) (hS _) fun i f t h1 h2=>by
   obtain ⟨e1,_⟩:=fm.at_ hl.fns i f t h1 h2;have h7:=dm.ix l 0 i _ hl.st h2;rw [Nat.zero_add] at e1 h7;rw [e1];exact Ep p (fun n h=>by have:=(d2 n h).2;omega) _ _ t ((vH _).1 t _ h7 (Nat.le_refl _))
  have:=IQ p _ _ hc;have hs:=Ta (p:=p) (l:=l) (fun a ha=>(iT a ha).1) (fun t ht=>by obtain ⟨i,hi⟩:=List.getElem?_of_mem ht;exact (hm.wf hi).1)
  have e:((LK p l).code==0)=eo p:=by
   rw [Dq hf hl]
   by_cases h0:(Bf p l).1=0
   ·rw [h0,hs.1 h0]
   ·have h1:(LK p l).code≠0:=fun e=>h0 (hs.2 e)
    rw [show ((Bf p l).1==0)=false by simpa using h0,show ((LK p l).code==0)=false by simpa using h1]
  rw [<-e];exact this
theorem O0 (p:Src) (fn:Int) (hw:cM p<=1048576) (hn:kU p):GF Tryz.prog 55 [.agg (ar p),.v (ii fn)] [] (.v (.bool (gY p fn))) []:=by
 obtain ⟨⟨a1,a2⟩,⟨b1,b2⟩,⟨c1,c2⟩,⟨d1,d2⟩⟩:=cW p;have h:=R8 p fn _ _ ae (yK p hw hn) (G5 fn 0 _)
 have e:gY p fn=((decide ((0:Int)<=fn)&&decide (fn<=(((p.fns.map au).length:Int) - 1)))&&eo p):=by
  unfold gY;rw [show decide (fn<=(((p.fns.map au).length:Int) - 1))=decide (fn < (p.fns.length:Int)) by rw [length_map];apply decide_eq_decide.2;omega]
  cases eo p <;> cases decide ((0:Int)<=fn) <;> cases decide (fn < (p.fns.length:Int)) <;> rfl
 rw [e];exact h
end Go.Xg
namespace Go.Im
open Go.Xp Go.Sp
end Go.Im
namespace Go.Xg
open Go.RowKit Go.Xw Go.Proofs
open Go.Xp (Nd T Ar aK ay b7)
open Go.Sp (Src)
open Go.Im
attribute [local irreducible] GW GL GO YG GC GA aS aW
theorem Vd (p:Src) (hk:∀ n∈p.nodes,n.kids.length<=1000000000000) (f:Go.Sp.Fn) (t:T) (hb:0<=f.body) (bY:eh p.nodes f.body.toNat t):GF Tryz.prog 99 [.agg (ar p),.v (ii f.body)] [] (.agg (cT t)) []:=by
 have:=Ep p hk _ _ t ((vH _).1 t _ bY (Nat.le_refl _))
 rwa [Int.toNat_of_nonneg hb] at this
end Go.Xg
namespace Go.Im
open Go.Xp Go.Sp
theorem Good.zj {p:Src} {l:List T} (h:Good p l):gW p.nodes p.fns 0 []=some (l,p.nodes.length):=h.st.zj
structure o9 (p:Src) (l:List T) (i:Nat) (f:Go.Sp.Fn) (t:T):Prop where
 good:Good p l
 gf:p.fns[i]?=some f
 gt:l[i]?=some t
 ok:I9 p t f.params
 wf:gi t
 z:zT t
 st:eh p.nodes f.body.toNat t
 body:0<=f.body
 sz:aK t<=800
theorem Good.fn {p:Src} {l:List T} (h:Good p l) {i:Nat} {f:Go.Sp.Fn} {t:T} (e1:p.fns[i]?=some f) (e2:l[i]?=some t):o9 p l i f t:=by
 obtain ⟨a1,a2,a3,a4,a5⟩:=h.at_ _ _ _ e1 e2;refine ⟨h,e1,e2,a1,a2,a3,a4,a5,?_⟩;have:=h.st.few;have:=a4.le;omega
theorem yM {p:Src} {fn:Int} (h:gY p fn=true):∃ (i:Nat) (l:List T) (f:Go.Sp.Fn) (t:T),fn=(i:Int)/\o9 p l i f t:=by
 unfold gY at h;simp only [Bool.and_eq_true,decide_eq_true_eq] at h;obtain ⟨⟨h1,h2⟩,h3⟩:=h;obtain ⟨l,hl⟩:=r7 h1;have hlen:=hl.len
 have hi:fn.toNat < p.fns.length:=by omega
 have e1:p.fns[fn.toNat]?=some p.fns[fn.toNat]:=List.getElem?_eq_getElem _;have e2:l[fn.toNat]?=some (l[fn.toNat]'(by omega)):=List.getElem?_eq_getElem _;obtain ⟨a1,a2,a3,a4,a5⟩:=hl.at_ _ _ _ e1 e2;refine ⟨fn.toNat,l,_,_,by omega,hl,e1,e2,a1,a2,a3,a4,a5,?_⟩;have:=hl.st.few;have:=a4.le;omega
end Go.Im
namespace Go.Xg
open Go.RowKit Go.Xw Go.Proofs
open Go.Xp (Nd T Ar aK ay b7)
open Go.Sp (Src)
open Go.Im
attribute [local irreducible] GW GL GO YG GC GA aS aW
theorem xD {p:Src} {fn:Int} (h:gY p fn=true):eo p=true:=by
 unfold gY at h;simp only [Bool.and_eq_true,decide_eq_true_eq] at h;exact h.1.1
end Go.Xg
namespace Go.Im
open Go.Xp Go.Sp
theorem RG (p:Src) (s:List Int) (a:Nat) (t:T) (ls:List ah):(eZ p s a t ls).length<=s.length+1:=by
 unfold eZ;rw [length_append];have:=Cu p t.n;omega
end Go.Im
namespace Go.Xg
open Go.RowKit Go.Xw Go.Proofs
open Go.Xp (Nd T Ar aK ay)
open Go.Sp (Src)
open Go.Im
attribute [local irreducible] GW GL GO YG GC GA aS aW
theorem SP (p:Src) (a:Nat) (n:Nd) (l:List T) (ls:List ah) (s:List Int) (E1:TypeId) (eb:Option Addr) (ec:Nat) (ad:Option Addr) (cp:Nat) (hn:p.nodes[a]?=some n) (fG:p.fns.length<=1099511627776) (hs:s.length<=1048576000) :
  GC Tryz.prog 104 [.v (ii (a:Nat)),.v (.slice ad ls.length cp),.box (ar p) 0,.loc 0 0] [.box E1 [.v (.slice eb s.length ec)],.vech 3 1 (bm s) (.slice eb s.length ec),.vech 9 1 (bV ls) (.slice ad ls.length cp)] fun g Δ=>g=.tup []/\∃ wQ wR,
   Δ=[.box E1 [.v (.slice wQ (eZ p s a (.mk n l) ls).length wR)],.vech 3 1 (bm (eZ p s a (.mk n l) ls)) (.slice wQ (eZ p s a (.mk n l) ls).length wR),.vech 9 1 (bV ls) (.slice ad ls.length cp)]:=by
 have hr:=jC hn;have qb:=da s;have hA:=Me p n.s fG;have e0:cH (fun x:Go.Sp.Fn=>x.name==n.s) p.fns=nt p n.s:=rfl;rw [e0] at hA;have e:eZ p s a (.mk n l) ls=s++(if n.kind=4/\0<=nt p n.s then [nt p n.s] else []):=rfl;rw [e];unfold ax at hr;generalize nt p n.s=z at *
 cases h1:(n.kind==4) with
 | false =>
  rw [if_neg (fun h=>by rw [h.1] at h1;cases h1),append_nil];refine ai Tryz.func104 Tryz.ntmps104 ?_;refine GW.draw (.q 0 (.q 1 (.q 2 (.q 3 (.q 4 (.q 5 (.q 6 (.a 7 (.q 8 .nil))))))))) (by kernel_rfl) (by kernel_rfl) ?_;refine aj ?_;refine az [] (hA) ?_;refine ab ?_;refine cK ?_;exact ⟨rfl,eb,ec,rfl⟩
 | true =>
  cases h2:decide ((0:Int)<=z) with
  | false =>
   rw [if_neg (fun h=>by have:=of_decide_eq_false h2;exact this h.2),append_nil];refine ai Tryz.func104 Tryz.ntmps104 ?_;refine GW.draw (.q 0 (.q 1 (.q 2 (.q 3 (.q 4 (.q 5 (.q 6 (.a 7 (.q 8 .nil))))))))) (by kernel_rfl) (by kernel_rfl) ?_;refine aj ?_;refine az [] (hA) ?_;refine ab ?_;refine cK ?_;exact ⟨rfl,eb,ec,rfl⟩
  | true =>
   rw [if_pos ⟨by simpa using h1,by simpa using h2⟩];refine ai Tryz.func104 Tryz.ntmps104 ?_;refine GW.draw (.q 0 (.q 1 (.q 2 (.q 3 (.q 4 (.q 5 (.q 6 (.a 7 (.q 8 .nil))))))))) (by kernel_rfl) (by kernel_rfl) ?_;refine aj ?_;refine az [] (hA) ?_;refine ab ?_;refine GL.jG 1 rfl rfl rfl rfl rfl rfl rfl rfl (by first | rfl | assumption) ⟨⟨by omega,by omega⟩,by decide⟩ ?_;intro sr sy;refine bI ?_;refine ab ?_;refine cK ?_;exact ⟨rfl,sr,sy,by simp [bm]⟩
end Go.Xg
namespace Go.Xg
open Go.RowKit Go.Xw Go.Proofs
open Go.Xp (Nd T Ar aK ay dQ)
open Go.Sp (Src)
open Go.Im
attribute [local irreducible] GW GL GO YG GC GA aS aW
def GS (p:Src):GV:=.fn (.func 104) [] [.box (ar p) 0,.loc 0 0]
def Rl (p:Src):GV:=.fn (.func 127) [] [.loc 2 0,.loc 3 0,.box (ar p) 0,.loc 4 0]
def Rh (E1:TypeId) (s:List Int) (eb:Option Addr) (ec:Nat):List Ob:=[.box E1 [.v (.slice eb s.length ec)],.vech 3 1 (bm s) (.slice eb s.length ec)]
def DT (p:Src) (E1 E2 E3 E4:TypeId) (s:List Int) (ls:List ah) (ad:Option Addr) (cp:Nat) (eb:Option Addr) (ec:Nat):List Ob :=
 [.box E1 [.v (.slice eb s.length ec)],.vech 3 1 (bm s) (.slice eb s.length ec),.box E2 [GS p],.box E3 [.v (.slice ad ls.length cp)],.box E4 [Rl p],.vech 9 1 (bV ls) (.slice ad ls.length cp)]
theorem Qh (p:Src) (E1 E2 E3 E4:TypeId) (hp:p.nodes.length<=1048576) (eH:∀ n∈p.nodes,n.kids.length<=1099511627776) (fG:p.fns.length<=1099511627776):∀ (N:Nat) (t:T),aK t<=N->∀ (a:Nat) (s:List Int) (ls:List ah) (ad:Option Addr) (cp:Nat) (eb:Option Addr) (ec:Nat),eh p.nodes a t->ls.length+aK t<=8388608->s.length+aK t<=8388608 ->
  GC Tryz.prog 127 [.v (ii (a:Nat)),.loc 2 0,.loc 3 0,.box (ar p) 0,.loc 4 0] (DT p E1 E2 E3 E4 s ls ad cp eb ec) fun g Δ=>g=.tup []/\∃ pW pY wQ wR,Δ=DT p E1 E2 E3 E4 (ij (eZ p) t a s ls).1 (ij (eZ p) t a s ls).2 pW pY wQ wR:=by
 intro N
 induction N with
 | zero=>intro t h;have:=jU t;omega
 | succ N ih =>
 intro t hN a s ls ad cp eb ec bY lX qc
 cases t with
 | mk n l =>
 rw [Go.Xp.aK] at hN lX qc;have Un:=bY;rw [eh] at bY;obtain ⟨hn,hk,qb⟩:=bY;rw [ij];have hr:=jC hn;have n8:=eH n (mem_of_getElem? hn);have ht:=SP p a n l ls s E1 eb ec ad cp hn fG ae;have aaB:((eZ p) s a (.mk n l) ls).length<=s.length+1:=RG _ _ _ _ _;generalize ff:(eZ p) s a (.mk n l) ls=s1 at *
 have BA:n.kids.length=l.length:=by rw [hk,dQ]
 unfold ax at hr;unfold DT GS Rl;refine ai Tryz.func127 Tryz.ntmps127 ?_;refine GL.vS [0,1,5] ht rfl rfl rfl (by repeat (first | exact trivial | refine ⟨rfl,?_⟩)) ?_;rintro _ _ ⟨rfl,eb,ec,rfl⟩;refine cj ?_;refine ab ?_;refine GW.range (n.kids.map fun i=>[GV.v (ii i)]).length (fun k fr Γ=>∃ pW pY wQ wR,fr=[.v (ii (a:Nat)),.loc 2 0,.loc 3 0,.box (ar p) 0,.loc 4 0,.aaF,.aaF,.aaF,.aaF,.aaF,.aaF,.aaF,.aaF,.aaF,.aaF,.aaF,.aaF,ints n.kids,.v (ii ((n.kids.map fun i=>[GV.v (ii i)]).length:Int)),.v (ii (k:Nat)),.aaF,.aaF,.aaF,.aaF,.aaF,.aaF,.aaF,.aaF,.aaF,.aaF,.aaF,.aaF,.aaF,.aaF,.aaF,.aaF,.aaF,.aaF,.aaF,.aaF,.aaF,.aaF,.aaF]/\Γ=DT p E1 E2 E3 E4 (dN (eZ p) (l.take k) (a+1) s1 ls).1 (dN (eZ p) (l.take k) (a+1) s1 ls).2 pW pY wQ wR) ?_ (by rw [length_map];omega) ?_ ?_ ?_
 ·exact ⟨_,_,Wk.aw al,ad,cp,eb,ec,rfl,rfl⟩
 ·rintro k _ _ ⟨ad,cp,eb,ec,rfl,rfl⟩;exact ⟨rfl,rfl,rfl⟩
 ·rintro k _ _ aq ⟨ad,cp,eb,ec,rfl,rfl⟩;rw [length_map,BA] at aq;obtain ⟨u,hu⟩:∃ u,l[k]?=some u:=⟨l[k],by simp [aq]⟩;have la:=x5 (n:=a+1) hu;rw [<-hk] at la;have w5:=oY la;have cI:=tC hu;have Uo:eh p.nodes (a+1+ay (l.take k)) u:=dm.ix l (a+1) k u qb hu
  have hlen:(dN (eZ p) (l.take k) (a+1) s1 ls).2.length<=ls.length+ay (l.take k):=by
   rw [ql,length_append];have:=uq (l.take k);omega
  have J7:(dN (eZ p) (l.take k) (a+1) s1 ls).1.length<=s1.length+ay (l.take k):=by
   rw [ES,length_append];have:=EL p (l.take k);omega
  rw [ER _ hu];generalize (dN (eZ p) (l.take k) (a+1) s1 ls).1=s2 at *;generalize (dN (eZ p) (l.take k) (a+1) s1 ls).2=ls2 at *;have hv:=ih u ae (a+1+ay (l.take k)) s2 ls2 ad cp eb ec Uo ae ae;unfold DT GS Rl at hv |-;refine ab ?_;refine GL.vS [0,1,2,3,4,5] hv rfl rfl rfl (by repeat (first | exact trivial | refine ⟨rfl,?_⟩)) ?_;rintro _ _ ⟨rfl,pW,pY,wQ,wR,rfl⟩;refine cj ?_;refine ab ?_;exact ⟨rfl,rfl,_,_,Wk.aw al,pW,pY,wQ,wR,rfl,rfl⟩
 ·rintro _ _ ⟨ad,cp,eb,ec,rfl,rfl⟩;rw [length_map,BA,take_length]
  have hlen:(dN (eZ p) l (a+1) s1 ls).2.length<=ls.length+ay l:=by
   rw [ql,length_append];have:=uq l;omega
  generalize (dN (eZ p) l (a+1) s1 ls).1=s2 at *;generalize (dN (eZ p) l (a+1) s1 ls).2=ls2 at *;have QR:(bV ls2).length=ls2.length:=vG ls2;unfold DT GS Rl;refine aD ?_
  cases hv:(n.kind==13) with
  | false =>
   rw [if_neg (by simpa using hv)];refine ab ?_;refine cK ?_;exact ⟨rfl,ad,cp,eb,ec,rfl⟩
  | true =>
   rw [if_pos (by simpa using hv)];refine ab ?_;refine GW.draw (.q 0 (.q 1 (.q 2 (.q 3 (.q 4 (.q 5 (.q 6 (.a 7 (.a 8 (.a 9 .nil)))))))))) (by kernel_rfl) (by kernel_rfl) ?_;refine aj ?_;refine eC ?_;refine aj ?_;refine OA rfl rfl (GL.qh 5 (news:=[[.v (sv n.s)]]) rfl rfl rfl (by first | rfl | assumption) rfl rfl (by refine ⟨?_,?_⟩;(· show _+1<=_;omega);(· show (_+1) * _<=_;omega)) ?_);intro sr sy;refine dD ?_;refine aj ?_;refine ab ?_;refine cK ?_;exact ⟨rfl,sr,sy,eb,ec,by simp [bV]⟩
theorem RO (p:Src) (E1:TypeId) (i:Nat) (f:Go.Sp.Fn) (t:T) (s:List Int) (eb:Option Addr) (ec:Nat) (hp:p.nodes.length<=1048576) (eH:∀ n∈p.nodes,n.kids.length<=1099511627776) (fG:p.fns.length<=1099511627776)
  (hf:p.fns[i]?=some f) (xQ:f.params.length<=1048576) (hb:0<=f.body) (bY:eh p.nodes f.body.toNat t) (cI:aK t<=1048576) (hs:s.length+aK t<=8388608) :
  GC Tryz.prog 88 [.agg (ar p),.v (ii (i:Nat)),GS p] (Rh E1 s eb ec) fun g Δ=>g=.tup []/\∃ wQ wR,Δ=Rh E1 (ij (eZ p) t f.body.toNat s f.params).1 wQ wR:=by
 have hr:(p.fns.map au)[i]?=some (au f):=by rw [getElem?_map,hf];rfl
 have cB:(f.params.map fun s=>[GV.v (sv s)]).length=f.params.length:=by simp
 have gM:=Gg f.params;obtain ⟨b,xG⟩:∃ b:Nat,f.body=(b:Int):=⟨f.body.toNat,by omega⟩;rw [xG,Int.toNat_natCast] at bY |-;unfold au at hr;rw [xG] at hr;unfold GS Rh;refine db Tryz.func88 Tryz.ntmps88 ?_;refine iM ?_;refine GL.wk (Wk.freeze (i:=2) rfl rfl rfl (Nat.le_refl _)) ?_;refine GN (by simp only [nP,mM];rfl) ?_;refine GL.wk (Wk.aw (bU:=[.aaF,.v (ii (i:Nat)),.aaF,.box (ar p) 0,.aaF,.loc 3 0,.aaF,.aaF,.aaF,.aaF,.aaF,.aaF,.aaF,strs f.params,.aaF,.aaF,.aaF,.aaF,.aaF,.aaF,.aaF,.aaF,.aaF,.aaF]) al) ?_;refine GL.wk (Wk.mU 9 1) ?_;refine GL.Eh 4 rfl rfl rfl rfl gM (by refine ⟨?_,?_⟩;(· rw [cB];omega);(· rw [cB];omega)) ?_;intro ad cp;rw [cB];refine bT ?_;simp only [nil_append,length_nil,Nat.zero_add];refine ab ?_;refine GW.L4 (bU:=[.aaF,.v (ii (i:Nat)),.aaF,.box (ar p) 0,.aaF,.loc 3 0,.loc 5 0,.loc 6 0,.aaF,.aaF,.aaF,.aaF,.aaF,.aaF,.aaF,.aaF,.aaF,.aaF,.aaF,.aaF,.aaF,.aaF,.aaF,.aaF]) (aH:=[.box E1 [.v (.slice eb s.length ec)],.vech 3 1 (bm s) (.slice eb s.length ec),.gone,.box _ [.fn (.func 104) [] [.box (ar p) 0,.loc 0 0]],.vech 9 1 (bV f.params) (.slice ad f.params.length cp),.box _ [.v (.slice ad f.params.length cp)],.box _ [.fn (.func 127) [] [.loc 3 0,.loc 5 0,.box (ar p) 0,.loc 6 0]]]) al rfl ?_;refine GW.draw (.q 0 (.q 1 (.q 2 (.q 3 (.q 4 (.q 5 (.q 6 (.a 7 .nil)))))))) (by kernel_rfl) (by kernel_rfl) ?_;refine aj ?_;have hv:=Qh p E1;refine OA rfl rfl (GL.vS [0,1,3,5,6,4] (hv _ _ _ hp eH fG _ t (Nat.le_refl _) b s f.params ad cp eb ec bY ae hs) rfl rfl rfl (by repeat (first | exact trivial | refine ⟨rfl,?_⟩)) ?_);rintro _ _ ⟨rfl,pW,pY,wQ,wR,rfl⟩;refine ⟨by simp [DT],?_⟩;unfold DT;refine dD ?_;refine aj ?_;refine ab ?_;refine cK ?_;exact ⟨rfl,wQ,wR,rfl⟩
end Go.Xg
