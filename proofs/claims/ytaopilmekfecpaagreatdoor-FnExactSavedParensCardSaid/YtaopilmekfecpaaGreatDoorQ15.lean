/- The law FnExactSavedParens: for every source the program's SavedParens answers what the reference's answers, and the source reads as it did. No condition but the row's own: the library's tables are as the program's text lays them. -/
import Derived.Test.YtaopilmekfecpaaGreatDoorQ11
import Derived.Test.YtaopilmekfecpaaGreatDoorQ12
import Derived.Test.YtaopilmekfecpaaGreatDoorQ9
import Derived.Test.YtaopilmekfecpaaGreatDoorCards
import Derived.Test.YtaopilmekfecpaaGreatDoorTie
import Derived.Test.YtaopilmekfecpaaGreatDoorQ6
import Derived.Test.YtaopilmekfecpaaGreatDoorQ7
import Derived.WalkKit
import Derived.ProofKit
import Derived.OpenShut
import Derived.ShutString
import Derived.Carry
import Derived.Deep.DeepHandedRow
import Derived.Deep.DeepWitnessRowRef
set_option linter.unusedVariables false
set_option linter.unusedSimpArgs false
set_option maxHeartbeats 1000000
set_option maxRecDepth 100000
namespace Go.Xg
open Go.RowKit Go.Xw Go.Proofs
open Go.Xp (Tok Nd T signOf one levels Ar digs E S er ers wt wts blkTree blkTxt szT szL brt joinC)
open Go.Sp
open Go.Im
attribute [local irreducible] GW GL GO YG GC GA gthn ginb
theorem l08Print_g (p:Src) (l:List T) (ls:List (List S)) (hn:Nums p) (hw:wSrc p≤1048576) (hst:Stands p l) (hfm:Forms l ls):GF Tryz.prog 117 [.agg (encSrc p),.v (.bool false)] [] (.v (sv (fuP p ls))) []:=by
 have hbod:=bodies_of hst hfm hw
 have hsm:=smSrc_w hw
 have hlen:(fuP p ls).length≤104857600:=by
  rw [←lay_fu hfm];have:=lay_lenF hn hst.st hst.len;omega
 have hnum:=arOk_nums hst
 obtain ⟨⟨a1',a2'⟩,⟨b1',b2'⟩,⟨c1',c2'⟩,⟨d1',d2'⟩⟩:=small_w p
 have hll:p.fns.length=ls.length:=by rw [hfm.len];exact FSq.len hst.fns
 have hX1:∀ k,(catF g1 [] (p.globals.take k)).length≤200000000000:=fun k=>by
  have h1:=catF_take g1 p.globals k []
  have h2:=catF_ge a1 p.arrays (catF g1 [] p.globals)
  have h3:=catF_ge f3 (p.fns.zip ls) (catF a1 (catF g1 [] p.globals) p.arrays)
  unfold fuP at hlen;omega
 have hX2:∀ k,(catF a1 (catF g1 [] p.globals) (p.arrays.take k)).length≤200000000000:=fun k=>by
  have h1:=catF_take a1 p.arrays k (catF g1 [] p.globals)
  have h3:=catF_ge f3 (p.fns.zip ls) (catF a1 (catF g1 [] p.globals) p.arrays)
  unfold fuP at hlen;omega
 have hX3:∀ k,(catF f3 (catF a1 (catF g1 [] p.globals) p.arrays) ((p.fns.zip ls).take k)).length≤200000000000:=fun k=>by
  have h1:=catF_take f3 (p.fns.zip ls) k (catF a1 (catF g1 [] p.globals) p.arrays)
  unfold fuP at hlen;omega
 refine GC.enter Tryz.func117 Tryz.ntmps117 rfl (by simp only [gframe,grep,Nat.reduceSub];rfl) ?_
 refine w_grun ?_
 refine GW.range (p.globals.map fun s=>[GV.v (sv s)]).length (fun k fr Γ=>∃ y,fr=[.any,.v (.bool false),.loc 0 0,.any,.any,.v (sv y),.any,.any,.any,.any,.any,.any,.any,.any,.any,strs p.globals,.v (ii ((p.globals.map fun s=>[GV.v (sv s)]).length:Int)),.v (ii (k:Nat)),.any,.any,.any,.any,.any,.any,.any,.any,.any,.any,.any,.any,.any,.any,.any,.any,.any,.any,.any,.any,.any,.any,.any,.any,.any,.any,.any,.any,.any,.any,.any,.any,.any,.any,.any,.any,.any,.any,.any,.any,.any,.any,.any,.any,.any,.any,.any,.any,.any,.any,.any,.any,.any,.any,.any,.any,.any,.any,.any,.any,.any,.any,.any,.any,.any,.any,.any,.any,.any]∧Γ=[.box 28 (encSrc p)]∧y=catF g1 [] (p.globals.take k)) ?_ (by rw [List.length_map];omega) ?_ ?_ ?_
 ·exact ⟨_,_,Wk.frm w_wkf,_,rfl,rfl,rfl⟩
 ·rintro k _ _ ⟨y,rfl,rfl,_⟩;exact ⟨rfl,rfl,rfl⟩
 ·rintro k _ _ hk ⟨y,rfl,rfl,hy⟩
  have hk:k < p.globals.length:=by simpa using hk
  have hx:p.globals[k]?=some p.globals[k]:=by simp [hk]
  have hr:=row_str hx
  have hyl:=hX1 k
  rw [←hy] at hyl
  have hxl:=a2' _ (List.mem_of_getElem? hx)
  have hnext:catF g1 [] (p.globals.take (k+1))=((y++[105,110,116,32])++p.globals[k])++[59,10]:=by
   rw [List.take_add_one,hx]
   simp only [Option.toList_some]
   rw [catF_snoc,←hy];simp [g1]
  generalize p.globals[k]=x at *
  clear hy
  refine w_grun ?_
  exact ⟨rfl,rfl,_,_,Wk.frm w_wkf,_,rfl,rfl,hnext.symm⟩
 ·rintro _ _ ⟨y,rfl,rfl,hy⟩
  rw [List.length_map,List.take_length] at hy
  rw [←hy] at hX2 hX3
  unfold fuP
  rw [←hy]
  clear hy hX1
  refine gthn_n ?_
  refine w_grun ?_
  refine GW.range (p.arrays.map encAr).length (fun k fr Γ=>∃ z,fr=[.any,.v (.bool false),.loc 0 0,.any,.any,.v (sv z),.any,.any,.any,.any,.any,.any,.any,.any,.any,.any,.any,.any,.any,.any,.any,.any,.any,.any,.any,.any,.any,.any,.sl 2 (p.arrays.map encAr),.v (ii ((p.arrays.map encAr).length:Int)),.v (ii (k:Nat)),.any,.any,.any,.any,.any,.any,.any,.any,.any,.any,.any,.any,.any,.any,.any,.any,.any,.any,.any,.any,.any,.any,.any,.any,.any,.any,.any,.any,.any,.any,.any,.any,.any,.any,.any,.any,.any,.any,.any,.any,.any,.any,.any,.any,.any,.any,.any,.any,.any,.any,.any,.any,.any,.any,.any,.any]∧Γ=[.box 28 (encSrc p)]∧z=catF a1 y (p.arrays.take k)) ?_ (by rw [List.length_map];omega) ?_ ?_ ?_
  ·exact ⟨_,_,Wk.frm w_wkf,_,rfl,rfl,rfl⟩
  ·rintro k _ _ ⟨z,rfl,rfl,_⟩;exact ⟨rfl,rfl,rfl⟩
  ·rintro k _ _ hk ⟨z,rfl,rfl,hz⟩
   have hk:k < p.arrays.length:=by simpa using hk
   have hx:p.arrays[k]?=some p.arrays[k]:=by simp [hk]
   have hr:=row_ar hx
   have hzl:=hX2 k
   rw [←hz] at hzl
   have hxl:=b2' _ (List.mem_of_getElem? hx)
   have hna:=hnum _ (List.mem_of_getElem? hx)
   have hnext:catF a1 y (p.arrays.take (k+1))=((((z++[105,110,116,32])++p.arrays[k].name)++[91])++digs p.arrays[k].size.toNat)++[93,59,10]:=by
    rw [List.take_add_one,hx]
    simp only [Option.toList_some]
    rw [catF_snoc,←hz];unfold a1 itoaI;rw [if_neg (by omega)];simp
   have hc:=NumText_g p.arrays[k].size hna
   have hcl:=Go.Xp.digs_le 9 p.arrays[k].size.toNat (by omega)
   generalize p.arrays[k]=x at *
   clear hz
   unfold encAr at hr
   generalize digs x.size.toNat=dg at *
   refine w_grun ?_
   refine GW.draw (.q 0 (.q 1 (.q 2 (.q 3 (.q 4 (.q 5 (.q 6 (.q 7 (.a 8 (.q 9 (.q 10 (.q 11 .nil)))))))))))) (by kernel_rfl) (by kernel_rfl) ?_
   refine w_gorun ?_
   refine w_gocall [] (hc) ?_
   refine w_gorun ?_
   refine w_grun ?_
   exact ⟨rfl,rfl,_,_,(Wk.cut (n:=1) (Nat.le_of_ble_eq_true rfl) rfl).trans (Wk.frm w_wkf),_,rfl,rfl,hnext.symm⟩
  ·rintro _ _ ⟨z,rfl,rfl,hz⟩
   rw [List.length_map,List.take_length] at hz
   rw [←hz] at hX3 ⊢
   clear hz hX2
   refine gthn_n ?_
   refine w_grun ?_
   refine GW.range (p.fns.map encFn).length (fun k fr Γ=>∃ v,fr=[.any,.v (.bool false),.loc 0 0,.any,.any,.v (sv v),.any,.any,.any,.any,.any,.any,.any,.any,.any,.any,.any,.any,.any,.any,.any,.any,.any,.any,.any,.any,.any,.any,.any,.any,.any,.any,.any,.any,.any,.any,.any,.any,.any,.any,.any,.any,.any,.any,.any,.any,.any,.sl 3 (p.fns.map encFn),.v (ii ((p.fns.map encFn).length:Int)),.v (ii (k:Nat)),.any,.any,.any,.any,.any,.any,.any,.any,.any,.any,.any,.any,.any,.any,.any,.any,.any,.any,.any,.any,.any,.any,.any,.any,.any,.any,.any,.any,.any,.any,.any,.any,.any,.any,.any,.any,.any]∧Γ=[.box 28 (encSrc p)]∧v=catF f3 z ((p.fns.zip ls).take k)) ?_ (by rw [List.length_map];omega) ?_ ?_ ?_
   ·exact ⟨_,_,Wk.frm w_wkf,_,rfl,rfl,rfl⟩
   ·rintro k _ _ ⟨v,rfl,rfl,_⟩;exact ⟨rfl,rfl,rfl⟩
   ·rintro k _ _ hk ⟨v,rfl,rfl,hv⟩
    have hk:k < p.fns.length:=by simpa using hk
    have hkl:k < ls.length:=by omega
    have hx:p.fns[k]?=some p.fns[k]:=by simp [hk]
    have hxl:ls[k]?=some ls[k]:=by simp [hkl]
    have hr:=row_fn hx
    have hvl:=hX3 k
    rw [←hv] at hvl
    obtain ⟨hn1,hn2,hn3⟩:=c2' _ (List.mem_of_getElem? hx)
    obtain ⟨h0,ho,hwt,t,hsub,her⟩:=hbod.at_ k _ _ hx hxl
    have hs:=sub_g p (fun n hn=>(hsm.nodes.2 n hn).2) _ _ _ hsub
    rw [Int.toNat_of_nonneg h0] at hs
    obtain ⟨z1,z2,z3⟩:=hst.szs hfm _ (List.mem_of_getElem? hxl)
    have hB:=writeB false ls[k] t ho her (by unfold lim;omega)
    change GF _ _ _ _ (.v (sv (blkTxt E.full ls[k]))) _ at hB
    have hBl:=Go.Xp.blk_len E.full (fun a ho=>(E.len a ho).2) ho
    have hkz:(p.fns.zip ls)[k]?=some (p.fns[k],ls[k]):=by rw [List.getElem?_zip_eq_some];exact ⟨hx,hxl⟩
    have hnext:catF f3 z ((p.fns.zip ls).take (k+1))=v++f3 (p.fns[k],ls[k]):=by rw [List.take_add_one,hkz,hv];exact catF_snoc f3 _ _ _
    rw [show f3 (p.fns[k],ls[k])=((((([102,117,110,99,32]++p.fns[k].name)++[40])++joinC p.fns[k].params)++[41,32])++blkTxt E.full ls[k])++[10] from rfl] at hnext
    have hjl:=joinC_le p.fns[k].params
    rw [sum_map2] at hjl
    have hj2:sumL (fun s=>s.length+2) p.fns[k].params≤2 * wS p.fns[k].params:=sumL_lin fun s _=>by omega
    have hj3:wS p.fns[k].params≤1048576:=by
     have:=sumL_mem (f:=fun f:Go.Sp.Fn=>f.name.length+wS f.params+1) (List.mem_of_getElem? hx)
     unfold wSrc at hw;omega
    have hjt:=Go.Xp.joinC_take p.fns[k].params
    have hsuc:∀ (j:Nat) (s:Str),p.fns[k].params[j]?=some s→joinC (p.fns[k].params.take (j+1))=(if j > 0 then joinC (p.fns[k].params.take j)++[44,32] else [])++s:=fun j s h=>joinC_succ h
    generalize p.fns[k]=x at *
    generalize blkTxt E.full ls[k]=bt at *
    unfold encFn at hr
    clear hv
    refine w_grun ?_
    refine GW.range (x.params.map fun s=>[GV.v (sv s)]).length (fun j fr Γ=>∃ u,fr=[.any,.v (.bool false),.loc 0 0,.any,.any,.v (sv u),.any,.any,.any,.any,.any,.loc 1 0,.any,.any,.any,.any,.any,.any,.any,.any,.any,.any,.any,.any,.any,.any,.any,.any,.any,.any,.any,.any,.any,.any,.any,.any,.any,.any,.any,.any,.any,.any,.any,.any,.any,.any,.any,.sl 3 (p.fns.map encFn),.v (ii ((p.fns.map encFn).length:Int)),.v (ii (k:Nat)),.any,.any,.any,.any,.any,.any,.any,.any,.any,.any,strs x.params,.v (ii ((x.params.map fun s=>[GV.v (sv s)]).length:Int)),.v (ii (j:Nat)),.any,.any,.any,.any,.any,.any,.any,.any,.any,.any,.any,.any,.any,.any,.any,.any,.any,.any,.any,.any,.any,.any,.any,.any]∧Γ=[.box 28 (encSrc p),.box 89 [.v (sv x.name),strs x.params,.v (ii x.body)]]∧u=(((v++[102,117,110,99,32])++x.name)++[40])++joinC (x.params.take j)) ?_ (by rw [List.length_map];omega) ?_ ?_ ?_
    ·exact ⟨_,_,Wk.frm w_wkf,_,rfl,rfl,by simp [joinC]⟩
    ·rintro j _ _ ⟨u,rfl,rfl,_⟩;exact ⟨rfl,rfl,rfl⟩
    ·rintro j _ _ hj ⟨u,rfl,rfl,hu⟩
     have hj:j < x.params.length:=by simpa using hj
     have hjx:x.params[j]?=some x.params[j]:=by simp [hj]
     have hjr:=row_str hjx
     have hjn:=hsuc j _ hjx
     have hjb:=hjt j
     have hul:u.length≤300000000000:=by
      rw [hu];simp only [List.length_append,List.length_cons,List.length_nil];omega
     have hsl:=hn3 _ (List.mem_of_getElem? hjx)
     generalize x.params[j]=s at *
     by_cases h0j:j > 0
     ·have hdj:decide ((0:Int) < (j:Int))=true:=by simpa using h0j
      rw [if_pos h0j] at hjn
      have hun:(u++[44,32])++s=(((v++[102,117,110,99,32])++x.name)++[40])++joinC (x.params.take (j+1)):=by rw [hu,hjn];simp
      clear hu
      refine w_grun ?_
      exact ⟨rfl,rfl,_,_,Wk.frm w_wkf,_,rfl,rfl,hun⟩
     ·have hdj:decide ((0:Int) < (j:Int))=false:=by simpa using h0j
      rw [if_neg h0j] at hjn
      have hj0:j=0:=by omega
      have hun:u++s=(((v++[102,117,110,99,32])++x.name)++[40])++joinC (x.params.take (j+1)):=by rw [hu,hjn,hj0];simp [joinC]
      clear hu
      refine w_grun ?_
      exact ⟨rfl,rfl,_,_,Wk.frm w_wkf,_,rfl,rfl,hun⟩
    ·rintro _ _ ⟨u,rfl,rfl,hu⟩
     rw [List.length_map,List.take_length] at hu
     have hul:u.length≤300000000000:=by
      rw [hu];simp only [List.length_append,List.length_cons,List.length_nil];omega
     have hun:((u++[41,32])++bt)++[10]=catF f3 z ((p.fns.zip ls).take (k+1)):=by rw [hnext,hu];simp
     clear hu
     refine gthn_n ?_
     refine w_grun ?_
     refine w_gcall [] (hs) ?_
     refine w_grun ?_
     refine w_gcall [] (hB) ?_
     refine w_grun ?_
     exact ⟨rfl,rfl,_,_,(Wk.cut (n:=1) (Nat.le_of_ble_eq_true rfl) rfl).trans (Wk.frm w_wkf),_,rfl,rfl,hun⟩
   ·rintro _ _ ⟨v,rfl,rfl,hv⟩
    rw [List.length_map,show (p.fns.zip ls).take p.fns.length=p.fns.zip ls from List.take_of_length_le (by simp;omega)] at hv
    rw [←hv]
    refine gthn_n ?_
    refine w_grun ?_
    refine w_gret ?_
    exact ⟨rfl,rfl⟩
theorem PrintSource_no (p:Src) (hF:GF Tryz.prog 38 [.agg (encSrc p)] [] (.v (.bool false)) []):GF Tryz.prog 70 [.agg (encSrc p)] [] (.v (sv [])) []:=by
 refine GC.enter Tryz.func70 Tryz.ntmps70 rfl (by simp only [gframe,grep,Nat.reduceSub];rfl) ?_
 refine w_grun ?_
 refine w_gcall [] (hF) ?_
 refine w_grun ?_
 refine w_gret ?_
 exact ⟨rfl,rfl⟩
theorem PrintSource_yes (p:Src) (x:Str) (hF:GF Tryz.prog 38 [.agg (encSrc p)] [] (.v (.bool true)) []) (hP:GF Tryz.prog 117 [.agg (encSrc p),.v (.bool false)] [] (.v (sv x)) []):GF Tryz.prog 70 [.agg (encSrc p)] [] (.v (sv x)) []:=by
 refine GC.enter Tryz.func70 Tryz.ntmps70 rfl (by simp only [gframe,grep,Nat.reduceSub];rfl) ?_
 refine w_grun ?_
 refine w_gcall [] (hF) ?_
 refine w_grun ?_
 refine w_gcall [] (hP) ?_
 refine w_grun ?_
 refine w_gret ?_
 exact ⟨rfl,rfl⟩
theorem PrintSource_g (p:Src) (hw:wSrc p≤1048576) (hn:Nums p):GF Tryz.prog 70 [.agg (encSrc p)] [] (.v (sv (prF p))) []:=by
 have hF:=FormOk2_g p hw
 cases hf:fI p with
 | false=>rw [hf] at hF;rw [prF_no hf];exact PrintSource_no p hF
 | true =>
  rw [hf] at hF
  obtain ⟨l,hl⟩:=fI_stands hf
  obtain ⟨ls,hm⟩:=hl.forms
  rw [prF_yes hf hl hm]
  exact PrintSource_yes p _ hF (l08Print_g p l ls hn hw hl hm)
theorem Parens_g (x:Str) (hx:x.length≤1099511627776):GF Tryz.prog 69 [.v (sv x)] [] (.v (ii ((x.count 40:Nat):Int))) []:=by
 have hC:=l03Cut_g x 40 hx
 have hm:((cutL x 40).map fun s=>[GV.v (sv s)]).length=x.count 40+1:=by rw [List.length_map,cutL_len]
 have hcl:x.count 40≤x.length:=List.count_le_length
 rw [show ((x.count 40:Nat):Int)=(((cutL x 40).map fun s=>[GV.v (sv s)]).length:Int) - 1 by rw [hm];omega]
 generalize cutL x 40=cl at *
 refine GC.enter Tryz.func69 Tryz.ntmps69 rfl (by simp only [gframe,grep,Nat.reduceSub];rfl) ?_
 refine w_grun ?_
 refine w_gcall [] (hC) ?_
 refine w_grun ?_
 refine w_gret ?_
 exact ⟨rfl,rfl⟩
theorem SavedParens_of (p:Src) (x y:Str) (n m:Nat) (hn:n≤1099511627776) (hm:m≤1099511627776) (h1:GF Tryz.prog 70 [.agg (encSrc p)] [] (.v (sv x)) []) (h2:GF Tryz.prog 69 [.v (sv x)] [] (.v (ii (n:Nat))) [])
  (h3:GF Tryz.prog 26 [.agg (encSrc p)] [] (.v (sv y)) []) (h4:GF Tryz.prog 69 [.v (sv y)] [] (.v (ii (m:Nat))) []) :
  GF Tryz.prog 29 [.agg (encSrc p)] [] (.v (ii ((n:Int) - (m:Int)))) []:=by
 refine GC.enter Tryz.func29 Tryz.ntmps29 rfl (by simp only [gframe,grep,Nat.reduceSub];rfl) ?_
 refine w_grun ?_
 refine GW.draw (.q 0 (.q 3 (.a 1 (.a 2 (.a 4 (.a 5 (.q 6 (.q 7 .nil)))))))) (by kernel_rfl) (by kernel_rfl) ?_
 refine w_gorun ?_
 refine w_gocall [] (h1) ?_
 refine w_gorun ?_
 refine w_gocall [] (h2) ?_
 refine w_gorun ?_
 refine w_gocall [] (h3) ?_
 refine w_gorun ?_
 refine w_gocall [] (h4) ?_
 refine w_gorun ?_
 refine w_grun ?_
 refine w_gret ?_
 exact ⟨rfl,rfl⟩
theorem SavedParens_g (p:Src) (hw:wSrc p≤1048576) (hn:Nums p):GF Tryz.prog 29 [.agg (encSrc p)] [] (.v (ii ((((prF p).count 40:Nat):Int) - (((prP p).count 40:Nat):Int)))) []:=by
 have h1:=prP_len hw
 have h2:=prF_len hn hw
 have h3:(prF p).count 40≤(prF p).length:=List.count_le_length
 have h4:(prP p).count 40≤(prP p).length:=List.count_le_length
 exact SavedParens_of p _ _ _ _ (by omega) (by omega) (PrintSource_g p hw hn) (Parens_g _ (by omega)) (Pretty_g p hw) (Parens_g _ (by omega))
end Go.Xg
namespace Go.Xg
open Go.RowKit Go.Xw Go.Proofs
open Go.Xp (Tok Nd T levels digs joinC szT szL)
open Go.Sp (Src)
open Go.Im
attribute [local irreducible] GW GL GO YG GC GA gthn ginb
theorem full_i:∀ (N:Nat) (t:T),szT t≤N→kOk t=true→numT t→wtI t≤1099511627776→GF Tryz.prog 116 [uT t] [] (.v (sv (fuT t))) []:=by
 intro N
 induction N with
 | zero=>intro t h;rw [Go.Xp.szT_eq] at h;omega
 | succ N ih =>
 intro t hN hk hn hw
 have hlen:=Go.Im.fuT_len _ t (Nat.le_refl _) hn
 rw [Go.Xp.szT_eq] at hN
 rw [Go.Im.kOk_eq,Bool.and_eq_true,Go.Im.kOks_all,List.all_eq_true] at hk
 rw [Go.Im.numT_eq] at hn
 have hkid:∀ a∈t.kids,GF Tryz.prog 116 [uT a] [] (.v (sv (fuT a))) []∧(fuT a).length≤1099511627776:=fun a ha=>by
  have h1:=Go.Im.wtIs_mem ha
  rw [Go.Im.wtI_eq] at hw
  have h3:=Go.Im.numTs_mem hn.2 ha
  have h2:szT a≤szL t.kids:=by
   have:∀ (l:List T),a∈l→szT a≤szL l:=by
    intro l
    induction l with
    | nil=>intro h;cases h
    | cons b l ih2 =>
     intro h
     rw [szL]
     rcases List.mem_cons.1 h with rfl | h
     ·omega
     ·have:=ih2 h;omega
   exact this _ ha
  have h4:=Go.Im.fuT_len _ a (Nat.le_refl _) h3
  exact ⟨ih a (by omega) (hk.2 a ha) h3 (by omega),by omega⟩
 rw [Go.Im.fuT_eq] at hlen ⊢
 unfold fuN at hlen ⊢
 have hkn:=hk.1
 have hkc:=@kids1 t hkn
 have hkc2:=@kids2 t hkn
 have hni:=Itoa_g t.n.n hn.1.1 hn.1.2
 have hkl:t.kids.length≤1099511627776:=by
  have:=Go.Im.len_wtIs t.kids
  rw [Go.Im.wtI_eq] at hw;omega
 have hlist:=fun hj=>listed_i 116 fuT t.kids (fun a ha=>(hkid a ha).1) hj hkl
 rw [←Go.Im.fuL_map] at hlist
 have hsl:t.n.s.length≤1099511627776:=by rw [Go.Im.wtI_eq] at hw;omega
 have hj0:(joinC (fuL t.kids)).length≤1099511627776:=by
  have h1:=Go.Im.joinC_le (fuL t.kids)
  have h2:((fuL t.kids).map fun y=>y.length+2).sum≤wtIs t.kids:=by
   have:∀ (l:List T),numTs l→((fuL l).map fun y=>y.length+2).sum≤wtIs l:=by
    intro l
    induction l with
    | nil=>intro _;simp [fuL]
    | cons a l ih2 =>
     intro h
     rw [numTs] at h
     have h1:=Go.Im.fuT_len _ a (Nat.le_refl _) h.1
     have h2:=ih2 h.2
     rw [fuL,wtIs,List.map_cons,List.sum_cons];omega
   exact this _ hn.2
  rw [Go.Im.wtI_eq] at hw;omega
 have hlist:=hlist hj0
 clear hj0
 unfold uT
 generalize hkk:t.n.kind=kd at *
 by_cases h1:kd=1
 ·subst h1
  have f1:((1:Int)==1)=true:=by decide
  rw [if_pos rfl]
  refine GC.enter Tryz.func116 Tryz.ntmps116 rfl (by simp only [gframe,grep,Nat.reduceSub];rfl) ?_
  refine w_grun ?_
  refine w_gcall [] (hni) ?_
  refine w_grun ?_
  refine w_gret ?_
  exact ⟨rfl,rfl⟩
 rw [if_neg h1] at hlen ⊢
 have g1:(kd==1)=false:=by simpa using h1
 by_cases h3:kd=3
 ·subst h3
  have f1:((3:Int)==1)=false:=by decide
  have f3:((3:Int)==3)=true:=by decide
  rw [if_pos rfl] at hlen ⊢
  obtain ⟨a,ha⟩:=hkc (.inl rfl)
  rw [ha] at hkid hlen ⊢
  obtain ⟨c1,c2⟩:=hkid a (List.mem_singleton.2 rfl)
  have hr:(tTs [a])[0]?=some [uT a]:=by rw [tTs_map];rfl
  simp only [fuL,List.getD_cons_zero] at hlen ⊢
  generalize tTs [a]=rows at *
  generalize fuT a=x at *
  refine GC.enter Tryz.func116 Tryz.ntmps116 rfl (by simp only [gframe,grep,Nat.reduceSub];rfl) ?_
  refine w_grun ?_
  refine GW.draw (.q 0 (.q 1 (.q 2 (.q 3 (.q 4 (.q 5 (.q 6 (.q 7 (.q 8 (.q 9 (.q 10 (.q 11 (.a 12 (.q 13 (.q 14 (.q 15 .nil)))))))))))))))) (by kernel_rfl) (by kernel_rfl) ?_
  refine w_gorun ?_
  refine w_gocall [] (c1) ?_
  refine w_gorun ?_
  refine w_grun ?_
  refine w_gret ?_
  exact ⟨rfl,rfl⟩
 rw [if_neg h3] at hlen ⊢
 have g3:(kd==3)=false:=by simpa using h3
 by_cases h4:kd=4
 ·subst h4
  have f1:((4:Int)==1)=false:=by decide
  have f3:((4:Int)==3)=false:=by decide
  have f4:((4:Int)==4)=true:=by decide
  rw [if_pos rfl] at hlen ⊢
  generalize tTs t.kids=rows at *
  generalize joinC (fuL t.kids)=x at *
  simp only [List.length_append,List.length_cons,List.length_nil] at hlen
  refine GC.enter Tryz.func116 Tryz.ntmps116 rfl (by simp only [gframe,grep,Nat.reduceSub];rfl) ?_
  refine w_grun ?_
  refine GW.draw (.q 0 (.q 1 (.q 2 (.q 3 (.q 4 (.q 5 (.q 6 (.q 7 (.q 8 (.q 9 (.a 10 (.q 11 (.q 12 (.q 13 .nil)))))))))))))) (by kernel_rfl) (by kernel_rfl) ?_
  refine w_gorun ?_
  refine w_gocall [] (hlist) ?_
  refine w_gorun ?_
  refine w_grun ?_
  refine w_gret ?_
  exact ⟨rfl,rfl⟩
 rw [if_neg h4] at hlen ⊢
 have g4:(kd==4)=false:=by simpa using h4
 by_cases h5:kd=5
 ·subst h5
  have f1:((5:Int)==1)=false:=by decide
  have f3:((5:Int)==3)=false:=by decide
  have f4:((5:Int)==4)=false:=by decide
  have f5:((5:Int)==5)=true:=by decide
  rw [if_pos rfl] at hlen ⊢
  obtain ⟨a,ha⟩:=hkc (.inr rfl)
  rw [ha] at hkid hlen ⊢
  obtain ⟨c1,c2⟩:=hkid a (List.mem_singleton.2 rfl)
  have hr:(tTs [a])[0]?=some [uT a]:=by rw [tTs_map];rfl
  simp only [fuL,List.getD_cons_zero] at hlen ⊢
  generalize tTs [a]=rows at *
  generalize fuT a=x at *
  simp only [List.length_append,List.length_cons,List.length_nil] at hlen
  refine GC.enter Tryz.func116 Tryz.ntmps116 rfl (by simp only [gframe,grep,Nat.reduceSub];rfl) ?_
  refine w_grun ?_
  refine GW.draw (.q 0 (.q 1 (.q 2 (.q 3 (.q 4 (.q 5 (.q 6 (.q 7 (.q 8 (.q 9 (.q 10 (.q 11 (.a 12 (.q 13 (.q 14 (.q 15 .nil)))))))))))))))) (by kernel_rfl) (by kernel_rfl) ?_
  refine w_gorun ?_
  refine w_gocall [] (c1) ?_
  refine w_gorun ?_
  refine w_grun ?_
  refine w_gret ?_
  exact ⟨rfl,rfl⟩
 rw [if_neg h5] at hlen ⊢
 have g5:(kd==5)=false:=by simpa using h5
 by_cases h6:kd=6
 ·subst h6
  have f1:((6:Int)==1)=false:=by decide
  have f3:((6:Int)==3)=false:=by decide
  have f4:((6:Int)==4)=false:=by decide
  have f5:((6:Int)==5)=false:=by decide
  have f6:((6:Int)==6)=true:=by decide
  rw [if_pos rfl] at hlen ⊢
  obtain ⟨a,b,ha⟩:=hkc2 rfl
  rw [ha] at hkid hlen ⊢
  obtain ⟨c1,c2⟩:=hkid a (List.mem_cons_self)
  obtain ⟨d1,d2⟩:=hkid b (List.mem_cons_of_mem _ List.mem_cons_self)
  have hr:(tTs [a,b])[0]?=some [uT a]:=by rw [tTs_map];rfl
  have hr1:(tTs [a,b])[1]?=some [uT b]:=by rw [tTs_map];rfl
  simp only [fuL,List.getD_cons_zero,List.getD_cons_succ] at hlen ⊢
  generalize tTs [a,b]=rows at *
  generalize fuT a=x at *
  generalize fuT b=y at *
  simp only [List.length_append,List.length_cons,List.length_nil] at hlen
  refine GC.enter Tryz.func116 Tryz.ntmps116 rfl (by simp only [gframe,grep,Nat.reduceSub];rfl) ?_
  refine w_grun ?_
  refine GW.draw (.q 0 (.q 1 (.q 2 (.q 3 (.q 4 (.q 5 (.q 9 (.q 10 (.q 11 (.q 12 (.q 13 (.q 16 (.q 17 (.q 18 (.q 19 (.q 20 (.q 21 (.a 6 (.q 7 (.q 8 (.q 14 (.q 15 (.a 22 (.q 23 (.q 24 (.q 25 .nil)))))))))))))))))))))))))) (by kernel_rfl) (by kernel_rfl) ?_
  refine w_gorun ?_
  refine w_gocall [] (c1) ?_
  refine w_gorun ?_
  refine w_gocall [] (d1) ?_
  refine w_gorun ?_
  refine w_grun ?_
  refine w_gret ?_
  exact ⟨rfl,rfl⟩
 rw [if_neg h6]
 have g6:(kd==6)=false:=by simpa using h6
 refine GC.enter Tryz.func116 Tryz.ntmps116 rfl (by simp only [gframe,grep,Nat.reduceSub];rfl) ?_
 refine w_grun ?_
 refine w_gret ?_
 exact ⟨rfl,rfl⟩
theorem wr_full:Wr 116 76 fuT inl1 :=
 ⟨fun a h1 h2 h3=>full_i _ a (Nat.le_refl _) h1 h2 h3,fun l d h1 h2 h3=>inLine_i l d h1 h2,fun l d s h=>inl1_mem h⟩
theorem PrintSource_ino (p:Src) (hF:GF Tryz.prog 35 [.agg (encSrc p)] [] (.v (.bool false)) []):GF Tryz.prog 68 [.agg (encSrc p)] [] (.v (sv [])) []:=by
 refine GC.enter Tryz.func68 Tryz.ntmps68 rfl (by simp only [gframe,grep,Nat.reduceSub];rfl) ?_
 refine w_grun ?_
 refine w_gcall [] (hF) ?_
 refine w_grun ?_
 refine w_gret ?_
 exact ⟨rfl,rfl⟩
theorem PrintSource_iyes (p:Src) (l:List T) (x:Str) (hF:GF Tryz.prog 35 [.agg (encSrc p)] [] (.v (.bool true)) []) (hB:GF Tryz.prog 62 [.agg (encSrc p)] [] (.tup [.sl 1 (tTs l),.v (.bool true)]) [])
  (hL:GF Tryz.prog 63 [.agg (encSrc p),.sl 1 (tTs l),.v (fnv 116),.v (fnv 76)] [] (.v (sv x)) []) :
  GF Tryz.prog 68 [.agg (encSrc p)] [] (.v (sv x)) []:=by
 refine GC.enter Tryz.func68 Tryz.ntmps68 rfl (by simp only [gframe,grep,Nat.reduceSub];rfl) ?_
 refine w_grun ?_
 refine w_gcall [] (hF) ?_
 refine w_grun ?_
 refine w_gcall [] (hB) ?_
 refine w_grun ?_
 refine w_gcall [] (hL) ?_
 refine w_grun ?_
 refine w_gret ?_
 exact ⟨rfl,rfl⟩
theorem PrintSource_i (p:Src) (hw:wSrc p≤1048576) (hn:Nums p):GF Tryz.prog 68 [.agg (encSrc p)] [] (.v (sv (prF p))) []:=by
 have hF:=FormOk2_i p hw hn
 cases hf:fI p with
 | false=>rw [hf] at hF;rw [prF_no hf];exact PrintSource_ino p hF
 | true =>
  rw [hf] at hF
  obtain ⟨l,hs⟩:=fI_stands hf
  obtain ⟨ls,hm⟩:=hs.forms
  have hpl:=prF_len hn hw
  rw [prF_yes hf hs hm,←lay_fu hm] at hpl ⊢
  obtain ⟨⟨s1,s2⟩,⟨s3,s4⟩,⟨s5,s6⟩,⟨s7,s8⟩⟩:=small_w p
  have hB:=bodies_i p (by omega) (fun n h=>by have:=(s8 n h).2;omega) (by omega)
  rw [hs.bod] at hB
  unfold bodG at hB
  simp only at hB
  rw [show ((p.nodes.length:Int)==(p.nodes.length:Int))=true by simp] at hB
  have hz:=hs.len
  have h2:=hs.st
  have htl:=tree_len h2 hz
  have hll:=FSq.len hs.fns
  have hnum:=StL.num hn.nodes l 0 h2
  have hk:=hs.k
  refine PrintSource_iyes p l _ hF hB (layout_i 116 76 fuT inl1 wr_full p l (by omega) (by omega) (by omega) (by omega) (by omega) hn.arrays (fun f h=>by have:=(s6 f h).2.1;omega)
   (fun t ht=>⟨List.all_eq_true.1 hk t ht,numTs_mem hnum ht,by have:=(htl t ht).1;omega,by have:=(htl t ht).2;omega⟩))
theorem Count40_g (x:Str):GF Tryz.prog 61 [.v (sv x),.v (sv [40])] [] (.v (ii ((x.count 40:Nat):Int))) []:=by
 refine GF.lib (vs:=[sv x,sv [40]]) fun K β w ht hf=>?_
 refine Ret.of_calls (Calls.mono (Tryz.strings_Count_one ⟨x.toArray⟩ 40 w) ?_)
 rintro e w' ⟨h1,h2⟩
 exact ⟨_,h1,rfl,by rw [h2];exact Ext.refl w⟩
theorem Parens_i (x:Str):GF Tryz.prog 67 [.v (sv x)] [] (.v (ii ((x.count 40:Nat):Int))) []:=by
 have hC:=Count40_g x
 generalize x.count 40=n at *
 refine GC.enter Tryz.func67 Tryz.ntmps67 rfl (by simp only [gframe,grep,Nat.reduceSub];rfl) ?_
 refine w_grun ?_
 refine w_gcall [] (hC) ?_
 refine w_grun ?_
 refine w_gret ?_
 exact ⟨rfl,rfl⟩
theorem SavedParens_iof (p:Src) (x y:Str) (n m:Nat) (hn:n≤1099511627776) (hm:m≤1099511627776) (h1:GF Tryz.prog 68 [.agg (encSrc p)] [] (.v (sv x)) []) (h2:GF Tryz.prog 67 [.v (sv x)] [] (.v (ii (n:Nat))) [])
  (h3:GF Tryz.prog 25 [.agg (encSrc p)] [] (.v (sv y)) []) (h4:GF Tryz.prog 67 [.v (sv y)] [] (.v (ii (m:Nat))) []) :
  GF Tryz.prog 27 [.agg (encSrc p)] [] (.v (ii ((n:Int) - (m:Int)))) []:=by
 refine GC.enter Tryz.func27 Tryz.ntmps27 rfl (by simp only [gframe,grep,Nat.reduceSub];rfl) ?_
 refine w_grun ?_
 refine GW.draw (.q 0 (.q 3 (.a 1 (.a 2 (.a 4 (.a 5 (.q 6 (.q 7 .nil)))))))) (by kernel_rfl) (by kernel_rfl) ?_
 refine w_gorun ?_
 refine w_gocall [] (h1) ?_
 refine w_gorun ?_
 refine w_gocall [] (h2) ?_
 refine w_gorun ?_
 refine w_gocall [] (h3) ?_
 refine w_gorun ?_
 refine w_gocall [] (h4) ?_
 refine w_gorun ?_
 refine w_grun ?_
 refine w_gret ?_
 exact ⟨rfl,rfl⟩
theorem SavedParens_i (p:Src) (hw:wSrc p≤1048576) (hn:Nums p):GF Tryz.prog 27 [.agg (encSrc p)] [] (.v (ii ((((prF p).count 40:Nat):Int) - (((prP p).count 40:Nat):Int)))) []:=by
 have h1:=prP_len hw
 have h2:=prF_len hn hw
 have h3:(prF p).count 40≤(prF p).length:=List.count_le_length
 have h4:(prP p).count 40≤(prP p).length:=List.count_le_length
 exact SavedParens_iof p _ _ _ _ (by omega) (by omega) (PrintSource_i p hw hn) (Parens_i _) (Pretty_i p hw hn) (Parens_i _)
end Go.Xg
namespace Go.Xg
open Go.RowKit Go.Xw Go.Proofs
open Go.Sp (Src)
open Go.Im
attribute [local irreducible] GW GL GO YG GC GA gthn ginb
theorem FnExactSavedParens_big (p:Src) (hS:GF Tryz.prog 13 [.agg (encSrc p),.v (ii 1048576)] [] (.v (ii (-1))) []):GF Tryz.prog 8 [.agg (encSrc p)] [] (.v (.bool true)) []:=by
 refine GC.enter Tryz.func8 Tryz.ntmps8 rfl (by simp only [gframe,grep,Nat.reduceSub];rfl) ?_
 refine w_grun ?_
 refine w_gcall [] (hS) ?_
 refine w_grun ?_
 refine w_gret ?_
 exact ⟨rfl,rfl⟩
theorem FnExactSavedParens_ok (p:Src) (n:Nat) (x0:Int) (hS:GF Tryz.prog 13 [.agg (encSrc p),.v (ii 1048576)] [] (.v (ii (n:Nat))) [])
  (hT:GF Tryz.prog 14 [.agg (encSrc p)] [] (.agg (encSrc p)) []) (hG:GF Tryz.prog 29 [.agg (encSrc p)] [] (.v (ii x0)) [])
  (hI:GF Tryz.prog 27 [.agg (encSrc p)] [] (.v (ii x0)) []) (hE:GF Tryz.prog 15 [.agg (encSrc p),.agg (encSrc p)] [] (.v (.bool true)) []) :
  GF Tryz.prog 8 [.agg (encSrc p)] [] (.v (.bool true)) []:=by
 have hd:decide (((n:Nat):Int) < 0)=false:=by simp
 have hx0:(x0 != x0)=false:=by simp
 refine GC.enter Tryz.func8 Tryz.ntmps8 rfl (by simp only [gframe,grep,Nat.reduceSub];rfl) ?_
 refine w_grun ?_
 refine w_gcall [] (hS) ?_
 refine w_grun ?_
 refine w_gcall [] (hT) ?_
 refine w_grun ?_
 refine w_gcall [] (hG) ?_
 refine w_grun ?_
 refine w_gcall [] (hT) ?_
 refine w_grun ?_
 refine w_gcall [] (hI) ?_
 refine w_grun ?_
 refine GW.draw (.q 0 (.q 1 (.a 2 (.a 3 (.q 4 .nil))))) (by kernel_rfl) (by kernel_rfl) ?_
 refine w_gorun ?_
 refine w_gocall [] (hT) ?_
 refine w_gorun ?_
 refine w_gocall [] (hE) ?_
 refine w_gorun ?_
 refine w_grun ?_
 refine w_gret ?_
 exact ⟨rfl,rfl⟩
theorem FnExactSavedParens_g (p:Src) (hb:Small p 9223372036854775807) (hn:Nums p):GF Tryz.prog 8 [.agg (encSrc p)] [] (.v (.bool true)) []:=by
 have hS:=szSource_g p hb
 by_cases hw:1048576 < wSrc p
 ·rw [szR_no hw] at hS
  exact FnExactSavedParens_big p hS
 ·rw [szR_ok (by omega)] at hS
  have hw:wSrc p≤1048576:=by omega
  obtain ⟨⟨a1,a2⟩,⟨b1,b2⟩,⟨c1,c2⟩,⟨d1,d2⟩⟩:=small_w p
  have hfp:∀ f∈p.fns,f.params.length≤1048576:=fun f h=>by have:=(c2 f h).2.1;omega
  have hnk:∀ n∈p.nodes,n.kids.length≤1048576:=fun n h=>by have:=(d2 n h).2;omega
  exact FnExactSavedParens_ok p _ _ hS (toSource_g p (by omega) (by omega) (by omega) hfp (by omega) hnk) (SavedParens_g p hw hn) (SavedParens_i p hw hn) (eqSource_g p (by omega) (by omega) (by omega) hfp (by omega) hnk)
end Go.Xg
namespace Go.Proofs.YtaopilmekfecpaaGreatDoor.fnExactSavedParens
open Go.ChangeShapes Go.WideShapes Go.ChangeAt Go.RowKit
open Go.ChangeMaps (open_string shut_string)
theorem own:ownKnob Tryz.prog.godebug=none:=by kernel_rfl
theorem walk (W:World) (v:Value) (p:Go.Sp.Src) (hv:Go.Xg.Rel (Go.Xg.KW W) (fun _=>.no) v (.agg (Go.Xg.encSrc p))) (hb:Go.Im.Small p 9223372036854775807) (hn:Go.Im.Nums p) (hT:Go.Xg.Tabs (Go.Xg.KW W) (fun _=>.no) W) :
  Calls Tryz.prog 8 #[v] W fun e w'=>e=.returned (.bool true)∧Below W.heap.size W w':=by
 have h:=(Go.Xg.FnExactSavedParens_g p hb hn).calls (W:=W) (vs:=[v]) (.cons hv .nil) hT
 refine Calls.mono h ?_
 rintro e w' ⟨x,rfl,hx,K,β,hr⟩
 exact ⟨by rw [hr.v_inv],hx⟩
theorem contract (H:Type) (enc:TypeId × Value→H) (W:World) (base:Nat) (args:Array Value) (ds gs:List (DataW H)) (before:List MemPlace)
  (hval:∀ (j:Nat) t v,Tryz.f8.params[j]?=some t→args[j]?=some v→Value.okWide Tryz.prog W .any base t v)
  (hW:DataW.Whole enc Tryz.prog Tryz.f8.params.toList Rows.fnExactSavedParensSpec.vars false W args.toList ds gs before) (hL:laidMetH Tryz.prog Rows.fnExactSavedParensRow.laid W) (hS:W.ShapedOpen Tryz.prog) :
  Calls Tryz.prog 8 args W fun e W'=>∃ v,e=.returned v∧Rows.fnExactSavedParensSpec.post enc Tryz.prog Tryz.f8 false true false false W args v W':=by
 have hW':=hW
 obtain ⟨p,q,hA0,hV,rfl,hfz,hnd⟩:=hW
 have hA:DataW.TrodAll enc Tryz.prog W 0 (fun _=>true) true Tryz.f8.params.toList args.toList ds p:=hA0
 rw [Tryz.params8] at hA hval
 obtain ⟨v0,vs0,d0,ds0,p0,q0,hargs,rfl,rfl,h0,r0⟩:=trodAll_cons hA
 obtain ⟨rfl,rfl,rfl⟩:=trodAll_nil r0
 obtain rfl:args=#[v0]:=by cases args;simp_all
 obtain ⟨rfl,rfl⟩:=trodVars_none hV
 obtain ⟨s,hs1,hs2,hs3⟩:=Go.Xg.open_src (fun _=>.no) (hval 0 39 v0 rfl rfl) h0
 clear hA0 hval
 simp only [List.append_nil] at hW'
 have hlt:∀ x∈p0,x.block < W.heap.size:=fun x hx=>hW'.lt x (by simpa using hx)
 have hT:Go.Xg.Tabs (Go.Xg.KW W) (fun _=>.no) W:=by
  have hl:laidMet Tryz.prog Rows.fnExactSavedParensRow.laid W:=hL
  exact Go.Xg.tabs_of (Go.Lib.laidMet.reads hl (.tail _ (.tail _ (.head _)))) (Go.Lib.laidMet.reads hl (.tail _ (.tail _ (.tail _ (.tail _ (.head _)))))) hS
 refine (walk W v0 s hs1 hs2 hs3 hT).mono fun e W' ⟨he,hg⟩=>?_
 subst he
 exact ⟨_,rfl,Go.Xw.post_of_below (pa:=p0) (pv:=[]) hW' (fun _ _ _=>(trodAll_cons_mk (shut_bool Tryz.underlying4 _) trodAll_mk0))
  (fun sp hsp=>by
   have:=trodAll_cons_mk (WideElems.Trod_stays (by kernel_rfl) (by kernel_rfl) (of_decide_eq_true (by kernel_rfl)) h0 (fun x hx=>hg.same (hlt x hx)) (fun x hx=>hsp x (by simpa using hx))) (trodAll_mk0)
   simp only [List.append_nil] at this
   exact this)
  (fun _ _=>rfl) (by simp) hg (ok_one (by kernel_rfl) rfl (okWide_bool_mk Tryz.underlying4 _))⟩
open Go.ChangeShapes Go.WideShapes Go.ChangeAt Go.RowKit
noncomputable def laidWorld (os:Os):World :=
 let N:=(World.settled Tryz.prog os).heap.size
 let w0:=World.holding Tryz.prog os ⟨#[.cells #[.int .u16 9,.int .u16 13,.int .u16 1,.int .u16 32,.int .u16 133,.int .u16 101,.int .u16 160,.int .u16 5760,.int .u16 5600,.int .u16 8192,.int .u16 8202,.int .u16 1,.int .u16 8232,.int .u16 8233,.int .u16 1,.int .u16 8239,.int .u16 8287,.int .u16 48,.int .u16 12288,.int .u16 12288,.int .u16 1] 247,
  .cells #[.slice (some ⟨N,0,none⟩) 7 7,.slice none 0 0,.int .i64 2] 244],#[],[]⟩
 let put (h:Array Obj) (g:Nat) (cs:Array Value):Array Obj:=h.modify g fun
  | .cells _ t frozen=>.cells cs t frozen
  | o=>o
 let ints (d:DataW Unit):Array Value:=match d with
  | .agg l=>(l.map fun x=>match x with | .lit (.int k z)=>Value.int k z | _=>.bool false).toArray
  | _=>#[]
 let h1:=put w0.heap 4 (ints Rows.laid_math_bits_deBruijn32tab)
 let h2:=put h1 5 (ints Rows.laid_math_bits_deBruijn64tab)
 let h3:=put h2 1 (ints Rows.laid_internal_strconv_uint64pow10)
 let h4:=put h3 2 (ints Rows.laid_strings_asciiSpace)
 let h5:=put h4 3 #[.pointer (some ⟨N+1,0,none⟩)]
 { w0 with heap:=h5 }
def wargs:Array Value:=#[.agg #[.slice none 0 0,.slice none 0 0,.slice none 0 0,.slice none 0 0]]
theorem laid_met (os:Os):laidMet Tryz.prog Rows.fnExactSavedParensRow.laid ((laidWorld os).forCall (fun _ _=>0) ⟨#[],wargs,[]⟩).memory :=
 laidMet_of_run' 10 (by kernel_rfl) (by kernel_rfl)
theorem witness_row (os:Os) {H:Type} (enc:TypeId × Value→H) :
  (OpenSpec.ofChange Rows.fnExactSavedParensSpec).preRow enc Tryz.prog Tryz.f8 Rows.fnExactSavedParensRow.domain false Rows.fnExactSavedParensRow.laid ((laidWorld os).forCall (fun _ _=>0) ⟨#[],wargs,[]⟩).memory wargs:=by
 have hw:(DataW.whole enc Tryz.prog ((laidWorld os).forCall (fun _ _=>0) ⟨#[],wargs,[]⟩).memory Tryz.f8.params.toList Rows.fnExactSavedParensSpec.vars false wargs.toList 8).map (fun x=>(x.1,x.2.1)) =
   some ([.agg [.nil,.nil,.nil,.nil]],[]):=by kernel_rfl
 obtain ⟨⟨x1,x2,x3⟩,hx,hx1⟩:=Option.map_eq_some_iff.1 hw
 simp only [Prod.mk.injEq] at hx1
 obtain ⟨rfl,rfl⟩:=hx1
 exact OpenSpec.preRow_of_cond 8 hx (by kernel_rfl) (fun k hk=>by cases hk) (by kernel_rfl) (laid_met os)
set_option maxRecDepth 100000 in
theorem lifted (os:Os) (started:os.Started) (H:Type) (enc:TypeId × Value→H) (F:Stop.Interp) :
  ReturnsInHanded {} Tryz.checked os 8 .any ((OpenSpec.ofChange Rows.fnExactSavedParensSpec).preRow enc Tryz.prog Tryz.f8 Rows.fnExactSavedParensRow.domain false Rows.fnExactSavedParensRow.laid) (((OpenSpec.ofChange Rows.fnExactSavedParensSpec).at F).post enc Tryz.prog Tryz.f8 false true false false):=by
 refine returnsInHanded_of_row (C:=Tryz.checked) (s:=OpenSpec.ofChange Rows.fnExactSavedParensSpec) own started (by kernel_rfl) Tryz.func8
  (witness_row_atRef (enc:=enc) (C:=Tryz.checked) false (laidWorld os) wargs rfl (by kernel_rfl) (by kernel_rfl) (by kernel_rfl) (witness_row os enc)) ?_
 intro W base args ds gs before hval hW _ _ _ hL hS _
 exact contract H enc W base args ds gs before hval hW hL hS
theorem said:Rows.FnExactSavedParensSaid :=
 OpenClaim.holds_of_cond 8 Tryz.f8 rfl rfl rfl rfl rfl rfl rfl ⟨rfl,rfl,rfl,rfl,rfl⟩ rfl rfl rfl rfl rfl (by kernel_rfl) Tryz.func8 (by kernel_rfl)
  (of_decide_eq_true (by kernel_rfl)) (by unfold Func.isWrapper;first | (rw [if_pos (by decide +kernel)];kernel_rfl) | (rw [if_neg (by decide +kernel)];exact ⟨rfl,rfl⟩))
  (fun os started H enc _ F=>by rw [OpenClaim.pre_eq_preRow];exact lifted os started H enc F)
theorem plain (f:FuncId) (fn:Func) (hf:Tryz.pinned.checked.prog.funcNamed "loop.example/g00472/laws.FnExactSavedParens" = some f) (hfn:Tryz.pinned.checked.prog.funcs[f]?=some fn) :
  false=Tryz.pinned.checked.prog.looks []∧∀ (j:Nat) t,fn.params[j]?=some t→Tryz.pinned.checked.prog.wantsStandIn t=false:=by
 obtain rfl:f=8:=Option.some.inj ((show Tryz.prog.funcNamed "loop.example/g00472/laws.FnExactSavedParens" = some 8 by kernel_rfl).symm.trans hf) |>.symm
 obtain rfl:fn=Tryz.f8:=(Option.some.inj (Tryz.func8.symm.trans hfn)).symm
 refine ⟨by kernel_rfl,fun j t ht=>?_⟩
 rw [Tryz.params8] at ht
 have hp0:Tryz.prog.wantsStandIn 39=false:=by kernel_rfl
 have ht':t=39:=by simpa using Array.mem_of_getElem? ht
 subst ht';exact hp0
theorem proved:Rows.FnExactSavedParensCardSaid :=
 Claim7.holds_tied_plain_at .later [] _ _ _ _ said (fun _ h=>by cases h) (by kernel_rfl) (fun _ h=>by cases h) fnExactSavedParens_row_tie rfl ⟨rfl,rfl⟩ (by kernel_rfl) rfl plain (by kernel_rfl)
#print axioms proved
end Go.Proofs.YtaopilmekfecpaaGreatDoor.fnExactSavedParens
