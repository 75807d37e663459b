/- Part 15 of proofs that are told in their last texts. -/
import Derived.Test.YtfahcenafcklmaaGreatDoorZ14
import Derived.Test.YtfahcenafcklmaaGreatDoorZ4
import Derived.Test.YtfahcenafcklmaaGreatDoorZ11
import Derived.Test.YtfahcenafcklmaaGreatDoorZ12
import Derived.Laws.StructEq
import Derived.Test.YtfahcenafcklmaaGreatDoorZ2
open List (getElem_mem length_cons length_nil)
set_option linter.unusedVariables false
set_option linter.unusedSimpArgs false
set_option maxRecDepth 100000
set_option maxHeartbeats 2000000
namespace Go
theorem zb1 {A:Prop} (s:A:=by refine zaA ?_;refine GW.wk (Wk.yA (i:=1) (o:=5) rfl rfl rfl rfl hn) ?_;refine GW.wk (Wk.freeze (i:=1) rfl rfl rfl (fU rfl)) ?_;exact ao):A:=s
theorem zdH {A:Prop} (s:A:=by refine zaA ?_;refine GW.wk (Wk.kG (t:=4) rfl rfl rfl hn) ?_;exact ao):A:=s
end Go
namespace Go.Xg
open Go.RowKit Go.Xw Go.Proofs Tryz Go.Im
open GV (U)
open Go.Xp (T bp aQ aB)
open Go.Sp (Src)
attribute [local irreducible] GW GL GO YG GC GA bu bs
theorem zR (ex bk:FuncId) [he:ba prog ex] [hb:ba prog bk] (tx:T->ae) (inl:List ae->Nat->ae) (W:Wr ex bk tx inl) (p:Src) (trees:List T) (hlen:(jJ tx inl p trees).length<=1099511627776) (hft:p.fns.length=trees.length)
  (hg:p.globals.length<=1099511627776) (ha:p.arrays.length<=1099511627776) (hf:p.fns.length<=1099511627776) (YT:∀ a∈p.arrays,-9223372036854775808<=a.size/\a.size<=9223372036854775807) (wZ:∀ f∈p.fns,f.params.length<=1099511627776)
  (ht:∀ t∈trees,gq t=true/\nO t/\gw t<=1099511627776/\aQ t+1<=1099511627776) :
  GF prog 88 [.agg (aL p),.sl 1 (cj trees),.v (gW ex),.v (gW bk)] [] (.v (sv (jJ tx inl p trees))) []:=by
 have Wg:(p.globals.map fun s=>[GV.v (sv s)]).length=p.globals.length:=by simp
 have kQ:(p.arrays.map bY).length=p.arrays.length:=by simp
 have Wf:(p.fns.map br).length=p.fns.length:=by simp
 have l2:=sw (cI tx inl) (p.fns.zip trees) (bH a1 (bH g1 [] p.globals) p.arrays);have l1:=sw a1 p.arrays (bH g1 [] p.globals);unfold jJ at hlen |-;refine aj func88 ntmps88 ?_;refine GW.wk (Wk.Ch (t:=9) (a:=none) (c:=0) 5 1 rfl) ?_;refine GW.range (p.globals.map fun s=>[GV.v (sv s)]).length (fun k fr Γ=>∃ acc m rows,fr=[U,.sl 1 (cj trees),.v (gW ex),.v (gW bk),.loc 0 0,U,U,U,U,.vec 1 m,U,U,U,U,U,U,U,U,strs p.globals,.v (ii ((p.globals.map fun s=>[GV.v (sv s)]).length:Int)),.v (ii (k:Nat)),U,U,U,U,U,U,U,U,U,U,U,U,U,U,U,U,U,U,U,U,U,U,U,U,U,U,U,U,U,U,U,U,U,U,U,U,U,U,U,U,U,U,U,U,U,U,U,U,U,U,U,U,U,U,U,U,U,U,U,U,U]/\Γ=[.box 28 (aL p),.vec 5 1 0 rows]/\rows.length=m/\rows=bI acc/\acc=bH g1 [] (p.globals.take k)) ?_ X ?_ ?_ ?_
 ·exact ⟨_,_,Wk.aX aw,[],0,[],rfl,rfl,rfl,rfl,rfl⟩
 ·rintro k _ _ ⟨acc,m,rows,rfl,rfl,_⟩;exact gU
 ·rintro k _ _ ar ⟨acc,m,rows,rfl,rfl,hm,bn,jH⟩;rw [Wg] at ar
  have gE:p.globals[k]?=some p.globals[k]:=by simp [ar]
  have y7:(p.globals.map fun s=>[GV.v (sv s)])[k]?=some [.v (sv p.globals[k])]:=by rw [bP,gE];rfl
  have eP:bH g1 [] (p.globals.take (k+1))=acc++g1 p.globals[k]:=by rw [eK,gE,jH];exact po g1 _ _ _
  have hle:=px g1 p.globals (k+1) [];rw [eP,aJ] at hle
  have Wh:rows.length=acc.length:=by rw [bn];simp [bI]
  generalize p.globals[k]=z at *
  have hz:(g1 z).length=z.length+6:=by unfold g1;simp
  refine ab ?_;refine GL.BI (str:=g1 z) rfl rfl rfl ay rfl X ?_;refine zcW ?_;exact ⟨rfl,rfl,_,_,Wk.aX aw,acc++g1 z,_,_,rfl,rfl,by rw [aJ,hm];simp [bI],by rw [bn];exact (tU acc (g1 z)).symm,eP.symm⟩
 ·rintro _ _ ⟨acc,m,rows,rfl,rfl,hm,bn,jH⟩;rw [Wg,iZ] at jH;rw [<-jH] at hlen l1 l2 |-;refine bo ?_;refine ab ?_;refine GW.range (p.arrays.map bY).length (fun k fr Γ=>∃ qB m rows,fr=[U,.sl 1 (cj trees),.v (gW ex),.v (gW bk),.loc 0 0,U,U,U,U,.vec 1 m,U,U,U,U,U,U,U,U,U,U,U,U,U,U,U,U,U,U,U,U,U,.sl 2 (p.arrays.map bY),.v (ii ((p.arrays.map bY).length:Int)),.v (ii (k:Nat)),U,U,U,U,U,U,U,U,U,U,U,U,U,U,U,U,U,U,U,U,U,U,U,U,U,U,U,U,U,U,U,U,U,U,U,U,U,U,U,U,U,U,U,U,U,U,U,U]/\Γ=[.box 28 (aL p),.vec 5 1 0 rows]/\rows.length=m/\rows=bI qB/\qB=bH a1 acc (p.arrays.take k)) ?_ X ?_ ?_ ?_
  ·exact ⟨_,_,Wk.aX aw,acc,m,rows,rfl,rfl,hm,bn,rfl⟩
  ·rintro k _ _ ⟨qB,m,rows,rfl,rfl,_⟩;exact gU
  ·clear hm bn;rintro k _ _ ar ⟨qB,m,rows,rfl,rfl,hm,bn,DN⟩;rw [kQ] at ar
   have gE:p.arrays[k]?=some p.arrays[k]:=by simp [ar]
   have y7:(p.arrays.map bY)[k]?=some (bY p.arrays[k]):=by rw [bP,gE];rfl
   have eP:bH a1 acc (p.arrays.take (k+1))=qB++a1 p.arrays[k]:=by rw [eK,gE,DN];exact po a1 _ _ _
   have hle:=px a1 p.arrays (k+1) acc;rw [eP,aJ] at hle
   have Wh:rows.length=qB.length:=by rw [bn];simp [bI]
   have xy:=YT p.arrays[k] (getElem_mem ar);generalize p.arrays[k]=z at *;have hit:=D2 z.size xy.1 xy.2;have rD:=pH xy
   have hz:(a1 z).length=z.name.length+(mx z.size).length+8:=by unfold a1;simp;omega
   unfold bY at y7;refine ab ?_;refine aS (aC 0 7 (.a 7 (.q 8 (.q 9 (.a 10 (.q 11 .nil)))))) ?_;refine aq ?_;refine ax [] hit ?_;refine OA rfl rfl (GL.BI (str:=a1 z) rfl rfl rfl ay rfl X (GL.nil (bo (dm.mk zeI ?_))))
   refine MW ?_;refine bF ?_;exact ⟨rfl,rfl,_,_,(Wk.cut (n:=2) (aY _) rfl).trans (Wk.aX aw),qB++a1 z,_,_,rfl,rfl,by rw [aJ,hm];simp [bI],by rw [bn];exact (tU qB (a1 z)).symm,eP.symm⟩
  ·clear hm bn;rintro _ _ ⟨qB,m,rows,rfl,rfl,hm,bn,DN⟩;rw [kQ,iZ] at DN;rw [<-DN] at hlen l2 |-
   have XF:∀ (k:Nat) (f:Go.Sp.Fn),p.fns[k]?=some f->f.params.length<=1099511627776:=fun k f h=>wZ f (bM h)
   refine bo ?_;refine ab ?_;refine GW.range (p.fns.map br).length (fun k fr Γ=>∃ uq m rows,fr=[U,.sl 1 (cj trees),U,U,U,U,U,U,U,.vec 1 m,U,U,U,U,.loc 2 0,U,U,U,U,U,U,U,U,U,U,U,U,U,U,U,U,U,U,U,U,U,U,U,U,U,U,U,U,U,U,U,U,U,U,U,U,U,U,.sl 3 (p.fns.map br),.v (ii ((p.fns.map br).length:Int)),.v (ii (k:Nat)),U,U,U,U,U,U,U,U,U,U,U,U,U,U,U,U,U,U,U,U,U,U,U,U,U,U]/\Γ=[.box 28 (aL p),.vec 5 1 0 rows,.box 138 [.v (gW ex),.v (gW bk)]]/\rows.length=m/\rows=bI uq/\uq=bH (cI tx inl) qB ((p.fns.zip trees).take k)) ?_ X ?_ ?_ ?_
   ·exact ⟨_,_,Wk.aX aw,qB,m,rows,rfl,rfl,hm,bn,rfl⟩
   ·rintro k _ _ ⟨uq,m,rows,rfl,rfl,_⟩;exact gU
   ·clear hm bn;rintro k _ _ ar ⟨uq,m,rows,rfl,rfl,hm,bn,DO⟩;rw [Wf] at ar
    have lX:k < trees.length:=by omega
    have gE:p.fns[k]?=some p.fns[k]:=by simp [ar]
    have tZ:trees[k]?=some trees[k]:=by simp [lX]
    have y7:(p.fns.map br)[k]?=some (br p.fns[k]):=by rw [bP,gE];rfl
    have aam:=vB tZ
    have Tk:(p.fns.zip trees)[k]?=some (p.fns[k],trees[k]):=by rw [List.getElem?_zip_eq_some];exact ⟨gE,tZ⟩
    have eP:bH (cI tx inl) qB ((p.fns.zip trees).take (k+1))=uq++cI tx inl (p.fns[k],trees[k]):=by rw [eK,Tk,DO];exact po (cI tx inl) _ _ _
    have hle:=px (cI tx inl) (p.fns.zip trees) (k+1) qB;rw [eP,aJ] at hle
    have Wh:rows.length=uq.length:=by rw [bn];simp [bI]
    obtain ⟨q1,q2,q3,q4⟩:=ht trees[k] (getElem_mem lX);have Zj:=XF k _ gE;generalize p.fns[k]=f at *;generalize trees[k]=t at *
    have hz:(cI tx inl (f,t)).length=f.name.length+(bp f.params).length+(iT tx inl 0 t).length+9:=by unfold cI;simp;omega
    have hJ:=Kj f.params X Zj
    have Jo:∀ (l:List T) (a:T),a∈l->aQ a<=aB l:=by
     intro l
     induction l with
     | nil=>intro a h;cases h
     | cons b l lD =>
      intro a h;rw [aB]
      rcases ew h with rfl | h
      ·omega
      ·have:=lD a h;omega
    have hB:=yQ ex bk tx inl W t 0 X (by have:=Go.Xp.jK t.kids;have:=Go.Xp.eg t;omega) X fun a Ll u6=>by
     have D:=Jo _ a Ll;have I:=Go.Xp.eg t;have h3:=q5 Ll;have h4:=jC t;rw [vh,au,qJ,fV] at q1;rw [l6] at q2;exact G5 ex bk tx inl W _ a (aD _) (q1.2 a Ll) (eC q2.2 Ll) X (0+1) X u6
    unfold br at y7;refine ab ?_;refine aS (aC 0 7 (aC 10 5 (.a 7 (.q 8 (.q 9 (.a 15 (.q 16 (.q 17 (.a 18 (.q 19 .nil)))))))))) ?_;refine aq ?_;refine ax [] hJ ?_;refine ax [] hB ?_;refine OA rfl rfl (GL.BI (str:=cI tx inl (f,t)) rfl rfl rfl ay rfl X (GL.nil (bo (dm.mk zeI ?_))))
    refine MW ?_;refine bF ?_;exact ⟨rfl,rfl,_,_,(Wk.cut (n:=3) (aY _) rfl).trans (Wk.aX aw),uq++cI tx inl (f,t),_,_,rfl,rfl,by rw [aJ,hm];simp [bI],by rw [bn];exact (tU uq _).symm,eP.symm⟩
   ·clear hm bn;rintro _ _ ⟨uq,m,rows,rfl,rfl,hm,bn,DO⟩;rw [Wf,show (p.fns.zip trees).take p.fns.length=p.fns.zip trees from nq ze6] at DO;rw [<-DO] at hlen |-;refine bo ?_;refine GW.wk (Wk.kG (t:=9) rfl rfl rfl hm) ?_
    have Z9:rows=uq.map fun c=>[.v (.int .u8 (c.toNat:Int))]:=bn
    exact av
end Go.Xg
namespace Go.Xg
open Go.RowKit Go.Xw Go.Proofs Tryz
open GV (U)
open Go.Im (eU ry rz sT ml nC)
attribute [local irreducible] GW GL GO YG GC GA bu bs
theorem G7 (a b:List ae) (ha:a.length<=1099511627776) (hb:b.length<=1099511627776):GF prog 121 [strs a,strs b] [] (.v (.bool (eU (fun x y=>x==y) a b))) []:=by
 have kQ:(a.map fun s=>[GV.v (sv s)]).length=a.length:=by simp
 have ua:(b.map fun s=>[GV.v (sv s)]).length=b.length:=by simp
 by_cases hl:a.length=b.length
 ·have hd:(((a.map fun s=>[GV.v (sv s)]).length:Int) != ((b.map fun s=>[GV.v (sv s)]).length:Int))=false:=by rw [kQ,ua,hl];simp
  refine aj func121 ntmps121 ?_;refine GW.range (a.map fun s=>[GV.v (sv s)]).length (fun k fr Γ=>fr=[strs a,strs b,U,U,U,U,U,U,U,U,U,U,.v (ii ((a.map fun s=>[GV.v (sv s)]).length:Int)),.v (ii (k:Nat)),U,U,U,U,U,U,U,U,U,U,U,U]/\Γ=[]/\sT (fun x y=>x==y) a b k) ?_ X ?_ ?_ ?_
  ·exact za1
  ·exact nc
  ·rintro k _ _ ar ⟨rfl,rfl,ej⟩;rw [kQ] at ar
   have lB:a[k]?=some a[k]:=by simp [ar]
   have p8:k < b.length:=by omega
   have pG:b[k]?=some b[k]:=by simp [p8]
   have EV:(a.map fun s=>[GV.v (sv s)])[k]?=some [GV.v (sv a[k])]:=by rw [bP,lB];rfl
   have EW:(b.map fun s=>[GV.v (sv s)])[k]?=some [GV.v (sv b[k])]:=by rw [bP,pG];rfl
   generalize a[k]=x at *;generalize b[k]=y at *
   cases hxy:(x==y) with
   | true =>
    have hn:(x != y)=false:=by simp only [bne,hxy];rfl
    have bL:(!(x==y))=false:=by rw [hxy];rfl
    refine zcg ?_;exact zbH
   | false =>
    have hn:(x != y)=true:=by simp only [bne,hxy];rfl
    have bL:(!(x==y))=true:=by rw [hxy];rfl
    exact zei
  ·rintro _ _ ⟨rfl,rfl,ej⟩;exact zbW
 ·have hd:(((a.map fun s=>[GV.v (sv s)]).length:Int) != ((b.map fun s=>[GV.v (sv s)]).length:Int))=true:=by rw [kQ,ua];simpa using by omega
  rw [ry hl];refine aj func121 ntmps121 ?_;exact ao
theorem QJ (a b:List Int) (ha:a.length<=1099511627776) (hb:b.length<=1099511627776):GF prog 182 [ints a,ints b] [] (.v (.bool (eU (fun x y=>x==y) a b))) []:=by
 have kQ:(a.map fun s=>[GV.v (ii s)]).length=a.length:=by simp
 have ua:(b.map fun s=>[GV.v (ii s)]).length=b.length:=by simp
 by_cases hl:a.length=b.length
 ·have hd:(((a.map fun s=>[GV.v (ii s)]).length:Int) != ((b.map fun s=>[GV.v (ii s)]).length:Int))=false:=by rw [kQ,ua,hl];simp
  refine aj func182 ntmps182 ?_;refine GW.range (a.map fun s=>[GV.v (ii s)]).length (fun k fr Γ=>fr=[ints a,ints b,U,U,U,U,U,U,U,U,U,U,.v (ii ((a.map fun s=>[GV.v (ii s)]).length:Int)),.v (ii (k:Nat)),U,U,U,U,U,U,U,U,U,U,U,U]/\Γ=[]/\sT (fun x y=>x==y) a b k) ?_ X ?_ ?_ ?_
  ·exact za1
  ·exact nc
  ·rintro k _ _ ar ⟨rfl,rfl,ej⟩;rw [kQ] at ar
   have lB:a[k]?=some a[k]:=by simp [ar]
   have p8:k < b.length:=by omega
   have pG:b[k]?=some b[k]:=by simp [p8]
   have EV:(a.map fun s=>[GV.v (ii s)])[k]?=some [GV.v (ii a[k])]:=by rw [bP,lB];rfl
   have EW:(b.map fun s=>[GV.v (ii s)])[k]?=some [GV.v (ii b[k])]:=by rw [bP,pG];rfl
   generalize a[k]=x at *;generalize b[k]=y at *
   cases hxy:(x==y) with
   | true =>
    have hn:(x != y)=false:=by simp only [bne,hxy];rfl
    have bL:(!(x==y))=false:=by rw [hxy];rfl
    refine zcg ?_;exact zbH
   | false =>
    have hn:(x != y)=true:=by simp only [bne,hxy];rfl
    have bL:(!(x==y))=true:=by rw [hxy];rfl
    exact zei
  ·rintro _ _ ⟨rfl,rfl,ej⟩;exact zbW
 ·have hd:(((a.map fun s=>[GV.v (ii s)]).length:Int) != ((b.map fun s=>[GV.v (ii s)]).length:Int))=true:=by rw [kQ,ua];simpa using by omega
  rw [ry hl];refine aj func182 ntmps182 ?_;exact ao
open Go.Xp (Nd)
open Go.Im (rf jL)
theorem O4 (a b:Go.Sp.Fn) (ha:a.params.length<=1099511627776) (hb:b.params.length<=1099511627776):GF prog 124 [.agg (br a),.agg (br b)] [] (.v (.bool (rf a b))) []:=by
 have he:=G7 a.params b.params ha hb;unfold rf br
 cases D:(a.name==b.name) with
 | false =>
  refine aj func124 ntmps124 ?_;exact ao
 | true =>
  cases I:eU (fun x y=>x==y) a.params b.params with
  | false =>
   exact zdA
  | true =>
   exact zdA
theorem JX (a b:Nd) (ha:a.kids.length<=1099511627776) (hb:b.kids.length<=1099511627776):GF prog 126 [.agg (aO a),.agg (aO b)] [] (.v (.bool (jL a b))) []:=by
 have he:=QJ a.kids b.kids ha hb;unfold jL aO;generalize eU (fun x y=>x==y) a.kids b.kids=q at *
 cases D:(a.kind==b.kind) with
 | false =>
  exact zdO
 | true =>
  cases I:(a.n==b.n) with
  | false =>
   exact zdO
  | true =>
   cases h3:(a.s==b.s) with
   | false =>
    exact zdO
   | true =>
    refine aj func126 ntmps126 ?_;refine V [] he ?_;exact ao
theorem Gn (a b:List Go.Sp.Fn) (ha:a.length<=1099511627776) (hb:b.length<=1099511627776) (ka:∀ x∈a,x.params.length<=1099511627776) (kb:∀ x∈b,x.params.length<=1099511627776) :
  GF prog 123 [.sl 3 (a.map br),.sl 3 (b.map br),.v (.func (.func 124) #[] #[])] [] (.v (.bool (eU rf a b))) []:=by
 have kQ:(a.map br).length=a.length:=by simp
 have ua:(b.map br).length=b.length:=by simp
 by_cases hl:a.length=b.length
 ·have hd:(((a.map br).length:Int) != ((b.map br).length:Int))=false:=by rw [kQ,ua,hl];simp
  refine aj func123 ntmps123 ?_;refine GW.range (a.map br).length (fun k fr Γ=>fr=[U,.sl 3 (b.map br),.v (.func (.func 124) #[] #[]),U,U,U,U,U,U,U,U,U,U,U,U,.sl 3 (a.map br),.v (ii ((a.map br).length:Int)),.v (ii (k:Nat)),U,U,U,U,U,U,U,U,U,U,U,U,U,U]/\Γ=[]/\sT rf a b k) ?_ X ?_ ?_ ?_
  ·exact za1
  ·exact nc
  ·rintro k _ _ ar ⟨rfl,rfl,ej⟩;rw [kQ] at ar
   have lB:a[k]?=some a[k]:=by simp [ar]
   have p8:k < b.length:=by omega
   have pG:b[k]?=some b[k]:=by simp [p8]
   have EV:(a.map br)[k]?=some (br a[k]):=by rw [bP,lB];rfl
   have EW:(b.map br)[k]?=some (br b[k]):=by rw [bP,pG];rfl
   have hs:=O4 a[k] b[k] (ka _ (getElem_mem ar)) (kb _ (getElem_mem p8));generalize a[k]=x at *;generalize b[k]=y at *;unfold br at EV EW hs
   cases hxy:rf x y with
   | true =>
    exact zbt
   | false =>
    rw [hxy] at hs;rw [rz lB pG (p:=rf) hxy];refine ab ?_;refine kp [] hs ?_;exact av
  ·rintro _ _ ⟨rfl,rfl,ej⟩;exact zbW
 ·have hd:(((a.map br).length:Int) != ((b.map br).length:Int))=true:=by rw [kQ,ua];simpa using by omega
  rw [ry hl];refine aj func123 ntmps123 ?_;exact ao
theorem Gp (a b:List Nd) (ha:a.length<=1099511627776) (hb:b.length<=1099511627776) (ka:∀ x∈a,x.kids.length<=1099511627776) (kb:∀ x∈b,x.kids.length<=1099511627776) :
  GF prog 125 [.sl 5 (a.map aO),.sl 5 (b.map aO),.v (.func (.func 126) #[] #[])] [] (.v (.bool (eU jL a b))) []:=by
 have kQ:(a.map aO).length=a.length:=by simp
 have ua:(b.map aO).length=b.length:=by simp
 by_cases hl:a.length=b.length
 ·have hd:(((a.map aO).length:Int) != ((b.map aO).length:Int))=false:=by rw [kQ,ua,hl];simp
  refine aj func125 ntmps125 ?_;refine GW.range (a.map aO).length (fun k fr Γ=>fr=[U,.sl 5 (b.map aO),.v (.func (.func 126) #[] #[]),U,U,U,U,U,U,U,U,U,U,U,U,.sl 5 (a.map aO),.v (ii ((a.map aO).length:Int)),.v (ii (k:Nat)),U,U,U,U,U,U,U,U,U,U,U,U,U,U]/\Γ=[]/\sT jL a b k) ?_ X ?_ ?_ ?_
  ·exact za1
  ·exact nc
  ·rintro k _ _ ar ⟨rfl,rfl,ej⟩;rw [kQ] at ar
   have lB:a[k]?=some a[k]:=by simp [ar]
   have p8:k < b.length:=by omega
   have pG:b[k]?=some b[k]:=by simp [p8]
   have EV:(a.map aO)[k]?=some (aO a[k]):=by rw [bP,lB];rfl
   have EW:(b.map aO)[k]?=some (aO b[k]):=by rw [bP,pG];rfl
   have hs:=JX a[k] b[k] (ka _ (getElem_mem ar)) (kb _ (getElem_mem p8));generalize a[k]=x at *;generalize b[k]=y at *;unfold aO at EV EW hs
   cases hxy:jL x y with
   | true =>
    exact zbt
   | false =>
    rw [hxy] at hs;rw [rz lB pG (p:=jL) hxy];refine ab ?_;refine kp [] hs ?_;exact av
  ·rintro _ _ ⟨rfl,rfl,ej⟩;exact zbW
 ·have hd:(((a.map aO).length:Int) != ((b.map aO).length:Int))=true:=by rw [kQ,ua];simpa using by omega
  rw [ry hl];refine aj func125 ntmps125 ?_;exact ao
end Go.Xg
namespace Go.Xg
open Go.RowKit Go.Xw Go.Proofs Tryz
open GV (U)
open Go.Xp (Ar)
open Go.Im (yR eU ry rz sT ml nC)
theorem UU (w:World) (s s':ae) (n n':Int):(Op.equalIn 10000 98 (.agg #[sv s,ii n]) (.agg #[sv s',ii n'])).run prog w=.ok ((s==s')&&(n==n')) w:=by
 have hf:(prog.fieldsOf 98).toList=[(prog.fieldsOf 98)[0]!,(prog.fieldsOf 98)[1]!]:=by kernel_rfl
 have a0:((prog.fieldsOf 98)[0]!).type=9:=by kernel_rfl
 have a1:((prog.fieldsOf 98)[1]!).type=3:=by kernel_rfl
 have b0:((prog.fieldsOf 98)[0]!).offset=0:=by kernel_rfl
 have b1:((prog.fieldsOf 98)[1]!).offset=1:=by kernel_rfl
 have c0:((prog.fieldsOf 98)[0]!).name = "Name" := by kernel_rfl
 have c1:((prog.fieldsOf 98)[1]!).name = "Size" := by kernel_rfl
 rw [show (10000:Nat)=9999+1 from rfl,run_equalIn_agg w 9999 _ _ _ (by kernel_rfl) (by kernel_rfl),hf];generalize (prog.fieldsOf 98)[0]! = f0 at *;generalize (prog.fieldsOf 98)[1]! = cI at *
 have hs:prog.underlying 9=some .string:=by kernel_rfl
 have hi:prog.underlying 3=some (.int .i64):=by kernel_rfl
 have p0:∀ (a:ae) (b:Int) w,(part f0.type #[sv a,ii b] f0.offset).run prog w=.ok (sv a) w:=fun a b w=>by
  rw [a0,b0];rfl
 have p1:∀ (a:ae) (b:Int) w,(part cI.type #[sv a,ii b] cI.offset).run prog w=.ok (ii b) w:=fun a b w=>by
  rw [a1,b1];rfl
 have e0:∀ w,(Op.equalIn 9999 f0.type (sv s) (sv s')).run prog w=.ok (s==s') w:=fun w=>by
  rw [a0,show (9999:Nat)=9998+1 from rfl];have:=run_equalIn_string (P:=prog) w 9998 9 ⟨s.toArray⟩ ⟨s'.toArray⟩ hs;rw [show sv s=.string ⟨s.toArray⟩ from rfl,show sv s'=.string ⟨s'.toArray⟩ from rfl,this];simp [toList_mk]
 have e1:∀ w,(Op.equalIn 9999 cI.type (ii n) (ii n')).run prog w=.ok (n==n') w:=fun w=>by
  rw [a1,show (9999:Nat)=9998+1 from rfl];exact run_equalIn_int (P:=prog) w 9998 3 .i64 .i64 n n' hi
 have n0:f0.name ≠ "_" := by rw [c0];decide
 have n1:cI.name ≠ "_" := by rw [c1];decide
 rw [Op.eqFields,ah n0];simp only [Sem.run_bind,p0,Result.andThen_ok,e0]
 cases s==s' with
 | false=>simp
 | true =>
  simp only [Bool.not_true,Bool.false_eq_true,if_false,Bool.true_and];rw [Op.eqFields,ah n1];simp only [Sem.run_bind,p1,Result.andThen_ok,e1]
  cases n==n' with
  | false=>simp
  | true=>simp [Op.eqFields]
theorem YG.TZ {fr:List GV} {Γ:List Ob} {x y:Operand} {t':TypeId} {s s':ae} {n n':Int} (hx:bg fr x=.agg [.v (sv s),.v (ii n)]) (hy:bg fr y=.agg [.v (sv s'),.v (ii n')]) :
  YG prog (.binOp .neq 98 x y t') fr Γ (.v (.bool (!((s==s')&&(n==n'))))):=fun B K β w l hI hF=>by
 have two:∀ {v:Value} {a b:Value},Rel K β v (.agg [.v a,.v b])->v=.agg #[a,b]:=fun {v a b} h=>by
  cases h with
  | agg vs _ hl hh =>
   match vs,hl with
   | [u1,u2],_ =>
    have D:=Rel.gS (hh 0 u1 (.v a) rfl rfl);have I:=Rel.gS (hh 1 u2 (.v b) rfl rfl);rw [D,I]
 have xD:=two (by rw [<-hx];exact hF.ev x);have TG:=two (by rw [<-hy];exact hF.ev y);refine ⟨_,fun d ty pos af=>?_,.v _⟩;have hg:=run_eqGuard_agg (P:=prog) w .neq 98 x y #[sv s,ii n] #[sv s',ii n'] (by kernel_rfl);have hn:=run_neq_struct (P:=prog) w 98 #[sv s,ii n] #[sv s',ii n'];rw [UU,Result.andThen_ok] at hn;simp [execOp,xD,TG,hg,hn]
attribute [local irreducible] GW GL GO YG GC GA bu bs
theorem QI (a b:List Ar) (ha:a.length<=1099511627776) (hb:b.length<=1099511627776):GF prog 122 [(.sl 2 (a.map fun s=>bY s)),(.sl 2 (b.map fun s=>bY s))] [] (.v (.bool (eU yR a b))) []:=by
 have kQ:(a.map fun s=>bY s).length=a.length:=by simp
 have ua:(b.map fun s=>bY s).length=b.length:=by simp
 by_cases hl:a.length=b.length
 ·have hd:(((a.map fun s=>bY s).length:Int) != ((b.map fun s=>bY s).length:Int))=false:=by rw [kQ,ua,hl];simp
  refine aj func122 ntmps122 ?_;refine GW.range (a.map fun s=>bY s).length (fun k fr Γ=>fr=[(.sl 2 (a.map fun s=>bY s)),(.sl 2 (b.map fun s=>bY s)),U,U,U,U,U,U,U,U,U,U,.v (ii ((a.map fun s=>bY s).length:Int)),.v (ii (k:Nat)),U,U,U,U,U,U,U,U,U,U,U,U]/\Γ=[]/\sT yR a b k) ?_ X ?_ ?_ ?_
  ·exact za1
  ·exact nc
  ·rintro k _ _ ar ⟨rfl,rfl,ej⟩;rw [kQ] at ar
   have lB:a[k]?=some a[k]:=by simp [ar]
   have p8:k < b.length:=by omega
   have pG:b[k]?=some b[k]:=by simp [p8]
   have EV:(a.map fun s=>bY s)[k]?=some (bY a[k]):=by rw [bP,lB];rfl
   have EW:(b.map fun s=>bY s)[k]?=some (bY b[k]):=by rw [bP,pG];rfl
   generalize a[k]=x at *;generalize b[k]=y at *;unfold bY at EV EW
   cases hxy:yR x y with
   | true =>
    have bL:(!((x.name==y.name)&&(x.size==y.size)))=false:=by rw [show ((x.name==y.name)&&(x.size==y.size))=yR x y from rfl,hxy];rfl
    refine zcg ?_;refine aq ?_;apply OP
    ·exact rfl
    ·intro Γ;exact YG.TZ rfl rfl
    refine kv ?_;exact zbH
   | false =>
    have bL:(!((x.name==y.name)&&(x.size==y.size)))=true:=by rw [show ((x.name==y.name)&&(x.size==y.size))=yR x y from rfl,hxy];rfl
    rw [rz lB pG (p:=yR) hxy];refine zcg ?_;refine aq ?_;apply OP
    ·exact rfl
    ·intro Γ;exact YG.TZ rfl rfl
    refine kv ?_;exact zbG
  ·rintro _ _ ⟨rfl,rfl,ej⟩;exact zbW
 ·have hd:(((a.map fun s=>bY s).length:Int) != ((b.map fun s=>bY s).length:Int))=true:=by rw [kQ,ua];simpa using by omega
  rw [ry hl];refine aj func122 ntmps122 ?_;exact ao
end Go.Xg
set_option maxHeartbeats 1000000
namespace Go.Xg
open Go.RowKit Go.Xw Go.Proofs Tryz Go.Sp Go.Im
open GV (U)
open Go.Xp (T one levels)
attribute [local irreducible] GW GL GO YG GC GA bu bs
structure G8 (f:Nat):Prop where
 expr:∀ d p t q x,p.ok->d+f<=1099511627776->iE f (.expr d) p=some (t,q)->GF prog 291 [.loc 0 0,.v (ii (d:Nat))] [b7 p x] (qT t) [b7 q x]
 level:∀ k d p t q x,p.ok->k<=9->d+f<=1099511627776->iE f (.level k d) p=some (t,q)->GF prog 303 [.loc 0 0,.v (ii (k:Nat)),.v (ii (d:Nat))] [b7 p x] (qT t) [b7 q x]
 operand:∀ d p t q x,p.ok->d+f<=1099511627776->iE f (.operand d) p=some (t,q)->GF prog 309 [.loc 0 0,.v (ii (d:Nat))] [b7 p x] (qT t) [b7 q x]
 exprs:∀ d p l q x,p.ok->d+f<=1099511627776->iA f d [] p=some (l,q)->GF prog 312 [.loc 0 0,.v (ii (d:Nat))] [b7 p x] (.sl 1 (kE l)) [b7 q x]
theorem Gl:GF prog 257 [.v (ii 0),.v (ii 0),.v (sv []),.sl 1 []] [] (qT T.zero) []:=eB 0 0 [] [] [] rfl
theorem Sn {f:Nat} (C:G8 f) (d:Nat) (p:RS) (t:T) (q:RS) (x:PX) (hp:p.ok) (hd:d+(f+1)<=1099511627776) (h:iE (f+1) (.expr d) p=some (t,q)) :
  GF prog 291 [.loc 0 0,.v (ii (d:Nat))] [b7 p x] (qT t) [b7 q x]:=by
 rw [iE] at h;have dP:=vY p d x hp
 by_cases hc:(b9 p d).code=0
 ·have de:((b9 p d).code==0)=true:=by simpa using hc
  rw [ah hc] at h;rw [de] at dP;rw [oJ hc] at h dP;have hl:=C.level 0 (d+1) p t q x hp X X h;refine aj func291 ntmps291 ?_;refine V [0] dP ?_;refine V [0] hl ?_;exact ao
 ·have de:((b9 p d).code==0)=false:=by simpa using hc
  rw [ad hc] at h;rw [de] at dP;cases h;refine aj func291 ntmps291 ?_;exact zc2
theorem Rk {f:Nat} (C:∀ f',f'<=f->G8 f') (k d:Nat) (p:RS) (t:T) (q:RS) (x:PX) (hp:p.ok) (hk:k<=9) (hd:d+(f+1)<=1099511627776) (h:iE (f+1) (.level k d) p=some (t,q)) :
  GF prog 303 [.loc 0 0,.v (ii (k:Nat)),.v (ii (d:Nat))] [b7 p x] (qT t) [b7 q x]:=by
 rw [iE] at h
 by_cases y5:k=9
 ·subst y5;rw [ah rfl] at h;have ho:=(C f (aD _)).operand d p t q x hp X h;refine aj func303 ntmps303 ?_;refine V [] tu ?_;refine V [0] ho ?_;exact ao
 ·rw [ad y5] at h
  have Xs:((k:Int)==9)=false:=by simp;omega
  cases he:iE f (.level (k+1) d) p with
  | none=>exact zaQ
  | some r =>
   obtain ⟨out,p1⟩:=r;rw [he] at h;simp only at h;have jY:=((iC f).1 _ _ _ _ hp he).ok hp;have hl:=(C f (aD _)).level (k+1) d p out p1 x hp X X he;refine aj func303 ntmps303 ?_;refine V [] tu ?_;refine V [0] hl ?_;refine GW.loop (fun z:Nat × T × RS=>z.1) (fun z fr Γ=>fr=[.loc 0 0,.v (ii (k:Nat)),.v (ii (d:Nat)),U,U,U,U,qT z.2.1,U,U,U,U,U,U,U,U,U,U,U,U,U,U,U,U,U,U,U,U,U,U,U,U,U,U,U,U,U,U,U,U,U,U,U,U,U,U,U,U,U,U,U,U,U,U,U,U,U,U,U,U,U,U,U,U]/\Γ=[b7 z.2.2 x]/\z.2.2.ok/\z.1<=f/\iE z.1 (.loop k d z.2.1) z.2.2=some (t,q)) (f,out,p1) ?_ ?_
   ·exact ⟨_,_,Wk.aX aw,rfl,rfl,jY,aD _,h⟩
   ·clear h he hl;rintro ⟨g,out,p⟩ _ _ ⟨rfl,rfl,hp,Ls,h⟩;simp only at hp Ls h
    cases g with
    | zero=>simp [iE] at h
    | succ g =>
    rw [iE] at h
    have hk:k < 9:=by omega
    have ht:=ri p 0 x hp aE
    by_cases hc:p.code=0
    ·have de:(p.code==0)=true:=by simpa using hc
     by_cases h3:(tok p 0).kind=3
     ·have kz:((tok p 0).kind==3)=true:=by simpa using h3
      have EO:=H4 hk;have PN:=vN (levels.getD k []) (tok p 0).s (B6 k hk)
      by_cases hit:(levels.getD k []).contains (tok p 0).s=true
      ·rw [ah ⟨hc,h3,hit⟩] at h;rw [hit] at PN;have ar:p.i < p.l.length:=qk (k:=0) X;have dv:=hp.2
       cases hb:iE g (.level (k+1) d) p.next with
       | none=>exact zaS
       | some r =>
        obtain ⟨b,p2⟩:=r;rw [hb] at h;simp only at h;have dr:=(cl ar).ok hp;have dR:=((iC g).1 _ _ _ _ dr hb).ok dr
        have kP:=(C g X).level (k+1) d p.next b p2 x dr X X hb
        generalize tok p 0=tk at *;have hY:=eB 6 tk.at_ tk.s [out,b] [[qT out],[qT b]] (gI _);refine zd1 ?_;refine ab ?_;refine zdj ?_;refine aS (aC 0 9 (.a 9 (.a 10 (.a 11 (.q 12 .nil))))) ?_;refine aq ?_;refine ax [0] kP ?_;refine zaN ?_;refine ax [] hY ?_;refine ab ?_;exact ⟨(g,one 6 tk.at_ tk.s [out,b],p2),⟨_,_,(Wk.cut (n:=1) (fU rfl) rfl).trans (Wk.aX aw),rfl,rfl,dR,by omega,h⟩,by simp⟩
      ·have hit:(levels.getD k []).contains (tok p 0).s=false:=by simpa using hit
       rw [ad (by rw [hit];simp)] at h
       obtain ⟨rfl,rfl⟩:out=t/\p=q:=by simpa using h
       rw [hit] at PN;generalize tok p 0=tk at *;refine zd1 ?_;exact zcv
     ·have kz:((tok p 0).kind==3)=false:=by simpa using h3
      rw [ad (fun hh=>h3 hh.2.1)] at h
      obtain ⟨rfl,rfl⟩:out=t/\p=q:=by simpa using h
      generalize tok p 0=tk at *;refine zax ?_;refine aq ?_;refine du [0] ht ?_;exact zcv
    ·have de:(p.code==0)=false:=by simpa using hc
     rw [ad (fun hh=>hc hh.1)] at h
     obtain ⟨rfl,rfl⟩:out=t/\p=q:=by simpa using h
     refine zax ?_;refine bF ?_;refine iw ?_;exact av
theorem Q0 {f:Nat} (C:∀ f',f'<=f->G8 f') (d:Nat) (p:RS) (l:List T) (q:RS) (x:PX) (hp:p.ok) (hd:d+(f+1)<=1099511627776) (h:iA (f+1) d [] p=some (l,q)) :
  GF prog 312 [.loc 0 0,.v (ii (d:Nat))] [b7 p x] (.sl 1 (kE l)) [b7 q x]:=by
 refine aj func312 ntmps312 ?_;refine GW.wk (Wk.Ch (t:=5) (a:=none) (c:=0) 79 1 rfl) ?_;refine GW.loop (fun z:Nat × List T × RS=>z.1) (fun z fr Γ=>∃ n rows,fr=[.loc 0 0,.v (ii (d:Nat)),U,U,U,.vec 1 n,U,U,U,U,U,U,U,U,U,U,U,U,U,U,U,U,U,U,U,U,U,U,U,U,U,U]/\Γ=[b7 z.2.2 x,.vec 79 1 0 rows]/\rows.length=n/\rows=kE z.2.1/\n+z.1<=f+1/\z.2.2.ok/\iA z.1 d z.2.1 z.2.2=some (l,q)) (f+1,[],p) ?_ ?_
 ·exact ⟨_,_,Wk.aX aw,0,[],rfl,rfl,rfl,rfl,by simp,hp,h⟩
 ·clear h hp;rintro ⟨g,acc,p⟩ _ _ ⟨n,rows,rfl,rfl,hn,bn,y8,hp,h⟩;simp only at bn y8 hp h
  cases g with
  | zero=>simp [iA] at h
  | succ g =>
  rw [iA] at h;have hi:=kg p 0 [41] x hp aE
  have jH:acc.length=n:=by rw [<-hn,bn,mW]
  by_cases hc:p.code=0
  ·have de:(p.code==0)=true:=by simpa using hc
   cases hs:is p 0 [41] with
   | true =>
    rw [hs] at hi;rw [ad (fun hh=>by have:=hh.2;rw [hs] at this;cases this)] at h
    obtain ⟨rfl,rfl⟩:acc=l/\want p [41]=q:=by simpa using h
    have hw:=eO p [41] x hp;subst bn;refine zbr ?_;refine zep ?_;exact zdH
   | false =>
    rw [hs] at hi;rw [ah ⟨hc,hs⟩] at h
    by_cases h0:acc.length=0
    ·rw [ah h0] at h
     have rA:decide ((0:Int) < (n:Int))=false:=by simpa using by omega
     cases hb:iE g (.expr d) p with
     | none=>exact zaS
     | some r =>
      obtain ⟨a,p2⟩:=r;rw [hb] at h;simp only at h;have dR:=((iC g).1 _ _ _ _ hp hb).ok hp;have he:=(C g X).expr d p a p2 x hp X hb;refine zbr ?_;exact zbj
    ·rw [ad h0] at h
     have rA:decide ((0:Int) < (n:Int))=true:=by simpa using by omega
     have mo:=(bS hp [44]).ok hp;have hw:=eO p [44] x hp
     cases hb:iE g (.expr d) (want p [44]) with
     | none=>exact zaS
     | some r =>
      obtain ⟨a,p2⟩:=r;rw [hb] at h;simp only at h;have dR:=((iC g).1 _ _ _ _ mo hb).ok mo;have he:=(C g X).expr d _ a p2 x mo X hb;refine zbr ?_;refine zaA ?_;exact zbj
  ·have de:(p.code==0)=false:=by simpa using hc
   rw [ad (fun hh=>hc hh.1)] at h
   obtain ⟨rfl,rfl⟩:acc=l/\want p [41]=q:=by simpa using h
   have hw:=eO p [41] x hp;subst bn;refine zbk ?_;exact zdH
theorem Mk {f:Nat} (C:G8 f) (d:Nat) (p:RS) (t:T) (q:RS) (x:PX) (hp:p.ok) (hd:d+(f+1)<=1099511627776) (h:iE (f+1) (.operand d) p=some (t,q)) :
  GF prog 309 [.loc 0 0,.v (ii (d:Nat))] [b7 p x] (qT t) [b7 q x]:=by
 rw [iE] at h;have dP:=vY p d x hp;have ht:=ri p 0 x hp aE
 by_cases hc:(b9 p d).code=0
 case neg =>
  have de:((b9 p d).code==0)=false:=by simpa using hc
  rw [ad hc] at h;rw [de] at dP;cases h;refine aj func309 ntmps309 ?_;refine zdj ?_;exact zc2
 case pos =>
 have de:((b9 p d).code==0)=true:=by simpa using hc
 rw [ah hc] at h;rw [de,oJ hc] at dP;clear hc de;have D:=kg p 0 [45] x hp aE;have I:=kg p 0 [33] x hp aE;have h3:=kg p 0 [126] x hp aE;have dv:=hp.2;have Dd:=hp.1
 cases lC:is p 0 [45] with
 | true =>
  rw [lC] at D;rw [ah (.inl lC)] at h;have ar:p.i < p.l.length:=is_lt (k:=0) lC;have dr:=(cl ar).ok hp
  cases hb:iE f (.operand (d+1)) p.next with
  | none=>exact zaS
  | some r =>
   obtain ⟨b,p2⟩:=r;rw [hb] at h;cases h
   have xu:=C.operand (d+1) p.next b _ x dr X hb
   generalize tok p 0=tk at *;have hY:=eB 5 tk.at_ tk.s [b] [[qT b]] (gI _);refine aj func309 ntmps309 ?_;refine zdj ?_;refine V [0] dP ?_;refine V [0] D ?_;exact zaC
 | false =>
 rw [lC] at D
 cases jQ:is p 0 [33] with
 | true =>
  rw [jQ] at I;rw [ah (.inr (.inl jQ))] at h;have ar:p.i < p.l.length:=is_lt (k:=0) jQ;have dr:=(cl ar).ok hp
  cases hb:iE f (.operand (d+1)) p.next with
  | none=>exact zaS
  | some r =>
   obtain ⟨b,p2⟩:=r;rw [hb] at h;cases h
   have xu:=C.operand (d+1) p.next b _ x dr X hb
   generalize tok p 0=tk at *;have hY:=eB 5 tk.at_ tk.s [b] [[qT b]] (gI _);refine aj func309 ntmps309 ?_;refine zac ?_;exact zaC
 | false =>
 rw [jQ] at I
 cases vc:is p 0 [126] with
 | true =>
  rw [vc] at h3;rw [ah (.inr (.inr vc))] at h;have ar:p.i < p.l.length:=is_lt (k:=0) vc;have dr:=(cl ar).ok hp
  cases hb:iE f (.operand (d+1)) p.next with
  | none=>exact zaS
  | some r =>
   obtain ⟨b,p2⟩:=r;rw [hb] at h;cases h
   have xu:=C.operand (d+1) p.next b _ x dr X hb
   generalize tok p 0=tk at *;have hY:=eB 5 tk.at_ tk.s [b] [[qT b]] (gI _);refine aj func309 ntmps309 ?_;refine zac ?_;refine V [0] h3 ?_;exact zaC
 | false =>
 rw [vc] at h3;rw [ad (by rw [lC,jQ,vc];decide)] at h
 by_cases hk:(tok p 0).kind=1
 case pos =>
  rw [ah hk] at h;have ar:p.i < p.l.length:=qk (k:=0) X
  have eZ:((tok p 0).kind==1)=true:=by simpa using hk
  cases h;generalize tok p 0=tk at *;have hY:=Mf 1 tk.at_ [] [];refine aj func309 ntmps309 ?_;refine zac ?_;refine V [0] h3 ?_;refine V [] hY ?_;refine GW.wk (Wk.freeze (i:=2) rfl rfl rfl (fU rfl)) ?_;exact ao
 case neg =>
 rw [ad hk] at h
 have eZ:((tok p 0).kind==1)=false:=by simpa using hk
 have h4:=kg p 0 [40] x hp aE
 cases hs4:is p 0 [40] with
 | true =>
  rw [hs4] at h4;rw [ah hs4] at h;have ar:p.i < p.l.length:=is_lt (k:=0) hs4;have dr:=(cl ar).ok hp
  cases hb:iE f (.expr (d+1)) p.next with
  | none=>exact zaS
  | some r =>
   obtain ⟨b,p2⟩:=r;rw [hb] at h;cases h;have dR:=((iC f).1 _ _ _ _ dr hb).ok dr
   have xu:=C.expr (d+1) p.next _ p2 x dr X hb
   have hw:=eO p2 [41] x dR;generalize tok p 0=tk at *;refine aj func309 ntmps309 ?_;refine zaU ?_;refine V [0] xu ?_;refine zaA ?_;exact ao
 | false =>
 rw [hs4] at h4;rw [ad (by rw [hs4];decide)] at h;have hn:=qO p x hp;have dr:=(eX hp).ok hp
 by_cases ou:(bx p).code=0
 case neg =>
  rw [ad ou] at h
  have Xk:((bx p).code != 0)=true:=by simpa using ou
  cases h;generalize tok p 0=tk at *;generalize bx p=p1 at *;have hY:=eB 2 tk.at_ tk.s [] [] rfl;refine aj func309 ntmps309 ?_;refine zaU ?_;refine V [0] hn ?_;refine V [] hY ?_;exact ao
 case pos =>
 rw [ah ou] at h
 have Xk:((bx p).code != 0)=false:=by simpa using ou
 generalize bx p=p1 at *;generalize tok p 0=tk at *;have h5:=kg p1 0 [91] x dr aE;have aat:=dr.2;have aas:=dr.1
 cases hs5:is p1 0 [91] with
 | true =>
  rw [hs5] at h5;rw [ah hs5] at h;have ar:p1.i < p1.l.length:=is_lt (k:=0) hs5;have EU:=(cl ar).ok dr
  cases hb:iE f (.expr (d+1)) p1.next with
  | none=>exact zaS
  | some r =>
   obtain ⟨b,p2⟩:=r;rw [hb] at h;cases h;have dR:=((iC f).1 _ _ _ _ EU hb).ok EU
   have xu:=C.expr (d+1) p1.next b p2 x EU X hb
   have hw:=eO p2 [93] x dR;have hY:=eB 3 tk.at_ tk.s [b] [[qT b]] (gI _);refine aj func309 ntmps309 ?_;refine zaU ?_;refine V [0] hn ?_;refine V [0] h5 ?_;refine V [0] xu ?_;exact zcm
 | false =>
 rw [hs5] at h5;rw [ad (by rw [hs5];decide)] at h;have h6:=kg p1 0 [40] x dr aE
 cases HQ:is p1 0 [40] with
 | true =>
  rw [HQ] at h6;rw [ah HQ] at h;have ar:p1.i < p1.l.length:=is_lt (k:=0) HQ;have EU:=(cl ar).ok dr
  cases hb:iA f (d+1) [] p1.next with
  | none=>exact zaS
  | some r =>
   obtain ⟨b,p2⟩:=r;rw [hb] at h;cases h
   have xu:=C.exprs (d+1) p1.next b _ x EU X hb
   have hY:=eB 4 tk.at_ tk.s b (kE b) rfl;refine aj func309 ntmps309 ?_;refine zaU ?_;refine V [0] hn ?_;refine V [0] h5 ?_;refine V [0] h6 ?_;refine aS (aC 0 6 (.a 6 (.a 7 (.q 8 .nil)))) ?_;refine aq ?_;refine ax [0] xu ?_;refine ax [] hY ?_;exact av
 | false =>
  rw [HQ] at h6;rw [ad (by rw [HQ];decide)] at h;cases h;have hY:=eB 2 tk.at_ tk.s [] [] rfl;refine aj func309 ntmps309 ?_;refine zaU ?_;refine V [0] hn ?_;refine V [0] h5 ?_;refine V [0] h6 ?_;refine V [] hY ?_;exact ao
theorem Ww (f:Nat):G8 f:=by
 induction f using Nat.strongRecOn with
 | _ f ih =>
  cases f with
  | zero=>exact ⟨fun d p t q x _ _ h=>by simp [iE] at h,fun k d p t q x _ _ _ h=>by simp [iE] at h,fun d p t q x _ _ h=>by simp [iE] at h,fun d p l q x _ _ h=>by simp [iA] at h⟩
  | succ f =>
   have C:=ih f (Nat.lt_succ_self f)
   have Cs:∀ f',f'<=f->G8 f':=fun f' h=>ih f' (Nat.lt_succ_of_le h)
   exact ⟨fun d p t q x hp hd h=>Sn C d p t q x hp hd h,fun k d p t q x hp hk hd h=>Rk Cs k d p t q x hp hk hd h,fun d p t q x hp hd h=>Mk C d p t q x hp hd h,fun d p l q x hp hd h=>Q0 Cs d p l q x hp hd h⟩
end Go.Xg
namespace Go.Im
open Go.Xp Go.Sp
def Up (f d:Nat) (p:RS):Option (T × RS) :=
 if (tok p 0).kind=2/\is p 1 [61]=true then match iE f (.expr (d+1)) (want (bx p) [61]) with
  | none=>none
  | some (e,q)=>some (one 7 (tok p 0).at_ (tok p 0).s [e],want q [59])
 else match iE f (.expr (d+1)) p with
  | none=>none
  | some (e,q) =>
   if wH p q e then match e.kids,iE f (.expr (d+1)) (want q [61]) with
    | a::_,some (v,q)=>some (one 8 (tok p 0).at_ e.n.s [a,v],want q [59])
    | _,_=>none
   else some (one 12 (tok p 0).at_ [] [e],want q [59])
end Go.Im
namespace Go.Xg
open Go.RowKit Go.Xw Go.Proofs Tryz Go.Sp Go.Im
open GV (U)
open Go.Xp (T one)
attribute [local irreducible] GW GL GO YG GC GA bu bs
theorem Pc {f:Nat} (d:Nat) (p:RS) (t:T) (q:RS) (x:PX) (hp:p.ok) (hd:d+1+f<=1099511627776) (h:Up f d p=some (t,q)) :
  GF prog 292 [.loc 0 0,.v (ii (d:Nat))] [b7 p x] (qT t) [b7 q x]:=by
 unfold Up at h;have C:=Ww f;have ht:=ri p 0 x hp aE;have hi:=kg p 1 [61] x hp aE
 have main:∀ kk,((tok p 0).kind==2)=kk->(kk=true->is p 1 [61]=false)->GF prog 292 [.loc 0 0,.v (ii (d:Nat))] [b7 p x] (qT t) [b7 q x]:=by
  intro kk hk yZ
  rw [ad (fun hh=>by
   have D:kk=true:=by rw [<-hk];simpa using hh.1
   have I:=yZ D
   rw [hh.2] at I;cases I)] at h
  cases he:iE f (.expr (d+1)) p with
  | none=>exact zaQ
  | some r =>
   obtain ⟨e,q1⟩:=r;rw [he] at h;simp only at h;have p9:=((iC f).1 _ _ _ _ hp he).ok hp;have aay:=p9.1;have aaz:=p9.2;have hex:=C.expr (d+1) p e q1 x hp X he;have PU:=kg q1 0 [61] x p9 aE
   have EG:e.n.kind=3->q1.code=0->∃ zp,q1.l[q1.i - 1]?=some zp/\uf q1=zp.s/\1<=q1.i:=by
    intro _ hc;have D:=TI f _ _ _ _ hp he hc (fun k d out h=>by cases h);have I:=p9.1
    have ar:q1.i - 1 < q1.l.length:=by omega
    exact ⟨q1.l[q1.i - 1],by simp [ar],by unfold uf;simp [ar],by omega⟩
   by_cases iK:wH p q1 e
   ·rw [ah iK] at h;have kR:=iK;obtain ⟨s1,s2,s3,s4,s5,s6⟩:=kR;obtain ⟨zp,a1,a2,a3⟩:=EG s1 s2
    have PY:kk=true:=by rw [<-hk];simpa using s5
    subst PY;have yY:=yZ rfl;rw [yY] at hi;rw [s6] at PU
    match Lw:e.kids,hv:iE f (.expr (d+1)) (want q1 [61]),h with
    | a::rk,some (v,q2),h =>
     cases h;have mo:=(bS p9 [61]).ok p9;have HO:=((iC f).1 _ _ _ _ mo hv).ok mo;have hw:=eO q1 [61] x p9;have B0:=C.expr (d+1) _ v q2 x mo X hv;have oO:=eO q2 [59] x HO;have hr:=jS a1;have dT:(kE e.kids)[0]?=some [qT a]:=Bb (by rw [Lw];rfl);have hr3:(kE (a::rk))[0]?=some [qT a]:=Bb rfl
     have b1:(e.n.kind==3)=true:=by simpa using s1
     have b2:(q1.code==0)=true:=by simpa using s2
     have b3:(zp.s==[93])=true:=by rw [<-a2];simpa using s3
     have b4:(e.n.at_==(tok p 0).at_)=true:=by simpa using s4
     have hY:=eB 8 (tok p 0).at_ e.n.s [a,v] [[qT a],[qT v]] (gI _);generalize tok p 0=tk at *;refine aj func292 ntmps292 ?_;refine zdj ?_;refine V [0] hi ?_;refine V [0] hex ?_;refine aS (aC 0 45 (.a 45 (.q 46 .nil))) ?_;refine aq ?_;refine du [0] PU ?_;refine ab ?_;refine zaA ?_;refine V [0] B0 ?_;refine zaj ?_;refine V [0] oO ?_;refine aS (aC 0 14 (.a 14 (.a 15 (.q 16 .nil)))) ?_;refine aq ?_;refine zaN ?_;refine ax [] hY ?_;exact av
    | [],_,h=>simp at h
    | _::_,none,h=>simp at h
   ·rw [ad iK] at h;cases h;have hw:=eO q1 [59] x p9;have hY:=eB 12 (tok p 0).at_ [] [e] [[qT e]] (gI _)
    cases kk with
    | true =>
     have yY:=yZ rfl;rw [yY] at hi;refine aj func292 ntmps292 ?_;refine zdj ?_;refine V [0] hi ?_;refine V [0] hex ?_;refine GW.join (fun fr Γ=>fr=[.loc 0 0,.v (ii (d:Nat)),U,U,U,.loc 1 0,U,U,qT e,U,U,U,U,U,U,U,U,U,U,U,U,U,U,U,U,U,U,U,U,U,U,U,U,U,U,U,U,U,U,U,U,U,U,U,U,U,U,U,U,U,U,U,U,U,U,U,U,U,U,U,U,U,U,U,U,U,U,U,U,U,U,U,U,U,U,U,U,U,U,U,U,U,U,U,U,U,U,.v (.bool false),U,U,U,U,U,U,U,U,U,U,U,U,U,U,U,U,U,U,U,U,U,U,U,U,U,U,U,U,U,U,U,U,U,U]/\Γ=[b7 q1 x,.box 168 (cH (tok p 0))]) ?_ ?_
     ·by_cases s1:e.n.kind=3
      ·have b1:(e.n.kind==3)=true:=by simpa using s1
       by_cases s2:q1.code=0
       ·have b2:(q1.code==0)=true:=by simpa using s2
        obtain ⟨zp,a1,a2,a3⟩:=EG s1 s2;have hr:=jS a1
        by_cases s3:uf q1=[93]
        ·have b3:(zp.s==[93])=true:=by rw [<-a2];simpa using s3
         by_cases s4:e.n.at_=(tok p 0).at_
         ·have b4:(e.n.at_==(tok p 0).at_)=true:=by simpa using s4
          have s6:is q1 0 [61]=false:=by
           cases h6:is q1 0 [61] with
           | false=>rfl
           | true=>exact absurd ⟨s1,s2,s3,s4,by simpa using hk,h6⟩ iK
          rw [s6] at PU;generalize tok p 0=tk at *;refine aS (aC 0 45 (.a 45 (.q 46 .nil))) ?_;refine aq ?_;refine du [0] PU ?_;exact jN
         ·have b4:(e.n.at_==(tok p 0).at_)=false:=by simpa using s4
          exact zad
        ·have b3:(zp.s==[93])=false:=by rw [<-a2];simpa using s3
         exact zad
       ·have b2:(q1.code==0)=false:=by simpa using s2
        exact zad
      ·have b1:(e.n.kind==3)=false:=by simpa using s1
       exact zad
     ·rintro _ _ ⟨rfl,rfl⟩;generalize tok p 0=tk at *;refine ab ?_;exact zcm
    | false =>
     refine aj func292 ntmps292 ?_;refine zdj ?_;refine V [0] hex ?_;refine GW.join (fun fr Γ=>fr=[.loc 0 0,.v (ii (d:Nat)),U,U,U,.loc 1 0,U,U,qT e,U,U,U,U,U,U,U,U,U,U,U,U,U,U,U,U,U,U,U,U,U,U,U,U,U,U,U,U,U,U,U,U,U,U,U,U,U,U,U,U,U,U,U,U,U,U,U,U,U,U,U,U,U,U,U,U,U,U,U,U,U,U,U,U,U,U,U,U,U,U,U,U,U,U,U,U,U,U,.v (.bool false),U,U,U,U,U,U,U,U,U,U,U,U,U,U,U,U,U,U,U,U,U,U,U,U,U,U,U,U,U,U,U,U,U,U]/\Γ=[b7 q1 x,.box 168 (cH (tok p 0))]) ?_ ?_
     ·by_cases s1:e.n.kind=3
      ·have b1:(e.n.kind==3)=true:=by simpa using s1
       by_cases s2:q1.code=0
       ·have b2:(q1.code==0)=true:=by simpa using s2
        obtain ⟨zp,a1,a2,a3⟩:=EG s1 s2;have hr:=jS a1
        by_cases s3:uf q1=[93]
        ·have b3:(zp.s==[93])=true:=by rw [<-a2];simpa using s3
         by_cases s4:e.n.at_=(tok p 0).at_
         ·have b4:(e.n.at_==(tok p 0).at_)=true:=by simpa using s4
          exact zad
         ·have b4:(e.n.at_==(tok p 0).at_)=false:=by simpa using s4
          exact zad
        ·have b3:(zp.s==[93])=false:=by rw [<-a2];simpa using s3
         exact zad
       ·have b2:(q1.code==0)=false:=by simpa using s2
        exact zad
      ·have b1:(e.n.kind==3)=false:=by simpa using s1
       exact zad
     ·rintro _ _ ⟨rfl,rfl⟩;generalize tok p 0=tk at *;refine ab ?_;exact zcm
 by_cases hk:(tok p 0).kind=2
 ·cases yY:is p 1 [61] with
  | true =>
   clear main;rw [ah ⟨hk,yY⟩] at h;rw [yY] at hi
   have eZ:((tok p 0).kind==2)=true:=by simpa using hk
   have hn:=qO p x hp;have dr:=(eX hp).ok hp;have hw:=eO (bx p) [61] x dr;have mo:=(bS dr [61]).ok dr
   cases he:iE f (.expr (d+1)) (want (bx p) [61]) with
   | none=>exact zaQ
   | some r =>
    obtain ⟨e,q1⟩:=r;rw [he] at h;cases h;have p9:=((iC f).1 _ _ _ _ mo he).ok mo;have hex:=C.expr (d+1) _ e q1 x mo X he;have oO:=eO q1 [59] x p9;have hY:=eB 7 (tok p 0).at_ (tok p 0).s [e] [[qT e]] (gI _);generalize tok p 0=tk at *;refine aj func292 ntmps292 ?_;refine zdj ?_;refine V [0] hi ?_;refine V [0] hn ?_;refine zaA ?_;exact zbb
  | false=>exact main true zfv (fun _=>yY)
 ·exact main false zfv (fun h=>by cases h)
open Go.Xp (lF eW gF fC fL)
theorem Me (k a:Int) (s:ae):GF prog 257 [.v (ii k),.v (ii a),.v (sv s),.v (.slice none 0 0)] [] (.loc 0 0) [.box 125 [.v (ii k),.v (ii a),.v (ii 0),.v (sv s),.v (.slice none 0 0),.v (.slice none 0 0)]]:=by
 refine aj func257 ntmps257 ?_;refine GW.wk (Wk.cells 0 rfl (ds:=[.v (ii k),.v (ii a),.v (ii 0),.v (sv s),.v (.slice none 0 0),.v (.slice none 0 0)]) fT) ?_;refine GW.ret ?_;refine BW (n:=1) rfl ik rfl (aY _) rfl rfl ?_;exact zag
structure Pv (f:Nat):Prop where
 block:∀ d p t q x,p.ok->d+3+f<=1099511627776->iS f (.block d) p=some (t,q)->GF prog 204 [.loc 0 0,.v (ii (d:Nat))] [b7 p x] (qT t) [b7 q x]
 stmt:∀ d p t q x,p.ok->d+3+f<=1099511627776->iS f (.stmt d) p=some (t,q)->GF prog 259 [.loc 0 0,.v (ii (d:Nat))] [b7 p x] (qT t) [b7 q x]
theorem QR {f:Nat} (C:∀ f',f'<=f->Pv f') (d:Nat) (p:RS) (t:T) (q:RS) (x:PX) (hp:p.ok) (hd:d+3+(f+1)<=1099511627776) (h:iS (f+1) (.block d) p=some (t,q)) :
  GF prog 204 [.loc 0 0,.v (ii (d:Nat))] [b7 p x] (qT t) [b7 q x]:=by
 rw [iS] at h;have dP:=vY p d x hp;have ht:=ri p 0 x hp aE;have sZ:=Me 14 (tok p 0).at_ []
 by_cases hc:(b9 p d).code=0
 case neg =>
  have de:((b9 p d).code==0)=false:=by simpa using hc
  rw [ad hc] at h;rw [de] at dP;cases h;generalize tok p 0=tk at *;refine aj func204 ntmps204 ?_;refine zdj ?_;refine V [] sZ ?_;refine V [0] dP ?_;refine GW.wk (Wk.cells 1 rfl (ds:=[.v (ii 14),.v (ii tk.at_),.v (ii 0),.v (sv []),.v (.slice none 0 0),.sl 1 []]) fT) ?_;refine GW.wk (Wk.freeze (i:=1) rfl rfl rfl (fU rfl)) ?_;exact ao
 case pos =>
 have de:((b9 p d).code==0)=true:=by simpa using hc
 rw [ah hc] at h;rw [de,oJ hc] at dP;clear hc de;have mo:=(bS hp [123]).ok hp;have hw:=eO p [123] x hp
 cases he:iB f (d+1) [] (want p [123]) with
 | none=>exact zaQ
 | some r =>
  obtain ⟨l,q1⟩:=r;rw [he] at h;cases h;generalize tok p 0=tk at *;refine aj func204 ntmps204 ?_;refine zdj ?_;refine V [] sZ ?_;refine V [0] dP ?_;refine zaA ?_;refine GW.wk (Wk.JJ (i:=1) (o:=5) 79 1 rfl rfl) ?_;refine GW.loop (fun z:Nat × List T × RS=>z.1) (fun z fr Γ=>∃ n rows,fr=[.loc 0 0,.v (ii (d:Nat)),U,U,U,.loc 1 0,U,U,U,U,U,U,U,U,U,U,U,U,U,U,U,U,U,U,U,U,U,U,U,U,U,U,U,U,U,U,U,U,U,U,U,U,U,U,U]/\Γ=[b7 z.2.2 x,.box 125 [.v (ii 14),.v (ii tk.at_),.v (ii 0),.v (sv []),.v (.slice none 0 0),.vec 2 n],.vec 79 1 0 rows]/\rows.length=n/\rows=kE z.2.1/\n+z.1<=f/\z.2.2.ok/\iB z.1 (d+1) z.2.1 z.2.2=some (l,q1)) (f,[],want p [123]) ?_ ?_
  ·exact ⟨_,_,Wk.aX aw,0,[],rfl,rfl,rfl,rfl,by simp,mo,he⟩
  ·clear he mo hw dP ht;rintro ⟨g,acc,p⟩ _ _ ⟨n,rows,rfl,rfl,hn,bn,y8,hp,h⟩;simp only at bn y8 hp h
   cases g with
   | zero=>simp [iB] at h
   | succ g =>
   rw [iB] at h;have hi:=kg p 0 [125] x hp aE
   by_cases hc:p.code=0
   ·have de:(p.code==0)=true:=by simpa using hc
    cases hs:is p 0 [125] with
    | true =>
     rw [hs] at hi;rw [ad (fun hh=>by have:=hh.2;rw [hs] at this;cases this)] at h
     obtain ⟨rfl,rfl⟩:acc=l/\p=q1:=by simpa using h
     have hw:=eO p [125] x hp;subst bn;refine zbr ?_;refine zep ?_;exact zb1
    | false =>
     rw [hs] at hi;rw [ah ⟨hc,hs⟩] at h
     cases hb:iS g (.stmt (d+1)) p with
     | none=>exact zaS
     | some r =>
      obtain ⟨a,p2⟩:=r;rw [hb] at h;simp only at h;have dR:=((AR g).1 _ _ _ _ hp hb).ok hp;have dI:=(C g X).stmt (d+1) p a p2 x hp X hb;refine zbr ?_;refine aS (aC 0 8 (.a 8 (.a 9 (.a 10 (.q 11 (.q 12 (.a 13 .nil))))))) ?_;refine aq ?_;refine ax [0] dI ?_;refine zaN ?_;refine CP ?_;refine bF ?_;exact ⟨(g,acc++[a],p2),⟨_,_,Wk.aX aw,_,_,rfl,rfl,by simp [hn],by rw [vo,bn];rfl,by show n+1+g<=f;omega,dR,h⟩,by simp⟩
   ·have de:(p.code==0)=false:=by simpa using hc
    rw [ad (fun hh=>hc hh.1)] at h
    obtain ⟨rfl,rfl⟩:acc=l/\p=q1:=by simpa using h
    have hw:=eO p [125] x hp;subst bn;refine zbk ?_;exact zb1
theorem Uw {f:Nat} (C:Pv f) (d:Nat) (p:RS) (t:T) (q:RS) (x:PX) (hp:p.ok) (hd:d+3+(f+1)<=1099511627776) (h:iS (f+1) (.stmt d) p=some (t,q)) :
  GF prog 259 [.loc 0 0,.v (ii (d:Nat))] [b7 p x] (qT t) [b7 q x]:=by
 rw [iS] at h;have E:=Ww f;have dP:=vY p d x hp;have ht:=ri p 0 x hp aE
 by_cases hc:(b9 p d).code=0
 case neg =>
  have de:((b9 p d).code==0)=false:=by simpa using hc
  rw [ad hc] at h;rw [de] at dP;cases h;refine aj func259 ntmps259 ?_;refine zdj ?_;exact zc2
 case pos =>
 have de:((b9 p d).code==0)=true:=by simpa using hc
 rw [ah hc] at h;rw [de,oJ hc] at dP;clear hc de;have dv:=hp.2;have Dd:=hp.1;have D:=kg p 0 lF x hp aE;have I:=kg p 0 eW x hp aE;have h3:=kg p 0 fC x hp aE;have h4:=kg p 0 fL x hp aE
 cases lC:is p 0 lF with
 | true =>
  rw [lC] at D;rw [ah lC] at h;have ar:p.i < p.l.length:=is_lt (k:=0) lC;have dr:=(cl ar).ok hp
  have hn:=qO p.next x dr
  have xw:=(eX dr).ok dr;have hw:=eO _ [61] x xw;have mo:=(bS xw [61]).ok xw
  cases he:iE f (.expr (d+1)) (want (bx p.next) [61]) with
  | none=>exact zaQ
  | some r =>
   obtain ⟨e,q1⟩:=r;rw [he] at h;cases h;have p9:=((iC f).1 _ _ _ _ mo he).ok mo;have hex:=E.expr (d+1) _ e q1 x mo X he;have oO:=eO q1 [59] x p9;have hY:=eB 13 (tok p 0).at_ (tok p.next 0).s [e] [[qT e]] (gI _);generalize tok p 0=tk at *
   generalize tok p.next 0=tn at *
   refine aj func259 ntmps259 ?_;refine zdj ?_;refine V [0] dP ?_;refine V [0] D ?_;refine V [0] hn ?_;refine zaA ?_;exact zbb
 | false =>
 rw [lC] at D;rw [ad (by rw [lC];decide)] at h
 have main:∀ bi bw:Bool,is p 0 eW=bi->is p 0 fC=bw->(bi=true\/bw=true)->GF prog 259 [.loc 0 0,.v (ii (d:Nat))] [b7 p x] (qT t) [b7 q x]:=by
  intro bi bw u4 Wb va
  have nj:is p 0 eW=true\/is p 0 fC=true:=by rw [u4,Wb];exact va
  have ar:p.i < p.l.length:=by rcases nj with hh | hh <;> exact is_lt (k:=0) hh
  rw [ah nj] at h;have dr:=(cl ar).ok hp
  have hw:=eO p.next [40] x dr
  have mo:=(bS dr [40]).ok dr
  cases he:iE f (.expr (d+1)) (want p.next [40]) with
  | none=>exact zaQ
  | some r =>
  obtain ⟨c,q1⟩:=r;rw [he] at h;simp only at h;have p9:=((iC f).1 _ _ _ _ mo he).ok mo;have hex:=E.expr (d+1) _ c q1 x mo X he;have oO:=eO q1 [41] x p9;have Tu:=(bS p9 [41]).ok p9
  cases hb:iS f (.block (d+1)) (want q1 [41]) with
  | none=>exact zaS
  | some r =>
  obtain ⟨b,q2⟩:=r;rw [hb] at h;simp only at h;have HO:=((AR f).1 _ _ _ _ Tu hb).ok Tu;have aaB:=HO.2;have aaA:=HO.1;have et:=C.block (d+1) _ b q2 x Tu X hb;have jc:=kg q2 0 gF x HO aE;rw [u4] at I;rw [Wb] at h3
  cases bi with
  | true =>
   have Jp:∀ (cc ee:Bool),(q2.code==0)=cc->is q2 0 gF=ee->(cc=false\/ee=false)->GF prog 259 [.loc 0 0,.v (ii (d:Nat))] [b7 p x] (qT t) [b7 q x]:=by
    intro cc ee sX wY Tr
    rw [ad (fun hh=>by
     rcases Tr with h0 | h0
     ·rw [h0] at sX;have:=hh.2.1;simp [this] at sX
     ·rw [h0] at wY;rw [wY] at hh;exact absurd hh.2.2 aE),ah u4] at h
    cases h;rw [wY] at jc;have hY:=eB 9 (tok p 0).at_ [] [c,b] [[qT c],[qT b]] (gI _);generalize tok p 0=tk at *
    cases cc with
    | true =>
     cases ee with
     | true=>simp at Tr
     | false =>
      refine aj func259 ntmps259 ?_;refine zac ?_;refine zbw ?_;refine V [0] jc ?_;exact zaO
    | false =>
     refine aj func259 ntmps259 ?_;refine zac ?_;refine zbw ?_;exact zaO
   by_cases lV:q2.code=0
   ·cases wY:is q2 0 gF with
    | true =>
     clear Jp;rw [ah ⟨u4,lV,wY⟩] at h;rw [wY] at jc
     have sX:(q2.code==0)=true:=by simpa using lV
     have lX:q2.i < q2.l.length:=is_lt (k:=0) wY;have Zk:=(cl lX).ok HO
     cases dS:iS f (.block (d+1)) q2.next with
     | none=>rw [dS] at h;cases h
     | some r =>
      obtain ⟨b2,q3⟩:=r;rw [dS] at h;cases h;have U0:=C.block (d+1) _ b2 _ x Zk X dS;have hY:=eB 9 (tok p 0).at_ [] [c,b,b2] [[qT c],[qT b],[qT b2]] (gI _);generalize tok p 0=tk at *;refine aj func259 ntmps259 ?_;refine zac ?_;refine zbw ?_;refine V [0] jc ?_;refine V [0] U0 ?_;refine zdI ?_;exact zaO
    | false=>exact Jp true false (by simpa using lV) wY (.inr rfl)
   ·exact Jp false _ (by simpa using lV) rfl (.inl rfl)
  | false =>
   have Xj:bw=true:=by simpa using va
   subst Xj;rw [ad (fun hh=>by have:=hh.1;rw [u4] at this;cases this),ad (by rw [u4];decide)] at h;cases h;have hY:=eB 10 (tok p 0).at_ [] [c,b] [[qT c],[qT b]] (gI _);generalize tok p 0=tk at *;refine aj func259 ntmps259 ?_;refine zac ?_;refine V [0] h3 ?_;refine zbw ?_;exact zaO
 cases jQ:is p 0 eW with
 | true=>exact main true _ jQ rfl (.inl rfl)
 | false =>
 cases vc:is p 0 fC with
 | true=>exact main false true jQ vc (.inr rfl)
 | false =>
 clear main;rw [jQ] at I;rw [vc] at h3;rw [ad (by rw [jQ,vc];decide)] at h
 cases hs4:is p 0 fL with
 | true =>
  rw [hs4] at h4;rw [ah hs4] at h;have ar:p.i < p.l.length:=is_lt (k:=0) hs4;have dr:=(cl ar).ok hp
  cases he:iE f (.expr (d+1)) p.next with
  | none=>exact zaQ
  | some r =>
   obtain ⟨e,q1⟩:=r;rw [he] at h;cases h;have p9:=((iC f).1 _ _ _ _ dr he).ok dr;have hex:=E.expr (d+1) _ e q1 x dr X he;have oO:=eO q1 [59] x p9;have hY:=eB 11 (tok p 0).at_ [] [e] [[qT e]] (gI _);generalize tok p 0=tk at *;refine aj func259 ntmps259 ?_;refine zaU ?_;exact zbb
 | false =>
  rw [hs4] at h4;rw [ad (by rw [hs4];decide)] at h;have TC:=Pc (f:=f) d p t q x hp X h;generalize tok p 0=tk at *;refine aj func259 ntmps259 ?_;refine zaU ?_;refine V [0] TC ?_;exact ao
theorem Wy (f:Nat):Pv f:=by
 induction f using Nat.strongRecOn with
 | _ f ih =>
  cases f with
  | zero=>exact ⟨fun d p t q x _ _ h=>by simp [iS] at h,fun d p t q x _ _ h=>by simp [iS] at h⟩
  | succ f =>
   have C:=ih f (Nat.lt_succ_self f)
   have Cs:∀ f',f'<=f->Pv f':=fun f' h=>ih f' (Nat.lt_succ_of_le h)
   exact ⟨fun d p t q x hp hd h=>QR Cs d p t q x hp hd h,fun d p t q x hp hd h=>Uw C d p t q x hp hd h⟩
end Go.Xg
namespace Go.Xg
open Go.RowKit Go.Xw Go.Proofs Tryz
open GV (U)
open Go.Xp (Nd T aQ aB fQ cD bj)
attribute [local irreducible] GW GL GO YG GC GA bu bs
def rY (n:Nd):List GV:=[.v (ii n.kind),.v (ii n.at_),.v (ii n.n),.v (sv n.s),ints n.kids]
def Cu (t:T) (x:Value):List GV:=[.v (ii t.n.kind),.v (ii t.n.at_),.v (ii t.n.n),.v (sv t.n.s),.v x]
theorem K4:∀ (N:Nat) (t:T),aQ t<=N->∀ (n:Nat) (rows:List (List GV)) (a:Option Addr) (c:Nat),rows.length=n->n+aQ t<=1099511627776 ->
  GC prog 146 [.v (.slice a n c),qT t] [.vech 78 5 rows (.slice a n c)] fun g aU=>∃ a c,g=.v (.slice a (n+aQ t) c)/\aU=[.vech 78 5 (rows++(fQ n t).map rY) (.slice a (n+aQ t) c)]:=by
 intro N
 induction N with
 | zero=>intro t h;exact zdz
 | succ N ih =>
 intro t hN n rows a c hn hb;subst hn;rw [Go.Xp.eg] at hb hN;have kA:=Go.Xp.jK t.kids;refine aj func146 ntmps146 ?_;refine GL.qe 0 rfl rfl rfl rfl rfl rfl rfl rfl ay tL ?_;intro a c;refine zcW ?_;refine GW.wk (Wk.oD 3 1) ?_
 refine GW.range (kE t.kids).length (fun k fr Γ=>∃ a c a2 c2,fr=[.v (.slice a (rows.length+1+aB (t.kids.take k)) c),qT t,U,U,U,.v (ii (rows.length:Nat)),U,U,U,U,U,U,U,U,U,U,U,U,U,U,.sl 1 (kE t.kids),.v (ii ((kE t.kids).length:Int)),.v (ii (k:Nat)),U,U,U,U,U,U,U,U,U,U,U,U,U,U,U,U,U,U,U,U,U] /\
  Γ=[.vech 78 5 (rows++Cu t (.slice a2 k c2)::(cD (rows.length+1) (t.kids.take k)).map rY) (.slice a (rows.length+1+aB (t.kids.take k)) c),.vech 3 1 ((bj (rows.length+1) (t.kids.take k)).map fun z=>[.v (ii z)]) (.slice a2 k c2)]) ?_ (by rw [mW];omega) ?_ ?_ ?_
 ·refine ⟨_,_,Wk.aX aw,a,c,none,0,rfl,?_⟩;rfl
 ·rintro k _ _ ⟨a,c,a2,c2,rfl,rfl⟩;exact gU
 ·rintro k _ _ ar ⟨a,c,a2,c2,rfl,rfl⟩;rw [mW] at ar;obtain ⟨kid,gy⟩:∃ kid,t.kids[k]?=some kid:=⟨t.kids[k],by simp [ar]⟩;have hr:=Bb gy;have fJ:=Go.Xp.uC gy;have hle:=Go.Xp.uB t.kids (k+1)
  have kB:t.kids.take (k+1)=t.kids.take k++[kid]:=by rw [eK,gy];rfl
  have hX:((cD (rows.length+1) (t.kids.take k)).map rY).length=aB (t.kids.take k):=by rw [cU,Go.Xp.mV]
  have Lw:((bj (rows.length+1) (t.kids.take k)).map fun z=>[GV.v (ii z)]).length=k:=by rw [cU,Go.Xp.my,lH];omega
  rw [kB,Go.Xp.wo,Go.Xp.yg,Go.Xp.oe];simp only [bj,cD,aB,fk,Nat.add_zero,lI,List.map_cons,List.map_nil,<-iD]
  have xo:=fun (rs:List (List GV)) a c h=>ih kid X (rows.length+1+aB (t.kids.take k)) rs a c h X
  generalize (cD (rows.length+1) (t.kids.take k)).map rY=aaJ at *;generalize ((bj (rows.length+1) (t.kids.take k)).map fun z=>[GV.v (ii z)])=ks at *;generalize aB (t.kids.take k)=s at *;subst Lw
  have kP:∀ r:List GV,(rows++r::aaJ).length=rows.length+1+s:=fun r=>by simp;omega
  have bn:(rows++Cu t (.slice a2 ks.length c2)::aaJ)[rows.length]?=some (Cu t (.slice a2 ks.length c2)):=by simp
  have gX:=kP (Cu t (.slice a2 ks.length c2));unfold Cu at bn gX |-;refine ab ?_;refine zes ?_;intro a3 c3;refine zcW ?_;refine Gh ?_;rw [FL];simp only [bN];refine ab ?_;refine dW [0] (xo _ _ _ (kP _)) ?_;rintro _ _ ⟨a4,c4,rfl,rfl⟩;refine zc5 ?_;refine ⟨rfl,rfl,_,_,Wk.aX aw,a4,c4,a3,c3,rfl,?_⟩;rw [fF];rfl
 ·rintro _ _ ⟨a,c,a2,c2,rfl,rfl⟩;rw [mW,iZ];rw [Go.Xp.eg,Go.Xp.KZ]
  have Lw:((bj (rows.length+1) t.kids).map fun z=>[GV.v (ii z)]).length=t.kids.length:=by rw [cU,Go.Xp.my]
  have yZ:ints (bj (rows.length+1) t.kids)=.sl 1 ((bj (rows.length+1) t.kids).map fun z=>[GV.v (ii z)]):=rfl;rw [List.map_cons];simp only [rY,Cu];rw [yZ,show rows.length+(aB t.kids+1)=rows.length+1+aB t.kids by omega];generalize (cD (rows.length+1) t.kids).map rY=aaJ at *;generalize ((bj (rows.length+1) t.kids).map fun z=>[GV.v (ii z)])=ks at *;generalize aB t.kids=s at *
  have bn:∀ r:List GV,(rows++r::aaJ)[rows.length]?=some r:=fun r=>by simp
  refine bo ?_;apply GW.wk
  ·apply Wk.JY (i:=0) (idx:=rows.length) (o:=4) (j:=1)
   ·rfl
   ·exact bn _
   ·rfl
   ·rfl
   ·rfl
  rw [FL];simp only [bN];refine zcr ?_;exact ⟨_,_,rfl,rfl⟩
open Go.Sp Go.Im
open Go.Xp (gQ Ar)
structure HW where
 aT:Option Addr
 cT:Nat
 aG:Option Addr
 cG:Nat
 aA:Option Addr
 cA:Nat
 aF:Option Addr
 cF:Nat
def qV (x:Ar):List GV:=[.v (sv x.name),.v (ii x.size)]
def qf (x:ae × List ae):List GV:=[.v (sv x.1),strs x.2,.v (ii 0)]
def lr (x:ae):List GV:=[.v (sv x)]
abbrev hx (st:PS) (h:HW):PX:=⟨.slice h.aT st.trees.length h.cT,.slice h.aG st.globals.length h.cG,.slice h.aA st.arrays.length h.cA,.slice h.aF st.fns.length h.cF,.slice none 0 0⟩
abbrev ux (p:RS) (st:PS) (h:HW):List Ob:=[b7 p (hx st h),.vech 79 1 (kE st.trees) (.slice h.aT st.trees.length h.cT),.vech 9 1 (st.globals.map lr) (.slice h.aG st.globals.length h.cG),.vech 98 2 (st.arrays.map qV) (.slice h.aA st.arrays.length h.cA),.vech 65 3 (st.fns.map qf) (.slice h.aF st.fns.length h.cF)]
theorem wA {α β:Type} (g:α->β) (l:List α) (x:α):(l++[x]).map g=l.map g++[g x]:=by simp
theorem M5 {f:Nat} (p:RS) (st:PS) (h:HW) (q:RS) (c9:PS) (n:Nat) (hp:p.ok) (hn:st.le n) (hb:n+1<=1099511627776) (hs:is p 0 gQ=true) (hw:iW f p st=some (q,c9)) :
  GC prog 145 [.loc 0 0] (ux p st h) (fun g aU=>g=.tup []/\∃ h',aU=ux q c9 h'):=by
 obtain ⟨Dd,dv⟩:=id hp;obtain ⟨ub,bL,Tm,Zb⟩:=hn;unfold iW at hw;rw [ah hs] at hw;have hi:=kg p 0 gQ (hx st h) hp aE;rw [hs] at hi;have jY:=(fp hs).ok hp
 have cL:=qO p.next (hx st h) jY
 have dR:=(eX jY).ok jY;generalize (tok p.next 0).s=s at *
 generalize bx p.next=p2 at *
 have nF:=kg p2 0 [91] (hx st h) dR aE
 have Z8:¬ (p2.code=0/\is p2 0 [91]=true)->True:=fun _=>trivial
 cases hc:(p2.code==0) with
 | false =>
  have de:¬ p2.code=0:=by simpa using hc
  rw [ad (fun hh=>de hh.1)] at hw;cases hw
  have pD:(st.globals.map lr).length+1=(st.globals++[s]).length:=by simp
  have kO:st.globals.map lr++[[GV.v (sv s)]]=(st.globals++[s]).map lr:=by simp [lr]
  have hlen:(st.globals.map lr).length+1<=1099511627776:=by simp;omega
  refine aj func145 ntmps145 ?_;refine zdJ ?_;exact zaF
 | true =>
  have de:p2.code=0:=by simpa using hc
  cases dS:is p2 0 [91] with
  | false =>
   rw [dS] at nF;rw [ad (fun hh=>by have:=hh.2;rw [dS] at this;cases this)] at hw;cases hw
   have pD:(st.globals.map lr).length+1=(st.globals++[s]).length:=by simp
   have kO:st.globals.map lr++[[GV.v (sv s)]]=(st.globals++[s]).map lr:=by simp [lr]
   have hlen:(st.globals.map lr).length+1<=1099511627776:=by simp;omega
   refine aj func145 ntmps145 ?_;refine zdJ ?_;refine V [0] nF ?_;exact zaF
  | true =>
   rw [dS] at nF;rw [ah ⟨de,dS⟩] at hw;have za:=(fp dS).ok dR;have aau:=dR.1;have Tt:=dR.2;have aav:=za.1;have aaw:=za.2
   have ht:=ri p2.next 0 (hx st h) za aE
   have E1:=yH p2.next (hx st h) za
   have EG:(tok p2.next 0).kind=1->p2.next.next.ok:=fun hk=>(cl (qk (p:=p2.next) (k:=0) (by rw [hk];decide))).ok za
   generalize tok p2.next 0=tk at *
   by_cases hk:tk.kind=1
   ·rw [ah hk] at hw;cases hw
    have eZ:(tk.kind != 1)=false:=by simpa using hk
    have P5:=EG hk;have aax:=P5.1
    have LJ:=eO p2.next.next [93] (hx st h) P5
    have Zi:=(bS P5 [93]).ok P5
    generalize want p2.next.next [93]=p5 at *
    have pD:(st.arrays.map qV).length+1=(st.arrays++[(⟨s,tk.n⟩:Ar)]).length:=by simp
    have kO:st.arrays.map qV++[[GV.v (sv s),.v (ii tk.n)]]=(st.arrays++[(⟨s,tk.n⟩:Ar)]).map qV:=by simp [qV]
    have hlen:(st.arrays.map qV).length+1<=1099511627776:=by simp;omega
    refine aj func145 ntmps145 ?_;refine zdJ ?_;refine V [0] nF ?_;refine zdj ?_;refine zaj ?_;refine V [0] LJ ?_;refine aS (aC 0 10 (.a 10 (.a 11 (aC 12 3 (.a 15 .nil))))) ?_;refine aq ?_;refine zaN ?_;refine OA rfl rfl (GL.sQ 3 rfl rfl rfl ay rfl rfl (by refine ⟨?_,?_⟩;(· show _+1<=_;omega);(· show (_+1) * _<=_;omega)) ?_);intro a c;refine nV ?_;generalize hX:chunk 1 2 _=aaJ
    obtain rfl:aaJ=[qV ⟨s,tk.n⟩]:=by rw [<-hX];rfl
    clear hX
    try (generalize hX:chunk 1 2 _=aaJ;obtain rfl:aaJ=[qV ⟨s,tk.n⟩]:=by rw [<-hX];rfl)
    rw [show (st.arrays.map qV).length+[qV ⟨s,tk.n⟩].length=(st.arrays++[(⟨s,tk.n⟩:Ar)]).length by simp,<-wA qV st.arrays ⟨s,tk.n⟩];refine bF ?_;refine zaj ?_;refine V [0] (eO p5 [59] (hx { st with arrays:=st.arrays++[⟨s,tk.n⟩] } { h with aA:=a,cA:=c }) Zi) ?_;refine gM ?_;exact ⟨rfl,{ h with aA:=a,cA:=c },rfl⟩
   ·rw [ad hk] at hw;cases hw
    have eZ:(tk.kind != 1)=true:=by simpa using hk
    refine aj func145 ntmps145 ?_;refine zdJ ?_;refine V [0] nF ?_;refine zdj ?_;refine V [0] E1 ?_;exact zcP
end Go.Xg
