/- Part 21 of proofs that are told in their last texts. -/
import Derived.Test.YtfahcenafcklmaaGreatDoorZ18
import Derived.Test.YtfahcenafcklmaaGreatDoorZ16
import Derived.Test.YtfahcenafcklmaaGreatDoorZ14
import Derived.Test.YtfahcenafcklmaaGreatDoorZ6
import Derived.Test.YtfahcenafcklmaaGreatDoorZ19
import Derived.Test.YtfahcenafcklmaaGreatDoorZ13
import Derived.Test.YtfahcenafcklmaaGreatDoorZ11
import Derived.Test.YtfahcenafcklmaaGreatDoorZ12
import Derived.Lib.OwnBridge
import Derived.Lib.AppendIntMem
open List (length_cons length_nil)
set_option linter.unusedVariables false
set_option linter.unusedSimpArgs false
set_option maxRecDepth 100000
set_option maxHeartbeats 4000000
namespace Go.Xg
open Go.RowKit Go.Xw Go.Proofs Tryz Go.Sp Go.Im
def X6 (g:GV) (Δ:List Ob):Prop:=Δ=[]/\∃ p:Src,cv p<=1048576/\gY p/\g=.agg (aL p)
attribute [local irreducible] GW GL GO YG GC GA bu bs pS uE qo
theorem DY (code:ae) (hl:code.length<=1099511627776):GC prog 34 [.sl 1 (bI code)] [] X6:=by
 refine aj func34 ntmps34 ?_;refine dW [] (Fb code hl) ?_;rintro _ _ ⟨h,rfl,rfl⟩;refine zc5 ?_;refine dW [1] (Ff code hl ⟨0,h⟩ (aY _)) ?_;rintro _ _ ⟨c1,p,i1,hw,hn,rfl,rfl⟩;refine zc5 ?_;refine mh ?_;exact ⟨rfl,p,hw,hn,rfl⟩
end Go.Xg
set_option maxHeartbeats 1000000
namespace Go.Xg
open Go.RowKit Go.Xw Go.Proofs Tryz Go.Im
open GV (U)
open Go.Xp (T)
open Go.Sp (Src)
attribute [local irreducible] GW GL GO YG GC GA bu bs
theorem DL (d:Nat):Go.Lib.repeatL [32,32] d=cr d:=by
 induction d with
 | zero=>rfl
 | succ d ih =>
  rw [Go.Lib.repeatL,ih];unfold cr;rw [show 2 * (d+1)=2 * d+1+1 by omega,List.replicate_succ,List.replicate_succ];rfl
theorem D8 (d:Nat) (hd:d<=1099511627776):GF prog 149 [.v (sv [32,32]),.v (ii (d:Nat))] [] (.v (sv (cr d))) []:=by
 refine GF.H9 (vs:=[sv [32,32],ii (d:Nat)]) fun K β w ht hf=>?_
 refine nh.xI (Calls.mono (strings_Repeat ⟨#[32,32]⟩ d w X (by show 2 * d<=_;omega)) ?_);rintro e w' ⟨I,hb⟩;refine ⟨_,I,by rw [<-DL];rfl,?_⟩;exact ⟨hb.os,hb.tape,hb.output,hb.size,fun k hk _=>hb.block k hk⟩
theorem LV (l:List ae) (d:Nat) (hb:(qI l d).length<=1099511627776) (hl:l.length<=1099511627776):GF prog 89 [strs l,.v (ii (d:Nat))] [] (.v (sv (qI l d))) []:=by
 have qv:(l.map fun s=>[GV.v (sv s)]).length=l.length:=by simp
 have lW:=E8 l d;have EI:=zy d l [123,10];have gD:=fB d;have aad:=fB (d+1);have hR:=D8 d X;unfold qI
 by_cases sc:l=[]
 ·subst sc;rw [show qE d [123,10] []=[123,10] from rfl];generalize cr d=bk at *
  have ar:decide ((0:Int) < 0)=false:=by decide
  refine aj func89 ntmps89 ?_;refine GW.range (([]:List ae).map fun s=>[GV.v (sv s)]).length (fun k fr Γ=>fr=[strs [],.v (ii (d:Nat)),U,U,U,.v (sv [123,10]),U,U,strs [],.v (ii ((([]:List ae).map fun s=>[GV.v (sv s)]).length:Int)),.v (ii (k:Nat)),U,U,U,U,U,U,U,U,U,U,U,U,U,U,U,U,U]/\Γ=[]) ?_ zeL ?_ ?_ ?_
  ·exact oF
  ·rintro k _ _ ⟨rfl,rfl⟩;exact gU
  ·rintro k _ _ ar ⟨rfl,rfl⟩;simp at ar
  ·rintro _ _ ⟨rfl,rfl⟩;refine ab ?_;refine V [] hR ?_;exact ao
 have PO:d+1<=549755813888:=by
  obtain ⟨s,hs⟩:=List.exists_mem_of_ne_nil l sc;have:=z8 (d:=d) hs;omega
 have V5:=D8 (d+1) X;rw [Int.natCast_add,Int.natCast_one] at V5;have LF:=MK d l;refine aj func89 ntmps89 ?_;refine GW.range (l.map fun s=>[GV.v (sv s)]).length (fun k fr Γ=>fr=[strs l,.v (ii (d:Nat)),U,U,U,.v (sv (qE d [123,10] (l.take k))),U,U,strs l,.v (ii ((l.map fun s=>[GV.v (sv s)]).length:Int)),.v (ii (k:Nat)),U,U,U,U,U,U,U,U,U,U,U,U,U,U,U,U,U]/\Γ=[]) ?_ X ?_ ?_ ?_
 ·exact oF
 ·rintro k _ _ ⟨rfl,rfl⟩;exact gU
 ·rintro k _ _ ar ⟨rfl,rfl⟩;rw [qv] at ar
  have gE:l[k]?=some l[k]:=by simp [ar]
  have y7:(l.map fun s=>[GV.v (sv s)])[k]?=some [.v (sv l[k])]:=by rw [bP,gE];rfl
  have D:=zy d (l.take k) [123,10];have I:=LF k;have h3:=z8 (d:=d) (bM gE);rw [show l.take (k+1)=l.take k++[l[k]] by rw [eK,gE];rfl,KD] at |-;generalize l[k]=z at *;generalize qE d [123,10] (l.take k)=acc at *;generalize cr (d+1)=bk1 at *;simp only [length_cons,length_nil] at D
  have Xn:acc.length<=1099511627776/\z.length<=1099511627776:=by omega
  refine ab ?_;refine V [] V5 ?_;exact zbD
 ·rintro _ _ ⟨rfl,rfl⟩;rw [qv,iZ];generalize qE d [123,10] l=acc at *;generalize cr d=bk at *;simp only [length_cons,length_nil] at EI;refine ab ?_;refine V [] hR ?_;exact ao
theorem Ps:Wr 80 89 cM qI :=
 ⟨fun a D I h3=>CO _ a (aD _) D I h3,fun l d D I h3=>LV l d D I,fun l d s h=>Ox h⟩
theorem I2 (p:Src) (hF:GF prog 62 [.agg (aL p)] [] (.v (.bool false)) []):GF prog 35 [.agg (aL p)] [] (.v (sv [])) []:=by
 refine aj func35 ntmps35 ?_;exact zb5
theorem Gw (p:Src) (l:List T) (x:ae) (hF:GF prog 62 [.agg (aL p)] [] (.v (.bool true)) []) (hB:GF prog 87 [.agg (aL p)] [] (.tup [.sl 1 (cj l),.v (.bool true)]) [])
  (hL:GF prog 88 [.agg (aL p),.sl 1 (cj l),.v (gW 80),.v (gW 89)] [] (.v (sv x)) []) :
  GF prog 35 [.agg (aL p)] [] (.v (sv x)) []:=by
 refine aj func35 ntmps35 ?_;exact zec
theorem vO (p:Src) (hw:cv p<=1048576) (hn:gY p):GF prog 35 [.agg (aL p)] [] (.v (sv (oS p))) []:=by
 have hF:=rl p hw hn
 cases hf:fI p with
 | false=>rw [hf] at hF;rw [xL hf];exact I2 p hF
 | true =>
  rw [hf] at hF;obtain ⟨l,hs⟩:=kL hf;obtain ⟨ls,hm⟩:=hs.v8;have dv:=Cn hw;rw [qS hf hs hm,<-Fg hm] at dv |-;obtain ⟨⟨s1,s2⟩,⟨s3,s4⟩,⟨s5,s6⟩,⟨s7,s8⟩⟩:=sI p;have hB:=qC p X (fun n h=>by have:=(s8 n h).2;omega) X;rw [hs.Kz] at hB;unfold w9 at hB;simp only at hB;rw [show ((p.nodes.length:Int)==(p.nodes.length:Int))=true by simp] at hB;have hz:=hs.len;have I:=hs.st;have kC:=tK I hz;have ow:=dH.len hs.fns;have dQ:=da.num hn.nodes l 0 I;have hk:=hs.k
  refine Gw p l _ hF hB (zR 80 89 cM qI Ps p l X X X X X hn.arrays (fun f h=>by have:=(s6 f h).2.1;omega)
   (fun t ht=>⟨fV.1 hk t ht,eC dQ ht,by have:=(kC t ht).1;omega,by have:=(kC t ht).2;omega⟩))
theorem QH (x:ae):GF prog 92 [.v (sv x),.v (sv [10])] [] (.v (ii ((x.count 10:Nat):Int))) []:=by
 refine GF.H9 (vs:=[sv x,sv [10]]) fun K β w ht hf=>?_
 refine nh.tA (Calls.mono (strings_Count_one ⟨x.toArray⟩ 10 w) ?_);rintro e w' ⟨D,I⟩;exact ⟨_,D,rfl,by rw [I];exact Ext.refl w⟩
theorem Km (p:Src) (hw:cv p<=1048576) (hn:gY p):GF prog 37 [.agg (aL p)] [] (.v (ii (((oS p).count 10:Nat):Int))) []:=by
 have hP:=vO p hw hn;have hC:=QH (oS p);generalize (oS p).count 10=n at *;generalize oS p=x at *;refine aj func37 ntmps37 ?_;refine V [] hP ?_;refine V [] hC ?_;exact ao
open Go.Xp (bp aQ aB)
theorem SI:∀ (N:Nat) (t:T),aQ t<=N->gq t=true->nO t->gw t<=1099511627776->GF prog 157 [uT t] [] (.v (sv (eA t))) []:=by
 intro N
 induction N with
 | zero=>intro t h;exact zdz
 | succ N ih =>
 intro t hN hk hn hw;have hlen:=Go.Im.uW _ t (aD _) hn;rw [Go.Xp.eg] at hN;rw [Go.Im.vh,au,Go.Im.qJ,fV] at hk;rw [Go.Im.l6] at hn
 have gy:∀ a∈t.kids,GF prog 157 [uT a] [] (.v (sv (eA a))) []/\(eA a).length<=1099511627776:=fun a ha=>by
  have D:=Go.Im.q5 ha;rw [Go.Im.jC] at hw;have h3:=Go.Im.eC hn.2 ha
  have I:aQ a<=aB t.kids:=by
   have:∀ (l:List T),a∈l->aQ a<=aB l:=by
    intro l
    induction l with
    | nil=>intro h;cases h
    | cons b l lD =>
     intro h;rw [aB]
     rcases ew h with rfl | h
     ·omega
     ·have:=lD h;omega
   exact this _ ha
  have h4:=Go.Im.uW _ a (aD _) h3;exact ⟨ih a X (hk.2 a ha) h3 X,by omega⟩
 rw [Go.Im.K8] at hlen |-;unfold yW at hlen |-;have r9:=hk.1;have Lv:=@Ql t r9;have Oj:=@Qm t r9;have HL:=D2 t.n.n hn.1.1 hn.1.2
 have kA:t.kids.length<=1099511627776:=by
  have:=Go.Im.Fk t.kids;exact zez
 have sj:=fun hj=>Fs 157 eA t.kids (fun a ha=>(gy a ha).1) hj kA
 rw [<-Go.Im.yh] at sj
 have zc:t.n.s.length<=1099511627776:=by rw [Go.Im.jC] at hw;omega
 have AK:(bp (jz t.kids)).length<=1099511627776:=by
  have D:=Go.Im.nI (jz t.kids)
  have I:((jz t.kids).map fun y=>y.length+2).sum<=eY t.kids:=by
   have:∀ (l:List T),oY l->((jz l).map fun y=>y.length+2).sum<=eY l:=by
    intro l
    induction l with
    | nil=>intro _;simp [jz]
    | cons a l lD =>
     intro h;rw [oY] at h;have D:=Go.Im.uW _ a (aD _) h.1;have I:=lD h.2;rw [jz,eY,List.map_cons,List.sum_cons];omega
   exact this _ hn.2
  exact zez
 have sj:=sj AK;clear AK;unfold uT;generalize PY:t.n.kind=kd at *
 by_cases D:kd=1
 ·subst D
  have cI:((1:Int)==1)=true:=by decide
  rw [ah rfl];refine aj func157 ntmps157 ?_;refine V [] HL ?_;exact ao
 rw [ad D] at hlen |-
 have g1:(kd==1)=false:=by simpa using D
 by_cases h3:kd=3
 ·subst h3
  have cI:((3:Int)==1)=false:=by decide
  have ln:((3:Int)==3)=true:=by decide
  rw [ah rfl] at hlen |-;obtain ⟨a,ha⟩:=Lv (.inl rfl);rw [ha] at gy hlen |-;obtain ⟨c1,c2⟩:=gy a (List.mem_singleton.2 rfl)
  have hr:(cj [a])[0]?=some [uT a]:=by rw [ir];rfl
  simp only [jz,List.getD_cons_zero] at hlen |-;generalize cj [a]=rows at *;generalize eA a=x at *;refine aj func157 ntmps157 ?_;exact zbm
 rw [ad h3] at hlen |-
 have g3:(kd==3)=false:=by simpa using h3
 by_cases h4:kd=4
 ·subst h4
  have cI:((4:Int)==1)=false:=by decide
  have ln:((4:Int)==3)=false:=by decide
  have f4:((4:Int)==4)=true:=by decide
  rw [ah rfl] at hlen |-;generalize cj t.kids=rows at *;generalize bp (jz t.kids)=x at *;simp only [aJ,length_cons,length_nil] at hlen;refine aj func157 ntmps157 ?_;exact zcI
 rw [ad h4] at hlen |-
 have g4:(kd==4)=false:=by simpa using h4
 by_cases h5:kd=5
 ·subst h5
  have cI:((5:Int)==1)=false:=by decide
  have ln:((5:Int)==3)=false:=by decide
  have f4:((5:Int)==4)=false:=by decide
  have f5:((5:Int)==5)=true:=by decide
  rw [ah rfl] at hlen |-;obtain ⟨a,ha⟩:=Lv (.inr rfl);rw [ha] at gy hlen |-;obtain ⟨c1,c2⟩:=gy a (List.mem_singleton.2 rfl)
  have hr:(cj [a])[0]?=some [uT a]:=by rw [ir];rfl
  simp only [jz,List.getD_cons_zero] at hlen |-;generalize cj [a]=rows at *;generalize eA a=x at *;simp only [aJ,length_cons,length_nil] at hlen;refine aj func157 ntmps157 ?_;exact zbm
 rw [ad h5] at hlen |-
 have g5:(kd==5)=false:=by simpa using h5
 by_cases h6:kd=6
 ·subst h6
  have cI:((6:Int)==1)=false:=by decide
  have ln:((6:Int)==3)=false:=by decide
  have f4:((6:Int)==4)=false:=by decide
  have f5:((6:Int)==5)=false:=by decide
  have f6:((6:Int)==6)=true:=by decide
  rw [ah rfl] at hlen |-;obtain ⟨a,b,ha⟩:=Oj rfl;rw [ha] at gy hlen |-;obtain ⟨c1,c2⟩:=gy a (List.mem_cons_self);obtain ⟨d1,d2⟩:=gy b (di _ List.mem_cons_self)
  have hr:(cj [a,b])[0]?=some [uT a]:=by rw [ir];rfl
  have j0:(cj [a,b])[1]?=some [uT b]:=by rw [ir];rfl
  simp only [jz,List.getD_cons_zero,List.getD_cons_succ] at hlen |-;generalize cj [a,b]=rows at *;generalize eA a=x at *;generalize eA b=y at *;simp only [aJ,length_cons,length_nil] at hlen;refine aj func157 ntmps157 ?_;refine aS (aC 0 6 (aC 9 5 (aC 16 6 (.a 6 (.q 7 (.q 8 (.q 14 (.q 15 (.a 22 (aC 23 3 .nil)))))))))) ?_;refine aq ?_;refine ax [] c1 ?_;refine ax [] d1 ?_;exact av
 rw [ad h6]
 have g6:(kd==6)=false:=by simpa using h6
 refine aj func157 ntmps157 ?_;exact ao
theorem RW:Wr 157 119 eA dk :=
 ⟨fun a D I h3=>SI _ a (aD _) D I h3,fun l d D I h3=>E6 l d D I,fun l d s h=>E7 h⟩
theorem Ai (p:Src) (hF:GF prog 62 [.agg (aL p)] [] (.v (.bool false)) []):GF prog 94 [.agg (aL p)] [] (.v (sv [])) []:=by
 refine aj func94 ntmps94 ?_;exact zb5
theorem zt (p:Src) (l:List T) (x:ae) (hF:GF prog 62 [.agg (aL p)] [] (.v (.bool true)) []) (hB:GF prog 87 [.agg (aL p)] [] (.tup [.sl 1 (cj l),.v (.bool true)]) [])
  (hL:GF prog 88 [.agg (aL p),.sl 1 (cj l),.v (gW 157),.v (gW 119)] [] (.v (sv x)) []) :
  GF prog 94 [.agg (aL p)] [] (.v (sv x)) []:=by
 refine aj func94 ntmps94 ?_;exact zec
theorem rR (p:Src) (hw:cv p<=1048576) (hn:gY p):GF prog 94 [.agg (aL p)] [] (.v (sv (vr p))) []:=by
 have hF:=rl p hw hn
 cases hf:fI p with
 | false=>rw [hf] at hF;rw [Ml hf];exact Ai p hF
 | true =>
  rw [hf] at hF;obtain ⟨l,hs⟩:=kL hf;obtain ⟨ls,hm⟩:=hs.v8;have dv:=Cm hn hw;rw [vt hf hs hm,<-A1 hm] at dv |-;obtain ⟨⟨s1,s2⟩,⟨s3,s4⟩,⟨s5,s6⟩,⟨s7,s8⟩⟩:=sI p;have hB:=qC p X (fun n h=>by have:=(s8 n h).2;omega) X;rw [hs.Kz] at hB;unfold w9 at hB;simp only at hB;rw [show ((p.nodes.length:Int)==(p.nodes.length:Int))=true by simp] at hB;have hz:=hs.len;have I:=hs.st;have kC:=tK I hz;have ow:=dH.len hs.fns;have dQ:=da.num hn.nodes l 0 I;have hk:=hs.k
  refine zt p l _ hF hB (zR 157 119 eA dk RW p l X X X X X hn.arrays (fun f h=>by have:=(s6 f h).2.1;omega)
   (fun t ht=>⟨fV.1 hk t ht,eC dQ ht,by have:=(kC t ht).1;omega,by have:=(kC t ht).2;omega⟩))
theorem Kc (x:ae):GF prog 92 [.v (sv x),.v (sv [40])] [] (.v (ii ((x.count 40:Nat):Int))) []:=by
 refine GF.H9 (vs:=[sv x,sv [40]]) fun K β w ht hf=>?_
 refine nh.tA (Calls.mono (strings_Count_one ⟨x.toArray⟩ 40 w) ?_);rintro e w' ⟨D,I⟩;exact ⟨_,D,rfl,by rw [I];exact Ext.refl w⟩
theorem D4 (x:ae):GF prog 93 [.v (sv x)] [] (.v (ii ((x.count 40:Nat):Int))) []:=by
 have hC:=Kc x;generalize x.count 40=n at *;refine aj func93 ntmps93 ?_;refine V [] hC ?_;exact ao
theorem Aj (p:Src) (x y:ae) (n m:Nat) (hn:n<=1099511627776) (hm:m<=1099511627776) (D:GF prog 94 [.agg (aL p)] [] (.v (sv x)) []) (I:GF prog 93 [.v (sv x)] [] (.v (ii (n:Nat))) [])
  (h3:GF prog 35 [.agg (aL p)] [] (.v (sv y)) []) (h4:GF prog 93 [.v (sv y)] [] (.v (ii (m:Nat))) []) :
  GF prog 38 [.agg (aL p)] [] (.v (ii ((n:Int) - (m:Int)))) []:=by
 refine aj func38 ntmps38 ?_;refine aS (.q 0 (.q 3 (.a 1 (.a 2 (.a 4 (.a 5 (.q 6 (.q 7 .nil)))))))) ?_;refine aq ?_;refine ax [] D ?_;refine ax [] I ?_;refine ax [] h3 ?_;refine ax [] h4 ?_;exact av
theorem DD (p:Src) (hw:cv p<=1048576) (hn:gY p):GF prog 38 [.agg (aL p)] [] (.v (ii ((((vr p).count 40:Nat):Int) - (((oS p).count 40:Nat):Int)))) []:=by
 have D:=Cn hw;have I:=Cm hn hw;have h3:(vr p).count 40<=(vr p).length:=List.count_le_length;have h4:(oS p).count 40<=(oS p).length:=List.count_le_length;exact Aj p _ _ _ _ X X (rR p hw hn) (D4 _) (vO p hw hn) (D4 _)
theorem BD (a b:Src) (x y:ae) (hx:x.length<=1099511627776) (hy:y.length<=1099511627776) (D:GF prog 94 [.agg (aL a)] [] (.v (sv x)) []) (I:GF prog 94 [.agg (aL b)] [] (.v (sv y)) [])
  (h3:GF prog 62 [.agg (aL a)] [] (.v (.bool true)) []) (h4:GF prog 62 [.agg (aL b)] [] (.v (.bool true)) []):GF prog 39 [.agg (aL a),.agg (aL b)] [] (.v (.bool (x==y))) []:=by
 refine aj func39 ntmps39 ?_;refine V [] D ?_;refine V [] h3 ?_;refine V [] h4 ?_;refine V [] I ?_;exact ao
end Go.Xg
namespace Go.Xg
open Go.RowKit Go.Xw Go.Proofs Tryz Go.Sp
open GV (U)
open Go.Xp (T E S er wt dJ aZ aQ aB mj)
open Go.Im (cr fB uu en eu pM Ck)
attribute [local irreducible] GW GL GO YG GC GA bu bs
theorem zf (d:Nat) (hd:d<=1099511627776):GF prog 152 [.v (ii (d:Nat))] [] (.v (sv (cr d))) []:=by
 refine aj func152 ntmps152 ?_;refine GW.loop (fun x:Nat × Go.Xp.ae=>d - x.1) (fun x fr Γ=>fr=[.v (ii (d:Nat)),U,U,.v (sv x.2),.v (ii (x.1:Nat)),U,U,U,U,U,U,U,U]/\Γ=[]/\x.1<=d/\x.2=cr x.1) (0,[]) ?_ ?_
 ·exact ⟨_,_,Wk.aX aw,rfl,rfl,aY _,rfl⟩
 rintro ⟨k,y⟩ _ _ ⟨rfl,rfl,hk,hy⟩;simp only at hk hy
 have Wt:y.length=2 * k:=by rw [hy];exact fB k
 have hs:=uu k;rw [<-hy] at hs
 by_cases ar:k < d
 ·have nE:decide ((k:Int) < (d:Int))=true:=by simpa using ar
  refine ab ?_;exact ⟨(k+1,y++[32,32]),⟨_,_,Wk.aX aw,rfl,rfl,ar,hs.symm⟩,by show d - (k+1) < d - k;omega⟩
 ·have nE:decide ((k:Int) < (d:Int))=false:=by simpa using ar
  have Y7:k=d:=by omega
  subst Y7;subst hy;exact zcv
def D6 (s:S):Prop:=∀ t (d:Nat),s.ok=true->er t=s.tree->d+aQ s.tree<=1000->wt s.tree<=200000000->GF prog 153 [.agg (cT t),.v (ii (d:Nat))] [] (.v (sv (en d s))) []
def Hc (l:List S):Prop:=∀ t (d:Nat),S.bW l=true->er t=aZ l->d+aQ (aZ l)<=1000->wt (aZ l)<=200000000->GF prog 91 [.agg (cT t),.v (ii (d:Nat))] [] (.v (sv (pM d l))) []
theorem Nw (lv:Nat) (x:Go.Xp.ae):mj lv 0 x=x:=by unfold mj;rw [ad X]
theorem vy (s:S) (h9:(s.tree.n.kind==9)=false) (ly:(s.tree.n.kind==10)=false) (hp:∀ d,en d s=S.txt E.txt s):D6 s:=by
 intro t d ho ht hd hw;have hc:=M6 true s t ho ht zeP
 have ej:(E.out true)=E.txt:=by funext a;rfl
 rw [ej] at hc;rw [hp]
 have hk:t.n.kind=s.tree.n.kind:=by have:=congrArg (fun x=>x.n.kind) ht;simp only [Go.Im.rV] at this;exact this
 rw [<-hk] at h9 ly;obtain ⟨⟨kk,aa,vv,ss,ks⟩,l⟩:=t;generalize S.txt E.txt s=y at *;simp only [T.n] at h9 ly;simp only [cT,T.n,T.kids] at hc |-;refine aj func153 ntmps153 ?_;exact zcs
theorem Z1 {l:List S}:aQ (aZ l)=aB (S.trees l)+1:=by rw [aZ,aQ]
theorem rI {d:Nat} {l:List S} (ho:S.bW l=true) (hd:d+aQ (aZ l)<=1000) (hw:wt (aZ l)<=200000000):(pM d l).length<=300000000:=by
 have D:=Ck (B:=2004) (d:=d) ho X;have I:aQ (aZ l) * (2 * 2004)<=1000 * (2 * 2004):=la _ X;omega
theorem Ug (c:E) (p:List S) (Cp:Hc p):D6 (.if1 c p):=by
 intro t d ho ht hd hw;obtain ⟨⟨kk,aa,vv,ss,ks⟩,l⟩:=t;obtain ⟨D,I,h3,hl⟩:=dy ht;simp only at D I h3;subst D I h3;obtain ⟨x0,x1,rfl,kc,ke⟩:=xe hl;simp only [S.ok,au] at ho;rw [S.tree,wt] at hw;rw [S.tree,aQ] at hd;simp only [dJ] at hw;simp only [aB] at hd;have mn:=oR c x0 0 ho.1 kc zeP;rw [Nw] at mn;have sc:=(E.len c ho.1).1;have vb:(bb [x0,x1])[0]?=some (cT x0):=cJ rfl;have lU:=Cp x1 d ho.2 ke zeR zeR;have gX:=rI (d:=d) ho.2 zeR zeR;have j0:(bb [x0,x1])[1]?=some (cT x1):=cJ rfl;rw [en];generalize c.txt=y0 at *
 change GF _ _ _ _ (.v (sv _)) _ at lU
 exact zaJ
theorem OZ (c:E) (p:List S) (Cp:Hc p):D6 (.while_ c p):=by
 intro t d ho ht hd hw;obtain ⟨⟨kk,aa,vv,ss,ks⟩,l⟩:=t;obtain ⟨D,I,h3,hl⟩:=dy ht;simp only at D I h3;subst D I h3;obtain ⟨x0,x1,rfl,kc,ke⟩:=xe hl;simp only [S.ok,au] at ho;rw [S.tree,wt] at hw;rw [S.tree,aQ] at hd;simp only [dJ] at hw;simp only [aB] at hd;have mn:=oR c x0 0 ho.1 kc zeP;rw [Nw] at mn;have sc:=(E.len c ho.1).1;have vb:(bb [x0,x1])[0]?=some (cT x0):=cJ rfl;have lU:=Cp x1 d ho.2 ke zeR zeR;have gX:=rI (d:=d) ho.2 zeR zeR;have j0:(bb [x0,x1])[1]?=some (cT x1):=cJ rfl;rw [en];generalize c.txt=y0 at *
 change GF _ _ _ _ (.v (sv _)) _ at lU
 exact zaJ
theorem Uh (c:E) (p q:List S) (Cp:Hc p) (Cq:Hc q):D6 (.if2 c p q):=by
 intro t d ho ht hd hw;obtain ⟨⟨kk,aa,vv,ss,ks⟩,l⟩:=t;obtain ⟨D,I,h3,hl⟩:=dy ht;simp only at D I h3;subst D I h3;obtain ⟨x0,x1,x2,rfl,kc,ke,Dg⟩:=Sj hl;simp only [S.ok,au] at ho;rw [S.tree,wt] at hw;rw [S.tree,aQ] at hd;simp only [dJ] at hw;simp only [aB] at hd;have mn:=oR c x0 0 ho.1 kc zeP;rw [Nw] at mn;have sc:=(E.len c ho.1).1;have vb:(bb [x0,x1,x2])[0]?=some (cT x0):=cJ rfl;have lU:=Cp x1 d ho.2.1 ke zeR zeR;have gX:=rI (d:=d) ho.2.1 zeR zeR;have j0:(bb [x0,x1,x2])[1]?=some (cT x1):=cJ rfl;have lV:=Cq x2 d ho.2.2 Dg zeR zeR;have kP:=rI (d:=d) ho.2.2 zeR zeR;have dT:(bb [x0,x1,x2])[2]?=some (cT x2):=cJ rfl;rw [en];generalize c.txt=y0 at *
 change GF _ _ _ _ (.v (sv _)) _ at lU
 unfold pM at lU gX;generalize (eu d [123,10] p++cr d)++[125]=y1 at *
 change GF _ _ _ _ (.v (sv _)) _ at lV
 unfold pM at lV kP;generalize (eu d [123,10] q++cr d)++[125]=y2 at *;refine zdv ?_;refine aj func153 ntmps153 ?_;refine aS (aC 0 4 (aC 7 5 (.a 4 (.q 5 (.q 6 (.a 12 (.q 13 (.q 14 .nil)))))))) ?_;exact zcB
theorem Ip (d:Nat):∀ (l:List S) (acc:Go.Xp.ae),acc.length<=(eu d acc l).length
 | [],acc=>by rw [eu];omega
 | a::l,acc=>by
  rw [eu];have:=Ip d l (((acc++cr (d+1))++en (d+1) a)++[10]);simp only [aJ,length_cons,length_nil] at this;omega
theorem IB:∀ {l:List S} {a:S},a∈l->aQ a.tree<=aB (S.trees l)
 | [],_,h=>by cases h
 | b::l,a,h=>by
  rw [S.trees,aB]
  rcases ew h with rfl | h
  ·omega
  ·have:=IB h;omega
theorem xM (es:List S) (C:∀ a∈es,D6 a):Hc es:=by
 intro t d ho ht hd hw;have gD:=rI (d:=d) ho hd hw;obtain ⟨⟨kk,aa,vv,ss,ks⟩,l⟩:=t;obtain ⟨D,I,h3,hl⟩:=dy ht;simp only at D I h3;subst D I h3;obtain ⟨hlen,pY⟩:=Cz hl;rw [Z1] at hd;rw [aZ,wt] at hw;have hn:=Aa es;unfold pM at gD |-;have YU:=zf d X;have pA:=zf (d+1) X;have P6:=fB d;have p9:=fB (d+1);rw [show (((d+1:Nat):Int))=(d:Int)+1 by omega] at pA;simp only [aJ,length_cons,length_nil] at gD;refine zdv ?_;refine aj func91 ntmps91 ?_;refine GW.range (bb l).length (fun k fr Γ=>∃ y,fr=[U,.v (ii (d:Nat)),.loc 0 0,U,U,.v (sv y),U,U,U,.sl 6 (bb l),.v (ii ((bb l).length:Int)),.v (ii (k:Nat)),U,U,U,U,U,U,U,U,U,U,U,U,U,U,U,U,U,U,U,U]/\Γ=[.box 86 [.v (ii 14),.v (ii aa),.v (ii 0),.v (sv []),ints ks,.sl 6 (bb l)]]/\eu d y (es.drop k)=eu d [123,10] es) ?_ zfm ?_ ?_ ?_
 ·exact zbO
 ·rintro k _ _ ⟨y,rfl,rfl,_⟩;exact gU
 ·rintro k _ _ hk ⟨y,rfl,rfl,hy⟩
  have hk:k < es.length:=by rw [bc,hlen] at hk;exact hk
  have tZ:k < l.length:=by omega
  have hx:es[k]?=some es[k]:=by simp [hk]
  have kB:l[k]?=some l[k]:=by simp [tZ]
  have hr:=cJ kB;rw [o8 hk,eu] at hy;have hm:=bM hx;have fJ:=IB hm;have hc:=C _ hm l[k] (d+1) (z6 ho hm) (pY k _ _ kB hx) X (by have:=Ab hm;omega);rw [show (((d+1:Nat):Int))=(d:Int)+1 by omega] at hc;generalize l[k]=t at *;generalize Y3:en (d+1) es[k]=x at *;have hO:=Ip d (es.drop (k+1)) (((y++cr (d+1))++x)++[10]);rw [hy] at hO;generalize cr (d+1)=z1 at *;simp only [aJ,length_cons,length_nil] at hO;refine ab ?_;refine aS (aC 0 3 (aC 5 3 (.a 3 (.q 4 (.a 8 (aC 9 3 .nil)))))) ?_;refine aq ?_;refine ax [] pA ?_;refine ax [] hc ?_;refine ab ?_;exact zcV
 ·rintro _ _ ⟨y,rfl,rfl,hy⟩;rw [List.drop_of_length_le (by rw [bc,hlen];exact aD _),eu] at hy;rw [<-hy] at gD |-;generalize cr d=z0 at *;refine ab ?_;refine V [] YU ?_;exact ao
mutual
theorem VB:∀ s:S,D6 s
 | .set s a=>vy _ rfl rfl fun d=>by rw [en]
 | .put s a c=>vy _ rfl rfl fun d=>by rw [en]
 | .if1 c p=>Ug c p (xM p (vu p))
 | .if2 c p q=>Uh c p q (xM p (vu p)) (xM q (vu q))
 | .while_ c p=>OZ c p (xM p (vu p))
 | .ret a=>vy _ rfl rfl fun d=>by rw [en]
 | .do_ a=>vy _ rfl rfl fun d=>by rw [en]
 | .var s a=>vy _ rfl rfl fun d=>by rw [en]
theorem vu:∀ l:List S,∀ a∈l,D6 a
 | []=>fun a h=>by cases h
 | c::l=>fun a h=>by
  rcases ew h with h | h
  ·rw [h];exact VB c
  ·exact vu l a h
end
theorem VA (l:List S):Hc l:=xM l (vu l)
open Go.Im
open Go.Xp (eV bp)
theorem Kn (p:Src) (hF:GF prog 81 [.agg (aL p)] [] (.v (.bool false)) []):GF prog 36 [.agg (aL p)] [] (.v (sv [])) []:=by
 refine aj func36 ntmps36 ?_;exact zb5
theorem Jx {l:List ae} {k:Nat} {x:ae} (h:l[k]?=some x):bp (l.take (k+1))=(if k > 0 then bp (l.take k)++[44,32] else [])++x:=by
 have ht:l.take (k+1)=l.take k++[x]:=by rw [eK,h];rfl
 by_cases hk:k > 0
 ·have bZ:l.take k≠[]:=by
   have:=(bh h).1;intro he;have:=congrArg List.length he;rw [lH,length_nil] at this;omega
  rw [ah hk,ht,Go.Xp.wm bZ]
 ·have:k=0:=by omega
  subst this;rw [ad hk,ht];simp [bp]
theorem I3 (p:Src) (l:List T) (ls:List (List S)) (hw:cv p<=1048576) (dI:b8 p l) (EK:Forms l ls) (hF:GF prog 81 [.agg (aL p)] [] (.v (.bool true)) []):GF prog 36 [.agg (aL p)] [] (.v (sv (vw p ls))) []:=by
 have Xh:=C0 dI EK hw;have iy:=CC hw;have hlen:=Iq dI EK hw;have dQ:=CZ dI;have fJ:=dI.WK EK;have wZ:=FG dI EK hw;obtain ⟨⟨a1',Yf⟩,⟨b1',Yg⟩,⟨c1',Yh⟩,⟨d1',d2'⟩⟩:=sI p
 have ow:p.fns.length=ls.length:=by rw [EK.len];exact dH.len dI.fns
 have V8:∀ k,(bH g1 [] (p.globals.take k)).length<=200000000000:=fun k=>by
  have D:=px g1 p.globals k [];have I:=sw a1 p.arrays (bH g1 [] p.globals);exact zcA
 have SY:∀ k,(bH a1 (bH g1 [] p.globals) (p.arrays.take k)).length<=200000000000:=fun k=>by
  have D:=px a1 p.arrays k (bH g1 [] p.globals);exact zcA
 have SZ:∀ k,(bH qs (bH a1 (bH g1 [] p.globals) p.arrays) ((p.fns.zip ls).take k)).length<=200000000000:=fun k=>by
  have D:=px qs (p.fns.zip ls) k (bH a1 (bH g1 [] p.globals) p.arrays);unfold vw at hlen;omega
 refine aj func36 ntmps36 ?_;refine V [] hF ?_;refine GW.range (p.globals.map fun s=>[GV.v (sv s)]).length (fun k fr Γ=>∃ y,fr=[U,.loc 0 0,U,.v (sv y),U,U,U,U,U,U,U,U,U,U,U,U,strs p.globals,.v (ii ((p.globals.map fun s=>[GV.v (sv s)]).length:Int)),.v (ii (k:Nat)),U,U,U,U,U,U,U,U,U,U,U,U,U,U,U,U,U,U,U,U,U,U,U,U,U,U,U,U,U,U,U,U,U,U,U,U,U,U,U,U,U,U,U,U,U,U,U,U,U,U,U,U,U,U,U,U,U,U,U,U,U,U,U,U,U,U,U,U]/\Γ=[.box 28 (aL p)]/\y=bH g1 [] (p.globals.take k)) ?_ zfn ?_ ?_ ?_
 ·exact zbO
 ·rintro k _ _ ⟨y,rfl,rfl,_⟩;exact gU
 ·rintro k _ _ hk ⟨y,rfl,rfl,hy⟩
  have hk:k < p.globals.length:=by simpa using hk
  have hx:p.globals[k]?=some p.globals[k]:=by simp [hk]
  have hr:=yy hx;have Wt:=V8 k;rw [<-hy] at Wt;have qb:=Yf _ (bM hx)
  have eP:bH g1 [] (p.globals.take (k+1))=((y++[105,110,116,32])++p.globals[k])++[59,10]:=by
   rw [eK,hx];simp only [Option.toList_some];rw [po,<-hy];simp [g1]
  generalize p.globals[k]=x at *;clear hy;refine ab ?_;exact ⟨rfl,rfl,_,_,Wk.aX aw,_,rfl,rfl,eP.symm⟩
 ·rintro _ _ ⟨y,rfl,rfl,hy⟩;rw [cU,iZ] at hy;rw [<-hy] at SY SZ;unfold vw;rw [<-hy];clear hy V8;refine bo ?_;refine ab ?_;refine GW.range (p.arrays.map bY).length (fun k fr Γ=>∃ z,fr=[U,.loc 0 0,U,.v (sv z),U,U,U,U,U,U,U,U,U,U,U,U,U,U,U,U,U,U,U,U,U,U,U,U,U,.sl 2 (p.arrays.map bY),.v (ii ((p.arrays.map bY).length:Int)),.v (ii (k:Nat)),U,U,U,U,U,U,U,U,U,U,U,U,U,U,U,U,U,U,U,U,U,U,U,U,U,U,U,U,U,U,U,U,U,U,U,U,U,U,U,U,U,U,U,U,U,U,U,U,U,U,U,U,U,U,U]/\Γ=[.box 28 (aL p)]/\z=bH a1 y (p.arrays.take k)) ?_ zfn ?_ ?_ ?_
  ·exact zbO
  ·rintro k _ _ ⟨z,rfl,rfl,_⟩;exact gU
  ·rintro k _ _ hk ⟨z,rfl,rfl,hz⟩
   have hk:k < p.arrays.length:=by simpa using hk
   have hx:p.arrays[k]?=some p.arrays[k]:=by simp [hk]
   have hr:=Mt hx;have Zy:=SY k;rw [<-hz] at Zy;have qb:=Yg _ (bM hx);have xq:=dQ _ (bM hx)
   have eP:bH a1 y (p.arrays.take (k+1))=((((z++[105,110,116,32])++p.arrays[k].name)++[91])++eV p.arrays[k].size.toNat)++[93,59,10]:=by
    rw [eK,hx];simp only [Option.toList_some];rw [po,<-hz];unfold a1 mx;rw [ad X];simp
   have hc:=w6 p.arrays[k].size xq;have EI:=Go.Xp.BR 9 p.arrays[k].size.toNat X;generalize p.arrays[k]=x at *;clear hz;unfold bY at hr;generalize eV x.size.toNat=dg at *;refine ab ?_;refine zer ?_;refine ax [] hc ?_;refine ab ?_;exact ⟨rfl,rfl,_,_,(Wk.cut (n:=1) (fU rfl) rfl).trans (Wk.aX aw),_,rfl,rfl,eP.symm⟩
  ·rintro _ _ ⟨z,rfl,rfl,hz⟩;rw [cU,iZ] at hz;rw [<-hz] at SZ |-;clear hz SY;refine bo ?_;refine ab ?_;refine GW.range (p.fns.map br).length (fun k fr Γ=>∃ v,fr=[U,.loc 0 0,U,.v (sv v),U,U,U,U,U,U,U,U,U,U,U,U,U,U,U,U,U,U,U,U,U,U,U,U,U,U,U,U,U,U,U,U,U,U,U,U,U,U,U,U,U,U,U,U,.sl 3 (p.fns.map br),.v (ii ((p.fns.map br).length:Int)),.v (ii (k:Nat)),U,U,U,U,U,U,U,U,U,U,U,U,U,U,U,U,U,U,U,U,U,U,U,U,U,U,U,U,U,U,U,U,U,U,U,U]/\Γ=[.box 28 (aL p)]/\v=bH qs z ((p.fns.zip ls).take k)) ?_ zfn ?_ ?_ ?_
   ·exact zbO
   ·rintro k _ _ ⟨v,rfl,rfl,_⟩;exact gU
   ·rintro k _ _ hk ⟨v,rfl,rfl,hv⟩
    have hk:k < p.fns.length:=by simpa using hk
    have kA:k < ls.length:=by omega
    have hx:p.fns[k]?=some p.fns[k]:=by simp [hk]
    have qb:ls[k]?=some ls[k]:=by simp [kA]
    have hr:=FI hx;have TF:=SZ k;rw [<-hv] at TF;obtain ⟨ub,bL,Tm⟩:=Yh _ (bM hx);obtain ⟨h0,ho,Zv,t,qa,Ta⟩:=Xh.at_ k _ _ hx qb;have hs:=DU p (fun n hn=>(iy.nodes.2 n hn).2) _ _ _ qa;rw [Int.toNat_of_nonneg h0] at hs;obtain ⟨z1,z2,z3⟩:=fJ _ (bM qb);have hB:=VA ls[k] t 0 ho Ta X X;have hBl:=wZ _ (bM qb)
    have Tk:(p.fns.zip ls)[k]?=some (p.fns[k],ls[k]):=by rw [List.getElem?_zip_eq_some];exact ⟨hx,qb⟩
    have eP:bH qs z ((p.fns.zip ls).take (k+1))=v++qs (p.fns[k],ls[k]):=by rw [eK,Tk,hv];exact po qs _ _ _
    rw [show qs (p.fns[k],ls[k])=((((([102,117,110,99,32]++p.fns[k].name)++[40])++bp p.fns[k].params)++[41,32])++pM 0 ls[k])++[10] from rfl] at eP;have rE:=nI p.fns[k].params;rw [wM] at rE
    have Th:aV (fun s=>s.length+2) p.fns[k].params<=2 * wS p.fns[k].params:=fx fun s _=>by omega
    have hj3:wS p.fns[k].params<=1048576:=by
     have:=pg (f:=fun f:Go.Sp.Fn=>f.name.length+wS f.params+1) (bM hx);unfold cv at hw;omega
    have Y6:=Go.Xp.sk p.fns[k].params
    have XK:∀ (j:Nat) (s:ae),p.fns[k].params[j]?=some s->bp (p.fns[k].params.take (j+1))=(if j > 0 then bp (p.fns[k].params.take j)++[44,32] else [])++s:=fun j s h=>Jx h
    generalize p.fns[k]=x at *;generalize pM 0 ls[k]=bt at *;unfold br at hr;clear hv;refine ab ?_;refine GW.range (x.params.map fun s=>[GV.v (sv s)]).length (fun j fr Γ=>∃ u,fr=[U,.loc 0 0,U,.v (sv u),U,U,U,U,U,.loc 1 0,U,U,U,U,U,U,U,U,U,U,U,U,U,U,U,U,U,U,U,U,U,U,U,U,U,U,U,U,U,U,U,U,U,U,U,U,U,U,.sl 3 (p.fns.map br),.v (ii ((p.fns.map br).length:Int)),.v (ii (k:Nat)),U,U,U,U,U,U,U,U,U,U,strs x.params,.v (ii ((x.params.map fun s=>[GV.v (sv s)]).length:Int)),.v (ii (j:Nat)),U,U,U,U,U,U,U,U,U,U,U,U,U,U,U,U,U,U,U,U,U,U,U]/\Γ=[.box 28 (aL p),.box 65 [.v (sv x.name),strs x.params,.v (ii x.body)]]/\u=(((v++[102,117,110,99,32])++x.name)++[40])++bp (x.params.take j)) ?_ zfn ?_ ?_ ?_
    ·exact ⟨_,_,Wk.aX aw,_,rfl,rfl,by simp [bp]⟩
    ·rintro j _ _ ⟨u,rfl,rfl,_⟩;exact gU
    ·rintro j _ _ hj ⟨u,rfl,rfl,hu⟩
     have hj:j < x.params.length:=by simpa using hj
     have Tj:x.params[j]?=some x.params[j]:=by simp [hj]
     have hjr:=yy Tj;have PV:=XK j _ Tj;have hjb:=Y6 j
     have De:u.length<=300000000000:=by
      rw [hu];exact zab
     have zc:=Tm _ (bM Tj);generalize x.params[j]=s at *
     by_cases h0j:j > 0
     ·have PQ:decide ((0:Int) < (j:Int))=true:=by simpa using h0j
      rw [ah h0j] at PV
      have zd:(u++[44,32])++s=(((v++[102,117,110,99,32])++x.name)++[40])++bp (x.params.take (j+1)):=by rw [hu,PV];simp
      exact zdP
     ·have PQ:decide ((0:Int) < (j:Int))=false:=by simpa using h0j
      rw [ad h0j] at PV
      have AK:j=0:=by omega
      have zd:u++s=(((v++[102,117,110,99,32])++x.name)++[40])++bp (x.params.take (j+1)):=by rw [hu,PV,AK];simp [bp]
      exact zdP
    ·rintro _ _ ⟨u,rfl,rfl,hu⟩;rw [cU,iZ] at hu
     have De:u.length<=300000000000:=by
      rw [hu];exact zab
     have zd:((u++[41,32])++bt)++[10]=bH qs z ((p.fns.zip ls).take (k+1)):=by rw [eP,hu];simp
     clear hu;refine bo ?_;refine ab ?_;refine V [] hs ?_;refine V [] hB ?_;exact ⟨rfl,rfl,_,_,(Wk.cut (n:=1) (fU rfl) rfl).trans (Wk.aX aw),_,rfl,rfl,zd⟩
   ·rintro _ _ ⟨v,rfl,rfl,hv⟩;rw [cU,show (p.fns.zip ls).take p.fns.length=p.fns.zip ls from nq ze6] at hv;rw [<-hv];refine bo ?_;exact av
end Go.Xg
namespace Go.Xg
open Go.RowKit Go.Xw Go.Proofs Tryz Go.Im
open Go.Sp (Src)
attribute [local irreducible] GW GL GO YG GC GA bu bs
theorem Np (p:Src) (hw:cv p<=1048576):GF prog 36 [.agg (aL p)] [] (.v (sv (oS p))) []:=by
 have hF:=CX p hw
 cases hf:fI p with
 | false=>rw [hf] at hF;rw [xL hf];exact Kn p hF
 | true =>
  rw [hf] at hF;obtain ⟨l,hl⟩:=kL hf;obtain ⟨ls,hm⟩:=hl.v8;rw [qS hf hl hm];exact I3 p l ls hw hl hm hF
end Go.Xg
set_option maxHeartbeats 4000000
namespace Go.Xg
open Go.RowKit Go.Xw Go.Proofs Tryz Go.Sp Go.Im
attribute [local irreducible] GW GL GO YG GC GA bu bs
theorem IU (code:ae):GF prog 8 [.sl 1 (bI code)] [] (.v (.bool true)) []:=by
 have gD:=tV code
 rcases Nat.lt_or_ge 1048576 code.length with ar | hO
 ·have hd:decide ((1048576:Int) < ((bI code).length:Int))=true:=decide_eq_true X;refine aj func8 ntmps8 ?_;exact ao
 ·have hd:decide ((1048576:Int) < ((bI code).length:Int))=false:=decide_eq_false X;refine aj func8 ntmps8 ?_;refine dW [] (DY code X) ?_;rintro _ _ ⟨rfl,p,hw,hn,rfl⟩;refine gg ?_;have hI:=vO p hw hn;have hG:=Np p hw;have hL:=Km p hw hn;have hS:=DD p hw hn;have hPl:=Cn hw;have u3:=G9 (oS p) X;have hF:=rl p hw hn;have YP:=rR p hw hn;have ou:=UP p;have dr:=Cm hn hw;have cE:=@xL p;have ea:=@G0 p;unfold cn at ou;generalize hx:oS p=x at *;generalize hy:vr p=y at *
  have bZ:(x != x)=false:=by simp
  cases he:x==[] with
  | true =>
   have h0:x=[]:=by simpa using he
   have mn:((x.count 10:Nat):Int)=0:=by rw [h0];rfl
   rw [mn] at hL;refine za4 ?_;refine V [] hL ?_;exact ao
  | false =>
   have hf:fI p=true:=by
    cases h:fI p with
    | true=>rfl
    | false=>rw [cE h] at he;cases he
   have hz:decide (((y.count 40:Nat):Int) - ((x.count 40:Nat):Int) < (0:Int))=false:=decide_eq_false X;generalize ((y.count 40:Nat):Int) - ((x.count 40:Nat):Int)=z at *
   by_cases hl:x.length > 6000
   ·have S7:decide ((6000:Int) < (x.length:Int))=true:=decide_eq_true X;rw [xK hl] at u3;refine za4 ?_;refine V [] hS ?_;refine V [] u3 ?_;refine cq ?_;refine ⟨?_,rfl⟩;show GV.v (.bool (decide ((6000:Int) < (x.length:Int))))=_;rw [S7]
   ·obtain ⟨q,D,I⟩:=ea hf X;rw [D] at u3
    have ze:cv q<=1048576:=by rw [I.w];exact hw
    have V3:=rl q ze (I.num hn);have V4:=vO q ze (I.num hn);have SX:=rR q ze (I.num hn);rw [I.ok] at V3;rw [hf] at hF;rw [I.pr,hx] at V4;rw [I.fu,hy] at SX;have V7:=BD p q y y X X YP SX hF V3
    have Wu:(y==y)=true:=by simp
    have LL:(x==x)=true:=by simp
    rw [Wu] at V7;refine za4 ?_;refine V [] hS ?_;refine V [] u3 ?_;refine V [] V7 ?_;refine V [] V4 ?_;exact zdQ
end Go.Xg
