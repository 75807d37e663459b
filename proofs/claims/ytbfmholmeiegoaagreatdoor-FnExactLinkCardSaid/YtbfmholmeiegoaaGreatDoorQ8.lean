/- Part 8 of proofs that are told in their last texts. -/
import Derived.Test.YtbfmholmeiegoaaGreatDoorQ7
import Derived.Test.YtbfmholmeiegoaaGreatDoorQ2
import Derived.Test.YtbfmholmeiegoaaGreatDoorQ6
import Derived.Test.YtbfmholmeiegoaaGreatDoorQ3
import Derived.Test.YtbfmholmeiegoaaGreatDoorQ5
open List (any_append any_eq_false cons_append ext_getElem? getElem?_cons_succ getElem?_eq_none map_map map_take mem_range nil_append not_mem_nil range'_succ range_succ set_append_right set_cons_zero set_set)
set_option linter.unusedVariables false
set_option linter.unusedSimpArgs false
set_option maxRecDepth 100000
set_option maxHeartbeats 1000000
namespace Go.Xg
open GV (U)
open Go.RowKit Go.Xw Go.Proofs Tryz
open Go.Xp (Tok Nd T aQ aB)
open Go.Sp (Src)
open Go.Im (pH qQ tr j0 dn gV vy)
attribute [local irreducible] GW GL GO YG GC GA be bd
theorem Pt:∀ (N:Nat) (t:T),aQ t<=N->aQ t<=1099511627776->GF prog 112 [uT t] [] (.v (.bool (gV t))) []:=by
 intro N
 induction N with
 | zero=>intro t h;rw [Go.Xp.eA] at h;omega
 | succ N ih =>
 intro t hN hb;rw [Go.Xp.eA] at hN hb;have iT:=Go.Xp.bW t.kids;have qd:=mI t.kids;rw [Go.Im.yK,Go.Im.uo];unfold uT;generalize t.n.kind=kd;refine cY func112 ntmps112 ?_;refine JF ?_;refine GW.join (fun fr F=>fr=[.box [.v (ii kd),.v (ii t.n.at_),.v (ii t.n.n),.v (sv t.n.s),ints t.n.kids,.sl 1 (bT t.kids)] 0,U,U,U,.v (.bool (dn kd t.kids.length)),U,U,U,U,U,U,U,U,U,U,U,U,U,U,U,U,U,U,U,U,U,U,U,U,U,U,U,U,U,U,U,U,U,U,U,U,U,U,U,U,U,U,U,U,U,U,U,U,U,U,U,U,U,U,U,U,U,U,U]/\F=[]) ?_ ?_
 ·rw [<-qd];generalize (bT t.kids)=l
  by_cases L:kd=1
  ·subst L
   have cX:((1:Int)==1)=true:=by decide
   rw [show dn 1 l.length=((l.length:Int)==0) by unfold dn;simp];exact ja
  by_cases I:kd=2
  ·subst I
   have cX:((2:Int)==1)=false:=by decide
   have kc:((2:Int)==2)=true:=by decide
   rw [show dn 2 l.length=((l.length:Int)==0) by unfold dn;simp];exact ja
  by_cases h4:kd=4
  ·subst h4
   have cX:((4:Int)==1)=false:=by decide
   have kc:((4:Int)==2)=false:=by decide
   have f4:((4:Int)==4)=true:=by decide
   rw [show dn 4 l.length=true by unfold dn;simp];exact ja
  by_cases Br:kd=14
  ·subst Br
   have cX:((14:Int)==1)=false:=by decide
   have kc:((14:Int)==2)=false:=by decide
   have f4:((14:Int)==4)=false:=by decide
   have f14:((14:Int)==14)=true:=by decide
   rw [show dn 14 l.length=true by unfold dn;simp];exact ja
  by_cases h3:kd=3
  ·subst h3
   have cX:((3:Int)==1)=false:=by decide
   have kc:((3:Int)==2)=false:=by decide
   have f4:((3:Int)==4)=false:=by decide
   have f14:((3:Int)==14)=false:=by decide
   have pR:((3:Int)==3)=true:=by decide
   rw [show dn 3 l.length=((l.length:Int)==1) by unfold dn;simp];exact ja
  by_cases h5:kd=5
  ·subst h5
   have cX:((5:Int)==1)=false:=by decide
   have kc:((5:Int)==2)=false:=by decide
   have f4:((5:Int)==4)=false:=by decide
   have f14:((5:Int)==14)=false:=by decide
   have pR:((5:Int)==3)=false:=by decide
   have f5:((5:Int)==5)=true:=by decide
   rw [show dn 5 l.length=((l.length:Int)==1) by unfold dn;simp];exact ja
  by_cases h7:kd=7
  ·subst h7
   have cX:((7:Int)==1)=false:=by decide
   have kc:((7:Int)==2)=false:=by decide
   have f4:((7:Int)==4)=false:=by decide
   have f14:((7:Int)==14)=false:=by decide
   have pR:((7:Int)==3)=false:=by decide
   have f5:((7:Int)==5)=false:=by decide
   have f7:((7:Int)==7)=true:=by decide
   rw [show dn 7 l.length=((l.length:Int)==1) by unfold dn;simp];exact ja
  by_cases pz:kd=11
  ·subst pz
   have cX:((11:Int)==1)=false:=by decide
   have kc:((11:Int)==2)=false:=by decide
   have f4:((11:Int)==4)=false:=by decide
   have f14:((11:Int)==14)=false:=by decide
   have pR:((11:Int)==3)=false:=by decide
   have f5:((11:Int)==5)=false:=by decide
   have f7:((11:Int)==7)=false:=by decide
   have f11:((11:Int)==11)=true:=by decide
   rw [show dn 11 l.length=((l.length:Int)==1) by unfold dn;simp];exact ja
  by_cases o0:kd=12
  ·subst o0
   have cX:((12:Int)==1)=false:=by decide
   have kc:((12:Int)==2)=false:=by decide
   have f4:((12:Int)==4)=false:=by decide
   have f14:((12:Int)==14)=false:=by decide
   have pR:((12:Int)==3)=false:=by decide
   have f5:((12:Int)==5)=false:=by decide
   have f7:((12:Int)==7)=false:=by decide
   have f11:((12:Int)==11)=false:=by decide
   have f12:((12:Int)==12)=true:=by decide
   rw [show dn 12 l.length=((l.length:Int)==1) by unfold dn;simp];exact ja
  by_cases fm:kd=13
  ·subst fm
   have cX:((13:Int)==1)=false:=by decide
   have kc:((13:Int)==2)=false:=by decide
   have f4:((13:Int)==4)=false:=by decide
   have f14:((13:Int)==14)=false:=by decide
   have pR:((13:Int)==3)=false:=by decide
   have f5:((13:Int)==5)=false:=by decide
   have f7:((13:Int)==7)=false:=by decide
   have f11:((13:Int)==11)=false:=by decide
   have f12:((13:Int)==12)=false:=by decide
   have f13:((13:Int)==13)=true:=by decide
   rw [show dn 13 l.length=((l.length:Int)==1) by unfold dn;simp];exact ja
  by_cases h6:kd=6
  ·subst h6
   have cX:((6:Int)==1)=false:=by decide
   have kc:((6:Int)==2)=false:=by decide
   have f4:((6:Int)==4)=false:=by decide
   have f14:((6:Int)==14)=false:=by decide
   have pR:((6:Int)==3)=false:=by decide
   have f5:((6:Int)==5)=false:=by decide
   have f7:((6:Int)==7)=false:=by decide
   have f11:((6:Int)==11)=false:=by decide
   have f12:((6:Int)==12)=false:=by decide
   have f13:((6:Int)==13)=false:=by decide
   have f6:((6:Int)==6)=true:=by decide
   rw [show dn 6 l.length=((l.length:Int)==2) by unfold dn;simp];exact ja
  by_cases h8:kd=8
  ·subst h8
   have cX:((8:Int)==1)=false:=by decide
   have kc:((8:Int)==2)=false:=by decide
   have f4:((8:Int)==4)=false:=by decide
   have f14:((8:Int)==14)=false:=by decide
   have pR:((8:Int)==3)=false:=by decide
   have f5:((8:Int)==5)=false:=by decide
   have f7:((8:Int)==7)=false:=by decide
   have f11:((8:Int)==11)=false:=by decide
   have f12:((8:Int)==12)=false:=by decide
   have f13:((8:Int)==13)=false:=by decide
   have f6:((8:Int)==6)=false:=by decide
   have f8:((8:Int)==8)=true:=by decide
   rw [show dn 8 l.length=((l.length:Int)==2) by unfold dn;simp];exact ja
  by_cases mc:kd=10
  ·subst mc
   have cX:((10:Int)==1)=false:=by decide
   have kc:((10:Int)==2)=false:=by decide
   have f4:((10:Int)==4)=false:=by decide
   have f14:((10:Int)==14)=false:=by decide
   have pR:((10:Int)==3)=false:=by decide
   have f5:((10:Int)==5)=false:=by decide
   have f7:((10:Int)==7)=false:=by decide
   have f11:((10:Int)==11)=false:=by decide
   have f12:((10:Int)==12)=false:=by decide
   have f13:((10:Int)==13)=false:=by decide
   have f6:((10:Int)==6)=false:=by decide
   have f8:((10:Int)==8)=false:=by decide
   have f10:((10:Int)==10)=true:=by decide
   rw [show dn 10 l.length=((l.length:Int)==2) by unfold dn;simp];exact ja
  by_cases h9:kd=9
  ·subst h9
   have cX:((9:Int)==1)=false:=by decide
   have kc:((9:Int)==2)=false:=by decide
   have f4:((9:Int)==4)=false:=by decide
   have f14:((9:Int)==14)=false:=by decide
   have pR:((9:Int)==3)=false:=by decide
   have f5:((9:Int)==5)=false:=by decide
   have f7:((9:Int)==7)=false:=by decide
   have f11:((9:Int)==11)=false:=by decide
   have f12:((9:Int)==12)=false:=by decide
   have f13:((9:Int)==13)=false:=by decide
   have f6:((9:Int)==6)=false:=by decide
   have f8:((9:Int)==8)=false:=by decide
   have f10:((9:Int)==10)=false:=by decide
   have f9:((9:Int)==9)=true:=by decide
   cases hq:((l.length:Int)==2) with
   | true =>
    rw [show dn 9 l.length=true by unfold dn;simp [hq]];exact ja
   | false =>
    rw [show dn 9 l.length=((l.length:Int)==3) by unfold dn;simp [hq]];exact ja
  have e:dn kd l.length=false:=by unfold dn;simp [L,I,h4,Br,h3,h5,h7,pz,o0,fm,h6,h8,mc,h9]
  rw [e]
  have g1:(kd==1)=false:=by simpa using L
  have g2:(kd==2)=false:=by simpa using I
  have g4:(kd==4)=false:=by simpa using h4
  have g14:(kd==14)=false:=by simpa using Br
  have g3:(kd==3)=false:=by simpa using h3
  have g5:(kd==5)=false:=by simpa using h5
  have g7:(kd==7)=false:=by simpa using h7
  have g11:(kd==11)=false:=by simpa using pz
  have g12:(kd==12)=false:=by simpa using o0
  have g13:(kd==13)=false:=by simpa using fm
  have g6:(kd==6)=false:=by simpa using h6
  have g8:(kd==8)=false:=by simpa using h8
  have g10:(kd==10)=false:=by simpa using mc
  have g9:(kd==9)=false:=by simpa using h9
  exact ja
 ·rintro _ _ ⟨rfl,rfl⟩;generalize dn kd t.kids.length=b0;refine D ?_;refine GW.range (bT t.kids).length (fun k fr F=>fr=[U,U,U,U,.v (.bool (b0&&(t.kids.take k).all gV)),U,U,U,U,U,U,U,U,U,U,U,U,U,U,U,U,U,U,U,U,U,U,U,U,U,U,U,U,U,U,U,U,U,U,U,U,U,U,U,U,U,U,U,U,U,U,.sl 1 (bT t.kids),.v (ii ((bT t.kids).length:Int)),.v (ii (k:Nat)),U,U,U,U,U,U,U,U,U,U]/\F=[]) ?_ G ?_ ?_ ?_
  ·refine ⟨_,_,Wk.aE (cJ:=[U,U,U,U,.v (.bool b0),U,U,U,U,U,U,U,U,U,U,U,U,U,U,U,U,U,U,U,U,U,U,U,U,U,U,U,U,U,U,U,U,U,U,U,U,U,U,U,U,U,U,U,U,U,U,.sl 1 (bT t.kids),.v (ii ((bT t.kids).length:Int)),.v (ii (0:Nat)),U,U,U,U,U,U,U,U,U,U]) ao,?_,rfl⟩;rw [List.take_zero,List.all_nil,Bool.and_true]
  ·rintro k _ _ ⟨rfl,rfl⟩;exact et
  ·rintro k _ _ ak ⟨rfl,rfl⟩;rw [qd] at ak;obtain ⟨kid,ku⟩:∃ kid,t.kids[k]?=some kid:=⟨t.kids[k],by simp [ak]⟩;have hr:=sC ku;have dE:=Go.Xp.iu ku;have hle:=Go.Xp.ir t.kids (k+1);have uf:=ih kid G G
   have aY:(t.kids.take (k+1)).all gV=((t.kids.take k).all gV&&gV kid):=by rw [cm,ku,List.all_append];simp
   rw [aY,<-Bool.and_assoc];generalize (b0&&(t.kids.take k).all gV)=b at *
   cases b with
   | true =>
    refine D ?_;refine V [] uf ?_;exact ⟨rfl,rfl,_,_,Wk.aE ao,rfl,rfl⟩
   | false =>
    refine D ?_;exact ⟨rfl,rfl,_,_,Wk.aE ao,rfl,rfl⟩
  ·rintro _ _ ⟨rfl,rfl⟩;rw [qd,b7];exact ay
def xq (l:List T):Int:=match l.findIdx? (fun t=>!(gV t)) with | some i=>(i:Int) | none => -1
theorem M5 (t:T) (hb:aQ t<=1099511627776):GF prog 111 [uT t] [] (.v (.bool (!(gV t)))) []:=by
 have h:=Pt _ t (aD _) hb;generalize gV t=b at *;refine ah func111 ntmps111 ?_;refine V [] h ?_;exact al
theorem Hp (l:List T) (hl:l.length<=1099511627776) (hb:∀ t∈l,aQ t<=1099511627776) :
  GF prog 156 [.sl 1 (bT l),.v (.func (.func 111) #[] #[])] [] (.v (ii (xq l))) []:=by
 have qd:=mI l;refine ah func156 ntmps156 ?_;refine GW.range (bT l).length (fun k fr F=>fr=[.sl 1 (bT l),.v (.func (.func 111) #[] #[]),U,U,U,U,U,.v (ii ((bT l).length:Int)),.v (ii (k:Nat)),U,U,U,U,U,U,U,U,U,U]/\F=[]/\(l.take k).all gV=true) ?_ G ?_ ?_ ?_
 ·exact kQ
 ·exact iI
 ·rintro k _ _ ak ⟨rfl,rfl,aY⟩;rw [qd] at ak
  have dI:l[k]?=some l[k]:=by simp [ak]
  have hr:=sC dI;have cV:=M5 l[k] (hb _ (List.getElem_mem ak))
  have bK:(l.take (k+1)).all gV=((l.take k).all gV&&gV l[k]):=by rw [cm,dI,List.all_append];simp
  have zY:gV l[k]=false->xq l=(k:Int):=fun h0=>by
   have:l.findIdx? (fun t=>!(gV t))=some k:=by
    rw [List.findIdx?_eq_some_iff_getElem];refine ⟨ak,by simp [h0],fun j hj=>?_⟩;rw [gK] at aY;have:=aY l[j] (by rw [List.mem_take_iff_getElem];exact ⟨j,by omega,rfl⟩);simp [this]
   unfold xq;rw [this]
  generalize l[k]=t at *
  cases hk:gV t with
  | true =>
   rw [hk] at cV bK;refine D ?_;refine jz [] cV ?_;refine D ?_;exact ⟨rfl,rfl,_,_,Wk.aE ao,rfl,rfl,by rw [bK,aY];rfl⟩
  | false =>
   rw [hk] at cV;rw [zY hk];refine D ?_;refine jz [] cV ?_;exact ay
 ·rintro _ _ ⟨rfl,rfl,aY⟩;rw [qd,b7] at aY
  have:l.findIdx? (fun t=>!(gV t))=none:=by
   rw [List.findIdx?_eq_none_iff];intro x hx;rw [gK] at aY;simp [aY x hx]
  unfold xq;rw [this];exact ay
theorem PT (l:List T):decide ((0:Int)<=xq l)=!(l.all gV):=by
 unfold xq
 cases h:l.findIdx? (fun t=>!(gV t)) with
 | some i =>
  rw [List.findIdx?_eq_some_iff_getElem] at h;obtain ⟨L,I,_⟩:=h
  have:l.all gV=false:=by
   rw [List.all_eq_false];exact ⟨l[i],List.getElem_mem _,by simpa using I⟩
  rw [this];simp
 | none =>
  rw [List.findIdx?_eq_none_iff] at h
  have:l.all gV=true:=by rw [gK];intro x hx;simpa using h x hx
  rw [this];rfl
theorem vA (l:List T) (hl:l.length<=1099511627776) (hb:∀ t∈l,aQ t<=1099511627776) :
  GF prog 110 [.sl 1 (bT l),.v (.func (.func 111) #[] #[])] [] (.v (.bool (!(l.all gV)))) []:=by
 have h:=Hp l hl hb;rw [<-PT];generalize xq l=z at *;refine ah func110 ntmps110 ?_;refine V [] h ?_;exact al
end Go.Xg
set_option maxHeartbeats 2000000
namespace Go.Xg
open Go.RowKit Go.Xw Go.Proofs Tryz
open Go.Xp (Tok Nd T Ar aQ aB bO)
open Go.Sp (Src)
open Go.Im
attribute [local irreducible] GW GL GO YG GC GA be bd
theorem Qt:Wr 114 115 de fV :=
 ⟨fun a L I h3=>S8 _ a (aD _) L I h3,fun l d L I h3=>Pm l d L I,fun l d s h=>Pn h⟩
theorem ER (p:Src) (h:p.nodes.length > 800):GF prog 63 [.agg (ar p)] [] (.v (.bool false)) []:=by
 have hm:(p.nodes.map aw).length=p.nodes.length:=by simp
 have hd:decide ((800:Int) < ((p.nodes.map aw).length:Int))=true:=by rw [hm];simpa using by omega
 refine ah func63 ntmps63 ?_;exact al
theorem Cx (p:Src) (h:p.nodes.length<=800) (hk:∀ n∈p.nodes,n.kids.length<=1099511627776) (hf:p.fns.length<=1099511627776) (hb:j0 p.nodes p.fns 0 []=none):GF prog 63 [.agg (ar p)] [] (.v (.bool false)) []:=by
 have hm:(p.nodes.map aw).length=p.nodes.length:=by simp
 have hd:decide ((800:Int) < ((p.nodes.map aw).length:Int))=false:=by rw [hm];simpa using by omega
 have hB:=tV p G hk hf;rw [hb] at hB;unfold Ay at hB;refine ah func63 ntmps63 ?_;refine V [] hB ?_;exact al
theorem Hk (p:Src) (l:List T) (e:Nat) (h:p.nodes.length<=800) (hk:∀ n∈p.nodes,n.kids.length<=1099511627776) (hf:p.fns.length<=1099511627776) (hb:j0 p.nodes p.fns 0 []=some (l,e)) (he:e≠p.nodes.length):GF prog 63 [.agg (ar p)] [] (.v (.bool false)) []:=by
 have hm:(p.nodes.map aw).length=p.nodes.length:=by simp
 have hd:decide ((800:Int) < ((p.nodes.map aw).length:Int))=false:=by rw [hm];simpa using by omega
 have hB:=tV p G hk hf;rw [hb] at hB;unfold Ay at hB;simp only at hB;rw [show ((e:Int)==(p.nodes.length:Int))=false by simp only [beq_eq_false_iff_ne,ne_eq];omega] at hB;refine ah func63 ntmps63 ?_;refine V [] hB ?_;exact al
theorem EP (p:Src) (l:List T) (h:p.nodes.length<=800) (hk:∀ n∈p.nodes,n.kids.length<=1099511627776) (hf:p.fns.length<=1099511627776) (hb:j0 p.nodes p.fns 0 []=some (l,p.nodes.length)) (hl:l.length<=1099511627776) (hs:∀ t∈l,aQ t<=1099511627776) (hn:l.all gV=false):GF prog 63 [.agg (ar p)] [] (.v (.bool false)) []:=by
 have hm:(p.nodes.map aw).length=p.nodes.length:=by simp
 have hd:decide ((800:Int) < ((p.nodes.map aw).length:Int))=false:=by rw [hm];simpa using by omega
 have hB:=tV p G hk hf;rw [hb] at hB;unfold Ay at hB;simp only at hB;rw [show ((p.nodes.length:Int)==(p.nodes.length:Int))=true by simp] at hB;have hC:=vA l hl hs;rw [hn] at hC;refine ah func63 ntmps63 ?_;refine V [] hB ?_;refine V [] hC ?_;exact al
theorem NJ (st:PS) (h:st.fns.length=st.trees.length):od st.fns st.trees st.trees.length=(pM st).map au:=by
 unfold od pM;apply ext_getElem?;intro i;rw [aV,List.getElem?_mapIdx,List.getElem?_mapIdx]
 cases hx:st.fns[i]? with
 | none=>rfl
 | some x =>
  have hi:=(bp hx).1;simp only [Option.map_some];rw [ab G];rfl
def Rs (st:PS):Src:=⟨st.globals,st.arrays,pM st,bO 0 st.trees⟩
theorem Vm {q:Go.Sp.RS} {st:PS} (hc:q.code=0) (h8:¬ aB st.trees > 800) (h:st.fns.length=st.trees.length):Jl q st=.tup [.agg (ar (Rs st)),.v (ii 0),.v (ii 0)]:=by
 unfold Jl;rw [ab hc,M h8,NJ st h];rfl
theorem Hl (p:Src) (l:List T) (x:ae) (ts:List Tok) (c z:Int) (h:p.nodes.length<=800) (hB:GF prog 66 [.agg (ar p)] [] (.tup [.sl 1 (bT l),.v (.bool true)]) [])
  (hC:GF prog 110 [.sl 1 (bT l),.v (.func (.func 111) #[] #[])] [] (.v (.bool false)) [])
  (hL:GF prog 113 [.agg (ar p),.sl 1 (bT l),.v (jA 114),.v (jA 115)] [] (.v (sv x)) [])
  (hX:GF prog 116 [.v (sv x)] [] (.tup [jx ts,.v (ii c),.v (ii z)]) []) (hc:(c != 0)=true) :
  GF prog 63 [.agg (ar p)] [] (.v (.bool false)) []:=by
 have hm:(p.nodes.map aw).length=p.nodes.length:=by simp
 have hd:decide ((800:Int) < ((p.nodes.map aw).length:Int))=false:=by rw [hm];simpa using by omega
 refine ah func63 ntmps63 ?_;refine V [] hB ?_;refine V [] hC ?_;refine V [] hL ?_;refine V [] hX ?_;exact al
theorem zN (p:Src) (l:List T) (x:ae) (ts:List Tok) (c k a:Int) (h:p.nodes.length<=800) (hB:GF prog 66 [.agg (ar p)] [] (.tup [.sl 1 (bT l),.v (.bool true)]) [])
  (hC:GF prog 110 [.sl 1 (bT l),.v (.func (.func 111) #[] #[])] [] (.v (.bool false)) [])
  (hL:GF prog 113 [.agg (ar p),.sl 1 (bT l),.v (jA 114),.v (jA 115)] [] (.v (sv x)) [])
  (hX:GF prog 116 [.v (sv x)] [] (.tup [jx ts,.v (ii 0),.v (ii c)]) [])
  (hP:GF prog 117 [jx ts,.v (ii (x.length:Int))] [] (.tup [.agg [.sl 1 [],.sl 2 [],.sl 3 [],.sl 5 []],.v (ii k),.v (ii a)]) []) (hk:(k==0)=false) :
  GF prog 63 [.agg (ar p)] [] (.v (.bool false)) []:=by
 have hm:(p.nodes.map aw).length=p.nodes.length:=by simp
 have hd:decide ((800:Int) < ((p.nodes.map aw).length:Int))=false:=by rw [hm];simpa using by omega
 refine ah func63 ntmps63 ?_;refine V [] hB ?_;refine V [] hC ?_;refine V [] hL ?_;refine V [] hX ?_;refine V [] hP ?_;exact al
theorem JL (p r:Src) (l:List T) (x:ae) (ts:List Tok) (c:Int) (h:p.nodes.length<=800) (hB:GF prog 66 [.agg (ar p)] [] (.tup [.sl 1 (bT l),.v (.bool true)]) [])
  (hC:GF prog 110 [.sl 1 (bT l),.v (.func (.func 111) #[] #[])] [] (.v (.bool false)) [])
  (hL:GF prog 113 [.agg (ar p),.sl 1 (bT l),.v (jA 114),.v (jA 115)] [] (.v (sv x)) [])
  (hX:GF prog 116 [.v (sv x)] [] (.tup [jx ts,.v (ii 0),.v (ii c)]) [])
   (hg:GF prog 118 [strs p.globals,strs r.globals] [] (.v (.bool false)) [])
  (hP:GF prog 117 [jx ts,.v (ii (x.length:Int))] [] (.tup [.agg (ar r),.v (ii 0),.v (ii 0)]) []) :
  GF prog 63 [.agg (ar p)] [] (.v (.bool false)) []:=by
 have hm:(p.nodes.map aw).length=p.nodes.length:=by simp
 have hd:decide ((800:Int) < ((p.nodes.map aw).length:Int))=false:=by rw [hm];simpa using by omega
 refine ah func63 ntmps63 ?_;refine V [] hB ?_;refine V [] hC ?_;refine V [] hL ?_;refine V [] hX ?_;refine V [] hP ?_;refine V [] hg ?_;exact al
theorem JM (p r:Src) (l:List T) (x:ae) (ts:List Tok) (c:Int) (h:p.nodes.length<=800) (hB:GF prog 66 [.agg (ar p)] [] (.tup [.sl 1 (bT l),.v (.bool true)]) [])
  (hC:GF prog 110 [.sl 1 (bT l),.v (.func (.func 111) #[] #[])] [] (.v (.bool false)) [])
  (hL:GF prog 113 [.agg (ar p),.sl 1 (bT l),.v (jA 114),.v (jA 115)] [] (.v (sv x)) [])
  (hX:GF prog 116 [.v (sv x)] [] (.tup [jx ts,.v (ii 0),.v (ii c)]) [])
   (hg:GF prog 118 [strs p.globals,strs r.globals] [] (.v (.bool true)) [])
  (ha:GF prog 119 [(.sl 2 (p.arrays.map fun s=>az s)),(.sl 2 (r.arrays.map fun s=>az s))] [] (.v (.bool false)) [])
  (hP:GF prog 117 [jx ts,.v (ii (x.length:Int))] [] (.tup [.agg (ar r),.v (ii 0),.v (ii 0)]) []) :
  GF prog 63 [.agg (ar p)] [] (.v (.bool false)) []:=by
 have hm:(p.nodes.map aw).length=p.nodes.length:=by simp
 have hd:decide ((800:Int) < ((p.nodes.map aw).length:Int))=false:=by rw [hm];simpa using by omega
 refine ah func63 ntmps63 ?_;refine V [] hB ?_;refine V [] hC ?_;refine V [] hL ?_;refine V [] hX ?_;refine V [] hP ?_;refine V [] hg ?_;refine V [] ha ?_;exact al
theorem JN (p r:Src) (l:List T) (x:ae) (ts:List Tok) (c:Int) (h:p.nodes.length<=800) (hB:GF prog 66 [.agg (ar p)] [] (.tup [.sl 1 (bT l),.v (.bool true)]) [])
  (hC:GF prog 110 [.sl 1 (bT l),.v (.func (.func 111) #[] #[])] [] (.v (.bool false)) [])
  (hL:GF prog 113 [.agg (ar p),.sl 1 (bT l),.v (jA 114),.v (jA 115)] [] (.v (sv x)) [])
  (hX:GF prog 116 [.v (sv x)] [] (.tup [jx ts,.v (ii 0),.v (ii c)]) [])
   (hg:GF prog 118 [strs p.globals,strs r.globals] [] (.v (.bool true)) [])
  (ha:GF prog 119 [(.sl 2 (p.arrays.map fun s=>az s)),(.sl 2 (r.arrays.map fun s=>az s))] [] (.v (.bool true)) [])
  (hf:GF prog 120 [.sl 3 (p.fns.map au),.sl 3 (r.fns.map au),.v (.func (.func 121) #[] #[])] [] (.v (.bool false)) [])
  (hP:GF prog 117 [jx ts,.v (ii (x.length:Int))] [] (.tup [.agg (ar r),.v (ii 0),.v (ii 0)]) []) :
  GF prog 63 [.agg (ar p)] [] (.v (.bool false)) []:=by
 have hm:(p.nodes.map aw).length=p.nodes.length:=by simp
 have hd:decide ((800:Int) < ((p.nodes.map aw).length:Int))=false:=by rw [hm];simpa using by omega
 refine ah func63 ntmps63 ?_;refine V [] hB ?_;refine V [] hC ?_;refine V [] hL ?_;refine V [] hX ?_;refine V [] hP ?_;refine V [] hg ?_;refine V [] ha ?_;refine V [] hf ?_;exact al
theorem JO (p r:Src) (l:List T) (x:ae) (ts:List Tok) (c:Int) (b:Bool) (h:p.nodes.length<=800) (hB:GF prog 66 [.agg (ar p)] [] (.tup [.sl 1 (bT l),.v (.bool true)]) [])
  (hC:GF prog 110 [.sl 1 (bT l),.v (.func (.func 111) #[] #[])] [] (.v (.bool false)) [])
  (hL:GF prog 113 [.agg (ar p),.sl 1 (bT l),.v (jA 114),.v (jA 115)] [] (.v (sv x)) [])
  (hX:GF prog 116 [.v (sv x)] [] (.tup [jx ts,.v (ii 0),.v (ii c)]) [])
   (hg:GF prog 118 [strs p.globals,strs r.globals] [] (.v (.bool true)) [])
  (ha:GF prog 119 [(.sl 2 (p.arrays.map fun s=>az s)),(.sl 2 (r.arrays.map fun s=>az s))] [] (.v (.bool true)) [])
  (hf:GF prog 120 [.sl 3 (p.fns.map au),.sl 3 (r.fns.map au),.v (.func (.func 121) #[] #[])] [] (.v (.bool true)) [])
  (hn:GF prog 122 [.sl 5 (p.nodes.map aw),.sl 5 (r.nodes.map aw),.v (.func (.func 123) #[] #[])] [] (.v (.bool b)) [])
  (hP:GF prog 117 [jx ts,.v (ii (x.length:Int))] [] (.tup [.agg (ar r),.v (ii 0),.v (ii 0)]) []) :
  GF prog 63 [.agg (ar p)] [] (.v (.bool b)) []:=by
 have hm:(p.nodes.map aw).length=p.nodes.length:=by simp
 have hd:decide ((800:Int) < ((p.nodes.map aw).length:Int))=false:=by rw [hm];simpa using by omega
 refine ah func63 ntmps63 ?_;refine V [] hB ?_;refine V [] hC ?_;refine V [] hL ?_;refine V [] hX ?_;refine V [] hP ?_;refine V [] hg ?_;refine V [] ha ?_;refine V [] hf ?_;refine V [] hn ?_;exact al
theorem ES (p r:Src) (l:List T) (x:ae) (ts:List Tok) (c:Int) (b1 b2 b3 b4:Bool) (h:p.nodes.length<=800) (hB:GF prog 66 [.agg (ar p)] [] (.tup [.sl 1 (bT l),.v (.bool true)]) [])
  (hC:GF prog 110 [.sl 1 (bT l),.v (.func (.func 111) #[] #[])] [] (.v (.bool false)) [])
  (hL:GF prog 113 [.agg (ar p),.sl 1 (bT l),.v (jA 114),.v (jA 115)] [] (.v (sv x)) [])
  (hX:GF prog 116 [.v (sv x)] [] (.tup [jx ts,.v (ii 0),.v (ii c)]) [])
  (hg:GF prog 118 [strs p.globals,strs r.globals] [] (.v (.bool b1)) [])
  (ha:GF prog 119 [(.sl 2 (p.arrays.map fun s=>az s)),(.sl 2 (r.arrays.map fun s=>az s))] [] (.v (.bool b2)) [])
  (hf:GF prog 120 [.sl 3 (p.fns.map au),.sl 3 (r.fns.map au),.v (.func (.func 121) #[] #[])] [] (.v (.bool b3)) [])
  (hn:GF prog 122 [.sl 5 (p.nodes.map aw),.sl 5 (r.nodes.map aw),.v (.func (.func 123) #[] #[])] [] (.v (.bool b4)) [])
  (hP:GF prog 117 [jx ts,.v (ii (x.length:Int))] [] (.tup [.agg (ar r),.v (ii 0),.v (ii 0)]) []) :
  GF prog 63 [.agg (ar p)] [] (.v (.bool (b1&&(b2&&(b3&&b4))))) []:=by
 cases b1 with
 | false=>exact JL p r l x ts c h hB hC hL hX hg hP
 | true =>
  cases b2 with
  | false=>exact JM p r l x ts c h hB hC hL hX hg ha hP
  | true =>
   cases b3 with
   | false=>exact JN p r l x ts c h hB hC hL hX hg ha hf hP
   | true=>exact JO p r l x ts c b4 h hB hC hL hX hg ha hf hn hP
end Go.Xg
set_option maxHeartbeats 1000000
namespace Go.Xg
open Go.RowKit Go.Xw Go.Proofs Tryz
open Go.Xp (Tok Nd T Ar aQ aB bO)
open Go.Sp (Src)
open Go.Im
attribute [local irreducible] GW GL GO YG GC GA be bd
theorem Mb {st:PS} {f:Go.Sp.Fn} (h:f∈pM st):∃ x∈st.fns,f.params=x.2:=by
 unfold pM at h;obtain ⟨i,hi⟩:=List.getElem?_of_mem h;rw [List.getElem?_mapIdx] at hi
 cases hx:st.fns[i]? with
 | none=>rw [hx] at hi;cases hi
 | some x=>rw [hx] at hi;cases hi;exact ⟨x,bF hx,rfl⟩
theorem xS (p:Src) (hw:df p<=1048576) (hn:qm p):GF prog 63 [.agg (ar p)] [] (.v (.bool (fI p))) []:=by
 obtain ⟨⟨s1,s2⟩,⟨s3,s4⟩,⟨s5,s6⟩,⟨s7,s8⟩⟩:=ju p
 have iT:∀ n∈p.nodes,n.kids.length<=1099511627776:=fun n h=>by have:=(s8 n h).2;omega
 have hB:=tV p G iT G;unfold fI
 by_cases h8:p.nodes.length > 800
 ·rw [ab h8];exact ER p h8
 rw [M h8]
 cases hb:j0 p.nodes p.fns 0 [] with
 | none=>exact Cx p G iT G hb
 | some y =>
  obtain ⟨l,e⟩:=y;simp only
  by_cases he:e≠p.nodes.length
  ·rw [ab he];exact Hk p l e G iT G hb he
  rw [M he]
  have he:e=p.nodes.length:=by simpa using he
  subst he;obtain ⟨l',L,I,h3,h4,h5⟩:=CD _ _ _ _ _ hb;rw [nil_append] at L;subst L
  have hz:aB l=p.nodes.length:=by omega
  have aak:=Sm hn I hz;have qd:=G6 I hz;have re:=eT.len h3;have Zb:=dC.num hn.nodes l 0 I
  by_cases hk:l.all gV=false
  ·rw [ab hk];exact EP p l G iT G hb G (fun t ht=>by have:=(qd t ht).2;omega) hk
  rw [M hk]
  have hk:l.all gV=true:=by simpa using hk
  obtain ⟨ts,c,z,q,st,hr⟩:=reads (nR de fV p l);rw [A5 hr];rw [hb] at hB;unfold Ay at hB;simp only at hB;rw [show ((p.nodes.length:Int)==(p.nodes.length:Int))=true by simp] at hB;have hC:=vA l G (fun t ht=>by have:=(qd t ht).2;omega);rw [hk] at hC;have hL:=PA 114 115 de fV Qt p l G G G G G hn.arrays (fun f h=>by have:=(s6 f h).2.1;omega)
   (fun t ht=>⟨gK.1 hk t ht,ky Zb ht,by have:=(qd t ht).1;omega,by have:=(qd t ht).2;omega⟩)
  have hX:=PK _ _ ts c z G hr.lex;have aaD:=hr.len;have hP:=HP ts (((nR de fV p l).length:Nat):Int) q st G G (fun h=>by have:=(hr.ok h).2;omega) hr.read;have jh:=M0 _ _ _ _ _ _ (aD _) hr.read ⟨aM _,aM _,aM _,fun x h=>by cases h⟩;have eW:=hr.ok;clear hr hb;generalize hxg:nR de fV p l=x at *
  by_cases hc:c≠0
  ·rw [ab hc];exact Hl p l x ts c z G hB hC hL hX (by simpa using hc)
  rw [M hc]
  have hc:c=0:=by simpa using hc
  subst hc
  by_cases hq:q.code≠0
  ·rw [ab hq];unfold Jl at hP;rw [M hq] at hP;exact zN p l x ts z q.code q.at_ G hB hC hL hX hP (by simpa using hq)
  rw [M hq]
  have hq:q.code=0:=by simpa using hq
  obtain ⟨DU,MU⟩:=eW hq
  by_cases h9:aB st.trees > 800
  ·rw [ab h9];unfold Jl at hP;rw [ab hq,ab h9] at hP;exact zN p l x ts z 10 0 G hB hC hL hX hP aR
  rw [M h9];rw [Vm hq h9 DU.len] at hP;obtain ⟨m1,m2,m3,m4⟩:=jh
  have iq:(bO 0 st.trees).length<=800:=by rw [Go.Xp.iN];omega
  unfold same;refine ES p (Rs st) l x ts z _ _ _ _ G hB hC hL hX ?_ ?_ ?_ ?_ hP
  ·exact HZ _ _ G (by show st.globals.length<=_;omega)
  ·exact RH _ _ G (by show st.arrays.length<=_;omega)
  ·refine Hi p.fns (pM st) G ?_ (fun f h=>by have:=(s6 f h).2.1;omega) (fun f h=>?_)
   ·unfold pM;rw [List.length_mapIdx];omega
   ·obtain ⟨y,hy,h6⟩:=Mb h;rw [h6];have:=m4 y hy;omega
  ·exact Hj p.nodes (bO 0 st.trees) G G iT (fun n h=>by have:=AE st.trees 0 n h;omega)
end Go.Xg
set_option maxHeartbeats 2000000
namespace Go.Im
open Go.Xp Go.Sp
def Va (p:Src):List ae:=if fI p=true then bE p else []
theorem oS (p:Src):(bE p).length=p.globals.length+p.arrays.length+p.fns.length:=by simp [bE,dc,fq];omega
end Go.Im
namespace Go.Xg
open GV (U)
open Go.RowKit Go.Xw Go.Proofs Tryz
open Go.Xp (Nd Ar)
open Go.Sp (Src)
open Go.Im
attribute [local irreducible] GW GL GO YG GC GA be bd
theorem tt:∀ l:List ae,ig (bA l)=true
 | []=>rfl
 | s::l=>by
  have:=tt l;unfold bA at this |-;rw [List.map_cons,ig,this];rfl
theorem fw (l:List ae):(bA l).length=l.length:=by simp [bA]
theorem wM (p:Src) (hw:df p<=1048576):GC prog 38 [.agg (ar p)] [] fun g Δ=>∃ a c,g=.v (.slice a (bE p).length c)/\Δ=[.vech 9 1 (bA (bE p)) (.slice a (bE p).length c)]:=by
 obtain ⟨⟨a1,a2⟩,⟨b1,b2⟩,⟨c1,c2⟩,⟨d1,d2⟩⟩:=ju p
 have uX:(p.globals.map fun s=>[GV.v (sv s)]).length=p.globals.length:=by simp
 have gB:ig (p.globals.map fun s=>[GV.v (sv s)])=true:=tt p.globals;refine cY func38 ntmps38 ?_;refine GW.wk (Wk.jq 9 1) ?_;simp only [nil_append];refine D ?_;refine GL.pL 0 rfl rfl rfl rfl gB (by refine ⟨?_,?_⟩;(· rw [uX];omega);(· rw [uX];omega)) ?_;intro a c;rw [uX];refine bJ ?_;simp only [nil_append,List.length_nil,cL];refine D ?_;refine GW.range (p.arrays.map az).length (fun k fr F=>∃ a c R n,fr=[U,.loc 1 0,U,.v (.slice a n c),U,U,U,U,U,U,U,U,.sl 2 (p.arrays.map az),.v (ii ((p.arrays.map az).length:Int)),.v (ii (k:Nat)),U,U,U,U,U,U,U,U,U,U,U,U,U,U,U,U,U,U,U,U,U,U,U]/\F=[.vech 9 1 R (.slice a n c),.box 33 (ar p)]/\R.length=n/\R=bA (p.globals++(dc p).take k)) ?_ (by rw [bP];omega) ?_ ?_ ?_
 ·exact ⟨_,_,Wk.aE ao,_,_,_,_,rfl,rfl,uX,by simp [bA]⟩
 ·rintro k _ _ ⟨a,c,R,n,rfl,rfl,_⟩;exact et
 ·rintro k _ _ hk ⟨a,c,R,n,rfl,rfl,ef,hR⟩
  have hk:k < p.arrays.length:=by simpa using hk
  have hx:p.arrays[k]?=some p.arrays[k]:=by simp [hk]
  have hr:=B6 hx
  have bK:bA (p.globals++(dc p).take (k+1))=R++[[.v (sv p.arrays[k].name)]]:=by
   have:(dc p)[k]?=some p.arrays[k].name:=by rw [dc,aV,hx];rfl
   rw [cm,this,hR];simp [bA]
  have vT:n<=4194304:=by
   rw [<-ef,hR,fw,aU,cS];omega
  clear hR;unfold az at hr;generalize p.arrays[k]=x at *;refine D ?_;refine GL.oc 0 rfl rfl rfl rfl rfl rfl rfl rfl bm qR ?_;intro a2 c2;refine cE ?_;refine D ?_;exact ⟨rfl,rfl,_,_,(Wk.cut (n:=2) (aM _) rfl).trans (Wk.aE ao),a2,c2,_,_,rfl,rfl,by simp [ef],bK.symm⟩
 ·rintro _ _ ⟨a,c,R,n,rfl,rfl,ef,hR⟩;rw [bP,show p.arrays.length=(dc p).length by simp [dc],b7] at hR;refine aW ?_;refine D ?_;refine GW.range (p.fns.map au).length (fun k fr F=>∃ a c R n,fr=[U,.loc 1 0,U,.v (.slice a n c),U,U,U,U,U,U,U,U,U,U,U,U,U,U,U,U,U,U,U,U,U,.sl 3 (p.fns.map au),.v (ii ((p.fns.map au).length:Int)),.v (ii (k:Nat)),U,U,U,U,U,U,U,U,U,U]/\F=[.vech 9 1 R (.slice a n c),.box 33 (ar p)]/\R.length=n/\R=bA ((p.globals++dc p)++(fq p).take k)) ?_ (by rw [bP];omega) ?_ ?_ ?_
  ·exact ⟨_,_,Wk.aE ao,_,_,_,_,rfl,rfl,ef,by rw [hR];simp⟩
  ·rintro k _ _ ⟨a,c,R,n,rfl,rfl,_⟩;exact et
  ·rintro k _ _ hk ⟨a,c,R,n,rfl,rfl,ef,hR⟩
   have hk:k < p.fns.length:=by simpa using hk
   have hx:p.fns[k]?=some p.fns[k]:=by simp [hk]
   have hr:=sB hx
   have bK:bA ((p.globals++dc p)++(fq p).take (k+1))=R++[[.v (sv p.fns[k].name)]]:=by
    have:(fq p)[k]?=some p.fns[k].name:=by rw [fq,aV,hx];rfl
    rw [cm,this,hR];simp [bA]
   have vT:n<=4194304:=by
    rw [<-ef,hR,fw,aU,aU,cS,dc,bP];omega
   clear hR;unfold au at hr;generalize p.fns[k]=x at *;refine D ?_;refine GL.oc 0 rfl rfl rfl rfl rfl rfl rfl rfl bm qR ?_;intro a2 c2;refine cE ?_;refine D ?_;exact ⟨rfl,rfl,_,_,(Wk.cut (n:=2) (aM _) rfl).trans (Wk.aE ao),a2,c2,_,_,rfl,rfl,by simp [ef],bK.symm⟩
  ·rintro _ _ ⟨a,c,R,n,rfl,rfl,ef,hR⟩;rw [bP,show p.fns.length=(fq p).length by simp [fq],b7] at hR
   have sq:n=(bE p).length:=by rw [<-ef,hR,fw];rfl
   subst sq;refine aW ?_;refine D ?_;refine nW ?_;exact CM (n:=1) rfl dF rfl (aM _) rfl rfl ⟨a,c,rfl,by rw [hR];rfl⟩
end Go.Xg
namespace Go.Im
open Go.Xp
def mC (n:Nat):ae:=109::c6 n
theorem CG {n:Nat} (h:n < 10):c6 n=[UInt8.ofNat (48+n)]:=by rw [c6,dif_pos h]
theorem Ij {n:Nat} (h:¬ n < 10):c6 n=c6 (n / 10)++[UInt8.ofNat (48+n % 10)]:=by rw [c6,dif_neg h]
end Go.Im
namespace Go.Xg
open GV (U)
open Go.RowKit Go.Xw Go.Proofs Tryz
open Go.Xp (Nd Ar c6 pQ)
open Go.Sp (Src)
open Go.Im (mC CG Ij)
attribute [local irreducible] GW GL GO YG GC GA be bd
theorem lL (n:Nat) (hn:n<=1099511627776):GF prog 101 [.v (ii (n:Int))] [] (.v (sv (mC n))) []:=by
 unfold mC
 by_cases h0:n=0
 ·subst h0;rw [CG G];refine ah func101 ntmps101 ?_;exact al
 have QT:decide ((n:Int)<=0)=false:=by simpa using by omega
 have Ul:=pQ n;refine ah func101 ntmps101 ?_;refine GW.loop (fun st:Nat × ae=>st.1) (fun st fr F=>fr=[.v (ii (st.1:Nat)),U,U,.v (sv st.2),U,U,U,U,U,U,U,U,U,U,U,U,U,U,U,U]/\F=[]/\st.1<=n/\st.2.length<=n+1/\(st.1=0->st.2=c6 n)/\(st.1 > 0->c6 st.1++st.2=c6 n)) (n,[]) ?_ ?_
 ·exact ⟨_,_,Wk.aE ao,rfl,rfl,aD _,aM _,fun h=>absurd h h0,fun _=>by simp⟩
 rintro ⟨k,y⟩ _ _ ⟨rfl,rfl,hk,XN,hz,hp⟩;simp only at hk XN hz hp
 by_cases ak:k > 0
 ·have hd:decide ((0:Int) < (k:Int))=true:=by simpa using ak
  have hq:=hp ak;have hw:=yS (48+k % 10) G;rw [Int.natCast_add] at hw
  have bK:(k / 10=0->[UInt8.ofNat (48+k % 10)]++y=c6 n)/\(k / 10 > 0->c6 (k / 10)++([UInt8.ofNat (48+k % 10)]++y)=c6 n):=by
   by_cases mc:k < 10
   ·rw [CG mc] at hq;refine ⟨fun _=>?_,fun h=>by omega⟩;rw [Nat.mod_eq_of_lt mc];exact hq
   ·rw [Ij mc,cK] at hq;exact ⟨fun h=>by omega,fun _=>hq⟩
  have sq:([UInt8.ofNat (48+k % 10)]++y).length<=n+1:=by
   by_cases mc:k / 10=0
   ·rw [bK.1 mc];exact Ul
   ·have:=congrArg List.length (bK.2 G);rw [aU] at this;omega
  refine D ?_;refine cw ?_;refine D ?_;exact ⟨(k / 10,[UInt8.ofNat (48+k % 10)]++y),⟨_,_,Wk.aE ao,rfl,rfl,by show k / 10<=n;omega,sq,bK.1,bK.2⟩,by show k / 10 < k;omega⟩
 ·have hd:decide ((0:Int) < (k:Int))=false:=by simpa using ak
  have hy:=hz G;subst hy;refine cl ?_;exact ay
def marks (k n:Nat):List (List GV):=(List.range n).map fun i=>[GV.v (sv (mC (k+i)))]
theorem ve (k n:Nat):(marks k n).length=n:=by simp [marks]
theorem KN (k n:Nat):marks k (n+1)=marks k n++[[.v (sv (mC (k+n)))]]:=by simp [marks,range_succ]
theorem PM {k n i:Nat} (h:i < n):(marks k n)[i]?=some [.v (sv (mC (k+i)))]:=by simp [marks,h]
theorem Np (k:Nat) (rows:List (List GV)) {i:Nat} (h:i < rows.length):(marks k i++rows.drop i).set i [.v (sv (mC (k+i)))]=marks k (i+1)++rows.drop (i+1):=by
 rw [kW h,set_append_right _ _ (by rw [ve];exact aD _),ve,iJ,set_cons_zero,KN,cK];rfl
theorem xM (a:Option Addr) (c n k:Nat) (rows:List (List GV)) (hn:rows.length=n) (hb:k+n<=1099511627776) :
  GF prog 50 [.v (.slice a n c),.v (ii (k:Nat))] [.vech 9 1 rows (.slice a n c)] (.v (ii ((k+n:Nat):Int))) [.vech 9 1 (marks k n) (.slice a n c)]:=by
 refine ah func50 ntmps50 ?_;refine GW.loop (fun i:Nat=>n - i) (fun i fr F=>∃ R,fr=[.v (.slice a n c),.v (ii ((k+i:Nat):Int)),U,U,U,.v (ii (i:Nat)),U,U,U,U,U,U,U,U,U,U,U,U,U,U]/\F=[.vech 9 1 R (.slice a n c)]/\i<=n/\R=marks k i++rows.drop i) 0 ?_ ?_
 ·exact ⟨_,_,Wk.aE ao,_,rfl,rfl,aM _,rfl⟩
 rintro i _ _ ⟨R,rfl,rfl,hi,hR⟩
 have ef:R.length=n:=by rw [hR,aU,ve,iK];omega
 by_cases ak:i < n
 ·have hd:decide ((i:Int) < (n:Int))=true:=by simpa using ak
  have hc:=lL (k+i) G;have bY:=Np k rows (i:=i) G;rw [<-hR] at bY;clear hR;generalize mC (k+i)=x at *;refine D ?_;refine V [] hc ?_;refine lx ?_;refine D ?_;exact ⟨i+1,⟨_,_,Wk.aE ao,_,rfl,rfl,ak,bY⟩,by show n - (i+1) < n - i;omega⟩
 ·have hd:decide ((i:Int) < (n:Int))=false:=by simpa using ak
  have fi:i=n:=by omega
  subst fi;rw [List.drop_of_length_le G,cq] at hR;subst hR;refine cl ?_;exact ay
theorem xH (k n:Nat) (hb:k+n<=1099511627776):GF prog 54 [.sl 1 (marks k n),.v (ii (k:Nat))] [] (.v (ii ((k+n:Nat):Int))) []:=by
 have hm:=ve k n;refine ah func54 ntmps54 ?_;refine GW.loop (fun i:Nat=>n - i) (fun i fr F=>fr=[.sl 1 (marks k n),.v (ii ((k+i:Nat):Int)),U,U,U,.v (ii (i:Nat)),U,U,U,U,U,U,U,U,U,U,U,U,U,U,U,U]/\F=[]/\i<=n) 0 ?_ ?_
 ·exact ⟨_,_,Wk.aE ao,rfl,rfl,aM _⟩
 rintro i _ _ ⟨rfl,rfl,hi⟩
 by_cases ak:i < n
 ·have hd:decide ((i:Int) < ((marks k n).length:Int))=true:=by rw [hm];simpa using ak
  have hc:=lL (k+i) G;have hr:=PM (k:=k) ak;generalize mC (k+i)=x at *
  have hs:(!(x==x))=false:=by simp
  refine D ?_;refine aK (aC 0 5 (.a 5 (.q 6 .nil))) ?_;refine aj ?_;refine aI [] hc ?_;refine D ?_;exact ⟨i+1,⟨_,_,Wk.aE ao,rfl,rfl,ak⟩,by show n - (i+1) < n - i;omega⟩
 ·have hd:decide ((i:Int) < ((marks k n).length:Int))=false:=by rw [hm];simpa using ak
  have fi:i=n:=by omega
  subst fi;refine cl ?_;exact ay
end Go.Xg
namespace Go.Xg
open Go.RowKit Go.Xw Go.Proofs
open Go.Xp (Nd Ar c6 pQ)
open Go.Sp (Src)
open Go.Im (mC)
attribute [local irreducible] GW GL GO YG GC GA be bd
theorem C3 {p:Nat->Bool} {F:List Ob} (h:∀ x∈F,x.gC=true):rq p F=true:=by
 induction F with
 | nil=>rfl
 | cons x r ih =>
  rw [rq,ih fun y hy=>h y (di _ hy),Bool.and_true];have:=h x List.mem_cons_self
  cases x <;> first | rfl | cases this
section
variable {P:Program} {fn:Func} {m:Nat} {R:GV->List Ob->Prop} {fr:List GV} {F:List Ob} {e:Exit}
theorem Ka {t:Tmp} {x:Value} (hr:fn.results=#[.tmp t]) (he:e=.normal\/e=.ret) (hg:cB fr t=.v x) (hm:m=F.length) (ha:∀ x∈F,x.gC=true) (h:R (.v x) F):qv P fn m R e fr F :=
 CM (n:=F.length) hr he hg G (by rw [b7];exact C3 ha) rfl (by rw [b7];exact h)
end
theorem qg {rows:List (List GV)} {i o:Nat} {g:GV} {r:List GV} (hr:rows[i]?=some r):(ek rows i o g)[i]?=some (bo r o g):=by rw [zA hr,ab rfl]
end Go.Xg
namespace Go.Xg
open Go.RowKit Go.Xw Go.Proofs
open Go.Xp (Nd Ar c6 pQ)
open Go.Sp (Src)
open Go.Im (mC)
theorem Jo {x:Ob} (h:x.gC=true) (f:Nat->Nat):x.dX f=x:=by cases x <;> first | rfl | cases h
theorem oR {X:List Ob} (h:∀ x∈X,x.gC=true) (f:Nat->Nat):X.map (Ob.dX f)=X :=
 (List.map_congr_left fun x hx=>Jo (h x hx) f).trans (List.map_id _)
theorem Aj (s n N:Nat) (h:s+n<=N):iZ (List.range' s n) N=true:=by
 induction n generalizing s with
 | zero=>rfl
 | succ n ih =>
  rw [range'_succ,iZ,ih (s+1) G]
  have L:Nat.blt s N=true:=by rw [Nat.blt_eq];omega
  have I:(List.range' (s+1) n).contains s=false:=by
   cases hc:(List.range' (s+1) n).contains s with
   | false=>rfl
   | true =>
    have:=List.mem_range'_1.1 (nu.1 hc);omega
  rw [L,I];rfl
theorem xy (f:Nat->Nat):∀ (X A C:List Ob),(∀ x∈X,x.gC=true)->seen f (A++(X++C)) (List.range' A.length X.length) X
 | [],A,C,_=>trivial
 | x::X,A,C,h=>by
  rw [List.length_cons,range'_succ,seen];refine ⟨by rw [eE (aD _),iJ,Jo (h x List.mem_cons_self)];rfl,?_⟩
  have:=xy f X (A++[x]) C fun y hy=>h y (di _ hy)
  rw [aU,List.length_singleton,cK] at this;exact this
theorem yW:∀ (X A C Δ:List Ob),Δ.length=X.length->dm (A++(X++C)) (List.range' A.length X.length) Δ=A++(Δ++C)
 | [],A,C,Δ,h=>by
  have:Δ=[]:=gJ h;subst this;show dm (A++C) [] []=_;rw [dm,cq];rfl
 | x::X,A,C,[],h=>by cases h
 | x::X,A,C,y::Δ,h=>by
  rw [List.length_cons,range'_succ,dm]
  have e:oset (A++(x::X++C)) A.length y=(A++[y])++(X++C):=by
   rw [bf,set_append_right _ _ (aD _),iJ];simp
  have:=yW X (A++[y]) C Δ (by simpa using h);rw [aU,List.length_singleton] at this;rw [e,this];simp
section
variable {P:Program} {m:Nat} {Q:du} {fr:List GV} {F:List Ob} {ops:Array Oper} {rest:List Oper} {d:Option Tmp} {op:Op} {ty:TypeId} {pos:String} {af:Array Edge}
theorem GL.rA {f:FuncId} [hf:aJ P f] (A X C:List Ob) {args:List Operand} {lP:Array TypeId} {gs:List GV} {R:GV->List Ob->Prop} (hc:GC P f gs X R) (bG:F=A++(X++C)) (hX:∀ x∈X,x.gC=true) (ME:∀ r,lh r gs=gs) (ha:kD (args.map (ba fr)) gs)
  (h:∀ g Δ,R g Δ->Δ.length=X.length/\(∀ x∈Δ,x.gC=true)/\(∀ r,dX r g=g)/\GL P m ops Q rest (bx fr d g) (A++(Δ++C))) :
  GL P m ops Q (⟨d,.call ⟨.value (.func f),args.toArray,lP⟩,ty,pos,af,none⟩::rest) fr F:=by
 subst bG
 refine GL.EC (List.range' A.length X.length) hc (by rw [ME];exact ha) (Aj _ _ _ (by simp only [aU];omega)) (xy _ X A C hX) fun g Δ hr=>?_
 obtain ⟨L,I,h3,h4⟩:=h g Δ hr;refine ⟨by rw [List.length_range',L];exact aD _,?_⟩;rw [oR I,yW _ _ _ _ L,h3];exact h4
end
attribute [local irreducible] GW GL GO YG GC GA be bd
theorem sK {α γ:Type} {f:α->Value->γ} {l:List α} {hs:List Value} {i:Nat} {x:α} {h:Value} (L:l[i]?=some x) (I:hs[i]?=some h):(List.zipWith f l hs)[i]?=some (f x h):=by rw [List.getElem?_zipWith,L,I]
end Go.Xg
namespace Go.Xg
open Go.RowKit Go.Xw Go.Proofs
open Go.Xp (Nd Ar)
open Go.Sp (Src)
open Go.Im
theorem LG {A X C:List Ob} {j:Nat} (h:j < X.length):(A++(X++C))[A.length+j]?=X[j]?:=by
 rw [eE G,Nat.add_sub_cancel_left,ff h]
def Ix (p:Src) (i:Nat):Go.Sp.Fn:=(p.fns[i]?).getD ⟨[],[],0⟩
def Jb (p:Src) (i:Nat):Nd:=(p.nodes[i]?).getD ⟨0,0,0,[],[]⟩
def Ao (l:List Value) (i:Nat):Value:=(l[i]?).getD undef
theorem GM {B:Bs} {K:Fz} {β:Bt} {w:World} {F:List Ob} {s:Nat} {p:Src} {hg ha hf hn:Value} {fs ns:List Value} (H:nO p hg ha hf hn fs ns) (aaL:∀ (i:Nat) x,(dK p hg ha hf hn fs ns)[i]?=some x->F[s+i]?=some x) (hI:Inv B K β F w) :
  ∃ K1 aO,cU K K1/\Inv B K1 β aO w/\bh K1 (fun _=>.no) [hg,ha,hf,hn] (ar p)/\∀ q,q < s\/s+(dK p hg ha hf hn fs ns).length<=q->aO[q]?=F[q]?:=by
 obtain ⟨_,_,_,_,iq,sq,_,_⟩:=H
 have TY:(List.zipWith fK p.fns fs).length=p.fns.length:=by rw [lR];omega
 have hLn:(List.zipWith dd p.nodes ns).length=p.nodes.length:=by rw [lR];omega
 have hlen:(dK p hg ha hf hn fs ns).length=4+p.fns.length+p.nodes.length:=by simp [dK,TY,hLn];omega
 have hF:∀ i,i < p.fns.length->p.fns[i]?=some (Ix p i)/\fs[i]?=some (Ao fs i):=fun i hi=>by
  unfold Ix Ao;rw [fM hi,fM (show i < fs.length by omega)];exact ⟨rfl,rfl⟩
 have hN:∀ i,i < p.nodes.length->p.nodes[i]?=some (Jb p i)/\ns[i]?=some (Ao ns i):=fun i hi=>by
  unfold Jb Ao;rw [fM hi,fM (show i < ns.length by omega)];exact ⟨rfl,rfl⟩
 have g0:F[s+0]?=some (.vech 9 1 (bA p.globals) hg):=aaL 0 _ rfl;have g1:F[s+1]?=some (.vech 56 2 (p.arrays.map az) ha):=aaL 1 _ rfl;have g2:F[s+2]?=some (.vech 58 3 (List.zipWith fL p.fns fs) hf):=aaL 2 _ rfl
 have gF:∀ i,i < p.fns.length->F[s+(3+i)]?=some (.vech 9 1 (bA (Ix p i).params) (Ao fs i)):=fun i hi=>aaL _ _ <| by
  unfold dK;rw [show 3+i=i+1+1+1 by omega,getElem?_cons_succ,getElem?_cons_succ,getElem?_cons_succ,ff G,sK (hF i hi).1 (hF i hi).2];rfl
 have g3:F[s+(3+p.fns.length)]?=some (.vech 62 5 (List.zipWith cR p.nodes ns) hn):=aaL _ _ <| by
  unfold dK;rw [show 3+p.fns.length=p.fns.length+1+1+1 by omega,getElem?_cons_succ,getElem?_cons_succ,getElem?_cons_succ,eE G,TY,iJ];rfl
 have gN:∀ i,i < p.nodes.length->F[s+(4+p.fns.length+i)]?=some (.vech 3 1 (l6 (Jb p i).kids) (Ao ns i)):=fun i hi=>aaL _ _ <| by
  unfold dK;rw [show 4+p.fns.length+i=(p.fns.length+(i+1))+1+1+1 by omega,getElem?_cons_succ,getElem?_cons_succ,getElem?_cons_succ,eE G,TY,Nat.add_sub_cancel_left,getElem?_cons_succ,sK (hN i hi).1 (hN i hi).2];rfl
 obtain ⟨K1,Γ1,R1,k1,i1,cX,l1,r1,o1⟩:=hI.Gx (jf:=s+2) (N:=p.fns.length) (o:=1) (E:=9) (k':=1) (raw:=fun i=>fL (Ix p i) (Ao fs i)) (fin:=fun i=>au (Ix p i)) (ks:=fun i=>bA (Ix p i).params) (hd:=fun i=>Ao fs i) (jp:=fun i=>s+(3+i)) g2
  ⟨by rw [lR];omega,fun i hi=>sK (hF i hi).1 (hF i hi).2⟩ (fun i hi=>⟨rfl,rfl⟩) gF (fun i hi=>by omega) (fun i j _ _ h=>by omega)
 obtain ⟨K2,Cv,R2,k2,i2,kc,l2,r2,o2⟩:=i1.Gx (jf:=s+(3+p.fns.length)) (N:=p.nodes.length) (o:=4) (E:=3) (k':=1) (raw:=fun i=>cR (Jb p i) (Ao ns i)) (fin:=fun i=>aw (Jb p i)) (ks:=fun i=>l6 (Jb p i).kids) (hd:=fun i=>Ao ns i) (jp:=fun i=>s+(4+p.fns.length+i))
  (by rw [o1 _ G fun i hi=>by omega];exact g3) ⟨by rw [lR];omega,fun i hi=>sK (hN i hi).1 (hN i hi).2⟩ (fun i hi=>⟨rfl,rfl⟩) (fun i hi=>by rw [o1 _ G fun j hj=>by omega];exact gN i hi) (fun i hi=>by omega) (fun i j _ _ h=>by omega)
 have e1:R1=p.fns.map au:=by
  apply ext_getElem?;intro i
  by_cases hi:i < p.fns.length
  ·rw [r1 i hi,aV,(hF i hi).1];rfl
  ·rw [getElem?_eq_none G,getElem?_eq_none (by rw [bP];omega)]
 have e2:R2=p.nodes.map aw:=by
  apply ext_getElem?;intro i
  by_cases hi:i < p.nodes.length
  ·rw [r2 i hi,aV,(hN i hi).1];rfl
  ·rw [getElem?_eq_none G,getElem?_eq_none (by rw [bP];omega)]
 rw [e1] at cX;rw [e2] at kc
 have ZV:Cv[s+2]?=some (.vech 58 3 (p.fns.map au) hf):=by rw [o2 _ G fun i hi=>by omega];exact cX
 have Z7:Cv[s+0]?=some (.vech 9 1 (bA p.globals) hg):=by rw [o2 _ G fun i hi=>by omega,o1 _ G fun i hi=>by omega];exact g0
 have Z8:Cv[s+1]?=some (.vech 56 2 (p.arrays.map az) ha):=by rw [o2 _ G fun i hi=>by omega,o1 _ G fun i hi=>by omega];exact g1
 obtain ⟨K3,k3,q0,i3⟩:=i2.tu Z7;obtain ⟨K4,k4,q1,i4⟩:=i3.tu (i:=s+1) (by rw [bf,dB,M G];exact Z8);obtain ⟨K5,k5,q2,i5⟩:=i4.tu (i:=s+2) (by rw [bf,bf,dB,M G,dB,M G];exact ZV);obtain ⟨K6,k6,q3,i6⟩:=i5.tu (i:=s+(3+p.fns.length)) (by rw [bf,bf,bf,dB,M G,dB,M G,dB,M G];exact kc);have b:dp β β:=dp.refl β;refine ⟨K6,_,k1.trans (k2.trans (k3.trans (k4.trans (k5.trans k6)))),i6,.cons ((q0.mono (k4.trans (k5.trans k6)) b).pc rfl) (.cons ((q1.mono (k5.trans k6) b).pc rfl) (.cons ((q2.mono k6 b).pc rfl) (.cons (q3.pc rfl) .nil))),fun q hq=>?_⟩;rw [hlen] at hq;rw [bf,bf,bf,bf,dB,M G,dB,M G,dB,M G,dB,M G,o2 q G fun i hi=>by omega,o1 q G fun i hi=>by omega]
theorem A9 {B:Bs} {K:Fz} {β:Bt} {w:World} {A C:List Ob} {p:Src} {hg ha hf hn:Value} {fs ns:List Value} (H:nO p hg ha hf hn fs ns) (hI:Inv B K β (A++(dK p hg ha hf hn fs ns++C)) w) :
  ∃ K1,cU K K1/\kC K1 w/\jl K1 (fun _=>.no) w/\bh K1 (fun _=>.no) [hg,ha,hf,hn] (ar p):=by
 obtain ⟨K1,aO,L,I,h3,-⟩:=GM H (fun i x h=>by rw [LG (bp h).1];exact h) hI;exact ⟨K1,L,I.fz,I.VD,h3⟩
theorem tQ {K:Fz} {β:Bt} {v a b c d:Value} (h:Rel K β v (.agg [.v a,.v b,.v c,.v d])):v=.agg #[a,b,c,d]:=by
 cases h with
 | agg vs cs hl h =>
  match vs,hl with
  | [x,y,z,u],_ =>
   rw [Rel.fD (h 0 x _ rfl rfl),Rel.fD (h 1 y _ rfl rfl),Rel.fD (h 2 z _ rfl rfl),Rel.fD (h 3 u _ rfl rfl)]
theorem tR {K:Fz} {a b c d:Value} {gs:List GV} (h:bh K (fun _=>.no) [a,b,c,d] gs):Rel K (fun _=>.no) (.agg #[a,b,c,d]) (.agg gs):=.agg [a,b,c,d] gs h.1 h.2
section
variable {B:Bs} {K:Fz} {β:Bt} {w:World} {l:List Value} {fr:List GV} {A C X:List Ob} {p:Src} {hg ha hf hn:Value} {fs ns:List Value}
theorem Hr {x:Operand} (H:nO p hg ha hf hn fs ns) (hI:Inv B K β (A++(dK p hg ha hf hn fs ns++C)) w) (hF:FR K β fr l) (hx:ba fr x=.agg [.v hg,.v ha,.v hf,.v hn]) :
  ∃ K1,kC K1 w/\jl K1 (fun _=>.no) w/\bh K1 (fun _=>.no) ([x].map (ev l)) [.agg (ar p)]:=by
 obtain ⟨K1,_,L,I,h3⟩:=A9 H hI;have hr:=hF.ev x;rw [hx] at hr;have e:=tQ hr;refine ⟨K1,L,I,?_⟩;show bh K1 _ [ev l x] _;rw [e];exact .cons (tR h3) .nil
theorem xZ {x y:Operand} {z:Value} (H:nO p hg ha hf hn fs ns) (hI:Inv B K β (A++(dK p hg ha hf hn fs ns++C)) w) (hF:FR K β fr l) (hx:ba fr x=.agg [.v hg,.v ha,.v hf,.v hn]) (hy:ba fr y=.v z) :
  ∃ K1,kC K1 w/\jl K1 (fun _=>.no) w/\bh K1 (fun _=>.no) ([x,y].map (ev l)) [.agg (ar p),.v z]:=by
 obtain ⟨K1,_,L,I,h3⟩:=A9 H hI;have hr:=hF.ev x;rw [hx] at hr;have e:=tQ hr;refine ⟨K1,L,I,?_⟩;show bh K1 _ [ev l x,ev l y] _;rw [e,hF.jI hy];exact .cons (tR h3) (.cons (.v _) .nil)
theorem Me {K K1:Fz} {v:Value} {gs:List GV} (hk:cU K K1) (hp:∀ g∈gs,g.pc=true) (h:Rel K β v (.agg gs)):Rel K1 (fun _=>.no) v (.agg gs):=by
 cases h with
 | agg vs cs hl h =>
  exact .agg vs gs hl fun i v g L I=>((h i v g L I).mono hk (dp.refl β)).pc (hp g (bF I))
theorem LX (p:Src):∀ g∈ar p,g.pc=true:=fun g hg=>by
 simp only [ar,List.mem_cons,not_mem_nil,or_false] at hg
 rcases hg with rfl | rfl | rfl | rfl <;> rfl
theorem po {x y:Operand} (H:nO p hg ha hf hn fs ns) (hI:Inv B K β (A++(dK p hg ha hf hn fs ns++C)) w) (hF:FR K β fr l) (hx:ba fr x=.agg [.v hg,.v ha,.v hf,.v hn]) (hy:ba fr y=.agg (ar p)) :
  ∃ K1,kC K1 w/\jl K1 (fun _=>.no) w/\bh K1 (fun _=>.no) ([x,y].map (ev l)) [.agg (ar p),.agg (ar p)]:=by
 obtain ⟨K1,hk,L,I,h3⟩:=A9 H hI;have hr:=hF.ev x;rw [hx] at hr;have e:=tQ hr;have ea:=hF.ev y;rw [hy] at ea;refine ⟨K1,L,I,?_⟩;show bh K1 _ [ev l x,ev l y] _;rw [e];exact .cons (tR h3) (.cons (Me hk (LX p) ea) .nil)
end
end Go.Xg
set_option maxHeartbeats 4000000
namespace Go.Xg
open GV (U)
open Go.RowKit Go.Xw Go.Proofs Tryz
open Go.Xp (Nd Ar)
open Go.Sp (Src)
open Go.Im
attribute [local irreducible] GW GL GO YG GC GA be bd
def iz (k n:Nat):List (List GV):=(List.range n).map fun i=>[GV.v (ii ((k+i:Nat):Int))]
theorem tl (k n:Nat):(iz k n).length=n:=by simp [iz]
theorem HK (k n:Nat):iz k (n+1)=iz k n++[[.v (ii ((k+n:Nat):Int))]]:=by simp [iz,range_succ]
theorem Nn {k n i:Nat} (h:i < n):(iz k n)[i]?=some [.v (ii ((k+i:Nat):Int))]:=by simp [iz,h]
theorem KM (k:Nat) (rows:List (List GV)) {i:Nat} (h:i < rows.length):(iz k i++rows.drop i).set i [.v (ii ((k+i:Nat):Int))]=iz k (i+1)++rows.drop (i+1):=by
 rw [kW h,set_append_right _ _ (by rw [tl];exact aD _),tl,iJ,set_cons_zero,HK,cK];rfl
theorem KL (a:Option Addr) (c n k:Nat) (rows:List (List GV)) (hn:rows.length=n) (hb:k+n<=1099511627776) :
  GF prog 102 [.v (.slice a n c),.v (ii (k:Nat))] [.vech 3 1 rows (.slice a n c)] (.v (ii ((k+n:Nat):Int))) [.vech 3 1 (iz k n) (.slice a n c)]:=by
 refine ah func102 ntmps102 ?_;refine GW.loop (fun i:Nat=>n - i) (fun i fr F=>∃ R,fr=[.v (.slice a n c),.v (ii ((k+i:Nat):Int)),U,U,U,.v (ii (i:Nat)),U,U,U,U,U,U,U,U,U,U,U,U,U]/\F=[.vech 3 1 R (.slice a n c)]/\i<=n/\R=iz k i++rows.drop i) 0 ?_ ?_
 ·exact ⟨_,_,Wk.aE ao,_,rfl,rfl,aM _,rfl⟩
 rintro i _ _ ⟨R,rfl,rfl,hi,hR⟩
 have ef:R.length=n:=by rw [hR,aU,tl,iK];omega
 by_cases ak:i < n
 ·have hd:decide ((i:Int) < (n:Int))=true:=by simpa using ak
  have bY:=KM k rows (i:=i) G;rw [<-hR] at bY;clear hR;refine D ?_;refine lx ?_;refine D ?_;exact ⟨i+1,⟨_,_,Wk.aE ao,_,rfl,rfl,ak,bY⟩,by show n - (i+1) < n - i;omega⟩
 ·have hd:decide ((i:Int) < (n:Int))=false:=by simpa using ak
  have fi:i=n:=by omega
  subst fi;rw [List.drop_of_length_le G,cq] at hR;subst hR;refine cl ?_;exact ay
theorem Kf (k n:Nat) (hb:k+n<=1099511627776):GF prog 103 [.sl 1 (iz k n),.v (ii (k:Nat))] [] (.v (ii ((k+n:Nat):Int))) []:=by
 have hm:=tl k n;refine ah func103 ntmps103 ?_;refine GW.loop (fun i:Nat=>n - i) (fun i fr F=>fr=[.sl 1 (iz k n),.v (ii ((k+i:Nat):Int)),U,U,U,.v (ii (i:Nat)),U,U,U,U,U,U,U,U,U,U,U,U,U,U,U]/\F=[]/\i<=n) 0 ?_ ?_
 ·exact ⟨_,_,Wk.aE ao,rfl,rfl,aM _⟩
 rintro i _ _ ⟨rfl,rfl,hi⟩
 by_cases ak:i < n
 ·have hd:decide ((i:Int) < ((iz k n).length:Int))=true:=by rw [hm];simpa using ak
  have hr:=Nn (k:=k) ak
  have hs:(((k+i:Nat):Int) != ((k+i:Nat):Int))=false:=by simp
  refine D ?_;exact ⟨i+1,⟨_,_,Wk.aE ao,rfl,rfl,ak⟩,by show n - (i+1) < n - i;omega⟩
 ·have hd:decide ((i:Int) < ((iz k n).length:Int))=false:=by rw [hm];simpa using ak
  have fi:i=n:=by omega
  subst fi;refine cl ?_;exact ay
section
variable {B:Bs} {K:Fz} {β:Bt} {w:World} {fr:List GV} {l:List Value} {A X C:List Ob}
end
theorem Po (l:List Int):(l6 l).length=l.length:=by simp [l6]
end Go.Xg
namespace Go.Xg
open Go.RowKit Go.Xw
section
variable {P:Program} {m:Nat} {Q:du} {fr:List GV} {F:List Ob} {ops:Array Oper} {rest:List Oper} {d:Option Tmp} {op:Op} {ty:TypeId} {pos:String} {af:Array Edge}
def sw (β:Bt) (n:Nat) (bN:Bt):Bt:=fun i=>if i < n then β i else bN (i - n)
def Ob.plain:Ob->Prop
 | .vech _ _ rows _=>∀ r∈rows,∀ g∈r,∃ x,g=.v x
 | _=>False
theorem Inv.UU {B:Bs} {K K1 K':Fz} {β bN:Bt} {w w':World} {Δ:List Ob} (hI:Inv B K β F w) (bs:Inv ⟨w,ic,K1,fun _=>.no,0⟩ K' bN Δ w') (hΔ:∀ o∈Δ,Ob.plain o):Inv B K (sw β F.length bN) (F++Δ) w'/\dp β (sw β F.length bN):=by
 have yj:=hI.same bs.ext
 have gT:∀ i,i < F.length->sw β F.length bN i=β i:=fun i hi=>by unfold sw;rw [ab hi]
 have nC:∀ i,F.length<=i->sw β F.length bN i=bN (i - F.length):=fun i hi=>by unfold sw;rw [M G]
 have hle:dp β (sw β F.length bN):=fun i=>by
  by_cases hi:i < F.length
  ·rw [gT i hi];exact ru.refl _
  ·rw [hI.out i G];trivial
 have hold:∀ i b,(β i).blk=some b->b < w.heap.size:=fun i b hb=>by
  by_cases hi:i < F.length
  ·exact (hI.ob i _ (fM hi)).lt hb
  ·rw [hI.out i G] at hb;cases hb
 have yy:∀ i b,(bN i).blk=some b->w.heap.size<=b:=fun i b hb=>by
  rcases bs.own i b hb with h | h
  ·exact h.elim
  ·exact h
 have dZ:∀ i b,(sw β F.length bN i).blk=some b->(i < F.length/\(β i).blk=some b)\/(F.length<=i/\(bN (i - F.length)).blk=some b):=fun i b hb=>by
  by_cases hi:i < F.length
  ·rw [gT i hi] at hb;exact .inl ⟨hi,hb⟩
  ·rw [nC i G] at hb;exact .inr ⟨by omega,hb⟩
 refine ⟨⟨yj.ext,yj.kle,yj.ble.trans hle,yj.loc,yj.fz,fun i x hi=>?_,fun i hi=>?_,fun i j b L I=>?_,fun i b L=>?_,yj.kn,⟨yj.tab.le,yj.tab.pow,yj.tab.spc,fun i b h=>?_⟩⟩,hle⟩
 ·by_cases sV:i < F.length
  ·rw [ff sV] at hi;exact (yj.ob i x hi).ext (Ext.refl w') (fun _ _ h=>h) (cU.refl K) hle (gT i sV) (S:=ic) (fun _ _ _ h=>h)
  ·rw [eE G] at hi;have dJ:=hΔ x (bF hi)
   cases x with
   | vech E k rows v =>
    obtain ⟨xs,e1,e2,e3,e4,e5⟩:=bs.ob _ _ hi
    have zp:∀ g∈rows.flatten,∃ x,g=.v x:=fun g hg=>by
     obtain ⟨r,h5,h6⟩:=List.mem_flatten.1 hg;exact dJ r h5 g h6
    refine ⟨xs,by rw [nC i G];exact e1,e2,⟨e3.1,fun q u g h5 h6=>?_⟩,e4,fun b hb o=>?_⟩
    ·obtain ⟨y,rfl⟩:=zp g (bF h6);rw [Rel.fD (e3.2 q u _ h5 h6)];exact .v _
    ·cases hk:K b o with
     | none=>rfl
     | some g =>
      have L:=hI.fz.lt hk;have I:=yy (i - F.length) b (by rw [e1];exact hb);omega
   | _=>exact dJ.elim
 ·rw [aU] at hi;rw [nC i G];exact bs.out _ G
 ·rcases dZ i b L with ⟨a1,a2⟩ | ⟨a1,a2⟩ <;> rcases dZ j b I with ⟨b1,b2⟩ | ⟨b1,b2⟩
  ·exact hI.dis i j b a2 b2
  ·have:=hold i b a2;have:=yy _ b b2;omega
  ·have:=hold j b b2;have:=yy _ b a2;omega
  ·have:=bs.dis _ _ b a2 b2;omega
 ·rcases dZ i b L with ⟨a1,a2⟩ | ⟨a1,a2⟩
  ·exact hI.own i b a2
  ·exact .inr (jZ hI.ext.size (yy _ b a2))
 ·rcases dZ i b h with ⟨a1,a2⟩ | ⟨a1,a2⟩
  ·exact yj.tab.free i b a2
  ·exact bs.tab.free _ b a2
def GV.Plain (g:GV):Prop:=∀ {K K':Fz} {β bN:Bt} {v:Value},Rel K β v g->Rel K' bN v g
theorem GV.Jk (x:Value):GV.Plain (.v x):=fun h=>by rw [Rel.fD h];exact .v _
theorem GV.Jj {cs:List GV} (hc:∀ c∈cs,GV.Plain c) {K K':Fz} {β bN:Bt} {vs:List Value} (h:∀ (i:Nat) v g,vs[i]?=some v->cs[i]?=some g->Rel K β v g):∀ (i:Nat) v g,vs[i]?=some v->cs[i]?=some g->Rel K' bN v g :=
 fun i v g L I=>hc g (bF I) (h i v g L I)
theorem GV.Nz {cs:List GV} (hc:∀ c∈cs,GV.Plain c):GV.Plain (.agg cs):=fun h=>by
 cases h with
 | agg vs cs hl h=>exact .agg vs cs hl (GV.Jj hc h)
theorem GV.NC {cs:List GV} (hc:∀ c∈cs,GV.Plain c):GV.Plain (.tup cs):=fun h=>by
 cases h with
 | tup vs cs hl h=>exact .tup vs cs hl (GV.Jj hc h)
theorem GL.RW {f:FuncId} [hf:aJ P f] {args:List Operand} {lP:Array TypeId} {gs:List GV} {R:GV->List Ob->Prop} (hc:GC P f gs [] R)
  (hR:∀ g Δ,R g Δ->GV.Plain g/\∀ o∈Δ,Ob.plain o)
  (hv:∀ B K β w l,Inv B K β F w->FR K β fr l->∃ K1,kC K1 w/\jl K1 (fun _=>.no) w/\bh K1 (fun _=>.no) (args.map (ev l)) gs)
  (h:∀ g Δ,R g Δ->GL P m ops Q rest (bx fr d g) (F++Δ)):GL P m ops Q (⟨d,.call ⟨.value (.func f),args.toArray,lP⟩,ty,pos,af,none⟩::rest) fr F:=fun B K β w l hm hI hF=>by
 obtain ⟨K1,L,I,h3⟩:=hv B K β w l hI hF
 have sr:(execOp (ev l) ⟨d,.call ⟨.value (.func f),args.toArray,lP⟩,ty,pos,af,none⟩).run P w=.ok (.enter f (args.map (ev l)).toArray) w:=by simp [execOp,resolve,ev,Deferred.ofValue,invoke,mF]
 refine WL.calls sr (hc _ K1 _ w _ rfl (Inv.new L I) h3) ?_;rintro x w' ⟨K',bN,g,Δ,bs,fv,hr⟩;obtain ⟨p1,p2⟩:=hR g Δ hr;obtain ⟨hJ,hle⟩:=hI.UU bs p2;exact h g Δ hr B K _ w' _ hm hJ ((hF.mono (cU.refl K) hle).put d (p1 fv))
end
end Go.Xg
set_option maxHeartbeats 2000000
namespace Go.Xg
open GV (U)
open Go.RowKit Go.Xw Go.Proofs Tryz
open Go.Xp (Nd Ar)
open Go.Sp (Src)
open Go.Im (wS df bj oD sE gE dY oC oB oA)
attribute [local irreducible] GW GL GO YG GC GA be bd
theorem OX (l:List Int) (hl:l.length<=1048576):GF prog 148 [ints l,ints l] [] (.v (.bool true)) []:=by
 have hm:(l.map (fun i=>[GV.v (ii i)])).length=l.length:=by simp
 have hd:(((l.map (fun i=>[GV.v (ii i)])).length:Int) != ((l.map (fun i=>[GV.v (ii i)])).length:Int))=false:=by simp
 refine ah func148 ntmps148 ?_;refine GW.loop (fun k:Nat=>l.length - k) (fun k fr F=>fr=[ints l,ints l,U,U,U,.v (ii (k:Nat)),U,U,U,U,U,U,U,U,U,U,U,U,U,U,U,U,U,U,U,U]/\F=[]/\k<=l.length) 0 ?_ ?_
 ·exact ⟨_,_,Wk.aE ao,rfl,rfl,aM _⟩
 rintro k _ _ ⟨rfl,rfl,hk⟩
 by_cases ak:k < l.length
 ·have hx:l[k]?=some l[k]:=by simp [ak]
  have hr:(l.map (fun i=>[GV.v (ii i)]))[k]?=some ([GV.v (ii l[k])]):=by rw [aV,hx];rfl
  have dH:decide ((k:Int) < ((l.map (fun i=>[GV.v (ii i)])).length:Int))=true:=by rw [hm];simpa using ak
  generalize l[k]=x at *
  have hs:(x != x)=false:=by simp
  refine D ?_;refine aK (aC 0 9 .nil) ?_;refine bq ?_;exact ⟨k+1,⟨_,_,Wk.aE ao,rfl,rfl,ak⟩,by show l.length - (k+1) < l.length - k;omega⟩
 ·have dH:decide ((k:Int) < ((l.map (fun i=>[GV.v (ii i)])).length:Int))=false:=by rw [hm];simpa using ak
  refine cl ?_;exact ay
theorem zR (l:List ae) (hl:l.length<=1048576):GF prog 46 [strs l,strs l] [] (.v (.bool true)) []:=by
 have hm:(l.map (fun s=>[GV.v (sv s)])).length=l.length:=by simp
 have hd:(((l.map (fun s=>[GV.v (sv s)])).length:Int) != ((l.map (fun s=>[GV.v (sv s)])).length:Int))=false:=by simp
 refine ah func46 ntmps46 ?_;refine GW.loop (fun k:Nat=>l.length - k) (fun k fr F=>fr=[strs l,strs l,U,U,U,.v (ii (k:Nat)),U,U,U,U,U,U,U,U,U,U,U,U,U,U,U,U,U,U,U,U]/\F=[]/\k<=l.length) 0 ?_ ?_
 ·exact ⟨_,_,Wk.aE ao,rfl,rfl,aM _⟩
 rintro k _ _ ⟨rfl,rfl,hk⟩
 by_cases ak:k < l.length
 ·have hx:l[k]?=some l[k]:=by simp [ak]
  have hr:(l.map (fun s=>[GV.v (sv s)]))[k]?=some ([GV.v (sv l[k])]):=by rw [aV,hx];rfl
  have dH:decide ((k:Int) < ((l.map (fun s=>[GV.v (sv s)])).length:Int))=true:=by rw [hm];simpa using ak
  generalize l[k]=x at *
  have hs:(!(x==x))=false:=by simp
  refine D ?_;refine aK (aC 0 9 .nil) ?_;refine bq ?_;exact ⟨k+1,⟨_,_,Wk.aE ao,rfl,rfl,ak⟩,by show l.length - (k+1) < l.length - k;omega⟩
 ·have dH:decide ((k:Int) < ((l.map (fun s=>[GV.v (sv s)])).length:Int))=false:=by rw [hm];simpa using ak
  refine cl ?_;exact ay
theorem LZ (x:Ar):GF prog 98 [.agg (az x),.agg (az x)] [] (.v (.bool true)) []:=by
 have e0:(!(x.name==x.name))=false:=by simp
 have e1:(x.size != x.size)=false:=by simp
 refine ah func98 ntmps98 ?_;exact al
theorem J8 (l:List Ar) (hl:l.length<=1048576):GF prog 47 [.sl 2 (l.map az),.sl 2 (l.map az)] [] (.v (.bool true)) []:=by
 have hm:(l.map az).length=l.length:=by simp
 have hd:(((l.map az).length:Int) != ((l.map az).length:Int))=false:=by simp
 refine ah func47 ntmps47 ?_;refine GW.loop (fun k:Nat=>l.length - k) (fun k fr F=>fr=[.sl 2 (l.map az),.sl 2 (l.map az),U,U,U,.v (ii (k:Nat)),U,U,U,U,U,U,U,U,U,U,U,U,U,U,U,U,U,U,U,U,U]/\F=[]/\k<=l.length) 0 ?_ ?_
 ·exact ⟨_,_,Wk.aE ao,rfl,rfl,aM _⟩
 rintro k _ _ ⟨rfl,rfl,hk⟩
 by_cases ak:k < l.length
 ·have hx:l[k]?=some l[k]:=by simp [ak]
  have hr:(l.map az)[k]?=some (az l[k]):=by rw [aV,hx];rfl
  have dH:decide ((k:Int) < ((l.map az).length:Int))=true:=by rw [hm];simpa using ak
  have hc:=LZ l[k];generalize l[k]=x at *;refine D ?_;refine aK (aC 0 8 (.a 8 (.q 9 .nil))) ?_;refine aj ?_;refine aI [] hc ?_;refine D ?_;exact ⟨k+1,⟨_,_,Wk.aE ao,rfl,rfl,ak⟩,by show l.length - (k+1) < l.length - k;omega⟩
 ·have dH:decide ((k:Int) < ((l.map az).length:Int))=false:=by rw [hm];simpa using ak
  refine cl ?_;exact ay
theorem Tu (x:Go.Sp.Fn) (hp:x.params.length<=1048576):GF prog 99 [.agg (au x),.agg (au x)] [] (.v (.bool true)) []:=by
 have e0:(!(x.name==x.name))=false:=by simp
 have e1:(x.body != x.body)=false:=by simp
 have h0:=zR x.params hp;refine ah func99 ntmps99 ?_;refine V [] h0 ?_;exact al
theorem R4 (l:List Go.Sp.Fn) (hl:l.length<=1048576) (he:∀ x∈l,x.params.length<=1048576):GF prog 48 [.sl 3 (l.map au),.sl 3 (l.map au)] [] (.v (.bool true)) []:=by
 have hm:(l.map au).length=l.length:=by simp
 have hd:(((l.map au).length:Int) != ((l.map au).length:Int))=false:=by simp
 refine ah func48 ntmps48 ?_;refine GW.loop (fun k:Nat=>l.length - k) (fun k fr F=>fr=[.sl 3 (l.map au),.sl 3 (l.map au),U,U,U,.v (ii (k:Nat)),U,U,U,U,U,U,U,U,U,U,U,U,U,U,U,U,U,U,U,U,U]/\F=[]/\k<=l.length) 0 ?_ ?_
 ·exact ⟨_,_,Wk.aE ao,rfl,rfl,aM _⟩
 rintro k _ _ ⟨rfl,rfl,hk⟩
 by_cases ak:k < l.length
 ·have hx:l[k]?=some l[k]:=by simp [ak]
  have hr:(l.map au)[k]?=some (au l[k]):=by rw [aV,hx];rfl
  have dH:decide ((k:Int) < ((l.map au).length:Int))=true:=by rw [hm];simpa using ak
  have hex:=he _ (bF hx);have hc:=Tu l[k] hex;generalize l[k]=x at *;refine D ?_;refine aK (aC 0 8 (.a 8 (.q 9 .nil))) ?_;refine aj ?_;refine aI [] hc ?_;refine D ?_;exact ⟨k+1,⟨_,_,Wk.aE ao,rfl,rfl,ak⟩,by show l.length - (k+1) < l.length - k;omega⟩
 ·have dH:decide ((k:Int) < ((l.map au).length:Int))=false:=by rw [hm];simpa using ak
  refine cl ?_;exact ay
theorem OY (x:Nd) (hp:x.kids.length<=1048576):GF prog 100 [.agg (aw x),.agg (aw x)] [] (.v (.bool true)) []:=by
 have e0:(x.kind != x.kind)=false:=by simp
 have e1:(x.at_ != x.at_)=false:=by simp
 have e2:(x.n != x.n)=false:=by simp
 have e3:(!(x.s==x.s))=false:=by simp
 have h0:=OX x.kids hp;refine ah func100 ntmps100 ?_;refine V [] h0 ?_;exact al
theorem L0 (l:List Nd) (hl:l.length<=1048576) (he:∀ x∈l,x.kids.length<=1048576):GF prog 49 [.sl 5 (l.map aw),.sl 5 (l.map aw)] [] (.v (.bool true)) []:=by
 have hm:(l.map aw).length=l.length:=by simp
 have hd:(((l.map aw).length:Int) != ((l.map aw).length:Int))=false:=by simp
 refine ah func49 ntmps49 ?_;refine GW.loop (fun k:Nat=>l.length - k) (fun k fr F=>fr=[.sl 5 (l.map aw),.sl 5 (l.map aw),U,U,U,.v (ii (k:Nat)),U,U,U,U,U,U,U,U,U,U,U,U,U,U,U,U,U,U,U,U,U]/\F=[]/\k<=l.length) 0 ?_ ?_
 ·exact ⟨_,_,Wk.aE ao,rfl,rfl,aM _⟩
 rintro k _ _ ⟨rfl,rfl,hk⟩
 by_cases ak:k < l.length
 ·have hx:l[k]?=some l[k]:=by simp [ak]
  have hr:(l.map aw)[k]?=some (aw l[k]):=by rw [aV,hx];rfl
  have dH:decide ((k:Int) < ((l.map aw).length:Int))=true:=by rw [hm];simpa using ak
  have hex:=he _ (bF hx);have hc:=OY l[k] hex;generalize l[k]=x at *;refine D ?_;refine aK (aC 0 8 (.a 8 (.q 9 .nil))) ?_;refine aj ?_;refine aI [] hc ?_;refine D ?_;exact ⟨k+1,⟨_,_,Wk.aE ao,rfl,rfl,ak⟩,by show l.length - (k+1) < l.length - k;omega⟩
 ·have dH:decide ((k:Int) < ((l.map aw).length:Int))=false:=by rw [hm];simpa using ak
  refine cl ?_;exact ay
theorem wX (x:Src) (hg:x.globals.length<=1048576) (ha:x.arrays.length<=1048576) (hf:x.fns.length<=1048576) (MC:∀ f∈x.fns,f.params.length<=1048576) (hn:x.nodes.length<=1048576) (FG:∀ n∈x.nodes,n.kids.length<=1048576):GF prog 10 [.agg (ar x),.agg (ar x)] [] (.v (.bool true)) []:=by
 have h0:=zR x.globals hg;have L:=J8 x.arrays ha;have I:=R4 x.fns hf MC;have h3:=L0 x.nodes hn FG;refine ah func10 ntmps10 ?_;refine V [] h0 ?_;refine V [] L ?_;refine V [] I ?_;refine V [] h3 ?_;exact al
end Go.Xg
namespace Go.Xg
open GV (U)
open Go.RowKit Go.Xw Go.Proofs Tryz
open Go.Xp (Nd T Ar)
open Go.Sp (Src)
open Go.Im
attribute [local irreducible] GW GL GO YG GC GA be bd
theorem M4 (s:ae):GF prog 37 [.v (sv s)] [] (.v (.bool (ng s))) []:=by
 unfold ng pN qF ko
 cases L:(s==[103,101,116])
 all_goals cases I:(s==[112,117,116])
 all_goals
  refine ah func37 ntmps37 ?_;exact al
theorem ET {qa:FuncId} [aJ prog qa] (pr:Go.Sp.Fn->Bool) (l:List (Go.Sp.Fn)) (hn:l.length<=1099511627776) (hc:∀ x∈l,GF prog qa [.agg (au x)] [] (.v (.bool (pr x))) []) :
  GF prog 95 [.sl 3 (l.map au),.v (.func (.func qa) #[] #[])] [] (.v (ii (dV pr l))) []:=by
 have eR:(l.map au).length=l.length:=by simp
 refine ah func95 ntmps95 ?_;refine GW.range (l.map au).length (fun k fr F=>fr=[.sl 3 (l.map au),.v (.func (.func qa) #[] #[]),U,U,U,U,U,.v (ii ((l.map au).length:Int)),.v (ii (k:Nat)),U,U,U,U,U,U,U,U,U,U]/\F=[]/\(l.take k).all (fun y=>!pr y)=true) ?_ G ?_ ?_ ?_
 ·exact kQ
 ·exact iI
 ·rintro k _ _ ak ⟨rfl,rfl,aY⟩;rw [eR] at ak;obtain ⟨x,dI⟩:∃ x,l[k]?=some x:=⟨l[k],by simp [ak]⟩
  have hr:(l.map au)[k]?=some (au x):=by rw [aV,dI];rfl
  have h:=hc x (bF dI);have bK:=oh (f:=pr) dI
  have hit:=fun h0=>oN (f:=pr) dI h0 aY
  unfold au at hr h
  cases hb:pr x with
  | true =>
   rw [hb] at h;rw [hit hb];refine D ?_;refine jz [] h ?_;exact ay
  | false =>
   rw [hb] at h bK;refine D ?_;refine jz [] h ?_;refine D ?_;exact ⟨rfl,rfl,_,_,Wk.aE ao,rfl,rfl,by rw [bK,aY];rfl⟩
 ·rintro _ _ ⟨rfl,rfl,aY⟩;rw [eR,b7] at aY;rw [lZ aY];exact ay
theorem uK {qa:FuncId} [aJ prog qa] (pr:Go.Sp.Fn->Bool) (l:List (Go.Sp.Fn)) (hn:l.length<=1099511627776) (hc:∀ x∈l,GF prog qa [.agg (au x)] [] (.v (.bool (pr x))) []) :
  GF prog 140 [.sl 3 (l.map au),.v (.func (.func qa) #[] #[])] [] (.v (.bool (l.any pr))) []:=by
 have h:=ET pr l hn hc;rw [<-DC];generalize dV pr l=z at *;refine ah func140 ntmps140 ?_;refine V [] h ?_;exact al
theorem Et {qa:FuncId} [aJ prog qa] (pr:Go.Sp.Fn->Bool) (s:ae) (l:List (Go.Sp.Fn)) (hn:l.length<=1099511627776) (hc:∀ x∈l,GF prog qa [.agg (au x),.box [.v (sv s)] 0] [] (.v (.bool (pr x))) []) :
  GF prog 95 [.sl 3 (l.map au),.fn (.func qa) [] [.box [.v (sv s)] 0]] [] (.v (ii (dV pr l))) []:=by
 have eR:(l.map au).length=l.length:=by simp
 refine ah func95 ntmps95 ?_;refine GW.range (l.map au).length (fun k fr F=>fr=[.sl 3 (l.map au),.fn (.func qa) [] [.box [.v (sv s)] 0],U,U,U,U,U,.v (ii ((l.map au).length:Int)),.v (ii (k:Nat)),U,U,U,U,U,U,U,U,U,U]/\F=[]/\(l.take k).all (fun y=>!pr y)=true) ?_ G ?_ ?_ ?_
 ·exact kQ
 ·exact iI
 ·rintro k _ _ ak ⟨rfl,rfl,aY⟩;rw [eR] at ak;obtain ⟨x,dI⟩:∃ x,l[k]?=some x:=⟨l[k],by simp [ak]⟩
  have hr:(l.map au)[k]?=some (au x):=by rw [aV,dI];rfl
  have h:=hc x (bF dI);have bK:=oh (f:=pr) dI
  have hit:=fun h0=>oN (f:=pr) dI h0 aY
  unfold au at hr h
  cases hb:pr x with
  | true =>
   rw [hb] at h;rw [hit hb];refine D ?_;refine mb [] h ?_;exact ay
  | false =>
   rw [hb] at h bK;refine D ?_;refine mb [] h ?_;refine D ?_;exact ⟨rfl,rfl,_,_,Wk.aE ao,rfl,rfl,by rw [bK,aY];rfl⟩
 ·rintro _ _ ⟨rfl,rfl,aY⟩;rw [eR,b7] at aY;rw [lZ aY];exact ay
theorem Ep {qa:FuncId} [aJ prog qa] (pr:Ar->Bool) (s:ae) (l:List (Ar)) (hn:l.length<=1099511627776) (hc:∀ x∈l,GF prog qa [.agg (az x),.box [.v (sv s)] 0] [] (.v (.bool (pr x))) []) :
  GF prog 93 [.sl 2 (l.map az),.fn (.func qa) [] [.box [.v (sv s)] 0]] [] (.v (ii (dV pr l))) []:=by
 have eR:(l.map az).length=l.length:=by simp
 refine ah func93 ntmps93 ?_;refine GW.range (l.map az).length (fun k fr F=>fr=[.sl 2 (l.map az),.fn (.func qa) [] [.box [.v (sv s)] 0],U,U,U,U,U,.v (ii ((l.map az).length:Int)),.v (ii (k:Nat)),U,U,U,U,U,U,U,U,U,U]/\F=[]/\(l.take k).all (fun y=>!pr y)=true) ?_ G ?_ ?_ ?_
 ·exact kQ
 ·exact iI
 ·rintro k _ _ ak ⟨rfl,rfl,aY⟩;rw [eR] at ak;obtain ⟨x,dI⟩:∃ x,l[k]?=some x:=⟨l[k],by simp [ak]⟩
  have hr:(l.map az)[k]?=some (az x):=by rw [aV,dI];rfl
  have h:=hc x (bF dI);have bK:=oh (f:=pr) dI
  have hit:=fun h0=>oN (f:=pr) dI h0 aY
  unfold az at hr h
  cases hb:pr x with
  | true =>
   rw [hb] at h;rw [hit hb];refine D ?_;refine mb [] h ?_;exact ay
  | false =>
   rw [hb] at h bK;refine D ?_;refine mb [] h ?_;refine D ?_;exact ⟨rfl,rfl,_,_,Wk.aE ao,rfl,rfl,by rw [bK,aY];rfl⟩
 ·rintro _ _ ⟨rfl,rfl,aY⟩;rw [eR,b7] at aY;rw [lZ aY];exact ay
theorem Sc (x:Go.Sp.Fn) (s:ae):GF prog 96 [.agg (au x),.box [.v (sv s)] 0] [] (.v (.bool (x.name==s))) []:=by
 unfold au;refine ah func96 ntmps96 ?_;exact al
theorem TG (p:Src) (s:ae) (hn:p.fns.length<=1099511627776):GF prog 43 [.agg (ar p),.v (sv s)] [] (.v (ii (dV (fun x:Go.Sp.Fn=>x.name==s) p.fns))) []:=by
 have h:=Et (fun x:Go.Sp.Fn=>x.name==s) s p.fns hn (fun x _=>Sc x s);generalize dV (fun x:Go.Sp.Fn=>x.name==s) p.fns=z at *;refine cY func43 ntmps43 ?_;refine lu ?_;refine GL.wk (Wk.freeze (i:=1) rfl rfl rfl (aM _)) ?_;refine GN (by simp only [pS,pf];rfl) ?_;refine D ?_;refine V [] h ?_;exact al
theorem JU (x:Ar) (s:ae):GF prog 94 [.agg (az x),.box [.v (sv s)] 0] [] (.v (.bool (x.name==s))) []:=by
 unfold az;refine ah func94 ntmps94 ?_;exact al
theorem Dv (p:Src) (s:ae) (hn:p.arrays.length<=1099511627776):GF prog 42 [.agg (ar p),.v (sv s)] [] (.v (ii (dV (fun x:Ar=>x.name==s) p.arrays))) []:=by
 have h:=Ep (fun x:Ar=>x.name==s) s p.arrays hn (fun x _=>JU x s);generalize dV (fun x:Ar=>x.name==s) p.arrays=z at *;refine cY func42 ntmps42 ?_;refine lu ?_;refine GL.wk (Wk.freeze (i:=1) rfl rfl rfl (aM _)) ?_;refine GN (by simp only [pS,pf];rfl) ?_;refine D ?_;refine V [] h ?_;exact al
theorem Lh (x:Go.Sp.Fn):GF prog 177 [.agg (au x)] [] (.v (.bool (decide (x.params.length > 40)))) []:=by
 have h:decide ((40:Int) < ((x.params.map fun s=>[GV.v (sv s)]).length:Int))=decide (x.params.length > 40):=by
  rw [bP];exact decide_eq_decide.2 G
 rw [<-h];unfold au strs;refine ah func177 ntmps177 ?_;exact al
theorem Ow (x:Go.Sp.Fn):GF prog 141 [.agg (au x)] [] (.v (.bool (nG x))) []:=by
 have h:(((x.params.map fun s=>[GV.v (sv s)]).length:Int)==0)=(x.params.length==0):=by
  rw [bP];exact Bool.eq_iff_iff.2 (by simp)
 unfold nG v7;rw [<-h];unfold au strs
 cases L:(x.name==[109,97,105,110])
 all_goals
  refine ah func141 ntmps141 ?_;exact al
end Go.Xg
namespace Go.Xg
open Go.RowKit Go.Xw Go.Proofs
open Go.Xp (Nd T Ar aQ aB)
open Go.Sp (Src)
open Go.Im
attribute [local irreducible] GW GL GO YG GC GA be bd
section
variable {B:Bs} {K:Fz} {β:Bt} {w:World} {l:List Value} {fr:List GV} {A C:List Ob}
theorem mO {x y:Operand} {E k:Nat} {rows:List (List GV)} {h z:Value} (hI:Inv B K β (A++(.vech E k rows h::C)) w) (hF:FR K β fr l) (hx:ba fr x=.v h) (hy:ba fr y=.v z) :
  ∃ K1,kC K1 w/\jl K1 (fun _=>.no) w/\bh K1 (fun _=>.no) ([x,y].map (ev l)) [.sl k rows,.v z]:=by
 obtain ⟨K1,hk,L,I,h3⟩:=hI.view (i:=A.length) (E:=E) (k:=k) (rows:=rows) (x:=h) (by rw [eE (aD _),iJ];rfl);refine ⟨K1,L,I,?_⟩;show bh K1 _ [ev l x,ev l y] _;rw [hF.jI hx,hF.jI hy];exact .cons h3 (.cons (.v _) .nil)
end
theorem zD (l:List ae):(bA l).length=l.length:=by simp [bA]
end Go.Xg
set_option maxHeartbeats 4000000
namespace Go.Xg
open Go.RowKit Go.Xw Go.Proofs
open Go.Xp (Nd T Ar aQ aB)
open Go.Sp (Src)
open Go.Im
attribute [local irreducible] GW GL GO YG GC GA be bd
theorem ow (l:List ae):ig (l.map fun s=>[GV.v (sv s)])=true:=by
 induction l with
 | nil=>rfl
 | cons s l ih=>rw [List.map_cons,ig,ih];rfl
theorem GW.Tv {P:Program} {m:Nat} {c:Code} {Q:du} {fr cJ:List GV} {F aO:List Ob} (L:tP fr cJ) (I:F=aO) (h:GW P m c Q cJ aO):GW P m c Q fr F:=by
 subst I;exact GW.wk (Wk.aE L) h
end Go.Xg
namespace Go.Xg
open Go.RowKit Go.Xw Go.Proofs Tryz
open Go.Xp (Nd T Ar aQ aB)
open Go.Sp (Src)
open Go.Im
attribute [local irreducible] GW GL GO YG GC GA be bd
def uY (n:Nd):Bool:=(n.kind==4&&n.s==[115,105,122,101])&&((n.kids.length:Int)==1)
theorem BQ (p:Src) (a:Nat) (n:Nd) (hn:p.nodes[a]?=some n):GF prog 179 [.agg (ar p),.v (ii (a:Nat))] [] (.v (.bool (uY n))) []:=by
 have hr:=nm hn
 have iT:(n.kids.map fun i=>[GV.v (ii i)]).length=n.kids.length:=by simp
 unfold uY;rw [<-iT];unfold aw ints at hr;generalize (n.kids.map fun i=>[GV.v (ii i)])=kk at *
 cases L:(n.kind==4)
 all_goals cases I:(n.s==[115,105,122,101])
 all_goals
  refine ah func179 ntmps179 ?_;exact al
theorem U8 (p:Src) (s:ae) (hn:p.fns.length<=1099511627776):GF prog 255 [.agg (ar p),.v (sv s)] [] (.v (ii (n9 p s))) []:=by
 have hF:=TG p s hn;unfold n9 pN qF ko
 cases L:(s==[103,101,116]) with
 | true =>
  rw [ab (by simpa using L)];refine ah func255 ntmps255 ?_;exact al
 | false =>
  rw [M (by simpa using L)]
  cases I:(s==[112,117,116]) with
  | true =>
   rw [ab (.inl (by simpa using I))];refine ah func255 ntmps255 ?_;exact al
  | false =>
   cases h3:(s==[115,105,122,101]) with
   | true =>
    rw [ab (.inr (by simpa using h3))];refine ah func255 ntmps255 ?_;exact al
   | false =>
    rw [M (by simpa using And.intro (show ¬ s=[112,117,116] by simpa using I) (show ¬ s=[115,105,122,101] by simpa using h3))];unfold dV at hF
    cases hx:p.fns.findIdx? (fun f:Go.Sp.Fn=>f.name==s) with
    | none =>
     rw [hx] at hF
     have hd:decide ((0:Int) <= -1)=false:=by decide
     refine ah func255 ntmps255 ?_;refine V [] hF ?_;exact al
    | some i =>
     rw [hx] at hF;have hi:i < p.fns.length:=(List.findIdx?_eq_some_iff_getElem.1 hx).1;obtain ⟨f,hf⟩:∃ f,p.fns[i]?=some f:=⟨p.fns[i],by simp [hi]⟩
     have hr:(p.fns.map au)[i]?=some (au f):=by rw [aV,hf];rfl
     have dJ:(f.params.map fun s=>[GV.v (sv s)]).length=f.params.length:=by simp
     have hd:decide ((0:Int)<=((i:Nat):Int))=true:=by simp
     unfold au at hr;simp only at hF |-;unfold mD;rw [hf];simp only;rw [<-dJ];refine ah func255 ntmps255 ?_;refine V [] hF ?_;exact al
end Go.Xg
namespace Go.Xg
open Go.RowKit Go.Xw Go.Proofs Tryz
open Go.Xp (Nd T Ar aQ aB dy bg)
open Go.Sp (Src)
open Go.Im
attribute [local irreducible] GW GL GO YG GC GA be bd
theorem IX {p:Src} {a:Nat} {n:Nd} {l:List T} (cz:fy p.nodes a (.mk n l)):gy (.mk n l)=uY n:=by
 rw [fy] at cz;unfold gy uY ko
 congr 1
 rw [cz.2.1,dy]
 exact Bool.eq_iff_iff.2 (by
  show ((l.length==1)=true)↔_
  simp only [beq_iff_eq];omega)
theorem Hs (p:Src) (a:Nat) (n:Nd) (l:List T) (ls:List ae) (cz:fy p.nodes a (.mk n l)) (nB:p.fns.length<=1099511627776) (kj:p.arrays.length<=1099511627776) (o8:ls.length<=1099511627776) :
  GF prog 222 [.agg (ar p),.v (ii (a:Nat)),strs ls] [] (.v (ii (gI p (.mk n l) ls))) []:=by
 have hs:=IX cz;rw [fy] at cz;obtain ⟨hn,hk,qA⟩:=cz;have hS:=BQ p a n hn;have hr:=nm hn
 have iT:(n.kids.map fun i=>[GV.v (ii i)]).length=l.length:=by rw [bP,hk,dy]
 unfold gI;rw [hs]
 cases hz:uY n with
 | true =>
  rw [hz] at hS;rw [ab rfl]
  have fR:l.length=1:=by
   unfold uY at hz;simp only [aH,beq_iff_eq] at hz;rw [hk,dy] at hz;omega
  obtain ⟨u,rfl⟩:∃ u,l=[u]:=by
   match l,fR with
   | [u],_=>exact ⟨u,rfl⟩
  have hm:p.nodes[a+1]?=some u.n:=by
   rw [dC] at qA;have:=qA.1
   cases u;rw [fy] at this;exact this.1
  have z7:n.kids[0]?=some (((a+1:Nat)):Int):=by rw [hk];rfl
  have sr:=tH z7;have jg:=nm hm;show GF _ _ _ _ (.v (ii (if jH p u.n ls=true then 24 else 0))) _;generalize u.n=m at *;have hA:=Dv p m.s kj;have hL:=kp ls m.s o8;have hb:jH p m ls=((m.kind != 2 || decide (dV (fun x:Ar=>x.name==m.s) p.arrays < 0)) || ls.contains m.s):=rfl;rw [hb];generalize dV (fun x:Ar=>x.name==m.s) p.arrays=z at *;unfold aw at hr jg
  cases L:(m.kind != 2) with
  | true =>
   refine ah func222 ntmps222 ?_;refine V [] hS ?_;refine aK (aC 0 8 (.a 8 (.a 9 .nil))) ?_;refine aj ?_;exact ay
  | false =>
   cases I:decide (z < 0) with
   | true =>
    refine ah func222 ntmps222 ?_;refine V [] hS ?_;refine aK (aC 0 8 (.a 8 (.a 9 .nil))) ?_;refine bq ?_;refine V [] hA ?_;exact al
   | false =>
    generalize ls.contains m.s=b at *;cases b
    all_goals
     refine ah func222 ntmps222 ?_;refine V [] hS ?_;refine aK (aC 0 8 (.a 8 (.a 9 .nil))) ?_;refine bq ?_;refine V [] hA ?_;refine V [] hL ?_;exact al
 | false =>
  rw [hz] at hS;rw [M aR];have hM:=U8 p n.s nB;show GF _ _ _ _ (.v (ii (if n9 p n.s = -1 then 22 else if n9 p n.s=(l.length:Int) then 0 else 23))) _;generalize n9 p n.s=z at *;rw [<-iT];unfold aw at hr;unfold ints at hr;generalize (n.kids.map fun i=>[GV.v (ii i)])=kk at *
  cases L:(z == -1) with
  | true =>
   rw [ab (by simpa using L)];refine ah func222 ntmps222 ?_;refine V [] hS ?_;refine V [] hM ?_;exact al
  | false =>
   rw [M (by simpa using L)]
   cases I:(z==(kk.length:Int)) with
   | true =>
    rw [ab (by simpa using I)];refine ah func222 ntmps222 ?_;refine V [] hS ?_;refine V [] hM ?_;exact al
   | false =>
    rw [M (by simpa using I)];refine ah func222 ntmps222 ?_;refine V [] hS ?_;refine V [] hM ?_;exact al
theorem HL (p:Src) (a:Nat) (n:Nd) (l:List T) (ls:List ae) (cz:fy p.nodes a (.mk n l)) (nB:p.fns.length<=1099511627776) (kj:p.arrays.length<=1099511627776) (lD:p.globals.length<=1099511627776) (o8:ls.length<=1099511627776) :
  GF prog 180 [.agg (ar p),.v (ii (a:Nat)),strs ls] [] (.v (ii (dj p (.mk n l) ls))) []:=by
 have hC:=Hs p a n l ls cz nB kj o8
 have hn:p.nodes[a]?=some n:=by rw [fy] at cz;exact cz.1
 clear cz;have hr:=nm hn;have hL:=kp ls n.s o8;have hG:=kp p.globals n.s lD;have hA:=Dv p n.s kj
 have re:(ls.map fun s=>[GV.v (sv s)]).length=ls.length:=by simp
 have he:dj p (.mk n l) ls=(if n.kind=13 then (if ls.contains n.s=true then 21 else if ls.length>=40 then 26 else 0)
  else if n.kind=2\/n.kind=7 then (if ls.contains n.s=false/\p.globals.contains n.s=false then 22 else 0)
  else if n.kind=3\/n.kind=8 then (if ls.contains n.s=true\/dV (fun x:Ar=>x.name==n.s) p.arrays < 0 then 24 else 0)
  else if n.kind=4 then gI p (.mk n l) ls else 0):=rfl
 rw [he];generalize gI p (.mk n l) ls=cf at *;obtain ⟨kd,at_,nn,s,ks⟩:=n;simp only at *;unfold aw at hr;simp only at hr;generalize dV (fun x:Ar=>x.name==s) p.arrays=z at *;generalize ls.contains s=b at *;generalize p.globals.contains s=g at *;rw [<-re]
 by_cases fm:kd=13
 ·subst fm
  have Jm:((13:Int)==13)=true:=by decide
  rw [ab rfl]
  cases b with
  | true =>
   refine ah func180 ntmps180 ?_;refine V [] hL ?_;exact al
  | false =>
   cases h4:decide ((40:Int)<=(((ls.map fun s=>[GV.v (sv s)]).length:Nat):Int)) with
   | true =>
    rw [M aR,ab (by simp at h4;omega)];refine ah func180 ntmps180 ?_;refine V [] hL ?_;exact al
   | false =>
    rw [M aR,M (by simp at h4;omega)];refine ah func180 ntmps180 ?_;refine V [] hL ?_;exact al
 rw [M fm]
 by_cases I:kd=2
 ·subst I
  have Jm:((2:Int)==13)=false:=by decide
  have q2:((2:Int)==2)=true:=by decide
  rw [ab aR]
  cases b with
  | true =>
   refine ah func180 ntmps180 ?_;refine V [] hL ?_;exact al
  | false =>
   cases g
   all_goals
    refine ah func180 ntmps180 ?_;refine V [] hL ?_;refine V [] hG ?_;exact al
 by_cases h7:kd=7
 ·subst h7
  have Jm:((7:Int)==13)=false:=by decide
  have q2:((7:Int)==2)=false:=by decide
  have q7:((7:Int)==7)=true:=by decide
  rw [ab aR]
  cases b with
  | true =>
   refine ah func180 ntmps180 ?_;refine V [] hL ?_;exact al
  | false =>
   cases g
   all_goals
    refine ah func180 ntmps180 ?_;refine V [] hL ?_;refine V [] hG ?_;exact al
 rw [M (by rintro (h | h);(· exact I h);exact h7 h)]
 by_cases h3:kd=3
 ·subst h3
  have Jm:((3:Int)==13)=false:=by decide
  have q2:((3:Int)==2)=false:=by decide
  have q7:((3:Int)==7)=false:=by decide
  have q3:((3:Int)==3)=true:=by decide
  rw [ab aR]
  cases b with
  | true =>
   refine ah func180 ntmps180 ?_;refine V [] hL ?_;exact al
  | false =>
   cases hz:decide (z < 0) with
   | true =>
    rw [ab (.inr (by simpa using hz))];refine ah func180 ntmps180 ?_;refine V [] hL ?_;refine V [] hA ?_;exact al
   | false =>
    rw [M (by rintro (h | h);(· cases h);(· simp at hz;omega))];refine ah func180 ntmps180 ?_;refine V [] hL ?_;refine V [] hA ?_;exact al
 by_cases h8:kd=8
 ·subst h8
  have Jm:((8:Int)==13)=false:=by decide
  have q2:((8:Int)==2)=false:=by decide
  have q7:((8:Int)==7)=false:=by decide
  have q3:((8:Int)==3)=false:=by decide
  have q8:((8:Int)==8)=true:=by decide
  rw [ab aR]
  cases b with
  | true =>
   refine ah func180 ntmps180 ?_;refine V [] hL ?_;exact al
  | false =>
   cases hz:decide (z < 0) with
   | true =>
    rw [ab (.inr (by simpa using hz))];refine ah func180 ntmps180 ?_;refine V [] hL ?_;refine V [] hA ?_;exact al
   | false =>
    rw [M (by rintro (h | h);(· cases h);(· simp at hz;omega))];refine ah func180 ntmps180 ?_;refine V [] hL ?_;refine V [] hA ?_;exact al
 rw [M (by rintro (h | h);(· exact h3 h);exact h8 h)]
 by_cases h4:kd=4
 ·subst h4
  have Jm:((4:Int)==13)=false:=by decide
  have q2:((4:Int)==2)=false:=by decide
  have q7:((4:Int)==7)=false:=by decide
  have q3:((4:Int)==3)=false:=by decide
  have q8:((4:Int)==8)=false:=by decide
  have q4:((4:Int)==4)=true:=by decide
  rw [ab rfl];refine ah func180 ntmps180 ?_;refine V [] hL ?_;refine V [] hC ?_;exact al
 rw [M h4]
 have Jm:(kd==13)=false:=by simpa using fm
 have q2:(kd==2)=false:=by simpa using I
 have q7:(kd==7)=false:=by simpa using h7
 have q3:(kd==3)=false:=by simpa using h3
 have q8:(kd==8)=false:=by simpa using h8
 have q4:(kd==4)=false:=by simpa using h4
 refine ah func180 ntmps180 ?_;refine V [] hL ?_;exact al
theorem TI {K K1:Fz} {β:Bt} {v:Value} {gs:List GV} (hk:cU K K1) (hp:∀ g∈gs,g.pc=true) (h:Rel K β v (.agg gs)):Rel K1 (fun _=>.no) v (.agg gs):=by
 cases h with
 | agg vs cs hl h =>
  exact .agg vs gs hl fun i v g L I=>((h i v g L I).mono hk (dp.refl β)).pc (hp g (bF I))
theorem J7 (p:Src):∀ g∈ar p,g.pc=true:=fun g hg=>by
 simp only [ar,List.mem_cons,not_mem_nil,or_false] at hg
 rcases hg with rfl | rfl | rfl | rfl <;> rfl
theorem oK {B:Bs} {K:Fz} {β:Bt} {w:World} {l:List Value} {fr:List GV} {A C:List Ob} {p:Src} {x y u:Operand} {E k:Nat} {rows:List (List GV)} {h z:Value} (hI:Inv B K β (A++(.vech E k rows h::C)) w) (hF:FR K β fr l) (hx:ba fr x=.agg (ar p)) (hy:ba fr y=.v z) (hu:ba fr u=.v h) :
  ∃ K1,kC K1 w/\jl K1 (fun _=>.no) w/\bh K1 (fun _=>.no) ([x,y,u].map (ev l)) [.agg (ar p),.v z,.sl k rows]:=by
 obtain ⟨K1,hk,L,I,h3⟩:=hI.view (i:=A.length) (E:=E) (k:=k) (rows:=rows) (x:=h) (by rw [eE (aD _),iJ];rfl);have hr:=hF.ev x;rw [hx] at hr;refine ⟨K1,L,I,?_⟩;show bh K1 _ [ev l x,ev l y,ev l u] _;rw [hF.jI hy,hF.jI hu];exact .cons (TI hk (J7 p) hr) (.cons (.v _) (.cons h3 .nil))
theorem S6 (p:Src) (a:Nat) (n:Nd) (l:List T) (ls:List ae) (c:CS) (E1 E5 E6:TypeId) (ad:Option Addr) (cp:Nat) (cz:fy p.nodes a (.mk n l)) (nB:p.fns.length<=1099511627776) (kj:p.arrays.length<=1099511627776) (lD:p.globals.length<=1099511627776) (o8:ls.length<=1099511627776) :
  GF prog 178 [.v (ii (a:Nat)),.v (.slice ad ls.length cp),.loc 0 0,.loc 1 0,.box (ar p) 0,.loc 2 0] [.box E1 [.v (ii c.code)],.box E5 [.v (ii c.skip)],.box E6 [.v (ii c.place)],.vech 9 1 (bA ls) (.slice ad ls.length cp)] (.tup [])
   [.box E1 [.v (ii (dN p c a (.mk n l) ls).code)],.box E5 [.v (ii (dN p c a (.mk n l) ls).skip)],.box E6 [.v (ii (dN p c a (.mk n l) ls).place)],.vech 9 1 (bA ls) (.slice ad ls.length cp)]:=by
 have hs:=IX cz;have hN:=HL p a n l ls cz nB kj lD o8;rw [fy] at cz;obtain ⟨hn,hk,qA⟩:=cz;have hS:=BQ p a n hn;have hr:=nm hn;obtain ⟨code,place,skip⟩:=c;unfold dN;rw [hs];simp only;generalize dj p (.mk n l) ls=z at *
 cases L:(code != 0) with
 | true =>
  rw [ab (.inl (by simpa using L))];refine ah func178 ntmps178 ?_;exact gR
 | false =>
  cases I:(((a:Nat):Int)==skip) with
  | true =>
   rw [ab (.inr (by simpa using I))];refine ah func178 ntmps178 ?_;exact gR
  | false =>
   rw [M (by rintro (h | h);(· simp at L;exact h L);(· simp at I;exact I h))];simp only
   cases hz:uY n with
   | false =>
    rw [hz] at hS;rw [M (show ¬ (false=true) by decide)];unfold aw at hr
    cases h3:(z != 0) with
    | true =>
     rw [ab (by simpa using h3)];refine ah func178 ntmps178 ?_;refine V [] hS ?_;refine GL.borrow hN (fun B K β w l hI hF=>oK (A:=[_,_,_]) (C:=[]) hI hF rfl rfl rfl) ?_;refine bJ ?_;exact nr
    | false =>
     rw [M (by simpa using h3)];refine ah func178 ntmps178 ?_;refine V [] hS ?_;refine GL.borrow hN (fun B K β w l hI hF=>oK (A:=[_,_,_]) (C:=[]) hI hF rfl rfl rfl) ?_;refine bJ ?_;exact nr
   | true =>
    rw [hz] at hS;rw [ab rfl]
    have fR:l.length=1:=by
     unfold uY at hz;simp only [aH,beq_iff_eq] at hz;rw [hk,dy] at hz;omega
    obtain ⟨u,rfl⟩:∃ u,l=[u]:=by
     match l,fR with
     | [u],_=>exact ⟨u,rfl⟩
    have hm:p.nodes[a+1]?=some u.n:=by
     rw [dC] at qA;have:=qA.1
     cases u;rw [fy] at this;exact this.1
    have z7:n.kids[0]?=some (((a+1:Nat)):Int):=by rw [hk];rfl
    have sr:=tH z7;have jg:=nm hm;rw [show rG (.mk n [u])=u.n from rfl];generalize u.n=m at *;unfold aw at hr jg
    cases h4:(m.kind != 2) with
    | true =>
     rw [ab (show m.kind≠2 by simpa using h4)]
     cases h3:(z != 0) with
     | true =>
      rw [ab (by simpa using h3)];refine ah func178 ntmps178 ?_;refine V [] hS ?_;refine GL.borrow hN (fun B K β w l hI hF=>oK (A:=[_,_,_]) (C:=[]) hI hF rfl rfl rfl) ?_;refine bJ ?_;exact nr
     | false =>
      rw [M (by simpa using h3)];refine ah func178 ntmps178 ?_;refine V [] hS ?_;refine GL.borrow hN (fun B K β w l hI hF=>oK (A:=[_,_,_]) (C:=[]) hI hF rfl rfl rfl) ?_;refine bJ ?_;exact nr
    | false =>
     rw [M (show ¬ (m.kind≠2) by simpa using h4)]
     cases h3:(z != 0) with
     | true =>
      rw [ab (by simpa using h3)];refine ah func178 ntmps178 ?_;refine V [] hS ?_;refine GL.borrow hN (fun B K β w l hI hF=>oK (A:=[_,_,_]) (C:=[]) hI hF rfl rfl rfl) ?_;refine bJ ?_;exact nr
     | false =>
      rw [M (by simpa using h3)];refine ah func178 ntmps178 ?_;refine V [] hS ?_;refine GL.borrow hN (fun B K β w l hI hF=>oK (A:=[_,_,_]) (C:=[]) hI hF rfl rfl rfl) ?_;refine bJ ?_;exact nr
end Go.Xg
namespace Go.Xg
open GV (U)
open Go.RowKit Go.Xw Go.Proofs Tryz
open Go.Xp (Nd T Ar aQ aB dy)
open Go.Sp (Src)
open Go.Im
attribute [local irreducible] GW GL GO YG GC GA be bd
def Jz (p:Src):GV:=.fn (.func 178) [] [.loc 0 0,.loc 1 0,.box (ar p) 0,.loc 2 0]
def Rw (p:Src):GV:=.fn (.func 97) [] [.loc 3 0,.loc 4 0,.box (ar p) 0,.loc 5 0]
def Ed (p:Src) (E1 E5 E6 E2 E3 E4:TypeId) (s:CS) (ls:List ae) (ad:Option Addr) (cp:Nat):List Ob :=
 [.box E1 [.v (ii s.code)],.box E5 [.v (ii s.skip)],.box E6 [.v (ii s.place)],.box E2 [Jz p],.box E3 [.v (.slice ad ls.length cp)],.box E4 [Rw p],.vech 9 1 (bA ls) (.slice ad ls.length cp)]
theorem Qq (p:Src) (E1 E5 E6 E2 E3 E4:TypeId) (hp:p.nodes.length<=1048576) (iT:∀ n∈p.nodes,n.kids.length<=1099511627776) (nB:p.fns.length<=1099511627776) (kj:p.arrays.length<=1099511627776) (lD:p.globals.length<=1099511627776):∀ (N:Nat) (t:T),aQ t<=N->∀ (a:Nat) (s:CS) (ls:List ae) (ad:Option Addr) (cp:Nat),fy p.nodes a t->ls.length+aQ t<=8388608 ->
  GC prog 97 [.v (ii (a:Nat)),.loc 3 0,.loc 4 0,.box (ar p) 0,.loc 5 0] (Ed p E1 E5 E6 E2 E3 E4 s ls ad cp) fun g Δ=>g=.tup []/\∃ xV x7,Δ=Ed p E1 E5 E6 E2 E3 E4 (ny (dN p) t a s ls).1 (ny (dN p) t a s ls).2 xV x7:=by
 intro N
 induction N with
 | zero=>intro t h;have:=lr t;omega
 | succ N ih =>
 intro t hN a s ls ad cp cz o8
 cases t with
 | mk n l =>
 rw [Go.Xp.aQ] at hN o8;have Zi:=cz;rw [fy] at cz;obtain ⟨hn,hk,qA⟩:=cz;rw [ny];have hr:=nm hn;have pC:=iT n (bF hn);have ht:=S6 p a n l ls s E1 E5 E6 ad cp Zi nB kj lD G;generalize iy:(dN p) s a (.mk n l) ls=s1 at *
 have QX:n.kids.length=l.length:=by rw [hk,dy]
 unfold aw at hr;unfold Ed Jz Rw;refine ah func97 ntmps97 ?_;refine GL.ED [0,1,2,6] ht rfl rfl rfl (by repeat (first | exact trivial | refine ⟨rfl,?_⟩)) ?_;rintro _ _ ⟨rfl,rfl⟩;refine eO ?_;refine D ?_;refine GW.range (n.kids.map fun i=>[GV.v (ii i)]).length (fun k fr F=>∃ xV x7,fr=[.v (ii (a:Nat)),.loc 3 0,.loc 4 0,.box (ar p) 0,.loc 5 0,U,U,U,U,U,U,U,U,U,U,U,U,ints n.kids,.v (ii ((n.kids.map fun i=>[GV.v (ii i)]).length:Int)),.v (ii (k:Nat)),U,U,U,U,U,U,U,U,U,U,U,U,U,U,U,U,U,U,U,U,U,U,U]/\F=Ed p E1 E5 E6 E2 E3 E4 (iR (dN p) (l.take k) (a+1) s1 ls).1 (iR (dN p) (l.take k) (a+1) s1 ls).2 xV x7) ?_ (by rw [bP];omega) ?_ ?_ ?_
 ·exact ⟨_,_,Wk.aE ao,ad,cp,rfl,rfl⟩
 ·rintro k _ _ ⟨ad,cp,rfl,rfl⟩;exact et
 ·rintro k _ _ ak ⟨ad,cp,rfl,rfl⟩;rw [bP,QX] at ak;obtain ⟨u,hu⟩:∃ u,l[k]?=some u:=⟨l[k],by simp [ak]⟩;have gL:=DZ (n:=a+1) hu;rw [<-hk] at gL;have yD:=tH gL;have dE:=uE hu;have hsu:fy p.nodes (a+1+aB (l.take k)) u:=dC.ix l (a+1) k u qA hu
  have hlen:(iR (dN p) (l.take k) (a+1) s1 ls).2.length<=ls.length+aB (l.take k):=by
   rw [wZ,aU];have:=En (l.take k);omega
  rw [OZ _ hu];generalize (iR (dN p) (l.take k) (a+1) s1 ls).1=s2 at *;generalize (iR (dN p) (l.take k) (a+1) s1 ls).2=mA at *;have hv:=ih u G (a+1+aB (l.take k)) s2 mA ad cp hsu G;unfold Ed Jz Rw at hv |-;refine D ?_;refine GL.ED [0,1,2,3,4,5,6] hv rfl rfl rfl (by repeat (first | exact trivial | refine ⟨rfl,?_⟩)) ?_;rintro _ _ ⟨rfl,xV,x7,rfl⟩;refine eO ?_;refine D ?_;exact ⟨rfl,rfl,_,_,Wk.aE ao,xV,x7,rfl,rfl⟩
 ·rintro _ _ ⟨ad,cp,rfl,rfl⟩;rw [bP,QX,b7]
  have hlen:(iR (dN p) l (a+1) s1 ls).2.length<=ls.length+aB l:=by
   rw [wZ,aU];have:=En l;omega
  generalize (iR (dN p) l (a+1) s1 ls).1=s2 at *;generalize (iR (dN p) l (a+1) s1 ls).2=mA at *;have Uu:(bA mA).length=mA.length:=zD mA;unfold Ed Jz Rw;refine aW ?_
  cases hv:(n.kind==13) with
  | false =>
   rw [M (by simpa using hv)];refine D ?_;refine eN ?_;exact ⟨rfl,ad,cp,rfl⟩
  | true =>
   rw [ab (by simpa using hv)];refine D ?_;refine aK (aC 0 7 (.a 7 (.a 8 (.a 9 .nil)))) ?_;refine aj ?_;refine eY ?_;refine aj ?_;refine OA rfl rfl (GL.rz 6 (news:=[[.v (sv n.s)]]) rfl rfl rfl bm rfl rfl (by refine ⟨?_,?_⟩;(· show _+1<=_;omega);(· show (_+1) * _<=_;omega)) ?_);intro xW x8;refine cj ?_;refine bq ?_;refine eN ?_;exact ⟨rfl,xW,x8,by simp [bA]⟩
theorem R0 (p:Src) (E1 E5 E6:TypeId) (i:Nat) (f:Go.Sp.Fn) (t:T) (s:CS) (hp:p.nodes.length<=1048576) (iT:∀ n∈p.nodes,n.kids.length<=1099511627776) (nB:p.fns.length<=1099511627776) (kj:p.arrays.length<=1099511627776) (lD:p.globals.length<=1099511627776)
  (hf:p.fns[i]?=some f) (AL:f.params.length<=1048576) (hb:0<=f.body) (cz:fy p.nodes f.body.toNat t) (dE:aQ t<=1048576) :
  GF prog 44 [.agg (ar p),.v (ii (i:Nat)),Jz p] [.box E1 [.v (ii s.code)],.box E5 [.v (ii s.skip)],.box E6 [.v (ii s.place)]] (.tup []) [.box E1 [.v (ii (ny (dN p) t f.body.toNat s f.params).1.code)],.box E5 [.v (ii (ny (dN p) t f.body.toNat s f.params).1.skip)],.box E6 [.v (ii (ny (dN p) t f.body.toNat s f.params).1.place)]]:=by
 have hr:(p.fns.map au)[i]?=some (au f):=by rw [aV,hf];rfl
 have dJ:(f.params.map fun s=>[GV.v (sv s)]).length=f.params.length:=by simp
 have gB:=ow f.params;obtain ⟨b,DN⟩:∃ b:Nat,f.body=(b:Int):=⟨f.body.toNat,by omega⟩;rw [DN,qU] at cz |-;unfold au at hr;rw [DN] at hr;unfold Jz;refine cY func44 ntmps44 ?_;refine lu ?_;refine GL.wk (Wk.freeze (i:=3) rfl rfl rfl (aD _)) ?_;refine GN (by simp only [pS,pf];rfl) ?_;refine GL.wk (Wk.aE (cJ:=[U,.v (ii (i:Nat)),U,.box (ar p) 0,U,.loc 4 0,U,U,U,U,U,U,U,strs f.params,U,U,U,U,U,U,U,U,U,U]) ao) ?_;refine GL.wk (Wk.jq 9 1) ?_;refine GL.pL 5 rfl rfl rfl rfl gB (by refine ⟨?_,?_⟩;(· rw [dJ];omega);(· rw [dJ];omega)) ?_;intro ad cp;rw [dJ];refine bJ ?_;simp only [nil_append,List.length_nil,cL];refine D ?_;refine GW.Tv (cJ:=[U,.v (ii (i:Nat)),U,.box (ar p) 0,U,.loc 4 0,.loc 6 0,.loc 7 0,U,U,U,U,U,U,U,U,U,U,U,U,U,U,U,U]) (aO:=[.box E1 [.v (ii s.code)],.box E5 [.v (ii s.skip)],.box E6 [.v (ii s.place)],.gone,.box _ [.fn (.func 178) [] [.loc 0 0,.loc 1 0,.box (ar p) 0,.loc 2 0]],.vech 9 1 (bA f.params) (.slice ad f.params.length cp),.box _ [.v (.slice ad f.params.length cp)],.box _ [.fn (.func 97) [] [.loc 4 0,.loc 6 0,.box (ar p) 0,.loc 7 0]]]) ao rfl ?_;refine aK (aC 0 7 (.a 7 .nil)) ?_;refine aj ?_;have hv:=Qq p E1 E5 E6;refine OA rfl rfl (GL.ED [0,1,2,4,6,7,5] (hv _ _ _ hp iT nB kj lD _ t (aD _) b s f.params ad cp cz G) rfl rfl rfl (by repeat (first | exact trivial | refine ⟨rfl,?_⟩)) ?_);rintro _ _ ⟨rfl,xV,x7,rfl⟩;refine ⟨by simp [Ed],?_⟩;unfold Ed;refine cj ?_;refine aj ?_;exact nr
end Go.Xg
namespace Go.Im
open Go.Xp Go.Sp
theorem Io {l:List ae}:wW l=false↔∀ k,k < l.length->oL l k=false:=by
 unfold wW;rw [any_eq_false];constructor
 ·intro h k hk;have:=h k (List.mem_range.2 hk);simpa using this
 ·intro h k hk;rw [h k (List.mem_range.1 hk)];decide
end Go.Im
namespace Go.Xg
open GV (U)
open Go.RowKit Go.Xw Go.Proofs Tryz
open Go.Xp (Nd T Ar aQ aB dy)
open Go.Sp (Src)
open Go.Im
theorem YG.EJ {P:Program} {fr:List GV} {F:List Ob} {x up:Operand} {t e:TypeId} {k:Nat} [hT:nX P t e k] {rows:List (List GV)} {kk:IntKind} {i:Nat} (hx:ba fr x=.sl k rows) (hup:ba fr up=.v (.int kk i)) (hi:i < rows.length):YG P (.slice t x none (some up) none) fr F (.sl k (rows.take i)):=fun B K β w l hI hF=>by
 have h:=hF.ev x;rw [hx] at h;have II:=hF.jI hup;generalize hv:ev l x=v at h
 cases h with
 | sl0 a c=>simp at hi
 | sl b o c _ _ h hc =>
  refine ⟨.slice (some ⟨b,o,none⟩) i c,fun d ty pos af=>?_,?_⟩
  ·have o7:¬ (c=0):=by omega
   have hle:(i:Int)<=(c:Int):=by omega
   have AK:i<=c:=by omega
   simp [execOp,Instr.sliceAt,Instr.slice,Instr.sliceBounds,Instr.sliceBound,asIntOf,hv,II,run_underlying hT.und,jF hT.siz,o7,hle,AK,qp]
  ·have:=Rel.sl (K:=K) (β:=β) b o c k (rows.take i) (fun j r hr=>?_) (by simp;omega)
   ·rw [cS,Nat.min_eq_left (Nat.le_of_lt hi)] at this;exact this
   ·have hj:j < i:=by
     rcases Nat.lt_or_ge j i with L | L
     ·exact L
     ·rw [getElem?_eq_none (by rw [cS];omega)] at hr;cases hr
    rw [List.getElem?_take,ab hj] at hr;exact h j r hr
attribute [local irreducible] GW GL GO YG GC GA be bd
theorem Ma (p:Src) (i:Nat) (f:Go.Sp.Fn) (t:T) (hp:p.nodes.length<=1048576) (iT:∀ n∈p.nodes,n.kids.length<=1099511627776) (nB:p.fns.length<=1099511627776) (kj:p.arrays.length<=1099511627776) (lD:p.globals.length<=1099511627776)
  (hf:p.fns[i]?=some f) (AL:f.params.length<=1048576) (hb:0<=f.body) (cz:fy p.nodes f.body.toNat t) (dE:aQ t<=1048576) :
  GF prog 142 [.agg (ar p),.v (ii (i:Nat))] [] (.tup [.v (ii (jm p f t f.body.toNat).1),.v (ii (jm p f t f.body.toNat).2)]) []:=by
 have hr:(p.fns.map au)[i]?=some (au f):=by rw [aV,hf];rfl
 have eR:(f.params.map fun s=>[GV.v (sv s)]).length=f.params.length:=by simp
 have hE:=R0 p 3 3 3 i f t ⟨0,0,-1⟩ hp iT nB kj lD hf AL hb cz dE;unfold au at hr;unfold jm;refine ah func142 ntmps142 ?_;refine GW.range (f.params.map fun s=>[GV.v (sv s)]).length (fun k fr F=>fr=[U,.v (ii (i:Nat)),.loc 0 0,U,U,U,strs f.params,U,U,U,U,U,U,U,U,U,U,U,strs f.params,.v (ii ((f.params.map fun s=>[GV.v (sv s)]).length:Int)),.v (ii (k:Nat)),U,U,U,U,U,U,U,U,U,U,U,U,U,U,U,U]/\F=[.box 33 (ar p)]/\∀ j,j < k->oL f.params j=false) ?_ G ?_ ?_ ?_
 ·exact ⟨_,_,Wk.aE ao,rfl,rfl,fun j hj=>absurd hj (Nat.not_lt_zero _)⟩
 ·exact iI
 ·rintro k _ _ ak ⟨rfl,rfl,aY⟩;have nP:=ak;rw [eR] at ak;obtain ⟨x,hx⟩:∃ x,f.params[k]?=some x:=⟨f.params[k],by simp [ak]⟩
  have Q4:(f.params.map fun s=>[GV.v (sv s)])[k]?=some [.v (sv x)]:=by rw [aV,hx];rfl
  have hC:=kp (f.params.take k) x (by rw [cS];omega)
  have hd:oL f.params k=(f.params.take k).contains x:=by unfold oL;rw [hx]
  rw [<-hd] at hC;unfold strs at hC;rw [map_take] at hC
  cases fg:oL f.params k with
  | true =>
   rw [fg] at hC
   have Ul:wW f.params=true:=by
    cases h:wW f.params with
    | true=>rfl
    | false=>rw [Io.1 h k ak] at fg;cases fg
   rw [ab Ul];refine D ?_;refine GL.q (YG.EJ rfl rfl nP) ?_;refine bJ ?_;refine D ?_;refine V [] hC ?_;exact nt
  | false =>
   rw [fg] at hC;refine D ?_;refine GL.q (YG.EJ rfl rfl nP) ?_;refine bJ ?_;refine D ?_;refine V [] hC ?_
   exact ⟨rfl,rfl,_,_,Wk.aE ao,rfl,rfl,fun j hj=>by
    rcases Nat.lt_succ_iff_lt_or_eq.1 hj with h | rfl
    ·exact aY j h
    ·exact fg⟩
 ·rintro _ _ ⟨rfl,rfl,aY⟩;rw [eR] at aY;rw [M (by rw [Io.2 aY];decide)];refine aW ?_;refine GW.wk (Wk.freeze (i:=0) rfl rfl rfl (aM _)) ?_;refine GW.Tv (cJ:=[U,.v (ii (i:Nat)),.box (ar p) 0,U,U,U,U,U,U,U,U,U,U,U,U,U,U,U,U,U,U,U,U,U,U,U,U,U,U,U,U,U,U,U,U,U,U]) (aO:=[.gone]) ao rfl ?_;refine D ?_;refine V [1,3,2] hE ?_;refine aK (aC 0 4 .nil) ?_;refine aj ?_;exact rS
end Go.Xg
namespace Go.Im
open Go.Xp Go.Sp
theorem tf {l:List Ar} {k:Nat} {a:Ar} (h:l[k]?=some a):ec (l.take (k+1))=ec (l.take k)+a.size:=by
 unfold ec;rw [cm,h,List.foldl_append];rfl
theorem vr {l:List Ar} (h:∀ a∈l,0<=a.size/\a.size<=2147483648):∀ k,0<=ec (l.take k)/\ec (l.take k)<=(k:Int) * 2147483648:=by
 intro k
 induction k with
 | zero=>simp [ec]
 | succ k ih =>
  cases hx:l[k]? with
  | none =>
   have:l.take (k+1)=l.take k:=by rw [cm,hx];simp
   rw [this];omega
  | some a =>
   have:=h a (bF hx);rw [tf hx];omega
end Go.Im
namespace Go.Xg
open GV (U)
open Go.RowKit Go.Xw Go.Proofs Tryz
open Go.Xp (Nd T Ar aQ aB)
open Go.Sp (Src)
open Go.Im
attribute [local irreducible] GW GL GO YG GC GA be bd
theorem N3 (p:Src) (nB:p.fns.length<=1099511627776) (kj:p.arrays.length<=1048576) (dE:∀ a∈p.arrays,0<=a.size/\a.size<=2147483648):GF prog 139 [.agg (ar p)] [] (.v (.bool (jy p))) []:=by
 have eR:(p.arrays.map az).length=p.arrays.length:=by simp
 have iq:(p.fns.map au).length=p.fns.length:=by simp
 have lD:(p.globals.map fun s=>[GV.v (sv s)]).length=p.globals.length:=by simp
 have hC:=uK (qa:=177) (fun x=>decide (x.params.length > 40)) p.fns nB (fun x _=>Lh x);unfold jy;generalize p.fns.any (fun x=>decide (x.params.length > 40))=b4 at *;have hb:=vr dE;refine ah func139 ntmps139 ?_;refine GW.range (p.arrays.map az).length (fun k fr F=>fr=[U,.loc 0 0,U,.v (ii (ec (p.arrays.take k))),U,U,U,.sl 2 (p.arrays.map az),.v (ii ((p.arrays.map az).length:Int)),.v (ii (k:Nat)),U,U,U,U,U,U,U,U,U,U,U,U,U,U,U,U,U,U,U,U,U,U,U,U,U,U,U,U,U,U]/\F=[.box 33 (ar p)]/\(p.arrays.take k).all (fun a=>!(a.size==0))=true) ?_ G ?_ ?_ ?_
 ·exact kQ
 ·exact iI
 ·rintro k _ _ ak ⟨rfl,rfl,aY⟩;rw [eR] at ak;obtain ⟨x,hx⟩:∃ x,p.arrays[k]?=some x:=⟨p.arrays[k],by simp [ak]⟩
  have hr:(p.arrays.map az)[k]?=some (az x):=by rw [aV,hx];rfl
  have bK:=oh (f:=fun a:Ar=>a.size==0) hx;have mQ:=tf hx;have ft:=hb k;have rn:=dE x (bF hx);unfold az at hr
  cases L:(x.size==0) with
  | true =>
   have:p.arrays.any (fun a=>a.size==0)=true:=oY.2 ⟨x,bF hx,L⟩;rw [this];exact ay
  | false =>
   rw [mQ];generalize ec (p.arrays.take k)=c at *;refine D ?_;exact ⟨rfl,rfl,_,_,(Wk.cut (n:=1) (aM _) rfl).trans (Wk.aE ao),rfl,rfl,by rw [bK,aY,L];rfl⟩
 ·rintro _ _ ⟨rfl,rfl,aY⟩;rw [eR,b7] at aY |-
  have:p.arrays.any (fun a=>a.size==0)=false:=by
   rw [any_eq_false];rw [gK] at aY;intro x hx;simpa using aY x hx
  rw [this];have e1:decide (p.fns.length > 40)=decide ((40:Int) < ((p.fns.map au).length:Int)):=decide_eq_decide.2 (by rw [iq];omega);have e2:decide (p.globals.length > 29)=decide ((29:Int) < ((p.globals.map fun s=>[GV.v (sv s)]).length:Int)):=decide_eq_decide.2 (by rw [lD];omega);have e3:decide (ec p.arrays > 8000)=decide ((8000:Int) < ec p.arrays):=rfl;rw [e1,e2,e3];generalize ec p.arrays=c at *;refine aW ?_
  cases L:decide ((40:Int) < ((p.fns.map au).length:Int))
  all_goals cases I:decide ((29:Int) < ((p.globals.map fun s=>[GV.v (sv s)]).length:Int))
  all_goals cases h3:decide ((8000:Int) < c)
  all_goals
   refine D ?_
   first
    | (refine cv ?_;exact ⟨rfl,rfl⟩)
    | (refine hY [] hC ?_;refine D ?_;refine cv ?_;exact ⟨rfl,rfl⟩)
end Go.Xg
namespace Go.Im
open Go.Xp Go.Sp
theorem CC {l:List ae}:fQ l=false↔∀ k,k < l.length->ll l k=false:=by
 unfold fQ;rw [any_eq_false];constructor
 ·intro h k hk;have:=h k (List.mem_range.2 hk);simpa using this
 ·intro h k hk;rw [h k (List.mem_range.1 hk)];decide
theorem Fg (p:Src) (l:List T) (a:Nat):jn p [] l a=(0,0):=by unfold jn;rfl
end Go.Im
namespace Go.Xg
open GV (U)
open Go.RowKit Go.Xw Go.Proofs Tryz
open Go.Xp (Nd T Ar aQ aB)
open Go.Sp (Src)
open Go.Im
attribute [local irreducible] GW GL GO YG GC GA be bd
theorem Lo (p:Src) (hF:GF prog 63 [.agg (ar p)] [] (.v (.bool false)) []):GF prog 89 [.agg (ar p)] [] (.tup [.v (ii 20),.v (ii 0)]) []:=by
 refine ah func89 ntmps89 ?_;refine V [] hF ?_;exact nt
theorem JK (p:Src) (l:List T) (ns:List ae) (BG:ns.length<=8388608) (iq:p.fns.length=l.length) (nB:p.fns.length<=1048576)
  (hF:GF prog 63 [.agg (ar p)] [] (.v (.bool true)) [])
  (hA:GC prog 38 [.agg (ar p)] [] fun g Δ=>∃ a c,g=.v (.slice a ns.length c)/\Δ=[.vech 9 1 (bA ns) (.slice a ns.length c)])
  (hT:GF prog 139 [.agg (ar p)] [] (.v (.bool (jy p))) [])
  (hq:∀ i f t,p.fns[i]?=some f->l[i]?=some t->GF prog 142 [.agg (ar p),.v (ii (i:Nat))] [] (.tup [.v (ii (jm p f t (aB (l.take i))).1),.v (ii (jm p f t (aB (l.take i))).2)]) []) :
  GF prog 89 [.agg (ar p)] []
   (.tup [.v (ii (if fQ ns=true then ((21,0):Int × Int) else if jy p=true then (26,0) else if p.fns.any nG=false then (25,0) else jn p p.fns l 0).1),.v (ii (if fQ ns=true then ((21,0):Int × Int) else if jy p=true then (26,0) else if p.fns.any nG=false then (25,0) else jn p p.fns l 0).2)]) []:=by
 have eR:(ns.map fun s=>[GV.v (sv s)]).length=ns.length:=by simp
 have sT:(p.fns.map au).length=p.fns.length:=by simp
 have hM:=uK (qa:=141) nG p.fns G (fun x _=>Ow x);generalize jy p=tm at *;refine ah func89 ntmps89 ?_;refine V [] hF ?_;refine cD [] hA ?_;rintro _ _ ⟨ad,cp,rfl,rfl⟩;refine eO ?_;refine GL.wk (Wk.oU (t:=14) (i:=1) rfl rfl rfl) ?_;refine GL.wk (Wk.cut (n:=1) (aM _) rfl) ?_;refine GL.wk (Wk.aE (cJ:=[U,.loc 0 0,U,U,U,U,U,U,U,U,U,U,U,U,strs ns,U,U,U,U,U,U,U,U,U,U,U,U,U,U,U,U,U,U,U,U,U,U,U,U,U,U,U,U,U,U,U,U,U,U,U,U,U,U,U,U]) ao) ?_;refine bJ ?_;refine D ?_;refine GW.range (ns.map fun s=>[GV.v (sv s)]).length (fun k fr F=>fr=[U,.loc 0 0,U,U,strs ns,U,U,U,U,U,U,U,U,U,U,strs ns,.v (ii ((ns.map fun s=>[GV.v (sv s)]).length:Int)),.v (ii (k:Nat)),U,U,U,U,U,U,U,U,U,U,U,U,U,U,U,U,U,U,U,U,U,U,U,U,U,U,U,U,U,U,U,U,U,U,U,U,U]/\F=[.box 33 (ar p)]/\∀ j,j < k->ll ns j=false) ?_ G ?_ ?_ ?_
 ·exact ⟨_,_,Wk.aE ao,rfl,rfl,fun j hj=>absurd hj (Nat.not_lt_zero _)⟩
 ·exact iI
 ·rintro k _ _ ak ⟨rfl,rfl,aY⟩;have nP:=ak;rw [eR] at ak;obtain ⟨x,hx⟩:∃ x,ns[k]?=some x:=⟨ns[k],by simp [ak]⟩
  have Q4:(ns.map fun s=>[GV.v (sv s)])[k]?=some [.v (sv x)]:=by rw [aV,hx];rfl
  have hR:=M4 x;have hC:=kp (ns.take k) x (by rw [cS];omega)
  have hd:ll ns k=(ng x || (ns.take k).contains x):=by unfold ll;rw [hx]
  unfold strs at hC;rw [map_take] at hC
  cases L:ng x with
  | true =>
   rw [L] at hR hd
   have DN:fQ ns=true:=by
    cases h:fQ ns with
    | true=>rfl
    | false=>rw [CC.1 h k ak] at hd;simp at hd
   rw [ab DN];refine D ?_;refine V [] hR ?_;exact nt
  | false =>
   rw [L] at hR hd
   cases fg:(ns.take k).contains x with
   | true =>
    rw [fg] at hC hd
    have DN:fQ ns=true:=by
     cases h:fQ ns with
     | true=>rfl
     | false=>rw [CC.1 h k ak] at hd;simp at hd
    rw [ab DN];refine D ?_;refine V [] hR ?_;refine GL.q (YG.EJ rfl rfl nP) ?_;refine bJ ?_;refine D ?_;refine V [] hC ?_;exact nt
   | false =>
    rw [fg] at hC hd;refine D ?_;refine V [] hR ?_;refine GL.q (YG.EJ rfl rfl nP) ?_;refine bJ ?_;refine D ?_;refine V [] hC ?_
    exact ⟨rfl,rfl,_,_,Wk.aE ao,rfl,rfl,fun j hj=>by
     rcases Nat.lt_succ_iff_lt_or_eq.1 hj with h | rfl
     ·exact aY j h
     ·exact hd⟩
 ·rintro _ _ ⟨rfl,rfl,aY⟩;rw [eR] at aY;rw [M (show ¬ fQ ns=true by rw [CC.2 aY];decide)];refine aW ?_
  cases tm with
  | true =>
   rw [ab rfl];refine D ?_;refine V [] hT ?_;exact nt
  | false =>
   rw [M aR]
   cases hmn:p.fns.any nG with
   | false =>
    rw [hmn] at hM;rw [ab rfl];refine D ?_;refine V [] hT ?_;refine V [] hM ?_;exact nt
   | true =>
    rw [hmn] at hM;rw [M aR];refine D ?_;refine V [] hT ?_;refine V [] hM ?_;refine GW.range (p.fns.map au).length (fun k fr F=>fr=[U,.loc 0 0,U,U,U,U,U,U,U,U,U,U,U,U,U,U,U,U,U,U,U,U,U,U,U,U,U,U,U,U,U,U,U,U,U,U,U,U,U,.sl 3 (p.fns.map au),.v (ii ((p.fns.map au).length:Int)),.v (ii (k:Nat)),U,U,U,U,U,U,U,U,U,U,U,U,U]/\F=[.box 33 (ar p)]/\jn p p.fns l 0=jn p (p.fns.drop k) (l.drop k) (aB (l.take k))) ?_ G ?_ ?_ ?_
    ·exact ⟨_,_,Wk.aE ao,rfl,rfl,by rw [List.drop_zero,List.drop_zero,List.take_zero,aB]⟩
    ·exact iI
    ·rintro k _ _ ak ⟨rfl,rfl,he⟩;rw [sT] at ak;obtain ⟨f,hf⟩:∃ f,p.fns[k]?=some f:=⟨p.fns[k],by simp [ak]⟩;obtain ⟨t,ht⟩:∃ t,l[k]?=some t:=⟨l[k]'G,fM _⟩;have hQ:=hq k f t hf ht
     have Mz:p.fns.drop k=f::p.fns.drop (k+1):=by rw [kW ak];rw [fM ak] at hf;rw [Cu hf]
     have dH:l.drop k=t::l.drop (k+1):=by rw [kW G];rw [fM G] at ht;rw [Cu ht]
     rw [Mz,dH,jn,<-Qe ht] at he
     cases L:((jm p f t (aB (l.take k))).1 != 0) with
     | true =>
      rw [ab (by simpa using L)] at he;rw [he];generalize jm p f t (aB (l.take k))=r at *;refine D ?_;refine V [] hQ ?_;exact nt
     | false =>
      rw [M (by simpa using L)] at he;generalize jm p f t (aB (l.take k))=r at *;refine D ?_;refine V [] hQ ?_;exact ⟨rfl,rfl,_,_,Wk.aE ao,rfl,rfl,he⟩
    ·rintro _ _ ⟨rfl,rfl,he⟩;rw [sT,List.drop_length,Fg] at he;rw [he];refine aW ?_;exact rS
theorem Mn (p:Src) (c z:Int) (h:GF prog 89 [.agg (ar p)] [] (.tup [.v (ii c),.v (ii z)]) []):GF prog 35 [.agg (ar p)] [] (.v (.bool (c==0))) []:=by
 refine ah func35 ntmps35 ?_;refine V [] h ?_;exact al
end Go.Xg
namespace Go.Xg
open Go.RowKit Go.Xw Go.Proofs
open Go.Xp (Nd T Ar aQ aB)
open Go.Sp (Src)
open Go.Im
attribute [local irreducible] GW GL GO YG GC GA be bd
end Go.Xg
set_option maxHeartbeats 2000000
namespace Go.Xg
open GV (U)
open Go.RowKit Go.Xw Go.Proofs Tryz
open Go.Xp (Nd T Ar)
open Go.Sp (Src)
open Go.Im
attribute [local irreducible] GW GL GO YG GC GA be bd
def cC (p:Src) (h:Value) (c:SS):List GV:=[strs p.globals,.sl 2 (p.arrays.map az),.sl 3 (p.fns.map au),.sl 5 (p.nodes.map aw),.v h,.v (ii c.code),.v (ii c.at_)]
theorem iU (p:Src) (h:Value) (c:SS) (k z:Int):GF prog 154 [.loc 0 0,.v (ii k),.v (ii z)] [.box 126 (cC p h c)] (.tup []) [.box 126 (cC p h (c.fail k z))]:=by
 unfold SS.fail
 cases hc:(c.code==0) with
 | true =>
  rw [ab (by simpa using hc)];unfold cC;refine ah func154 ntmps154 ?_;exact gR
 | false =>
  rw [M (by simpa using hc)];unfold cC;refine ah func154 ntmps154 ?_;exact gR
theorem KC (s:ae):GF prog 23 [.v (sv s)] [] (.v (.bool (ng s))) []:=by
 unfold ng pN qF ko
 cases L:(s==[103,101,116])
 all_goals cases I:(s==[112,117,116])
 all_goals
  refine ah func23 ntmps23 ?_;exact al
theorem BX (p:Src) (s:ae) (hn:p.arrays.length<=1099511627776):GF prog 81 [.agg (ar p),.v (sv s)] [] (.v (ii (dV (fun x:Ar=>x.name==s) p.arrays))) []:=by
 have eR:(p.arrays.map az).length=p.arrays.length:=by simp
 refine ah func81 ntmps81 ?_;refine GW.range (p.arrays.map az).length (fun k fr F=>fr=[U,.v (sv s),.loc 0 0,U,U,U,U,U,.sl 2 (p.arrays.map az),.v (ii ((p.arrays.map az).length:Int)),.v (ii (k:Nat)),U,U,U,U,U,U,U,U,U,U]/\F=[.box 33 (ar p)]/\(p.arrays.take k).all (fun y=>!(y.name==s))=true) ?_ G ?_ ?_ ?_
 ·exact kQ
 ·exact iI
 ·rintro k _ _ ak ⟨rfl,rfl,aY⟩;rw [eR] at ak;obtain ⟨x,dI⟩:∃ x,p.arrays[k]?=some x:=⟨p.arrays[k],by simp [ak]⟩
  have hr:(p.arrays.map az)[k]?=some (az x):=by rw [aV,dI];rfl
  have bK:=oh (f:=fun y:Ar=>y.name==s) dI
  have hit:=fun h0=>oN (f:=fun y:Ar=>y.name==s) dI h0 aY
  unfold az at hr
  cases hb:(x.name==s) with
  | true =>
   rw [hit hb];exact ay
  | false =>
   refine D ?_;exact ⟨rfl,rfl,_,_,(Wk.cut (n:=1) (aM _) rfl).trans (Wk.aE ao),rfl,rfl,by rw [bK,aY,hb];rfl⟩
 ·rintro _ _ ⟨rfl,rfl,aY⟩;rw [eR,b7] at aY;rw [lZ aY];exact ay
theorem IY (p:Src) (s:ae) (hn:p.fns.length<=1099511627776):GF prog 82 [.agg (ar p),.v (sv s)] [] (.v (ii (dV (fun x:Go.Sp.Fn=>x.name==s) p.fns))) []:=by
 have eR:(p.fns.map au).length=p.fns.length:=by simp
 refine ah func82 ntmps82 ?_;refine GW.range (p.fns.map au).length (fun k fr F=>fr=[U,.v (sv s),.loc 0 0,U,U,U,U,U,.sl 3 (p.fns.map au),.v (ii ((p.fns.map au).length:Int)),.v (ii (k:Nat)),U,U,U,U,U,U,U,U,U,U]/\F=[.box 33 (ar p)]/\(p.fns.take k).all (fun y=>!(y.name==s))=true) ?_ G ?_ ?_ ?_
 ·exact kQ
 ·exact iI
 ·rintro k _ _ ak ⟨rfl,rfl,aY⟩;rw [eR] at ak;obtain ⟨x,dI⟩:∃ x,p.fns[k]?=some x:=⟨p.fns[k],by simp [ak]⟩
  have hr:(p.fns.map au)[k]?=some (au x):=by rw [aV,dI];rfl
  have bK:=oh (f:=fun y:Go.Sp.Fn=>y.name==s) dI
  have hit:=fun h0=>oN (f:=fun y:Go.Sp.Fn=>y.name==s) dI h0 aY
  unfold au at hr
  cases hb:(x.name==s) with
  | true =>
   rw [hit hb];exact ay
  | false =>
   refine D ?_;exact ⟨rfl,rfl,_,_,(Wk.cut (n:=1) (aM _) rfl).trans (Wk.aE ao),rfl,rfl,by rw [bK,aY,hb];rfl⟩
 ·rintro _ _ ⟨rfl,rfl,aY⟩;rw [eR,b7] at aY;rw [lZ aY];exact ay
end Go.Xg
set_option maxHeartbeats 4000000
namespace Go.Im
open Go.Xp Go.Sp
def x9 (l:List ae) (k:Nat):Bool:=(List.range k).any (oL l)
theorem DA (l:List ae) (k:Nat):x9 l (k+1)=(x9 l k || oL l k):=by
 unfold x9;rw [range_succ,any_append];simp
def lg (f:Go.Sp.Fn) (c:SS) (k:Nat):SS:=⟨f.params.take k,if x9 f.params k=true then gz c.code 21 else c.code,if x9 f.params k=true/\c.code=0 then 0 else c.at_⟩
theorem PV {f:Go.Sp.Fn} {c:SS} {k:Nat} (h:oL f.params k=true):(lg f c (k+1)).code=((lg f c k).fail 21 0).code/\(lg f c (k+1)).at_=((lg f c k).fail 21 0).at_:=by
 unfold lg SS.fail;simp only [DA,h,Bool.or_true,true_and,if_true];unfold gz
 cases x9 f.params k <;> by_cases h0:c.code=0 <;> simp [h0]
theorem Ny {f:Go.Sp.Fn} {c:SS} {k:Nat} (h:oL f.params k=false):(lg f c (k+1)).code=(lg f c k).code/\(lg f c (k+1)).at_=(lg f c k).at_:=by
 unfold lg;simp only [DA,h,Bool.or_false,and_self]
end Go.Im
namespace Go.Xg
open GV (U)
open Go.RowKit Go.Xw Go.Proofs Tryz
open Go.Xp (Nd T Ar aQ aB)
open Go.Sp (Src)
open Go.Im
attribute [local irreducible] GW GL GO YG GC GA be bd
theorem HG (p:Src) (h0:Value) (c:SS) (f:Go.Sp.Fn) (AL:f.params.length<=1048576) :
  GC prog 108 [.loc 0 0,.agg (au f)] [.box 126 (cC p h0 c)] fun g Δ=>g=.tup []/\∃ ad cp,Δ=[.box 126 (cC p (.slice ad f.params.length cp) (qK f c)),.vech 9 1 (bA f.params) (.slice ad f.params.length cp)]:=by
 have eR:(f.params.map fun s=>[GV.v (sv s)]).length=f.params.length:=by simp
 have w9:qK f c=⟨f.params,(lg f c f.params.length).code,(lg f c f.params.length).at_⟩:=by
  unfold qK lg x9 wW;rfl
 rw [w9]
 have qx:(lg f c 0).code=c.code/\(lg f c 0).at_=c.at_:=by unfold lg x9;simp
 rw [show cC p h0 c=cC p h0 (lg f c 0) by unfold cC;rw [qx.1,qx.2]];unfold cC au;refine cY func108 ntmps108 ?_;refine GW.wk (Wk.jq 9 1) ?_;simp only [cons_append,nil_append];refine D ?_;refine GW.range (f.params.map fun s=>[GV.v (sv s)]).length (fun k fr F=>∃ ad cp R n B,fr=[.loc 0 0,U,U,.loc 2 0,U,U,U,U,U,U,strs f.params,.v (ii ((f.params.map fun s=>[GV.v (sv s)]).length:Int)),.v (ii (k:Nat)),U,U,U,U,U,U,U,U,U,U,U,U,U,U,U,U,U,U,U,U,U,U]/\F=[.box 126 (cC p (.slice ad n cp) (lg f c k)),.vech 9 1 R (.slice ad n cp),B]/\R.length=n/\R=bA (f.params.take k)) ?_ G ?_ ?_ ?_
 ·exact ⟨_,_,Wk.aE ao,none,0,[],0,_,rfl,rfl,rfl,by simp [bA]⟩
 ·rintro k _ _ ⟨ad,cp,R,n,B,rfl,rfl,_⟩;exact et
 ·rintro k _ _ ak ⟨ad,cp,R,n,B,rfl,rfl,ef,hR⟩;rw [eR] at ak;obtain ⟨x,hx⟩:∃ x,f.params[k]?=some x:=⟨f.params[k],by simp [ak]⟩
  have Q4:(f.params.map fun s=>[GV.v (sv s)])[k]?=some [.v (sv x)]:=by rw [aV,hx];rfl
  have bK:bA (f.params.take (k+1))=R++[[.v (sv x)]]:=by rw [cm,hx,hR];simp [bA]
  have vT:n<=1048576:=by rw [<-ef,hR,zD,cS];omega
  have hL:GF prog 25 [.sl 1 R,.v (sv x)] [] (.v (.bool ((f.params.take k).contains x))) []:=by
   rw [hR];exact jo (f.params.take k) x (by rw [cS];omega)
  have hd:oL f.params k=(f.params.take k).contains x:=by unfold oL;rw [hx]
  rw [<-hd] at hL;have iv:=iU p (.slice ad n cp) (lg f c k) 21 0;clear hR
  cases hb:oL f.params k with
  | true =>
   rw [hb] at hL;obtain ⟨e1,e2⟩:=PV (c:=c) hb;unfold cC at iv |-;rw [e1,e2];generalize (lg f c k).fail 21 0=s1 at *;generalize lg f c k=s0 at *;refine D ?_;refine GL.borrow hL (fun B K β w l hI hF=>mO (A:=[_]) (C:=[_]) hI hF rfl rfl) ?_;refine bJ ?_;refine D ?_;refine V [0] iv ?_;refine GL.oc 1 rfl rfl rfl rfl rfl rfl rfl rfl bm qR ?_;intro xW x8;refine cE ?_;refine D ?_;exact ⟨rfl,rfl,_,_,Wk.aE ao,xW,x8,_,_,_,rfl,rfl,by simp [ef],bK.symm⟩
  | false =>
   rw [hb] at hL;obtain ⟨e1,e2⟩:=Ny (c:=c) hb;unfold cC at iv |-;rw [e1,e2];generalize lg f c k=s0 at *;refine D ?_;refine GL.borrow hL (fun B K β w l hI hF=>mO (A:=[_]) (C:=[_]) hI hF rfl rfl) ?_;refine bJ ?_;refine D ?_;refine GL.oc 1 rfl rfl rfl rfl rfl rfl rfl rfl bm qR ?_;intro xW x8;refine cE ?_;refine D ?_;exact ⟨rfl,rfl,_,_,Wk.aE ao,xW,x8,_,_,_,rfl,rfl,by simp [ef],bK.symm⟩
 ·rintro _ _ ⟨ad,cp,R,n,B,rfl,rfl,ef,hR⟩;rw [eR] at hR |-;rw [b7] at hR
  have sq:n=f.params.length:=by rw [<-ef,hR,zD]
  subst sq;refine D ?_;refine nW ?_;exact TL (n:=2) rfl dF (fO rfl) rfl ⟨rfl,ad,cp,by rw [hR];rfl⟩
def cO (p:Src) (c:SS) (ls:List ae) (ad:Option Addr) (cp:Nat):List Ob:=[.box 126 (cC p (.slice ad ls.length cp) c),.vech 9 1 (bA ls) (.slice ad ls.length cp)]
theorem HE (p:Src) (c:SS) (n:Nd) (l:List T) (ad:Option Addr) (cp:Nat) (L:(n.s==[103,101,116])=true) (hl:l.length<=1099511627776) :
  GF prog 155 [.loc 0 0,.agg (cT (.mk n l))] (cO p c c.ls ad cp) (.v (.bool true)) (cO p (fc c n l.length 0) c.ls ad cp):=by
 have eI:(aX l).length=l.length:=aZ l;unfold cO;unfold fc;show GF _ _ _ _ (.v (.bool true)) [.box _ (cC p _ (if l.length≠0 then _ else _)),_];have iv:=iU p (.slice ad c.ls.length cp) c 23 n.at_;unfold cC at iv |-
 cases hk:(((aX l).length:Int) != ((0:Nat):Int)) with
 | true =>
  rw [ab (show l.length≠0 by rw [eI,bne_iff_ne] at hk;omega)];generalize c.fail 23 n.at_=c1 at *;refine ah func155 ntmps155 ?_;refine V [0] iv ?_;exact al
 | false =>
  rw [M (show ¬ l.length≠0 by rw [eI,bne_eq_false_iff_eq] at hk;omega)];refine ah func155 ntmps155 ?_;exact al
theorem HF (p:Src) (c:SS) (n:Nd) (l:List T) (ad:Option Addr) (cp:Nat) (L:(n.s==[103,101,116])=false) (I:(n.s==[112,117,116])=true) (hl:l.length<=1099511627776) :
  GF prog 155 [.loc 0 0,.agg (cT (.mk n l))] (cO p c c.ls ad cp) (.v (.bool true)) (cO p (fc c n l.length 1) c.ls ad cp):=by
 have eI:(aX l).length=l.length:=aZ l;unfold cO;unfold fc;show GF _ _ _ _ (.v (.bool true)) [.box _ (cC p _ (if l.length≠1 then _ else _)),_];have iv:=iU p (.slice ad c.ls.length cp) c 23 n.at_;unfold cC at iv |-
 cases hk:(((aX l).length:Int) != ((1:Nat):Int)) with
 | true =>
  rw [ab (show l.length≠1 by rw [eI,bne_iff_ne] at hk;omega)];generalize c.fail 23 n.at_=c1 at *;refine ah func155 ntmps155 ?_;refine V [0] iv ?_;exact al
 | false =>
  rw [M (show ¬ l.length≠1 by rw [eI,bne_eq_false_iff_eq] at hk;omega)];refine ah func155 ntmps155 ?_;exact al
theorem KA (p:Src) (c:SS) (n:Nd) (l:List T) (ad:Option Addr) (cp:Nat) (L:(n.s==[103,101,116])=false) (I:(n.s==[112,117,116])=false) (h3:(n.s==[115,105,122,101])=false) (hl:l.length<=1099511627776)
  (hF:GF prog 82 [.agg (ar p),.v (sv n.s)] [] (.v (ii (-1))) []) :
  GF prog 155 [.loc 0 0,.agg (cT (.mk n l))] (cO p c c.ls ad cp) (.v (.bool false)) (cO p (c.fail 22 n.at_) c.ls ad cp):=by
 have iv:=iU p (.slice ad c.ls.length cp) c 22 n.at_
 have hd:decide ((-1:Int) < 0)=true:=by decide
 unfold cO;unfold cC at iv |-;generalize c.fail 22 n.at_=c1 at *;refine ah func155 ntmps155 ?_;refine aK (aC 0 7 (.a 7 (.q 8 .nil))) ?_;refine aj ?_;refine aI [] hF ?_;refine D ?_;refine V [0] iv ?_;exact al
theorem Kz (p:Src) (c:SS) (n:Nd) (l:List T) (i:Nat) (f:Go.Sp.Fn) (ad:Option Addr) (cp:Nat) (L:(n.s==[103,101,116])=false) (I:(n.s==[112,117,116])=false) (h3:(n.s==[115,105,122,101])=false) (hl:l.length<=1099511627776)
  (hf:p.fns[i]?=some f) (hF:GF prog 82 [.agg (ar p),.v (sv n.s)] [] (.v (ii ((i:Nat):Int))) []) :
  GF prog 155 [.loc 0 0,.agg (cT (.mk n l))] (cO p c c.ls ad cp) (.v (.bool true)) (cO p (fc c n l.length f.params.length) c.ls ad cp):=by
 have eI:(aX l).length=l.length:=aZ l
 have hd:decide (((i:Nat):Int) < 0)=false:=by simp
 have hr:(p.fns.map au)[i]?=some (au f):=by rw [aV,hf];rfl
 have dJ:(f.params.map fun s=>[GV.v (sv s)]).length=f.params.length:=by simp
 unfold au at hr;rw [<-dJ];unfold cO;unfold fc;show GF _ _ _ _ (.v (.bool true)) [.box _ (cC p _ (if l.length≠(f.params.map fun s=>[GV.v (sv s)]).length then _ else _)),_];have iv:=iU p (.slice ad c.ls.length cp) c 23 n.at_;unfold cC at iv |-
 cases hk:(((aX l).length:Int) != (((f.params.map fun s=>[GV.v (sv s)]).length:Nat):Int)) with
 | true =>
  rw [ab (show l.length≠(f.params.map fun s=>[GV.v (sv s)]).length by rw [eI,bne_iff_ne] at hk;omega)];generalize c.fail 23 n.at_=c1 at *;refine ah func155 ntmps155 ?_;refine aK (aC 0 7 (.a 7 (.q 8 .nil))) ?_;refine aj ?_;refine aI [] hF ?_;refine D ?_;refine V [0] iv ?_;exact al
 | false =>
  rw [M (show ¬ l.length≠(f.params.map fun s=>[GV.v (sv s)]).length by rw [eI,bne_eq_false_iff_eq] at hk;omega)];refine ah func155 ntmps155 ?_;refine aK (aC 0 7 (.a 7 (.q 8 .nil))) ?_;refine aj ?_;refine aI [] hF ?_;exact ay
theorem Ew (p:Src) (c:SS) (n:Nd) (u:T) (ad:Option Addr) (cp:Nat) (L:(n.s==[103,101,116])=false) (I:(n.s==[112,117,116])=false) (h3:(n.s==[115,105,122,101])=true) (kj:p.arrays.length<=1099511627776) (o8:c.ls.length<=1099511627776) :
  GF prog 155 [.loc 0 0,.agg (cT (.mk n [u]))] (cO p c c.ls ad cp) (.v (.bool false)) (cO p (if jH p u.n c.ls=true then c.fail 24 n.at_ else c) c.ls ad cp):=by
 have sr:(aX [u])[0]?=some (cT u):=dk rfl;have hA:=BX p u.n.s kj;have hL:=jo c.ls u.n.s o8;have iv:=iU p (.slice ad c.ls.length cp) c 24 n.at_;rw [show jH p u.n c.ls=((u.n.kind != 2 || decide (dV (fun x:Ar=>x.name==u.n.s) p.arrays < 0)) || c.ls.contains u.n.s) from rfl];generalize dV (fun x:Ar=>x.name==u.n.s) p.arrays=z at *;unfold cO;unfold cC at iv |-
 cases h4:(u.n.kind != 2) with
 | true =>
  rw [ab (by first | rfl | decide)];generalize c.fail 24 n.at_=c1 at *;refine ah func155 ntmps155 ?_;refine aK (aC 0 21 (.a 21 (aC 22 13 (.a 35 (.q 36 (.q 37 .nil)))))) ?_;refine aj ?_;refine bq ?_;refine V [0] iv ?_;exact al
 | false =>
  cases h5:decide (z < 0) with
  | true =>
   rw [ab (by first | rfl | decide)];generalize c.fail 24 n.at_=c1 at *;refine ah func155 ntmps155 ?_;refine aK (aC 0 21 (.a 21 (aC 22 13 (.a 35 (.q 36 (.q 37 .nil)))))) ?_;refine aj ?_;refine bR [] hA ?_;refine bq ?_;refine V [0] iv ?_;exact al
  | false =>
   generalize c.ls.contains u.n.s=b at *
   cases b with
   | true =>
    rw [ab (by first | rfl | decide)];generalize c.fail 24 n.at_=c1 at *;refine ah func155 ntmps155 ?_;refine aK (aC 0 21 (.a 21 (aC 22 13 (.a 35 (.q 36 (.q 37 .nil)))))) ?_;refine aj ?_;refine bR [] hA ?_;refine Qx rfl rfl rfl (by first | exact rfl | assumption) (GL.borrow hL (fun B K β w l hI hF=>mO (A:=[_]) (C:=[_]) hI hF rfl rfl) ?_);refine cj ?_;refine bq ?_;refine V [0] iv ?_;exact al
   | false =>
    rw [M aR];refine ah func155 ntmps155 ?_;refine aK (aC 0 21 (.a 21 (aC 22 13 (.a 35 (.q 36 (.q 37 .nil)))))) ?_;refine aj ?_;refine bR [] hA ?_;refine Qx rfl rfl rfl (by first | exact rfl | assumption) (GL.borrow hL (fun B K β w l hI hF=>mO (A:=[_]) (C:=[_]) hI hF rfl rfl) ?_);refine cj ?_;refine aj ?_;exact ay
theorem Ex (p:Src) (c:SS) (n:Nd) (l:List T) (ad:Option Addr) (cp:Nat) (L:(n.s==[103,101,116])=false) (I:(n.s==[112,117,116])=false) (h3:(n.s==[115,105,122,101])=true) (hl:l.length≠1) :
  GF prog 155 [.loc 0 0,.agg (cT (.mk n l))] (cO p c c.ls ad cp) (.v (.bool false)) (cO p (c.fail 23 n.at_) c.ls ad cp):=by
 have iv:=iU p (.slice ad c.ls.length cp) c 23 n.at_;have eI:(aX l).length=l.length:=aZ l
 have g1:(((aX l).length:Int)==1)=false:=by rw [eI,beq_eq_false_iff_ne];omega
 have g2:(((aX l).length:Int) != 1)=true:=by rw [eI,bne_iff_ne];omega
 unfold cO;unfold cC at iv |-;generalize c.fail 23 n.at_=c1 at *;refine ah func155 ntmps155 ?_;refine aK (aC 0 21 (.a 21 (aC 22 13 (.a 35 (.q 36 (.q 37 .nil)))))) ?_;refine bq ?_;refine V [0] iv ?_;exact al
theorem M9 (p:Src) (c:SS) (t:T) (ad:Option Addr) (cp:Nat) (kj:p.arrays.length<=1099511627776) (nB:p.fns.length<=1099511627776) (o8:c.ls.length<=1099511627776) (hl:t.kids.length<=1099511627776) :
  GF prog 155 [.loc 0 0,.agg (cT t)] (cO p c c.ls ad cp) (.v (.bool (fU p c t).2)) (cO p (fU p c t).1 c.ls ad cp):=by
 cases t with
 | mk n l =>
 have hl:l.length<=1099511627776:=hl
 cases L:(n.s==[103,101,116]) with
 | true =>
  have e:fU p c (.mk n l)=(fc c n l.length 0,true):=by
   unfold fU pN;exact ab (show n.s=_ by simpa using L)
  rw [e];exact HE p c n l ad cp L hl
 | false =>
  have n1:¬ n.s=[103,101,116]:=by simpa using L
  cases I:(n.s==[112,117,116]) with
  | true =>
   have e:fU p c (.mk n l)=(fc c n l.length 1,true):=by
    unfold fU pN qF;rw [M (show ¬ (T.mk n l).n.s=_ from n1)];exact ab (show n.s=_ by simpa using I)
   rw [e];exact HF p c n l ad cp L I hl
  | false =>
   have n2:¬ n.s=[112,117,116]:=by simpa using I
   cases h3:(n.s==[115,105,122,101]) with
   | true =>
    have e:fU p c (.mk n l)=(fc (if l.length=1/\jH p (rG (.mk n l)) c.ls=true then c.fail 24 n.at_ else c) n l.length 1,false):=by
     unfold fU pN qF ko;rw [M (show ¬ (T.mk n l).n.s=_ from n1),M (show ¬ (T.mk n l).n.s=_ from n2)];exact ab (show n.s=_ by simpa using h3)
    rw [e]
    by_cases hk:l.length=1
    ·obtain ⟨u,rfl⟩:∃ u,l=[u]:=by
      match l,hk with
      | [u],_=>exact ⟨u,rfl⟩
     have e2:fc (if [u].length=1/\jH p (rG (.mk n [u])) c.ls=true then c.fail 24 n.at_ else c) n [u].length 1=(if jH p u.n c.ls=true then c.fail 24 n.at_ else c):=by
      unfold fc;rw [M (by simp)];show (if _/\jH p u.n c.ls=true then _ else _)=_
      by_cases hb:jH p u.n c.ls=true
      ·rw [ab hb];exact ab ⟨rfl,hb⟩
      ·rw [M hb];exact M fun h=>hb h.2
     rw [e2];exact Ew p c n u ad cp L I h3 kj o8
    ·have e2:fc (if l.length=1/\jH p (rG (.mk n l)) c.ls=true then c.fail 24 n.at_ else c) n l.length 1=c.fail 23 n.at_:=by
      rw [M fun h=>hk h.1];unfold fc;exact ab hk
     rw [e2];exact Ex p c n l ad cp L I h3 hk
   | false =>
    have n3:¬ n.s=[115,105,122,101]:=by simpa using h3
    have hF:=IY p n.s nB;unfold dV at hF
    cases hx:p.fns.findIdx? (fun f:Go.Sp.Fn=>f.name==n.s) with
    | none =>
     rw [hx] at hF
     have e:fU p c (.mk n l)=(c.fail 22 n.at_,false):=by
      unfold fU pN qF ko;rw [M (show ¬ (T.mk n l).n.s=_ from n1),M (show ¬ (T.mk n l).n.s=_ from n2),M (show ¬ (T.mk n l).n.s=_ from n3)];show (match p.fns.findIdx? (fun f:Go.Sp.Fn=>f.name==n.s) with | none=>_ | some i=>_)=_;rw [hx];rfl
     rw [e];exact KA p c n l ad cp L I h3 hl hF
    | some i =>
     rw [hx] at hF;have hi:i < p.fns.length:=(List.findIdx?_eq_some_iff_getElem.1 hx).1;obtain ⟨f,hf⟩:∃ f,p.fns[i]?=some f:=⟨p.fns[i],by simp [hi]⟩
     have e:fU p c (.mk n l)=(fc c n l.length f.params.length,true):=by
      unfold fU pN qF ko;rw [M (show ¬ (T.mk n l).n.s=_ from n1),M (show ¬ (T.mk n l).n.s=_ from n2),M (show ¬ (T.mk n l).n.s=_ from n3)];show (match p.fns.findIdx? (fun f:Go.Sp.Fn=>f.name==n.s) with | none=>_ | some i=>_)=_;rw [hx];show (fc c n l.length (mD p i),true)=_;unfold mD;rw [hf]
     rw [e];exact Kz p c n l i f ad cp L I h3 hl hf hF
end Go.Xg
namespace Go.Im
open Go.Xp Go.Sp
theorem D4 (p:Src) (u:T):∀ (l:List T) (c:SS),iY p (l++[u]) c=oa p u (iY p l c)
 | [],c=>by rw [nil_append,iY,iY,iY]
 | t::l,c=>by rw [cons_append,iY,iY,D4 p u l]
theorem Ns (p:Src) {l:List T} {k:Nat} {u:T} (h:l[k]?=some u) (c:SS):iY p (l.take (k+1)) c=oa p u (iY p (l.take k) c):=by
 rw [cm,h];exact D4 p u _ c
theorem Qn (c:SS) (n:Nd):(mM c n).ls.length<=c.ls.length+1:=by
 unfold mM;split
 ·omega
 split
 ·simp [SS.oM]
 split
 ·simp [SS.oM]
 ·simp
mutual
theorem SA (p:Src):∀ (t:T) (c:SS),(oa p t c).ls.length<=c.ls.length+aQ t
 | .mk n l,c=>by
  rw [oa,aQ];refine jZ (Qn _ _) ?_;split
  ·have:=xo p l (kg p c (.mk n l)).1;rw [wu] at this;omega
  ·rw [wu];omega
theorem xo (p:Src):∀ (l:List T) (c:SS),(iY p l c).ls.length<=c.ls.length+aB l
 | [],c=>by rw [iY,aB];omega
 | t::r,c=>by
  rw [iY,aB];have L:=xo p r (oa p t c);have I:=SA p t c;omega
end
end Go.Im
namespace Go.Xg
open GV (U)
open Go.RowKit Go.Xw Go.Proofs Tryz
open Go.Xp (Nd T Ar aQ aB bW)
open Go.Sp (Src)
open Go.Im
attribute [local irreducible] GW GL GO YG GC GA be bd
theorem Na (p:Src) (kj:p.arrays.length<=1099511627776) (nB:p.fns.length<=1099511627776) (lD:p.globals.length<=1099511627776):∀ (N:Nat) (t:T),aQ t<=N->∀ (c:SS) (ad:Option Addr) (cp:Nat),c.ls.length+aQ t<=8388608 ->
  GC prog 109 [.loc 0 0,.agg (cT t)] (cO p c c.ls ad cp) fun g Δ=>g=.tup []/\∃ xV x7,Δ=cO p (oa p t c) (oa p t c).ls xV x7:=by
 intro N
 induction N with
 | zero=>intro t h;have:=lr t;omega
 | succ N ih =>
 intro t hN c ad cp o8
 cases t with
 | mk n l =>
 rw [Go.Xp.aQ] at hN o8;have re:=bW l;have eI:(aX l).length=l.length:=aZ l;rw [oa];have dJ:=wu p c (.mk n l);have hL:=jo c.ls n.s G;have hG:=jo p.globals n.s lD;have hA:=BX p n.s kj;have hC:=M9 p c (.mk n l) ad cp kj nB G (by show l.length<=_;omega);have QM:=iU p (.slice ad c.ls.length cp) c 22 n.at_;have IF:=iU p (.slice ad c.ls.length cp) c 24 n.at_
 have he:kg p c (.mk n l)=(if n.kind=2\/n.kind=7 then (if c.ls.contains n.s=false/\p.globals.contains n.s=false then c.fail 22 n.at_ else c,true)
  else if n.kind=3\/n.kind=8 then (if c.ls.contains n.s=true\/dV (fun x:Ar=>x.name==n.s) p.arrays < 0 then c.fail 24 n.at_ else c,true)
  else if n.kind=4 then fU p c (.mk n l) else (c,true)):=rfl
 obtain ⟨P,hP⟩:∃ P,kg p c (.mk n l)=P:=⟨_,rfl⟩;rw [hP] at he dJ |-;unfold cO at hC |-;unfold cC at hC QM IF |-;refine ah func109 ntmps109 ?_;refine aK (aC 0 6 (.a 6 (.q 7 .nil))) ?_;refine aj ?_;refine OA rfl rfl (GL.borrow hL (fun B K β w l hI hF=>mO (A:=[_]) (C:=[_,_]) hI hF rfl rfl) ?_);refine cj ?_;refine aj ?_;refine JF ?_;refine GW.join (fun fr F=>fr=[.loc 0 0,U,U,.loc 2 0,.loc 3 0,U,.v (.bool P.2),U,U,U,U,U,U,U,U,U,U,U,U,U,U,U,U,U,U,U,U,U,U,U,U,U,U,U,U,U,U,U,U,U,U,U,U,U,U,U,U,U,U,U,U,U,U,U,U,U,U,U,U,U,U,U,U,U,U,U,U,U,U,U,U,U,U,U,U,U,U,U,U,U,U,U,U,U,U,U,U,U,U,U,U,U,U,U,U,U,U,U,U,U,U,U,U,U,U,U,U,U,U,U]/\F=[.box 126 (cC p (.slice ad c.ls.length cp) P.1),.vech 9 1 (bA c.ls) (.slice ad c.ls.length cp),.box 65 (cT (.mk n l)),.box 62 (aw n)]) ?_ ?_
 ·obtain ⟨kd,at_,nn,s,ks⟩:=n;simp only at *;unfold cC;generalize fU p c (.mk ⟨kd,at_,nn,s,ks⟩ l)=cs at *;generalize dV (fun x:Ar=>x.name==s) p.arrays=z at *;generalize c.ls.contains s=b at *;generalize p.globals.contains s=g at *;generalize c.fail 22 at_=c22 at *;generalize c.fail 24 at_=c24 at *
  by_cases I:kd=2
  ·subst I
   have q2:((2:Int)==2)=true:=by decide
   rw [ab aR] at he;subst he
   cases b with
   | true =>
    refine D ?_;refine aK (aC 0 10 (.a 10 (.q 11 (.q 12 .nil)))) ?_;refine bq ?_;exact kh
   | false =>
    cases g with
    | true =>
     refine D ?_;refine aK (aC 0 10 (.a 10 (.q 11 (.q 12 .nil)))) ?_;refine aj ?_;refine bR [] hG ?_;exact ja
    | false =>
     refine D ?_;refine aK (aC 0 10 (.a 10 (.q 11 (.q 12 .nil)))) ?_;refine aj ?_;refine bR [] hG ?_;refine D ?_;refine V [0] QM ?_;exact kh
  by_cases h7:kd=7
  ·subst h7
   have q2:((7:Int)==2)=false:=by decide
   have q7:((7:Int)==7)=true:=by decide
   rw [ab aR] at he;subst he
   cases b with
   | true =>
    refine D ?_;refine aK (aC 0 10 (.a 10 (.q 11 (.q 12 .nil)))) ?_;refine bq ?_;exact kh
   | false =>
    cases g with
    | true =>
     refine D ?_;refine aK (aC 0 10 (.a 10 (.q 11 (.q 12 .nil)))) ?_;refine aj ?_;refine bR [] hG ?_;exact ja
    | false =>
     refine D ?_;refine aK (aC 0 10 (.a 10 (.q 11 (.q 12 .nil)))) ?_;refine aj ?_;refine bR [] hG ?_;refine D ?_;refine V [0] QM ?_;exact kh
  rw [M (by rintro (h | h);(· exact I h);exact h7 h)] at he
  by_cases h3:kd=3
  ·subst h3
   have q2:((3:Int)==2)=false:=by decide
   have q7:((3:Int)==7)=false:=by decide
   have q3:((3:Int)==3)=true:=by decide
   rw [ab aR] at he
   cases b with
   | true =>
    subst he;refine D ?_;refine aK (aC 0 8 (.a 8 (.q 9 (.q 10 .nil)))) ?_;refine bq ?_;refine V [0] IF ?_;exact kh
   | false =>
    cases hz:decide (z < 0) with
    | true =>
     rw [ab (.inr (by simpa using hz))] at he;subst he;refine D ?_;refine aK (aC 0 8 (.a 8 (.q 9 (.q 10 .nil)))) ?_;refine aj ?_;refine bR [] hA ?_;refine D ?_;refine V [0] IF ?_;exact kh
    | false =>
     rw [M (by rintro (h | h);(· cases h);(· simp at hz;omega))] at he;subst he;refine D ?_;refine aK (aC 0 8 (.a 8 (.q 9 (.q 10 .nil)))) ?_;refine aj ?_;refine bR [] hA ?_;exact ja
  by_cases h8:kd=8
  ·subst h8
   have q2:((8:Int)==2)=false:=by decide
   have q7:((8:Int)==7)=false:=by decide
   have q3:((8:Int)==3)=false:=by decide
   have q8:((8:Int)==8)=true:=by decide
   rw [ab aR] at he
   cases b with
   | true =>
    subst he;refine D ?_;refine aK (aC 0 8 (.a 8 (.q 9 (.q 10 .nil)))) ?_;refine bq ?_;refine V [0] IF ?_;exact kh
   | false =>
    cases hz:decide (z < 0) with
    | true =>
     rw [ab (.inr (by simpa using hz))] at he;subst he;refine D ?_;refine aK (aC 0 8 (.a 8 (.q 9 (.q 10 .nil)))) ?_;refine aj ?_;refine bR [] hA ?_;refine D ?_;refine V [0] IF ?_;exact kh
    | false =>
     rw [M (by rintro (h | h);(· cases h);(· simp at hz;omega))] at he;subst he;refine D ?_;refine aK (aC 0 8 (.a 8 (.q 9 (.q 10 .nil)))) ?_;refine aj ?_;refine bR [] hA ?_;exact ja
  rw [M (by rintro (h | h);(· exact h3 h);exact h8 h)] at he
  by_cases h4:kd=4
  ·subst h4
   have q2:((4:Int)==2)=false:=by decide
   have q7:((4:Int)==7)=false:=by decide
   have q3:((4:Int)==3)=false:=by decide
   have q8:((4:Int)==8)=false:=by decide
   have q4:((4:Int)==4)=true:=by decide
   rw [ab rfl] at he;subst he;refine D ?_;refine V [0,1] hC ?_;exact kh
  rw [M h4] at he;subst he
  have q2:(kd==2)=false:=by simpa using I
  have q7:(kd==7)=false:=by simpa using h7
  have q3:(kd==3)=false:=by simpa using h3
  have q8:(kd==8)=false:=by simpa using h8
  have q4:(kd==4)=false:=by simpa using h4
  exact ja
 ·rintro _ _ ⟨rfl,rfl⟩;clear he hC QM IF;obtain ⟨c1,d⟩:=P;simp only at dJ |-;rw [<-dJ] at o8;rw [show cC p (.slice ad c.ls.length cp) c1=cC p (.slice ad c1.ls.length cp) c1 by rw [dJ],<-dJ];clear hL;refine D ?_;refine GW.range (aX l).length (fun k fr F=>∃ ad cp c2,fr=[.loc 0 0,U,U,.loc 2 0,.loc 3 0,U,.v (.bool d),U,U,U,U,U,U,U,U,U,U,U,U,U,U,U,U,U,U,U,U,U,U,U,U,U,U,U,U,U,U,U,U,U,U,U,U,U,U,U,U,U,U,U,U,U,U,U,U,U,U,U,U,U,U,U,U,U,.sl 6 (aX l),.v (ii ((aX l).length:Int)),.v (ii (k:Nat)),U,U,U,U,U,U,U,U,U,U,U,U,U,U,U,U,U,U,U,U,U,U,U,U,U,U,U,U,U,U,U,U,U,U,U,U,U,U,U,U,U,U,U]/\F=[.box 126 (cC p (.slice ad c2.ls.length cp) c2),.vech 9 1 (bA c2.ls) (.slice ad c2.ls.length cp),.box 65 (cT (.mk n l)),.box 62 (aw n)]/\c2=(if d=true then iY p (l.take k) c1 else c1)) ?_ G ?_ ?_ ?_
  ·exact ⟨_,_,Wk.aE ao,ad,cp,c1,rfl,rfl,by cases d <;> simp [iY]⟩
  ·rintro k _ _ ⟨ad,cp,c2,rfl,rfl,_⟩;exact et
  ·rintro k _ _ ak ⟨ad,cp,c2,rfl,rfl,kG⟩;rw [eI] at ak;obtain ⟨u,hu⟩:∃ u,l[k]?=some u:=⟨l[k],by simp [ak]⟩;have hr:=dk hu;have dE:=uE hu
   cases d with
   | false =>
    refine D ?_;exact ⟨rfl,rfl,_,_,(Wk.cut (n:=4) (fO rfl) rfl).trans (Wk.aE ao),ad,cp,c2,rfl,rfl,kG⟩
   | true =>
    rw [ab rfl] at kG;have hlen:=xo p (l.take k) c1;rw [<-kG] at hlen;have hi:=ih u G c2 ad cp G;unfold cO at hi;rw [ab rfl,Ns p hu,<-kG];refine D ?_;refine cD [0,1] hi ?_;rintro _ _ ⟨rfl,xV,x7,rfl⟩;refine eO ?_;refine D ?_;exact ⟨rfl,rfl,_,_,(Wk.cut (n:=4) (fO rfl) rfl).trans (Wk.aE ao),xV,x7,_,rfl,rfl,rfl⟩
  ·rintro _ _ ⟨ad,cp,c2,rfl,rfl,kG⟩;rw [eI,b7] at kG;rw [<-kG]
   have hlen:c2.ls.length<=8388608:=by
    rw [kG];split
    ·have:=xo p l c1;omega
    ·omega
   clear kG ih;refine aW ?_;have hL:=jo c2.ls n.s G;have Uu:=zD c2.ls;have ID:=iU p (.slice ad c2.ls.length cp) c2 21 n.at_;have Xb:=iU p (.slice ad c2.ls.length cp) c2 26 n.at_;have l21:=c2.oM 21 n.at_;have l26:=c2.oM 26 n.at_
   cases hv:(n.kind != 13) with
   | true =>
    have e:mM c2 n=c2:=by unfold mM;exact ab (by simpa using hv)
    rw [e];refine D ?_;refine eN ?_;exact ⟨rfl,ad,cp,rfl⟩
   | false =>
    have BN:¬ n.kind≠13:=by simpa using hv
    unfold cC at ID Xb
    cases hb:c2.ls.contains n.s with
    | true =>
     rw [hb] at hL
     have e:mM c2 n=⟨(c2.fail 21 n.at_).ls++[n.s],(c2.fail 21 n.at_).code,(c2.fail 21 n.at_).at_⟩:=by unfold mM;rw [M BN];exact ab hb
     rw [e];generalize c2.fail 21 n.at_=y at *;unfold cC;refine D ?_;refine aK (aC 0 6 (.a 6 .nil)) ?_;refine aj ?_;refine OA rfl rfl (GL.borrow hL (fun B K β w l hI hF=>mO (A:=[_]) (C:=[_,_]) hI hF rfl rfl) ?_);refine cj ?_;refine bq ?_;refine V [0] ID ?_;refine aK (aC 0 7 (.a 7 (.a 8 (.q 9 (.q 10 (.a 11 .nil)))))) ?_;refine aj ?_;refine eY ?_;refine aj ?_;refine OA rfl rfl (GL.rz 1 (news:=[[.v (sv n.s)]]) rfl rfl rfl bm rfl rfl (by refine ⟨?_,?_⟩;(· show _+1<=_;omega);(· show (_+1) * _<=_;omega)) ?_);intro xW x8;refine cj ?_;refine bq ?_;refine eN ?_;exact ⟨rfl,xW,x8,by simp [cO,cC,bA,l21]⟩
    | false =>
     rw [hb] at hL
     cases h40:((c2.ls.length:Int)==40) with
     | true =>
      have e:mM c2 n=⟨(c2.fail 26 n.at_).ls++[n.s],(c2.fail 26 n.at_).code,(c2.fail 26 n.at_).at_⟩:=by
       unfold mM;rw [M BN,M (by rw [hb];decide)];exact ab (by rw [beq_iff_eq] at h40;omega)
      rw [e];generalize c2.fail 26 n.at_=y at *;unfold cC;refine D ?_;refine aK (aC 0 6 (.a 6 .nil)) ?_;refine aj ?_;refine OA rfl rfl (GL.borrow hL (fun B K β w l hI hF=>mO (A:=[_]) (C:=[_,_]) hI hF rfl rfl) ?_);refine cj ?_;refine bq ?_;refine V [0] Xb ?_;refine aK (aC 0 7 (.a 7 (.a 8 (.q 9 (.q 10 (.a 11 .nil)))))) ?_;refine aj ?_;refine eY ?_;refine aj ?_;refine OA rfl rfl (GL.rz 1 (news:=[[.v (sv n.s)]]) rfl rfl rfl bm rfl rfl (by refine ⟨?_,?_⟩;(· show _+1<=_;omega);(· show (_+1) * _<=_;omega)) ?_);intro xW x8;refine cj ?_;refine bq ?_;refine eN ?_;exact ⟨rfl,xW,x8,by simp [cO,cC,bA,l26]⟩
     | false =>
      have e:mM c2 n=⟨c2.ls++[n.s],c2.code,c2.at_⟩:=by
       unfold mM;rw [M BN,M (by rw [hb];decide)];exact M (by rw [beq_eq_false_iff_ne] at h40;omega)
      rw [e];unfold cC;refine D ?_;refine aK (aC 0 6 (.a 6 .nil)) ?_;refine aj ?_;refine OA rfl rfl (GL.borrow hL (fun B K β w l hI hF=>mO (A:=[_]) (C:=[_,_]) hI hF rfl rfl) ?_);refine cj ?_;refine bq ?_;refine aK (aC 0 7 (.a 7 (.a 8 (.q 9 (.q 10 (.a 11 .nil)))))) ?_;refine aj ?_;refine eY ?_;refine aj ?_;refine OA rfl rfl (GL.rz 1 (news:=[[.v (sv n.s)]]) rfl rfl rfl bm rfl rfl (by refine ⟨?_,?_⟩;(· show _+1<=_;omega);(· show (_+1) * _<=_;omega)) ?_);intro xW x8;refine cj ?_;refine bq ?_;refine eN ?_;exact ⟨rfl,xW,x8,by simp [cO,cC,bA]⟩
end Go.Xg
namespace Go.Xg
open GV (U)
open Go.RowKit Go.Xw Go.Proofs Tryz
open Go.Xp (Nd T Ar aQ aB)
open Go.Sp (Src)
open Go.Im
attribute [local irreducible] GW GL GO YG GC GA be bd
theorem CJ (p:Src) (h:Value) (k e:Int):GF prog 154 [.loc 0 0,.v (ii e),.v (ii 0)] [.box 126 (cC p h ⟨[],k,0⟩)] (.tup []) [.box 126 (cC p h ⟨[],gz k e,0⟩)]:=by
 have:=iU p h ⟨[],k,0⟩ e 0
 rwa [show (SS.fail ⟨[],k,0⟩ e 0)=⟨[],gz k e,0⟩ by unfold SS.fail gz;by_cases hk:k=0 <;> simp [hk]] at this
theorem F1 (p:Src) (h:Value) (k:Int) (kj:p.arrays.length<=1048576) (dE:∀ a∈p.arrays,0<=a.size/\a.size<=2147483648)
  (rest:(p.arrays.all fun a=>!nq a)=true->GF prog 107 [.loc 0 0] [.box 126 (cC p h ⟨[],k,0⟩)] (.tup []) [.box 126 (cC p h ⟨[],rO p k,0⟩)]) :
  GF prog 107 [.loc 0 0] [.box 126 (cC p h ⟨[],k,0⟩)] (.tup []) [.box 126 (cC p h ⟨[],rO p k,0⟩)]:=by
 cases uU:(p.arrays.all fun a=>!nq a) with
 | true=>exact rest uU
 | false =>
 have eR:(p.arrays.map az).length=p.arrays.length:=by simp
 have hb:=vr dE;have vQ:=CJ p h k 26
 have AJ:p.arrays.any nq=true:=by
  cases h0:p.arrays.any nq with
  | true=>rfl
  | false =>
   rw [any_eq_false] at h0;rw [List.all_eq_false] at uU;obtain ⟨x,hx,L⟩:=uU;have:=h0 x hx;simp at L;rw [L] at this;exact absurd rfl this
 rw [show rO p k=gz k 26 by unfold rO;exact ab AJ];unfold cC at vQ |-;refine ah func107 ntmps107 ?_;refine GW.range (p.arrays.map az).length (fun k' fr F=>fr=[.loc 0 0,U,.v (ii (ec (p.arrays.take k'))),U,U,U,U,U,U,U,U,U,.sl 2 (p.arrays.map az),.v (ii ((p.arrays.map az).length:Int)),.v (ii (k':Nat)),U,U,U,U,U,U,U,U,U,U,U,U,U,U,U,U,U,U,U,U,U,U,U,U,U,U,U,U,U,U,U,U,U,U,U,U,U,U,U,U,U,U,U,U,U,U,U,U,U,U,U,U,U,U,U,U,U,U,U,U,U,U,U,U,U,U,U,U,U,U,U,U,U,U,U,U,U,U,U]/\F=[.box 126 [strs p.globals,.sl 2 (p.arrays.map az),.sl 3 (p.fns.map au),.sl 5 (p.nodes.map aw),.v h,.v (ii k),.v (ii 0)]]/\(p.arrays.take k').all (fun a=>!nq a)=true) ?_ G ?_ ?_ ?_
 ·exact kQ
 ·rintro k' _ _ ⟨rfl,rfl,_⟩;exact et
 ·rintro k' _ _ ak ⟨rfl,rfl,aY⟩;rw [eR] at ak;obtain ⟨x,hx⟩:∃ x,p.arrays[k']?=some x:=⟨p.arrays[k'],by simp [ak]⟩
  have hr:(p.arrays.map az)[k']?=some (az x):=by rw [aV,hx];rfl
  have bK:=oh (f:=nq) hx;have mQ:=tf hx;have ft:=hb k';have rn:=dE x (bF hx);have hd:nq x=(decide (x.size < 1) || decide (8000 < x.size)):=rfl;unfold az at hr
  cases L:decide (x.size < 1) with
  | true =>
   refine D ?_;refine V [0] vQ ?_;exact gR
  | false =>
   cases I:decide (8000 < x.size) with
   | true =>
    refine D ?_;refine V [0] vQ ?_;exact gR
   | false =>
    rw [mQ];generalize ec (p.arrays.take k')=c at *;refine D ?_;exact ⟨rfl,rfl,_,_,(Wk.cut (n:=1) (aD _) rfl).trans (Wk.aE ao),rfl,rfl,by rw [bK,aY,hd,L,I];rfl⟩
 ·rintro _ _ ⟨rfl,rfl,aY⟩;rw [eR,b7] at aY;rw [aY] at uU;cases uU
end Go.Xg
namespace Go.Im
open Go.Xp Go.Sp
theorem R9 (k e:Int) (he:e≠0):gz (gz k e) e=gz k e:=by unfold gz;by_cases h:k=0 <;> simp [h,he]
end Go.Im
namespace Go.Xg
open GV (U)
open Go.RowKit Go.Xw Go.Proofs Tryz
open Go.Xp (Nd T Ar aQ aB)
open Go.Sp (Src)
open Go.Im
attribute [local irreducible] GW GL GO YG GC GA be bd
theorem Ey (p:Src) (h:Value) (k:Int) (kj:p.arrays.length<=1048576) (nB:p.fns.length<=1048576) (dE:∀ a∈p.arrays,0<=a.size/\a.size<=2147483648) (uU:(p.arrays.all fun a=>!nq a)=true) :
  GF prog 107 [.loc 0 0] [.box 126 (cC p h ⟨[],k,0⟩)] (.tup []) [.box 126 (cC p h ⟨[],rO p k,0⟩)]:=by
 have eR:(p.arrays.map az).length=p.arrays.length:=by simp
 have iq:(p.fns.map au).length=p.fns.length:=by simp
 have lD:(p.globals.map fun s=>[GV.v (sv s)]).length=p.globals.length:=by simp
 have hb:=vr dE
 have AJ:p.arrays.any nq=false:=by
  rw [any_eq_false];rw [gK] at uU;intro x hx;simpa using uU x hx
 have vQ:=CJ p h;unfold cC at vQ |-;refine ah func107 ntmps107 ?_;refine GW.range (p.arrays.map az).length (fun k' fr F=>fr=[.loc 0 0,U,.v (ii (ec (p.arrays.take k'))),U,U,U,U,U,U,U,U,U,.sl 2 (p.arrays.map az),.v (ii ((p.arrays.map az).length:Int)),.v (ii (k':Nat)),U,U,U,U,U,U,U,U,U,U,U,U,U,U,U,U,U,U,U,U,U,U,U,U,U,U,U,U,U,U,U,U,U,U,U,U,U,U,U,U,U,U,U,U,U,U,U,U,U,U,U,U,U,U,U,U,U,U,U,U,U,U,U,U,U,U,U,U,U,U,U,U,U,U,U,U,U,U,U]/\F=[.box 126 [strs p.globals,.sl 2 (p.arrays.map az),.sl 3 (p.fns.map au),.sl 5 (p.nodes.map aw),.v h,.v (ii k),.v (ii 0)]]) ?_ G ?_ ?_ ?_
 ·exact kh
 ·rintro k' _ _ ⟨rfl,rfl⟩;exact et
 ·rintro k' _ _ ak ⟨rfl,rfl⟩;rw [eR] at ak;obtain ⟨x,hx⟩:∃ x,p.arrays[k']?=some x:=⟨p.arrays[k'],by simp [ak]⟩
  have hr:(p.arrays.map az)[k']?=some (az x):=by rw [aV,hx];rfl
  have mQ:=tf hx;have ft:=hb k';have rn:=dE x (bF hx)
  have hd:nq x=false:=by
   rw [any_eq_false] at AJ;have:=AJ x (bF hx);simpa using this
  unfold nq at hd;rw [Bool.or_eq_false_iff] at hd;obtain ⟨L,I⟩:=hd;have I:decide (8000 < x.size)=false:=I;unfold az at hr;rw [mQ];generalize ec (p.arrays.take k')=c at *;refine D ?_;exact ⟨rfl,rfl,_,_,(Wk.cut (n:=1) (aD _) rfl).trans (Wk.aE ao),rfl,rfl⟩
 ·rintro _ _ ⟨rfl,rfl⟩;rw [eR,b7];refine aW ?_;refine GW.seq ?_;have e1:decide (p.fns.length > 40)=decide ((40:Int) < ((p.fns.map au).length:Int)):=decide_eq_decide.2 (by rw [iq];omega);have e2:decide (p.globals.length > 29)=decide ((29:Int) < ((p.globals.map fun s=>[GV.v (sv s)]).length:Int)):=decide_eq_decide.2 G
  have YN:tU p=((decide ((40:Int) < ((p.fns.map au).length:Int)) || decide ((29:Int) < ((p.globals.map fun s=>[GV.v (sv s)]).length:Int))) || decide ((8000:Int) < ec p.arrays)):=by unfold tU;rw [e1,e2]
  refine GW.join (fun fr F=>fr=[.loc 0 0,U,U,U,U,U,U,U,U,U,U,U,U,U,U,U,U,U,U,U,U,U,U,U,U,U,U,U,U,U,U,U,U,U,U,U,U,U,U,U,U,U,U,U,U,U,U,U,U,U,U,U,U,U,U,U,U,U,U,U,U,U,U,U,U,U,U,U,U,U,U,U,U,U,U,U,U,U,U,U,U,U,U,U,U,U,U,U,U,U,U,U,U,U]/\F=[.box 126 [strs p.globals,.sl 2 (p.arrays.map az),.sl 3 (p.fns.map au),.sl 5 (p.nodes.map aw),.v h,.v (ii (if tU p=true then gz k 26 else k)),.v (ii 0)]]) ?_ ?_
  ·rw [YN];have Ke:=vQ k 26;generalize ec p.arrays=c at *
   cases L:decide ((40:Int) < ((p.fns.map au).length:Int))
   all_goals cases I:decide ((29:Int) < ((p.globals.map fun s=>[GV.v (sv s)]).length:Int))
   all_goals cases h3:decide ((8000:Int) < c)
   all_goals
    refine D ?_
    first
     | exact kh
     | (refine hY [0] Ke ?_;refine D ?_;exact ⟨_,_,Wk.aE ao,rfl,rfl⟩)
  ·rintro _ _ ⟨rfl,rfl⟩;generalize xI:(if tU p=true then gz k 26 else k)=k1
   have Wh:∀ j:Nat,∀ x:Go.Sp.Fn,p.fns[j]?=some x->(p.fns.take (j+1)).any (fun f=>decide (f.params.length > 40))=((p.fns.take j).any (fun f=>decide (f.params.length > 40)) || decide (x.params.length > 40)):=fun j x hx=>by
    rw [cm,hx,any_append];simp
   refine D ?_;refine GW.range (p.fns.map au).length (fun j fr F=>∃ kk,fr=[.loc 0 0,U,U,U,U,U,U,U,U,U,U,U,U,U,U,U,U,U,U,U,U,U,U,U,U,U,U,U,U,U,U,U,U,U,U,U,U,U,U,U,U,U,U,U,U,U,U,U,U,U,U,U,U,U,U,U,U,U,U,.sl 3 (p.fns.map au),.v (ii ((p.fns.map au).length:Int)),.v (ii (j:Nat)),U,U,U,U,U,U,U,U,U,U,U,U,U,U,U,U,U,U,U,U,U,U,U,U,U,U,U,U,U,U,U,U]/\F=[.box 126 [strs p.globals,.sl 2 (p.arrays.map az),.sl 3 (p.fns.map au),.sl 5 (p.nodes.map aw),.v h,.v (ii kk),.v (ii 0)]]/\kk=(if (p.fns.take j).any (fun f=>decide (f.params.length > 40))=true then gz k1 26 else k1)) ?_ G ?_ ?_ ?_
   ·exact ⟨_,_,Wk.aE ao,k1,rfl,rfl,by simp⟩
   ·rintro j _ _ ⟨kk,rfl,rfl,_⟩;exact et
   ·rintro j _ _ ak ⟨kk,rfl,rfl,gL⟩;rw [iq] at ak;obtain ⟨x,hx⟩:∃ x,p.fns[j]?=some x:=⟨p.fns[j],by simp [ak]⟩
    have hr:(p.fns.map au)[j]?=some (au x):=by rw [aV,hx];rfl
    have dJ:(x.params.map fun s=>[GV.v (sv s)]).length=x.params.length:=by simp
    have rh:=Wh j x hx;have hd:decide (x.params.length > 40)=decide ((40:Int) < ((x.params.map fun s=>[GV.v (sv s)]).length:Int)):=decide_eq_decide.2 G;have Ke:=vQ kk 26;rw [rh,hd];unfold au at hr
    cases L:decide ((40:Int) < ((x.params.map fun s=>[GV.v (sv s)]).length:Int)) with
    | true =>
     have e:gz kk 26=gz k1 26:=by rw [gL];split;(· exact R9 _ _ aR);rfl
     rw [e] at Ke;refine D ?_;refine V [0] Ke ?_;exact ⟨rfl,rfl,_,_,(Wk.cut (n:=1) (aD _) rfl).trans (Wk.aE ao),_,rfl,rfl,by simp⟩
    | false =>
     refine D ?_;exact ⟨rfl,rfl,_,_,(Wk.cut (n:=1) (aD _) rfl).trans (Wk.aE ao),kk,rfl,rfl,by rw [gL,Bool.or_false]⟩
   ·rintro _ _ ⟨kk,rfl,rfl,gL⟩;rw [iq,b7] at gL
    have hs:rO p k=(if kA p=true then gz kk 25 else kk):=by
     unfold rO;rw [M (by rw [AJ];decide),xI,<-gL]
    rw [hs];refine aW ?_;have TV:=vQ kk 25;have hM:=IY p v7 G;unfold dV at hM;clear hs gL xI
    cases hx:p.fns.findIdx? (fun f:Go.Sp.Fn=>f.name==v7) with
    | none =>
     rw [hx] at hM
     have hd:decide ((-1:Int) < 0)=true:=by decide
     simp only at hM;rw [show (if kA p=true then gz kk 25 else kk)=gz kk 25 from ab (by unfold kA;rw [hx])];refine D ?_;refine V [] hM ?_;refine V [0] TV ?_;exact gR
    | some i =>
     rw [hx] at hM;have hi:i < p.fns.length:=(List.findIdx?_eq_some_iff_getElem.1 hx).1;obtain ⟨f,hf⟩:∃ f,p.fns[i]?=some f:=⟨p.fns[i],by simp [hi]⟩
     have hr:(p.fns.map au)[i]?=some (au f):=by rw [aV,hf];rfl
     have dJ:(f.params.map fun s=>[GV.v (sv s)]).length=f.params.length:=by simp
     have hd:decide (((i:Nat):Int) < 0)=false:=by simp
     have lF:decide (mD p i > 0)=decide ((0:Int) < ((f.params.map fun s=>[GV.v (sv s)]).length:Int)):=by
      unfold mD;rw [hf];exact decide_eq_decide.2 (by simp only;omega)
     simp only at hM
     have qz:kA p=decide (mD p i > 0):=by unfold kA;rw [hx]
     rw [lF] at qz;unfold au at hr
     cases L:decide ((0:Int) < ((f.params.map fun s=>[GV.v (sv s)]).length:Int)) with
     | true =>
      rw [show (if kA p=true then gz kk 25 else kk)=gz kk 25 from ab (by rw [qz,L])];refine D ?_;refine V [] hM ?_;refine V [0] TV ?_;exact gR
     | false =>
      rw [show (if kA p=true then gz kk 25 else kk)=kk from M (by rw [qz,L];decide)];refine D ?_;refine V [] hM ?_;exact gR
end Go.Xg
namespace Go.Im
open Go.Xp Go.Sp
theorem O4 (p:Src) (l:List T) (c:SS):oq p [] l c=c:=by unfold oq;rfl
end Go.Im
namespace Go.Xg
open GV (U)
open Go.RowKit Go.Xw Go.Proofs Tryz
open Go.Xp (Nd T Ar aQ aB)
open Go.Sp (Src)
open Go.Im
attribute [local irreducible] GW GL GO YG GC GA be bd
theorem Ln (p:Src) (hF:GF prog 58 [.agg (ar p)] [] (.v (.bool false)) []):GF prog 62 [.agg (ar p)] [] (.tup [.v (ii 20),.v (ii 0)]) []:=by
 refine ah func62 ntmps62 ?_;refine V [] hF ?_;exact nt
theorem JJ (p:Src) (l:List T) (c1 c2:SS) (iq:p.fns.length=l.length) (nB:p.fns.length<=1048576) (kj:p.arrays.length<=1099511627776) (lD:p.globals.length<=1099511627776)
  (AL:∀ f∈p.fns,f.params.length<=1048576) (dE:∀ t∈l,aQ t<=1048576)
  (hF:GF prog 58 [.agg (ar p)] [] (.v (.bool true)) [])
  (hN:GF prog 106 [.loc 0 0] [.box 126 (cC p (.slice none 0 0) ⟨[],0,0⟩)] (.tup []) [.box 126 (cC p (.slice none 0 0) c1)])
  (hS:GF prog 107 [.loc 0 0] [.box 126 (cC p (.slice none 0 0) c1)] (.tup []) [.box 126 (cC p (.slice none 0 0) c2)])
  (qB:∀ (i:Nat) (f:Go.Sp.Fn) (t:T),p.fns[i]?=some f->l[i]?=some t->GF prog 84 [.agg (ar p),.v (ii f.body)] [] (.agg (cT t)) []) :
  GF prog 62 [.agg (ar p)] [] (.tup [.v (ii (oq p p.fns l c2).code),.v (ii (oq p p.fns l c2).at_)]) []:=by
 have sT:(p.fns.map au).length=p.fns.length:=by simp
 unfold cC at hN hS;refine ah func62 ntmps62 ?_;refine V [] hF ?_;refine V [1] hN ?_;refine V [1] hS ?_;refine GW.range (p.fns.map au).length (fun k fr F=>∃ h c,fr=[U,.loc 0 0,U,U,.loc 1 0,U,U,U,U,U,U,U,U,U,U,U,U,U,.sl 3 (p.fns.map au),.v (ii ((p.fns.map au).length:Int)),.v (ii (k:Nat)),U,U,U,U,U,U,U,U,U,U,U,U,U,U,U,U,U,U,U,U,U,U,U,U,U,U]/\F=[.box 33 (ar p),.box 126 (cC p h c)]/\oq p p.fns l c2=oq p (p.fns.drop k) (l.drop k) c) ?_ G ?_ ?_ ?_
 ·exact ⟨_,_,Wk.aE ao,_,c2,rfl,rfl,rfl⟩
 ·rintro k _ _ ⟨h,c,rfl,rfl,_⟩;exact et
 ·rintro k _ _ ak ⟨h,c,rfl,rfl,he⟩;rw [sT] at ak;obtain ⟨f,hf⟩:∃ f,p.fns[k]?=some f:=⟨p.fns[k],by simp [ak]⟩;obtain ⟨t,ht⟩:∃ t,l[k]?=some t:=⟨l[k]'G,fM _⟩
  have hr:(p.fns.map au)[k]?=some (au f):=by rw [aV,hf];rfl
  have Mz:p.fns.drop k=f::p.fns.drop (k+1):=by rw [kW ak];rw [fM ak] at hf;rw [Cu hf]
  have dH:l.drop k=t::l.drop (k+1):=by rw [kW G];rw [fM G] at ht;rw [Cu ht]
  have hp:=AL f (bF hf);have hz:=dE t (bF ht);have UH:=qB k f t hf ht;have hP:=HG p h c f hp;rw [Mz,dH,oq] at he
  cases hc:(c.code==0) with
  | false =>
   rw [M (by simpa using hc)] at he;unfold cC au at *;refine D ?_;exact ⟨rfl,rfl,_,_,(Wk.cut (n:=2) (aM _) rfl).trans (Wk.aE ao),h,c,rfl,rfl,he⟩
  | true =>
   rw [ab (by simpa using hc)] at he
   have Xf:=fun ad cp=>Na p kj G lD _ t (aD _) (qK f c) ad cp (by show f.params.length+_<=_;omega)
   rw [he];generalize oa p t (qK f c)=c3 at *;unfold cO at Xf;unfold au at hr hP;rw [show cC p h c=[strs p.globals,.sl 2 (p.arrays.map az),.sl 3 (p.fns.map au),.sl 5 (p.nodes.map aw),.v h,.v (ii c.code),.v (ii c.at_)] from rfl] at *;refine D ?_;refine cD [1] hP ?_;rintro _ _ ⟨rfl,ad,cp,rfl⟩;refine eO ?_;refine D ?_;refine V [] UH ?_;refine cD [1,3] (Xf ad cp) ?_;rintro _ _ ⟨rfl,xV,x7,rfl⟩;refine eO ?_;refine D ?_;exact ⟨rfl,rfl,_,_,(Wk.cut (n:=2) (aM _) rfl).trans (Wk.aE ao),_,c3,rfl,rfl,rfl⟩
 ·rintro _ _ ⟨h,c,rfl,rfl,he⟩;rw [sT,List.drop_length,O4] at he;rw [he];unfold cC;refine aW ?_;refine D ?_;refine aK (aC 0 10 .nil) ?_;refine aj ?_;exact rS
end Go.Xg
namespace Go.Xg
open Go.RowKit Go.Xw Go.Proofs
open Go.Xp (Nd T Ar aQ aB bW)
open Go.Sp (Src)
open Go.Im
attribute [local irreducible] GW GL GO YG GC GA be bd
end Go.Xg
namespace Go.Xg
open Go.RowKit Go.Xw Go.Proofs
section
variable {P:Program} {m:Nat} {ops:Array Oper} {Q:du} {rest:List Oper} {fr:List GV} {F:List Ob}
end
end Go.Xg
namespace Go.Im
open Go.Xp Go.Sp
end Go.Im
namespace Go.Xg
open Go.RowKit Go.Xw Go.Proofs
open Go.Xp (Nd T Ar aQ aB bW)
open Go.Sp (Src)
open Go.Im
attribute [local irreducible] GW GL GO YG GC GA be bd
end Go.Xg
namespace Go.Im
open Go.Xp Go.Sp
def xN (l:List ae) (k:Nat):Int:=if (List.range k).any (ll l)=true then 21 else 0
theorem PR (l:List ae) (k:Nat):xN l (k+1)=if ll l k=true then gz (xN l k) 21 else xN l k:=by
 unfold xN;rw [range_succ,any_append]
 cases h:(List.range k).any (ll l) with
 | true=>simp [gz]
 | false=>simp [gz]
theorem SB (l:List ae):xN l l.length=if fQ l=true then 21 else 0:=rfl
end Go.Im
namespace Go.Xg
open GV (U)
open Go.RowKit Go.Xw Go.Proofs Tryz
open Go.Xp (Nd T Ar aQ aB)
open Go.Sp (Src)
open Go.Im
attribute [local irreducible] GW GL GO YG GC GA be bd
theorem KB (p:Src) (hw:df p<=1048576) :
  GF prog 106 [.loc 0 0] [.box 126 (cC p (.slice none 0 0) ⟨[],0,0⟩)] (.tup []) [.box 126 (cC p (.slice none 0 0) ⟨[],(if fQ (bE p)=true then 21 else 0),0⟩)]:=by
 obtain ⟨⟨a1,a2⟩,⟨b1,b2⟩,⟨c1,c2⟩,⟨d1,d2⟩⟩:=ju p
 have uX:(p.globals.map fun s=>[GV.v (sv s)]).length=p.globals.length:=by simp
 have gB:ig (p.globals.map fun s=>[GV.v (sv s)])=true:=tt p.globals;have sq:=oS p;rw [<-SB]
 have vQ:=fun k=>CJ p (.slice none 0 0) (xN (bE p) k) 21
 rw [show (0:Int)=xN (bE p) 0 from rfl];unfold cC at vQ |-;refine ah func106 ntmps106 ?_;refine oE ?_;refine D ?_;refine oE ?_;refine D ?_;refine GL.wO rfl rfl rfl rfl gB (by refine ⟨?_,?_⟩;(· rw [uX];omega);(· rw [uX];omega)) ?_;rw [uX];refine bJ ?_;simp only [cL];refine D ?_;refine GW.range (p.arrays.map az).length (fun k fr F=>∃ R n,fr=[.loc 0 0,U,.vec 1 0,.vec 2 n,U,U,U,U,U,U,U,U,U,U,U,U,U,U,U,U,U,U,.sl 2 (p.arrays.map az),.v (ii ((p.arrays.map az).length:Int)),.v (ii (k:Nat)),U,U,U,U,U,U,U,U,U,U,U,U,U,U,U,U,U,U,U,U,U,U,U,U,U,U,U,U,U,U,U,U,U,U,U,U,U,U,U,U,U,U,U,U,U]/\F=[.box 126 [strs p.globals,.sl 2 (p.arrays.map az),.sl 3 (p.fns.map au),.sl 5 (p.nodes.map aw),.v (.slice none 0 0),.v (ii (xN (bE p) 0)),.v (ii 0)],.vec 9 1 0 [],.vec 9 1 0 R]/\R.length=n/\R=bA (p.globals++(dc p).take k)) ?_ (by rw [bP];omega) ?_ ?_ ?_
 ·exact ⟨_,_,Wk.aE ao,_,_,rfl,rfl,uX,by simp [bA,chunk]⟩
 ·rintro k _ _ ⟨R,n,rfl,rfl,_⟩;exact et
 ·rintro k _ _ hk ⟨R,n,rfl,rfl,ef,hR⟩
  have hk:k < p.arrays.length:=by simpa using hk
  have hx:p.arrays[k]?=some p.arrays[k]:=by simp [hk]
  have hr:=B6 hx
  have bK:bA (p.globals++(dc p).take (k+1))=R++[[.v (sv p.arrays[k].name)]]:=by
   have:(dc p)[k]?=some p.arrays[k].name:=by rw [dc,aV,hx];rfl
   rw [cm,this,hR];simp [bA]
  have vT:n<=4194304:=by
   rw [<-ef,hR,fw,aU,cS];omega
  have hb:n+1<=9223372036854775807/\(n+1) * 16<=140737488355328:=by omega
  clear hR;unfold az at hr;generalize p.arrays[k]=x at *;refine D ?_;refine eu ?_;refine D ?_;exact ⟨rfl,rfl,_,_,(Wk.cut (n:=3) (fO rfl) rfl).trans (Wk.aE ao),_,_,rfl,rfl,by simp [ef],bK.symm⟩
 ·rintro _ _ ⟨R,n,rfl,rfl,ef,hR⟩;rw [bP,show p.arrays.length=(dc p).length by simp [dc],b7] at hR;refine aW ?_;refine D ?_;refine GW.range (p.fns.map au).length (fun k fr F=>∃ R n,fr=[.loc 0 0,U,.vec 1 0,.vec 2 n,U,U,U,U,U,U,U,U,U,U,U,U,U,U,U,U,U,U,U,U,U,U,U,U,U,U,U,U,U,U,U,U,U,U,.sl 3 (p.fns.map au),.v (ii ((p.fns.map au).length:Int)),.v (ii (k:Nat)),U,U,U,U,U,U,U,U,U,U,U,U,U,U,U,U,U,U,U,U,U,U,U,U,U,U,U,U,U]/\F=[.box 126 [strs p.globals,.sl 2 (p.arrays.map az),.sl 3 (p.fns.map au),.sl 5 (p.nodes.map aw),.v (.slice none 0 0),.v (ii (xN (bE p) 0)),.v (ii 0)],.vec 9 1 0 [],.vec 9 1 0 R]/\R.length=n/\R=bA ((p.globals++dc p)++(fq p).take k)) ?_ (by rw [bP];omega) ?_ ?_ ?_
  ·exact ⟨_,_,Wk.aE ao,_,_,rfl,rfl,ef,by rw [hR];simp⟩
  ·rintro k _ _ ⟨R,n,rfl,rfl,_⟩;exact et
  ·rintro k _ _ hk ⟨R,n,rfl,rfl,ef,hR⟩
   have hk:k < p.fns.length:=by simpa using hk
   have hx:p.fns[k]?=some p.fns[k]:=by simp [hk]
   have hr:=sB hx
   have bK:bA ((p.globals++dc p)++(fq p).take (k+1))=R++[[.v (sv p.fns[k].name)]]:=by
    have:(fq p)[k]?=some p.fns[k].name:=by rw [fq,aV,hx];rfl
    rw [cm,this,hR];simp [bA]
   have vT:n<=4194304:=by
    rw [<-ef,hR,fw,aU,aU,cS,dc,bP];omega
   have hb:n+1<=9223372036854775807/\(n+1) * 16<=140737488355328:=by omega
   clear hR;unfold au at hr;generalize p.fns[k]=x at *;refine D ?_;refine eu ?_;refine D ?_;exact ⟨rfl,rfl,_,_,(Wk.cut (n:=3) (fO rfl) rfl).trans (Wk.aE ao),_,_,rfl,rfl,by simp [ef],bK.symm⟩
  ·rintro _ _ ⟨R,n,rfl,rfl,ef,hR⟩;rw [bP,show p.fns.length=(fq p).length by simp [fq],b7] at hR;have hR:R=bA (bE p):=hR
   have me:R.length=(bE p).length:=by rw [hR,fw]
   have xL:n=R.length:=ef.symm;subst xL;refine aW ?_;refine GW.wk (Wk.jv (t:=3) rfl rfl rfl rfl) ?_;refine GW.wk (Wk.cut (n:=2) (fO rfl) rfl) ?_;refine GW.Tv (cJ:=[.loc 0 0,U,.vec 1 0,.sl 1 R,U,U,U,U,U,U,U,U,U,U,U,U,U,U,U,U,U,U,U,U,U,U,U,U,U,U,U,U,U,U,U,U,U,U,U,U,U,U,U,U,U,U,U,U,U,U,U,U,U,U,U,U,U,U,U,U,U,U,U,U,U,U,U,U,U,U]) (aO:=[.box 126 [strs p.globals,.sl 2 (p.arrays.map az),.sl 3 (p.fns.map au),.sl 5 (p.nodes.map aw),.v (.slice none 0 0),.v (ii (xN (bE p) 0)),.v (ii 0)],.vec 9 1 0 []]) ao rfl ?_;refine D ?_;refine GW.range R.length (fun k fr F=>∃ S n fz,fr=[.loc 0 0,U,.vec 1 n,U,U,U,U,U,U,U,U,U,U,U,U,U,U,U,U,U,U,U,U,U,U,U,U,U,U,U,U,U,U,U,U,U,U,U,U,U,U,U,U,U,U,U,U,U,U,U,.sl 1 R,.v (ii (R.length:Int)),.v (ii (k:Nat)),U,U,U,U,U,U,U,U,U,U,U,U,U,U,U,U,U]/\F=[.box 126 [strs p.globals,.sl 2 (p.arrays.map az),.sl 3 (p.fns.map au),.sl 5 (p.nodes.map aw),.v (.slice none 0 0),.v (ii (xN (bE p) k)),.v (ii 0)],.vec 9 1 fz S]/\S.length=n/\S=bA ((bE p).take k)) ?_ G ?_ ?_ ?_
   ·exact ⟨_,_,Wk.aE ao,_,_,_,rfl,rfl,rfl,by simp [bA]⟩
   ·rintro k _ _ ⟨S,n,fz,rfl,rfl,_⟩;exact et
   ·rintro k _ _ hk ⟨S,n,fz,rfl,rfl,Fs,hS⟩;rw [me] at hk;obtain ⟨x,hx⟩:∃ x,(bE p)[k]?=some x:=⟨(bE p)[k],by simp [hk]⟩
    have Q4:R[k]?=some [.v (sv x)]:=by rw [hR,bA,aV,hx];rfl
    have bK:bA ((bE p).take (k+1))=S++[[.v (sv x)]]:=by rw [cm,hx,hS];simp [bA]
    have vT:n<=8388608:=by rw [<-Fs,hS,fw,cS];omega
    have hb:n+1<=9223372036854775807/\(n+1) * 16<=140737488355328:=by omega
    have hd:ll (bE p) k=(ng x || ((bE p).take k).contains x):=by unfold ll;rw [hx]
    have Mt:=KC x
    have hL:GF prog 25 [.sl 1 S,.v (sv x)] [] (.v (.bool (((bE p).take k).contains x))) []:=by
     rw [hS];exact jo ((bE p).take k) x (by rw [cS];omega)
    have hF:=vQ k;rw [PR];clear hS hR me;generalize xN (bE p) k=cd at *;generalize ll (bE p) k=bn at *
    cases L:ng x with
    | true =>
     rw [L] at Mt hd;subst hd;rw [ab (by simp)];refine D ?_;refine V [] Mt ?_;refine V [0] hF ?_;refine eu ?_;refine D ?_;exact ⟨rfl,rfl,_,_,Wk.aE ao,_,_,_,rfl,rfl,by simp [Fs],bK.symm⟩
    | false =>
     rw [L] at Mt hd
     cases I:((bE p).take k).contains x with
     | true =>
      rw [I] at hL hd;subst hd;rw [ab (by simp)];refine D ?_;refine V [] Mt ?_;refine GL.wk (Wk.jv (t:=59) rfl rfl rfl Fs) ?_;refine cE ?_;refine D ?_;refine V [] hL ?_;refine V [0] hF ?_;refine eu ?_;refine D ?_;exact ⟨rfl,rfl,_,_,Wk.aE ao,_,_,_,rfl,rfl,by simp [Fs],bK.symm⟩
     | false =>
      rw [I] at hL hd;subst hd;rw [M (by simp)];refine D ?_;refine V [] Mt ?_;refine GL.wk (Wk.jv (t:=59) rfl rfl rfl Fs) ?_;refine cE ?_;refine D ?_;refine V [] hL ?_;refine eu ?_;refine D ?_;exact ⟨rfl,rfl,_,_,Wk.aE ao,_,_,_,rfl,rfl,by simp [Fs],bK.symm⟩
   ·rintro _ _ ⟨S,n,fz,rfl,rfl,Fs,hS⟩;rw [me];exact gR
end Go.Xg
namespace Go.Xg
open Go.RowKit Go.Xw Go.Proofs
open Go.Xp (Nd T Ar aQ aB)
open Go.Sp (Src)
open Go.Im
attribute [local irreducible] GW GL GO YG GC GA be bd
end Go.Xg
namespace Go.Im
open Go.Xp Go.Sp
end Go.Im
namespace Go.Xg
open Go.RowKit Go.Xw Go.Proofs Tryz
open Go.Xp (Nd T Ar aQ aB bW)
open Go.Sp (Src)
open Go.Im
attribute [local irreducible] GW GL GO YG GC GA be bd
theorem Dg {l:List T} {t:T} (h:t∈l):aQ t<=aB l:=by
 obtain ⟨k,hk⟩:=List.getElem?_of_mem h;have:=uE hk;omega
theorem Fk {p:Src} (h:fI p=false):tj p=false:=by unfold tj;rw [h];rfl
theorem DE {p:Src} {l:List T} (h:fI p=true) (hl:dU p l):tj p=((Ii p l).1==0):=by
 unfold tj;rw [h,hl.Bg];simp only [Bool.true_and];rfl
theorem Si (p:Src) (hw:df p<=1048576) (hn:qm p):GF prog 35 [.agg (ar p)] [] (.v (.bool (tj p))) []:=by
 obtain ⟨⟨a1,a2⟩,⟨b1,b2⟩,⟨c1,c2⟩,⟨d1,d2⟩⟩:=ju p;have hF:=xS p hw hn
 cases hf:fI p with
 | false =>
  rw [hf] at hF;have:=Mn p _ _ (Lo p hF);rw [Fk hf];exact this
 | true =>
  rw [hf] at hF;obtain ⟨l,hl⟩:=lA hf;have hlen:=eT.len hl.fns;have sq:=oS p;have kj:=Du hl
  have hc:=JK p l (bE p) G hlen G hF (wM p hw) (N3 p G G fun a ha=>⟨(kj a ha).1,by have:=(kj a ha).2;omega⟩) fun i f t L I=>by
   obtain ⟨e1,_⟩:=eT.at_ hl.fns i f t L I;have h7:=dC.ix l 0 i _ hl.st I;rw [cL] at e1 h7
   have hb:f.body.toNat=aB (l.take i):=by rw [e1,qU]
   have hz:=Dg (bF I);have:=hl.len;have:=Ma p i f t G (fun n h=>by have:=(d2 n h).2;omega) G G G L (by have:=(c2 f (bF L)).2.1;omega) G (by rw [hb];exact h7) G;rw [hb] at this;exact this
  rw [DE hf hl];exact Mn p _ _ hc
theorem Ox (p:Src) (hw:df p<=1048576):∃ c z,GF prog 62 [.agg (ar p)] [] (.tup [.v (ii c),.v (ii z)]) []/\(c==0)=tj p:=by
 obtain ⟨⟨a1,a2⟩,⟨b1,b2⟩,⟨c1,c2⟩,⟨d1,d2⟩⟩:=ju p;have hF:=uL p hw
 cases hf:fI p with
 | false =>
  rw [hf] at hF;exact ⟨_,_,Ln p hF,by rw [Fk hf];rfl⟩
 | true =>
  rw [hf] at hF;obtain ⟨l,hl⟩:=lA hf;have hlen:=eT.len hl.fns;have kj:=Du hl
  have UM:∀ a∈p.arrays,0<=a.size/\a.size<=2147483648:=fun a ha=>⟨(kj a ha).1,by have:=(kj a ha).2;omega⟩
  obtain ⟨ls,hm⟩:=hl.QF
  have hS:=fun k=>F1 p (.slice none 0 0) k G UM fun h=>Ey p (.slice none 0 0) k G G UM h
  have hle:=hl.len
  have hc:=JJ p l _ _ hlen G G G (fun f h=>by have:=(c2 f h).2.1;omega) (fun t ht=>by have:=Dg ht;omega) hF (KB p hw) (hS _) fun i f t L I=>by
   obtain ⟨e1,_⟩:=eT.at_ hl.fns i f t L I;have h7:=dC.ix l 0 i _ hl.st I;rw [cL] at e1 h7;rw [e1];exact EM p (fun n h=>by have:=(d2 n h).2;omega) _ _ t ((wB _).1 t _ h7 (aD _))
  have hs:=Tq (p:=p) (l:=l) (fun a ha=>(kj a ha).1) (fun t ht=>by obtain ⟨i,hi⟩:=List.getElem?_of_mem ht;exact (hm.wf hi).1)
  have e:((LP p l).code==0)=tj p:=by
   rw [DE hf hl]
   by_cases h0:(Ii p l).1=0
   ·rw [h0,hs.1 h0]
   ·have L:(LP p l).code≠0:=fun e=>h0 (hs.2 e)
    rw [show ((Ii p l).1==0)=false by simpa using h0,show ((LP p l).code==0)=false by simpa using L]
  exact ⟨_,_,hc,e⟩
end Go.Xg
namespace Go.Im
open Go.Xp Go.Sp
end Go.Im
namespace Go.Xg
open Go.RowKit Go.Xw Go.Proofs Tryz
open Go.Xp (Nd T Ar aQ aB bW)
open Go.Sp (Src)
open Go.Im
attribute [local irreducible] GW GL GO YG GC GA be bd
theorem VA (p:Src) (hk:∀ n∈p.nodes,n.kids.length<=1000000000000) (f:Go.Sp.Fn) (t:T) (hb:0<=f.body) (cz:fy p.nodes f.body.toNat t):GF prog 84 [.agg (ar p),.v (ii f.body)] [] (.agg (cT t)) []:=by
 have:=EM p hk _ _ t ((wB _).1 t _ cz (aD _))
 rwa [Int.toNat_of_nonneg hb] at this
end Go.Xg
namespace Go.Im
open Go.Xp Go.Sp
end Go.Im
namespace Go.Xg
open Go.RowKit Go.Xw Go.Proofs
open Go.Xp (Nd T Ar aQ aB bW)
open Go.Sp (Src)
open Go.Im
attribute [local irreducible] GW GL GO YG GC GA be bd
end Go.Xg
namespace Go.Im
open Go.Xp Go.Sp
end Go.Im
namespace Go.Xg
open Go.RowKit Go.Xw Go.Proofs
open Go.Xp (Nd T Ar aQ aB)
open Go.Sp (Src)
open Go.Im
attribute [local irreducible] GW GL GO YG GC GA be bd
end Go.Xg
namespace Go.Xg
open Go.RowKit Go.Xw Go.Proofs
open Go.Xp (Nd T Ar aQ aB dy)
open Go.Sp (Src)
open Go.Im
attribute [local irreducible] GW GL GO YG GC GA be bd
end Go.Xg
namespace Go.Im
open Go.Xp Go.Sp
end Go.Im
namespace Go.Xg
open Go.RowKit Go.Xw Go.Proofs
open Go.Xp (Nd T Ar aQ aB bW)
open Go.Sp (Src)
open Go.Im
attribute [local irreducible] GW GL GO YG GC GA be bd
end Go.Xg
namespace Go.Xg
open Go.RowKit Go.Xw
theorem tK {A B:Prop} (h:B) (s:Hid B->A:=by intro hQ;(repeat (first | ((first | (apply GL.q;(· exact Lj)) | refine GL.nil ?_ | refine aW ?_ | refine GW.seq ?_ | refine GW.region ?_ | refine GW.skip ?_ | refine jb ?_ | refine GW.block ?_ | (apply GL.gt;(· exact rfl);(· first | exact rfl | assumption)) | (apply GL.gf;(· exact rfl);(· first | exact rfl | assumption)) | (apply GL.gu;(· exact rfl)) | (apply Lt;(· exact rfl);(· first | exact rfl | assumption)) | (apply Ls;(· exact rfl);(· first | exact rfl | assumption)));try refine GN vk ?_) | ((first | (apply GL.box;(· exact rfl)) | (apply GL.st;(· exact rfl);(· exact rfl);(· exact rfl);(· exact rfl);(· exact rfl);(· exact rfl)));refine sQ dL fb ?_)));exact hQ.1):A:=s ⟨h⟩
end Go.Xg
namespace Go.Im
open Go.Xp Go.Sp
end Go.Im
namespace Go.Xg
open Go.RowKit Go.Xw Go.Proofs
open Go.Xp (Nd T Ar aQ aB bW)
open Go.Sp (Src ew small ei word bt words)
open Go.Im
attribute [local irreducible] GW GL GO YG GC GA be bd
end Go.Xg
namespace Go.Xg
open Go.RowKit Go.Xw
theorem Bf (A C:List Ob) (x:Ob):(A++x::C)[A.length]?=some x:=by
 rw [eE (aD _),iJ];rfl
theorem xu (A C:List Ob) (x y:Ob):oset (A++x::C) A.length y=A++y::C:=by
 rw [bf,set_append_right _ _ (aD _),iJ];rfl
theorem Jf (q:Nat->Bool):∀ (A B:List Ob),rq q (A++B)=(rq q A&&rq q B)
 | [],B=>by simp [rq]
 | a::A,B=>by simp only [cons_append,rq,Jf q A B,Bool.and_assoc]
section
variable (a b c d e:Ob) (X:List Ob) (k x y:Ob)
theorem o5e (aaK C:List Ob):(a::b::c::d::e::(aaK++x::C))[aaK.length+5]?=some x:=by
 simp
theorem o5f (aaK C:List Ob):oset (a::b::c::d::e::(aaK++x::C)) (aaK.length+5) y=a::b::c::d::e::(aaK++y::C):=by
 have:=xu (a::b::c::d::e::aaK) C x y;simpa using this
end
section
variable {P:Program} {m:Nat} {Q:du} {fr:List GV} {F:List Ob} {ops:Array Oper} {rest:List Oper} {d:Option Tmp} {op:Op} {ty:TypeId} {pos:String} {af:Array Edge}
end
section
variable {P:Program} {fn:Func} {R:GV->List Ob->Prop} {fr:List GV} {F:List Ob} {e:Exit}
theorem Gy {X Y Z:List Ob} (hX:∀ x∈X,x.gC=true) (hZ:∀ x∈Z,x.gC=true) :
  (X++Z).length=(List.range X.length++(List.range Z.length).map (·+(X.length+Y.length))).length/\(List.range X.length++(List.range Z.length).map (·+(X.length+Y.length))).Nodup /\
  ∀ (j:Nat) x,(X++Z)[j]?=some x->x.gC=true/\∀ i,(List.range X.length++(List.range Z.length).map (·+(X.length+Y.length)))[j]?=some i->(X++(Y++Z))[i]?=some x:=by
 refine ⟨by simp,?_,fun j x hj=>⟨?_,fun i hi=>?_⟩⟩
 ·rw [List.nodup_append];refine ⟨List.nodup_range,?_,?_⟩
  ·unfold List.Nodup;rw [List.pairwise_map]
   exact (List.nodup_range (n:=Z.length)).imp fun cr he=>cr G
  ·intro a ha b hb;rw [mem_range] at ha;obtain ⟨c,hc,rfl⟩:=qX.1 hb;omega
 ·rcases oI (bF hj) with h | h
  ·exact hX x h
  ·exact hZ x h
 ·by_cases hl:j < X.length
  ·rw [ff hl] at hj;rw [ff (by simpa using hl),List.getElem?_range hl] at hi;cases hi;rw [ff hl];exact hj
  ·rw [eE G] at hj;rw [eE (by simpa using hl),List.length_range] at hi;have hz:=(bp hj).1;rw [aV,List.getElem?_range hz] at hi;cases hi;show (X++(Y++Z))[j - X.length+(X.length+Y.length)]?=some x;rw [eE G,eE G,show j - X.length+(X.length+Y.length) - X.length - Y.length=j - X.length by omega];exact hj
theorem TN {t u:Tmp} {T:TypeId} {k:Nat} [hT:Ty P T true k] {i:Nat} {E:TypeId} {cs:List GV} {y:Value} (aL:List Nat) (Δ:List Ob) (hr:fn.results=#[.cell t T,.tmp u]) (he:e=.normal\/e=.ret) (hg:cB fr t=.loc i 0) (bG:F[i]?=some (.box E cs)) (hk:cs.length=k) (hp:oy cs=true) (fu:cB fr u=.v y)
  (hl:Δ.length=aL.length) (hn:aL.Nodup) (hx:∀ (j:Nat) x,Δ[j]?=some x->x.gC=true/\∀ i,aL[j]?=some i->F[i]?=some x) (h:R (.tup [.agg cs,.v y]) Δ):qv P fn 0 R e fr F :=
 ⟨he,fun B K β w l hB hI hF=>by
  obtain ⟨b,vs,L,I,h3,h4⟩:=hI.ob i _ bG
  have ML:nth l t=.pointer (some ⟨b,0,none⟩):=by
   have:=hF.nth t;rw [hg] at this;generalize nth l t=v at this
   cases this with
   | loc _ _ b' bC=>rw [L] at bC;cases bC;rfl
  have kZ:l.toArray.getD t undef=.pointer (some ⟨b,0,none⟩):=by rw [jM,ML]
  have BC:=mG (P:=P) (w:=w) (t:=T) (b:=b) (o:=0) (vs:=vs) (k:=k) (by rw [h3.1,hk]) (fun j v hj=>by
   rw [cL,cell_of_row w b j _ E (0,0) I];simpa using hj)
  have xb:l[t]?.getD undef=.pointer (some ⟨b,0,none⟩):=by simpa using kZ
  have h5:bh K (nI β aL) vs cs:=h3.oy (lp hp);have hu:nth l u=y:=Rel.fD (by rw [<-fu];exact hF.nth u);refine ⟨.tuple #[.agg vs.toArray,y],K,nI β aL,.tup [.agg cs,.v y],Δ,?_,hI.pick hB hl hn hx,?_,h⟩
  ·rw [<-hu,<-jM l u];simp [results,hr,xb,asAddr,BC]
  ·have hc:bh K (nI β aL) [.agg vs.toArray,y] [.agg cs,.v y]:=.cons (.agg vs cs h5.1 h5.2) (.cons (.v _) .nil)
   exact .tup [.agg vs.toArray,y] _ hc.1 hc.2⟩
theorem Ml {t u:Tmp} {T:TypeId} {k:Nat} [hT:Ty P T true k] {i:Nat} {E:TypeId} {cs:List GV} {y:Value} (X Y Z:List Ob) (hr:fn.results=#[.cell t T,.tmp u]) (he:e=.normal\/e=.ret) (hg:cB fr t=.loc i 0) (bG:F[i]?=some (.box E cs)) (hk:cs.length=k) (hp:oy cs=true) (fu:cB fr u=.v y)
  (Ue:F=X++(Y++Z)) (hX:∀ x∈X,x.gC=true) (hZ:∀ x∈Z,x.gC=true) (h:R (.tup [.agg cs,.v y]) (X++Z)):qv P fn 0 R e fr F:=by
 have hs:=Gy (Y:=Y) hX hZ;exact TN _ (X++Z) hr he hg bG hk hp fu hs.1 hs.2.1 (by rw [Ue];exact hs.2.2) h
theorem V7 {t:Tmp} {T:TypeId} {k:Nat} [hT:Ty P T true k] {i:Nat} {E:TypeId} {cs:List GV} (X Y Z:List Ob) (hr:fn.results=#[.cell t T]) (he:e=.normal\/e=.ret) (hg:cB fr t=.loc i 0) (bG:F[i]?=some (.box E cs)) (hk:cs.length=k) (hp:oy cs=true)
  (Ue:F=X++(Y++Z)) (hX:∀ x∈X,x.gC=true) (hZ:∀ x∈Z,x.gC=true) (h:R (.agg cs) (X++Z)):qv P fn 0 R e fr F:=by
 have hs:=Gy (Y:=Y) hX hZ;exact QH _ (X++Z) hr he hg bG hk hp hs.1 hs.2.1 (by rw [Ue];exact hs.2.2) h
end
end Go.Xg
namespace Go.Xg
open Go.RowKit Go.Xw Go.Proofs
open Go.Xp (Nd T Ar aQ aB bW)
open Go.Sp (Src)
open Go.Im
attribute [local irreducible] GW GL GO YG GC GA be bd
theorem tF:∀ l:List Ar,ig (l.map az)=true
 | []=>rfl
 | a::l=>by
  have:=tF l;rw [List.map_cons,ig,this];rfl
end Go.Xg
namespace Go.Xg
open Go.RowKit Go.Xw Go.Proofs
open Go.Xp (Nd T Ar aQ aB)
open Go.Sp (Src)
open Go.Im
attribute [local irreducible] GW GL GO YG GC GA be bd
end Go.Xg
namespace Go.Xg
open Go.RowKit Go.Xw Go.Proofs
open Go.Xp (Nd T Ar aQ aB dy)
open Go.Sp (Src)
open Go.Im
attribute [local irreducible] GW GL GO YG GC GA be bd
end Go.Xg
namespace Go.Xg
open Go.RowKit Go.Xw Go.Proofs
open Go.Xp (Nd T Ar aQ aB)
open Go.Sp (Src bt)
open Go.Im
attribute [local irreducible] GW GL GO YG GC GA be bd
def Av (q:Src) (c:Int) (g:GV) (Δ:List Ob):Prop:=∃ hg ha hf hn fs ns,nO q hg ha hf hn fs ns/\g=.tup [.agg [.v hg,.v ha,.v hf,.v hn],.v (ii c)]/\Δ=dK q hg ha hf hn fs ns
theorem SX (c:Int):Av jD c (.tup [.agg [.v (.slice none 0 0),.v (.slice none 0 0),.v (.slice none 0 0),.v (.slice none 0 0)],.v (ii c)]) [.vech 9 1 [] (.slice none 0 0),.vech 56 2 [] (.slice none 0 0),.vech 58 3 [] (.slice none 0 0),.vech 62 5 [] (.slice none 0 0)] :=
 ⟨_,_,_,_,[],[],⟨⟨none,0,rfl⟩,⟨none,0,rfl⟩,⟨none,0,rfl⟩,⟨none,0,rfl⟩,rfl,rfl,(fun i x y h=>by simp [jD] at h),fun i x y h=>by simp [jD] at h⟩,rfl,rfl⟩
theorem PQ:∀ x∈[Ob.vech 9 1 [] (.slice none 0 0),.vech 56 2 [] (.slice none 0 0),.vech 58 3 [] (.slice none 0 0),.vech 62 5 [] (.slice none 0 0)],x.gC=true:=fun x hx=>by
 simp only [List.mem_cons,not_mem_nil,or_false] at hx
 rcases hx with rfl | rfl | rfl | rfl <;> rfl
theorem GW.jD {P:Program} {fn:Func} {Q:du} {t u:Tmp} {T:TypeId} [hT:Ty P T true 4] {i:Nat} {E:TypeId} {c:Int} {fr:List GV} {F:List Ob} (hr:fn.results=#[.cell t T,.tmp u]) (hg:cB fr t=.loc i 0) (hi:i < F.length) (bG:F[i]?=some (.box E [.v (.slice none 0 0),.v (.slice none 0 0),.v (.slice none 0 0),.v (.slice none 0 0)])) (fu:cB fr u=.v (ii c))
  (hQ:∀ fr F,qv P fn 0 (Av Go.Im.jD c) .ret fr F->Q .ret fr F):GW P 0 .ret Q fr F:=by
 refine GW.wk (Wk.jq 9 1) ?_;refine GW.wk (Wk.jq 56 2) ?_;refine GW.wk (Wk.jq 58 3) ?_;refine GW.wk (Wk.jq 62 5) ?_;simp only [cK,cons_append,nil_append];refine GW.ret ?_;refine hQ _ _ ?_;exact Ml [] F _ hr (.inr rfl) hg (by rw [ff hi];exact bG) rfl rfl fu rfl (fun x h=>by cases h) PQ (SX c)
end Go.Xg
namespace Go.Im
open Go.Xp Go.Sp
end Go.Im
namespace Go.Xg
open Go.RowKit Go.Xw Go.Proofs
open Go.Xp (Nd T Ar aQ aB bO iN)
open Go.Sp (Src bt)
open Go.Im
attribute [local irreducible] GW GL GO YG GC GA be bd
end Go.Xg
namespace Go.Im
open Go.Xp Go.Sp
section
variable {α:Type} (w:α->Nat) (mk:Nat->α->α)
def bI (l:List α):Nat:=(l.map w).sum
def dW:Nat->List α->List α
 | _,[]=>[]
 | k,x::l=>mk k x::dW (k+w x) l
def eM (k:Nat) (l:List α) (i:Nat):List α:=dW w mk k (l.take i)++l.drop i
variable {w mk}
theorem qk {l:List α} {i:Nat} {x:α} (h:l[i]?=some x):bI w (l.take (i+1))=bI w (l.take i)+w x:=by
 rw [cm,h];simp [bI]
theorem tJ (l:List α) (i:Nat):bI w (l.take i)<=bI w l:=by
 have h:=congrArg (bI w) (List.take_append_drop i l);unfold bI at *;rw [iL,List.sum_append] at h;omega
theorem dR:∀ (k:Nat) (l:List α),(dW w mk k l).length=l.length
 | _,[]=>rfl
 | k,x::l=>by simp [dW,dR (k+w x) l]
theorem Ge:∀ (k:Nat) (a:List α) (x:α),dW w mk k (a++[x])=dW w mk k a++[mk (k+bI w a) x]
 | k,[],x=>by simp [dW,bI]
 | k,y::a,x=>by
  have:=Ge (k+w y) a x;rw [cons_append,dW,this,dW];simp [bI,fP]
theorem wc:∀ {l:List α} (k:Nat) {i:Nat} {x:α},l[i]?=some x->(dW w mk k l)[i]?=some (mk (k+bI w (l.take i)) x)
 | [],k,i,x,h=>by simp at h
 | y::l,k,0,x,h=>by cases h;simp [dW,bI]
 | y::l,k,i+1,x,h=>by
  have:=wc (l:=l) (k+w y) (i:=i) (x:=x) (by simpa using h);rw [dW,getElem?_cons_succ,this,List.take_succ_cons];simp [bI,fP]
theorem AY (k:Nat) (l:List α) (i:Nat):(eM w mk k l i).length=l.length:=by simp [eM,dR];omega
theorem yO (k:Nat) (l:List α):eM w mk k l 0=l:=by simp [eM,dW]
theorem AX (k:Nat) (l:List α):eM w mk k l l.length=dW w mk k l:=by simp [eM]
theorem wb {l:List α} {k i:Nat} {x:α} (h:l[i]?=some x):(eM w mk k l i)[i]?=some x:=by
 have hi:=(bp h).1
 have hl:(dW w mk k (l.take i)).length=i:=by rw [dR,cS];omega
 unfold eM;rw [eE (by omega),hl,iJ,List.getElem?_drop];exact h
theorem AZ {l:List α} {k i:Nat} {x:α} (h:l[i]?=some x):(eM w mk k l i).set i (mk (k+bI w (l.take i)) x)=eM w mk k l (i+1):=by
 have hi:=(bp h).1
 have hl:(dW w mk k (l.take i)).length=i:=by rw [dR,cS];omega
 unfold eM;rw [set_append_right _ _ (by omega),hl,iJ,kW hi,set_cons_zero,cm,h];rw [show (some x).toList=[x] from rfl,Ge,cK];rfl
end
def yP (k n:Nat):List ae:=(List.range n).map fun i=>mC (k+i)
theorem I9 (k n:Nat):(yP k n).length=n:=by simp [yP]
def Gd (k n:Nat):List Int:=(List.range n).map fun i=>((k+i:Nat):Int)
theorem Sw (k n:Nat):(Gd k n).length=n:=by simp [Gd]
def wA (_:Ar):Nat:=2
def wF (f:Go.Sp.Fn):Nat:=2+f.params.length
def wN (n:Nd):Nat:=4+n.kids.length
def nT (k:Nat) (_:Ar):Ar:=⟨mC k,((k+1:Nat):Int)⟩
def iC (k:Nat) (f:Go.Sp.Fn):Go.Sp.Fn:=⟨mC k,yP (k+1) f.params.length,((k+1+f.params.length:Nat):Int)⟩
def iX (k:Nat) (n:Nd):Nd:=⟨(k:Nat),((k+1:Nat):Int),((k+1+1:Nat):Int),mC (k+1+1+1),Gd (k+1+1+1+1) n.kids.length⟩
def lM (k:Nat) (p:Src):Src:=⟨yP k p.globals.length,dW wA nT (k+p.globals.length) p.arrays,dW wF iC (k+p.globals.length+bI wA p.arrays) p.fns,dW wN iX (k+p.globals.length+bI wA p.arrays+bI wF p.fns) p.nodes⟩
def nV (p:Src):Nat:=p.globals.length+bI wA p.arrays+bI wF p.fns+bI wN p.nodes
end Go.Im
namespace Go.Xg
open GV (U)
open Go.RowKit Go.Xw Go.Proofs Tryz
open Go.Xp (Nd Ar)
open Go.Sp (Src)
open Go.Im
attribute [local irreducible] GW GL GO YG GC GA be bd
theorem xl (k n:Nat):marks k n=bA (yP k n):=by unfold marks yP bA;rw [map_map];rfl
theorem BZ (k n:Nat):iz k n=l6 (Gd k n):=by unfold iz Gd l6;rw [map_map];rfl
theorem oz {rows:List (List GV)} {i o:Nat} {g:GV} {r:List GV} (h:rows[i]?=some r):ek rows i o g=rows.set i (bo r o g):=by
 refine ext_getElem? fun j=>?_
 rw [zA h,dB]
 by_cases e:j=i
 ·subst e;have:=(bp h).1;rw [ab rfl,ab rfl,ab this]
 ·rw [M e,M (fun h=>e h.symm)]
theorem wK {α γ:Type} {f:α->Value->γ}:∀ {l:List α} {hs:List Value} {i:Nat} {y:α} {h:Value},hs[i]?=some h->(List.zipWith f l hs).set i (f y h)=List.zipWith f (l.set i y) hs
 | [],hs,i,y,h,L=>by simp
 | x::l,[],i,y,h,L=>by simp at L
 | x::l,v::hs,0,y,h,L=>by cases L;rfl
 | x::l,v::hs,i+1,y,h,L=>by
  rw [List.zipWith_cons_cons,List.set_cons_succ,List.set_cons_succ,List.zipWith_cons_cons,wK (by simpa using L)]
theorem Gb (l:List Ar) (a:Option Addr) (c k:Nat) (hl:l.length<=1099511627776) (hb:k+bI wA l<=1099511627776) :
  GF prog 51 [.v (.slice a l.length c),.v (ii (k:Nat))] [.vech 56 2 (l.map az) (.slice a l.length c)] (.v (ii ((k+bI wA l:Nat):Int))) [.vech 56 2 ((dW wA nT k l).map az) (.slice a l.length c)]:=by
 refine ah func51 ntmps51 ?_;refine GW.loop (fun i:Nat=>l.length - i) (fun i fr F=>∃ kk:Nat,kk=k+bI wA (l.take i)/\fr=[.v (.slice a l.length c),.v (ii (kk:Nat)),U,U,U,.v (ii (i:Nat)),U,U,U,U,U,U,U,U,U,U,U,U,U,U,U,U,U,U,U,U,U,U]/\F=[.vech 56 2 ((eM wA nT k l i).map az) (.slice a l.length c)]/\i<=l.length) 0 ?_ ?_
 ·exact ⟨_,_,Wk.aE ao,k,by simp [bI],rfl,by rw [yO],aM _⟩
 rintro i _ _ ⟨kk,gL,rfl,rfl,hi⟩
 by_cases ak:i < l.length
 ·have hd:decide ((i:Int) < (l.length:Int))=true:=by simpa using ak
  obtain ⟨f,hf⟩:∃ f,l[i]?=some f:=⟨l[i],by simp [ak]⟩;have MO:=qk (w:=wA) hf;have hle:=tJ (w:=wA) l (i+1);have MP:wA f=2:=rfl;have bY:=AZ (w:=wA) (mk:=nT) (k:=k) hf;rw [<-gL] at bY;have hc:=lL kk G
  have hr:((eM wA nT k l i).map az)[i]?=some [.v (sv f.name),.v (ii f.size)]:=by rw [aV,wb hf];rfl
  have ef:((eM wA nT k l i).map az).length=l.length:=by rw [bP,AY]
  have Mu:((eM wA nT k l i).map az).set i [.v (sv (mC kk)),.v (ii ((kk+1:Nat):Int))]=(eM wA nT k l (i+1)).map az:=by rw [<-bY,List.map_set];rfl
  generalize (eM wA nT k l i).map az=R at *;generalize mC kk=x at *;have jg:=qg (o:=0) (g:=.v (sv x)) hr;simp only [bo] at jg
  have fR:(ek R i (0+0) (.v (sv x))).length=l.length:=by rw [iD];exact ef
  refine D ?_;refine V [] hc ?_;refine nL ?_;refine D ?_;refine nL ?_;refine D ?_;refine ⟨i+1,⟨_,_,Wk.aE ao,kk+1+1,by omega,rfl,?_,ak⟩,by show l.length - (i+1) < l.length - i;omega⟩;rw [<-Mu,oz (o:=0+1) jg,oz hr,set_set];rfl
 ·have hd:decide ((i:Int) < (l.length:Int))=false:=by simpa using ak
  have fi:i=l.length:=by omega
  subst fi;rw [AX];rw [b7] at gL;subst gL;refine cl ?_;exact ay
theorem Fx (l:List Ar) (k:Nat) (hl:l.length<=1099511627776) (hb:k+bI wA l<=1099511627776) :
  GF prog 55 [.sl 2 ((dW wA nT k l).map az),.v (ii (k:Nat))] [] (.v (ii ((k+bI wA l:Nat):Int))) []:=by
 have hm:((dW wA nT k l).map az).length=l.length:=by rw [bP,dR]
 refine ah func55 ntmps55 ?_;refine GW.loop (fun i:Nat=>l.length - i) (fun i fr F=>∃ kk:Nat,kk=k+bI wA (l.take i)/\fr=[.sl 2 ((dW wA nT k l).map az),.v (ii (kk:Nat)),U,U,U,.v (ii (i:Nat)),U,U,U,U,U,U,U,U,U,U,U,U,U,U,U,U,U,U,U,U,U,U,U,U,U,U]/\F=[]/\i<=l.length) 0 ?_ ?_
 ·exact ⟨_,_,Wk.aE ao,k,by simp [bI],rfl,rfl,aM _⟩
 rintro i _ _ ⟨kk,gL,rfl,rfl,hi⟩
 by_cases ak:i < l.length
 ·have hd:decide ((i:Int) < (((dW wA nT k l).map az).length:Int))=true:=by rw [hm];simpa using ak
  obtain ⟨f,hf⟩:∃ f,l[i]?=some f:=⟨l[i],by simp [ak]⟩;have MO:=qk (w:=wA) hf;have hle:=tJ (w:=wA) l (i+1);have MP:wA f=2:=rfl
  have hr:((dW wA nT k l).map az)[i]?=some [.v (sv (mC kk)),.v (ii ((kk+1:Nat):Int))]:=by rw [aV,wc k hf,<-gL];rfl
  have hc:=lL kk G;generalize mC kk=x at *;generalize (dW wA nT k l).map az=S at *
  have hs:(!(x==x))=false:=by simp
  have jR:(((kk+1:Nat):Int) != ((kk+1:Nat):Int))=false:=by simp
  refine D ?_;refine aK (aC 0 6 (.a 6 (.q 7 .nil))) ?_;refine aj ?_;refine aI [] hc ?_;refine D ?_;exact ⟨i+1,⟨_,_,Wk.aE ao,kk+1+1,by omega,rfl,rfl,ak⟩,by show l.length - (i+1) < l.length - i;omega⟩
 ·have hd:decide ((i:Int) < (((dW wA nT k l).map az).length:Int))=false:=by rw [hm];simpa using ak
  have fi:i=l.length:=by omega
  subst fi;rw [b7] at gL;subst gL;refine cl ?_;exact ay
theorem Nl (l:List Go.Sp.Fn) (fs:List Value) (iq:fs.length=l.length) (QT:∀ (i:Nat) x y,l[i]?=some x->fs[i]?=some y->Hd x.params.length y) (a:Option Addr) (c k:Nat) (hl:l.length<=1099511627776) (hb:k+bI wF l<=1099511627776) :
  GC prog 52 [.v (.slice a l.length c),.v (ii (k:Nat))] (.vech 58 3 (List.zipWith fL l fs) (.slice a l.length c)::List.zipWith fK l fs) fun g Δ=>g=.v (ii ((k+bI wF l:Nat):Int))/\Δ=.vech 58 3 (List.zipWith fL (dW wF iC k l) fs) (.slice a l.length c)::List.zipWith fK (dW wF iC k l) fs:=by
 have Uv:(Ob.vech 58 3 (List.zipWith fL l fs) (.slice a l.length c)::List.zipWith fK l fs).length=l.length+1:=by simp [iq]
 refine cY func52 ntmps52 ?_;rw [Uv];refine D ?_;refine GW.loop (fun i:Nat=>l.length - i) (fun i fr F=>∃ kk:Nat,kk=k+bI wF (l.take i)/\fr=[.v (.slice a l.length c),.v (ii (kk:Nat)),U,U,U,.v (ii (i:Nat)),U,U,U,U,U,U,U,U,U,U,U,U,U,U,U,U,U,U,U,U,U,U,U,U,U,U,U,U,U]/\F=.vech 58 3 (List.zipWith fL (eM wF iC k l i) fs) (.slice a l.length c)::List.zipWith fK (eM wF iC k l i) fs/\i<=l.length) 0 ?_ ?_
 ·exact ⟨_,_,Wk.aE ao,k,by simp [bI],rfl,by rw [yO],aM _⟩
 rintro i _ _ ⟨kk,gL,rfl,rfl,hi⟩
 by_cases ak:i < l.length
 ·have hd:decide ((i:Int) < (l.length:Int))=true:=by simpa using ak
  obtain ⟨f,hf⟩:∃ f,l[i]?=some f:=⟨l[i],by simp [ak]⟩;have nC:fs[i]?=some (fs[i]'G):=fM _;obtain ⟨a1,c1,e1⟩:=QT i _ _ hf nC;generalize fs[i]'G=y at *;subst e1;have MO:=qk (w:=wF) hf;have hle:=tJ (w:=wF) l (i+1);have MP:wF f=2+f.params.length:=rfl;have bY:=AZ (w:=wF) (mk:=iC) (k:=k) hf;rw [<-gL] at bY;have hc:=lL kk G;have fT:=xM a1 c1 f.params.length (kk+1) (bA f.params) (fw _) G;rw [xl] at fT;have Ms:=AY (w:=wF) (mk:=iC) k l i;have hr:(List.zipWith fL (eM wF iC k l i) fs)[i]?=some [.v (sv f.name),.v (.slice a1 f.params.length c1),.v (ii f.body)]:=sK (wb hf) nC;have hk:(List.zipWith fK (eM wF iC k l i) fs)[i]?=some (.vech 9 1 (bA f.params) (.slice a1 f.params.length c1)):=sK (wb hf) nC
  have ef:(List.zipWith fL (eM wF iC k l i) fs).length=l.length:=by rw [lR];omega
  have TZ:(List.zipWith fK (eM wF iC k l i) fs).length=l.length:=by rw [lR];omega
  have Mu:(List.zipWith fL (eM wF iC k l i) fs).set i [.v (sv (mC kk)),.v (.slice a1 f.params.length c1),.v (ii ((kk+1+f.params.length:Nat):Int))]=List.zipWith fL (eM wF iC k l (i+1)) fs:=by rw [<-bY,<-wK nC];rfl
  have T0:oset (List.zipWith fK (eM wF iC k l i) fs) i (.vech 9 1 (bA (yP (kk+1) f.params.length)) (.slice a1 f.params.length c1))=List.zipWith fK (eM wF iC k l (i+1)) fs:=by rw [bf,<-bY,<-wK nC];rfl
  generalize List.zipWith fL (eM wF iC k l i) fs=R at *;generalize List.zipWith fK (eM wF iC k l i) fs=O at *;generalize mC kk=x at *;have jg:=qg (o:=0) (g:=.v (sv x)) hr;simp only [bo] at jg
  have fR:(ek R i (0+0) (.v (sv x))).length=l.length:=by rw [iD];exact ef
  refine D ?_;refine hY [] hc ?_;simp only [cq];refine D ?_;refine nL ?_;refine D ?_;refine GL.JY [i+1] fT (kU) (by simp [iZ,TZ,ak]) ⟨hk,trivial⟩ rfl ?_;refine cE ?_;rw [cq];refine D ?_;refine nL ?_;refine D ?_;refine ⟨i+1,⟨_,_,Wk.aE ao,kk+1+f.params.length+1,by omega,rfl,?_,ak⟩,by show l.length - (i+1) < l.length - i;omega⟩;rw [<-Mu,<-T0,oz (o:=0+2) jg,oz hr,set_set];rfl
 ·have hd:decide ((i:Int) < (l.length:Int))=false:=by simpa using ak
  have fi:i=l.length:=by omega
  subst fi;rw [AX];rw [b7] at gL;subst gL;refine cl ?_;refine D ?_;refine nW ?_;refine Ka rfl dF rfl (by simp [dR,iq]) ?_ ⟨rfl,rfl⟩;intro x hx
  rcases dA hx with rfl | hx
  ·rfl
  ·exact ki (fun _ _=>rfl) x hx
theorem MB (l:List Go.Sp.Fn) (k:Nat) (hl:l.length<=1099511627776) (hb:k+bI wF l<=1099511627776) :
  GF prog 56 [.sl 3 ((dW wF iC k l).map au),.v (ii (k:Nat))] [] (.v (ii ((k+bI wF l:Nat):Int))) []:=by
 have hm:((dW wF iC k l).map au).length=l.length:=by rw [bP,dR]
 refine ah func56 ntmps56 ?_;refine GW.loop (fun i:Nat=>l.length - i) (fun i fr F=>∃ kk:Nat,kk=k+bI wF (l.take i)/\fr=[.sl 3 ((dW wF iC k l).map au),.v (ii (kk:Nat)),U,U,U,.v (ii (i:Nat)),U,U,U,U,U,U,U,U,U,U,U,U,U,U,U,U,U,U,U,U,U,U,U,U,U,U,U,U,U,U,U,U,U,U,U]/\F=[]/\i<=l.length) 0 ?_ ?_
 ·exact ⟨_,_,Wk.aE ao,k,by simp [bI],rfl,rfl,aM _⟩
 rintro i _ _ ⟨kk,gL,rfl,rfl,hi⟩
 by_cases ak:i < l.length
 ·have hd:decide ((i:Int) < (((dW wF iC k l).map au).length:Int))=true:=by rw [hm];simpa using ak
  obtain ⟨f,hf⟩:∃ f,l[i]?=some f:=⟨l[i],by simp [ak]⟩;have MO:=qk (w:=wF) hf;have hle:=tJ (w:=wF) l (i+1);have MP:wF f=2+f.params.length:=rfl
  have hr:((dW wF iC k l).map au)[i]?=some [.v (sv (mC kk)),.sl 1 (marks (kk+1) f.params.length),.v (ii ((kk+1+f.params.length:Nat):Int))]:=by rw [aV,wc k hf,<-gL,xl];rfl
  have hc:=lL kk G;have hH:=xH (kk+1) f.params.length G;generalize mC kk=x at *;generalize (dW wF iC k l).map au=S at *;generalize marks (kk+1) f.params.length=S2 at *
  have hs:(!(x==x))=false:=by simp
  have dH:decide (((kk+1+f.params.length:Nat):Int) < 0)=false:=decide_eq_false G
  have jR:(((kk+1+f.params.length:Nat):Int) != ((kk+1+f.params.length:Nat):Int))=false:=by simp
  refine D ?_;refine aK (aC 0 6 (.a 6 (.q 7 .nil))) ?_;refine aj ?_;refine aI [] hc ?_;refine D ?_;refine V [] hH ?_;exact ⟨i+1,⟨_,_,Wk.aE ao,kk+1+f.params.length+1,by omega,rfl,rfl,ak⟩,by show l.length - (i+1) < l.length - i;omega⟩
 ·have hd:decide ((i:Int) < (((dW wF iC k l).map au).length:Int))=false:=by rw [hm];simpa using ak
  have fi:i=l.length:=by omega
  subst fi;rw [b7] at gL;subst gL;refine cl ?_;exact ay
theorem HJ (l:List Nd) (fs:List Value) (iq:fs.length=l.length) (QT:∀ (i:Nat) x y,l[i]?=some x->fs[i]?=some y->Hd x.kids.length y) (a:Option Addr) (c k:Nat) (hl:l.length<=1099511627776) (hb:k+bI wN l<=1099511627776) :
  GC prog 53 [.v (.slice a l.length c),.v (ii (k:Nat))] (.vech 62 5 (List.zipWith cR l fs) (.slice a l.length c)::List.zipWith dd l fs) fun g Δ=>g=.v (ii ((k+bI wN l:Nat):Int))/\Δ=.vech 62 5 (List.zipWith cR (dW wN iX k l) fs) (.slice a l.length c)::List.zipWith dd (dW wN iX k l) fs:=by
 have Uv:(Ob.vech 62 5 (List.zipWith cR l fs) (.slice a l.length c)::List.zipWith dd l fs).length=l.length+1:=by simp [iq]
 refine cY func53 ntmps53 ?_;rw [Uv];refine D ?_;refine GW.loop (fun i:Nat=>l.length - i) (fun i fr F=>∃ kk:Nat,kk=k+bI wN (l.take i)/\fr=[.v (.slice a l.length c),.v (ii (kk:Nat)),U,U,U,.v (ii (i:Nat)),U,U,U,U,U,U,U,U,U,U,U,U,U,U,U,U,U,U,U,U,U,U,U,U,U,U,U,U,U,U,U,U,U,U,U,U,U,U,U,U,U,U,U]/\F=.vech 62 5 (List.zipWith cR (eM wN iX k l i) fs) (.slice a l.length c)::List.zipWith dd (eM wN iX k l i) fs/\i<=l.length) 0 ?_ ?_
 ·exact ⟨_,_,Wk.aE ao,k,by simp [bI],rfl,by rw [yO],aM _⟩
 rintro i _ _ ⟨kk,gL,rfl,rfl,hi⟩
 by_cases ak:i < l.length
 ·have hd:decide ((i:Int) < (l.length:Int))=true:=by simpa using ak
  obtain ⟨f,hf⟩:∃ f,l[i]?=some f:=⟨l[i],by simp [ak]⟩;have nC:fs[i]?=some (fs[i]'G):=fM _;obtain ⟨a1,c1,e1⟩:=QT i _ _ hf nC;generalize fs[i]'G=y at *;subst e1;have MO:=qk (w:=wN) hf;have hle:=tJ (w:=wN) l (i+1);have MP:wN f=4+f.kids.length:=rfl;have bY:=AZ (w:=wN) (mk:=iX) (k:=k) hf;rw [<-gL] at bY;have hc:=lL (kk+1+1+1) G;have fT:=KL a1 c1 f.kids.length (kk+1+1+1+1) (l6 f.kids) (Po _) G;rw [BZ] at fT;have Ms:=AY (w:=wN) (mk:=iX) k l i;have hr:(List.zipWith cR (eM wN iX k l i) fs)[i]?=some [.v (ii f.kind),.v (ii f.at_),.v (ii f.n),.v (sv f.s),.v (.slice a1 f.kids.length c1)]:=sK (wb hf) nC;have hk:(List.zipWith dd (eM wN iX k l i) fs)[i]?=some (.vech 3 1 (l6 f.kids) (.slice a1 f.kids.length c1)):=sK (wb hf) nC
  have ef:(List.zipWith cR (eM wN iX k l i) fs).length=l.length:=by rw [lR];omega
  have TZ:(List.zipWith dd (eM wN iX k l i) fs).length=l.length:=by rw [lR];omega
  have Mu:(List.zipWith cR (eM wN iX k l i) fs).set i [.v (ii (kk:Nat)),.v (ii ((kk+1:Nat):Int)),.v (ii ((kk+1+1:Nat):Int)),.v (sv (mC (kk+1+1+1))),.v (.slice a1 f.kids.length c1)]=List.zipWith cR (eM wN iX k l (i+1)) fs:=by rw [<-bY,<-wK nC];rfl
  have T0:oset (List.zipWith dd (eM wN iX k l i) fs) i (.vech 3 1 (l6 (Gd (kk+1+1+1+1) f.kids.length)) (.slice a1 f.kids.length c1))=List.zipWith dd (eM wN iX k l (i+1)) fs:=by rw [bf,<-bY,<-wK nC];rfl
  generalize List.zipWith cR (eM wN iX k l i) fs=R at *;generalize List.zipWith dd (eM wN iX k l i) fs=O at *;generalize mC (kk+1+1+1)=x at *;have jg:=qg (o:=0) (g:=.v (ii (kk:Nat))) hr;simp only [bo] at jg;have ea:=qg (o:=1) (g:=.v (ii ((kk+1:Nat):Int))) jg;simp only [bo] at ea;have Q3:=qg (o:=2) (g:=.v (ii ((kk+1+1:Nat):Int))) ea;simp only [bo] at Q3;have hr4:=qg (o:=3) (g:=.v (sv x)) Q3;simp only [bo] at hr4
  have fR:(ek R i (0+0) (.v (ii (kk:Nat)))).length=l.length:=by rw [iD];exact ef
  have jc:(ek (ek R i (0+0) (.v (ii (kk:Nat)))) i (0+1) (.v (ii ((kk+1:Nat):Int)))).length=l.length:=by rw [iD];exact fR
  have Ur:(ek (ek (ek R i (0+0) (.v (ii (kk:Nat)))) i (0+1) (.v (ii ((kk+1:Nat):Int)))) i (0+2) (.v (ii ((kk+1+1:Nat):Int)))).length=l.length:=by rw [iD];exact jc
  have hl4:(ek (ek (ek (ek R i (0+0) (.v (ii (kk:Nat)))) i (0+1) (.v (ii ((kk+1:Nat):Int)))) i (0+2) (.v (ii ((kk+1+1:Nat):Int)))) i (0+3) (.v (sv x))).length=l.length:=by rw [iD];exact Ur
  refine D ?_;refine nL ?_;refine D ?_;refine nL ?_;refine D ?_;refine nL ?_;refine D ?_;refine hY [] hc ?_;simp only [cq];refine D ?_;refine nL ?_;refine D ?_;refine GL.JY [i+1] fT (kU) (by simp [iZ,TZ,ak]) ⟨hk,trivial⟩ rfl ?_;refine cE ?_;rw [cq];refine D ?_;refine ⟨i+1,⟨_,_,Wk.aE ao,kk+1+1+1+1+f.kids.length,by omega,rfl,?_,ak⟩,by show l.length - (i+1) < l.length - i;omega⟩;rw [<-Mu,<-T0,oz (o:=0+3) Q3,oz (o:=0+2) ea,oz (o:=0+1) jg,oz hr];simp only [set_set];rfl
 ·have hd:decide ((i:Int) < (l.length:Int))=false:=by simpa using ak
  have fi:i=l.length:=by omega
  subst fi;rw [AX];rw [b7] at gL;subst gL;refine cl ?_;refine D ?_;refine nW ?_;refine Ka rfl dF rfl (by simp [dR,iq]) ?_ ⟨rfl,rfl⟩;intro x hx
  rcases dA hx with rfl | hx
  ·rfl
  ·exact ki (fun _ _=>rfl) x hx
theorem Hx (l:List Nd) (k:Nat) (hl:l.length<=1099511627776) (hb:k+bI wN l<=1099511627776) :
  GF prog 57 [.sl 5 ((dW wN iX k l).map aw),.v (ii (k:Nat))] [] (.v (ii ((k+bI wN l:Nat):Int))) []:=by
 have hm:((dW wN iX k l).map aw).length=l.length:=by rw [bP,dR]
 refine ah func57 ntmps57 ?_;refine GW.loop (fun i:Nat=>l.length - i) (fun i fr F=>∃ kk:Nat,kk=k+bI wN (l.take i)/\fr=[.sl 5 ((dW wN iX k l).map aw),.v (ii (kk:Nat)),U,U,U,.v (ii (i:Nat)),U,U,U,U,U,U,U,U,U,U,U,U,U,U,U,U,U,U,U,U,U,U,U,U,U,U,U,U,U,U,U,U,U,U,U,U,U,U,U,U,U,U,U,U,U,U,U,U,U,U,U,U,U]/\F=[]/\i<=l.length) 0 ?_ ?_
 ·exact ⟨_,_,Wk.aE ao,k,by simp [bI],rfl,rfl,aM _⟩
 rintro i _ _ ⟨kk,gL,rfl,rfl,hi⟩
 by_cases ak:i < l.length
 ·have hd:decide ((i:Int) < (((dW wN iX k l).map aw).length:Int))=true:=by rw [hm];simpa using ak
  obtain ⟨f,hf⟩:∃ f,l[i]?=some f:=⟨l[i],by simp [ak]⟩;have MO:=qk (w:=wN) hf;have hle:=tJ (w:=wN) l (i+1);have MP:wN f=4+f.kids.length:=rfl
  have hr:((dW wN iX k l).map aw)[i]?=some [.v (ii (kk:Nat)),.v (ii ((kk+1:Nat):Int)),.v (ii ((kk+1+1:Nat):Int)),.v (sv (mC (kk+1+1+1))),.sl 1 (iz (kk+1+1+1+1) f.kids.length)]:=by rw [aV,wc k hf,<-gL,BZ];rfl
  have hc:=lL (kk+1+1+1) G;have hH:=Kf (kk+1+1+1+1) f.kids.length G;generalize mC (kk+1+1+1)=x at *;generalize (dW wN iX k l).map aw=S at *;generalize iz (kk+1+1+1+1) f.kids.length=S2 at *
  have hs:(!(x==x))=false:=by simp
  have iy:(((kk:Nat):Int) != ((kk:Nat):Int))=false:=by simp
  have jR:(((kk+1:Nat):Int) != ((kk+1:Nat):Int))=false:=by simp
  have sZ:(((kk+1+1:Nat):Int) != ((kk+1+1:Nat):Int))=false:=by simp
  have dH:decide (((kk+1+1+1+1+f.kids.length:Nat):Int) < 0)=false:=decide_eq_false G;refine D ?_;refine aK (aC 0 6 (.a 6 (.q 7 .nil))) ?_;refine aj ?_;refine aI [] hc ?_;refine D ?_;refine V [] hH ?_;exact ⟨i+1,⟨_,_,Wk.aE ao,kk+1+1+1+1+f.kids.length,by omega,rfl,rfl,ak⟩,by show l.length - (i+1) < l.length - i;omega⟩
 ·have hd:decide ((i:Int) < (((dW wN iX k l).map aw).length:Int))=false:=by rw [hm];simpa using ak
  have fi:i=l.length:=by omega
  subst fi;rw [b7] at gL;subst gL;refine cl ?_;exact ay
end Go.Xg
