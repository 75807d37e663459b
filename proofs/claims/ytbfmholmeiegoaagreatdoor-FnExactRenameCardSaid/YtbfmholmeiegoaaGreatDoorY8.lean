/- Part 8 of proofs that are told in their last texts. -/
import Derived.Test.YtbfmholmeiegoaaGreatDoorY7
import Derived.Test.YtbfmholmeiegoaaGreatDoorY2
import Derived.Test.YtbfmholmeiegoaaGreatDoorY6
import Derived.Test.YtbfmholmeiegoaaGreatDoorY3
import Derived.Test.YtbfmholmeiegoaaGreatDoorY5
open List (any_append any_eq_false cons_append drop_zero ext_getElem? findIdx?_eq_some_iff_getElem getElem?_cons_succ getElem?_eq_none length_nil map_take nil_append range'_succ range_succ take_zero)
set_option linter.unusedVariables false
set_option linter.unusedSimpArgs false
set_option maxRecDepth 100000
set_option maxHeartbeats 1000000
namespace Go.Xg
open GV (U)
open Go.RowKit Go.Xw Go.Proofs Tryz
open Go.Xp (Tok Nd T aK aB)
open Go.Sp (Src)
open Go.Im (qn rO tr kB dJ iT wj)
attribute [local irreducible] GW GL GO YG GC GA be bg
theorem RM:∀ (N:Nat) (t:T),aK t<=N->aK t<=1099511627776->GF prog 112 [uT t] [] (.v (.bool (iT t))) []:=by
 intro N
 induction N with
 | zero=>intro t h;rw [Go.Xp.fA] at h;omega
 | succ N ih =>
 intro t hN hb;rw [Go.Xp.fA] at hN hb;have fH:=Go.Xp.c6 t.kids;have qO:=sI t.kids;rw [Go.Im.zG,Go.Im.u5];unfold uT;generalize t.n.kind=kd;refine cL func112 ntmps112 ?_;refine ED ?_;refine GW.join (fun fr Γ=>fr=[.box [.v (ii kd),.v (ii t.n.at_),.v (ii t.n.n),.v (sv t.n.s),ints t.n.kids,.sl 1 (cQ t.kids)] 0,U,U,U,.v (.bool (dJ kd t.kids.length)),U,U,U,U,U,U,U,U,U,U,U,U,U,U,U,U,U,U,U,U,U,U,U,U,U,U,U,U,U,U,U,U,U,U,U,U,U,U,U,U,U,U,U,U,U,U,U,U,U,U,U,U,U,U,U,U,U,U,U]/\Γ=[]) ?_ ?_
 ·rw [<-qO];generalize (cQ t.kids)=l
  by_cases F:kd=1
  ·subst F
   have cy:((1:Int)==1)=true:=by decide
   rw [show dJ 1 l.length=((l.length:Int)==0) by unfold dJ;simp];exact fE
  by_cases I:kd=2
  ·subst I
   have cy:((2:Int)==1)=false:=by decide
   have kC:((2:Int)==2)=true:=by decide
   rw [show dJ 2 l.length=((l.length:Int)==0) by unfold dJ;simp];exact fE
  by_cases h4:kd=4
  ·subst h4
   have cy:((4:Int)==1)=false:=by decide
   have kC:((4:Int)==2)=false:=by decide
   have f4:((4:Int)==4)=true:=by decide
   rw [show dJ 4 l.length=true by unfold dJ;simp];exact fE
  by_cases CK:kd=14
  ·subst CK
   have cy:((14:Int)==1)=false:=by decide
   have kC:((14:Int)==2)=false:=by decide
   have f4:((14:Int)==4)=false:=by decide
   have f14:((14:Int)==14)=true:=by decide
   rw [show dJ 14 l.length=true by unfold dJ;simp];exact fE
  by_cases h3:kd=3
  ·subst h3
   have cy:((3:Int)==1)=false:=by decide
   have kC:((3:Int)==2)=false:=by decide
   have f4:((3:Int)==4)=false:=by decide
   have f14:((3:Int)==14)=false:=by decide
   have qC:((3:Int)==3)=true:=by decide
   rw [show dJ 3 l.length=((l.length:Int)==1) by unfold dJ;simp];exact fE
  by_cases h5:kd=5
  ·subst h5
   have cy:((5:Int)==1)=false:=by decide
   have kC:((5:Int)==2)=false:=by decide
   have f4:((5:Int)==4)=false:=by decide
   have f14:((5:Int)==14)=false:=by decide
   have qC:((5:Int)==3)=false:=by decide
   have f5:((5:Int)==5)=true:=by decide
   rw [show dJ 5 l.length=((l.length:Int)==1) by unfold dJ;simp];exact fE
  by_cases h7:kd=7
  ·subst h7
   have cy:((7:Int)==1)=false:=by decide
   have kC:((7:Int)==2)=false:=by decide
   have f4:((7:Int)==4)=false:=by decide
   have f14:((7:Int)==14)=false:=by decide
   have qC:((7:Int)==3)=false:=by decide
   have f5:((7:Int)==5)=false:=by decide
   have f7:((7:Int)==7)=true:=by decide
   rw [show dJ 7 l.length=((l.length:Int)==1) by unfold dJ;simp];exact fE
  by_cases qd:kd=11
  ·subst qd
   have cy:((11:Int)==1)=false:=by decide
   have kC:((11:Int)==2)=false:=by decide
   have f4:((11:Int)==4)=false:=by decide
   have f14:((11:Int)==14)=false:=by decide
   have qC:((11:Int)==3)=false:=by decide
   have f5:((11:Int)==5)=false:=by decide
   have f7:((11:Int)==7)=false:=by decide
   have f11:((11:Int)==11)=true:=by decide
   rw [show dJ 11 l.length=((l.length:Int)==1) by unfold dJ;simp];exact fE
  by_cases pO:kd=12
  ·subst pO
   have cy:((12:Int)==1)=false:=by decide
   have kC:((12:Int)==2)=false:=by decide
   have f4:((12:Int)==4)=false:=by decide
   have f14:((12:Int)==14)=false:=by decide
   have qC:((12:Int)==3)=false:=by decide
   have f5:((12:Int)==5)=false:=by decide
   have f7:((12:Int)==7)=false:=by decide
   have f11:((12:Int)==11)=false:=by decide
   have f12:((12:Int)==12)=true:=by decide
   rw [show dJ 12 l.length=((l.length:Int)==1) by unfold dJ;simp];exact fE
  by_cases eW:kd=13
  ·subst eW
   have cy:((13:Int)==1)=false:=by decide
   have kC:((13:Int)==2)=false:=by decide
   have f4:((13:Int)==4)=false:=by decide
   have f14:((13:Int)==14)=false:=by decide
   have qC:((13:Int)==3)=false:=by decide
   have f5:((13:Int)==5)=false:=by decide
   have f7:((13:Int)==7)=false:=by decide
   have f11:((13:Int)==11)=false:=by decide
   have f12:((13:Int)==12)=false:=by decide
   have f13:((13:Int)==13)=true:=by decide
   rw [show dJ 13 l.length=((l.length:Int)==1) by unfold dJ;simp];exact fE
  by_cases h6:kd=6
  ·subst h6
   have cy:((6:Int)==1)=false:=by decide
   have kC:((6:Int)==2)=false:=by decide
   have f4:((6:Int)==4)=false:=by decide
   have f14:((6:Int)==14)=false:=by decide
   have qC:((6:Int)==3)=false:=by decide
   have f5:((6:Int)==5)=false:=by decide
   have f7:((6:Int)==7)=false:=by decide
   have f11:((6:Int)==11)=false:=by decide
   have f12:((6:Int)==12)=false:=by decide
   have f13:((6:Int)==13)=false:=by decide
   have f6:((6:Int)==6)=true:=by decide
   rw [show dJ 6 l.length=((l.length:Int)==2) by unfold dJ;simp];exact fE
  by_cases h8:kd=8
  ·subst h8
   have cy:((8:Int)==1)=false:=by decide
   have kC:((8:Int)==2)=false:=by decide
   have f4:((8:Int)==4)=false:=by decide
   have f14:((8:Int)==14)=false:=by decide
   have qC:((8:Int)==3)=false:=by decide
   have f5:((8:Int)==5)=false:=by decide
   have f7:((8:Int)==7)=false:=by decide
   have f11:((8:Int)==11)=false:=by decide
   have f12:((8:Int)==12)=false:=by decide
   have f13:((8:Int)==13)=false:=by decide
   have f6:((8:Int)==6)=false:=by decide
   have f8:((8:Int)==8)=true:=by decide
   rw [show dJ 8 l.length=((l.length:Int)==2) by unfold dJ;simp];exact fE
  by_cases mF:kd=10
  ·subst mF
   have cy:((10:Int)==1)=false:=by decide
   have kC:((10:Int)==2)=false:=by decide
   have f4:((10:Int)==4)=false:=by decide
   have f14:((10:Int)==14)=false:=by decide
   have qC:((10:Int)==3)=false:=by decide
   have f5:((10:Int)==5)=false:=by decide
   have f7:((10:Int)==7)=false:=by decide
   have f11:((10:Int)==11)=false:=by decide
   have f12:((10:Int)==12)=false:=by decide
   have f13:((10:Int)==13)=false:=by decide
   have f6:((10:Int)==6)=false:=by decide
   have f8:((10:Int)==8)=false:=by decide
   have f10:((10:Int)==10)=true:=by decide
   rw [show dJ 10 l.length=((l.length:Int)==2) by unfold dJ;simp];exact fE
  by_cases h9:kd=9
  ·subst h9
   have cy:((9:Int)==1)=false:=by decide
   have kC:((9:Int)==2)=false:=by decide
   have f4:((9:Int)==4)=false:=by decide
   have f14:((9:Int)==14)=false:=by decide
   have qC:((9:Int)==3)=false:=by decide
   have f5:((9:Int)==5)=false:=by decide
   have f7:((9:Int)==7)=false:=by decide
   have f11:((9:Int)==11)=false:=by decide
   have f12:((9:Int)==12)=false:=by decide
   have f13:((9:Int)==13)=false:=by decide
   have f6:((9:Int)==6)=false:=by decide
   have f8:((9:Int)==8)=false:=by decide
   have f10:((9:Int)==10)=false:=by decide
   have f9:((9:Int)==9)=true:=by decide
   cases hq:((l.length:Int)==2) with
   | true =>
    rw [show dJ 9 l.length=true by unfold dJ;simp [hq]];exact fE
   | false =>
    rw [show dJ 9 l.length=((l.length:Int)==3) by unfold dJ;simp [hq]];exact fE
  have e:dJ kd l.length=false:=by unfold dJ;simp [F,I,h4,CK,h3,h5,h7,qd,pO,eW,h6,h8,mF,h9]
  rw [e]
  have g1:(kd==1)=false:=by simpa using F
  have g2:(kd==2)=false:=by simpa using I
  have g4:(kd==4)=false:=by simpa using h4
  have g14:(kd==14)=false:=by simpa using CK
  have g3:(kd==3)=false:=by simpa using h3
  have g5:(kd==5)=false:=by simpa using h5
  have g7:(kd==7)=false:=by simpa using h7
  have g11:(kd==11)=false:=by simpa using qd
  have g12:(kd==12)=false:=by simpa using pO
  have g13:(kd==13)=false:=by simpa using eW
  have g6:(kd==6)=false:=by simpa using h6
  have g8:(kd==8)=false:=by simpa using h8
  have g10:(kd==10)=false:=by simpa using mF
  have g9:(kd==9)=false:=by simpa using h9
  exact fE
 ·rintro _ _ ⟨rfl,rfl⟩;generalize dJ kd t.kids.length=b0;refine D ?_;refine GW.range (cQ t.kids).length (fun k fr Γ=>fr=[U,U,U,U,.v (.bool (b0&&(t.kids.take k).all iT)),U,U,U,U,U,U,U,U,U,U,U,U,U,U,U,U,U,U,U,U,U,U,U,U,U,U,U,U,U,U,U,U,U,U,U,U,U,U,U,U,U,U,U,U,U,U,.sl 1 (cQ t.kids),.v (ii ((cQ t.kids).length:Int)),.v (ii (k:Nat)),U,U,U,U,U,U,U,U,U,U]/\Γ=[]) ?_ G ?_ ?_ ?_
  ·refine ⟨_,_,Wk.aH (cJ:=[U,U,U,U,.v (.bool b0),U,U,U,U,U,U,U,U,U,U,U,U,U,U,U,U,U,U,U,U,U,U,U,U,U,U,U,U,U,U,U,U,U,U,U,U,U,U,U,U,U,U,U,U,U,U,.sl 1 (cQ t.kids),.v (ii ((cQ t.kids).length:Int)),.v (ii (0:Nat)),U,U,U,U,U,U,U,U,U,U]) ar,?_,rfl⟩;rw [take_zero,List.all_nil,Bool.and_true]
  ·rintro k _ _ ⟨rfl,rfl⟩;exact dK
  ·rintro k _ _ ak ⟨rfl,rfl⟩;rw [qO] at ak;obtain ⟨kid,mZ⟩:∃ kid,t.kids[k]?=some kid:=⟨t.kids[k],by simp [ak]⟩;have hr:=xo mZ;have dr:=Go.Xp.td mZ;have hle:=Go.Xp.s9 t.kids (k+1);have zr:=ih kid G G
   have aY:(t.kids.take (k+1)).all iT=((t.kids.take k).all iT&&iT kid):=by rw [cq,mZ,List.all_append];simp
   rw [aY,<-Bool.and_assoc];generalize (b0&&(t.kids.take k).all iT)=b at *
   cases b with
   | true =>
    refine D ?_;refine V [] zr ?_;exact ⟨rfl,rfl,_,_,Wk.aH ar,rfl,rfl⟩
   | false =>
    refine D ?_;exact ⟨rfl,rfl,_,_,Wk.aH ar,rfl,rfl⟩
  ·rintro _ _ ⟨rfl,rfl⟩;rw [qO,bW];exact ay
def ym (l:List T):Int:=match l.findIdx? (fun t=>!(iT t)) with | some i=>(i:Int) | none => -1
theorem Po (t:T) (hb:aK t<=1099511627776):GF prog 111 [uT t] [] (.v (.bool (!(iT t)))) []:=by
 have h:=RM _ t (aE _) hb;generalize iT t=b at *;refine ah func111 ntmps111 ?_;refine V [] h ?_;exact aj
theorem I6 (l:List T) (hl:l.length<=1099511627776) (hb:∀ t∈l,aK t<=1099511627776) :
  GF prog 156 [.sl 1 (cQ l),.v (.func (.func 111) #[] #[])] [] (.v (ii (ym l))) []:=by
 have qO:=sI l;refine ah func156 ntmps156 ?_;refine GW.range (cQ l).length (fun k fr Γ=>fr=[.sl 1 (cQ l),.v (.func (.func 111) #[] #[]),U,U,U,U,U,.v (ii ((cQ l).length:Int)),.v (ii (k:Nat)),U,U,U,U,U,U,U,U,U,U]/\Γ=[]/\(l.take k).all iT=true) ?_ G ?_ ?_ ?_
 ·exact kV
 ·exact jd
 ·rintro k _ _ ak ⟨rfl,rfl,aY⟩;rw [qO] at ak
  have dy:l[k]?=some l[k]:=by simp [ak]
  have hr:=xo dy;have da:=Po l[k] (hb _ (List.getElem_mem ak))
  have bV:(l.take (k+1)).all iT=((l.take k).all iT&&iT l[k]):=by rw [cq,dy,List.all_append];simp
  have A5:iT l[k]=false->ym l=(k:Int):=fun h0=>by
   have:l.findIdx? (fun t=>!(iT t))=some k:=by
    rw [findIdx?_eq_some_iff_getElem];refine ⟨ak,by simp [h0],fun j hj=>?_⟩;rw [gV] at aY;have:=aY l[j] (by rw [List.mem_take_iff_getElem];exact ⟨j,by omega,rfl⟩);simp [this]
   unfold ym;rw [this]
  generalize l[k]=t at *
  cases hk:iT t with
  | true =>
   rw [hk] at da bV;refine D ?_;refine jR [] da ?_;refine D ?_;exact ⟨rfl,rfl,_,_,Wk.aH ar,rfl,rfl,by rw [bV,aY];rfl⟩
  | false =>
   rw [hk] at da;rw [A5 hk];refine D ?_;refine jR [] da ?_;exact ay
 ·rintro _ _ ⟨rfl,rfl,aY⟩;rw [qO,bW] at aY
  have:l.findIdx? (fun t=>!(iT t))=none:=by
   rw [List.findIdx?_eq_none_iff];intro x hx;rw [gV] at aY;simp [aY x hx]
  unfold ym;rw [this];exact ay
theorem Se (l:List T):decide ((0:Int)<=ym l)=!(l.all iT):=by
 unfold ym
 cases h:l.findIdx? (fun t=>!(iT t)) with
 | some i =>
  rw [findIdx?_eq_some_iff_getElem] at h;obtain ⟨F,I,_⟩:=h
  have:l.all iT=false:=by
   rw [List.all_eq_false];exact ⟨l[i],List.getElem_mem _,by simpa using I⟩
  rw [this];simp
 | none =>
  rw [List.findIdx?_eq_none_iff] at h
  have:l.all iT=true:=by rw [gV];intro x hx;simpa using h x hx
  rw [this];rfl
theorem wv (l:List T) (hl:l.length<=1099511627776) (hb:∀ t∈l,aK t<=1099511627776) :
  GF prog 110 [.sl 1 (cQ l),.v (.func (.func 111) #[] #[])] [] (.v (.bool (!(l.all iT)))) []:=by
 have h:=I6 l hl hb;rw [<-Se];generalize ym l=z at *;refine ah func110 ntmps110 ?_;refine V [] h ?_;exact aj
end Go.Xg
set_option maxHeartbeats 2000000
namespace Go.Xg
open Go.RowKit Go.Xw Go.Proofs Tryz
open Go.Xp (Tok Nd T Ar aK aB bN)
open Go.Sp (Src)
open Go.Im
attribute [local irreducible] GW GL GO YG GC GA be bg
theorem S5:Wr 114 115 dB gP :=
 ⟨fun a F I h3=>VR _ a (aE _) F I h3,fun l d F I h3=>RD l d F I,fun l d s h=>RE h⟩
theorem Gk (p:Src) (h:p.nodes.length > 800):GF prog 63 [.agg (av p)] [] (.v (.bool false)) []:=by
 have hm:(p.nodes.map ax).length=p.nodes.length:=by simp
 have hd:decide ((800:Int) < ((p.nodes.map ax).length:Int))=true:=by rw [hm];simpa using by omega
 refine ah func63 ntmps63 ?_;exact aj
theorem DK (p:Src) (h:p.nodes.length<=800) (hk:∀ n∈p.nodes,n.kids.length<=1099511627776) (hf:p.fns.length<=1099511627776) (hb:kB p.nodes p.fns 0 []=none):GF prog 63 [.agg (av p)] [] (.v (.bool false)) []:=by
 have hm:(p.nodes.map ax).length=p.nodes.length:=by simp
 have hd:decide ((800:Int) < ((p.nodes.map ax).length:Int))=false:=by rw [hm];simpa using by omega
 have hB:=xG p G hk hf;rw [hb] at hB;unfold DR at hB;refine ah func63 ntmps63 ?_;refine V [] hB ?_;exact aj
theorem I1 (p:Src) (l:List T) (e:Nat) (h:p.nodes.length<=800) (hk:∀ n∈p.nodes,n.kids.length<=1099511627776) (hf:p.fns.length<=1099511627776) (hb:kB p.nodes p.fns 0 []=some (l,e)) (he:e≠p.nodes.length):GF prog 63 [.agg (av p)] [] (.v (.bool false)) []:=by
 have hm:(p.nodes.map ax).length=p.nodes.length:=by simp
 have hd:decide ((800:Int) < ((p.nodes.map ax).length:Int))=false:=by rw [hm];simpa using by omega
 have hB:=xG p G hk hf;rw [hb] at hB;unfold DR at hB;simp only at hB;rw [show ((e:Int)==(p.nodes.length:Int))=false by simp only [beq_eq_false_iff_ne,ne_eq];omega] at hB;refine ah func63 ntmps63 ?_;refine V [] hB ?_;exact aj
theorem Gj (p:Src) (l:List T) (h:p.nodes.length<=800) (hk:∀ n∈p.nodes,n.kids.length<=1099511627776) (hf:p.fns.length<=1099511627776) (hb:kB p.nodes p.fns 0 []=some (l,p.nodes.length)) (hl:l.length<=1099511627776) (hs:∀ t∈l,aK t<=1099511627776) (hn:l.all iT=false):GF prog 63 [.agg (av p)] [] (.v (.bool false)) []:=by
 have hm:(p.nodes.map ax).length=p.nodes.length:=by simp
 have hd:decide ((800:Int) < ((p.nodes.map ax).length:Int))=false:=by rw [hm];simpa using by omega
 have hB:=xG p G hk hf;rw [hb] at hB;unfold DR at hB;simp only at hB;rw [show ((p.nodes.length:Int)==(p.nodes.length:Int))=true by simp] at hB;have hC:=wv l hl hs;rw [hn] at hC;refine ah func63 ntmps63 ?_;refine V [] hB ?_;refine V [] hC ?_;exact aj
theorem P2 (st:PS) (h:st.fns.length=st.trees.length):oK st.fns st.trees st.trees.length=(qw st).map au:=by
 unfold oK qw;apply ext_getElem?;intro i;rw [aP,List.getElem?_mapIdx,List.getElem?_mapIdx]
 cases hx:st.fns[i]? with
 | none=>rfl
 | some x =>
  have hi:=(bo hx).1;simp only [Option.map_some];rw [ab G];rfl
def Uf (st:PS):Src:=⟨st.globals,st.arrays,qw st,bN 0 st.trees⟩
theorem Ys {q:Go.Sp.RS} {st:PS} (hc:q.code=0) (h8:¬ aB st.trees > 800) (h:st.fns.length=st.trees.length):KX q st=.tup [.agg (av (Uf st)),.v (ii 0),.v (ii 0)]:=by
 unfold KX;rw [ab hc,L h8,P2 st h];rfl
theorem I2 (p:Src) (l:List T) (x:ae) (ts:List Tok) (c z:Int) (h:p.nodes.length<=800) (hB:GF prog 66 [.agg (av p)] [] (.tup [.sl 1 (cQ l),.v (.bool true)]) [])
  (hC:GF prog 110 [.sl 1 (cQ l),.v (.func (.func 111) #[] #[])] [] (.v (.bool false)) [])
  (hL:GF prog 113 [.agg (av p),.sl 1 (cQ l),.v (jT 114),.v (jT 115)] [] (.v (sv x)) [])
  (hX:GF prog 116 [.v (sv x)] [] (.tup [jP ts,.v (ii c),.v (ii z)]) []) (hc:(c != 0)=true) :
  GF prog 63 [.agg (av p)] [] (.v (.bool false)) []:=by
 have hm:(p.nodes.map ax).length=p.nodes.length:=by simp
 have hd:decide ((800:Int) < ((p.nodes.map ax).length:Int))=false:=by rw [hm];simpa using by omega
 refine ah func63 ntmps63 ?_;refine V [] hB ?_;refine V [] hC ?_;refine V [] hL ?_;refine V [] hX ?_;exact aj
theorem AN (p:Src) (l:List T) (x:ae) (ts:List Tok) (c k a:Int) (h:p.nodes.length<=800) (hB:GF prog 66 [.agg (av p)] [] (.tup [.sl 1 (cQ l),.v (.bool true)]) [])
  (hC:GF prog 110 [.sl 1 (cQ l),.v (.func (.func 111) #[] #[])] [] (.v (.bool false)) [])
  (hL:GF prog 113 [.agg (av p),.sl 1 (cQ l),.v (jT 114),.v (jT 115)] [] (.v (sv x)) [])
  (hX:GF prog 116 [.v (sv x)] [] (.tup [jP ts,.v (ii 0),.v (ii c)]) [])
  (hP:GF prog 117 [jP ts,.v (ii (x.length:Int))] [] (.tup [.agg [.sl 1 [],.sl 2 [],.sl 3 [],.sl 5 []],.v (ii k),.v (ii a)]) []) (hk:(k==0)=false) :
  GF prog 63 [.agg (av p)] [] (.v (.bool false)) []:=by
 have hm:(p.nodes.map ax).length=p.nodes.length:=by simp
 have hd:decide ((800:Int) < ((p.nodes.map ax).length:Int))=false:=by rw [hm];simpa using by omega
 refine ah func63 ntmps63 ?_;refine V [] hB ?_;refine V [] hC ?_;refine V [] hL ?_;refine V [] hX ?_;refine V [] hP ?_;exact aj
theorem Lz (p r:Src) (l:List T) (x:ae) (ts:List Tok) (c:Int) (h:p.nodes.length<=800) (hB:GF prog 66 [.agg (av p)] [] (.tup [.sl 1 (cQ l),.v (.bool true)]) [])
  (hC:GF prog 110 [.sl 1 (cQ l),.v (.func (.func 111) #[] #[])] [] (.v (.bool false)) [])
  (hL:GF prog 113 [.agg (av p),.sl 1 (cQ l),.v (jT 114),.v (jT 115)] [] (.v (sv x)) [])
  (hX:GF prog 116 [.v (sv x)] [] (.tup [jP ts,.v (ii 0),.v (ii c)]) [])
   (hg:GF prog 118 [strs p.globals,strs r.globals] [] (.v (.bool false)) [])
  (hP:GF prog 117 [jP ts,.v (ii (x.length:Int))] [] (.tup [.agg (av r),.v (ii 0),.v (ii 0)]) []) :
  GF prog 63 [.agg (av p)] [] (.v (.bool false)) []:=by
 have hm:(p.nodes.map ax).length=p.nodes.length:=by simp
 have hd:decide ((800:Int) < ((p.nodes.map ax).length:Int))=false:=by rw [hm];simpa using by omega
 refine ah func63 ntmps63 ?_;refine V [] hB ?_;refine V [] hC ?_;refine V [] hL ?_;refine V [] hX ?_;refine V [] hP ?_;refine V [] hg ?_;exact aj
theorem LA (p r:Src) (l:List T) (x:ae) (ts:List Tok) (c:Int) (h:p.nodes.length<=800) (hB:GF prog 66 [.agg (av p)] [] (.tup [.sl 1 (cQ l),.v (.bool true)]) [])
  (hC:GF prog 110 [.sl 1 (cQ l),.v (.func (.func 111) #[] #[])] [] (.v (.bool false)) [])
  (hL:GF prog 113 [.agg (av p),.sl 1 (cQ l),.v (jT 114),.v (jT 115)] [] (.v (sv x)) [])
  (hX:GF prog 116 [.v (sv x)] [] (.tup [jP ts,.v (ii 0),.v (ii c)]) [])
   (hg:GF prog 118 [strs p.globals,strs r.globals] [] (.v (.bool true)) [])
  (ha:GF prog 119 [(.sl 2 (p.arrays.map fun s=>az s)),(.sl 2 (r.arrays.map fun s=>az s))] [] (.v (.bool false)) [])
  (hP:GF prog 117 [jP ts,.v (ii (x.length:Int))] [] (.tup [.agg (av r),.v (ii 0),.v (ii 0)]) []) :
  GF prog 63 [.agg (av p)] [] (.v (.bool false)) []:=by
 have hm:(p.nodes.map ax).length=p.nodes.length:=by simp
 have hd:decide ((800:Int) < ((p.nodes.map ax).length:Int))=false:=by rw [hm];simpa using by omega
 refine ah func63 ntmps63 ?_;refine V [] hB ?_;refine V [] hC ?_;refine V [] hL ?_;refine V [] hX ?_;refine V [] hP ?_;refine V [] hg ?_;refine V [] ha ?_;exact aj
theorem LB (p r:Src) (l:List T) (x:ae) (ts:List Tok) (c:Int) (h:p.nodes.length<=800) (hB:GF prog 66 [.agg (av p)] [] (.tup [.sl 1 (cQ l),.v (.bool true)]) [])
  (hC:GF prog 110 [.sl 1 (cQ l),.v (.func (.func 111) #[] #[])] [] (.v (.bool false)) [])
  (hL:GF prog 113 [.agg (av p),.sl 1 (cQ l),.v (jT 114),.v (jT 115)] [] (.v (sv x)) [])
  (hX:GF prog 116 [.v (sv x)] [] (.tup [jP ts,.v (ii 0),.v (ii c)]) [])
   (hg:GF prog 118 [strs p.globals,strs r.globals] [] (.v (.bool true)) [])
  (ha:GF prog 119 [(.sl 2 (p.arrays.map fun s=>az s)),(.sl 2 (r.arrays.map fun s=>az s))] [] (.v (.bool true)) [])
  (hf:GF prog 120 [.sl 3 (p.fns.map au),.sl 3 (r.fns.map au),.v (.func (.func 121) #[] #[])] [] (.v (.bool false)) [])
  (hP:GF prog 117 [jP ts,.v (ii (x.length:Int))] [] (.tup [.agg (av r),.v (ii 0),.v (ii 0)]) []) :
  GF prog 63 [.agg (av p)] [] (.v (.bool false)) []:=by
 have hm:(p.nodes.map ax).length=p.nodes.length:=by simp
 have hd:decide ((800:Int) < ((p.nodes.map ax).length:Int))=false:=by rw [hm];simpa using by omega
 refine ah func63 ntmps63 ?_;refine V [] hB ?_;refine V [] hC ?_;refine V [] hL ?_;refine V [] hX ?_;refine V [] hP ?_;refine V [] hg ?_;refine V [] ha ?_;refine V [] hf ?_;exact aj
theorem LC (p r:Src) (l:List T) (x:ae) (ts:List Tok) (c:Int) (b:Bool) (h:p.nodes.length<=800) (hB:GF prog 66 [.agg (av p)] [] (.tup [.sl 1 (cQ l),.v (.bool true)]) [])
  (hC:GF prog 110 [.sl 1 (cQ l),.v (.func (.func 111) #[] #[])] [] (.v (.bool false)) [])
  (hL:GF prog 113 [.agg (av p),.sl 1 (cQ l),.v (jT 114),.v (jT 115)] [] (.v (sv x)) [])
  (hX:GF prog 116 [.v (sv x)] [] (.tup [jP ts,.v (ii 0),.v (ii c)]) [])
   (hg:GF prog 118 [strs p.globals,strs r.globals] [] (.v (.bool true)) [])
  (ha:GF prog 119 [(.sl 2 (p.arrays.map fun s=>az s)),(.sl 2 (r.arrays.map fun s=>az s))] [] (.v (.bool true)) [])
  (hf:GF prog 120 [.sl 3 (p.fns.map au),.sl 3 (r.fns.map au),.v (.func (.func 121) #[] #[])] [] (.v (.bool true)) [])
  (hn:GF prog 122 [.sl 5 (p.nodes.map ax),.sl 5 (r.nodes.map ax),.v (.func (.func 123) #[] #[])] [] (.v (.bool b)) [])
  (hP:GF prog 117 [jP ts,.v (ii (x.length:Int))] [] (.tup [.agg (av r),.v (ii 0),.v (ii 0)]) []) :
  GF prog 63 [.agg (av p)] [] (.v (.bool b)) []:=by
 have hm:(p.nodes.map ax).length=p.nodes.length:=by simp
 have hd:decide ((800:Int) < ((p.nodes.map ax).length:Int))=false:=by rw [hm];simpa using by omega
 refine ah func63 ntmps63 ?_;refine V [] hB ?_;refine V [] hC ?_;refine V [] hL ?_;refine V [] hX ?_;refine V [] hP ?_;refine V [] hg ?_;refine V [] ha ?_;refine V [] hf ?_;refine V [] hn ?_;exact aj
theorem Gl (p r:Src) (l:List T) (x:ae) (ts:List Tok) (c:Int) (b1 b2 b3 b4:Bool) (h:p.nodes.length<=800) (hB:GF prog 66 [.agg (av p)] [] (.tup [.sl 1 (cQ l),.v (.bool true)]) [])
  (hC:GF prog 110 [.sl 1 (cQ l),.v (.func (.func 111) #[] #[])] [] (.v (.bool false)) [])
  (hL:GF prog 113 [.agg (av p),.sl 1 (cQ l),.v (jT 114),.v (jT 115)] [] (.v (sv x)) [])
  (hX:GF prog 116 [.v (sv x)] [] (.tup [jP ts,.v (ii 0),.v (ii c)]) [])
  (hg:GF prog 118 [strs p.globals,strs r.globals] [] (.v (.bool b1)) [])
  (ha:GF prog 119 [(.sl 2 (p.arrays.map fun s=>az s)),(.sl 2 (r.arrays.map fun s=>az s))] [] (.v (.bool b2)) [])
  (hf:GF prog 120 [.sl 3 (p.fns.map au),.sl 3 (r.fns.map au),.v (.func (.func 121) #[] #[])] [] (.v (.bool b3)) [])
  (hn:GF prog 122 [.sl 5 (p.nodes.map ax),.sl 5 (r.nodes.map ax),.v (.func (.func 123) #[] #[])] [] (.v (.bool b4)) [])
  (hP:GF prog 117 [jP ts,.v (ii (x.length:Int))] [] (.tup [.agg (av r),.v (ii 0),.v (ii 0)]) []) :
  GF prog 63 [.agg (av p)] [] (.v (.bool (b1&&(b2&&(b3&&b4))))) []:=by
 cases b1 with
 | false=>exact Lz p r l x ts c h hB hC hL hX hg hP
 | true =>
  cases b2 with
  | false=>exact LA p r l x ts c h hB hC hL hX hg ha hP
  | true =>
   cases b3 with
   | false=>exact LB p r l x ts c h hB hC hL hX hg ha hf hP
   | true=>exact LC p r l x ts c b4 h hB hC hL hX hg ha hf hn hP
end Go.Xg
set_option maxHeartbeats 1000000
namespace Go.Xg
open Go.RowKit Go.Xw Go.Proofs Tryz
open Go.Xp (Tok Nd T Ar aK aB bN)
open Go.Sp (Src)
open Go.Im
attribute [local irreducible] GW GL GO YG GC GA be bg
theorem Oc {st:PS} {f:Go.Sp.Fn} (h:f∈qw st):∃ x∈st.fns,f.params=x.2:=by
 unfold qw at h;obtain ⟨i,hi⟩:=List.getElem?_of_mem h;rw [List.getElem?_mapIdx] at hi
 cases hx:st.fns[i]? with
 | none=>rw [hx] at hi;cases hi
 | some x=>rw [hx] at hi;cases hi;exact ⟨x,bA hx,rfl⟩
theorem Nc (p:Src) (hw:fC p<=1048576) (hn:xD p):GF prog 63 [.agg (av p)] [] (.v (.bool (fI p))) []:=by
 obtain ⟨⟨s1,s2⟩,⟨s3,s4⟩,⟨s5,s6⟩,⟨s7,s8⟩⟩:=jO p
 have fH:∀ n∈p.nodes,n.kids.length<=1099511627776:=fun n h=>by have:=(s8 n h).2;omega
 have hB:=xG p G fH G;unfold fI
 by_cases h8:p.nodes.length > 800
 ·rw [ab h8];exact Gk p h8
 rw [L h8]
 cases hb:kB p.nodes p.fns 0 [] with
 | none=>exact DK p G fH G hb
 | some y =>
  obtain ⟨l,e⟩:=y;simp only
  by_cases he:e≠p.nodes.length
  ·rw [ab he];exact I1 p l e G fH G hb he
  rw [L he]
  have he:e=p.nodes.length:=by simpa using he
  subst he;obtain ⟨l',F,I,h3,h4,h5⟩:=DS _ _ _ _ _ hb;rw [nil_append] at F;subst F
  have hz:aB l=p.nodes.length:=by omega
  have ab6:=U3 hn I hz;have qO:=IK I hz;have rp:=gw.len h3;have abj:=ed.num hn.nodes l 0 I
  by_cases hk:l.all iT=false
  ·rw [ab hk];exact Gj p l G fH G hb G (fun t ht=>by have:=(qO t ht).2;omega) hk
  rw [L hk]
  have hk:l.all iT=true:=by simpa using hk
  obtain ⟨ts,c,z,q,st,hr⟩:=reads (ox dB gP p l);rw [Cg hr];rw [hb] at hB;unfold DR at hB;simp only at hB;rw [show ((p.nodes.length:Int)==(p.nodes.length:Int))=true by simp] at hB;have hC:=wv l G (fun t ht=>by have:=(qO t ht).2;omega);rw [hk] at hC;have hL:=RV 114 115 dB gP S5 p l G G G G G hn.arrays (fun f h=>by have:=(s6 f h).2.1;omega)
   (fun t ht=>⟨gV.1 hk t ht,kZ abj ht,by have:=(qO t ht).1;omega,by have:=(qO t ht).2;omega⟩)
  have hX:=R7 _ _ ts c z G hr.lex;have acu:=hr.len;have hP:=Ju ts (((ox dB gP p l).length:Nat):Int) q st G G (fun h=>by have:=(hr.ok h).2;omega) hr.read;have kl:=Pj _ _ _ _ _ _ (aE _) hr.read ⟨aM _,aM _,aM _,fun x h=>by cases h⟩;have fx:=hr.ok;clear hr hb;generalize hxg:ox dB gP p l=x at *
  by_cases hc:c≠0
  ·rw [ab hc];exact I2 p l x ts c z G hB hC hL hX (by simpa using hc)
  rw [L hc]
  have hc:c=0:=by simpa using hc
  subst hc
  by_cases hq:q.code≠0
  ·rw [ab hq];unfold KX at hP;rw [L hq] at hP;exact AN p l x ts z q.code q.at_ G hB hC hL hX hP (by simpa using hq)
  rw [L hq]
  have hq:q.code=0:=by simpa using hq
  obtain ⟨Fi,Pc⟩:=fx hq
  by_cases h9:aB st.trees > 800
  ·rw [ab h9];unfold KX at hP;rw [ab hq,ab h9] at hP;exact AN p l x ts z 10 0 G hB hC hL hX hP aU
  rw [L h9];rw [Ys hq h9 Fi.len] at hP;obtain ⟨m1,m2,m3,m4⟩:=kl
  have gC:(bN 0 st.trees).length<=800:=by rw [Go.Xp.ki];omega
  unfold same;refine Gl p (Uf st) l x ts z _ _ _ _ G hB hC hL hX ?_ ?_ ?_ ?_ hP
  ·exact JC _ _ G (by show st.globals.length<=_;omega)
  ·exact Ur _ _ G (by show st.arrays.length<=_;omega)
  ·refine IZ p.fns (qw st) G ?_ (fun f h=>by have:=(s6 f h).2.1;omega) (fun f h=>?_)
   ·unfold qw;rw [List.length_mapIdx];omega
   ·obtain ⟨y,hy,h6⟩:=Oc h;rw [h6];have:=m4 y hy;omega
  ·exact I0 p.nodes (bN 0 st.trees) G G fH (fun n h=>by have:=BL st.trees 0 n h;omega)
end Go.Xg
set_option maxHeartbeats 2000000
namespace Go.Im
open Go.Xp Go.Sp
theorem yi (p:Src):(bQ p).length=p.globals.length+p.arrays.length+p.fns.length:=by simp [bQ,eD,ik];omega
end Go.Im
namespace Go.Xg
open GV (U)
open Go.RowKit Go.Xw Go.Proofs Tryz
open Go.Xp (Nd Ar)
open Go.Sp (Src)
open Go.Im
attribute [local irreducible] GW GL GO YG GC GA be bg
theorem yr:∀ l:List ae,kT (br l)=true
 | []=>rfl
 | s::l=>by
  have:=yr l;unfold br at this |-;rw [List.map_cons,kT,this];rfl
theorem mD (l:List ae):(br l).length=l.length:=by simp [br]
theorem CC (p:Src) (hw:fC p<=1048576):GC prog 38 [.agg (av p)] [] fun g Δ=>∃ a c,g=.v (.slice a (bQ p).length c)/\Δ=[.vech 9 1 (br (bQ p)) (.slice a (bQ p).length c)]:=by
 obtain ⟨⟨a1,a2⟩,⟨b1,b2⟩,⟨c1,c2⟩,⟨d1,d2⟩⟩:=jO p
 have wU:(p.globals.map fun s=>[GV.v (sv s)]).length=p.globals.length:=by simp
 have eO:kT (p.globals.map fun s=>[GV.v (sv s)])=true:=yr p.globals;refine cL func38 ntmps38 ?_;refine GW.wk (Wk.kE 9 1) ?_;simp only [nil_append];refine D ?_;refine GL.qv 0 rfl rfl rfl rfl eO (by refine ⟨?_,?_⟩;(· rw [wU];omega);(· rw [wU];omega)) ?_;intro a c;rw [wU];refine bm ?_;simp only [nil_append,length_nil,cI];refine D ?_;refine GW.range (p.arrays.map az).length (fun k fr Γ=>∃ a c R n,fr=[U,.loc 1 0,U,.v (.slice a n c),U,U,U,U,U,U,U,U,.sl 2 (p.arrays.map az),.v (ii ((p.arrays.map az).length:Int)),.v (ii (k:Nat)),U,U,U,U,U,U,U,U,U,U,U,U,U,U,U,U,U,U,U,U,U,U,U]/\Γ=[.vech 9 1 R (.slice a n c),.box 33 (av p)]/\R.length=n/\R=br (p.globals++(eD p).take k)) ?_ (by rw [bP];omega) ?_ ?_ ?_
 ·exact ⟨_,_,Wk.aH ar,_,_,_,_,rfl,rfl,wU,by simp [br]⟩
 ·rintro k _ _ ⟨a,c,R,n,rfl,rfl,_⟩;exact dK
 ·rintro k _ _ hk ⟨a,c,R,n,rfl,rfl,gh,hR⟩
  have hk:k < p.arrays.length:=by simpa using hk
  have hx:p.arrays[k]?=some p.arrays[k]:=by simp [hk]
  have hr:=Ic hx
  have bV:br (p.globals++(eD p).take (k+1))=R++[[.v (sv p.arrays[k].name)]]:=by
   have:(eD p)[k]?=some p.arrays[k].name:=by rw [eD,aP,hx];rfl
   rw [cq,this,hR];simp [br]
  have zw:n<=4194304:=by
   rw [<-gh,hR,mD,aO,cX];omega
  clear hR;unfold az at hr;generalize p.arrays[k]=x at *;refine D ?_;refine GL.pI 0 rfl rfl rfl rfl rfl rfl rfl rfl bj sL ?_;intro a2 c2;refine dk ?_;refine D ?_;exact ⟨rfl,rfl,_,_,(Wk.cut (n:=2) (aM _) rfl).trans (Wk.aH ar),a2,c2,_,_,rfl,rfl,by simp [gh],bV.symm⟩
 ·rintro _ _ ⟨a,c,R,n,rfl,rfl,gh,hR⟩;rw [bP,show p.arrays.length=(eD p).length by simp [eD],bW] at hR;refine ba ?_;refine D ?_;refine GW.range (p.fns.map au).length (fun k fr Γ=>∃ a c R n,fr=[U,.loc 1 0,U,.v (.slice a n c),U,U,U,U,U,U,U,U,U,U,U,U,U,U,U,U,U,U,U,U,U,.sl 3 (p.fns.map au),.v (ii ((p.fns.map au).length:Int)),.v (ii (k:Nat)),U,U,U,U,U,U,U,U,U,U]/\Γ=[.vech 9 1 R (.slice a n c),.box 33 (av p)]/\R.length=n/\R=br ((p.globals++eD p)++(ik p).take k)) ?_ (by rw [bP];omega) ?_ ?_ ?_
  ·exact ⟨_,_,Wk.aH ar,_,_,_,_,rfl,rfl,gh,by rw [hR];simp⟩
  ·rintro k _ _ ⟨a,c,R,n,rfl,rfl,_⟩;exact dK
  ·rintro k _ _ hk ⟨a,c,R,n,rfl,rfl,gh,hR⟩
   have hk:k < p.fns.length:=by simpa using hk
   have hx:p.fns[k]?=some p.fns[k]:=by simp [hk]
   have hr:=Ds hx
   have bV:br ((p.globals++eD p)++(ik p).take (k+1))=R++[[.v (sv p.fns[k].name)]]:=by
    have:(ik p)[k]?=some p.fns[k].name:=by rw [ik,aP,hx];rfl
    rw [cq,this,hR];simp [br]
   have zw:n<=4194304:=by
    rw [<-gh,hR,mD,aO,aO,cX,eD,bP];omega
   clear hR;unfold au at hr;generalize p.fns[k]=x at *;refine D ?_;refine GL.pI 0 rfl rfl rfl rfl rfl rfl rfl rfl bj sL ?_;intro a2 c2;refine dk ?_;refine D ?_;exact ⟨rfl,rfl,_,_,(Wk.cut (n:=2) (aM _) rfl).trans (Wk.aH ar),a2,c2,_,_,rfl,rfl,by simp [gh],bV.symm⟩
  ·rintro _ _ ⟨a,c,R,n,rfl,rfl,gh,hR⟩;rw [bP,show p.fns.length=(ik p).length by simp [ik],bW] at hR
   have kX:n=(bQ p).length:=by rw [<-gh,hR,mD];rfl
   subst kX;refine ba ?_;refine D ?_;refine ny ?_;exact xP (n:=1) rfl dI rfl (aM _) rfl rfl ⟨a,c,rfl,by rw [hR];rfl⟩
end Go.Xg
namespace Go.Im
open Go.Xp
def na (n:Nat):ae:=109::dj n
theorem DV {n:Nat} (h:n < 10):dj n=[UInt8.ofNat (48+n)]:=by rw [dj,dif_pos h]
theorem JP {n:Nat} (h:¬ n < 10):dj n=dj (n / 10)++[UInt8.ofNat (48+n % 10)]:=by rw [dj,dif_neg h]
end Go.Im
namespace Go.Xg
open GV (U)
open Go.RowKit Go.Xw Go.Proofs Tryz
open Go.Xp (Nd Ar dj qB)
open Go.Sp (Src)
open Go.Im (na DV JP)
attribute [local irreducible] GW GL GO YG GC GA be bg
theorem mh (n:Nat) (hn:n<=1099511627776):GF prog 101 [.v (ii (n:Int))] [] (.v (sv (na n))) []:=by
 unfold na
 by_cases h0:n=0
 ·subst h0;rw [DV G];refine ah func101 ntmps101 ?_;exact aj
 have TE:decide ((n:Int)<=0)=false:=by simpa using by omega
 have Xb:=qB n;refine ah func101 ntmps101 ?_;refine GW.loop (fun st:Nat × ae=>st.1) (fun st fr Γ=>fr=[.v (ii (st.1:Nat)),U,U,.v (sv st.2),U,U,U,U,U,U,U,U,U,U,U,U,U,U,U,U]/\Γ=[]/\st.1<=n/\st.2.length<=n+1/\(st.1=0->st.2=dj n)/\(st.1 > 0->dj st.1++st.2=dj n)) (n,[]) ?_ ?_
 ·exact ⟨_,_,Wk.aH ar,rfl,rfl,aE _,aM _,fun h=>absurd h h0,fun _=>by simp⟩
 rintro ⟨k,y⟩ _ _ ⟨rfl,rfl,hk,hyl,hz,hp⟩;simp only at hk hyl hz hp
 by_cases ak:k > 0
 ·have hd:decide ((0:Int) < (k:Int))=true:=by simpa using ak
  have hq:=hp ak;have hw:=zQ (48+k % 10) G;rw [Int.natCast_add] at hw
  have bV:(k / 10=0->[UInt8.ofNat (48+k % 10)]++y=dj n)/\(k / 10 > 0->dj (k / 10)++([UInt8.ofNat (48+k % 10)]++y)=dj n):=by
   by_cases mF:k < 10
   ·rw [DV mF] at hq;refine ⟨fun _=>?_,fun h=>by omega⟩;rw [Nat.mod_eq_of_lt mF];exact hq
   ·rw [JP mF,cS] at hq;exact ⟨fun h=>by omega,fun _=>hq⟩
  have kX:([UInt8.ofNat (48+k % 10)]++y).length<=n+1:=by
   by_cases mF:k / 10=0
   ·rw [bV.1 mF];exact Xb
   ·have:=congrArg List.length (bV.2 G);rw [aO] at this;omega
  refine D ?_;refine cD ?_;refine D ?_;exact ⟨(k / 10,[UInt8.ofNat (48+k % 10)]++y),⟨_,_,Wk.aH ar,rfl,rfl,by show k / 10<=n;omega,kX,bV.1,bV.2⟩,by show k / 10 < k;omega⟩
 ·have hd:decide ((0:Int) < (k:Int))=false:=by simpa using ak
  have hy:=hz G;subst hy;refine cw ?_;exact ay
def marks (k n:Nat):List (List GV):=(List.range n).map fun i=>[GV.v (sv (na (k+i)))]
theorem vO (k n:Nat):(marks k n).length=n:=by simp [marks]
theorem Mw (k n:Nat):marks k (n+1)=marks k n++[[.v (sv (na (k+n)))]]:=by simp [marks,range_succ]
theorem R9 {k n i:Nat} (h:i < n):(marks k n)[i]?=some [.v (sv (na (k+i)))]:=by simp [marks,h]
theorem PH (k:Nat) (rows:List (List GV)) {i:Nat} (h:i < rows.length):(marks k i++rows.drop i).set i [.v (sv (na (k+i)))]=marks k (i+1)++rows.drop (i+1):=by
 rw [ju h,List.set_append_right _ _ (by rw [vO];exact aE _),vO,gT,List.set_cons_zero,Mw,cS];rfl
theorem yM (a:Option Addr) (c n k:Nat) (rows:List (List GV)) (hn:rows.length=n) (hb:k+n<=1099511627776) :
  GF prog 50 [.v (.slice a n c),.v (ii (k:Nat))] [.vech 9 1 rows (.slice a n c)] (.v (ii ((k+n:Nat):Int))) [.vech 9 1 (marks k n) (.slice a n c)]:=by
 refine ah func50 ntmps50 ?_;refine GW.loop (fun i:Nat=>n - i) (fun i fr Γ=>∃ R,fr=[.v (.slice a n c),.v (ii ((k+i:Nat):Int)),U,U,U,.v (ii (i:Nat)),U,U,U,U,U,U,U,U,U,U,U,U,U,U]/\Γ=[.vech 9 1 R (.slice a n c)]/\i<=n/\R=marks k i++rows.drop i) 0 ?_ ?_
 ·exact ⟨_,_,Wk.aH ar,_,rfl,rfl,aM _,rfl⟩
 rintro i _ _ ⟨R,rfl,rfl,hi,hR⟩
 have gh:R.length=n:=by rw [hR,aO,vO,jv];omega
 by_cases ak:i < n
 ·have hd:decide ((i:Int) < (n:Int))=true:=by simpa using ak
  have hc:=mh (k+i) G;have bR:=PH k rows (i:=i) G;rw [<-hR] at bR;clear hR;generalize na (k+i)=x at *;refine D ?_;refine V [] hc ?_;refine lV ?_;refine D ?_;exact ⟨i+1,⟨_,_,Wk.aH ar,_,rfl,rfl,ak,bR⟩,by show n - (i+1) < n - i;omega⟩
 ·have hd:decide ((i:Int) < (n:Int))=false:=by simpa using ak
  have gD:i=n:=by omega
  subst gD;rw [List.drop_of_length_le G,cY] at hR;subst hR;refine cw ?_;exact ay
theorem yJ (k n:Nat) (hb:k+n<=1099511627776):GF prog 54 [.sl 1 (marks k n),.v (ii (k:Nat))] [] (.v (ii ((k+n:Nat):Int))) []:=by
 have hm:=vO k n;refine ah func54 ntmps54 ?_;refine GW.loop (fun i:Nat=>n - i) (fun i fr Γ=>fr=[.sl 1 (marks k n),.v (ii ((k+i:Nat):Int)),U,U,U,.v (ii (i:Nat)),U,U,U,U,U,U,U,U,U,U,U,U,U,U,U,U]/\Γ=[]/\i<=n) 0 ?_ ?_
 ·exact ⟨_,_,Wk.aH ar,rfl,rfl,aM _⟩
 rintro i _ _ ⟨rfl,rfl,hi⟩
 by_cases ak:i < n
 ·have hd:decide ((i:Int) < ((marks k n).length:Int))=true:=by rw [hm];simpa using ak
  have hc:=mh (k+i) G;have hr:=R9 (k:=k) ak;generalize na (k+i)=x at *
  have hs:(!(x==x))=false:=by simp
  refine D ?_;refine aL (aD 0 5 (.a 5 (.q 6 .nil))) ?_;refine ao ?_;refine aI [] hc ?_;refine D ?_;exact ⟨i+1,⟨_,_,Wk.aH ar,rfl,rfl,ak⟩,by show n - (i+1) < n - i;omega⟩
 ·have hd:decide ((i:Int) < ((marks k n).length:Int))=false:=by rw [hm];simpa using ak
  have gD:i=n:=by omega
  subst gD;refine cw ?_;exact ay
end Go.Xg
namespace Go.Xg
open Go.RowKit Go.Xw Go.Proofs
open Go.Xp (Nd Ar dj qB)
open Go.Sp (Src)
open Go.Im (na)
attribute [local irreducible] GW GL GO YG GC GA be bg
theorem pH {p:Nat->Bool} {Γ:List Ob} (h:∀ x∈Γ,x.ko=true):lx p Γ=true:=by
 induction Γ with
 | nil=>rfl
 | cons x r ih =>
  rw [lx,ih fun y hy=>h y (dw _ hy),Bool.and_true];have:=h x List.mem_cons_self
  cases x <;> first | rfl | cases this
section
variable {P:Program} {fn:Func} {m:Nat} {R:GV->List Ob->Prop} {fr:List GV} {Γ:List Ob} {e:Exit}
theorem LV {t:Tmp} {x:Value} (hr:fn.results=#[.tmp t]) (he:e=.normal\/e=.ret) (hg:cz fr t=.v x) (hm:m=Γ.length) (ha:∀ x∈Γ,x.ko=true) (h:R (.v x) Γ):rl P fn m R e fr Γ :=
 xP (n:=Γ.length) hr he hg G (by rw [bW];exact pH ha) rfl (by rw [bW];exact h)
end
theorem qR {rows:List (List GV)} {i o:Nat} {g:GV} {r:List GV} (hr:rows[i]?=some r):(dp rows i o g)[i]?=some (bp r o g):=by rw [xp hr,ab rfl]
end Go.Xg
namespace Go.Xg
open Go.RowKit Go.Xw Go.Proofs
open Go.Xp (Nd Ar dj qB)
open Go.Sp (Src)
open Go.Im (na)
theorem K7 {x:Ob} (h:x.ko=true) (f:Nat->Nat):x.eC f=x:=by cases x <;> first | rfl | cases h
theorem xb {X:List Ob} (h:∀ x∈X,x.ko=true) (f:Nat->Nat):X.map (Ob.eC f)=X :=
 (List.map_congr_left fun x hx=>K7 (h x hx) f).trans (List.map_id _)
theorem Bn (s n N:Nat) (h:s+n<=N):jn (List.range' s n) N=true:=by
 induction n generalizing s with
 | zero=>rfl
 | succ n ih =>
  rw [range'_succ,jn,ih (s+1) G]
  have F:Nat.blt s N=true:=by rw [Nat.blt_eq];omega
  have I:(List.range' (s+1) n).contains s=false:=by
   cases hc:(List.range' (s+1) n).contains s with
   | false=>rfl
   | true =>
    have:=List.mem_range'_1.1 (ij.1 hc);omega
  rw [F,I];rfl
theorem yw (f:Nat->Nat):∀ (X A C:List Ob),(∀ x∈X,x.ko=true)->seen f (A++(X++C)) (List.range' A.length X.length) X
 | [],A,C,_=>trivial
 | x::X,A,C,h=>by
  rw [List.length_cons,range'_succ,seen];refine ⟨by rw [fa (aE _),gT,K7 (h x List.mem_cons_self)];rfl,?_⟩
  have:=yw f X (A++[x]) C fun y hy=>h y (dw _ hy)
  rw [aO,List.length_singleton,cS] at this;exact this
theorem zV:∀ (X A C Δ:List Ob),Δ.length=X.length->dG (A++(X++C)) (List.range' A.length X.length) Δ=A++(Δ++C)
 | [],A,C,Δ,h=>by
  have:Δ=[]:=iC h;subst this;show dG (A++C) [] []=_;rw [dG,cY];rfl
 | x::X,A,C,[],h=>by cases h
 | x::X,A,C,y::Δ,h=>by
  rw [List.length_cons,range'_succ,dG]
  have e:oset (A++(x::X++C)) A.length y=(A++[y])++(X++C):=by
   rw [aZ,List.set_append_right _ _ (aE _),gT];simp
  have:=zV X (A++[y]) C Δ (by simpa using h);rw [aO,List.length_singleton] at this;rw [e,this];simp
section
variable {P:Program} {m:Nat} {Q:dU} {fr:List GV} {Γ:List Ob} {ops:Array Oper} {rest:List Oper} {d:Option Tmp} {op:Op} {ty:TypeId} {pos:String} {af:Array Edge}
theorem GL.uq {f:FuncId} [hf:aJ P f] (A X C:List Ob) {args:List Operand} {nq:Array TypeId} {gs:List GV} {R:GV->List Ob->Prop} (hc:GC P f gs X R) (bM:Γ=A++(X++C)) (hX:∀ x∈X,x.ko=true) (Ki:∀ r,cV r gs=gs) (ha:lL (args.map (bb fr)) gs)
  (h:∀ g Δ,R g Δ->Δ.length=X.length/\(∀ x∈Δ,x.ko=true)/\(∀ r,eC r g=g)/\GL P m ops Q rest (bJ fr d g) (A++(Δ++C))) :
  GL P m ops Q (⟨d,.call ⟨.value (.func f),args.toArray,nq⟩,ty,pos,af,none⟩::rest) fr Γ:=by
 subst bM
 refine GL.F8 (List.range' A.length X.length) hc (by rw [Ki];exact ha) (Bn _ _ _ (by simp only [aO];omega)) (yw _ X A C hX) fun g Δ hr=>?_
 obtain ⟨F,I,h3,h4⟩:=h g Δ hr;refine ⟨by rw [List.length_range',F];exact aE _,?_⟩;rw [xb I,zV _ _ _ _ F,h3];exact h4
end
attribute [local irreducible] GW GL GO YG GC GA be bg
theorem tM {α γ:Type} {f:α->Value->γ} {l:List α} {hs:List Value} {i:Nat} {x:α} {h:Value} (F:l[i]?=some x) (I:hs[i]?=some h):(List.zipWith f l hs)[i]?=some (f x h):=by rw [List.getElem?_zipWith,F,I]
end Go.Xg
namespace Go.Xg
open Go.RowKit Go.Xw Go.Proofs
open Go.Xp (Nd Ar)
open Go.Sp (Src)
open Go.Im
theorem V6 {A X C:List Ob} {j:Nat} (h:j < X.length):(A++(X++C))[A.length+j]?=X[j]?:=by
 rw [fa G,Nat.add_sub_cancel_left,fO h]
def J4 (p:Src) (i:Nat):Go.Sp.Fn:=(p.fns[i]?).getD ⟨[],[],0⟩
def KN (p:Src) (i:Nat):Nd:=(p.nodes[i]?).getD ⟨0,0,0,[],[]⟩
def Bv (l:List Value) (i:Nat):Value:=(l[i]?).getD undef
theorem YC {B:Bs} {K:Fz} {β:Bt} {w:World} {Γ:List Ob} {s:Nat} {p:Src} {hg ha hf hn:Value} {fs ns:List Value} (H:ra p hg ha hf hn fs ns) (acB:∀ (i:Nat) x,(gI p hg ha hf hn fs ns)[i]?=some x->Γ[s+i]?=some x) (hI:Inv B K β Γ w) :
  ∃ K1 aR,dh K K1/\Inv B K1 β aR w/\bq K1 (fun _=>.no) [hg,ha,hf,hn] (av p)/\∀ q,q < s\/s+(gI p hg ha hf hn fs ns).length<=q->aR[q]?=Γ[q]?:=by
 obtain ⟨_,_,_,_,gC,kX,_,_⟩:=H
 have WO:(List.zipWith eZ p.fns fs).length=p.fns.length:=by rw [jE];omega
 have hLn:(List.zipWith bz p.nodes ns).length=p.nodes.length:=by rw [jE];omega
 have hlen:(gI p hg ha hf hn fs ns).length=4+p.fns.length+p.nodes.length:=by simp [gI,WO,hLn];omega
 have hF:∀ i,i < p.fns.length->p.fns[i]?=some (J4 p i)/\fs[i]?=some (Bv fs i):=fun i hi=>by
  unfold J4 Bv;rw [dO hi,dO (show i < fs.length by omega)];exact ⟨rfl,rfl⟩
 have hN:∀ i,i < p.nodes.length->p.nodes[i]?=some (KN p i)/\ns[i]?=some (Bv ns i):=fun i hi=>by
  unfold KN Bv;rw [dO hi,dO (show i < ns.length by omega)];exact ⟨rfl,rfl⟩
 have g0:Γ[s+0]?=some (.vech 9 1 (br p.globals) hg):=acB 0 _ rfl;have g1:Γ[s+1]?=some (.vech 56 2 (p.arrays.map az) ha):=acB 1 _ rfl;have g2:Γ[s+2]?=some (.vech 58 3 (List.zipWith ea p.fns fs) hf):=acB 2 _ rfl
 have gF:∀ i,i < p.fns.length->Γ[s+(3+i)]?=some (.vech 9 1 (br (J4 p i).params) (Bv fs i)):=fun i hi=>acB _ _ <| by
  unfold gI;rw [show 3+i=i+1+1+1 by omega,getElem?_cons_succ,getElem?_cons_succ,getElem?_cons_succ,fO G,tM (hF i hi).1 (hF i hi).2];rfl
 have g3:Γ[s+(3+p.fns.length)]?=some (.vech 62 5 (List.zipWith bs p.nodes ns) hn):=acB _ _ <| by
  unfold gI;rw [show 3+p.fns.length=p.fns.length+1+1+1 by omega,getElem?_cons_succ,getElem?_cons_succ,getElem?_cons_succ,fa G,WO,gT];rfl
 have gN:∀ i,i < p.nodes.length->Γ[s+(4+p.fns.length+i)]?=some (.vech 3 1 (fK (KN p i).kids) (Bv ns i)):=fun i hi=>acB _ _ <| by
  unfold gI;rw [show 4+p.fns.length+i=(p.fns.length+(i+1))+1+1+1 by omega,getElem?_cons_succ,getElem?_cons_succ,getElem?_cons_succ,fa G,WO,Nat.add_sub_cancel_left,getElem?_cons_succ,tM (hN i hi).1 (hN i hi).2];rfl
 obtain ⟨K1,Γ1,R1,k1,i1,cy,l1,r1,o1⟩:=hI.Ik (jf:=s+2) (N:=p.fns.length) (o:=1) (E:=9) (k':=1) (raw:=fun i=>ea (J4 p i) (Bv fs i)) (fin:=fun i=>au (J4 p i)) (ks:=fun i=>br (J4 p i).params) (hd:=fun i=>Bv fs i) (jp:=fun i=>s+(3+i)) g2
  ⟨by rw [jE];omega,fun i hi=>tM (hF i hi).1 (hF i hi).2⟩ (fun i hi=>⟨rfl,rfl⟩) gF (fun i hi=>by omega) (fun i j _ _ h=>by omega)
 obtain ⟨K2,FY,R2,k2,i2,kC,l2,r2,o2⟩:=i1.Ik (jf:=s+(3+p.fns.length)) (N:=p.nodes.length) (o:=4) (E:=3) (k':=1) (raw:=fun i=>bs (KN p i) (Bv ns i)) (fin:=fun i=>ax (KN p i)) (ks:=fun i=>fK (KN p i).kids) (hd:=fun i=>Bv ns i) (jp:=fun i=>s+(4+p.fns.length+i))
  (by rw [o1 _ G fun i hi=>by omega];exact g3) ⟨by rw [jE];omega,fun i hi=>tM (hN i hi).1 (hN i hi).2⟩ (fun i hi=>⟨rfl,rfl⟩) (fun i hi=>by rw [o1 _ G fun j hj=>by omega];exact gN i hi) (fun i hi=>by omega) (fun i j _ _ h=>by omega)
 have e1:R1=p.fns.map au:=by
  apply ext_getElem?;intro i
  by_cases hi:i < p.fns.length
  ·rw [r1 i hi,aP,(hF i hi).1];rfl
  ·rw [getElem?_eq_none G,getElem?_eq_none (by rw [bP];omega)]
 have e2:R2=p.nodes.map ax:=by
  apply ext_getElem?;intro i
  by_cases hi:i < p.nodes.length
  ·rw [r2 i hi,aP,(hN i hi).1];rfl
  ·rw [getElem?_eq_none G,getElem?_eq_none (by rw [bP];omega)]
 rw [e1] at cy;rw [e2] at kC
 have f1':FY[s+2]?=some (.vech 58 3 (p.fns.map au) hf):=by rw [o2 _ G fun i hi=>by omega];exact cy
 have g0':FY[s+0]?=some (.vech 9 1 (br p.globals) hg):=by rw [o2 _ G fun i hi=>by omega,o1 _ G fun i hi=>by omega];exact g0
 have g1':FY[s+1]?=some (.vech 56 2 (p.arrays.map az) ha):=by rw [o2 _ G fun i hi=>by omega,o1 _ G fun i hi=>by omega];exact g1
 obtain ⟨K3,k3,q0,i3⟩:=i2.uj g0';obtain ⟨K4,k4,q1,i4⟩:=i3.uj (i:=s+1) (by rw [aZ,dx,L G];exact g1');obtain ⟨K5,k5,q2,i5⟩:=i4.uj (i:=s+2) (by rw [aZ,aZ,dx,L G,dx,L G];exact f1');obtain ⟨K6,k6,q3,i6⟩:=i5.uj (i:=s+(3+p.fns.length)) (by rw [aZ,aZ,aZ,dx,L G,dx,L G,dx,L G];exact kC);have b:dX β β:=dX.refl β;refine ⟨K6,_,k1.trans (k2.trans (k3.trans (k4.trans (k5.trans k6)))),i6,.cons ((q0.mono (k4.trans (k5.trans k6)) b).pc rfl) (.cons ((q1.mono (k5.trans k6) b).pc rfl) (.cons ((q2.mono k6 b).pc rfl) (.cons (q3.pc rfl) .nil))),fun q hq=>?_⟩;rw [hlen] at hq;rw [aZ,aZ,aZ,aZ,dx,L G,dx,L G,dx,L G,dx,L G,o2 q G fun i hi=>by omega,o1 q G fun i hi=>by omega]
theorem Cm {B:Bs} {K:Fz} {β:Bt} {w:World} {A C:List Ob} {p:Src} {hg ha hf hn:Value} {fs ns:List Value} (H:ra p hg ha hf hn fs ns) (hI:Inv B K β (A++(gI p hg ha hf hn fs ns++C)) w) :
  ∃ K1,dh K K1/\lK K1 w/\jZ K1 (fun _=>.no) w/\bq K1 (fun _=>.no) [hg,ha,hf,hn] (av p):=by
 obtain ⟨K1,aR,F,I,h3,-⟩:=YC H (fun i x h=>by rw [V6 (bo h).1];exact h) hI;exact ⟨K1,F,I.fz,I.abN,h3⟩
theorem BC {K:Fz} {β:Bt} {v a b c d:Value} (h:Rel K β v (.agg [.v a,.v b,.v c,.v d])):v=.agg #[a,b,c,d]:=by
 cases h with
 | agg vs cs hl h =>
  match vs,hl with
  | [x,y,z,u],_ =>
   rw [Rel.gk (h 0 x _ rfl rfl),Rel.gk (h 1 y _ rfl rfl),Rel.gk (h 2 z _ rfl rfl),Rel.gk (h 3 u _ rfl rfl)]
theorem BE {K:Fz} {a b c d:Value} {gs:List GV} (h:bq K (fun _=>.no) [a,b,c,d] gs):Rel K (fun _=>.no) (.agg #[a,b,c,d]) (.agg gs):=.agg [a,b,c,d] gs h.1 h.2
section
variable {B:Bs} {K:Fz} {β:Bt} {w:World} {l:List Value} {fr:List GV} {A C X:List Ob} {p:Src} {hg ha hf hn:Value} {fs ns:List Value}
theorem yW {x y:Operand} {z:Value} (H:ra p hg ha hf hn fs ns) (hI:Inv B K β (A++(gI p hg ha hf hn fs ns++C)) w) (hF:FR K β fr l) (hx:bb fr x=.agg [.v hg,.v ha,.v hf,.v hn]) (hy:bb fr y=.v z) :
  ∃ K1,lK K1 w/\jZ K1 (fun _=>.no) w/\bq K1 (fun _=>.no) ([x,y].map (ev l)) [.agg (av p),.v z]:=by
 obtain ⟨K1,_,F,I,h3⟩:=Cm H hI;have hr:=hF.ev x;rw [hx] at hr;have e:=BC hr;refine ⟨K1,F,I,?_⟩;show bq K1 _ [ev l x,ev l y] _;rw [e,hF.jF hy];exact .cons (BE h3) (.cons (.v _) .nil)
theorem Og {K K1:Fz} {v:Value} {gs:List GV} (hk:dh K K1) (hp:∀ g∈gs,g.pc=true) (h:Rel K β v (.agg gs)):Rel K1 (fun _=>.no) v (.agg gs):=by
 cases h with
 | agg vs cs hl h =>
  exact .agg vs gs hl fun i v g F I=>((h i v g F I).mono hk (dX.refl β)).pc (hp g (bA I))
theorem NQ (p:Src):∀ g∈av p,g.pc=true:=fun g hg=>by
 simp only [av,List.mem_cons,List.not_mem_nil,or_false] at hg
 rcases hg with rfl | rfl | rfl | rfl <;> rfl
theorem sU {x y:Operand} (H:ra p hg ha hf hn fs ns) (hI:Inv B K β (A++(gI p hg ha hf hn fs ns++C)) w) (hF:FR K β fr l) (hx:bb fr x=.agg [.v hg,.v ha,.v hf,.v hn]) (hy:bb fr y=.agg (av p)) :
  ∃ K1,lK K1 w/\jZ K1 (fun _=>.no) w/\bq K1 (fun _=>.no) ([x,y].map (ev l)) [.agg (av p),.agg (av p)]:=by
 obtain ⟨K1,hk,F,I,h3⟩:=Cm H hI;have hr:=hF.ev x;rw [hx] at hr;have e:=BC hr;have eg:=hF.ev y;rw [hy] at eg;refine ⟨K1,F,I,?_⟩;show bq K1 _ [ev l x,ev l y] _;rw [e];exact .cons (BE h3) (.cons (Og hk (NQ p) eg) .nil)
end
end Go.Xg
set_option maxHeartbeats 4000000
namespace Go.Xg
open GV (U)
open Go.RowKit Go.Xw Go.Proofs Tryz
open Go.Xp (Nd Ar)
open Go.Sp (Src)
open Go.Im
attribute [local irreducible] GW GL GO YG GC GA be bg
def jk (k n:Nat):List (List GV):=(List.range n).map fun i=>[GV.v (ii ((k+i:Nat):Int))]
theorem ug (k n:Nat):(jk k n).length=n:=by simp [jk]
theorem Jp (k n:Nat):jk k (n+1)=jk k n++[[.v (ii ((k+n:Nat):Int))]]:=by simp [jk,range_succ]
theorem PG {k n i:Nat} (h:i < n):(jk k n)[i]?=some [.v (ii ((k+i:Nat):Int))]:=by simp [jk,h]
theorem Mv (k:Nat) (rows:List (List GV)) {i:Nat} (h:i < rows.length):(jk k i++rows.drop i).set i [.v (ii ((k+i:Nat):Int))]=jk k (i+1)++rows.drop (i+1):=by
 rw [ju h,List.set_append_right _ _ (by rw [ug];exact aE _),ug,gT,List.set_cons_zero,Jp,cS];rfl
theorem Mu (a:Option Addr) (c n k:Nat) (rows:List (List GV)) (hn:rows.length=n) (hb:k+n<=1099511627776) :
  GF prog 102 [.v (.slice a n c),.v (ii (k:Nat))] [.vech 3 1 rows (.slice a n c)] (.v (ii ((k+n:Nat):Int))) [.vech 3 1 (jk k n) (.slice a n c)]:=by
 refine ah func102 ntmps102 ?_;refine GW.loop (fun i:Nat=>n - i) (fun i fr Γ=>∃ R,fr=[.v (.slice a n c),.v (ii ((k+i:Nat):Int)),U,U,U,.v (ii (i:Nat)),U,U,U,U,U,U,U,U,U,U,U,U,U]/\Γ=[.vech 3 1 R (.slice a n c)]/\i<=n/\R=jk k i++rows.drop i) 0 ?_ ?_
 ·exact ⟨_,_,Wk.aH ar,_,rfl,rfl,aM _,rfl⟩
 rintro i _ _ ⟨R,rfl,rfl,hi,hR⟩
 have gh:R.length=n:=by rw [hR,aO,ug,jv];omega
 by_cases ak:i < n
 ·have hd:decide ((i:Int) < (n:Int))=true:=by simpa using ak
  have bR:=Mv k rows (i:=i) G;rw [<-hR] at bR;clear hR;refine D ?_;refine lV ?_;refine D ?_;exact ⟨i+1,⟨_,_,Wk.aH ar,_,rfl,rfl,ak,bR⟩,by show n - (i+1) < n - i;omega⟩
 ·have hd:decide ((i:Int) < (n:Int))=false:=by simpa using ak
  have gD:i=n:=by omega
  subst gD;rw [List.drop_of_length_le G,cY] at hR;subst hR;refine cw ?_;exact ay
theorem L1 (k n:Nat) (hb:k+n<=1099511627776):GF prog 103 [.sl 1 (jk k n),.v (ii (k:Nat))] [] (.v (ii ((k+n:Nat):Int))) []:=by
 have hm:=ug k n;refine ah func103 ntmps103 ?_;refine GW.loop (fun i:Nat=>n - i) (fun i fr Γ=>fr=[.sl 1 (jk k n),.v (ii ((k+i:Nat):Int)),U,U,U,.v (ii (i:Nat)),U,U,U,U,U,U,U,U,U,U,U,U,U,U,U]/\Γ=[]/\i<=n) 0 ?_ ?_
 ·exact ⟨_,_,Wk.aH ar,rfl,rfl,aM _⟩
 rintro i _ _ ⟨rfl,rfl,hi⟩
 by_cases ak:i < n
 ·have hd:decide ((i:Int) < ((jk k n).length:Int))=true:=by rw [hm];simpa using ak
  have hr:=PG (k:=k) ak
  have hs:(((k+i:Nat):Int) != ((k+i:Nat):Int))=false:=by simp
  refine D ?_;exact ⟨i+1,⟨_,_,Wk.aH ar,rfl,rfl,ak⟩,by show n - (i+1) < n - i;omega⟩
 ·have hd:decide ((i:Int) < ((jk k n).length:Int))=false:=by rw [hm];simpa using ak
  have gD:i=n:=by omega
  subst gD;refine cw ?_;exact ay
section
variable {B:Bs} {K:Fz} {β:Bt} {w:World} {fr:List GV} {l:List Value} {A X C:List Ob}
end
theorem RF (l:List Int):(fK l).length=l.length:=by simp [fK]
end Go.Xg
namespace Go.Xg
open Go.RowKit Go.Xw
section
variable {P:Program} {m:Nat} {Q:dU} {fr:List GV} {Γ:List Ob} {ops:Array Oper} {rest:List Oper} {d:Option Tmp} {op:Op} {ty:TypeId} {pos:String} {af:Array Edge}
def tB (β:Bt) (n:Nat) (bT:Bt):Bt:=fun i=>if i < n then β i else bT (i - n)
def Ob.plain:Ob->Prop
 | .vech _ _ rows _=>∀ r∈rows,∀ g∈r,∃ x,g=.v x
 | _=>False
theorem Inv.XS {B:Bs} {K K1 K':Fz} {β bT:Bt} {w w':World} {Δ:List Ob} (hI:Inv B K β Γ w) (bE:Inv ⟨w,jm,K1,fun _=>.no,0⟩ K' bT Δ w') (hΔ:∀ o∈Δ,Ob.plain o):Inv B K (tB β Γ.length bT) (Γ++Δ) w'/\dX β (tB β Γ.length bT):=by
 have zj:=hI.same bE.ext
 have iP:∀ i,i < Γ.length->tB β Γ.length bT i=β i:=fun i hi=>by unfold tB;rw [ab hi]
 have n7:∀ i,Γ.length<=i->tB β Γ.length bT i=bT (i - Γ.length):=fun i hi=>by unfold tB;rw [L G]
 have hle:dX β (tB β Γ.length bT):=fun i=>by
  by_cases hi:i < Γ.length
  ·rw [iP i hi];exact tN.refl _
  ·rw [hI.out i G];trivial
 have hold:∀ i b,(β i).blk=some b->b < w.heap.size:=fun i b hb=>by
  by_cases hi:i < Γ.length
  ·exact (hI.ob i _ (dO hi)).lt hb
  ·rw [hI.out i G] at hb;cases hb
 have D8:∀ i b,(bT i).blk=some b->w.heap.size<=b:=fun i b hb=>by
  rcases bE.own i b hb with h | h
  ·exact h.elim
  ·exact h
 have ey:∀ i b,(tB β Γ.length bT i).blk=some b->(i < Γ.length/\(β i).blk=some b)\/(Γ.length<=i/\(bT (i - Γ.length)).blk=some b):=fun i b hb=>by
  by_cases hi:i < Γ.length
  ·rw [iP i hi] at hb;exact .inl ⟨hi,hb⟩
  ·rw [n7 i G] at hb;exact .inr ⟨by omega,hb⟩
 refine ⟨⟨zj.ext,zj.kle,zj.ble.trans hle,zj.loc,zj.fz,fun i x hi=>?_,fun i hi=>?_,fun i j b F I=>?_,fun i b F=>?_,zj.kn,⟨zj.tab.le,zj.tab.pow,zj.tab.spc,fun i b h=>?_⟩⟩,hle⟩
 ·by_cases vD:i < Γ.length
  ·rw [fO vD] at hi;exact (zj.ob i x hi).ext (Ext.refl w') (fun _ _ h=>h) (dh.refl K) hle (iP i vD) (S:=jm) (fun _ _ _ h=>h)
  ·rw [fa G] at hi;have cZ:=hΔ x (bA hi)
   cases x with
   | vech E k rows v =>
    obtain ⟨xs,e1,e2,e3,e4,e5⟩:=bE.ob _ _ hi
    have Ap:∀ g∈rows.flatten,∃ x,g=.v x:=fun g hg=>by
     obtain ⟨r,h5,h6⟩:=List.mem_flatten.1 hg;exact cZ r h5 g h6
    refine ⟨xs,by rw [n7 i G];exact e1,e2,⟨e3.1,fun q u g h5 h6=>?_⟩,e4,fun b hb o=>?_⟩
    ·obtain ⟨y,rfl⟩:=Ap g (bA h6);rw [Rel.gk (e3.2 q u _ h5 h6)];exact .v _
    ·cases hk:K b o with
     | none=>rfl
     | some g =>
      have F:=hI.fz.lt hk;have I:=D8 (i - Γ.length) b (by rw [e1];exact hb);omega
   | _=>exact cZ.elim
 ·rw [aO] at hi;rw [n7 i G];exact bE.out _ G
 ·rcases ey i b F with ⟨a1,a2⟩ | ⟨a1,a2⟩ <;> rcases ey j b I with ⟨b1,b2⟩ | ⟨b1,b2⟩
  ·exact hI.dis i j b a2 b2
  ·have:=hold i b a2;have:=D8 _ b b2;omega
  ·have:=hold j b b2;have:=D8 _ b a2;omega
  ·have:=bE.dis _ _ b a2 b2;omega
 ·rcases ey i b F with ⟨a1,a2⟩ | ⟨a1,a2⟩
  ·exact hI.own i b a2
  ·exact .inr (kA hI.ext.size (D8 _ b a2))
 ·rcases ey i b h with ⟨a1,a2⟩ | ⟨a1,a2⟩
  ·exact zj.tab.free i b a2
  ·exact bE.tab.free _ b a2
def GV.Plain (g:GV):Prop:=∀ {K K':Fz} {β bT:Bt} {v:Value},Rel K β v g->Rel K' bT v g
theorem GV.KV (x:Value):GV.Plain (.v x):=fun h=>by rw [Rel.gk h];exact .v _
theorem GV.KU {cs:List GV} (hc:∀ c∈cs,GV.Plain c) {K K':Fz} {β bT:Bt} {vs:List Value} (h:∀ (i:Nat) v g,vs[i]?=some v->cs[i]?=some g->Rel K β v g):∀ (i:Nat) v g,vs[i]?=some v->cs[i]?=some g->Rel K' bT v g :=
 fun i v g F I=>hc g (bA I) (h i v g F I)
theorem GV.PU {cs:List GV} (hc:∀ c∈cs,GV.Plain c):GV.Plain (.agg cs):=fun h=>by
 cases h with
 | agg vs cs hl h=>exact .agg vs cs hl (GV.KU hc h)
theorem GV.PV {cs:List GV} (hc:∀ c∈cs,GV.Plain c):GV.Plain (.tup cs):=fun h=>by
 cases h with
 | tup vs cs hl h=>exact .tup vs cs hl (GV.KU hc h)
theorem GL.UB {f:FuncId} [hf:aJ P f] {args:List Operand} {nq:Array TypeId} {gs:List GV} {R:GV->List Ob->Prop} (hc:GC P f gs [] R)
  (hR:∀ g Δ,R g Δ->GV.Plain g/\∀ o∈Δ,Ob.plain o)
  (hv:∀ B K β w l,Inv B K β Γ w->FR K β fr l->∃ K1,lK K1 w/\jZ K1 (fun _=>.no) w/\bq K1 (fun _=>.no) (args.map (ev l)) gs)
  (h:∀ g Δ,R g Δ->GL P m ops Q rest (bJ fr d g) (Γ++Δ)):GL P m ops Q (⟨d,.call ⟨.value (.func f),args.toArray,nq⟩,ty,pos,af,none⟩::rest) fr Γ:=fun B K β w l hm hI hF=>by
 obtain ⟨K1,F,I,h3⟩:=hv B K β w l hI hF
 have tz:(execOp (ev l) ⟨d,.call ⟨.value (.func f),args.toArray,nq⟩,ty,pos,af,none⟩).run P w=.ok (.enter f (args.map (ev l)).toArray) w:=by simp [execOp,resolve,ev,Deferred.ofValue,invoke,ng]
 refine WL.calls tz (hc _ K1 _ w _ rfl (Inv.new F I) h3) ?_;rintro x w' ⟨K',bT,g,Δ,bE,fX,hr⟩;obtain ⟨p1,p2⟩:=hR g Δ hr;obtain ⟨hJ,hle⟩:=hI.XS bE p2;exact h g Δ hr B K _ w' _ hm hJ ((hF.mono (dh.refl K) hle).put d (p1 fX))
end
end Go.Xg
set_option maxHeartbeats 2000000
namespace Go.Xg
open GV (U)
open Go.RowKit Go.Xw Go.Proofs Tryz
open Go.Xp (Nd Ar)
open Go.Sp (Src)
open Go.Im (wS fC bC pj tG iY eM ph pg pf)
attribute [local irreducible] GW GL GO YG GC GA be bg
theorem Re (l:List Int) (hl:l.length<=1048576):GF prog 148 [ints l,ints l] [] (.v (.bool true)) []:=by
 have hm:(l.map (fun i=>[GV.v (ii i)])).length=l.length:=by simp
 have hd:(((l.map (fun i=>[GV.v (ii i)])).length:Int) != ((l.map (fun i=>[GV.v (ii i)])).length:Int))=false:=by simp
 refine ah func148 ntmps148 ?_;refine GW.loop (fun k:Nat=>l.length - k) (fun k fr Γ=>fr=[ints l,ints l,U,U,U,.v (ii (k:Nat)),U,U,U,U,U,U,U,U,U,U,U,U,U,U,U,U,U,U,U,U]/\Γ=[]/\k<=l.length) 0 ?_ ?_
 ·exact ⟨_,_,Wk.aH ar,rfl,rfl,aM _⟩
 rintro k _ _ ⟨rfl,rfl,hk⟩
 by_cases ak:k < l.length
 ·have hx:l[k]?=some l[k]:=by simp [ak]
  have hr:(l.map (fun i=>[GV.v (ii i)]))[k]?=some ([GV.v (ii l[k])]):=by rw [aP,hx];rfl
  have dZ:decide ((k:Int) < ((l.map (fun i=>[GV.v (ii i)])).length:Int))=true:=by rw [hm];simpa using ak
  generalize l[k]=x at *
  have hs:(x != x)=false:=by simp
  refine D ?_;refine aL (aD 0 9 .nil) ?_;refine bx ?_;exact ⟨k+1,⟨_,_,Wk.aH ar,rfl,rfl,ak⟩,by show l.length - (k+1) < l.length - k;omega⟩
 ·have dZ:decide ((k:Int) < ((l.map (fun i=>[GV.v (ii i)])).length:Int))=false:=by rw [hm];simpa using ak
  refine cw ?_;exact ay
theorem AW (l:List ae) (hl:l.length<=1048576):GF prog 46 [strs l,strs l] [] (.v (.bool true)) []:=by
 have hm:(l.map (fun s=>[GV.v (sv s)])).length=l.length:=by simp
 have hd:(((l.map (fun s=>[GV.v (sv s)])).length:Int) != ((l.map (fun s=>[GV.v (sv s)])).length:Int))=false:=by simp
 refine ah func46 ntmps46 ?_;refine GW.loop (fun k:Nat=>l.length - k) (fun k fr Γ=>fr=[strs l,strs l,U,U,U,.v (ii (k:Nat)),U,U,U,U,U,U,U,U,U,U,U,U,U,U,U,U,U,U,U,U]/\Γ=[]/\k<=l.length) 0 ?_ ?_
 ·exact ⟨_,_,Wk.aH ar,rfl,rfl,aM _⟩
 rintro k _ _ ⟨rfl,rfl,hk⟩
 by_cases ak:k < l.length
 ·have hx:l[k]?=some l[k]:=by simp [ak]
  have hr:(l.map (fun s=>[GV.v (sv s)]))[k]?=some ([GV.v (sv l[k])]):=by rw [aP,hx];rfl
  have dZ:decide ((k:Int) < ((l.map (fun s=>[GV.v (sv s)])).length:Int))=true:=by rw [hm];simpa using ak
  generalize l[k]=x at *
  have hs:(!(x==x))=false:=by simp
  refine D ?_;refine aL (aD 0 9 .nil) ?_;refine bx ?_;exact ⟨k+1,⟨_,_,Wk.aH ar,rfl,rfl,ak⟩,by show l.length - (k+1) < l.length - k;omega⟩
 ·have dZ:decide ((k:Int) < ((l.map (fun s=>[GV.v (sv s)])).length:Int))=false:=by rw [hm];simpa using ak
  refine cw ?_;exact ay
theorem NT (x:Ar):GF prog 98 [.agg (az x),.agg (az x)] [] (.v (.bool true)) []:=by
 have e0:(!(x.name==x.name))=false:=by simp
 have e1:(x.size != x.size)=false:=by simp
 refine ah func98 ntmps98 ?_;exact aj
theorem LQ (l:List Ar) (hl:l.length<=1048576):GF prog 47 [.sl 2 (l.map az),.sl 2 (l.map az)] [] (.v (.bool true)) []:=by
 have hm:(l.map az).length=l.length:=by simp
 have hd:(((l.map az).length:Int) != ((l.map az).length:Int))=false:=by simp
 refine ah func47 ntmps47 ?_;refine GW.loop (fun k:Nat=>l.length - k) (fun k fr Γ=>fr=[.sl 2 (l.map az),.sl 2 (l.map az),U,U,U,.v (ii (k:Nat)),U,U,U,U,U,U,U,U,U,U,U,U,U,U,U,U,U,U,U,U,U]/\Γ=[]/\k<=l.length) 0 ?_ ?_
 ·exact ⟨_,_,Wk.aH ar,rfl,rfl,aM _⟩
 rintro k _ _ ⟨rfl,rfl,hk⟩
 by_cases ak:k < l.length
 ·have hx:l[k]?=some l[k]:=by simp [ak]
  have hr:(l.map az)[k]?=some (az l[k]):=by rw [aP,hx];rfl
  have dZ:decide ((k:Int) < ((l.map az).length:Int))=true:=by rw [hm];simpa using ak
  have hc:=NT l[k];generalize l[k]=x at *;refine D ?_;refine aL (aD 0 8 (.a 8 (.q 9 .nil))) ?_;refine ao ?_;refine aI [] hc ?_;refine D ?_;exact ⟨k+1,⟨_,_,Wk.aH ar,rfl,rfl,ak⟩,by show l.length - (k+1) < l.length - k;omega⟩
 ·have dZ:decide ((k:Int) < ((l.map az).length:Int))=false:=by rw [hm];simpa using ak
  refine cw ?_;exact ay
theorem We (x:Go.Sp.Fn) (hp:x.params.length<=1048576):GF prog 99 [.agg (au x),.agg (au x)] [] (.v (.bool true)) []:=by
 have e0:(!(x.name==x.name))=false:=by simp
 have e1:(x.body != x.body)=false:=by simp
 have h0:=AW x.params hp;refine ah func99 ntmps99 ?_;refine V [] h0 ?_;exact aj
theorem UJ (l:List Go.Sp.Fn) (hl:l.length<=1048576) (he:∀ x∈l,x.params.length<=1048576):GF prog 48 [.sl 3 (l.map au),.sl 3 (l.map au)] [] (.v (.bool true)) []:=by
 have hm:(l.map au).length=l.length:=by simp
 have hd:(((l.map au).length:Int) != ((l.map au).length:Int))=false:=by simp
 refine ah func48 ntmps48 ?_;refine GW.loop (fun k:Nat=>l.length - k) (fun k fr Γ=>fr=[.sl 3 (l.map au),.sl 3 (l.map au),U,U,U,.v (ii (k:Nat)),U,U,U,U,U,U,U,U,U,U,U,U,U,U,U,U,U,U,U,U,U]/\Γ=[]/\k<=l.length) 0 ?_ ?_
 ·exact ⟨_,_,Wk.aH ar,rfl,rfl,aM _⟩
 rintro k _ _ ⟨rfl,rfl,hk⟩
 by_cases ak:k < l.length
 ·have hx:l[k]?=some l[k]:=by simp [ak]
  have hr:(l.map au)[k]?=some (au l[k]):=by rw [aP,hx];rfl
  have dZ:decide ((k:Int) < ((l.map au).length:Int))=true:=by rw [hm];simpa using ak
  have hex:=he _ (bA hx);have hc:=We l[k] hex;generalize l[k]=x at *;refine D ?_;refine aL (aD 0 8 (.a 8 (.q 9 .nil))) ?_;refine ao ?_;refine aI [] hc ?_;refine D ?_;exact ⟨k+1,⟨_,_,Wk.aH ar,rfl,rfl,ak⟩,by show l.length - (k+1) < l.length - k;omega⟩
 ·have dZ:decide ((k:Int) < ((l.map au).length:Int))=false:=by rw [hm];simpa using ak
  refine cw ?_;exact ay
theorem Rf (x:Nd) (hp:x.kids.length<=1048576):GF prog 100 [.agg (ax x),.agg (ax x)] [] (.v (.bool true)) []:=by
 have e0:(x.kind != x.kind)=false:=by simp
 have e1:(x.at_ != x.at_)=false:=by simp
 have e2:(x.n != x.n)=false:=by simp
 have e3:(!(x.s==x.s))=false:=by simp
 have h0:=Re x.kids hp;refine ah func100 ntmps100 ?_;refine V [] h0 ?_;exact aj
theorem NU (l:List Nd) (hl:l.length<=1048576) (he:∀ x∈l,x.kids.length<=1048576):GF prog 49 [.sl 5 (l.map ax),.sl 5 (l.map ax)] [] (.v (.bool true)) []:=by
 have hm:(l.map ax).length=l.length:=by simp
 have hd:(((l.map ax).length:Int) != ((l.map ax).length:Int))=false:=by simp
 refine ah func49 ntmps49 ?_;refine GW.loop (fun k:Nat=>l.length - k) (fun k fr Γ=>fr=[.sl 5 (l.map ax),.sl 5 (l.map ax),U,U,U,.v (ii (k:Nat)),U,U,U,U,U,U,U,U,U,U,U,U,U,U,U,U,U,U,U,U,U]/\Γ=[]/\k<=l.length) 0 ?_ ?_
 ·exact ⟨_,_,Wk.aH ar,rfl,rfl,aM _⟩
 rintro k _ _ ⟨rfl,rfl,hk⟩
 by_cases ak:k < l.length
 ·have hx:l[k]?=some l[k]:=by simp [ak]
  have hr:(l.map ax)[k]?=some (ax l[k]):=by rw [aP,hx];rfl
  have dZ:decide ((k:Int) < ((l.map ax).length:Int))=true:=by rw [hm];simpa using ak
  have hex:=he _ (bA hx);have hc:=Rf l[k] hex;generalize l[k]=x at *;refine D ?_;refine aL (aD 0 8 (.a 8 (.q 9 .nil))) ?_;refine ao ?_;refine aI [] hc ?_;refine D ?_;exact ⟨k+1,⟨_,_,Wk.aH ar,rfl,rfl,ak⟩,by show l.length - (k+1) < l.length - k;omega⟩
 ·have dZ:decide ((k:Int) < ((l.map ax).length:Int))=false:=by rw [hm];simpa using ak
  refine cw ?_;exact ay
theorem CF (x:Src) (hg:x.globals.length<=1048576) (ha:x.arrays.length<=1048576) (hf:x.fns.length<=1048576) (vB:∀ f∈x.fns,f.params.length<=1048576) (hn:x.nodes.length<=1048576) (wW:∀ n∈x.nodes,n.kids.length<=1048576):GF prog 10 [.agg (av x),.agg (av x)] [] (.v (.bool true)) []:=by
 have h0:=AW x.globals hg;have F:=LQ x.arrays ha;have I:=UJ x.fns hf vB;have h3:=NU x.nodes hn wW;refine ah func10 ntmps10 ?_;refine V [] h0 ?_;refine V [] F ?_;refine V [] I ?_;refine V [] h3 ?_;exact aj
end Go.Xg
namespace Go.Xg
open GV (U)
open Go.RowKit Go.Xw Go.Proofs Tryz
open Go.Xp (Nd T Ar)
open Go.Sp (Src)
open Go.Im
attribute [local irreducible] GW GL GO YG GC GA be bg
theorem zE (s:ae):GF prog 37 [.v (sv s)] [] (.v (.bool (gE s))) []:=by
 unfold gE qx rA iu
 cases F:(s==[103,101,116])
 all_goals cases I:(s==[112,117,116])
 all_goals
  refine ah func37 ntmps37 ?_;exact aj
theorem Gm {qK:FuncId} [aJ prog qK] (pr:Go.Sp.Fn->Bool) (l:List (Go.Sp.Fn)) (hn:l.length<=1099511627776) (hc:∀ x∈l,GF prog qK [.agg (au x)] [] (.v (.bool (pr x))) []) :
  GF prog 95 [.sl 3 (l.map au),.v (.func (.func qK) #[] #[])] [] (.v (ii (dA pr l))) []:=by
 have fJ:(l.map au).length=l.length:=by simp
 refine ah func95 ntmps95 ?_;refine GW.range (l.map au).length (fun k fr Γ=>fr=[.sl 3 (l.map au),.v (.func (.func qK) #[] #[]),U,U,U,U,U,.v (ii ((l.map au).length:Int)),.v (ii (k:Nat)),U,U,U,U,U,U,U,U,U,U]/\Γ=[]/\(l.take k).all (fun y=>!pr y)=true) ?_ G ?_ ?_ ?_
 ·exact kV
 ·exact jd
 ·rintro k _ _ ak ⟨rfl,rfl,aY⟩;rw [fJ] at ak;obtain ⟨x,dy⟩:∃ x,l[k]?=some x:=⟨l[k],by simp [ak]⟩
  have hr:(l.map au)[k]?=some (au x):=by rw [aP,dy];rfl
  have h:=hc x (bA dy);have bV:=oO (f:=pr) dy
  have hit:=fun h0=>pE (f:=pr) dy h0 aY
  unfold au at hr h
  cases hb:pr x with
  | true =>
   rw [hb] at h;rw [hit hb];refine D ?_;refine jR [] h ?_;exact ay
  | false =>
   rw [hb] at h bV;refine D ?_;refine jR [] h ?_;refine D ?_;exact ⟨rfl,rfl,_,_,Wk.aH ar,rfl,rfl,by rw [bV,aY];rfl⟩
 ·rintro _ _ ⟨rfl,rfl,aY⟩;rw [fJ,bW] at aY;rw [my aY];exact ay
theorem vl {qK:FuncId} [aJ prog qK] (pr:Go.Sp.Fn->Bool) (l:List (Go.Sp.Fn)) (hn:l.length<=1099511627776) (hc:∀ x∈l,GF prog qK [.agg (au x)] [] (.v (.bool (pr x))) []) :
  GF prog 140 [.sl 3 (l.map au),.v (.func (.func qK) #[] #[])] [] (.v (.bool (l.any pr))) []:=by
 have h:=Gm pr l hn hc;rw [<-zc];generalize dA pr l=z at *;refine ah func140 ntmps140 ?_;refine V [] h ?_;exact aj
theorem F0 {qK:FuncId} [aJ prog qK] (pr:Go.Sp.Fn->Bool) (s:ae) (l:List (Go.Sp.Fn)) (hn:l.length<=1099511627776) (hc:∀ x∈l,GF prog qK [.agg (au x),.box [.v (sv s)] 0] [] (.v (.bool (pr x))) []) :
  GF prog 95 [.sl 3 (l.map au),.fn (.func qK) [] [.box [.v (sv s)] 0]] [] (.v (ii (dA pr l))) []:=by
 have fJ:(l.map au).length=l.length:=by simp
 refine ah func95 ntmps95 ?_;refine GW.range (l.map au).length (fun k fr Γ=>fr=[.sl 3 (l.map au),.fn (.func qK) [] [.box [.v (sv s)] 0],U,U,U,U,U,.v (ii ((l.map au).length:Int)),.v (ii (k:Nat)),U,U,U,U,U,U,U,U,U,U]/\Γ=[]/\(l.take k).all (fun y=>!pr y)=true) ?_ G ?_ ?_ ?_
 ·exact kV
 ·exact jd
 ·rintro k _ _ ak ⟨rfl,rfl,aY⟩;rw [fJ] at ak;obtain ⟨x,dy⟩:∃ x,l[k]?=some x:=⟨l[k],by simp [ak]⟩
  have hr:(l.map au)[k]?=some (au x):=by rw [aP,dy];rfl
  have h:=hc x (bA dy);have bV:=oO (f:=pr) dy
  have hit:=fun h0=>pE (f:=pr) dy h0 aY
  unfold au at hr h
  cases hb:pr x with
  | true =>
   rw [hb] at h;rw [hit hb];refine D ?_;refine pk [] h ?_;exact ay
  | false =>
   rw [hb] at h bV;refine D ?_;refine pk [] h ?_;refine D ?_;exact ⟨rfl,rfl,_,_,Wk.aH ar,rfl,rfl,by rw [bV,aY];rfl⟩
 ·rintro _ _ ⟨rfl,rfl,aY⟩;rw [fJ,bW] at aY;rw [my aY];exact ay
theorem FZ {qK:FuncId} [aJ prog qK] (pr:Ar->Bool) (s:ae) (l:List (Ar)) (hn:l.length<=1099511627776) (hc:∀ x∈l,GF prog qK [.agg (az x),.box [.v (sv s)] 0] [] (.v (.bool (pr x))) []) :
  GF prog 93 [.sl 2 (l.map az),.fn (.func qK) [] [.box [.v (sv s)] 0]] [] (.v (ii (dA pr l))) []:=by
 have fJ:(l.map az).length=l.length:=by simp
 refine ah func93 ntmps93 ?_;refine GW.range (l.map az).length (fun k fr Γ=>fr=[.sl 2 (l.map az),.fn (.func qK) [] [.box [.v (sv s)] 0],U,U,U,U,U,.v (ii ((l.map az).length:Int)),.v (ii (k:Nat)),U,U,U,U,U,U,U,U,U,U]/\Γ=[]/\(l.take k).all (fun y=>!pr y)=true) ?_ G ?_ ?_ ?_
 ·exact kV
 ·exact jd
 ·rintro k _ _ ak ⟨rfl,rfl,aY⟩;rw [fJ] at ak;obtain ⟨x,dy⟩:∃ x,l[k]?=some x:=⟨l[k],by simp [ak]⟩
  have hr:(l.map az)[k]?=some (az x):=by rw [aP,dy];rfl
  have h:=hc x (bA dy);have bV:=oO (f:=pr) dy
  have hit:=fun h0=>pE (f:=pr) dy h0 aY
  unfold az at hr h
  cases hb:pr x with
  | true =>
   rw [hb] at h;rw [hit hb];refine D ?_;refine pk [] h ?_;exact ay
  | false =>
   rw [hb] at h bV;refine D ?_;refine pk [] h ?_;refine D ?_;exact ⟨rfl,rfl,_,_,Wk.aH ar,rfl,rfl,by rw [bV,aY];rfl⟩
 ·rintro _ _ ⟨rfl,rfl,aY⟩;rw [fJ,bW] at aY;rw [my aY];exact ay
theorem UP (x:Go.Sp.Fn) (s:ae):GF prog 96 [.agg (au x),.box [.v (sv s)] 0] [] (.v (.bool (x.name==s))) []:=by
 unfold au;refine ah func96 ntmps96 ?_;exact aj
theorem N9 (p:Src) (s:ae) (hn:p.fns.length<=1099511627776):GF prog 43 [.agg (av p),.v (sv s)] [] (.v (ii (dA (fun x:Go.Sp.Fn=>x.name==s) p.fns))) []:=by
 have h:=F0 (fun x:Go.Sp.Fn=>x.name==s) s p.fns hn (fun x _=>UP x s);generalize dA (fun x:Go.Sp.Fn=>x.name==s) p.fns=z at *;refine cL func43 ntmps43 ?_;refine jS ?_;refine GL.wk (Wk.freeze (i:=1) rfl rfl rfl (aM _)) ?_;refine GN (by simp only [oU,ou];rfl) ?_;refine D ?_;refine V [] h ?_;exact aj
theorem LH (x:Ar) (s:ae):GF prog 94 [.agg (az x),.box [.v (sv s)] 0] [] (.v (.bool (x.name==s))) []:=by
 unfold az;refine ah func94 ntmps94 ?_;exact aj
theorem yU (p:Src) (s:ae) (hn:p.arrays.length<=1099511627776):GF prog 42 [.agg (av p),.v (sv s)] [] (.v (ii (dA (fun x:Ar=>x.name==s) p.arrays))) []:=by
 have h:=FZ (fun x:Ar=>x.name==s) s p.arrays hn (fun x _=>LH x s);generalize dA (fun x:Ar=>x.name==s) p.arrays=z at *;refine cL func42 ntmps42 ?_;refine jS ?_;refine GL.wk (Wk.freeze (i:=1) rfl rfl rfl (aM _)) ?_;refine GN (by simp only [oU,ou];rfl) ?_;refine D ?_;refine V [] h ?_;exact aj
theorem MZ (x:Go.Sp.Fn):GF prog 177 [.agg (au x)] [] (.v (.bool (decide (x.params.length > 40)))) []:=by
 have h:decide ((40:Int) < ((x.params.map fun s=>[GV.v (sv s)]).length:Int))=decide (x.params.length > 40):=by
  rw [bP];exact decide_eq_decide.2 G
 rw [<-h];unfold au strs;refine ah func177 ntmps177 ?_;exact aj
theorem QO (x:Go.Sp.Fn):GF prog 141 [.agg (au x)] [] (.v (.bool (oc x))) []:=by
 have h:(((x.params.map fun s=>[GV.v (sv s)]).length:Int)==0)=(x.params.length==0):=by
  rw [bP];exact Bool.eq_iff_iff.2 (by simp)
 unfold oc w8;rw [<-h];unfold au strs
 cases F:(x.name==[109,97,105,110])
 all_goals
  refine ah func141 ntmps141 ?_;exact aj
end Go.Xg
namespace Go.Xg
open Go.RowKit Go.Xw Go.Proofs
open Go.Xp (Nd T Ar aK aB)
open Go.Sp (Src)
open Go.Im
attribute [local irreducible] GW GL GO YG GC GA be bg
section
variable {B:Bs} {K:Fz} {β:Bt} {w:World} {l:List Value} {fr:List GV} {A C:List Ob}
theorem fS {x y:Operand} {E k:Nat} {rows:List (List GV)} {h z:Value} (hI:Inv B K β (A++(.vech E k rows h::C)) w) (hF:FR K β fr l) (hx:bb fr x=.v h) (hy:bb fr y=.v z) :
  ∃ K1,lK K1 w/\jZ K1 (fun _=>.no) w/\bq K1 (fun _=>.no) ([x,y].map (ev l)) [.sl k rows,.v z]:=by
 obtain ⟨K1,hk,F,I,h3⟩:=hI.view (i:=A.length) (E:=E) (k:=k) (rows:=rows) (x:=h) (by rw [fa (aE _),gT];rfl);refine ⟨K1,F,I,?_⟩;show bq K1 _ [ev l x,ev l y] _;rw [hF.jF hx,hF.jF hy];exact .cons h3 (.cons (.v _) .nil)
end
theorem qV (l:List ae):(br l).length=l.length:=by simp [br]
end Go.Xg
set_option maxHeartbeats 4000000
namespace Go.Xg
open Go.RowKit Go.Xw Go.Proofs
open Go.Xp (Nd T Ar aK aB)
open Go.Sp (Src)
open Go.Im
attribute [local irreducible] GW GL GO YG GC GA be bg
theorem nN (l:List ae):kT (l.map fun s=>[GV.v (sv s)])=true:=by
 induction l with
 | nil=>rfl
 | cons s l ih=>rw [List.map_cons,kT,ih];rfl
theorem GW.Gz {P:Program} {m:Nat} {c:Code} {Q:dU} {fr cJ:List GV} {Γ aR:List Ob} (F:uF fr cJ) (I:Γ=aR) (h:GW P m c Q cJ aR):GW P m c Q fr Γ:=by
 subst I;exact GW.wk (Wk.aH F) h
end Go.Xg
namespace Go.Xg
open Go.RowKit Go.Xw Go.Proofs Tryz
open Go.Xp (Nd T Ar aK aB)
open Go.Sp (Src)
open Go.Im
attribute [local irreducible] GW GL GO YG GC GA be bg
def vH (n:Nd):Bool:=(n.kind==4&&n.s==[115,105,122,101])&&((n.kids.length:Int)==1)
theorem C8 (p:Src) (a:Nat) (n:Nd) (hn:p.nodes[a]?=some n):GF prog 179 [.agg (av p),.v (ii (a:Nat))] [] (.v (.bool (vH n))) []:=by
 have hr:=jL hn
 have fH:(n.kids.map fun i=>[GV.v (ii i)]).length=n.kids.length:=by simp
 unfold vH;rw [<-fH];unfold ax ints at hr;generalize (n.kids.map fun i=>[GV.v (ii i)])=kk at *
 cases F:(n.kind==4)
 all_goals cases I:(n.s==[115,105,122,101])
 all_goals
  refine ah func179 ntmps179 ?_;exact aj
theorem Yf (p:Src) (s:ae) (hn:p.fns.length<=1099511627776):GF prog 255 [.agg (av p),.v (sv s)] [] (.v (ii (mN p s))) []:=by
 have hF:=N9 p s hn;unfold mN qx rA iu
 cases F:(s==[103,101,116]) with
 | true =>
  rw [ab (by simpa using F)];refine ah func255 ntmps255 ?_;exact aj
 | false =>
  rw [L (by simpa using F)]
  cases I:(s==[112,117,116]) with
  | true =>
   rw [ab (.inl (by simpa using I))];refine ah func255 ntmps255 ?_;exact aj
  | false =>
   cases h3:(s==[115,105,122,101]) with
   | true =>
    rw [ab (.inr (by simpa using h3))];refine ah func255 ntmps255 ?_;exact aj
   | false =>
    rw [L (by simpa using And.intro (show ¬ s=[112,117,116] by simpa using I) (show ¬ s=[115,105,122,101] by simpa using h3))];unfold dA at hF
    cases hx:p.fns.findIdx? (fun f:Go.Sp.Fn=>f.name==s) with
    | none =>
     rw [hx] at hF
     have hd:decide ((0:Int) <= -1)=false:=by decide
     refine ah func255 ntmps255 ?_;refine V [] hF ?_;exact aj
    | some i =>
     rw [hx] at hF;have hi:i < p.fns.length:=(List.findIdx?_eq_some_iff_getElem.1 hx).1;obtain ⟨f,hf⟩:∃ f,p.fns[i]?=some f:=⟨p.fns[i],by simp [hi]⟩
     have hr:(p.fns.map au)[i]?=some (au f):=by rw [aP,hf];rfl
     have cZ:(f.params.map fun s=>[GV.v (sv s)]).length=f.params.length:=by simp
     have hd:decide ((0:Int)<=((i:Nat):Int))=true:=by simp
     unfold au at hr;simp only at hF |-;unfold nc;rw [hf];simp only;rw [<-cZ];refine ah func255 ntmps255 ?_;refine V [] hF ?_;exact aj
end Go.Xg
namespace Go.Xg
open Go.RowKit Go.Xw Go.Proofs Tryz
open Go.Xp (Nd T Ar aK aB dF bh)
open Go.Sp (Src)
open Go.Im
attribute [local irreducible] GW GL GO YG GC GA be bg
theorem Ky {p:Src} {a:Nat} {n:Nd} {l:List T} (cj:eF p.nodes a (.mk n l)):dn (.mk n l)=vH n:=by
 rw [eF] at cj;unfold dn vH iu
 congr 1
 rw [cj.2.1,dF]
 exact Bool.eq_iff_iff.2 (by
  show ((l.length==1)=true)↔_
  simp only [beq_iff_eq];omega)
theorem I8 (p:Src) (a:Nat) (n:Nd) (l:List T) (ls:List ae) (cj:eF p.nodes a (.mk n l)) (mT:p.fns.length<=1099511627776) (kK:p.arrays.length<=1099511627776) (iD:ls.length<=1099511627776) :
  GF prog 222 [.agg (av p),.v (ii (a:Nat)),strs ls] [] (.v (ii (eG p (.mk n l) ls))) []:=by
 have hs:=Ky cj;rw [eF] at cj;obtain ⟨hn,hk,uW⟩:=cj;have hS:=C8 p a n hn;have hr:=jL hn
 have fH:(n.kids.map fun i=>[GV.v (ii i)]).length=l.length:=by rw [bP,hk,dF]
 unfold eG;rw [hs]
 cases hz:vH n with
 | true =>
  rw [hz] at hS;rw [ab rfl]
  have gM:l.length=1:=by
   unfold vH at hz;simp only [aC,beq_iff_eq] at hz;rw [hk,dF] at hz;omega
  obtain ⟨u,rfl⟩:∃ u,l=[u]:=by
   match l,gM with
   | [u],_=>exact ⟨u,rfl⟩
  have hm:p.nodes[a+1]?=some u.n:=by
   rw [ed] at uW;have:=uW.1
   cases u;rw [eF] at this;exact this.1
  have A8:n.kids[0]?=some (((a+1:Nat)):Int):=by rw [hk];rfl
  have tz:=sG A8;have jI:=jL hm;show GF _ _ _ _ (.v (ii (if fZ p u.n ls=true then 24 else 0))) _;generalize u.n=m at *;have hA:=yU p m.s kK;have hL:=iz ls m.s iD;have hb:fZ p m ls=((m.kind != 2 || decide (dA (fun x:Ar=>x.name==m.s) p.arrays < 0)) || ls.contains m.s):=rfl;rw [hb];generalize dA (fun x:Ar=>x.name==m.s) p.arrays=z at *;unfold ax at hr jI
  cases F:(m.kind != 2) with
  | true =>
   refine ah func222 ntmps222 ?_;refine V [] hS ?_;refine aL (aD 0 8 (.a 8 (.a 9 .nil))) ?_;refine ao ?_;exact ay
  | false =>
   cases I:decide (z < 0) with
   | true =>
    refine ah func222 ntmps222 ?_;refine V [] hS ?_;refine aL (aD 0 8 (.a 8 (.a 9 .nil))) ?_;refine bx ?_;refine V [] hA ?_;exact aj
   | false =>
    generalize ls.contains m.s=b at *;cases b
    all_goals
     refine ah func222 ntmps222 ?_;refine V [] hS ?_;refine aL (aD 0 8 (.a 8 (.a 9 .nil))) ?_;refine bx ?_;refine V [] hA ?_;refine V [] hL ?_;exact aj
 | false =>
  rw [hz] at hS;rw [L aU];have hM:=Yf p n.s mT;show GF _ _ _ _ (.v (ii (if mN p n.s = -1 then 22 else if mN p n.s=(l.length:Int) then 0 else 23))) _;generalize mN p n.s=z at *;rw [<-fH];unfold ax at hr;unfold ints at hr;generalize (n.kids.map fun i=>[GV.v (ii i)])=kk at *
  cases F:(z == -1) with
  | true =>
   rw [ab (by simpa using F)];refine ah func222 ntmps222 ?_;refine V [] hS ?_;refine V [] hM ?_;exact aj
  | false =>
   rw [L (by simpa using F)]
   cases I:(z==(kk.length:Int)) with
   | true =>
    rw [ab (by simpa using I)];refine ah func222 ntmps222 ?_;refine V [] hS ?_;refine V [] hM ?_;exact aj
   | false =>
    rw [L (by simpa using I)];refine ah func222 ntmps222 ?_;refine V [] hS ?_;refine V [] hM ?_;exact aj
theorem Jr (p:Src) (a:Nat) (n:Nd) (l:List T) (ls:List ae) (cj:eF p.nodes a (.mk n l)) (mT:p.fns.length<=1099511627776) (kK:p.arrays.length<=1099511627776) (ek:p.globals.length<=1099511627776) (iD:ls.length<=1099511627776) :
  GF prog 180 [.agg (av p),.v (ii (a:Nat)),strs ls] [] (.v (ii (bY p (.mk n l) ls))) []:=by
 have hC:=I8 p a n l ls cj mT kK iD
 have hn:p.nodes[a]?=some n:=by rw [eF] at cj;exact cj.1
 clear cj;have hr:=jL hn;have hL:=iz ls n.s iD;have hG:=iz p.globals n.s ek;have hA:=yU p n.s kK
 have rp:(ls.map fun s=>[GV.v (sv s)]).length=ls.length:=by simp
 have he:bY p (.mk n l) ls=(if n.kind=13 then (if ls.contains n.s=true then 21 else if ls.length>=40 then 26 else 0)
  else if n.kind=2\/n.kind=7 then (if ls.contains n.s=false/\p.globals.contains n.s=false then 22 else 0)
  else if n.kind=3\/n.kind=8 then (if ls.contains n.s=true\/dA (fun x:Ar=>x.name==n.s) p.arrays < 0 then 24 else 0)
  else if n.kind=4 then eG p (.mk n l) ls else 0):=rfl
 rw [he];generalize eG p (.mk n l) ls=cf at *;obtain ⟨kd,at_,nn,s,ks⟩:=n;simp only at *;unfold ax at hr;simp only at hr;generalize dA (fun x:Ar=>x.name==s) p.arrays=z at *;generalize ls.contains s=b at *;generalize p.globals.contains s=g at *;rw [<-rp]
 by_cases eW:kd=13
 ·subst eW
  have Dq:((13:Int)==13)=true:=by decide
  rw [ab rfl]
  cases b with
  | true =>
   refine ah func180 ntmps180 ?_;refine V [] hL ?_;exact aj
  | false =>
   cases h4:decide ((40:Int)<=(((ls.map fun s=>[GV.v (sv s)]).length:Nat):Int)) with
   | true =>
    rw [L aU,ab (by simp at h4;omega)];refine ah func180 ntmps180 ?_;refine V [] hL ?_;exact aj
   | false =>
    rw [L aU,L (by simp at h4;omega)];refine ah func180 ntmps180 ?_;refine V [] hL ?_;exact aj
 rw [L eW]
 by_cases I:kd=2
 ·subst I
  have Dq:((2:Int)==13)=false:=by decide
  have q2:((2:Int)==2)=true:=by decide
  rw [ab aU]
  cases b with
  | true =>
   refine ah func180 ntmps180 ?_;refine V [] hL ?_;exact aj
  | false =>
   cases g
   all_goals
    refine ah func180 ntmps180 ?_;refine V [] hL ?_;refine V [] hG ?_;exact aj
 by_cases h7:kd=7
 ·subst h7
  have Dq:((7:Int)==13)=false:=by decide
  have q2:((7:Int)==2)=false:=by decide
  have q7:((7:Int)==7)=true:=by decide
  rw [ab aU]
  cases b with
  | true =>
   refine ah func180 ntmps180 ?_;refine V [] hL ?_;exact aj
  | false =>
   cases g
   all_goals
    refine ah func180 ntmps180 ?_;refine V [] hL ?_;refine V [] hG ?_;exact aj
 rw [L (by rintro (h | h);(· exact I h);exact h7 h)]
 by_cases h3:kd=3
 ·subst h3
  have Dq:((3:Int)==13)=false:=by decide
  have q2:((3:Int)==2)=false:=by decide
  have q7:((3:Int)==7)=false:=by decide
  have q3:((3:Int)==3)=true:=by decide
  rw [ab aU]
  cases b with
  | true =>
   refine ah func180 ntmps180 ?_;refine V [] hL ?_;exact aj
  | false =>
   cases hz:decide (z < 0) with
   | true =>
    rw [ab (.inr (by simpa using hz))];refine ah func180 ntmps180 ?_;refine V [] hL ?_;refine V [] hA ?_;exact aj
   | false =>
    rw [L (by rintro (h | h);(· cases h);(· simp at hz;omega))];refine ah func180 ntmps180 ?_;refine V [] hL ?_;refine V [] hA ?_;exact aj
 by_cases h8:kd=8
 ·subst h8
  have Dq:((8:Int)==13)=false:=by decide
  have q2:((8:Int)==2)=false:=by decide
  have q7:((8:Int)==7)=false:=by decide
  have q3:((8:Int)==3)=false:=by decide
  have q8:((8:Int)==8)=true:=by decide
  rw [ab aU]
  cases b with
  | true =>
   refine ah func180 ntmps180 ?_;refine V [] hL ?_;exact aj
  | false =>
   cases hz:decide (z < 0) with
   | true =>
    rw [ab (.inr (by simpa using hz))];refine ah func180 ntmps180 ?_;refine V [] hL ?_;refine V [] hA ?_;exact aj
   | false =>
    rw [L (by rintro (h | h);(· cases h);(· simp at hz;omega))];refine ah func180 ntmps180 ?_;refine V [] hL ?_;refine V [] hA ?_;exact aj
 rw [L (by rintro (h | h);(· exact h3 h);exact h8 h)]
 by_cases h4:kd=4
 ·subst h4
  have Dq:((4:Int)==13)=false:=by decide
  have q2:((4:Int)==2)=false:=by decide
  have q7:((4:Int)==7)=false:=by decide
  have q3:((4:Int)==3)=false:=by decide
  have q8:((4:Int)==8)=false:=by decide
  have q4:((4:Int)==4)=true:=by decide
  rw [ab rfl];refine ah func180 ntmps180 ?_;refine V [] hL ?_;refine V [] hC ?_;exact aj
 rw [L h4]
 have Dq:(kd==13)=false:=by simpa using eW
 have q2:(kd==2)=false:=by simpa using I
 have q7:(kd==7)=false:=by simpa using h7
 have q3:(kd==3)=false:=by simpa using h3
 have q8:(kd==8)=false:=by simpa using h8
 have q4:(kd==4)=false:=by simpa using h4
 refine ah func180 ntmps180 ?_;refine V [] hL ?_;exact aj
theorem Wq {K K1:Fz} {β:Bt} {v:Value} {gs:List GV} (hk:dh K K1) (hp:∀ g∈gs,g.pc=true) (h:Rel K β v (.agg gs)):Rel K1 (fun _=>.no) v (.agg gs):=by
 cases h with
 | agg vs cs hl h =>
  exact .agg vs gs hl fun i v g F I=>((h i v g F I).mono hk (dX.refl β)).pc (hp g (bA I))
theorem LP (p:Src):∀ g∈av p,g.pc=true:=fun g hg=>by
 simp only [av,List.mem_cons,List.not_mem_nil,or_false] at hg
 rcases hg with rfl | rfl | rfl | rfl <;> rfl
theorem pB {B:Bs} {K:Fz} {β:Bt} {w:World} {l:List Value} {fr:List GV} {A C:List Ob} {p:Src} {x y u:Operand} {E k:Nat} {rows:List (List GV)} {h z:Value} (hI:Inv B K β (A++(.vech E k rows h::C)) w) (hF:FR K β fr l) (hx:bb fr x=.agg (av p)) (hy:bb fr y=.v z) (hu:bb fr u=.v h) :
  ∃ K1,lK K1 w/\jZ K1 (fun _=>.no) w/\bq K1 (fun _=>.no) ([x,y,u].map (ev l)) [.agg (av p),.v z,.sl k rows]:=by
 obtain ⟨K1,hk,F,I,h3⟩:=hI.view (i:=A.length) (E:=E) (k:=k) (rows:=rows) (x:=h) (by rw [fa (aE _),gT];rfl);have hr:=hF.ev x;rw [hx] at hr;refine ⟨K1,F,I,?_⟩;show bq K1 _ [ev l x,ev l y,ev l u] _;rw [hF.jF hy,hF.jF hu];exact .cons (Wq hk (LP p) hr) (.cons (.v _) (.cons h3 .nil))
theorem VM (p:Src) (a:Nat) (n:Nd) (l:List T) (ls:List ae) (c:CS) (E1 E5 E6:TypeId) (ad:Option Addr) (cp:Nat) (cj:eF p.nodes a (.mk n l)) (mT:p.fns.length<=1099511627776) (kK:p.arrays.length<=1099511627776) (ek:p.globals.length<=1099511627776) (iD:ls.length<=1099511627776) :
  GF prog 178 [.v (ii (a:Nat)),.v (.slice ad ls.length cp),.loc 0 0,.loc 1 0,.box (av p) 0,.loc 2 0] [.box E1 [.v (ii c.code)],.box E5 [.v (ii c.skip)],.box E6 [.v (ii c.place)],.vech 9 1 (br ls) (.slice ad ls.length cp)] (.tup [])
   [.box E1 [.v (ii (c7 p c a (.mk n l) ls).code)],.box E5 [.v (ii (c7 p c a (.mk n l) ls).skip)],.box E6 [.v (ii (c7 p c a (.mk n l) ls).place)],.vech 9 1 (br ls) (.slice ad ls.length cp)]:=by
 have hs:=Ky cj;have hN:=Jr p a n l ls cj mT kK ek iD;rw [eF] at cj;obtain ⟨hn,hk,uW⟩:=cj;have hS:=C8 p a n hn;have hr:=jL hn;obtain ⟨code,place,skip⟩:=c;unfold c7;rw [hs];simp only;generalize bY p (.mk n l) ls=z at *
 cases F:(code != 0) with
 | true =>
  rw [ab (.inl (by simpa using F))];refine ah func178 ntmps178 ?_;exact iK
 | false =>
  cases I:(((a:Nat):Int)==skip) with
  | true =>
   rw [ab (.inr (by simpa using I))];refine ah func178 ntmps178 ?_;exact iK
  | false =>
   rw [L (by rintro (h | h);(· simp at F;exact h F);(· simp at I;exact I h))];simp only
   cases hz:vH n with
   | false =>
    rw [hz] at hS;rw [L (show ¬ (false=true) by decide)];unfold ax at hr
    cases h3:(z != 0) with
    | true =>
     rw [ab (by simpa using h3)];refine ah func178 ntmps178 ?_;refine V [] hS ?_;refine GL.borrow hN (fun B K β w l hI hF=>pB (A:=[_,_,_]) (C:=[]) hI hF rfl rfl rfl) ?_;refine bm ?_;exact iL
    | false =>
     rw [L (by simpa using h3)];refine ah func178 ntmps178 ?_;refine V [] hS ?_;refine GL.borrow hN (fun B K β w l hI hF=>pB (A:=[_,_,_]) (C:=[]) hI hF rfl rfl rfl) ?_;refine bm ?_;exact iL
   | true =>
    rw [hz] at hS;rw [ab rfl]
    have gM:l.length=1:=by
     unfold vH at hz;simp only [aC,beq_iff_eq] at hz;rw [hk,dF] at hz;omega
    obtain ⟨u,rfl⟩:∃ u,l=[u]:=by
     match l,gM with
     | [u],_=>exact ⟨u,rfl⟩
    have hm:p.nodes[a+1]?=some u.n:=by
     rw [ed] at uW;have:=uW.1
     cases u;rw [eF] at this;exact this.1
    have A8:n.kids[0]?=some (((a+1:Nat)):Int):=by rw [hk];rfl
    have tz:=sG A8;have jI:=jL hm;rw [show nK (.mk n [u])=u.n from rfl];generalize u.n=m at *;unfold ax at hr jI
    cases h4:(m.kind != 2) with
    | true =>
     rw [ab (show m.kind≠2 by simpa using h4)]
     cases h3:(z != 0) with
     | true =>
      rw [ab (by simpa using h3)];refine ah func178 ntmps178 ?_;refine V [] hS ?_;refine GL.borrow hN (fun B K β w l hI hF=>pB (A:=[_,_,_]) (C:=[]) hI hF rfl rfl rfl) ?_;refine bm ?_;exact iL
     | false =>
      rw [L (by simpa using h3)];refine ah func178 ntmps178 ?_;refine V [] hS ?_;refine GL.borrow hN (fun B K β w l hI hF=>pB (A:=[_,_,_]) (C:=[]) hI hF rfl rfl rfl) ?_;refine bm ?_;exact iL
    | false =>
     rw [L (show ¬ (m.kind≠2) by simpa using h4)]
     cases h3:(z != 0) with
     | true =>
      rw [ab (by simpa using h3)];refine ah func178 ntmps178 ?_;refine V [] hS ?_;refine GL.borrow hN (fun B K β w l hI hF=>pB (A:=[_,_,_]) (C:=[]) hI hF rfl rfl rfl) ?_;refine bm ?_;exact iL
     | false =>
      rw [L (by simpa using h3)];refine ah func178 ntmps178 ?_;refine V [] hS ?_;refine GL.borrow hN (fun B K β w l hI hF=>pB (A:=[_,_,_]) (C:=[]) hI hF rfl rfl rfl) ?_;refine bm ?_;exact iL
end Go.Xg
namespace Go.Xg
open GV (U)
open Go.RowKit Go.Xw Go.Proofs Tryz
open Go.Xp (Nd T Ar aK aB dF)
open Go.Sp (Src)
open Go.Im
attribute [local irreducible] GW GL GO YG GC GA be bg
def Ln (p:Src):GV:=.fn (.func 178) [] [.loc 0 0,.loc 1 0,.box (av p) 0,.loc 2 0]
def Uh (p:Src):GV:=.fn (.func 97) [] [.loc 3 0,.loc 4 0,.box (av p) 0,.loc 5 0]
def FG (p:Src) (E1 E5 E6 E2 E3 E4:TypeId) (s:CS) (ls:List ae) (ad:Option Addr) (cp:Nat):List Ob :=
 [.box E1 [.v (ii s.code)],.box E5 [.v (ii s.skip)],.box E6 [.v (ii s.place)],.box E2 [Ln p],.box E3 [.v (.slice ad ls.length cp)],.box E4 [Uh p],.vech 9 1 (br ls) (.slice ad ls.length cp)]
theorem SX (p:Src) (E1 E5 E6 E2 E3 E4:TypeId) (hp:p.nodes.length<=1048576) (fH:∀ n∈p.nodes,n.kids.length<=1099511627776) (mT:p.fns.length<=1099511627776) (kK:p.arrays.length<=1099511627776) (ek:p.globals.length<=1099511627776):∀ (N:Nat) (t:T),aK t<=N->∀ (a:Nat) (s:CS) (ls:List ae) (ad:Option Addr) (cp:Nat),eF p.nodes a t->ls.length+aK t<=8388608 ->
  GC prog 97 [.v (ii (a:Nat)),.loc 3 0,.loc 4 0,.box (av p) 0,.loc 5 0] (FG p E1 E5 E6 E2 E3 E4 s ls ad cp) fun g Δ=>g=.tup []/\∃ lh lj,Δ=FG p E1 E5 E6 E2 E3 E4 (gW (c7 p) t a s ls).1 (gW (c7 p) t a s ls).2 lh lj:=by
 intro N
 induction N with
 | zero=>intro t h;have:=jy t;omega
 | succ N ih =>
 intro t hN a s ls ad cp cj iD
 cases t with
 | mk n l =>
 rw [Go.Xp.aK] at hN iD;have zB:=cj;rw [eF] at cj;obtain ⟨hn,hk,uW⟩:=cj;rw [gW];have hr:=jL hn;have oW:=fH n (bA hn);have ht:=VM p a n l ls s E1 E5 E6 ad cp zB mT kK ek G;generalize iQ:(c7 p) s a (.mk n l) ls=s1 at *
 have vF:n.kids.length=l.length:=by rw [hk,dF]
 unfold ax at hr;unfold FG Ln Uh;refine ah func97 ntmps97 ?_;refine GL.sV [0,1,2,6] ht rfl rfl rfl (by repeat (first | exact trivial | refine ⟨rfl,?_⟩)) ?_;rintro _ _ ⟨rfl,rfl⟩;refine dH ?_;refine D ?_;refine GW.range (n.kids.map fun i=>[GV.v (ii i)]).length (fun k fr Γ=>∃ lh lj,fr=[.v (ii (a:Nat)),.loc 3 0,.loc 4 0,.box (av p) 0,.loc 5 0,U,U,U,U,U,U,U,U,U,U,U,U,ints n.kids,.v (ii ((n.kids.map fun i=>[GV.v (ii i)]).length:Int)),.v (ii (k:Nat)),U,U,U,U,U,U,U,U,U,U,U,U,U,U,U,U,U,U,U,U,U,U,U]/\Γ=FG p E1 E5 E6 E2 E3 E4 (dD (c7 p) (l.take k) (a+1) s1 ls).1 (dD (c7 p) (l.take k) (a+1) s1 ls).2 lh lj) ?_ (by rw [bP];omega) ?_ ?_ ?_
 ·exact ⟨_,_,Wk.aH ar,ad,cp,rfl,rfl⟩
 ·rintro k _ _ ⟨ad,cp,rfl,rfl⟩;exact dK
 ·rintro k _ _ ak ⟨ad,cp,rfl,rfl⟩;rw [bP,vF] at ak;obtain ⟨u,hu⟩:∃ u,l[k]?=some u:=⟨l[k],by simp [ak]⟩;have gy:=vI (n:=a+1) hu;rw [<-hk] at gy;have wY:=sG gy;have dr:=nS hu;have O4:eF p.nodes (a+1+aB (l.take k)) u:=ed.ix l (a+1) k u uW hu
  have hlen:(dD (c7 p) (l.take k) (a+1) s1 ls).2.length<=ls.length+aB (l.take k):=by
   rw [oS,aO];have:=la (l.take k);omega
  rw [BH _ hu];generalize (dD (c7 p) (l.take k) (a+1) s1 ls).1=s2 at *;generalize (dD (c7 p) (l.take k) (a+1) s1 ls).2=ls2 at *;have hv:=ih u G (a+1+aB (l.take k)) s2 ls2 ad cp O4 G;unfold FG Ln Uh at hv |-;refine D ?_;refine GL.sV [0,1,2,3,4,5,6] hv rfl rfl rfl (by repeat (first | exact trivial | refine ⟨rfl,?_⟩)) ?_;rintro _ _ ⟨rfl,lh,lj,rfl⟩;refine dH ?_;refine D ?_;exact ⟨rfl,rfl,_,_,Wk.aH ar,lh,lj,rfl,rfl⟩
 ·rintro _ _ ⟨ad,cp,rfl,rfl⟩;rw [bP,vF,bW]
  have hlen:(dD (c7 p) l (a+1) s1 ls).2.length<=ls.length+aB l:=by
   rw [oS,aO];have:=la l;omega
  generalize (dD (c7 p) l (a+1) s1 ls).1=s2 at *;generalize (dD (c7 p) l (a+1) s1 ls).2=ls2 at *;have Kk:(br ls2).length=ls2.length:=qV ls2;unfold FG Ln Uh;refine ba ?_
  cases hv:(n.kind==13) with
  | false =>
   rw [L (by simpa using hv)];refine D ?_;refine dz ?_;exact ⟨rfl,ad,cp,rfl⟩
  | true =>
   rw [ab (by simpa using hv)];refine D ?_;refine aL (aD 0 7 (.a 7 (.a 8 (.a 9 .nil)))) ?_;refine ao ?_;refine dC ?_;refine ao ?_;refine OA rfl rfl (GL.qA 6 (news:=[[.v (sv n.s)]]) rfl rfl rfl bj rfl rfl (by refine ⟨?_,?_⟩;(· show _+1<=_;omega);(· show (_+1) * _<=_;omega)) ?_);intro p8 p9;refine dd ?_;refine bx ?_;refine dz ?_;exact ⟨rfl,p8,p9,by simp [br]⟩
theorem UF (p:Src) (E1 E5 E6:TypeId) (i:Nat) (f:Go.Sp.Fn) (t:T) (s:CS) (hp:p.nodes.length<=1048576) (fH:∀ n∈p.nodes,n.kids.length<=1099511627776) (mT:p.fns.length<=1099511627776) (kK:p.arrays.length<=1099511627776) (ek:p.globals.length<=1099511627776)
  (hf:p.fns[i]?=some f) (ru:f.params.length<=1048576) (hb:0<=f.body) (cj:eF p.nodes f.body.toNat t) (dr:aK t<=1048576) :
  GF prog 44 [.agg (av p),.v (ii (i:Nat)),Ln p] [.box E1 [.v (ii s.code)],.box E5 [.v (ii s.skip)],.box E6 [.v (ii s.place)]] (.tup []) [.box E1 [.v (ii (gW (c7 p) t f.body.toNat s f.params).1.code)],.box E5 [.v (ii (gW (c7 p) t f.body.toNat s f.params).1.skip)],.box E6 [.v (ii (gW (c7 p) t f.body.toNat s f.params).1.place)]]:=by
 have hr:(p.fns.map au)[i]?=some (au f):=by rw [aP,hf];rfl
 have cZ:(f.params.map fun s=>[GV.v (sv s)]).length=f.params.length:=by simp
 have eO:=nN f.params;obtain ⟨b,vA⟩:∃ b:Nat,f.body=(b:Int):=⟨f.body.toNat,by omega⟩;rw [vA,pM] at cj |-;unfold au at hr;rw [vA] at hr;unfold Ln;refine cL func44 ntmps44 ?_;refine jS ?_;refine GL.wk (Wk.freeze (i:=3) rfl rfl rfl (aE _)) ?_;refine GN (by simp only [oU,ou];rfl) ?_;refine GL.wk (Wk.aH (cJ:=[U,.v (ii (i:Nat)),U,.box (av p) 0,U,.loc 4 0,U,U,U,U,U,U,U,strs f.params,U,U,U,U,U,U,U,U,U,U]) ar) ?_;refine GL.wk (Wk.kE 9 1) ?_;refine GL.qv 5 rfl rfl rfl rfl eO (by refine ⟨?_,?_⟩;(· rw [cZ];omega);(· rw [cZ];omega)) ?_;intro ad cp;rw [cZ];refine bm ?_;simp only [nil_append,length_nil,cI];refine D ?_;refine GW.Gz (cJ:=[U,.v (ii (i:Nat)),U,.box (av p) 0,U,.loc 4 0,.loc 6 0,.loc 7 0,U,U,U,U,U,U,U,U,U,U,U,U,U,U,U,U]) (aR:=[.box E1 [.v (ii s.code)],.box E5 [.v (ii s.skip)],.box E6 [.v (ii s.place)],.gone,.box _ [.fn (.func 178) [] [.loc 0 0,.loc 1 0,.box (av p) 0,.loc 2 0]],.vech 9 1 (br f.params) (.slice ad f.params.length cp),.box _ [.v (.slice ad f.params.length cp)],.box _ [.fn (.func 97) [] [.loc 4 0,.loc 6 0,.box (av p) 0,.loc 7 0]]]) ar rfl ?_;refine aL (aD 0 7 (.a 7 .nil)) ?_;refine ao ?_;have hv:=SX p E1 E5 E6;refine OA rfl rfl (GL.sV [0,1,2,4,6,7,5] (hv _ _ _ hp fH mT kK ek _ t (aE _) b s f.params ad cp cj G) rfl rfl rfl (by repeat (first | exact trivial | refine ⟨rfl,?_⟩)) ?_);rintro _ _ ⟨rfl,lh,lj,rfl⟩;refine ⟨by simp [FG],?_⟩;unfold FG;refine dd ?_;refine ao ?_;exact iL
end Go.Xg
namespace Go.Im
open Go.Xp Go.Sp
theorem JT {l:List ae}:wc l=false↔∀ k,k < l.length->pC l k=false:=by
 unfold wc;rw [any_eq_false];constructor
 ·intro h k hk;have:=h k (List.mem_range.2 hk);simpa using this
 ·intro h k hk;rw [h k (List.mem_range.1 hk)];decide
end Go.Im
namespace Go.Xg
open GV (U)
open Go.RowKit Go.Xw Go.Proofs Tryz
open Go.Xp (Nd T Ar aK aB dF)
open Go.Sp (Src)
open Go.Im
theorem YG.Gf {P:Program} {fr:List GV} {Γ:List Ob} {x up:Operand} {t e:TypeId} {k:Nat} [hT:oB P t e k] {rows:List (List GV)} {kk:IntKind} {i:Nat} (hx:bb fr x=.sl k rows) (hup:bb fr up=.v (.int kk i)) (hi:i < rows.length):YG P (.slice t x none (some up) none) fr Γ (.sl k (rows.take i)):=fun B K β w l hI hF=>by
 have h:=hF.ev x;rw [hx] at h;have Kl:=hF.jF hup;generalize hv:ev l x=v at h
 cases h with
 | sl0 a c=>simp at hi
 | sl b o c _ _ h hc =>
  refine ⟨.slice (some ⟨b,o,none⟩) i c,fun d ty pos af=>?_,?_⟩
  ·have pQ:¬ (c=0):=by omega
   have hle:(i:Int)<=(c:Int):=by omega
   have BR:i<=c:=by omega
   simp [execOp,Instr.sliceAt,Instr.slice,Instr.sliceBounds,Instr.sliceBound,asIntOf,hv,Kl,run_underlying hT.und,jX hT.siz,pQ,hle,BR,rf]
  ·have:=Rel.sl (K:=K) (β:=β) b o c k (rows.take i) (fun j r hr=>?_) (by simp;omega)
   ·rw [cX,Nat.min_eq_left (Nat.le_of_lt hi)] at this;exact this
   ·have hj:j < i:=by
     rcases Nat.lt_or_ge j i with F | F
     ·exact F
     ·rw [getElem?_eq_none (by rw [cX];omega)] at hr;cases hr
    rw [List.getElem?_take,ab hj] at hr;exact h j r hr
attribute [local irreducible] GW GL GO YG GC GA be bg
theorem Oa (p:Src) (i:Nat) (f:Go.Sp.Fn) (t:T) (hp:p.nodes.length<=1048576) (fH:∀ n∈p.nodes,n.kids.length<=1099511627776) (mT:p.fns.length<=1099511627776) (kK:p.arrays.length<=1099511627776) (ek:p.globals.length<=1099511627776)
  (hf:p.fns[i]?=some f) (ru:f.params.length<=1048576) (hb:0<=f.body) (cj:eF p.nodes f.body.toNat t) (dr:aK t<=1048576) :
  GF prog 142 [.agg (av p),.v (ii (i:Nat))] [] (.tup [.v (ii (gA p f t f.body.toNat).1),.v (ii (gA p f t f.body.toNat).2)]) []:=by
 have hr:(p.fns.map au)[i]?=some (au f):=by rw [aP,hf];rfl
 have fJ:(f.params.map fun s=>[GV.v (sv s)]).length=f.params.length:=by simp
 have hE:=UF p 3 3 3 i f t ⟨0,0,-1⟩ hp fH mT kK ek hf ru hb cj dr;unfold au at hr;unfold gA;refine ah func142 ntmps142 ?_;refine GW.range (f.params.map fun s=>[GV.v (sv s)]).length (fun k fr Γ=>fr=[U,.v (ii (i:Nat)),.loc 0 0,U,U,U,strs f.params,U,U,U,U,U,U,U,U,U,U,U,strs f.params,.v (ii ((f.params.map fun s=>[GV.v (sv s)]).length:Int)),.v (ii (k:Nat)),U,U,U,U,U,U,U,U,U,U,U,U,U,U,U,U]/\Γ=[.box 33 (av p)]/\∀ j,j < k->pC f.params j=false) ?_ G ?_ ?_ ?_
 ·exact ⟨_,_,Wk.aH ar,rfl,rfl,fun j hj=>absurd hj (Nat.not_lt_zero _)⟩
 ·exact jd
 ·rintro k _ _ ak ⟨rfl,rfl,aY⟩;have ov:=ak;rw [fJ] at ak;obtain ⟨x,hx⟩:∃ x,f.params[k]?=some x:=⟨f.params[k],by simp [ak]⟩
  have TN:(f.params.map fun s=>[GV.v (sv s)])[k]?=some [.v (sv x)]:=by rw [aP,hx];rfl
  have hC:=iz (f.params.take k) x (by rw [cX];omega)
  have hd:pC f.params k=(f.params.take k).contains x:=by unfold pC;rw [hx]
  rw [<-hd] at hC;unfold strs at hC;rw [map_take] at hC
  cases eA:pC f.params k with
  | true =>
   rw [eA] at hC
   have Xb:wc f.params=true:=by
    cases h:wc f.params with
    | true=>rfl
    | false=>rw [JT.1 h k ak] at eA;cases eA
   rw [ab Xb];refine D ?_;refine GL.q (YG.Gf rfl rfl ov) ?_;refine bm ?_;refine D ?_;refine V [] hC ?_;exact nV
  | false =>
   rw [eA] at hC;refine D ?_;refine GL.q (YG.Gf rfl rfl ov) ?_;refine bm ?_;refine D ?_;refine V [] hC ?_
   exact ⟨rfl,rfl,_,_,Wk.aH ar,rfl,rfl,fun j hj=>by
    rcases Nat.lt_succ_iff_lt_or_eq.1 hj with h | rfl
    ·exact aY j h
    ·exact eA⟩
 ·rintro _ _ ⟨rfl,rfl,aY⟩;rw [fJ] at aY;rw [L (by rw [JT.2 aY];decide)];refine ba ?_;refine GW.wk (Wk.freeze (i:=0) rfl rfl rfl (aM _)) ?_;refine GW.Gz (cJ:=[U,.v (ii (i:Nat)),.box (av p) 0,U,U,U,U,U,U,U,U,U,U,U,U,U,U,U,U,U,U,U,U,U,U,U,U,U,U,U,U,U,U,U,U,U,U]) (aR:=[.gone]) ar rfl ?_;refine D ?_;refine V [1,3,2] hE ?_;refine aL (aD 0 4 .nil) ?_;refine ao ?_;exact sM
end Go.Xg
namespace Go.Im
open Go.Xp Go.Sp
theorem ub {l:List Ar} {k:Nat} {a:Ar} (h:l[k]?=some a):eH (l.take (k+1))=eH (l.take k)+a.size:=by
 unfold eH;rw [cq,h,List.foldl_append];rfl
theorem wb {l:List Ar} (h:∀ a∈l,0<=a.size/\a.size<=2147483648):∀ k,0<=eH (l.take k)/\eH (l.take k)<=(k:Int) * 2147483648:=by
 intro k
 induction k with
 | zero=>simp [eH]
 | succ k ih =>
  cases hx:l[k]? with
  | none =>
   have:l.take (k+1)=l.take k:=by rw [cq,hx];simp
   rw [this];omega
  | some a =>
   have:=h a (bA hx);rw [ub hx];omega
end Go.Im
namespace Go.Xg
open GV (U)
open Go.RowKit Go.Xw Go.Proofs Tryz
open Go.Xp (Nd T Ar aK aB)
open Go.Sp (Src)
open Go.Im
attribute [local irreducible] GW GL GO YG GC GA be bg
theorem Qr (p:Src) (mT:p.fns.length<=1099511627776) (kK:p.arrays.length<=1048576) (dr:∀ a∈p.arrays,0<=a.size/\a.size<=2147483648):GF prog 139 [.agg (av p)] [] (.v (.bool (jQ p))) []:=by
 have fJ:(p.arrays.map az).length=p.arrays.length:=by simp
 have gC:(p.fns.map au).length=p.fns.length:=by simp
 have ek:(p.globals.map fun s=>[GV.v (sv s)]).length=p.globals.length:=by simp
 have hC:=vl (qK:=177) (fun x=>decide (x.params.length > 40)) p.fns mT (fun x _=>MZ x);unfold jQ;generalize p.fns.any (fun x=>decide (x.params.length > 40))=b4 at *;have hb:=wb dr;refine ah func139 ntmps139 ?_;refine GW.range (p.arrays.map az).length (fun k fr Γ=>fr=[U,.loc 0 0,U,.v (ii (eH (p.arrays.take k))),U,U,U,.sl 2 (p.arrays.map az),.v (ii ((p.arrays.map az).length:Int)),.v (ii (k:Nat)),U,U,U,U,U,U,U,U,U,U,U,U,U,U,U,U,U,U,U,U,U,U,U,U,U,U,U,U,U,U]/\Γ=[.box 33 (av p)]/\(p.arrays.take k).all (fun a=>!(a.size==0))=true) ?_ G ?_ ?_ ?_
 ·exact kV
 ·exact jd
 ·rintro k _ _ ak ⟨rfl,rfl,aY⟩;rw [fJ] at ak;obtain ⟨x,hx⟩:∃ x,p.arrays[k]?=some x:=⟨p.arrays[k],by simp [ak]⟩
  have hr:(p.arrays.map az)[k]?=some (az x):=by rw [aP,hx];rfl
  have bV:=oO (f:=fun a:Ar=>a.size==0) hx;have nC:=ub hx;have fT:=hb k;have ua:=dr x (bA hx);unfold az at hr
  cases F:(x.size==0) with
  | true =>
   have:p.arrays.any (fun a=>a.size==0)=true:=nX.2 ⟨x,bA hx,F⟩;rw [this];exact ay
  | false =>
   rw [nC];generalize eH (p.arrays.take k)=c at *;refine D ?_;exact ⟨rfl,rfl,_,_,(Wk.cut (n:=1) (aM _) rfl).trans (Wk.aH ar),rfl,rfl,by rw [bV,aY,F];rfl⟩
 ·rintro _ _ ⟨rfl,rfl,aY⟩;rw [fJ,bW] at aY |-
  have:p.arrays.any (fun a=>a.size==0)=false:=by
   rw [any_eq_false];rw [gV] at aY;intro x hx;simpa using aY x hx
  rw [this];have e1:decide (p.fns.length > 40)=decide ((40:Int) < ((p.fns.map au).length:Int)):=decide_eq_decide.2 (by rw [gC];omega);have e2:decide (p.globals.length > 29)=decide ((29:Int) < ((p.globals.map fun s=>[GV.v (sv s)]).length:Int)):=decide_eq_decide.2 (by rw [ek];omega);have e3:decide (eH p.arrays > 8000)=decide ((8000:Int) < eH p.arrays):=rfl;rw [e1,e2,e3];generalize eH p.arrays=c at *;refine ba ?_
  cases F:decide ((40:Int) < ((p.fns.map au).length:Int))
  all_goals cases I:decide ((29:Int) < ((p.globals.map fun s=>[GV.v (sv s)]).length:Int))
  all_goals cases h3:decide ((8000:Int) < c)
  all_goals
   refine D ?_
   first
    | (refine cH ?_;exact ⟨rfl,rfl⟩)
    | (refine fR [] hC ?_;refine D ?_;refine cH ?_;exact ⟨rfl,rfl⟩)
end Go.Xg
namespace Go.Im
open Go.Xp Go.Sp
theorem DP {l:List ae}:ff l=false↔∀ k,k < l.length->lR l k=false:=by
 unfold ff;rw [any_eq_false];constructor
 ·intro h k hk;have:=h k (List.mem_range.2 hk);simpa using this
 ·intro h k hk;rw [h k (List.mem_range.1 hk)];decide
theorem GK (p:Src) (l:List T) (a:Nat):gB p [] l a=(0,0):=by unfold gB;rfl
end Go.Im
namespace Go.Xg
open GV (U)
open Go.RowKit Go.Xw Go.Proofs Tryz
open Go.Xp (Nd T Ar aK aB)
open Go.Sp (Src)
open Go.Im
attribute [local irreducible] GW GL GO YG GC GA be bg
theorem M8 (p:Src) (hF:GF prog 63 [.agg (av p)] [] (.v (.bool false)) []):GF prog 89 [.agg (av p)] [] (.tup [.v (ii 20),.v (ii 0)]) []:=by
 refine ah func89 ntmps89 ?_;refine V [] hF ?_;exact nV
theorem Ly (p:Src) (l:List T) (ns:List ae) (CY:ns.length<=8388608) (gC:p.fns.length=l.length) (mT:p.fns.length<=1048576)
  (hF:GF prog 63 [.agg (av p)] [] (.v (.bool true)) [])
  (hA:GC prog 38 [.agg (av p)] [] fun g Δ=>∃ a c,g=.v (.slice a ns.length c)/\Δ=[.vech 9 1 (br ns) (.slice a ns.length c)])
  (hT:GF prog 139 [.agg (av p)] [] (.v (.bool (jQ p))) [])
  (hq:∀ i f t,p.fns[i]?=some f->l[i]?=some t->GF prog 142 [.agg (av p),.v (ii (i:Nat))] [] (.tup [.v (ii (gA p f t (aB (l.take i))).1),.v (ii (gA p f t (aB (l.take i))).2)]) []) :
  GF prog 89 [.agg (av p)] []
   (.tup [.v (ii (if ff ns=true then ((21,0):Int × Int) else if jQ p=true then (26,0) else if p.fns.any oc=false then (25,0) else gB p p.fns l 0).1),.v (ii (if ff ns=true then ((21,0):Int × Int) else if jQ p=true then (26,0) else if p.fns.any oc=false then (25,0) else gB p p.fns l 0).2)]) []:=by
 have fJ:(ns.map fun s=>[GV.v (sv s)]).length=ns.length:=by simp
 have qg:(p.fns.map au).length=p.fns.length:=by simp
 have hM:=vl (qK:=141) oc p.fns G (fun x _=>QO x);generalize jQ p=tm at *;refine ah func89 ntmps89 ?_;refine V [] hF ?_;refine cM [] hA ?_;rintro _ _ ⟨ad,cp,rfl,rfl⟩;refine dH ?_;refine GL.wk (Wk.ui (t:=14) (i:=1) rfl rfl rfl) ?_;refine GL.wk (Wk.cut (n:=1) (aM _) rfl) ?_;refine GL.wk (Wk.aH (cJ:=[U,.loc 0 0,U,U,U,U,U,U,U,U,U,U,U,U,strs ns,U,U,U,U,U,U,U,U,U,U,U,U,U,U,U,U,U,U,U,U,U,U,U,U,U,U,U,U,U,U,U,U,U,U,U,U,U,U,U,U]) ar) ?_;refine bm ?_;refine D ?_;refine GW.range (ns.map fun s=>[GV.v (sv s)]).length (fun k fr Γ=>fr=[U,.loc 0 0,U,U,strs ns,U,U,U,U,U,U,U,U,U,U,strs ns,.v (ii ((ns.map fun s=>[GV.v (sv s)]).length:Int)),.v (ii (k:Nat)),U,U,U,U,U,U,U,U,U,U,U,U,U,U,U,U,U,U,U,U,U,U,U,U,U,U,U,U,U,U,U,U,U,U,U,U,U]/\Γ=[.box 33 (av p)]/\∀ j,j < k->lR ns j=false) ?_ G ?_ ?_ ?_
 ·exact ⟨_,_,Wk.aH ar,rfl,rfl,fun j hj=>absurd hj (Nat.not_lt_zero _)⟩
 ·exact jd
 ·rintro k _ _ ak ⟨rfl,rfl,aY⟩;have ov:=ak;rw [fJ] at ak;obtain ⟨x,hx⟩:∃ x,ns[k]?=some x:=⟨ns[k],by simp [ak]⟩
  have TN:(ns.map fun s=>[GV.v (sv s)])[k]?=some [.v (sv x)]:=by rw [aP,hx];rfl
  have hR:=zE x;have hC:=iz (ns.take k) x (by rw [cX];omega)
  have hd:lR ns k=(gE x || (ns.take k).contains x):=by unfold lR;rw [hx]
  unfold strs at hC;rw [map_take] at hC
  cases F:gE x with
  | true =>
   rw [F] at hR hd
   have vA:ff ns=true:=by
    cases h:ff ns with
    | true=>rfl
    | false=>rw [DP.1 h k ak] at hd;simp at hd
   rw [ab vA];refine D ?_;refine V [] hR ?_;exact nV
  | false =>
   rw [F] at hR hd
   cases eA:(ns.take k).contains x with
   | true =>
    rw [eA] at hC hd
    have vA:ff ns=true:=by
     cases h:ff ns with
     | true=>rfl
     | false=>rw [DP.1 h k ak] at hd;simp at hd
    rw [ab vA];refine D ?_;refine V [] hR ?_;refine GL.q (YG.Gf rfl rfl ov) ?_;refine bm ?_;refine D ?_;refine V [] hC ?_;exact nV
   | false =>
    rw [eA] at hC hd;refine D ?_;refine V [] hR ?_;refine GL.q (YG.Gf rfl rfl ov) ?_;refine bm ?_;refine D ?_;refine V [] hC ?_
    exact ⟨rfl,rfl,_,_,Wk.aH ar,rfl,rfl,fun j hj=>by
     rcases Nat.lt_succ_iff_lt_or_eq.1 hj with h | rfl
     ·exact aY j h
     ·exact hd⟩
 ·rintro _ _ ⟨rfl,rfl,aY⟩;rw [fJ] at aY;rw [L (show ¬ ff ns=true by rw [DP.2 aY];decide)];refine ba ?_
  cases tm with
  | true =>
   rw [ab rfl];refine D ?_;refine V [] hT ?_;exact nV
  | false =>
   rw [L aU]
   cases hmn:p.fns.any oc with
   | false =>
    rw [hmn] at hM;rw [ab rfl];refine D ?_;refine V [] hT ?_;refine V [] hM ?_;exact nV
   | true =>
    rw [hmn] at hM;rw [L aU];refine D ?_;refine V [] hT ?_;refine V [] hM ?_;refine GW.range (p.fns.map au).length (fun k fr Γ=>fr=[U,.loc 0 0,U,U,U,U,U,U,U,U,U,U,U,U,U,U,U,U,U,U,U,U,U,U,U,U,U,U,U,U,U,U,U,U,U,U,U,U,U,.sl 3 (p.fns.map au),.v (ii ((p.fns.map au).length:Int)),.v (ii (k:Nat)),U,U,U,U,U,U,U,U,U,U,U,U,U]/\Γ=[.box 33 (av p)]/\gB p p.fns l 0=gB p (p.fns.drop k) (l.drop k) (aB (l.take k))) ?_ G ?_ ?_ ?_
    ·exact ⟨_,_,Wk.aH ar,rfl,rfl,by rw [drop_zero,drop_zero,take_zero,aB]⟩
    ·exact jd
    ·rintro k _ _ ak ⟨rfl,rfl,he⟩;rw [qg] at ak;obtain ⟨f,hf⟩:∃ f,p.fns[k]?=some f:=⟨p.fns[k],by simp [ak]⟩;obtain ⟨t,ht⟩:∃ t,l[k]?=some t:=⟨l[k]'G,dO _⟩;have hQ:=hq k f t hf ht
     have OL:p.fns.drop k=f::p.fns.drop (k+1):=by rw [ju ak];rw [dO ak] at hf;rw [uk hf]
     have dZ:l.drop k=t::l.drop (k+1):=by rw [ju G];rw [dO G] at ht;rw [uk ht]
     rw [OL,dZ,gB,<-SI ht] at he
     cases F:((gA p f t (aB (l.take k))).1 != 0) with
     | true =>
      rw [ab (by simpa using F)] at he;rw [he];generalize gA p f t (aB (l.take k))=r at *;refine D ?_;refine V [] hQ ?_;exact nV
     | false =>
      rw [L (by simpa using F)] at he;generalize gA p f t (aB (l.take k))=r at *;refine D ?_;refine V [] hQ ?_;exact ⟨rfl,rfl,_,_,Wk.aH ar,rfl,rfl,he⟩
    ·rintro _ _ ⟨rfl,rfl,he⟩;rw [qg,List.drop_length,GK] at he;rw [he];refine ba ?_;exact sM
theorem Ow (p:Src) (c z:Int) (h:GF prog 89 [.agg (av p)] [] (.tup [.v (ii c),.v (ii z)]) []):GF prog 35 [.agg (av p)] [] (.v (.bool (c==0))) []:=by
 refine ah func35 ntmps35 ?_;refine V [] h ?_;exact aj
end Go.Xg
namespace Go.Xg
open Go.RowKit Go.Xw Go.Proofs
open Go.Xp (Nd T Ar aK aB)
open Go.Sp (Src)
open Go.Im
attribute [local irreducible] GW GL GO YG GC GA be bg
end Go.Xg
set_option maxHeartbeats 2000000
namespace Go.Xg
open GV (U)
open Go.RowKit Go.Xw Go.Proofs Tryz
open Go.Xp (Nd T Ar)
open Go.Sp (Src)
open Go.Im
attribute [local irreducible] GW GL GO YG GC GA be bg
def cC (p:Src) (h:Value) (c:SS):List GV:=[strs p.globals,.sl 2 (p.arrays.map az),.sl 3 (p.fns.map au),.sl 5 (p.nodes.map ax),.v h,.v (ii c.code),.v (ii c.at_)]
theorem jA (p:Src) (h:Value) (c:SS) (k z:Int):GF prog 154 [.loc 0 0,.v (ii k),.v (ii z)] [.box 126 (cC p h c)] (.tup []) [.box 126 (cC p h (c.fail k z))]:=by
 unfold SS.fail
 cases hc:(c.code==0) with
 | true =>
  rw [ab (by simpa using hc)];unfold cC;refine ah func154 ntmps154 ?_;exact iK
 | false =>
  rw [L (by simpa using hc)];unfold cC;refine ah func154 ntmps154 ?_;exact iK
theorem yc (s:ae):GF prog 23 [.v (sv s)] [] (.v (.bool (gE s))) []:=by
 unfold gE qx rA iu
 cases F:(s==[103,101,116])
 all_goals cases I:(s==[112,117,116])
 all_goals
  refine ah func23 ntmps23 ?_;exact aj
theorem yb (p:Src) (s:ae) (hn:p.arrays.length<=1099511627776):GF prog 81 [.agg (av p),.v (sv s)] [] (.v (ii (dA (fun x:Ar=>x.name==s) p.arrays))) []:=by
 have fJ:(p.arrays.map az).length=p.arrays.length:=by simp
 refine ah func81 ntmps81 ?_;refine GW.range (p.arrays.map az).length (fun k fr Γ=>fr=[U,.v (sv s),.loc 0 0,U,U,U,U,U,.sl 2 (p.arrays.map az),.v (ii ((p.arrays.map az).length:Int)),.v (ii (k:Nat)),U,U,U,U,U,U,U,U,U,U]/\Γ=[.box 33 (av p)]/\(p.arrays.take k).all (fun y=>!(y.name==s))=true) ?_ G ?_ ?_ ?_
 ·exact kV
 ·exact jd
 ·rintro k _ _ ak ⟨rfl,rfl,aY⟩;rw [fJ] at ak;obtain ⟨x,dy⟩:∃ x,p.arrays[k]?=some x:=⟨p.arrays[k],by simp [ak]⟩
  have hr:(p.arrays.map az)[k]?=some (az x):=by rw [aP,dy];rfl
  have bV:=oO (f:=fun y:Ar=>y.name==s) dy
  have hit:=fun h0=>pE (f:=fun y:Ar=>y.name==s) dy h0 aY
  unfold az at hr
  cases hb:(x.name==s) with
  | true =>
   rw [hit hb];exact ay
  | false =>
   refine D ?_;exact ⟨rfl,rfl,_,_,(Wk.cut (n:=1) (aM _) rfl).trans (Wk.aH ar),rfl,rfl,by rw [bV,aY,hb];rfl⟩
 ·rintro _ _ ⟨rfl,rfl,aY⟩;rw [fJ,bW] at aY;rw [my aY];exact ay
theorem Ec (p:Src) (s:ae) (hn:p.fns.length<=1099511627776):GF prog 82 [.agg (av p),.v (sv s)] [] (.v (ii (dA (fun x:Go.Sp.Fn=>x.name==s) p.fns))) []:=by
 have fJ:(p.fns.map au).length=p.fns.length:=by simp
 refine ah func82 ntmps82 ?_;refine GW.range (p.fns.map au).length (fun k fr Γ=>fr=[U,.v (sv s),.loc 0 0,U,U,U,U,U,.sl 3 (p.fns.map au),.v (ii ((p.fns.map au).length:Int)),.v (ii (k:Nat)),U,U,U,U,U,U,U,U,U,U]/\Γ=[.box 33 (av p)]/\(p.fns.take k).all (fun y=>!(y.name==s))=true) ?_ G ?_ ?_ ?_
 ·exact kV
 ·exact jd
 ·rintro k _ _ ak ⟨rfl,rfl,aY⟩;rw [fJ] at ak;obtain ⟨x,dy⟩:∃ x,p.fns[k]?=some x:=⟨p.fns[k],by simp [ak]⟩
  have hr:(p.fns.map au)[k]?=some (au x):=by rw [aP,dy];rfl
  have bV:=oO (f:=fun y:Go.Sp.Fn=>y.name==s) dy
  have hit:=fun h0=>pE (f:=fun y:Go.Sp.Fn=>y.name==s) dy h0 aY
  unfold au at hr
  cases hb:(x.name==s) with
  | true =>
   rw [hit hb];exact ay
  | false =>
   refine D ?_;exact ⟨rfl,rfl,_,_,(Wk.cut (n:=1) (aM _) rfl).trans (Wk.aH ar),rfl,rfl,by rw [bV,aY,hb];rfl⟩
 ·rintro _ _ ⟨rfl,rfl,aY⟩;rw [fJ,bW] at aY;rw [my aY];exact ay
theorem U2 (l:List ae) (s:ae) (hn:l.length<=1099511627776):GF prog 137 [strs l,.v (sv s)] [] (.v (ii (wD l s))) []:=by
 have fJ:(l.map fun s=>[GV.v (sv s)]).length=l.length:=by simp
 unfold wD;refine ah func137 ntmps137 ?_;refine GW.range (l.map fun s=>[GV.v (sv s)]).length (fun k fr Γ=>fr=[strs l,.v (sv s),U,U,U,U,U,strs l,.v (ii ((l.map fun s=>[GV.v (sv s)]).length:Int)),.v (ii (k:Nat)),U,U,U,U,U,U,U,U,U]/\Γ=[]/\(l.take k).all (fun y=>!(y==s))=true) ?_ G ?_ ?_ ?_
 ·exact kV
 ·exact jd
 ·rintro k _ _ ak ⟨rfl,rfl,aY⟩;rw [fJ] at ak;obtain ⟨x,dy⟩:∃ x,l[k]?=some x:=⟨l[k],by simp [ak]⟩
  have hr:(l.map fun s=>[GV.v (sv s)])[k]?=some [.v (sv x)]:=by rw [aP,dy];rfl
  have bV:=oO (f:=fun y:ae=>y==s) dy
  have hit:=fun h0=>pE (f:=fun y:ae=>y==s) dy h0 aY
  cases hb:(x==s) with
  | true =>
   rw [hit hb];exact ay
  | false =>
   refine D ?_;exact ⟨rfl,rfl,_,_,Wk.aH ar,rfl,rfl,by rw [bV,aY,hb];rfl⟩
 ·rintro _ _ ⟨rfl,rfl,aY⟩;rw [fJ,bW] at aY;rw [my aY];exact ay
end Go.Xg
set_option maxHeartbeats 4000000
namespace Go.Im
open Go.Xp Go.Sp
def y5 (l:List ae) (k:Nat):Bool:=(List.range k).any (pC l)
theorem EV (l:List ae) (k:Nat):y5 l (k+1)=(y5 l k || pC l k):=by
 unfold y5;rw [range_succ,any_append];simp
def lN (f:Go.Sp.Fn) (c:SS) (k:Nat):SS:=⟨f.params.take k,if y5 f.params k=true then iq c.code 21 else c.code,if y5 f.params k=true/\c.code=0 then 0 else c.at_⟩
theorem Si {f:Go.Sp.Fn} {c:SS} {k:Nat} (h:pC f.params k=true):(lN f c (k+1)).code=((lN f c k).fail 21 0).code/\(lN f c (k+1)).at_=((lN f c k).fail 21 0).at_:=by
 unfold lN SS.fail;simp only [EV,h,Bool.or_true,true_and,if_true];unfold iq
 cases y5 f.params k <;> by_cases h0:c.code=0 <;> simp [h0]
theorem PT {f:Go.Sp.Fn} {c:SS} {k:Nat} (h:pC f.params k=false):(lN f c (k+1)).code=(lN f c k).code/\(lN f c (k+1)).at_=(lN f c k).at_:=by
 unfold lN;simp only [EV,h,Bool.or_false,and_self]
end Go.Im
namespace Go.Xg
open GV (U)
open Go.RowKit Go.Xw Go.Proofs Tryz
open Go.Xp (Nd T Ar aK aB)
open Go.Sp (Src)
open Go.Im
attribute [local irreducible] GW GL GO YG GC GA be bg
theorem Jl (p:Src) (h0:Value) (c:SS) (f:Go.Sp.Fn) (ru:f.params.length<=1048576) :
  GC prog 108 [.loc 0 0,.agg (au f)] [.box 126 (cC p h0 c)] fun g Δ=>g=.tup []/\∃ ad cp,Δ=[.box 126 (cC p (.slice ad f.params.length cp) (rH f c)),.vech 9 1 (br f.params) (.slice ad f.params.length cp)]:=by
 have fJ:(f.params.map fun s=>[GV.v (sv s)]).length=f.params.length:=by simp
 have xU:rH f c=⟨f.params,(lN f c f.params.length).code,(lN f c f.params.length).at_⟩:=by
  unfold rH lN y5 wc;rfl
 rw [xU]
 have rn:(lN f c 0).code=c.code/\(lN f c 0).at_=c.at_:=by unfold lN y5;simp
 rw [show cC p h0 c=cC p h0 (lN f c 0) by unfold cC;rw [rn.1,rn.2]];unfold cC au;refine cL func108 ntmps108 ?_;refine GW.wk (Wk.kE 9 1) ?_;simp only [cons_append,nil_append];refine D ?_;refine GW.range (f.params.map fun s=>[GV.v (sv s)]).length (fun k fr Γ=>∃ ad cp R n B,fr=[.loc 0 0,U,U,.loc 2 0,U,U,U,U,U,U,strs f.params,.v (ii ((f.params.map fun s=>[GV.v (sv s)]).length:Int)),.v (ii (k:Nat)),U,U,U,U,U,U,U,U,U,U,U,U,U,U,U,U,U,U,U,U,U,U]/\Γ=[.box 126 (cC p (.slice ad n cp) (lN f c k)),.vech 9 1 R (.slice ad n cp),B]/\R.length=n/\R=br (f.params.take k)) ?_ G ?_ ?_ ?_
 ·exact ⟨_,_,Wk.aH ar,none,0,[],0,_,rfl,rfl,rfl,by simp [br]⟩
 ·rintro k _ _ ⟨ad,cp,R,n,B,rfl,rfl,_⟩;exact dK
 ·rintro k _ _ ak ⟨ad,cp,R,n,B,rfl,rfl,gh,hR⟩;rw [fJ] at ak;obtain ⟨x,hx⟩:∃ x,f.params[k]?=some x:=⟨f.params[k],by simp [ak]⟩
  have TN:(f.params.map fun s=>[GV.v (sv s)])[k]?=some [.v (sv x)]:=by rw [aP,hx];rfl
  have bV:br (f.params.take (k+1))=R++[[.v (sv x)]]:=by rw [cq,hx,hR];simp [br]
  have zw:n<=1048576:=by rw [<-gh,hR,qV,cX];omega
  have hL:GF prog 25 [.sl 1 R,.v (sv x)] [] (.v (.bool ((f.params.take k).contains x))) []:=by
   rw [hR];exact iG (f.params.take k) x (by rw [cX];omega)
  have hd:pC f.params k=(f.params.take k).contains x:=by unfold pC;rw [hx]
  rw [<-hd] at hL;have jh:=jA p (.slice ad n cp) (lN f c k) 21 0;clear hR
  cases hb:pC f.params k with
  | true =>
   rw [hb] at hL;obtain ⟨e1,e2⟩:=Si (c:=c) hb;unfold cC at jh |-;rw [e1,e2];generalize (lN f c k).fail 21 0=s1 at *;generalize lN f c k=s0 at *;refine D ?_;refine GL.borrow hL (fun B K β w l hI hF=>fS (A:=[_]) (C:=[_]) hI hF rfl rfl) ?_;refine bm ?_;refine D ?_;refine V [0] jh ?_;refine GL.pI 1 rfl rfl rfl rfl rfl rfl rfl rfl bj sL ?_;intro p8 p9;refine dk ?_;refine D ?_;exact ⟨rfl,rfl,_,_,Wk.aH ar,p8,p9,_,_,_,rfl,rfl,by simp [gh],bV.symm⟩
  | false =>
   rw [hb] at hL;obtain ⟨e1,e2⟩:=PT (c:=c) hb;unfold cC at jh |-;rw [e1,e2];generalize lN f c k=s0 at *;refine D ?_;refine GL.borrow hL (fun B K β w l hI hF=>fS (A:=[_]) (C:=[_]) hI hF rfl rfl) ?_;refine bm ?_;refine D ?_;refine GL.pI 1 rfl rfl rfl rfl rfl rfl rfl rfl bj sL ?_;intro p8 p9;refine dk ?_;refine D ?_;exact ⟨rfl,rfl,_,_,Wk.aH ar,p8,p9,_,_,_,rfl,rfl,by simp [gh],bV.symm⟩
 ·rintro _ _ ⟨ad,cp,R,n,B,rfl,rfl,gh,hR⟩;rw [fJ] at hR |-;rw [bW] at hR
  have kX:n=f.params.length:=by rw [<-gh,hR,qV]
  subst kX;refine D ?_;refine ny ?_;exact Wv (n:=2) rfl dI (fq rfl) rfl ⟨rfl,ad,cp,by rw [hR];rfl⟩
def cO (p:Src) (c:SS) (ls:List ae) (ad:Option Addr) (cp:Nat):List Ob:=[.box 126 (cC p (.slice ad ls.length cp) c),.vech 9 1 (br ls) (.slice ad ls.length cp)]
theorem Jj (p:Src) (c:SS) (n:Nd) (l:List T) (ad:Option Addr) (cp:Nat) (F:(n.s==[103,101,116])=true) (hl:l.length<=1099511627776) :
  GF prog 155 [.loc 0 0,.agg (cT (.mk n l))] (cO p c c.ls ad cp) (.v (.bool true)) (cO p (fF c n l.length 0) c.ls ad cp):=by
 have eB:(aQ l).length=l.length:=aX l;unfold cO;unfold fF;show GF _ _ _ _ (.v (.bool true)) [.box _ (cC p _ (if l.length≠0 then _ else _)),_];have jh:=jA p (.slice ad c.ls.length cp) c 23 n.at_;unfold cC at jh |-
 cases hk:(((aQ l).length:Int) != ((0:Nat):Int)) with
 | true =>
  rw [ab (show l.length≠0 by rw [eB,bne_iff_ne] at hk;omega)];generalize c.fail 23 n.at_=c1 at *;refine ah func155 ntmps155 ?_;refine V [0] jh ?_;exact aj
 | false =>
  rw [L (show ¬ l.length≠0 by rw [eB,bne_eq_false_iff_eq] at hk;omega)];refine ah func155 ntmps155 ?_;exact aj
theorem Jk (p:Src) (c:SS) (n:Nd) (l:List T) (ad:Option Addr) (cp:Nat) (F:(n.s==[103,101,116])=false) (I:(n.s==[112,117,116])=true) (hl:l.length<=1099511627776) :
  GF prog 155 [.loc 0 0,.agg (cT (.mk n l))] (cO p c c.ls ad cp) (.v (.bool true)) (cO p (fF c n l.length 1) c.ls ad cp):=by
 have eB:(aQ l).length=l.length:=aX l;unfold cO;unfold fF;show GF _ _ _ _ (.v (.bool true)) [.box _ (cC p _ (if l.length≠1 then _ else _)),_];have jh:=jA p (.slice ad c.ls.length cp) c 23 n.at_;unfold cC at jh |-
 cases hk:(((aQ l).length:Int) != ((1:Nat):Int)) with
 | true =>
  rw [ab (show l.length≠1 by rw [eB,bne_iff_ne] at hk;omega)];generalize c.fail 23 n.at_=c1 at *;refine ah func155 ntmps155 ?_;refine V [0] jh ?_;exact aj
 | false =>
  rw [L (show ¬ l.length≠1 by rw [eB,bne_eq_false_iff_eq] at hk;omega)];refine ah func155 ntmps155 ?_;exact aj
theorem Ml (p:Src) (c:SS) (n:Nd) (l:List T) (ad:Option Addr) (cp:Nat) (F:(n.s==[103,101,116])=false) (I:(n.s==[112,117,116])=false) (h3:(n.s==[115,105,122,101])=false) (hl:l.length<=1099511627776)
  (hF:GF prog 82 [.agg (av p),.v (sv n.s)] [] (.v (ii (-1))) []) :
  GF prog 155 [.loc 0 0,.agg (cT (.mk n l))] (cO p c c.ls ad cp) (.v (.bool false)) (cO p (c.fail 22 n.at_) c.ls ad cp):=by
 have jh:=jA p (.slice ad c.ls.length cp) c 22 n.at_
 have hd:decide ((-1:Int) < 0)=true:=by decide
 unfold cO;unfold cC at jh |-;generalize c.fail 22 n.at_=c1 at *;refine ah func155 ntmps155 ?_;refine aL (aD 0 7 (.a 7 (.q 8 .nil))) ?_;refine ao ?_;refine aI [] hF ?_;refine D ?_;refine V [0] jh ?_;exact aj
theorem Mk (p:Src) (c:SS) (n:Nd) (l:List T) (i:Nat) (f:Go.Sp.Fn) (ad:Option Addr) (cp:Nat) (F:(n.s==[103,101,116])=false) (I:(n.s==[112,117,116])=false) (h3:(n.s==[115,105,122,101])=false) (hl:l.length<=1099511627776)
  (hf:p.fns[i]?=some f) (hF:GF prog 82 [.agg (av p),.v (sv n.s)] [] (.v (ii ((i:Nat):Int))) []) :
  GF prog 155 [.loc 0 0,.agg (cT (.mk n l))] (cO p c c.ls ad cp) (.v (.bool true)) (cO p (fF c n l.length f.params.length) c.ls ad cp):=by
 have eB:(aQ l).length=l.length:=aX l
 have hd:decide (((i:Nat):Int) < 0)=false:=by simp
 have hr:(p.fns.map au)[i]?=some (au f):=by rw [aP,hf];rfl
 have cZ:(f.params.map fun s=>[GV.v (sv s)]).length=f.params.length:=by simp
 unfold au at hr;rw [<-cZ];unfold cO;unfold fF;show GF _ _ _ _ (.v (.bool true)) [.box _ (cC p _ (if l.length≠(f.params.map fun s=>[GV.v (sv s)]).length then _ else _)),_];have jh:=jA p (.slice ad c.ls.length cp) c 23 n.at_;unfold cC at jh |-
 cases hk:(((aQ l).length:Int) != (((f.params.map fun s=>[GV.v (sv s)]).length:Nat):Int)) with
 | true =>
  rw [ab (show l.length≠(f.params.map fun s=>[GV.v (sv s)]).length by rw [eB,bne_iff_ne] at hk;omega)];generalize c.fail 23 n.at_=c1 at *;refine ah func155 ntmps155 ?_;refine aL (aD 0 7 (.a 7 (.q 8 .nil))) ?_;refine ao ?_;refine aI [] hF ?_;refine D ?_;refine V [0] jh ?_;exact aj
 | false =>
  rw [L (show ¬ l.length≠(f.params.map fun s=>[GV.v (sv s)]).length by rw [eB,bne_eq_false_iff_eq] at hk;omega)];refine ah func155 ntmps155 ?_;refine aL (aD 0 7 (.a 7 (.q 8 .nil))) ?_;refine ao ?_;refine aI [] hF ?_;exact ay
theorem F3 (p:Src) (c:SS) (n:Nd) (u:T) (ad:Option Addr) (cp:Nat) (F:(n.s==[103,101,116])=false) (I:(n.s==[112,117,116])=false) (h3:(n.s==[115,105,122,101])=true) (kK:p.arrays.length<=1099511627776) (iD:c.ls.length<=1099511627776) :
  GF prog 155 [.loc 0 0,.agg (cT (.mk n [u]))] (cO p c c.ls ad cp) (.v (.bool false)) (cO p (if fZ p u.n c.ls=true then c.fail 24 n.at_ else c) c.ls ad cp):=by
 have tz:(aQ [u])[0]?=some (cT u):=df rfl;have hA:=yb p u.n.s kK;have hL:=iG c.ls u.n.s iD;have jh:=jA p (.slice ad c.ls.length cp) c 24 n.at_;rw [show fZ p u.n c.ls=((u.n.kind != 2 || decide (dA (fun x:Ar=>x.name==u.n.s) p.arrays < 0)) || c.ls.contains u.n.s) from rfl];generalize dA (fun x:Ar=>x.name==u.n.s) p.arrays=z at *;unfold cO;unfold cC at jh |-
 cases h4:(u.n.kind != 2) with
 | true =>
  rw [ab (by first | rfl | decide)];generalize c.fail 24 n.at_=c1 at *;refine ah func155 ntmps155 ?_;refine aL (aD 0 21 (.a 21 (aD 22 13 (.a 35 (.q 36 (.q 37 .nil)))))) ?_;refine ao ?_;refine bx ?_;refine V [0] jh ?_;exact aj
 | false =>
  cases h5:decide (z < 0) with
  | true =>
   rw [ab (by first | rfl | decide)];generalize c.fail 24 n.at_=c1 at *;refine ah func155 ntmps155 ?_;refine aL (aD 0 21 (.a 21 (aD 22 13 (.a 35 (.q 36 (.q 37 .nil)))))) ?_;refine ao ?_;refine b6 [] hA ?_;refine bx ?_;refine V [0] jh ?_;exact aj
  | false =>
   generalize c.ls.contains u.n.s=b at *
   cases b with
   | true =>
    rw [ab (by first | rfl | decide)];generalize c.fail 24 n.at_=c1 at *;refine ah func155 ntmps155 ?_;refine aL (aD 0 21 (.a 21 (aD 22 13 (.a 35 (.q 36 (.q 37 .nil)))))) ?_;refine ao ?_;refine b6 [] hA ?_;refine Ta rfl rfl rfl (by first | exact rfl | assumption) (GL.borrow hL (fun B K β w l hI hF=>fS (A:=[_]) (C:=[_]) hI hF rfl rfl) ?_);refine dd ?_;refine bx ?_;refine V [0] jh ?_;exact aj
   | false =>
    rw [L aU];refine ah func155 ntmps155 ?_;refine aL (aD 0 21 (.a 21 (aD 22 13 (.a 35 (.q 36 (.q 37 .nil)))))) ?_;refine ao ?_;refine b6 [] hA ?_;refine Ta rfl rfl rfl (by first | exact rfl | assumption) (GL.borrow hL (fun B K β w l hI hF=>fS (A:=[_]) (C:=[_]) hI hF rfl rfl) ?_);refine dd ?_;refine ao ?_;exact ay
theorem F4 (p:Src) (c:SS) (n:Nd) (l:List T) (ad:Option Addr) (cp:Nat) (F:(n.s==[103,101,116])=false) (I:(n.s==[112,117,116])=false) (h3:(n.s==[115,105,122,101])=true) (hl:l.length≠1) :
  GF prog 155 [.loc 0 0,.agg (cT (.mk n l))] (cO p c c.ls ad cp) (.v (.bool false)) (cO p (c.fail 23 n.at_) c.ls ad cp):=by
 have jh:=jA p (.slice ad c.ls.length cp) c 23 n.at_;have eB:(aQ l).length=l.length:=aX l
 have g1:(((aQ l).length:Int)==1)=false:=by rw [eB,beq_eq_false_iff_ne];omega
 have g2:(((aQ l).length:Int) != 1)=true:=by rw [eB,bne_iff_ne];omega
 unfold cO;unfold cC at jh |-;generalize c.fail 23 n.at_=c1 at *;refine ah func155 ntmps155 ?_;refine aL (aD 0 21 (.a 21 (aD 22 13 (.a 35 (.q 36 (.q 37 .nil)))))) ?_;refine bx ?_;refine V [0] jh ?_;exact aj
theorem Ps (p:Src) (c:SS) (t:T) (ad:Option Addr) (cp:Nat) (kK:p.arrays.length<=1099511627776) (mT:p.fns.length<=1099511627776) (iD:c.ls.length<=1099511627776) (hl:t.kids.length<=1099511627776) :
  GF prog 155 [.loc 0 0,.agg (cT t)] (cO p c c.ls ad cp) (.v (.bool (gO p c t).2)) (cO p (gO p c t).1 c.ls ad cp):=by
 cases t with
 | mk n l =>
 have hl:l.length<=1099511627776:=hl
 cases F:(n.s==[103,101,116]) with
 | true =>
  have e:gO p c (.mk n l)=(fF c n l.length 0,true):=by
   unfold gO qx;exact ab (show n.s=_ by simpa using F)
  rw [e];exact Jj p c n l ad cp F hl
 | false =>
  have n1:¬ n.s=[103,101,116]:=by simpa using F
  cases I:(n.s==[112,117,116]) with
  | true =>
   have e:gO p c (.mk n l)=(fF c n l.length 1,true):=by
    unfold gO qx rA;rw [L (show ¬ (T.mk n l).n.s=_ from n1)];exact ab (show n.s=_ by simpa using I)
   rw [e];exact Jk p c n l ad cp F I hl
  | false =>
   have n2:¬ n.s=[112,117,116]:=by simpa using I
   cases h3:(n.s==[115,105,122,101]) with
   | true =>
    have e:gO p c (.mk n l)=(fF (if l.length=1/\fZ p (nK (.mk n l)) c.ls=true then c.fail 24 n.at_ else c) n l.length 1,false):=by
     unfold gO qx rA iu;rw [L (show ¬ (T.mk n l).n.s=_ from n1),L (show ¬ (T.mk n l).n.s=_ from n2)];exact ab (show n.s=_ by simpa using h3)
    rw [e]
    by_cases hk:l.length=1
    ·obtain ⟨u,rfl⟩:∃ u,l=[u]:=by
      match l,hk with
      | [u],_=>exact ⟨u,rfl⟩
     have e2:fF (if [u].length=1/\fZ p (nK (.mk n [u])) c.ls=true then c.fail 24 n.at_ else c) n [u].length 1=(if fZ p u.n c.ls=true then c.fail 24 n.at_ else c):=by
      unfold fF;rw [L (by simp)];show (if _/\fZ p u.n c.ls=true then _ else _)=_
      by_cases hb:fZ p u.n c.ls=true
      ·rw [ab hb];exact ab ⟨rfl,hb⟩
      ·rw [L hb];exact L fun h=>hb h.2
     rw [e2];exact F3 p c n u ad cp F I h3 kK iD
    ·have e2:fF (if l.length=1/\fZ p (nK (.mk n l)) c.ls=true then c.fail 24 n.at_ else c) n l.length 1=c.fail 23 n.at_:=by
      rw [L fun h=>hk h.1];unfold fF;exact ab hk
     rw [e2];exact F4 p c n l ad cp F I h3 hk
   | false =>
    have n3:¬ n.s=[115,105,122,101]:=by simpa using h3
    have hF:=Ec p n.s mT;unfold dA at hF
    cases hx:p.fns.findIdx? (fun f:Go.Sp.Fn=>f.name==n.s) with
    | none =>
     rw [hx] at hF
     have e:gO p c (.mk n l)=(c.fail 22 n.at_,false):=by
      unfold gO qx rA iu;rw [L (show ¬ (T.mk n l).n.s=_ from n1),L (show ¬ (T.mk n l).n.s=_ from n2),L (show ¬ (T.mk n l).n.s=_ from n3)];show (match p.fns.findIdx? (fun f:Go.Sp.Fn=>f.name==n.s) with | none=>_ | some i=>_)=_;rw [hx];rfl
     rw [e];exact Ml p c n l ad cp F I h3 hl hF
    | some i =>
     rw [hx] at hF;have hi:i < p.fns.length:=(List.findIdx?_eq_some_iff_getElem.1 hx).1;obtain ⟨f,hf⟩:∃ f,p.fns[i]?=some f:=⟨p.fns[i],by simp [hi]⟩
     have e:gO p c (.mk n l)=(fF c n l.length f.params.length,true):=by
      unfold gO qx rA iu;rw [L (show ¬ (T.mk n l).n.s=_ from n1),L (show ¬ (T.mk n l).n.s=_ from n2),L (show ¬ (T.mk n l).n.s=_ from n3)];show (match p.fns.findIdx? (fun f:Go.Sp.Fn=>f.name==n.s) with | none=>_ | some i=>_)=_;rw [hx];show (fF c n l.length (nc p i),true)=_;unfold nc;rw [hf]
     rw [e];exact Mk p c n l i f ad cp F I h3 hl hf hF
end Go.Xg
namespace Go.Im
open Go.Xp Go.Sp
theorem Fx (p:Src) (u:T):∀ (l:List T) (c:SS),jC p (l++[u]) c=oJ p u (jC p l c)
 | [],c=>by rw [nil_append,jC,jC,jC]
 | t::l,c=>by rw [cons_append,jC,jC,Fx p u l]
theorem PK (p:Src) {l:List T} {k:Nat} {u:T} (h:l[k]?=some u) (c:SS):jC p (l.take (k+1)) c=oJ p u (jC p (l.take k) c):=by
 rw [cq,h];exact Fx p u _ c
theorem SV (c:SS) (n:Nd):(nt c n).ls.length<=c.ls.length+1:=by
 unfold nt;split
 ·omega
 split
 ·simp [SS.pD]
 split
 ·simp [SS.pD]
 ·simp
mutual
theorem Vf (p:Src):∀ (t:T) (c:SS),(oJ p t c).ls.length<=c.ls.length+aK t
 | .mk n l,c=>by
  rw [oJ,aK];refine kA (SV _ _) ?_;split
  ·have:=yj p l (kG p c (.mk n l)).1;rw [xm] at this;omega
  ·rw [xm];omega
theorem yj (p:Src):∀ (l:List T) (c:SS),(jC p l c).ls.length<=c.ls.length+aB l
 | [],c=>by rw [jC,aB];omega
 | t::r,c=>by
  rw [jC,aB];have F:=yj p r (oJ p t c);have I:=Vf p t c;omega
end
end Go.Im
namespace Go.Xg
open GV (U)
open Go.RowKit Go.Xw Go.Proofs Tryz
open Go.Xp (Nd T Ar aK aB c6)
open Go.Sp (Src)
open Go.Im
attribute [local irreducible] GW GL GO YG GC GA be bg
theorem Pt (p:Src) (kK:p.arrays.length<=1099511627776) (mT:p.fns.length<=1099511627776) (ek:p.globals.length<=1099511627776):∀ (N:Nat) (t:T),aK t<=N->∀ (c:SS) (ad:Option Addr) (cp:Nat),c.ls.length+aK t<=8388608 ->
  GC prog 109 [.loc 0 0,.agg (cT t)] (cO p c c.ls ad cp) fun g Δ=>g=.tup []/\∃ lh lj,Δ=cO p (oJ p t c) (oJ p t c).ls lh lj:=by
 intro N
 induction N with
 | zero=>intro t h;have:=jy t;omega
 | succ N ih =>
 intro t hN c ad cp iD
 cases t with
 | mk n l =>
 rw [Go.Xp.aK] at hN iD;have rp:=c6 l;have eB:(aQ l).length=l.length:=aX l;rw [oJ];have cZ:=xm p c (.mk n l);have hL:=iG c.ls n.s G;have hG:=iG p.globals n.s ek;have hA:=yb p n.s kK;have hC:=Ps p c (.mk n l) ad cp kK mT G (by show l.length<=_;omega);have Tq:=jA p (.slice ad c.ls.length cp) c 22 n.at_;have Kc:=jA p (.slice ad c.ls.length cp) c 24 n.at_
 have he:kG p c (.mk n l)=(if n.kind=2\/n.kind=7 then (if c.ls.contains n.s=false/\p.globals.contains n.s=false then c.fail 22 n.at_ else c,true)
  else if n.kind=3\/n.kind=8 then (if c.ls.contains n.s=true\/dA (fun x:Ar=>x.name==n.s) p.arrays < 0 then c.fail 24 n.at_ else c,true)
  else if n.kind=4 then gO p c (.mk n l) else (c,true)):=rfl
 obtain ⟨P,hP⟩:∃ P,kG p c (.mk n l)=P:=⟨_,rfl⟩;rw [hP] at he cZ |-;unfold cO at hC |-;unfold cC at hC Tq Kc |-;refine ah func109 ntmps109 ?_;refine aL (aD 0 6 (.a 6 (.q 7 .nil))) ?_;refine ao ?_;refine OA rfl rfl (GL.borrow hL (fun B K β w l hI hF=>fS (A:=[_]) (C:=[_,_]) hI hF rfl rfl) ?_);refine dd ?_;refine ao ?_;refine ED ?_;refine GW.join (fun fr Γ=>fr=[.loc 0 0,U,U,.loc 2 0,.loc 3 0,U,.v (.bool P.2),U,U,U,U,U,U,U,U,U,U,U,U,U,U,U,U,U,U,U,U,U,U,U,U,U,U,U,U,U,U,U,U,U,U,U,U,U,U,U,U,U,U,U,U,U,U,U,U,U,U,U,U,U,U,U,U,U,U,U,U,U,U,U,U,U,U,U,U,U,U,U,U,U,U,U,U,U,U,U,U,U,U,U,U,U,U,U,U,U,U,U,U,U,U,U,U,U,U,U,U,U,U,U]/\Γ=[.box 126 (cC p (.slice ad c.ls.length cp) P.1),.vech 9 1 (br c.ls) (.slice ad c.ls.length cp),.box 65 (cT (.mk n l)),.box 62 (ax n)]) ?_ ?_
 ·obtain ⟨kd,at_,nn,s,ks⟩:=n;simp only at *;unfold cC;generalize gO p c (.mk ⟨kd,at_,nn,s,ks⟩ l)=cs at *;generalize dA (fun x:Ar=>x.name==s) p.arrays=z at *;generalize c.ls.contains s=b at *;generalize p.globals.contains s=g at *;generalize c.fail 22 at_=c22 at *;generalize c.fail 24 at_=c24 at *
  by_cases I:kd=2
  ·subst I
   have q2:((2:Int)==2)=true:=by decide
   rw [ab aU] at he;subst he
   cases b with
   | true =>
    refine D ?_;refine aL (aD 0 10 (.a 10 (.q 11 (.q 12 .nil)))) ?_;refine bx ?_;exact fL
   | false =>
    cases g with
    | true =>
     refine D ?_;refine aL (aD 0 10 (.a 10 (.q 11 (.q 12 .nil)))) ?_;refine ao ?_;refine b6 [] hG ?_;exact fE
    | false =>
     refine D ?_;refine aL (aD 0 10 (.a 10 (.q 11 (.q 12 .nil)))) ?_;refine ao ?_;refine b6 [] hG ?_;refine D ?_;refine V [0] Tq ?_;exact fL
  by_cases h7:kd=7
  ·subst h7
   have q2:((7:Int)==2)=false:=by decide
   have q7:((7:Int)==7)=true:=by decide
   rw [ab aU] at he;subst he
   cases b with
   | true =>
    refine D ?_;refine aL (aD 0 10 (.a 10 (.q 11 (.q 12 .nil)))) ?_;refine bx ?_;exact fL
   | false =>
    cases g with
    | true =>
     refine D ?_;refine aL (aD 0 10 (.a 10 (.q 11 (.q 12 .nil)))) ?_;refine ao ?_;refine b6 [] hG ?_;exact fE
    | false =>
     refine D ?_;refine aL (aD 0 10 (.a 10 (.q 11 (.q 12 .nil)))) ?_;refine ao ?_;refine b6 [] hG ?_;refine D ?_;refine V [0] Tq ?_;exact fL
  rw [L (by rintro (h | h);(· exact I h);exact h7 h)] at he
  by_cases h3:kd=3
  ·subst h3
   have q2:((3:Int)==2)=false:=by decide
   have q7:((3:Int)==7)=false:=by decide
   have q3:((3:Int)==3)=true:=by decide
   rw [ab aU] at he
   cases b with
   | true =>
    subst he;refine D ?_;refine aL (aD 0 8 (.a 8 (.q 9 (.q 10 .nil)))) ?_;refine bx ?_;refine V [0] Kc ?_;exact fL
   | false =>
    cases hz:decide (z < 0) with
    | true =>
     rw [ab (.inr (by simpa using hz))] at he;subst he;refine D ?_;refine aL (aD 0 8 (.a 8 (.q 9 (.q 10 .nil)))) ?_;refine ao ?_;refine b6 [] hA ?_;refine D ?_;refine V [0] Kc ?_;exact fL
    | false =>
     rw [L (by rintro (h | h);(· cases h);(· simp at hz;omega))] at he;subst he;refine D ?_;refine aL (aD 0 8 (.a 8 (.q 9 (.q 10 .nil)))) ?_;refine ao ?_;refine b6 [] hA ?_;exact fE
  by_cases h8:kd=8
  ·subst h8
   have q2:((8:Int)==2)=false:=by decide
   have q7:((8:Int)==7)=false:=by decide
   have q3:((8:Int)==3)=false:=by decide
   have q8:((8:Int)==8)=true:=by decide
   rw [ab aU] at he
   cases b with
   | true =>
    subst he;refine D ?_;refine aL (aD 0 8 (.a 8 (.q 9 (.q 10 .nil)))) ?_;refine bx ?_;refine V [0] Kc ?_;exact fL
   | false =>
    cases hz:decide (z < 0) with
    | true =>
     rw [ab (.inr (by simpa using hz))] at he;subst he;refine D ?_;refine aL (aD 0 8 (.a 8 (.q 9 (.q 10 .nil)))) ?_;refine ao ?_;refine b6 [] hA ?_;refine D ?_;refine V [0] Kc ?_;exact fL
    | false =>
     rw [L (by rintro (h | h);(· cases h);(· simp at hz;omega))] at he;subst he;refine D ?_;refine aL (aD 0 8 (.a 8 (.q 9 (.q 10 .nil)))) ?_;refine ao ?_;refine b6 [] hA ?_;exact fE
  rw [L (by rintro (h | h);(· exact h3 h);exact h8 h)] at he
  by_cases h4:kd=4
  ·subst h4
   have q2:((4:Int)==2)=false:=by decide
   have q7:((4:Int)==7)=false:=by decide
   have q3:((4:Int)==3)=false:=by decide
   have q8:((4:Int)==8)=false:=by decide
   have q4:((4:Int)==4)=true:=by decide
   rw [ab rfl] at he;subst he;refine D ?_;refine V [0,1] hC ?_;exact fL
  rw [L h4] at he;subst he
  have q2:(kd==2)=false:=by simpa using I
  have q7:(kd==7)=false:=by simpa using h7
  have q3:(kd==3)=false:=by simpa using h3
  have q8:(kd==8)=false:=by simpa using h8
  have q4:(kd==4)=false:=by simpa using h4
  exact fE
 ·rintro _ _ ⟨rfl,rfl⟩;clear he hC Tq Kc;obtain ⟨c1,d⟩:=P;simp only at cZ |-;rw [<-cZ] at iD;rw [show cC p (.slice ad c.ls.length cp) c1=cC p (.slice ad c1.ls.length cp) c1 by rw [cZ],<-cZ];clear hL;refine D ?_;refine GW.range (aQ l).length (fun k fr Γ=>∃ ad cp c2,fr=[.loc 0 0,U,U,.loc 2 0,.loc 3 0,U,.v (.bool d),U,U,U,U,U,U,U,U,U,U,U,U,U,U,U,U,U,U,U,U,U,U,U,U,U,U,U,U,U,U,U,U,U,U,U,U,U,U,U,U,U,U,U,U,U,U,U,U,U,U,U,U,U,U,U,U,U,.sl 6 (aQ l),.v (ii ((aQ l).length:Int)),.v (ii (k:Nat)),U,U,U,U,U,U,U,U,U,U,U,U,U,U,U,U,U,U,U,U,U,U,U,U,U,U,U,U,U,U,U,U,U,U,U,U,U,U,U,U,U,U,U]/\Γ=[.box 126 (cC p (.slice ad c2.ls.length cp) c2),.vech 9 1 (br c2.ls) (.slice ad c2.ls.length cp),.box 65 (cT (.mk n l)),.box 62 (ax n)]/\c2=(if d=true then jC p (l.take k) c1 else c1)) ?_ G ?_ ?_ ?_
  ·exact ⟨_,_,Wk.aH ar,ad,cp,c1,rfl,rfl,by cases d <;> simp [jC]⟩
  ·rintro k _ _ ⟨ad,cp,c2,rfl,rfl,_⟩;exact dK
  ·rintro k _ _ ak ⟨ad,cp,c2,rfl,rfl,ll⟩;rw [eB] at ak;obtain ⟨u,hu⟩:∃ u,l[k]?=some u:=⟨l[k],by simp [ak]⟩;have hr:=df hu;have dr:=nS hu
   cases d with
   | false =>
    refine D ?_;exact ⟨rfl,rfl,_,_,(Wk.cut (n:=4) (fq rfl) rfl).trans (Wk.aH ar),ad,cp,c2,rfl,rfl,ll⟩
   | true =>
    rw [ab rfl] at ll;have hlen:=yj p (l.take k) c1;rw [<-ll] at hlen;have hi:=ih u G c2 ad cp G;unfold cO at hi;rw [ab rfl,PK p hu,<-ll];refine D ?_;refine cM [0,1] hi ?_;rintro _ _ ⟨rfl,lh,lj,rfl⟩;refine dH ?_;refine D ?_;exact ⟨rfl,rfl,_,_,(Wk.cut (n:=4) (fq rfl) rfl).trans (Wk.aH ar),lh,lj,_,rfl,rfl,rfl⟩
  ·rintro _ _ ⟨ad,cp,c2,rfl,rfl,ll⟩;rw [eB,bW] at ll;rw [<-ll]
   have hlen:c2.ls.length<=8388608:=by
    rw [ll];split
    ·have:=yj p l c1;omega
    ·omega
   clear ll ih;refine ba ?_;have hL:=iG c2.ls n.s G;have Kk:=qV c2.ls;have Kb:=jA p (.slice ad c2.ls.length cp) c2 21 n.at_;have h26:=jA p (.slice ad c2.ls.length cp) c2 26 n.at_;have l21:=c2.pD 21 n.at_;have l26:=c2.pD 26 n.at_
   cases hv:(n.kind != 13) with
   | true =>
    have e:nt c2 n=c2:=by unfold nt;exact ab (by simpa using hv)
    rw [e];refine D ?_;refine dz ?_;exact ⟨rfl,ad,cp,rfl⟩
   | false =>
    have C5:¬ n.kind≠13:=by simpa using hv
    unfold cC at Kb h26
    cases hb:c2.ls.contains n.s with
    | true =>
     rw [hb] at hL
     have e:nt c2 n=⟨(c2.fail 21 n.at_).ls++[n.s],(c2.fail 21 n.at_).code,(c2.fail 21 n.at_).at_⟩:=by unfold nt;rw [L C5];exact ab hb
     rw [e];generalize c2.fail 21 n.at_=y at *;unfold cC;refine D ?_;refine aL (aD 0 6 (.a 6 .nil)) ?_;refine ao ?_;refine OA rfl rfl (GL.borrow hL (fun B K β w l hI hF=>fS (A:=[_]) (C:=[_,_]) hI hF rfl rfl) ?_);refine dd ?_;refine bx ?_;refine V [0] Kb ?_;refine aL (aD 0 7 (.a 7 (.a 8 (.q 9 (.q 10 (.a 11 .nil)))))) ?_;refine ao ?_;refine dC ?_;refine ao ?_;refine OA rfl rfl (GL.qA 1 (news:=[[.v (sv n.s)]]) rfl rfl rfl bj rfl rfl (by refine ⟨?_,?_⟩;(· show _+1<=_;omega);(· show (_+1) * _<=_;omega)) ?_);intro p8 p9;refine dd ?_;refine bx ?_;refine dz ?_;exact ⟨rfl,p8,p9,by simp [cO,cC,br,l21]⟩
    | false =>
     rw [hb] at hL
     cases h40:((c2.ls.length:Int)==40) with
     | true =>
      have e:nt c2 n=⟨(c2.fail 26 n.at_).ls++[n.s],(c2.fail 26 n.at_).code,(c2.fail 26 n.at_).at_⟩:=by
       unfold nt;rw [L C5,L (by rw [hb];decide)];exact ab (by rw [beq_iff_eq] at h40;omega)
      rw [e];generalize c2.fail 26 n.at_=y at *;unfold cC;refine D ?_;refine aL (aD 0 6 (.a 6 .nil)) ?_;refine ao ?_;refine OA rfl rfl (GL.borrow hL (fun B K β w l hI hF=>fS (A:=[_]) (C:=[_,_]) hI hF rfl rfl) ?_);refine dd ?_;refine bx ?_;refine V [0] h26 ?_;refine aL (aD 0 7 (.a 7 (.a 8 (.q 9 (.q 10 (.a 11 .nil)))))) ?_;refine ao ?_;refine dC ?_;refine ao ?_;refine OA rfl rfl (GL.qA 1 (news:=[[.v (sv n.s)]]) rfl rfl rfl bj rfl rfl (by refine ⟨?_,?_⟩;(· show _+1<=_;omega);(· show (_+1) * _<=_;omega)) ?_);intro p8 p9;refine dd ?_;refine bx ?_;refine dz ?_;exact ⟨rfl,p8,p9,by simp [cO,cC,br,l26]⟩
     | false =>
      have e:nt c2 n=⟨c2.ls++[n.s],c2.code,c2.at_⟩:=by
       unfold nt;rw [L C5,L (by rw [hb];decide)];exact L (by rw [beq_eq_false_iff_ne] at h40;omega)
      rw [e];unfold cC;refine D ?_;refine aL (aD 0 6 (.a 6 .nil)) ?_;refine ao ?_;refine OA rfl rfl (GL.borrow hL (fun B K β w l hI hF=>fS (A:=[_]) (C:=[_,_]) hI hF rfl rfl) ?_);refine dd ?_;refine bx ?_;refine aL (aD 0 7 (.a 7 (.a 8 (.q 9 (.q 10 (.a 11 .nil)))))) ?_;refine ao ?_;refine dC ?_;refine ao ?_;refine OA rfl rfl (GL.qA 1 (news:=[[.v (sv n.s)]]) rfl rfl rfl bj rfl rfl (by refine ⟨?_,?_⟩;(· show _+1<=_;omega);(· show (_+1) * _<=_;omega)) ?_);intro p8 p9;refine dd ?_;refine bx ?_;refine dz ?_;exact ⟨rfl,p8,p9,by simp [cO,cC,br]⟩
end Go.Xg
namespace Go.Xg
open GV (U)
open Go.RowKit Go.Xw Go.Proofs Tryz
open Go.Xp (Nd T Ar aK aB)
open Go.Sp (Src)
open Go.Im
attribute [local irreducible] GW GL GO YG GC GA be bg
theorem D1 (p:Src) (h:Value) (k e:Int):GF prog 154 [.loc 0 0,.v (ii e),.v (ii 0)] [.box 126 (cC p h ⟨[],k,0⟩)] (.tup []) [.box 126 (cC p h ⟨[],iq k e,0⟩)]:=by
 have:=jA p h ⟨[],k,0⟩ e 0
 rwa [show (SS.fail ⟨[],k,0⟩ e 0)=⟨[],iq k e,0⟩ by unfold SS.fail iq;by_cases hk:k=0 <;> simp [hk]] at this
theorem HE (p:Src) (h:Value) (k:Int) (kK:p.arrays.length<=1048576) (dr:∀ a∈p.arrays,0<=a.size/\a.size<=2147483648)
  (rest:(p.arrays.all fun a=>!nR a)=true->GF prog 107 [.loc 0 0] [.box 126 (cC p h ⟨[],k,0⟩)] (.tup []) [.box 126 (cC p h ⟨[],sH p k,0⟩)]) :
  GF prog 107 [.loc 0 0] [.box 126 (cC p h ⟨[],k,0⟩)] (.tup []) [.box 126 (cC p h ⟨[],sH p k,0⟩)]:=by
 cases vz:(p.arrays.all fun a=>!nR a) with
 | true=>exact rest vz
 | false =>
 have fJ:(p.arrays.map az).length=p.arrays.length:=by simp
 have hb:=wb dr;have zh:=D1 p h k 26
 have G5:p.arrays.any nR=true:=by
  cases h0:p.arrays.any nR with
  | true=>rfl
  | false =>
   rw [any_eq_false] at h0;rw [List.all_eq_false] at vz;obtain ⟨x,hx,F⟩:=vz;have:=h0 x hx;simp at F;rw [F] at this;exact absurd rfl this
 rw [show sH p k=iq k 26 by unfold sH;exact ab G5];unfold cC at zh |-;refine ah func107 ntmps107 ?_;refine GW.range (p.arrays.map az).length (fun k' fr Γ=>fr=[.loc 0 0,U,.v (ii (eH (p.arrays.take k'))),U,U,U,U,U,U,U,U,U,.sl 2 (p.arrays.map az),.v (ii ((p.arrays.map az).length:Int)),.v (ii (k':Nat)),U,U,U,U,U,U,U,U,U,U,U,U,U,U,U,U,U,U,U,U,U,U,U,U,U,U,U,U,U,U,U,U,U,U,U,U,U,U,U,U,U,U,U,U,U,U,U,U,U,U,U,U,U,U,U,U,U,U,U,U,U,U,U,U,U,U,U,U,U,U,U,U,U,U,U,U,U,U,U]/\Γ=[.box 126 [strs p.globals,.sl 2 (p.arrays.map az),.sl 3 (p.fns.map au),.sl 5 (p.nodes.map ax),.v h,.v (ii k),.v (ii 0)]]/\(p.arrays.take k').all (fun a=>!nR a)=true) ?_ G ?_ ?_ ?_
 ·exact kV
 ·rintro k' _ _ ⟨rfl,rfl,_⟩;exact dK
 ·rintro k' _ _ ak ⟨rfl,rfl,aY⟩;rw [fJ] at ak;obtain ⟨x,hx⟩:∃ x,p.arrays[k']?=some x:=⟨p.arrays[k'],by simp [ak]⟩
  have hr:(p.arrays.map az)[k']?=some (az x):=by rw [aP,hx];rfl
  have bV:=oO (f:=nR) hx;have nC:=ub hx;have fT:=hb k';have ua:=dr x (bA hx);have hd:nR x=(decide (x.size < 1) || decide (8000 < x.size)):=rfl;unfold az at hr
  cases F:decide (x.size < 1) with
  | true =>
   refine D ?_;refine V [0] zh ?_;exact iK
  | false =>
   cases I:decide (8000 < x.size) with
   | true =>
    refine D ?_;refine V [0] zh ?_;exact iK
   | false =>
    rw [nC];generalize eH (p.arrays.take k')=c at *;refine D ?_;exact ⟨rfl,rfl,_,_,(Wk.cut (n:=1) (aE _) rfl).trans (Wk.aH ar),rfl,rfl,by rw [bV,aY,hd,F,I];rfl⟩
 ·rintro _ _ ⟨rfl,rfl,aY⟩;rw [fJ,bW] at aY;rw [aY] at vz;cases vz
end Go.Xg
namespace Go.Im
open Go.Xp Go.Sp
theorem UN (k e:Int) (he:e≠0):iq (iq k e) e=iq k e:=by unfold iq;by_cases h:k=0 <;> simp [h,he]
end Go.Im
namespace Go.Xg
open GV (U)
open Go.RowKit Go.Xw Go.Proofs Tryz
open Go.Xp (Nd T Ar aK aB)
open Go.Sp (Src)
open Go.Im
attribute [local irreducible] GW GL GO YG GC GA be bg
theorem F5 (p:Src) (h:Value) (k:Int) (kK:p.arrays.length<=1048576) (mT:p.fns.length<=1048576) (dr:∀ a∈p.arrays,0<=a.size/\a.size<=2147483648) (vz:(p.arrays.all fun a=>!nR a)=true) :
  GF prog 107 [.loc 0 0] [.box 126 (cC p h ⟨[],k,0⟩)] (.tup []) [.box 126 (cC p h ⟨[],sH p k,0⟩)]:=by
 have fJ:(p.arrays.map az).length=p.arrays.length:=by simp
 have gC:(p.fns.map au).length=p.fns.length:=by simp
 have ek:(p.globals.map fun s=>[GV.v (sv s)]).length=p.globals.length:=by simp
 have hb:=wb dr
 have G5:p.arrays.any nR=false:=by
  rw [any_eq_false];rw [gV] at vz;intro x hx;simpa using vz x hx
 have zh:=D1 p h;unfold cC at zh |-;refine ah func107 ntmps107 ?_;refine GW.range (p.arrays.map az).length (fun k' fr Γ=>fr=[.loc 0 0,U,.v (ii (eH (p.arrays.take k'))),U,U,U,U,U,U,U,U,U,.sl 2 (p.arrays.map az),.v (ii ((p.arrays.map az).length:Int)),.v (ii (k':Nat)),U,U,U,U,U,U,U,U,U,U,U,U,U,U,U,U,U,U,U,U,U,U,U,U,U,U,U,U,U,U,U,U,U,U,U,U,U,U,U,U,U,U,U,U,U,U,U,U,U,U,U,U,U,U,U,U,U,U,U,U,U,U,U,U,U,U,U,U,U,U,U,U,U,U,U,U,U,U,U]/\Γ=[.box 126 [strs p.globals,.sl 2 (p.arrays.map az),.sl 3 (p.fns.map au),.sl 5 (p.nodes.map ax),.v h,.v (ii k),.v (ii 0)]]) ?_ G ?_ ?_ ?_
 ·exact fL
 ·rintro k' _ _ ⟨rfl,rfl⟩;exact dK
 ·rintro k' _ _ ak ⟨rfl,rfl⟩;rw [fJ] at ak;obtain ⟨x,hx⟩:∃ x,p.arrays[k']?=some x:=⟨p.arrays[k'],by simp [ak]⟩
  have hr:(p.arrays.map az)[k']?=some (az x):=by rw [aP,hx];rfl
  have nC:=ub hx;have fT:=hb k';have ua:=dr x (bA hx)
  have hd:nR x=false:=by
   rw [any_eq_false] at G5;have:=G5 x (bA hx);simpa using this
  unfold nR at hd;rw [Bool.or_eq_false_iff] at hd;obtain ⟨F,I⟩:=hd;have I:decide (8000 < x.size)=false:=I;unfold az at hr;rw [nC];generalize eH (p.arrays.take k')=c at *;refine D ?_;exact ⟨rfl,rfl,_,_,(Wk.cut (n:=1) (aE _) rfl).trans (Wk.aH ar),rfl,rfl⟩
 ·rintro _ _ ⟨rfl,rfl⟩;rw [fJ,bW];refine ba ?_;refine GW.seq ?_;have e1:decide (p.fns.length > 40)=decide ((40:Int) < ((p.fns.map au).length:Int)):=decide_eq_decide.2 (by rw [gC];omega);have e2:decide (p.globals.length > 29)=decide ((29:Int) < ((p.globals.map fun s=>[GV.v (sv s)]).length:Int)):=decide_eq_decide.2 G
  have aaT:uI p=((decide ((40:Int) < ((p.fns.map au).length:Int)) || decide ((29:Int) < ((p.globals.map fun s=>[GV.v (sv s)]).length:Int))) || decide ((8000:Int) < eH p.arrays)):=by unfold uI;rw [e1,e2]
  refine GW.join (fun fr Γ=>fr=[.loc 0 0,U,U,U,U,U,U,U,U,U,U,U,U,U,U,U,U,U,U,U,U,U,U,U,U,U,U,U,U,U,U,U,U,U,U,U,U,U,U,U,U,U,U,U,U,U,U,U,U,U,U,U,U,U,U,U,U,U,U,U,U,U,U,U,U,U,U,U,U,U,U,U,U,U,U,U,U,U,U,U,U,U,U,U,U,U,U,U,U,U,U,U,U,U]/\Γ=[.box 126 [strs p.globals,.sl 2 (p.arrays.map az),.sl 3 (p.fns.map au),.sl 5 (p.nodes.map ax),.v h,.v (ii (if uI p=true then iq k 26 else k)),.v (ii 0)]]) ?_ ?_
  ·rw [aaT];have LZ:=zh k 26;generalize eH p.arrays=c at *
   cases F:decide ((40:Int) < ((p.fns.map au).length:Int))
   all_goals cases I:decide ((29:Int) < ((p.globals.map fun s=>[GV.v (sv s)]).length:Int))
   all_goals cases h3:decide ((8000:Int) < c)
   all_goals
    refine D ?_
    first
     | exact fL
     | (refine fR [0] LZ ?_;refine D ?_;exact ⟨_,_,Wk.aH ar,rfl,rfl⟩)
  ·rintro _ _ ⟨rfl,rfl⟩;generalize vE:(if uI p=true then iq k 26 else k)=k1
   have Zr:∀ j:Nat,∀ x:Go.Sp.Fn,p.fns[j]?=some x->(p.fns.take (j+1)).any (fun f=>decide (f.params.length > 40))=((p.fns.take j).any (fun f=>decide (f.params.length > 40)) || decide (x.params.length > 40)):=fun j x hx=>by
    rw [cq,hx,any_append];simp
   refine D ?_;refine GW.range (p.fns.map au).length (fun j fr Γ=>∃ kk,fr=[.loc 0 0,U,U,U,U,U,U,U,U,U,U,U,U,U,U,U,U,U,U,U,U,U,U,U,U,U,U,U,U,U,U,U,U,U,U,U,U,U,U,U,U,U,U,U,U,U,U,U,U,U,U,U,U,U,U,U,U,U,U,.sl 3 (p.fns.map au),.v (ii ((p.fns.map au).length:Int)),.v (ii (j:Nat)),U,U,U,U,U,U,U,U,U,U,U,U,U,U,U,U,U,U,U,U,U,U,U,U,U,U,U,U,U,U,U,U]/\Γ=[.box 126 [strs p.globals,.sl 2 (p.arrays.map az),.sl 3 (p.fns.map au),.sl 5 (p.nodes.map ax),.v h,.v (ii kk),.v (ii 0)]]/\kk=(if (p.fns.take j).any (fun f=>decide (f.params.length > 40))=true then iq k1 26 else k1)) ?_ G ?_ ?_ ?_
   ·exact ⟨_,_,Wk.aH ar,k1,rfl,rfl,by simp⟩
   ·rintro j _ _ ⟨kk,rfl,rfl,_⟩;exact dK
   ·rintro j _ _ ak ⟨kk,rfl,rfl,gy⟩;rw [gC] at ak;obtain ⟨x,hx⟩:∃ x,p.fns[j]?=some x:=⟨p.fns[j],by simp [ak]⟩
    have hr:(p.fns.map au)[j]?=some (au x):=by rw [aP,hx];rfl
    have cZ:(x.params.map fun s=>[GV.v (sv s)]).length=x.params.length:=by simp
    have qM:=Zr j x hx;have hd:decide (x.params.length > 40)=decide ((40:Int) < ((x.params.map fun s=>[GV.v (sv s)]).length:Int)):=decide_eq_decide.2 G;have LZ:=zh kk 26;rw [qM,hd];unfold au at hr
    cases F:decide ((40:Int) < ((x.params.map fun s=>[GV.v (sv s)]).length:Int)) with
    | true =>
     have e:iq kk 26=iq k1 26:=by rw [gy];split;(· exact UN _ _ aU);rfl
     rw [e] at LZ;refine D ?_;refine V [0] LZ ?_;exact ⟨rfl,rfl,_,_,(Wk.cut (n:=1) (aE _) rfl).trans (Wk.aH ar),_,rfl,rfl,by simp⟩
    | false =>
     refine D ?_;exact ⟨rfl,rfl,_,_,(Wk.cut (n:=1) (aE _) rfl).trans (Wk.aH ar),kk,rfl,rfl,by rw [gy,Bool.or_false]⟩
   ·rintro _ _ ⟨kk,rfl,rfl,gy⟩;rw [gC,bW] at gy
    have hs:sH p k=(if lf p=true then iq kk 25 else kk):=by
     unfold sH;rw [L (by rw [G5];decide),vE,<-gy]
    rw [hs];refine ba ?_;have WI:=zh kk 25;have hM:=Ec p w8 G;unfold dA at hM;clear hs gy vE
    cases hx:p.fns.findIdx? (fun f:Go.Sp.Fn=>f.name==w8) with
    | none =>
     rw [hx] at hM
     have hd:decide ((-1:Int) < 0)=true:=by decide
     simp only at hM;rw [show (if lf p=true then iq kk 25 else kk)=iq kk 25 from ab (by unfold lf;rw [hx])];refine D ?_;refine V [] hM ?_;refine V [0] WI ?_;exact iK
    | some i =>
     rw [hx] at hM;have hi:i < p.fns.length:=(List.findIdx?_eq_some_iff_getElem.1 hx).1;obtain ⟨f,hf⟩:∃ f,p.fns[i]?=some f:=⟨p.fns[i],by simp [hi]⟩
     have hr:(p.fns.map au)[i]?=some (au f):=by rw [aP,hf];rfl
     have cZ:(f.params.map fun s=>[GV.v (sv s)]).length=f.params.length:=by simp
     have hd:decide (((i:Nat):Int) < 0)=false:=by simp
     have l9:decide (nc p i > 0)=decide ((0:Int) < ((f.params.map fun s=>[GV.v (sv s)]).length:Int)):=by
      unfold nc;rw [hf];exact decide_eq_decide.2 (by simp only;omega)
     simp only at hM
     have rY:lf p=decide (nc p i > 0):=by unfold lf;rw [hx]
     rw [l9] at rY;unfold au at hr
     cases F:decide ((0:Int) < ((f.params.map fun s=>[GV.v (sv s)]).length:Int)) with
     | true =>
      rw [show (if lf p=true then iq kk 25 else kk)=iq kk 25 from ab (by rw [rY,F])];refine D ?_;refine V [] hM ?_;refine V [0] WI ?_;exact iK
     | false =>
      rw [show (if lf p=true then iq kk 25 else kk)=kk from L (by rw [rY,F];decide)];refine D ?_;refine V [] hM ?_;exact iK
end Go.Xg
namespace Go.Im
open Go.Xp Go.Sp
theorem Rj (p:Src) (l:List T) (c:SS):oT p [] l c=c:=by unfold oT;rfl
end Go.Im
namespace Go.Xg
open GV (U)
open Go.RowKit Go.Xw Go.Proofs Tryz
open Go.Xp (Nd T Ar aK aB)
open Go.Sp (Src)
open Go.Im
attribute [local irreducible] GW GL GO YG GC GA be bg
theorem M7 (p:Src) (hF:GF prog 58 [.agg (av p)] [] (.v (.bool false)) []):GF prog 62 [.agg (av p)] [] (.tup [.v (ii 20),.v (ii 0)]) []:=by
 refine ah func62 ntmps62 ?_;refine V [] hF ?_;exact nV
theorem Lx (p:Src) (l:List T) (c1 c2:SS) (gC:p.fns.length=l.length) (mT:p.fns.length<=1048576) (kK:p.arrays.length<=1099511627776) (ek:p.globals.length<=1099511627776)
  (ru:∀ f∈p.fns,f.params.length<=1048576) (dr:∀ t∈l,aK t<=1048576)
  (hF:GF prog 58 [.agg (av p)] [] (.v (.bool true)) [])
  (hN:GF prog 106 [.loc 0 0] [.box 126 (cC p (.slice none 0 0) ⟨[],0,0⟩)] (.tup []) [.box 126 (cC p (.slice none 0 0) c1)])
  (hS:GF prog 107 [.loc 0 0] [.box 126 (cC p (.slice none 0 0) c1)] (.tup []) [.box 126 (cC p (.slice none 0 0) c2)])
  (rv:∀ (i:Nat) (f:Go.Sp.Fn) (t:T),p.fns[i]?=some f->l[i]?=some t->GF prog 84 [.agg (av p),.v (ii f.body)] [] (.agg (cT t)) []) :
  GF prog 62 [.agg (av p)] [] (.tup [.v (ii (oT p p.fns l c2).code),.v (ii (oT p p.fns l c2).at_)]) []:=by
 have qg:(p.fns.map au).length=p.fns.length:=by simp
 unfold cC at hN hS;refine ah func62 ntmps62 ?_;refine V [] hF ?_;refine V [1] hN ?_;refine V [1] hS ?_;refine GW.range (p.fns.map au).length (fun k fr Γ=>∃ h c,fr=[U,.loc 0 0,U,U,.loc 1 0,U,U,U,U,U,U,U,U,U,U,U,U,U,.sl 3 (p.fns.map au),.v (ii ((p.fns.map au).length:Int)),.v (ii (k:Nat)),U,U,U,U,U,U,U,U,U,U,U,U,U,U,U,U,U,U,U,U,U,U,U,U,U,U]/\Γ=[.box 33 (av p),.box 126 (cC p h c)]/\oT p p.fns l c2=oT p (p.fns.drop k) (l.drop k) c) ?_ G ?_ ?_ ?_
 ·exact ⟨_,_,Wk.aH ar,_,c2,rfl,rfl,rfl⟩
 ·rintro k _ _ ⟨h,c,rfl,rfl,_⟩;exact dK
 ·rintro k _ _ ak ⟨h,c,rfl,rfl,he⟩;rw [qg] at ak;obtain ⟨f,hf⟩:∃ f,p.fns[k]?=some f:=⟨p.fns[k],by simp [ak]⟩;obtain ⟨t,ht⟩:∃ t,l[k]?=some t:=⟨l[k]'G,dO _⟩
  have hr:(p.fns.map au)[k]?=some (au f):=by rw [aP,hf];rfl
  have OL:p.fns.drop k=f::p.fns.drop (k+1):=by rw [ju ak];rw [dO ak] at hf;rw [uk hf]
  have dZ:l.drop k=t::l.drop (k+1):=by rw [ju G];rw [dO G] at ht;rw [uk ht]
  have hp:=ru f (bA hf);have hz:=dr t (bA ht);have XF:=rv k f t hf ht;have hP:=Jl p h c f hp;rw [OL,dZ,oT] at he
  cases hc:(c.code==0) with
  | false =>
   rw [L (by simpa using hc)] at he;unfold cC au at *;refine D ?_;exact ⟨rfl,rfl,_,_,(Wk.cut (n:=2) (aM _) rfl).trans (Wk.aH ar),h,c,rfl,rfl,he⟩
  | true =>
   rw [ab (by simpa using hc)] at he
   have hNd:=fun ad cp=>Pt p kK G ek _ t (aE _) (rH f c) ad cp (by show f.params.length+_<=_;omega)
   rw [he];generalize oJ p t (rH f c)=c3 at *;unfold cO at hNd;unfold au at hr hP;rw [show cC p h c=[strs p.globals,.sl 2 (p.arrays.map az),.sl 3 (p.fns.map au),.sl 5 (p.nodes.map ax),.v h,.v (ii c.code),.v (ii c.at_)] from rfl] at *;refine D ?_;refine cM [1] hP ?_;rintro _ _ ⟨rfl,ad,cp,rfl⟩;refine dH ?_;refine D ?_;refine V [] XF ?_;refine cM [1,3] (hNd ad cp) ?_;rintro _ _ ⟨rfl,lh,lj,rfl⟩;refine dH ?_;refine D ?_;exact ⟨rfl,rfl,_,_,(Wk.cut (n:=2) (aM _) rfl).trans (Wk.aH ar),_,c3,rfl,rfl,rfl⟩
 ·rintro _ _ ⟨h,c,rfl,rfl,he⟩;rw [qg,List.drop_length,Rj] at he;rw [he];unfold cC;refine ba ?_;refine D ?_;refine aL (aD 0 10 .nil) ?_;refine ao ?_;exact sM
end Go.Xg
namespace Go.Xg
open GV (U)
open Go.RowKit Go.Xw Go.Proofs Tryz
open Go.Xp (Nd T Ar aK aB c6)
open Go.Sp (Src)
open Go.Im
attribute [local irreducible] GW GL GO YG GC GA be bg
theorem Pu:∀ (N:Nat) (t:T),aK t<=N->∀ (out:List ae) (ad:Option Addr) (cp:Nat),out.length+aK t<=8388608 ->
  GC prog 83 [.v (.slice ad out.length cp),.agg (cT t)] [.vech 9 1 (br out) (.slice ad out.length cp)] fun g Δ=>∃ lh lj,g=.v (.slice lh (out++dm t).length lj)/\Δ=[.vech 9 1 (br (out++dm t)) (.slice lh (out++dm t).length lj)]:=by
 intro N
 induction N with
 | zero=>intro t h;have:=jy t;omega
 | succ N ih =>
 intro t hN out ad cp iD
 cases t with
 | mk n l =>
 rw [Go.Xp.aK] at hN iD;have rp:=c6 l;have eB:(aQ l).length=l.length:=aX l;rw [dm];refine ah func83 ntmps83 ?_;refine GW.range (aQ l).length (fun k fr Γ=>∃ ad cp o,fr=[.v (.slice ad o.length cp),U,U,.loc 1 0,U,U,U,U,.sl 6 (aQ l),.v (ii ((aQ l).length:Int)),.v (ii (k:Nat)),U,U,U,U,U,U,U,U,U,U,U,U,U,U,U,U,U,U]/\Γ=[.vech 9 1 (br o) (.slice ad o.length cp),.box 65 (cT (.mk n l))]/\o=out++dc (l.take k)) ?_ G ?_ ?_ ?_
 ·exact ⟨_,_,Wk.aH ar,ad,cp,out,rfl,rfl,by simp [dc]⟩
 ·rintro k _ _ ⟨ad,cp,o,rfl,rfl,_⟩;exact dK
 ·rintro k _ _ ak ⟨ad,cp,o,rfl,rfl,ho⟩;rw [eB] at ak;obtain ⟨u,hu⟩:∃ u,l[k]?=some u:=⟨l[k],by simp [ak]⟩;have hr:=df hu;have dr:=nS hu
  have hlen:o.length<=out.length+aB (l.take k):=by rw [ho,aO];have:=la (l.take k);omega
  have hi:=ih u G o ad cp G
  have qM:out++dc (l.take (k+1))=o++dm u:=by rw [Bw hu,ho,cS]
  rw [qM];refine D ?_;refine cM [0] hi ?_;rintro _ _ ⟨lh,lj,rfl,rfl⟩;refine dH ?_;refine D ?_;exact ⟨rfl,rfl,_,_,(Wk.cut (n:=2) (fq rfl) rfl).trans (Wk.aH ar),lh,lj,_,rfl,rfl,rfl⟩
 ·rintro _ _ ⟨ad,cp,o,rfl,rfl,ho⟩;rw [eB,bW] at ho
  have hlen:o.length<=out.length+aB l:=by rw [ho,aO];have:=la l;omega
  have Kk:=qV o;rw [<-cS,<-ho];clear ho ih;refine ba ?_
  cases hv:(n.kind==13) with
  | false =>
   rw [L (by simpa using hv),cY];refine D ?_;refine ny ?_;exact xP (n:=1) rfl dI rfl (fq rfl) rfl rfl ⟨ad,cp,rfl,rfl⟩
  | true =>
   rw [ab (by simpa using hv)];refine D ?_;refine GL.pI 0 rfl rfl rfl rfl rfl rfl rfl rfl bj sL ?_;intro p8 p9;refine dk ?_;refine D ?_;refine ny ?_;exact xP (n:=1) rfl dI rfl (fq rfl) rfl rfl ⟨p8,p9,by show GV.v (.slice p8 ((br o).length+1) p9)=_;simp [br],by show [Ob.vech _ 1 (br o++[[.v (sv n.s)]]) (.slice p8 ((br o).length+1) p9)]=_;simp [br]⟩
end Go.Xg
namespace Go.Xg
open Go.RowKit Go.Xw Go.Proofs
section
variable {P:Program} {m:Nat} {ops:Array Oper} {Q:dU} {rest:List Oper} {fr:List GV} {Γ:List Ob}
theorem Qv {o:Oper} {a:Act} {next next':Act->World->Prop} {Q Q':Exit->Act->World->Prop} (hn:∀ a w,next a w->next' a w) (hq:∀ e a w,Q e a w->Q' e a w):∀ r,o.upon P a next Q r->o.upon P a next' Q' r:=by
 have hl:LetsOut Q->LetsOut Q':=fun ⟨a,w,h⟩=>⟨a,w,hq _ _ _ h⟩
 intro r h;unfold Oper.upon at h |-;split at h
 ·exact hn _ _ h
 ·exact hn _ _ h
 ·exact hn _ _ h
 ·refine Calls.mono h fun e w' he=>?_
  cases e with
  | returned v=>exact hn _ _ he
  | panicked ch=>exact hq _ _ _ he
  | outgrown=>exact hl he
 ·exact Rows.mono h fun v w' hv=>hn _ _ hv
 ·exact hq _ _ _ h
 ·exact h
theorem Bx {Q Q':Exit->Act->World->Prop} (hq:∀ e a w,Q e a w->Q' e a w):∀ (l:List Oper) (a:Act) (w:World),wpList P ops Q l a w->wpList P ops Q' l a w
 | [],a,w,h=>hq _ _ _ h
 | o::l,a,w,h=>by
  have ih:=Bx hq l;unfold wpList at h |-;split at h
  ·rename_i hw;rw [ab hw]
   rcases h with h | ⟨F,I⟩
   ·exact .inl (Qv ih hq _ h)
   ·exact .inr ⟨F,by obtain ⟨a,w,h⟩:=I;exact ⟨a,w,hq _ _ _ h⟩⟩
  ·rename_i hw;rw [L hw];exact ih _ _ h
theorem GL.mono {Q':dU} (h:GL P m ops Q rest fr Γ) (hq:∀ e fr Γ,Q e fr Γ->Q' e fr Γ):GL P m ops Q' rest fr Γ:=fun B K β w l hm hI hF =>
 Bx (fun e a w ⟨l,ha,K,β,fr,Γ,hI,hF,q⟩=>⟨l,ha,K,β,fr,Γ,hI,hF,hq _ _ _ q⟩) _ _ _ (h B K β w l hm hI hF)
theorem GL.Zz {z y:Code} (K:List GV->List Ob->Prop) (F:GL P m ops (be (GW P m z (be (AO m K) Q)) Q) rest fr Γ) (I:∀ fr Γ,K fr Γ->GW P m y Q fr Γ):GL P m ops (be (GW P m z (be (GW P m y Q) Q)) (be (GW P m y Q) Q)) rest fr Γ:=by
 refine F.mono fun e fr Γ hq=>?_
 cases e with
 | normal=>exact GW.join K hq I
 | _=>exact hq
theorem GL.BQ {t i n E k:Nat} {rows:List (List GV)} (ht:cz fr t=.vec i n) (gD:jj fr t=true) (bM:Γ[i]?=some (.vec E k 0 rows)) (hn:rows.length=n)
  (h:∀ a c,GL P m ops Q rest (bp fr t (.v (.slice a n c))) (oset Γ i (.vech E k rows (.slice a n c)))):GL P m ops Q rest fr Γ:=fun B K β w l hm hI hF=>by
 subst hn;obtain ⟨a,c,hb,bE⟩:=hI.BQ bM
 have hv:nth l t=.slice a rows.length c:=by
  have:=hF.nth t;rw [ht] at this;generalize nth l t=x at this
  cases this with
  | vec i n a' c' h =>
   obtain ⟨h0,m0,e1,_,e3⟩:=h;rw [hb] at e1;cases e1;exact e3 rfl
 have:=hF.fV t (Rel.v (K:=K) (β:=β) (.slice a rows.length c));rw [<-hv,Cw (n9 hF gD),hv] at this;exact h a c B K β w l hm bE this
end
end Go.Xg
namespace Go.Im
open Go.Xp Go.Sp
theorem AQ (names:List ae) (u:T):∀ (l:List T) (known:List ae),im names (l++[u]) known=im names l known++[mH names u (known++dc l)]
 | [],known=>by simp [im,dc]
 | t::l,known=>by rw [cons_append,im,AQ names u l,im,dc,cS];rfl
theorem I7 (names:List ae) {l:List T} {k:Nat} {u:T} (h:l[k]?=some u) (known:List ae):im names (l.take (k+1)) known=im names (l.take k) known++[mH names u (known++dc (l.take k))]:=by
 rw [cq,h];exact AQ names u _ known
def MB (names:List ae) (n:Nd) (known:List ae):Int:=if (n.kind=2\/n.kind=7)/\known.contains n.s=true then wD names n.s+1 else n.n
theorem QY {names:List ae} {n:Nd} {known:List ae} (h:n.kind=13):sT names n known=⟨n.kind,n.at_,wD names n.s+1,n.s,n.kids⟩:=by unfold sT;rw [ab h]
theorem QZ {names:List ae} {n:Nd} {known:List ae} (h:¬ n.kind=13):sT names n known=⟨n.kind,n.at_,MB names n known,n.s,n.kids⟩:=by
 unfold sT MB;rw [L h];split <;> rfl
theorem V5 (names:List ae) (s:ae) : -1<=wD names s/\wD names s<=(names.length:Int):=by
 unfold wD dA
 cases h:names.findIdx? (fun x=>x==s) with
 | none=>simp only;omega
 | some i =>
  rw [findIdx?_eq_some_iff_getElem] at h;obtain ⟨h,_⟩:=h;simp only;omega
end Go.Im
namespace Go.Xg
open GV (U)
open Go.RowKit Go.Xw Go.Proofs Tryz
open Go.Xp (Nd T Ar aK aB c6)
open Go.Sp (Src)
open Go.Im
attribute [local irreducible] GW GL GO YG GC GA be bg
theorem Pv (names:List ae) (eK:names.length<=1099511627776):∀ (N:Nat) (t:T),aK t<=N->∀ (known:List ae),known.length+aK t<=8388608 ->
  GF prog 85 [strs names,strs known,.agg (cT t)] [] (.tup [.agg (cT (mH names t known)),strs (known++dm t)]) []:=by
 intro N
 induction N with
 | zero=>intro t h;have:=jy t;omega
 | succ N ih =>
 intro t hN known iD
 cases t with
 | mk n l =>
 rw [Go.Xp.aK] at hN iD;have rp:=c6 l;have eB:(aQ l).length=l.length:=aX l;have hL:=iG known n.s G;have hA:=U2 names n.s eK;have hAl:=V5 names n.s;rw [mH,dm];obtain ⟨pn,dL⟩:∃ pn,MB names n known=pn:=⟨_,rfl⟩;have uV:=dL;unfold MB at uV;refine ah func85 ntmps85 ?_;refine GL.Zz (fun fr Γ=>fr=[strs names,strs known,U,U,U,.loc 0 0,.loc 1 0,U,.loc 2 0,U,U,U,U,U,U,U,U,U,U,U,U,U,U,U,U,U,U,U,U,U,U,U,U,U,U,U,U,U,U,U,U,U,U,U,U,U,U,U,U,U,U,U,U,U,U,U,U,U,U,U,U,U,U,U,U,U,U,U,U,U,U,U,U,U,U,U,U,U,U,U,U,U,U,U,U]/\Γ=[.box 65 (cT (.mk n l)),.box 65 zT,.box 65 [.v (ii n.kind),.v (ii n.at_),.v (ii pn),.v (sv n.s),ints n.kids,.v (.slice none 0 0)]]) ?_ ?_
 ·generalize wD names n.s=an at *
  cases q2:(n.kind==2) with
  | true =>
   cases h3:known.contains n.s with
   | true =>
    rw [h3] at hL;rw [ab ⟨.inl (by simpa using q2),h3⟩] at uV;subst uV;refine D ?_;refine V [] hL ?_;refine V [] hA ?_;exact fL
   | false =>
    rw [h3] at hL;rw [L (by rw [h3];simp)] at uV;subst uV;refine D ?_;refine V [] hL ?_;exact fL
  | false =>
   cases q7:(n.kind==7) with
   | true =>
    cases h3:known.contains n.s with
    | true =>
     rw [h3] at hL;rw [ab ⟨.inr (by simpa using q7),h3⟩] at uV;subst uV;refine D ?_;refine V [] hL ?_;refine V [] hA ?_;exact fL
    | false =>
     rw [h3] at hL;rw [L (by rw [h3];simp)] at uV;subst uV;refine D ?_;refine V [] hL ?_;exact fL
   | false =>
    rw [L (by rintro ⟨h | h,_⟩;(· rw [h] at q2;cases q2);rw [h] at q7;cases q7)] at uV;subst uV;exact fE
 ·rintro _ _ ⟨rfl,rfl⟩;refine GW.wk (Wk.wo (i:=2) (o:=5) 65 6 rfl rfl) ?_;simp only [bp,oset,cons_append,nil_append];refine D ?_
  refine GW.range (aQ l).length (fun k fr Γ=>∃ rows kn,fr=[strs names,strs kn,U,U,U,.loc 0 0,.loc 1 0,U,.loc 2 0,U,U,U,U,U,U,U,U,U,U,U,U,U,U,U,U,U,U,U,U,U,U,U,U,U,U,U,U,U,U,U,U,U,.sl 6 (aQ l),.v (ii ((aQ l).length:Int)),.v (ii (k:Nat)),U,U,U,U,U,U,U,U,U,U,U,U,U,U,U,U,U,U,U,U,U,U,U,U,U,U,U,U,U,U,U,U,U,U,U,U,U,U,U,U] /\
   Γ=[.box 65 (cT (.mk n l)),.box 65 zT,.box 65 [.v (ii n.kind),.v (ii n.at_),.v (ii pn),.v (sv n.s),ints n.kids,.vec 3 k],.vec 65 6 0 rows] /\
   rows.length=k/\rows=aQ (im names (l.take k) known)/\kn=known++dc (l.take k)) ?_ G ?_ ?_ ?_
  ·exact ⟨_,_,Wk.aH ar,[],known,rfl,rfl,rfl,by rw [take_zero,im];rfl,by simp [dc]⟩
  ·rintro k _ _ ⟨_,_,rfl,rfl,_⟩;exact dK
  ·rintro k _ _ ak ⟨rows,kn,rfl,rfl,oY,bK,n8⟩;rw [eB] at ak;obtain ⟨u,hu⟩:∃ u,l[k]?=some u:=⟨l[k],by simp [ak]⟩;have hr:=df hu;have dr:=nS hu
   have hlen:kn.length<=known.length+aB (l.take k):=by rw [n8,aO];have:=la (l.take k);omega
   have hi:=ih u G kn G
   have qM:known++dc (l.take (k+1))=kn++dm u:=by rw [Bw hu,n8,cS]
   have CX:aQ (im names (l.take (k+1)) known)=rows++[cT (mH names u kn)]:=by
    rw [I7 names hu,tj,<-bK,<-n8];first | done | simp only [aQ,sn]
   rw [qM,CX];clear bK n8;generalize mH names u kn=bu at *;refine D ?_;refine V [] hi ?_;refine fk ?_;refine D ?_;exact ⟨rfl,rfl,_,_,(Wk.cut (n:=4) (fq rfl) rfl).trans (Wk.aH ar),_,_,rfl,rfl,by rw [aO,oY];rfl,rfl,rfl⟩
  ·rintro _ _ ⟨rows,kn,rfl,rfl,oY,bK,n8⟩;rw [eB,bW] at bK n8;rw [eB] at oY |-;rw [<-cS,<-n8]
   have fH:kn.length<=known.length+aB l:=by rw [n8,aO];have:=la l;omega
   have abZ:kn.length * 16<=140737488355328:=by omega
   refine ba (GW.wk (Wk.qz (i:=2) (o:=5) rfl rfl rfl rfl oY) ?_);simp only [bp,oset];refine GW.Gz (cJ:=[strs names,strs kn,U,U,U,.loc 0 0,.loc 1 0,U,.loc 2 0,U,U,U,U,U,U,U,U,U,U,U,U,U,U,U,U,U,U,U,U,U,U,U,U,U,U,U,U,U,U,U,U,U,U,U,U,U,U,U,U,U,U,U,U,U,U,U,U,U,U,U,U,U,U,U,U,U,U,U,U,U,U,U,U,U,U,U,U,U,U,U,U,U,U,U,U]) (aR:=[.box 65 (cT (.mk n l)),.box 65 zT,.box 65 [.v (ii n.kind),.v (ii n.at_),.v (ii pn),.v (sv n.s),ints n.kids,.sl 6 rows],.vec 65 6 l.length rows]) ar rfl ?_;subst bK;clear n8
   cases hv:(n.kind==13) with
   | false =>
    rw [L (by simpa using hv),cY,QZ (by simpa using hv),dL];refine D ?_;refine kJ ?_;exact ⟨rfl,rfl⟩
   | true =>
    rw [ab (by simpa using hv),QY (by simpa using hv)]
    have CR:(kn.map fun s=>[GV.v (sv s)]).length=kn.length:=by simp
    have cj:strs (kn++[n.s])=.sl 1 ((kn.map fun s=>[GV.v (sv s)])++[[.v (sv n.s)]]):=by simp
    rw [cj];have eO:kT (kn.map fun s=>[GV.v (sv s)])=true:=nN kn;generalize wD names n.s=an at *;refine D ?_;refine V [] hA ?_;refine aL (.q 1 (aD 3 3 (.f 0 (.f 2 (.a 6 (.a 7 (.q 8 .nil))) 6 (.a 2 (.a 7 (.q 8 .nil)))) 6 (.a 0 (.a 2 (.a 7 (.q 8 .nil))))))) ?_;refine ao ?_;refine GO.fork ?_ ?_
    ·refine qY ?_;refine ao ?_;refine GO.fork ?_ ?_
     ·refine OA rfl rfl (GL.Ab rfl rfl rfl rfl eO (by refine ⟨?_,?_⟩;(· rw [CR];omega);(· rw [CR];omega)) ?_);rw [CR];refine dd ?_;simp only [cI];refine ao ?_;refine dC ?_;refine ao ?_;refine nu ?_;refine bx ?_;refine GW.wk (Wk.jD (t:=7) rfl rfl rfl (by simp [chunk])) ?_;refine kJ ?_;exact ⟨rfl,rfl⟩
     ·refine dC ?_;refine ao ?_;refine OA rfl rfl (GL.Ab rfl rfl rfl rfl eO (by refine ⟨?_,?_⟩;(· rw [CR];omega);(· rw [CR];omega)) ?_);rw [CR];refine dd ?_;simp only [cI];refine ao ?_;refine nu ?_;refine bx ?_;refine GW.wk (Wk.jD (t:=7) rfl rfl rfl (by simp [chunk])) ?_;refine kJ ?_;exact ⟨rfl,rfl⟩
    ·refine dC ?_;refine ao ?_;refine qY ?_;refine ao ?_;refine OA rfl rfl (GL.Ab rfl rfl rfl rfl eO (by refine ⟨?_,?_⟩;(· rw [CR];omega);(· rw [CR];omega)) ?_);rw [CR];refine dd ?_;simp only [cI];refine ao ?_;refine nu ?_;refine bx ?_;refine GW.wk (Wk.jD (t:=7) rfl rfl rfl (by simp [chunk])) ?_;refine kJ ?_;exact ⟨rfl,rfl⟩
end Go.Xg
namespace Go.Im
open Go.Xp Go.Sp
def yN (l:List ae) (k:Nat):Int:=if (List.range k).any (lR l)=true then 21 else 0
theorem Sd (l:List ae) (k:Nat):yN l (k+1)=if lR l k=true then iq (yN l k) 21 else yN l k:=by
 unfold yN;rw [range_succ,any_append]
 cases h:(List.range k).any (lR l) with
 | true=>simp [iq]
 | false=>simp [iq]
theorem Vg (l:List ae):yN l l.length=if ff l=true then 21 else 0:=rfl
end Go.Im
namespace Go.Xg
open GV (U)
open Go.RowKit Go.Xw Go.Proofs Tryz
open Go.Xp (Nd T Ar aK aB)
open Go.Sp (Src)
open Go.Im
attribute [local irreducible] GW GL GO YG GC GA be bg
theorem Mm (p:Src) (hw:fC p<=1048576) :
  GF prog 106 [.loc 0 0] [.box 126 (cC p (.slice none 0 0) ⟨[],0,0⟩)] (.tup []) [.box 126 (cC p (.slice none 0 0) ⟨[],(if ff (bQ p)=true then 21 else 0),0⟩)]:=by
 obtain ⟨⟨a1,a2⟩,⟨b1,b2⟩,⟨c1,c2⟩,⟨d1,d2⟩⟩:=jO p
 have wU:(p.globals.map fun s=>[GV.v (sv s)]).length=p.globals.length:=by simp
 have eO:kT (p.globals.map fun s=>[GV.v (sv s)])=true:=yr p.globals;have kX:=yi p;rw [<-Vg]
 have zh:=fun k=>D1 p (.slice none 0 0) (yN (bQ p) k) 21
 rw [show (0:Int)=yN (bQ p) 0 from rfl];unfold cC at zh |-;refine ah func106 ntmps106 ?_;refine rP ?_;refine D ?_;refine rP ?_;refine D ?_;refine GL.Ab rfl rfl rfl rfl eO (by refine ⟨?_,?_⟩;(· rw [wU];omega);(· rw [wU];omega)) ?_;rw [wU];refine bm ?_;simp only [cI];refine D ?_;refine GW.range (p.arrays.map az).length (fun k fr Γ=>∃ R n,fr=[.loc 0 0,U,.vec 1 0,.vec 2 n,U,U,U,U,U,U,U,U,U,U,U,U,U,U,U,U,U,U,.sl 2 (p.arrays.map az),.v (ii ((p.arrays.map az).length:Int)),.v (ii (k:Nat)),U,U,U,U,U,U,U,U,U,U,U,U,U,U,U,U,U,U,U,U,U,U,U,U,U,U,U,U,U,U,U,U,U,U,U,U,U,U,U,U,U,U,U,U,U]/\Γ=[.box 126 [strs p.globals,.sl 2 (p.arrays.map az),.sl 3 (p.fns.map au),.sl 5 (p.nodes.map ax),.v (.slice none 0 0),.v (ii (yN (bQ p) 0)),.v (ii 0)],.vec 9 1 0 [],.vec 9 1 0 R]/\R.length=n/\R=br (p.globals++(eD p).take k)) ?_ (by rw [bP];omega) ?_ ?_ ?_
 ·exact ⟨_,_,Wk.aH ar,_,_,rfl,rfl,wU,by simp [br,chunk]⟩
 ·rintro k _ _ ⟨R,n,rfl,rfl,_⟩;exact dK
 ·rintro k _ _ hk ⟨R,n,rfl,rfl,gh,hR⟩
  have hk:k < p.arrays.length:=by simpa using hk
  have hx:p.arrays[k]?=some p.arrays[k]:=by simp [hk]
  have hr:=Ic hx
  have bV:br (p.globals++(eD p).take (k+1))=R++[[.v (sv p.arrays[k].name)]]:=by
   have:(eD p)[k]?=some p.arrays[k].name:=by rw [eD,aP,hx];rfl
   rw [cq,this,hR];simp [br]
  have zw:n<=4194304:=by
   rw [<-gh,hR,mD,aO,cX];omega
  have hb:n+1<=9223372036854775807/\(n+1) * 16<=140737488355328:=by omega
  clear hR;unfold az at hr;generalize p.arrays[k]=x at *;refine D ?_;refine fk ?_;refine D ?_;exact ⟨rfl,rfl,_,_,(Wk.cut (n:=3) (fq rfl) rfl).trans (Wk.aH ar),_,_,rfl,rfl,by simp [gh],bV.symm⟩
 ·rintro _ _ ⟨R,n,rfl,rfl,gh,hR⟩;rw [bP,show p.arrays.length=(eD p).length by simp [eD],bW] at hR;refine ba ?_;refine D ?_;refine GW.range (p.fns.map au).length (fun k fr Γ=>∃ R n,fr=[.loc 0 0,U,.vec 1 0,.vec 2 n,U,U,U,U,U,U,U,U,U,U,U,U,U,U,U,U,U,U,U,U,U,U,U,U,U,U,U,U,U,U,U,U,U,U,.sl 3 (p.fns.map au),.v (ii ((p.fns.map au).length:Int)),.v (ii (k:Nat)),U,U,U,U,U,U,U,U,U,U,U,U,U,U,U,U,U,U,U,U,U,U,U,U,U,U,U,U,U]/\Γ=[.box 126 [strs p.globals,.sl 2 (p.arrays.map az),.sl 3 (p.fns.map au),.sl 5 (p.nodes.map ax),.v (.slice none 0 0),.v (ii (yN (bQ p) 0)),.v (ii 0)],.vec 9 1 0 [],.vec 9 1 0 R]/\R.length=n/\R=br ((p.globals++eD p)++(ik p).take k)) ?_ (by rw [bP];omega) ?_ ?_ ?_
  ·exact ⟨_,_,Wk.aH ar,_,_,rfl,rfl,gh,by rw [hR];simp⟩
  ·rintro k _ _ ⟨R,n,rfl,rfl,_⟩;exact dK
  ·rintro k _ _ hk ⟨R,n,rfl,rfl,gh,hR⟩
   have hk:k < p.fns.length:=by simpa using hk
   have hx:p.fns[k]?=some p.fns[k]:=by simp [hk]
   have hr:=Ds hx
   have bV:br ((p.globals++eD p)++(ik p).take (k+1))=R++[[.v (sv p.fns[k].name)]]:=by
    have:(ik p)[k]?=some p.fns[k].name:=by rw [ik,aP,hx];rfl
    rw [cq,this,hR];simp [br]
   have zw:n<=4194304:=by
    rw [<-gh,hR,mD,aO,aO,cX,eD,bP];omega
   have hb:n+1<=9223372036854775807/\(n+1) * 16<=140737488355328:=by omega
   clear hR;unfold au at hr;generalize p.fns[k]=x at *;refine D ?_;refine fk ?_;refine D ?_;exact ⟨rfl,rfl,_,_,(Wk.cut (n:=3) (fq rfl) rfl).trans (Wk.aH ar),_,_,rfl,rfl,by simp [gh],bV.symm⟩
  ·rintro _ _ ⟨R,n,rfl,rfl,gh,hR⟩;rw [bP,show p.fns.length=(ik p).length by simp [ik],bW] at hR;have hR:R=br (bQ p):=hR
   have l0:R.length=(bQ p).length:=by rw [hR,mD]
   have OU:n=R.length:=gh.symm;subst OU;refine ba ?_;refine GW.wk (Wk.jD (t:=3) rfl rfl rfl rfl) ?_;refine GW.wk (Wk.cut (n:=2) (fq rfl) rfl) ?_;refine GW.Gz (cJ:=[.loc 0 0,U,.vec 1 0,.sl 1 R,U,U,U,U,U,U,U,U,U,U,U,U,U,U,U,U,U,U,U,U,U,U,U,U,U,U,U,U,U,U,U,U,U,U,U,U,U,U,U,U,U,U,U,U,U,U,U,U,U,U,U,U,U,U,U,U,U,U,U,U,U,U,U,U,U,U]) (aR:=[.box 126 [strs p.globals,.sl 2 (p.arrays.map az),.sl 3 (p.fns.map au),.sl 5 (p.nodes.map ax),.v (.slice none 0 0),.v (ii (yN (bQ p) 0)),.v (ii 0)],.vec 9 1 0 []]) ar rfl ?_;refine D ?_;refine GW.range R.length (fun k fr Γ=>∃ S n fz,fr=[.loc 0 0,U,.vec 1 n,U,U,U,U,U,U,U,U,U,U,U,U,U,U,U,U,U,U,U,U,U,U,U,U,U,U,U,U,U,U,U,U,U,U,U,U,U,U,U,U,U,U,U,U,U,U,U,.sl 1 R,.v (ii (R.length:Int)),.v (ii (k:Nat)),U,U,U,U,U,U,U,U,U,U,U,U,U,U,U,U,U]/\Γ=[.box 126 [strs p.globals,.sl 2 (p.arrays.map az),.sl 3 (p.fns.map au),.sl 5 (p.nodes.map ax),.v (.slice none 0 0),.v (ii (yN (bQ p) k)),.v (ii 0)],.vec 9 1 fz S]/\S.length=n/\S=br ((bQ p).take k)) ?_ G ?_ ?_ ?_
   ·exact ⟨_,_,Wk.aH ar,_,_,_,rfl,rfl,rfl,by simp [br]⟩
   ·rintro k _ _ ⟨S,n,fz,rfl,rfl,_⟩;exact dK
   ·rintro k _ _ hk ⟨S,n,fz,rfl,rfl,GZ,hS⟩;rw [l0] at hk;obtain ⟨x,hx⟩:∃ x,(bQ p)[k]?=some x:=⟨(bQ p)[k],by simp [hk]⟩
    have TN:R[k]?=some [.v (sv x)]:=by rw [hR,br,aP,hx];rfl
    have bV:br ((bQ p).take (k+1))=S++[[.v (sv x)]]:=by rw [cq,hx,hS];simp [br]
    have zw:n<=8388608:=by rw [<-GZ,hS,mD,cX];omega
    have hb:n+1<=9223372036854775807/\(n+1) * 16<=140737488355328:=by omega
    have hd:lR (bQ p) k=(gE x || ((bQ p).take k).contains x):=by unfold lR;rw [hx]
    have OD:=yc x
    have hL:GF prog 25 [.sl 1 S,.v (sv x)] [] (.v (.bool (((bQ p).take k).contains x))) []:=by
     rw [hS];exact iG ((bQ p).take k) x (by rw [cX];omega)
    have hF:=zh k;rw [Sd];clear hS hR l0;generalize yN (bQ p) k=cd at *;generalize lR (bQ p) k=bn at *
    cases F:gE x with
    | true =>
     rw [F] at OD hd;subst hd;rw [ab (by simp)];refine D ?_;refine V [] OD ?_;refine V [0] hF ?_;refine fk ?_;refine D ?_;exact ⟨rfl,rfl,_,_,Wk.aH ar,_,_,_,rfl,rfl,by simp [GZ],bV.symm⟩
    | false =>
     rw [F] at OD hd
     cases I:((bQ p).take k).contains x with
     | true =>
      rw [I] at hL hd;subst hd;rw [ab (by simp)];refine D ?_;refine V [] OD ?_;refine GL.wk (Wk.jD (t:=59) rfl rfl rfl GZ) ?_;refine dk ?_;refine D ?_;refine V [] hL ?_;refine V [0] hF ?_;refine fk ?_;refine D ?_;exact ⟨rfl,rfl,_,_,Wk.aH ar,_,_,_,rfl,rfl,by simp [GZ],bV.symm⟩
     | false =>
      rw [I] at hL hd;subst hd;rw [L (by simp)];refine D ?_;refine V [] OD ?_;refine GL.wk (Wk.jD (t:=59) rfl rfl rfl GZ) ?_;refine dk ?_;refine D ?_;refine V [] hL ?_;refine fk ?_;refine D ?_;exact ⟨rfl,rfl,_,_,Wk.aH ar,_,_,_,rfl,rfl,by simp [GZ],bV.symm⟩
   ·rintro _ _ ⟨S,n,fz,rfl,rfl,GZ,hS⟩;rw [l0];exact iK
theorem U1 (p:Src) (c z:Int) (h:GF prog 62 [.agg (av p)] [] (.tup [.v (ii c),.v (ii z)]) []):GF prog 21 [.agg (av p)] [] (.v (.bool (c==0))) []:=by
 refine ah func21 ntmps21 ?_;refine V [] h ?_;exact aj
end Go.Xg
namespace Go.Im
open Go.Xp Go.Sp
end Go.Im
namespace Go.Xg
open Go.RowKit Go.Xw Go.Proofs Tryz
open Go.Xp (Nd T Ar aK aB c6)
open Go.Sp (Src)
open Go.Im
attribute [local irreducible] GW GL GO YG GC GA be bg
theorem Li {l:List T} {t:T} (h:t∈l):aK t<=aB l:=by
 obtain ⟨k,hk⟩:=List.getElem?_of_mem h;have:=nS hk;omega
theorem GP {p:Src} (h:fI p=false):lC p=false:=by unfold lC;rw [h];rfl
theorem E0 {p:Src} {l:List T} (h:fI p=true) (hl:il p l):lC p=((ES p l).1==0):=by
 unfold lC;rw [h,hl.EO];simp only [Bool.true_and];rfl
theorem Ka (p:Src) (hw:fC p<=1048576) (hn:xD p):GF prog 35 [.agg (av p)] [] (.v (.bool (lC p))) []:=by
 obtain ⟨⟨a1,a2⟩,⟨b1,b2⟩,⟨c1,c2⟩,⟨d1,d2⟩⟩:=jO p;have hF:=Nc p hw hn
 cases hf:fI p with
 | false =>
  rw [hf] at hF;have:=Ow p _ _ (M8 p hF);rw [GP hf];exact this
 | true =>
  rw [hf] at hF;obtain ⟨l,hl⟩:=vw hf;have hlen:=gw.len hl.fns;have kX:=yi p;have kK:=EN hl
  have hc:=Ly p l (bQ p) G hlen G hF (CC p hw) (Qr p G G fun a ha=>⟨(kK a ha).1,by have:=(kK a ha).2;omega⟩) fun i f t F I=>by
   obtain ⟨e1,_⟩:=gw.at_ hl.fns i f t F I;have h7:=ed.ix l 0 i _ hl.st I;rw [cI] at e1 h7
   have hb:f.body.toNat=aB (l.take i):=by rw [e1,pM]
   have hz:=Li (bA I);have:=hl.len;have:=Oa p i f t G (fun n h=>by have:=(d2 n h).2;omega) G G G F (by have:=(c2 f (bA F)).2.1;omega) G (by rw [hb];exact h7) G;rw [hb] at this;exact this
  rw [E0 hf hl];exact Ow p _ _ hc
theorem QP (p:Src) (hw:fC p<=1048576):∃ c z,GF prog 62 [.agg (av p)] [] (.tup [.v (ii c),.v (ii z)]) []/\(c==0)=lC p:=by
 obtain ⟨⟨a1,a2⟩,⟨b1,b2⟩,⟨c1,c2⟩,⟨d1,d2⟩⟩:=jO p;have hF:=Nb p hw
 cases hf:fI p with
 | false =>
  rw [hf] at hF;exact ⟨_,_,M7 p hF,by rw [GP hf];rfl⟩
 | true =>
  rw [hf] at hF;obtain ⟨l,hl⟩:=vw hf;have hlen:=gw.len hl.fns;have kK:=EN hl
  have XJ:∀ a∈p.arrays,0<=a.size/\a.size<=2147483648:=fun a ha=>⟨(kK a ha).1,by have:=(kK a ha).2;omega⟩
  obtain ⟨ls,hm⟩:=hl.Ga
  have hS:=fun k=>HE p (.slice none 0 0) k G XJ fun h=>F5 p (.slice none 0 0) k G G XJ h
  have hle:=hl.len
  have hc:=Lx p l _ _ hlen G G G (fun f h=>by have:=(c2 f h).2.1;omega) (fun t ht=>by have:=Li ht;omega) hF (Mm p hw) (hS _) fun i f t F I=>by
   obtain ⟨e1,_⟩:=gw.at_ hl.fns i f t F I;have h7:=ed.ix l 0 i _ hl.st I;rw [cI] at e1 h7;rw [e1];exact Gh p (fun n h=>by have:=(d2 n h).2;omega) _ _ t ((xu _).1 t _ h7 (aE _))
  have hs:=V9 (p:=p) (l:=l) (fun a ha=>(kK a ha).1) (fun t ht=>by obtain ⟨i,hi⟩:=List.getElem?_of_mem ht;exact (hm.wf hi).1)
  have e:((NH p l).code==0)=lC p:=by
   rw [E0 hf hl]
   by_cases h0:(ES p l).1=0
   ·rw [h0,hs.1 h0]
   ·have F:(NH p l).code≠0:=fun e=>h0 (hs.2 e)
    rw [show ((ES p l).1==0)=false by simpa using h0,show ((NH p l).code==0)=false by simpa using F]
  exact ⟨_,_,hc,e⟩
theorem J9 (p:Src) (hw:fC p<=1048576):GF prog 21 [.agg (av p)] [] (.v (.bool (lC p))) []:=by
 obtain ⟨c,z,h,e⟩:=QP p hw;rw [<-e];exact U1 p c z h
end Go.Xg
namespace Go.Im
open Go.Xp Go.Sp
mutual
theorem IG (names:List ae):∀ (t:T) (known:List ae),aK (mH names t known)=aK t
 | .mk n l,known=>by rw [mH,aK,aK,IF names l]
theorem IF (names:List ae):∀ (l:List T) (known:List ae),aB (im names l known)=aB l
 | [],known=>by rw [im]
 | t::r,known=>by rw [im,aB,aB,IG names t,IF names r]
end
end Go.Im
namespace Go.Xg
open Go.RowKit Go.Xw Go.Proofs Tryz
open Go.Xp (Nd T Ar aK aB c6)
open Go.Sp (Src)
open Go.Im
attribute [local irreducible] GW GL GO YG GC GA be bg
theorem Qf (p:Src) (hk:∀ n∈p.nodes,n.kids.length<=1000000000000) (f:Go.Sp.Fn) (t:T) (hb:0<=f.body) (cj:eF p.nodes f.body.toNat t):GF prog 84 [.agg (av p),.v (ii f.body)] [] (.agg (cT t)) []:=by
 have:=Gh p hk _ _ t ((xu _).1 t _ cj (aE _))
 rwa [Int.toNat_of_nonneg hb] at this
theorem Be (p:Src) (i:Nat) (f:Go.Sp.Fn) (t:T) (hk:∀ n∈p.nodes,n.kids.length<=1000000000000) (hf:p.fns[i]?=some f) (ru:f.params.length<=1048576) (hb:0<=f.body) (cj:eF p.nodes f.body.toNat t) (dr:aK t<=1048576) :
  GC prog 26 [.agg (av p),.v (ii (i:Nat))] [] fun g Δ=>∃ ad cp,g=.v (.slice ad (f.params++dm t).length cp)/\Δ=[.vech 9 1 (br (f.params++dm t)) (.slice ad (f.params++dm t).length cp)]:=by
 have hr:(p.fns.map au)[i]?=some (au f):=by rw [aP,hf];rfl
 have wU:(f.params.map fun s=>[GV.v (sv s)]).length=f.params.length:=by simp
 have eO:=nN f.params;have hS:=Qf p hk f t hb cj
 have hV:=fun ad cp=>Pu _ t (aE _) f.params ad cp G
 unfold au at hr;refine ah func26 ntmps26 ?_;refine aL (.q 1 (.q 2 (aD 4 3 (.a 0 (.a 3 (.a 7 (.a 8 (.q 9 .nil)))))))) ?_;refine ao ?_;refine qY ?_;refine ao ?_;refine OA rfl rfl (GL.Ab rfl rfl rfl rfl eO (by refine ⟨?_,?_⟩;(· rw [wU];omega);(· rw [wU];omega)) ?_);rw [wU];refine GL.BQ (t:=14) rfl rfl rfl (by simp [chunk]) ?_;intro ad cp;simp only [cI];refine dd ?_;refine ao ?_;refine aI [] hS ?_;refine OA rfl rfl ?_;refine cM [2] (hV ad cp) ?_;rintro _ _ ⟨lh,lj,rfl,rfl⟩;refine ⟨by simp,?_⟩;refine dd ?_;refine bx ?_;refine ny ?_;refine Al 2 rfl dI rfl ?_ ?_
 ·intro x hx;rw [sP hx];rfl
 ·exact ⟨_,_,rfl,rfl⟩
theorem Pw (p:Src) (i:Nat) (f:Go.Sp.Fn) (t:T) (hk:∀ n∈p.nodes,n.kids.length<=1000000000000) (hf:p.fns[i]?=some f) (ru:f.params.length<=1048576) (hb:0<=f.body) (cj:eF p.nodes f.body.toNat t) (dr:aK t<=1048576) :
  GF prog 30 [.agg (av p),.v (ii (i:Nat))] [] (.agg (cT (mH (f.params++dm t) t f.params))) []:=by
 have hr:(p.fns.map au)[i]?=some (au f):=by rw [aP,hf];rfl
 have hS:=Qf p hk f t hb cj;have hL:=Be p i f t hk hf ru hb cj dr;have TR:=Cy _ t (aE _);have hB:=Pv (f.params++dm t) (by rw [aO];omega) _ t (aE _) f.params G;unfold au at hr;generalize f.params++dm t=ns at *;generalize mH ns t f.params=bt at *;refine ah func30 ntmps30 ?_;refine aL (.q 0 (.q 1 (aD 3 13 (.f 2 (.f 16 (.f 17 (aD 18 3 (.a 21 (.a 22 (.q 23 .nil)))) 21 (.a 17 (aD 18 3 (.a 22 (.q 23 .nil))))) 21 (.a 16 (.a 17 (aD 18 3 (.a 22 (.q 23 .nil)))))) 21 (.a 2 (.a 16 (.a 17 (aD 18 3 (.a 22 (.q 23 .nil)))))))))) ?_;refine ao ?_;refine GO.fork ?_ ?_
 ·refine OA rfl rfl ?_;refine cM [] hL ?_;rintro _ _ ⟨ad,cp,rfl,rfl⟩;refine ⟨by simp,?_⟩;refine GL.wk (Wk.ui (t:=10) (i:=2) rfl rfl rfl) ?_;refine dd ?_;refine ao ?_;refine GO.fork ?_ ?_
  ·refine aI [] hS ?_;refine GO.fork ?_ ?_
   ·refine aI [] hB ?_;exact kH
   ·refine ao ?_;refine aI [] hB ?_;exact kH
  ·refine ao ?_;refine aI [] hS ?_;refine aI [] hB ?_;exact kH
 ·refine ao ?_;refine OA rfl rfl ?_;refine cM [] hL ?_;rintro _ _ ⟨ad,cp,rfl,rfl⟩;refine ⟨by simp,?_⟩;refine GL.wk (Wk.ui (t:=10) (i:=3) rfl rfl rfl) ?_;refine dd ?_;refine ao ?_;refine aI [] hS ?_;refine aI [] hB ?_;exact kH
end Go.Xg
namespace Go.Im
open Go.Xp Go.Sp
theorem Good.EO {p:Src} {l:List T} (h:Good p l):kB p.nodes p.fns 0 []=some (l,p.nodes.length):=h.st.EO
structure yS (p:Src) (l:List T) (i:Nat) (f:Go.Sp.Fn) (t:T):Prop where
 good:Good p l
 gf:p.fns[i]?=some f
 gt:l[i]?=some t
 ok:FD p t f.params
 wf:gJ t
 z:zT t
 st:eF p.nodes f.body.toNat t
 body:0<=f.body
 sz:aK t<=800
theorem Good.fn {p:Src} {l:List T} (h:Good p l) {i:Nat} {f:Go.Sp.Fn} {t:T} (e1:p.fns[i]?=some f) (e2:l[i]?=some t):yS p l i f t:=by
 obtain ⟨a1,a2,a3,a4,a5⟩:=h.at_ _ _ _ e1 e2;refine ⟨h,e1,e2,a1,a2,a3,a4,a5,?_⟩;have:=h.st.few;have:=a4.le;omega
end Go.Im
namespace Go.Xg
open Go.RowKit Go.Xw Go.Proofs Tryz
open Go.Xp (Nd T Ar aK aB c6)
open Go.Sp (Src)
open Go.Im
attribute [local irreducible] GW GL GO YG GC GA be bg
theorem UA (p:Src) (hw:fC p<=1048576) {l:List T} {i:Nat} {f:Go.Sp.Fn} {t:T} (h:yS p l i f t) :
  GF prog 30 [.agg (av p),.v (ii (i:Nat))] [] (.agg (cT (mH (f.params++dm t) t f.params))) []:=by
 obtain ⟨⟨a1,a2⟩,⟨b1,b2⟩,⟨c1,c2⟩,⟨d1,d2⟩⟩:=jO p;exact Pw p i f t (fun n hn=>by have:=(d2 n hn).2;omega) h.gf (by have:=(c2 f (bA h.gf)).2.1;omega) h.body h.st (by have:=h.sz;omega)
end Go.Xg
namespace Go.Im
open Go.Xp Go.Sp
def gH (s:List ae) (_:Nat) (t:T) (_:List ae):List ae:=s++(if t.n.kind=13 then [t.n.s] else [])
theorem U7 (s:List ae) (a:Nat) (t:T) (ls:List ae):(gH s a t ls).length<=s.length+1:=by unfold gH;rw [aO];split <;> simp
mutual
def De:T->List ae
 | .mk n l=>(if n.kind=13 then [n.s] else [])++o0 l
def o0:List T->List ae
 | []=>[]
 | t::r=>De t++o0 r
end
mutual
theorem NX:∀ (t:T) (a:Nat) (s ls:List ae),(gW gH t a s ls).1=s++De t
 | .mk n l,a,s,ls=>by
  rw [gW,De];simp only;rw [DY l];unfold gH;show s++_++_=_;rw [cS];rfl
theorem DY:∀ (l:List T) (a:Nat) (s ls:List ae),(dD gH l a s ls).1=s++o0 l
 | [],a,s,ls=>by rw [dD,o0,cY]
 | t::r,a,s,ls=>by rw [dD,DY r,NX t,o0,cS]
end
mutual
theorem ZQ:∀ t:T,sf t->De t=[]
 | .mk n l,h=>by rw [sf] at h;rw [De,HZ l h.2,L h.1];rfl
theorem HZ:∀ l:List T,kF l->o0 l=[]
 | [],_=>by rw [o0]
 | t::r,h=>by rw [kF] at h;rw [o0,ZQ t h.1,HZ r h.2];rfl
end
mutual
theorem Vj:∀ t:T,sf t->dm t=[]
 | .mk n l,h=>by rw [sf] at h;rw [dm,Cc l h.2,L h.1];rfl
theorem Cc:∀ l:List T,kF l->dc l=[]
 | [],_=>by rw [dc]
 | t::r,h=>by rw [kF] at h;rw [dc,Vj t h.1,Cc r h.2];rfl
end
mutual
theorem Kz:∀ t:T,gJ t->De t=dm t
 | .mk n l,h=>by
  rw [gJ] at h;rw [De,dm]
  by_cases hk:n.kind=13
  ·rw [HZ l (h.1 hk),Cc l (h.1 hk),ab hk];rfl
  ·rw [L hk,HH l h.2.2];simp
theorem HH:∀ l:List T,dS l->o0 l=dc l
 | [],_=>by rw [o0,dc]
 | t::r,h=>by rw [dS] at h;rw [o0,dc,Kz t h.1,HH r h.2]
end
theorem RY:∀ (l:List T),(o0 l).length<=aB l:=by
 have key:∀ (N:Nat) (t:T),aK t<=N->(De t).length<=aK t:=by
  intro N
  induction N with
  | zero=>intro t h;have:=jy t;omega
  | succ N ih =>
   intro t h
   have k2:∀ l:List T,aB l<=N->(o0 l).length<=aB l:=by
    intro l
    induction l with
    | nil=>intro _;simp [o0]
    | cons u l ih2 =>
     intro h;rw [aB] at h;have:=ih u (by omega);have:=ih2 (by omega);rw [o0,aO,aB];omega
   cases t with
   | mk n l =>
    rw [aK] at h |-;have:=k2 l (by omega);rw [De,aO];split <;> simp <;> omega
 intro l
 induction l with
 | nil=>simp [o0]
 | cons u l ih =>
  have:=key _ u (aE _);rw [o0,aO,aB];omega
end Go.Im
namespace Go.Xg
open Go.RowKit Go.Xw Go.Proofs Tryz
open Go.Xp (Nd T Ar aK aB)
open Go.Sp (Src)
open Go.Im
attribute [local irreducible] GW GL GO YG GC GA be bg
theorem VO (p:Src) (a:Nat) (n:Nd) (l:List T) (ls:List ae) (s:List ae) (E1:TypeId) (eb:Option Addr) (ec:Nat) (ad:Option Addr) (cp:Nat) (hn:p.nodes[a]?=some n) (hs:s.length<=1048576000) :
  GC prog 147 [.v (ii (a:Nat)),.v (.slice ad ls.length cp),.box (av p) 0,.loc 0 0] [.box E1 [.v (.slice eb s.length ec)],.vech 9 1 (br s) (.slice eb s.length ec),.vech 9 1 (br ls) (.slice ad ls.length cp)] fun g Δ=>g=.tup []/\∃ yF yG,
   Δ=[.box E1 [.v (.slice yF (gH s a (.mk n l) ls).length yG)],.vech 9 1 (br (gH s a (.mk n l) ls)) (.slice yF (gH s a (.mk n l) ls).length yG),.vech 9 1 (br ls) (.slice ad ls.length cp)]:=by
 have hr:=jL hn;have uW:=qV s;have e:gH s a (.mk n l) ls=s++(if n.kind=13 then [n.s] else []):=rfl;rw [e];unfold ax at hr;refine cL func147 ntmps147 ?_
 cases F:(n.kind==13) with
 | false =>
  rw [L (by simpa using F),cY];refine D ?_;refine dz ?_;exact ⟨rfl,eb,ec,rfl⟩
 | true =>
  rw [ab (by simpa using F)];refine D ?_;refine aL (aD 0 7 (.a 7 (.a 8 (.a 9 .nil)))) ?_;refine ao ?_;refine dC ?_;refine ao ?_;refine OA rfl rfl (GL.qA 1 (news:=[[.v (sv n.s)]]) rfl rfl rfl bj rfl rfl (by refine ⟨?_,?_⟩;(· show _+1<=_;omega);(· show (_+1) * _<=_;omega)) ?_);intro p8 p9;refine dd ?_;refine bx ?_;refine dz ?_;exact ⟨rfl,p8,p9,by simp [br]⟩
end Go.Xg
namespace Go.Xg
open GV (U)
open Go.RowKit Go.Xw Go.Proofs Tryz
open Go.Xp (Nd T Ar aK aB dF)
open Go.Sp (Src)
open Go.Im
attribute [local irreducible] GW GL GO YG GC GA be bg
def IH (p:Src):GV:=.fn (.func 147) [] [.box (av p) 0,.loc 0 0]
def Ui (p:Src):GV:=.fn (.func 97) [] [.loc 2 0,.loc 3 0,.box (av p) 0,.loc 4 0]
def Ub (E1:TypeId) (s:List ae) (eb:Option Addr) (ec:Nat):List Ob:=[.box E1 [.v (.slice eb s.length ec)],.vech 9 1 (br s) (.slice eb s.length ec)]
def FH (p:Src) (E1 E2 E3 E4:TypeId) (s:List ae) (ls:List ae) (ad:Option Addr) (cp:Nat) (eb:Option Addr) (ec:Nat):List Ob :=
 [.box E1 [.v (.slice eb s.length ec)],.vech 9 1 (br s) (.slice eb s.length ec),.box E2 [IH p],.box E3 [.v (.slice ad ls.length cp)],.box E4 [Ui p],.vech 9 1 (br ls) (.slice ad ls.length cp)]
theorem SY (p:Src) (E1 E2 E3 E4:TypeId) (hp:p.nodes.length<=1048576) (fH:∀ n∈p.nodes,n.kids.length<=1099511627776):∀ (N:Nat) (t:T),aK t<=N->∀ (a:Nat) (s:List ae) (ls:List ae) (ad:Option Addr) (cp:Nat) (eb:Option Addr) (ec:Nat),eF p.nodes a t->ls.length+aK t<=8388608->s.length+aK t<=8388608 ->
  GC prog 97 [.v (ii (a:Nat)),.loc 2 0,.loc 3 0,.box (av p) 0,.loc 4 0] (FH p E1 E2 E3 E4 s ls ad cp eb ec) fun g Δ=>g=.tup []/\∃ lh lj yF yG,Δ=FH p E1 E2 E3 E4 (gW gH t a s ls).1 (gW gH t a s ls).2 lh lj yF yG:=by
 intro N
 induction N with
 | zero=>intro t h;have:=jy t;omega
 | succ N ih =>
 intro t hN a s ls ad cp eb ec cj iD r9
 cases t with
 | mk n l =>
 rw [Go.Xp.aK] at hN iD r9;have zB:=cj;rw [eF] at cj;obtain ⟨hn,hk,uW⟩:=cj;rw [gW];have hr:=jL hn;have oW:=fH n (bA hn);have ht:=VO p a n l ls s E1 eb ec ad cp hn G;have acp:(gH s a (.mk n l) ls).length<=s.length+1:=U7 _ _ _ _;generalize iQ:gH s a (.mk n l) ls=s1 at *
 have vF:n.kids.length=l.length:=by rw [hk,dF]
 unfold ax at hr;unfold FH IH Ui;refine ah func97 ntmps97 ?_;refine GL.sV [0,1,5] ht rfl rfl rfl (by repeat (first | exact trivial | refine ⟨rfl,?_⟩)) ?_;rintro _ _ ⟨rfl,eb,ec,rfl⟩;refine dH ?_;refine D ?_;refine GW.range (n.kids.map fun i=>[GV.v (ii i)]).length (fun k fr Γ=>∃ lh lj yF yG,fr=[.v (ii (a:Nat)),.loc 2 0,.loc 3 0,.box (av p) 0,.loc 4 0,U,U,U,U,U,U,U,U,U,U,U,U,ints n.kids,.v (ii ((n.kids.map fun i=>[GV.v (ii i)]).length:Int)),.v (ii (k:Nat)),U,U,U,U,U,U,U,U,U,U,U,U,U,U,U,U,U,U,U,U,U,U,U]/\Γ=FH p E1 E2 E3 E4 (dD gH (l.take k) (a+1) s1 ls).1 (dD gH (l.take k) (a+1) s1 ls).2 lh lj yF yG) ?_ (by rw [bP];omega) ?_ ?_ ?_
 ·exact ⟨_,_,Wk.aH ar,ad,cp,eb,ec,rfl,rfl⟩
 ·rintro k _ _ ⟨ad,cp,eb,ec,rfl,rfl⟩;exact dK
 ·rintro k _ _ ak ⟨ad,cp,eb,ec,rfl,rfl⟩;rw [bP,vF] at ak;obtain ⟨u,hu⟩:∃ u,l[k]?=some u:=⟨l[k],by simp [ak]⟩;have gy:=vI (n:=a+1) hu;rw [<-hk] at gy;have wY:=sG gy;have dr:=nS hu;have O4:eF p.nodes (a+1+aB (l.take k)) u:=ed.ix l (a+1) k u uW hu
  have hlen:(dD gH (l.take k) (a+1) s1 ls).2.length<=ls.length+aB (l.take k):=by
   rw [oS,aO];have:=la (l.take k);omega
  have L6:(dD gH (l.take k) (a+1) s1 ls).1.length<=s1.length+aB (l.take k):=by
   rw [DY,aO];have:=RY (l.take k);omega
  rw [BH _ hu];generalize (dD gH (l.take k) (a+1) s1 ls).1=s2 at *;generalize (dD gH (l.take k) (a+1) s1 ls).2=ls2 at *;have hv:=ih u G (a+1+aB (l.take k)) s2 ls2 ad cp eb ec O4 G G;unfold FH IH Ui at hv |-;refine D ?_;refine GL.sV [0,1,2,3,4,5] hv rfl rfl rfl (by repeat (first | exact trivial | refine ⟨rfl,?_⟩)) ?_;rintro _ _ ⟨rfl,lh,lj,yF,yG,rfl⟩;refine dH ?_;refine D ?_;exact ⟨rfl,rfl,_,_,Wk.aH ar,lh,lj,yF,yG,rfl,rfl⟩
 ·rintro _ _ ⟨ad,cp,eb,ec,rfl,rfl⟩;rw [bP,vF,bW]
  have hlen:(dD gH l (a+1) s1 ls).2.length<=ls.length+aB l:=by
   rw [oS,aO];have:=la l;omega
  generalize (dD gH l (a+1) s1 ls).1=s2 at *;generalize (dD gH l (a+1) s1 ls).2=ls2 at *;have Kk:(br ls2).length=ls2.length:=qV ls2;unfold FH IH Ui;refine ba ?_
  cases hv:(n.kind==13) with
  | false =>
   rw [L (by simpa using hv)];refine D ?_;refine dz ?_;exact ⟨rfl,ad,cp,eb,ec,rfl⟩
  | true =>
   rw [ab (by simpa using hv)];refine D ?_;refine aL (aD 0 7 (.a 7 (.a 8 (.a 9 .nil)))) ?_;refine ao ?_;refine dC ?_;refine ao ?_;refine OA rfl rfl (GL.qA 5 (news:=[[.v (sv n.s)]]) rfl rfl rfl bj rfl rfl (by refine ⟨?_,?_⟩;(· show _+1<=_;omega);(· show (_+1) * _<=_;omega)) ?_);intro p8 p9;refine dd ?_;refine bx ?_;refine dz ?_;exact ⟨rfl,p8,p9,eb,ec,by simp [br]⟩
theorem UG (p:Src) (E1:TypeId) (i:Nat) (f:Go.Sp.Fn) (t:T) (s:List ae) (eb:Option Addr) (ec:Nat) (hp:p.nodes.length<=1048576) (fH:∀ n∈p.nodes,n.kids.length<=1099511627776)
  (hf:p.fns[i]?=some f) (ru:f.params.length<=1048576) (hb:0<=f.body) (cj:eF p.nodes f.body.toNat t) (dr:aK t<=1048576) (hs:s.length+aK t<=8388608) :
  GC prog 44 [.agg (av p),.v (ii (i:Nat)),IH p] (Ub E1 s eb ec) fun g Δ=>g=.tup []/\∃ yF yG,Δ=Ub E1 (gW gH t f.body.toNat s f.params).1 yF yG:=by
 have hr:(p.fns.map au)[i]?=some (au f):=by rw [aP,hf];rfl
 have cZ:(f.params.map fun s=>[GV.v (sv s)]).length=f.params.length:=by simp
 have eO:=nN f.params;obtain ⟨b,vA⟩:∃ b:Nat,f.body=(b:Int):=⟨f.body.toNat,by omega⟩;rw [vA,pM] at cj |-;unfold au at hr;rw [vA] at hr;unfold IH Ub;refine cL func44 ntmps44 ?_;refine jS ?_;refine GL.wk (Wk.freeze (i:=2) rfl rfl rfl (aE _)) ?_;refine GN (by simp only [oU,ou];rfl) ?_;refine GL.wk (Wk.aH (cJ:=[U,.v (ii (i:Nat)),U,.box (av p) 0,U,.loc 3 0,U,U,U,U,U,U,U,strs f.params,U,U,U,U,U,U,U,U,U,U]) ar) ?_;refine GL.wk (Wk.kE 9 1) ?_;refine GL.qv 4 rfl rfl rfl rfl eO (by refine ⟨?_,?_⟩;(· rw [cZ];omega);(· rw [cZ];omega)) ?_;intro ad cp;rw [cZ];refine bm ?_;simp only [nil_append,length_nil,cI];refine D ?_;refine GW.Gz (cJ:=[U,.v (ii (i:Nat)),U,.box (av p) 0,U,.loc 3 0,.loc 5 0,.loc 6 0,U,U,U,U,U,U,U,U,U,U,U,U,U,U,U,U]) (aR:=[.box E1 [.v (.slice eb s.length ec)],.vech 9 1 (br s) (.slice eb s.length ec),.gone,.box _ [.fn (.func 147) [] [.box (av p) 0,.loc 0 0]],.vech 9 1 (br f.params) (.slice ad f.params.length cp),.box _ [.v (.slice ad f.params.length cp)],.box _ [.fn (.func 97) [] [.loc 3 0,.loc 5 0,.box (av p) 0,.loc 6 0]]]) ar rfl ?_;refine aL (aD 0 7 (.a 7 .nil)) ?_;refine ao ?_;have hv:=SY p E1;refine OA rfl rfl (GL.sV [0,1,3,5,6,4] (hv _ _ _ hp fH _ t (aE _) b s f.params ad cp eb ec cj G hs) rfl rfl rfl (by repeat (first | exact trivial | refine ⟨rfl,?_⟩)) ?_);rintro _ _ ⟨rfl,lh,lj,yF,yG,rfl⟩;refine ⟨by simp [FH],?_⟩;unfold FH;refine dd ?_;refine bx ?_;refine dz ?_;exact ⟨rfl,yF,yG,rfl⟩
end Go.Xg
namespace Go.Im
open Go.Xp Go.Sp
theorem yS.vars {p:Src} {l:List T} {i:Nat} {f:Go.Sp.Fn} {t:T} (h:yS p l i f t):(dm t).length<=800:=by
 have:=Cy _ t (aE _);have:=h.sz;omega
end Go.Im
namespace Go.Xg
open Go.RowKit Go.Xw Go.Proofs Tryz
open Go.Xp (Nd T Ar aK aB c6)
open Go.Sp (Src)
open Go.Im
attribute [local irreducible] GW GL GO YG GC GA be bg
theorem Mq (p:Src) (hw:fC p<=1048576) {l:List T} {i:Nat} {f:Go.Sp.Fn} {t:T} (h:yS p l i f t) :
  GC prog 92 [.agg (av p),.v (ii (i:Nat))] [] fun g Δ=>∃ ad cp,g=.v (.slice ad (f.params++dm t).length cp)/\Δ=[.vech 9 1 (br (f.params++dm t)) (.slice ad (f.params++dm t).length cp)]:=by
 obtain ⟨⟨a1,a2⟩,⟨b1,b2⟩,⟨c1,c2⟩,⟨d1,d2⟩⟩:=jO p
 have hr:(p.fns.map au)[i]?=some (au f):=by rw [aP,h.gf];rfl
 have cZ:(f.params.map fun s=>[GV.v (sv s)]).length=f.params.length:=by simp
 have ru:f.params.length<=1048576:=by have:=(c2 f (bA h.gf)).2.1;omega
 have eO:=nN f.params;have dr:=h.sz
 have hE:=fun eb ec=>UG p 22 i f t f.params eb ec G (fun n hn=>by have:=(d2 n hn).2;omega) h.gf ru h.body h.st G G
 rw [NX,Kz t h.wf] at hE;unfold IH Ub at hE;unfold au at hr;refine cL func92 ntmps92 ?_;refine GW.wk (Wk.kE 9 1) ?_;simp only [nil_append];refine D ?_;refine GL.qv 0 rfl rfl rfl rfl eO (by refine ⟨?_,?_⟩;(· rw [cZ];omega);(· rw [cZ];omega)) ?_;intro ad cp;rw [cZ];refine bm ?_;simp only [nil_append,length_nil,cI];refine jS ?_;refine GL.wk (Wk.freeze (i:=1) rfl rfl rfl (aM _)) ?_;refine bm ?_;refine D ?_;refine cM [2,0] (hE ad cp) ?_;rintro _ _ ⟨rfl,eb,ec,rfl⟩;refine dH ?_;refine D ?_;refine ny ?_;exact xP (n:=1) rfl dI rfl (fq rfl) rfl rfl ⟨eb,ec,rfl,rfl⟩
end Go.Xg
namespace Go.Xg
open Go.RowKit Go.Xw
theorem lU {A B:Prop} (h:B) (s:Hid B->A:=by intro hQ;(repeat (first | ((first | (apply GL.q;(· exact M1)) | refine GL.nil ?_ | refine ba ?_ | refine GW.seq ?_ | refine GW.region ?_ | refine GW.skip ?_ | refine jG ?_ | refine GW.block ?_ | (apply GL.gt;(· exact rfl);(· first | exact rfl | assumption)) | (apply GL.gf;(· exact rfl);(· first | exact rfl | assumption)) | (apply GL.gu;(· exact rfl)) | (apply Nh;(· exact rfl);(· first | exact rfl | assumption)) | (apply Ng;(· exact rfl);(· first | exact rfl | assumption)));try refine GN nU ?_) | ((first | (apply GL.box;(· exact rfl)) | (apply GL.st;(· exact rfl);(· exact rfl);(· exact rfl);(· exact rfl);(· exact rfl);(· exact rfl)));refine oL eh fD ?_)));exact hQ.1):A:=s ⟨h⟩
end Go.Xg
namespace Go.Im
open Go.Xp Go.Sp
theorem ni (s:ae) (p:UInt8->Bool):∀ (f a:Nat),a<=s.length->s.length < f+a->(run s p f a=s.length↔(s.drop a).all p=true)
 | 0,a,F,I=>by omega
 | f+1,a,F,I=>by
  rw [run]
  cases hc:s[a]? with
  | none =>
   have:s.length<=a:=qG hc
   have ha:a=s.length:=by omega
   rw [List.drop_of_length_le this,ha];simp
  | some c =>
   obtain ⟨ak,hg⟩:=bo hc;rw [ju ak,hg,List.all_cons];show (if p c=true then run s p f (a+1) else a)=s.length↔_
   by_cases hp:p c=true
   ·rw [ab hp,hp,Bool.true_and];exact ni s p f (a+1) (by omega) (by omega)
   ·rw [L hp,show p c=false by simpa using hp,Bool.false_and];simp;omega
theorem QG {s:ae} (h:word s=true):j0 s=words.contains s:=by
 have hs:bZ.contains s=false:=by
  cases hc:bZ.contains s with
  | false=>rfl
  | true =>
   have key:∀ x∈bZ,word x=false:=by decide
   rw [key s (ij.1 hc)] at h;cases h
 unfold j0;rw [vT]
 have e:∀ a b:List ae,(a++b).contains s=(a.contains s || b.contains s):=fun a b=>by
  rw [Bool.eq_iff_iff,Bool.or_eq_true,ij,ij,ij,List.mem_append]
 rw [e,hs,Bool.or_false]
theorem Jq (p:Src) (s:ae):(bQ p).contains s=((p.globals.contains s || decide ((0:Int)<=vq p s)) || decide ((0:Int)<=LU p s)):=by
 unfold vq LU;rw [zc,zc]
 have e:∀ a b:List ae,(a++b).contains s=(a.contains s || b.contains s):=fun a b=>by
  rw [Bool.eq_iff_iff,Bool.or_eq_true,ij,ij,ij,List.mem_append]
 have em:∀ {α:Type} (nm:α->ae) (xs:List α),(xs.map nm).contains s=xs.any fun x=>nm x==s:=fun nm xs=>by
  rw [Bool.eq_iff_iff,ij,mP,nX];constructor
  ·rintro ⟨a,ha,rfl⟩;exact ⟨a,ha,by simp⟩
  ·rintro ⟨a,ha,h⟩;exact ⟨a,ha,by simpa using h⟩
 unfold bQ eD ik;rw [e,e,em,em]
end Go.Im
namespace Go.Xg
open GV (U)
open Go.RowKit Go.Xw Go.Proofs Tryz
open Go.Xp (Nd T Ar aK aB c6)
open Go.Sp (Src eV small dR word bf words)
open Go.Im
attribute [local irreducible] GW GL GO YG GC GA be bg
theorem RH (s:ae) (hs:s.length<=1099511627776):GF prog 90 [.v (sv s)] [] (.v (.bool (word s&&!words.contains s))) []:=by
 have hSg:=xZ s;have hR:=MI 145 dR Dj s 0 hs (aM _);have he:=ni s dR (s.length+1) 0 (aM _) G;rw [drop_zero] at he;generalize hr:Go.Sp.run s dR (s.length+1) 0=r at *
 cases s with
 | nil =>
  rw [show (word []&&!words.contains ([]:ae))=false from rfl];refine ah func90 ntmps90 ?_;exact aj
 | cons c s =>
  have ct:(!((c::s:ae)==([]:ae)))=true:=rfl;have h0:(c::s:ae)[0]?=some c:=rfl;have hL:=yd c
  have wT:(((r:Nat):Int)==(((c::s:ae).length:Nat):Int))=(c::s:ae).all dR:=by
   rw [Bool.eq_iff_iff,beq_iff_eq,<-he];omega
  have hw:word (c::s)=(small c&&(c::s:ae).all dR):=by unfold word;rw [Bool.and_comm]
  have dE:=@QG (c::s);rw [hw] at dE |-;generalize (c::s:ae).all dR=al at *;generalize hX:(c::s:ae)=X at *;generalize words.contains X=wx at *;generalize j0 X=sg at *
  cases hc:small c with
  | false =>
   rw [hc] at hL;refine ah func90 ntmps90 ?_;refine V [] hL ?_;exact aj
  | true =>
   rw [hc] at hL dE
   cases al with
   | false =>
    refine ah func90 ntmps90 ?_;refine V [] hL ?_;refine V [] hR ?_;exact aj
   | true =>
    have dE:=dE rfl;subst dE;refine ah func90 ntmps90 ?_;refine V [] hL ?_;refine V [] hR ?_;refine V [] hSg ?_;exact aj
theorem Gp (s:ae) (hs:s.length<=1099511627776):GF prog 36 [.v (sv s)] [] (.v (.bool (bf s))) []:=by
 have hN:=RH s hs
 have hd:decide (((s.length:Nat):Int)<=12)=decide (s.length<=12):=by rw [Bool.eq_iff_iff,decide_eq_true_iff,decide_eq_true_iff];omega
 have e:bf s=((word s&&!words.contains s)&&decide (s.length<=12)):=by unfold bf;cases word s <;> cases words.contains s <;> cases decide (s.length<=12) <;> rfl
 rw [e];generalize (word s&&!words.contains s)=b at *;generalize decide (s.length<=12)=d at *
 cases b with
 | false =>
  refine ah func36 ntmps36 ?_;refine V [] hN ?_;exact aj
 | true =>
  refine ah func36 ntmps36 ?_;refine V [] hN ?_;refine cH ?_;exact ⟨by rw [hd];rfl,rfl⟩
theorem Pn (p:Src) (hw:fC p<=1048576) {l:List T} (h:Go.Im.Good p l) (s:ae) :
  GF prog 40 [.agg (av p),.v (sv s)] [] (.v (.bool (o8 (o7 p l) s))) []:=by
 obtain ⟨⟨a1,a2⟩,⟨b1,b2⟩,⟨c1,c2⟩,⟨d1,d2⟩⟩:=jO p
 have qg:(p.fns.map au).length=p.fns.length:=by simp
 have hlen:=h.len;refine cL func40 ntmps40 ?_;refine GW.seq ?_;refine GW.region ?_;refine GL.mo rfl rfl ?_;refine bm ?_;refine D ?_;refine GW.range (p.fns.map au).length (fun k fr Γ=>fr=[U,.v (sv s),.box (av p) 0,U,U,U,U,.sl 3 (p.fns.map au),.v (ii ((p.fns.map au).length:Int)),.v (ii (k:Nat)),U,U,U,U,U,U,U,U]/\Γ=[]/\o8 ((o7 p l).take k) s=false) ?_ G ?_ ?_ ?_
 ·exact kV
 ·exact jd
 ·rintro k _ _ hk ⟨rfl,rfl,aY⟩;rw [qg] at hk;obtain ⟨f,hf⟩:∃ f,p.fns[k]?=some f:=⟨p.fns[k],by simp [hk]⟩;obtain ⟨t,ht⟩:∃ t,l[k]?=some t:=⟨l[k]'G,dO _⟩;have hg:=h.fn hf ht;have hL:=Mq p hw hg;have oE:=Fw hf ht;have qM:=Bh (s:=s) oE
  have hit:=fun hc=>Dg (s:=s) oE hc
  have TR:=hg.vars;have cZ:=(c2 f (bA hf)).2.1;have hC:=iz (f.params++dm t) s (by rw [aO];omega)
  have e3:∀ x:List ae,strs x=.sl 1 (br x):=fun _=>rfl
  rw [e3] at hC;generalize f.params++dm t=acA at *
  cases hc:acA.contains s with
  | true =>
   rw [hc] at hC;rw [hit hc];refine D ?_;refine cM [] hL ?_;rintro _ _ ⟨ad,cp,rfl,rfl⟩;refine dH ?_;refine D ?_;refine GL.borrow hC (fun B K β w l hI hF=>fS (A:=[]) (C:=[]) hI hF rfl rfl) ?_;refine bm ?_;exact ay
  | false =>
   rw [hc] at hC qM;refine D ?_;refine cM [] hL ?_;rintro _ _ ⟨ad,cp,rfl,rfl⟩;refine dH ?_;refine D ?_;refine GL.borrow hC (fun B K β w l hI hF=>fS (A:=[]) (C:=[]) hI hF rfl rfl) ?_;refine bm ?_;refine D ?_;exact ⟨rfl,rfl,_,_,(Wk.cut (n:=0) (aE _) rfl).trans (Wk.aH ar),rfl,rfl,by rw [qM,aY];rfl⟩
 ·rintro _ _ ⟨rfl,rfl,aY⟩;rw [qg,<-Df hlen,bW] at aY;rw [aY];refine ba ?_;exact ay
theorem Fu (s fr nw:ae):GF prog 27 [.v (sv s),.v (sv fr),.v (sv nw)] [] (.v (sv (b8 fr nw s))) []:=by
 unfold b8
 cases h:(s==fr) with
 | true =>
  rw [ab rfl];refine ah func27 ntmps27 ?_;exact aj
 | false =>
  rw [L aU];refine ah func27 ntmps27 ?_;exact aj
theorem Dd (p:Src) (hw:fC p<=1048576) (s:ae):GF prog 24 [.agg (av p),.v (sv s)] [] (.v (.bool ((bQ p).contains s))) []:=by
 obtain ⟨⟨a1,a2⟩,⟨b1,b2⟩,⟨c1,c2⟩,⟨d1,d2⟩⟩:=jO p;have hH:=iG p.globals s G;have hA:=yb p s G;have hF:=Ec p s G;rw [Jq];unfold vq LU;generalize dA (fun x:Ar=>x.name==s) p.arrays=za at *;generalize dA (fun x:Go.Sp.Fn=>x.name==s) p.fns=zf at *
 cases F:p.globals.contains s with
 | true =>
  rw [F] at hH;refine ah func24 ntmps24 ?_;refine V [] hH ?_;exact aj
 | false =>
  rw [F] at hH
  cases I:decide ((0:Int)<=za) with
  | true =>
   refine ah func24 ntmps24 ?_;refine V [] hH ?_;refine V [] hA ?_;exact aj
  | false =>
   refine ah func24 ntmps24 ?_;refine V [] hH ?_;refine V [] hA ?_;refine V [] hF ?_;exact aj
end Go.Xg
