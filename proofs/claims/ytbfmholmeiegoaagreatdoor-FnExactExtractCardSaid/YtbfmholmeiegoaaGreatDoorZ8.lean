/- Part 8 of proofs that are told in their last texts. -/
import Derived.Test.YtbfmholmeiegoaaGreatDoorZ7
import Derived.Test.YtbfmholmeiegoaaGreatDoorZ2
import Derived.Test.YtbfmholmeiegoaaGreatDoorZ6
import Derived.Test.YtbfmholmeiegoaaGreatDoorZ3
import Derived.Test.YtbfmholmeiegoaaGreatDoorZ5
open List (any_append any_eq_false cons_append ext_getElem? findIdx?_eq_some_iff_getElem getElem?_cons_succ getElem?_eq_none length_cons length_nil map_take mem_range nil_append not_mem_nil range'_succ range_succ set_append_right take_zero)
set_option linter.unusedVariables false
set_option linter.unusedSimpArgs false
set_option maxRecDepth 100000
set_option maxHeartbeats 1000000
namespace Go
theorem za4 {A:Prop} (s:A:=by refine tw ?_;refine bo ?_;refine GW.wk (Wk.iy (t:=7) rfl rfl rfl (by simp [chunk])) ?_;refine kU ?_;exact zai):A:=s
end Go
namespace Go.Xg
open Go.RowKit Go.Xw Go.Proofs Tryz
open GV (U)
open Go.Xp (Tok Nd T)
open Go.Sp (small eS eI bT gm fE eD)
open Go.Im (nI lH dj iX ik lB lK sx l9 oL rY)
attribute [local irreducible] GW GL GO YG GC GA aW aZ
def Ej (x t:ae):Bool:=decide (t.length<=x.length)&&(x.take t.length==t)
theorem Ma (x t:ae) (hx:x.length<=1099511627776) (ht:t.length<=1099511627776):GF prog 202 [.v (sv x),.v (sv t)] [] (.v (.bool (Ej x t))) []:=by
 unfold Ej
 by_cases h:t.length<=x.length
 ·have I:decide ((t.length:Int)<=(x.length:Int))=true:=by simpa using h
  rw [decide_eq_true h];refine ah func202 ntmps202 ?_;exact al
 ·have I:decide ((t.length:Int)<=(x.length:Int))=false:=by simpa using by omega
  rw [decide_eq_false h];refine ah func202 ntmps202 ?_;exact al
theorem Jl (x t:ae) (hx:x.length<=1099511627776) (ht:t.length<=1099511627776):GF prog 165 [.v (sv x),.v (sv t)] [] (.v (.bool (Ej x t))) []:=by
 have h:=Ma x t hx ht;generalize Ej x t=b at *;refine ah func165 ntmps165 ?_;exact zbb
theorem Jv {s t:ae} {a:Nat} (ha:a<=s.length):Ej (s.drop a) t=bT s a t:=by
 unfold Ej bT;rw [jy,List.drop_take,show a+t.length - a=t.length by omega]
 congr 1
 rw [Bool.eq_iff_iff];simp;omega
theorem Jm (c:UInt8):GF prog 164 [.v (sv [32,9,10,13]),E9 c] [] (.v (ii (Go.Lib.indexByte [32,9,10,13] c))) []:=by
 refine GF.YA (vs:=[sv [32,9,10,13],.int .u8 (c.toNat:Int)]) fun K β w ht hf=>?_
 refine om.CD (Calls.mono (strings_IndexByte ⟨[32,9,10,13].toArray⟩ (c.toNat:Int) w) ?_);rintro e w' ⟨I,M⟩;refine ⟨_,I,?_,by rw [M];exact Ext.refl w⟩;simp
theorem Rr (x:ae) (hx:x.length<=4294967280):GF prog 166 [.v (sv x),.v (sv [42,47])] [] (.v (ii (Go.Lib.index x [42,47]))) []:=by
 refine GF.YA (vs:=[sv x,sv [42,47]]) fun K β w ht hf=>?_
 obtain ⟨m,hm⟩:=ht.maxLen hf;refine om.CD (Calls.mono (strings_Index ⟨x.toArray⟩ ⟨[42,47].toArray⟩ m w (by show (x.toArray).size < _;simp;omega) hm) ?_);rintro e w' ⟨I,M⟩;refine ⟨_,I,?_,by rw [M];exact Ext.refl w⟩;simp
theorem RA (c:UInt8):decide ((0:Int)<=Go.Lib.indexByte [32,9,10,13] c)=eD c:=by
 have hb:eD c=((32:UInt8)==c || (9:UInt8)==c || (10:UInt8)==c || (13:UInt8)==c):=by
  have e:∀ k:UInt8,((c.toNat:Int)==(k.toNat:Int))=(k==c):=fun k=>by
   rw [Bool.eq_iff_iff];simp only [beq_iff_eq]
   exact ⟨fun h=>by
    have:c.toNat=k.toNat:=by omega
    exact (UInt8.toNat_inj.1 this).symm,fun h=>by rw [h]⟩
  have e1:=e 32;have e2:=e 9;have e3:=e 10;have e4:=e 13;unfold eD;rw [<-e1,<-e2,<-e3,<-e4];rfl
 rw [hb];unfold Go.Lib.indexByte Go.Lib.indexByte Go.Lib.indexByte Go.Lib.indexByte Go.Lib.indexByte
 cases (32:UInt8)==c <;> cases (9:UInt8)==c <;> cases (10:UInt8)==c <;> cases (13:UInt8)==c <;> decide
theorem PR (l:ae):Go.Lib.index l [42,47]=(match rY l with | none => -1 | some n=>(n:Int)):=by
 induction l with
 | nil=>rfl
 | cons b l ih =>
  rw [Go.Lib.index,rY];split
  ·rfl
  ·rw [ih]
   cases rY l with
   | none=>rfl
   | some n =>
    simp only;rw [F (by simp <;> omega)];simp
theorem SQ (s:ae) (f:Nat) (ts:List Tok) (c z:Int) (hs:s.length<=4294967280) (h:oL s f 0 []=some (ts,c,z)) :
  GF prog 116 [.v (sv s)] [] (.tup [jV ts,.v (ii c),.v (ii z)]) []:=by
 refine ah func116 ntmps116 ?_;refine GW.wk (Wk.w6 (t:=5) (a:=none) (c:=0) 183 4 rfl) ?_;refine GW.loop (fun x:Nat × Nat × List Tok=>x.1) (fun x fr Γ=>∃ n rows,fr=[.v (sv s),U,.v (.slice none 0 0),.v (ii 0),.v (ii 0),.vec 0 n,.v (ii (x.2.1:Nat)),U,U,U,U,U,U,U,U,U,U,U,U,U,U,U,U,U,U,U,U,U,U,U,U,U,U,U,U,U,U,U,U,U,U,U,U,U,U,U,U,U,U,U,U,U,U,U,U]/\Γ=[.vec 183 4 0 rows]/\rows.length=n/\rows=x.2.2.map dP/\x.2.1<=s.length/\n<=x.2.1/\oL s x.1 x.2.1 x.2.2=some (ts,c,z)) (f,0,[]) ?_ ?_
 ·exact ⟨_,_,Wk.aC ak,0,[],rfl,rfl,rfl,rfl,aO _,aD _,h⟩
 ·clear h;rintro ⟨f,a,acc⟩ _ _ ⟨n,rows,rfl,rfl,hn,bI,ha,KK,h⟩;simp only at bI ha KK h
  cases f with
  | zero=>cases h
  | succ f =>
  rw [oL] at h
  cases hc:s[a]? with
  | none =>
   rw [hc] at h;cases h;have ny:s.length<=a:=qo hc
   have hd:decide ((a:Int) < (s.length:Int))=false:=by simpa using ny
   refine cm ?_;refine GW.wk (Wk.iy (t:=5) rfl rfl rfl hn) ?_;refine D ?_;refine LU ?_;exact ⟨by rw [bI];rfl,rfl⟩
  | some ch =>
   rw [hc] at h;simp only at h;have aj:a < s.length:=(bq hc).1
   have hd:decide ((a:Int) < (s.length:Int))=true:=by simpa using aj
   have Pr:=Jm ch;have rl:=RA ch
   cases hb:eD ch with
   | true =>
    rw [ab hb] at h;rw [hb] at rl;generalize Go.Lib.indexByte [32,9,10,13] ch=ib at *;refine D ?_;refine V [] Pr ?_;refine kJ ?_;exact ⟨(f,a+1,acc),⟨_,_,Wk.aC ak,n,rows,rfl,rfl,hn,bI,aj,by simp only;omega,h⟩,by simp⟩
   | false =>
    rw [F zgo] at h;rw [hb] at rl;generalize Go.Lib.indexByte [32,9,10,13] ch=ib at *;have pz:=Jl (s.drop a) [47,42] (by rw [jy];omega) aP;rw [Jv ha] at pz
    cases pk:bT s a [47,42] with
    | true =>
     rw [ab pk] at h;rw [pk] at pz;have ln:=Go.Sp.la pk;simp only [length_cons,length_nil] at ln;have zP:=Rr (s.drop (a+2)) (by rw [jy];omega);rw [PR] at zP
     have Fs:a+2<=s.length:=by omega
     cases hi:rY (s.drop (a+2)) with
     | none =>
      rw [hi] at zP h;cases h;refine zdX ?_;refine V [] zP ?_;exact zd6
     | some e =>
      rw [hi] at zP h;have dJ:=Go.Im.Em hi;rw [jy] at dJ
      have XQ:decide (((e:Nat):Int) < 0)=false:=by simp
      refine zdX ?_;refine V [] zP ?_;refine kJ ?_;exact ⟨(f,a+(e+4),acc),⟨_,_,Wk.aC ak,n,rows,rfl,rfl,hn,bI,by simp only;omega,by simp only;omega,h⟩,by simp⟩
    | false =>
     rw [F (by rw [pk];decide)] at h;rw [pk] at pz;have jQ:=WD s a ch G hc
     have fo:=fun h0=>Go.Im.LQ hc h0
     generalize l9 s a ch=R at *;obtain ⟨t,e,code⟩:=R;simp only at jQ h fo
     by_cases h0:code=0
     ·rw [F zgn] at h
      have vl:(code != 0)=false:=by simpa using h0
      obtain ⟨_,_,k3,k4⟩:=fo h0;refine zdX ?_;refine V [] jQ ?_;refine zaX ?_;exact ⟨(f,e,acc++[t]),⟨_,_,(Wk.cut (n:=1) (dr rfl) rfl).trans (Wk.aC ak),_,_,rfl,rfl,by simp [hn],by rw [kK,bI];rfl,k4,by simp only;omega,h⟩,by simp⟩
     ·rw [ab h0] at h
      have vl:(code != 0)=true:=by simpa using h0
      cases h;refine zdX ?_;refine V [] jQ ?_;exact zd6
open Go.Xp (aJ az)
open Go.Sp (Src)
open Go.Im (qI sB tr kM dH iU w5)
theorem Sv:∀ (N:Nat) (t:T),aJ t<=N->aJ t<=1099511627776->GF prog 112 [uT t] [] (.v (.bool (iU t))) []:=by
 intro N
 induction N with
 | zero=>intro t h;rw [Go.Xp.eB] at h;omega
 | succ N ih =>
 intro t hN hb;rw [Go.Xp.eB] at hN hb;have fB:=Go.Xp.bK t.kids;have rq:=rF t.kids;rw [Go.Im.Aa,Go.Im.vB];unfold uT;generalize t.n.kind=kd;refine c8 func112 ntmps112 ?_;refine LW ?_;refine GW.join (fun fr Γ=>fr=[.box [.v (ii kd),.v (ii t.n.at_),.v (ii t.n.n),.v (sv t.n.s),ints t.n.kids,.sl 1 (cw t.kids)] 0,U,U,U,.v (.bool (dH kd t.kids.length)),U,U,U,U,U,U,U,U,U,U,U,U,U,U,U,U,U,U,U,U,U,U,U,U,U,U,U,U,U,U,U,U,U,U,U,U,U,U,U,U,U,U,U,U,U,U,U,U,U,U,U,U,U,U,U,U,U,U,U]/\Γ=[]) ?_ ?_
 ·rw [<-rq];generalize (cw t.kids)=l
  by_cases I:kd=1
  ·subst I
   have di:((1:Int)==1)=true:=by decide
   rw [show dH 1 l.length=((l.length:Int)==0) by unfold dH;simp];exact jv
  by_cases M:kd=2
  ·subst M
   have di:((2:Int)==1)=false:=by decide
   have kO:((2:Int)==2)=true:=by decide
   rw [show dH 2 l.length=((l.length:Int)==0) by unfold dH;simp];exact jv
  by_cases h4:kd=4
  ·subst h4
   have di:((4:Int)==1)=false:=by decide
   have kO:((4:Int)==2)=false:=by decide
   have f4:((4:Int)==4)=true:=by decide
   rw [show dH 4 l.length=true by unfold dH;simp];exact jv
  by_cases C6:kd=14
  ·subst C6
   have di:((14:Int)==1)=false:=by decide
   have kO:((14:Int)==2)=false:=by decide
   have f4:((14:Int)==4)=false:=by decide
   have f14:((14:Int)==14)=true:=by decide
   rw [show dH 14 l.length=true by unfold dH;simp];exact jv
  by_cases h3:kd=3
  ·subst h3
   have di:((3:Int)==1)=false:=by decide
   have kO:((3:Int)==2)=false:=by decide
   have f4:((3:Int)==4)=false:=by decide
   have f14:((3:Int)==14)=false:=by decide
   have qR:((3:Int)==3)=true:=by decide
   rw [show dH 3 l.length=((l.length:Int)==1) by unfold dH;simp];exact jv
  by_cases h5:kd=5
  ·subst h5
   have di:((5:Int)==1)=false:=by decide
   have kO:((5:Int)==2)=false:=by decide
   have f4:((5:Int)==4)=false:=by decide
   have f14:((5:Int)==14)=false:=by decide
   have qR:((5:Int)==3)=false:=by decide
   have f5:((5:Int)==5)=true:=by decide
   rw [show dH 5 l.length=((l.length:Int)==1) by unfold dH;simp];exact jv
  by_cases h7:kd=7
  ·subst h7
   have di:((7:Int)==1)=false:=by decide
   have kO:((7:Int)==2)=false:=by decide
   have f4:((7:Int)==4)=false:=by decide
   have f14:((7:Int)==14)=false:=by decide
   have qR:((7:Int)==3)=false:=by decide
   have f5:((7:Int)==5)=false:=by decide
   have f7:((7:Int)==7)=true:=by decide
   rw [show dH 7 l.length=((l.length:Int)==1) by unfold dH;simp];exact jv
  by_cases qx:kd=11
  ·subst qx
   have di:((11:Int)==1)=false:=by decide
   have kO:((11:Int)==2)=false:=by decide
   have f4:((11:Int)==4)=false:=by decide
   have f14:((11:Int)==14)=false:=by decide
   have qR:((11:Int)==3)=false:=by decide
   have f5:((11:Int)==5)=false:=by decide
   have f7:((11:Int)==7)=false:=by decide
   have f11:((11:Int)==11)=true:=by decide
   rw [show dH 11 l.length=((l.length:Int)==1) by unfold dH;simp];exact jv
  by_cases qe:kd=12
  ·subst qe
   have di:((12:Int)==1)=false:=by decide
   have kO:((12:Int)==2)=false:=by decide
   have f4:((12:Int)==4)=false:=by decide
   have f14:((12:Int)==14)=false:=by decide
   have qR:((12:Int)==3)=false:=by decide
   have f5:((12:Int)==5)=false:=by decide
   have f7:((12:Int)==7)=false:=by decide
   have f11:((12:Int)==11)=false:=by decide
   have f12:((12:Int)==12)=true:=by decide
   rw [show dH 12 l.length=((l.length:Int)==1) by unfold dH;simp];exact jv
  by_cases fv:kd=13
  ·subst fv
   have di:((13:Int)==1)=false:=by decide
   have kO:((13:Int)==2)=false:=by decide
   have f4:((13:Int)==4)=false:=by decide
   have f14:((13:Int)==14)=false:=by decide
   have qR:((13:Int)==3)=false:=by decide
   have f5:((13:Int)==5)=false:=by decide
   have f7:((13:Int)==7)=false:=by decide
   have f11:((13:Int)==11)=false:=by decide
   have f12:((13:Int)==12)=false:=by decide
   have f13:((13:Int)==13)=true:=by decide
   rw [show dH 13 l.length=((l.length:Int)==1) by unfold dH;simp];exact jv
  by_cases h6:kd=6
  ·subst h6
   have di:((6:Int)==1)=false:=by decide
   have kO:((6:Int)==2)=false:=by decide
   have f4:((6:Int)==4)=false:=by decide
   have f14:((6:Int)==14)=false:=by decide
   have qR:((6:Int)==3)=false:=by decide
   have f5:((6:Int)==5)=false:=by decide
   have f7:((6:Int)==7)=false:=by decide
   have f11:((6:Int)==11)=false:=by decide
   have f12:((6:Int)==12)=false:=by decide
   have f13:((6:Int)==13)=false:=by decide
   have f6:((6:Int)==6)=true:=by decide
   rw [show dH 6 l.length=((l.length:Int)==2) by unfold dH;simp];exact jv
  by_cases h8:kd=8
  ·subst h8
   have di:((8:Int)==1)=false:=by decide
   have kO:((8:Int)==2)=false:=by decide
   have f4:((8:Int)==4)=false:=by decide
   have f14:((8:Int)==14)=false:=by decide
   have qR:((8:Int)==3)=false:=by decide
   have f5:((8:Int)==5)=false:=by decide
   have f7:((8:Int)==7)=false:=by decide
   have f11:((8:Int)==11)=false:=by decide
   have f12:((8:Int)==12)=false:=by decide
   have f13:((8:Int)==13)=false:=by decide
   have f6:((8:Int)==6)=false:=by decide
   have f8:((8:Int)==8)=true:=by decide
   rw [show dH 8 l.length=((l.length:Int)==2) by unfold dH;simp];exact jv
  by_cases nb:kd=10
  ·subst nb
   have di:((10:Int)==1)=false:=by decide
   have kO:((10:Int)==2)=false:=by decide
   have f4:((10:Int)==4)=false:=by decide
   have f14:((10:Int)==14)=false:=by decide
   have qR:((10:Int)==3)=false:=by decide
   have f5:((10:Int)==5)=false:=by decide
   have f7:((10:Int)==7)=false:=by decide
   have f11:((10:Int)==11)=false:=by decide
   have f12:((10:Int)==12)=false:=by decide
   have f13:((10:Int)==13)=false:=by decide
   have f6:((10:Int)==6)=false:=by decide
   have f8:((10:Int)==8)=false:=by decide
   have f10:((10:Int)==10)=true:=by decide
   rw [show dH 10 l.length=((l.length:Int)==2) by unfold dH;simp];exact jv
  by_cases h9:kd=9
  ·subst h9
   have di:((9:Int)==1)=false:=by decide
   have kO:((9:Int)==2)=false:=by decide
   have f4:((9:Int)==4)=false:=by decide
   have f14:((9:Int)==14)=false:=by decide
   have qR:((9:Int)==3)=false:=by decide
   have f5:((9:Int)==5)=false:=by decide
   have f7:((9:Int)==7)=false:=by decide
   have f11:((9:Int)==11)=false:=by decide
   have f12:((9:Int)==12)=false:=by decide
   have f13:((9:Int)==13)=false:=by decide
   have f6:((9:Int)==6)=false:=by decide
   have f8:((9:Int)==8)=false:=by decide
   have f10:((9:Int)==10)=false:=by decide
   have f9:((9:Int)==9)=true:=by decide
   cases hq:((l.length:Int)==2) with
   | true =>
    rw [show dH 9 l.length=true by unfold dH;simp [hq]];exact jv
   | false =>
    rw [show dH 9 l.length=((l.length:Int)==3) by unfold dH;simp [hq]];exact jv
  have e:dH kd l.length=false:=by unfold dH;simp [I,M,h4,C6,h3,h5,h7,qx,qe,fv,h6,h8,nb,h9]
  rw [e]
  have g1:(kd==1)=false:=by simpa using I
  have g2:(kd==2)=false:=by simpa using M
  have g4:(kd==4)=false:=by simpa using h4
  have g14:(kd==14)=false:=by simpa using C6
  have g3:(kd==3)=false:=by simpa using h3
  have g5:(kd==5)=false:=by simpa using h5
  have g7:(kd==7)=false:=by simpa using h7
  have g11:(kd==11)=false:=by simpa using qx
  have g12:(kd==12)=false:=by simpa using qe
  have g13:(kd==13)=false:=by simpa using fv
  have g6:(kd==6)=false:=by simpa using h6
  have g8:(kd==8)=false:=by simpa using h8
  have g10:(kd==10)=false:=by simpa using nb
  have g9:(kd==9)=false:=by simpa using h9
  exact jv
 ·rintro _ _ ⟨rfl,rfl⟩;generalize dH kd t.kids.length=b0;refine D ?_;refine GW.range (cw t.kids).length (fun k fr Γ=>fr=[U,U,U,U,.v (.bool (b0&&(t.kids.take k).all iU)),U,U,U,U,U,U,U,U,U,U,U,U,U,U,U,U,U,U,U,U,U,U,U,U,U,U,U,U,U,U,U,U,U,U,U,U,U,U,U,U,U,U,U,U,U,U,.sl 1 (cw t.kids),.v (ii ((cw t.kids).length:Int)),.v (ii (k:Nat)),U,U,U,U,U,U,U,U,U,U]/\Γ=[]) ?_ G ?_ ?_ ?_
  ·refine ⟨_,_,Wk.aC (cy:=[U,U,U,U,.v (.bool b0),U,U,U,U,U,U,U,U,U,U,U,U,U,U,U,U,U,U,U,U,U,U,U,U,U,U,U,U,U,U,U,U,U,U,U,U,U,U,U,U,U,U,U,U,U,U,.sl 1 (cw t.kids),.v (ii ((cw t.kids).length:Int)),.v (ii (0:Nat)),U,U,U,U,U,U,U,U,U,U]) ak,?_,rfl⟩;rw [take_zero,List.all_nil,Bool.and_true]
  ·rintro k _ _ ⟨rfl,rfl⟩;exact dp
  ·rintro k _ _ aj ⟨rfl,rfl⟩;rw [rq] at aj;obtain ⟨kid,lg⟩:∃ kid,t.kids[k]?=some kid:=⟨t.kids[k],by simp [aj]⟩;have hr:=sq lg;have cX:=Go.Xp.km lg;have hle:=Go.Xp.kl t.kids (k+1);have vr:=ih kid G G
   have ba:(t.kids.take (k+1)).all iU=((t.kids.take k).all iU&&iU kid):=by rw [bS,lg,List.all_append];simp
   rw [ba,<-Bool.and_assoc];generalize (b0&&(t.kids.take k).all iU)=b at *
   cases b with
   | true =>
    refine D ?_;refine V [] vr ?_;exact zcW
   | false =>
    refine D ?_;exact zcW
  ·rintro _ _ ⟨rfl,rfl⟩;rw [rq,bH];exact ax
def yJ (l:List T):Int:=match l.findIdx? (fun t=>!(iU t)) with | some i=>(i:Int) | none => -1
theorem PU (t:T) (hb:aJ t<=1099511627776):GF prog 111 [uT t] [] (.v (.bool (!(iU t)))) []:=by
 have h:=Sv _ t (aD _) hb;generalize iU t=b at *;refine ah func111 ntmps111 ?_;exact zbb
theorem Jo (l:List T) (hl:l.length<=1099511627776) (hb:∀ t∈l,aJ t<=1099511627776) :
  GF prog 156 [.sl 1 (cw l),.v (.func (.func 111) #[] #[])] [] (.v (ii (yJ l))) []:=by
 have rq:=rF l;refine ah func156 ntmps156 ?_;refine GW.range (cw l).length (fun k fr Γ=>fr=[.sl 1 (cw l),.v (.func (.func 111) #[] #[]),U,U,U,U,U,.v (ii ((cw l).length:Int)),.v (ii (k:Nat)),U,U,U,U,U,U,U,U,U,U]/\Γ=[]/\(l.take k).all iU=true) ?_ G ?_ ?_ ?_
 ·exact lj
 ·exact jd
 ·rintro k _ _ aj ⟨rfl,rfl,ba⟩;rw [rq] at aj
  have dA:l[k]?=some l[k]:=by simp [aj]
  have hr:=sq dA;have cZ:=PU l[k] (hb _ (List.getElem_mem aj))
  have bR:(l.take (k+1)).all iU=((l.take k).all iU&&iU l[k]):=by rw [bS,dA,List.all_append];simp
  have BA:iU l[k]=false->yJ l=(k:Int):=fun h0=>by
   have:l.findIdx? (fun t=>!(iU t))=some k:=by
    rw [findIdx?_eq_some_iff_getElem];refine ⟨aj,by simp [h0],fun j hj=>?_⟩;rw [gU] at ba;have:=ba l[j] zfX;simp [this]
   unfold yJ;rw [this]
  generalize l[k]=t at *
  cases hk:iU t with
  | true =>
   rw [hk] at cZ bR;refine D ?_;refine jX [] cZ ?_;exact zaT
  | false =>
   rw [hk] at cZ;rw [BA hk];refine D ?_;refine jX [] cZ ?_;exact ax
 ·rintro _ _ ⟨rfl,rfl,ba⟩;rw [rq,bH] at ba
  have:l.findIdx? (fun t=>!(iU t))=none:=by
   rw [List.findIdx?_eq_none_iff];intro x hx;rw [gU] at ba;simp [ba x hx]
  unfold yJ;rw [this];exact ax
theorem S1 (l:List T):decide ((0:Int)<=yJ l)=!(l.all iU):=by
 unfold yJ
 cases h:l.findIdx? (fun t=>!(iU t)) with
 | some i =>
  rw [findIdx?_eq_some_iff_getElem] at h;obtain ⟨I,M,_⟩:=h
  have:l.all iU=false:=by
   rw [List.all_eq_false];exact ⟨l[i],List.getElem_mem _,by simpa using M⟩
  rw [this];simp
 | none =>
  rw [List.findIdx?_eq_none_iff] at h
  have:l.all iU=true:=by rw [gU];intro x hx;simpa using h x hx
  rw [this];rfl
theorem w8 (l:List T) (hl:l.length<=1099511627776) (hb:∀ t∈l,aJ t<=1099511627776) :
  GF prog 110 [.sl 1 (cw l),.v (.func (.func 111) #[] #[])] [] (.v (.bool (!(l.all iU)))) []:=by
 have h:=Jo l hl hb;rw [<-S1];generalize yJ l=z at *;refine ah func110 ntmps110 ?_;exact zbb
end Go.Xg
set_option maxHeartbeats 2000000
namespace Go.Xg
open Go.RowKit Go.Xw Go.Proofs Tryz Go.Im
open Go.Xp (Tok Nd T Ar aJ az bU)
open Go.Sp (Src)
attribute [local irreducible] GW GL GO YG GC GA aW aZ
theorem TK:Wr 114 115 dC gQ :=
 ⟨fun a I M h3=>Wz _ a (aD _) I M h3,fun l d I M h3=>Sm l d I M,fun l d s h=>Sn h⟩
theorem GB (p:Src) (h:p.nodes.length > 800):GF prog 63 [.agg (ar p)] [] (.v (.bool false)) []:=by
 have hm:(p.nodes.map ay).length=p.nodes.length:=by simp
 have hd:decide ((800:Int) < ((p.nodes.map ay).length:Int))=true:=by rw [hm];simpa using by omega
 refine ah func63 ntmps63 ?_;exact al
theorem DV (p:Src) (h:p.nodes.length<=800) (hk:∀ n∈p.nodes,n.kids.length<=1099511627776) (hf:p.fns.length<=1099511627776) (hb:kM p.nodes p.fns 0 []=none):GF prog 63 [.agg (ar p)] [] (.v (.bool false)) []:=by
 have hm:(p.nodes.map ay).length=p.nodes.length:=by simp
 have hd:decide ((800:Int) < ((p.nodes.map ay).length:Int))=false:=by rw [hm];simpa using by omega
 have hB:=ve p G hk hf;rw [hb] at hB;unfold B7 at hB;refine ah func63 ntmps63 ?_;refine V [] hB ?_;exact al
theorem Jj (p:Src) (l:List T) (e:Nat) (h:p.nodes.length<=800) (hk:∀ n∈p.nodes,n.kids.length<=1099511627776) (hf:p.fns.length<=1099511627776) (hb:kM p.nodes p.fns 0 []=some (l,e)) (he:e≠p.nodes.length):GF prog 63 [.agg (ar p)] [] (.v (.bool false)) []:=by
 have hm:(p.nodes.map ay).length=p.nodes.length:=by simp
 have hd:decide ((800:Int) < ((p.nodes.map ay).length:Int))=false:=by rw [hm];simpa using by omega
 have hB:=ve p G hk hf;rw [hb] at hB;unfold B7 at hB;simp only at hB;rw [show ((e:Int)==(p.nodes.length:Int))=false by simp only [beq_eq_false_iff_ne,ne_eq];omega] at hB;refine ah func63 ntmps63 ?_;refine V [] hB ?_;exact al
theorem Gz (p:Src) (l:List T) (h:p.nodes.length<=800) (hk:∀ n∈p.nodes,n.kids.length<=1099511627776) (hf:p.fns.length<=1099511627776) (hb:kM p.nodes p.fns 0 []=some (l,p.nodes.length)) (hl:l.length<=1099511627776) (hs:∀ t∈l,aJ t<=1099511627776) (hn:l.all iU=false):GF prog 63 [.agg (ar p)] [] (.v (.bool false)) []:=by
 have hm:(p.nodes.map ay).length=p.nodes.length:=by simp
 have hd:decide ((800:Int) < ((p.nodes.map ay).length:Int))=false:=by rw [hm];simpa using by omega
 have hB:=ve p G hk hf;rw [hb] at hB;unfold B7 at hB;simp only at hB;rw [show ((p.nodes.length:Int)==(p.nodes.length:Int))=true by simp] at hB;have hC:=w8 l hl hs;rw [hn] at hC;refine ah func63 ntmps63 ?_;refine V [] hB ?_;refine V [] hC ?_;exact al
theorem QA (st:PS) (h:st.fns.length=st.trees.length):oV st.fns st.trees st.trees.length=(qL st).map au:=by
 unfold oV qL;apply ext_getElem?;intro i;rw [aS,List.getElem?_mapIdx,List.getElem?_mapIdx]
 cases hx:st.fns[i]? with
 | none=>rfl
 | some x =>
  have hi:=(bq hx).1;simp only [Option.map_some];rw [ab G];rfl
def UT (st:PS):Src:=⟨st.globals,st.arrays,qL st,bU 0 st.trees⟩
theorem YW {q:Go.Sp.RS} {st:PS} (hc:q.code=0) (h8:¬ az st.trees > 800) (h:st.fns.length=st.trees.length):Lv q st=.tup [.agg (ar (UT st)),.v (ii 0),.v (ii 0)]:=by
 unfold Lv;rw [ab hc,F h8,QA st h];rfl
theorem Jk (p:Src) (l:List T) (x:ae) (ts:List Tok) (c z:Int) (h:p.nodes.length<=800) (hB:GF prog 66 [.agg (ar p)] [] (.tup [.sl 1 (cw l),.v (.bool true)]) [])
  (hC:GF prog 110 [.sl 1 (cw l),.v (.func (.func 111) #[] #[])] [] (.v (.bool false)) [])
  (hL:GF prog 113 [.agg (ar p),.sl 1 (cw l),.v (j0 114),.v (j0 115)] [] (.v (sv x)) [])
  (hX:GF prog 116 [.v (sv x)] [] (.tup [jV ts,.v (ii c),.v (ii z)]) []) (hc:(c != 0)=true) :
  GF prog 63 [.agg (ar p)] [] (.v (.bool false)) []:=by
 have hm:(p.nodes.map ay).length=p.nodes.length:=by simp
 have hd:decide ((800:Int) < ((p.nodes.map ay).length:Int))=false:=by rw [hm];simpa using by omega
 refine ah func63 ntmps63 ?_;refine V [] hB ?_;refine V [] hC ?_;refine V [] hL ?_;refine V [] hX ?_;exact al
theorem Bh (p:Src) (l:List T) (x:ae) (ts:List Tok) (c k a:Int) (h:p.nodes.length<=800) (hB:GF prog 66 [.agg (ar p)] [] (.tup [.sl 1 (cw l),.v (.bool true)]) [])
  (hC:GF prog 110 [.sl 1 (cw l),.v (.func (.func 111) #[] #[])] [] (.v (.bool false)) [])
  (hL:GF prog 113 [.agg (ar p),.sl 1 (cw l),.v (j0 114),.v (j0 115)] [] (.v (sv x)) [])
  (hX:GF prog 116 [.v (sv x)] [] (.tup [jV ts,.v (ii 0),.v (ii c)]) [])
  (hP:GF prog 117 [jV ts,.v (ii (x.length:Int))] [] (.tup [.agg [.sl 1 [],.sl 2 [],.sl 3 [],.sl 5 []],.v (ii k),.v (ii a)]) []) (hk:(k==0)=false) :
  GF prog 63 [.agg (ar p)] [] (.v (.bool false)) []:=by
 have hm:(p.nodes.map ay).length=p.nodes.length:=by simp
 have hd:decide ((800:Int) < ((p.nodes.map ay).length:Int))=false:=by rw [hm];simpa using by omega
 refine ah func63 ntmps63 ?_;refine zaH ?_;exact al
theorem L6 (p r:Src) (l:List T) (x:ae) (ts:List Tok) (c:Int) (h:p.nodes.length<=800) (hB:GF prog 66 [.agg (ar p)] [] (.tup [.sl 1 (cw l),.v (.bool true)]) [])
  (hC:GF prog 110 [.sl 1 (cw l),.v (.func (.func 111) #[] #[])] [] (.v (.bool false)) [])
  (hL:GF prog 113 [.agg (ar p),.sl 1 (cw l),.v (j0 114),.v (j0 115)] [] (.v (sv x)) [])
  (hX:GF prog 116 [.v (sv x)] [] (.tup [jV ts,.v (ii 0),.v (ii c)]) [])
   (hg:GF prog 118 [strs p.globals,strs r.globals] [] (.v (.bool false)) [])
  (hP:GF prog 117 [jV ts,.v (ii (x.length:Int))] [] (.tup [.agg (ar r),.v (ii 0),.v (ii 0)]) []) :
  GF prog 63 [.agg (ar p)] [] (.v (.bool false)) []:=by
 have hm:(p.nodes.map ay).length=p.nodes.length:=by simp
 have hd:decide ((800:Int) < ((p.nodes.map ay).length:Int))=false:=by rw [hm];simpa using by omega
 refine ah func63 ntmps63 ?_;refine zaH ?_;exact zfh
theorem L7 (p r:Src) (l:List T) (x:ae) (ts:List Tok) (c:Int) (h:p.nodes.length<=800) (hB:GF prog 66 [.agg (ar p)] [] (.tup [.sl 1 (cw l),.v (.bool true)]) [])
  (hC:GF prog 110 [.sl 1 (cw l),.v (.func (.func 111) #[] #[])] [] (.v (.bool false)) [])
  (hL:GF prog 113 [.agg (ar p),.sl 1 (cw l),.v (j0 114),.v (j0 115)] [] (.v (sv x)) [])
  (hX:GF prog 116 [.v (sv x)] [] (.tup [jV ts,.v (ii 0),.v (ii c)]) [])
   (hg:GF prog 118 [strs p.globals,strs r.globals] [] (.v (.bool true)) [])
  (ha:GF prog 119 [(.sl 2 (p.arrays.map fun s=>aB s)),(.sl 2 (r.arrays.map fun s=>aB s))] [] (.v (.bool false)) [])
  (hP:GF prog 117 [jV ts,.v (ii (x.length:Int))] [] (.tup [.agg (ar r),.v (ii 0),.v (ii 0)]) []) :
  GF prog 63 [.agg (ar p)] [] (.v (.bool false)) []:=by
 have hm:(p.nodes.map ay).length=p.nodes.length:=by simp
 have hd:decide ((800:Int) < ((p.nodes.map ay).length:Int))=false:=by rw [hm];simpa using by omega
 refine ah func63 ntmps63 ?_;refine zaH ?_;refine V [] hg ?_;refine V [] ha ?_;exact al
theorem L8 (p r:Src) (l:List T) (x:ae) (ts:List Tok) (c:Int) (h:p.nodes.length<=800) (hB:GF prog 66 [.agg (ar p)] [] (.tup [.sl 1 (cw l),.v (.bool true)]) [])
  (hC:GF prog 110 [.sl 1 (cw l),.v (.func (.func 111) #[] #[])] [] (.v (.bool false)) [])
  (hL:GF prog 113 [.agg (ar p),.sl 1 (cw l),.v (j0 114),.v (j0 115)] [] (.v (sv x)) [])
  (hX:GF prog 116 [.v (sv x)] [] (.tup [jV ts,.v (ii 0),.v (ii c)]) [])
   (hg:GF prog 118 [strs p.globals,strs r.globals] [] (.v (.bool true)) [])
  (ha:GF prog 119 [(.sl 2 (p.arrays.map fun s=>aB s)),(.sl 2 (r.arrays.map fun s=>aB s))] [] (.v (.bool true)) [])
  (hf:GF prog 120 [.sl 3 (p.fns.map au),.sl 3 (r.fns.map au),.v (.func (.func 121) #[] #[])] [] (.v (.bool false)) [])
  (hP:GF prog 117 [jV ts,.v (ii (x.length:Int))] [] (.tup [.agg (ar r),.v (ii 0),.v (ii 0)]) []) :
  GF prog 63 [.agg (ar p)] [] (.v (.bool false)) []:=by
 have hm:(p.nodes.map ay).length=p.nodes.length:=by simp
 have hd:decide ((800:Int) < ((p.nodes.map ay).length:Int))=false:=by rw [hm];simpa using by omega
 refine ah func63 ntmps63 ?_;refine zaH ?_;refine V [] hg ?_;refine V [] ha ?_;refine V [] hf ?_;exact al
theorem L9 (p r:Src) (l:List T) (x:ae) (ts:List Tok) (c:Int) (b:Bool) (h:p.nodes.length<=800) (hB:GF prog 66 [.agg (ar p)] [] (.tup [.sl 1 (cw l),.v (.bool true)]) [])
  (hC:GF prog 110 [.sl 1 (cw l),.v (.func (.func 111) #[] #[])] [] (.v (.bool false)) [])
  (hL:GF prog 113 [.agg (ar p),.sl 1 (cw l),.v (j0 114),.v (j0 115)] [] (.v (sv x)) [])
  (hX:GF prog 116 [.v (sv x)] [] (.tup [jV ts,.v (ii 0),.v (ii c)]) [])
   (hg:GF prog 118 [strs p.globals,strs r.globals] [] (.v (.bool true)) [])
  (ha:GF prog 119 [(.sl 2 (p.arrays.map fun s=>aB s)),(.sl 2 (r.arrays.map fun s=>aB s))] [] (.v (.bool true)) [])
  (hf:GF prog 120 [.sl 3 (p.fns.map au),.sl 3 (r.fns.map au),.v (.func (.func 121) #[] #[])] [] (.v (.bool true)) [])
  (hn:GF prog 122 [.sl 5 (p.nodes.map ay),.sl 5 (r.nodes.map ay),.v (.func (.func 123) #[] #[])] [] (.v (.bool b)) [])
  (hP:GF prog 117 [jV ts,.v (ii (x.length:Int))] [] (.tup [.agg (ar r),.v (ii 0),.v (ii 0)]) []) :
  GF prog 63 [.agg (ar p)] [] (.v (.bool b)) []:=by
 have hm:(p.nodes.map ay).length=p.nodes.length:=by simp
 have hd:decide ((800:Int) < ((p.nodes.map ay).length:Int))=false:=by rw [hm];simpa using by omega
 refine ah func63 ntmps63 ?_;refine zaH ?_;refine V [] hg ?_;refine V [] ha ?_;refine V [] hf ?_;refine V [] hn ?_;exact al
theorem GD (p r:Src) (l:List T) (x:ae) (ts:List Tok) (c:Int) (b1 b2 b3 b4:Bool) (h:p.nodes.length<=800) (hB:GF prog 66 [.agg (ar p)] [] (.tup [.sl 1 (cw l),.v (.bool true)]) [])
  (hC:GF prog 110 [.sl 1 (cw l),.v (.func (.func 111) #[] #[])] [] (.v (.bool false)) [])
  (hL:GF prog 113 [.agg (ar p),.sl 1 (cw l),.v (j0 114),.v (j0 115)] [] (.v (sv x)) [])
  (hX:GF prog 116 [.v (sv x)] [] (.tup [jV ts,.v (ii 0),.v (ii c)]) [])
  (hg:GF prog 118 [strs p.globals,strs r.globals] [] (.v (.bool b1)) [])
  (ha:GF prog 119 [(.sl 2 (p.arrays.map fun s=>aB s)),(.sl 2 (r.arrays.map fun s=>aB s))] [] (.v (.bool b2)) [])
  (hf:GF prog 120 [.sl 3 (p.fns.map au),.sl 3 (r.fns.map au),.v (.func (.func 121) #[] #[])] [] (.v (.bool b3)) [])
  (hn:GF prog 122 [.sl 5 (p.nodes.map ay),.sl 5 (r.nodes.map ay),.v (.func (.func 123) #[] #[])] [] (.v (.bool b4)) [])
  (hP:GF prog 117 [jV ts,.v (ii (x.length:Int))] [] (.tup [.agg (ar r),.v (ii 0),.v (ii 0)]) []) :
  GF prog 63 [.agg (ar p)] [] (.v (.bool (b1&&(b2&&(b3&&b4))))) []:=by
 cases b1 with
 | false=>exact L6 p r l x ts c h hB hC hL hX hg hP
 | true =>
  cases b2 with
  | false=>exact L7 p r l x ts c h hB hC hL hX hg ha hP
  | true =>
   cases b3 with
   | false=>exact L8 p r l x ts c h hB hC hL hX hg ha hf hP
   | true=>exact L9 p r l x ts c b4 h hB hC hL hX hg ha hf hn hP
end Go.Xg
set_option maxHeartbeats 1000000
namespace Go.Xg
open Go.RowKit Go.Xw Go.Proofs Tryz Go.Im
open Go.Xp (Tok Nd T Ar aJ az bU)
open Go.Sp (Src)
attribute [local irreducible] GW GL GO YG GC GA aW aZ
theorem OO {st:PS} {f:Go.Sp.Fn} (h:f∈qL st):∃ x∈st.fns,f.params=x.2:=by
 unfold qL at h;obtain ⟨i,hi⟩:=List.getElem?_of_mem h;rw [List.getElem?_mapIdx] at hi
 cases hx:st.fns[i]? with
 | none=>rw [hx] at hi;cases hi
 | some x=>rw [hx] at hi;cases hi;exact ⟨x,br hx,rfl⟩
theorem NQ (p:Src) (hw:eo p<=1048576) (hn:u7 p):GF prog 63 [.agg (ar p)] [] (.v (.bool (fI p))) []:=by
 obtain ⟨⟨s1,s2⟩,⟨s3,s4⟩,⟨s5,s6⟩,⟨s7,s8⟩⟩:=jD p
 have fB:∀ n∈p.nodes,n.kids.length<=1099511627776:=fun n h=>by have:=(s8 n h).2;omega
 have hB:=ve p G fB G;unfold fI
 by_cases h8:p.nodes.length > 800
 ·rw [ab h8];exact GB p h8
 rw [F h8]
 cases hb:kM p.nodes p.fns 0 [] with
 | none=>exact DV p G fB G hb
 | some y =>
  obtain ⟨l,e⟩:=y;simp only
  by_cases he:e≠p.nodes.length
  ·rw [ab he];exact Jj p l e G fB G hb he
  rw [F he]
  have he:e=p.nodes.length:=by simpa using he
  subst he;obtain ⟨l',I,M,h3,h4,h5⟩:=D3 _ _ _ _ _ hb;rw [nil_append] at I;subst I
  have hz:az l=p.nodes.length:=by omega
  have acm:=VO hn M hz;have rq:=I5 M hz;have nB:=gD.len h3;have abD:=dX.num hn.nodes l 0 M
  by_cases hk:l.all iU=false
  ·rw [ab hk];exact Gz p l G fB G hb G (fun t ht=>by have:=(rq t ht).2;omega) hk
  rw [F hk]
  have hk:l.all iU=true:=by simpa using hk
  obtain ⟨ts,c,z,q,st,hr⟩:=reads (oK dC gQ p l);rw [CI hr];rw [hb] at hB;unfold B7 at hB;simp only at hB;rw [show ((p.nodes.length:Int)==(p.nodes.length:Int))=true by simp] at hB;have hC:=w8 l G (fun t ht=>by have:=(rq t ht).2;omega);rw [hk] at hC;have hL:=SH 114 115 dC gQ TK p l G G G G G hn.arrays (fun f h=>by have:=(s6 f h).2.1;omega)
   (fun t ht=>⟨gU.1 hk t ht,lq abD ht,by have:=(rq t ht).1;omega,by have:=(rq t ht).2;omega⟩)
  have hX:=SQ _ _ ts c z G hr.lex;have acG:=hr.len;have hP:=JP ts (((oK dC gQ p l).length:Nat):Int) q st G G (fun h=>by have:=(hr.ok h).2;omega) hr.read;have gO:=PO _ _ _ _ _ _ (aD _) hr.read ⟨aO _,aO _,aO _,fun x h=>by cases h⟩;have fo:=hr.ok;clear hr hb;generalize hxg:oK dC gQ p l=x at *
  by_cases hc:c≠0
  ·rw [ab hc];exact Jk p l x ts c z G hB hC hL hX zf7
  rw [F hc]
  have hc:c=0:=by simpa using hc
  subst hc
  by_cases hq:q.code≠0
  ·rw [ab hq];unfold Lv at hP;rw [F hq] at hP;exact Bh p l x ts z q.code q.at_ G hB hC hL hX hP (by simpa using hq)
  rw [F hq]
  have hq:q.code=0:=by simpa using hq
  obtain ⟨FA,PI⟩:=fo hq
  by_cases h9:az st.trees > 800
  ·rw [ab h9];unfold Lv at hP;rw [ab hq,ab h9] at hP;exact Bh p l x ts z 10 0 G hB hC hL hX hP aP
  rw [F h9];rw [YW hq h9 FA.len] at hP;obtain ⟨m1,m2,m3,m4⟩:=gO
  have iG:(bU 0 st.trees).length<=800:=by rw [Go.Xp.jA];omega
  unfold same;refine GD p (UT st) l x ts z _ _ _ _ G hB hC hL hX ?_ ?_ ?_ ?_ hP
  ·exact JZ _ _ G (by show st.globals.length<=_;omega)
  ·exact U7 _ _ G (by show st.arrays.length<=_;omega)
  ·refine Jh p.fns (qL st) G ?_ (fun f h=>by have:=(s6 f h).2.1;omega) (fun f h=>?_)
   ·unfold qL;rw [List.length_mapIdx];omega
   ·obtain ⟨y,hy,h6⟩:=OO h;rw [h6];have:=m4 y hy;omega
  ·exact Ji p.nodes (bU 0 st.trees) G G fB (fun n h=>by have:=Cg st.trees 0 n h;omega)
theorem TI (n lo hi:Int):GF prog 130 [.v (ii n),.v (ii lo),.v (ii hi)] [] (.v (.bool (decide (lo<=n)&&decide (n<=hi)))) []:=by
 cases h:decide (lo<=n)
 all_goals
  refine ah func130 ntmps130 ?_;exact al
end Go.Xg
set_option maxHeartbeats 2000000
namespace Go.Im
open Go.Xp Go.Sp
theorem DA (p:Src):(cR p).length=p.globals.length+p.arrays.length+p.fns.length:=by simp [cR,fg,jB];omega
end Go.Im
namespace Go.Xg
open Go.RowKit Go.Xw Go.Proofs Tryz Go.Im
open GV (U)
open Go.Xp (Nd Ar)
open Go.Sp (Src)
attribute [local irreducible] GW GL GO YG GC GA aW aZ
theorem yM:∀ l:List ae,kC (bb l)=true
 | []=>rfl
 | s::l=>by
  have:=yM l;unfold bb at this |-;rw [List.map_cons,kC,this];rfl
theorem kT (l:List ae):(bb l).length=l.length:=by simp [bb]
theorem Md (p:Src) (hw:eo p<=1048576):GC prog 38 [.agg (ar p)] [] fun g Δ=>∃ a c,g=.v (.slice a (cR p).length c)/\Δ=[.vech 9 1 (bb (cR p)) (.slice a (cR p).length c)]:=by
 obtain ⟨⟨a1,a2⟩,⟨b1,b2⟩,⟨c1,c2⟩,⟨d1,d2⟩⟩:=jD p
 have xp:(p.globals.map fun s=>[GV.v (sv s)]).length=p.globals.length:=by simp
 have eW:kC (p.globals.map fun s=>[GV.v (sv s)])=true:=yM p.globals;refine c8 func38 ntmps38 ?_;refine GW.wk (Wk.iN 9 1) ?_;simp only [nil_append];refine D ?_;refine GL.vZ 0 rfl rfl rfl rfl eW (by refine ⟨?_,?_⟩;(· rw [xp];omega);(· rw [xp];omega)) ?_;intro a c;rw [xp];refine zaS ?_;refine GW.range (p.arrays.map aB).length (fun k fr Γ=>∃ a c R n,fr=[U,.loc 1 0,U,.v (.slice a n c),U,U,U,U,U,U,U,U,.sl 2 (p.arrays.map aB),.v (ii ((p.arrays.map aB).length:Int)),.v (ii (k:Nat)),U,U,U,U,U,U,U,U,U,U,U,U,U,U,U,U,U,U,U,U,U,U,U]/\Γ=[.vech 9 1 R (.slice a n c),.box 33 (ar p)]/\R.length=n/\R=bb (p.globals++(fg p).take k)) ?_ zgd ?_ ?_ ?_
 ·exact ⟨_,_,Wk.aC ak,_,_,_,_,rfl,rfl,xp,by simp [bb]⟩
 ·rintro k _ _ ⟨a,c,R,n,rfl,rfl,_⟩;exact dp
 ·rintro k _ _ hk ⟨a,c,R,n,rfl,rfl,fY,hR⟩
  have hk:k < p.arrays.length:=by simpa using hk
  have hx:p.arrays[k]?=some p.arrays[k]:=by simp [hk]
  have hr:=An hx
  have bR:bb (p.globals++(fg p).take (k+1))=R++[[.v (sv p.arrays[k].name)]]:=by
   have:(fg p)[k]?=some p.arrays[k].name:=by rw [fg,aS,hx];rfl
   exact zfz
  have xr:n<=4194304:=by
   rw [<-fY,hR,kT,aM,du];omega
  clear hR;unfold aB at hr;generalize p.arrays[k]=x at *;exact zbc
 ·rintro _ _ ⟨a,c,R,n,rfl,rfl,fY,hR⟩;rw [bV,show p.arrays.length=(fg p).length by simp [fg],bH] at hR;refine aY ?_;refine D ?_;refine GW.range (p.fns.map au).length (fun k fr Γ=>∃ a c R n,fr=[U,.loc 1 0,U,.v (.slice a n c),U,U,U,U,U,U,U,U,U,U,U,U,U,U,U,U,U,U,U,U,U,.sl 3 (p.fns.map au),.v (ii ((p.fns.map au).length:Int)),.v (ii (k:Nat)),U,U,U,U,U,U,U,U,U,U]/\Γ=[.vech 9 1 R (.slice a n c),.box 33 (ar p)]/\R.length=n/\R=bb ((p.globals++fg p)++(jB p).take k)) ?_ zgd ?_ ?_ ?_
  ·exact ⟨_,_,Wk.aC ak,_,_,_,_,rfl,rfl,fY,by rw [hR];simp⟩
  ·rintro k _ _ ⟨a,c,R,n,rfl,rfl,_⟩;exact dp
  ·rintro k _ _ hk ⟨a,c,R,n,rfl,rfl,fY,hR⟩
   have hk:k < p.fns.length:=by simpa using hk
   have hx:p.fns[k]?=some p.fns[k]:=by simp [hk]
   have hr:=vJ hx
   have bR:bb ((p.globals++fg p)++(jB p).take (k+1))=R++[[.v (sv p.fns[k].name)]]:=by
    have:(jB p)[k]?=some p.fns[k].name:=by rw [jB,aS,hx];rfl
    exact zfz
   have xr:n<=4194304:=by
    rw [<-fY,hR,kT,aM,aM,du,fg,bV];omega
   clear hR;unfold au at hr;generalize p.fns[k]=x at *;exact zbc
  ·rintro _ _ ⟨a,c,R,n,rfl,rfl,fY,hR⟩;rw [bV,show p.fns.length=(jB p).length by simp [jB],bH] at hR
   have py:n=(cR p).length:=by rw [<-fY,hR,kT];rfl
   subst py;refine aY ?_;refine zdA ?_;exact rR (n:=1) rfl cJ rfl (aO _) rfl rfl ⟨a,c,rfl,by rw [hR];rfl⟩
end Go.Xg
namespace Go.Im
open Go.Xp
def nD (n:Nat):ae:=109::dk n
theorem D7 {n:Nat} (h:n < 10):dk n=[UInt8.ofNat (48+n)]:=by rw [dk,dif_pos h]
theorem Ke {n:Nat} (h:¬ n < 10):dk n=dk (n / 10)++[UInt8.ofNat (48+n % 10)]:=by rw [dk,dif_neg h]
end Go.Im
namespace Go.Xg
open Go.RowKit Go.Xw Go.Proofs Tryz
open GV (U)
open Go.Xp (Nd Ar dk qQ)
open Go.Sp (Src)
open Go.Im (nD D7 Ke)
attribute [local irreducible] GW GL GO YG GC GA aW aZ
theorem mA (n:Nat) (hn:n<=1099511627776):GF prog 101 [.v (ii (n:Int))] [] (.v (sv (nD n))) []:=by
 unfold nD
 by_cases h0:n=0
 ·subst h0;rw [D7 G];refine ah func101 ntmps101 ?_;exact al
 have Uj:decide ((n:Int)<=0)=false:=by simpa using by omega
 have XP:=qQ n;refine ah func101 ntmps101 ?_;refine GW.loop (fun st:Nat × ae=>st.1) (fun st fr Γ=>fr=[.v (ii (st.1:Nat)),U,U,.v (sv st.2),U,U,U,U,U,U,U,U,U,U,U,U,U,U,U,U]/\Γ=[]/\st.1<=n/\st.2.length<=n+1/\(st.1=0->st.2=dk n)/\(st.1 > 0->dk st.1++st.2=dk n)) (n,[]) ?_ ?_
 ·exact ⟨_,_,Wk.aC ak,rfl,rfl,aD _,aO _,fun h=>absurd h h0,fun _=>by simp⟩
 rintro ⟨k,y⟩ _ _ ⟨rfl,rfl,hk,HT,hz,hp⟩;simp only at hk HT hz hp
 by_cases aj:k > 0
 ·have hd:decide ((0:Int) < (k:Int))=true:=by simpa using aj
  have hq:=hp aj;have hw:=Ak (48+k % 10) G;rw [Int.natCast_add] at hw
  have bR:(k / 10=0->[UInt8.ofNat (48+k % 10)]++y=dk n)/\(k / 10 > 0->dk (k / 10)++([UInt8.ofNat (48+k % 10)]++y)=dk n):=by
   by_cases nb:k < 10
   ·rw [D7 nb] at hq;refine ⟨fun _=>?_,fun h=>by omega⟩;rw [Nat.mod_eq_of_lt nb];exact hq
   ·rw [Ke nb,de] at hq;exact ⟨fun h=>by omega,fun _=>hq⟩
  have py:([UInt8.ofNat (48+k % 10)]++y).length<=n+1:=by
   by_cases nb:k / 10=0
   ·rw [bR.1 nb];exact XP
   ·have:=congrArg List.length (bR.2 G);rw [aM] at this;omega
  refine D ?_;refine zak ?_;exact ⟨(k / 10,[UInt8.ofNat (48+k % 10)]++y),⟨_,_,Wk.aC ak,rfl,rfl,by show k / 10<=n;omega,py,bR.1,bR.2⟩,by show k / 10 < k;omega⟩
 ·have hd:decide ((0:Int) < (k:Int))=false:=by simpa using aj
  have hy:=hz G;subst hy;exact zaF
def marks (k n:Nat):List (List GV):=(List.range n).map fun i=>[GV.v (sv (nD (k+i)))]
theorem wE (k n:Nat):(marks k n).length=n:=by simp [marks]
theorem M1 (k n:Nat):marks k (n+1)=marks k n++[[.v (sv (nD (k+n)))]]:=by simp [marks,range_succ]
theorem SU {k n i:Nat} (h:i < n):(marks k n)[i]?=some [.v (sv (nD (k+i)))]:=by simp [marks,h]
theorem Qe (k:Nat) (rows:List (List GV)) {i:Nat} (h:i < rows.length):(marks k i++rows.drop i).set i [.v (sv (nD (k+i)))]=marks k (i+1)++rows.drop (i+1):=by
 rw [lT h,set_append_right _ _ (by rw [wE];exact aD _),wE,jx,List.set_cons_zero,M1,de];rfl
theorem zf (a:Option Addr) (c n k:Nat) (rows:List (List GV)) (hn:rows.length=n) (hb:k+n<=1099511627776) :
  GF prog 50 [.v (.slice a n c),.v (ii (k:Nat))] [.vech 9 1 rows (.slice a n c)] (.v (ii ((k+n:Nat):Int))) [.vech 9 1 (marks k n) (.slice a n c)]:=by
 refine ah func50 ntmps50 ?_;refine GW.loop (fun i:Nat=>n - i) (fun i fr Γ=>∃ R,fr=[.v (.slice a n c),.v (ii ((k+i:Nat):Int)),U,U,U,.v (ii (i:Nat)),U,U,U,U,U,U,U,U,U,U,U,U,U,U]/\Γ=[.vech 9 1 R (.slice a n c)]/\i<=n/\R=marks k i++rows.drop i) 0 ?_ ?_
 ·exact ⟨_,_,Wk.aC ak,_,rfl,rfl,aO _,rfl⟩
 rintro i _ _ ⟨R,rfl,rfl,hi,hR⟩
 have fY:R.length=n:=by rw [hR,aM,wE,jy];omega
 by_cases aj:i < n
 ·have hd:decide ((i:Int) < (n:Int))=true:=by simpa using aj
  have hc:=mA (k+i) G;have cq:=Qe k rows (i:=i) G;rw [<-hR] at cq;clear hR;generalize nD (k+i)=x at *;refine zaR ?_;exact zcQ
 ·have hd:decide ((i:Int) < (n:Int))=false:=by simpa using aj
  have eZ:i=n:=by omega
  exact zeL
theorem zb (k n:Nat) (hb:k+n<=1099511627776):GF prog 54 [.sl 1 (marks k n),.v (ii (k:Nat))] [] (.v (ii ((k+n:Nat):Int))) []:=by
 have hm:=wE k n;refine ah func54 ntmps54 ?_;refine GW.loop (fun i:Nat=>n - i) (fun i fr Γ=>fr=[.sl 1 (marks k n),.v (ii ((k+i:Nat):Int)),U,U,U,.v (ii (i:Nat)),U,U,U,U,U,U,U,U,U,U,U,U,U,U,U,U]/\Γ=[]/\i<=n) 0 ?_ ?_
 ·exact zbv
 rintro i _ _ ⟨rfl,rfl,hi⟩
 by_cases aj:i < n
 ·have hd:decide ((i:Int) < ((marks k n).length:Int))=true:=by rw [hm];simpa using aj
  have hc:=mA (k+i) G;have hr:=SU (k:=k) aj;generalize nD (k+i)=x at *
  have hs:(!(x==x))=false:=by simp
  refine D ?_;refine aL (aE 0 5 (.a 5 (.q 6 .nil))) ?_;refine ao ?_;refine aI [] hc ?_;exact zdk
 ·have hd:decide ((i:Int) < ((marks k n).length:Int))=false:=by rw [hm];simpa using aj
  have eZ:i=n:=by omega
  subst eZ;exact zaF
end Go.Xg
namespace Go.Xg
open Go.RowKit Go.Xw Go.Proofs
open Go.Xp (Nd Ar dk qQ)
open Go.Sp (Src)
open Go.Im (nD)
attribute [local irreducible] GW GL GO YG GC GA aW aZ
theorem EA {p:Nat->Bool} {Γ:List Ob} (h:∀ x∈Γ,x.iJ=true):sL p Γ=true:=by
 induction Γ with
 | nil=>rfl
 | cons x r ih =>
  rw [sL,ih fun y hy=>h y (cU _ hy),Bool.and_true];have:=h x List.mem_cons_self
  cases x <;> first | rfl | cases this
section
variable {P:Program} {fn:Func} {m:Nat} {R:GV->List Ob->Prop} {fr:List GV} {Γ:List Ob} {e:Exit}
theorem Mq {t:Tmp} {x:Value} (hr:fn.results=#[.tmp t]) (he:e=.normal\/e=.ret) (hg:cK fr t=.v x) (hm:m=Γ.length) (ha:∀ x∈Γ,x.iJ=true) (h:R (.v x) Γ):rQ P fn m R e fr Γ :=
 rR (n:=Γ.length) hr he hg G (by rw [bH];exact EA ha) rfl (by rw [bH];exact h)
end
theorem rB {rows:List (List GV)} {i o:Nat} {g:GV} {r:List GV} (hr:rows[i]?=some r):(eL rows i o g)[i]?=some (bp r o g):=by rw [A6 hr,ab rfl]
end Go.Xg
namespace Go.Xg
open Go.RowKit Go.Xw Go.Proofs
open Go.Xp (Nd Ar dk qQ)
open Go.Sp (Src)
open Go.Im (nD)
theorem Ly {x:Ob} (h:x.iJ=true) (f:Nat->Nat):x.ey f=x:=by cases x <;> first | rfl | cases h
theorem xD {X:List Ob} (h:∀ x∈X,x.iJ=true) (f:Nat->Nat):X.map (Ob.ey f)=X :=
 (List.map_congr_left fun x hx=>Ly (h x hx) f).trans (List.map_id _)
theorem BQ (s n N:Nat) (h:s+n<=N):jM (List.range' s n) N=true:=by
 induction n generalizing s with
 | zero=>rfl
 | succ n ih =>
  rw [range'_succ,jM,ih (s+1) G]
  have I:Nat.blt s N=true:=by rw [Nat.blt_eq];omega
  have M:(List.range' (s+1) n).contains s=false:=by
   cases hc:(List.range' (s+1) n).contains s with
   | false=>rfl
   | true =>
    have:=List.mem_range'_1.1 (il.1 hc);omega
  rw [I,M];rfl
theorem yS (f:Nat->Nat):∀ (X A C:List Ob),(∀ x∈X,x.iJ=true)->seen f (A++(X++C)) (List.range' A.length X.length) X
 | [],A,C,_=>trivial
 | x::X,A,C,h=>by
  rw [length_cons,range'_succ,seen];refine ⟨by rw [fw (aD _),jx,Ly (h x List.mem_cons_self)];rfl,?_⟩
  have:=yS f X (A++[x]) C fun y hy=>h y (cU _ hy)
  rw [aM,List.length_singleton,de] at this;exact this
theorem Aq:∀ (X A C Δ:List Ob),Δ.length=X.length->eA (A++(X++C)) (List.range' A.length X.length) Δ=A++(Δ++C)
 | [],A,C,Δ,h=>by
  have:Δ=[]:=gC h;subst this;show eA (A++C) [] []=_;rw [eA,bO];rfl
 | x::X,A,C,[],h=>by cases h
 | x::X,A,C,y::Δ,h=>by
  rw [length_cons,range'_succ,eA]
  have e:oset (A++(x::X++C)) A.length y=(A++[y])++(X++C):=by
   rw [bg,set_append_right _ _ (aD _),jx];simp
  have:=Aq X (A++[y]) C Δ zfP;rw [aM,List.length_singleton] at this;rw [e,this];simp
section
variable {P:Program} {m:Nat} {Q:dG} {fr:List GV} {Γ:List Ob} {ops:Array Oper} {rest:List Oper} {d:Option Tmp} {op:Op} {ty:TypeId} {pos:String} {af:Array Edge}
theorem GL.uS {f:FuncId} [hf:aK P f] (A X C:List Ob) {args:List Operand} {mG:Array TypeId} {gs:List GV} {R:GV->List Ob->Prop} (hc:GC P f gs X R) (bJ:Γ=A++(X++C)) (hX:∀ x∈X,x.iJ=true) (Pn:∀ r,l7 r gs=gs) (ha:ly (args.map (be fr)) gs)
  (h:∀ g Δ,R g Δ->Δ.length=X.length/\(∀ x∈Δ,x.iJ=true)/\(∀ r,ey r g=g)/\GL P m ops Q rest (bC fr d g) (A++(Δ++C))) :
  GL P m ops Q (⟨d,.call ⟨.value (.func f),args.toArray,mG⟩,ty,pos,af,none⟩::rest) fr Γ:=by
 subst bJ
 refine GL.Gl (List.range' A.length X.length) hc (by rw [Pn];exact ha) (BQ _ _ _ (by simp only [aM];omega)) (yS _ X A C hX) fun g Δ hr=>?_
 obtain ⟨I,M,h3,h4⟩:=h g Δ hr;refine ⟨by rw [List.length_range',I];exact aD _,?_⟩;rw [xD M,Aq _ _ _ _ I,h3];exact h4
end
attribute [local irreducible] GW GL GO YG GC GA aW aZ
theorem uj {α γ:Type} {f:α->Value->γ} {l:List α} {hs:List Value} {i:Nat} {x:α} {h:Value} (I:l[i]?=some x) (M:hs[i]?=some h):(List.zipWith f l hs)[i]?=some (f x h):=by rw [List.getElem?_zipWith,I,M]
end Go.Xg
namespace Go.Xg
open Go.RowKit Go.Xw Go.Proofs Go.Im
open Go.Xp (Nd Ar)
open Go.Sp (Src)
theorem WR {A X C:List Ob} {j:Nat} (h:j < X.length):(A++(X++C))[A.length+j]?=X[j]?:=by
 rw [fw G,Nat.add_sub_cancel_left,eR h]
def Kr (p:Src) (i:Nat):Go.Sp.Fn:=(p.fns[i]?).getD ⟨[],[],0⟩
def Li (p:Src) (i:Nat):Nd:=(p.nodes[i]?).getD ⟨0,0,0,[],[]⟩
def BZ (l:List Value) (i:Nat):Value:=(l[i]?).getD undef
theorem Y7 {B:Bs} {K:Fz} {β:Bt} {w:World} {Γ:List Ob} {s:Nat} {p:Src} {hg ha hf hn:Value} {fs ns:List Value} (H:sO p hg ha hf hn fs ns) (acN:∀ (i:Nat) x,(iz p hg ha hf hn fs ns)[i]?=some x->Γ[s+i]?=some x) (hI:Inv B K β Γ w) :
  ∃ K1 aR,cV K K1/\Inv B K1 β aR w/\bm K1 (fun _=>.no) [hg,ha,hf,hn] (ar p)/\∀ q,q < s\/s+(iz p hg ha hf hn fs ns).length<=q->aR[q]?=Γ[q]?:=by
 obtain ⟨_,_,_,_,iG,py,_,_⟩:=H
 have Xv:(List.zipWith gA p.fns fs).length=p.fns.length:=by rw [mJ];omega
 have hLn:(List.zipWith dB p.nodes ns).length=p.nodes.length:=by rw [mJ];omega
 have hlen:(iz p hg ha hf hn fs ns).length=4+p.fns.length+p.nodes.length:=by simp [iz,Xv,hLn];omega
 have hF:∀ i,i < p.fns.length->p.fns[i]?=some (Kr p i)/\fs[i]?=some (BZ fs i):=fun i hi=>by
  unfold Kr BZ;rw [dq hi,dq (show i < fs.length by omega)];exact zai
 have hN:∀ i,i < p.nodes.length->p.nodes[i]?=some (Li p i)/\ns[i]?=some (BZ ns i):=fun i hi=>by
  unfold Li BZ;rw [dq hi,dq (show i < ns.length by omega)];exact zai
 have g0:Γ[s+0]?=some (.vech 9 1 (bb p.globals) hg):=acN 0 _ rfl;have g1:Γ[s+1]?=some (.vech 56 2 (p.arrays.map aB) ha):=acN 1 _ rfl;have g2:Γ[s+2]?=some (.vech 58 3 (List.zipWith gB p.fns fs) hf):=acN 2 _ rfl
 have gF:∀ i,i < p.fns.length->Γ[s+(3+i)]?=some (.vech 9 1 (bb (Kr p i).params) (BZ fs i)):=fun i hi=>acN _ _ <| by
  unfold iz;rw [show 3+i=i+1+1+1 by omega,getElem?_cons_succ,getElem?_cons_succ,getElem?_cons_succ,eR G,uj (hF i hi).1 (hF i hi).2];rfl
 have g3:Γ[s+(3+p.fns.length)]?=some (.vech 62 5 (List.zipWith dc p.nodes ns) hn):=acN _ _ <| by
  unfold iz;rw [show 3+p.fns.length=p.fns.length+1+1+1 by omega,getElem?_cons_succ,getElem?_cons_succ,getElem?_cons_succ,fw G,Xv,jx];rfl
 have gN:∀ i,i < p.nodes.length->Γ[s+(4+p.fns.length+i)]?=some (.vech 3 1 (bQ (Li p i).kids) (BZ ns i)):=fun i hi=>acN _ _ <| by
  unfold iz;rw [show 4+p.fns.length+i=(p.fns.length+(i+1))+1+1+1 by omega,getElem?_cons_succ,getElem?_cons_succ,getElem?_cons_succ,fw G,Xv,Nat.add_sub_cancel_left,getElem?_cons_succ,uj (hN i hi).1 (hN i hi).2];rfl
 obtain ⟨K1,Γ1,R1,k1,i1,di,l1,r1,o1⟩:=hI.IB (jf:=s+2) (N:=p.fns.length) (o:=1) (E:=9) (k':=1) (raw:=fun i=>gB (Kr p i) (BZ fs i)) (fin:=fun i=>au (Kr p i)) (ks:=fun i=>bb (Kr p i).params) (hd:=fun i=>BZ fs i) (jp:=fun i=>s+(3+i)) g2
  ⟨by rw [mJ];omega,fun i hi=>uj (hF i hi).1 (hF i hi).2⟩ (fun i hi=>⟨rfl,rfl⟩) gF (fun i hi=>by omega) (fun i j _ _ h=>by omega)
 obtain ⟨K2,Gb,R2,k2,i2,kO,l2,r2,o2⟩:=i1.IB (jf:=s+(3+p.fns.length)) (N:=p.nodes.length) (o:=4) (E:=3) (k':=1) (raw:=fun i=>dc (Li p i) (BZ ns i)) (fin:=fun i=>ay (Li p i)) (ks:=fun i=>bQ (Li p i).kids) (hd:=fun i=>BZ ns i) (jp:=fun i=>s+(4+p.fns.length+i))
  (by rw [o1 _ G fun i hi=>by omega];exact g3) ⟨by rw [mJ];omega,fun i hi=>uj (hN i hi).1 (hN i hi).2⟩ (fun i hi=>⟨rfl,rfl⟩) (fun i hi=>by rw [o1 _ G fun j hj=>by omega];exact gN i hi) (fun i hi=>by omega) (fun i j _ _ h=>by omega)
 have e1:R1=p.fns.map au:=by
  apply ext_getElem?;intro i
  by_cases hi:i < p.fns.length
  ·rw [r1 i hi,aS,(hF i hi).1];rfl
  ·exact zfp
 have e2:R2=p.nodes.map ay:=by
  apply ext_getElem?;intro i
  by_cases hi:i < p.nodes.length
  ·rw [r2 i hi,aS,(hN i hi).1];rfl
  ·exact zfp
 rw [e1] at di;rw [e2] at kO
 have f1':Gb[s+2]?=some (.vech 58 3 (p.fns.map au) hf):=by rw [o2 _ G fun i hi=>by omega];exact di
 have g0':Gb[s+0]?=some (.vech 9 1 (bb p.globals) hg):=by rw [o2 _ G fun i hi=>by omega,o1 _ G fun i hi=>by omega];exact g0
 have g1':Gb[s+1]?=some (.vech 56 2 (p.arrays.map aB) ha):=by rw [o2 _ G fun i hi=>by omega,o1 _ G fun i hi=>by omega];exact g1
 obtain ⟨K3,k3,q0,i3⟩:=i2.tL g0';obtain ⟨K4,k4,q1,i4⟩:=i3.tL (i:=s+1) (by rw [bg,dN,F G];exact g1');obtain ⟨K5,k5,q2,i5⟩:=i4.tL (i:=s+2) (by rw [bg,bg,dN,F G,dN,F G];exact f1');obtain ⟨K6,k6,q3,i6⟩:=i5.tL (i:=s+(3+p.fns.length)) (by rw [bg,bg,bg,dN,F G,dN,F G,dN,F G];exact kO);have b:dF β β:=dF.refl β;refine ⟨K6,_,k1.trans (k2.trans (k3.trans (k4.trans (k5.trans k6)))),i6,.cons ((q0.mono (k4.trans (k5.trans k6)) b).pc rfl) (.cons ((q1.mono (k5.trans k6) b).pc rfl) (.cons ((q2.mono k6 b).pc rfl) (.cons (q3.pc rfl) .nil))),fun q hq=>?_⟩;rw [hlen] at hq;rw [bg,bg,bg,bg,dN,F G,dN,F G,dN,F G,dN,F G,o2 q G fun i hi=>by omega,o1 q G fun i hi=>by omega]
theorem IL {B:Bs} {K:Fz} {β:Bt} {w:World} {A C:List Ob} {p:Src} {hg ha hf hn:Value} {fs ns:List Value} (H:sO p hg ha hf hn fs ns) (hI:Inv B K β (A++(iz p hg ha hf hn fs ns++C)) w) :
  ∃ K1,cV K K1/\mK K1 w/\kL K1 (fun _=>.no) w/\bm K1 (fun _=>.no) [hg,ha,hf,hn] (ar p):=by
 obtain ⟨K1,aR,I,M,h3,-⟩:=Y7 H (fun i x h=>by rw [WR (bq h).1];exact h) hI;exact ⟨K1,I,M.fz,M.ab4,h3⟩
theorem GM {K:Fz} {β:Bt} {v a b c d:Value} (h:Rel K β v (.agg [.v a,.v b,.v c,.v d])):v=.agg #[a,b,c,d]:=by
 cases h with
 | agg vs cs hl h =>
  match vs,hl with
  | [x,y,z,u],_ =>
   rw [Rel.fF (h 0 x _ rfl rfl),Rel.fF (h 1 y _ rfl rfl),Rel.fF (h 2 z _ rfl rfl),Rel.fF (h 3 u _ rfl rfl)]
theorem GP {K:Fz} {a b c d:Value} {gs:List GV} (h:bm K (fun _=>.no) [a,b,c,d] gs):Rel K (fun _=>.no) (.agg #[a,b,c,d]) (.agg gs):=.agg [a,b,c,d] gs h.1 h.2
section
variable {B:Bs} {K:Fz} {β:Bt} {w:World} {l:List Value} {fr:List GV} {A C X:List Ob} {p:Src} {hg ha hf hn:Value} {fs ns:List Value}
theorem vf {x y:Operand} {z:Value} (H:sO p hg ha hf hn fs ns) (hI:Inv B K β (A++(iz p hg ha hf hn fs ns++C)) w) (hF:FR K β fr l) (hx:be fr x=.agg [.v hg,.v ha,.v hf,.v hn]) (hy:be fr y=.v z) :
  ∃ K1,mK K1 w/\kL K1 (fun _=>.no) w/\bm K1 (fun _=>.no) ([x,y].map (ev l)) [.agg (ar p),.v z]:=by
 obtain ⟨K1,_,I,M,h3⟩:=IL H hI;have hr:=hF.ev x;rw [hx] at hr;have e:=GM hr;refine ⟨K1,I,M,?_⟩;show bm K1 _ [ev l x,ev l y] _;rw [e,hF.kq hy];exact .cons (GP h3) (.cons (.v _) .nil)
theorem OU {K K1:Fz} {v:Value} {gs:List GV} (hk:cV K K1) (hp:∀ g∈gs,g.pc=true) (h:Rel K β v (.agg gs)):Rel K1 (fun _=>.no) v (.agg gs):=by
 cases h with
 | agg vs cs hl h =>
  exact zdm
theorem Ox (p:Src):∀ g∈ar p,g.pc=true:=fun g hg=>by
 simp only [ar,List.mem_cons,not_mem_nil,or_false] at hg
 rcases hg with rfl | rfl | rfl | rfl <;> rfl
theorem tE {x y:Operand} (H:sO p hg ha hf hn fs ns) (hI:Inv B K β (A++(iz p hg ha hf hn fs ns++C)) w) (hF:FR K β fr l) (hx:be fr x=.agg [.v hg,.v ha,.v hf,.v hn]) (hy:be fr y=.agg (ar p)) :
  ∃ K1,mK K1 w/\kL K1 (fun _=>.no) w/\bm K1 (fun _=>.no) ([x,y].map (ev l)) [.agg (ar p),.agg (ar p)]:=by
 obtain ⟨K1,hk,I,M,h3⟩:=IL H hI;have hr:=hF.ev x;rw [hx] at hr;have e:=GM hr;have eh:=hF.ev y;rw [hy] at eh;refine ⟨K1,I,M,?_⟩;show bm K1 _ [ev l x,ev l y] _;rw [e];exact .cons (GP h3) (.cons (OU hk (Ox p) eh) .nil)
end
end Go.Xg
set_option maxHeartbeats 4000000
namespace Go.Xg
open Go.RowKit Go.Xw Go.Proofs Tryz Go.Im
open GV (U)
open Go.Xp (Nd Ar)
open Go.Sp (Src)
attribute [local irreducible] GW GL GO YG GC GA aW aZ
def jm (k n:Nat):List (List GV):=(List.range n).map fun i=>[GV.v (ii ((k+i:Nat):Int))]
theorem uK (k n:Nat):(jm k n).length=n:=by simp [jm]
theorem JL (k n:Nat):jm k (n+1)=jm k n++[[.v (ii ((k+n:Nat):Int))]]:=by simp [jm,range_succ]
theorem Qd {k n i:Nat} (h:i < n):(jm k n)[i]?=some [.v (ii ((k+i:Nat):Int))]:=by simp [jm,h]
theorem M0 (k:Nat) (rows:List (List GV)) {i:Nat} (h:i < rows.length):(jm k i++rows.drop i).set i [.v (ii ((k+i:Nat):Int))]=jm k (i+1)++rows.drop (i+1):=by
 rw [lT h,set_append_right _ _ (by rw [uK];exact aD _),uK,jx,List.set_cons_zero,JL,de];rfl
theorem MZ (a:Option Addr) (c n k:Nat) (rows:List (List GV)) (hn:rows.length=n) (hb:k+n<=1099511627776) :
  GF prog 102 [.v (.slice a n c),.v (ii (k:Nat))] [.vech 3 1 rows (.slice a n c)] (.v (ii ((k+n:Nat):Int))) [.vech 3 1 (jm k n) (.slice a n c)]:=by
 refine ah func102 ntmps102 ?_;refine GW.loop (fun i:Nat=>n - i) (fun i fr Γ=>∃ R,fr=[.v (.slice a n c),.v (ii ((k+i:Nat):Int)),U,U,U,.v (ii (i:Nat)),U,U,U,U,U,U,U,U,U,U,U,U,U]/\Γ=[.vech 3 1 R (.slice a n c)]/\i<=n/\R=jm k i++rows.drop i) 0 ?_ ?_
 ·exact ⟨_,_,Wk.aC ak,_,rfl,rfl,aO _,rfl⟩
 rintro i _ _ ⟨R,rfl,rfl,hi,hR⟩
 have fY:R.length=n:=by rw [hR,aM,uK,jy];omega
 by_cases aj:i < n
 ·have hd:decide ((i:Int) < (n:Int))=true:=by simpa using aj
  have cq:=M0 k rows (i:=i) G;rw [<-hR] at cq;clear hR;refine D ?_;exact zcQ
 ·have hd:decide ((i:Int) < (n:Int))=false:=by simpa using aj
  have eZ:i=n:=by omega
  exact zeL
theorem Mw (k n:Nat) (hb:k+n<=1099511627776):GF prog 103 [.sl 1 (jm k n),.v (ii (k:Nat))] [] (.v (ii ((k+n:Nat):Int))) []:=by
 have hm:=uK k n;refine ah func103 ntmps103 ?_;refine GW.loop (fun i:Nat=>n - i) (fun i fr Γ=>fr=[.sl 1 (jm k n),.v (ii ((k+i:Nat):Int)),U,U,U,.v (ii (i:Nat)),U,U,U,U,U,U,U,U,U,U,U,U,U,U,U]/\Γ=[]/\i<=n) 0 ?_ ?_
 ·exact zbv
 rintro i _ _ ⟨rfl,rfl,hi⟩
 by_cases aj:i < n
 ·have hd:decide ((i:Int) < ((jm k n).length:Int))=true:=by rw [hm];simpa using aj
  have hr:=Qd (k:=k) aj
  have hs:(((k+i:Nat):Int) != ((k+i:Nat):Int))=false:=by simp
  exact zdk
 ·have hd:decide ((i:Int) < ((jm k n).length:Int))=false:=by rw [hm];simpa using aj
  have eZ:i=n:=by omega
  subst eZ;exact zaF
section
variable {B:Bs} {K:Fz} {β:Bt} {w:World} {fr:List GV} {l:List Value} {A X C:List Ob}
end
theorem Sq (l:List Int):(bQ l).length=l.length:=by simp [bQ]
end Go.Xg
namespace Go.Xg
open Go.RowKit Go.Xw
section
variable {P:Program} {m:Nat} {Q:dG} {fr:List GV} {Γ:List Ob} {ops:Array Oper} {rest:List Oper} {d:Option Tmp} {op:Op} {ty:TypeId} {pos:String} {af:Array Edge}
def tY (β:Bt) (n:Nat) (bX:Bt):Bt:=fun i=>if i < n then β i else bX (i - n)
def Ob.plain:Ob->Prop
 | .vech _ _ rows _=>∀ r∈rows,∀ g∈r,∃ x,g=.v x
 | _=>False
theorem Inv.Ys {B:Bs} {K K1 K':Fz} {β bX:Bt} {w w':World} {Δ:List Ob} (hI:Inv B K β Γ w) (bz:Inv ⟨w,iD,K1,fun _=>.no,0⟩ K' bX Δ w') (hΔ:∀ o∈Δ,Ob.plain o):Inv B K (tY β Γ.length bX) (Γ++Δ) w'/\dF β (tY β Γ.length bX):=by
 have zH:=hI.same bz.ext
 have iR:∀ i,i < Γ.length->tY β Γ.length bX i=β i:=fun i hi=>by unfold tY;rw [ab hi]
 have ow:∀ i,Γ.length<=i->tY β Γ.length bX i=bX (i - Γ.length):=fun i hi=>by unfold tY;rw [F G]
 have hle:dF β (tY β Γ.length bX):=fun i=>by
  by_cases hi:i < Γ.length
  ·rw [iR i hi];exact sM.refl _
  ·rw [hI.out i G];trivial
 have hold:∀ i b,(β i).blk=some b->b < w.heap.size:=fun i b hb=>by
  by_cases hi:i < Γ.length
  ·exact (hI.ob i _ (dq hi)).lt hb
  ·rw [hI.out i G] at hb;cases hb
 have zQ:∀ i b,(bX i).blk=some b->w.heap.size<=b:=fun i b hb=>by
  rcases bz.own i b hb with h | h
  ·exact h.elim
  ·exact h
 have dY:∀ i b,(tY β Γ.length bX i).blk=some b->(i < Γ.length/\(β i).blk=some b)\/(Γ.length<=i/\(bX (i - Γ.length)).blk=some b):=fun i b hb=>by
  by_cases hi:i < Γ.length
  ·rw [iR i hi] at hb;exact .inl ⟨hi,hb⟩
  ·rw [ow i G] at hb;exact .inr ⟨by omega,hb⟩
 refine ⟨⟨zH.ext,zH.kle,zH.ble.trans hle,zH.loc,zH.fz,fun i x hi=>?_,fun i hi=>?_,fun i j b I M=>?_,fun i b I=>?_,zH.kn,⟨zH.tab.le,zH.tab.pow,zH.tab.spc,fun i b h=>?_⟩⟩,hle⟩
 ·by_cases sG:i < Γ.length
  ·rw [eR sG] at hi;exact (zH.ob i x hi).ext (Ext.refl w') (fun _ _ h=>h) (cV.refl K) hle (iR i sG) (S:=iD) (fun _ _ _ h=>h)
  ·rw [fw G] at hi;have cW:=hΔ x (br hi)
   cases x with
   | vech E k rows v =>
    obtain ⟨xs,e1,e2,e3,e4,e5⟩:=bz.ob _ _ hi
    have AW:∀ g∈rows.flatten,∃ x,g=.v x:=fun g hg=>by
     obtain ⟨r,h5,h6⟩:=List.mem_flatten.1 hg;exact cW r h5 g h6
    refine ⟨xs,by rw [ow i G];exact e1,e2,⟨e3.1,fun q u g h5 h6=>?_⟩,e4,fun b hb o=>?_⟩
    ·obtain ⟨y,rfl⟩:=AW g (br h6);rw [Rel.fF (e3.2 q u _ h5 h6)];exact .v _
    ·cases hk:K b o with
     | none=>rfl
     | some g =>
      have I:=hI.fz.lt hk;have M:=zQ (i - Γ.length) b (by rw [e1];exact hb);omega
   | _=>exact cW.elim
 ·rw [aM] at hi;rw [ow i G];exact bz.out _ G
 ·rcases dY i b I with ⟨a1,a2⟩ | ⟨a1,a2⟩ <;> rcases dY j b M with ⟨b1,b2⟩ | ⟨b1,b2⟩
  ·exact hI.dis i j b a2 b2
  ·have:=hold i b a2;have:=zQ _ b b2;omega
  ·have:=hold j b b2;have:=zQ _ b a2;omega
  ·have:=bz.dis _ _ b a2 b2;omega
 ·rcases dY i b I with ⟨a1,a2⟩ | ⟨a1,a2⟩
  ·exact hI.own i b a2
  ·exact .inr (jO hI.ext.size (zQ _ b a2))
 ·rcases dY i b h with ⟨a1,a2⟩ | ⟨a1,a2⟩
  ·exact zH.tab.free i b a2
  ·exact bz.tab.free _ b a2
def GV.Plain (g:GV):Prop:=∀ {K K':Fz} {β bX:Bt} {v:Value},Rel K β v g->Rel K' bX v g
theorem GV.Lu (x:Value):GV.Plain (.v x):=fun h=>by rw [Rel.fF h];exact .v _
theorem GV.Lt {cs:List GV} (hc:∀ c∈cs,GV.Plain c) {K K':Fz} {β bX:Bt} {vs:List Value} (h:∀ (i:Nat) v g,vs[i]?=some v->cs[i]?=some g->Rel K β v g):∀ (i:Nat) v g,vs[i]?=some v->cs[i]?=some g->Rel K' bX v g :=
 fun i v g I M=>hc g (br M) (h i v g I M)
theorem GV.Qr {cs:List GV} (hc:∀ c∈cs,GV.Plain c):GV.Plain (.agg cs):=fun h=>by
 cases h with
 | agg vs cs hl h=>exact .agg vs cs hl (GV.Lt hc h)
theorem GV.Qs {cs:List GV} (hc:∀ c∈cs,GV.Plain c):GV.Plain (.tup cs):=fun h=>by
 cases h with
 | tup vs cs hl h=>exact .tup vs cs hl (GV.Lt hc h)
theorem GL.Vg {f:FuncId} [hf:aK P f] {args:List Operand} {mG:Array TypeId} {gs:List GV} {R:GV->List Ob->Prop} (hc:GC P f gs [] R)
  (hR:∀ g Δ,R g Δ->GV.Plain g/\∀ o∈Δ,Ob.plain o)
  (hv:∀ B K β w l,Inv B K β Γ w->FR K β fr l->∃ K1,mK K1 w/\kL K1 (fun _=>.no) w/\bm K1 (fun _=>.no) (args.map (ev l)) gs)
  (h:∀ g Δ,R g Δ->GL P m ops Q rest (bC fr d g) (Γ++Δ)):GL P m ops Q (⟨d,.call ⟨.value (.func f),args.toArray,mG⟩,ty,pos,af,none⟩::rest) fr Γ:=fun B K β w l hm hI hF=>by
 obtain ⟨K1,I,M,h3⟩:=hv B K β w l hI hF
 have tW:(execOp (ev l) ⟨d,.call ⟨.value (.func f),args.toArray,mG⟩,ty,pos,af,none⟩).run P w=.ok (.enter f (args.map (ev l)).toArray) w:=by simp [execOp,resolve,ev,Deferred.ofValue,invoke,nG]
 refine WL.calls tW (hc _ K1 _ w _ rfl (Inv.new I M) h3) ?_;rintro x w' ⟨K',bX,g,Δ,bz,fT,hr⟩;obtain ⟨p1,p2⟩:=hR g Δ hr;obtain ⟨hJ,hle⟩:=hI.Ys bz p2;exact h g Δ hr B K _ w' _ hm hJ ((hF.mono (cV.refl K) hle).put d (p1 fT))
end
end Go.Xg
set_option maxHeartbeats 2000000
namespace Go.Xg
open Go.RowKit Go.Xw Go.Proofs Tryz
open GV (U)
open Go.Xp (Nd Ar)
open Go.Sp (Src)
open Go.Im (wS eo bj pK ud iY eM pJ pI pH)
attribute [local irreducible] GW GL GO YG GC GA aW aZ
theorem RQ (l:List Int) (hl:l.length<=1048576):GF prog 148 [ints l,ints l] [] (.v (.bool true)) []:=by
 have hm:(l.map (fun i=>[GV.v (ii i)])).length=l.length:=by simp
 have hd:(((l.map (fun i=>[GV.v (ii i)])).length:Int) != ((l.map (fun i=>[GV.v (ii i)])).length:Int))=false:=by simp
 refine ah func148 ntmps148 ?_;refine GW.loop (fun k:Nat=>l.length - k) (fun k fr Γ=>fr=[ints l,ints l,U,U,U,.v (ii (k:Nat)),U,U,U,U,U,U,U,U,U,U,U,U,U,U,U,U,U,U,U,U]/\Γ=[]/\k<=l.length) 0 ?_ ?_
 ·exact zbv
 rintro k _ _ ⟨rfl,rfl,hk⟩
 by_cases aj:k < l.length
 ·have hx:l[k]?=some l[k]:=by simp [aj]
  have hr:(l.map (fun i=>[GV.v (ii i)]))[k]?=some ([GV.v (ii l[k])]):=by rw [aS,hx];rfl
  have dW:decide ((k:Int) < ((l.map (fun i=>[GV.v (ii i)])).length:Int))=true:=by rw [hm];simpa using aj
  generalize l[k]=x at *
  have hs:(x != x)=false:=by simp
  exact zcF
 ·have dW:decide ((k:Int) < ((l.map (fun i=>[GV.v (ii i)])).length:Int))=false:=by rw [hm];simpa using aj
  exact zaF
theorem Bp (l:List ae) (hl:l.length<=1048576):GF prog 46 [strs l,strs l] [] (.v (.bool true)) []:=by
 have hm:(l.map (fun s=>[GV.v (sv s)])).length=l.length:=by simp
 have hd:(((l.map (fun s=>[GV.v (sv s)])).length:Int) != ((l.map (fun s=>[GV.v (sv s)])).length:Int))=false:=by simp
 refine ah func46 ntmps46 ?_;refine GW.loop (fun k:Nat=>l.length - k) (fun k fr Γ=>fr=[strs l,strs l,U,U,U,.v (ii (k:Nat)),U,U,U,U,U,U,U,U,U,U,U,U,U,U,U,U,U,U,U,U]/\Γ=[]/\k<=l.length) 0 ?_ ?_
 ·exact zbv
 rintro k _ _ ⟨rfl,rfl,hk⟩
 by_cases aj:k < l.length
 ·have hx:l[k]?=some l[k]:=by simp [aj]
  have hr:(l.map (fun s=>[GV.v (sv s)]))[k]?=some ([GV.v (sv l[k])]):=by rw [aS,hx];rfl
  have dW:decide ((k:Int) < ((l.map (fun s=>[GV.v (sv s)])).length:Int))=true:=by rw [hm];simpa using aj
  generalize l[k]=x at *
  have hs:(!(x==x))=false:=by simp
  exact zcF
 ·have dW:decide ((k:Int) < ((l.map (fun s=>[GV.v (sv s)])).length:Int))=false:=by rw [hm];simpa using aj
  exact zaF
theorem Oz (x:Ar):GF prog 98 [.agg (aB x),.agg (aB x)] [] (.v (.bool true)) []:=by
 have e0:(!(x.name==x.name))=false:=by simp
 have e1:(x.size != x.size)=false:=by simp
 refine ah func98 ntmps98 ?_;exact al
theorem Mo (l:List Ar) (hl:l.length<=1048576):GF prog 47 [.sl 2 (l.map aB),.sl 2 (l.map aB)] [] (.v (.bool true)) []:=by
 have hm:(l.map aB).length=l.length:=by simp
 have hd:(((l.map aB).length:Int) != ((l.map aB).length:Int))=false:=by simp
 refine ah func47 ntmps47 ?_;refine GW.loop (fun k:Nat=>l.length - k) (fun k fr Γ=>fr=[.sl 2 (l.map aB),.sl 2 (l.map aB),U,U,U,.v (ii (k:Nat)),U,U,U,U,U,U,U,U,U,U,U,U,U,U,U,U,U,U,U,U,U]/\Γ=[]/\k<=l.length) 0 ?_ ?_
 ·exact zbv
 rintro k _ _ ⟨rfl,rfl,hk⟩
 by_cases aj:k < l.length
 ·have hx:l[k]?=some l[k]:=by simp [aj]
  have hr:(l.map aB)[k]?=some (aB l[k]):=by rw [aS,hx];rfl
  have dW:decide ((k:Int) < ((l.map aB).length:Int))=true:=by rw [hm];simpa using aj
  have hc:=Oz l[k];exact zap
 ·have dW:decide ((k:Int) < ((l.map aB).length:Int))=false:=by rw [hm];simpa using aj
  exact zaF
theorem W1 (x:Go.Sp.Fn) (hp:x.params.length<=1048576):GF prog 99 [.agg (au x),.agg (au x)] [] (.v (.bool true)) []:=by
 have e0:(!(x.name==x.name))=false:=by simp
 have e1:(x.body != x.body)=false:=by simp
 have h0:=Bp x.params hp;refine ah func99 ntmps99 ?_;exact zdU
theorem Vs (l:List Go.Sp.Fn) (hl:l.length<=1048576) (he:∀ x∈l,x.params.length<=1048576):GF prog 48 [.sl 3 (l.map au),.sl 3 (l.map au)] [] (.v (.bool true)) []:=by
 have hm:(l.map au).length=l.length:=by simp
 have hd:(((l.map au).length:Int) != ((l.map au).length:Int))=false:=by simp
 refine ah func48 ntmps48 ?_;refine GW.loop (fun k:Nat=>l.length - k) (fun k fr Γ=>fr=[.sl 3 (l.map au),.sl 3 (l.map au),U,U,U,.v (ii (k:Nat)),U,U,U,U,U,U,U,U,U,U,U,U,U,U,U,U,U,U,U,U,U]/\Γ=[]/\k<=l.length) 0 ?_ ?_
 ·exact zbv
 rintro k _ _ ⟨rfl,rfl,hk⟩
 by_cases aj:k < l.length
 ·have hx:l[k]?=some l[k]:=by simp [aj]
  have hr:(l.map au)[k]?=some (au l[k]):=by rw [aS,hx];rfl
  have dW:decide ((k:Int) < ((l.map au).length:Int))=true:=by rw [hm];simpa using aj
  have hex:=he _ (br hx);have hc:=W1 l[k] hex;exact zap
 ·have dW:decide ((k:Int) < ((l.map au).length:Int))=false:=by rw [hm];simpa using aj
  exact zaF
theorem RR (x:Nd) (hp:x.kids.length<=1048576):GF prog 100 [.agg (ay x),.agg (ay x)] [] (.v (.bool true)) []:=by
 have e0:(x.kind != x.kind)=false:=by simp
 have e1:(x.at_ != x.at_)=false:=by simp
 have e2:(x.n != x.n)=false:=by simp
 have e3:(!(x.s==x.s))=false:=by simp
 have h0:=RQ x.kids hp;refine ah func100 ntmps100 ?_;exact zdU
theorem OB (l:List Nd) (hl:l.length<=1048576) (he:∀ x∈l,x.kids.length<=1048576):GF prog 49 [.sl 5 (l.map ay),.sl 5 (l.map ay)] [] (.v (.bool true)) []:=by
 have hm:(l.map ay).length=l.length:=by simp
 have hd:(((l.map ay).length:Int) != ((l.map ay).length:Int))=false:=by simp
 refine ah func49 ntmps49 ?_;refine GW.loop (fun k:Nat=>l.length - k) (fun k fr Γ=>fr=[.sl 5 (l.map ay),.sl 5 (l.map ay),U,U,U,.v (ii (k:Nat)),U,U,U,U,U,U,U,U,U,U,U,U,U,U,U,U,U,U,U,U,U]/\Γ=[]/\k<=l.length) 0 ?_ ?_
 ·exact zbv
 rintro k _ _ ⟨rfl,rfl,hk⟩
 by_cases aj:k < l.length
 ·have hx:l[k]?=some l[k]:=by simp [aj]
  have hr:(l.map ay)[k]?=some (ay l[k]):=by rw [aS,hx];rfl
  have dW:decide ((k:Int) < ((l.map ay).length:Int))=true:=by rw [hm];simpa using aj
  have hex:=he _ (br hx);have hc:=RR l[k] hex;exact zap
 ·have dW:decide ((k:Int) < ((l.map ay).length:Int))=false:=by rw [hm];simpa using aj
  exact zaF
theorem C0 (x:Src) (hg:x.globals.length<=1048576) (ha:x.arrays.length<=1048576) (hf:x.fns.length<=1048576) (Pk:∀ f∈x.fns,f.params.length<=1048576) (hn:x.nodes.length<=1048576) (zS:∀ n∈x.nodes,n.kids.length<=1048576):GF prog 10 [.agg (ar x),.agg (ar x)] [] (.v (.bool true)) []:=by
 have h0:=Bp x.globals hg;have I:=Mo x.arrays ha;have M:=Vs x.fns hf Pk;have h3:=OB x.nodes hn zS;refine ah func10 ntmps10 ?_;refine V [] h0 ?_;refine zci ?_;exact al
open Go.Im
open Go.Xp (T)
theorem PT (s:ae):GF prog 37 [.v (sv s)] [] (.v (.bool (nZ s))) []:=by
 unfold nZ qM sc iv
 cases I:(s==[103,101,116])
 all_goals cases M:(s==[112,117,116])
 all_goals
  refine ah func37 ntmps37 ?_;exact al
theorem GG {rh:FuncId} [aK prog rh] (pr:Go.Sp.Fn->Bool) (l:List (Go.Sp.Fn)) (hn:l.length<=1099511627776) (hc:∀ x∈l,GF prog rh [.agg (au x)] [] (.v (.bool (pr x))) []) :
  GF prog 95 [.sl 3 (l.map au),.v (.func (.func rh) #[] #[])] [] (.v (ii (dm pr l))) []:=by
 have eU:(l.map au).length=l.length:=by simp
 refine ah func95 ntmps95 ?_;refine GW.range (l.map au).length (fun k fr Γ=>fr=[.sl 3 (l.map au),.v (.func (.func rh) #[] #[]),U,U,U,U,U,.v (ii ((l.map au).length:Int)),.v (ii (k:Nat)),U,U,U,U,U,U,U,U,U,U]/\Γ=[]/\(l.take k).all (fun y=>!pr y)=true) ?_ G ?_ ?_ ?_
 ·exact lj
 ·exact jd
 ·rintro k _ _ aj ⟨rfl,rfl,ba⟩;rw [eU] at aj;obtain ⟨x,dA⟩:∃ x,l[k]?=some x:=⟨l[k],by simp [aj]⟩
  have hr:(l.map au)[k]?=some (au x):=by rw [aS,dA];rfl
  have h:=hc x (br dA);have bR:=nV (f:=pr) dA
  have hit:=fun h0=>nY (f:=pr) dA h0 ba
  unfold au at hr h
  cases hb:pr x with
  | true =>
   rw [hb] at h;rw [hit hb];refine D ?_;refine jX [] h ?_;exact ax
  | false =>
   rw [hb] at h bR;refine D ?_;refine jX [] h ?_;exact zaT
 ·rintro _ _ ⟨rfl,rfl,ba⟩;exact zbC
theorem vU {rh:FuncId} [aK prog rh] (pr:Go.Sp.Fn->Bool) (l:List (Go.Sp.Fn)) (hn:l.length<=1099511627776) (hc:∀ x∈l,GF prog rh [.agg (au x)] [] (.v (.bool (pr x))) []) :
  GF prog 140 [.sl 3 (l.map au),.v (.func (.func rh) #[] #[])] [] (.v (.bool (l.any pr))) []:=by
 have h:=GG pr l hn hc;rw [<-Fh];generalize dm pr l=z at *;refine ah func140 ntmps140 ?_;exact zbb
theorem Gd {rh:FuncId} [aK prog rh] (pr:Go.Sp.Fn->Bool) (s:ae) (l:List (Go.Sp.Fn)) (hn:l.length<=1099511627776) (hc:∀ x∈l,GF prog rh [.agg (au x),.box [.v (sv s)] 0] [] (.v (.bool (pr x))) []) :
  GF prog 95 [.sl 3 (l.map au),.fn (.func rh) [] [.box [.v (sv s)] 0]] [] (.v (ii (dm pr l))) []:=by
 have eU:(l.map au).length=l.length:=by simp
 refine ah func95 ntmps95 ?_;refine GW.range (l.map au).length (fun k fr Γ=>fr=[.sl 3 (l.map au),.fn (.func rh) [] [.box [.v (sv s)] 0],U,U,U,U,U,.v (ii ((l.map au).length:Int)),.v (ii (k:Nat)),U,U,U,U,U,U,U,U,U,U]/\Γ=[]/\(l.take k).all (fun y=>!pr y)=true) ?_ G ?_ ?_ ?_
 ·exact lj
 ·exact jd
 ·rintro k _ _ aj ⟨rfl,rfl,ba⟩;rw [eU] at aj;obtain ⟨x,dA⟩:∃ x,l[k]?=some x:=⟨l[k],by simp [aj]⟩
  have hr:(l.map au)[k]?=some (au x):=by rw [aS,dA];rfl
  have h:=hc x (br dA);have bR:=nV (f:=pr) dA
  have hit:=fun h0=>nY (f:=pr) dA h0 ba
  unfold au at hr h
  cases hb:pr x with
  | true =>
   exact ze5
  | false =>
   rw [hb] at h bR;refine D ?_;refine pM [] h ?_;exact zaT
 ·rintro _ _ ⟨rfl,rfl,ba⟩;exact zbC
theorem Gc {rh:FuncId} [aK prog rh] (pr:Ar->Bool) (s:ae) (l:List (Ar)) (hn:l.length<=1099511627776) (hc:∀ x∈l,GF prog rh [.agg (aB x),.box [.v (sv s)] 0] [] (.v (.bool (pr x))) []) :
  GF prog 93 [.sl 2 (l.map aB),.fn (.func rh) [] [.box [.v (sv s)] 0]] [] (.v (ii (dm pr l))) []:=by
 have eU:(l.map aB).length=l.length:=by simp
 refine ah func93 ntmps93 ?_;refine GW.range (l.map aB).length (fun k fr Γ=>fr=[.sl 2 (l.map aB),.fn (.func rh) [] [.box [.v (sv s)] 0],U,U,U,U,U,.v (ii ((l.map aB).length:Int)),.v (ii (k:Nat)),U,U,U,U,U,U,U,U,U,U]/\Γ=[]/\(l.take k).all (fun y=>!pr y)=true) ?_ G ?_ ?_ ?_
 ·exact lj
 ·exact jd
 ·rintro k _ _ aj ⟨rfl,rfl,ba⟩;rw [eU] at aj;obtain ⟨x,dA⟩:∃ x,l[k]?=some x:=⟨l[k],by simp [aj]⟩
  have hr:(l.map aB)[k]?=some (aB x):=by rw [aS,dA];rfl
  have h:=hc x (br dA);have bR:=nV (f:=pr) dA
  have hit:=fun h0=>nY (f:=pr) dA h0 ba
  unfold aB at hr h
  cases hb:pr x with
  | true =>
   exact ze5
  | false =>
   rw [hb] at h bR;refine D ?_;refine pM [] h ?_;exact zaT
 ·rintro _ _ ⟨rfl,rfl,ba⟩;exact zbC
theorem Vz (x:Go.Sp.Fn) (s:ae):GF prog 96 [.agg (au x),.box [.v (sv s)] 0] [] (.v (.bool (x.name==s))) []:=by
 unfold au;refine ah func96 ntmps96 ?_;exact al
theorem OM (p:Src) (s:ae) (hn:p.fns.length<=1099511627776):GF prog 43 [.agg (ar p),.v (sv s)] [] (.v (ii (dm (fun x:Go.Sp.Fn=>x.name==s) p.fns))) []:=by
 have h:=Gd (fun x:Go.Sp.Fn=>x.name==s) s p.fns hn (fun x _=>Vz x s);generalize dm (fun x:Go.Sp.Fn=>x.name==s) p.fns=z at *;refine c8 func43 ntmps43 ?_;exact zcd
theorem Me (x:Ar) (s:ae):GF prog 94 [.agg (aB x),.box [.v (sv s)] 0] [] (.v (.bool (x.name==s))) []:=by
 unfold aB;refine ah func94 ntmps94 ?_;exact al
theorem E8 (p:Src) (s:ae) (hn:p.arrays.length<=1099511627776):GF prog 42 [.agg (ar p),.v (sv s)] [] (.v (ii (dm (fun x:Ar=>x.name==s) p.arrays))) []:=by
 have h:=Gc (fun x:Ar=>x.name==s) s p.arrays hn (fun x _=>Me x s);generalize dm (fun x:Ar=>x.name==s) p.arrays=z at *;refine c8 func42 ntmps42 ?_;exact zcd
theorem NA (x:Go.Sp.Fn):GF prog 177 [.agg (au x)] [] (.v (.bool (decide (x.params.length > 40)))) []:=by
 have h:decide ((40:Int) < ((x.params.map fun s=>[GV.v (sv s)]).length:Int))=decide (x.params.length > 40):=by
  rw [bV];exact decide_eq_decide.2 G
 rw [<-h];unfold au strs;refine ah func177 ntmps177 ?_;exact al
theorem Rm (x:Go.Sp.Fn):GF prog 141 [.agg (au x)] [] (.v (.bool (oA x))) []:=by
 have h:(((x.params.map fun s=>[GV.v (sv s)]).length:Int)==0)=(x.params.length==0):=by
  rw [bV];exact Bool.eq_iff_iff.2 zfL
 unfold oA xB;rw [<-h];unfold au strs
 cases I:(x.name==[109,97,105,110])
 all_goals
  refine ah func141 ntmps141 ?_;exact al
open Go.Xp (aJ az)
section
variable {B:Bs} {K:Fz} {β:Bt} {w:World} {l:List Value} {fr:List GV} {A C:List Ob}
theorem ic {x y:Operand} {E k:Nat} {rows:List (List GV)} {h z:Value} (hI:Inv B K β (A++(.vech E k rows h::C)) w) (hF:FR K β fr l) (hx:be fr x=.v h) (hy:be fr y=.v z) :
  ∃ K1,mK K1 w/\kL K1 (fun _=>.no) w/\bm K1 (fun _=>.no) ([x,y].map (ev l)) [.sl k rows,.v z]:=by
 obtain ⟨K1,hk,I,M,h3⟩:=hI.view (i:=A.length) (E:=E) (k:=k) (rows:=rows) (x:=h) (by rw [fw (aD _),jx];rfl);refine ⟨K1,I,M,?_⟩;show bm K1 _ [ev l x,ev l y] _;rw [hF.kq hx,hF.kq hy];exact .cons h3 (.cons (.v _) .nil)
end
theorem p9 (l:List ae):(bb l).length=l.length:=by simp [bb]
theorem Rs (xs:List Int) (s:Int) (hl:xs.length<=1099511627776):GF prog 173 [ints xs,.v (ii s)] [] (.v (ii (dm (fun x=>s==x) xs))) []:=by
 have eU:(xs.map fun i=>[GV.v (ii i)]).length=xs.length:=by simp
 refine ah func173 ntmps173 ?_;refine GW.range (xs.map fun i=>[GV.v (ii i)]).length (fun k fr Γ=>fr=[ints xs,.v (ii s),U,U,U,U,ints xs,.v (ii ((xs.map fun i=>[GV.v (ii i)]).length:Int)),.v (ii (k:Nat)),U,U,U,U,U,U,U,U,U,U]/\Γ=[]/\((xs.take k).all fun x=>!(s==x))=true) ?_ G ?_ ?_ ?_
 ·exact lj
 ·exact jd
 ·rintro k _ _ aj ⟨rfl,rfl,ba⟩;rw [eU] at aj;obtain ⟨x,dA⟩:∃ x,xs[k]?=some x:=⟨xs[k],by simp [aj]⟩;have hr:=kE dA;have bR:=nV (f:=fun y:Int=>s==y) dA
  have hit:=fun h0=>nY (f:=fun y:Int=>s==y) dA h0 ba
  cases hb:(s==x) with
  | true =>
   rw [hit hb];exact ax
  | false =>
   exact zec
 ·rintro _ _ ⟨rfl,rfl,ba⟩;exact zbC
theorem Jg (xs:List Int) (s:Int) (hl:xs.length<=1099511627776):GF prog 132 [ints xs,.v (ii s)] [] (.v (.bool (xs.contains s))) []:=by
 have hi:=Rs xs s hl
 have he:xs.contains s=xs.any (fun x=>s==x):=by rw [List.contains_eq_any_beq]
 rw [he,<-Fh];generalize dm (fun x=>s==x) xs=i at *;refine ah func132 ntmps132 ?_;refine V [] hi ?_;exact al
end Go.Xg
set_option maxHeartbeats 4000000
namespace Go.Xg
open Go.RowKit Go.Xw Go.Proofs Go.Im
open Go.Xp (Nd T Ar aJ az)
open Go.Sp (Src)
attribute [local irreducible] GW GL GO YG GC GA aW aZ
theorem pC (l:List ae):kC (l.map fun s=>[GV.v (sv s)])=true:=by
 induction l with
 | nil=>rfl
 | cons s l ih=>rw [List.map_cons,kC,ih];rfl
theorem GW.G6 {P:Program} {m:Nat} {c:Code} {Q:dG} {fr cy:List GV} {Γ aR:List Ob} (I:vb fr cy) (M:Γ=aR) (h:GW P m c Q cy aR):GW P m c Q fr Γ:=by
 subst M;exact GW.wk (Wk.aC I) h
open Tryz
def wv (n:Nd):Bool:=(n.kind==4&&n.s==[115,105,122,101])&&((n.kids.length:Int)==1)
theorem Ds (p:Src) (a:Nat) (n:Nd) (hn:p.nodes[a]?=some n):GF prog 179 [.agg (ar p),.v (ii (a:Nat))] [] (.v (.bool (wv n))) []:=by
 have hr:=jS hn
 have fB:(n.kids.map fun i=>[GV.v (ii i)]).length=n.kids.length:=by simp
 unfold wv;rw [<-fB];unfold ay ints at hr;generalize (n.kids.map fun i=>[GV.v (ii i)])=kk at *
 cases I:(n.kind==4)
 all_goals cases M:(n.s==[115,105,122,101])
 all_goals
  refine ah func179 ntmps179 ?_;exact al
theorem YE (p:Src) (s:ae) (hn:p.fns.length<=1099511627776):GF prog 255 [.agg (ar p),.v (sv s)] [] (.v (ii (nm p s))) []:=by
 have hF:=OM p s hn;unfold nm qM sc iv
 cases I:(s==[103,101,116]) with
 | true =>
  rw [ab zfU];exact zeG
 | false =>
  rw [F zfU]
  cases M:(s==[112,117,116]) with
  | true =>
   rw [ab (.inl zf6)];exact zeG
  | false =>
   cases h3:(s==[115,105,122,101]) with
   | true =>
    rw [ab (.inr (by simpa using h3))];exact zeG
   | false =>
    rw [F (by simpa using And.intro (show ¬ s=[112,117,116] by simpa using M) (show ¬ s=[115,105,122,101] by simpa using h3))];unfold dm at hF
    cases hx:p.fns.findIdx? (fun f:Go.Sp.Fn=>f.name==s) with
    | none =>
     rw [hx] at hF
     have hd:decide ((0:Int) <= -1)=false:=by decide
     exact zfH
    | some i =>
     rw [hx] at hF;have hi:i < p.fns.length:=(List.findIdx?_eq_some_iff_getElem.1 hx).1;obtain ⟨f,hf⟩:∃ f,p.fns[i]?=some f:=⟨p.fns[i],by simp [hi]⟩
     have hr:(p.fns.map au)[i]?=some (au f):=by rw [aS,hf];rfl
     have cW:(f.params.map fun s=>[GV.v (sv s)]).length=f.params.length:=by simp
     have hd:decide ((0:Int)<=((i:Nat):Int))=true:=by simp
     unfold au at hr;simp only at hF |-;unfold nE;rw [hf];simp only;rw [<-cW];exact zfH
open Go.Xp (c6 bh)
theorem KY {p:Src} {a:Nat} {n:Nd} {l:List T} (bW:eC p.nodes a (.mk n l)):dv (.mk n l)=wv n:=by
 rw [eC] at bW;unfold dv wv iv
 congr 1
 rw [bW.2.1,c6]
 exact Bool.eq_iff_iff.2 (by
  show ((l.length==1)=true)↔_
  simp only [beq_iff_eq];omega)
theorem Jr (p:Src) (a:Nat) (n:Nd) (l:List T) (ls:List ae) (bW:eC p.nodes a (.mk n l)) (kc:p.fns.length<=1099511627776) (kX:p.arrays.length<=1099511627776) (iH:ls.length<=1099511627776) :
  GF prog 222 [.agg (ar p),.v (ii (a:Nat)),strs ls] [] (.v (ii (eE p (.mk n l) ls))) []:=by
 have hs:=KY bW;rw [eC] at bW;obtain ⟨hn,hk,lF⟩:=bW;have hS:=Ds p a n hn;have hr:=jS hn
 have fB:(n.kids.map fun i=>[GV.v (ii i)]).length=l.length:=by rw [bV,hk,c6]
 unfold eE;rw [hs]
 cases hz:wv n with
 | true =>
  rw [hz] at hS;rw [ab rfl]
  have fK:l.length=1:=by
   exact zen
  obtain ⟨u,rfl⟩:∃ u,l=[u]:=by
   match l,fK with
   | [u],_=>exact ⟨u,rfl⟩
  have hm:p.nodes[a+1]?=some u.n:=by
   rw [dX] at lF;have:=lF.1
   cases u;rw [eC] at this;exact this.1
  have BE:n.kids[0]?=some (((a+1:Nat)):Int):=by rw [hk];rfl
  have tW:=kE BE;have jj:=jS hm;show GF _ _ _ _ (.v (ii (if fV p u.n ls=true then 24 else 0))) _;generalize u.n=m at *;have hA:=E8 p m.s kX;have hL:=kh ls m.s iH;have hb:fV p m ls=((m.kind != 2 || decide (dm (fun x:Ar=>x.name==m.s) p.arrays < 0)) || ls.contains m.s):=rfl;rw [hb];generalize dm (fun x:Ar=>x.name==m.s) p.arrays=z at *;unfold ay at hr jj
  cases I:(m.kind != 2) with
  | true =>
   refine ah func222 ntmps222 ?_;refine zeX ?_;exact zcD
  | false =>
   cases M:decide (z < 0) with
   | true =>
    refine ah func222 ntmps222 ?_;refine zeX ?_;refine bo ?_;refine V [] hA ?_;exact al
   | false =>
    generalize ls.contains m.s=b at *;cases b
    all_goals
     refine ah func222 ntmps222 ?_;refine zeX ?_;refine bo ?_;refine V [] hA ?_;refine V [] hL ?_;exact al
 | false =>
  rw [hz] at hS;rw [F aP];have hM:=YE p n.s kc;show GF _ _ _ _ (.v (ii (if nm p n.s = -1 then 22 else if nm p n.s=(l.length:Int) then 0 else 23))) _;generalize nm p n.s=z at *;rw [<-fB];unfold ay at hr;unfold ints at hr;generalize (n.kids.map fun i=>[GV.v (ii i)])=kk at *
  cases I:(z == -1) with
  | true =>
   rw [ab zfU];exact zb5
  | false =>
   rw [F zfU]
   cases M:(z==(kk.length:Int)) with
   | true =>
    rw [ab zf6];exact zb5
   | false =>
    rw [F zf6];exact zb5
theorem JM (p:Src) (a:Nat) (n:Nd) (l:List T) (ls:List ae) (bW:eC p.nodes a (.mk n l)) (kc:p.fns.length<=1099511627776) (kX:p.arrays.length<=1099511627776) (mq:p.globals.length<=1099511627776) (iH:ls.length<=1099511627776) :
  GF prog 180 [.agg (ar p),.v (ii (a:Nat)),strs ls] [] (.v (ii (b6 p (.mk n l) ls))) []:=by
 have hC:=Jr p a n l ls bW kc kX iH
 have hn:p.nodes[a]?=some n:=by rw [eC] at bW;exact bW.1
 clear bW;have hr:=jS hn;have hL:=kh ls n.s iH;have hG:=kh p.globals n.s mq;have hA:=E8 p n.s kX
 have nB:(ls.map fun s=>[GV.v (sv s)]).length=ls.length:=by simp
 have he:b6 p (.mk n l) ls=(if n.kind=13 then (if ls.contains n.s=true then 21 else if ls.length>=40 then 26 else 0)
  else if n.kind=2\/n.kind=7 then (if ls.contains n.s=false/\p.globals.contains n.s=false then 22 else 0)
  else if n.kind=3\/n.kind=8 then (if ls.contains n.s=true\/dm (fun x:Ar=>x.name==n.s) p.arrays < 0 then 24 else 0)
  else if n.kind=4 then eE p (.mk n l) ls else 0):=rfl
 rw [he];generalize eE p (.mk n l) ls=cf at *;obtain ⟨kd,at_,nn,s,ks⟩:=n;simp only at *;unfold ay at hr;simp only at hr;generalize dm (fun x:Ar=>x.name==s) p.arrays=z at *;generalize ls.contains s=b at *;generalize p.globals.contains s=g at *;rw [<-nB]
 by_cases fv:kd=13
 ·subst fv
  have Lw:((13:Int)==13)=true:=by decide
  rw [ab rfl]
  cases b with
  | true =>
   exact zav
  | false =>
   cases h4:decide ((40:Int)<=(((ls.map fun s=>[GV.v (sv s)]).length:Nat):Int)) with
   | true =>
    rw [F aP,ab (by simp at h4;omega)];exact zav
   | false =>
    rw [F aP,F (by simp at h4;omega)];exact zav
 rw [F fv]
 by_cases M:kd=2
 ·subst M
  have Lw:((2:Int)==13)=false:=by decide
  have q2:((2:Int)==2)=true:=by decide
  rw [ab aP]
  cases b with
  | true =>
   exact zav
  | false =>
   cases g
   all_goals
    exact zd8
 by_cases h7:kd=7
 ·subst h7
  have Lw:((7:Int)==13)=false:=by decide
  have q2:((7:Int)==2)=false:=by decide
  have q7:((7:Int)==7)=true:=by decide
  rw [ab aP]
  cases b with
  | true =>
   exact zav
  | false =>
   cases g
   all_goals
    exact zd8
 rw [F (by rintro (h | h);(· exact M h);exact h7 h)]
 by_cases h3:kd=3
 ·subst h3
  have Lw:((3:Int)==13)=false:=by decide
  have q2:((3:Int)==2)=false:=by decide
  have q7:((3:Int)==7)=false:=by decide
  have q3:((3:Int)==3)=true:=by decide
  rw [ab aP]
  cases b with
  | true =>
   exact zav
  | false =>
   cases hz:decide (z < 0) with
   | true =>
    rw [ab (.inr (by simpa using hz))];exact za7
   | false =>
    exact zek
 by_cases h8:kd=8
 ·subst h8
  have Lw:((8:Int)==13)=false:=by decide
  have q2:((8:Int)==2)=false:=by decide
  have q7:((8:Int)==7)=false:=by decide
  have q3:((8:Int)==3)=false:=by decide
  have q8:((8:Int)==8)=true:=by decide
  rw [ab aP]
  cases b with
  | true =>
   exact zav
  | false =>
   cases hz:decide (z < 0) with
   | true =>
    rw [ab (.inr (by simpa using hz))];exact za7
   | false =>
    exact zek
 rw [F (by rintro (h | h);(· exact h3 h);exact h8 h)]
 by_cases h4:kd=4
 ·subst h4
  have Lw:((4:Int)==13)=false:=by decide
  have q2:((4:Int)==2)=false:=by decide
  have q7:((4:Int)==7)=false:=by decide
  have q3:((4:Int)==3)=false:=by decide
  have q8:((4:Int)==8)=false:=by decide
  have q4:((4:Int)==4)=true:=by decide
  rw [ab rfl];refine ah func180 ntmps180 ?_;refine V [] hL ?_;refine V [] hC ?_;exact al
 rw [F h4]
 have Lw:(kd==13)=false:=by simpa using fv
 have q2:(kd==2)=false:=by simpa using M
 have q7:(kd==7)=false:=by simpa using h7
 have q3:(kd==3)=false:=by simpa using h3
 have q8:(kd==8)=false:=by simpa using h8
 have q4:(kd==4)=false:=by simpa using h4
 exact zav
theorem Xb {K K1:Fz} {β:Bt} {v:Value} {gs:List GV} (hk:cV K K1) (hp:∀ g∈gs,g.pc=true) (h:Rel K β v (.agg gs)):Rel K1 (fun _=>.no) v (.agg gs):=by
 cases h with
 | agg vs cs hl h =>
  exact zdm
theorem Mn (p:Src):∀ g∈ar p,g.pc=true:=fun g hg=>by
 simp only [ar,List.mem_cons,not_mem_nil,or_false] at hg
 rcases hg with rfl | rfl | rfl | rfl <;> rfl
theorem pS {B:Bs} {K:Fz} {β:Bt} {w:World} {l:List Value} {fr:List GV} {A C:List Ob} {p:Src} {x y u:Operand} {E k:Nat} {rows:List (List GV)} {h z:Value} (hI:Inv B K β (A++(.vech E k rows h::C)) w) (hF:FR K β fr l) (hx:be fr x=.agg (ar p)) (hy:be fr y=.v z) (hu:be fr u=.v h) :
  ∃ K1,mK K1 w/\kL K1 (fun _=>.no) w/\bm K1 (fun _=>.no) ([x,y,u].map (ev l)) [.agg (ar p),.v z,.sl k rows]:=by
 obtain ⟨K1,hk,I,M,h3⟩:=hI.view (i:=A.length) (E:=E) (k:=k) (rows:=rows) (x:=h) (by rw [fw (aD _),jx];rfl);have hr:=hF.ev x;rw [hx] at hr;refine ⟨K1,I,M,?_⟩;show bm K1 _ [ev l x,ev l y,ev l u] _;rw [hF.kq hy,hF.kq hu];exact .cons (Xb hk (Mn p) hr) (.cons (.v _) (.cons h3 .nil))
theorem Ww (p:Src) (a:Nat) (n:Nd) (l:List T) (ls:List ae) (c:CS) (E1 E5 E6:TypeId) (ad:Option Addr) (cp:Nat) (bW:eC p.nodes a (.mk n l)) (kc:p.fns.length<=1099511627776) (kX:p.arrays.length<=1099511627776) (mq:p.globals.length<=1099511627776) (iH:ls.length<=1099511627776) :
  GF prog 178 [.v (ii (a:Nat)),.v (.slice ad ls.length cp),.loc 0 0,.loc 1 0,.box (ar p) 0,.loc 2 0] [.box E1 [.v (ii c.code)],.box E5 [.v (ii c.skip)],.box E6 [.v (ii c.place)],.vech 9 1 (bb ls) (.slice ad ls.length cp)] (.tup [])
   [.box E1 [.v (ii (c7 p c a (.mk n l) ls).code)],.box E5 [.v (ii (c7 p c a (.mk n l) ls).skip)],.box E6 [.v (ii (c7 p c a (.mk n l) ls).place)],.vech 9 1 (bb ls) (.slice ad ls.length cp)]:=by
 have hs:=KY bW;have hN:=JM p a n l ls bW kc kX mq iH;rw [eC] at bW;obtain ⟨hn,hk,lF⟩:=bW;have hS:=Ds p a n hn;have hr:=jS hn;obtain ⟨code,place,skip⟩:=c;unfold c7;rw [hs];simp only;generalize b6 p (.mk n l) ls=z at *
 cases I:(code != 0) with
 | true =>
  rw [ab (.inl zfU)];refine ah func178 ntmps178 ?_;exact iO
 | false =>
  cases M:(((a:Nat):Int)==skip) with
  | true =>
   rw [ab (.inr zf6)];refine ah func178 ntmps178 ?_;exact iO
  | false =>
   rw [F (by rintro (h | h);(· simp at I;exact h I);(· simp at M;exact M h))];simp only
   cases hz:wv n with
   | false =>
    rw [hz] at hS;rw [F (show ¬ (false=true) by decide)];unfold ay at hr
    cases h3:(z != 0) with
    | true =>
     exact zeT
    | false =>
     exact ze6
   | true =>
    rw [hz] at hS;rw [ab rfl]
    have fK:l.length=1:=by
     exact zen
    obtain ⟨u,rfl⟩:∃ u,l=[u]:=by
     match l,fK with
     | [u],_=>exact ⟨u,rfl⟩
    have hm:p.nodes[a+1]?=some u.n:=by
     rw [dX] at lF;have:=lF.1
     cases u;rw [eC] at this;exact this.1
    have BE:n.kids[0]?=some (((a+1:Nat)):Int):=by rw [hk];rfl
    have tW:=kE BE;have jj:=jS hm;rw [show n5 (.mk n [u])=u.n from rfl];generalize u.n=m at *;unfold ay at hr jj
    cases h4:(m.kind != 2) with
    | true =>
     rw [ab (show m.kind≠2 by simpa using h4)]
     cases h3:(z != 0) with
     | true =>
      exact zeT
     | false =>
      exact ze6
    | false =>
     rw [F (show ¬ (m.kind≠2) by simpa using h4)]
     cases h3:(z != 0) with
     | true =>
      exact zeT
     | false =>
      exact ze6
open GV (U)
def LP (p:Src):GV:=.fn (.func 178) [] [.loc 0 0,.loc 1 0,.box (ar p) 0,.loc 2 0]
def UX (p:Src):GV:=.fn (.func 97) [] [.loc 3 0,.loc 4 0,.box (ar p) 0,.loc 5 0]
def FX (p:Src) (E1 E5 E6 E2 E3 E4:TypeId) (s:CS) (ls:List ae) (ad:Option Addr) (cp:Nat):List Ob :=
 [.box E1 [.v (ii s.code)],.box E5 [.v (ii s.skip)],.box E6 [.v (ii s.place)],.box E2 [LP p],.box E3 [.v (.slice ad ls.length cp)],.box E4 [UX p],.vech 9 1 (bb ls) (.slice ad ls.length cp)]
theorem TF (p:Src) (E1 E5 E6 E2 E3 E4:TypeId) (hp:p.nodes.length<=1048576) (fB:∀ n∈p.nodes,n.kids.length<=1099511627776) (kc:p.fns.length<=1099511627776) (kX:p.arrays.length<=1099511627776) (mq:p.globals.length<=1099511627776):∀ (N:Nat) (t:T),aJ t<=N->∀ (a:Nat) (s:CS) (ls:List ae) (ad:Option Addr) (cp:Nat),eC p.nodes a t->ls.length+aJ t<=8388608 ->
  GC prog 97 [.v (ii (a:Nat)),.loc 3 0,.loc 4 0,.box (ar p) 0,.loc 5 0] (FX p E1 E5 E6 E2 E3 E4 s ls ad cp) fun g Δ=>g=.tup []/\∃ lz lA,Δ=FX p E1 E5 E6 E2 E3 E4 (iF (c7 p) t a s ls).1 (iF (c7 p) t a s ls).2 lz lA:=by
 intro N
 induction N with
 | zero=>intro t h;exact zcN
 | succ N ih =>
 intro t hN a s ls ad cp bW iH
 cases t with
 | mk n l =>
 rw [Go.Xp.aJ] at hN iH;have Sh:=bW;rw [eC] at bW;obtain ⟨hn,hk,lF⟩:=bW;rw [iF];have hr:=jS hn;have po:=fB n (br hn);have ht:=Ww p a n l ls s E1 E5 E6 ad cp Sh kc kX mq G;generalize iI:(c7 p) s a (.mk n l) ls=s1 at *
 have wu:n.kids.length=l.length:=by rw [hk,c6]
 unfold ay at hr;unfold FX LP UX;refine ah func97 ntmps97 ?_;refine GL.tF [0,1,2,6] ht rfl rfl rfl (by repeat (first | exact trivial | refine ⟨rfl,?_⟩)) ?_;rintro _ _ ⟨rfl,rfl⟩;refine zax ?_;refine GW.range (n.kids.map fun i=>[GV.v (ii i)]).length (fun k fr Γ=>∃ lz lA,fr=[.v (ii (a:Nat)),.loc 3 0,.loc 4 0,.box (ar p) 0,.loc 5 0,U,U,U,U,U,U,U,U,U,U,U,U,ints n.kids,.v (ii ((n.kids.map fun i=>[GV.v (ii i)]).length:Int)),.v (ii (k:Nat)),U,U,U,U,U,U,U,U,U,U,U,U,U,U,U,U,U,U,U,U,U,U,U]/\Γ=FX p E1 E5 E6 E2 E3 E4 (dI (c7 p) (l.take k) (a+1) s1 ls).1 (dI (c7 p) (l.take k) (a+1) s1 ls).2 lz lA) ?_ zgd ?_ ?_ ?_
 ·exact ⟨_,_,Wk.aC ak,ad,cp,rfl,rfl⟩
 ·rintro k _ _ ⟨ad,cp,rfl,rfl⟩;exact dp
 ·rintro k _ _ aj ⟨ad,cp,rfl,rfl⟩;rw [bV,wu] at aj;obtain ⟨u,hu⟩:∃ u,l[k]?=some u:=⟨l[k],by simp [aj]⟩;have gy:=wx (n:=a+1) hu;rw [<-hk] at gy;have uE:=kE gy;have cX:=lN hu;have Pz:eC p.nodes (a+1+az (l.take k)) u:=dX.ix l (a+1) k u lF hu
  have hlen:(dI (c7 p) (l.take k) (a+1) s1 ls).2.length<=ls.length+az (l.take k):=by
   exact ze7
  rw [B9 _ hu];generalize (dI (c7 p) (l.take k) (a+1) s1 ls).1=s2 at *;generalize (dI (c7 p) (l.take k) (a+1) s1 ls).2=jl at *;have hv:=ih u G (a+1+az (l.take k)) s2 jl ad cp Pz G;unfold FX LP UX at hv |-;refine D ?_;refine GL.tF [0,1,2,3,4,5,6] hv rfl rfl rfl (by repeat (first | exact trivial | refine ⟨rfl,?_⟩)) ?_;rintro _ _ ⟨rfl,lz,lA,rfl⟩;refine zax ?_;exact ⟨rfl,rfl,_,_,Wk.aC ak,lz,lA,rfl,rfl⟩
 ·rintro _ _ ⟨ad,cp,rfl,rfl⟩;rw [bV,wu,bH]
  have hlen:(dI (c7 p) l (a+1) s1 ls).2.length<=ls.length+az l:=by
   rw [pe,aM];have:=lr l;omega
  generalize (dI (c7 p) l (a+1) s1 ls).1=s2 at *;generalize (dI (c7 p) l (a+1) s1 ls).2=jl at *;have KH:(bb jl).length=jl.length:=p9 jl;unfold FX LP UX;refine aY ?_
  cases hv:(n.kind==13) with
  | false =>
   rw [F zfZ];refine D ?_;refine cM ?_;exact ⟨rfl,ad,cp,rfl⟩
  | true =>
   refine zbG ?_;refine OA rfl rfl (GL.qP 6 (news:=[[.v (sv n.s)]]) rfl rfl rfl bc rfl rfl (by refine ⟨?_,?_⟩;(· show _+1<=_;omega);(· show (_+1) * _<=_;omega)) ?_);intro o0 o9;refine zbh ?_;refine cM ?_;exact ⟨rfl,o0,o9,by simp [bb]⟩
theorem Vp (p:Src) (E1 E5 E6:TypeId) (i:Nat) (f:Go.Sp.Fn) (t:T) (s:CS) (hp:p.nodes.length<=1048576) (fB:∀ n∈p.nodes,n.kids.length<=1099511627776) (kc:p.fns.length<=1099511627776) (kX:p.arrays.length<=1099511627776) (mq:p.globals.length<=1099511627776)
  (hf:p.fns[i]?=some f) (uq:f.params.length<=1048576) (hb:0<=f.body) (bW:eC p.nodes f.body.toNat t) (cX:aJ t<=1048576) :
  GF prog 44 [.agg (ar p),.v (ii (i:Nat)),LP p] [.box E1 [.v (ii s.code)],.box E5 [.v (ii s.skip)],.box E6 [.v (ii s.place)]] (.tup []) [.box E1 [.v (ii (iF (c7 p) t f.body.toNat s f.params).1.code)],.box E5 [.v (ii (iF (c7 p) t f.body.toNat s f.params).1.skip)],.box E6 [.v (ii (iF (c7 p) t f.body.toNat s f.params).1.place)]]:=by
 have hr:(p.fns.map au)[i]?=some (au f):=by rw [aS,hf];rfl
 have cW:(f.params.map fun s=>[GV.v (sv s)]).length=f.params.length:=by simp
 have eW:=pC f.params;obtain ⟨b,wm⟩:∃ b:Nat,f.body=(b:Int):=⟨f.body.toNat,by omega⟩;rw [wm,lk] at bW |-;unfold au at hr;rw [wm] at hr;unfold LP;refine c8 func44 ntmps44 ?_;refine jY ?_;refine GL.wk (Wk.freeze (i:=3) rfl rfl rfl (aD _)) ?_;refine GN (by simp only [pg,oH];rfl) ?_;refine GL.wk (Wk.aC (cy:=[U,.v (ii (i:Nat)),U,.box (ar p) 0,U,.loc 4 0,U,U,U,U,U,U,U,strs f.params,U,U,U,U,U,U,U,U,U,U]) ak) ?_;refine GL.wk (Wk.iN 9 1) ?_;refine GL.vZ 5 rfl rfl rfl rfl eW (by refine ⟨?_,?_⟩;(· rw [cW];omega);(· rw [cW];omega)) ?_;intro ad cp;rw [cW];refine zaS ?_;refine GW.G6 (cy:=[U,.v (ii (i:Nat)),U,.box (ar p) 0,U,.loc 4 0,.loc 6 0,.loc 7 0,U,U,U,U,U,U,U,U,U,U,U,U,U,U,U,U]) (aR:=[.box E1 [.v (ii s.code)],.box E5 [.v (ii s.skip)],.box E6 [.v (ii s.place)],.gone,.box _ [.fn (.func 178) [] [.loc 0 0,.loc 1 0,.box (ar p) 0,.loc 2 0]],.vech 9 1 (bb f.params) (.slice ad f.params.length cp),.box _ [.v (.slice ad f.params.length cp)],.box _ [.fn (.func 97) [] [.loc 4 0,.loc 6 0,.box (ar p) 0,.loc 7 0]]]) ak rfl ?_;refine aL (aE 0 7 (.a 7 .nil)) ?_;refine ao ?_;have hv:=TF p E1 E5 E6;refine OA rfl rfl (GL.tF [0,1,2,4,6,7,5] (hv _ _ _ hp fB kc kX mq _ t (aD _) b s f.params ad cp bW G) rfl rfl rfl (by repeat (first | exact trivial | refine ⟨rfl,?_⟩)) ?_);rintro _ _ ⟨rfl,lz,lA,rfl⟩;refine ⟨by simp [FX],?_⟩;unfold FX;refine zfr ?_;exact od
end Go.Xg
namespace Go.Im
open Go.Xp Go.Sp
theorem Kh {l:List ae}:wW l=false↔∀ k,k < l.length->pU l k=false:=by
 unfold wW;rw [any_eq_false];constructor
 ·intro h k hk;have:=h k (List.mem_range.2 hk);exact zb8
 ·intro h k hk;rw [h k (List.mem_range.1 hk)];decide
theorem uH {l:List Ar} {k:Nat} {a:Ar} (h:l[k]?=some a):eF (l.take (k+1))=eF (l.take k)+a.size:=by
 unfold eF;exact zd0
theorem wV {l:List Ar} (h:∀ a∈l,0<=a.size/\a.size<=2147483648):∀ k,0<=eF (l.take k)/\eF (l.take k)<=(k:Int) * 2147483648:=by
 intro k
 induction k with
 | zero=>simp [eF]
 | succ k ih =>
  cases hx:l[k]? with
  | none =>
   have:l.take (k+1)=l.take k:=by rw [bS,hx];simp
   rw [this];omega
  | some a =>
   have:=h a (br hx);rw [uH hx];omega
theorem D0 {l:List ae}:fi l=false↔∀ k,k < l.length->ma l k=false:=by
 unfold fi;rw [any_eq_false];constructor
 ·intro h k hk;have:=h k (List.mem_range.2 hk);exact zb8
 ·intro h k hk;rw [h k (List.mem_range.1 hk)];decide
theorem Hf (p:Src) (l:List T) (a:Nat):gI p [] l a=(0,0):=by unfold gI;rfl
end Go.Im
namespace Go.Xg
open Go.RowKit Go.Xw Go.Proofs Tryz Go.Im
open GV (U)
open Go.Xp (Nd T Ar aJ az c6)
open Go.Sp (Src)
theorem YG.Gt {P:Program} {fr:List GV} {Γ:List Ob} {x up:Operand} {t e:TypeId} {k:Nat} [hT:oP P t e k] {rows:List (List GV)} {kk:IntKind} {i:Nat} (hx:be fr x=.sl k rows) (hup:be fr up=.v (.int kk i)) (hi:i < rows.length):YG P (.slice t x none (some up) none) fr Γ (.sl k (rows.take i)):=fun B K β w l hI hF=>by
 have h:=hF.ev x;rw [hx] at h;have KJ:=hF.kq hup;generalize hv:ev l x=v at h
 cases h with
 | sl0 a c=>simp at hi
 | sl b o c _ _ h hc =>
  refine ⟨.slice (some ⟨b,o,none⟩) i c,fun d ty pos af=>?_,?_⟩
  ·have qf:¬ (c=0):=by omega
   have hle:(i:Int)<=(c:Int):=by omega
   have Ck:i<=c:=by omega
   simp [execOp,Instr.sliceAt,Instr.slice,Instr.sliceBounds,Instr.sliceBound,asIntOf,hv,KJ,run_underlying hT.und,kj hT.siz,qf,hle,Ck,rM]
  ·have:=Rel.sl (K:=K) (β:=β) b o c k (rows.take i) (fun j r hr=>?_) zgb
   ·rw [du,Nat.min_eq_left (Nat.le_of_lt hi)] at this;exact this
   ·have hj:j < i:=by
     rcases Nat.lt_or_ge j i with I | I
     ·exact I
     ·rw [getElem?_eq_none zf1] at hr;cases hr
    rw [List.getElem?_take,ab hj] at hr;exact h j r hr
attribute [local irreducible] GW GL GO YG GC GA aW aZ
theorem ON (p:Src) (i:Nat) (f:Go.Sp.Fn) (t:T) (hp:p.nodes.length<=1048576) (fB:∀ n∈p.nodes,n.kids.length<=1099511627776) (kc:p.fns.length<=1099511627776) (kX:p.arrays.length<=1099511627776) (mq:p.globals.length<=1099511627776)
  (hf:p.fns[i]?=some f) (uq:f.params.length<=1048576) (hb:0<=f.body) (bW:eC p.nodes f.body.toNat t) (cX:aJ t<=1048576) :
  GF prog 142 [.agg (ar p),.v (ii (i:Nat))] [] (.tup [.v (ii (gH p f t f.body.toNat).1),.v (ii (gH p f t f.body.toNat).2)]) []:=by
 have hr:(p.fns.map au)[i]?=some (au f):=by rw [aS,hf];rfl
 have eU:(f.params.map fun s=>[GV.v (sv s)]).length=f.params.length:=by simp
 have hE:=Vp p 3 3 3 i f t ⟨0,0,-1⟩ hp fB kc kX mq hf uq hb bW cX;unfold au at hr;unfold gH;refine ah func142 ntmps142 ?_;refine GW.range (f.params.map fun s=>[GV.v (sv s)]).length (fun k fr Γ=>fr=[U,.v (ii (i:Nat)),.loc 0 0,U,U,U,strs f.params,U,U,U,U,U,U,U,U,U,U,U,strs f.params,.v (ii ((f.params.map fun s=>[GV.v (sv s)]).length:Int)),.v (ii (k:Nat)),U,U,U,U,U,U,U,U,U,U,U,U,U,U,U,U]/\Γ=[.box 33 (ar p)]/\∀ j,j < k->pU f.params j=false) ?_ G ?_ ?_ ?_
 ·exact zeh
 ·exact jd
 ·rintro k _ _ aj ⟨rfl,rfl,ba⟩;have oI:=aj;rw [eU] at aj;obtain ⟨x,hx⟩:∃ x,f.params[k]?=some x:=⟨f.params[k],by simp [aj]⟩
  have KO:(f.params.map fun s=>[GV.v (sv s)])[k]?=some [.v (sv x)]:=by rw [aS,hx];rfl
  have hC:=kh (f.params.take k) x zf1
  have hd:pU f.params k=(f.params.take k).contains x:=by unfold pU;rw [hx]
  rw [<-hd] at hC;unfold strs at hC;rw [map_take] at hC
  cases fJ:pU f.params k with
  | true =>
   rw [fJ] at hC
   have XP:wW f.params=true:=by
    cases h:wW f.params with
    | true=>rfl
    | false=>rw [Kh.1 h k aj] at fJ;cases fJ
   rw [ab XP];refine D ?_;refine zcb ?_;exact oe
  | false =>
   rw [fJ] at hC;refine D ?_;refine zcb ?_
   exact ⟨rfl,rfl,_,_,Wk.aC ak,rfl,rfl,fun j hj=>by
    rcases Nat.lt_succ_iff_lt_or_eq.1 hj with h | rfl
    ·exact ba j h
    ·exact fJ⟩
 ·rintro _ _ ⟨rfl,rfl,ba⟩;rw [eU] at ba;rw [F (by rw [Kh.2 ba];decide)];refine aY ?_;refine GW.wk (Wk.freeze (i:=0) rfl rfl rfl (aO _)) ?_;refine GW.G6 (cy:=[U,.v (ii (i:Nat)),.box (ar p) 0,U,U,U,U,U,U,U,U,U,U,U,U,U,U,U,U,U,U,U,U,U,U,U,U,U,U,U,U,U,U,U,U,U,U]) (aR:=[.gone]) ak rfl ?_;refine D ?_;refine V [1,3,2] hE ?_;refine aL (aE 0 4 .nil) ?_;refine ao ?_;exact q9
theorem QX (p:Src) (kc:p.fns.length<=1099511627776) (kX:p.arrays.length<=1048576) (cX:∀ a∈p.arrays,0<=a.size/\a.size<=2147483648):GF prog 139 [.agg (ar p)] [] (.v (.bool (jW p))) []:=by
 have eU:(p.arrays.map aB).length=p.arrays.length:=by simp
 have iG:(p.fns.map au).length=p.fns.length:=by simp
 have mq:(p.globals.map fun s=>[GV.v (sv s)]).length=p.globals.length:=by simp
 have hC:=vU (rh:=177) (fun x=>decide (x.params.length > 40)) p.fns kc (fun x _=>NA x);unfold jW;generalize p.fns.any (fun x=>decide (x.params.length > 40))=b4 at *;have hb:=wV cX;refine ah func139 ntmps139 ?_;refine GW.range (p.arrays.map aB).length (fun k fr Γ=>fr=[U,.loc 0 0,U,.v (ii (eF (p.arrays.take k))),U,U,U,.sl 2 (p.arrays.map aB),.v (ii ((p.arrays.map aB).length:Int)),.v (ii (k:Nat)),U,U,U,U,U,U,U,U,U,U,U,U,U,U,U,U,U,U,U,U,U,U,U,U,U,U,U,U,U,U]/\Γ=[.box 33 (ar p)]/\(p.arrays.take k).all (fun a=>!(a.size==0))=true) ?_ G ?_ ?_ ?_
 ·exact lj
 ·exact jd
 ·rintro k _ _ aj ⟨rfl,rfl,ba⟩;rw [eU] at aj;obtain ⟨x,hx⟩:∃ x,p.arrays[k]?=some x:=⟨p.arrays[k],by simp [aj]⟩
  have hr:(p.arrays.map aB)[k]?=some (aB x):=by rw [aS,hx];rfl
  have bR:=nV (f:=fun a:Ar=>a.size==0) hx;have jF:=uH hx;have eT:=hb k;have rv:=cX x (br hx);unfold aB at hr
  cases I:(x.size==0) with
  | true =>
   have:p.arrays.any (fun a=>a.size==0)=true:=qc.2 ⟨x,br hx,I⟩;rw [this];exact ax
  | false =>
   rw [jF];generalize eF (p.arrays.take k)=c at *;refine D ?_;exact ⟨rfl,rfl,_,_,(Wk.cut (n:=1) (aO _) rfl).trans (Wk.aC ak),rfl,rfl,by rw [bR,ba,I];rfl⟩
 ·rintro _ _ ⟨rfl,rfl,ba⟩;rw [eU,bH] at ba |-
  have:p.arrays.any (fun a=>a.size==0)=false:=by
   rw [any_eq_false];rw [gU] at ba;intro x hx;simpa using ba x hx
  rw [this];have e1:decide (p.fns.length > 40)=decide ((40:Int) < ((p.fns.map au).length:Int)):=decide_eq_decide.2 (by rw [iG];omega);have e2:decide (p.globals.length > 29)=decide ((29:Int) < ((p.globals.map fun s=>[GV.v (sv s)]).length:Int)):=decide_eq_decide.2 (by rw [mq];omega);have e3:decide (eF p.arrays > 8000)=decide ((8000:Int) < eF p.arrays):=rfl;rw [e1,e2,e3];generalize eF p.arrays=c at *;refine aY ?_
  cases I:decide ((40:Int) < ((p.fns.map au).length:Int))
  all_goals cases M:decide ((29:Int) < ((p.globals.map fun s=>[GV.v (sv s)]).length:Int))
  all_goals cases h3:decide ((8000:Int) < c)
  all_goals
   refine D ?_
   first
    | (refine cH ?_;exact ⟨rfl,rfl⟩)
    | (refine iq [] hC ?_;refine D ?_;refine cH ?_;exact ⟨rfl,rfl⟩)
theorem NI (p:Src) (hF:GF prog 63 [.agg (ar p)] [] (.v (.bool false)) []):GF prog 89 [.agg (ar p)] [] (.tup [.v (ii 20),.v (ii 0)]) []:=by
 refine ah func89 ntmps89 ?_;refine V [] hF ?_;exact oe
theorem L3 (p:Src) (l:List T) (ns:List ae) (Di:ns.length<=8388608) (iG:p.fns.length=l.length) (kc:p.fns.length<=1048576)
  (hF:GF prog 63 [.agg (ar p)] [] (.v (.bool true)) [])
  (hA:GC prog 38 [.agg (ar p)] [] fun g Δ=>∃ a c,g=.v (.slice a ns.length c)/\Δ=[.vech 9 1 (bb ns) (.slice a ns.length c)])
  (hT:GF prog 139 [.agg (ar p)] [] (.v (.bool (jW p))) [])
  (hq:∀ i f t,p.fns[i]?=some f->l[i]?=some t->GF prog 142 [.agg (ar p),.v (ii (i:Nat))] [] (.tup [.v (ii (gH p f t (az (l.take i))).1),.v (ii (gH p f t (az (l.take i))).2)]) []) :
  GF prog 89 [.agg (ar p)] []
   (.tup [.v (ii (if fi ns=true then ((21,0):Int × Int) else if jW p=true then (26,0) else if p.fns.any oA=false then (25,0) else gI p p.fns l 0).1),.v (ii (if fi ns=true then ((21,0):Int × Int) else if jW p=true then (26,0) else if p.fns.any oA=false then (25,0) else gI p p.fns l 0).2)]) []:=by
 have eU:(ns.map fun s=>[GV.v (sv s)]).length=ns.length:=by simp
 have zO:(p.fns.map au).length=p.fns.length:=by simp
 have hM:=vU (rh:=141) oA p.fns G (fun x _=>Rm x);generalize jW p=tm at *;refine ah func89 ntmps89 ?_;refine V [] hF ?_;refine bP [] hA ?_;rintro _ _ ⟨ad,cp,rfl,rfl⟩;refine cI ?_;refine GL.wk (Wk.oW (t:=14) (i:=1) rfl rfl rfl) ?_;refine GL.wk (Wk.cut (n:=1) (aO _) rfl) ?_;refine GL.wk (Wk.aC (cy:=[U,.loc 0 0,U,U,U,U,U,U,U,U,U,U,U,U,strs ns,U,U,U,U,U,U,U,U,U,U,U,U,U,U,U,U,U,U,U,U,U,U,U,U,U,U,U,U,U,U,U,U,U,U,U,U,U,U,U,U]) ak) ?_;refine zaW ?_;refine GW.range (ns.map fun s=>[GV.v (sv s)]).length (fun k fr Γ=>fr=[U,.loc 0 0,U,U,strs ns,U,U,U,U,U,U,U,U,U,U,strs ns,.v (ii ((ns.map fun s=>[GV.v (sv s)]).length:Int)),.v (ii (k:Nat)),U,U,U,U,U,U,U,U,U,U,U,U,U,U,U,U,U,U,U,U,U,U,U,U,U,U,U,U,U,U,U,U,U,U,U,U,U]/\Γ=[.box 33 (ar p)]/\∀ j,j < k->ma ns j=false) ?_ G ?_ ?_ ?_
 ·exact zeh
 ·exact jd
 ·rintro k _ _ aj ⟨rfl,rfl,ba⟩;have oI:=aj;rw [eU] at aj;obtain ⟨x,hx⟩:∃ x,ns[k]?=some x:=⟨ns[k],by simp [aj]⟩
  have KO:(ns.map fun s=>[GV.v (sv s)])[k]?=some [.v (sv x)]:=by rw [aS,hx];rfl
  have hR:=PT x;have hC:=kh (ns.take k) x zf1
  have hd:ma ns k=(nZ x || (ns.take k).contains x):=by unfold ma;rw [hx]
  unfold strs at hC;rw [map_take] at hC
  cases I:nZ x with
  | true =>
   rw [I] at hR hd
   have wm:fi ns=true:=by
    cases h:fi ns with
    | true=>rfl
    | false=>rw [D0.1 h k aj] at hd;simp at hd
   rw [ab wm];refine D ?_;refine V [] hR ?_;exact oe
  | false =>
   rw [I] at hR hd
   cases fJ:(ns.take k).contains x with
   | true =>
    rw [fJ] at hC hd
    have wm:fi ns=true:=by
     cases h:fi ns with
     | true=>rfl
     | false=>rw [D0.1 h k aj] at hd;simp at hd
    rw [ab wm];refine D ?_;refine V [] hR ?_;refine zcb ?_;exact oe
   | false =>
    rw [fJ] at hC hd;refine D ?_;refine V [] hR ?_;refine zcb ?_
    exact ⟨rfl,rfl,_,_,Wk.aC ak,rfl,rfl,fun j hj=>by
     rcases Nat.lt_succ_iff_lt_or_eq.1 hj with h | rfl
     ·exact ba j h
     ·exact hd⟩
 ·rintro _ _ ⟨rfl,rfl,ba⟩;rw [eU] at ba;rw [F (show ¬ fi ns=true by rw [D0.2 ba];decide)];refine aY ?_
  cases tm with
  | true =>
   rw [ab rfl];refine D ?_;refine V [] hT ?_;exact oe
  | false =>
   rw [F aP]
   cases hmn:p.fns.any oA with
   | false =>
    rw [hmn] at hM;rw [ab rfl];refine D ?_;refine V [] hT ?_;refine V [] hM ?_;exact oe
   | true =>
    rw [hmn] at hM;rw [F aP];refine D ?_;refine V [] hT ?_;refine V [] hM ?_;refine GW.range (p.fns.map au).length (fun k fr Γ=>fr=[U,.loc 0 0,U,U,U,U,U,U,U,U,U,U,U,U,U,U,U,U,U,U,U,U,U,U,U,U,U,U,U,U,U,U,U,U,U,U,U,U,U,.sl 3 (p.fns.map au),.v (ii ((p.fns.map au).length:Int)),.v (ii (k:Nat)),U,U,U,U,U,U,U,U,U,U,U,U,U]/\Γ=[.box 33 (ar p)]/\gI p p.fns l 0=gI p (p.fns.drop k) (l.drop k) (az (l.take k))) ?_ G ?_ ?_ ?_
    ·exact ⟨_,_,Wk.aC ak,rfl,rfl,by rw [List.drop_zero,List.drop_zero,take_zero,az]⟩
    ·exact jd
    ·rintro k _ _ aj ⟨rfl,rfl,he⟩;rw [zO] at aj;obtain ⟨f,hf⟩:∃ f,p.fns[k]?=some f:=⟨p.fns[k],by simp [aj]⟩;obtain ⟨t,ht⟩:∃ t,l[k]?=some t:=⟨l[k]'G,dq _⟩;have hQ:=hq k f t hf ht
     have Pg:p.fns.drop k=f::p.fns.drop (k+1):=by rw [lT aj];rw [dq aj] at hf;rw [DU hf]
     have dW:l.drop k=t::l.drop (k+1):=by rw [lT G];rw [dq G] at ht;rw [DU ht]
     rw [Pg,dW,gI,<-Tq ht] at he
     cases I:((gH p f t (az (l.take k))).1 != 0) with
     | true =>
      rw [ab zfU] at he;rw [he];generalize gH p f t (az (l.take k))=r at *;refine D ?_;refine V [] hQ ?_;exact oe
     | false =>
      rw [F zfU] at he;generalize gH p f t (az (l.take k))=r at *;refine D ?_;refine V [] hQ ?_;exact ⟨rfl,rfl,_,_,Wk.aC ak,rfl,rfl,he⟩
    ·rintro _ _ ⟨rfl,rfl,he⟩;rw [zO,List.drop_length,Hf] at he;rw [he];refine aY ?_;exact q9
theorem O4 (p:Src) (c z:Int) (h:GF prog 89 [.agg (ar p)] [] (.tup [.v (ii c),.v (ii z)]) []):GF prog 35 [.agg (ar p)] [] (.v (.bool (c==0))) []:=by
 refine ah func35 ntmps35 ?_;exact zbb
theorem VI (p:Src) (fn:Int) (w g:Bool) (kc:p.fns.length<=1048576) (hg:GF prog 35 [.agg (ar p)] [] (.v (.bool g)) [])
  (hW:GF prog 130 [.v (ii fn),.v (ii 0),.v (ii (((p.fns.map au).length:Int) - 1))] [] (.v (.bool w)) []):GF prog 72 [.agg (ar p),.v (ii fn)] [] (.v (.bool (w&&g))) []:=by
 have zO:(p.fns.map au).length=p.fns.length:=by simp
 cases w with
 | false =>
  refine ah func72 ntmps72 ?_;refine V [] hW ?_;exact al
 | true =>
  refine ah func72 ntmps72 ?_;refine V [] hW ?_;exact zfh
end Go.Xg
set_option maxHeartbeats 2000000
namespace Go.Xg
open Go.RowKit Go.Xw Go.Proofs Tryz Go.Im
open GV (U)
open Go.Xp (Nd T Ar)
open Go.Sp (Src)
attribute [local irreducible] GW GL GO YG GC GA aW aZ
def cC (p:Src) (h:Value) (c:SS):List GV:=[strs p.globals,.sl 2 (p.arrays.map aB),.sl 3 (p.fns.map au),.sl 5 (p.nodes.map ay),.v h,.v (ii c.code),.v (ii c.at_)]
theorem jH (p:Src) (h:Value) (c:SS) (k z:Int):GF prog 154 [.loc 0 0,.v (ii k),.v (ii z)] [.box 126 (cC p h c)] (.tup []) [.box 126 (cC p h (c.fail k z))]:=by
 unfold SS.fail
 cases hc:(c.code==0) with
 | true =>
  rw [ab zf7];unfold cC;refine ah func154 ntmps154 ?_;exact iO
 | false =>
  rw [F zf7];unfold cC;refine ah func154 ntmps154 ?_;exact iO
theorem MS (s:ae):GF prog 23 [.v (sv s)] [] (.v (.bool (nZ s))) []:=by
 unfold nZ qM sc iv
 cases I:(s==[103,101,116])
 all_goals cases M:(s==[112,117,116])
 all_goals
  refine ah func23 ntmps23 ?_;exact al
theorem Dy (p:Src) (s:ae) (hn:p.arrays.length<=1099511627776):GF prog 81 [.agg (ar p),.v (sv s)] [] (.v (ii (dm (fun x:Ar=>x.name==s) p.arrays))) []:=by
 have eU:(p.arrays.map aB).length=p.arrays.length:=by simp
 refine ah func81 ntmps81 ?_;refine GW.range (p.arrays.map aB).length (fun k fr Γ=>fr=[U,.v (sv s),.loc 0 0,U,U,U,U,U,.sl 2 (p.arrays.map aB),.v (ii ((p.arrays.map aB).length:Int)),.v (ii (k:Nat)),U,U,U,U,U,U,U,U,U,U]/\Γ=[.box 33 (ar p)]/\(p.arrays.take k).all (fun y=>!(y.name==s))=true) ?_ G ?_ ?_ ?_
 ·exact lj
 ·exact jd
 ·rintro k _ _ aj ⟨rfl,rfl,ba⟩;rw [eU] at aj;obtain ⟨x,dA⟩:∃ x,p.arrays[k]?=some x:=⟨p.arrays[k],by simp [aj]⟩
  have hr:(p.arrays.map aB)[k]?=some (aB x):=by rw [aS,dA];rfl
  have bR:=nV (f:=fun y:Ar=>y.name==s) dA
  have hit:=fun h0=>nY (f:=fun y:Ar=>y.name==s) dA h0 ba
  unfold aB at hr
  cases hb:(x.name==s) with
  | true =>
   rw [hit hb];exact ax
  | false =>
   exact zcL
 ·rintro _ _ ⟨rfl,rfl,ba⟩;exact zbC
theorem En (p:Src) (s:ae) (hn:p.fns.length<=1099511627776):GF prog 82 [.agg (ar p),.v (sv s)] [] (.v (ii (dm (fun x:Go.Sp.Fn=>x.name==s) p.fns))) []:=by
 have eU:(p.fns.map au).length=p.fns.length:=by simp
 refine ah func82 ntmps82 ?_;refine GW.range (p.fns.map au).length (fun k fr Γ=>fr=[U,.v (sv s),.loc 0 0,U,U,U,U,U,.sl 3 (p.fns.map au),.v (ii ((p.fns.map au).length:Int)),.v (ii (k:Nat)),U,U,U,U,U,U,U,U,U,U]/\Γ=[.box 33 (ar p)]/\(p.fns.take k).all (fun y=>!(y.name==s))=true) ?_ G ?_ ?_ ?_
 ·exact lj
 ·exact jd
 ·rintro k _ _ aj ⟨rfl,rfl,ba⟩;rw [eU] at aj;obtain ⟨x,dA⟩:∃ x,p.fns[k]?=some x:=⟨p.fns[k],by simp [aj]⟩
  have hr:(p.fns.map au)[k]?=some (au x):=by rw [aS,dA];rfl
  have bR:=nV (f:=fun y:Go.Sp.Fn=>y.name==s) dA
  have hit:=fun h0=>nY (f:=fun y:Go.Sp.Fn=>y.name==s) dA h0 ba
  unfold au at hr
  cases hb:(x.name==s) with
  | true =>
   rw [hit hb];exact ax
  | false =>
   exact zcL
 ·rintro _ _ ⟨rfl,rfl,ba⟩;exact zbC
theorem VM (l:List ae) (s:ae) (hn:l.length<=1099511627776):GF prog 137 [strs l,.v (sv s)] [] (.v (ii (v7 l s))) []:=by
 have eU:(l.map fun s=>[GV.v (sv s)]).length=l.length:=by simp
 unfold v7;refine ah func137 ntmps137 ?_;refine GW.range (l.map fun s=>[GV.v (sv s)]).length (fun k fr Γ=>fr=[strs l,.v (sv s),U,U,U,U,U,strs l,.v (ii ((l.map fun s=>[GV.v (sv s)]).length:Int)),.v (ii (k:Nat)),U,U,U,U,U,U,U,U,U]/\Γ=[]/\(l.take k).all (fun y=>!(y==s))=true) ?_ G ?_ ?_ ?_
 ·exact lj
 ·exact jd
 ·rintro k _ _ aj ⟨rfl,rfl,ba⟩;rw [eU] at aj;obtain ⟨x,dA⟩:∃ x,l[k]?=some x:=⟨l[k],by simp [aj]⟩
  have hr:(l.map fun s=>[GV.v (sv s)])[k]?=some [.v (sv x)]:=by rw [aS,dA];rfl
  have bR:=nV (f:=fun y:ae=>y==s) dA
  have hit:=fun h0=>nY (f:=fun y:ae=>y==s) dA h0 ba
  cases hb:(x==s) with
  | true =>
   rw [hit hb];exact ax
  | false =>
   exact zec
 ·rintro _ _ ⟨rfl,rfl,ba⟩;exact zbC
theorem SD (l:List Int) (n:Int) (hn:l.length<=1099511627776):GF prog 129 [ints l,.v (ii n)] [] (.v (.bool (l.contains n))) []:=by
 have eU:(l.map fun i=>[GV.v (ii i)]).length=l.length:=by simp
 refine ah func129 ntmps129 ?_;refine GW.range (l.map fun i=>[GV.v (ii i)]).length (fun k fr Γ=>fr=[ints l,.v (ii n),U,U,U,U,U,ints l,.v (ii ((l.map fun i=>[GV.v (ii i)]).length:Int)),.v (ii (k:Nat)),U,U,U,U,U,U,U]/\Γ=[]/\(l.take k).contains n=false) ?_ G ?_ ?_ ?_
 ·exact lj
 ·exact jd
 ·rintro k _ _ aj ⟨rfl,rfl,hc⟩;rw [eU] at aj;obtain ⟨x,dA⟩:∃ x,l[k]?=some x:=⟨l[k],by simp [aj]⟩;have hr:=kE dA
  have bR:(l.take (k+1)).contains n=((l.take k).contains n || (x==n)):=by
   rw [bS,dA,List.contains_append];show (_ || [x].contains n)=_
   congr 1
   exact zd2
  have hm:=br dA
  cases hb:(x==n) with
  | true =>
   have h3:x=n:=by simpa using hb
   rw [show l.contains n=true by rw [<-h3];exact il.2 hm];exact ax
  | false =>
   refine D ?_;exact ⟨rfl,rfl,_,_,Wk.aC ak,rfl,rfl,by rw [bR,hc,hb];rfl⟩
 ·rintro _ _ ⟨rfl,rfl,hc⟩;rw [eU,bH] at hc;rw [hc];exact ax
end Go.Xg
set_option maxHeartbeats 4000000
namespace Go.Im
open Go.Xp Go.Sp
def zy (l:List ae) (k:Nat):Bool:=(List.range k).any (pU l)
theorem Ff (l:List ae) (k:Nat):zy l (k+1)=(zy l k || pU l k):=by
 unfold zy;rw [range_succ,any_append];simp
def l6 (f:Go.Sp.Fn) (c:SS) (k:Nat):SS:=⟨f.params.take k,if zy f.params k=true then iu c.code 21 else c.code,if zy f.params k=true/\c.code=0 then 0 else c.at_⟩
theorem S5 {f:Go.Sp.Fn} {c:SS} {k:Nat} (h:pU f.params k=true):(l6 f c (k+1)).code=((l6 f c k).fail 21 0).code/\(l6 f c (k+1)).at_=((l6 f c k).fail 21 0).at_:=by
 unfold l6 SS.fail;simp only [Ff,h,Bool.or_true,true_and,if_true];unfold iu
 cases zy f.params k <;> by_cases h0:c.code=0 <;> simp [h0]
theorem Qq {f:Go.Sp.Fn} {c:SS} {k:Nat} (h:pU f.params k=false):(l6 f c (k+1)).code=(l6 f c k).code/\(l6 f c (k+1)).at_=(l6 f c k).at_:=by
 unfold l6;simp only [Ff,h,Bool.or_false,and_self]
end Go.Im
namespace Go.Xg
open Go.RowKit Go.Xw Go.Proofs Tryz Go.Im
open GV (U)
open Go.Xp (Nd T Ar aJ az)
open Go.Sp (Src)
attribute [local irreducible] GW GL GO YG GC GA aW aZ
theorem JG (p:Src) (h0:Value) (c:SS) (f:Go.Sp.Fn) (uq:f.params.length<=1048576) :
  GC prog 108 [.loc 0 0,.agg (au f)] [.box 126 (cC p h0 c)] fun g Δ=>g=.tup []/\∃ ad cp,Δ=[.box 126 (cC p (.slice ad f.params.length cp) (sk f c)),.vech 9 1 (bb f.params) (.slice ad f.params.length cp)]:=by
 have eU:(f.params.map fun s=>[GV.v (sv s)]).length=f.params.length:=by simp
 have qS:sk f c=⟨f.params,(l6 f c f.params.length).code,(l6 f c f.params.length).at_⟩:=by
  unfold sk l6 zy wW;rfl
 rw [qS]
 have rU:(l6 f c 0).code=c.code/\(l6 f c 0).at_=c.at_:=by unfold l6 zy;simp
 rw [show cC p h0 c=cC p h0 (l6 f c 0) by unfold cC;rw [rU.1,rU.2]];unfold cC au;refine c8 func108 ntmps108 ?_;refine GW.wk (Wk.iN 9 1) ?_;refine zfJ ?_;refine D ?_;refine GW.range (f.params.map fun s=>[GV.v (sv s)]).length (fun k fr Γ=>∃ ad cp R n B,fr=[.loc 0 0,U,U,.loc 2 0,U,U,U,U,U,U,strs f.params,.v (ii ((f.params.map fun s=>[GV.v (sv s)]).length:Int)),.v (ii (k:Nat)),U,U,U,U,U,U,U,U,U,U,U,U,U,U,U,U,U,U,U,U,U,U]/\Γ=[.box 126 (cC p (.slice ad n cp) (l6 f c k)),.vech 9 1 R (.slice ad n cp),B]/\R.length=n/\R=bb (f.params.take k)) ?_ G ?_ ?_ ?_
 ·exact ⟨_,_,Wk.aC ak,none,0,[],0,_,rfl,rfl,rfl,by simp [bb]⟩
 ·rintro k _ _ ⟨ad,cp,R,n,B,rfl,rfl,_⟩;exact dp
 ·rintro k _ _ aj ⟨ad,cp,R,n,B,rfl,rfl,fY,hR⟩;rw [eU] at aj;obtain ⟨x,hx⟩:∃ x,f.params[k]?=some x:=⟨f.params[k],by simp [aj]⟩
  have KO:(f.params.map fun s=>[GV.v (sv s)])[k]?=some [.v (sv x)]:=by rw [aS,hx];rfl
  have bR:bb (f.params.take (k+1))=R++[[.v (sv x)]]:=by rw [bS,hx,hR];simp [bb]
  have xr:n<=1048576:=by rw [<-fY,hR,p9,du];omega
  have hL:GF prog 25 [.sl 1 R,.v (sv x)] [] (.v (.bool ((f.params.take k).contains x))) []:=by
   rw [hR];exact jk (f.params.take k) x zf1
  have hd:pU f.params k=(f.params.take k).contains x:=by unfold pU;rw [hx]
  rw [<-hd] at hL;have jh:=jH p (.slice ad n cp) (l6 f c k) 21 0;clear hR
  cases hb:pU f.params k with
  | true =>
   rw [hb] at hL;obtain ⟨e1,e2⟩:=S5 (c:=c) hb;unfold cC at jh |-;rw [e1,e2];generalize (l6 f c k).fail 21 0=s1 at *;generalize l6 f c k=s0 at *;refine D ?_;refine GL.borrow hL (fun B K β w l hI hF=>ic (A:=[_]) (C:=[_]) hI hF rfl rfl) ?_;refine zaW ?_;refine V [0] jh ?_;refine GL.gh 1 rfl rfl rfl rfl rfl rfl rfl rfl bc ju ?_;intro o0 o9;exact zdp
  | false =>
   rw [hb] at hL;obtain ⟨e1,e2⟩:=Qq (c:=c) hb;unfold cC at jh |-;rw [e1,e2];generalize l6 f c k=s0 at *;refine D ?_;refine GL.borrow hL (fun B K β w l hI hF=>ic (A:=[_]) (C:=[_]) hI hF rfl rfl) ?_;refine bL ?_;refine zal ?_;intro o0 o9;exact zdp
 ·rintro _ _ ⟨ad,cp,R,n,B,rfl,rfl,fY,hR⟩;rw [eU] at hR |-;rw [bH] at hR
  have py:n=f.params.length:=by rw [<-fY,hR,p9]
  subst py;refine zdA ?_;exact Xe (n:=2) rfl cJ (dr rfl) rfl ⟨rfl,ad,cp,by rw [hR];rfl⟩
def cO (p:Src) (c:SS) (ls:List ae) (ad:Option Addr) (cp:Nat):List Ob:=[.box 126 (cC p (.slice ad ls.length cp) c),.vech 9 1 (bb ls) (.slice ad ls.length cp)]
theorem JC (p:Src) (c:SS) (n:Nd) (l:List T) (ad:Option Addr) (cp:Nat) (I:(n.s==[103,101,116])=true) (hl:l.length<=1099511627776) :
  GF prog 155 [.loc 0 0,.agg (cT (.mk n l))] (cO p c c.ls ad cp) (.v (.bool true)) (cO p (fH c n l.length 0) c.ls ad cp):=by
 have dJ:(aQ l).length=l.length:=aX l;unfold cO;unfold fH;show GF _ _ _ _ (.v (.bool true)) [.box _ (cC p _ (if l.length≠0 then _ else _)),_];have jh:=jH p (.slice ad c.ls.length cp) c 23 n.at_;unfold cC at jh |-
 cases hk:(((aQ l).length:Int) != ((0:Nat):Int)) with
 | true =>
  rw [ab (show l.length≠0 by rw [dJ,bne_iff_ne] at hk;omega)];exact zd9
 | false =>
  rw [F (show ¬ l.length≠0 by rw [dJ,bne_eq_false_iff_eq] at hk;omega)];refine ah func155 ntmps155 ?_;exact al
theorem JD (p:Src) (c:SS) (n:Nd) (l:List T) (ad:Option Addr) (cp:Nat) (I:(n.s==[103,101,116])=false) (M:(n.s==[112,117,116])=true) (hl:l.length<=1099511627776) :
  GF prog 155 [.loc 0 0,.agg (cT (.mk n l))] (cO p c c.ls ad cp) (.v (.bool true)) (cO p (fH c n l.length 1) c.ls ad cp):=by
 have dJ:(aQ l).length=l.length:=aX l;unfold cO;unfold fH;show GF _ _ _ _ (.v (.bool true)) [.box _ (cC p _ (if l.length≠1 then _ else _)),_];have jh:=jH p (.slice ad c.ls.length cp) c 23 n.at_;unfold cC at jh |-
 cases hk:(((aQ l).length:Int) != ((1:Nat):Int)) with
 | true =>
  rw [ab (show l.length≠1 by rw [dJ,bne_iff_ne] at hk;omega)];exact zd9
 | false =>
  rw [F (show ¬ l.length≠1 by rw [dJ,bne_eq_false_iff_eq] at hk;omega)];refine ah func155 ntmps155 ?_;exact al
theorem MP (p:Src) (c:SS) (n:Nd) (l:List T) (ad:Option Addr) (cp:Nat) (I:(n.s==[103,101,116])=false) (M:(n.s==[112,117,116])=false) (h3:(n.s==[115,105,122,101])=false) (hl:l.length<=1099511627776)
  (hF:GF prog 82 [.agg (ar p),.v (sv n.s)] [] (.v (ii (-1))) []) :
  GF prog 155 [.loc 0 0,.agg (cT (.mk n l))] (cO p c c.ls ad cp) (.v (.bool false)) (cO p (c.fail 22 n.at_) c.ls ad cp):=by
 have jh:=jH p (.slice ad c.ls.length cp) c 22 n.at_
 have hd:decide ((-1:Int) < 0)=true:=by decide
 unfold cO;unfold cC at jh |-;generalize c.fail 22 n.at_=c1 at *;exact zdB
theorem MO (p:Src) (c:SS) (n:Nd) (l:List T) (i:Nat) (f:Go.Sp.Fn) (ad:Option Addr) (cp:Nat) (I:(n.s==[103,101,116])=false) (M:(n.s==[112,117,116])=false) (h3:(n.s==[115,105,122,101])=false) (hl:l.length<=1099511627776)
  (hf:p.fns[i]?=some f) (hF:GF prog 82 [.agg (ar p),.v (sv n.s)] [] (.v (ii ((i:Nat):Int))) []) :
  GF prog 155 [.loc 0 0,.agg (cT (.mk n l))] (cO p c c.ls ad cp) (.v (.bool true)) (cO p (fH c n l.length f.params.length) c.ls ad cp):=by
 have dJ:(aQ l).length=l.length:=aX l
 have hd:decide (((i:Nat):Int) < 0)=false:=by simp
 have hr:(p.fns.map au)[i]?=some (au f):=by rw [aS,hf];rfl
 have cW:(f.params.map fun s=>[GV.v (sv s)]).length=f.params.length:=by simp
 unfold au at hr;rw [<-cW];unfold cO;unfold fH;show GF _ _ _ _ (.v (.bool true)) [.box _ (cC p _ (if l.length≠(f.params.map fun s=>[GV.v (sv s)]).length then _ else _)),_];have jh:=jH p (.slice ad c.ls.length cp) c 23 n.at_;unfold cC at jh |-
 cases hk:(((aQ l).length:Int) != (((f.params.map fun s=>[GV.v (sv s)]).length:Nat):Int)) with
 | true =>
  rw [ab (show l.length≠(f.params.map fun s=>[GV.v (sv s)]).length by rw [dJ,bne_iff_ne] at hk;omega)];generalize c.fail 23 n.at_=c1 at *;exact zdB
 | false =>
  rw [F (show ¬ l.length≠(f.params.map fun s=>[GV.v (sv s)]).length by rw [dJ,bne_eq_false_iff_eq] at hk;omega)];refine ah func155 ntmps155 ?_;refine zbz ?_;refine aI [] hF ?_;exact ax
theorem Gf (p:Src) (c:SS) (n:Nd) (u:T) (ad:Option Addr) (cp:Nat) (I:(n.s==[103,101,116])=false) (M:(n.s==[112,117,116])=false) (h3:(n.s==[115,105,122,101])=true) (kX:p.arrays.length<=1099511627776) (iH:c.ls.length<=1099511627776) :
  GF prog 155 [.loc 0 0,.agg (cT (.mk n [u]))] (cO p c c.ls ad cp) (.v (.bool false)) (cO p (if fV p u.n c.ls=true then c.fail 24 n.at_ else c) c.ls ad cp):=by
 have tW:(aQ [u])[0]?=some (cT u):=db rfl;have hA:=Dy p u.n.s kX;have hL:=jk c.ls u.n.s iH;have jh:=jH p (.slice ad c.ls.length cp) c 24 n.at_;rw [show fV p u.n c.ls=((u.n.kind != 2 || decide (dm (fun x:Ar=>x.name==u.n.s) p.arrays < 0)) || c.ls.contains u.n.s) from rfl];generalize dm (fun x:Ar=>x.name==u.n.s) p.arrays=z at *;unfold cO;unfold cC at jh |-
 cases h4:(u.n.kind != 2) with
 | true =>
  rw [ab zgH];generalize c.fail 24 n.at_=c1 at *;refine ah func155 ntmps155 ?_;refine za9 ?_;refine ao ?_;refine bo ?_;exact zb9
 | false =>
  cases h5:decide (z < 0) with
  | true =>
   rw [ab zgH];generalize c.fail 24 n.at_=c1 at *;refine ah func155 ntmps155 ?_;refine za9 ?_;refine ao ?_;refine b7 [] hA ?_;refine bo ?_;exact zb9
  | false =>
   generalize c.ls.contains u.n.s=b at *
   cases b with
   | true =>
    rw [ab zgH];generalize c.fail 24 n.at_=c1 at *;refine ah func155 ntmps155 ?_;refine za9 ?_;refine ao ?_;refine b7 [] hA ?_;refine TO rfl rfl rfl (by first | exact rfl | assumption) (GL.borrow hL (fun B K β w l hI hF=>ic (A:=[_]) (C:=[_]) hI hF rfl rfl) ?_);refine zbh ?_;exact zb9
   | false =>
    rw [F aP];refine ah func155 ntmps155 ?_;refine za9 ?_;refine ao ?_;refine b7 [] hA ?_;refine TO rfl rfl rfl (by first | exact rfl | assumption) (GL.borrow hL (fun B K β w l hI hF=>ic (A:=[_]) (C:=[_]) hI hF rfl rfl) ?_);refine cD ?_;exact zcD
theorem Gg (p:Src) (c:SS) (n:Nd) (l:List T) (ad:Option Addr) (cp:Nat) (I:(n.s==[103,101,116])=false) (M:(n.s==[112,117,116])=false) (h3:(n.s==[115,105,122,101])=true) (hl:l.length≠1) :
  GF prog 155 [.loc 0 0,.agg (cT (.mk n l))] (cO p c c.ls ad cp) (.v (.bool false)) (cO p (c.fail 23 n.at_) c.ls ad cp):=by
 have jh:=jH p (.slice ad c.ls.length cp) c 23 n.at_;have dJ:(aQ l).length=l.length:=aX l
 have g1:(((aQ l).length:Int)==1)=false:=by rw [dJ,beq_eq_false_iff_ne];omega
 have g2:(((aQ l).length:Int) != 1)=true:=by rw [dJ,bne_iff_ne];omega
 unfold cO;unfold cC at jh |-;generalize c.fail 23 n.at_=c1 at *;refine ah func155 ntmps155 ?_;refine za9 ?_;refine bo ?_;exact zb9
theorem PZ (p:Src) (c:SS) (t:T) (ad:Option Addr) (cp:Nat) (kX:p.arrays.length<=1099511627776) (kc:p.fns.length<=1099511627776) (iH:c.ls.length<=1099511627776) (hl:t.kids.length<=1099511627776) :
  GF prog 155 [.loc 0 0,.agg (cT t)] (cO p c c.ls ad cp) (.v (.bool (gP p c t).2)) (cO p (gP p c t).1 c.ls ad cp):=by
 cases t with
 | mk n l =>
 have hl:l.length<=1099511627776:=hl
 cases I:(n.s==[103,101,116]) with
 | true =>
  have e:gP p c (.mk n l)=(fH c n l.length 0,true):=by
   unfold gP qM;exact ab (show n.s=_ by simpa using I)
  rw [e];exact JC p c n l ad cp I hl
 | false =>
  have n1:¬ n.s=[103,101,116]:=by simpa using I
  cases M:(n.s==[112,117,116]) with
  | true =>
   have e:gP p c (.mk n l)=(fH c n l.length 1,true):=by
    unfold gP qM sc;rw [F (show ¬ (T.mk n l).n.s=_ from n1)];exact ab (show n.s=_ by simpa using M)
   rw [e];exact JD p c n l ad cp I M hl
  | false =>
   have n2:¬ n.s=[112,117,116]:=by simpa using M
   cases h3:(n.s==[115,105,122,101]) with
   | true =>
    have e:gP p c (.mk n l)=(fH (if l.length=1/\fV p (n5 (.mk n l)) c.ls=true then c.fail 24 n.at_ else c) n l.length 1,false):=by
     unfold gP qM sc iv;rw [F (show ¬ (T.mk n l).n.s=_ from n1),F (show ¬ (T.mk n l).n.s=_ from n2)];exact ab (show n.s=_ by simpa using h3)
    rw [e]
    by_cases hk:l.length=1
    ·obtain ⟨u,rfl⟩:∃ u,l=[u]:=by
      match l,hk with
      | [u],_=>exact ⟨u,rfl⟩
     have e2:fH (if [u].length=1/\fV p (n5 (.mk n [u])) c.ls=true then c.fail 24 n.at_ else c) n [u].length 1=(if fV p u.n c.ls=true then c.fail 24 n.at_ else c):=by
      unfold fH;rw [F zfL];show (if _/\fV p u.n c.ls=true then _ else _)=_
      by_cases hb:fV p u.n c.ls=true
      ·rw [ab hb];exact ab ⟨rfl,hb⟩
      ·rw [F hb];exact F fun h=>hb h.2
     rw [e2];exact Gf p c n u ad cp I M h3 kX iH
    ·have e2:fH (if l.length=1/\fV p (n5 (.mk n l)) c.ls=true then c.fail 24 n.at_ else c) n l.length 1=c.fail 23 n.at_:=by
      rw [F fun h=>hk h.1];unfold fH;exact ab hk
     rw [e2];exact Gg p c n l ad cp I M h3 hk
   | false =>
    have n3:¬ n.s=[115,105,122,101]:=by simpa using h3
    have hF:=En p n.s kc;unfold dm at hF
    cases hx:p.fns.findIdx? (fun f:Go.Sp.Fn=>f.name==n.s) with
    | none =>
     rw [hx] at hF
     have e:gP p c (.mk n l)=(c.fail 22 n.at_,false):=by
      refine zbk ?_;rfl
     rw [e];exact MP p c n l ad cp I M h3 hl hF
    | some i =>
     rw [hx] at hF;have hi:i < p.fns.length:=(List.findIdx?_eq_some_iff_getElem.1 hx).1;obtain ⟨f,hf⟩:∃ f,p.fns[i]?=some f:=⟨p.fns[i],by simp [hi]⟩
     have e:gP p c (.mk n l)=(fH c n l.length f.params.length,true):=by
      refine zbk ?_;show (fH c n l.length (nE p i),true)=_;unfold nE;rw [hf]
     rw [e];exact MO p c n l i f ad cp I M h3 hl hf hF
end Go.Xg
namespace Go.Im
open Go.Xp Go.Sp
theorem FL (p:Src) (u:T):∀ (l:List T) (c:SS),jL p (l++[u]) c=oU p u (jL p l c)
 | [],c=>by rw [nil_append,jL,jL,jL]
 | t::l,c=>by rw [cons_append,jL,jL,FL p u l]
theorem Qh (p:Src) {l:List T} {k:Nat} {u:T} (h:l[k]?=some u) (c:SS):jL p (l.take (k+1)) c=oU p u (jL p (l.take k) c):=by
 rw [bS,h];exact FL p u _ c
theorem TC (c:SS) (n:Nd):(nL c n).ls.length<=c.ls.length+1:=by
 unfold nL;split
 ·omega
 split
 ·simp [SS.pV]
 split
 ·simp [SS.pV]
 ·simp
mutual
theorem VZ (p:Src):∀ (t:T) (c:SS),(oU p t c).ls.length<=c.ls.length+aJ t
 | .mk n l,c=>by
  rw [oU,aJ];refine jO (TC _ _) ?_;split
  ·have:=yG p l (kP p c (.mk n l)).1;rw [xQ] at this;omega
  ·rw [xQ];omega
theorem yG (p:Src):∀ (l:List T) (c:SS),(jL p l c).ls.length<=c.ls.length+az l
 | [],c=>by rw [jL,az];omega
 | t::r,c=>by
  rw [jL,az];have I:=yG p r (oU p t c);have M:=VZ p t c;omega
end
theorem Vw (k e:Int) (he:e≠0):iu (iu k e) e=iu k e:=by unfold iu;by_cases h:k=0 <;> simp [h,he]
theorem RY (p:Src) (l:List T) (c:SS):pf p [] l c=c:=by unfold pf;rfl
end Go.Im
namespace Go.Xg
open Go.RowKit Go.Xw Go.Proofs Tryz Go.Im
open GV (U)
open Go.Xp (Nd T Ar aJ az bK)
open Go.Sp (Src)
attribute [local irreducible] GW GL GO YG GC GA aW aZ
theorem P0 (p:Src) (kX:p.arrays.length<=1099511627776) (kc:p.fns.length<=1099511627776) (mq:p.globals.length<=1099511627776):∀ (N:Nat) (t:T),aJ t<=N->∀ (c:SS) (ad:Option Addr) (cp:Nat),c.ls.length+aJ t<=8388608 ->
  GC prog 109 [.loc 0 0,.agg (cT t)] (cO p c c.ls ad cp) fun g Δ=>g=.tup []/\∃ lz lA,Δ=cO p (oU p t c) (oU p t c).ls lz lA:=by
 intro N
 induction N with
 | zero=>intro t h;exact zcN
 | succ N ih =>
 intro t hN c ad cp iH
 cases t with
 | mk n l =>
 rw [Go.Xp.aJ] at hN iH;have nB:=bK l;have dJ:(aQ l).length=l.length:=aX l;rw [oU];have cW:=xQ p c (.mk n l);have hL:=jk c.ls n.s G;have hG:=jk p.globals n.s mq;have hA:=Dy p n.s kX;have hC:=PZ p c (.mk n l) ad cp kX kc G (by show l.length<=_;omega);have Ub:=jH p (.slice ad c.ls.length cp) c 22 n.at_;have KA:=jH p (.slice ad c.ls.length cp) c 24 n.at_
 have he:kP p c (.mk n l)=(if n.kind=2\/n.kind=7 then (if c.ls.contains n.s=false/\p.globals.contains n.s=false then c.fail 22 n.at_ else c,true)
  else if n.kind=3\/n.kind=8 then (if c.ls.contains n.s=true\/dm (fun x:Ar=>x.name==n.s) p.arrays < 0 then c.fail 24 n.at_ else c,true)
  else if n.kind=4 then gP p c (.mk n l) else (c,true)):=rfl
 obtain ⟨P,hP⟩:∃ P,kP p c (.mk n l)=P:=⟨_,rfl⟩;rw [hP] at he cW |-;unfold cO at hC |-;unfold cC at hC Ub KA |-;refine ah func109 ntmps109 ?_;refine aL (aE 0 6 (.a 6 (.q 7 .nil))) ?_;refine ao ?_;refine OA rfl rfl (GL.borrow hL (fun B K β w l hI hF=>ic (A:=[_]) (C:=[_,_]) hI hF rfl rfl) ?_);refine zfr ?_;refine LW ?_;refine GW.join (fun fr Γ=>fr=[.loc 0 0,U,U,.loc 2 0,.loc 3 0,U,.v (.bool P.2),U,U,U,U,U,U,U,U,U,U,U,U,U,U,U,U,U,U,U,U,U,U,U,U,U,U,U,U,U,U,U,U,U,U,U,U,U,U,U,U,U,U,U,U,U,U,U,U,U,U,U,U,U,U,U,U,U,U,U,U,U,U,U,U,U,U,U,U,U,U,U,U,U,U,U,U,U,U,U,U,U,U,U,U,U,U,U,U,U,U,U,U,U,U,U,U,U,U,U,U,U,U,U]/\Γ=[.box 126 (cC p (.slice ad c.ls.length cp) P.1),.vech 9 1 (bb c.ls) (.slice ad c.ls.length cp),.box 65 (cT (.mk n l)),.box 62 (ay n)]) ?_ ?_
 ·obtain ⟨kd,at_,nn,s,ks⟩:=n;simp only at *;unfold cC;generalize gP p c (.mk ⟨kd,at_,nn,s,ks⟩ l)=cs at *;generalize dm (fun x:Ar=>x.name==s) p.arrays=z at *;generalize c.ls.contains s=b at *;generalize p.globals.contains s=g at *;generalize c.fail 22 at_=c22 at *;generalize c.fail 24 at_=c24 at *
  by_cases M:kd=2
  ·subst M
   have q2:((2:Int)==2)=true:=by decide
   rw [ab aP] at he;subst he
   cases b with
   | true =>
    refine za0 ?_;refine bo ?_;exact jw
   | false =>
    cases g with
    | true =>
     refine za0 ?_;refine ao ?_;refine b7 [] hG ?_;exact jv
    | false =>
     exact zdx
  by_cases h7:kd=7
  ·subst h7
   have q2:((7:Int)==2)=false:=by decide
   have q7:((7:Int)==7)=true:=by decide
   rw [ab aP] at he;subst he
   cases b with
   | true =>
    refine za0 ?_;refine bo ?_;exact jw
   | false =>
    cases g with
    | true =>
     refine za0 ?_;refine ao ?_;refine b7 [] hG ?_;exact jv
    | false =>
     exact zdx
  rw [F (by rintro (h | h);(· exact M h);exact h7 h)] at he
  by_cases h3:kd=3
  ·subst h3
   have q2:((3:Int)==2)=false:=by decide
   have q7:((3:Int)==7)=false:=by decide
   have q3:((3:Int)==3)=true:=by decide
   rw [ab aP] at he
   cases b with
   | true =>
    exact zcA
   | false =>
    cases hz:decide (z < 0) with
    | true =>
     exact zcV
    | false =>
     exact zc0
  by_cases h8:kd=8
  ·subst h8
   have q2:((8:Int)==2)=false:=by decide
   have q7:((8:Int)==7)=false:=by decide
   have q3:((8:Int)==3)=false:=by decide
   have q8:((8:Int)==8)=true:=by decide
   rw [ab aP] at he
   cases b with
   | true =>
    exact zcA
   | false =>
    cases hz:decide (z < 0) with
    | true =>
     exact zcV
    | false =>
     exact zc0
  rw [F (by rintro (h | h);(· exact h3 h);exact h8 h)] at he
  by_cases h4:kd=4
  ·subst h4
   have q2:((4:Int)==2)=false:=by decide
   have q7:((4:Int)==7)=false:=by decide
   have q3:((4:Int)==3)=false:=by decide
   have q8:((4:Int)==8)=false:=by decide
   have q4:((4:Int)==4)=true:=by decide
   rw [ab rfl] at he;subst he;refine D ?_;refine V [0,1] hC ?_;exact jw
  rw [F h4] at he;subst he
  have q2:(kd==2)=false:=by simpa using M
  have q7:(kd==7)=false:=by simpa using h7
  have q3:(kd==3)=false:=by simpa using h3
  have q8:(kd==8)=false:=by simpa using h8
  have q4:(kd==4)=false:=by simpa using h4
  exact jv
 ·rintro _ _ ⟨rfl,rfl⟩;clear he hC Ub KA;obtain ⟨c1,d⟩:=P;simp only at cW |-;rw [<-cW] at iH;rw [show cC p (.slice ad c.ls.length cp) c1=cC p (.slice ad c1.ls.length cp) c1 by rw [cW],<-cW];clear hL;refine D ?_;refine GW.range (aQ l).length (fun k fr Γ=>∃ ad cp c2,fr=[.loc 0 0,U,U,.loc 2 0,.loc 3 0,U,.v (.bool d),U,U,U,U,U,U,U,U,U,U,U,U,U,U,U,U,U,U,U,U,U,U,U,U,U,U,U,U,U,U,U,U,U,U,U,U,U,U,U,U,U,U,U,U,U,U,U,U,U,U,U,U,U,U,U,U,U,.sl 6 (aQ l),.v (ii ((aQ l).length:Int)),.v (ii (k:Nat)),U,U,U,U,U,U,U,U,U,U,U,U,U,U,U,U,U,U,U,U,U,U,U,U,U,U,U,U,U,U,U,U,U,U,U,U,U,U,U,U,U,U,U]/\Γ=[.box 126 (cC p (.slice ad c2.ls.length cp) c2),.vech 9 1 (bb c2.ls) (.slice ad c2.ls.length cp),.box 65 (cT (.mk n l)),.box 62 (ay n)]/\c2=(if d=true then jL p (l.take k) c1 else c1)) ?_ G ?_ ?_ ?_
  ·exact ⟨_,_,Wk.aC ak,ad,cp,c1,rfl,rfl,by cases d <;> simp [jL]⟩
  ·rintro k _ _ ⟨ad,cp,c2,rfl,rfl,_⟩;exact dp
  ·rintro k _ _ aj ⟨ad,cp,c2,rfl,rfl,lC⟩;rw [dJ] at aj;obtain ⟨u,hu⟩:∃ u,l[k]?=some u:=⟨l[k],by simp [aj]⟩;have hr:=db hu;have cX:=lN hu
   cases d with
   | false =>
    refine D ?_;exact ⟨rfl,rfl,_,_,(Wk.cut (n:=4) (dr rfl) rfl).trans (Wk.aC ak),ad,cp,c2,rfl,rfl,lC⟩
   | true =>
    rw [ab rfl] at lC;have hlen:=yG p (l.take k) c1;rw [<-lC] at hlen;have hi:=ih u G c2 ad cp G;unfold cO at hi;rw [ab rfl,Qh p hu,<-lC];refine D ?_;refine bP [0,1] hi ?_;rintro _ _ ⟨rfl,lz,lA,rfl⟩;refine zax ?_;exact ⟨rfl,rfl,_,_,(Wk.cut (n:=4) (dr rfl) rfl).trans (Wk.aC ak),lz,lA,_,rfl,rfl,rfl⟩
  ·rintro _ _ ⟨ad,cp,c2,rfl,rfl,lC⟩;rw [dJ,bH] at lC;rw [<-lC]
   have hlen:c2.ls.length<=8388608:=by
    rw [lC];split
    ·have:=yG p l c1;omega
    ·omega
   clear lC ih;refine aY ?_;have hL:=jk c2.ls n.s G;have KH:=p9 c2.ls;have Kz:=jH p (.slice ad c2.ls.length cp) c2 21 n.at_;have h26:=jH p (.slice ad c2.ls.length cp) c2 26 n.at_;have l21:=c2.pV 21 n.at_;have l26:=c2.pV 26 n.at_
   cases hv:(n.kind != 13) with
   | true =>
    have e:nL c2 n=c2:=by unfold nL;exact ab zfZ
    rw [e];refine D ?_;refine cM ?_;exact ⟨rfl,ad,cp,rfl⟩
   | false =>
    have Dp:¬ n.kind≠13:=by simpa using hv
    unfold cC at Kz h26
    cases hb:c2.ls.contains n.s with
    | true =>
     rw [hb] at hL
     have e:nL c2 n=⟨(c2.fail 21 n.at_).ls++[n.s],(c2.fail 21 n.at_).code,(c2.fail 21 n.at_).at_⟩:=by unfold nL;rw [F Dp];exact ab hb
     rw [e];generalize c2.fail 21 n.at_=y at *;refine zdC ?_;refine OA rfl rfl (GL.borrow hL (fun B K β w l hI hF=>ic (A:=[_]) (C:=[_,_]) hI hF rfl rfl) ?_);refine zbh ?_;refine V [0] Kz ?_;refine zce ?_;refine OA rfl rfl (GL.qP 1 (news:=[[.v (sv n.s)]]) rfl rfl rfl bc rfl rfl (by refine ⟨?_,?_⟩;(· show _+1<=_;omega);(· show (_+1) * _<=_;omega)) ?_);intro o0 o9;refine zbh ?_;refine cM ?_;exact ⟨rfl,o0,o9,by simp [cO,cC,bb,l21]⟩
    | false =>
     rw [hb] at hL
     cases h40:((c2.ls.length:Int)==40) with
     | true =>
      have e:nL c2 n=⟨(c2.fail 26 n.at_).ls++[n.s],(c2.fail 26 n.at_).code,(c2.fail 26 n.at_).at_⟩:=by
       unfold nL;rw [F Dp,F zgo];exact ab (by rw [beq_iff_eq] at h40;omega)
      rw [e];generalize c2.fail 26 n.at_=y at *;refine zdC ?_;refine OA rfl rfl (GL.borrow hL (fun B K β w l hI hF=>ic (A:=[_]) (C:=[_,_]) hI hF rfl rfl) ?_);refine zbh ?_;refine V [0] h26 ?_;refine zce ?_;refine OA rfl rfl (GL.qP 1 (news:=[[.v (sv n.s)]]) rfl rfl rfl bc rfl rfl (by refine ⟨?_,?_⟩;(· show _+1<=_;omega);(· show (_+1) * _<=_;omega)) ?_);intro o0 o9;refine zbh ?_;refine cM ?_;exact ⟨rfl,o0,o9,by simp [cO,cC,bb,l26]⟩
     | false =>
      have e:nL c2 n=⟨c2.ls++[n.s],c2.code,c2.at_⟩:=by
       unfold nL;rw [F Dp,F zgo];exact F (by rw [beq_eq_false_iff_ne] at h40;omega)
      rw [e];refine zdC ?_;refine OA rfl rfl (GL.borrow hL (fun B K β w l hI hF=>ic (A:=[_]) (C:=[_,_]) hI hF rfl rfl) ?_);refine zbh ?_;refine zce ?_;refine OA rfl rfl (GL.qP 1 (news:=[[.v (sv n.s)]]) rfl rfl rfl bc rfl rfl (by refine ⟨?_,?_⟩;(· show _+1<=_;omega);(· show (_+1) * _<=_;omega)) ?_);intro o0 o9;refine zbh ?_;refine cM ?_;exact ⟨rfl,o0,o9,by simp [cO,cC,bb]⟩
theorem Ed (p:Src) (h:Value) (k e:Int):GF prog 154 [.loc 0 0,.v (ii e),.v (ii 0)] [.box 126 (cC p h ⟨[],k,0⟩)] (.tup []) [.box 126 (cC p h ⟨[],iu k e,0⟩)]:=by
 have:=jH p h ⟨[],k,0⟩ e 0
 rwa [show (SS.fail ⟨[],k,0⟩ e 0)=⟨[],iu k e,0⟩ by unfold SS.fail iu;by_cases hk:k=0 <;> simp [hk]] at this
theorem HZ (p:Src) (h:Value) (k:Int) (kX:p.arrays.length<=1048576) (cX:∀ a∈p.arrays,0<=a.size/\a.size<=2147483648)
  (rest:(p.arrays.all fun a=>!oc a)=true->GF prog 107 [.loc 0 0] [.box 126 (cC p h ⟨[],k,0⟩)] (.tup []) [.box 126 (cC p h ⟨[],tj p k,0⟩)]) :
  GF prog 107 [.loc 0 0] [.box 126 (cC p h ⟨[],k,0⟩)] (.tup []) [.box 126 (cC p h ⟨[],tj p k,0⟩)]:=by
 cases wh:(p.arrays.all fun a=>!oc a) with
 | true=>exact rest wh
 | false =>
 have eU:(p.arrays.map aB).length=p.arrays.length:=by simp
 have hb:=wV cX;have xn:=Ed p h k 26
 have Hr:p.arrays.any oc=true:=by
  cases h0:p.arrays.any oc with
  | true=>rfl
  | false =>
   rw [any_eq_false] at h0;rw [List.all_eq_false] at wh;obtain ⟨x,hx,I⟩:=wh;have:=h0 x hx;simp at I;rw [I] at this;exact absurd rfl this
 rw [show tj p k=iu k 26 by unfold tj;exact ab Hr];unfold cC at xn |-;refine ah func107 ntmps107 ?_;refine GW.range (p.arrays.map aB).length (fun k' fr Γ=>fr=[.loc 0 0,U,.v (ii (eF (p.arrays.take k'))),U,U,U,U,U,U,U,U,U,.sl 2 (p.arrays.map aB),.v (ii ((p.arrays.map aB).length:Int)),.v (ii (k':Nat)),U,U,U,U,U,U,U,U,U,U,U,U,U,U,U,U,U,U,U,U,U,U,U,U,U,U,U,U,U,U,U,U,U,U,U,U,U,U,U,U,U,U,U,U,U,U,U,U,U,U,U,U,U,U,U,U,U,U,U,U,U,U,U,U,U,U,U,U,U,U,U,U,U,U,U,U,U,U,U]/\Γ=[.box 126 [strs p.globals,.sl 2 (p.arrays.map aB),.sl 3 (p.fns.map au),.sl 5 (p.nodes.map ay),.v h,.v (ii k),.v (ii 0)]]/\(p.arrays.take k').all (fun a=>!oc a)=true) ?_ G ?_ ?_ ?_
 ·exact lj
 ·rintro k' _ _ ⟨rfl,rfl,_⟩;exact dp
 ·rintro k' _ _ aj ⟨rfl,rfl,ba⟩;rw [eU] at aj;obtain ⟨x,hx⟩:∃ x,p.arrays[k']?=some x:=⟨p.arrays[k'],by simp [aj]⟩
  have hr:(p.arrays.map aB)[k']?=some (aB x):=by rw [aS,hx];rfl
  have bR:=nV (f:=oc) hx;have jF:=uH hx;have eT:=hb k';have rv:=cX x (br hx);have hd:oc x=(decide (x.size < 1) || decide (8000 < x.size)):=rfl;unfold aB at hr
  cases I:decide (x.size < 1) with
  | true =>
   refine D ?_;refine V [0] xn ?_;exact iO
  | false =>
   cases M:decide (8000 < x.size) with
   | true =>
    refine D ?_;refine V [0] xn ?_;exact iO
   | false =>
    rw [jF];generalize eF (p.arrays.take k')=c at *;refine D ?_;exact ⟨rfl,rfl,_,_,(Wk.cut (n:=1) (aD _) rfl).trans (Wk.aC ak),rfl,rfl,by rw [bR,ba,hd,I,M];rfl⟩
 ·rintro _ _ ⟨rfl,rfl,ba⟩;rw [eU,bH] at ba;rw [ba] at wh;cases wh
theorem Gh (p:Src) (h:Value) (k:Int) (kX:p.arrays.length<=1048576) (kc:p.fns.length<=1048576) (cX:∀ a∈p.arrays,0<=a.size/\a.size<=2147483648) (wh:(p.arrays.all fun a=>!oc a)=true) :
  GF prog 107 [.loc 0 0] [.box 126 (cC p h ⟨[],k,0⟩)] (.tup []) [.box 126 (cC p h ⟨[],tj p k,0⟩)]:=by
 have eU:(p.arrays.map aB).length=p.arrays.length:=by simp
 have iG:(p.fns.map au).length=p.fns.length:=by simp
 have mq:(p.globals.map fun s=>[GV.v (sv s)]).length=p.globals.length:=by simp
 have hb:=wV cX
 have Hr:p.arrays.any oc=false:=by
  rw [any_eq_false];rw [gU] at wh;intro x hx;simpa using wh x hx
 have xn:=Ed p h;unfold cC at xn |-;refine ah func107 ntmps107 ?_;refine GW.range (p.arrays.map aB).length (fun k' fr Γ=>fr=[.loc 0 0,U,.v (ii (eF (p.arrays.take k'))),U,U,U,U,U,U,U,U,U,.sl 2 (p.arrays.map aB),.v (ii ((p.arrays.map aB).length:Int)),.v (ii (k':Nat)),U,U,U,U,U,U,U,U,U,U,U,U,U,U,U,U,U,U,U,U,U,U,U,U,U,U,U,U,U,U,U,U,U,U,U,U,U,U,U,U,U,U,U,U,U,U,U,U,U,U,U,U,U,U,U,U,U,U,U,U,U,U,U,U,U,U,U,U,U,U,U,U,U,U,U,U,U,U,U]/\Γ=[.box 126 [strs p.globals,.sl 2 (p.arrays.map aB),.sl 3 (p.fns.map au),.sl 5 (p.nodes.map ay),.v h,.v (ii k),.v (ii 0)]]) ?_ G ?_ ?_ ?_
 ·exact jw
 ·rintro k' _ _ ⟨rfl,rfl⟩;exact dp
 ·rintro k' _ _ aj ⟨rfl,rfl⟩;rw [eU] at aj;obtain ⟨x,hx⟩:∃ x,p.arrays[k']?=some x:=⟨p.arrays[k'],by simp [aj]⟩
  have hr:(p.arrays.map aB)[k']?=some (aB x):=by rw [aS,hx];rfl
  have jF:=uH hx;have eT:=hb k';have rv:=cX x (br hx)
  have hd:oc x=false:=by
   rw [any_eq_false] at Hr;have:=Hr x (br hx);exact zb8
  unfold oc at hd;rw [Bool.or_eq_false_iff] at hd;obtain ⟨I,M⟩:=hd;have M:decide (8000 < x.size)=false:=M;unfold aB at hr;rw [jF];generalize eF (p.arrays.take k')=c at *;refine D ?_;exact ⟨rfl,rfl,_,_,(Wk.cut (n:=1) (aD _) rfl).trans (Wk.aC ak),rfl,rfl⟩
 ·rintro _ _ ⟨rfl,rfl⟩;rw [eU,bH];refine aY ?_;refine GW.seq ?_;have e1:decide (p.fns.length > 40)=decide ((40:Int) < ((p.fns.map au).length:Int)):=decide_eq_decide.2 (by rw [iG];omega);have e2:decide (p.globals.length > 29)=decide ((29:Int) < ((p.globals.map fun s=>[GV.v (sv s)]).length:Int)):=decide_eq_decide.2 G
  have abf:vd p=((decide ((40:Int) < ((p.fns.map au).length:Int)) || decide ((29:Int) < ((p.globals.map fun s=>[GV.v (sv s)]).length:Int))) || decide ((8000:Int) < eF p.arrays)):=by unfold vd;rw [e1,e2]
  refine GW.join (fun fr Γ=>fr=[.loc 0 0,U,U,U,U,U,U,U,U,U,U,U,U,U,U,U,U,U,U,U,U,U,U,U,U,U,U,U,U,U,U,U,U,U,U,U,U,U,U,U,U,U,U,U,U,U,U,U,U,U,U,U,U,U,U,U,U,U,U,U,U,U,U,U,U,U,U,U,U,U,U,U,U,U,U,U,U,U,U,U,U,U,U,U,U,U,U,U,U,U,U,U,U,U]/\Γ=[.box 126 [strs p.globals,.sl 2 (p.arrays.map aB),.sl 3 (p.fns.map au),.sl 5 (p.nodes.map ay),.v h,.v (ii (if vd p=true then iu k 26 else k)),.v (ii 0)]]) ?_ ?_
  ·rw [abf];have Mu:=xn k 26;generalize eF p.arrays=c at *
   cases I:decide ((40:Int) < ((p.fns.map au).length:Int))
   all_goals cases M:decide ((29:Int) < ((p.globals.map fun s=>[GV.v (sv s)]).length:Int))
   all_goals cases h3:decide ((8000:Int) < c)
   all_goals
    refine D ?_
    first
     | exact jw
     | (refine iq [0] Mu ?_;refine D ?_;exact ⟨_,_,Wk.aC ak,rfl,rfl⟩)
  ·rintro _ _ ⟨rfl,rfl⟩;generalize wq:(if vd p=true then iu k 26 else k)=k1
   have ZR:∀ j:Nat,∀ x:Go.Sp.Fn,p.fns[j]?=some x->(p.fns.take (j+1)).any (fun f=>decide (f.params.length > 40))=((p.fns.take j).any (fun f=>decide (f.params.length > 40)) || decide (x.params.length > 40)):=fun j x hx=>by
    rw [bS,hx,any_append];simp
   refine D ?_;refine GW.range (p.fns.map au).length (fun j fr Γ=>∃ kk,fr=[.loc 0 0,U,U,U,U,U,U,U,U,U,U,U,U,U,U,U,U,U,U,U,U,U,U,U,U,U,U,U,U,U,U,U,U,U,U,U,U,U,U,U,U,U,U,U,U,U,U,U,U,U,U,U,U,U,U,U,U,U,U,.sl 3 (p.fns.map au),.v (ii ((p.fns.map au).length:Int)),.v (ii (j:Nat)),U,U,U,U,U,U,U,U,U,U,U,U,U,U,U,U,U,U,U,U,U,U,U,U,U,U,U,U,U,U,U,U]/\Γ=[.box 126 [strs p.globals,.sl 2 (p.arrays.map aB),.sl 3 (p.fns.map au),.sl 5 (p.nodes.map ay),.v h,.v (ii kk),.v (ii 0)]]/\kk=(if (p.fns.take j).any (fun f=>decide (f.params.length > 40))=true then iu k1 26 else k1)) ?_ G ?_ ?_ ?_
   ·exact ⟨_,_,Wk.aC ak,k1,rfl,rfl,by simp⟩
   ·rintro j _ _ ⟨kk,rfl,rfl,_⟩;exact dp
   ·rintro j _ _ aj ⟨kk,rfl,rfl,gy⟩;rw [iG] at aj;obtain ⟨x,hx⟩:∃ x,p.fns[j]?=some x:=⟨p.fns[j],by simp [aj]⟩
    have hr:(p.fns.map au)[j]?=some (au x):=by rw [aS,hx];rfl
    have cW:(x.params.map fun s=>[GV.v (sv s)]).length=x.params.length:=by simp
    have ox:=ZR j x hx;have hd:decide (x.params.length > 40)=decide ((40:Int) < ((x.params.map fun s=>[GV.v (sv s)]).length:Int)):=decide_eq_decide.2 G;have Mu:=xn kk 26;rw [ox,hd];unfold au at hr
    cases I:decide ((40:Int) < ((x.params.map fun s=>[GV.v (sv s)]).length:Int)) with
    | true =>
     have e:iu kk 26=iu k1 26:=by rw [gy];split;(· exact Vw _ _ aP);rfl
     rw [e] at Mu;refine D ?_;refine V [0] Mu ?_;exact ⟨rfl,rfl,_,_,(Wk.cut (n:=1) (aD _) rfl).trans (Wk.aC ak),_,rfl,rfl,by simp⟩
    | false =>
     refine D ?_;exact ⟨rfl,rfl,_,_,(Wk.cut (n:=1) (aD _) rfl).trans (Wk.aC ak),kk,rfl,rfl,by rw [gy,Bool.or_false]⟩
   ·rintro _ _ ⟨kk,rfl,rfl,gy⟩;rw [iG,bH] at gy
    have hs:tj p k=(if lu p=true then iu kk 25 else kk):=by
     unfold tj;rw [F (by rw [Hr];decide),wq,<-gy]
    rw [hs];refine aY ?_;have Xr:=xn kk 25;have hM:=En p xB G;unfold dm at hM;clear hs gy wq
    cases hx:p.fns.findIdx? (fun f:Go.Sp.Fn=>f.name==xB) with
    | none =>
     rw [hx] at hM
     have hd:decide ((-1:Int) < 0)=true:=by decide
     simp only at hM;rw [show (if lu p=true then iu kk 25 else kk)=iu kk 25 from ab (by unfold lu;rw [hx])];exact zfA
    | some i =>
     rw [hx] at hM;have hi:i < p.fns.length:=(List.findIdx?_eq_some_iff_getElem.1 hx).1;obtain ⟨f,hf⟩:∃ f,p.fns[i]?=some f:=⟨p.fns[i],by simp [hi]⟩
     have hr:(p.fns.map au)[i]?=some (au f):=by rw [aS,hf];rfl
     have cW:(f.params.map fun s=>[GV.v (sv s)]).length=f.params.length:=by simp
     have hd:decide (((i:Nat):Int) < 0)=false:=by simp
     have mu:decide (nE p i > 0)=decide ((0:Int) < ((f.params.map fun s=>[GV.v (sv s)]).length:Int)):=by
      unfold nE;rw [hf];exact decide_eq_decide.2 zgx
     simp only at hM
     have rX:lu p=decide (nE p i > 0):=by unfold lu;rw [hx]
     rw [mu] at rX;unfold au at hr
     cases I:decide ((0:Int) < ((f.params.map fun s=>[GV.v (sv s)]).length:Int)) with
     | true =>
      rw [show (if lu p=true then iu kk 25 else kk)=iu kk 25 from ab (by rw [rX,I])];exact zfA
     | false =>
      rw [show (if lu p=true then iu kk 25 else kk)=kk from F (by rw [rX,I];decide)];refine D ?_;refine V [] hM ?_;exact iO
theorem NH (p:Src) (hF:GF prog 58 [.agg (ar p)] [] (.v (.bool false)) []):GF prog 62 [.agg (ar p)] [] (.tup [.v (ii 20),.v (ii 0)]) []:=by
 refine ah func62 ntmps62 ?_;refine V [] hF ?_;exact oe
theorem L1 (p:Src) (l:List T) (c1 c2:SS) (iG:p.fns.length=l.length) (kc:p.fns.length<=1048576) (kX:p.arrays.length<=1099511627776) (mq:p.globals.length<=1099511627776)
  (uq:∀ f∈p.fns,f.params.length<=1048576) (cX:∀ t∈l,aJ t<=1048576)
  (hF:GF prog 58 [.agg (ar p)] [] (.v (.bool true)) [])
  (hN:GF prog 106 [.loc 0 0] [.box 126 (cC p (.slice none 0 0) ⟨[],0,0⟩)] (.tup []) [.box 126 (cC p (.slice none 0 0) c1)])
  (hS:GF prog 107 [.loc 0 0] [.box 126 (cC p (.slice none 0 0) c1)] (.tup []) [.box 126 (cC p (.slice none 0 0) c2)])
  (pA:∀ (i:Nat) (f:Go.Sp.Fn) (t:T),p.fns[i]?=some f->l[i]?=some t->GF prog 84 [.agg (ar p),.v (ii f.body)] [] (.agg (cT t)) []) :
  GF prog 62 [.agg (ar p)] [] (.tup [.v (ii (pf p p.fns l c2).code),.v (ii (pf p p.fns l c2).at_)]) []:=by
 have zO:(p.fns.map au).length=p.fns.length:=by simp
 unfold cC at hN hS;refine ah func62 ntmps62 ?_;refine V [] hF ?_;refine V [1] hN ?_;refine V [1] hS ?_;refine GW.range (p.fns.map au).length (fun k fr Γ=>∃ h c,fr=[U,.loc 0 0,U,U,.loc 1 0,U,U,U,U,U,U,U,U,U,U,U,U,U,.sl 3 (p.fns.map au),.v (ii ((p.fns.map au).length:Int)),.v (ii (k:Nat)),U,U,U,U,U,U,U,U,U,U,U,U,U,U,U,U,U,U,U,U,U,U,U,U,U,U]/\Γ=[.box 33 (ar p),.box 126 (cC p h c)]/\pf p p.fns l c2=pf p (p.fns.drop k) (l.drop k) c) ?_ G ?_ ?_ ?_
 ·exact ⟨_,_,Wk.aC ak,_,c2,rfl,rfl,rfl⟩
 ·rintro k _ _ ⟨h,c,rfl,rfl,_⟩;exact dp
 ·rintro k _ _ aj ⟨h,c,rfl,rfl,he⟩;rw [zO] at aj;obtain ⟨f,hf⟩:∃ f,p.fns[k]?=some f:=⟨p.fns[k],by simp [aj]⟩;obtain ⟨t,ht⟩:∃ t,l[k]?=some t:=⟨l[k]'G,dq _⟩
  have hr:(p.fns.map au)[k]?=some (au f):=by rw [aS,hf];rfl
  have Pg:p.fns.drop k=f::p.fns.drop (k+1):=by rw [lT aj];rw [dq aj] at hf;rw [DU hf]
  have dW:l.drop k=t::l.drop (k+1):=by rw [lT G];rw [dq G] at ht;rw [DU ht]
  have hp:=uq f (br hf);have hz:=cX t (br ht);have Yh:=pA k f t hf ht;have hP:=JG p h c f hp;rw [Pg,dW,pf] at he
  cases hc:(c.code==0) with
  | false =>
   rw [F zf7] at he;unfold cC au at *;refine D ?_;exact ⟨rfl,rfl,_,_,(Wk.cut (n:=2) (aO _) rfl).trans (Wk.aC ak),h,c,rfl,rfl,he⟩
  | true =>
   rw [ab zf7] at he
   have hNd:=fun ad cp=>P0 p kX G mq _ t (aD _) (sk f c) ad cp (by show f.params.length+_<=_;omega)
   rw [he];generalize oU p t (sk f c)=c3 at *;unfold cO at hNd;unfold au at hr hP;rw [show cC p h c=[strs p.globals,.sl 2 (p.arrays.map aB),.sl 3 (p.fns.map au),.sl 5 (p.nodes.map ay),.v h,.v (ii c.code),.v (ii c.at_)] from rfl] at *;refine D ?_;refine bP [1] hP ?_;rintro _ _ ⟨rfl,ad,cp,rfl⟩;refine zax ?_;refine V [] Yh ?_;refine bP [1,3] (hNd ad cp) ?_;rintro _ _ ⟨rfl,lz,lA,rfl⟩;refine zax ?_;exact ⟨rfl,rfl,_,_,(Wk.cut (n:=2) (aO _) rfl).trans (Wk.aC ak),_,c3,rfl,rfl,rfl⟩
 ·rintro _ _ ⟨h,c,rfl,rfl,he⟩;rw [zO,List.drop_length,RY] at he;rw [he];unfold cC;refine aY ?_;refine D ?_;refine aL (aE 0 10 .nil) ?_;refine ao ?_;exact q9
theorem P1:∀ (N:Nat) (t:T),aJ t<=N->∀ (out:List ae) (ad:Option Addr) (cp:Nat),out.length+aJ t<=8388608 ->
  GC prog 83 [.v (.slice ad out.length cp),.agg (cT t)] [.vech 9 1 (bb out) (.slice ad out.length cp)] fun g Δ=>∃ lz lA,g=.v (.slice lz (out++fa t).length lA)/\Δ=[.vech 9 1 (bb (out++fa t)) (.slice lz (out++fa t).length lA)]:=by
 intro N
 induction N with
 | zero=>intro t h;exact zcN
 | succ N ih =>
 intro t hN out ad cp iH
 cases t with
 | mk n l =>
 rw [Go.Xp.aJ] at hN iH;have nB:=bK l;have dJ:(aQ l).length=l.length:=aX l;rw [fa];refine ah func83 ntmps83 ?_;refine GW.range (aQ l).length (fun k fr Γ=>∃ ad cp o,fr=[.v (.slice ad o.length cp),U,U,.loc 1 0,U,U,U,U,.sl 6 (aQ l),.v (ii ((aQ l).length:Int)),.v (ii (k:Nat)),U,U,U,U,U,U,U,U,U,U,U,U,U,U,U,U,U,U]/\Γ=[.vech 9 1 (bb o) (.slice ad o.length cp),.box 65 (cT (.mk n l))]/\o=out++dT (l.take k)) ?_ G ?_ ?_ ?_
 ·exact ⟨_,_,Wk.aC ak,ad,cp,out,rfl,rfl,by simp [dT]⟩
 ·rintro k _ _ ⟨ad,cp,o,rfl,rfl,_⟩;exact dp
 ·rintro k _ _ aj ⟨ad,cp,o,rfl,rfl,ho⟩;rw [dJ] at aj;obtain ⟨u,hu⟩:∃ u,l[k]?=some u:=⟨l[k],by simp [aj]⟩;have hr:=db hu;have cX:=lN hu
  have hlen:o.length<=out.length+az (l.take k):=by rw [ho,aM];have:=lr (l.take k);omega
  have hi:=ih u G o ad cp G
  have ox:out++dT (l.take (k+1))=o++fa u:=by rw [B0 hu,ho,de]
  rw [ox];refine D ?_;refine bP [0] hi ?_;rintro _ _ ⟨lz,lA,rfl,rfl⟩;refine zax ?_;exact ⟨rfl,rfl,_,_,(Wk.cut (n:=2) (dr rfl) rfl).trans (Wk.aC ak),lz,lA,_,rfl,rfl,rfl⟩
 ·rintro _ _ ⟨ad,cp,o,rfl,rfl,ho⟩;rw [dJ,bH] at ho
  have hlen:o.length<=out.length+az l:=by rw [ho,aM];have:=lr l;omega
  have KH:=p9 o;rw [<-de,<-ho];clear ho ih;refine aY ?_
  cases hv:(n.kind==13) with
  | false =>
   rw [F zfZ,bO];refine zdA ?_;exact rR (n:=1) rfl cJ rfl (dr rfl) rfl rfl ⟨ad,cp,rfl,rfl⟩
  | true =>
   rw [ab zfZ];refine D ?_;refine zb2 ?_;intro o0 o9;refine zaM ?_;refine jc ?_;exact rR (n:=1) rfl cJ rfl (dr rfl) rfl rfl ⟨o0,o9,by show GV.v (.slice o0 ((bb o).length+1) o9)=_;simp [bb],by show [Ob.vech _ 1 (bb o++[[.v (sv n.s)]]) (.slice o0 ((bb o).length+1) o9)]=_;simp [bb]⟩
end Go.Xg
namespace Go.Xg
open Go.RowKit Go.Xw Go.Proofs
section
variable {P:Program} {m:Nat} {ops:Array Oper} {Q:dG} {rest:List Oper} {fr:List GV} {Γ:List Ob}
theorem Q1 {o:Oper} {a:Act} {next next':Act->World->Prop} {Q Q':Exit->Act->World->Prop} (hn:∀ a w,next a w->next' a w) (hq:∀ e a w,Q e a w->Q' e a w):∀ r,o.upon P a next Q r->o.upon P a next' Q' r:=by
 have hl:LetsOut Q->LetsOut Q':=fun ⟨a,w,h⟩=>⟨a,w,hq _ _ _ h⟩
 intro r h;unfold Oper.upon at h |-;split at h
 ·exact hn _ _ h
 ·exact hn _ _ h
 ·exact hn _ _ h
 ·refine Calls.mono h fun e w' he=>?_
  cases e with
  | returned v=>exact hn _ _ he
  | panicked ch=>exact hq _ _ _ he
  | outgrown=>exact hl he
 ·exact Rows.mono h fun v w' hv=>hn _ _ hv
 ·exact hq _ _ _ h
 ·exact h
theorem B3 {Q Q':Exit->Act->World->Prop} (hq:∀ e a w,Q e a w->Q' e a w):∀ (l:List Oper) (a:Act) (w:World),wpList P ops Q l a w->wpList P ops Q' l a w
 | [],a,w,h=>hq _ _ _ h
 | o::l,a,w,h=>by
  have ih:=B3 hq l;unfold wpList at h |-;split at h
  ·rename_i hw;rw [ab hw]
   rcases h with h | ⟨I,M⟩
   ·exact .inl (Q1 ih hq _ h)
   ·exact .inr ⟨I,by obtain ⟨a,w,h⟩:=M;exact ⟨a,w,hq _ _ _ h⟩⟩
  ·rename_i hw;rw [F hw];exact ih _ _ h
theorem GL.mono {Q':dG} (h:GL P m ops Q rest fr Γ) (hq:∀ e fr Γ,Q e fr Γ->Q' e fr Γ):GL P m ops Q' rest fr Γ:=fun B K β w l hm hI hF =>
 B3 (fun e a w ⟨l,ha,K,β,fr,Γ,hI,hF,q⟩=>⟨l,ha,K,β,fr,Γ,hI,hF,hq _ _ _ q⟩) _ _ _ (h B K β w l hm hI hF)
theorem GL.MK {z y:Code} (K:List GV->List Ob->Prop) (I:GL P m ops (aW (GW P m z (aW (Bi m K) Q)) Q) rest fr Γ) (M:∀ fr Γ,K fr Γ->GW P m y Q fr Γ):GL P m ops (aW (GW P m z (aW (GW P m y Q) Q)) (aW (GW P m y Q) Q)) rest fr Γ:=by
 refine I.mono fun e fr Γ hq=>?_
 cases e with
 | normal=>exact GW.join K hq M
 | _=>exact hq
theorem GL.vq {t i n E k:Nat} {rows:List (List GV)} (ht:cK fr t=.vec i n) (eZ:jG fr t=true) (bJ:Γ[i]?=some (.vec E k 0 rows)) (hn:rows.length=n)
  (h:∀ a c,GL P m ops Q rest (bp fr t (.v (.slice a n c))) (oset Γ i (.vech E k rows (.slice a n c)))):GL P m ops Q rest fr Γ:=fun B K β w l hm hI hF=>by
 subst hn;obtain ⟨a,c,hb,bz⟩:=hI.vq bJ
 have hv:nth l t=.slice a rows.length c:=by
  have:=hF.nth t;rw [ht] at this;generalize nth l t=x at this
  cases this with
  | vec i n a' c' h =>
   obtain ⟨h0,m0,e1,_,e3⟩:=h;rw [hb] at e1;cases e1;exact e3 rfl
 have:=hF.fS t (Rel.v (K:=K) (β:=β) (.slice a rows.length c));rw [<-hv,CP (nC hF eZ),hv] at this;exact h a c B K β w l hm bz this
end
end Go.Xg
namespace Go.Im
open Go.Xp Go.Sp
theorem Bj (names:List ae) (u:T):∀ (l:List T) (known:List ae),ir names (l++[u]) known=ir names l known++[lR names u (known++dT l)]
 | [],known=>by simp [ir,dT]
 | t::l,known=>by rw [cons_append,ir,Bj names u l,ir,dT,de];rfl
theorem Jq (names:List ae) {l:List T} {k:Nat} {u:T} (h:l[k]?=some u) (known:List ae):ir names (l.take (k+1)) known=ir names (l.take k) known++[lR names u (known++dT (l.take k))]:=by
 rw [bS,h];exact Bj names u _ known
def M8 (names:List ae) (n:Nd) (known:List ae):Int:=if (n.kind=2\/n.kind=7)/\known.contains n.s=true then v7 names n.s+1 else n.n
theorem Ry {names:List ae} {n:Nd} {known:List ae} (h:n.kind=13):yd names n known=⟨n.kind,n.at_,v7 names n.s+1,n.s,n.kids⟩:=by unfold yd;rw [ab h]
theorem Rz {names:List ae} {n:Nd} {known:List ae} (h:¬ n.kind=13):yd names n known=⟨n.kind,n.at_,M8 names n known,n.s,n.kids⟩:=by
 unfold yd M8;rw [F h];split <;> rfl
theorem WQ (names:List ae) (s:ae) : -1<=v7 names s/\v7 names s<=(names.length:Int):=by
 unfold v7 dm
 cases h:names.findIdx? (fun x=>x==s) with
 | none=>exact zfx
 | some i =>
  rw [findIdx?_eq_some_iff_getElem] at h;obtain ⟨h,_⟩:=h;exact zfx
def zg (l:List ae) (k:Nat):Int:=if (List.range k).any (ma l)=true then 21 else 0
theorem SY (l:List ae) (k:Nat):zg l (k+1)=if ma l k=true then iu (zg l k) 21 else zg l k:=by
 unfold zg;rw [range_succ,any_append]
 cases h:(List.range k).any (ma l) with
 | true=>simp [iu]
 | false=>simp [iu]
theorem V0 (l:List ae):zg l l.length=if fi l=true then 21 else 0:=rfl
def rS (p:Src) (fn:Int):Bool:=(nf p&&decide ((0:Int)<=fn))&&decide (fn < (p.fns.length:Int))
end Go.Im
namespace Go.Xg
open Go.RowKit Go.Xw Go.Proofs Tryz Go.Im
open GV (U)
open Go.Xp (Nd T Ar aJ az bK)
open Go.Sp (Src)
attribute [local irreducible] GW GL GO YG GC GA aW aZ
theorem P2 (names:List ae) (fm:names.length<=1099511627776):∀ (N:Nat) (t:T),aJ t<=N->∀ (known:List ae),known.length+aJ t<=8388608 ->
  GF prog 85 [strs names,strs known,.agg (cT t)] [] (.tup [.agg (cT (lR names t known)),strs (known++fa t)]) []:=by
 intro N
 induction N with
 | zero=>intro t h;exact zcN
 | succ N ih =>
 intro t hN known iH
 cases t with
 | mk n l =>
 rw [Go.Xp.aJ] at hN iH;have nB:=bK l;have dJ:(aQ l).length=l.length:=aX l;have hL:=jk known n.s G;have hA:=VM names n.s fm;have hAl:=WQ names n.s;rw [lR,fa];obtain ⟨pn,dK⟩:∃ pn,M8 names n known=pn:=⟨_,rfl⟩;have vu:=dK;unfold M8 at vu;refine ah func85 ntmps85 ?_;refine GL.MK (fun fr Γ=>fr=[strs names,strs known,U,U,U,.loc 0 0,.loc 1 0,U,.loc 2 0,U,U,U,U,U,U,U,U,U,U,U,U,U,U,U,U,U,U,U,U,U,U,U,U,U,U,U,U,U,U,U,U,U,U,U,U,U,U,U,U,U,U,U,U,U,U,U,U,U,U,U,U,U,U,U,U,U,U,U,U,U,U,U,U,U,U,U,U,U,U,U,U,U,U,U,U]/\Γ=[.box 65 (cT (.mk n l)),.box 65 zT,.box 65 [.v (ii n.kind),.v (ii n.at_),.v (ii pn),.v (sv n.s),ints n.kids,.v (.slice none 0 0)]]) ?_ ?_
 ·generalize v7 names n.s=an at *
  cases q2:(n.kind==2) with
  | true =>
   cases h3:known.contains n.s with
   | true =>
    rw [h3] at hL;rw [ab ⟨.inl (by simpa using q2),h3⟩] at vu;exact zeU
   | false =>
    exact zdd
  | false =>
   cases q7:(n.kind==7) with
   | true =>
    cases h3:known.contains n.s with
    | true =>
     rw [h3] at hL;rw [ab ⟨.inr (by simpa using q7),h3⟩] at vu;exact zeU
    | false =>
     exact zdd
   | false =>
    rw [F (by rintro ⟨h | h,_⟩;(· rw [h] at q2;cases q2);rw [h] at q7;cases q7)] at vu;subst vu;exact jv
 ·rintro _ _ ⟨rfl,rfl⟩;refine GW.wk (Wk.Ez (i:=2) (o:=5) 65 6 rfl rfl) ?_;simp only [bp,oset,cons_append,nil_append];refine D ?_
  refine GW.range (aQ l).length (fun k fr Γ=>∃ rows kn,fr=[strs names,strs kn,U,U,U,.loc 0 0,.loc 1 0,U,.loc 2 0,U,U,U,U,U,U,U,U,U,U,U,U,U,U,U,U,U,U,U,U,U,U,U,U,U,U,U,U,U,U,U,U,U,.sl 6 (aQ l),.v (ii ((aQ l).length:Int)),.v (ii (k:Nat)),U,U,U,U,U,U,U,U,U,U,U,U,U,U,U,U,U,U,U,U,U,U,U,U,U,U,U,U,U,U,U,U,U,U,U,U,U,U,U,U] /\
   Γ=[.box 65 (cT (.mk n l)),.box 65 zT,.box 65 [.v (ii n.kind),.v (ii n.at_),.v (ii pn),.v (sv n.s),ints n.kids,.vec 3 k],.vec 65 6 0 rows] /\
   rows.length=k/\rows=aQ (ir names (l.take k) known)/\kn=known++dT (l.take k)) ?_ G ?_ ?_ ?_
  ·exact ⟨_,_,Wk.aC ak,[],known,rfl,rfl,rfl,by rw [take_zero,ir];rfl,by simp [dT]⟩
  ·rintro k _ _ ⟨_,_,rfl,rfl,_⟩;exact dp
  ·rintro k _ _ aj ⟨rows,kn,rfl,rfl,xv,bI,px⟩;rw [dJ] at aj;obtain ⟨u,hu⟩:∃ u,l[k]?=some u:=⟨l[k],by simp [aj]⟩;have hr:=db hu;have cX:=lN hu
   have hlen:kn.length<=known.length+az (l.take k):=by rw [px,aM];have:=lr (l.take k);omega
   have hi:=ih u G kn G
   have ox:known++dT (l.take (k+1))=kn++fa u:=by rw [B0 hu,px,de]
   have hnr:aQ (ir names (l.take (k+1)) known)=rows++[cT (lR names u kn)]:=by
    rw [Jq names hu,wc,<-bI,<-px];first | done | simp only [aQ,uU]
   rw [ox,hnr];clear bI px;generalize lR names u kn=bu at *;refine D ?_;refine V [] hi ?_;refine zaX ?_;exact ⟨rfl,rfl,_,_,(Wk.cut (n:=4) (dr rfl) rfl).trans (Wk.aC ak),_,_,rfl,rfl,by rw [aM,xv];rfl,rfl,rfl⟩
  ·rintro _ _ ⟨rows,kn,rfl,rfl,xv,bI,px⟩;rw [dJ,bH] at bI px;rw [dJ] at xv |-;rw [<-de,<-px]
   have fB:kn.length<=known.length+az l:=by rw [px,aM];have:=lr l;omega
   have acf:kn.length * 16<=140737488355328:=by omega
   refine aY (GW.wk (Wk.wK (i:=2) (o:=5) rfl rfl rfl rfl xv) ?_);simp only [bp,oset];refine GW.G6 (cy:=[strs names,strs kn,U,U,U,.loc 0 0,.loc 1 0,U,.loc 2 0,U,U,U,U,U,U,U,U,U,U,U,U,U,U,U,U,U,U,U,U,U,U,U,U,U,U,U,U,U,U,U,U,U,U,U,U,U,U,U,U,U,U,U,U,U,U,U,U,U,U,U,U,U,U,U,U,U,U,U,U,U,U,U,U,U,U,U,U,U,U,U,U,U,U,U,U]) (aR:=[.box 65 (cT (.mk n l)),.box 65 zT,.box 65 [.v (ii n.kind),.v (ii n.at_),.v (ii pn),.v (sv n.s),ints n.kids,.sl 6 rows],.vec 65 6 l.length rows]) ak rfl ?_;subst bI;clear px
   cases hv:(n.kind==13) with
   | false =>
    rw [F zfZ,bO,Rz zfZ,dK];refine D ?_;exact zff
   | true =>
    rw [ab zfZ,Ry zfZ]
    have De:(kn.map fun s=>[GV.v (sv s)]).length=kn.length:=by simp
    have bW:strs (kn++[n.s])=.sl 1 ((kn.map fun s=>[GV.v (sv s)])++[[.v (sv n.s)]]):=by simp
    rw [bW];have eW:kC (kn.map fun s=>[GV.v (sv s)])=true:=pC kn;generalize v7 names n.s=an at *;refine D ?_;refine V [] hA ?_;refine aL (.q 1 (aE 3 3 (.f 0 (.f 2 (.a 6 (.a 7 (.q 8 .nil))) 6 (.a 2 (.a 7 (.q 8 .nil)))) 6 (.a 0 (.a 2 (.a 7 (.q 8 .nil))))))) ?_;refine ao ?_;refine GO.fork ?_ ?_
    ·refine rH ?_;refine ao ?_;refine GO.fork ?_ ?_
     ·refine OA rfl rfl (GL.AH rfl rfl rfl rfl eW (by refine ⟨?_,?_⟩;(· rw [De];omega);(· rw [De];omega)) ?_);rw [De];refine cD ?_;simp only [cL];refine ao ?_;refine zay ?_;exact za4
     ·refine zay ?_;refine OA rfl rfl (GL.AH rfl rfl rfl rfl eW (by refine ⟨?_,?_⟩;(· rw [De];omega);(· rw [De];omega)) ?_);exact zfs
    ·refine zay ?_;refine rH ?_;refine ao ?_;refine OA rfl rfl (GL.AH rfl rfl rfl rfl eW (by refine ⟨?_,?_⟩;(· rw [De];omega);(· rw [De];omega)) ?_);exact zfs
theorem MR (p:Src) (hw:eo p<=1048576) :
  GF prog 106 [.loc 0 0] [.box 126 (cC p (.slice none 0 0) ⟨[],0,0⟩)] (.tup []) [.box 126 (cC p (.slice none 0 0) ⟨[],(if fi (cR p)=true then 21 else 0),0⟩)]:=by
 obtain ⟨⟨a1,a2⟩,⟨b1,b2⟩,⟨c1,c2⟩,⟨d1,d2⟩⟩:=jD p
 have xp:(p.globals.map fun s=>[GV.v (sv s)]).length=p.globals.length:=by simp
 have eW:kC (p.globals.map fun s=>[GV.v (sv s)])=true:=yM p.globals;have py:=DA p;rw [<-V0]
 have xn:=fun k=>Ed p (.slice none 0 0) (zg (cR p) k) 21
 rw [show (0:Int)=zg (cR p) 0 from rfl];unfold cC at xn |-;refine ah func106 ntmps106 ?_;refine pN ?_;refine D ?_;refine pN ?_;refine D ?_;refine GL.AH rfl rfl rfl rfl eW (by refine ⟨?_,?_⟩;(· rw [xp];omega);(· rw [xp];omega)) ?_;rw [xp];refine bL ?_;simp only [cL];refine D ?_;refine GW.range (p.arrays.map aB).length (fun k fr Γ=>∃ R n,fr=[.loc 0 0,U,.vec 1 0,.vec 2 n,U,U,U,U,U,U,U,U,U,U,U,U,U,U,U,U,U,U,.sl 2 (p.arrays.map aB),.v (ii ((p.arrays.map aB).length:Int)),.v (ii (k:Nat)),U,U,U,U,U,U,U,U,U,U,U,U,U,U,U,U,U,U,U,U,U,U,U,U,U,U,U,U,U,U,U,U,U,U,U,U,U,U,U,U,U,U,U,U,U]/\Γ=[.box 126 [strs p.globals,.sl 2 (p.arrays.map aB),.sl 3 (p.fns.map au),.sl 5 (p.nodes.map ay),.v (.slice none 0 0),.v (ii (zg (cR p) 0)),.v (ii 0)],.vec 9 1 0 [],.vec 9 1 0 R]/\R.length=n/\R=bb (p.globals++(fg p).take k)) ?_ zgd ?_ ?_ ?_
 ·exact ⟨_,_,Wk.aC ak,_,_,rfl,rfl,xp,by simp [bb,chunk]⟩
 ·rintro k _ _ ⟨R,n,rfl,rfl,_⟩;exact dp
 ·rintro k _ _ hk ⟨R,n,rfl,rfl,fY,hR⟩
  have hk:k < p.arrays.length:=by simpa using hk
  have hx:p.arrays[k]?=some p.arrays[k]:=by simp [hk]
  have hr:=An hx
  have bR:bb (p.globals++(fg p).take (k+1))=R++[[.v (sv p.arrays[k].name)]]:=by
   have:(fg p)[k]?=some p.arrays[k].name:=by rw [fg,aS,hx];rfl
   exact zfz
  have xr:n<=4194304:=by
   rw [<-fY,hR,kT,aM,du];omega
  have hb:n+1<=9223372036854775807/\(n+1) * 16<=140737488355328:=by omega
  clear hR;unfold aB at hr;generalize p.arrays[k]=x at *;exact zcf
 ·rintro _ _ ⟨R,n,rfl,rfl,fY,hR⟩;rw [bV,show p.arrays.length=(fg p).length by simp [fg],bH] at hR;refine aY ?_;refine D ?_;refine GW.range (p.fns.map au).length (fun k fr Γ=>∃ R n,fr=[.loc 0 0,U,.vec 1 0,.vec 2 n,U,U,U,U,U,U,U,U,U,U,U,U,U,U,U,U,U,U,U,U,U,U,U,U,U,U,U,U,U,U,U,U,U,U,.sl 3 (p.fns.map au),.v (ii ((p.fns.map au).length:Int)),.v (ii (k:Nat)),U,U,U,U,U,U,U,U,U,U,U,U,U,U,U,U,U,U,U,U,U,U,U,U,U,U,U,U,U]/\Γ=[.box 126 [strs p.globals,.sl 2 (p.arrays.map aB),.sl 3 (p.fns.map au),.sl 5 (p.nodes.map ay),.v (.slice none 0 0),.v (ii (zg (cR p) 0)),.v (ii 0)],.vec 9 1 0 [],.vec 9 1 0 R]/\R.length=n/\R=bb ((p.globals++fg p)++(jB p).take k)) ?_ zgd ?_ ?_ ?_
  ·exact ⟨_,_,Wk.aC ak,_,_,rfl,rfl,fY,by rw [hR];simp⟩
  ·rintro k _ _ ⟨R,n,rfl,rfl,_⟩;exact dp
  ·rintro k _ _ hk ⟨R,n,rfl,rfl,fY,hR⟩
   have hk:k < p.fns.length:=by simpa using hk
   have hx:p.fns[k]?=some p.fns[k]:=by simp [hk]
   have hr:=vJ hx
   have bR:bb ((p.globals++fg p)++(jB p).take (k+1))=R++[[.v (sv p.fns[k].name)]]:=by
    have:(jB p)[k]?=some p.fns[k].name:=by rw [jB,aS,hx];rfl
    exact zfz
   have xr:n<=4194304:=by
    rw [<-fY,hR,kT,aM,aM,du,fg,bV];omega
   have hb:n+1<=9223372036854775807/\(n+1) * 16<=140737488355328:=by omega
   clear hR;unfold au at hr;generalize p.fns[k]=x at *;exact zcf
  ·rintro _ _ ⟨R,n,rfl,rfl,fY,hR⟩;rw [bV,show p.fns.length=(jB p).length by simp [jB],bH] at hR;have hR:R=bb (cR p):=hR
   have nc:R.length=(cR p).length:=by rw [hR,kT]
   have X5:n=R.length:=fY.symm;subst X5;refine aY ?_;refine GW.wk (Wk.iy (t:=3) rfl rfl rfl rfl) ?_;refine GW.wk (Wk.cut (n:=2) (dr rfl) rfl) ?_;refine GW.G6 (cy:=[.loc 0 0,U,.vec 1 0,.sl 1 R,U,U,U,U,U,U,U,U,U,U,U,U,U,U,U,U,U,U,U,U,U,U,U,U,U,U,U,U,U,U,U,U,U,U,U,U,U,U,U,U,U,U,U,U,U,U,U,U,U,U,U,U,U,U,U,U,U,U,U,U,U,U,U,U,U,U]) (aR:=[.box 126 [strs p.globals,.sl 2 (p.arrays.map aB),.sl 3 (p.fns.map au),.sl 5 (p.nodes.map ay),.v (.slice none 0 0),.v (ii (zg (cR p) 0)),.v (ii 0)],.vec 9 1 0 []]) ak rfl ?_;refine D ?_;refine GW.range R.length (fun k fr Γ=>∃ S n fz,fr=[.loc 0 0,U,.vec 1 n,U,U,U,U,U,U,U,U,U,U,U,U,U,U,U,U,U,U,U,U,U,U,U,U,U,U,U,U,U,U,U,U,U,U,U,U,U,U,U,U,U,U,U,U,U,U,U,.sl 1 R,.v (ii (R.length:Int)),.v (ii (k:Nat)),U,U,U,U,U,U,U,U,U,U,U,U,U,U,U,U,U]/\Γ=[.box 126 [strs p.globals,.sl 2 (p.arrays.map aB),.sl 3 (p.fns.map au),.sl 5 (p.nodes.map ay),.v (.slice none 0 0),.v (ii (zg (cR p) k)),.v (ii 0)],.vec 9 1 fz S]/\S.length=n/\S=bb ((cR p).take k)) ?_ G ?_ ?_ ?_
   ·exact ⟨_,_,Wk.aC ak,_,_,_,rfl,rfl,rfl,by simp [bb]⟩
   ·rintro k _ _ ⟨S,n,fz,rfl,rfl,_⟩;exact dp
   ·rintro k _ _ hk ⟨S,n,fz,rfl,rfl,ou,hS⟩;rw [nc] at hk;obtain ⟨x,hx⟩:∃ x,(cR p)[k]?=some x:=⟨(cR p)[k],by simp [hk]⟩
    have KO:R[k]?=some [.v (sv x)]:=by rw [hR,bb,aS,hx];rfl
    have bR:bb ((cR p).take (k+1))=S++[[.v (sv x)]]:=by rw [bS,hx,hS];simp [bb]
    have xr:n<=8388608:=by rw [<-ou,hS,kT,du];omega
    have hb:n+1<=9223372036854775807/\(n+1) * 16<=140737488355328:=by omega
    have hd:ma (cR p) k=(nZ x || ((cR p).take k).contains x):=by unfold ma;rw [hx]
    have Pa:=MS x
    have hL:GF prog 25 [.sl 1 S,.v (sv x)] [] (.v (.bool (((cR p).take k).contains x))) []:=by
     rw [hS];exact jk ((cR p).take k) x zf1
    have hF:=xn k;rw [SY];clear hS hR nc;generalize zg (cR p) k=cd at *;generalize ma (cR p) k=bn at *
    cases I:nZ x with
    | true =>
     rw [I] at Pa hd;subst hd;rw [ab zfL];refine D ?_;refine V [] Pa ?_;refine V [0] hF ?_;exact zbO
    | false =>
     rw [I] at Pa hd
     cases M:((cR p).take k).contains x with
     | true =>
      rw [M] at hL hd;subst hd;rw [ab zfL];refine zet ?_;refine V [0] hF ?_;exact zbO
     | false =>
      rw [M] at hL hd;subst hd;rw [F zfL];refine zet ?_;exact zbO
   ·rintro _ _ ⟨S,n,fz,rfl,rfl,ou,hS⟩;rw [nc];exact iO
theorem VL (p:Src) (c z:Int) (h:GF prog 62 [.agg (ar p)] [] (.tup [.v (ii c),.v (ii z)]) []):GF prog 21 [.agg (ar p)] [] (.v (.bool (c==0))) []:=by
 refine ah func21 ntmps21 ?_;exact zbb
theorem LK {l:List T} {t:T} (h:t∈l):aJ t<=az l:=by
 obtain ⟨k,hk⟩:=List.getElem?_of_mem h;have:=lN hk;omega
theorem Hj {p:Src} (h:fI p=false):nf p=false:=by unfold nf;rw [h];rfl
theorem Fk {p:Src} {l:List T} (h:fI p=true) (hl:gV p l):nf p=((Fb p l).1==0):=by
 unfold nf;rw [h,hl.CW];simp only [Bool.true_and];rfl
theorem VE (p:Src) (hw:eo p<=1048576) (hn:u7 p):GF prog 35 [.agg (ar p)] [] (.v (.bool (nf p))) []:=by
 obtain ⟨⟨a1,a2⟩,⟨b1,b2⟩,⟨c1,c2⟩,⟨d1,d2⟩⟩:=jD p;have hF:=NQ p hw hn
 cases hf:fI p with
 | false =>
  rw [hf] at hF;have:=O4 p _ _ (NI p hF);rw [Hj hf];exact this
 | true =>
  rw [hf] at hF;obtain ⟨l,hl⟩:=we hf;have hlen:=gD.len hl.fns;have py:=DA p;have kX:=E7 hl
  have hc:=L3 p l (cR p) G hlen G hF (Md p hw) (QX p G G fun a ha=>⟨(kX a ha).1,by have:=(kX a ha).2;omega⟩) fun i f t I M=>by
   obtain ⟨e1,_⟩:=gD.at_ hl.fns i f t I M;have h7:=dX.ix l 0 i _ hl.st M;rw [cL] at e1 h7
   have hb:f.body.toNat=az (l.take i):=by rw [e1,lk]
   have hz:=LK (br M);have:=hl.len;have:=ON p i f t G (fun n h=>by have:=(d2 n h).2;omega) G G G I (by have:=(c2 f (br I)).2.1;omega) G (by rw [hb];exact h7) G;rw [hb] at this;exact this
  rw [Fk hf hl];exact O4 p _ _ hc
theorem Rn (p:Src) (hw:eo p<=1048576):∃ c z,GF prog 62 [.agg (ar p)] [] (.tup [.v (ii c),.v (ii z)]) []/\(c==0)=nf p:=by
 obtain ⟨⟨a1,a2⟩,⟨b1,b2⟩,⟨c1,c2⟩,⟨d1,d2⟩⟩:=jD p;have hF:=NP p hw
 cases hf:fI p with
 | false =>
  rw [hf] at hF;exact ⟨_,_,NH p hF,by rw [Hj hf];rfl⟩
 | true =>
  rw [hf] at hF;obtain ⟨l,hl⟩:=we hf;have hlen:=gD.len hl.fns;have kX:=E7 hl
  have Ym:∀ a∈p.arrays,0<=a.size/\a.size<=2147483648:=fun a ha=>⟨(kX a ha).1,by have:=(kX a ha).2;omega⟩
  obtain ⟨ls,hm⟩:=hl.Gm
  have hS:=fun k=>HZ p (.slice none 0 0) k G Ym fun h=>Gh p (.slice none 0 0) k G G Ym h
  have hle:=hl.len
  have hc:=L1 p l _ _ hlen G G G (fun f h=>by have:=(c2 f h).2.1;omega) (fun t ht=>by have:=LK ht;omega) hF (MR p hw) (hS _) fun i f t I M=>by
   obtain ⟨e1,_⟩:=gD.at_ hl.fns i f t I M;have h7:=dX.ix l 0 i _ hl.st M;rw [cL] at e1 h7;rw [e1];exact Gw p (fun n h=>by have:=(d2 n h).2;omega) _ _ t ((xV _).1 t _ h7 (aD _))
  have hs:=WV (p:=p) (l:=l) (fun a ha=>(kX a ha).1) (fun t ht=>by obtain ⟨i,hi⟩:=List.getElem?_of_mem ht;exact (hm.wf hi).1)
  have e:((Of p l).code==0)=nf p:=by
   rw [Fk hf hl]
   by_cases h0:(Fb p l).1=0
   ·rw [h0,hs.1 h0]
   ·have I:(Of p l).code≠0:=fun e=>h0 (hs.2 e)
    rw [show ((Fb p l).1==0)=false by simpa using h0,show ((Of p l).code==0)=false by simpa using I]
  exact ⟨_,_,hc,e⟩
theorem Ky (p:Src) (hw:eo p<=1048576):GF prog 21 [.agg (ar p)] [] (.v (.bool (nf p))) []:=by
 obtain ⟨c,z,h,e⟩:=Rn p hw;rw [<-e];exact VL p c z h
theorem Ht (p:Src) (fn:Int) (hw:eo p<=1048576) (hn:u7 p):GF prog 72 [.agg (ar p),.v (ii fn)] [] (.v (.bool (rS p fn))) []:=by
 obtain ⟨⟨a1,a2⟩,⟨b1,b2⟩,⟨c1,c2⟩,⟨d1,d2⟩⟩:=jD p;have h:=VI p fn _ _ G (VE p hw hn) (TI fn 0 _)
 have e:rS p fn=((decide ((0:Int)<=fn)&&decide (fn<=(((p.fns.map au).length:Int) - 1)))&&nf p):=by
  unfold rS;rw [show decide (fn<=(((p.fns.map au).length:Int) - 1))=decide (fn < (p.fns.length:Int)) by rw [bV];apply decide_eq_decide.2;omega]
  cases nf p <;> cases decide ((0:Int)<=fn) <;> cases decide (fn < (p.fns.length:Int)) <;> rfl
 rw [e];exact h
end Go.Xg
namespace Go.Im
open Go.Xp Go.Sp
mutual
theorem CN (names:List ae):∀ (t:T) (known:List ae),aJ (lR names t known)=aJ t
 | .mk n l,known=>by rw [lR,aJ,aJ,I1 names l]
theorem I1 (names:List ae):∀ (l:List T) (known:List ae),az (ir names l known)=az l
 | [],known=>by rw [ir]
 | t::r,known=>by rw [ir,az,az,CN names t,I1 names r]
end
theorem Good.CW {p:Src} {l:List T} (h:Good p l):kM p.nodes p.fns 0 []=some (l,p.nodes.length):=h.st.CW
structure tN (p:Src) (l:List T) (i:Nat) (f:Go.Sp.Fn) (t:T):Prop where
 good:Good p l
 gf:p.fns[i]?=some f
 gt:l[i]?=some t
 ok:FQ p t f.params
 wf:gZ t
 z:zT t
 st:eC p.nodes f.body.toNat t
 body:0<=f.body
 sz:aJ t<=800
theorem Good.fn {p:Src} {l:List T} (h:Good p l) {i:Nat} {f:Go.Sp.Fn} {t:T} (e1:p.fns[i]?=some f) (e2:l[i]?=some t):tN p l i f t:=by
 obtain ⟨a1,a2,a3,a4,a5⟩:=h.at_ _ _ _ e1 e2;refine ⟨h,e1,e2,a1,a2,a3,a4,a5,?_⟩;have:=h.st.few;have:=a4.le;omega
theorem Ei {p:Src} {fn:Int} (h:rS p fn=true):∃ (i:Nat) (l:List T) (f:Go.Sp.Fn) (t:T),fn=(i:Int)/\tN p l i f t:=by
 unfold rS at h;simp only [aH,decide_eq_true_eq] at h;obtain ⟨⟨I,M⟩,h3⟩:=h;obtain ⟨l,hl⟩:=VF I;have hlen:=hl.len
 have hi:fn.toNat < p.fns.length:=by omega
 have e1:p.fns[fn.toNat]?=some p.fns[fn.toNat]:=dq _;have e2:l[fn.toNat]?=some (l[fn.toNat]'zfO):=dq _;obtain ⟨a1,a2,a3,a4,a5⟩:=hl.at_ _ _ _ e1 e2;refine ⟨fn.toNat,l,_,_,by omega,hl,e1,e2,a1,a2,a3,a4,a5,?_⟩;have:=hl.st.few;have:=a4.le;omega
end Go.Im
namespace Go.Xg
open Go.RowKit Go.Xw Go.Proofs Tryz Go.Im
open Go.Xp (Nd T Ar aJ az bK)
open Go.Sp (Src)
attribute [local irreducible] GW GL GO YG GC GA aW aZ
theorem DN (p:Src) (hk:∀ n∈p.nodes,n.kids.length<=1000000000000) (f:Go.Sp.Fn) (t:T) (hb:0<=f.body) (bW:eC p.nodes f.body.toNat t):GF prog 84 [.agg (ar p),.v (ii f.body)] [] (.agg (cT t)) []:=by
 have:=Gw p hk _ _ t ((xV _).1 t _ bW (aD _))
 rwa [Int.toNat_of_nonneg hb] at this
theorem JF (p:Src) (i:Nat) (f:Go.Sp.Fn) (t:T) (hk:∀ n∈p.nodes,n.kids.length<=1000000000000) (hf:p.fns[i]?=some f) (uq:f.params.length<=1048576) (hb:0<=f.body) (bW:eC p.nodes f.body.toNat t) (cX:aJ t<=1048576) :
  GC prog 26 [.agg (ar p),.v (ii (i:Nat))] [] fun g Δ=>∃ ad cp,g=.v (.slice ad (f.params++fa t).length cp)/\Δ=[.vech 9 1 (bb (f.params++fa t)) (.slice ad (f.params++fa t).length cp)]:=by
 have hr:(p.fns.map au)[i]?=some (au f):=by rw [aS,hf];rfl
 have xp:(f.params.map fun s=>[GV.v (sv s)]).length=f.params.length:=by simp
 have eW:=pC f.params;have hS:=DN p hk f t hb bW
 have hV:=fun ad cp=>P1 _ t (aD _) f.params ad cp G
 unfold au at hr;refine ah func26 ntmps26 ?_;refine aL (.q 1 (.q 2 (aE 4 3 (.a 0 (.a 3 (.a 7 (.a 8 (.q 9 .nil)))))))) ?_;refine ao ?_;refine rH ?_;refine ao ?_;refine OA rfl rfl (GL.AH rfl rfl rfl rfl eW (by refine ⟨?_,?_⟩;(· rw [xp];omega);(· rw [xp];omega)) ?_);rw [xp];refine GL.vq (t:=14) rfl rfl rfl (by simp [chunk]) ?_;intro ad cp;simp only [cL];refine zfr ?_;refine aI [] hS ?_;refine OA rfl rfl ?_;refine bP [2] (hV ad cp) ?_;rintro _ _ ⟨lz,lA,rfl,rfl⟩;refine ⟨by simp,?_⟩;refine zbh ?_;refine jc ?_;refine tI 2 rfl cJ rfl ?_ ?_
 ·intro x hx;rw [oO hx];rfl
 ·exact zdP
theorem P3 (p:Src) (i:Nat) (f:Go.Sp.Fn) (t:T) (hk:∀ n∈p.nodes,n.kids.length<=1000000000000) (hf:p.fns[i]?=some f) (uq:f.params.length<=1048576) (hb:0<=f.body) (bW:eC p.nodes f.body.toNat t) (cX:aJ t<=1048576) :
  GF prog 30 [.agg (ar p),.v (ii (i:Nat))] [] (.agg (cT (lR (f.params++fa t) t f.params))) []:=by
 have hr:(p.fns.map au)[i]?=some (au f):=by rw [aS,hf];rfl
 have hS:=DN p hk f t hb bW;have hL:=JF p i f t hk hf uq hb bW cX;have hvl:=I6 _ t (aD _);have hB:=P2 (f.params++fa t) (by rw [aM];omega) _ t (aD _) f.params G;unfold au at hr;generalize f.params++fa t=ns at *;generalize lR ns t f.params=bt at *;refine ah func30 ntmps30 ?_;refine aL (.q 0 (.q 1 (aE 3 13 (.f 2 (.f 16 (.f 17 (aE 18 3 (.a 21 (.a 22 (.q 23 .nil)))) 21 (.a 17 (aE 18 3 (.a 22 (.q 23 .nil))))) 21 (.a 16 (.a 17 (aE 18 3 (.a 22 (.q 23 .nil)))))) 21 (.a 2 (.a 16 (.a 17 (aE 18 3 (.a 22 (.q 23 .nil)))))))))) ?_;refine ao ?_;refine GO.fork ?_ ?_
 ·refine OA rfl rfl ?_;refine bP [] hL ?_;rintro _ _ ⟨ad,cp,rfl,rfl⟩;refine ⟨by simp,?_⟩;refine GL.wk (Wk.oW (t:=10) (i:=2) rfl rfl rfl) ?_;refine zfr ?_;refine GO.fork ?_ ?_
  ·refine aI [] hS ?_;refine GO.fork ?_ ?_
   ·exact ze8
   ·refine ao ?_;exact ze8
  ·refine ao ?_;refine aI [] hS ?_;exact ze8
 ·refine zcC ?_;refine bP [] hL ?_;rintro _ _ ⟨ad,cp,rfl,rfl⟩;refine ⟨by simp,?_⟩;refine GL.wk (Wk.oW (t:=10) (i:=3) rfl rfl rfl) ?_;refine zfr ?_;refine aI [] hS ?_;exact ze8
end Go.Xg
namespace Go.Xg
open Go.RowKit Go.Xw Go.Proofs Go.Im
open Go.Xp (Nd T Ar aJ az bK)
open Go.Sp (Src)
attribute [local irreducible] GW GL GO YG GC GA aW aZ
theorem Pc {p:Src} {fn:Int} (h:rS p fn=true):nf p=true:=by
 unfold rS at h;simp only [aH,decide_eq_true_eq] at h;exact h.1.1
end Go.Xg
namespace Go.Xg
open Go.RowKit Go.Xw
theorem jZ {A B:Prop} (h:B) (s:Hid B->A:=by intro hQ;(repeat (first | ((first | (apply GL.q;(· exact NC)) | refine GL.nil ?_ | refine aY ?_ | refine GW.seq ?_ | refine GW.region ?_ | refine GW.skip ?_ | refine iQ ?_ | refine GW.block ?_ | (apply GL.gt;(· exact rfl);(· first | exact rfl | assumption)) | (apply GL.gf;(· exact rfl);(· first | exact rfl | assumption)) | (apply GL.gu;(· exact rfl)) | (apply NT;(· exact rfl);(· first | exact rfl | assumption)) | (apply NS;(· exact rfl);(· first | exact rfl | assumption)));try refine GN wO ?_) | ((first | (apply GL.box;(· exact rfl)) | (apply GL.st;(· exact rfl);(· exact rfl);(· exact rfl);(· exact rfl);(· exact rfl);(· exact rfl)));refine uw dZ fG ?_)));exact hQ.1):A:=s ⟨h⟩
theorem Ir (A C:List Ob) (x y:Ob):oset (A++x::C) A.length y=A++y::C:=by
 rw [bg,set_append_right _ _ (aD _),jx];rfl
theorem Lp (q:Nat->Bool):∀ (A B:List Ob),sL q (A++B)=(sL q A&&sL q B)
 | [],B=>by simp [sL]
 | a::A,B=>by simp only [cons_append,sL,Lp q A B,Bool.and_assoc]
section
variable (a b c d e:Ob) (X:List Ob) (k x y:Ob)
theorem o5e (acM C:List Ob):(a::b::c::d::e::(acM++x::C))[acM.length+5]?=some x:=by
 simp
theorem o5f (acM C:List Ob):oset (a::b::c::d::e::(acM++x::C)) (acM.length+5) y=a::b::c::d::e::(acM++y::C):=by
 have:=Ir (a::b::c::d::e::acM) C x y;exact zb8
end
section
variable {P:Program} {m:Nat} {Q:dG} {fr:List GV} {Γ:List Ob} {ops:Array Oper} {rest:List Oper} {d:Option Tmp} {op:Op} {ty:TypeId} {pos:String} {af:Array Edge}
end
section
variable {P:Program} {fn:Func} {R:GV->List Ob->Prop} {fr:List GV} {Γ:List Ob} {e:Exit}
theorem IC {X Y Z:List Ob} (hX:∀ x∈X,x.iJ=true) (hZ:∀ x∈Z,x.iJ=true) :
  (X++Z).length=(List.range X.length++(List.range Z.length).map (·+(X.length+Y.length))).length/\(List.range X.length++(List.range Z.length).map (·+(X.length+Y.length))).Nodup /\
  ∀ (j:Nat) x,(X++Z)[j]?=some x->x.iJ=true/\∀ i,(List.range X.length++(List.range Z.length).map (·+(X.length+Y.length)))[j]?=some i->(X++(Y++Z))[i]?=some x:=by
 refine ⟨by simp,?_,fun j x hj=>⟨?_,fun i hi=>?_⟩⟩
 ·rw [List.nodup_append];refine ⟨List.nodup_range,?_,?_⟩
  ·unfold List.Nodup;rw [List.pairwise_map]
   exact (List.nodup_range (n:=Z.length)).imp fun cn he=>cn G
  ·intro a ha b hb;rw [mem_range] at ha;obtain ⟨c,hc,rfl⟩:=oX.1 hb;omega
 ·rcases pQ (br hj) with h | h
  ·exact hX x h
  ·exact hZ x h
 ·by_cases hl:j < X.length
  ·rw [eR hl] at hj;rw [eR zfR,List.getElem?_range hl] at hi;cases hi;rw [eR hl];exact hj
  ·rw [fw G] at hj;rw [fw zfR,List.length_range] at hi;have hz:=(bq hj).1;rw [aS,List.getElem?_range hz] at hi;cases hi;show (X++(Y++Z))[j - X.length+(X.length+Y.length)]?=some x;rw [fw G,fw G,show j - X.length+(X.length+Y.length) - X.length - Y.length=j - X.length by omega];exact hj
theorem Xi {t u:Tmp} {T:TypeId} {k:Nat} [hT:Ty P T true k] {i:Nat} {E:TypeId} {cs:List GV} {y:Value} (aw:List Nat) (Δ:List Ob) (hr:fn.results=#[.cell t T,.tmp u]) (he:e=.normal\/e=.ret) (hg:cK fr t=.loc i 0) (bJ:Γ[i]?=some (.box E cs)) (hk:cs.length=k) (hp:pE cs=true) (fR:cK fr u=.v y)
  (hl:Δ.length=aw.length) (hn:aw.Nodup) (hx:∀ (j:Nat) x,Δ[j]?=some x->x.iJ=true/\∀ i,aw[j]?=some i->Γ[i]?=some x) (h:R (.tup [.agg cs,.v y]) Δ):rQ P fn 0 R e fr Γ :=
 ⟨he,fun B K β w l hB hI hF=>by
  obtain ⟨b,vs,I,M,h3,h4⟩:=hI.ob i _ bJ
  have Pw:nth l t=.pointer (some ⟨b,0,none⟩):=by
   have:=hF.nth t;rw [hg] at this;generalize nth l t=v at this
   cases this with
   | loc _ _ b' bA=>rw [I] at bA;cases bA;rfl
  have lX:l.toArray.getD t undef=.pointer (some ⟨b,0,none⟩):=by rw [ku,Pw]
  have Df:=nH (P:=P) (w:=w) (t:=T) (b:=b) (o:=0) (vs:=vs) (k:=k) zgt (fun j v hj=>by
   rw [cL,cell_of_row w b j _ E (0,0) M];simpa using hj)
  have yt:l[t]?.getD undef=.pointer (some ⟨b,0,none⟩):=by simpa using lX
  have h5:bm K (oC β aw) vs cs:=h3.pE (mc hp);have hu:nth l u=y:=Rel.fF (by rw [<-fR];exact hF.nth u);refine ⟨.tuple #[.agg vs.toArray,y],K,oC β aw,.tup [.agg cs,.v y],Δ,?_,hI.pick hB hl hn hx,?_,h⟩
  ·rw [<-hu,<-ku l u];simp [results,hr,yt,asAddr,Df]
  ·have hc:bm K (oC β aw) [.agg vs.toArray,y] [.agg cs,.v y]:=.cons (.agg vs cs h5.1 h5.2) (.cons (.v _) .nil)
   exact .tup [.agg vs.toArray,y] _ hc.1 hc.2⟩
theorem O1 {t u:Tmp} {T:TypeId} {k:Nat} [hT:Ty P T true k] {i:Nat} {E:TypeId} {cs:List GV} {y:Value} (X Y Z:List Ob) (hr:fn.results=#[.cell t T,.tmp u]) (he:e=.normal\/e=.ret) (hg:cK fr t=.loc i 0) (bJ:Γ[i]?=some (.box E cs)) (hk:cs.length=k) (hp:pE cs=true) (fR:cK fr u=.v y)
  (XJ:Γ=X++(Y++Z)) (hX:∀ x∈X,x.iJ=true) (hZ:∀ x∈Z,x.iJ=true) (h:R (.tup [.agg cs,.v y]) (X++Z)):rQ P fn 0 R e fr Γ:=by
 have hs:=IC (Y:=Y) hX hZ;exact Xi _ (X++Z) hr he hg bJ hk hp fR hs.1 hs.2.1 (by rw [XJ];exact hs.2.2) h
theorem ZI {t:Tmp} {T:TypeId} {k:Nat} [hT:Ty P T true k] {i:Nat} {E:TypeId} {cs:List GV} (X Y Z:List Ob) (hr:fn.results=#[.cell t T]) (he:e=.normal\/e=.ret) (hg:cK fr t=.loc i 0) (bJ:Γ[i]?=some (.box E cs)) (hk:cs.length=k) (hp:pE cs=true)
  (XJ:Γ=X++(Y++Z)) (hX:∀ x∈X,x.iJ=true) (hZ:∀ x∈Z,x.iJ=true) (h:R (.agg cs) (X++Z)):rQ P fn 0 R e fr Γ:=by
 have hs:=IC (Y:=Y) hX hZ;exact TZ _ (X++Z) hr he hg bJ hk hp hs.1 hs.2.1 (by rw [XJ];exact hs.2.2) h
end
open Go.Proofs Go.Im
open Go.Xp (Nd T Ar aJ az bK)
open Go.Sp (Src)
attribute [local irreducible] GW GL GO YG GC GA aW aZ
theorem Lr:∀ l:List Ar,kC (l.map aB)=true
 | []=>rfl
 | a::l=>by
  have:=Lr l;rw [List.map_cons,kC,this];rfl
theorem Ip:∀ l:List Int,kC (l.map fun i=>[GV.v (ii i)])=true
 | []=>rfl
 | a::l=>by
  have:=Ip l;rw [List.map_cons,kC,this];rfl
open Go.Sp (bs)
theorem SX:∀ x∈[Ob.vech 9 1 [] (.slice none 0 0),.vech 56 2 [] (.slice none 0 0),.vech 58 3 [] (.slice none 0 0),.vech 62 5 [] (.slice none 0 0)],x.iJ=true:=fun x hx=>by
 simp only [List.mem_cons,not_mem_nil,or_false] at hx
 rcases hx with rfl | rfl | rfl | rfl <;> rfl
end Go.Xg
