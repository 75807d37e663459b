/- Part 6 of proofs that are told in their last texts. -/
import Derived.Test.YtfmnfhpifpjljaaGreatDoorO5
open List (all_cons all_nil any_append any_eq_false cons_append drop_length length_cons length_nil map_take mem_range)
set_option linter.unusedVariables false
set_option linter.unusedSimpArgs false
set_option linter.defProp false
set_option maxRecDepth 100000
set_option maxHeartbeats 1000000
namespace Go.Xg
open Go.RowKit Go.Xw Go.Proofs Tryz Go.Sp
open GV (U)
open Go.Xp (T)
attribute [local irreducible] GW GL GO D GC GA bo bn
def WK(a n:Int)(s:ah)(ks:List Int)(l:List T)(G:s.length<=1099511627776)(M:l.length<=1099511627776)(ha:decide (a<0)=false):GF prog 260 [.agg (cT (.mk ⟨1,a,n,s,ks⟩ l))] [] (.v (.bool (cL (.mk ⟨1,a,n,s,ks⟩ l)))) []:=by
 have Z:cL (.mk ⟨1,a,n,s,ks⟩ l)=(decide ((0:Int)<=n)&&(decide (n<=2147483647)&&((s==[])&&((l.length:Int)==0)))):=by unfold cL own;rw[ab ze5];rfl
 rw[Z];refine dj func260 ntmps260 ?_
 cases o:decide ((0:Int)<=n)with
 |false =>
  exact aK
 |true =>
  cases q:decide (n<=2147483647)with
  |false =>
   exact aK
  |true =>
   cases b:(s==[])with
   |false =>
    exact aK
   |true =>
    refine zaW ?_;exact zdm
section
variable(a:Int)(s:ah)(ks:List Int)(l:List T)
def WM(G:s.length<=1099511627776)(M:l.length<=1099511627776)(ha:decide (a<0)=false):GF prog 260 [.agg (cT (.mk ⟨2,a,0,s,ks⟩ l))] [] (.v (.bool (cL (.mk ⟨2,a,0,s,ks⟩ l)))) []:=by
 have Z:cL (.mk ⟨2,a,0,s,ks⟩ l)=(bZ s&&((l.length:Int)==0)):=by unfold cL own;rw[ab ze5];rfl
 rw[Z];refine dj func260 ntmps260 ?_
 cases o:bZ s with
 |false =>
  exact zaj
 |true =>
  refine V ?_;have W:=fp s G;rw[o]at W;refine I [] W ?_;refine bA ?_;exact zdm
theorem WN(G:s.length<=1099511627776)(M:l.length<=1099511627776)(ha:decide (a<0)=false):GF prog 260 [.agg (cT (.mk ⟨3,a,0,s,ks⟩ l))] [] (.v (.bool (cL (.mk ⟨3,a,0,s,ks⟩ l)))) []:=by
 have Z:cL (.mk ⟨3,a,0,s,ks⟩ l)=(bZ s&&(((l.length:Int)==1)&&bX 1 0 l)):=by unfold cL own;rw[ab ze5];rfl
 rw[Z];refine dj func260 ntmps260 ?_
 cases o:bZ s with
 |false =>
  exact zaj
 |true =>
  cases q:((l.length:Int)==1)with
  |false =>
   have C:((((bq l).length:Int)==1))=false:=by grind[bC]
   exact zaj
  |true =>
   have C:((((bq l).length:Int)==1))=true:=by grind[bC]
   refine V ?_;have W:=fp s G;rw[o]at W;refine I [] W ?_;have W:=gw (.mk ⟨3,a,0,s,ks⟩ l) 1 M;exact zaE
def WO(G:s.length<=1099511627776)(M:l.length<=1099511627776)(ha:decide (a<0)=false):GF prog 260 [.agg (cT (.mk ⟨4,a,0,s,ks⟩ l))] [] (.v (.bool (cL (.mk ⟨4,a,0,s,ks⟩ l)))) []:=by
 have Z:cL (.mk ⟨4,a,0,s,ks⟩ l)=(bZ s&&bX l.length 0 l):=by unfold cL own;rw[ab ze5];rfl
 rw[Z];refine dj func260 ntmps260 ?_
 cases o:bZ s with
 |false =>
  exact zaj
 |true =>
  refine V ?_;have W:=fp s G;rw[o]at W;refine I [] W ?_;have W:=gw (.mk ⟨4,a,0,s,ks⟩ l) (bq l).length M;refine I [] W ?_;refine bA ?_;exact zdm
theorem WR(G:s.length<=1099511627776)(M:l.length<=1099511627776)(ha:decide (a<0)=false):GF prog 260 [.agg (cT (.mk ⟨6,a,0,s,ks⟩ l))] [] (.v (.bool (cL (.mk ⟨6,a,0,s,ks⟩ l)))) []:=by
 have Z:cL (.mk ⟨6,a,0,s,ks⟩ l)=(ga s&&(((l.length:Int)==2)&&bX 2 0 l)):=by unfold cL own;rw[ab ze5];rfl
 rw[Z];refine dj func260 ntmps260 ?_
 cases o:ga s with
 |false =>
  refine V ?_;have W:=tg s;rw[o]at W;exact zaY
 |true =>
  cases q:((l.length:Int)==2)with
  |false =>
   have C:((((bq l).length:Int)==2))=false:=by grind[bC]
   refine V ?_;have W:=tg s;rw[o]at W;exact zaY
  |true =>
   have C:((((bq l).length:Int)==2))=true:=by grind[bC]
   refine V ?_;have W:=tg s;rw[o]at W;refine I [] W ?_;have W:=gw (.mk ⟨6,a,0,s,ks⟩ l) 2 M;exact zaE
theorem WS(G:s.length<=1099511627776)(M:l.length<=1099511627776)(ha:decide (a<0)=false):GF prog 260 [.agg (cT (.mk ⟨7,a,0,s,ks⟩ l))] [] (.v (.bool (cL (.mk ⟨7,a,0,s,ks⟩ l)))) []:=by
 have Z:cL (.mk ⟨7,a,0,s,ks⟩ l)=(bZ s&&(((l.length:Int)==1)&&bX 1 0 l)):=by unfold cL own;rw[ab ze5];rfl
 rw[Z];refine dj func260 ntmps260 ?_
 cases o:bZ s with
 |false =>
  exact zaj
 |true =>
  cases q:((l.length:Int)==1)with
  |false =>
   have C:((((bq l).length:Int)==1))=false:=by grind[bC]
   exact zaj
  |true =>
   have C:((((bq l).length:Int)==1))=true:=by grind[bC]
   refine V ?_;have W:=fp s G;rw[o]at W;refine I [] W ?_;have W:=gw (.mk ⟨7,a,0,s,ks⟩ l) 1 M;exact zaE
theorem WT(G:s.length<=1099511627776)(M:l.length<=1099511627776)(ha:decide (a<0)=false):GF prog 260 [.agg (cT (.mk ⟨8,a,0,s,ks⟩ l))] [] (.v (.bool (cL (.mk ⟨8,a,0,s,ks⟩ l)))) []:=by
 have Z:cL (.mk ⟨8,a,0,s,ks⟩ l)=(bZ s&&(((l.length:Int)==2)&&bX 2 0 l)):=by unfold cL own;rw[ab ze5];rfl
 rw[Z];refine dj func260 ntmps260 ?_
 cases o:bZ s with
 |false =>
  exact zaj
 |true =>
  cases q:((l.length:Int)==2)with
  |false =>
   have C:((((bq l).length:Int)==2))=false:=by grind[bC]
   exact zaj
  |true =>
   have C:((((bq l).length:Int)==2))=true:=by grind[bC]
   refine V ?_;have W:=fp s G;rw[o]at W;refine I [] W ?_;have W:=gw (.mk ⟨8,a,0,s,ks⟩ l) 2 M;exact zaE
theorem U4(G:s.length<=1099511627776)(M:l.length<=1099511627776)(ha:decide (a<0)=false):GF prog 260 [.agg (cT (.mk ⟨10,a,0,s,ks⟩ l))] [] (.v (.bool (cL (.mk ⟨10,a,0,s,ks⟩ l)))) []:=by
 have Z:cL (.mk ⟨10,a,0,s,ks⟩ l)=((s==[])&&(((l.length:Int)==2)&&bX 1 0 l)):=by unfold cL own;rw[ab ze5];rfl
 rw[Z];refine dj func260 ntmps260 ?_
 cases o:(s==[])with
 |false =>
  exact aK
 |true =>
  cases q:((l.length:Int)==2)with
  |false =>
   have C:((((bq l).length:Int)==2))=false:=by grind[bC]
   exact aK
  |true =>
   have C:((((bq l).length:Int)==2))=true:=by grind[bC]
   refine V ?_;have W:=gw (.mk ⟨10,a,0,s,ks⟩ l) 1 M;exact zaE
theorem U5(G:s.length<=1099511627776)(M:l.length<=1099511627776)(ha:decide (a<0)=false):GF prog 260 [.agg (cT (.mk ⟨11,a,0,s,ks⟩ l))] [] (.v (.bool (cL (.mk ⟨11,a,0,s,ks⟩ l)))) []:=by
 have Z:cL (.mk ⟨11,a,0,s,ks⟩ l)=((s==[])&&(((l.length:Int)==1)&&bX 1 0 l)):=by unfold cL own;rw[ab ze5];rfl
 rw[Z];refine dj func260 ntmps260 ?_
 cases o:(s==[])with
 |false =>
  exact aK
 |true =>
  cases q:((l.length:Int)==1)with
  |false =>
   have C:((((bq l).length:Int)==1))=false:=by grind[bC]
   exact aK
  |true =>
   have C:((((bq l).length:Int)==1))=true:=by grind[bC]
   refine V ?_;have W:=gw (.mk ⟨11,a,0,s,ks⟩ l) 1 M;exact zaE
theorem U6(G:s.length<=1099511627776)(M:l.length<=1099511627776)(ha:decide (a<0)=false):GF prog 260 [.agg (cT (.mk ⟨12,a,0,s,ks⟩ l))] [] (.v (.bool (cL (.mk ⟨12,a,0,s,ks⟩ l)))) []:=by
 have Z:cL (.mk ⟨12,a,0,s,ks⟩ l)=((s==[])&&(((l.length:Int)==1)&&bX 1 0 l)):=by unfold cL own;rw[ab ze5];rfl
 rw[Z];refine dj func260 ntmps260 ?_
 cases o:(s==[])with
 |false =>
  exact aK
 |true =>
  cases q:((l.length:Int)==1)with
  |false =>
   have C:((((bq l).length:Int)==1))=false:=by grind[bC]
   exact aK
  |true =>
   have C:((((bq l).length:Int)==1))=true:=by grind[bC]
   refine V ?_;have W:=gw (.mk ⟨12,a,0,s,ks⟩ l) 1 M;exact zaE
theorem U7(G:s.length<=1099511627776)(M:l.length<=1099511627776)(ha:decide (a<0)=false):GF prog 260 [.agg (cT (.mk ⟨13,a,0,s,ks⟩ l))] [] (.v (.bool (cL (.mk ⟨13,a,0,s,ks⟩ l)))) []:=by
 have Z:cL (.mk ⟨13,a,0,s,ks⟩ l)=(bZ s&&(((l.length:Int)==1)&&bX 1 0 l)):=by unfold cL own;rw[ab ze5];rfl
 rw[Z];refine dj func260 ntmps260 ?_
 cases o:bZ s with
 |false =>
  exact zaj
 |true =>
  cases q:((l.length:Int)==1)with
  |false =>
   have C:((((bq l).length:Int)==1))=false:=by grind[bC]
   exact zaj
  |true =>
   have C:((((bq l).length:Int)==1))=true:=by grind[bC]
   refine V ?_;have W:=fp s G;rw[o]at W;refine I [] W ?_;have W:=gw (.mk ⟨13,a,0,s,ks⟩ l) 1 M;exact zaE
theorem WQ(H:s.length<=1099511627776)(M:l.length<=1099511627776)(ha:decide (a<0)=false):GF prog 260 [.agg (cT (.mk ⟨5,a,0,s,ks⟩ l))] [] (.v (.bool (cL (.mk ⟨5,a,0,s,ks⟩ l)))) []:=by
 have Z:cL (.mk ⟨5,a,0,s,ks⟩ l)=((s==[45] ||s==[33] ||s==[126])&&(((l.length:Int)==1)&&bX 1 0 l)):=by unfold cL own;rw[ab ze5];rfl
 rw[Z];refine dj func260 ntmps260 ?_
 cases o:(s==[45])with
 |true =>
  cases C:((l.length:Int)==1)with
  |false =>
   have N:(((bq l).length:Int)==1)=false:=by grind[bC]
   exact aK
  |true =>
   have N:(((bq l).length:Int)==1)=true:=by grind[bC]
   exact zco
 |false =>
  cases b:(s==[33])with
  |true =>
   cases C:((l.length:Int)==1)with
   |false =>
    have N:(((bq l).length:Int)==1)=false:=by grind[bC]
    exact aK
   |true =>
    have N:(((bq l).length:Int)==1)=true:=by grind[bC]
    exact zco
  |false =>
   cases G:(s==[126])with
   |false =>
    exact aK
   |true =>
    cases C:((l.length:Int)==1)with
    |false =>
     have N:(((bq l).length:Int)==1)=false:=by grind[bC]
     exact aK
    |true =>
     have N:(((bq l).length:Int)==1)=true:=by grind[bC]
     exact zco
theorem WU(G:s.length<=1099511627776)(M:l.length<=1099511627776)(ha:decide (a<0)=false):GF prog 260 [.agg (cT (.mk ⟨9,a,0,s,ks⟩ l))] [] (.v (.bool (cL (.mk ⟨9,a,0,s,ks⟩ l)))) []:=by
 have Z:cL (.mk ⟨9,a,0,s,ks⟩ l)=((s==[])&&((((l.length:Int)==2) ||((l.length:Int)==3))&&bX 1 0 l)):=by unfold cL own;rw[ab ze5];rfl
 rw[Z];refine dj func260 ntmps260 ?_
 cases o:(s==[])with
 |false =>
  exact aK
 |true =>
  cases q:((l.length:Int)==2)with
  |true =>
   have C:(((bq l).length:Int)==2)=true:=by grind[bC]
   exact zeB
  |false =>
   have C:(((bq l).length:Int)==2)=false:=by grind[bC]
   cases b:((l.length:Int)==3)with
   |true =>
    have i:(((bq l).length:Int)==3)=true:=by grind[bC]
    exact zeB
   |false =>
    have i:(((bq l).length:Int)==3)=false:=by grind[bC]
    exact aK
theorem U8(G:s.length<=1099511627776)(M:l.length<=1099511627776)(ha:decide (a<0)=false):GF prog 260 [.agg (cT (.mk ⟨14,a,0,s,ks⟩ l))] [] (.v (.bool (cL (.mk ⟨14,a,0,s,ks⟩ l)))) []:=by
 have Z:cL (.mk ⟨14,a,0,s,ks⟩ l)=((l.all fun x=>jt x.n.aj)&&(s==[])):=by unfold cL own;rw[ab ze5];rfl
 rw[Z];refine ak func260 ntmps260 ?_;refine GW.range (bq l).length (fun k J u=>∃n,J=U::.loc 0 0::U::.loc 1 0::zU 172 (.sl 6 (bq l)::y4 ((bq l).length:Int)::y4 (k:Nat)::zU 12 [])/\u=[.box 89 (cT (.mk ⟨14,a,0,s,ks⟩ l)),.box 82 n]/\n=aR ⟨14,a,0,s,ks⟩/\((l.take k).all fun x=>jt x.n.aj)=true) ?_ (by grind[bC]) ?_ ?_ ?_
 ·exact⟨_,_,Wk.a6 aC,_,rfl,rfl,rfl,rfl⟩
 ·rintro k _ _⟨_,rfl,rfl,_⟩;exact dS
 ·rintro k _ _ N⟨_,rfl,rfl,rfl,m⟩
  have N:k<l.length:=by grind[bC]
  have hx:l[k]?=some l[k]:=by simp[N]
  have w:=dK hx;generalize l[k]=x at *;have e:=FU x.n.aj
  cases i:jt x.n.aj with
  |true =>
   rw[i]at e;refine zcr ?_;exact⟨rfl,rfl,_,_,(Wk.cut (n:=2) (eF rfl) rfl).trans (Wk.a6 aC),_,rfl,rfl,rfl,by grind[c7]⟩
  |false =>
   rw[i]at e;refine zcr ?_;refine bA ?_
   have ha:(l.all fun x=>jt x.n.aj)=false:=by
    grind
   rw[ha];exact zai
 ·rintro _ _⟨_,rfl,rfl,rfl,m⟩
  have m:(l.all fun x=>jt x.n.aj)=true:=by
   grind[ml,bC]
  rw[m];exact aK
end
section
variable(k a n:Int)(s:ah)(ks:List Int)(l:List T)
theorem WY(N:k=1\/k=2\/k=3\/k=4\/k=5\/k=6\/k=7\/k=8\/k=9\/k=10\/k=11\/k=12\/k=13\/k=14\/True)(hx:¬(k=1\/k=2\/k=3\/k=4\/k=5\/k=6\/k=7\/k=8\/k=9\/k=10\/k=11\/k=12\/k=13\/k=14))(ha:decide (a<0)=false)(hn:(n != 0)=false):GF prog 260 [.agg (cT (.mk ⟨k,a,n,s,ks⟩ l))] [] (.v (.bool (cL (.mk ⟨k,a,n,s,ks⟩ l)))) []:=by
 simp only[not_or]at hx;have⟨o,c,G,C,e,q,O,S,d,W,w,b,X,Y⟩:=hx
 have o:(k==1)=false:=by grind
 have i:(k != 1)=true:=by grind
 have c:(k==2)=false:=by grind
 have G:(k==3)=false:=by grind
 have C:(k==4)=false:=by grind
 have e:(k==5)=false:=by grind
 have q:(k==6)=false:=by grind
 have O:(k==7)=false:=by grind
 have S:(k==8)=false:=by grind
 have d:(k==9)=false:=by grind
 have W:(k==10)=false:=by grind
 have w:(k==11)=false:=by grind
 have b:(k==12)=false:=by grind
 have X:(k==13)=false:=by grind
 have Y:(k==14)=false:=by grind
 have Z:cL (.mk ⟨k,a,n,s,ks⟩ l)=false:=by
  show own ⟨k,a,n,s,ks⟩ _ _ _=_;simp[own,o,c,G,C,e,q,O,S,d,W,w,b,X,Y]
 exact zds
theorem WV(ha:decide (a<0)=true):GF prog 260 [.agg (cT (.mk ⟨k,a,n,s,ks⟩ l))] [] (.v (.bool (cL (.mk ⟨k,a,n,s,ks⟩ l)))) []:=by
 have Z:cL (.mk ⟨k,a,n,s,ks⟩ l)=false:=by
  show own ⟨k,a,n,s,ks⟩ _ _ _=_;unfold own;grind
 exact zds
theorem WX(ha:decide (a<0)=false)(N:(k != 1)=true)(hn:(n != 0)=true):GF prog 260 [.agg (cT (.mk ⟨k,a,n,s,ks⟩ l))] [] (.v (.bool (cL (.mk ⟨k,a,n,s,ks⟩ l)))) []:=by
 have Z:cL (.mk ⟨k,a,n,s,ks⟩ l)=false:=by
  show own ⟨k,a,n,s,ks⟩ _ _ _=_;unfold own;grind
 exact zds
end
def OJ(t:T)(G:t.n.s.length<=1099511627776)(M:t.aw.length<=1099511627776):GF prog 260 [.agg (cT t)] [] (.v (.bool (cL t))) []:=by
 have⟨⟨k,a,n,s,u⟩,l⟩:=t
 cases w:decide (a<0)with
 |true=>exact WV k a n s u l w
 |false =>
 by_cases z:k=1
 ·subst z;exact WK a n s u l G M w
 by_cases c:n=0
 ·subst c
  by_cases h:k=1\/k=2\/k=3\/k=4\/k=5\/k=6\/k=7\/k=8\/k=9\/k=10\/k=11\/k=12\/k=13\/k=14
  ·rcases h with rfl|rfl|rfl|rfl|rfl|rfl|rfl|rfl|rfl|rfl|rfl|rfl|rfl|rfl
   ·exact absurd rfl z
   ·exact WM a s u l G M w
   ·exact WN a s u l G M w
   ·exact WO a s u l G M w
   ·exact WQ a s u l G M w
   ·exact WR a s u l G M w
   ·exact WS a s u l G M w
   ·exact WT a s u l G M w
   ·exact WU a s u l G M w
   ·exact U4 a s u l G M w
   ·exact U5 a s u l G M w
   ·exact U6 a s u l G M w
   ·exact U7 a s u l G M w
   ·exact U8 a s u l G M w
  ·exact WY k a 0 s u l ze3 h w rfl
 ·exact WX k a n s u l w ze2 ze2
def Kh(l:List T):dA l=l.all ed:=by
 induction l with
 |nil=>simp[dA]
 |cons a l O=>simp[dA,O]
def OE:∀(J:Nat)(t:T),SizeOf.sizeOf t<=J->EU t->GF prog 202 [.agg (cT t)] [] (.v (.bool (ed t))) []:=by
 intro J
 induction J with
 |zero=>intro t h _;cases t;simp at h
 |succ J S =>
 intro t w z;have⟨n,l⟩:=t;have W:=z;rw[EU]at z;have⟨G,M,j⟩:=z
 have Z:ed (.mk n l)=(dA l&&cL (.mk n l)):=by rw[ed]
 rw[Z];rw[Kh];refine ak func202 ntmps202 ?_;refine GW.range (bq l).length (fun k O u=>O=[U,.loc 0 0,U,U,U,U,.sl 6 (bq l),y4 ((bq l).length:Int),y4 (k:Nat),U,U,U,U,U,U,U,U,U]/\u=[.box 89 (cT (.mk n l))]/\((l.take k).all ed)=true) ?_ (by rw[bC];exact M) ?_ ?_ ?_
 ·exact kP
 ·exact jA
 ·rintro k _ _ N⟨rfl,rfl,m⟩
  have N:k<l.length:=by rw[bC]at N;exact N
  have hx:l[k]?=some l[k]:=by simp[N]
  have Q:=bN hx;have R:=List.sizeOf_lt_of_mem Q;have B:=dK hx;have e:=S l[k] (by simp at w;omega) (EW j Q);generalize l[k]=x at *
  cases i:ed x with
  |true =>
   rw[i]at e;refine zcr ?_;exact⟨rfl,rfl,_,_,(Wk.cut (n:=1) (eF rfl) rfl).trans (Wk.a6 aC),rfl,rfl,by rw[c7,hx,List.all_append,m];simp only[Option.toList,all_cons,all_nil,i];rfl⟩
  |false =>
   rw[i]at e;refine zcr ?_;refine bA ?_
   have A:(l.all ed)=false:=by
    rw[List.all_eq_false];exact⟨x,bN hx,by simp[i]⟩
   rw[A];exact zai
 ·rintro _ _⟨rfl,rfl,m⟩
  have m:(l.all ed)=true:=by
   rw[ml (by rw[bC];omega)]at m;exact m
  rw[m];refine V ?_;refine I [] (OJ (.mk n l) G M) ?_;exact az
def OD(t:T)(h:EU t):GF prog 202 [.agg (cT t)] [] (.v (.bool (ed t))) []:=OE _ t (a8 _) h
open Go.Xp (Ar)
structure Ac(p:Src):Prop where
 au:p.au.length<=1000000000000/\∀s∈p.au,s.length<=1000000000000
 aq:p.aq.length<=1000000000000/\∀a∈p.aq,a.name.length<=1000000000000
 av:p.av.length<=1000000000000/\∀f∈p.av,f.name.length<=1000000000000/\f.params.length<=1000000000000/\∀s∈f.params,s.length<=1000000000000
 ae:p.ae.length<=1000000000000/\∀n∈p.ae,n.s.length<=1000000000000/\n.aw.length<=1000000000000
def HX{l:List ah}{i:Nat}{s:ah}(h:l[i]?=some s):(l.map fun s=>[GV.v (sv s)])[i]?=some [.v (sv s)]:=by grind
def tt{l:List Ar}{i:Nat}{s:Ar}(h:l[i]?=some s):(l.map bb)[i]?=some (bb s):=by grind
def qi{l:List Go.Sp.Fn}{i:Nat}{s:Go.Sp.Fn}(h:l[i]?=some s):(l.map aI)[i]?=some (aI s):=by grind
def uG{R:Type}{l:List R}{q:R->Bool}{k:Nat}{x:R}(hx:l[k]?=some x)(i:q x=false):l.all q=false:=by
 grind
def zL(p:Src)(X:Ac p)(b:Bool)(h:oM p=some b):GF prog 145 [.agg (aB p)] [] (.v (.bool b)) []:=by
 unfold oM at h;refine ak func145 ntmps145 ?_;refine GW.range (p.au.map fun s=>[GV.v (sv s)]).length (fun k J u=>J=[U,.loc 0 0,U,y4 0,U,U,U,U,U,U,U,U,U,U,U,strs p.au,y4 ((p.au.map fun s=>[GV.v (sv s)]).length:Int),y4 (k:Nat),U,U,U,U,U,U,U,U,U,U,U,U,U,U,U,U,U,U,U,U,U,U,U,U,U,U,U,U,U,U,U,U,U,U,U,U,U,U,U,U,U,U,U,U,U,U,U,U,U,U,U,U,U,U,U,U,U,U,U,U,U,U,U,U,U,U,U,U,U,U,U,U,U,U,U,U,U,U,U,U,U,U,U,U,U,U,U]/\u=[.box 28 (aB p)]/\((p.au.take k).all bZ)=true) ?_ (by simpa using by have:=X.au.1;omega) ?_ ?_ ?_
 ·exact kP
 ·exact jA
 ·rintro k _ _ N⟨rfl,rfl,q⟩
  have N:k<p.au.length:=by grind
  have hx:p.au[k]?=some p.au[k]:=by simp[N]
  have B:=HX hx;have M:=X.au.2 _ (bN hx);generalize p.au[k]=x at *;have m:=fp x L
  cases i:bZ x with
  |true =>
   rw[i]at m;refine V ?_;refine I [] m ?_;exact⟨rfl,rfl,_,_,Wk.a6 aC,rfl,rfl,sS hx q i⟩
  |false =>
   rw[i]at m;rw[ai (show dm p.au=false from uG hx i)]at h;cases h;refine V ?_;exact zb0
 ·rintro _ _⟨rfl,rfl,q⟩;rw[ml ze3]at q;rw[ab (by grind[dm])]at h;refine V ?_;refine GW.range (p.aq.map bb).length (fun k J u=>J=U::.loc 0 0::U::y4 0::zU 22 (.sl 2 (p.aq.map bb)::y4 ((p.aq.map bb).length:Int)::y4 (k:Nat)::zU 76 [])/\u=[.box 28 (aB p)]/\((p.aq.take k).all nM)=true) ?_ (by simpa using by have:=X.aq.1;omega) ?_ ?_ ?_
  ·exact kP
  ·exact jA
  ·rintro k _ _ N⟨rfl,rfl,q⟩
   have N:k<p.aq.length:=by grind
   have hx:p.aq[k]?=some p.aq[k]:=by simp[N]
   have B:=tt hx;have M:=X.aq.2 _ (bN hx);generalize p.aq[k]=x at *;have m:=fp x.name L
   cases i:bZ x.name with
   |false =>
    rw[i]at m;rw[ai (uG hx (by simp[nM,i]))]at h;cases h;refine V ?_;exact zb0
   |true =>
    rw[i]at m
    cases w:decide (x.size<0)with
    |true =>
     rw[ai (uG hx (by grind[nM]))]at h;cases h;refine V ?_;exact zb0
    |false =>
     cases A:decide (2147483647<x.size)with
     |true =>
      rw[ai (uG hx (by grind[nM]))]at h;cases h;refine V ?_;exact zb0
     |false =>
      refine V ?_;refine I [] m ?_;exact⟨rfl,rfl,_,_,(Wk.cut (n:=1) (eF rfl) rfl).trans (Wk.a6 aC),rfl,rfl,sS hx q (by grind[nM])⟩
  ·rintro _ _⟨rfl,rfl,q⟩;rw[ml ze3]at q;rw[ab ze2]at h;refine V ?_;refine GW.range (p.av.map aI).length (fun k J u=>∃nx,J=U::.loc 0 0::U::y4 nx::zU 44 (.sl 3 (p.av.map aI)::y4 ((p.av.map aI).length:Int)::y4 (k:Nat)::zU 54 [])/\u=[.box 28 (aB p)]/\0<=nx/\(match jr p.ae (p.av.drop k) nx with|none=>none|some none=>some false|some (some next)=>some (next==(p.ae.length:Int)&&decide (next<=800)))=some b) ?_ (by simpa using by have:=X.av.1;omega) ?_ ?_ ?_
   ·exact⟨_,_,Wk.a6 aC,_,rfl,rfl,Int.le_refl _,h⟩
   ·rintro k _ _⟨_,rfl,rfl,_⟩;exact dS
   ·clear h q;rintro k _ _ N⟨nx,rfl,rfl,O,h⟩
    have N:k<p.av.length:=by grind
    have hx:p.av[k]?=some p.av[k]:=by simp[N]
    have B:=qi hx;have M:=X.av.2 _ (bN hx);rw[lz N,jr]at h;generalize p.av[k]=x at *
    cases m:oS p.ae (fN p.ae) nx.toNat 0 with
    |none=>grind
    |some e =>
    rw[m]at h;simp only at h;have l:=V6 p X.ae.1 (fun n d=>(X.ae.2 n d).2) _ _ 0 _ L m;rw[Int.toNat_of_nonneg O]at l;have r:=fp x.name L
    by_cases w:x.body=nx
    ·have C:(x.body != nx)=false:=by grind
     cases i:bZ x.name with
     |false =>
      rw[i]at r;rw[ai (.inr (.inl i))]at h;cases h;refine V ?_;refine I [] l ?_;refine I [] r ?_;exact az
     |true =>
      rw[i]at r
      by_cases A:e<0
      ·have z:decide (e<0)=true:=by grind
       rw[ai (.inr (.inr A))]at h;cases h;refine V ?_;refine I [] l ?_;refine I [] r ?_;exact az
      ·have z:decide (e<0)=false:=by grind
       rw[ab ze2]at h;refine V ?_;refine I [] l ?_;refine I [] r ?_;refine GW.range (x.params.map fun s=>[GV.v (sv s)]).length (fun j J u=>J=[U,.loc 0 0,U,y4 nx,U,U,U,U,U,.loc 1 0,y4 e,U,U,U,U,U,U,U,U,U,U,U,U,U,U,U,U,U,U,U,U,U,U,U,U,U,U,U,U,U,U,U,U,U,U,U,U,U,.sl 3 (p.av.map aI),y4 ((p.av.map aI).length:Int),y4 (k:Nat),U,U,U,U,U,U,U,U,U,U,U,U,U,U,U,U,U,U,U,U,U,strs x.params,y4 ((x.params.map fun s=>[GV.v (sv s)]).length:Int),y4 (j:Nat),U,U,U,U,U,U,U,U,U,U,U,U,U,U,U,U,U,U,U,U,U,U,U,U,U,U,U,U,U,U]/\u=[.box 28 (aB p),.box 53 (aI x)]/\((x.params.take j).all bZ)=true) ?_ ze2 ?_ ?_ ?_
       ·exact kP
       ·exact jA
       ·rintro j _ _ Z⟨rfl,rfl,q⟩
        have Z:j<x.params.length:=by grind
        have Y:x.params[j]?=some x.params[j]:=by simp[Z]
        have Q:=HX Y;have F:=M.2.2 _ (bN Y);generalize x.params[j]=y at *;have c:=fp y L
        cases i:bZ y with
        |true =>
         rw[i]at c;refine V ?_;refine I [] c ?_;exact⟨rfl,rfl,_,_,Wk.a6 aC,rfl,rfl,sS Y q i⟩
        |false =>
         rw[i]at c;rw[ai (show dm x.params=false from uG Y i)]at h;cases h;refine V ?_;refine I [] c ?_;exact az
       ·rintro _ _⟨rfl,rfl,q⟩;rw[ml ze3]at q;rw[ab (by grind[dm])]at h
        cases G:sub p.ae (fN p.ae) nx.toNat with
        |none=>rw[G]at h;cases h
        |some t =>
        rw[G]at h;simp only at h;have W:=C5 p (fun n d=>(X.ae.2 n d).2) _ _ _ G;rw[Int.toNat_of_nonneg O]at W;have o:=OD t ((Vv (fun n d=>by have:=X.ae.2 n d;omega) _).1 _ _ G)
        by_cases H:t.n.aj=14
        ·have E:(t.n.aj != 14)=false:=by grind
         cases i:ed t with
         |false =>
          rw[i]at o;rw[ai (.inr i)]at h;cases h;refine zdw ?_;exact zdU
         |true =>
          rw[i]at o;rw[ab ze2]at h;refine zdw ?_;refine I [] o ?_;exact⟨rfl,rfl,_,_,(Wk.cut (n:=1) (eF rfl) rfl).trans (Wk.a6 aC),_,rfl,rfl,by omega,h⟩
        ·have E:(t.n.aj != 14)=true:=by grind
         rw[ai (.inl H)]at h;cases h;refine V ?_;exact zaY
    ·have C:(x.body != nx)=true:=by grind
     rw[ai (.inl w)]at h;cases h;refine V ?_;refine I [] l ?_;exact az
   ·clear h q;rintro _ _⟨nx,rfl,rfl,O,h⟩;rw[bS,drop_length,jr]at h;simp only at h;cases h
    cases w:(nx==(p.ae.length:Int))with
    |false =>
     have C:(nx==((p.ae.map aR).length:Int))=false:=by grind
     exact aK
    |true =>
     have C:(nx==((p.ae.map aR).length:Int))=true:=by grind
     exact aK
open Go.Xp (levels)
def nK(k:Int)(s:ah):Int:=if k=6 then(match levels.findIdx? (fun l=>l.contains s)with|some i=>(i:Int)|none => -1)else 9
def Jj(t:T):GF prog 357 [.agg (cT t)] [] (.v (.int .i64 (nK t.n.aj t.n.s))) []:=by
 refine dj func357 ntmps357 ?_
 by_cases o:t.n.aj=6
 ·have E:(t.n.aj != 6)=false:=by simpa using o
  unfold nK;rw[ai o];refine V ?_;refine I [] jZ ?_;refine GW.range (levels.map fun l=>[strs l]).length (fun k J u=>J=[U,.loc 0 0,U,U,U,U,U,U,U,U,U,.sl 1 (levels.map fun l=>[strs l]),y4 ((levels.map fun l=>[strs l]).length:Int),y4 (k:Nat),U,U,U,U,U,U,U,U,U,U,U]/\u=[.box 89 (cT t)]/\((levels.take k).any fun l=>l.contains t.n.s)=false) ?_ aU ?_ ?_ ?_
  ·exact kP
  ·exact jA
  ·rintro k _ _ N⟨rfl,rfl,m⟩
   have N:k<levels.length:=by simpa using N
   have hx:levels[k]?=some levels[k]:=by simp[N]
   have w:(levels.map fun l=>[strs l])[k]?=some [strs levels[k]]:=by simp[N]
   have M:levels[k].length<=1099511627776:=by
    have:∀l∈levels,l.length<=1099511627776:=by decide
    exact this _ (List.getElem_mem N)
   have H:levels[k].contains t.n.s=true->levels.findIdx? (fun l=>l.contains t.n.s)=some k:=by
    intro X;rw[List.findIdx?_eq_some_iff_getElem];refine⟨N,X,fun j Y=>?_⟩;rw[any_eq_false]at m;refine m _ ?_;rw[List.mem_take_iff_getElem];exact⟨j,by omega,rfl⟩
   generalize levels[k]=x at *;have W:=jR x t.n.s M
   cases i:x.contains t.n.s with
   |true =>
    rw[i]at W;rw[H i];refine V ?_;exact zaY
   |false =>
    rw[i]at W;refine zdw ?_;exact⟨rfl,rfl,_,_,Wk.a6 aC,rfl,rfl,by rw[c7,hx,any_append,m];simp only[Option.toList,List.any_cons,List.any_nil,i];rfl⟩
  ·rintro _ _⟨rfl,rfl,m⟩;rw[ml ze3]at m
   have c:levels.findIdx? (fun l=>l.contains t.n.s)=none:=by
    rw[List.findIdx?_eq_none_iff];intro x hx;rw[any_eq_false]at m;simpa using m x hx
   rw[c];exact aK
 ·have E:(t.n.aj != 6)=true:=by simpa using o
  unfold nK;rw[ab o];refine V ?_;refine I [] jZ ?_;exact az
open Go.Xp (bH gW Dy)
def Rh(n:Int):GF prog 343 [y4 n] [] (y4 (n%4294967296)) []:=by
 refine ak func343 ntmps343 ?_;exact az
def Tn(n:Int):GF prog 342 [y4 n] [] (y4 (bH n)) []:=by
 unfold bH
 have i:0<=n%4294967296/\n%4294967296<4294967296:=by omega
 have W:=Rh n;generalize n%4294967296=m at *;refine dj func342 ntmps342 ?_
 by_cases h:m>2147483647
 ·have e:decide ((2147483647:Int)<m)=true:=by simpa using h
  rw[ai h];refine V ?_;exact zaY
 ·have e:decide ((2147483647:Int)<m)=false:=by simpa using h
  rw[ab h];refine V ?_;exact zaY
def Ch(k:Nat)(h:k<=57):[[GV.v (.int .u8 (k:Int))]]=[UInt8.ofNat k].map fun c=>[GV.v (.int .u8 (c.toNat:Int))]:=by
 have:(UInt8.ofNat k).toNat=k:=by simp;omega
 simp[this]
def FP(n:Nat)(hn:n<=1099511627776):GF prog 373 [y4 (n:Int)] [] (.v (sv (gW n))) []:=by
 induction n using Nat.strongRecOn with
 |_ n O =>
 unfold gW;refine dj func373 ntmps373 ?_
 by_cases h:n<10
 ·have e:decide ((n:Int)<10)=true:=by simpa using by omega
  have l:=Ch (48+n) L;rw[Int.natCast_add]at l;rw[dif_pos h];refine V ?_;refine bR ?_;exact aK
 ·have e:decide ((n:Int)<10)=false:=by simpa using by omega
  rw[dif_neg h];have W:=O (n / 10) L L;have M:=Dy (n / 10);have l:=Ch (48+n%10) L;rw[Int.natCast_add]at l;refine V ?_;refine aV (.q 0 (.q 1 (aM 3 4 (.f 2 (.a 7 (aM 8 3 .nil)) 7 (.q 8 (.a 2 (.q 9 (.q 10 .nil)))))))) ?_;refine ay ?_;refine GO.fork ?_ ?_
  ·refine aX [] W ?_;refine zar ?_;exact aK
  ·refine zar ?_;refine aX [] W ?_;exact aK
end Go.Xg
set_option maxHeartbeats 2000000
namespace Go.Xg
open Go.RowKit Go.Xw Go.Proofs
attribute [local irreducible] GW GL GO D GC GA bo bn
def xQ{p:Nat->Bool}{Γ:ap}(h:∀x∈Γ,x.kl=true):oq p Γ=true:=by
 induction Γ with
 |nil=>rfl
 |cons x r O =>
  rw[oq,O fun y B=>h y (eQ _ B),Bool.and_true];have:=h x List.mem_cons_self
  cases x<;>first|rfl|cases this
end Go.Xg
namespace Go.Xg
open Go.RowKit Go.Xw Go.Proofs
def HV{x:Ob}(h:x.kl=true)(f:Nat->Nat):x.dC f=x:=by cases x<;>first|rfl|cases h
theorem HH{X:ap}(h:∀x∈X,x.kl=true)(f:Nat->Nat):X.map (Ob.dC f)=X :=
 (List.map_congr_left fun x hx=>HV (h x hx) f).trans (List.map_id _)
def F8(s n N:Nat)(h:s+n<=N):km (List.range' s n) N=true:=by
 induction n generalizing s with
 |zero=>rfl
 |succ n O =>
  rw[List.range'_succ,km,O (s+1) L]
  have o:Nat.blt s N=true:=by rw[Nat.blt_eq];omega
  have b:(List.range' (s+1) n).contains s=false:=by
   cases W:(List.range' (s+1) n).contains s with
   |false=>rfl
   |true =>
    have:=List.mem_range'_1.1 (rv.1 W);omega
  rw[o,b];rfl
def z7(f:Nat->Nat):∀(X A C:ap),(∀x∈X,x.kl=true)->seen f (A++(X++C)) (List.range' A.length X.length) X
 |[],A,C,_=>trivial
 |x::X,A,C,h=>by
  rw[length_cons,List.range'_succ,seen];refine⟨by rw[hO (a8 _),qs,HV (h x List.mem_cons_self)];rfl,?_⟩
  have:=z7 f X (A++[x]) C fun y B=>h y (eQ _ B)
  rw[bp,List.length_singleton,gK]at this;exact this
attribute [local irreducible] GW GL GO D GC GA bo bn
def vA{R S:Type}{f:R->Value->S}{l:List R}{G:List Value}{i:Nat}{x:R}{h:Value}(o:l[i]?=some x)(b:G[i]?=some h):(List.zipWith f l G)[i]?=some (f x h):=by rw[List.getElem?_zipWith,o,b]
end Go.Xg
namespace Go.Xg
open Go.RowKit Go.Xw
def Ts(A C:ap)(x:Ob):(A++x::C)[A.length]?=some x:=by
 rw[hO (a8 _),qs];rfl
def v7(A C:ap)(x y:Ob):oset (A++x::C) A.length y=A++y::C:=by
 rw[bD,List.set_append_right _ _ (a8 _),qs];rfl
def Ba(q:Nat->Bool):∀(A B:ap),oq q (A++B)=(oq q A&&oq q B)
 |[],B=>by simp[oq]
 |a::A,B=>by simp only[cons_append,oq,Ba q A B,Bool.and_assoc]
section
variable(a b c d e:Ob)(X:ap)(k x y:Ob)
def o5e(F C:ap):(a::b::c::d::e::(F++x::C))[F.length+5]?=some x:=by
 simp
def o5f(F C:ap):oset (a::b::c::d::e::(F++x::C)) (F.length+5) y=a::b::c::d::e::(F++y::C):=by
 have:=v7 (a::b::c::d::e::F) C x y;exact zdc
end
section
variable{P:Program}{m:Nat}{Q:dQ}{fr:am}{Γ:ap}{ops:Array Oper}{rest:List Oper}{d:Option Tmp}{op:Op}{ty:TypeId}{pos:String}{af:Array Edge}
def Wk.Rz{A:ap}{x:Ob}(o:Γ=A++[x])(j:m<=A.length)(ha:∀q,oq q A=true):Wk m fr Γ (rW A.length fr) A:=by
 subst o;have h:=Wk.cut (m:=m) (fr:=fr) (Γ:=A++[x]) (n:=A.length) j (by simp[ha]);simpa using h
def GL.Y6{t:TypeId}{z:Value}{agg:Bool}{k:Nat}[Y:oX P t z][H:Ty P t agg k]{O ts:Tmp}{cs:am}{w:TypeId}{C:String}{A:Array Edge}{W:Option Tmp}(n:z.cells.size=k)(G:lN (bx fr ts)=some cs)(l:Nat.beq ts O=false)(s:iy fr O=true)(N:cs.length=k)(F:nq cs=true)
  (h:GL P m ops Q rest (bI (bI fr (some O) (.loc Γ.length 0)) W (.v undef)) (Γ++[.box t cs])):GL P m ops Q (⟨some O,.alloc t,ty,pos,af,none⟩::⟨W,.store t (.tmp O) (.tmp ts),w,C,A,none⟩::rest) fr Γ:=by
 refine GL.alloc (cs:=gT z.cells.toList) rfl ?_
 have Z:ts≠O:=by intro e;subst e;simp at l
 have r:∀(fr:am)(t:Nat)(g:GV),iy fr t=true->bx (bB fr t g) t=g:=by
  intro fr
  induction fr with
  |nil=>intro t g h;cases h
  |cons x fr S=>intro t g h;cases t with|zero=>rfl|succ t=>exact S t g h
 have q:∀(fr:am)(t u:Nat)(g:GV),u≠t->bx (bB fr t g) u=bx fr u:=by
  intro fr
  induction fr with
  |nil=>intro t u g _;rfl
  |cons x fr S =>
   intro t u g h
   cases t with
   |zero=>cases u with|zero=>exact absurd rfl h|succ u=>rfl
   |succ t=>cases u with|zero=>rfl|succ u=>exact S t u g L
 have j:(gT z.cells.toList).length=k:=by simp[gT,n]
 refine GL.st (i:=Γ.length) (o:=0) (E:=t) (cs:=gT z.cells.toList) (gs:=cs) (r fr O _ s) ze3 ?_ N F (by rw[j];simp) ?_
 ·show lN (bx (bB fr O _) ts)=some cs;rw[q fr O ts _ Z];exact G
 ·have B:lO (gT z.cells.toList) 0 cs=cs:=by
   have:=zz cs (gT z.cells.toList) [] (by rw[j,N]);exact zdc
  rw[B];have e:=v7 Γ [] (.box t (gT z.cells.toList)) (.box t cs);rw[e];exact h
end
section
variable{P:Program}{fn:Func}{R:GV->ap->Prop}{fr:am}{Γ:ap}{e:Exit}
def EN{X Y Z:ap}(r:∀x∈X,x.kl=true)(s:∀x∈Z,x.kl=true) :
  (X++Z).length=(List.range X.length++(List.range Z.length).map (·+(X.length+Y.length))).length/\(List.range X.length++(List.range Z.length).map (·+(X.length+Y.length))).Nodup /\
  ∀(j:Nat)x,(X++Z)[j]?=some x->x.kl=true/\∀i,(List.range X.length++(List.range Z.length).map (·+(X.length+Y.length)))[j]?=some i->(X++(Y++Z))[i]?=some x:=by
 refine⟨by simp,?_,fun j x l=>⟨?_,fun i o=>?_⟩⟩
 ·rw[List.nodup_append];refine⟨List.nodup_range,?_,?_⟩
  ·unfold List.Nodup;rw[List.pairwise_map]
   exact(List.nodup_range (n:=Z.length)).imp fun q w=>q L
  ·intro a v b t;rw[mem_range]at v;obtain⟨c,W,rfl⟩:=x9.1 t;omega
 ·rcases pG (bN l)with h|h
  ·exact r x h
  ·exact s x h
 ·by_cases M:j<X.length
  ·rw[gA M]at l;rw[gA zfn,List.getElem?_range M]at o;cases o;rw[gA M];exact l
  ·rw[hO L]at l;rw[hO zfn,List.length_range]at o;have u:=(b6 l).1;rw[dR,List.getElem?_range u]at o;cases o;show(X++(Y++Z))[j-X.length+(X.length+Y.length)]?=some x;rw[hO L,hO L,show j-X.length+(X.length+Y.length)-X.length-Y.length=j-X.length by omega];exact l
section
variable{t u:Tmp}{T:TypeId}{k:Nat}
def TX[hT:Ty P T true k]{i:Nat}{E:TypeId}{cs:am}{y:Value}(bc:List Nat)(r:ap)(hr:fn.results=#[.cell t T,.tmp u])(Z:e=.normal\/e=.ret)(hg:bx fr t=.loc i 0)(F:Γ[i]?=some (.box E cs))(hk:cs.length=k)(hp:lY cs=true)(s:bx fr u=.v y)
  (hl:r.length=bc.length)(hn:bc.Nodup)(hx:∀(j:Nat)x,r[j]?=some x->x.kl=true/\∀i,bc[j]?=some i->Γ[i]?=some x)(h:R (.tup [.agg cs,.v y]) r):oZ P fn 0 R e fr Γ :=
 ⟨Z,fun B K G w l Y N M=>by
  have⟨b,vs,S,W,H,h4⟩:=N.ob i _ F
  have C:nth l t=.pointer (some ⟨b,0,none⟩):=by
   have:=M.nth t;rw[hg]at this;generalize nth l t=v at this
   cases this with
   |loc _ _ b' n=>rw[S]at n;cases n;rfl
  have A:l.toArray.getD t undef=.pointer (some ⟨b,0,none⟩):=by rw[gQ,C]
  have z:=jx (P:=P) (w:=w) (t:=T) (b:=b) (o:=0) (vs:=vs) (k:=k) (by rw[H.1,hk]) (fun j v hj=>by
   rw[dy,cell_of_row w b j _ E (0,0) W];simpa using hj)
  have q:l[t]?.getD undef=.pointer (some ⟨b,0,none⟩):=by simpa using A
  have J:bu K (fU G bc) vs cs:=H.lY (kp hp);have hu:nth l u=y:=Rel.eE (by rw[<-s];exact M.nth u);refine⟨.tuple #[.agg vs.toArray,y],K,fU G bc,.tup [.agg cs,.v y],r,?_,N.pick Y hl hn hx,?_,h⟩
  ·rw[<-hu,<-gQ l u];simp[results,hr,q,asAddr,z]
  ·have O:bu K (fU G bc) [.agg vs.toArray,y] [.agg cs,.v y]:=.cons (.agg vs cs J.1 J.2) (.cons (.v _) .nil)
   exact .tup [.agg vs.toArray,y] _ O.1 O.2⟩
def Ld[n:Ty P T true k]{i:Nat}{E:TypeId}{cs:am}{y:Value}(X Y Z:ap)(w:fn.results=#[.cell t T,.tmp u])(l:e=.normal\/e=.ret)(hg:bx fr t=.loc i 0)(o:Γ[i]?=some (.box E cs))(N:cs.length=k)(W:lY cs=true)(z:bx fr u=.v y)
  (G:Γ=X++(Y++Z))(q:∀x∈X,x.kl=true)(j:∀x∈Z,x.kl=true)(h:R (.tup [.agg cs,.v y]) (X++Z)):oZ P fn 0 R e fr Γ:=by
 have H:=EN (Y:=Y) q j;exact TX _ (X++Z) w l hg o N W z H.1 H.2.1 (by rw[G];exact H.2.2) h
end
def We{t:Tmp}{T:TypeId}{k:Nat}[n:Ty P T true k]{i:Nat}{E:TypeId}{cs:am}(X Y Z:ap)(v:fn.results=#[.cell t T])(l:e=.normal\/e=.ret)(hg:bx fr t=.loc i 0)(o:Γ[i]?=some (.box E cs))(N:cs.length=k)(W:lY cs=true)
  (G:Γ=X++(Y++Z))(q:∀x∈X,x.kl=true)(j:∀x∈Z,x.kl=true)(h:R (.agg cs) (X++Z)):oZ P fn 0 R e fr Γ:=by
 have H:=EN (Y:=Y) q j;exact Wd _ (X++Z) v l hg o N W H.1 H.2.1 (by rw[G];exact H.2.2) h
end
def pS{A B:Prop}(h:B)(s:Hid B->A:=by intro J;(repeat (first|((first|(apply GL.q;(· exact JW))|refine GL.nil ?_|refine bg ?_|refine GW.seq ?_|refine GW.region ?_|refine GW.skip ?_|refine jM ?_|refine GW.block ?_|(apply GL.gt;(· exact rfl);(· first|exact rfl|assumption))|(apply GL.gf;(· exact rfl);(· first|exact rfl|assumption))|(apply GL.gu;(· exact rfl))|(apply J8;(· exact rfl);(· first|exact rfl|assumption))|(apply J7;(· exact rfl);(· first|exact rfl|assumption)));try refine GN ru ?_)|((first|(apply GL.box;(· exact rfl))|(apply GL.st;(· exact rfl);(· exact rfl);(· exact rfl);(· exact rfl);(· exact rfl);(· exact rfl)));refine qw dd eb ?_)));exact J.1):A:=s ⟨h⟩
open Go.Proofs Tryz Go.Im
open GV (U)
open Go.Xp (Ar)
open Go.Sp (Src)
attribute [local irreducible] GW GL GO D GC GA bo bn
def B4(s:ah):GF prog 46 [.v (sv s)] [] (.v (.bool (iO s))) []:=by
 unfold iO lP lR ef
 cases o:(s==[103,101,116])
 all_goals cases b:(s==[112,117,116])
 all_goals
  refine ak func46 ntmps46 ?_;exact az
section
variable{pK:FuncId}
theorem Db[fQ prog pK](q:Go.Sp.Fn->Bool)(l:List (Go.Sp.Fn))(hn:l.length<=1099511627776)(W:∀x∈l,GF prog pK [.agg (aI x)] [] (.v (.bool (q x))) []) :
  GF prog 113 [.sl 3 (l.map aI),.v (.func (.func pK) #[] #[])] [] (y4 (bL q l)) []:=by
 have C:(l.map aI).length=l.length:=by simp
 refine ak func113 ntmps113 ?_;refine GW.range (l.map aI).length (fun k J u=>J=[.sl 3 (l.map aI),.v (.func (.func pK) #[] #[]),U,U,U,U,U,y4 ((l.map aI).length:Int),y4 (k:Nat),U,U,U,U,U,U,U,U,U,U]/\u=[]/\(l.take k).all (fun y=>!q y)=true) ?_ L ?_ ?_ ?_
 ·exact kP
 ·simp[aI,ii,bx,iy]
 ·rintro k _ _ N⟨rfl,rfl,n⟩;rw[C]at N;obtain⟨x,w⟩:∃x,l[k]?=some x:=⟨l[k],by simp[N]⟩
  have z:(l.map aI)[k]?=some (aI x):=by grind
  have h:=W x (bN w);have m:=mZ (f:=q) w
  have hit:=fun o=>nd (f:=q) w o n
  unfold aI at z h
  cases i:q x with
  |true =>
   rw[i]at h;rw[hit i];refine V ?_;refine jW [] h ?_;exact aK
  |false =>
   rw[i]at h m;refine V ?_;refine jW [] h ?_;exact zbz
 ·rintro _ _⟨rfl,rfl,n⟩;rw[C,dx]at n;rw[kR n];refine zaW ?_
  grind[bx]
theorem tH[fQ prog pK](q:Go.Sp.Fn->Bool)(l:List (Go.Sp.Fn))(hn:l.length<=1099511627776)(W:∀x∈l,GF prog pK [.agg (aI x)] [] (.v (.bool (q x))) []) :
  GF prog 66 [.sl 3 (l.map aI),.v (.func (.func pK) #[] #[])] [] (.v (.bool (l.any q))) []:=by
 have h:=Db q l hn W;rw[<-wP];generalize bL q l=z at *;refine ak func66 ntmps66 ?_;refine I [] h ?_;refine bA ?_
 grind[bx]
theorem CG[fQ prog pK](q:Go.Sp.Fn->Bool)(s:ah)(l:List (Go.Sp.Fn))(hn:l.length<=1099511627776)(W:∀x∈l,GF prog pK [.agg (aI x),.box [.v (sv s)] 0] [] (.v (.bool (q x))) []) :
  GF prog 113 [.sl 3 (l.map aI),.fn (.func pK) [] [.box [.v (sv s)] 0]] [] (y4 (bL q l)) []:=by
 have C:(l.map aI).length=l.length:=by simp
 refine ak func113 ntmps113 ?_;refine GW.range (l.map aI).length (fun k J u=>J=[.sl 3 (l.map aI),.fn (.func pK) [] [.box [.v (sv s)] 0],U,U,U,U,U,y4 ((l.map aI).length:Int),y4 (k:Nat),U,U,U,U,U,U,U,U,U,U]/\u=[]/\(l.take k).all (fun y=>!q y)=true) ?_ L ?_ ?_ ?_
 ·exact kP
 ·exact jA
 ·rintro k _ _ N⟨rfl,rfl,n⟩;rw[C]at N;obtain⟨x,w⟩:∃x,l[k]?=some x:=⟨l[k],by simp[N]⟩
  have z:(l.map aI)[k]?=some (aI x):=by grind
  have h:=W x (bN w);have m:=mZ (f:=q) w
  have hit:=fun o=>nd (f:=q) w o n
  unfold aI at z h
  cases i:q x with
  |true =>
   exact zcp
  |false =>
   rw[i]at h m;refine V ?_;refine mi [] h ?_;exact zbz
 ·rintro _ _⟨rfl,rfl,n⟩;rw[C,dx]at n;rw[kR n];refine zaW ?_
  grind[bx]
theorem CF[fQ prog pK](q:Ar->Bool)(s:ah)(l:List (Ar))(hn:l.length<=1099511627776)(W:∀x∈l,GF prog pK [.agg (bb x),.box [.v (sv s)] 0] [] (.v (.bool (q x))) []) :
  GF prog 111 [.sl 2 (l.map bb),.fn (.func pK) [] [.box [.v (sv s)] 0]] [] (y4 (bL q l)) []:=by
 have C:(l.map bb).length=l.length:=by simp
 refine ak func111 ntmps111 ?_;refine GW.range (l.map bb).length (fun k J u=>J=[.sl 2 (l.map bb),.fn (.func pK) [] [.box [.v (sv s)] 0],U,U,U,U,U,y4 ((l.map bb).length:Int),y4 (k:Nat),U,U,U,U,U,U,U,U,U,U]/\u=[]/\(l.take k).all (fun y=>!q y)=true) ?_ L ?_ ?_ ?_
 ·exact kP
 ·exact jA
 ·rintro k _ _ N⟨rfl,rfl,n⟩;rw[C]at N;obtain⟨x,w⟩:∃x,l[k]?=some x:=⟨l[k],by simp[N]⟩
  have z:(l.map bb)[k]?=some (bb x):=by grind
  have h:=W x (bN w);have m:=mZ (f:=q) w
  have hit:=fun o=>nd (f:=q) w o n
  unfold bb at z h
  cases i:q x with
  |true =>
   exact zcp
  |false =>
   rw[i]at h m;refine V ?_;refine mi [] h ?_;exact zbz
 ·rintro _ _⟨rfl,rfl,n⟩;rw[C,dx]at n;rw[kR n];refine zaW ?_
  grind[bx]
end
def RP(x:Go.Sp.Fn)(s:ah):GF prog 114 [.agg (aI x),.box [.v (sv s)] 0] [] (.v (.bool (x.name==s))) []:=by
 unfold aI;refine ak func114 ntmps114 ?_;exact az
def zu(p:Src)(s:ah)(hn:p.av.length<=1099511627776):GF prog 52 [.agg (aB p),.v (sv s)] [] (y4 (bL (fun x:Go.Sp.Fn=>x.name==s) p.av)) []:=by
 have h:=CG (fun x:Go.Sp.Fn=>x.name==s) s p.av hn (fun x _=>RP x s);generalize bL (fun x:Go.Sp.Fn=>x.name==s) p.av=z at *;refine dj func52 ntmps52 ?_;exact zbR
def IV(x:Ar)(s:ah):GF prog 112 [.agg (bb x),.box [.v (sv s)] 0] [] (.v (.bool (x.name==s))) []:=by
 unfold bb;refine ak func112 ntmps112 ?_;exact az
def rC(p:Src)(s:ah)(hn:p.aq.length<=1099511627776):GF prog 51 [.agg (aB p),.v (sv s)] [] (y4 (bL (fun x:Ar=>x.name==s) p.aq)) []:=by
 have h:=CF (fun x:Ar=>x.name==s) s p.aq hn (fun x _=>IV x s);generalize bL (fun x:Ar=>x.name==s) p.aq=z at *;refine dj func51 ntmps51 ?_;exact zbR
def JU(x:Go.Sp.Fn):GF prog 136 [.agg (aI x)] [] (.v (.bool (decide (x.params.length>40)))) []:=by
 have h:decide ((40:Int)<((x.params.map fun s=>[GV.v (sv s)]).length:Int))=decide (x.params.length>40):=by
  grind
 rw[<-h];unfold aI strs;refine ak func136 ntmps136 ?_;exact az
def Ns(x:Go.Sp.Fn):GF prog 67 [.agg (aI x)] [] (.v (.bool (nB x))) []:=by
 have h:(((x.params.map fun s=>[GV.v (sv s)]).length:Int)==0)=(x.params.length==0):=by
  grind
 unfold nB lQ;rw[<-h];unfold aI strs
 cases o:(x.name==[109,97,105,110])
 all_goals
  refine ak func67 ntmps67 ?_;exact az
section
variable{B:Bs}{K:Fz}{β:Bt}{w:World}{l:List Value}{fr:am}{A C:ap}
def iV{x y:Operand}{E k:Nat}{rows:List am}{h z:Value}(j:Inv B K β (A++(.vech E k rows h::C)) w)(Q:FR K β fr l)(hx:bf fr x=.v h)(F:bf fr y=.v z) :
  ∃O,mo O w/\kH O (fun _=>.no) w/\bu O (fun _=>.no) ([x,y].map (ev l)) [.sl k rows,.v z]:=by
 have⟨O,N,o,b,G⟩:=j.view (i:=A.length) (E:=E) (k:=k) (rows:=rows) (x:=h) zfr;refine⟨O,o,b,?_⟩;show bu O _ [ev l x,ev l y] _;rw[Q.fE hx,Q.fE F];exact .cons G (.cons (.v _) .nil)
end
def nJ(l:List ah):(bs l).length=l.length:=by simp[bs]
def Nz(xs:List Int)(s:Int)(M:xs.length<=1099511627776):GF prog 208 [ints xs,y4 s] [] (y4 (bL (fun x=>s==x) xs)) []:=by
 have E:(xs.map fun i=>[GV.v (ii i)]).length=xs.length:=by simp
 refine ak func208 ntmps208 ?_;refine GW.range (xs.map fun i=>[GV.v (ii i)]).length (fun k fr u=>fr=[ints xs,y4 s,U,U,U,U,ints xs,y4 ((xs.map fun i=>[GV.v (ii i)]).length:Int),y4 (k:Nat),U,U,U,U,U,U,U,U,U,U]/\u=[]/\((xs.take k).all fun x=>!(s==x))=true) ?_ L ?_ ?_ ?_
 ·exact kP
 ·exact jA
 ·rintro k _ _ N⟨rfl,rfl,n⟩;rw[E]at N;obtain⟨x,z⟩:∃x,xs[k]?=some x:=⟨xs[k],by simp[N]⟩;have F:=gE z;have m:=mZ (f:=fun y:Int=>s==y) z
  have hit:=fun o=>nd (f:=fun y:Int=>s==y) z o n
  cases j:(s==x)with
  |true =>
   rw[hit j];exact aK
  |false =>
   refine V ?_;exact⟨rfl,rfl,_,_,Wk.a6 aC,rfl,rfl,by rw[m,n,j];rfl⟩
 ·rintro _ _⟨rfl,rfl,n⟩;rw[E,dx]at n;rw[kR n];exact aK
def Fw(xs:List Int)(s:Int)(M:xs.length<=1099511627776):GF prog 153 [ints xs,y4 s] [] (.v (.bool (xs.contains s))) []:=by
 have j:=Nz xs s M
 have e:xs.contains s=xs.any (fun x=>s==x):=by rw[List.contains_eq_any_beq]
 rw[e,<-wP];generalize bL (fun x=>s==x) xs=i at *;refine ak func153 ntmps153 ?_;refine I [] j ?_;exact az
end Go.Xg
set_option maxHeartbeats 4000000
namespace Go.Xg
open Go.RowKit Go.Xw Go.Proofs Go.Im
attribute [local irreducible] GW GL GO D GC GA bo bn
def mc(l:List ah):iz (l.map fun s=>[GV.v (sv s)])=true:=by
 induction l with
 |nil=>rfl
 |cons s l O=>rw[List.map_cons,iz,O];rfl
def GW.GY{P:Program}{m:Nat}{c:Code}{Q:dQ}{fr c8:am}{Γ bE:ap}(o:sR fr c8)(b:Γ=bE)(h:GW P m c Q c8 bE):GW P m c Q fr Γ:=by
 subst b;exact GW.wk (Wk.a6 o) h
open Tryz
open Go.Xp (Nd)
open Go.Sp (Src)
def tW(n:Nd):Bool:=(n.aj==4&&n.s==[115,105,122,101])&&((n.aw.length:Int)==1)
def zC(p:Src)(a:Nat)(n:Nd)(hn:p.ae[a]?=some n):GF prog 138 [.agg (aB p),y4 (a:Nat)] [] (.v (.bool (tW n))) []:=by
 have w:=cq hn
 have e:(n.aw.map fun i=>[GV.v (ii i)]).length=n.aw.length:=by simp
 unfold tW;rw[<-e];unfold aR ints at w;generalize(n.aw.map fun i=>[GV.v (ii i)])=z at *
 cases o:(n.aj==4)
 all_goals cases b:(n.s==[115,105,122,101])
 all_goals
  refine ak func138 ntmps138 ?_;exact az
def US(p:Src)(s:ah)(hn:p.av.length<=1099511627776):GF prog 259 [.agg (aB p),.v (sv s)] [] (y4 (jv p s)) []:=by
 have O:=zu p s hn;unfold jv lP lR ef
 cases o:(s==[103,101,116])with
 |true =>
  rw[ai zfk];exact zd9
 |false =>
  rw[ab zfk]
  cases b:(s==[112,117,116])with
  |true =>
   rw[ai (.inl (by simpa using b))];exact zd9
  |false =>
   cases G:(s==[115,105,122,101])with
   |true =>
    rw[ai (.inr (by simpa using G))];exact zd9
   |false =>
    rw[ab (by simpa using And.intro (show ¬s=[112,117,116] by simpa using b) (show ¬s=[115,105,122,101] by simpa using G))];unfold bL at O
    cases hx:p.av.findIdx? (fun f:Go.Sp.Fn=>f.name==s)with
    |none =>
     rw[hx]at O
     have T:decide ((0:Int) <= -1)=false:=by decide
     refine ak func259 ntmps259 ?_;exact zeQ
    |some i =>
     rw[hx]at O;have j:i<p.av.length:=(List.findIdx?_eq_some_iff_getElem.1 hx).1;obtain⟨f,l⟩:∃f,p.av[i]?=some f:=⟨p.av[i],by simp[j]⟩
     have w:(p.av.map aI)[i]?=some (aI f):=by rw[dR,l];rfl
     have c:(f.params.map fun s=>[GV.v (sv s)]).length=f.params.length:=by simp
     have T:decide ((0:Int)<=((i:Nat):Int))=true:=by simp
     unfold aI at w;simp only at O |-;unfold lg;rw[l];simp only;rw[<-c];refine ak func259 ntmps259 ?_;exact zeQ
open Go.Xp (T Ar cW)
def Hx{p:Src}{a:Nat}{n:Nd}{l:List T}(r:dr p.ae a (.mk n l)):b8 (.mk n l)=tW n:=by
 rw[dr]at r;unfold b8 tW ef
 congr 1
 rw[r.2.1,cW]
 grind[T.aw]
section
variable(p:Src)(a:Nat)(n:Nd)(l:List T)(ls:List ah)
theorem FI(r:dr p.ae a (.mk n l))(o:p.av.length<=1099511627776)(N:p.aq.length<=1099511627776)(t:ls.length<=1099511627776) :
  GF prog 200 [.agg (aB p),y4 (a:Nat),strs ls] [] (y4 (dw p (.mk n l) ls)) []:=by
 have M:=Hx r;rw[dr]at r;have⟨d,O,J⟩:=r;have Q:=zC p a n d;have w:=cq d
 have e:(n.aw.map fun i=>[GV.v (ii i)]).length=l.length:=by grind[cW]
 unfold dw;rw[M]
 cases B:tW n with
 |true =>
  rw[B]at Q;rw[ai rfl]
  have q:l.length=1:=by
   unfold tW at B
   grind
  obtain⟨u,rfl⟩:∃u,l=[u]:=by
   match l,q with
   |[u],_=>simp
  have G:p.ae[a+1]?=some u.n:=by
   rw[cJ]at J;have:=J.1
   cases u;rw[dr]at this;exact this.1
  have Y:n.aw[0]?=some (((a+1:Nat)):Int):=by rw[O];rfl
  have H:=gE Y;have A:=cq G;show GF _ _ _ _ (y4 (if gO p u.n ls=true then 24 else 0)) _;generalize u.n=m at *;have C:=rC p m.s N;have F:=jm ls m.s t;have k:gO p m ls=((m.aj != 2 ||decide (bL (fun x:Ar=>x.name==m.s) p.aq<0)) ||ls.contains m.s):=rfl;rw[k];generalize bL (fun x:Ar=>x.name==m.s) p.aq=z at *;unfold aR at w A
  cases E:(m.aj != 2)with
  |true =>
   refine ak func200 ntmps200 ?_;refine zev ?_;exact zbI
  |false =>
   cases j:decide (z<0)with
   |true =>
    refine ak func200 ntmps200 ?_;refine zev ?_;refine bj ?_;refine I [] C ?_;exact az
   |false =>
    generalize ls.contains m.s=b at *;cases b
    all_goals
     refine ak func200 ntmps200 ?_;refine zev ?_;refine bj ?_;refine I [] C ?_;refine I [] F ?_;exact az
 |false =>
  rw[B]at Q;rw[ab aU];have c:=US p n.s o;show GF _ _ _ _ (y4 (if jv p n.s = -1 then 22 else if jv p n.s=(l.length:Int)then 0 else 23)) _;generalize jv p n.s=z at *;rw[<-e];unfold aR at w;unfold ints at w;generalize(n.aw.map fun i=>[GV.v (ii i)])=R at *
  cases E:(z == -1)with
  |true =>
   rw[ai ze2];exact zb2
  |false =>
   rw[ab ze2]
   cases j:(z==(R.length:Int))with
   |true =>
    rw[ai ze2];exact zb2
   |false =>
    rw[ab ze2];exact zb2
theorem F6(r:dr p.ae a (.mk n l))(u:p.av.length<=1099511627776)(N:p.aq.length<=1099511627776)(Z:p.au.length<=1099511627776)(o:ls.length<=1099511627776) :
  GF prog 139 [.agg (aB p),y4 (a:Nat),strs ls] [] (y4 (bG p (.mk n l) ls)) []:=by
 have Q:=FI p a n l ls r u N o
 have d:p.ae[a]?=some n:=by grind[dr]
 clear r;have B:=cq d;have q:=jm ls n.s o;have H:=jm p.au n.s Z;have t:=rC p n.s N
 have w:(ls.map fun s=>[GV.v (sv s)]).length=ls.length:=by simp
 have e:bG p (.mk n l) ls=(if n.aj=13 then(if ls.contains n.s=true then 21 else if ls.length>=40 then 26 else 0)
  else if n.aj=2\/n.aj=7 then(if ls.contains n.s=false/\p.au.contains n.s=false then 22 else 0)
  else if n.aj=3\/n.aj=8 then(if ls.contains n.s=true\/bL (fun x:Ar=>x.name==n.s) p.aq<0 then 24 else 0)
  else if n.aj=4 then dw p (.mk n l) ls else 0):=rfl
 rw[e];generalize dw p (.mk n l) ls=M at *;have⟨k,at_,i,s,Y⟩:=n;simp only at *;unfold aR at B;simp only at B;generalize bL (fun x:Ar=>x.name==s) p.aq=z at *;generalize ls.contains s=b at *;generalize p.au.contains s=g at *;rw[<-w]
 by_cases W:k=13
 ·subst W
  have m:((13:Int)==13)=true:=by decide
  rw[ai rfl]
  cases b with
  |true =>
   exact zaB
  |false =>
   cases C:decide ((40:Int)<=(((ls.map fun s=>[GV.v (sv s)]).length:Nat):Int))with
   |true =>
    rw[ab aU,ai ze2];exact zaB
   |false =>
    rw[ab aU,ab ze2];exact zaB
 rw[ab W]
 by_cases c:k=2
 ·subst c
  have m:((2:Int)==13)=false:=by decide
  have E:((2:Int)==2)=true:=by decide
  rw[ai aU]
  cases b with
  |true =>
   exact zaB
  |false =>
   cases g
   all_goals
    exact zdQ
 by_cases O:k=7
 ·subst O
  have m:((7:Int)==13)=false:=by decide
  have E:((7:Int)==2)=false:=by decide
  have R:((7:Int)==7)=true:=by decide
  rw[ai aU]
  cases b with
  |true =>
   exact zaB
  |false =>
   cases g
   all_goals
    exact zdQ
 rw[ab L]
 by_cases G:k=3
 ·subst G
  have m:((3:Int)==13)=false:=by decide
  have E:((3:Int)==2)=false:=by decide
  have R:((3:Int)==7)=false:=by decide
  have A:((3:Int)==3)=true:=by decide
  rw[ai aU]
  cases b with
  |true =>
   exact zaB
  |false =>
   cases J:decide (z<0)with
   |true =>
    rw[ai (.inr ze2)];exact zbh
   |false =>
    rw[ab ze2];exact zbh
 by_cases S:k=8
 ·subst S
  have m:((8:Int)==13)=false:=by decide
  have E:((8:Int)==2)=false:=by decide
  have R:((8:Int)==7)=false:=by decide
  have A:((8:Int)==3)=false:=by decide
  have F:((8:Int)==8)=true:=by decide
  rw[ai aU]
  cases b with
  |true =>
   exact zaB
  |false =>
   cases J:decide (z<0)with
   |true =>
    rw[ai (.inr ze2)];exact zbh
   |false =>
    rw[ab ze2];exact zbh
 rw[ab L]
 by_cases C:k=4
 ·subst C
  have m:((4:Int)==13)=false:=by decide
  have E:((4:Int)==2)=false:=by decide
  have R:((4:Int)==7)=false:=by decide
  have A:((4:Int)==3)=false:=by decide
  have F:((4:Int)==8)=false:=by decide
  have X:((4:Int)==4)=true:=by decide
  rw[ai rfl];refine ak func139 ntmps139 ?_;refine I [] q ?_;exact zcD
 rw[ab C]
 have m:(k==13)=false:=by grind
 have E:(k==2)=false:=by grind
 have R:(k==7)=false:=by grind
 have A:(k==3)=false:=by grind
 have F:(k==8)=false:=by grind
 have X:(k==4)=false:=by grind
 exact zaB
end
def K6{K O:Fz}{β:Bt}{v:Value}{gs:am}(N:c6 K O)(W:∀g∈gs,g.pc=true)(h:Rel K β v (.agg gs)):Rel O (fun _=>.no) v (.agg gs):=by
 cases h with
 |agg l Q M h =>
  exact .agg l gs M fun i v g o b=>((h i v g o b).mono N (dJ.refl β)).pc (W g (bN b))
def zr(p:Src):∀g∈aB p,g.pc=true:=fun g X=>by
 simp only[aB,List.mem_cons,List.not_mem_nil,or_false]at X
 rcases X with rfl|rfl|rfl|rfl<;>rfl
def oH{B:Bs}{K:Fz}{β:Bt}{w:World}{l:List Value}{fr:am}{A C:ap}{p:Src}{x y u:Operand}{E k:Nat}{rows:List am}{h z:Value}(j:Inv B K β (A++(.vech E k rows h::C)) w)(Q:FR K β fr l)(hx:bf fr x=.agg (aB p))(H:bf fr y=.v z)(M:bf fr u=.v h) :
  ∃O,mo O w/\kH O (fun _=>.no) w/\bu O (fun _=>.no) ([x,y,u].map (ev l)) [.agg (aB p),.v z,.sl k rows]:=by
 have⟨O,N,o,b,G⟩:=j.view (i:=A.length) (E:=E) (k:=k) (rows:=rows) (x:=h) zfr;have F:=Q.ev x;rw[hx]at F;refine⟨O,o,b,?_⟩;show bu O _ [ev l x,ev l y,ev l u] _;rw[Q.fE H,Q.fE M];exact .cons (K6 N (zr p) F) (.cons (.v _) (.cons G .nil))
def S1(p:Src)(a:Nat)(n:Nd)(l:List T)(ls:List ah)(c:CS)(R S W:TypeId)(s:Option Addr)(t:Nat)(e:dr p.ae a (.mk n l))(H:p.av.length<=1099511627776)(G:p.aq.length<=1099511627776)(J:p.au.length<=1099511627776)(O:ls.length<=1099511627776) :
  GF prog 137 [y4 (a:Nat),.v (.slice s ls.length t),.loc 0 0,.loc 1 0,.box (aB p) 0,.loc 2 0] [.box R [y4 c.code],.box S [y4 c.skip],.box W [y4 c.place],.vech 9 1 (bs ls) (.slice s ls.length t)] (.tup [])
   [.box R [.v (ii (dn p c a (.mk n l) ls).code)],.box S [.v (ii (dn p c a (.mk n l) ls).skip)],.box W [.v (ii (dn p c a (.mk n l) ls).place)],.vech 9 1 (bs ls) (.slice s ls.length t)]:=by
 have hs:=Hx e;have k:=F6 p a n l ls e H G J O;rw[dr]at e;have⟨Z,Y,o⟩:=e;have j:=zC p a n Z;have hr:=cq Z;have⟨code,place,skip⟩:=c;unfold dn;rw[hs];simp only;generalize bG p (.mk n l) ls=z at *
 cases E:(code != 0)with
 |true =>
  rw[ai (.inl (by simpa using E))];refine ak func137 ntmps137 ?_;exact oA
 |false =>
  cases F:(((a:Nat):Int)==skip)with
  |true =>
   rw[ai (.inr (by simpa using F))];refine ak func137 ntmps137 ?_;exact oA
  |false =>
   rw[ab (by rintro(h|h);(· simp at E;exact h E);(· simp at F;exact F h))];simp only
   cases q:tW n with
   |false =>
    rw[q]at j;rw[ab (show ¬(false=true) by decide)];unfold aR at hr
    cases i:(z != 0)with
    |true =>
     exact zer
    |false =>
     exact zes
   |true =>
    rw[q]at j;rw[ai rfl]
    have N:l.length=1:=by
     unfold tW at q;simp only[aZ,beq_iff_eq]at q;rw[Y,cW]at q;omega
    obtain⟨u,rfl⟩:∃u,l=[u]:=by
     match l,N with
     |[u],_=>exact⟨u,rfl⟩
    have hm:p.ae[a+1]?=some u.n:=by
     rw[cJ]at o;have:=o.1
     cases u;rw[dr]at this;exact this.1
    have M:n.aw[0]?=some (((a+1:Nat)):Int):=by rw[Y];rfl
    have hr0:=gE M;have Q:=cq hm;rw[show la (.mk n [u])=u.n from rfl];generalize u.n=m at *;unfold aR at hr Q
    cases X:(m.aj != 2)with
    |true =>
     rw[ai (show m.aj≠2 by simpa using X)]
     cases i:(z != 0)with
     |true =>
      exact zer
     |false =>
      exact zes
    |false =>
     rw[ab (show ¬(m.aj≠2) by simpa using X)]
     cases i:(z != 0)with
     |true =>
      exact zer
     |false =>
      exact zes
open GV (U)
open Go.Xp (be aP)
def Io(p:Src):GV:=.fn (.func 137) [] [.loc 0 0,.loc 1 0,.box (aB p) 0,.loc 2 0]
def QW(p:Src):GV:=.fn (.func 115) [] [.loc 3 0,.loc 4 0,.box (aB p) 0,.loc 5 0]
def Cm(p:Src)(j Y i k X z:TypeId)(s:CS)(ls:List ah)(S:Option Addr)(c:Nat):ap :=
 [.box j [y4 s.code],.box Y [y4 s.skip],.box i [y4 s.place],.box k [Io p],.box X [.v (.slice S ls.length c)],.box z [QW p],.vech 9 1 (bs ls) (.slice S ls.length c)]
def PH(p:Src)(B C E G H J:TypeId)(hp:p.ae.length<=1048576)(W:∀n∈p.ae,n.aw.length<=1099511627776)(R:p.av.length<=1099511627776)(Q:p.aq.length<=1099511627776)(S:p.au.length<=1099511627776):∀(N:Nat)(t:T),be t<=N->∀(a:Nat)(s:CS)(ls:List ah)(j:Option Addr)(m:Nat),dr p.ae a t->ls.length+be t<=8388608 ->
  GC prog 115 [y4 (a:Nat),.loc 3 0,.loc 4 0,.box (aB p) 0,.loc 5 0] (Cm p B C E G H J s ls j m) fun g Δ=>g=.tup []/\∃b c,Δ=Cm p B C E G H J (fy (dn p) t a s ls).1 (fy (dn p) t a s ls).2 b c:=by
 intro N
 induction N with
 |zero=>intro t h;exact zeK
 |succ N ih =>
 intro t hN a s ls j m q X
 cases t with
 |mk n l =>
 rw[Go.Xp.be]at hN X;have A:=q;rw[dr]at q;have⟨hn,hk,Y⟩:=q;rw[fy];have hr:=cq hn;have Lt:=W n (bN hn);have ht:=S1 p a n l ls s B C E j m A R Q S L;generalize Lx:(dn p) s a (.mk n l) ls=o at *
 have d:n.aw.length=l.length:=by rw[hk,cW]
 unfold aR at hr;unfold Cm Io QW;refine ak func115 ntmps115 ?_;refine GL.re [0,1,2,6] ht rfl rfl rfl (by repeat (first|exact trivial|refine⟨rfl,?_⟩)) ?_;rintro _ _⟨rfl,rfl⟩;refine zas ?_;refine GW.range (n.aw.map fun i=>[GV.v (ii i)]).length (fun k fr Γ=>∃b c,fr=[y4 (a:Nat),.loc 3 0,.loc 4 0,.box (aB p) 0,.loc 5 0,U,U,U,U,U,U,U,U,U,U,U,U,ints n.aw,y4 ((n.aw.map fun i=>[GV.v (ii i)]).length:Int),y4 (k:Nat),U,U,U,U,U,U,U,U,U,U,U,U,U,U,U,U,U,U,U,U,U,U,U]/\Γ=Cm p B C E G H J (dh (dn p) (l.take k) (a+1) o ls).1 (dh (dn p) (l.take k) (a+1) o ls).2 b c) ?_ ze2 ?_ ?_ ?_
 ·exact⟨_,_,Wk.a6 aC,j,m,rfl,rfl⟩
 ·rintro k _ _⟨j,m,rfl,rfl⟩;exact dS
 ·rintro k _ _ z⟨j,m,rfl,rfl⟩;rw[bS,d]at z;obtain⟨u,F⟩:∃u,l[k]?=some u:=⟨l[k],by simp[z]⟩;have r:=rK (n:=a+1) F;rw[<-hk]at r;have Ur:=gE r;have rI:=oy F;have Z:dr p.ae (a+1+aP (l.take k)) u:=cJ.ix l (a+1) k u Y F
  have w:(dh (dn p) (l.take k) (a+1) o ls).2.length<=ls.length+aP (l.take k):=by
   grind[oc,bp,pQ]
  rw[yI _ F];generalize(dh (dn p) (l.take k) (a+1) o ls).1=s2 at *;generalize(dh (dn p) (l.take k) (a+1) o ls).2=e at *;have hv:=ih u L (a+1+aP (l.take k)) s2 e j m Z L;unfold Cm Io QW at hv |-;refine V ?_;refine GL.re [0,1,2,3,4,5,6] hv rfl rfl rfl (by repeat (first|exact trivial|refine⟨rfl,?_⟩)) ?_;rintro _ _⟨rfl,b,c,rfl⟩;exact zeL
 ·rintro _ _⟨j,m,rfl,rfl⟩;rw[bS,d,dx]
  have w:(dh (dn p) l (a+1) o ls).2.length<=ls.length+aP l:=by
   grind[oc,bp,pQ]
  generalize(dh (dn p) l (a+1) o ls).1=s2 at *;generalize(dh (dn p) l (a+1) o ls).2=e at *;have B1:(bs e).length=e.length:=nJ e;unfold Cm Io QW;refine bg ?_
  cases hv:(n.aj==13)with
  |false =>
   rw[ab ze2];exact zeR
  |true =>
   rw[ai ze2];refine zcX ?_;refine OA rfl rfl (GL.mr 6 (news:=[[.v (sv n.s)]]) rfl rfl rfl aH rfl rfl (by refine⟨?_,?_⟩;(· show _+1<=_;omega);(· show(_+1)*_<=_;omega)) ?_);intro M O;refine zej ?_;exact⟨rfl,M,O,by simp[bs]⟩
def RC(p:Src)(j Y k:TypeId)(i:Nat)(f:Go.Sp.Fn)(t:T)(s:CS)(X:p.ae.length<=1048576)(e:∀n∈p.ae,n.aw.length<=1099511627776)(o:p.av.length<=1099511627776)(N:p.aq.length<=1099511627776)(Z:p.au.length<=1099511627776)
  (hf:p.av[i]?=some f)(W:f.params.length<=1048576)(A:0<=f.body)(r:dr p.ae f.body.toNat t)(z:be t<=1048576) :
  GF prog 53 [.agg (aB p),y4 (i:Nat),Io p] [.box j [y4 s.code],.box Y [y4 s.skip],.box k [y4 s.place]] (.tup []) [.box j [.v (ii (fy (dn p) t f.body.toNat s f.params).1.code)],.box Y [.v (ii (fy (dn p) t f.body.toNat s f.params).1.skip)],.box k [.v (ii (fy (dn p) t f.body.toNat s f.params).1.place)]]:=by
 have w:(p.av.map aI)[i]?=some (aI f):=by grind
 have d:(f.params.map fun s=>[GV.v (sv s)]).length=f.params.length:=by simp
 have F:=mc f.params;obtain⟨b,m⟩:∃b:Nat,f.body=(b:Int):=⟨f.body.toNat,by omega⟩;rw[m,eV]at r |-;unfold aI at w;rw[m]at w;unfold Io;refine dj func53 ntmps53 ?_;refine za8 ?_;refine GL.nb 5 rfl rfl rfl rfl F L ?_;intro S c;rw[d];refine bh ?_;simp only[List.nil_append,length_nil,dy];refine V ?_;refine GW.GY (c8:=U::y4 (i:Nat)::U::.box (aB p) 0::U::.loc 4 0::.loc 6 0::.loc 7 0::zU 16 []) (bE:=[.box j [y4 s.code],.box Y [y4 s.skip],.box k [y4 s.place],.gone,.box _ [.fn (.func 137) [] [.loc 0 0,.loc 1 0,.box (aB p) 0,.loc 2 0]],.vech 9 1 (bs f.params) (.slice S f.params.length c),.box _ [.v (.slice S f.params.length c)],.box _ [.fn (.func 115) [] [.loc 4 0,.loc 6 0,.box (aB p) 0,.loc 7 0]]]) aC rfl ?_;refine aV (aM 0 7 (.a 7 .nil)) ?_;refine ay ?_;have q:=PH p j Y k;refine OA rfl rfl (GL.re [0,1,2,4,6,7,5] (q _ _ _ X e o N Z _ t (a8 _) b s f.params S c r L) rfl rfl rfl (by repeat (first|exact trivial|refine⟨rfl,?_⟩)) ?_);rintro _ _⟨rfl,u,l,rfl⟩;refine⟨by simp[Cm],?_⟩;unfold Cm;refine zaM ?_;exact zcj
end Go.Xg
namespace Go.Im
open Go.Xp Go.Sp
def GP{l:List ah}:uy l=false↔∀k,k<l.length->oI l k=false:=by
 unfold uy;rw[any_eq_false];constructor
 ·intro h k N;have:=h k (List.mem_range.2 N);exact zdc
 ·intro h k N;rw[h k (List.mem_range.1 N)];decide
def se{l:List Ar}{k:Nat}{a:Ar}(h:l[k]?=some a):eK (l.take (k+1))=eK (l.take k)+a.size:=by
 unfold eK;rw[c7,h,List.foldl_append];rfl
def uw{l:List Ar}(h:∀a∈l,0<=a.size/\a.size<=2147483648):∀k,0<=eK (l.take k)/\eK (l.take k)<=(k:Int)*2147483648:=by
 intro k
 induction k with
 |zero=>simp[eK]
 |succ k O =>
  cases hx:l[k]? with
  |none =>
   have:l.take (k+1)=l.take k:=by rw[c7,hx];simp
   rw[this];omega
  |some a =>
   have:=h a (bN hx);rw[se hx];omega
def DH(p:Src)(l:List T)(a:Nat):ic p [] l a=(0,0):=by rfl
end Go.Im
namespace Go.Xg
open Go.RowKit Go.Xw Go.Proofs Tryz Go.Im
open GV (U)
open Go.Xp (T be)
open Go.Sp (Src)
def D.CX{P:Program}{fr:am}{Γ:ap}{x up:Operand}{t e:TypeId}{k:Nat}[n:lK P t e k]{rows:List am}{E:IntKind}{i:Nat}(hx:bf fr x=.sl k rows)(m:bf fr up=.v (.int E i))(hi:i<rows.length):D P (.slice t x none (some up) none) fr Γ (.sl k (rows.take i)):=fun B K β w l F O=>by
 have h:=O.ev x;rw[hx]at h;have A:=O.fE m;generalize s:ev l x=v at h
 cases h with
 |sl0 a c=>simp at hi
 |sl b o c _ _ h X =>
  refine⟨.slice (some ⟨b,o,none⟩) i c,fun d H G u=>?_,?_⟩
  ·have C:¬(c=0):=by omega
   have N:(i:Int)<=(c:Int):=by omega
   have W:i<=c:=by omega
   simp[execOp,Instr.sliceAt,Instr.slice,Instr.sliceBounds,Instr.sliceBound,asIntOf,s,A,run_underlying n.und,iI n.siz,C,N,W,pX]
  ·have:=Rel.sl (K:=K) (β:=β) b o c k (rows.take i) (fun j r z=>?_) (by simp;omega)
   ·rw[iC,Nat.min_eq_left (Nat.le_of_lt hi)]at this;exact this
   ·have Y:j<i:=by
     rcases Nat.lt_or_ge j i with q|q
     ·exact q
     ·rw[List.getElem?_eq_none (by rw[iC];omega)]at z;cases z
    rw[List.getElem?_take,ai Y]at z;exact h j r z
attribute [local irreducible] GW GL GO D GC GA bo bn
def BS(p:Src)(i:Nat)(f:Go.Sp.Fn)(t:T)(b:p.ae.length<=1048576)(e:∀n∈p.ae,n.aw.length<=1099511627776)(r:p.av.length<=1099511627776)(W:p.aq.length<=1099511627776)(Z:p.au.length<=1099511627776)
  (hf:p.av[i]?=some f)(S:f.params.length<=1048576)(m:0<=f.body)(w:dr p.ae f.body.toNat t)(z:be t<=1048576) :
  GF prog 68 [.agg (aB p),y4 (i:Nat)] [] (.tup [.v (ii (ib p f t f.body.toNat).1),.v (ii (ib p f t f.body.toNat).2)]) []:=by
 have A:(p.av.map aI)[i]?=some (aI f):=by rw[dR,hf];rfl
 have C:(f.params.map fun s=>[GV.v (sv s)]).length=f.params.length:=by simp
 have l:=RC p 3 3 3 i f t ⟨0,0,-1⟩ b e r W Z hf S m w z;unfold aI at A;unfold ib;refine ak func68 ntmps68 ?_;refine GW.range (f.params.map fun s=>[GV.v (sv s)]).length (fun k J B=>J=[U,y4 (i:Nat),.loc 0 0,U,U,U,strs f.params,U,U,U,U,U,U,U,U,U,U,U,strs f.params,y4 ((f.params.map fun s=>[GV.v (sv s)]).length:Int),y4 (k:Nat),U,U,U,U,U,U,U,U,U,U,U,U,U,U,U,U]/\B=[.box 28 (aB p)]/\∀j,j<k->oI f.params j=false) ?_ L ?_ ?_ ?_
 ·exact⟨_,_,Wk.a6 aC,rfl,rfl,fun j Y=>absurd Y (Nat.not_lt_zero _)⟩
 ·exact jA
 ·rintro k _ _ N⟨rfl,rfl,o⟩;have Q:=N;rw[C]at N;obtain⟨x,hx⟩:∃x,f.params[k]?=some x:=⟨f.params[k],by simp[N]⟩
  have c:(f.params.map fun s=>[GV.v (sv s)])[k]?=some [.v (sv x)]:=by rw[dR,hx];rfl
  have R:=jm (f.params.take k) x (by rw[iC];omega)
  have X:oI f.params k=(f.params.take k).contains x:=by unfold oI;rw[hx]
  rw[<-X]at R;unfold strs at R;rw[map_take]at R
  cases O:oI f.params k with
  |true =>
   rw[O]at R
   have u:uy f.params=true:=by
    cases h:uy f.params with
    |true=>rfl
    |false=>rw[GP.1 h k N]at O;cases O
   rw[ai u];refine V ?_;refine GL.q (D.CX rfl rfl Q) ?_;refine zak ?_;refine I [] R ?_;exact eu
  |false =>
   rw[O]at R;refine V ?_;refine GL.q (D.CX rfl rfl Q) ?_;refine zak ?_;refine I [] R ?_
   exact⟨rfl,rfl,_,_,Wk.a6 aC,rfl,rfl,fun j Y=>by
    rcases Nat.lt_succ_iff_lt_or_eq.1 Y with h|rfl
    ·exact o j h
    ·exact O⟩
 ·rintro _ _⟨rfl,rfl,o⟩;rw[C]at o;rw[ab (by rw[GP.2 o];decide)];refine bg ?_;refine GW.wk (Wk.freeze (i:=0) rfl rfl rfl (bl _)) ?_;refine GW.GY (c8:=U::y4 (i:Nat)::.box (aB p) 0::zU 34 []) (bE:=[.gone]) aC rfl ?_;refine V ?_;refine I [1,3,2] l ?_;refine aV (aM 0 4 .nil) ?_;refine ay ?_;exact q6
open Go.Xp (Ar)
def CB(p:Src)(r:p.av.length<=1099511627776)(O:p.aq.length<=1048576)(w:∀a∈p.aq,0<=a.size/\a.size<=2147483648):GF prog 65 [.agg (aB p)] [] (.v (.bool (gS p))) []:=by
 have C:(p.aq.map bb).length=p.aq.length:=by simp
 have b:(p.av.map aI).length=p.av.length:=by simp
 have Z:(p.au.map fun s=>[GV.v (sv s)]).length=p.au.length:=by simp
 have Q:=tH (pK:=136) (fun x=>decide (x.params.length>40)) p.av r (fun x _=>JU x);unfold gS;generalize p.av.any (fun x=>decide (x.params.length>40))=E at *;have i:=uw w;refine ak func65 ntmps65 ?_;refine GW.range (p.aq.map bb).length (fun k J B=>J=U::.loc 0 0::U::y4 (eK (p.aq.take k))::U::U::U::.sl 2 (p.aq.map bb)::y4 ((p.aq.map bb).length:Int)::y4 (k:Nat)::zU 30 []/\B=[.box 28 (aB p)]/\(p.aq.take k).all (fun a=>!(a.size==0))=true) ?_ L ?_ ?_ ?_
 ·exact kP
 ·exact jA
 ·rintro k _ _ N⟨rfl,rfl,o⟩;rw[C]at N;obtain⟨x,hx⟩:∃x,p.aq[k]?=some x:=⟨p.aq[k],by simp[N]⟩
  have A:(p.aq.map bb)[k]?=some (bb x):=by rw[dR,hx];rfl
  have l:=mZ (f:=fun a:Ar=>a.size==0) hx;have R:=se hx;have u:=i k;have W:=w x (bN hx);unfold bb at A
  cases q:(x.size==0)with
  |true =>
   have:p.aq.any (fun a=>a.size==0)=true:=pz.2 ⟨x,bN hx,q⟩;rw[this];exact aK
  |false =>
   rw[R];generalize eK (p.aq.take k)=c at *;refine V ?_;exact⟨rfl,rfl,_,_,(Wk.cut (n:=1) (bl _) rfl).trans (Wk.a6 aC),rfl,rfl,by rw[l,o,q];rfl⟩
 ·rintro _ _⟨rfl,rfl,o⟩;rw[C,dx]at o |-
  have:p.aq.any (fun a=>a.size==0)=false:=by
   rw[any_eq_false];rw[hY]at o;intro x hx;simpa using o x hx
  rw[this];have z:decide (p.av.length>40)=decide ((40:Int)<((p.av.map aI).length:Int)):=decide_eq_decide.2 (by rw[b];omega);have S:decide (p.au.length>29)=decide ((29:Int)<((p.au.map fun s=>[GV.v (sv s)]).length:Int)):=decide_eq_decide.2 (by rw[Z];omega);have t:decide (eK p.aq>8000)=decide ((8000:Int)<eK p.aq):=rfl;rw[z,S,t];generalize eK p.aq=c at *;refine bg ?_
  cases q:decide ((40:Int)<((p.av.map aI).length:Int))
  all_goals cases d:decide ((29:Int)<((p.au.map fun s=>[GV.v (sv s)]).length:Int))
  all_goals cases G:decide ((8000:Int)<c)
  all_goals
   refine V ?_
   first
    |(refine bA ?_;exact⟨rfl,rfl⟩)
    |(refine ja [] Q ?_;refine V ?_;refine bA ?_;exact⟨rfl,rfl⟩)
open Go.Xp (aP)
def BJ(p:Src)(O:GF prog 64 [.agg (aB p)] [] (.v (.bool false)) []):GF prog 16 [.agg (aB p)] [] (.tup [y4 20,y4 0]) []:=by
 refine ak func16 ntmps16 ?_;refine I [] O ?_;refine lJ ?_
 grind[bx]
def zi(p:Src)(l:List T)(ns:List ah)(hns:ns.length<=8388608)(Z:p.av.length=l.length)(Lr:p.av.length<=1048576)
  (X:GF prog 64 [.agg (aB p)] [] (.v (.bool true)) [])
  (W:GC prog 47 [.agg (aB p)] [] fun g Δ=>∃a c,g=.v (.slice a ns.length c)/\Δ=[.vech 9 1 (bs ns) (.slice a ns.length c)])
  (J:GF prog 65 [.agg (aB p)] [] (.v (.bool (gS p))) [])
  (hq:∀i f t,p.av[i]?=some f->l[i]?=some t->GF prog 68 [.agg (aB p),y4 (i:Nat)] [] (.tup [.v (ii (ib p f t (aP (l.take i))).1),.v (ii (ib p f t (aP (l.take i))).2)]) []) :
  GF prog 16 [.agg (aB p)] []
   (.tup [.v (ii (if gh ns=true then((21,0):Int × Int)else if gS p=true then(26,0)else if p.av.any nB=false then(25,0)else ic p p.av l 0).1),.v (ii (if gh ns=true then((21,0):Int × Int)else if gS p=true then(26,0)else if p.av.any nB=false then(25,0)else ic p p.av l 0).2)]) []:=by
 have B:(ns.map fun s=>[GV.v (sv s)]).length=ns.length:=by simp
 have A:(p.av.map aI).length=p.av.length:=by simp
 have E:=tH (pK:=67) nB p.av L (fun x _=>Ns x);generalize gS p=tm at *;refine ak func16 ntmps16 ?_;refine I [] X ?_;refine bP [] W ?_;rintro _ _⟨ad,cp,rfl,rfl⟩;refine ch ?_;refine GL.wk (Wk.sr (t:=14) (i:=1) rfl rfl rfl) ?_;refine GL.wk (Wk.cut (n:=1) (bl _) rfl) ?_;refine GL.wk (Wk.a6 (c8:=U::.loc 0 0::zU 12 (strs ns::zU 40 [])) aC) ?_;refine zak ?_;refine GW.range (ns.map fun s=>[GV.v (sv s)]).length (fun k G O=>G=[U,.loc 0 0,U,U,strs ns,U,U,U,U,U,U,U,U,U,U,strs ns,y4 ((ns.map fun s=>[GV.v (sv s)]).length:Int),y4 (k:Nat),U,U,U,U,U,U,U,U,U,U,U,U,U,U,U,U,U,U,U,U,U,U,U,U,U,U,U,U,U,U,U,U,U,U,U,U,U]/\O=[.box 28 (aB p)]/\∀j,j<k->mu ns j=false) ?_ L ?_ ?_ ?_
 ·exact⟨_,_,Wk.a6 aC,rfl,rfl,fun j R=>absurd R (Nat.not_lt_zero _)⟩
 ·exact jA
 ·rintro k _ _ b⟨rfl,rfl,d⟩;have m:=b;rw[B]at b;obtain⟨x,hx⟩:∃x,ns[k]?=some x:=⟨ns[k],by simp[b]⟩
  have hrs:(ns.map fun s=>[GV.v (sv s)])[k]?=some [.v (sv x)]:=by grind
  have w:=B4 x;have u:=jm (ns.take k) x ze2
  have F:mu ns k=(iO x ||(ns.take k).contains x):=by grind[mu]
  unfold strs at u;rw[map_take]at u
  cases H:iO x with
  |true =>
   rw[H]at w F
   have o:gh ns=true:=by
    grind[gh]
   rw[ai o];refine V ?_;refine I [] w ?_;exact eu
  |false =>
   rw[H]at w F
   cases z:(ns.take k).contains x with
   |true =>
    rw[z]at u F
    have o:gh ns=true:=by
     grind[gh]
    rw[ai o];refine V ?_;refine I [] w ?_;refine GL.q (D.CX rfl rfl m) ?_;refine zak ?_;refine I [] u ?_;exact eu
   |false =>
    rw[z]at u F;refine V ?_;refine I [] w ?_;refine GL.q (D.CX rfl rfl m) ?_;refine zak ?_;refine I [] u ?_
    exact⟨rfl,rfl,_,_,Wk.a6 aC,rfl,rfl,fun j R=>by
     grind⟩
 ·rintro _ _⟨rfl,rfl,d⟩;rw[B]at d;rw[ab (show ¬gh ns=true by grind[gh])];refine bg ?_
  cases tm with
  |true =>
   rw[ai rfl];refine V ?_;refine I [] J ?_;exact eu
  |false =>
   rw[ab aU]
   cases C:p.av.any nB with
   |false =>
    rw[C]at E;rw[ai rfl];refine V ?_;refine I [] J ?_;refine I [] E ?_;exact eu
   |true =>
    rw[C]at E;rw[ab aU];refine V ?_;refine I [] J ?_;refine I [] E ?_;refine GW.range (p.av.map aI).length (fun k G O=>G=U::.loc 0 0::zU 37 (.sl 3 (p.av.map aI)::y4 ((p.av.map aI).length:Int)::y4 (k:Nat)::zU 13 [])/\O=[.box 28 (aB p)]/\ic p p.av l 0=ic p (p.av.drop k) (l.drop k) (aP (l.take k))) ?_ L ?_ ?_ ?_
    ·exact⟨_,_,Wk.a6 aC,rfl,rfl,by rfl⟩
    ·exact jA
    ·rintro k _ _ b⟨rfl,rfl,e⟩;rw[A]at b;obtain⟨f,Y⟩:∃f,p.av[k]?=some f:=⟨p.av[k],by simp[b]⟩;obtain⟨t,S⟩:∃t,l[k]?=some t:=⟨l[k]'L,cY _⟩;have Q:=hq k f t Y S
     have M:p.av.drop k=f::p.av.drop (k+1):=by grind[lz,cY,su]
     have N:l.drop k=t::l.drop (k+1):=by grind[lz,cY,su]
     rw[M,N,ic,<-Py S]at e
     cases H:((ib p f t (aP (l.take k))).1 != 0)with
     |true =>
      rw[ai ze2]at e;rw[e];generalize ib p f t (aP (l.take k))=r at *;refine V ?_;refine I [] Q ?_;exact eu
     |false =>
      rw[ab ze2]at e;generalize ib p f t (aP (l.take k))=r at *;refine V ?_;refine I [] Q ?_;exact⟨rfl,rfl,_,_,Wk.a6 aC,rfl,rfl,e⟩
    ·rintro _ _⟨rfl,rfl,e⟩;rw[A,drop_length,DH]at e;rw[e];refine bg ?_;exact q6
def Lg(p:Src)(c z:Int)(h:GF prog 16 [.agg (aB p)] [] (.tup [y4 c,y4 z]) []):GF prog 44 [.agg (aB p)] [] (.v (.bool (c==0))) []:=by
 refine ak func44 ntmps44 ?_;refine I [] h ?_;refine bA ?_
 grind[bx]
end Go.Xg
set_option maxHeartbeats 2000000
namespace Go.Xg
open Go.RowKit Go.Xw Go.Proofs Tryz Go.Im
open GV (U)
open Go.Xp (Ar)
open Go.Sp (Src)
attribute [local irreducible] GW GL GO D GC GA bo bn
def cC(p:Src)(h:Value)(c:SS):am:=[strs p.au,.sl 2 (p.aq.map bb),.sl 3 (p.av.map aI),.sl 5 (p.ae.map aR),.v h,y4 c.code,y4 c.at_]
def jI(p:Src)(h:Value)(c:SS)(k z:Int):GF prog 206 [.loc 0 0,y4 k,y4 z] [.box 155 (cC p h c)] (.tup []) [.box 155 (cC p h (c.fail k z))]:=by
 unfold SS.fail
 cases W:(c.code==0)with
 |true =>
  rw[ai (by simpa using W)];unfold cC;refine ak func206 ntmps206 ?_;exact oA
 |false =>
  rw[ab (by simpa using W)];unfold cC;refine ak func206 ntmps206 ?_;exact oA
def Jn(s:ah):GF prog 56 [.v (sv s)] [] (.v (.bool (iO s))) []:=by
 unfold iO lP lR ef
 cases o:(s==[103,101,116])
 all_goals cases b:(s==[112,117,116])
 all_goals
  refine ak func56 ntmps56 ?_;exact az
def zN(p:Src)(s:ah)(hn:p.aq.length<=1099511627776):GF prog 118 [.agg (aB p),.v (sv s)] [] (y4 (bL (fun x:Ar=>x.name==s) p.aq)) []:=by
 have C:(p.aq.map bb).length=p.aq.length:=by simp
 refine ak func118 ntmps118 ?_;refine GW.range (p.aq.map bb).length (fun k J u=>J=[U,.v (sv s),.loc 0 0,U,U,U,U,U,.sl 2 (p.aq.map bb),y4 ((p.aq.map bb).length:Int),y4 (k:Nat),U,U,U,U,U,U,U,U,U,U]/\u=[.box 28 (aB p)]/\(p.aq.take k).all (fun y=>!(y.name==s))=true) ?_ L ?_ ?_ ?_
 ·exact kP
 ·exact jA
 ·rintro k _ _ N⟨rfl,rfl,o⟩;rw[C]at N;obtain⟨x,w⟩:∃x,p.aq[k]?=some x:=⟨p.aq[k],by simp[N]⟩
  have z:(p.aq.map bb)[k]?=some (bb x):=by rw[dR,w];rfl
  have l:=mZ (f:=fun y:Ar=>y.name==s) w
  have hit:=fun q=>nd (f:=fun y:Ar=>y.name==s) w q o
  unfold bb at z
  cases i:(x.name==s)with
  |true =>
   rw[hit i];exact aK
  |false =>
   exact zcE
 ·rintro _ _⟨rfl,rfl,o⟩;rw[C,dx]at o;rw[kR o];exact aK
def Hz(p:Src)(s:ah)(hn:p.av.length<=1099511627776):GF prog 94 [.agg (aB p),.v (sv s)] [] (y4 (bL (fun x:Go.Sp.Fn=>x.name==s) p.av)) []:=by
 have C:(p.av.map aI).length=p.av.length:=by simp
 refine ak func94 ntmps94 ?_;refine GW.range (p.av.map aI).length (fun k J u=>J=[U,.v (sv s),.loc 0 0,U,U,U,U,U,.sl 3 (p.av.map aI),y4 ((p.av.map aI).length:Int),y4 (k:Nat),U,U,U,U,U,U,U,U,U,U]/\u=[.box 28 (aB p)]/\(p.av.take k).all (fun y=>!(y.name==s))=true) ?_ L ?_ ?_ ?_
 ·exact kP
 ·exact jA
 ·rintro k _ _ N⟨rfl,rfl,o⟩;rw[C]at N;obtain⟨x,w⟩:∃x,p.av[k]?=some x:=⟨p.av[k],by simp[N]⟩
  have z:(p.av.map aI)[k]?=some (aI x):=by rw[dR,w];rfl
  have l:=mZ (f:=fun y:Go.Sp.Fn=>y.name==s) w
  have hit:=fun q=>nd (f:=fun y:Go.Sp.Fn=>y.name==s) w q o
  unfold aI at z
  cases i:(x.name==s)with
  |true =>
   rw[hit i];exact aK
  |false =>
   exact zcE
 ·rintro _ _⟨rfl,rfl,o⟩;rw[C,dx]at o;rw[kR o];exact aK
end Go.Xg
set_option maxHeartbeats 4000000
namespace Go.Im
open Go.Xp Go.Sp
def wJ(l:List ah)(k:Nat):Bool:=(List.range k).any (oI l)
def BP(l:List ah)(k:Nat):wJ l (k+1)=(wJ l k ||oI l k):=by
 unfold wJ;rw[List.range_succ,any_append];simp
def lF(f:Go.Sp.Fn)(c:SS)(k:Nat):SS:=⟨f.params.take k,if wJ f.params k=true then jq c.code 21 else c.code,if wJ f.params k=true/\c.code=0 then 0 else c.at_⟩
section
variable{f:Go.Sp.Fn}{c:SS}{k:Nat}
def Pa(h:oI f.params k=true):(lF f c (k+1)).code=((lF f c k).fail 21 0).code/\(lF f c (k+1)).at_=((lF f c k).fail 21 0).at_:=by
 unfold lF SS.fail;simp only[BP,h,Bool.or_true,true_and,if_true];unfold jq
 cases wJ f.params k<;>by_cases o:c.code=0<;>simp[o]
def Mt(h:oI f.params k=false):(lF f c (k+1)).code=(lF f c k).code/\(lF f c (k+1)).at_=(lF f c k).at_:=by
 unfold lF;simp only[BP,h,Bool.or_false,and_self]
end
end Go.Im
namespace Go.Xg
open Go.RowKit Go.Xw Go.Proofs Tryz Go.Im
open GV (U)
open Go.Sp (Src)
attribute [local irreducible] GW GL GO D GC GA bo bn
def FY(p:Src)(J:Value)(c:SS)(f:Go.Sp.Fn)(Q:f.params.length<=1048576) :
  GC prog 149 [.loc 0 0,.agg (aI f)] [.box 155 (cC p J c)] fun g Δ=>g=.tup []/\∃i j,Δ=[.box 155 (cC p (.slice i f.params.length j) (qQ f c)),.vech 9 1 (bs f.params) (.slice i f.params.length j)]:=by
 have E:(f.params.map fun s=>[GV.v (sv s)]).length=f.params.length:=by simp
 have u:qQ f c=⟨f.params,(lF f c f.params.length).code,(lF f c f.params.length).at_⟩:=by
  unfold qQ lF wJ uy;rfl
 rw[u]
 have t:(lF f c 0).code=c.code/\(lF f c 0).at_=c.at_:=by unfold lF wJ;simp
 rw[show cC p J c=cC p J (lF f c 0) by unfold cC;rw[t.1,t.2]];unfold cC aI;refine dj func149 ntmps149 ?_;refine GW.wk (Wk.eS 9 1) ?_;simp only[cons_append,List.nil_append];refine V ?_;refine GW.range (f.params.map fun s=>[GV.v (sv s)]).length (fun k S Z=>∃i j R n B,S=[.loc 0 0,U,U,.loc 2 0,U,U,U,U,U,U,strs f.params,y4 ((f.params.map fun s=>[GV.v (sv s)]).length:Int),y4 (k:Nat),U,U,U,U,U,U,U,U,U,U,U,U,U,U,U,U,U,U,U,U,U,U]/\Z=[.box 155 (cC p (.slice i n j) (lF f c k)),.vech 9 1 R (.slice i n j),B]/\R.length=n/\R=bs (f.params.take k)) ?_ L ?_ ?_ ?_
 ·exact⟨_,_,Wk.a6 aC,none,0,[],0,_,rfl,rfl,rfl,by simp[bs]⟩
 ·rintro k _ _⟨i,j,R,n,B,rfl,rfl,_⟩;exact dS
 ·rintro k _ _ z⟨i,j,R,n,B,rfl,rfl,d,m⟩;rw[E]at z;obtain⟨x,hx⟩:∃x,f.params[k]?=some x:=⟨f.params[k],by simp[z]⟩
  have X:(f.params.map fun s=>[GV.v (sv s)])[k]?=some [.v (sv x)]:=by rw[dR,hx];rfl
  have e:bs (f.params.take (k+1))=R++[[.v (sv x)]]:=by rw[c7,hx,m];simp[bs]
  have W:n<=1048576:=by rw[<-d,m,nJ,iC];omega
  have r:GF prog 58 [.sl 1 R,.v (sv x)] [] (.v (.bool ((f.params.take k).contains x))) []:=by
   rw[m];exact jR (f.params.take k) x (by rw[iC];omega)
  have T:oI f.params k=(f.params.take k).contains x:=by unfold oI;rw[hx]
  rw[<-T]at r;have b:=jI p (.slice i n j) (lF f c k) 21 0;clear m
  cases F:oI f.params k with
  |true =>
   rw[F]at r;have⟨G,H⟩:=Pa (c:=c) F;unfold cC at b |-;rw[G,H];generalize(lF f c k).fail 21 0=s1 at *;generalize lF f c k=Y at *;refine V ?_;refine GL.borrow r (fun B K β w l N M=>iV (A:=[_]) (C:=[_]) N M rfl rfl) ?_;refine zak ?_;refine I [0] b ?_;exact zcy
  |false =>
   rw[F]at r;have⟨G,H⟩:=Mt (c:=c) F;unfold cC at b |-;rw[G,H];generalize lF f c k=Y at *;refine V ?_;refine GL.borrow r (fun B K β w l N M=>iV (A:=[_]) (C:=[_]) N M rfl rfl) ?_;refine zak ?_;exact zcy
 ·rintro _ _⟨i,j,R,n,B,rfl,rfl,d,m⟩;rw[E]at m |-;rw[dx]at m
  have O:n=f.params.length:=by rw[<-d,m,nJ]
  subst O;refine zew ?_;exact TV (n:=2) rfl fH (eF rfl) rfl ⟨rfl,i,j,by rw[m];rfl⟩
open Go.Xp (Nd T)
def cO(p:Src)(c:SS)(ls:List ah)(S:Option Addr)(d:Nat):ap:=[.box 155 (cC p (.slice S ls.length d) c),.vech 9 1 (bs ls) (.slice S ls.length d)]
section
variable(p:Src)(c:SS)(n:Nd)(l:List T)(S:Option Addr)(d:Nat)
def FW(o:(n.s==[103,101,116])=true)(M:l.length<=1099511627776) :
  GF prog 207 [.loc 0 0,.agg (cT (.mk n l))] (cO p c c.ls S d) (.v (.bool true)) (cO p (fA c n l.length 0) c.ls S d):=by
 have X:(bq l).length=l.length:=bC l;unfold cO;unfold fA;show GF _ _ _ _ (.v (.bool true)) [.box _ (cC p _ (if l.length≠0 then _ else _)),_];have Q:=jI p (.slice S c.ls.length d) c 23 n.at_;unfold cC at Q |-
 cases N:(((bq l).length:Int) != ((0:Nat):Int))with
 |true =>
  rw[ai (show l.length≠0 by rw[X,bne_iff_ne]at N;omega)];exact zdN
 |false =>
  rw[ab (show ¬l.length≠0 by rw[X,bne_eq_false_iff_eq]at N;omega)];refine ak func207 ntmps207 ?_;exact az
def FX(o:(n.s==[103,101,116])=false)(b:(n.s==[112,117,116])=true)(M:l.length<=1099511627776) :
  GF prog 207 [.loc 0 0,.agg (cT (.mk n l))] (cO p c c.ls S d) (.v (.bool true)) (cO p (fA c n l.length 1) c.ls S d):=by
 have X:(bq l).length=l.length:=bC l;unfold cO;unfold fA;show GF _ _ _ _ (.v (.bool true)) [.box _ (cC p _ (if l.length≠1 then _ else _)),_];have Q:=jI p (.slice S c.ls.length d) c 23 n.at_;unfold cC at Q |-
 cases N:(((bq l).length:Int) != ((1:Nat):Int))with
 |true =>
  rw[ai (show l.length≠1 by rw[X,bne_iff_ne]at N;omega)];exact zdN
 |false =>
  rw[ab (show ¬l.length≠1 by rw[X,bne_eq_false_iff_eq]at N;omega)];refine ak func207 ntmps207 ?_;exact az
def Jl(o:(n.s==[103,101,116])=false)(b:(n.s==[112,117,116])=false)(G:(n.s==[115,105,122,101])=false)(M:l.length<=1099511627776)
  (O:GF prog 94 [.agg (aB p),.v (sv n.s)] [] (y4 (-1)) []) :
  GF prog 207 [.loc 0 0,.agg (cT (.mk n l))] (cO p c c.ls S d) (.v (.bool false)) (cO p (c.fail 22 n.at_) c.ls S d):=by
 have Q:=jI p (.slice S c.ls.length d) c 22 n.at_
 have W:decide ((-1:Int)<0)=true:=by decide
 unfold cO;unfold cC at Q |-;generalize c.fail 22 n.at_=r at *;exact zbU
end
def Jk(p:Src)(c:SS)(n:Nd)(l:List T)(i:Nat)(f:Go.Sp.Fn)(S:Option Addr)(d:Nat)(o:(n.s==[103,101,116])=false)(b:(n.s==[112,117,116])=false)(G:(n.s==[115,105,122,101])=false)(M:l.length<=1099511627776)
  (hf:p.av[i]?=some f)(O:GF prog 94 [.agg (aB p),.v (sv n.s)] [] (y4 ((i:Nat):Int)) []) :
  GF prog 207 [.loc 0 0,.agg (cT (.mk n l))] (cO p c c.ls S d) (.v (.bool true)) (cO p (fA c n l.length f.params.length) c.ls S d):=by
 have X:(bq l).length=l.length:=bC l
 have W:decide (((i:Nat):Int)<0)=false:=by simp
 have w:(p.av.map aI)[i]?=some (aI f):=by rw[dR,hf];rfl
 have e:(f.params.map fun s=>[GV.v (sv s)]).length=f.params.length:=by simp
 unfold aI at w;rw[<-e];unfold cO;unfold fA;show GF _ _ _ _ (.v (.bool true)) [.box _ (cC p _ (if l.length≠(f.params.map fun s=>[GV.v (sv s)]).length then _ else _)),_];have Q:=jI p (.slice S c.ls.length d) c 23 n.at_;unfold cC at Q |-
 cases N:(((bq l).length:Int) != (((f.params.map fun s=>[GV.v (sv s)]).length:Nat):Int))with
 |true =>
  rw[ai (show l.length≠(f.params.map fun s=>[GV.v (sv s)]).length by rw[X,bne_iff_ne]at N;omega)];generalize c.fail 23 n.at_=r at *;exact zbU
 |false =>
  rw[ab (show ¬l.length≠(f.params.map fun s=>[GV.v (sv s)]).length by rw[X,bne_eq_false_iff_eq]at N;omega)];refine ak func207 ntmps207 ?_;refine aV (aM 0 7 (.a 7 (.q 8 .nil))) ?_;refine ay ?_;refine aX [] O ?_;exact aK
open Go.Xp (Ar)
section
variable(p:Src)(c:SS)
def CJ(n:Nd)(u:T)(S:Option Addr)(d:Nat)(G:(n.s==[103,101,116])=false)(e:(n.s==[112,117,116])=false)(H:(n.s==[115,105,122,101])=true)(N:p.aq.length<=1099511627776)(o:c.ls.length<=1099511627776) :
  GF prog 207 [.loc 0 0,.agg (cT (.mk n [u]))] (cO p c c.ls S d) (.v (.bool false)) (cO p (if gO p u.n c.ls=true then c.fail 24 n.at_ else c) c.ls S d):=by
 have E:(bq [u])[0]?=some (cT u):=dK rfl;have m:=zN p u.n.s N;have t:=jR c.ls u.n.s o;have Q:=jI p (.slice S c.ls.length d) c 24 n.at_;rw[show gO p u.n c.ls=((u.n.aj != 2 ||decide (bL (fun x:Ar=>x.name==u.n.s) p.aq<0)) ||c.ls.contains u.n.s)from rfl];generalize bL (fun x:Ar=>x.name==u.n.s) p.aq=z at *;unfold cO;unfold cC at Q |-
 cases J:(u.n.aj != 2)with
 |true =>
  rw[ai zfz];generalize c.fail 24 n.at_=r at *;refine ak func207 ntmps207 ?_;refine zbf ?_;refine ay ?_;refine bj ?_;exact zcY
 |false =>
  cases j:decide (z<0)with
  |true =>
   rw[ai zfz];generalize c.fail 24 n.at_=r at *;refine ak func207 ntmps207 ?_;refine zbf ?_;refine ay ?_;refine bW [] m ?_;refine bj ?_;exact zcY
  |false =>
   generalize c.ls.contains u.n.s=b at *
   cases b with
   |true =>
    rw[ai zfz];generalize c.fail 24 n.at_=r at *;refine ak func207 ntmps207 ?_;refine zbf ?_;refine ay ?_;refine bW [] m ?_;refine zm rfl rfl rfl ze6 (GL.borrow t (fun B K F w l i O=>iV (A:=[_]) (C:=[_]) i O rfl rfl) ?_);refine zaM ?_;exact zcY
   |false =>
    rw[ab aU];refine ak func207 ntmps207 ?_;refine zbf ?_;refine ay ?_;refine bW [] m ?_;refine zm rfl rfl rfl ze6 (GL.borrow t (fun B K F w l i O=>iV (A:=[_]) (C:=[_]) i O rfl rfl) ?_);refine zbu ?_;exact aK
def CK(n:Nd)(l:List T)(S:Option Addr)(d:Nat)(o:(n.s==[103,101,116])=false)(b:(n.s==[112,117,116])=false)(G:(n.s==[115,105,122,101])=true)(M:l.length≠1) :
  GF prog 207 [.loc 0 0,.agg (cT (.mk n l))] (cO p c c.ls S d) (.v (.bool false)) (cO p (c.fail 23 n.at_) c.ls S d):=by
 have Q:=jI p (.slice S c.ls.length d) c 23 n.at_;have X:(bq l).length=l.length:=bC l
 have g1:(((bq l).length:Int)==1)=false:=by rw[X,beq_eq_false_iff_ne];omega
 have O:(((bq l).length:Int) != 1)=true:=by rw[X,bne_iff_ne];omega
 unfold cO;unfold cC at Q |-;generalize c.fail 23 n.at_=r at *;refine ak func207 ntmps207 ?_;refine zbf ?_;refine bj ?_;exact zcY
def LS(t:T)(S:Option Addr)(d:Nat)(Q:p.aq.length<=1099511627776)(q:p.av.length<=1099511627776)(m:c.ls.length<=1099511627776)(M:t.aw.length<=1099511627776) :
  GF prog 207 [.loc 0 0,.agg (cT t)] (cO p c c.ls S d) (.v (.bool (gI p c t).2)) (cO p (gI p c t).1 c.ls S d):=by
 cases t with
 |mk n l =>
 have M:l.length<=1099511627776:=M
 cases o:(n.s==[103,101,116])with
 |true =>
  have e:gI p c (.mk n l)=(fA c n l.length 0,true):=by
   unfold gI lP;exact ai (show n.s=_ by simpa using o)
  rw[e];exact FW p c n l S d o M
 |false =>
  have r:¬n.s=[103,101,116]:=by simpa using o
  cases b:(n.s==[112,117,116])with
  |true =>
   have e:gI p c (.mk n l)=(fA c n l.length 1,true):=by
    unfold gI lP lR;rw[ab (show ¬(T.mk n l).n.s=_ from r)];exact ai (show n.s=_ by simpa using b)
   rw[e];exact FX p c n l S d o b M
  |false =>
   have J:¬n.s=[112,117,116]:=by simpa using b
   cases G:(n.s==[115,105,122,101])with
   |true =>
    have e:gI p c (.mk n l)=(fA (if l.length=1/\gO p (la (.mk n l)) c.ls=true then c.fail 24 n.at_ else c) n l.length 1,false):=by
     unfold gI lP lR ef;rw[ab (show ¬(T.mk n l).n.s=_ from r),ab (show ¬(T.mk n l).n.s=_ from J)];exact ai (show n.s=_ by simpa using G)
    rw[e]
    by_cases N:l.length=1
    ·obtain⟨u,rfl⟩:∃u,l=[u]:=by
      match l,N with
      |[u],_=>exact⟨u,rfl⟩
     have R:fA (if[u].length=1/\gO p (la (.mk n [u])) c.ls=true then c.fail 24 n.at_ else c) n [u].length 1=(if gO p u.n c.ls=true then c.fail 24 n.at_ else c):=by
      unfold fA;rw[ab ze3];show(if _/\gO p u.n c.ls=true then _ else _)=_
      by_cases j:gO p u.n c.ls=true
      ·rw[ai j];exact ai ⟨rfl,j⟩
      ·rw[ab j];exact ab fun h=>j h.2
     rw[R];exact CJ p c n u S d o b G Q m
    ·have R:fA (if l.length=1/\gO p (la (.mk n l)) c.ls=true then c.fail 24 n.at_ else c) n l.length 1=c.fail 23 n.at_:=by
      rw[ab fun h=>N h.1];unfold fA;exact ai N
     rw[R];exact CK p c n l S d o b G N
   |false =>
    have W:¬n.s=[115,105,122,101]:=by simpa using G
    have O:=Hz p n.s q;unfold bL at O
    cases hx:p.av.findIdx? (fun f:Go.Sp.Fn=>f.name==n.s)with
    |none =>
     rw[hx]at O
     have e:gI p c (.mk n l)=(c.fail 22 n.at_,false):=by
      refine zbl ?_;rfl
     rw[e];exact Jl p c n l S d o b G M O
    |some i =>
     rw[hx]at O;have k:i<p.av.length:=(List.findIdx?_eq_some_iff_getElem.1 hx).1;obtain⟨f,w⟩:∃f,p.av[i]?=some f:=⟨p.av[i],by simp[k]⟩
     have e:gI p c (.mk n l)=(fA c n l.length f.params.length,true):=by
      refine zbl ?_;show(fA c n l.length (lg p i),true)=_;unfold lg;rw[w]
     rw[e];exact Jk p c n l i f S d o b G M w O
end
end Go.Xg
namespace Go.Im
open Go.Xp Go.Sp
theorem Cf(p:Src)(u:T):∀(l:List T)(c:SS),kC p (l++[u]) c=om p u (kC p l c)
 |[],c=>by rfl
 |t::l,c=>by rw[cons_append,kC,kC,Cf p u l]
def Mb(p:Src){l:List T}{k:Nat}{u:T}(h:l[k]?=some u)(c:SS):kC p (l.take (k+1)) c=om p u (kC p (l.take k) c):=by
 grind[c7,Cf]
def PE(c:SS)(n:Nd):(mK c n).ls.length<=c.ls.length+1:=by
 unfold mK
 grind[SS.qF]
mutual
theorem Sh(p:Src):∀(t:T)(c:SS),(om p t c).ls.length<=c.ls.length+be t
 |.mk n l,c=>by
  rw[om,be];refine jC (PE _ _) ?_;split
  ·have:=vX p l (kD p c (.mk n l)).1
   grind[vi]
  grind[vi]
theorem vX(p:Src):∀(l:List T)(c:SS),(kC p l c).ls.length<=c.ls.length+aP l
 |[],c=>by grind[kC]
 |t::r,c=>by
  rw[kC,aP];have o:=vX p r (om p t c);have b:=Sh p t c;omega
end
def Oa(p:Src)(l:List T)(c:SS):od p [] l c=c:=by unfold od;rfl
end Go.Im
namespace Go.Xg
open Go.RowKit Go.Xw Go.Proofs Tryz Go.Im
open GV (U)
open Go.Xp (Nd T Ar be aP dU)
open Go.Sp (Src)
attribute [local irreducible] GW GL GO D GC GA bo bn
section
variable(p:Src)
theorem LU(DN:p.aq.length<=1099511627776)(Lr:p.av.length<=1099511627776)(DR:p.au.length<=1099511627776):∀(N:Nat)(t:T),be t<=N->∀(c:SS)(m:Option Addr)(o:Nat),c.ls.length+be t<=8388608 ->
  GC prog 150 [.loc 0 0,.agg (cT t)] (cO p c c.ls m o) fun g Δ=>g=.tup []/\∃R W,Δ=cO p (om p t c) (om p t c).ls R W:=by
 intro N
 induction N with
 |zero=>intro t h;exact zeK
 |succ N ih =>
 intro t hN c m o Qn
 cases t with
 |mk n l =>
 rw[Go.Xp.be]at hN Qn;have Lv:=dU l;have wx:(bq l).length=l.length:=bC l;rw[om];have H:=vi p c (.mk n l);have O:=jR c.ls n.s L;have hG:=jR p.au n.s DR;have hA:=zN p n.s DN;have hC:=LS p c (.mk n l) m o DN Lr L (by grind[T.aw]);have M:=jI p (.slice m c.ls.length o) c 22 n.at_;have E:=jI p (.slice m c.ls.length o) c 24 n.at_
 have j:kD p c (.mk n l)=(if n.aj=2\/n.aj=7 then(if c.ls.contains n.s=false/\p.au.contains n.s=false then c.fail 22 n.at_ else c,true)
  else if n.aj=3\/n.aj=8 then(if c.ls.contains n.s=true\/bL (fun x:Ar=>x.name==n.s) p.aq<0 then c.fail 24 n.at_ else c,true)
  else if n.aj=4 then gI p c (.mk n l)else(c,true)):=rfl
 obtain⟨P,hP⟩:∃P,kD p c (.mk n l)=P:=⟨_,rfl⟩;rw[hP]at j H |-;unfold cO at hC |-;unfold cC at hC M E |-;refine ak func150 ntmps150 ?_;refine aV (aM 0 6 (.a 6 (.q 7 .nil))) ?_;refine ay ?_;refine OA rfl rfl (GL.borrow O (fun B K β w l Y X=>iV (A:=[_]) (C:=[_,_]) Y X rfl rfl) ?_);refine zbu ?_;refine BC ?_;refine GW.join (fun fr Γ=>fr=.loc 0 0::U::U::.loc 2 0::.loc 3 0::U::.v (.bool P.2)::zU 103 []/\Γ=[.box 155 (cC p (.slice m c.ls.length o) P.1),.vech 9 1 (bs c.ls) (.slice m c.ls.length o),.box 89 (cT (.mk n l)),.box 82 (aR n)]) ?_ ?_
 ·have⟨J,at_,nn,s,ks⟩:=n;simp only at *;unfold cC;generalize gI p c (.mk ⟨J,at_,nn,s,ks⟩ l)=cs at *;generalize bL (fun x:Ar=>x.name==s) p.aq=z at *;generalize c.ls.contains s=b at *;generalize p.au.contains s=g at *;generalize c.fail 22 at_=c22 at *;generalize c.fail 24 at_=c24 at *
  by_cases h2:J=2
  ·subst h2
   have q2:((2:Int)==2)=true:=by decide
   rw[ai aU]at j;subst j
   cases b with
   |true =>
    refine zaZ ?_;exact zeS
   |false =>
    cases g with
    |true =>
     refine zaZ ?_;refine ay ?_;refine bW [] hG ?_;exact gZ
    |false =>
     exact zdj
  by_cases h7:J=7
  ·subst h7
   have q2:((7:Int)==2)=false:=by decide
   have q7:((7:Int)==7)=true:=by decide
   rw[ai aU]at j;subst j
   cases b with
   |true =>
    refine zaZ ?_;exact zeS
   |false =>
    cases g with
    |true =>
     refine zaZ ?_;refine ay ?_;refine bW [] hG ?_;exact gZ
    |false =>
     exact zdj
  rw[ab L]at j
  by_cases h3:J=3
  ·subst h3
   have q2:((3:Int)==2)=false:=by decide
   have q7:((3:Int)==7)=false:=by decide
   have q3:((3:Int)==3)=true:=by decide
   rw[ai aU]at j
   cases b with
   |true =>
    exact zcx
   |false =>
    cases hz:decide (z<0)with
    |true =>
     exact zc4
    |false =>
     rw[ab ze2]at j;subst j;refine za3 ?_;exact gZ
  by_cases h8:J=8
  ·subst h8
   have q2:((8:Int)==2)=false:=by decide
   have q7:((8:Int)==7)=false:=by decide
   have q3:((8:Int)==3)=false:=by decide
   have q8:((8:Int)==8)=true:=by decide
   rw[ai aU]at j
   cases b with
   |true =>
    exact zcx
   |false =>
    cases hz:decide (z<0)with
    |true =>
     exact zc4
    |false =>
     rw[ab ze2]at j;subst j;refine za3 ?_;exact gZ
  rw[ab L]at j
  by_cases h4:J=4
  ·subst h4
   have q2:((4:Int)==2)=false:=by decide
   have q7:((4:Int)==7)=false:=by decide
   have q3:((4:Int)==3)=false:=by decide
   have q8:((4:Int)==8)=false:=by decide
   have q4:((4:Int)==4)=true:=by decide
   rw[ai rfl]at j;subst j;refine V ?_;refine I [0,1] hC ?_;exact ji
  rw[ab h4]at j;subst j
  have q2:(J==2)=false:=by grind
  have q7:(J==7)=false:=by grind
  have q3:(J==3)=false:=by grind
  have q8:(J==8)=false:=by grind
  have q4:(J==4)=false:=by grind
  exact gZ
 ·rintro _ _⟨rfl,rfl⟩;clear j hC M E;have⟨S,d⟩:=P;simp only at H |-;rw[<-H]at Qn;rw[show cC p (.slice m c.ls.length o) S=cC p (.slice m S.ls.length o) S by rw[H],<-H];clear O;refine V ?_;refine GW.range (bq l).length (fun k fr Γ=>∃m o i,fr=.loc 0 0::U::U::.loc 2 0::.loc 3 0::U::.v (.bool d)::zU 57 (.sl 6 (bq l)::y4 ((bq l).length:Int)::y4 (k:Nat)::zU 43 [])/\Γ=[.box 155 (cC p (.slice m i.ls.length o) i),.vech 9 1 (bs i.ls) (.slice m i.ls.length o),.box 89 (cT (.mk n l)),.box 82 (aR n)]/\i=(if d=true then kC p (l.take k) S else S)) ?_ L ?_ ?_ ?_
  ·exact⟨_,_,Wk.a6 aC,m,o,S,rfl,rfl,by simp[kC]⟩
  ·rintro k _ _⟨m,o,i,rfl,rfl,_⟩;exact dS
  ·rintro k _ _ ny⟨m,o,i,rfl,rfl,r⟩;rw[wx]at ny;obtain⟨u,hu⟩:∃u,l[k]?=some u:=⟨l[k],by simp[ny]⟩;have hr:=dK hu;have rI:=oy hu
   cases d with
   |false =>
    refine V ?_;exact⟨rfl,rfl,_,_,(Wk.cut (n:=4) (eF rfl) rfl).trans (Wk.a6 aC),m,o,i,rfl,rfl,r⟩
   |true =>
    rw[ai rfl]at r;have Q:=vX p (l.take k) S;rw[<-r]at Q;have hi:=ih u L i m o L;unfold cO at hi;rw[ai rfl,Mb p hu,<-r];refine V ?_;refine bP [0,1] hi ?_;rintro _ _⟨rfl,R,W,rfl⟩;refine zas ?_;exact⟨rfl,rfl,_,_,(Wk.cut (n:=4) (eF rfl) rfl).trans (Wk.a6 aC),R,W,_,rfl,rfl,rfl⟩
  ·rintro _ _⟨m,o,i,rfl,rfl,r⟩;rw[wx,dx]at r;rw[<-r]
   have Q:i.ls.length<=8388608:=by
    grind[vX]
   clear r ih;refine bg ?_;have O:=jR i.ls n.s L;have B1:=nJ i.ls;have Z:=jI p (.slice m i.ls.length o) i 21 n.at_;have Xc:=jI p (.slice m i.ls.length o) i 26 n.at_;have l21:=i.qF 21 n.at_;have l26:=i.qF 26 n.at_
   cases hv:(n.aj != 13)with
   |true =>
    have e:mK i n=i:=by grind[mK]
    rw[e];refine V ?_;refine cy ?_;exact⟨rfl,m,o,rfl⟩
   |false =>
    have hv':¬n.aj≠13:=by grind
    unfold cC at Z Xc
    cases hb:i.ls.contains n.s with
    |true =>
     rw[hb]at O
     have e:mK i n=⟨(i.fail 21 n.at_).ls++[n.s],(i.fail 21 n.at_).code,(i.fail 21 n.at_).at_⟩:=by unfold mK;grind
     rw[e];generalize i.fail 21 n.at_=y at *;refine zdk ?_;refine OA rfl rfl (GL.borrow O (fun B K β w l Y X=>iV (A:=[_]) (C:=[_,_]) Y X rfl rfl) ?_);refine zaM ?_;refine I [0] Z ?_;refine zcM ?_;refine OA rfl rfl (GL.mr 1 (news:=[[.v (sv n.s)]]) rfl rfl rfl aH rfl rfl (by refine⟨?_,?_⟩;(· show _+1<=_;omega);(· show(_+1)*_<=_;omega)) ?_);intro F G;refine zej ?_;exact⟨rfl,F,G,by simp[cO,cC,bs,l21]⟩
    |false =>
     rw[hb]at O
     cases Qe:((i.ls.length:Int)==40)with
     |true =>
      have e:mK i n=⟨(i.fail 26 n.at_).ls++[n.s],(i.fail 26 n.at_).code,(i.fail 26 n.at_).at_⟩:=by
       unfold mK
       grind
      rw[e];generalize i.fail 26 n.at_=y at *;refine zdk ?_;refine OA rfl rfl (GL.borrow O (fun B K β w l Y X=>iV (A:=[_]) (C:=[_,_]) Y X rfl rfl) ?_);refine zaM ?_;refine I [0] Xc ?_;refine zcM ?_;refine OA rfl rfl (GL.mr 1 (news:=[[.v (sv n.s)]]) rfl rfl rfl aH rfl rfl (by refine⟨?_,?_⟩;(· show _+1<=_;omega);(· show(_+1)*_<=_;omega)) ?_);intro F G;refine zej ?_;exact⟨rfl,F,G,by simp[cO,cC,bs,l26]⟩
     |false =>
      have e:mK i n=⟨i.ls++[n.s],i.code,i.at_⟩:=by
       unfold mK
       grind
      rw[e];refine zdk ?_;refine OA rfl rfl (GL.borrow O (fun B K β w l Y X=>iV (A:=[_]) (C:=[_,_]) Y X rfl rfl) ?_);refine zaM ?_;refine zcM ?_;refine OA rfl rfl (GL.mr 1 (news:=[[.v (sv n.s)]]) rfl rfl rfl aH rfl rfl (by refine⟨?_,?_⟩;(· show _+1<=_;omega);(· show(_+1)*_<=_;omega)) ?_);intro F G;refine zej ?_;exact⟨rfl,F,G,by simp[cO,cC,bs]⟩
def AM(h:Value)(k e:Int):GF prog 206 [.loc 0 0,y4 e,y4 0] [.box 155 (cC p h ⟨[],k,0⟩)] (.tup []) [.box 155 (cC p h ⟨[],jq k e,0⟩)]:=by
 have:=jI p h ⟨[],k,0⟩ e 0
 rwa[show(SS.fail ⟨[],k,0⟩ e 0)=⟨[],jq k e,0⟩ by unfold SS.fail jq;by_cases N:k=0<;>simp[N]]at this
def D5(h:Value)(k:Int)(Q:p.aq.length<=1048576)(w:∀a∈p.aq,0<=a.size/\a.size<=2147483648)
  (rest:(p.aq.all fun a=>!nt a)=true->GF prog 148 [.loc 0 0] [.box 155 (cC p h ⟨[],k,0⟩)] (.tup []) [.box 155 (cC p h ⟨[],qV p k,0⟩)]) :
  GF prog 148 [.loc 0 0] [.box 155 (cC p h ⟨[],k,0⟩)] (.tup []) [.box 155 (cC p h ⟨[],qV p k,0⟩)]:=by
 cases S:(p.aq.all fun a=>!nt a)with
 |true=>exact rest S
 |false =>
 have C:(p.aq.map bb).length=p.aq.length:=by simp
 have i:=uw w;have B:=AM p h k 26
 have T:p.aq.any nt=true:=by
  cases r:p.aq.any nt with
  |true=>rfl
  |false =>
   rw[any_eq_false]at r;rw[List.all_eq_false]at S;have⟨x,hx,q⟩:=S;have:=r x hx;simp at q;rw[q]at this;exact absurd rfl this
 rw[show qV p k=jq k 26 by unfold qV;exact ai T];unfold cC at B |-;refine ak func148 ntmps148 ?_;refine GW.range (p.aq.map bb).length (fun N J u=>J=.loc 0 0::U::y4 (eK (p.aq.take N))::U::U::U::U::U::U::U::U::U::.sl 2 (p.aq.map bb)::y4 ((p.aq.map bb).length:Int)::y4 (N:Nat)::zU 79 []/\u=[.box 155 [strs p.au,.sl 2 (p.aq.map bb),.sl 3 (p.av.map aI),.sl 5 (p.ae.map aR),.v h,y4 k,y4 0]]/\(p.aq.take N).all (fun a=>!nt a)=true) ?_ L ?_ ?_ ?_
 ·exact kP
 ·rintro N _ _⟨rfl,rfl,_⟩;exact dS
 ·rintro N _ _ O⟨rfl,rfl,o⟩;rw[C]at O;obtain⟨x,hx⟩:∃x,p.aq[N]?=some x:=⟨p.aq[N],by simp[O]⟩
  have z:(p.aq.map bb)[N]?=some (bb x):=by rw[dR,hx];rfl
  have l:=mZ (f:=nt) hx;have R:=se hx;have s:=i N;have X:=w x (bN hx);have W:nt x=(decide (x.size<1) ||decide (8000<x.size)):=rfl;unfold bb at z
  cases q:decide (x.size<1)with
  |true =>
   refine V ?_;refine I [0] B ?_;exact oA
  |false =>
   cases b:decide (8000<x.size)with
   |true =>
    refine V ?_;refine I [0] B ?_;exact oA
   |false =>
    rw[R];generalize eK (p.aq.take N)=c at *;refine V ?_;exact⟨rfl,rfl,_,_,(Wk.cut (n:=1) (a8 _) rfl).trans (Wk.a6 aC),rfl,rfl,by rw[l,o,W,q,b];rfl⟩
 ·rintro _ _⟨rfl,rfl,o⟩;rw[C,dx]at o;rw[o]at S;cases S
theorem CL(h:Value)(k:Int)(Z:p.aq.length<=1048576)(Lr:p.av.length<=1048576)(F:∀a∈p.aq,0<=a.size/\a.size<=2147483648)(N:(p.aq.all fun a=>!nt a)=true) :
  GF prog 148 [.loc 0 0] [.box 155 (cC p h ⟨[],k,0⟩)] (.tup []) [.box 155 (cC p h ⟨[],qV p k,0⟩)]:=by
 have C:(p.aq.map bb).length=p.aq.length:=by simp
 have B:(p.av.map aI).length=p.av.length:=by simp
 have DR:(p.au.map fun s=>[GV.v (sv s)]).length=p.au.length:=by simp
 have hb:=uw F
 have X:p.aq.any nt=false:=by
  grind
 have m:=AM p h;unfold cC at m |-;refine ak func148 ntmps148 ?_;refine GW.range (p.aq.map bb).length (fun o z G=>z=.loc 0 0::U::y4 (eK (p.aq.take o))::U::U::U::U::U::U::U::U::U::.sl 2 (p.aq.map bb)::y4 ((p.aq.map bb).length:Int)::y4 (o:Nat)::zU 79 []/\G=[.box 155 [strs p.au,.sl 2 (p.aq.map bb),.sl 3 (p.av.map aI),.sl 5 (p.ae.map aR),.v h,y4 k,y4 0]]) ?_ L ?_ ?_ ?_
 ·exact ji
 ·rintro o _ _⟨rfl,rfl⟩;exact dS
 ·rintro o _ _ l⟨rfl,rfl⟩;rw[C]at l;obtain⟨x,hx⟩:∃x,p.aq[o]?=some x:=⟨p.aq[o],by simp[l]⟩
  have E:(p.aq.map bb)[o]?=some (bb x):=by grind
  have O:=se hx;have Xj:=hb o;have UA:=F x (bN hx)
  have t:nt x=false:=by
   grind
  unfold nt at t;rw[Bool.or_eq_false_iff]at t;have⟨J,M⟩:=t;have M:decide (8000<x.size)=false:=M;unfold bb at E;rw[O];generalize eK (p.aq.take o)=c at *;refine V ?_;exact⟨rfl,rfl,_,_,(Wk.cut (n:=1) (a8 _) rfl).trans (Wk.a6 aC),rfl,rfl⟩
 ·rintro _ _⟨rfl,rfl⟩;rw[C,dx];refine bg ?_;refine GW.seq ?_;have e1:decide (p.av.length>40)=decide ((40:Int)<((p.av.map aI).length:Int)):=decide_eq_decide.2 L;have e2:decide (p.au.length>29)=decide ((29:Int)<((p.au.map fun s=>[GV.v (sv s)]).length:Int)):=decide_eq_decide.2 L
  have A:ur p=((decide ((40:Int)<((p.av.map aI).length:Int)) ||decide ((29:Int)<((p.au.map fun s=>[GV.v (sv s)]).length:Int))) ||decide ((8000:Int)<eK p.aq)):=by unfold ur;grind
  refine GW.join (fun z G=>z=.loc 0 0::zU 93 []/\G=[.box 155 [strs p.au,.sl 2 (p.aq.map bb),.sl 3 (p.av.map aI),.sl 5 (p.ae.map aR),.v h,y4 (if ur p=true then jq k 26 else k),y4 0]]) ?_ ?_
  ·rw[A];have d:=m k 26;generalize eK p.aq=c at *
   cases J:decide ((40:Int)<((p.av.map aI).length:Int))
   all_goals cases M:decide ((29:Int)<((p.au.map fun s=>[GV.v (sv s)]).length:Int))
   all_goals cases h3:decide ((8000:Int)<c)
   all_goals
    refine V ?_
    first
     |exact ji
     |(refine ja [0] d ?_;refine V ?_;exact⟨_,_,Wk.a6 aC,rfl,rfl⟩)
  ·rintro _ _⟨rfl,rfl⟩;generalize Q:(if ur p=true then jq k 26 else k)=H
   have w:∀j:Nat,∀x:Go.Sp.Fn,p.av[j]?=some x->(p.av.take (j+1)).any (fun f=>decide (f.params.length>40))=((p.av.take j).any (fun f=>decide (f.params.length>40)) ||decide (x.params.length>40)):=fun j x hx=>by
    rw[c7,hx,any_append];simp
   refine V ?_;refine GW.range (p.av.map aI).length (fun j z G=>∃b,z=.loc 0 0::zU 58 (.sl 3 (p.av.map aI)::y4 ((p.av.map aI).length:Int)::y4 (j:Nat)::zU 32 [])/\G=[.box 155 [strs p.au,.sl 2 (p.aq.map bb),.sl 3 (p.av.map aI),.sl 5 (p.ae.map aR),.v h,y4 b,y4 0]]/\b=(if(p.av.take j).any (fun f=>decide (f.params.length>40))=true then jq H 26 else H)) ?_ L ?_ ?_ ?_
   ·exact⟨_,_,Wk.a6 aC,H,rfl,rfl,by simp⟩
   ·rintro j _ _⟨b,rfl,rfl,_⟩;exact dS
   ·rintro j _ _ l⟨b,rfl,rfl,u⟩;rw[B]at l;obtain⟨x,hx⟩:∃x,p.av[j]?=some x:=⟨p.av[j],by simp[l]⟩
    have E:(p.av.map aI)[j]?=some (aI x):=by grind
    have W:(x.params.map fun s=>[GV.v (sv s)]).length=x.params.length:=by simp
    have S:=w j x hx;have t:decide (x.params.length>40)=decide ((40:Int)<((x.params.map fun s=>[GV.v (sv s)]).length:Int)):=decide_eq_decide.2 L;have d:=m b 26;rw[S,t];unfold aI at E
    cases J:decide ((40:Int)<((x.params.map fun s=>[GV.v (sv s)]).length:Int))with
    |true =>
     have e:jq b 26=jq H 26:=by grind[jq]
     rw[e]at d;refine V ?_;refine I [0] d ?_;exact⟨rfl,rfl,_,_,(Wk.cut (n:=1) (a8 _) rfl).trans (Wk.a6 aC),_,rfl,rfl,by simp⟩
    |false =>
     refine V ?_;exact⟨rfl,rfl,_,_,(Wk.cut (n:=1) (a8 _) rfl).trans (Wk.a6 aC),b,rfl,rfl,by grind⟩
   ·rintro _ _⟨b,rfl,rfl,u⟩;rw[B,dx]at u
    have Y:qV p k=(if kX p=true then jq b 25 else b):=by
     grind[qV,kX,jq]
    rw[Y];refine bg ?_;have q:=m b 25;have r:=Hz p lQ L;unfold bL at r;clear Y u Q
    cases hx:p.av.findIdx? (fun f:Go.Sp.Fn=>f.name==lQ)with
    |none =>
     rw[hx]at r
     have t:decide ((-1:Int)<0)=true:=by decide
     simp only at r;rw[show(if kX p=true then jq b 25 else b)=jq b 25 from ai (by grind[kX])];exact zeW
    |some i =>
     rw[hx]at r;have hi:i<p.av.length:=(List.findIdx?_eq_some_iff_getElem.1 hx).1;obtain⟨f,hf⟩:∃f,p.av[i]?=some f:=⟨p.av[i],by simp[hi]⟩
     have E:(p.av.map aI)[i]?=some (aI f):=by grind
     have W:(f.params.map fun s=>[GV.v (sv s)]).length=f.params.length:=by simp
     have t:decide (((i:Nat):Int)<0)=false:=by simp
     have T:decide (lg p i>0)=decide ((0:Int)<((f.params.map fun s=>[GV.v (sv s)]).length:Int)):=by
      grind[lg]
     simp only at r
     have R:kX p=decide (lg p i>0):=by grind[kX]
     rw[T]at R;unfold aI at E
     cases J:decide ((0:Int)<((f.params.map fun s=>[GV.v (sv s)]).length:Int))with
     |true =>
      rw[show(if kX p=true then jq b 25 else b)=jq b 25 from ai ze2];exact zeW
     |false =>
      rw[show(if kX p=true then jq b 25 else b)=b from ab ze2];refine V ?_;refine I [] r ?_;exact zcj
def J4(O:GF prog 76 [.agg (aB p)] [] (.v (.bool false)) []):GF prog 80 [.agg (aB p)] [] (.tup [y4 20,y4 0]) []:=by
 refine ak func80 ntmps80 ?_;refine I [] O ?_;exact eu
def Iv(l:List T)(G e:SS)(X:p.av.length=l.length)(Y:p.av.length<=1048576)(z:p.aq.length<=1099511627776)(C:p.au.length<=1099511627776)
  (q:∀f∈p.av,f.params.length<=1048576)(F:∀t∈l,be t<=1048576)
  (W:GF prog 76 [.agg (aB p)] [] (.v (.bool true)) [])
  (H:GF prog 147 [.loc 0 0] [.box 155 (cC p y6 ⟨[],0,0⟩)] (.tup []) [.box 155 (cC p y6 G)])
  (M:GF prog 148 [.loc 0 0] [.box 155 (cC p y6 G)] (.tup []) [.box 155 (cC p y6 e)])
  (r:∀(i:Nat)(f:Go.Sp.Fn)(t:T),p.av[i]?=some f->l[i]?=some t->GF prog 120 [.agg (aB p),y4 f.body] [] (.agg (cT t)) []) :
  GF prog 80 [.agg (aB p)] [] (.tup [.v (ii (od p p.av l e).code),.v (ii (od p p.av l e).at_)]) []:=by
 have o:(p.av.map aI).length=p.av.length:=by simp
 unfold cC at H M;refine ak func80 ntmps80 ?_;refine I [] W ?_;refine I [1] H ?_;refine I [1] M ?_;refine GW.range (p.av.map aI).length (fun k S Γ=>∃h c,S=U::.loc 0 0::U::U::.loc 1 0::zU 13 (.sl 3 (p.av.map aI)::y4 ((p.av.map aI).length:Int)::y4 (k:Nat)::zU 26 [])/\Γ=[.box 28 (aB p),.box 155 (cC p h c)]/\od p p.av l e=od p (p.av.drop k) (l.drop k) c) ?_ L ?_ ?_ ?_
 ·exact⟨_,_,Wk.a6 aC,_,e,rfl,rfl,rfl⟩
 ·rintro k _ _⟨h,c,rfl,rfl,_⟩;exact dS
 ·rintro k _ _ b⟨h,c,rfl,rfl,d⟩;rw[o]at b;obtain⟨f,m⟩:∃f,p.av[k]?=some f:=⟨p.av[k],by simp[b]⟩;obtain⟨t,s⟩:∃t,l[k]?=some t:=⟨l[k]'L,cY _⟩
  have hr:(p.av.map aI)[k]?=some (aI f):=by rw[dR,m];rfl
  have A:p.av.drop k=f::p.av.drop (k+1):=by rw[lz b];rw[cY b]at m;rw[su m]
  have B:l.drop k=t::l.drop (k+1):=by rw[lz L];rw[cY L]at s;rw[su s]
  have Z:=q f (bN m);have hz:=F t (bN s);have E:=r k f t m s;have J:=FY p h c f Z;rw[A,B,od]at d
  cases N:(c.code==0)with
  |false =>
   rw[ab (by simpa using N)]at d;unfold cC aI at *;refine V ?_;exact⟨rfl,rfl,_,_,(Wk.cut (n:=2) (bl _) rfl).trans (Wk.a6 aC),h,c,rfl,rfl,d⟩
  |true =>
   rw[ai (by simpa using N)]at d
   have j:=fun u w=>LU p z L C _ t (a8 _) (qQ f c) u w (by show f.params.length+_<=_;omega)
   rw[d];generalize om p t (qQ f c)=Q at *;unfold cO at j;unfold aI at hr J;rw[show cC p h c=[strs p.au,.sl 2 (p.aq.map bb),.sl 3 (p.av.map aI),.sl 5 (p.ae.map aR),.v h,y4 c.code,y4 c.at_]from rfl]at *;refine V ?_;refine bP [1] J ?_;rintro _ _⟨rfl,u,w,rfl⟩;refine zas ?_;refine I [] E ?_;refine bP [1,3] (j u w) ?_;rintro _ _⟨rfl,O,R,rfl⟩;refine zas ?_;exact⟨rfl,rfl,_,_,(Wk.cut (n:=2) (bl _) rfl).trans (Wk.a6 aC),_,Q,rfl,rfl,rfl⟩
 ·rintro _ _⟨h,c,rfl,rfl,d⟩;rw[o,drop_length,Oa]at d;rw[d];unfold cC;refine zcl ?_;refine aV (aM 0 10 .nil) ?_;refine ay ?_;exact q6
end
end Go.Xg
set_option maxHeartbeats 1000000
namespace Go.Xg
open Go.RowKit Go.Xw Go.Proofs Tryz Go.Sp
open Go.Xp (Nd T bH gW E er br wt gz qx ff)
attribute [local irreducible] GW GL GO D GC GA bo bn
def fu{C:Nd}{l W:List T}{k v:Int}{s:ah}(h:er (.mk C l)=.mk ⟨k,0,v,s,[]⟩ W):C.aj=k/\C.n=v/\C.s=s/\br l=W:=by
 grind[er]
theorem vI{l:List T}{x:T}(h:br l=[x]):∃t,l=[t]/\er t=x:=by
 match l,h with
 |[t],h=>grind[br]
 |[],h=>grind[br]
 |t::u::r,h=>grind[br]
theorem AK{l:List T}{x y:T}(h:br l=[x,y]):∃t u,l=[t,u]/\er t=x/\er u=y:=by
 match l,h with
 |t::r,h =>
  grind[br,vI]
 |[],h=>grind[br]
def Yc{l:List T}{x y z:T}(h:br l=[x,y,z]):∃t u w,l=[t,u,w]/\er t=x/\er u=y/\er w=z:=by
 match l,h with
 |t::r,h =>
  grind[br,AK]
 |[],h=>grind[br]
theorem PA{a:E}(h:a.ok=true){t:T}(M:er t=a.tree):nK t.n.aj t.n.s=(a.lv:Int):=by
 have⟨C,l⟩:=t
 cases a with
 |bin s a b =>
  have⟨o,_,c,_⟩:=fu M;simp only[E.ok,aZ]at h;have d:=(Go.Xp.rM h.1.1).1;simp only[T.n,o,c,nK,ai,E.lv]
  grind[ff]
 |num n=>exact zbC
 |name n=>exact zbC
 |at_ s a=>exact zbC
 |call s a=>exact zbC
 |un s a=>exact zbC
def qZ{a:E}(h:a.ok=true){t:T}(M:er t=a.tree):GF prog 357 [.agg (cT t)] [] (y4 (a.lv:Int)) []:=by
 have:=Jj t
 grind[PA]
def BL(n:Int)(h:0<=n/\n<=2147483647):GF prog 358 [y4 n] [] (.v (sv (gW n.toNat))) []:=by
 have l:=Tn n
 have u:bH n=n:=by grind[bH]
 rw[u]at l;have T:=FP n.toNat L;rw[Int.toNat_of_nonneg h.1]at T
 have e:decide (n<0)=false:=by grind
 refine ak func358 ntmps358 ?_;refine I [] l ?_;refine I [] T ?_;exact az
abbrev lim:Nat:=1000000000000
def ry(a:E):Prop:=∀(t:T)(k:Nat),a.ok=true->er t=a.tree->wt a.tree<=lim->¬a.lv<k->GF prog 321 [.agg (cT t),y4 (k:Int)] [] (.v (sv a.bQ)) []
def oW(a:E):Prop:=∀(t:T)(k:Nat),a.ok=true->er t=a.tree->wt a.tree<=lim->GF prog 321 [.agg (cT t),y4 (k:Int)] [] (.v (sv (qx a.lv k a.bQ))) []
def ry.p{a:E}(C:ry a):oW a:=by
 intro t k A M i;unfold qx
 by_cases h:a.lv<k
 ·rw[ai h]
  have e:decide ((a.lv:Int)<(k:Int))=true:=by grind
  have N:=(E.len a A).1;have o:=C t 0 A M i L;have R:=i;unfold lim at R;generalize a.bQ=x at *;refine ak func321 ntmps321 ?_;refine I [] (qZ A M) ?_;exact zdU
 ·rw[ab h];exact C t k A M i h
def LY(n:Int):ry (.num n):=by
 intro t k A M i h
 have e:decide (((E.num n).lv:Int)<(k:Int))=false:=by grind
 have X:=qZ A M;have⟨⟨w,d,m,q,u⟩,l⟩:=t;have⟨o,b,G,N⟩:=fu M;simp only at o b G;subst o b G;simp only[E.ok,aZ]at A;have c:=BL m ⟨qu A.1,qu A.2⟩;rw[E.bQ];simp only[cT,T.n,T.aw]at X |-;refine ak func321 ntmps321 ?_;refine I [] X ?_;refine I [] c ?_;exact az
def Jp(s:ah):ry (.name s):=by
 intro t k A M i h
 have e:decide (((E.name s).lv:Int)<(k:Int))=false:=by grind
 have X:=qZ A M;have⟨⟨w,c,q,m,u⟩,l⟩:=t;have⟨o,b,G,N⟩:=fu M;simp only at o b G;subst o b G;rw[E.bQ];simp only[cT,T.n,T.aw]at X |-;refine ak func321 ntmps321 ?_;refine I [] X ?_;exact az
def OR(s:ah)(a:E)(C:oW a):ry (.at_ s a):=by
 intro t k A M i h
 have e:decide (((E.at_ s a).lv:Int)<(k:Int))=false:=by grind
 have X:=qZ A M;have⟨⟨w,c,q,m,u⟩,l⟩:=t;have⟨o,b,G,N⟩:=fu M;simp only at o b G;subst o b G;obtain⟨x,rfl,hx⟩:=vI N;simp only[E.ok,aZ]at A;rw[E.tree,wt]at i;simp only[gz,lim]at i;have W:=C x 0 A.2 hx ze2;unfold qx at W;rw[ab L]at W;have O:=(E.len a A.2).1;have v:(bq [x])[0]?=some (cT x):=dK rfl;rw[E.bQ];generalize a.bQ=y at *;simp only[cT,T.n,T.aw]at X |-;refine ak func321 ntmps321 ?_;refine I [] X ?_;refine aV (aM 0 8 (.a 8 (aM 9 3 .nil))) ?_;refine ay ?_;refine aX [] W ?_;exact aK
def OS(s:ah)(a:E)(C:oW a):ry (.un s a):=by
 intro t k A M i h
 have e:decide (((E.un s a).lv:Int)<(k:Int))=false:=by grind
 have X:=qZ A M;have⟨⟨w,c,r,m,u⟩,l⟩:=t;have⟨o,b,G,N⟩:=fu M;simp only at o b G;subst o b G;obtain⟨x,rfl,hx⟩:=vI N;simp only[E.ok,aZ]at A;rw[E.tree,wt]at i;simp only[gz,lim]at i;have Y:=C x 9 A.2 hx ze2;have O:=(E.len a A.2).1;have W:=Go.Xp.sB a.lv 9 a.bQ;have v:(bq [x])[0]?=some (cT x):=dK rfl;rw[E.bQ];generalize qx a.lv 9 a.bQ=y at *;simp only[cT,T.n,T.aw]at X |-;refine ak func321 ntmps321 ?_;refine I [] X ?_;refine aV (aM 0 8 (.a 8 (.q 9 (.a 10 (.q 11 (.q 12 .nil)))))) ?_;refine ay ?_;refine aX [] jZ ?_;refine aX [] Y ?_;exact aK
def LX(s:ah)(a b:E)(z:oW a)(C:oW b):ry (.bin s a b):=by
 intro t k A M i h
 have e:decide (((E.bin s a b).lv:Int)<(k:Int))=false:=by grind
 have X:=qZ A M;have⟨⟨R,j,Y,m,S⟩,l⟩:=t;have⟨o,c,G,N⟩:=fu M;simp only at o c G;subst o c G;obtain⟨x,y,rfl,hx,J⟩:=AK N;simp only[E.ok,aZ]at A;rw[E.tree,wt]at i;simp only[gz,lim]at i;have B:=z x (ff m) A.1.2 hx ze2;have r:=C y (ff m+1) A.2 J ze2;have F:=(Go.Xp.rM A.1.1).1;have O:=(E.len a A.1.2).1;have W:=Go.Xp.sB a.lv (ff m) a.bQ;have d:=(E.len b A.2).1;have v:=Go.Xp.sB b.lv (ff m+1) b.bQ;have Q:(bq [x,y])[0]?=some (cT x):=dK rfl;have H:(bq [x,y])[1]?=some (cT y):=dK rfl;rw[E.bQ];simp only[E.lv]at X e;generalize qx a.lv (ff m) a.bQ=u at *;generalize qx b.lv (ff m+1) b.bQ=w at *;simp only[cT,T.n,T.aw]at X |-;refine ak func321 ntmps321 ?_;refine I [] X ?_;refine I [] X ?_;refine aV (aM 0 5 (aM 7 3 (aM 12 6 (.a 5 (.q 6 (.q 10 (.q 11 (.a 18 (.q 19 (.q 20 .nil)))))))))) ?_;exact zeT
open GV (U)
open Go.Xp (cQ zG vO)
def IL(b:Bool)(a:E):Prop:=∀t,er t=a.tree->GF prog 261 [.agg (cT t),.v (.bool b)] [] (.v (sv (a.out b))) []
def KL:∀{ts:List T}{e:List E}(h:br ts=E.aL e),ts.length=e.length/\∀(k:Nat)t a,ts[k]?=some t->e[k]?=some a->er t=a.tree
 |[],[],_=>⟨rfl,fun k t a h=>by simp at h⟩
 |[],a::l,h=>by grind[br,E.aL]
 |t::r,[],h=>by grind[br,E.aL]
 |t::r,a::l,h=>by
  rw[br,E.aL]at h
  injection h with h1 h2
  have⟨G,C⟩:=KL h2
  grind
def B9(b:Bool)(e:List E)(C:∀a∈e,IL b a)(ts:List T)(j:br ts=E.aL e)(m:(cQ (e.map (E.out b))).length<=lim)(hn:e.length<=lim) :
  GF prog 359 [.sl 6 (bq ts),.v (.bool b)] [] (.v (sv (cQ (e.map (E.out b))))) []:=by
 have⟨c,A⟩:=KL j;unfold lim at m hn;refine ak func359 ntmps359 ?_;refine GW.range (bq ts).length (fun k J z=>∃y,J=U::.v (.bool b)::U::U::U::.v (sv y)::U::U::.sl 6 (bq ts)::y4 ((bq ts).length:Int)::y4 (k:Nat)::zU 15 []/\z=[]/\y=cQ ((e.map (E.out b)).take k)) ?_ (by rw[bC];omega) ?_ ?_ ?_
 ·exact⟨_,_,Wk.a6 aC,[],rfl,rfl,by rfl⟩
 ·rintro k _ _⟨y,rfl,rfl,_⟩;exact dS
 ·rintro k _ _ N⟨y,rfl,rfl,B⟩
  have N:k<e.length:=by grind[bC]
  have w:k<ts.length:=by omega
  have hx:e[k]?=some e[k]:=by simp[N]
  have M:ts[k]?=some ts[k]:=by simp[w]
  have q:=A k _ _ M hx;have F:=dK M;have W:=C _ (bN hx) _ q;have i:=vO (e.map (E.out b)) (k+1);have R:=vO (e.map (E.out b)) k
  have d:(e.map (E.out b)).take (k+1)=(e.map (E.out b)).take k++[e[k].out b]:=by
   grind[c7]
  rw[d]at i;generalize ts[k]=t at *;generalize e[k]=a at *;generalize a.out b=x at *
  by_cases o:k=0
  ·subst o
   have r:decide ((0:Int)<((0:Nat):Int))=false:=by decide
   have Y:cQ ((e.map (E.out b)).take 0++[x])=[]++x:=by simp[cQ]
   have u:cQ ((e.map (E.out b)).take 0)=[]:=by rfl
   rw[u]at B;subst B;rw[Y]at i
   have i:x.length<=(cQ (e.map (E.out b))).length:=by grind
   exact zcm
  ·have r:decide ((0:Int)<(k:Int))=true:=by grind
   have l:(e.map (E.out b)).take k≠[]:=by
    grind[List.take_eq_nil_iff,List.map_eq_nil_iff]
   have Y:=zG l x;rw[Y]at i;rw[<-B]at i Y R;simp only[bp,length_cons,length_nil]at i;exact zcm
 ·rintro _ _⟨y,rfl,rfl,B⟩;have:(e.map (E.out b)).take (bq ts).length=e.map (E.out b):=ml (by grind[bC]);rw[this]at B;subst B;exact aK
theorem oW.out{a:E}(C:oW a)(A:a.ok=true)(i:wt a.tree<=lim):IL true a:=by
 intro t M;have o:=C t 0 A M i;unfold qx at o;rw[ab L]at o;show GF _ _ _ _ (.v (sv a.bQ)) _;refine ak func261 ntmps261 ?_;exact zdU
def BE:∀l:List E,l.length<=gz (E.aL l)
 |[]=>bl _
 |a::l=>by
  have:=BE l;rw[E.aL,gz,length_cons]
  have:1<=wt a.tree:=by cases a<;>(rw[E.tree,wt];omega)
  omega
def BG:∀{l:List E}{a:E},a∈l->wt a.tree<=gz (E.aL l)
 |[],_,h=>by cases h
 |b::l,a,h=>by
  rw[E.aL,gz]
  rcases lp h with rfl|h
  ·omega
  ·have:=BG h;omega
def Bc:∀{l:List E}{a:E},E.du l=true->a∈l->a.ok=true
 |[],_,_,h=>by cases h
 |b::l,a,A,h=>by
  simp only[E.du,aZ]at A
  rcases lp h with rfl|h
  ·exact A.1
  ·exact Bc A.2 h
def Jo(s:ah)(e:List E)(C:∀a∈e,oW a):ry (.call s e):=by
 intro t k A M i h
 have j:decide (((E.call s e).lv:Int)<(k:Int))=false:=by grind
 have X:=qZ A M;have⟨⟨w,c,r,q,u⟩,l⟩:=t;have⟨o,b,G,N⟩:=fu M;simp only at o b G;subst o b G;simp only[E.ok,aZ]at A;rw[E.tree,wt]at i;have O:=(E.lens e A.2).1;have d:=BE e
 have m:E.ei e=e.map (E.out true):=by rw[E.PD];rfl
 have Y:=B9 true e (fun a v=>(C a v).out (Bc A.2 v) (by have:=BG v;omega)) l N ze2 L;rw[<-m]at Y;unfold lim at i;simp only at i;rw[E.bQ];generalize cQ (E.ei e)=y at *;simp only[cT,T.n,T.aw]at X |-;refine ak func321 ntmps321 ?_;refine I [] X ?_;exact zdo
mutual
def uZ:∀a:E,oW a
 |.num n=>(LY n).p
 |.name s=>(Jp s).p
 |.at_ s a=>(OR s a (uZ a)).p
 |.call s l=>(Jo s l (HA l)).p
 |.un s a=>(OS s a (uZ a)).p
 |.bin s a b=>(LX s a b (uZ a) (uZ b)).p
def HA:∀l:List E,∀a∈l,oW a
 |[]=>fun a h=>by cases h
 |b::l=>fun a h=>by
  rcases lp h with h|h
  ·rw[h];exact uZ b
  ·exact HA l a h
end
def mW(a:E):Prop:=∀(t:T),a.ok=true->er t=a.tree->wt a.tree<=lim->GF prog 322 [.agg (cT t)] [] (.v (sv a.full)) []
theorem mW.out{a:E}(C:mW a)(A:a.ok=true)(i:wt a.tree<=lim):IL false a:=by
 intro t M;have o:=C t A M i;show GF _ _ _ _ (.v (sv a.full)) _;refine ak func261 ntmps261 ?_;exact zdU
def Of(n:Int):mW (.num n):=by
 intro t A M i;have⟨⟨w,d,k,m,u⟩,l⟩:=t;have⟨o,b,G,N⟩:=fu M;simp only at o b G;subst o b G;simp only[E.ok,aZ]at A;have c:=BL k ⟨qu A.1,qu A.2⟩;rw[E.full];simp only[cT,T.n,T.aw];refine ak func322 ntmps322 ?_;refine I [] c ?_;exact az
section
variable(s:ah)
def K9:mW (.name s):=by
 intro t A M i;have⟨⟨w,c,m,k,u⟩,l⟩:=t;have⟨o,b,G,N⟩:=fu M;simp only at o b G;subst o b G;rw[E.full];simp only[cT,T.n,T.aw];refine ak func322 ntmps322 ?_;exact az
def RQ(a:E)(C:mW a):mW (.at_ s a):=by
 intro t A O i;exact zan
def K8(e:List E)(C:∀a∈e,mW a):mW (.call s e):=by
 intro t A O i;have⟨⟨w,c,q,k,u⟩,l⟩:=t;have⟨o,b,G,M⟩:=fu O;simp only at o b G;subst o b G;simp only[E.ok,aZ]at A;rw[E.tree,wt]at i;have N:=(E.lens e A.2).2;have d:=BE e
 have m:E.tR e=e.map (E.out false):=by rw[E.La];rfl
 have Y:=B9 false e (fun a v=>(C a v).out (Bc A.2 v) (by have:=BG v;omega)) l M ze2 L;rw[<-m]at Y;unfold lim at i;simp only at i;rw[E.full];generalize cQ (E.tR e)=y at *;simp only[cT,T.n,T.aw]at |-;refine ak func322 ntmps322 ?_;exact zdo
def RR(a:E)(C:mW a):mW (.un s a):=by
 intro t A O i;exact zan
def Oe(a b:E)(v:mW a)(z:mW b):mW (.bin s a b):=by
 intro t A O i;have⟨⟨J,e,m,k,Q⟩,l⟩:=t;have⟨o,c,G,M⟩:=fu O;simp only at o c G;subst o c G;obtain⟨x,y,rfl,hx,F⟩:=AK M;simp only[E.ok,aZ]at A;rw[E.tree,wt]at i;simp only[gz,lim]at i;have B:=v x A.1.2 hx ze2;have r:=z y A.2 F ze2;have N:=(E.len a A.1.2).2;have d:=(E.len b A.2).2;have H:(bq [x,y])[0]?=some (cT x):=dK rfl;have C:(bq [x,y])[1]?=some (cT y):=dK rfl;rw[E.full];generalize a.full=u at *;generalize b.full=w at *;simp only[cT,T.n,T.aw]at |-;refine ak func322 ntmps322 ?_;refine aV (aM 0 4 (aM 7 3 (aM 12 4 (.a 4 (.q 5 (.q 6 (.q 10 (.q 11 (.a 16 (aM 17 3 .nil)))))))))) ?_;exact zeT
end
mutual
def xG:∀a:E,mW a
 |.num n=>Of n
 |.name s=>K9 s
 |.at_ s a=>RQ s a (xG a)
 |.call s l=>K8 s l (K7 l)
 |.un s a=>RR s a (xG a)
 |.bin s a b=>Oe s a b (xG a) (xG b)
def K7:∀l:List E,∀a∈l,mW a
 |[]=>fun a h=>by cases h
 |b::l=>fun a h=>by
  rcases lp h with h|h
  ·rw[h];exact xG b
  ·exact K7 l a h
end
def qf(b:Bool){a:E}(A:a.ok=true)(i:wt a.tree<=lim):IL b a:=by
 cases b with
 |true=>exact(uZ a).out A i
 |false=>exact(xG a).out A i
def ko(b:Bool)(a:E)(A:a.ok=true):(a.out b).length+4<=wt a.tree:=by
 grind[E.len,E.out,wt,E.tree]
open Go.Xp (S cI iG)
def Ir(x:E->Go.Xp.ah):∀(l:List S)(T:Go.Xp.ah),T.length<=(S.ei x T l).length
 |[],T=>by simp[S.ei]
 |a::l,T=>by
  rw[S.ei];have:=Ir x l (T++a.bQ x++[32])
  grind
def n7(b:Bool)(s:S):Prop:=∀t,s.ok=true->er t=s.tree->wt s.tree<=lim->GF prog 203 [.agg (cT t),.v (.bool b)] [] (.v (sv (s.bQ (E.out b)))) []
def uF(b:Bool)(l:List S):Prop:=∀t,S.du l=true->er t=cI l->wt (cI l)<=lim->GF prog 203 [.agg (cT t),.v (.bool b)] [] (.v (sv (iG (E.out b) l))) []
def H6:∀{ts:List T}{e:List S}(h:br ts=S.aL e),ts.length=e.length/\∀(k:Nat)t a,ts[k]?=some t->e[k]?=some a->er t=a.tree
 |[],[],_=>⟨rfl,fun k t a h=>by simp at h⟩
 |[],a::l,h=>by grind[br,S.aL]
 |t::r,[],h=>by grind[br,S.aL]
 |t::r,a::l,h=>by
  rw[br,S.aL]at h
  injection h with h1 h2
  have⟨G,C⟩:=H6 h2
  grind
def E8:∀{l:List S}{a:S},a∈l->wt a.tree<=gz (S.aL l)
 |[],_,h=>by cases h
 |b::l,a,h=>by
  rw[S.aL,gz]
  rcases lp h with rfl|h
  ·omega
  ·have:=E8 h;omega
def E7:∀l:List S,l.length<=gz (S.aL l)
 |[]=>bl _
 |a::l=>by
  have:=E7 l;rw[S.aL,gz,length_cons]
  have:1<=wt a.tree:=by cases a<;>(rw[S.tree,wt];omega)
  omega
def EX:∀{l:List S}{a:S},S.du l=true->a∈l->a.ok=true
 |[],_,_,h=>by cases h
 |b::l,a,A,h=>by
  simp only[S.du,aZ]at A
  rcases lp h with rfl|h
  ·exact A.1
  ·exact EX A.2 h
section
variable(b:Bool)(s:Go.Xp.ah)(a:E)
def Np:n7 b (.var s a):=by
 intro t A N i;have⟨⟨z,d,m,k,B⟩,l⟩:=t;have⟨o,c,G,M⟩:=fu N;simp only at o c G;subst o c G;obtain⟨u,rfl,F⟩:=vI M;simp only[S.ok,aZ]at A;rw[S.tree,wt]at i;simp only[gz,lim]at i;have v:=qf b (a:=a) A.2 ze2 u F;have q:=ko b a A.2;have w:(bq [u])[0]?=some (cT u):=dK rfl;rw[S.bQ];generalize a.out b=O at *;simp only[cT,T.n,T.aw];refine ak func203 ntmps203 ?_;refine aV (aM 0 10 (.a 10 (aM 11 3 .nil))) ?_;refine ay ?_;refine aX [] v ?_;exact aK
def Nn:n7 b (.set s a):=by
 intro t A N i;have⟨⟨z,d,m,k,B⟩,l⟩:=t;have⟨o,c,G,M⟩:=fu N;simp only at o c G;subst o c G;obtain⟨u,rfl,F⟩:=vI M;simp only[S.ok,aZ]at A;rw[S.tree,wt]at i;simp only[gz,lim]at i;have v:=qf b (a:=a) A.2 ze2 u F;have q:=ko b a A.2;have w:(bq [u])[0]?=some (cT u):=dK rfl;rw[S.bQ];generalize a.out b=O at *;simp only[cT,T.n,T.aw];refine ak func203 ntmps203 ?_;refine aV (aM 0 9 (.a 9 (aM 10 3 .nil))) ?_;refine ay ?_;refine aX [] v ?_;exact aK
def Nk(c:E):n7 b (.put s a c):=by
 intro t A N i;have⟨⟨J,e,Q,k,O⟩,l⟩:=t;have⟨o,d,H,M⟩:=fu N;simp only at o d H;subst o d H;obtain⟨u,w,rfl,G,z⟩:=AK M;simp only[S.ok,aZ]at A;rw[S.tree,wt]at i;simp only[gz,lim]at i;have v:=qf b (a:=a) A.2.1 ze2 u G;have r:=ko b a A.2.1;have B:(bq [u,w])[0]?=some (cT u):=dK rfl;have F:=qf b (a:=c) A.2.2 ze2 w z;have m:=ko b c A.2.2;have C:(bq [u,w])[1]?=some (cT w):=dK rfl;rw[S.bQ];generalize a.out b=R at *;generalize c.out b=W at *;simp only[cT,T.n,T.aw];refine ak func203 ntmps203 ?_;refine aV (aM 0 9 (aM 12 5 (.a 9 (.q 10 (.q 11 (.a 17 (aM 18 3 .nil))))))) ?_;refine ay ?_;refine aX [] v ?_;refine aX [] F ?_;exact aK
end
section
variable(b:Bool)(c:E)(p:List S)
theorem Ni(R:uF b p):n7 b (.if1 c p):=by
 intro t A N i;have⟨⟨O,e,s,k,Q⟩,l⟩:=t;have⟨o,d,H,M⟩:=fu N;simp only at o d H;subst o d H;obtain⟨u,w,rfl,G,B⟩:=AK M;simp only[S.ok,aZ]at A;rw[S.tree,wt]at i;simp only[gz,lim]at i;have z:=qf b (a:=c) A.1 ze2 u G;have r:=ko b c A.1;have C:(bq [u,w])[0]?=some (cT u):=dK rfl;have F:=R w A.2 B (by grind[cI]);have m:=Go.Xp.sA (E.out b) (ko b) A.2;rw[cI]at m;have J:(bq [u,w])[1]?=some (cT w):=dK rfl;rw[S.bQ];generalize c.out b=W at *
 change GF _ _ _ _ (.v (sv _)) _ at F
 exact zaQ
theorem Nj(q:List S)(G:uF b p)(H:uF b q):n7 b (.if2 c p q):=by
 intro t i R F;have⟨⟨X,W,vv,Z,Y⟩,l⟩:=t;have⟨A,B,C,J⟩:=fu R;simp only at A B C;subst A B C;obtain⟨m,o,r,rfl,u,w,z⟩:=Yc J;simp only[S.ok,aZ]at i;rw[S.tree,wt]at F;simp only[gz,lim]at F;have s:=qf b (a:=c) i.1 ze2 m u;have M:=ko b c i.1;have N:(bq [m,o,r])[0]?=some (cT m):=dK rfl;have d:=G o i.2.1 w (by grind[cI]);have j:=Go.Xp.sA (E.out b) (ko b) i.2.1;rw[cI]at j;have O:(bq [m,o,r])[1]?=some (cT o):=dK rfl;have e:=H r i.2.2 z (by grind[cI]);have k:=Go.Xp.sA (E.out b) (ko b) i.2.2;rw[cI]at k;have Q:(bq [m,o,r])[2]?=some (cT r):=dK rfl;rw[S.bQ];generalize c.out b=y0 at *
 change GF _ _ _ _ (.v (sv _)) _ at d
 unfold iG at d j;generalize S.ei (E.out b) [123,32] p++[125]=y1 at *
 change GF _ _ _ _ (.v (sv _)) _ at e
 unfold iG at e k;generalize S.ei (E.out b) [123,32] q++[125]=y2 at *;simp only[cT,T.n,T.aw];refine ak func203 ntmps203 ?_;refine aV (aM 0 5 (aM 8 5 (.a 5 (.q 6 (.q 7 (.a 13 (.q 14 (.q 15 .nil)))))))) ?_;refine ay ?_;refine aX [] s ?_;refine aX [] d ?_;refine zcr ?_;exact az
theorem Gg(R:uF b p):n7 b (.while_ c p):=by
 intro t A N i;have⟨⟨O,e,s,k,Q⟩,l⟩:=t;have⟨o,d,H,M⟩:=fu N;simp only at o d H;subst o d H;obtain⟨u,w,rfl,G,B⟩:=AK M;simp only[S.ok,aZ]at A;rw[S.tree,wt]at i;simp only[gz,lim]at i;have z:=qf b (a:=c) A.1 ze2 u G;have r:=ko b c A.1;have C:(bq [u,w])[0]?=some (cT u):=dK rfl;have F:=R w A.2 B (by grind[cI]);have m:=Go.Xp.sA (E.out b) (ko b) A.2;rw[cI]at m;have J:(bq [u,w])[1]?=some (cT w):=dK rfl;rw[S.bQ];generalize c.out b=W at *
 change GF _ _ _ _ (.v (sv _)) _ at F
 exact zaQ
end
def Nl(b:Bool)(a:E):n7 b (.ret a):=by
 intro t A N i;exact zau
def PO(b:Bool)(a:E):n7 b (.do_ a):=by
 intro t A N i;exact zau
def rS(b:Bool)(e:List S)(C:∀a∈e,n7 b a):uF b e:=by
 intro t F Q i;have⟨⟨Y,q,Z,s,H⟩,l⟩:=t;have⟨o,c,G,M⟩:=fu Q;simp only at o c G;subst o c G;have⟨m,A⟩:=H6 M;have N:=Go.Xp.sA (E.out b) (ko b) F;rw[cI,wt]at i;rw[cI,wt]at N;have r:=E7 e;unfold iG at N |-;unfold lim at i;simp only[bp,length_cons,length_nil]at i N;simp only[cT,T.n,T.aw];refine ak func203 ntmps203 ?_;refine GW.range (bq l).length (fun k J R=>∃y,J=U::.v (.bool b)::.loc 0 0::U::U::U::.v (sv y)::zU 124 (.sl 6 (bq l)::y4 ((bq l).length:Int)::y4 (k:Nat)::zU 12 [])/\R=[.box 89 [y4 14,y4 q,y4 0,.v (sv []),ints H,.sl 6 (bq l)]]/\S.ei (E.out b) y (e.drop k)=S.ei (E.out b) [123,32] e) ?_ (by rw[bC];omega) ?_ ?_ ?_
 ·exact⟨_,_,Wk.a6 aC,_,rfl,rfl,rfl⟩
 ·rintro k _ _⟨y,rfl,rfl,_⟩;exact dS
 ·rintro k _ _ O⟨y,rfl,rfl,B⟩
  have O:k<e.length:=by grind[bC]
  have u:k<l.length:=by omega
  have hx:e[k]?=some e[k]:=by simp[O]
  have d:l[k]?=some l[k]:=by simp[u]
  have X:=dK d;rw[lz O,S.ei]at B;have j:=bN hx;have W:=C _ j _ (EX F j) (A k _ _ d hx) (by have:=E8 j;grind);generalize l[k]=t at *;generalize z:e[k].bQ (E.out b)=x at *;have w:=Ir (E.out b) (e.drop (k+1)) (y++x++[32]);rw[B]at w;simp only[bp,length_cons,length_nil]at w;refine zdw ?_;exact⟨rfl,rfl,_,_,(Wk.cut (n:=1) (eF rfl) rfl).trans (Wk.a6 aC),_,rfl,rfl,B⟩
 ·rintro _ _⟨y,rfl,rfl,B⟩;rw[List.drop_of_length_le (by simp_all[bC,a8]),S.ei]at B;subst B;exact aK
mutual
def VI(b:Bool):∀s:S,n7 b s
 |.set s a=>Nn b s a
 |.put s a c=>Nk b s a c
 |.if1 c p=>Ni b c p (rS b p (sN b p))
 |.if2 c p q=>Nj b c p q (rS b p (sN b p)) (rS b q (sN b q))
 |.while_ c p=>Gg b c p (rS b p (sN b p))
 |.ret a=>Nl b a
 |.do_ a=>PO b a
 |.var s a=>Np b s a
def sN(b:Bool):∀l:List S,∀a∈l,n7 b a
 |[]=>fun a h=>by cases h
 |c::l=>fun a h=>by
  rcases lp h with h|h
  ·rw[h];exact VI b c
  ·exact sN b l a h
end
def VH(b:Bool)(l:List S):uF b l:=rS b l (sN b l)
open Go.Xp (gm)
def LP(p:Src)(J:Ac p)(ls:List (List S))(w:C6 p ls):GF prog 146 [.agg (aB p)] [] (.v (.bool (ls.all fun l=>gm l 1))) []:=by
 refine ak func146 ntmps146 ?_;refine GW.range (p.av.map aI).length (fun k N Γ=>N=U::.loc 0 0::U::U::U::U::U::U::.sl 3 (p.av.map aI)::y4 ((p.av.map aI).length:Int)::y4 (k:Nat)::zU 34 []/\Γ=[.box 28 (aB p)]/\((ls.take k).all fun l=>gm l 1)=true) ?_ (by simpa using by have:=J.av.1;omega) ?_ ?_ ?_
 ·exact kP
 ·exact jA
 ·rintro k _ _ u⟨rfl,rfl,s⟩
  have u:k<p.av.length:=by simpa using u
  have B:k<ls.length:=by rw[w.len];exact u
  have hx:p.av[k]?=some p.av[k]:=by simp[u]
  have e:ls[k]?=some ls[k]:=by simp[B]
  have hr:=qi hx;have⟨O,H,Z,t,o,A⟩:=w.at_ k _ _ hx e;have F:=C5 p (fun n Y=>(J.ae.2 n Y).2) _ _ _ o;rw[Int.toNat_of_nonneg O]at F;have d:=VH true ls[k] t H A (by unfold lim;omega);have⟨M,t2,q,f,Q,h2,h3,h4,R,T,j⟩:=Rr H Z;have r:=LR _ M L Q;have C:RS.ok ⟨M,0,(iG E.bQ ls[k]).length,0,0⟩:=⟨bl _,by simp only;omega⟩;have b:=(X2 f).block 1 _ t2 q C L R
  have G:(E.out true)=E.bQ:=by funext a;rfl
  rw[G]at d;generalize iG E.bQ ls[k]=tx at *;generalize c:gm ls[k] 1=fit at *;generalize p.av[k]=x at *
  rcases j with⟨j,W,rfl⟩|⟨j,rfl⟩
  ·have z:(q.code != 0)=false:=by simpa using j
   have X:((q.i:Int) != ((q.l.map da).length:Int))=false:=by rw[bS,T];simp[W]
   refine zd1 ?_;refine bj ?_;exact⟨rfl,rfl,_,_,(Wk.cut (n:=1) (eF rfl) rfl).trans (Wk.a6 aC),rfl,rfl,sS e s c⟩
  ·have z:(q.code != 0)=true:=by simpa using j
   have m:(ls.all fun l=>gm l 1)=false:=uG e c;rw[m];refine zd1 ?_;exact zbI
 ·rintro _ _⟨rfl,rfl,s⟩;rw[ml (by rw[bS,w.len];exact a8 _)]at s;rw[s];exact aK
def J5(p:Src)(W:Ac p)(h:oM p=some false):GF prog 76 [.agg (aB p)] [] (.v (.bool false)) []:=by
 have G:=zL p W false h;refine ak func76 ntmps76 ?_;refine I [] G ?_;exact az
def J6(p:Src)(W:Ac p)(h:oM p=some true)(ls:List (List S))(i:C6 p ls):GF prog 76 [.agg (aB p)] [] (.v (.bool (ls.all fun l=>gm l 1))) []:=by
 have G:=zL p W true h;have m:=LP p W ls i;generalize(ls.all fun l=>gm l 1)=b at *;refine ak func76 ntmps76 ?_;refine I [] G ?_;exact zb0
open Go.Im
def SU{p:Src}(t:cH p<=1048576):Ac p:=by
 have⟨⟨a1,F⟩,⟨o,m⟩,⟨r,M⟩,⟨E,W⟩⟩:=gg p;exact⟨⟨by omega,fun s G=>by have:=F s G;omega⟩,⟨by omega,fun s G=>by have:=m s G;omega⟩,⟨by omega,fun f l=>by have⟨w,R,q⟩:=M f l;exact⟨by omega,by omega,fun s G=>by have:=q s G;omega⟩⟩,⟨by omega,fun n c=>by have⟨w,R⟩:=W n c;exact⟨by omega,by omega⟩⟩⟩
def tI(p:Src)(n:cH p<=1048576):GF prog 76 [.agg (aB p)] [] (.v (.bool (fI p))) []:=by
 have z:=SU n;have⟨b,i⟩:=JR p
 cases b with
 |false=>rw[Yd i];exact J5 p z i
 |true =>
  have⟨l,M⟩:=SX i;have⟨t,m⟩:=M.CT;rw[Ye M m];exact J6 p z i t (Kp M m n)
end Go.Xg
