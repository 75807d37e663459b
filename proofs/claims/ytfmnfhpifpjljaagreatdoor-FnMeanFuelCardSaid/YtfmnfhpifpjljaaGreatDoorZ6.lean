/- Part 6 of proofs that are told in their last texts. -/
import Derived.Test.YtfmnfhpifpjljaaGreatDoorZ5
open List (all_cons all_eq_false all_nil any_append any_eq_false cons_append drop_length length_cons length_nil map_take nil_append)
set_option linter.unusedVariables false
set_option linter.unusedSimpArgs false
set_option linter.defProp false
set_option maxRecDepth 100000
set_option maxHeartbeats 1000000
namespace Go
def za9{A:Prop}(s:A:=by refine qk ?_;refine bA ?_;refine GW.wk (Wk.iC (t:=7) rfl rfl rfl (by simp[chunk])) ?_;refine lr ?_;exact zai):A:=s
end Go
namespace Go.Xg
open Go.RowKit Go.Xw Go.Proofs Tryz Go.Sp
open GV (U)
open Go.Xp (T)
attribute [local irreducible] GW GL GO V GC GA bh bm
def X9(a n:Int)(s:ai)(ks:List Int)(l:List T)(o:s.length<=1099511627776)(W:l.length<=1099511627776)(ha:decide (a<0)=false):GF prog 260 [.agg (cT (.mk ⟨1,a,n,s,ks⟩ l))] [] (.v (.bool (cL (.mk ⟨1,a,n,s,ks⟩ l)))) []:=by
 have N:cL (.mk ⟨1,a,n,s,ks⟩ l)=(decide ((0:Int)<=n)&&(decide (n<=2147483647)&&((s==[])&&((l.length:Int)==0)))):=by unfold cL own;rw[ab zfl];rfl
 rw[N];refine ef func260 ntmps260 ?_
 cases M:decide ((0:Int)<=n)with
 |false =>
  exact aC
 |true =>
  cases z:decide (n<=2147483647)with
  |false =>
   exact aC
  |true =>
   cases w:(s==[])with
   |false =>
    exact aC
   |true =>
    refine zdy ?_;exact⟨by first|rfl|(rw[bs];rfl),rfl⟩
section
variable(a:Int)(s:ai)(ks:List Int)(l:List T)
def Ya(q:s.length<=1099511627776)(W:l.length<=1099511627776)(ha:decide (a<0)=false):GF prog 260 [.agg (cT (.mk ⟨2,a,0,s,ks⟩ l))] [] (.v (.bool (cL (.mk ⟨2,a,0,s,ks⟩ l)))) []:=by
 have N:cL (.mk ⟨2,a,0,s,ks⟩ l)=(cb s&&((l.length:Int)==0)):=by unfold cL own;rw[ab zfl];rfl
 rw[N];refine ef func260 ntmps260 ?_
 cases M:cb s with
 |false =>
  exact zaj
 |true =>
  refine X ?_;have o:=fi s q;rw[M]at o;exact zag
def Yb(q:s.length<=1099511627776)(b:l.length<=1099511627776)(ha:decide (a<0)=false):GF prog 260 [.agg (cT (.mk ⟨3,a,0,s,ks⟩ l))] [] (.v (.bool (cL (.mk ⟨3,a,0,s,ks⟩ l)))) []:=by
 have N:cL (.mk ⟨3,a,0,s,ks⟩ l)=(cb s&&(((l.length:Int)==1)&&b0 1 0 l)):=by unfold cL own;rw[ab zfl];rfl
 rw[N];refine ef func260 ntmps260 ?_
 cases M:cb s with
 |false =>
  exact zaj
 |true =>
  cases z:((l.length:Int)==1)with
  |false =>
   have W:((((aR l).length:Int)==1))=false:=by rw[<-bs l]at z;exact z
   exact zaj
  |true =>
   have W:((((aR l).length:Int)==1))=true:=by rw[<-bs l]at z;exact z
   refine X ?_;have o:=fi s q;rw[M]at o;refine D [] o ?_;have o:=gm (.mk ⟨3,a,0,s,ks⟩ l) 1 b;exact zag
def Yc(q:s.length<=1099511627776)(W:l.length<=1099511627776)(ha:decide (a<0)=false):GF prog 260 [.agg (cT (.mk ⟨4,a,0,s,ks⟩ l))] [] (.v (.bool (cL (.mk ⟨4,a,0,s,ks⟩ l)))) []:=by
 have N:cL (.mk ⟨4,a,0,s,ks⟩ l)=(cb s&&b0 l.length 0 l):=by unfold cL own;rw[ab zfl];rfl
 rw[N];refine ef func260 ntmps260 ?_
 cases M:cb s with
 |false =>
  exact zaj
 |true =>
  refine X ?_;have o:=fi s q;rw[M]at o;refine D [] o ?_;have o:=gm (.mk ⟨4,a,0,s,ks⟩ l) (aR l).length W;exact zag
def Ye(q:s.length<=1099511627776)(b:l.length<=1099511627776)(ha:decide (a<0)=false):GF prog 260 [.agg (cT (.mk ⟨6,a,0,s,ks⟩ l))] [] (.v (.bool (cL (.mk ⟨6,a,0,s,ks⟩ l)))) []:=by
 have N:cL (.mk ⟨6,a,0,s,ks⟩ l)=(fX s&&(((l.length:Int)==2)&&b0 2 0 l)):=by unfold cL own;rw[ab zfl];rfl
 rw[N];refine ef func260 ntmps260 ?_
 cases M:fX s with
 |false =>
  refine X ?_;have o:=tu s;rw[M]at o;exact zbO
 |true =>
  cases z:((l.length:Int)==2)with
  |false =>
   have W:((((aR l).length:Int)==2))=false:=by rw[<-bs l]at z;exact z
   refine X ?_;have o:=tu s;rw[M]at o;exact zbO
  |true =>
   have W:((((aR l).length:Int)==2))=true:=by rw[<-bs l]at z;exact z
   refine X ?_;have o:=tu s;rw[M]at o;refine D [] o ?_;have o:=gm (.mk ⟨6,a,0,s,ks⟩ l) 2 b;exact zag
def Yf(q:s.length<=1099511627776)(b:l.length<=1099511627776)(ha:decide (a<0)=false):GF prog 260 [.agg (cT (.mk ⟨7,a,0,s,ks⟩ l))] [] (.v (.bool (cL (.mk ⟨7,a,0,s,ks⟩ l)))) []:=by
 have N:cL (.mk ⟨7,a,0,s,ks⟩ l)=(cb s&&(((l.length:Int)==1)&&b0 1 0 l)):=by unfold cL own;rw[ab zfl];rfl
 rw[N];refine ef func260 ntmps260 ?_
 cases M:cb s with
 |false =>
  exact zaj
 |true =>
  cases z:((l.length:Int)==1)with
  |false =>
   have W:((((aR l).length:Int)==1))=false:=by rw[<-bs l]at z;exact z
   exact zaj
  |true =>
   have W:((((aR l).length:Int)==1))=true:=by rw[<-bs l]at z;exact z
   refine X ?_;have o:=fi s q;rw[M]at o;refine D [] o ?_;have o:=gm (.mk ⟨7,a,0,s,ks⟩ l) 1 b;exact zag
def Yg(q:s.length<=1099511627776)(b:l.length<=1099511627776)(ha:decide (a<0)=false):GF prog 260 [.agg (cT (.mk ⟨8,a,0,s,ks⟩ l))] [] (.v (.bool (cL (.mk ⟨8,a,0,s,ks⟩ l)))) []:=by
 have N:cL (.mk ⟨8,a,0,s,ks⟩ l)=(cb s&&(((l.length:Int)==2)&&b0 2 0 l)):=by unfold cL own;rw[ab zfl];rfl
 rw[N];refine ef func260 ntmps260 ?_
 cases M:cb s with
 |false =>
  exact zaj
 |true =>
  cases z:((l.length:Int)==2)with
  |false =>
   have W:((((aR l).length:Int)==2))=false:=by rw[<-bs l]at z;exact z
   exact zaj
  |true =>
   have W:((((aR l).length:Int)==2))=true:=by rw[<-bs l]at z;exact z
   refine X ?_;have o:=fi s q;rw[M]at o;refine D [] o ?_;have o:=gm (.mk ⟨8,a,0,s,ks⟩ l) 2 b;exact zag
def Wc(q:s.length<=1099511627776)(b:l.length<=1099511627776)(ha:decide (a<0)=false):GF prog 260 [.agg (cT (.mk ⟨10,a,0,s,ks⟩ l))] [] (.v (.bool (cL (.mk ⟨10,a,0,s,ks⟩ l)))) []:=by
 have N:cL (.mk ⟨10,a,0,s,ks⟩ l)=((s==[])&&(((l.length:Int)==2)&&b0 1 0 l)):=by unfold cL own;rw[ab zfl];rfl
 rw[N];refine ef func260 ntmps260 ?_
 cases M:(s==[])with
 |false =>
  exact aC
 |true =>
  cases z:((l.length:Int)==2)with
  |false =>
   have W:((((aR l).length:Int)==2))=false:=by rw[<-bs l]at z;exact z
   exact aC
  |true =>
   have W:((((aR l).length:Int)==2))=true:=by rw[<-bs l]at z;exact z
   refine X ?_;have o:=gm (.mk ⟨10,a,0,s,ks⟩ l) 1 b;exact zag
def Wd(q:s.length<=1099511627776)(b:l.length<=1099511627776)(ha:decide (a<0)=false):GF prog 260 [.agg (cT (.mk ⟨11,a,0,s,ks⟩ l))] [] (.v (.bool (cL (.mk ⟨11,a,0,s,ks⟩ l)))) []:=by
 have N:cL (.mk ⟨11,a,0,s,ks⟩ l)=((s==[])&&(((l.length:Int)==1)&&b0 1 0 l)):=by unfold cL own;rw[ab zfl];rfl
 rw[N];refine ef func260 ntmps260 ?_
 cases M:(s==[])with
 |false =>
  exact aC
 |true =>
  cases z:((l.length:Int)==1)with
  |false =>
   have W:((((aR l).length:Int)==1))=false:=by rw[<-bs l]at z;exact z
   exact aC
  |true =>
   have W:((((aR l).length:Int)==1))=true:=by rw[<-bs l]at z;exact z
   refine X ?_;have o:=gm (.mk ⟨11,a,0,s,ks⟩ l) 1 b;exact zag
def We(q:s.length<=1099511627776)(b:l.length<=1099511627776)(ha:decide (a<0)=false):GF prog 260 [.agg (cT (.mk ⟨12,a,0,s,ks⟩ l))] [] (.v (.bool (cL (.mk ⟨12,a,0,s,ks⟩ l)))) []:=by
 have N:cL (.mk ⟨12,a,0,s,ks⟩ l)=((s==[])&&(((l.length:Int)==1)&&b0 1 0 l)):=by unfold cL own;rw[ab zfl];rfl
 rw[N];refine ef func260 ntmps260 ?_
 cases M:(s==[])with
 |false =>
  exact aC
 |true =>
  cases z:((l.length:Int)==1)with
  |false =>
   have W:((((aR l).length:Int)==1))=false:=by rw[<-bs l]at z;exact z
   exact aC
  |true =>
   have W:((((aR l).length:Int)==1))=true:=by rw[<-bs l]at z;exact z
   refine X ?_;have o:=gm (.mk ⟨12,a,0,s,ks⟩ l) 1 b;exact zag
def Wf(q:s.length<=1099511627776)(b:l.length<=1099511627776)(ha:decide (a<0)=false):GF prog 260 [.agg (cT (.mk ⟨13,a,0,s,ks⟩ l))] [] (.v (.bool (cL (.mk ⟨13,a,0,s,ks⟩ l)))) []:=by
 have N:cL (.mk ⟨13,a,0,s,ks⟩ l)=(cb s&&(((l.length:Int)==1)&&b0 1 0 l)):=by unfold cL own;rw[ab zfl];rfl
 rw[N];refine ef func260 ntmps260 ?_
 cases M:cb s with
 |false =>
  exact zaj
 |true =>
  cases z:((l.length:Int)==1)with
  |false =>
   have W:((((aR l).length:Int)==1))=false:=by rw[<-bs l]at z;exact z
   exact zaj
  |true =>
   have W:((((aR l).length:Int)==1))=true:=by rw[<-bs l]at z;exact z
   refine X ?_;have o:=fi s q;rw[M]at o;refine D [] o ?_;have o:=gm (.mk ⟨13,a,0,s,ks⟩ l) 1 b;exact zag
def Yd(q:s.length<=1099511627776)(W:l.length<=1099511627776)(ha:decide (a<0)=false):GF prog 260 [.agg (cT (.mk ⟨5,a,0,s,ks⟩ l))] [] (.v (.bool (cL (.mk ⟨5,a,0,s,ks⟩ l)))) []:=by
 have N:cL (.mk ⟨5,a,0,s,ks⟩ l)=((s==[45] ||s==[33] ||s==[126])&&(((l.length:Int)==1)&&b0 1 0 l)):=by unfold cL own;rw[ab zfl];rfl
 rw[N];refine ef func260 ntmps260 ?_
 cases z:(s==[45])with
 |true =>
  cases c:((l.length:Int)==1)with
  |false =>
   have t:(((aR l).length:Int)==1)=false:=by rw[<-bs l]at c;exact c
   exact aC
  |true =>
   have t:(((aR l).length:Int)==1)=true:=by rw[<-bs l]at c;exact c
   exact zcC
 |false =>
  cases w:(s==[33])with
  |true =>
   cases c:((l.length:Int)==1)with
   |false =>
    have t:(((aR l).length:Int)==1)=false:=by rw[<-bs l]at c;exact c
    exact aC
   |true =>
    have t:(((aR l).length:Int)==1)=true:=by rw[<-bs l]at c;exact c
    exact zcC
  |false =>
   cases I:(s==[126])with
   |false =>
    exact aC
   |true =>
    cases c:((l.length:Int)==1)with
    |false =>
     have t:(((aR l).length:Int)==1)=false:=by rw[<-bs l]at c;exact c
     exact aC
    |true =>
     have t:(((aR l).length:Int)==1)=true:=by rw[<-bs l]at c;exact c
     exact zcC
def Yh(q:s.length<=1099511627776)(b:l.length<=1099511627776)(ha:decide (a<0)=false):GF prog 260 [.agg (cT (.mk ⟨9,a,0,s,ks⟩ l))] [] (.v (.bool (cL (.mk ⟨9,a,0,s,ks⟩ l)))) []:=by
 have N:cL (.mk ⟨9,a,0,s,ks⟩ l)=((s==[])&&((((l.length:Int)==2) ||((l.length:Int)==3))&&b0 1 0 l)):=by unfold cL own;rw[ab zfl];rfl
 rw[N];refine ef func260 ntmps260 ?_
 cases O:(s==[])with
 |false =>
  exact aC
 |true =>
  cases z:((l.length:Int)==2)with
  |true =>
   have W:(((aR l).length:Int)==2)=true:=by rw[<-bs l]at z;exact z
   exact zeS
  |false =>
   have W:(((aR l).length:Int)==2)=false:=by rw[<-bs l]at z;exact z
   cases w:((l.length:Int)==3)with
   |true =>
    have M:(((aR l).length:Int)==3)=true:=by rw[<-bs l]at w;exact w
    exact zeS
   |false =>
    have M:(((aR l).length:Int)==3)=false:=by rw[<-bs l]at w;exact w
    exact aC
def Wg(q:s.length<=1099511627776)(W:l.length<=1099511627776)(ha:decide (a<0)=false):GF prog 260 [.agg (cT (.mk ⟨14,a,0,s,ks⟩ l))] [] (.v (.bool (cL (.mk ⟨14,a,0,s,ks⟩ l)))) []:=by
 have N:cL (.mk ⟨14,a,0,s,ks⟩ l)=((l.all fun x=>jl x.n.aj)&&(s==[])):=by unfold cL own;rw[ab zfl];rfl
 rw[N];refine ah func260 ntmps260 ?_;refine GW.range (aR l).length (fun k o c=>∃n,o=U::.loc 0 0::U::.loc 1 0::zU 172 (.sl 6 (aR l)::y4 ((aR l).length:Int)::y4 (k:Nat)::zU 12 [])/\c=[.box 89 (cT (.mk ⟨14,a,0,s,ks⟩ l)),.box 82 n]/\n=aU ⟨14,a,0,s,ks⟩/\((l.take k).all fun x=>jl x.n.aj)=true) ?_ (by rw[bs];exact W) ?_ ?_ ?_
 ·exact⟨_,_,Wk.bb aD,_,rfl,rfl,rfl,rfl⟩
 ·rintro k _ _⟨_,rfl,rfl,_⟩;exact eB
 ·rintro k _ _ G⟨_,rfl,rfl,rfl,t⟩
  have G:k<l.length:=by rw[bs]at G;exact G
  have hx:l[k]?=some l[k]:=by simp[G]
  have i:=bH hx;generalize l[k]=x at *;have e:=Gl x.n.aj
  cases r:jl x.n.aj with
  |true =>
   rw[r]at e;refine X ?_;refine D [] e ?_;exact⟨rfl,rfl,_,_,(Wk.cut (n:=2) (dT rfl) rfl).trans (Wk.bb aD),_,rfl,rfl,rfl,by rw[dI,hx,List.all_append,t];simp only[Option.toList,all_cons,all_nil,r];rfl⟩
  |false =>
   rw[r]at e;refine X ?_;refine D [] e ?_;refine ct ?_
   have ha:(l.all fun x=>jl x.n.aj)=false:=by
    exact zdi
   rw[ha];exact zai
 ·rintro _ _⟨_,rfl,rfl,rfl,t⟩
  have t:(l.all fun x=>jl x.n.aj)=true:=by
   rw[mz zfZ]at t;exact t
  rw[t];exact aC
end
section
variable(k a n:Int)(s:ai)(ks:List Int)(l:List T)
def Yl(J:k=1\/k=2\/k=3\/k=4\/k=5\/k=6\/k=7\/k=8\/k=9\/k=10\/k=11\/k=12\/k=13\/k=14\/True)(hx:¬(k=1\/k=2\/k=3\/k=4\/k=5\/k=6\/k=7\/k=8\/k=9\/k=10\/k=11\/k=12\/k=13\/k=14))(ha:decide (a<0)=false)(hn:(n != 0)=false):GF prog 260 [.agg (cT (.mk ⟨k,a,n,s,ks⟩ l))] [] (.v (.bool (cL (.mk ⟨k,a,n,s,ks⟩ l)))) []:=by
 simp only[not_or]at hx;have⟨z,A,I,c,F,H,W,O,B,G,d,w,o,C⟩:=hx
 have z:(k==1)=false:=by simpa using z
 have Q:(k != 1)=true:=by simp only[bne,z];rfl
 have A:(k==2)=false:=by simpa using A
 have I:(k==3)=false:=by simpa using I
 have c:(k==4)=false:=by simpa using c
 have F:(k==5)=false:=by simpa using F
 have H:(k==6)=false:=by simpa using H
 have W:(k==7)=false:=by simpa using W
 have O:(k==8)=false:=by simpa using O
 have B:(k==9)=false:=by simpa using B
 have G:(k==10)=false:=by simpa using G
 have d:(k==11)=false:=by simpa using d
 have w:(k==12)=false:=by simpa using w
 have o:(k==13)=false:=by simpa using o
 have C:(k==14)=false:=by simpa using C
 have N:cL (.mk ⟨k,a,n,s,ks⟩ l)=false:=by
  show own ⟨k,a,n,s,ks⟩ _ _ _=_;simp[own,z,A,I,c,F,H,W,O,B,G,d,w,o,C]
 exact zdI
def Yi(ha:decide (a<0)=true):GF prog 260 [.agg (cT (.mk ⟨k,a,n,s,ks⟩ l))] [] (.v (.bool (cL (.mk ⟨k,a,n,s,ks⟩ l)))) []:=by
 have N:cL (.mk ⟨k,a,n,s,ks⟩ l)=false:=by
  show own ⟨k,a,n,s,ks⟩ _ _ _=_;unfold own;rw[ae ha]
 exact zdI
def Yk(ha:decide (a<0)=false)(G:(k != 1)=true)(hn:(n != 0)=true):GF prog 260 [.agg (cT (.mk ⟨k,a,n,s,ks⟩ l))] [] (.v (.bool (cL (.mk ⟨k,a,n,s,ks⟩ l)))) []:=by
 have N:cL (.mk ⟨k,a,n,s,ks⟩ l)=false:=by
  show own ⟨k,a,n,s,ks⟩ _ _ _=_;unfold own;rw[ab zfl,ae (by show((k != 1)&&(n != 0))=true;rw[G,hn];rfl)]
 exact zdI
end
def Px(t:T)(o:t.n.s.length<=1099511627776)(W:t.au.length<=1099511627776):GF prog 260 [.agg (cT t)] [] (.v (.bool (cL t))) []:=by
 have⟨⟨k,a,n,s,w⟩,l⟩:=t
 cases O:decide (a<0)with
 |true=>exact Yi k a n s w l O
 |false =>
 by_cases R:k=1
 ·subst R;exact X9 a n s w l o W O
 by_cases Q:n=0
 ·subst Q
  by_cases h:k=1\/k=2\/k=3\/k=4\/k=5\/k=6\/k=7\/k=8\/k=9\/k=10\/k=11\/k=12\/k=13\/k=14
  ·rcases h with rfl|rfl|rfl|rfl|rfl|rfl|rfl|rfl|rfl|rfl|rfl|rfl|rfl|rfl
   ·exact absurd rfl R
   ·exact Ya a s w l o W O
   ·exact Yb a s w l o W O
   ·exact Yc a s w l o W O
   ·exact Yd a s w l o W O
   ·exact Ye a s w l o W O
   ·exact Yf a s w l o W O
   ·exact Yg a s w l o W O
   ·exact Yh a s w l o W O
   ·exact Wc a s w l o W O
   ·exact Wd a s w l o W O
   ·exact We a s w l o W O
   ·exact Wf a s w l o W O
   ·exact Wg a s w l o W O
  ·exact Yl k a 0 s w l zfm h O rfl
 ·exact Yk k a n s w l O (by simpa using R) zf0
def KX(l:List T):dB l=l.all dU:=by
 induction l with
 |nil=>simp[dB]
 |cons a l q=>simp[dB,q]
def Pt:∀(M:Nat)(t:T),SizeOf.sizeOf t<=M->Fv t->GF prog 202 [.agg (cT t)] [] (.v (.bool (dU t))) []:=by
 intro M
 induction M with
 |zero=>intro t h _;cases t;simp at h
 |succ M z =>
 intro t O E;have⟨n,l⟩:=t;have u:=E;rw[Fv]at E;have⟨q,W,R⟩:=E
 have N:dU (.mk n l)=(dB l&&cL (.mk n l)):=by rw[dU]
 rw[N];rw[KX];refine ah func202 ntmps202 ?_;refine GW.range (aR l).length (fun k o c=>o=[U,.loc 0 0,U,U,U,U,.sl 6 (aR l),y4 ((aR l).length:Int),y4 (k:Nat),U,U,U,U,U,U,U,U,U]/\c=[.box 89 (cT (.mk n l))]/\((l.take k).all dU)=true) ?_ (by rw[bs];exact W) ?_ ?_ ?_
 ·exact lK
 ·exact jE
 ·rintro k _ _ G⟨rfl,rfl,s⟩
  have G:k<l.length:=by rw[bs]at G;exact G
  have hx:l[k]?=some l[k]:=by simp[G]
  have w:=bR hx;have i:=List.sizeOf_lt_of_mem w;have j:=bH hx;have e:=z l[k] (by simp at O;omega) (Fx R w);generalize l[k]=x at *
  cases r:dU x with
  |true =>
   rw[r]at e;refine X ?_;refine D [] e ?_;exact⟨rfl,rfl,_,_,(Wk.cut (n:=1) (dT rfl) rfl).trans (Wk.bb aD),rfl,rfl,by rw[dI,hx,List.all_append,s];simp only[Option.toList,all_cons,all_nil,r];rfl⟩
  |false =>
   rw[r]at e;refine X ?_;refine D [] e ?_;refine ct ?_
   have Q:(l.all dU)=false:=by
    exact zdi
   rw[Q];exact zai
 ·rintro _ _⟨rfl,rfl,s⟩
  have s:(l.all dU)=true:=by
   rw[mz zfZ]at s;exact s
  rw[s];refine X ?_;refine D [] (Px (.mk n l) q W) ?_;exact ax
def Ps(t:T)(h:Fv t):GF prog 202 [.agg (cT t)] [] (.v (.bool (dU t))) []:=Pt _ t (a8 _) h
open Go.Xp (Ar)
structure A7(p:Src):Prop where
 aw:p.aw.length<=1000000000000/\∀s∈p.aw,s.length<=1000000000000
 aq:p.aq.length<=1000000000000/\∀a∈p.aq,a.name.length<=1000000000000
 az:p.az.length<=1000000000000/\∀f∈p.az,f.name.length<=1000000000000/\f.params.length<=1000000000000/\∀s∈f.params,s.length<=1000000000000
 ak:p.ak.length<=1000000000000/\∀n∈p.ak,n.s.length<=1000000000000/\n.au.length<=1000000000000
def IH{l:List ai}{i:Nat}{s:ai}(h:l[i]?=some s):(l.map fun s=>[GV.v (sv s)])[i]?=some [.v (sv s)]:=by rw[b6,h];rfl
def tH{l:List Ar}{i:Nat}{s:Ar}(h:l[i]?=some s):(l.map bc)[i]?=some (bc s):=by rw[b6,h];rfl
def xC{l:List Go.Sp.Fn}{i:Nat}{s:Go.Sp.Fn}(h:l[i]?=some s):(l.map aO)[i]?=some (aO s):=by rw[b6,h];rfl
def uS{C:Type}{l:List C}{q:C->Bool}{k:Nat}{x:C}(hx:l[k]?=some x)(r:q x=false):l.all q=false:=by
 exact zdi
def AH(p:Src)(R:A7 p)(b:Bool)(h:oX p=some b):GF prog 145 [.agg (aQ p)] [] (.v (.bool b)) []:=by
 unfold oX at h;refine ah func145 ntmps145 ?_;refine GW.range (p.aw.map fun s=>[GV.v (sv s)]).length (fun k o m=>o=[U,.loc 0 0,U,y4 0,U,U,U,U,U,U,U,U,U,U,U,strs p.aw,y4 ((p.aw.map fun s=>[GV.v (sv s)]).length:Int),y4 (k:Nat),U,U,U,U,U,U,U,U,U,U,U,U,U,U,U,U,U,U,U,U,U,U,U,U,U,U,U,U,U,U,U,U,U,U,U,U,U,U,U,U,U,U,U,U,U,U,U,U,U,U,U,U,U,U,U,U,U,U,U,U,U,U,U,U,U,U,U,U,U,U,U,U,U,U,U,U,U,U,U,U,U,U,U,U,U,U,U]/\m=[.box 28 (aQ p)]/\((p.aw.take k).all cb)=true) ?_ (by simpa using by have:=R.aw.1;omega) ?_ ?_ ?_
 ·exact lK
 ·exact jE
 ·rintro k _ _ G⟨rfl,rfl,u⟩
  have G:k<p.aw.length:=by simpa using G
  have hx:p.aw[k]?=some p.aw[k]:=by simp[G]
  have H:=IH hx;have F:=R.aw.2 _ (bR hx);generalize p.aw[k]=x at *;have i:=fi x Z
  cases r:cb x with
  |true =>
   rw[r]at i;refine zbT ?_;exact⟨rfl,rfl,_,_,Wk.bb aD,rfl,rfl,sY hx u r⟩
  |false =>
   rw[r]at i;rw[ae (show dp p.aw=false from uS hx r)]at h;cases h;refine zbT ?_;exact ax
 ·rintro _ _⟨rfl,rfl,u⟩;rw[mz zfm]at u;rw[ab (by rw[show dp p.aw=true from u];decide)]at h;refine X ?_;refine GW.range (p.aq.map bc).length (fun k o m=>o=U::.loc 0 0::U::y4 0::zU 22 (.sl 2 (p.aq.map bc)::y4 ((p.aq.map bc).length:Int)::y4 (k:Nat)::zU 76 [])/\m=[.box 28 (aQ p)]/\((p.aq.take k).all la)=true) ?_ (by simpa using by have:=R.aq.1;omega) ?_ ?_ ?_
  ·exact lK
  ·exact jE
  ·rintro k _ _ G⟨rfl,rfl,u⟩
   have G:k<p.aq.length:=by simpa using G
   have hx:p.aq[k]?=some p.aq[k]:=by simp[G]
   have H:=tH hx;have F:=R.aq.2 _ (bR hx);generalize p.aq[k]=x at *;have i:=fi x.name Z
   cases r:cb x.name with
   |false =>
    rw[r]at i;rw[ae (uS hx (by simp[la,r]))]at h;cases h;refine zbT ?_;exact ax
   |true =>
    rw[r]at i
    cases z:decide (x.size<0)with
    |true =>
     rw[ae (uS hx (by simp only[la,r,z];rfl))]at h;cases h;refine zbT ?_;exact ax
    |false =>
     cases C:decide (2147483647<x.size)with
     |true =>
      rw[ae (uS hx (by simp only[la,r,z,C];rfl))]at h;cases h;refine zbT ?_;exact ax
     |false =>
      refine zbT ?_;exact⟨rfl,rfl,_,_,(Wk.cut (n:=1) (dT rfl) rfl).trans (Wk.bb aD),rfl,rfl,sY hx u (by simp only[la,r,z,C];rfl)⟩
  ·rintro _ _⟨rfl,rfl,u⟩;rw[mz zfm]at u;rw[ab (by rw[u];decide)]at h;refine X ?_;refine GW.range (p.az.map aO).length (fun k o m=>∃nx,o=U::.loc 0 0::U::y4 nx::zU 44 (.sl 3 (p.az.map aO)::y4 ((p.az.map aO).length:Int)::y4 (k:Nat)::zU 54 [])/\m=[.box 28 (aQ p)]/\0<=nx/\(match jk p.ak (p.az.drop k) nx with|none=>none|some none=>some false|some (some next)=>some (next==(p.ak.length:Int)&&decide (next<=800)))=some b) ?_ (by simpa using by have:=R.az.1;omega) ?_ ?_ ?_
   ·exact⟨_,_,Wk.bb aD,_,rfl,rfl,Int.le_refl _,h⟩
   ·rintro k _ _⟨_,rfl,rfl,_⟩;exact eB
   ·clear h u;rintro k _ _ G⟨nx,rfl,rfl,d,h⟩
    have G:k<p.az.length:=by simpa using G
    have hx:p.az[k]?=some p.az[k]:=by simp[G]
    have H:=xC hx;have F:=R.az.2 _ (bR hx);rw[kP G,jk]at h;generalize p.az[k]=x at *
    cases i:pe p.ak (fN p.ak) nx.toNat 0 with
    |none=>rw[i]at h;cases h
    |some e =>
    rw[i]at h;simp only at h;have J:=Xv p R.ak.1 (fun n Q=>(R.ak.2 n Q).2) _ _ 0 _ Z i;rw[Int.toNat_of_nonneg d]at J;have A:=fi x.name Z
    by_cases z:x.body=nx
    ·have c:(x.body != nx)=false:=by simpa using z
     cases r:cb x.name with
     |false =>
      rw[r]at A;rw[ae (.inr (.inl r))]at h;cases h;refine zc6 ?_;refine D [] A ?_;exact ax
     |true =>
      rw[r]at A
      by_cases C:e<0
      ·have M:decide (e<0)=true:=by simpa using C
       rw[ae (.inr (.inr C))]at h;cases h;refine zc6 ?_;refine D [] A ?_;exact ax
      ·have M:decide (e<0)=false:=by simpa using C
       rw[ab (by rw[r];simp[z,C])]at h;refine zc6 ?_;refine D [] A ?_;refine GW.range (x.params.map fun s=>[GV.v (sv s)]).length (fun j o m=>o=[U,.loc 0 0,U,y4 nx,U,U,U,U,U,.loc 1 0,y4 e,U,U,U,U,U,U,U,U,U,U,U,U,U,U,U,U,U,U,U,U,U,U,U,U,U,U,U,U,U,U,U,U,U,U,U,U,U,.sl 3 (p.az.map aO),y4 ((p.az.map aO).length:Int),y4 (k:Nat),U,U,U,U,U,U,U,U,U,U,U,U,U,U,U,U,U,U,U,U,U,strs x.params,y4 ((x.params.map fun s=>[GV.v (sv s)]).length:Int),y4 (j:Nat),U,U,U,U,U,U,U,U,U,U,U,U,U,U,U,U,U,U,U,U,U,U,U,U,U,U,U,U,U,U]/\m=[.box 28 (aQ p),.box 53 (aO x)]/\((x.params.take j).all cb)=true) ?_ (by simpa using by omega) ?_ ?_ ?_
       ·exact lK
       ·exact jE
       ·rintro j _ _ E⟨rfl,rfl,u⟩
        have E:j<x.params.length:=by simpa using E
        have B:x.params[j]?=some x.params[j]:=by simp[E]
        have O:=IH B;have N:=F.2.2 _ (bR B);generalize x.params[j]=y at *;have l:=fi y Z
        cases r:cb y with
        |true =>
         rw[r]at l;refine zcp ?_;exact⟨rfl,rfl,_,_,Wk.bb aD,rfl,rfl,sY B u r⟩
        |false =>
         rw[r]at l;rw[ae (show dp x.params=false from uS B r)]at h;cases h;refine zcp ?_;exact ax
       ·rintro _ _⟨rfl,rfl,u⟩;rw[mz zfm]at u;rw[ab (by rw[show dp x.params=true from u];decide)]at h
        cases q:sub p.ak (fN p.ak) nx.toNat with
        |none=>rw[q]at h;cases h
        |some t =>
        rw[q]at h;simp only at h;have w:=DG p (fun n Q=>(R.ak.2 n Q).2) _ _ _ q;rw[Int.toNat_of_nonneg d]at w;have W:=Ps t ((WH (fun n Q=>by have:=R.ak.2 n Q;omega) _).1 _ _ q)
        by_cases I:t.n.aj=14
        ·have S:(t.n.aj != 14)=false:=by simpa using I
         cases r:dU t with
         |false =>
          rw[r]at W;rw[ae (.inr r)]at h;cases h;refine zdO ?_;refine D [] W ?_;exact ax
         |true =>
          rw[r]at W;rw[ab (by rw[r];simp[I])]at h;refine zdO ?_;refine D [] W ?_;exact⟨rfl,rfl,_,_,(Wk.cut (n:=1) (dT rfl) rfl).trans (Wk.bb aD),_,rfl,rfl,by omega,h⟩
        ·have S:(t.n.aj != 14)=true:=by simpa using I
         rw[ae (.inl I)]at h;cases h;refine zdO ?_;exact ax
    ·have c:(x.body != nx)=true:=by simpa using z
     rw[ae (.inl z)]at h;cases h;refine zc6 ?_;exact ax
   ·clear h u;rintro _ _⟨nx,rfl,rfl,d,h⟩;rw[bI,drop_length,jk]at h;simp only at h;cases h
    cases z:(nx==(p.ak.length:Int))with
    |false =>
     have c:(nx==((p.ak.map aU).length:Int))=false:=by rw[bI];exact z
     exact aC
    |true =>
     have c:(nx==((p.ak.map aU).length:Int))=true:=by rw[bI];exact z
     exact aC
open Go.Xp (levels)
def nN(k:Int)(s:ai):Int:=if k=6 then(match levels.findIdx? (fun l=>l.contains s)with|some i=>(i:Int)|none => -1)else 9
def J0(t:T):GF prog 357 [.agg (cT t)] [] (.v (.int .i64 (nN t.n.aj t.n.s))) []:=by
 refine ef func357 ntmps357 ?_
 by_cases H:t.n.aj=6
 ·have M:(t.n.aj != 6)=false:=by simpa using H
  unfold nN;rw[ae H];refine X ?_;refine D [] jZ ?_;refine GW.range (levels.map fun l=>[strs l]).length (fun k o c=>o=[U,.loc 0 0,U,U,U,U,U,U,U,U,U,.sl 1 (levels.map fun l=>[strs l]),y4 ((levels.map fun l=>[strs l]).length:Int),y4 (k:Nat),U,U,U,U,U,U,U,U,U,U,U]/\c=[.box 89 (cT t)]/\((levels.take k).any fun l=>l.contains t.n.s)=false) ?_ aS ?_ ?_ ?_
  ·exact lK
  ·exact jE
  ·rintro k _ _ G⟨rfl,rfl,u⟩
   have G:k<levels.length:=by simpa using G
   have hx:levels[k]?=some levels[k]:=by simp[G]
   have i:(levels.map fun l=>[strs l])[k]?=some [strs levels[k]]:=by simp[G]
   have F:levels[k].length<=1099511627776:=by
    have:∀l∈levels,l.length<=1099511627776:=by decide
    exact this _ (List.getElem_mem G)
   have A:levels[k].contains t.n.s=true->levels.findIdx? (fun l=>l.contains t.n.s)=some k:=by
    intro q;rw[List.findIdx?_eq_some_iff_getElem];refine⟨G,q,fun j z=>?_⟩;rw[any_eq_false]at u;refine u _ ?_;rw[List.mem_take_iff_getElem];exact⟨j,by omega,rfl⟩
   generalize levels[k]=x at *;have w:=jO x t.n.s F
   cases r:x.contains t.n.s with
   |true =>
    rw[r]at w;rw[A r];refine zdO ?_;exact ax
   |false =>
    rw[r]at w;refine zdO ?_;exact⟨rfl,rfl,_,_,Wk.bb aD,rfl,rfl,by rw[dI,hx,any_append,u];simp only[Option.toList,List.any_cons,List.any_nil,r];rfl⟩
  ·rintro _ _⟨rfl,rfl,u⟩;rw[mz zfm]at u
   have Q:levels.findIdx? (fun l=>l.contains t.n.s)=none:=by
    rw[List.findIdx?_eq_none_iff];intro x hx;rw[any_eq_false]at u;simpa using u x hx
   rw[Q];exact aC
 ·have M:(t.n.aj != 6)=true:=by simpa using H
  unfold nN;rw[ab H];refine X ?_;refine D [] jZ ?_;exact ax
open Go.Xp (bo gQ D5)
def Bm(n:Int):GF prog 343 [y4 n] [] (y4 (n%4294967296)) []:=by
 refine ah func343 ntmps343 ?_;exact ax
def iw(n:Int):GF prog 342 [y4 n] [] (y4 (bo n)) []:=by
 unfold bo
 have r:0<=n%4294967296/\n%4294967296<4294967296:=by omega
 have R:=Bm n;generalize n%4294967296=m at *;refine ef func342 ntmps342 ?_
 by_cases h:m>2147483647
 ·have W:decide ((2147483647:Int)<m)=true:=by simpa using h
  rw[ae h];refine X ?_;refine D [] R ?_;exact ax
 ·have W:decide ((2147483647:Int)<m)=false:=by simpa using h
  rw[ab h];refine X ?_;refine D [] R ?_;exact ax
def C0(k:Nat)(h:k<=57):[[GV.v (.int .u8 (k:Int))]]=[UInt8.ofNat k].map fun c=>[GV.v (.int .u8 (c.toNat:Int))]:=by
 have:(UInt8.ofNat k).toNat=k:=by simp;omega
 simp[this]
def Gi(n:Nat)(hn:n<=1099511627776):GF prog 373 [y4 (n:Int)] [] (.v (sv (gQ n))) []:=by
 induction n using Nat.strongRecOn with
 |_ n r =>
 unfold gQ;refine ef func373 ntmps373 ?_
 by_cases h:n<10
 ·have W:decide ((n:Int)<10)=true:=by simpa using by omega
  have e:=C0 (48+n) Z;rw[Int.natCast_add]at e;rw[dif_pos h];refine X ?_;refine b9 ?_;exact aC
 ·have W:decide ((n:Int)<10)=false:=by simpa using by omega
  rw[dif_neg h];have o:=r (n / 10) Z Z;have b:=D5 (n / 10);have e:=C0 (48+n%10) Z;rw[Int.natCast_add]at e;refine X ?_;refine aX (.q 0 (.q 1 (aI 3 4 (.f 2 (.a 7 (aI 8 3 .nil)) 7 (.q 8 (.a 2 (.q 9 (.q 10 .nil)))))))) ?_;refine av ?_;refine GO.fork ?_ ?_
  ·refine aN [] o ?_;refine zaI ?_;exact aC
  ·refine zaI ?_;exact zeX
end Go.Xg
set_option maxHeartbeats 2000000
namespace Go.Xg
open Go.RowKit Go.Xw Go.Proofs
attribute [local irreducible] GW GL GO V GC GA bh bm
def IA{p:Nat->Bool}{Γ:ap}(h:∀x∈Γ,x.uj=true):qz p Γ=true:=by
 induction Γ with
 |nil=>rfl
 |cons x r q =>
  rw[qz,q fun y n=>h y (ey _ n),Bool.and_true];have:=h x List.mem_cons_self
  cases x<;>first|rfl|cases this
section
variable{P:Program}{fn:Func}{m:Nat}{R:GV->ap->Prop}{fr:am}{Γ:ap}{e:Exit}
end
end Go.Xg
namespace Go.Xg
open Go.RowKit Go.Xw Go.Proofs
def IF{x:Ob}(h:x.uj=true)(f:Nat->Nat):x.eM f=x:=by cases x<;>first|rfl|cases h
def S7{abo:ap}(h:∀x∈abo,x.uj=true)(f:Nat->Nat):abo.map (Ob.eM f)=abo :=
 (List.map_congr_left fun x hx=>IF (h x hx) f).trans (List.map_id _)
def Gw(s n N:Nat)(h:s+n<=N):kp (List.range' s n) N=true:=by
 induction n generalizing s with
 |zero=>rfl
 |succ n q =>
  rw[List.range'_succ,kp,q (s+1) Z]
  have z:Nat.blt s N=true:=by rw[Nat.blt_eq];omega
  have v:(List.range' (s+1) n).contains s=false:=by
   cases o:(List.range' (s+1) n).contains s with
   |false=>rfl
   |true =>
    have:=List.mem_range'_1.1 (sB.1 o);omega
  rw[z,v];rfl
def A2(f:Nat->Nat):∀(abo A C:ap),(∀x∈abo,x.uj=true)->seen f (A++(abo++C)) (List.range' A.length abo.length) abo
 |[],A,C,_=>trivial
 |x::abo,A,C,h=>by
  rw[length_cons,List.range'_succ,seen];refine⟨by rw[mb (a8 _),uB,IF (h x List.mem_cons_self)];rfl,?_⟩
  have:=A2 f abo (A++[x]) C fun y n=>h y (ey _ n)
  rw[bl,List.length_singleton,eU]at this;exact this
section
variable{P:Program}{m:Nat}{Q:dF}{fr:am}{Γ:ap}{ops:Array Oper}{rest:List Oper}{d:Option Tmp}{op:Op}{ty:TypeId}{pos:String}{af:Array Edge}
end
attribute [local irreducible] GW GL GO V GC GA bh bm
def Oq{C H:Type}{f:C->Value->H}{l:List C}{o:List Value}{i:Nat}{x:C}{h:Value}(z:l[i]?=some x)(v:o[i]?=some h):(List.zipWith f l o)[i]?=some (f x h):=by rw[List.getElem?_zipWith,z,v]
open Go.Im
section
variable{B:Bs}{K:Fz}{β:Bt}{w:World}{l:List Value}{fr:am}{A C:ap}
def kQ{x y:Operand}{E k:Nat}{rows:List am}{h z:Value}(R:Inv B K β (A++(.vech E k rows h::C)) w)(j:FR K β fr l)(hx:bd fr x=.v h)(m:bd fr y=.v z) :
  ∃F,n5 F w/\mD F (fun _=>.no) w/\bJ F (fun _=>.no) ([x,y].map (ev l)) [.sl k rows,.v z]:=by
 obtain⟨F,J,G,H,I⟩:=R.view (i:=A.length) (E:=E) (k:=k) (rows:=rows) (x:=h) (by rw[mb (a8 _),uB];rfl);refine⟨F,G,H,?_⟩;show bJ F _ [ev l x,ev l y] _;rw[j.fC hx,j.fC m];exact .cons I (.cons (.v _) .nil)
end
def sS(l:List ai):(b7 l).length=l.length:=by simp[b7]
end Go.Xg
namespace Go.Xg
open Go.RowKit Go.Xw
def Ut(A C:ap)(x:Ob):(A++x::C)[A.length]?=some x:=by
 rw[mb (a8 _),uB];rfl
def zK(A C:ap)(x y:Ob):oset (A++x::C) A.length y=A++y::C:=by
 rw[bU,List.set_append_right _ _ (a8 _),uB];rfl
def Iz(q:Nat->Bool):∀(A B:ap),qz q (A++B)=(qz q A&&qz q B)
 |[],B=>by simp[qz]
 |a::A,B=>by simp only[cons_append,qz,Iz q A B,Bool.and_assoc]
section
variable(a b c d e:Ob)(abo:ap)(k x y:Ob)
end
section
variable{P:Program}{m:Nat}{Q:dF}{fr:am}{Γ:ap}{ops:Array Oper}{rest:List Oper}{d:Option Tmp}{op:Op}{ty:TypeId}{pos:String}{af:Array Edge}
def Wk.Sn{A:ap}{x:Ob}(o:Γ=A++[x])(N:m<=A.length)(ha:∀q,qz q A=true):Wk m fr Γ (vT A.length fr) A:=by
 subst o;have h:=Wk.cut (m:=m) (fr:=fr) (Γ:=A++[x]) (n:=A.length) N (by simp[ha]);simpa using h
def GL.aax{t:TypeId}{z:Value}{agg:Bool}{k:Nat}[M:p8 P t z][J:Ty P t agg k]{w ts:Tmp}{cs:am}{r:TypeId}{j:String}{S:Array Edge}{C:Option Tmp}(n:z.cells.size=k)(I:mI (cQ fr ts)=some cs)(B:Nat.beq ts w=false)(A:gN fr w=true)(G:cs.length=k)(H:nW cs=true)
  (h:GL P m ops Q rest (bQ (bQ fr (some w) (.loc Γ.length 0)) C (.v undef)) (Γ++[.box t cs])):GL P m ops Q (⟨some w,.alloc t,ty,pos,af,none⟩::⟨C,.store t (.tmp w) (.tmp ts),r,j,S,none⟩::rest) fr Γ:=by
 refine GL.alloc (cs:=gO z.cells.toList) rfl ?_
 have F:ts≠w:=by intro e;subst e;simp at B
 have l:∀(fr:am)(t:Nat)(g:GV),gN fr t=true->cQ (bN fr t g) t=g:=by
  intro fr
  induction fr with
  |nil=>intro t g h;cases h
  |cons x fr q=>intro t g h;cases t with|zero=>rfl|succ t=>exact q t g h
 have W:∀(fr:am)(t u:Nat)(g:GV),u≠t->cQ (bN fr t g) u=cQ fr u:=by
  intro fr
  induction fr with
  |nil=>intro t u g _;rfl
  |cons x fr q =>
   intro t u g h
   cases t with
   |zero=>cases u with|zero=>exact absurd rfl h|succ u=>rfl
   |succ t=>cases u with|zero=>rfl|succ u=>exact q t u g Z
 have s:(gO z.cells.toList).length=k:=by simp[gO,n]
 refine GL.st (i:=Γ.length) (o:=0) (E:=t) (cs:=gO z.cells.toList) (gs:=cs) (l fr w _ A) zfm ?_ G H (by rw[s];simp) ?_
 ·show mI (cQ (bN fr w _) ts)=some cs;rw[W fr w ts _ F];exact I
 ·have T:pF (gO z.cells.toList) 0 cs=cs:=by
   have:=Aj cs (gO z.cells.toList) [] (by rw[s,G]);exact zdM
  rw[T];have e:=zK Γ [] (.box t (gO z.cells.toList)) (.box t cs);rw[e];exact h
end
section
variable{P:Program}{fn:Func}{R:GV->ap->Prop}{fr:am}{Γ:ap}{e:Exit}
end
def yz{A B:Prop}(h:B)(s:Hid B->A:=by intro I;(repeat (first|((first|(apply GL.q;(· exact KB))|refine GL.nil ?_|refine bx ?_|refine GW.seq ?_|refine GW.region ?_|refine GW.skip ?_|refine ke ?_|refine GW.block ?_|(apply GL.gt;(· exact rfl);(· first|exact rfl|assumption))|(apply GL.gf;(· exact rfl);(· first|exact rfl|assumption))|(apply GL.gu;(· exact rfl))|(apply KP;(· exact rfl);(· first|exact rfl|assumption))|(apply KO;(· exact rfl);(· first|exact rfl|assumption)));try refine GN sy ?_)|((first|(apply GL.box;(· exact rfl))|(apply GL.st;(· exact rfl);(· exact rfl);(· exact rfl);(· exact rfl);(· exact rfl);(· exact rfl)));refine rG cZ dN ?_)));exact I.1):A:=s ⟨h⟩
open Go.Proofs Tryz Go.Im
open GV (U)
open Go.Xp (Ar)
open Go.Sp (Src)
attribute [local irreducible] GW GL GO V GC GA bh bm
def My(s:ai):GF prog 46 [.v (sv s)] [] (.v (.bool (ga s))) []:=by
 unfold ga kG ly eh
 cases z:(s==[103,101,116])
 all_goals cases w:(s==[112,117,116])
 all_goals
  refine ah func46 ntmps46 ?_;exact ax
section
variable{qe:FuncId}
def DN[gM prog qe](w:Go.Sp.Fn->Bool)(l:List (Go.Sp.Fn))(hn:l.length<=1099511627776)(q:∀x∈l,GF prog qe [.agg (aO x)] [] (.v (.bool (w x))) []) :
  GF prog 113 [.sl 3 (l.map aO),.v (.func (.func qe) #[] #[])] [] (y4 (bP w l)) []:=by
 have A:(l.map aO).length=l.length:=by simp
 refine ah func113 ntmps113 ?_;refine GW.range (l.map aO).length (fun k o c=>o=[.sl 3 (l.map aO),.v (.func (.func qe) #[] #[]),U,U,U,U,U,y4 ((l.map aO).length:Int),y4 (k:Nat),U,U,U,U,U,U,U,U,U,U]/\c=[]/\(l.take k).all (fun y=>!w y)=true) ?_ Z ?_ ?_ ?_
 ·exact lK
 ·exact jE
 ·rintro k _ _ i⟨rfl,rfl,W⟩;rw[A]at i;obtain⟨x,m⟩:∃x,l[k]?=some x:=⟨l[k],by simp[i]⟩
  have j:(l.map aO)[k]?=some (aO x):=by rw[b6,m];rfl
  have h:=q x (bR m);have N:=n9 (f:=w) m
  have hit:=fun M=>oR (f:=w) m M W
  unfold aO at j h
  cases r:w x with
  |true =>
   rw[r]at h;rw[hit r];refine X ?_;refine jW [] h ?_;exact aC
  |false =>
   rw[r]at h N;refine X ?_;refine jW [] h ?_;exact zaZ
 ·rintro _ _⟨rfl,rfl,W⟩;exact zce
def tR[gM prog qe](w:Go.Sp.Fn->Bool)(l:List (Go.Sp.Fn))(hn:l.length<=1099511627776)(o:∀x∈l,GF prog qe [.agg (aO x)] [] (.v (.bool (w x))) []) :
  GF prog 66 [.sl 3 (l.map aO),.v (.func (.func qe) #[] #[])] [] (.v (.bool (l.any w))) []:=by
 have h:=DN w l hn o;rw[<-LK];generalize bP w l=z at *;refine ah func66 ntmps66 ?_;exact zbk
def Dl[gM prog qe](w:Go.Sp.Fn->Bool)(s:ai)(l:List (Go.Sp.Fn))(hn:l.length<=1099511627776)(q:∀x∈l,GF prog qe [.agg (aO x),.box [.v (sv s)] 0] [] (.v (.bool (w x))) []) :
  GF prog 113 [.sl 3 (l.map aO),.fn (.func qe) [] [.box [.v (sv s)] 0]] [] (y4 (bP w l)) []:=by
 have A:(l.map aO).length=l.length:=by simp
 refine ah func113 ntmps113 ?_;refine GW.range (l.map aO).length (fun k o c=>o=[.sl 3 (l.map aO),.fn (.func qe) [] [.box [.v (sv s)] 0],U,U,U,U,U,y4 ((l.map aO).length:Int),y4 (k:Nat),U,U,U,U,U,U,U,U,U,U]/\c=[]/\(l.take k).all (fun y=>!w y)=true) ?_ Z ?_ ?_ ?_
 ·exact lK
 ·exact jE
 ·rintro k _ _ i⟨rfl,rfl,W⟩;rw[A]at i;obtain⟨x,m⟩:∃x,l[k]?=some x:=⟨l[k],by simp[i]⟩
  have j:(l.map aO)[k]?=some (aO x):=by rw[b6,m];rfl
  have h:=q x (bR m);have N:=n9 (f:=w) m
  have hit:=fun M=>oR (f:=w) m M W
  unfold aO at j h
  cases r:w x with
  |true =>
   exact zeT
  |false =>
   rw[r]at h N;refine X ?_;refine oG [] h ?_;exact zaZ
 ·rintro _ _⟨rfl,rfl,W⟩;exact zce
def Dk[gM prog qe](w:Ar->Bool)(s:ai)(l:List (Ar))(hn:l.length<=1099511627776)(q:∀x∈l,GF prog qe [.agg (bc x),.box [.v (sv s)] 0] [] (.v (.bool (w x))) []) :
  GF prog 111 [.sl 2 (l.map bc),.fn (.func qe) [] [.box [.v (sv s)] 0]] [] (y4 (bP w l)) []:=by
 have A:(l.map bc).length=l.length:=by simp
 refine ah func111 ntmps111 ?_;refine GW.range (l.map bc).length (fun k o c=>o=[.sl 2 (l.map bc),.fn (.func qe) [] [.box [.v (sv s)] 0],U,U,U,U,U,y4 ((l.map bc).length:Int),y4 (k:Nat),U,U,U,U,U,U,U,U,U,U]/\c=[]/\(l.take k).all (fun y=>!w y)=true) ?_ Z ?_ ?_ ?_
 ·exact lK
 ·exact jE
 ·rintro k _ _ i⟨rfl,rfl,W⟩;rw[A]at i;obtain⟨x,m⟩:∃x,l[k]?=some x:=⟨l[k],by simp[i]⟩
  have j:(l.map bc)[k]?=some (bc x):=by rw[b6,m];rfl
  have h:=q x (bR m);have N:=n9 (f:=w) m
  have hit:=fun M=>oR (f:=w) m M W
  unfold bc at j h
  cases r:w x with
  |true =>
   exact zeT
  |false =>
   rw[r]at h N;refine X ?_;refine oG [] h ?_;exact zaZ
 ·rintro _ _⟨rfl,rfl,W⟩;exact zce
end
def SL(x:Go.Sp.Fn)(s:ai):GF prog 114 [.agg (aO x),.box [.v (sv s)] 0] [] (.v (.bool (x.name==s))) []:=by
 unfold aO;refine ah func114 ntmps114 ?_;exact ax
def Ei(p:Src)(s:ai)(hn:p.az.length<=1099511627776):GF prog 52 [.agg (aQ p),.v (sv s)] [] (y4 (bP (fun x:Go.Sp.Fn=>x.name==s) p.az)) []:=by
 have h:=Dl (fun x:Go.Sp.Fn=>x.name==s) s p.az hn (fun x _=>SL x s);generalize bP (fun x:Go.Sp.Fn=>x.name==s) p.az=z at *;refine ef func52 ntmps52 ?_;exact zcf
def Jw(x:Ar)(s:ai):GF prog 112 [.agg (bc x),.box [.v (sv s)] 0] [] (.v (.bool (x.name==s))) []:=by
 unfold bc;refine ah func112 ntmps112 ?_;exact ax
def tY(p:Src)(s:ai)(hn:p.aq.length<=1099511627776):GF prog 51 [.agg (aQ p),.v (sv s)] [] (y4 (bP (fun x:Ar=>x.name==s) p.aq)) []:=by
 have h:=Dk (fun x:Ar=>x.name==s) s p.aq hn (fun x _=>Jw x s);generalize bP (fun x:Ar=>x.name==s) p.aq=z at *;refine ef func51 ntmps51 ?_;exact zcf
def Kz(x:Go.Sp.Fn):GF prog 136 [.agg (aO x)] [] (.v (.bool (decide (x.params.length>40)))) []:=by
 have h:decide ((40:Int)<((x.params.map fun s=>[GV.v (sv s)]).length:Int))=decide (x.params.length>40):=by
  rw[bI];exact decide_eq_decide.2 Z
 rw[<-h];unfold aO strs;refine ah func136 ntmps136 ?_;exact ax
def Ou(x:Go.Sp.Fn):GF prog 67 [.agg (aO x)] [] (.v (.bool (nI x))) []:=by
 have h:(((x.params.map fun s=>[GV.v (sv s)]).length:Int)==0)=(x.params.length==0):=by
  rw[bI];exact Bool.eq_iff_iff.2 zfm
 unfold nI jn;rw[<-h];unfold aO strs
 cases z:(x.name==[109,97,105,110])
 all_goals
  refine ah func67 ntmps67 ?_;exact ax
end Go.Xg
set_option maxHeartbeats 4000000
namespace Go.Xg
open Go.RowKit Go.Xw Go.Proofs Go.Im
attribute [local irreducible] GW GL GO V GC GA bh bm
def wC(l:List ai):kK (l.map fun s=>[GV.v (sv s)])=true:=by
 induction l with
 |nil=>rfl
 |cons s l q=>rw[List.map_cons,kK,q];rfl
def GW.Lz{P:Program}{m:Nat}{c:Code}{Q:dF}{fr dh:am}{Γ bO:ap}(z:sX fr dh)(v:Γ=bO)(h:GW P m c Q dh bO):GW P m c Q fr Γ:=by
 subst v;exact GW.wk (Wk.bb z) h
open Tryz
open Go.Xp (Nd)
open Go.Sp (Src)
def uk(n:Nd):Bool:=(n.aj==4&&n.s==[115,105,122,101])&&((n.au.length:Int)==1)
def AA(p:Src)(a:Nat)(n:Nd)(hn:p.ak[a]?=some n):GF prog 138 [.agg (aQ p),y4 (a:Nat)] [] (.v (.bool (uk n))) []:=by
 have j:=cH hn
 have H:(n.au.map fun i=>[GV.v (ii i)]).length=n.au.length:=by simp
 unfold uk;rw[<-H];unfold aU ints at j;generalize(n.au.map fun i=>[y4 i])=q at *
 cases z:(n.aj==4)
 all_goals cases w:(n.s==[115,105,122,101])
 all_goals
  refine ah func138 ntmps138 ?_;exact ax
def VY(p:Src)(s:ai)(hn:p.az.length<=1099511627776):GF prog 259 [.agg (aQ p),.v (sv s)] [] (y4 (gC p s)) []:=by
 have j:=Ei p s hn;unfold gC kG ly eh
 cases z:(s==[103,101,116])with
 |true =>
  rw[ae zfv];exact zer
 |false =>
  rw[ab zfv]
  cases w:(s==[112,117,116])with
  |true =>
   rw[ae (.inl (by simpa using w))];exact zer
  |false =>
   cases I:(s==[115,105,122,101])with
   |true =>
    rw[ae (.inr (by simpa using I))];exact zer
   |false =>
    rw[ab (by simpa using And.intro (show ¬s=[112,117,116] by simpa using w) (show ¬s=[115,105,122,101] by simpa using I))];unfold bP at j
    cases hx:p.az.findIdx? (fun f:Go.Sp.Fn=>f.name==s)with
    |none =>
     rw[hx]at j
     have n:decide ((0:Int) <= -1)=false:=by decide
     refine ah func259 ntmps259 ?_;refine D [] j ?_;exact ax
    |some i =>
     rw[hx]at j;have M:i<p.az.length:=(List.findIdx?_eq_some_iff_getElem.1 hx).1;obtain⟨f,t⟩:∃f,p.az[i]?=some f:=⟨p.az[i],by simp[M]⟩
     have k:(p.az.map aO)[i]?=some (aO f):=by rw[b6,t];rfl
     have J:(f.params.map fun s=>[GV.v (sv s)]).length=f.params.length:=by simp
     have n:decide ((0:Int)<=((i:Nat):Int))=true:=by simp
     unfold aO at k;simp only at j |-;unfold l8;rw[t];simp only;rw[<-J];refine ah func259 ntmps259 ?_;refine D [] j ?_;exact ax
open Go.Xp (T Ar ec)
def Ia{p:Src}{a:Nat}{n:Nd}{l:List T}(d:ek p.ak a (.mk n l)):b8 (.mk n l)=uk n:=by
 rw[ek]at d;unfold b8 uk eh
 congr 1
 rw[d.2.1,ec]
 exact Bool.eq_iff_iff.2 (by
  show((l.length==1)=true)↔_
  simp only[beq_iff_eq];omega)
section
variable(p:Src)(a:Nat)(n:Nd)(l:List T)(ls:List ai)
def Gd(d:ek p.ak a (.mk n l))(j:p.az.length<=1099511627776)(r:p.aq.length<=1099511627776)(t:ls.length<=1099511627776) :
  GF prog 200 [.agg (aQ p),y4 (a:Nat),strs ls] [] (y4 (dG p (.mk n l) ls)) []:=by
 have R:=Ia d;rw[ek]at d;have⟨Q,G,o⟩:=d;have O:=AA p a n Q;have k:=cH Q
 have J:(n.au.map fun i=>[GV.v (ii i)]).length=l.length:=by rw[bI,G,ec]
 unfold dG;rw[R]
 cases E:uk n with
 |true =>
  rw[E]at O;rw[ae rfl]
  have q:l.length=1:=by
   unfold uk at E;simp only[a6,beq_iff_eq]at E;rw[G,ec]at E;omega
  obtain⟨u,rfl⟩:∃u,l=[u]:=by
   match l,q with
   |[u],_=>exact⟨u,rfl⟩
  have N:p.ak[a+1]?=some u.n:=by
   rw[dS]at o;have:=o.1
   cases u;rw[ek]at this;exact this.1
  have I:n.au[0]?=some (((a+1:Nat)):Int):=by rw[G];rfl
  have M:=iq I;have B:=cH N;show GF _ _ _ _ (y4 (if gg p u.n ls=true then 24 else 0)) _;generalize u.n=m at *;have e:=tY p m.s r;have C:=lQ ls m.s t;have F:gg p m ls=((m.aj != 2 ||decide (bP (fun x:Ar=>x.name==m.s) p.aq<0)) ||ls.contains m.s):=rfl;rw[F];generalize bP (fun x:Ar=>x.name==m.s) p.aq=z at *;unfold aU at k B
  cases A:(m.aj != 2)with
  |true =>
   refine ah func200 ntmps200 ?_;refine zeN ?_;exact zbe
  |false =>
   cases w:decide (z<0)with
   |true =>
    refine ah func200 ntmps200 ?_;refine zeN ?_;refine bA ?_;exact zcx
   |false =>
    generalize ls.contains m.s=b at *;cases b
    all_goals
     refine ah func200 ntmps200 ?_;refine zeN ?_;refine bA ?_;refine D [] e ?_;refine D [] C ?_;exact ax
 |false =>
  rw[E]at O;rw[ab aS];have H:=VY p n.s j;show GF _ _ _ _ (y4 (if gC p n.s = -1 then 22 else if gC p n.s=(l.length:Int)then 0 else 23)) _;generalize gC p n.s=z at *;rw[<-J];unfold aU at k;unfold ints at k;generalize(n.au.map fun i=>[y4 i])=S at *
  cases A:(z == -1)with
  |true =>
   rw[ae zf1];exact zb6
  |false =>
   rw[ab zf1]
   cases w:(z==(S.length:Int))with
   |true =>
    rw[ae (by simpa using w)];exact zb6
   |false =>
    rw[ab (by simpa using w)];exact zb6
def Gt(d:ek p.ak a (.mk n l))(j:p.az.length<=1099511627776)(r:p.aq.length<=1099511627776)(S:p.aw.length<=1099511627776)(t:ls.length<=1099511627776) :
  GF prog 139 [.agg (aQ p),y4 (a:Nat),strs ls] [] (y4 (bM p (.mk n l) ls)) []:=by
 have N:=Gd p a n l ls d j r t
 have R:p.ak[a]?=some n:=by rw[ek]at d;exact d.1
 clear d;have k:=cH R;have m:=lQ ls n.s t;have Q:=lQ p.aw n.s S;have i:=tY p n.s r
 have u:(ls.map fun s=>[GV.v (sv s)]).length=ls.length:=by simp
 have B:bM p (.mk n l) ls=(if n.aj=13 then(if ls.contains n.s=true then 21 else if ls.length>=40 then 26 else 0)
  else if n.aj=2\/n.aj=7 then(if ls.contains n.s=false/\p.aw.contains n.s=false then 22 else 0)
  else if n.aj=3\/n.aj=8 then(if ls.contains n.s=true\/bP (fun x:Ar=>x.name==n.s) p.aq<0 then 24 else 0)
  else if n.aj=4 then dG p (.mk n l) ls else 0):=rfl
 rw[B];generalize dG p (.mk n l) ls=C at *;have⟨kd,at_,G,s,F⟩:=n;simp only at *;unfold aU at k;simp only at k;generalize bP (fun x:Ar=>x.name==s) p.aq=z at *;generalize ls.contains s=b at *;generalize p.aw.contains s=g at *;rw[<-u]
 by_cases q:kd=13
 ·subst q
  have o:((13:Int)==13)=true:=by decide
  rw[ae rfl]
  cases b with
  |true =>
   exact zaA
  |false =>
   cases c:decide ((40:Int)<=(((ls.map fun s=>[GV.v (sv s)]).length:Nat):Int))with
   |true =>
    rw[ab aS,ae (by simp at c;omega)];exact zaA
   |false =>
    rw[ab aS,ab (by simp at c;omega)];exact zaA
 rw[ab q]
 by_cases w:kd=2
 ·subst w
  have o:((2:Int)==13)=false:=by decide
  have e:((2:Int)==2)=true:=by decide
  rw[ae aS]
  cases b with
  |true =>
   exact zaA
  |false =>
   cases g
   all_goals
    exact zeb
 by_cases W:kd=7
 ·subst W
  have o:((7:Int)==13)=false:=by decide
  have e:((7:Int)==2)=false:=by decide
  have J:((7:Int)==7)=true:=by decide
  rw[ae aS]
  cases b with
  |true =>
   exact zaA
  |false =>
   cases g
   all_goals
    exact zeb
 rw[ab (by rintro(h|h);(· exact w h);exact W h)]
 by_cases I:kd=3
 ·subst I
  have o:((3:Int)==13)=false:=by decide
  have e:((3:Int)==2)=false:=by decide
  have J:((3:Int)==7)=false:=by decide
  have M:((3:Int)==3)=true:=by decide
  rw[ae aS]
  cases b with
  |true =>
   exact zaA
  |false =>
   cases E:decide (z<0)with
   |true =>
    rw[ae (.inr (by simpa using E))];exact zbl
   |false =>
    exact zee
 by_cases O:kd=8
 ·subst O
  have o:((8:Int)==13)=false:=by decide
  have e:((8:Int)==2)=false:=by decide
  have J:((8:Int)==7)=false:=by decide
  have M:((8:Int)==3)=false:=by decide
  have A:((8:Int)==8)=true:=by decide
  rw[ae aS]
  cases b with
  |true =>
   exact zaA
  |false =>
   cases E:decide (z<0)with
   |true =>
    rw[ae (.inr (by simpa using E))];exact zbl
   |false =>
    exact zee
 rw[ab (by rintro(h|h);(· exact I h);exact O h)]
 by_cases c:kd=4
 ·subst c
  have o:((4:Int)==13)=false:=by decide
  have e:((4:Int)==2)=false:=by decide
  have J:((4:Int)==7)=false:=by decide
  have M:((4:Int)==3)=false:=by decide
  have A:((4:Int)==8)=false:=by decide
  have H:((4:Int)==4)=true:=by decide
  rw[ae rfl];refine ah func139 ntmps139 ?_;refine D [] m ?_;refine D [] N ?_;exact ax
 rw[ab c]
 have o:(kd==13)=false:=by simpa using q
 have e:(kd==2)=false:=by simpa using w
 have J:(kd==7)=false:=by simpa using W
 have M:(kd==3)=false:=by simpa using I
 have A:(kd==8)=false:=by simpa using O
 have H:(kd==4)=false:=by simpa using c
 exact zaA
end
def U1{K F:Fz}{β:Bt}{v:Value}{gs:am}(G:c7 K F)(R:∀g∈gs,g.pc=true)(h:Rel K β v (.agg gs)):Rel F (fun _=>.no) v (.agg gs):=by
 cases h with
 |agg j k W h =>
  exact .agg j gs W fun i v g z w=>((h i v g z w).mono G (dO.refl β)).pc (R g (bR w))
def JL(p:Src):∀g∈aQ p,g.pc=true:=fun g F=>by
 simp only[aQ,List.mem_cons,List.not_mem_nil,or_false]at F
 rcases F with rfl|rfl|rfl|rfl<;>rfl
def oO{B:Bs}{K:Fz}{β:Bt}{w:World}{l:List Value}{fr:am}{A C:ap}{p:Src}{x y u:Operand}{E k:Nat}{rows:List am}{h z:Value}(R:Inv B K β (A++(.vech E k rows h::C)) w)(j:FR K β fr l)(hx:bd fr x=.agg (aQ p))(n:bd fr y=.v z)(W:bd fr u=.v h) :
  ∃F,n5 F w/\mD F (fun _=>.no) w/\bJ F (fun _=>.no) ([x,y,u].map (ev l)) [.agg (aQ p),.v z,.sl k rows]:=by
 obtain⟨F,J,G,H,I⟩:=R.view (i:=A.length) (E:=E) (k:=k) (rows:=rows) (x:=h) (by rw[mb (a8 _),uB];rfl);have m:=j.ev x;rw[hx]at m;refine⟨F,G,H,?_⟩;show bJ F _ [ev l x,ev l y,ev l u] _;rw[j.fC n,j.fC W];exact .cons (U1 J (JL p) m) (.cons (.v _) (.cons I .nil))
def TR(p:Src)(a:Nat)(n:Nd)(l:List T)(ls:List ai)(c:CS)(Q R S:TypeId)(s:Option Addr)(t:Nat)(e:ek p.ak a (.mk n l))(H:p.az.length<=1099511627776)(G:p.aq.length<=1099511627776)(I:p.aw.length<=1099511627776)(N:ls.length<=1099511627776) :
  GF prog 137 [y4 (a:Nat),.v (.slice s ls.length t),.loc 0 0,.loc 1 0,.box (aQ p) 0,.loc 2 0] [.box Q [y4 c.code],.box R [y4 c.skip],.box S [y4 c.place],.vech 9 1 (b7 ls) (.slice s ls.length t)] (.tup [])
   [.box Q [.v (ii (dq p c a (.mk n l) ls).code)],.box R [.v (ii (dq p c a (.mk n l) ls).skip)],.box S [.v (ii (dq p c a (.mk n l) ls).place)],.vech 9 1 (b7 ls) (.slice s ls.length t)]:=by
 have hs:=Ia e;have k:=Gt p a n l ls e H G I N;rw[ek]at e;have⟨hn,hk,o⟩:=e;have j:=AA p a n hn;have hr:=cH hn;have⟨code,place,skip⟩:=c;unfold dq;rw[hs];simp only;generalize bM p (.mk n l) ls=z at *
 cases E:(code != 0)with
 |true =>
  rw[ae (.inl (by simpa using E))];refine ah func137 ntmps137 ?_;exact eP
 |false =>
  cases F:(((a:Nat):Int)==skip)with
  |true =>
   rw[ae (.inr (by simpa using F))];refine ah func137 ntmps137 ?_;exact eP
  |false =>
   rw[ab (by rintro(h|h);(· simp at E;exact h E);(· simp at F;exact F h))];simp only
   cases q:uk n with
   |false =>
    rw[q]at j;rw[ab (show ¬(false=true) by decide)];unfold aU at hr
    cases i:(z != 0)with
    |true =>
     exact zeI
    |false =>
     exact zeJ
   |true =>
    rw[q]at j;rw[ae rfl]
    have M:l.length=1:=by
     unfold uk at q;simp only[a6,beq_iff_eq]at q;rw[hk,ec]at q;omega
    obtain⟨u,rfl⟩:∃u,l=[u]:=by
     match l,M with
     |[u],_=>exact⟨u,rfl⟩
    have hm:p.ak[a+1]?=some u.n:=by
     rw[dS]at o;have:=o.1
     cases u;rw[ek]at this;exact this.1
    have J:n.au[0]?=some (((a+1:Nat)):Int):=by rw[hk];rfl
    have EB:=iq J;have O:=cH hm;rw[show lH (.mk n [u])=u.n from rfl];generalize u.n=m at *;unfold aU at hr O
    cases W:(m.aj != 2)with
    |true =>
     rw[ae (show m.aj≠2 by simpa using W)]
     cases i:(z != 0)with
     |true =>
      exact zeI
     |false =>
      exact zeJ
    |false =>
     rw[ab (show ¬(m.aj≠2) by simpa using W)]
     cases i:(z != 0)with
     |true =>
      exact zeI
     |false =>
      exact zeJ
open GV (U)
open Go.Xp (bg aZ)
def I6(p:Src):GV:=.fn (.func 137) [] [.loc 0 0,.loc 1 0,.box (aQ p) 0,.loc 2 0]
def RN(p:Src):GV:=.fn (.func 115) [] [.loc 3 0,.loc 4 0,.box (aQ p) 0,.loc 5 0]
def C5(p:Src)(C G z u w T:TypeId)(s:CS)(ls:List ai)(R:Option Addr)(W:Nat):ap :=
 [.box C [y4 s.code],.box G [y4 s.skip],.box z [y4 s.place],.box u [I6 p],.box w [.v (.slice R ls.length W)],.box T [RN p],.vech 9 1 (b7 ls) (.slice R ls.length W)]
def Qu(p:Src)(C E F H I J:TypeId)(hp:p.ak.length<=1048576)(W:∀n∈p.ak,n.au.length<=1099511627776)(R:p.az.length<=1099511627776)(Q:p.aq.length<=1099511627776)(S:p.aw.length<=1099511627776):∀(N:Nat)(t:T),bg t<=N->∀(a:Nat)(s:CS)(ls:List ai)(j:Option Addr)(m:Nat),ek p.ak a t->ls.length+bg t<=8388608 ->
  GC prog 115 [y4 (a:Nat),.loc 3 0,.loc 4 0,.box (aQ p) 0,.loc 5 0] (C5 p C E F H I J s ls j m) fun g Δ=>g=.tup []/\∃b c,Δ=C5 p C E F H I J (iO (dq p) t a s ls).1 (iO (dq p) t a s ls).2 b c:=by
 intro N
 induction N with
 |zero=>intro t h;have:=kY t;omega
 |succ N ih =>
 intro t hN a s ls j m q Me
 cases t with
 |mk n l =>
 rw[Go.Xp.bg]at hN Me;have A:=q;rw[ek]at q;have⟨hn,hk,Mj⟩:=q;rw[iO];have hr:=cH hn;have YT:=W n (bR hn);have ht:=TR p a n l ls s C E F j m A R Q S Z;generalize Mi:(dq p) s a (.mk n l) ls=o at *
 have d:n.au.length=l.length:=by rw[hk,ec]
 unfold aU at hr;unfold C5 I6 RN;refine ah func115 ntmps115 ?_;refine GL.vQ [0,1,2,6] ht rfl rfl rfl (by repeat (first|exact trivial|refine⟨rfl,?_⟩)) ?_;rintro _ _⟨rfl,rfl⟩;refine zaR ?_;refine GW.range (n.au.map fun i=>[y4 i]).length (fun k fr Γ=>∃b c,fr=[y4 (a:Nat),.loc 3 0,.loc 4 0,.box (aQ p) 0,.loc 5 0,U,U,U,U,U,U,U,U,U,U,U,U,ints n.au,y4 ((n.au.map fun i=>[GV.v (ii i)]).length:Int),y4 (k:Nat),U,U,U,U,U,U,U,U,U,U,U,U,U,U,U,U,U,U,U,U,U,U,U]/\Γ=C5 p C E F H I J (eL (dq p) (l.take k) (a+1) o ls).1 (eL (dq p) (l.take k) (a+1) o ls).2 b c) ?_ zfy ?_ ?_ ?_
 ·exact⟨_,_,Wk.bb aD,j,m,rfl,rfl⟩
 ·rintro k _ _⟨j,m,rfl,rfl⟩;exact eB
 ·rintro k _ _ z⟨j,m,rfl,rfl⟩;rw[bI,d]at z;obtain⟨u,G⟩:∃u,l[k]?=some u:=⟨l[k],by simp[z]⟩;have r:=um (n:=a+1) G;rw[<-hk]at r;have Y6:=iq r;have ps:=oE G;have hsu:ek p.ak (a+1+aZ (l.take k)) u:=dS.ix l (a+1) k u Mj G
  have w:(eL (dq p) (l.take k) (a+1) o ls).2.length<=ls.length+aZ (l.take k):=by
   rw[qR,bl];have:=nr (l.take k);omega
  rw[Ec _ G];generalize(eL (dq p) (l.take k) (a+1) o ls).1=s2 at *;generalize(eL (dq p) (l.take k) (a+1) o ls).2=e at *;have B:=ih u Z (a+1+aZ (l.take k)) s2 e j m hsu Z;unfold C5 I6 RN at B |-;refine X ?_;refine GL.vQ [0,1,2,3,4,5,6] B rfl rfl rfl (by repeat (first|exact trivial|refine⟨rfl,?_⟩)) ?_;rintro _ _⟨rfl,b,c,rfl⟩;exact ze5
 ·rintro _ _⟨j,m,rfl,rfl⟩;rw[bI,d,ej]
  have w:(eL (dq p) l (a+1) o ls).2.length<=ls.length+aZ l:=by
   rw[qR,bl];have:=nr l;omega
  generalize(eL (dq p) l (a+1) o ls).1=s2 at *;generalize(eL (dq p) l (a+1) o ls).2=e at *;have HU:(b7 e).length=e.length:=sS e;unfold C5 I6 RN;refine bx ?_
  cases B:(n.aj==13)with
  |false =>
   rw[ab (by simpa using B)];refine X ?_;refine eC ?_;exact⟨rfl,j,m,rfl⟩
  |true =>
   rw[ae (by simpa using B)];refine X ?_;refine aX (aI 0 7 (.a 7 (.a 8 (.a 9 .nil)))) ?_;refine zdT ?_;refine OA rfl rfl (GL.nu 6 (news:=[[.v (sv n.s)]]) rfl rfl rfl aM rfl rfl (by refine⟨?_,?_⟩;(· show _+1<=_;omega);(· show(_+1)*_<=_;omega)) ?_);intro M O;refine zbF ?_;refine eC ?_;exact⟨rfl,M,O,by simp[b7]⟩
def Sy(p:Src)(C G z:TypeId)(i:Nat)(f:Go.Sp.Fn)(t:T)(s:CS)(c:p.ak.length<=1048576)(H:∀n∈p.ak,n.au.length<=1099511627776)(j:p.az.length<=1099511627776)(r:p.aq.length<=1099511627776)(S:p.aw.length<=1099511627776)
  (hf:p.az[i]?=some f)(I:f.params.length<=1048576)(u:0<=f.body)(d:ek p.ak f.body.toNat t)(N:bg t<=1048576) :
  GF prog 53 [.agg (aQ p),y4 (i:Nat),I6 p] [.box C [y4 s.code],.box G [y4 s.skip],.box z [y4 s.place]] (.tup []) [.box C [.v (ii (iO (dq p) t f.body.toNat s f.params).1.code)],.box G [.v (ii (iO (dq p) t f.body.toNat s f.params).1.skip)],.box z [.v (ii (iO (dq p) t f.body.toNat s f.params).1.place)]]:=by
 have k:(p.az.map aO)[i]?=some (aO f):=by rw[b6,hf];rfl
 have J:(f.params.map fun s=>[GV.v (sv s)]).length=f.params.length:=by simp
 have F:=wC f.params;obtain⟨b,w⟩:∃b:Nat,f.body=(b:Int):=⟨f.body.toNat,by omega⟩;rw[w,eV]at d |-;unfold aO at k;rw[w]at k;unfold I6;refine ef func53 ntmps53 ?_;refine kZ ?_;refine GL.wk (Wk.freeze (i:=3) rfl rfl rfl (a8 _)) ?_;refine GN zfX ?_;refine GL.wk (Wk.bb (dh:=[U,y4 (i:Nat),U,.box (aQ p) 0,U,.loc 4 0,U,U,U,U,U,U,U,strs f.params,U,U,U,U,U,U,U,U,U,U]) aD) ?_;refine GL.wk (Wk.kH 9 1) ?_;refine GL.Jv 5 rfl rfl rfl rfl F (by refine⟨?_,?_⟩;(· rw[J];omega);(· rw[J];omega)) ?_;intro R W;rw[J];refine zef ?_;refine GW.Lz (dh:=U::y4 (i:Nat)::U::.box (aQ p) 0::U::.loc 4 0::.loc 6 0::.loc 7 0::zU 16 []) (bO:=[.box C [y4 s.code],.box G [y4 s.skip],.box z [y4 s.place],.gone,.box _ [.fn (.func 137) [] [.loc 0 0,.loc 1 0,.box (aQ p) 0,.loc 2 0]],.vech 9 1 (b7 f.params) (.slice R f.params.length W),.box _ [.v (.slice R f.params.length W)],.box _ [.fn (.func 115) [] [.loc 4 0,.loc 6 0,.box (aQ p) 0,.loc 7 0]]]) aD rfl ?_;refine aX (aI 0 7 (.a 7 .nil)) ?_;refine av ?_;have O:=Qu p C G z;refine OA rfl rfl (GL.vQ [0,1,2,4,6,7,5] (O _ _ _ c H j r S _ t (a8 _) b s f.params R W d Z) rfl rfl rfl (by repeat (first|exact trivial|refine⟨rfl,?_⟩)) ?_);rintro _ _⟨rfl,M,o,rfl⟩;refine⟨by simp[C5],?_⟩;unfold C5;refine za1 ?_;exact bY
end Go.Xg
namespace Go.Im
open Go.Xp Go.Sp
def Hp{l:List ai}:uH l=false↔∀k,k<l.length->oQ l k=false:=by
 unfold uH;rw[any_eq_false];constructor
 ·intro h k G;have:=h k (List.mem_range.2 G);exact zdM
 ·intro h k G;rw[h k (List.mem_range.1 G)];decide
def sj{l:List Ar}{k:Nat}{a:Ar}(h:l[k]?=some a):eE (l.take (k+1))=eE (l.take k)+a.size:=by
 unfold eE;rw[dI,h,List.foldl_append];rfl
def uF{l:List Ar}(h:∀a∈l,0<=a.size/\a.size<=2147483648):∀k,0<=eE (l.take k)/\eE (l.take k)<=(k:Int)*2147483648:=by
 intro k
 induction k with
 |zero=>simp[eE]
 |succ k q =>
  cases hx:l[k]? with
  |none =>
   have:l.take (k+1)=l.take k:=by rw[dI,hx];simp
   rw[this];omega
  |some a =>
   have:=h a (bR hx);rw[sj hx];omega
def Bu{l:List ai}:fG l=false↔∀k,k<l.length->lL l k=false:=by
 unfold fG;rw[any_eq_false];constructor
 ·intro h k G;have:=h k (List.mem_range.2 G);exact zdM
 ·intro h k G;rw[h k (List.mem_range.1 G)];decide
def Ej(p:Src)(l:List T)(a:Nat):gI p [] l a=(0,0):=by unfold gI;rfl
end Go.Im
namespace Go.Xg
open Go.RowKit Go.Xw Go.Proofs Tryz Go.Im
open GV (U)
open Go.Xp (T bg)
open Go.Sp (Src)
def V.AW{P:Program}{fr:am}{Γ:ap}{x up:Operand}{t e:TypeId}{k:Nat}[J:lC P t e k]{rows:List am}{A:IntKind}{i:Nat}(hx:bd fr x=.sl k rows)(H:bd fr up=.v (.int A i))(hi:i<rows.length):V P (.slice t x none (some up) none) fr Γ (.sl k (rows.take i)):=fun B K β w l R n=>by
 have h:=n.ev x;rw[hx]at h;have s:=n.fC H;generalize N:ev l x=v at h
 cases h with
 |sl0 a c=>simp at hi
 |sl b o c _ _ h F =>
  refine⟨.slice (some ⟨b,o,none⟩) i c,fun d M C E=>?_,?_⟩
  ·have u:¬(c=0):=by omega
   have T:(i:Int)<=(c:Int):=by omega
   have I:i<=c:=by omega
   simp[execOp,Instr.sliceAt,Instr.slice,Instr.sliceBounds,Instr.sliceBound,asIntOf,N,s,run_underlying J.und,fw J.siz,u,T,I,n8]
  ·have:=Rel.sl (K:=K) (β:=β) b o c k (rows.take i) (fun j r m=>?_) (by simp;omega)
   ·rw[iX,Nat.min_eq_left (Nat.le_of_lt hi)]at this;exact this
   ·have q:j<i:=by
     rcases Nat.lt_or_ge j i with z|z
     ·exact z
     ·rw[List.getElem?_eq_none zfG]at m;cases m
    rw[List.getElem?_take,ae q]at m;exact h j r m
attribute [local irreducible] GW GL GO V GC GA bh bm
def LO(p:Src)(i:Nat)(f:Go.Sp.Fn)(t:T)(R:p.ak.length<=1048576)(H:∀n∈p.ak,n.au.length<=1099511627776)(m:p.az.length<=1099511627776)(r:p.aq.length<=1099511627776)(S:p.aw.length<=1099511627776)
  (hf:p.az[i]?=some f)(J:f.params.length<=1048576)(B:0<=f.body)(d:ek p.ak f.body.toNat t)(N:bg t<=1048576) :
  GF prog 68 [.agg (aQ p),y4 (i:Nat)] [] (.tup [.v (ii (hO p f t f.body.toNat).1),.v (ii (hO p f t f.body.toNat).2)]) []:=by
 have E:(p.az.map aO)[i]?=some (aO f):=by rw[b6,hf];rfl
 have A:(f.params.map fun s=>[GV.v (sv s)]).length=f.params.length:=by simp
 have w:=Sy p 3 3 3 i f t ⟨0,0,-1⟩ R H m r S hf J B d N;unfold aO at E;unfold hO;refine ah func68 ntmps68 ?_;refine GW.range (f.params.map fun s=>[GV.v (sv s)]).length (fun k u c=>u=[U,y4 (i:Nat),.loc 0 0,U,U,U,strs f.params,U,U,U,U,U,U,U,U,U,U,U,strs f.params,y4 ((f.params.map fun s=>[GV.v (sv s)]).length:Int),y4 (k:Nat),U,U,U,U,U,U,U,U,U,U,U,U,U,U,U,U]/\c=[.box 28 (aQ p)]/\∀j,j<k->oQ f.params j=false) ?_ Z ?_ ?_ ?_
 ·exact⟨_,_,Wk.bb aD,rfl,rfl,fun j o=>absurd o (Nat.not_lt_zero _)⟩
 ·exact jE
 ·rintro k _ _ l⟨rfl,rfl,W⟩;have z:=l;rw[A]at l;obtain⟨x,hx⟩:∃x,f.params[k]?=some x:=⟨f.params[k],by simp[l]⟩
  have F:(f.params.map fun s=>[GV.v (sv s)])[k]?=some [.v (sv x)]:=by rw[b6,hx];rfl
  have I:=lQ (f.params.take k) x zfG
  have C:oQ f.params k=(f.params.take k).contains x:=by unfold oQ;rw[hx]
  rw[<-C]at I;unfold strs at I;rw[map_take]at I
  cases Q:oQ f.params k with
  |true =>
   rw[Q]at I
   have b:uH f.params=true:=by
    cases h:uH f.params with
    |true=>rfl
    |false=>rw[Hp.1 h k l]at Q;cases Q
   rw[ae b];refine X ?_;refine GL.q (V.AW rfl rfl z) ?_;refine zap ?_;refine D [] I ?_;exact c8
  |false =>
   rw[Q]at I;refine X ?_;refine GL.q (V.AW rfl rfl z) ?_;refine zap ?_;refine D [] I ?_
   exact⟨rfl,rfl,_,_,Wk.bb aD,rfl,rfl,fun j o=>by
    rcases Nat.lt_succ_iff_lt_or_eq.1 o with h|rfl
    ·exact W j h
    ·exact Q⟩
 ·rintro _ _⟨rfl,rfl,W⟩;rw[A]at W;rw[ab (by rw[Hp.2 W];decide)];refine bx ?_;refine GW.wk (Wk.freeze (i:=0) rfl rfl rfl (bj _)) ?_;refine GW.Lz (dh:=U::y4 (i:Nat)::.box (aQ p) 0::zU 34 []) (bO:=[.gone]) aD rfl ?_;refine X ?_;refine D [1,3,2] w ?_;refine aX (aI 0 4 .nil) ?_;refine av ?_;exact kC
open Go.Xp (Ar)
def NS(p:Src)(l:p.az.length<=1099511627776)(r:p.aq.length<=1048576)(O:∀a∈p.aq,0<=a.size/\a.size<=2147483648):GF prog 65 [.agg (aQ p)] [] (.v (.bool (iM p))) []:=by
 have A:(p.aq.map bc).length=p.aq.length:=by simp
 have j:(p.az.map aO).length=p.az.length:=by simp
 have S:(p.aw.map fun s=>[GV.v (sv s)]).length=p.aw.length:=by simp
 have I:=tR (qe:=136) (fun x=>decide (x.params.length>40)) p.az l (fun x _=>Kz x);unfold iM;generalize p.az.any (fun x=>decide (x.params.length>40))=w at *;have t:=uF O;refine ah func65 ntmps65 ?_;refine GW.range (p.aq.map bc).length (fun k q d=>q=U::.loc 0 0::U::y4 (eE (p.aq.take k))::U::U::U::.sl 2 (p.aq.map bc)::y4 ((p.aq.map bc).length:Int)::y4 (k:Nat)::zU 30 []/\d=[.box 28 (aQ p)]/\(p.aq.take k).all (fun a=>!(a.size==0))=true) ?_ Z ?_ ?_ ?_
 ·exact lK
 ·exact jE
 ·rintro k _ _ i⟨rfl,rfl,W⟩;rw[A]at i;obtain⟨x,hx⟩:∃x,p.aq[k]?=some x:=⟨p.aq[k],by simp[i]⟩
  have m:(p.aq.map bc)[k]?=some (bc x):=by rw[b6,hx];rfl
  have N:=n9 (f:=fun a:Ar=>a.size==0) hx;have C:=sj hx;have u:=t k;have B:=O x (bR hx);unfold bc at m
  cases z:(x.size==0)with
  |true =>
   have:p.aq.any (fun a=>a.size==0)=true:=qJ.2 ⟨x,bR hx,z⟩;rw[this];exact aC
  |false =>
   rw[C];generalize eE (p.aq.take k)=c at *;refine X ?_;exact⟨rfl,rfl,_,_,(Wk.cut (n:=1) (bj _) rfl).trans (Wk.bb aD),rfl,rfl,by rw[N,W,z];rfl⟩
 ·rintro _ _⟨rfl,rfl,W⟩;rw[A,ej]at W |-
  have:p.aq.any (fun a=>a.size==0)=false:=by
   rw[any_eq_false];rw[fL]at W;intro x hx;simpa using W x hx
  rw[this];have F:decide (p.az.length>40)=decide ((40:Int)<((p.az.map aO).length:Int)):=decide_eq_decide.2 (by rw[j];omega);have o:decide (p.aw.length>29)=decide ((29:Int)<((p.aw.map fun s=>[GV.v (sv s)]).length:Int)):=decide_eq_decide.2 (by rw[S];omega);have G:decide (eE p.aq>8000)=decide ((8000:Int)<eE p.aq):=rfl;rw[F,o,G];generalize eE p.aq=c at *;refine bx ?_
  cases z:decide ((40:Int)<((p.az.map aO).length:Int))
  all_goals cases E:decide ((29:Int)<((p.aw.map fun s=>[GV.v (sv s)]).length:Int))
  all_goals cases J:decide ((8000:Int)<c)
  all_goals
   refine X ?_
   first
    |(refine ct ?_;exact⟨rfl,rfl⟩)
    |(refine jw [] I ?_;refine X ?_;refine ct ?_;exact⟨rfl,rfl⟩)
open Go.Xp (aZ)
def KJ(p:Src)(j:GF prog 64 [.agg (aQ p)] [] (.v (.bool false)) []):GF prog 16 [.agg (aQ p)] [] (.tup [y4 20,y4 0]) []:=by
 refine ah func16 ntmps16 ?_;refine D [] j ?_;exact c8
def Je(p:Src)(l:List T)(ns:List ai)(Q9:ns.length<=8388608)(Q3:p.az.length=l.length)(HO:p.az.length<=1048576)
  (hF:GF prog 64 [.agg (aQ p)] [] (.v (.bool true)) [])
  (W:GC prog 47 [.agg (aQ p)] [] fun g Δ=>∃a c,g=.v (.slice a ns.length c)/\Δ=[.vech 9 1 (b7 ns) (.slice a ns.length c)])
  (J:GF prog 65 [.agg (aQ p)] [] (.v (.bool (iM p))) [])
  (hq:∀i f t,p.az[i]?=some f->l[i]?=some t->GF prog 68 [.agg (aQ p),y4 (i:Nat)] [] (.tup [.v (ii (hO p f t (aZ (l.take i))).1),.v (ii (hO p f t (aZ (l.take i))).2)]) []) :
  GF prog 16 [.agg (aQ p)] []
   (.tup [.v (ii (if fG ns=true then((21,0):Int × Int)else if iM p=true then(26,0)else if p.az.any nI=false then(25,0)else gI p p.az l 0).1),.v (ii (if fG ns=true then((21,0):Int × Int)else if iM p=true then(26,0)else if p.az.any nI=false then(25,0)else gI p p.az l 0).2)]) []:=by
 have E:(ns.map fun s=>[GV.v (sv s)]).length=ns.length:=by simp
 have C:(p.az.map aO).length=p.az.length:=by simp
 have G:=tR (qe:=67) nI p.az Z (fun x _=>Ou x);generalize iM p=tm at *;refine ah func16 ntmps16 ?_;refine D [] hF ?_;refine cN [] W ?_;rintro _ _⟨ad,cp,rfl,rfl⟩;refine dA ?_;refine GL.wk (Wk.A1 (t:=14) (i:=1) rfl rfl rfl) ?_;refine GL.wk (Wk.cut (n:=1) (bj _) rfl) ?_;refine GL.wk (Wk.bb (dh:=U::.loc 0 0::zU 12 (strs ns::zU 40 [])) aD) ?_;refine zap ?_;refine GW.range (ns.map fun s=>[GV.v (sv s)]).length (fun k I R=>I=[U,.loc 0 0,U,U,strs ns,U,U,U,U,U,U,U,U,U,U,strs ns,y4 ((ns.map fun s=>[GV.v (sv s)]).length:Int),y4 (k:Nat),U,U,U,U,U,U,U,U,U,U,U,U,U,U,U,U,U,U,U,U,U,U,U,U,U,U,U,U,U,U,U,U,U,U,U,U,U]/\R=[.box 28 (aQ p)]/\∀j,j<k->lL ns j=false) ?_ Z ?_ ?_ ?_
 ·exact⟨_,_,Wk.bb aD,rfl,rfl,fun j Q=>absurd Q (Nat.not_lt_zero _)⟩
 ·exact jE
 ·rintro k _ _ b⟨rfl,rfl,d⟩;have o:=b;rw[E]at b;obtain⟨x,hx⟩:∃x,ns[k]?=some x:=⟨ns[k],by simp[b]⟩
  have hrs:(ns.map fun s=>[GV.v (sv s)])[k]?=some [.v (sv x)]:=by rw[b6,hx];rfl
  have A:=My x;have w:=lQ (ns.take k) x zfG
  have e:lL ns k=(ga x ||(ns.take k).contains x):=by unfold lL;rw[hx]
  unfold strs at w;rw[map_take]at w
  cases z:ga x with
  |true =>
   rw[z]at A e
   have u:fG ns=true:=by
    cases h:fG ns with
    |true=>rfl
    |false=>rw[Bu.1 h k b]at e;simp at e
   rw[ae u];refine X ?_;refine D [] A ?_;exact c8
  |false =>
   rw[z]at A e
   cases B:(ns.take k).contains x with
   |true =>
    rw[B]at w e
    have u:fG ns=true:=by
     cases h:fG ns with
     |true=>rfl
     |false=>rw[Bu.1 h k b]at e;simp at e
    rw[ae u];refine X ?_;refine D [] A ?_;refine GL.q (V.AW rfl rfl o) ?_;refine zap ?_;refine D [] w ?_;exact c8
   |false =>
    rw[B]at w e;refine X ?_;refine D [] A ?_;refine GL.q (V.AW rfl rfl o) ?_;refine zap ?_;refine D [] w ?_
    exact⟨rfl,rfl,_,_,Wk.bb aD,rfl,rfl,fun j Q=>by
     rcases Nat.lt_succ_iff_lt_or_eq.1 Q with h|rfl
     ·exact d j h
     ·exact e⟩
 ·rintro _ _⟨rfl,rfl,d⟩;rw[E]at d;rw[ab (show ¬fG ns=true by rw[Bu.2 d];decide)];refine bx ?_
  cases tm with
  |true =>
   rw[ae rfl];refine zc6 ?_;exact c8
  |false =>
   rw[ab aS]
   cases F:p.az.any nI with
   |false =>
    rw[F]at G;rw[ae rfl];refine zc6 ?_;refine D [] G ?_;exact c8
   |true =>
    rw[F]at G;rw[ab aS];refine zc6 ?_;refine D [] G ?_;refine GW.range (p.az.map aO).length (fun k I R=>I=U::.loc 0 0::zU 37 (.sl 3 (p.az.map aO)::y4 ((p.az.map aO).length:Int)::y4 (k:Nat)::zU 13 [])/\R=[.box 28 (aQ p)]/\gI p p.az l 0=gI p (p.az.drop k) (l.drop k) (aZ (l.take k))) ?_ Z ?_ ?_ ?_
    ·exact⟨_,_,Wk.bb aD,rfl,rfl,by rw[List.drop_zero,List.drop_zero,List.take_zero,aZ]⟩
    ·exact jE
    ·rintro k _ _ b⟨rfl,rfl,m⟩;rw[C]at b;obtain⟨f,O⟩:∃f,p.az[k]?=some f:=⟨p.az[k],by simp[b]⟩;obtain⟨t,H⟩:∃t,l[k]?=some t:=⟨l[k]'Z,cq _⟩;have S:=hq k f t O H
     have M:p.az.drop k=f::p.az.drop (k+1):=by rw[kP b];rw[cq b]at O;rw[sA O]
     have N:l.drop k=t::l.drop (k+1):=by rw[kP Z];rw[cq Z]at H;rw[sA H]
     rw[M,N,gI,<-Qj H]at m
     cases z:((hO p f t (aZ (l.take k))).1 != 0)with
     |true =>
      rw[ae zfv]at m;rw[m];generalize hO p f t (aZ (l.take k))=r at *;refine X ?_;refine D [] S ?_;exact c8
     |false =>
      rw[ab zfv]at m;generalize hO p f t (aZ (l.take k))=r at *;refine X ?_;refine D [] S ?_;exact⟨rfl,rfl,_,_,Wk.bb aD,rfl,rfl,m⟩
    ·rintro _ _⟨rfl,rfl,m⟩;rw[C,drop_length,Ej]at m;rw[m];refine bx ?_;exact kC
def L2(p:Src)(c z:Int)(h:GF prog 16 [.agg (aQ p)] [] (.tup [y4 c,y4 z]) []):GF prog 44 [.agg (aQ p)] [] (.v (.bool (c==0))) []:=by
 refine ah func44 ntmps44 ?_;exact zbk
end Go.Xg
set_option maxHeartbeats 2000000
namespace Go.Xg
open Go.RowKit Go.Xw Go.Proofs Tryz Go.Im
open GV (U)
open Go.Xp (Ar)
open Go.Sp (Src)
attribute [local irreducible] GW GL GO V GC GA bh bm
def cC(p:Src)(h:Value)(c:SS):am:=[strs p.aw,.sl 2 (p.aq.map bc),.sl 3 (p.az.map aO),.sl 5 (p.ak.map aU),.v h,y4 c.code,y4 c.at_]
def jB(p:Src)(h:Value)(c:SS)(k z:Int):GF prog 206 [.loc 0 0,y4 k,y4 z] [.box 155 (cC p h c)] (.tup []) [.box 155 (cC p h (c.fail k z))]:=by
 unfold SS.fail
 cases o:(c.code==0)with
 |true =>
  rw[ae zfD];unfold cC;refine ah func206 ntmps206 ?_;exact eP
 |false =>
  rw[ab zfD];unfold cC;refine ah func206 ntmps206 ?_;exact eP
def wo(s:ai):GF prog 56 [.v (sv s)] [] (.v (.bool (ga s))) []:=by
 unfold ga kG ly eh
 cases z:(s==[103,101,116])
 all_goals cases w:(s==[112,117,116])
 all_goals
  refine ah func56 ntmps56 ?_;exact ax
def lY(p:Src)(s:ai)(hn:p.aq.length<=1099511627776):GF prog 118 [.agg (aQ p),.v (sv s)] [] (y4 (bP (fun x:Ar=>x.name==s) p.aq)) []:=by
 have A:(p.aq.map bc).length=p.aq.length:=by simp
 refine ah func118 ntmps118 ?_;refine GW.range (p.aq.map bc).length (fun k o c=>o=[U,.v (sv s),.loc 0 0,U,U,U,U,U,.sl 2 (p.aq.map bc),y4 ((p.aq.map bc).length:Int),y4 (k:Nat),U,U,U,U,U,U,U,U,U,U]/\c=[.box 28 (aQ p)]/\(p.aq.take k).all (fun y=>!(y.name==s))=true) ?_ Z ?_ ?_ ?_
 ·exact lK
 ·exact jE
 ·rintro k _ _ i⟨rfl,rfl,W⟩;rw[A]at i;obtain⟨x,l⟩:∃x,p.aq[k]?=some x:=⟨p.aq[k],by simp[i]⟩
  have j:(p.aq.map bc)[k]?=some (bc x):=by rw[b6,l];rfl
  have N:=n9 (f:=fun y:Ar=>y.name==s) l
  have hit:=fun M=>oR (f:=fun y:Ar=>y.name==s) l M W
  unfold bc at j
  cases r:(x.name==s)with
  |true =>
   rw[hit r];exact aC
  |false =>
   exact zcM
 ·rintro _ _⟨rfl,rfl,W⟩;exact zce
def yg(p:Src)(s:ai)(hn:p.az.length<=1099511627776):GF prog 94 [.agg (aQ p),.v (sv s)] [] (y4 (bP (fun x:Go.Sp.Fn=>x.name==s) p.az)) []:=by
 have A:(p.az.map aO).length=p.az.length:=by simp
 refine ah func94 ntmps94 ?_;refine GW.range (p.az.map aO).length (fun k o c=>o=[U,.v (sv s),.loc 0 0,U,U,U,U,U,.sl 3 (p.az.map aO),y4 ((p.az.map aO).length:Int),y4 (k:Nat),U,U,U,U,U,U,U,U,U,U]/\c=[.box 28 (aQ p)]/\(p.az.take k).all (fun y=>!(y.name==s))=true) ?_ Z ?_ ?_ ?_
 ·exact lK
 ·exact jE
 ·rintro k _ _ i⟨rfl,rfl,W⟩;rw[A]at i;obtain⟨x,l⟩:∃x,p.az[k]?=some x:=⟨p.az[k],by simp[i]⟩
  have j:(p.az.map aO)[k]?=some (aO x):=by rw[b6,l];rfl
  have N:=n9 (f:=fun y:Go.Sp.Fn=>y.name==s) l
  have hit:=fun M=>oR (f:=fun y:Go.Sp.Fn=>y.name==s) l M W
  unfold aO at j
  cases r:(x.name==s)with
  |true =>
   rw[hit r];exact aC
  |false =>
   exact zcM
 ·rintro _ _⟨rfl,rfl,W⟩;exact zce
def BP(l:List ai)(s:ai)(hn:l.length<=1099511627776):GF prog 186 [strs l,.v (sv s)] [] (y4 (po l s)) []:=by
 have A:(l.map fun s=>[GV.v (sv s)]).length=l.length:=by simp
 unfold po;refine ah func186 ntmps186 ?_;refine GW.range (l.map fun s=>[GV.v (sv s)]).length (fun k o c=>o=[strs l,.v (sv s),U,U,U,U,U,strs l,y4 ((l.map fun s=>[GV.v (sv s)]).length:Int),y4 (k:Nat),U,U,U,U,U,U,U,U,U]/\c=[]/\(l.take k).all (fun y=>!(y==s))=true) ?_ Z ?_ ?_ ?_
 ·exact lK
 ·exact jE
 ·rintro k _ _ i⟨rfl,rfl,W⟩;rw[A]at i;obtain⟨x,m⟩:∃x,l[k]?=some x:=⟨l[k],by simp[i]⟩
  have j:(l.map fun s=>[GV.v (sv s)])[k]?=some [.v (sv x)]:=by rw[b6,m];rfl
  have N:=n9 (f:=fun y:ai=>y==s) m
  have hit:=fun M=>oR (f:=fun y:ai=>y==s) m M W
  cases r:(x==s)with
  |true =>
   rw[hit r];exact aC
  |false =>
   refine X ?_;exact⟨rfl,rfl,_,_,Wk.bb aD,rfl,rfl,by rw[N,W,r];rfl⟩
 ·rintro _ _⟨rfl,rfl,W⟩;exact zce
end Go.Xg
set_option maxHeartbeats 4000000
namespace Go.Im
open Go.Xp Go.Sp
def w5(l:List ai)(k:Nat):Bool:=(List.range k).any (oQ l)
def CE(l:List ai)(k:Nat):w5 l (k+1)=(w5 l k ||oQ l k):=by
 unfold w5;rw[List.range_succ,any_append];simp
def lJ(f:Go.Sp.Fn)(c:SS)(k:Nat):SS:=⟨f.params.take k,if w5 f.params k=true then iH c.code 21 else c.code,if w5 f.params k=true/\c.code=0 then 0 else c.at_⟩
section
variable{f:Go.Sp.Fn}{c:SS}{k:Nat}
def PV(h:oQ f.params k=true):(lJ f c (k+1)).code=((lJ f c k).fail 21 0).code/\(lJ f c (k+1)).at_=((lJ f c k).fail 21 0).at_:=by
 unfold lJ SS.fail;simp only[CE,h,Bool.or_true,true_and,if_true];unfold iH
 cases w5 f.params k<;>by_cases M:c.code=0<;>simp[M]
def Nj(h:oQ f.params k=false):(lJ f c (k+1)).code=(lJ f c k).code/\(lJ f c (k+1)).at_=(lJ f c k).at_:=by
 unfold lJ;simp only[CE,h,Bool.or_false,and_self]
end
end Go.Im
namespace Go.Xg
open Go.RowKit Go.Xw Go.Proofs Tryz Go.Im
open GV (U)
open Go.Sp (Src)
attribute [local irreducible] GW GL GO V GC GA bh bm
def Gp(p:Src)(I:Value)(c:SS)(f:Go.Sp.Fn)(O:f.params.length<=1048576) :
  GC prog 149 [.loc 0 0,.agg (aO f)] [.box 155 (cC p I c)] fun g Δ=>g=.tup []/\∃i j,Δ=[.box 155 (cC p (.slice i f.params.length j) (rb f c)),.vech 9 1 (b7 f.params) (.slice i f.params.length j)]:=by
 have E:(f.params.map fun s=>[GV.v (sv s)]).length=f.params.length:=by simp
 have u:rb f c=⟨f.params,(lJ f c f.params.length).code,(lJ f c f.params.length).at_⟩:=by
  unfold rb lJ w5 uH;rfl
 rw[u]
 have t:(lJ f c 0).code=c.code/\(lJ f c 0).at_=c.at_:=by unfold lJ w5;simp
 rw[show cC p I c=cC p I (lJ f c 0) by unfold cC;rw[t.1,t.2]];unfold cC aO;refine ef func149 ntmps149 ?_;refine GW.wk (Wk.kH 9 1) ?_;refine zbh ?_;refine GW.range (f.params.map fun s=>[GV.v (sv s)]).length (fun k Q Γ=>∃i j R n B,Q=[.loc 0 0,U,U,.loc 2 0,U,U,U,U,U,U,strs f.params,y4 ((f.params.map fun s=>[GV.v (sv s)]).length:Int),y4 (k:Nat),U,U,U,U,U,U,U,U,U,U,U,U,U,U,U,U,U,U,U,U,U,U]/\Γ=[.box 155 (cC p (.slice i n j) (lJ f c k)),.vech 9 1 R (.slice i n j),B]/\R.length=n/\R=b7 (f.params.take k)) ?_ Z ?_ ?_ ?_
 ·exact⟨_,_,Wk.bb aD,none,0,[],0,_,rfl,rfl,rfl,by simp[b7]⟩
 ·rintro k _ _⟨i,j,R,n,B,rfl,rfl,_⟩;exact eB
 ·rintro k _ _ z⟨i,j,R,n,B,rfl,rfl,d,m⟩;rw[E]at z;obtain⟨x,hx⟩:∃x,f.params[k]?=some x:=⟨f.params[k],by simp[z]⟩
  have W:(f.params.map fun s=>[GV.v (sv s)])[k]?=some [.v (sv x)]:=by rw[b6,hx];rfl
  have e:b7 (f.params.take (k+1))=R++[[.v (sv x)]]:=by rw[dI,hx,m];simp[b7]
  have T:n<=1048576:=by rw[<-d,m,sS,iX];omega
  have r:GF prog 58 [.sl 1 R,.v (sv x)] [] (.v (.bool ((f.params.take k).contains x))) []:=by
   rw[m];exact jO (f.params.take k) x zfG
  have S:oQ f.params k=(f.params.take k).contains x:=by unfold oQ;rw[hx]
  rw[<-S]at r;have b:=jB p (.slice i n j) (lJ f c k) 21 0;clear m
  cases F:oQ f.params k with
  |true =>
   rw[F]at r;have⟨G,H⟩:=PV (c:=c) F;unfold cC at b |-;rw[G,H];generalize(lJ f c k).fail 21 0=s1 at *;generalize lJ f c k=s0 at *;refine X ?_;refine GL.borrow r (fun B K β w l M J=>kQ (A:=[_]) (C:=[_]) M J rfl rfl) ?_;refine zap ?_;refine D [0] b ?_;exact zbR
  |false =>
   rw[F]at r;have⟨G,H⟩:=Nj (c:=c) F;unfold cC at b |-;rw[G,H];generalize lJ f c k=s0 at *;refine X ?_;refine GL.borrow r (fun B K β w l M J=>kQ (A:=[_]) (C:=[_]) M J rfl rfl) ?_;refine zap ?_;exact zbR
 ·rintro _ _⟨i,j,R,n,B,rfl,rfl,d,m⟩;rw[E]at m |-;rw[ej]at m
  have N:n=f.params.length:=by rw[<-d,m,sS]
  subst N;refine zd6 ?_;exact U4 (n:=2) rfl dY (dT rfl) rfl ⟨rfl,i,j,by rw[m];rfl⟩
open Go.Xp (Nd T)
def cO(p:Src)(c:SS)(ls:List ai)(R:Option Addr)(W:Nat):ap:=[.box 155 (cC p (.slice R ls.length W) c),.vech 9 1 (b7 ls) (.slice R ls.length W)]
section
variable(p:Src)(c:SS)(n:Nd)(l:List T)(R:Option Addr)(W:Nat)
def Gm(z:(n.s==[103,101,116])=true)(b:l.length<=1099511627776) :
  GF prog 207 [.loc 0 0,.agg (cT (.mk n l))] (cO p c c.ls R W) (.v (.bool true)) (cO p (fy c n l.length 0) c.ls R W):=by
 have A:(aR l).length=l.length:=bs l;unfold cO;unfold fy;show GF _ _ _ _ (.v (.bool true)) [.box _ (cC p _ (if l.length≠0 then _ else _)),_];have E:=jB p (.slice R c.ls.length W) c 23 n.at_;unfold cC at E |-
 cases G:(((aR l).length:Int) != ((0:Nat):Int))with
 |true =>
  rw[ae (show l.length≠0 by rw[A,bne_iff_ne]at G;omega)];exact zd7
 |false =>
  rw[ab (show ¬l.length≠0 by rw[A,bne_eq_false_iff_eq]at G;omega)];refine ah func207 ntmps207 ?_;exact ax
def Gn(z:(n.s==[103,101,116])=false)(w:(n.s==[112,117,116])=true)(b:l.length<=1099511627776) :
  GF prog 207 [.loc 0 0,.agg (cT (.mk n l))] (cO p c c.ls R W) (.v (.bool true)) (cO p (fy c n l.length 1) c.ls R W):=by
 have A:(aR l).length=l.length:=bs l;unfold cO;unfold fy;show GF _ _ _ _ (.v (.bool true)) [.box _ (cC p _ (if l.length≠1 then _ else _)),_];have E:=jB p (.slice R c.ls.length W) c 23 n.at_;unfold cC at E |-
 cases G:(((aR l).length:Int) != ((1:Nat):Int))with
 |true =>
  rw[ae (show l.length≠1 by rw[A,bne_iff_ne]at G;omega)];exact zd7
 |false =>
  rw[ab (show ¬l.length≠1 by rw[A,bne_eq_false_iff_eq]at G;omega)];refine ah func207 ntmps207 ?_;exact ax
def J2(z:(n.s==[103,101,116])=false)(w:(n.s==[112,117,116])=false)(I:(n.s==[115,105,122,101])=false)(b:l.length<=1099511627776)
  (j:GF prog 94 [.agg (aQ p),.v (sv n.s)] [] (y4 (-1)) []) :
  GF prog 207 [.loc 0 0,.agg (cT (.mk n l))] (cO p c c.ls R W) (.v (.bool false)) (cO p (c.fail 22 n.at_) c.ls R W):=by
 have E:=jB p (.slice R c.ls.length W) c 22 n.at_
 have o:decide ((-1:Int)<0)=true:=by decide
 unfold cO;unfold cC at E |-;generalize c.fail 22 n.at_=N at *;exact zdD
end
def J1(p:Src)(c:SS)(n:Nd)(l:List T)(i:Nat)(f:Go.Sp.Fn)(R:Option Addr)(W:Nat)(z:(n.s==[103,101,116])=false)(w:(n.s==[112,117,116])=false)(I:(n.s==[115,105,122,101])=false)(b:l.length<=1099511627776)
  (hf:p.az[i]?=some f)(j:GF prog 94 [.agg (aQ p),.v (sv n.s)] [] (y4 ((i:Nat):Int)) []) :
  GF prog 207 [.loc 0 0,.agg (cT (.mk n l))] (cO p c c.ls R W) (.v (.bool true)) (cO p (fy c n l.length f.params.length) c.ls R W):=by
 have A:(aR l).length=l.length:=bs l
 have o:decide (((i:Nat):Int)<0)=false:=by simp
 have k:(p.az.map aO)[i]?=some (aO f):=by rw[b6,hf];rfl
 have J:(f.params.map fun s=>[GV.v (sv s)]).length=f.params.length:=by simp
 unfold aO at k;rw[<-J];unfold cO;unfold fy;show GF _ _ _ _ (.v (.bool true)) [.box _ (cC p _ (if l.length≠(f.params.map fun s=>[GV.v (sv s)]).length then _ else _)),_];have E:=jB p (.slice R c.ls.length W) c 23 n.at_;unfold cC at E |-
 cases G:(((aR l).length:Int) != (((f.params.map fun s=>[GV.v (sv s)]).length:Nat):Int))with
 |true =>
  rw[ae (show l.length≠(f.params.map fun s=>[GV.v (sv s)]).length by rw[A,bne_iff_ne]at G;omega)];generalize c.fail 23 n.at_=N at *;exact zdD
 |false =>
  rw[ab (show ¬l.length≠(f.params.map fun s=>[GV.v (sv s)]).length by rw[A,bne_eq_false_iff_eq]at G;omega)];refine ah func207 ntmps207 ?_;refine zbc ?_;refine aN [] j ?_;exact aC
open Go.Xp (Ar)
section
variable(p:Src)(c:SS)
def Dr(n:Nd)(u:T)(R:Option Addr)(W:Nat)(F:(n.s==[103,101,116])=false)(G:(n.s==[112,117,116])=false)(J:(n.s==[115,105,122,101])=true)(r:p.aq.length<=1099511627776)(m:c.ls.length<=1099511627776) :
  GF prog 207 [.loc 0 0,.agg (cT (.mk n [u]))] (cO p c c.ls R W) (.v (.bool false)) (cO p (if gg p u.n c.ls=true then c.fail 24 n.at_ else c) c.ls R W):=by
 have I:(aR [u])[0]?=some (cT u):=bH rfl;have d:=lY p u.n.s r;have o:=jO c.ls u.n.s m;have E:=jB p (.slice R c.ls.length W) c 24 n.at_;rw[show gg p u.n c.ls=((u.n.aj != 2 ||decide (bP (fun x:Ar=>x.name==u.n.s) p.aq<0)) ||c.ls.contains u.n.s)from rfl];generalize bP (fun x:Ar=>x.name==u.n.s) p.aq=z at *;unfold cO;unfold cC at E |-
 cases i:(u.n.aj != 2)with
 |true =>
  rw[ae zf5];generalize c.fail 24 n.at_=N at *;refine ah func207 ntmps207 ?_;refine zbi ?_;refine av ?_;refine bA ?_;exact zcg
 |false =>
  cases H:decide (z<0)with
  |true =>
   rw[ae zf5];generalize c.fail 24 n.at_=N at *;refine ah func207 ntmps207 ?_;refine zbi ?_;refine av ?_;refine cw [] d ?_;refine bA ?_;exact zcg
  |false =>
   generalize c.ls.contains u.n.s=b at *
   cases b with
   |true =>
    rw[ae zf5];generalize c.fail 24 n.at_=N at *;refine ah func207 ntmps207 ?_;refine zbi ?_;refine av ?_;refine cw [] d ?_;refine QE rfl rfl rfl (by first|exact rfl|assumption) (GL.borrow o (fun B K e w l S j=>kQ (A:=[_]) (C:=[_]) S j rfl rfl) ?_);refine zbF ?_;exact zcg
   |false =>
    rw[ab aS];refine ah func207 ntmps207 ?_;refine zbi ?_;refine av ?_;refine cw [] d ?_;refine QE rfl rfl rfl (by first|exact rfl|assumption) (GL.borrow o (fun B K e w l S j=>kQ (A:=[_]) (C:=[_]) S j rfl rfl) ?_);refine za1 ?_;exact aC
def Ds(n:Nd)(l:List T)(R:Option Addr)(W:Nat)(z:(n.s==[103,101,116])=false)(w:(n.s==[112,117,116])=false)(I:(n.s==[115,105,122,101])=true)(b:l.length≠1) :
  GF prog 207 [.loc 0 0,.agg (cT (.mk n l))] (cO p c c.ls R W) (.v (.bool false)) (cO p (c.fail 23 n.at_) c.ls R W):=by
 have E:=jB p (.slice R c.ls.length W) c 23 n.at_;have A:(aR l).length=l.length:=bs l
 have g1:(((aR l).length:Int)==1)=false:=by rw[A,beq_eq_false_iff_ne];omega
 have Q:(((aR l).length:Int) != 1)=true:=by rw[A,bne_iff_ne];omega
 unfold cO;unfold cC at E |-;generalize c.fail 23 n.at_=N at *;refine ah func207 ntmps207 ?_;refine zbi ?_;refine bA ?_;exact zcg
def MG(t:T)(R:Option Addr)(W:Nat)(B:p.aq.length<=1099511627776)(k:p.az.length<=1099511627776)(m:c.ls.length<=1099511627776)(b:t.au.length<=1099511627776) :
  GF prog 207 [.loc 0 0,.agg (cT t)] (cO p c c.ls R W) (.v (.bool (gB p c t).2)) (cO p (gB p c t).1 c.ls R W):=by
 cases t with
 |mk n l =>
 have b:l.length<=1099511627776:=b
 cases z:(n.s==[103,101,116])with
 |true =>
  have e:gB p c (.mk n l)=(fy c n l.length 0,true):=by
   unfold gB kG;exact ae (show n.s=_ by simpa using z)
  rw[e];exact Gm p c n l R W z b
 |false =>
  have A:¬n.s=[103,101,116]:=by simpa using z
  cases w:(n.s==[112,117,116])with
  |true =>
   have e:gB p c (.mk n l)=(fy c n l.length 1,true):=by
    unfold gB kG ly;rw[ab (show ¬(T.mk n l).n.s=_ from A)];exact ae (show n.s=_ by simpa using w)
   rw[e];exact Gn p c n l R W z w b
  |false =>
   have C:¬n.s=[112,117,116]:=by simpa using w
   cases I:(n.s==[115,105,122,101])with
   |true =>
    have e:gB p c (.mk n l)=(fy (if l.length=1/\gg p (lH (.mk n l)) c.ls=true then c.fail 24 n.at_ else c) n l.length 1,false):=by
     unfold gB kG ly eh;rw[ab (show ¬(T.mk n l).n.s=_ from A),ab (show ¬(T.mk n l).n.s=_ from C)];exact ae (show n.s=_ by simpa using I)
    rw[e]
    by_cases G:l.length=1
    ·obtain⟨u,rfl⟩:∃u,l=[u]:=by
      match l,G with
      |[u],_=>exact⟨u,rfl⟩
     have o:fy (if[u].length=1/\gg p (lH (.mk n [u])) c.ls=true then c.fail 24 n.at_ else c) n [u].length 1=(if gg p u.n c.ls=true then c.fail 24 n.at_ else c):=by
      unfold fy;rw[ab zfm];show(if _/\gg p u.n c.ls=true then _ else _)=_
      by_cases r:gg p u.n c.ls=true
      ·rw[ae r];exact ae ⟨rfl,r⟩
      ·rw[ab r];exact ab fun h=>r h.2
     rw[o];exact Dr p c n u R W z w I B m
    ·have o:fy (if l.length=1/\gg p (lH (.mk n l)) c.ls=true then c.fail 24 n.at_ else c) n l.length 1=c.fail 23 n.at_:=by
      rw[ab fun h=>G h.1];unfold fy;exact ae G
     rw[o];exact Ds p c n l R W z w I G
   |false =>
    have d:¬n.s=[115,105,122,101]:=by simpa using I
    have j:=yg p n.s k;unfold bP at j
    cases hx:p.az.findIdx? (fun f:Go.Sp.Fn=>f.name==n.s)with
    |none =>
     rw[hx]at j
     have e:gB p c (.mk n l)=(c.fail 22 n.at_,false):=by
      refine zbt ?_;rfl
     rw[e];exact J2 p c n l R W z w I b j
    |some i =>
     rw[hx]at j;have M:i<p.az.length:=(List.findIdx?_eq_some_iff_getElem.1 hx).1;obtain⟨f,E⟩:∃f,p.az[i]?=some f:=⟨p.az[i],by simp[M]⟩
     have e:gB p c (.mk n l)=(fy c n l.length f.params.length,true):=by
      refine zbt ?_;show(fy c n l.length (l8 p i),true)=_;unfold l8;rw[E]
     rw[e];exact J1 p c n l i f R W z w I b E j
end
end Go.Xg
namespace Go.Im
open Go.Xp Go.Sp
def CX(p:Src)(u:T):∀(l:List T)(c:SS),jD p (l++[u]) c=oy p u (jD p l c)
 |[],c=>by rw[nil_append,jD,jD,jD]
 |t::l,c=>by rw[cons_append,jD,jD,CX p u l]
def M4(p:Src){l:List T}{k:Nat}{u:T}(h:l[k]?=some u)(c:SS):jD p (l.take (k+1)) c=oy p u (jD p (l.take k) c):=by
 rw[dI,h];exact CX p u _ c
def Qs(c:SS)(n:Nd):(nc c n).ls.length<=c.ls.length+1:=by
 unfold nc;split
 ·omega
 split
 ·simp[SS.qd]
 split
 ·simp[SS.qd]
 ·simp
mutual
def Td(p:Src):∀(t:T)(c:SS),(oy p t c).ls.length<=c.ls.length+bg t
 |.mk n l,c=>by
  rw[oy,bg];refine ju (Qs _ _) ?_;split
  ·have:=wx p l (kB p c (.mk n l)).1;rw[vr]at this;omega
  ·rw[vr];omega
def wx(p:Src):∀(l:List T)(c:SS),(jD p l c).ls.length<=c.ls.length+aZ l
 |[],c=>by rw[jD,aZ];omega
 |t::r,c=>by
  rw[jD,aZ];have z:=wx p r (oy p t c);have v:=Td p t c;omega
end
def SH(k e:Int)(i:e≠0):iH (iH k e) e=iH k e:=by unfold iH;by_cases h:k=0<;>simp[h,i]
def O8(p:Src)(l:List T)(c:SS):oe p [] l c=c:=by unfold oe;rfl
end Go.Im
namespace Go.Xg
open Go.RowKit Go.Xw Go.Proofs Tryz Go.Im
open GV (U)
open Go.Xp (Nd T Ar bg aZ fH)
open Go.Sp (Src)
attribute [local irreducible] GW GL GO V GC GA bh bm
section
variable(p:Src)
def MI(vb:p.aq.length<=1099511627776)(HO:p.az.length<=1099511627776)(vc:p.aw.length<=1099511627776):∀(N:Nat)(t:T),bg t<=N->∀(c:SS)(m:Option Addr)(o:Nat),c.ls.length+bg t<=8388608 ->
  GC prog 150 [.loc 0 0,.agg (cT t)] (cO p c c.ls m o) fun g Δ=>g=.tup []/\∃Q R,Δ=cO p (oy p t c) (oy p t c).ls Q R:=by
 intro N
 induction N with
 |zero=>intro t h;have:=kY t;omega
 |succ N ih =>
 intro t hN c m o Me
 cases t with
 |mk n l =>
 rw[Go.Xp.bg]at hN Me;have Ey:=fH l;have rN:(aR l).length=l.length:=bs l;rw[oy];have H:=vr p c (.mk n l);have M:=jO c.ls n.s Z;have hG:=jO p.aw n.s vc;have hA:=lY p n.s vb;have hC:=MG p c (.mk n l) m o vb HO Z (by show l.length<=_;omega);have I:=jB p (.slice m c.ls.length o) c 22 n.at_;have E:=jB p (.slice m c.ls.length o) c 24 n.at_
 have j:kB p c (.mk n l)=(if n.aj=2\/n.aj=7 then(if c.ls.contains n.s=false/\p.aw.contains n.s=false then c.fail 22 n.at_ else c,true)
  else if n.aj=3\/n.aj=8 then(if c.ls.contains n.s=true\/bP (fun x:Ar=>x.name==n.s) p.aq<0 then c.fail 24 n.at_ else c,true)
  else if n.aj=4 then gB p c (.mk n l)else(c,true)):=rfl
 obtain⟨P,hP⟩:∃P,kB p c (.mk n l)=P:=⟨_,rfl⟩;rw[hP]at j H |-;unfold cO at hC |-;unfold cC at hC I E |-;refine ah func150 ntmps150 ?_;refine aX (aI 0 6 (.a 6 (.q 7 .nil))) ?_;refine av ?_;refine OA rfl rfl (GL.borrow M (fun B K β w l W S=>kQ (A:=[_]) (C:=[_,_]) W S rfl rfl) ?_);refine za1 ?_;refine Cp ?_;refine GW.join (fun fr Γ=>fr=.loc 0 0::U::U::.loc 2 0::.loc 3 0::U::.v (.bool P.2)::zU 103 []/\Γ=[.box 155 (cC p (.slice m c.ls.length o) P.1),.vech 9 1 (b7 c.ls) (.slice m c.ls.length o),.box 89 (cT (.mk n l)),.box 82 (aU n)]) ?_ ?_
 ·have⟨kd,at_,nn,s,ks⟩:=n;simp only at *;unfold cC;generalize gB p c (.mk ⟨kd,at_,nn,s,ks⟩ l)=cs at *;generalize bP (fun x:Ar=>x.name==s) p.aq=z at *;generalize c.ls.contains s=b at *;generalize p.aw.contains s=g at *;generalize c.fail 22 at_=c22 at *;generalize c.fail 24 at_=c24 at *
  by_cases h2:kd=2
  ·subst h2
   have q2:((2:Int)==2)=true:=by decide
   rw[ae aS]at j;subst j
   cases b with
   |true =>
    refine za2 ?_;refine bA ?_;exact ja
   |false =>
    cases g with
    |true =>
     refine za2 ?_;refine av ?_;refine cw [] hG ?_;exact iF
    |false =>
     exact zdz
  by_cases h7:kd=7
  ·subst h7
   have q2:((7:Int)==2)=false:=by decide
   have q7:((7:Int)==7)=true:=by decide
   rw[ae aS]at j;subst j
   cases b with
   |true =>
    refine za2 ?_;refine bA ?_;exact ja
   |false =>
    cases g with
    |true =>
     refine za2 ?_;refine av ?_;refine cw [] hG ?_;exact iF
    |false =>
     exact zdz
  rw[ab (by rintro(h|h);(· exact h2 h);exact h7 h)]at j
  by_cases h3:kd=3
  ·subst h3
   have q2:((3:Int)==2)=false:=by decide
   have q7:((3:Int)==7)=false:=by decide
   have q3:((3:Int)==3)=true:=by decide
   rw[ae aS]at j
   cases b with
   |true =>
    exact zcK
   |false =>
    cases hz:decide (z<0)with
    |true =>
     exact zcU
    |false =>
     exact zc0
  by_cases h8:kd=8
  ·subst h8
   have q2:((8:Int)==2)=false:=by decide
   have q7:((8:Int)==7)=false:=by decide
   have q3:((8:Int)==3)=false:=by decide
   have q8:((8:Int)==8)=true:=by decide
   rw[ae aS]at j
   cases b with
   |true =>
    exact zcK
   |false =>
    cases hz:decide (z<0)with
    |true =>
     exact zcU
    |false =>
     exact zc0
  rw[ab (by rintro(h|h);(· exact h3 h);exact h8 h)]at j
  by_cases h4:kd=4
  ·subst h4
   have q2:((4:Int)==2)=false:=by decide
   have q7:((4:Int)==7)=false:=by decide
   have q3:((4:Int)==3)=false:=by decide
   have q8:((4:Int)==8)=false:=by decide
   have q4:((4:Int)==4)=true:=by decide
   rw[ae rfl]at j;subst j;refine X ?_;refine D [0,1] hC ?_;exact ja
  rw[ab h4]at j;subst j
  have q2:(kd==2)=false:=by simpa using h2
  have q7:(kd==7)=false:=by simpa using h7
  have q3:(kd==3)=false:=by simpa using h3
  have q8:(kd==8)=false:=by simpa using h8
  have q4:(kd==4)=false:=by simpa using h4
  exact iF
 ·rintro _ _⟨rfl,rfl⟩;clear j hC I E;have⟨J,d⟩:=P;simp only at H |-;rw[<-H]at Me;rw[show cC p (.slice m c.ls.length o) J=cC p (.slice m J.ls.length o) J by rw[H],<-H];clear M;refine X ?_;refine GW.range (aR l).length (fun k fr Γ=>∃m o i,fr=.loc 0 0::U::U::.loc 2 0::.loc 3 0::U::.v (.bool d)::zU 57 (.sl 6 (aR l)::y4 ((aR l).length:Int)::y4 (k:Nat)::zU 43 [])/\Γ=[.box 155 (cC p (.slice m i.ls.length o) i),.vech 9 1 (b7 i.ls) (.slice m i.ls.length o),.box 89 (cT (.mk n l)),.box 82 (aU n)]/\i=(if d=true then jD p (l.take k) J else J)) ?_ Z ?_ ?_ ?_
  ·exact⟨_,_,Wk.bb aD,m,o,J,rfl,rfl,by cases d<;>simp[jD]⟩
  ·rintro k _ _⟨m,o,i,rfl,rfl,_⟩;exact eB
  ·rintro k _ _ oo⟨m,o,i,rfl,rfl,r⟩;rw[rN]at oo;obtain⟨u,hu⟩:∃u,l[k]?=some u:=⟨l[k],by simp[oo]⟩;have hr:=bH hu;have ps:=oE hu
   cases d with
   |false =>
    refine X ?_;exact⟨rfl,rfl,_,_,(Wk.cut (n:=4) (dT rfl) rfl).trans (Wk.bb aD),m,o,i,rfl,rfl,r⟩
   |true =>
    rw[ae rfl]at r;have O:=wx p (l.take k) J;rw[<-r]at O;have hi:=ih u Z i m o Z;unfold cO at hi;rw[ae rfl,M4 p hu,<-r];refine X ?_;refine cN [0,1] hi ?_;rintro _ _⟨rfl,Q,R,rfl⟩;refine zaR ?_;exact⟨rfl,rfl,_,_,(Wk.cut (n:=4) (dT rfl) rfl).trans (Wk.bb aD),Q,R,_,rfl,rfl,rfl⟩
  ·rintro _ _⟨m,o,i,rfl,rfl,r⟩;rw[rN,ej]at r;rw[<-r]
   have O:i.ls.length<=8388608:=by
    rw[r];split
    ·have:=wx p l J;omega
    ·omega
   clear r ih;refine bx ?_;have M:=jO i.ls n.s Z;have HU:=sS i.ls;have YH:=jB p (.slice m i.ls.length o) i 21 n.at_;have YI:=jB p (.slice m i.ls.length o) i 26 n.at_;have l21:=i.qd 21 n.at_;have l26:=i.qd 26 n.at_
   cases hv:(n.aj != 13)with
   |true =>
    have e:nc i n=i:=by unfold nc;exact ae (by simpa using hv)
    rw[e];refine X ?_;refine eC ?_;exact⟨rfl,m,o,rfl⟩
   |false =>
    have VD:¬n.aj≠13:=by simpa using hv
    unfold cC at YH YI
    cases hb:i.ls.contains n.s with
    |true =>
     rw[hb]at M
     have e:nc i n=⟨(i.fail 21 n.at_).ls++[n.s],(i.fail 21 n.at_).code,(i.fail 21 n.at_).at_⟩:=by unfold nc;rw[ab VD];exact ae hb
     rw[e];generalize i.fail 21 n.at_=y at *;refine zdA ?_;refine OA rfl rfl (GL.borrow M (fun B K β w l W S=>kQ (A:=[_]) (C:=[_,_]) W S rfl rfl) ?_);refine zbF ?_;refine D [0] YH ?_;refine zch ?_;refine OA rfl rfl (GL.nu 1 (news:=[[.v (sv n.s)]]) rfl rfl rfl aM rfl rfl (by refine⟨?_,?_⟩;(· show _+1<=_;omega);(· show(_+1)*_<=_;omega)) ?_);intro F G;refine zbF ?_;refine eC ?_;exact⟨rfl,F,G,by simp[cO,cC,b7,l21]⟩
    |false =>
     rw[hb]at M
     cases HK:((i.ls.length:Int)==40)with
     |true =>
      have e:nc i n=⟨(i.fail 26 n.at_).ls++[n.s],(i.fail 26 n.at_).code,(i.fail 26 n.at_).at_⟩:=by
       unfold nc;rw[ab VD,ab (by rw[hb];decide)];exact ae (by rw[beq_iff_eq]at HK;omega)
      rw[e];generalize i.fail 26 n.at_=y at *;refine zdA ?_;refine OA rfl rfl (GL.borrow M (fun B K β w l W S=>kQ (A:=[_]) (C:=[_,_]) W S rfl rfl) ?_);refine zbF ?_;refine D [0] YI ?_;refine zch ?_;refine OA rfl rfl (GL.nu 1 (news:=[[.v (sv n.s)]]) rfl rfl rfl aM rfl rfl (by refine⟨?_,?_⟩;(· show _+1<=_;omega);(· show(_+1)*_<=_;omega)) ?_);intro F G;refine zbF ?_;refine eC ?_;exact⟨rfl,F,G,by simp[cO,cC,b7,l26]⟩
     |false =>
      have e:nc i n=⟨i.ls++[n.s],i.code,i.at_⟩:=by
       unfold nc;rw[ab VD,ab (by rw[hb];decide)];exact ab (by rw[beq_eq_false_iff_ne]at HK;omega)
      rw[e];refine zdA ?_;refine OA rfl rfl (GL.borrow M (fun B K β w l W S=>kQ (A:=[_]) (C:=[_,_]) W S rfl rfl) ?_);refine zbF ?_;refine zch ?_;refine OA rfl rfl (GL.nu 1 (news:=[[.v (sv n.s)]]) rfl rfl rfl aM rfl rfl (by refine⟨?_,?_⟩;(· show _+1<=_;omega);(· show(_+1)*_<=_;omega)) ?_);intro F G;refine zbF ?_;refine eC ?_;exact⟨rfl,F,G,by simp[cO,cC,b7]⟩
def BH(h:Value)(k e:Int):GF prog 206 [.loc 0 0,y4 e,y4 0] [.box 155 (cC p h ⟨[],k,0⟩)] (.tup []) [.box 155 (cC p h ⟨[],iH k e,0⟩)]:=by
 have:=jB p h ⟨[],k,0⟩ e 0
 rwa[show(SS.fail ⟨[],k,0⟩ e 0)=⟨[],iH k e,0⟩ by unfold SS.fail iH;by_cases G:k=0<;>simp[G]]at this
def EO(h:Value)(k:Int)(s:p.aq.length<=1048576)(Q:∀a∈p.aq,0<=a.size/\a.size<=2147483648)
  (rest:(p.aq.all fun a=>!nD a)=true->GF prog 148 [.loc 0 0] [.box 155 (cC p h ⟨[],k,0⟩)] (.tup []) [.box 155 (cC p h ⟨[],rh p k,0⟩)]) :
  GF prog 148 [.loc 0 0] [.box 155 (cC p h ⟨[],k,0⟩)] (.tup []) [.box 155 (cC p h ⟨[],rh p k,0⟩)]:=by
 cases b:(p.aq.all fun a=>!nD a)with
 |true=>exact rest b
 |false =>
 have A:(p.aq.map bc).length=p.aq.length:=by simp
 have t:=uF Q;have d:=BH p h k 26
 have O:p.aq.any nD=true:=by
  cases M:p.aq.any nD with
  |true=>rfl
  |false =>
   rw[any_eq_false]at M;rw[all_eq_false]at b;have⟨x,hx,z⟩:=b;have:=M x hx;simp at z;rw[z]at this;exact absurd rfl this
 rw[show rh p k=iH k 26 by unfold rh;exact ae O];unfold cC at d |-;refine ah func148 ntmps148 ?_;refine GW.range (p.aq.map bc).length (fun r o e=>o=.loc 0 0::U::y4 (eE (p.aq.take r))::U::U::U::U::U::U::U::U::U::.sl 2 (p.aq.map bc)::y4 ((p.aq.map bc).length:Int)::y4 (r:Nat)::zU 79 []/\e=[.box 155 [strs p.aw,.sl 2 (p.aq.map bc),.sl 3 (p.az.map aO),.sl 5 (p.ak.map aU),.v h,y4 k,y4 0]]/\(p.aq.take r).all (fun a=>!nD a)=true) ?_ Z ?_ ?_ ?_
 ·exact lK
 ·rintro r _ _⟨rfl,rfl,_⟩;exact eB
 ·rintro r _ _ i⟨rfl,rfl,W⟩;rw[A]at i;obtain⟨x,hx⟩:∃x,p.aq[r]?=some x:=⟨p.aq[r],by simp[i]⟩
  have j:(p.aq.map bc)[r]?=some (bc x):=by rw[b6,hx];rfl
  have N:=n9 (f:=nD) hx;have C:=sj hx;have q:=t r;have B:=Q x (bR hx);have u:nD x=(decide (x.size<1) ||decide (8000<x.size)):=rfl;unfold bc at j
  cases z:decide (x.size<1)with
  |true =>
   refine X ?_;refine D [0] d ?_;exact eP
  |false =>
   cases w:decide (8000<x.size)with
   |true =>
    refine X ?_;refine D [0] d ?_;exact eP
   |false =>
    rw[C];generalize eE (p.aq.take r)=c at *;refine X ?_;exact⟨rfl,rfl,_,_,(Wk.cut (n:=1) (a8 _) rfl).trans (Wk.bb aD),rfl,rfl,by rw[N,W,u,z,w];rfl⟩
 ·rintro _ _⟨rfl,rfl,W⟩;rw[A,ej]at W;rw[W]at b;cases b
def Dt(h:Value)(k:Int)(vb:p.aq.length<=1048576)(HO:p.az.length<=1048576)(M:∀a∈p.aq,0<=a.size/\a.size<=2147483648)(m:(p.aq.all fun a=>!nD a)=true) :
  GF prog 148 [.loc 0 0] [.box 155 (cC p h ⟨[],k,0⟩)] (.tup []) [.box 155 (cC p h ⟨[],rh p k,0⟩)]:=by
 have I:(p.aq.map bc).length=p.aq.length:=by simp
 have A:(p.az.map aO).length=p.az.length:=by simp
 have vc:(p.aw.map fun s=>[GV.v (sv s)]).length=p.aw.length:=by simp
 have hb:=uF M
 have o:p.aq.any nD=false:=by
  rw[any_eq_false];rw[fL]at m;intro x hx;simpa using m x hx
 have r:=BH p h;unfold cC at r |-;refine ah func148 ntmps148 ?_;refine GW.range (p.aq.map bc).length (fun t E N=>E=.loc 0 0::U::y4 (eE (p.aq.take t))::U::U::U::U::U::U::U::U::U::.sl 2 (p.aq.map bc)::y4 ((p.aq.map bc).length:Int)::y4 (t:Nat)::zU 79 []/\N=[.box 155 [strs p.aw,.sl 2 (p.aq.map bc),.sl 3 (p.az.map aO),.sl 5 (p.ak.map aU),.v h,y4 k,y4 0]]) ?_ Z ?_ ?_ ?_
 ·exact ja
 ·rintro t _ _⟨rfl,rfl⟩;exact eB
 ·rintro t _ _ q⟨rfl,rfl⟩;rw[I]at q;obtain⟨x,hx⟩:∃x,p.aq[t]?=some x:=⟨p.aq[t],by simp[q]⟩
  have J:(p.aq.map bc)[t]?=some (bc x):=by rw[b6,hx];rfl
  have R:=sj hx;have xe:=hb t;have hxs:=M x (bR hx)
  have z:nD x=false:=by
   rw[any_eq_false]at o;have:=o x (bR hx);exact zdM
  unfold nD at z;rw[Bool.or_eq_false_iff]at z;have⟨F,Q⟩:=z;have Q:decide (8000<x.size)=false:=Q;unfold bc at J;rw[R];generalize eE (p.aq.take t)=c at *;refine X ?_;exact⟨rfl,rfl,_,_,(Wk.cut (n:=1) (a8 _) rfl).trans (Wk.bb aD),rfl,rfl⟩
 ·rintro _ _⟨rfl,rfl⟩;rw[I,ej];refine bx ?_;refine GW.seq ?_;have e1:decide (p.az.length>40)=decide ((40:Int)<((p.az.map aO).length:Int)):=decide_eq_decide.2 (by rw[A];omega);have e2:decide (p.aw.length>29)=decide ((29:Int)<((p.aw.map fun s=>[GV.v (sv s)]).length:Int)):=decide_eq_decide.2 Z
  have G:uD p=((decide ((40:Int)<((p.az.map aO).length:Int)) ||decide ((29:Int)<((p.aw.map fun s=>[GV.v (sv s)]).length:Int))) ||decide ((8000:Int)<eE p.aq)):=by unfold uD;rw[e1,e2]
  refine GW.join (fun E N=>E=.loc 0 0::zU 93 []/\N=[.box 155 [strs p.aw,.sl 2 (p.aq.map bc),.sl 3 (p.az.map aO),.sl 5 (p.ak.map aU),.v h,y4 (if uD p=true then iH k 26 else k),y4 0]]) ?_ ?_
  ·rw[G];have d:=r k 26;generalize eE p.aq=c at *
   cases F:decide ((40:Int)<((p.az.map aO).length:Int))
   all_goals cases Q:decide ((29:Int)<((p.aw.map fun s=>[GV.v (sv s)]).length:Int))
   all_goals cases h3:decide ((8000:Int)<c)
   all_goals
    refine X ?_
    first
     |exact ja
     |(refine jw [0] d ?_;refine X ?_;exact⟨_,_,Wk.bb aD,rfl,rfl⟩)
  ·rintro _ _⟨rfl,rfl⟩;generalize H:(if uD p=true then iH k 26 else k)=O
   have B:∀j:Nat,∀x:Go.Sp.Fn,p.az[j]?=some x->(p.az.take (j+1)).any (fun f=>decide (f.params.length>40))=((p.az.take j).any (fun f=>decide (f.params.length>40)) ||decide (x.params.length>40)):=fun j x hx=>by
    rw[dI,hx,any_append];simp
   refine X ?_;refine GW.range (p.az.map aO).length (fun j E N=>∃b,E=.loc 0 0::zU 58 (.sl 3 (p.az.map aO)::y4 ((p.az.map aO).length:Int)::y4 (j:Nat)::zU 32 [])/\N=[.box 155 [strs p.aw,.sl 2 (p.aq.map bc),.sl 3 (p.az.map aO),.sl 5 (p.ak.map aU),.v h,y4 b,y4 0]]/\b=(if(p.az.take j).any (fun f=>decide (f.params.length>40))=true then iH O 26 else O)) ?_ Z ?_ ?_ ?_
   ·exact⟨_,_,Wk.bb aD,O,rfl,rfl,by simp⟩
   ·rintro j _ _⟨b,rfl,rfl,_⟩;exact eB
   ·rintro j _ _ q⟨b,rfl,rfl,l⟩;rw[A]at q;obtain⟨x,hx⟩:∃x,p.az[j]?=some x:=⟨p.az[j],by simp[q]⟩
    have J:(p.az.map aO)[j]?=some (aO x):=by rw[b6,hx];rfl
    have W:(x.params.map fun s=>[GV.v (sv s)]).length=x.params.length:=by simp
    have S:=B j x hx;have z:decide (x.params.length>40)=decide ((40:Int)<((x.params.map fun s=>[GV.v (sv s)]).length:Int)):=decide_eq_decide.2 Z;have d:=r b 26;rw[S,z];unfold aO at J
    cases F:decide ((40:Int)<((x.params.map fun s=>[GV.v (sv s)]).length:Int))with
    |true =>
     have e:iH b 26=iH O 26:=by rw[l];split;(· exact SH _ _ aS);rfl
     rw[e]at d;refine X ?_;refine D [0] d ?_;exact⟨rfl,rfl,_,_,(Wk.cut (n:=1) (a8 _) rfl).trans (Wk.bb aD),_,rfl,rfl,by simp⟩
    |false =>
     refine X ?_;exact⟨rfl,rfl,_,_,(Wk.cut (n:=1) (a8 _) rfl).trans (Wk.bb aD),b,rfl,rfl,by rw[l,Bool.or_false]⟩
   ·rintro _ _⟨b,rfl,rfl,l⟩;rw[A,ej]at l
    have hs:rh p k=(if lM p=true then iH b 25 else b):=by
     unfold rh;rw[ab zfK,H,<-l]
    rw[hs];refine bx ?_;have u:=r b 25;have w:=yg p jn Z;unfold bP at w;clear hs l H
    cases hx:p.az.findIdx? (fun f:Go.Sp.Fn=>f.name==jn)with
    |none =>
     rw[hx]at w
     have z:decide ((-1:Int)<0)=true:=by decide
     simp only at w;rw[show(if lM p=true then iH b 25 else b)=iH b 25 from ae (by unfold lM;rw[hx])];refine zdO ?_;refine D [0] u ?_;exact eP
    |some i =>
     rw[hx]at w;have hi:i<p.az.length:=(List.findIdx?_eq_some_iff_getElem.1 hx).1;obtain⟨f,hf⟩:∃f,p.az[i]?=some f:=⟨p.az[i],by simp[hi]⟩
     have J:(p.az.map aO)[i]?=some (aO f):=by rw[b6,hf];rfl
     have W:(f.params.map fun s=>[GV.v (sv s)]).length=f.params.length:=by simp
     have z:decide (((i:Nat):Int)<0)=false:=by simp
     have T:decide (l8 p i>0)=decide ((0:Int)<((f.params.map fun s=>[GV.v (sv s)]).length:Int)):=by
      unfold l8;rw[hf];exact decide_eq_decide.2 (by simp only;omega)
     simp only at w
     have C:lM p=decide (l8 p i>0):=by unfold lM;rw[hx]
     rw[T]at C;unfold aO at J
     cases F:decide ((0:Int)<((f.params.map fun s=>[GV.v (sv s)]).length:Int))with
     |true =>
      rw[show(if lM p=true then iH b 25 else b)=iH b 25 from ae (by rw[C,F])];refine zdO ?_;refine D [0] u ?_;exact eP
     |false =>
      rw[show(if lM p=true then iH b 25 else b)=b from ab (by rw[C,F];decide)];refine zdO ?_;exact eP
def KH(j:GF prog 76 [.agg (aQ p)] [] (.v (.bool false)) []):GF prog 80 [.agg (aQ p)] [] (.tup [y4 20,y4 0]) []:=by
 refine ah func80 ntmps80 ?_;refine D [] j ?_;exact c8
def Jd(l:List T)(G e:SS)(W:p.az.length=l.length)(HO:p.az.length<=1048576)(z:p.aq.length<=1099511627776)(C:p.aw.length<=1099511627776)
  (q:∀f∈p.az,f.params.length<=1048576)(F:∀t∈l,bg t<=1048576)
  (S:GF prog 76 [.agg (aQ p)] [] (.v (.bool true)) [])
  (H:GF prog 147 [.loc 0 0] [.box 155 (cC p y6 ⟨[],0,0⟩)] (.tup []) [.box 155 (cC p y6 G)])
  (J:GF prog 148 [.loc 0 0] [.box 155 (cC p y6 G)] (.tup []) [.box 155 (cC p y6 e)])
  (r:∀(i:Nat)(f:Go.Sp.Fn)(t:T),p.az[i]?=some f->l[i]?=some t->GF prog 120 [.agg (aQ p),y4 f.body] [] (.agg (cT t)) []) :
  GF prog 80 [.agg (aQ p)] [] (.tup [.v (ii (oe p p.az l e).code),.v (ii (oe p p.az l e).at_)]) []:=by
 have o:(p.az.map aO).length=p.az.length:=by simp
 unfold cC at H J;refine ah func80 ntmps80 ?_;refine D [] S ?_;refine D [1] H ?_;refine D [1] J ?_;refine GW.range (p.az.map aO).length (fun k R Γ=>∃h c,R=U::.loc 0 0::U::U::.loc 1 0::zU 13 (.sl 3 (p.az.map aO)::y4 ((p.az.map aO).length:Int)::y4 (k:Nat)::zU 26 [])/\Γ=[.box 28 (aQ p),.box 155 (cC p h c)]/\oe p p.az l e=oe p (p.az.drop k) (l.drop k) c) ?_ Z ?_ ?_ ?_
 ·exact⟨_,_,Wk.bb aD,_,e,rfl,rfl,rfl⟩
 ·rintro k _ _⟨h,c,rfl,rfl,_⟩;exact eB
 ·rintro k _ _ b⟨h,c,rfl,rfl,d⟩;rw[o]at b;obtain⟨f,m⟩:∃f,p.az[k]?=some f:=⟨p.az[k],by simp[b]⟩;obtain⟨t,s⟩:∃t,l[k]?=some t:=⟨l[k]'Z,cq _⟩
  have hr:(p.az.map aO)[k]?=some (aO f):=by rw[b6,m];rfl
  have A:p.az.drop k=f::p.az.drop (k+1):=by rw[kP b];rw[cq b]at m;rw[sA m]
  have B:l.drop k=t::l.drop (k+1):=by rw[kP Z];rw[cq Z]at s;rw[sA s]
  have hp:=q f (bR m);have hz:=F t (bR s);have E:=r k f t m s;have I:=Gp p h c f hp;rw[A,B,oe]at d
  cases M:(c.code==0)with
  |false =>
   rw[ab (by simpa using M)]at d;unfold cC aO at *;refine X ?_;exact⟨rfl,rfl,_,_,(Wk.cut (n:=2) (bj _) rfl).trans (Wk.bb aD),h,c,rfl,rfl,d⟩
  |true =>
   rw[ae (by simpa using M)]at d
   have j:=fun u w=>MI p z Z C _ t (a8 _) (rb f c) u w (by show f.params.length+_<=_;omega)
   rw[d];generalize oy p t (rb f c)=O at *;unfold cO at j;unfold aO at hr I;rw[show cC p h c=[strs p.aw,.sl 2 (p.aq.map bc),.sl 3 (p.az.map aO),.sl 5 (p.ak.map aU),.v h,y4 c.code,y4 c.at_]from rfl]at *;refine X ?_;refine cN [1] I ?_;rintro _ _⟨rfl,u,w,rfl⟩;refine zaR ?_;refine D [] E ?_;refine cN [1,3] (j u w) ?_;rintro _ _⟨rfl,N,Q,rfl⟩;refine zaR ?_;exact⟨rfl,rfl,_,_,(Wk.cut (n:=2) (bj _) rfl).trans (Wk.bb aD),_,O,rfl,rfl,rfl⟩
 ·rintro _ _⟨h,c,rfl,rfl,d⟩;rw[o,drop_length,O8]at d;rw[d];unfold cC;refine bx ?_;refine X ?_;refine aX (aI 0 10 .nil) ?_;refine av ?_;exact kC
end
def MK:∀(N:Nat)(t:T),bg t<=N->∀(out:List ai)(R:Option Addr)(W:Nat),out.length+bg t<=8388608 ->
  GC prog 119 [.v (.slice R out.length W),.agg (cT t)] [.vech 9 1 (b7 out) (.slice R out.length W)] fun g I=>∃H q,g=.v (.slice H (out++dn t).length q)/\I=[.vech 9 1 (b7 (out++dn t)) (.slice H (out++dn t).length q)]:=by
 intro N
 induction N with
 |zero=>intro t h;have:=kY t;omega
 |succ N r =>
 intro t B out R W m
 cases t with
 |mk n l =>
 rw[Go.Xp.bg]at B m;have C:=fH l;have A:(aR l).length=l.length:=bs l;rw[dn];refine ah func119 ntmps119 ?_;refine GW.range (aR l).length (fun k z E=>∃R W o,z=.v (.slice R o.length W)::U::U::.loc 1 0::U::U::U::U::.sl 6 (aR l)::y4 ((aR l).length:Int)::y4 (k:Nat)::zU 18 []/\E=[.vech 9 1 (b7 o) (.slice R o.length W),.box 89 (cT (.mk n l))]/\o=out++bL (l.take k)) ?_ Z ?_ ?_ ?_
 ·exact⟨_,_,Wk.bb aD,R,W,out,rfl,rfl,by simp[bL]⟩
 ·rintro k _ _⟨R,W,o,rfl,rfl,_⟩;exact eB
 ·rintro k _ _ i⟨R,W,o,rfl,rfl,S⟩;rw[A]at i;obtain⟨u,b⟩:∃u,l[k]?=some u:=⟨l[k],by simp[i]⟩;have F:=bH b;have e:=oE b
  have w:o.length<=out.length+aZ (l.take k):=by rw[S,bl];have:=nr (l.take k);omega
  have M:=r u Z o R W Z
  have c:out++bL (l.take (k+1))=o++dn u:=by rw[zc b,S,eU]
  rw[c];refine X ?_;refine cN [0] M ?_;rintro _ _⟨H,q,rfl,rfl⟩;refine zaR ?_;exact⟨rfl,rfl,_,_,(Wk.cut (n:=2) (dT rfl) rfl).trans (Wk.bb aD),H,q,_,rfl,rfl,rfl⟩
 ·rintro _ _⟨R,W,o,rfl,rfl,S⟩;rw[A,ej]at S
  have w:o.length<=out.length+aZ l:=by rw[S,bl];have:=nr l;omega
  have d:=sS o;rw[<-eU,<-S];clear S r;refine bx ?_
  cases Q:(n.aj==13)with
  |false =>
   rw[ab zf0,gw];refine zd6 ?_;exact oj (n:=1) rfl dY rfl (dT rfl) rfl rfl ⟨R,W,rfl,rfl⟩
  |true =>
   rw[ae zf0];refine X ?_;refine GL.lz 0 rfl rfl rfl rfl rfl rfl rfl rfl aM nR ?_;intro O j;refine zbd ?_;refine nd ?_;exact oj (n:=1) rfl dY rfl (dT rfl) rfl rfl ⟨O,j,by show GV.v (.slice O ((b7 o).length+1) j)=_;simp[b7],by show[Ob.vech _ 1 (b7 o++[[.v (sv n.s)]]) (.slice O ((b7 o).length+1) j)]=_;simp[b7]⟩
end Go.Xg
namespace Go.Xg
open Go.RowKit Go.Xw Go.Proofs
section
variable{P:Program}{m:Nat}{ops:Array Oper}{Q:dF}{rest:List Oper}{fr:am}{Γ:ap}
def NX{o:Oper}{a:Act}{next C:Act->World->Prop}{Q Q':Exit->Act->World->Prop}(hn:∀a w,next a w->C a w)(T:∀e a w,Q e a w->Q' e a w):∀r,o.upon P a next Q r->o.upon P a C Q' r:=by
 have W:LetsOut Q->LetsOut Q':=fun⟨a,w,h⟩=>⟨a,w,T _ _ _ h⟩
 intro r h;unfold Oper.upon at h |-;split at h
 ·exact hn _ _ h
 ·exact hn _ _ h
 ·exact hn _ _ h
 ·refine Calls.mono h fun e j i=>?_
  cases e with
  |returned v=>exact hn _ _ i
  |panicked k=>exact T _ _ _ i
  |outgrown=>exact W i
 ·exact Rows.mono h fun v j N=>hn _ _ N
 ·exact T _ _ _ h
 ·exact h
def zd{Q Q':Exit->Act->World->Prop}(T:∀e a w,Q e a w->Q' e a w):∀(l:List Oper)(a:Act)(w:World),wpList P ops Q l a w->wpList P ops Q' l a w
 |[],a,w,h=>T _ _ _ h
 |o::l,a,w,h=>by
  have q:=zd T l;unfold wpList at h |-;split at h
  ·rename_i i;rw[ae i]
   rcases h with h|⟨z,v⟩
   ·exact .inl (NX q T _ h)
   ·exact .inr ⟨z,by have⟨a,w,h⟩:=v;exact⟨a,w,T _ _ _ h⟩⟩
  ·rename_i i;rw[ab i];exact q _ _ h
theorem GL.mono{Q':dF}(h:GL P m ops Q rest fr Γ)(T:∀e fr Γ,Q e fr Γ->Q' e fr Γ):GL P m ops Q' rest fr Γ:=fun B K W w l N R j =>
 zd (fun e a w ⟨l,O,K,W,fr,Γ,R,j,q⟩=>⟨l,O,K,W,fr,Γ,R,j,T _ _ _ q⟩) _ _ _ (h B K W w l N R j)
def GL.XR{z y:Code}(K:am->ap->Prop)(A:GL P m ops (bh (GW P m z (bh (yH m K) Q)) Q) rest fr Γ)(v:∀fr Γ,K fr Γ->GW P m y Q fr Γ):GL P m ops (bh (GW P m z (bh (GW P m y Q) Q)) (bh (GW P m y Q) Q)) rest fr Γ:=by
 refine A.mono fun e fr Γ T=>?_
 cases e with
 |normal=>exact GW.join K T v
 |_=>exact T
def GL.uJ{t i n E k:Nat}{rows:List am}(H:cQ fr t=.vec i n)(A:gN fr t=true)(o:Γ[i]?=some (.vec E k 0 rows))(hn:rows.length=n)
  (h:∀a c,GL P m ops Q rest (bN fr t (.v (.slice a n c))) (oset Γ i (.vech E k rows (.slice a n c)))):GL P m ops Q rest fr Γ:=fun B K β w l O R j=>by
 subst hn;have⟨a,c,r,C⟩:=R.uJ o
 have N:nth l t=.slice a rows.length c:=by
  have:=j.nth t;rw[H]at this;generalize nth l t=x at this
  cases this with
  |vec i n d S h =>
   have⟨M,z,F,_,G⟩:=h;rw[r]at F;cases F;exact G rfl
 have:=j.eN t (Rel.v (K:=K) (β:=β) (.slice a rows.length c));rw[<-N,wJ (mJ j A),N]at this;exact h a c B K β w l O C this
end
end Go.Xg
namespace Go.Im
open Go.Xp Go.Sp
section
variable(M:List ai)
def yJ(u:T):∀(l:List T)(o:List ai),bn M (l++[u]) o=bn M l o++[km M u (o++bL l)]
 |[],o=>by simp[bn,bL]
 |t::l,o=>by rw[cons_append,bn,yJ u l,bn,bL,eU];rfl
def Gc{l:List T}{k:Nat}{u:T}(h:l[k]?=some u)(o:List ai):bn M (l.take (k+1)) o=bn M (l.take k) o++[km M u (o++bL (l.take k))]:=by
 rw[dI,h];exact yJ M u _ o
def sf:∀(l:List T)(o:List ai),(bn M l o).length=l.length
 |[],o=>by rw[bn]
 |t::l,o=>by rw[bn,length_cons,sf l,length_cons]
end
def Ki(M:List ai)(n:Nd)(o:List ai):Int:=if(n.aj=2\/n.aj=7)/\o.contains n.s=true then po M n.s+1 else n.n
section
variable{M:List ai}{n:Nd}{o:List ai}
def OK(h:n.aj=13):eg M n o=⟨n.aj,n.at_,po M n.s+1,n.s,n.au⟩:=by unfold eg;rw[ae h]
def OL(h:¬n.aj=13):eg M n o=⟨n.aj,n.at_,Ki M n o,n.s,n.au⟩:=by
 unfold eg Ki;rw[ab h];split<;>rfl
end
def Us(M:List ai)(s:ai) : -1<=po M s/\po M s<=(M.length:Int):=by
 unfold po bP
 cases h:M.findIdx? (fun x=>x==s)with
 |none=>exact zfb
 |some i =>
  rw[List.findIdx?_eq_some_iff_getElem]at h;have⟨h,_⟩:=h;exact zfb
end Go.Im
namespace Go.Xg
open Go.RowKit Go.Xw Go.Proofs Tryz Go.Im
open GV (U)
open Go.Xp (Nd T bg aZ fH)
attribute [local irreducible] GW GL GO V GC GA bh bm
def ML(c:List ai)(R:c.length<=1099511627776):∀(N:Nat)(t:T),bg t<=N->∀(b:List ai),b.length+bg t<=8388608 ->
  GF prog 121 [strs c,strs b,.agg (cT t)] [] (.tup [.agg (cT (km c t b)),strs (b++dn t)]) []:=by
 intro N
 induction N with
 |zero=>intro t h;have:=kY t;omega
 |succ N ih =>
 intro t hN b Q
 cases t with
 |mk n l =>
 rw[Go.Xp.bg]at hN Q;have Ey:=fH l;have E:(aR l).length=l.length:=bs l;have C:=jO b n.s Z;have O:=BP c n.s R;have hAl:=Us c n.s;rw[km,dn];obtain⟨H,G⟩:∃H,Ki c n b=H:=⟨_,rfl⟩;have d:=G;unfold Ki at d;refine ah func121 ntmps121 ?_;refine GL.XR (fun M Γ=>M=strs c::strs b::U::U::U::.loc 0 0::.loc 1 0::U::.loc 2 0::zU 76 []/\Γ=[.box 89 (cT (.mk n l)),.box 89 zT,.box 89 [y4 n.aj,y4 n.at_,y4 H,.v (sv n.s),ints n.au,.v y6]]) ?_ ?_
 ·generalize po c n.s=an at *
  cases q2:(n.aj==2)with
  |true =>
   cases A:b.contains n.s with
   |true =>
    rw[A]at C;rw[ae ⟨.inl (by simpa using q2),A⟩]at d;exact zeO
   |false =>
    exact zdn
  |false =>
   cases q7:(n.aj==7)with
   |true =>
    cases A:b.contains n.s with
    |true =>
     rw[A]at C;rw[ae ⟨.inr (by simpa using q7),A⟩]at d;exact zeO
    |false =>
     exact zdn
   |false =>
    rw[ab (by rintro⟨h|h,_⟩;(· rw[h]at q2;cases q2);rw[h]at q7;cases q7)]at d;subst d;exact iF
 ·rintro _ _⟨rfl,rfl⟩;refine GW.wk (Wk.zE (i:=2) (o:=5) 89 6 rfl rfl) ?_;simp only[bN,oset,cons_append,nil_append];refine X ?_
  refine GW.range (aR l).length (fun k M Γ=>∃e r,M=strs c::strs r::U::U::U::.loc 0 0::.loc 1 0::U::.loc 2 0::zU 33 (.sl 6 (aR l)::y4 ((aR l).length:Int)::y4 (k:Nat)::zU 40 []) /\
   Γ=[.box 89 (cT (.mk n l)),.box 89 zT,.box 89 [y4 n.aj,y4 n.at_,y4 H,.v (sv n.s),ints n.au,.vec 3 k],.vec 89 6 0 e] /\
   e.length=k/\e=aR (bn c (l.take k) b)/\r=b++bL (l.take k)) ?_ Z ?_ ?_ ?_
  ·exact⟨_,_,Wk.bb aD,[],b,rfl,rfl,rfl,by rw[List.take_zero,bn];rfl,by simp[bL]⟩
  ·rintro k _ _⟨_,_,rfl,rfl,_⟩;exact eB
  ·rintro k _ _ F⟨e,r,rfl,rfl,B,w,j⟩;rw[E]at F;obtain⟨u,I⟩:∃u,l[k]?=some u:=⟨l[k],by simp[F]⟩;have hr:=bH I;have ps:=oE I
   have hlen:r.length<=b.length+aZ (l.take k):=by rw[j,bl];have:=nr (l.take k);omega
   have hi:=ih u Z r Z
   have W:b++bL (l.take (k+1))=r++dn u:=by rw[zc I,j,eU]
   have S:aR (bn c (l.take (k+1)) b)=e++[cT (km c u r)]:=by
    rw[Gc c I,ub,<-w,<-j];first|done|simp only[aR,sH]
   rw[W,S];clear w j;generalize km c u r=bu at *;refine X ?_;refine D [] hi ?_;refine zbD ?_;exact⟨rfl,rfl,_,_,(Wk.cut (n:=4) (dT rfl) rfl).trans (Wk.bb aD),_,_,rfl,rfl,by rw[bl,B];rfl,rfl,rfl⟩
  ·rintro _ _⟨e,r,rfl,rfl,B,w,j⟩;rw[E,ej]at w j;rw[E]at B |-;rw[<-eU,<-j]
   have As:r.length<=b.length+aZ l:=by rw[j,bl];have:=nr l;omega
   have aaT:r.length*16<=140737488355328:=by omega
   refine bx (GW.wk (Wk.uy (i:=2) (o:=5) rfl rfl rfl rfl B) ?_);simp only[bN,oset];refine GW.Lz (dh:=strs c::strs r::U::U::U::.loc 0 0::.loc 1 0::U::.loc 2 0::zU 76 []) (bO:=[.box 89 (cT (.mk n l)),.box 89 zT,.box 89 [y4 n.aj,y4 n.at_,y4 H,.v (sv n.s),ints n.au,.sl 6 e],.vec 89 6 l.length e]) aD rfl ?_;subst w;clear j
   cases J:(n.aj==13)with
   |false =>
    rw[ab zfH,gw,OL zfH,G];refine X ?_;refine lr ?_;exact zai
   |true =>
    rw[ae zfH,OK zfH]
    have m:(r.map fun s=>[GV.v (sv s)]).length=r.length:=by simp
    have Rc:strs (r++[n.s])=.sl 1 ((r.map fun s=>[GV.v (sv s)])++[[.v (sv n.s)]]):=by simp
    rw[Rc];have z:kK (r.map fun s=>[GV.v (sv s)])=true:=wC r;generalize po c n.s=an at *;refine X ?_;refine D [] O ?_;refine aX (.q 1 (aI 3 3 (.f 0 (.f 2 (.a 6 (.a 7 (.q 8 .nil))) 6 (.a 2 (.a 7 (.q 8 .nil)))) 6 (.a 0 (.a 2 (.a 7 (.q 8 .nil))))))) ?_;refine av ?_;refine GO.fork ?_ ?_
    ·refine o7 ?_;refine av ?_;refine GO.fork ?_ ?_
     ·refine OA rfl rfl (GL.vL rfl rfl rfl rfl z (by refine⟨?_,?_⟩;(· rw[m];omega);(· rw[m];omega)) ?_);rw[m];refine cy ?_;simp only[gW];refine zdT ?_;exact za9
     ·refine zaI ?_;refine OA rfl rfl (GL.vL rfl rfl rfl rfl z (by refine⟨?_,?_⟩;(· rw[m];omega);(· rw[m];omega)) ?_);exact zfc
    ·refine zaI ?_;refine o7 ?_;refine av ?_;refine OA rfl rfl (GL.vL rfl rfl rfl rfl z (by refine⟨?_,?_⟩;(· rw[m];omega);(· rw[m];omega)) ?_);exact zfc
end Go.Xg
set_option maxHeartbeats 1000000
namespace Go.Xg
open Go.RowKit Go.Xw Go.Proofs Tryz Go.Sp
open Go.Xp (Nd T levels bo gQ E er bp wt gq qL fg)
attribute [local irreducible] GW GL GO V GC GA bh bm
def fp{W:Nd}{l m:List T}{k v:Int}{s:ai}(h:er (.mk W l)=.mk ⟨k,0,v,s,[]⟩ m):W.aj=k/\W.n=v/\W.s=s/\bp l=m:=by
 rw[er]at h
 injection h with h1 h2
 injection h1 with a b c d e
 exact⟨a,c,d,h2⟩
def vW{l:List T}{x:T}(h:bp l=[x]):∃t,l=[t]/\er t=x:=by
 match l,h with
 |[t],h=>rw[bp,bp]at h;injection h with h1;exact⟨t,rfl,h1⟩
 |[],h=>rw[bp]at h;cases h
 |t::u::r,h=>rw[bp,bp]at h;injection h with h1 h2;cases h2
def BD{l:List T}{x y:T}(h:bp l=[x,y]):∃t u,l=[t,u]/\er t=x/\er u=y:=by
 match l,h with
 |t::r,h =>
  rw[bp]at h;injection h with h1 h2
  obtain⟨u,rfl,I⟩:=vW h2;exact⟨t,u,rfl,h1,I⟩
 |[],h=>rw[bp]at h;cases h
def ZE{l:List T}{x y z:T}(h:bp l=[x,y,z]):∃t u w,l=[t,u,w]/\er t=x/\er u=y/\er w=z:=by
 match l,h with
 |t::r,h =>
  rw[bp]at h;injection h with h1 h2
  obtain⟨u,w,rfl,I,c⟩:=BD h2;exact⟨t,u,w,rfl,h1,I,c⟩
 |[],h=>rw[bp]at h;cases h
def Qk{a:E}(h:a.ok=true){t:T}(H:er t=a.tree):nN t.n.aj t.n.s=(a.lv:Int):=by
 have⟨W,l⟩:=t
 cases a with
 |bin s a b =>
  have⟨z,_,v,_⟩:=fp H;simp only[E.ok,a6]at h;have B:=(Go.Xp.rQ h.1.1).1;simp only[T.n,z,v,nN,ae,E.lv];unfold fg at B |-
  cases u:levels.findIdx? (fun l=>l.contains s)with
  |none=>rw[u]at B;exact absurd B aS
  |some i=>rfl
 |num n=>exact zbL
 |name n=>exact zbL
 |at_ s a=>exact zbL
 |call s a=>exact zbL
 |un s a=>exact zbL
def rp{a:E}(h:a.ok=true){t:T}(H:er t=a.tree):GF prog 357 [.agg (cT t)] [] (y4 (a.lv:Int)) []:=by
 have:=J0 t;rw[Qk h H]at this;exact this
def Cw(n:Int)(h:0<=n/\n<=2147483647):GF prog 358 [y4 n] [] (.v (sv (gQ n.toNat))) []:=by
 have e:=iw n
 have A:bo n=n:=by unfold bo;rw[show n%4294967296=n by omega,ab Z]
 rw[A]at e;have o:=Gi n.toNat Z;rw[Int.toNat_of_nonneg h.1]at o
 have W:decide (n<0)=false:=by simpa using h.1
 refine ah func358 ntmps358 ?_;refine D [] e ?_;exact zbO
abbrev lim:Nat:=1000000000000
def rH(a:E):Prop:=∀(t:T)(k:Nat),a.ok=true->er t=a.tree->wt a.tree<=lim->¬a.lv<k->GF prog 321 [.agg (cT t),y4 (k:Int)] [] (.v (sv a.bT)) []
def pk(a:E):Prop:=∀(t:T)(k:Nat),a.ok=true->er t=a.tree->wt a.tree<=lim->GF prog 321 [.agg (cT t),y4 (k:Int)] [] (.v (sv (qL a.lv k a.bT))) []
def rH.p{a:E}(C:rH a):pk a:=by
 intro t k S H r;unfold qL
 by_cases h:a.lv<k
 ·rw[ae h]
  have W:decide ((a.lv:Int)<(k:Int))=true:=by simpa using h
  have b:=(E.len a S).1;have M:=C t 0 S H r Z;have J:=r;unfold lim at J;generalize a.bT=x at *;refine ah func321 ntmps321 ?_;refine D [] (rp S H) ?_;exact zdh
 ·rw[ab h];exact C t k S H r h
def MO(n:Int):rH (.num n):=by
 intro t k S H r h
 have W:decide (((E.num n).lv:Int)<(k:Int))=false:=by simpa using h
 have F:=rp S H;have⟨⟨q,A,G,i,w⟩,l⟩:=t;have⟨z,v,I,b⟩:=fp H;simp only at z v I;subst z v I;simp only[E.ok,a6]at S;have Q:=Cw G ⟨pN S.1,pN S.2⟩;rw[E.bT];simp only[cT,T.n,T.au]at F |-;refine ah func321 ntmps321 ?_;refine D [] F ?_;refine D [] Q ?_;exact ax
def J5(s:ai):rH (.name s):=by
 intro t k S H r h
 have W:decide (((E.name s).lv:Int)<(k:Int))=false:=by simpa using h
 have F:=rp S H;have⟨⟨q,A,G,i,w⟩,l⟩:=t;have⟨z,v,I,b⟩:=fp H;simp only at z v I;subst z v I;rw[E.bT];simp only[cT,T.n,T.au]at F |-;refine ah func321 ntmps321 ?_;refine D [] F ?_;exact ax
def PE(s:ai)(a:E)(C:pk a):rH (.at_ s a):=by
 intro t k S H r h
 have c:decide (((E.at_ s a).lv:Int)<(k:Int))=false:=by simpa using h
 have F:=rp S H;have⟨⟨q,A,G,j,w⟩,l⟩:=t;have⟨z,v,I,W⟩:=fp H;simp only at z v I;subst z v I;obtain⟨x,rfl,hx⟩:=vW W;simp only[E.ok,a6]at S;rw[E.tree,wt]at r;simp only[gq,lim]at r;have o:=C x 0 S.2 hx zfq;unfold qL at o;rw[ab Z]at o;have b:=(E.len a S.2).1;have i:(aR [x])[0]?=some (cT x):=bH rfl;rw[E.bT];generalize a.bT=y at *;simp only[cT,T.n,T.au]at F |-;refine ah func321 ntmps321 ?_;refine D [] F ?_;refine aX (aI 0 8 (.a 8 (aI 9 3 .nil))) ?_;refine av ?_;exact zeX
def PF(s:ai)(a:E)(C:pk a):rH (.un s a):=by
 intro t k S H r h
 have c:decide (((E.un s a).lv:Int)<(k:Int))=false:=by simpa using h
 have F:=rp S H;have⟨⟨u,A,G,j,w⟩,l⟩:=t;have⟨z,v,I,W⟩:=fp H;simp only at z v I;subst z v I;obtain⟨x,rfl,hx⟩:=vW W;simp only[E.ok,a6]at S;rw[E.tree,wt]at r;simp only[gq,lim]at r;have o:=C x 9 S.2 hx zfq;have b:=(E.len a S.2).1;have J:=Go.Xp.sG a.lv 9 a.bT;have i:(aR [x])[0]?=some (cT x):=bH rfl;rw[E.bT];generalize qL a.lv 9 a.bT=y at *;simp only[cT,T.n,T.au]at F |-;refine ah func321 ntmps321 ?_;refine D [] F ?_;refine aX (aI 0 8 (.a 8 (.q 9 (.a 10 (.q 11 (.q 12 .nil)))))) ?_;refine av ?_;refine aN [] jZ ?_;exact zeX
def MN(s:ai)(a b:E)(F:pk a)(G:pk b):rH (.bin s a b):=by
 intro t k c C v h
 have H:decide (((E.bin s a b).lv:Int)<(k:Int))=false:=by simpa using h
 have e:=rp c C;have⟨⟨S,Q,vv,d,W⟩,l⟩:=t;have⟨m,o,r,I⟩:=fp C;simp only at m o r;subst m o r;obtain⟨x,y,rfl,hx,O⟩:=BD I;simp only[E.ok,a6]at c;rw[E.tree,wt]at v;simp only[gq,lim]at v;have i:=F x (fg d) c.1.2 hx zfq;have j:=G y (fg d+1) c.2 O zfq;have M:=(Go.Xp.rQ c.1.1).1;have J:=(E.len a c.1.2).1;have z:=Go.Xp.sG a.lv (fg d) a.bT;have A:=(E.len b c.2).1;have B:=Go.Xp.sG b.lv (fg d+1) b.bT;have R:(aR [x,y])[0]?=some (cT x):=bH rfl;have N:(aR [x,y])[1]?=some (cT y):=bH rfl;rw[E.bT];simp only[E.lv]at e H;generalize qL a.lv (fg d) a.bT=u at *;generalize qL b.lv (fg d+1) b.bT=w at *;simp only[cT,T.n,T.au]at e |-;refine ah func321 ntmps321 ?_;refine D [] e ?_;refine D [] e ?_;refine aX (aI 0 5 (aI 7 3 (aI 12 6 (.a 5 (.q 6 (.q 10 (.q 11 (.a 18 (.q 19 (.q 20 .nil)))))))))) ?_;refine av ?_;refine aN [] i ?_;refine aN [] j ?_;exact aC
open GV (U)
open Go.Xp (cJ AF wa)
def Jr(b:Bool)(a:E):Prop:=∀t,er t=a.tree->GF prog 261 [.agg (cT t),.v (.bool b)] [] (.v (sv (a.out b))) []
def LA:∀{ts:List T}{J:List E}(h:bp ts=E.aJ J),ts.length=J.length/\∀(k:Nat)t a,ts[k]?=some t->J[k]?=some a->er t=a.tree
 |[],[],_=>⟨rfl,fun k t a h=>by simp at h⟩
 |[],a::l,h=>by rw[bp,E.aJ]at h;cases h
 |t::r,[],h=>by rw[bp,E.aJ]at h;cases h
 |t::r,a::l,h=>by
  rw[bp,E.aJ]at h
  injection h with h1 h2
  have⟨I,c⟩:=LA h2;refine⟨by simp[I],fun k Q d H O=>?_⟩
  cases k with
  |zero=>cases H;cases O;exact h1
  |succ k=>exact c k Q d (by simpa using H) (by simpa using O)
def CV(b:Bool)(J:List E)(C:∀a∈J,Jr b a)(ts:List T)(N:bp ts=E.aJ J)(u:(cJ (J.map (E.out b))).length<=lim)(hn:J.length<=lim) :
  GF prog 359 [.sl 6 (aR ts),.v (.bool b)] [] (.v (sv (cJ (J.map (E.out b))))) []:=by
 have⟨s,F⟩:=LA N;unfold lim at u hn;refine ah func359 ntmps359 ?_;refine GW.range (aR ts).length (fun k r c=>∃y,r=U::.v (.bool b)::U::U::U::.v (sv y)::U::U::.sl 6 (aR ts)::y4 ((aR ts).length:Int)::y4 (k:Nat)::zU 15 []/\c=[]/\y=cJ ((J.map (E.out b)).take k)) ?_ zfZ ?_ ?_ ?_
 ·exact⟨_,_,Wk.bb aD,[],rfl,rfl,by simp[cJ]⟩
 ·rintro k _ _⟨y,rfl,rfl,_⟩;exact eB
 ·rintro k _ _ G⟨y,rfl,rfl,m⟩
  have G:k<J.length:=by rw[bs,s]at G;exact G
  have l:k<ts.length:=by omega
  have hx:J[k]?=some J[k]:=by simp[G]
  have R:ts[k]?=some ts[k]:=by simp[l]
  have e:=F k _ _ R hx;have i:=bH R;have q:=C _ (bR hx) _ e;have M:=wa (J.map (E.out b)) (k+1);have j:=wa (J.map (E.out b)) k
  have B:(J.map (E.out b)).take (k+1)=(J.map (E.out b)).take k++[J[k].out b]:=by
   rw[dI,b6,hx];rfl
  rw[B]at M;generalize ts[k]=t at *;generalize J[k]=a at *;generalize a.out b=x at *
  by_cases Q:k=0
  ·subst Q
   have O:decide ((0:Int)<((0:Nat):Int))=false:=by decide
   have o:cJ ((J.map (E.out b)).take 0++[x])=[]++x:=by simp[cJ]
   have H:cJ ((J.map (E.out b)).take 0)=[]:=by simp[cJ]
   rw[H]at m;subst m;rw[o]at M
   have M:x.length<=(cJ (J.map (E.out b))).length:=by simpa using M
   exact zcy
  ·have O:decide ((0:Int)<(k:Int))=true:=by simpa using by omega
   have I:(J.map (E.out b)).take k≠[]:=by
    intro h;rw[List.take_eq_nil_iff]at h
    rcases h with h|h
    ·exact Q h
    ·rw[List.map_eq_nil_iff]at h;subst h;simp at G
   have o:=AF I x;rw[o]at M;rw[<-m]at M o j;simp only[bl,length_cons,length_nil]at M;exact zcy
 ·rintro _ _⟨y,rfl,rfl,m⟩;have:(J.map (E.out b)).take (aR ts).length=J.map (E.out b):=mz (by rw[bs,s];simp);rw[this]at m;subst m;exact aC
def pk.out{a:E}(C:pk a)(S:a.ok=true)(r:wt a.tree<=lim):Jr true a:=by
 intro t H;have M:=C t 0 S H r;unfold qL at M;rw[ab Z]at M;show GF _ _ _ _ (.v (sv a.bT)) _;refine ah func261 ntmps261 ?_;exact zdh
def Cs:∀l:List E,l.length<=gq (E.aJ l)
 |[]=>bj _
 |a::l=>by
  have:=Cs l;rw[E.aJ,gq,length_cons]
  have:1<=wt a.tree:=by cases a<;>(rw[E.tree,wt];omega)
  omega
def Ct:∀{l:List E}{a:E},a∈l->wt a.tree<=gq (E.aJ l)
 |[],_,h=>by cases h
 |b::l,a,h=>by
  rw[E.aJ,gq]
  rcases nj h with rfl|h
  ·omega
  ·have:=Ct h;omega
def B2:∀{l:List E}{a:E},E.dv l=true->a∈l->a.ok=true
 |[],_,_,h=>by cases h
 |b::l,a,S,h=>by
  simp only[E.dv,a6]at S
  rcases nj h with rfl|h
  ·exact S.1
  ·exact B2 S.2 h
def J4(s:ai)(J:List E)(C:∀a∈J,pk a):rH (.call s J):=by
 intro t k S H r h
 have c:decide (((E.call s J).lv:Int)<(k:Int))=false:=by simpa using h
 have F:=rp S H;have⟨⟨u,A,G,i,w⟩,l⟩:=t;have⟨z,v,I,W⟩:=fp H;simp only at z v I;subst z v I;simp only[E.ok,a6]at S;rw[E.tree,wt]at r;have b:=(E.lens J S.2).1;have Q:=Cs J
 have o:E.dX J=J.map (E.out true):=by rw[E.Qn];rfl
 have q:=CV true J (fun a O=>(C a O).out (B2 S.2 O) (by have:=Ct O;omega)) l W (by rw[<-o];omega) Z;rw[<-o]at q;unfold lim at r;simp only at r;rw[E.bT];generalize cJ (E.dX J)=y at *;simp only[cT,T.n,T.au]at F |-;refine ah func321 ntmps321 ?_;refine D [] F ?_;exact zdG
mutual
def vf:∀a:E,pk a
 |.num n=>(MO n).p
 |.name s=>(J5 s).p
 |.at_ s a=>(PE s a (vf a)).p
 |.call s l=>(J4 s l (Ig l)).p
 |.un s a=>(PF s a (vf a)).p
 |.bin s a b=>(MN s a b (vf a) (vf b)).p
def Ig:∀l:List E,∀a∈l,pk a
 |[]=>fun a h=>by cases h
 |b::l=>fun a h=>by
  rcases nj h with h|h
  ·rw[h];exact vf b
  ·exact Ig l a h
end
def nt(a:E):Prop:=∀(t:T),a.ok=true->er t=a.tree->wt a.tree<=lim->GF prog 322 [.agg (cT t)] [] (.v (sv a.full)) []
def nt.out{a:E}(C:nt a)(S:a.ok=true)(r:wt a.tree<=lim):Jr false a:=by
 intro t H;have M:=C t S H r;show GF _ _ _ _ (.v (sv a.full)) _;refine ah func261 ntmps261 ?_;exact zdh
def Pc(n:Int):nt (.num n):=by
 intro t S H r;have⟨⟨q,A,F,i,w⟩,l⟩:=t;have⟨z,v,I,W⟩:=fp H;simp only at z v I;subst z v I;simp only[E.ok,a6]at S;have Q:=Cw F ⟨pN S.1,pN S.2⟩;rw[E.full];simp only[cT,T.n,T.au];refine ah func322 ntmps322 ?_;refine D [] Q ?_;exact ax
section
variable(s:ai)
def LW:nt (.name s):=by
 intro t S H r;have⟨⟨q,A,F,i,w⟩,l⟩:=t;have⟨z,v,I,W⟩:=fp H;simp only at z v I;subst z v I;rw[E.full];simp only[cT,T.n,T.au];refine ah func322 ntmps322 ?_;exact ax
def SM(a:E)(C:nt a):nt (.at_ s a):=by
 intro t S H r;exact zal
def LV(J:List E)(C:∀a∈J,nt a):nt (.call s J):=by
 intro t S H r;have⟨⟨u,A,F,i,w⟩,l⟩:=t;have⟨z,v,I,W⟩:=fp H;simp only at z v I;subst z v I;simp only[E.ok,a6]at S;rw[E.tree,wt]at r;have b:=(E.lens J S.2).2;have Q:=Cs J
 have o:E.ue J=J.map (E.out false):=by rw[E.LX];rfl
 have q:=CV false J (fun a O=>(C a O).out (B2 S.2 O) (by have:=Ct O;omega)) l W (by rw[<-o];omega) Z;rw[<-o]at q;unfold lim at r;simp only at r;rw[E.full];generalize cJ (E.ue J)=y at *;simp only[cT,T.n,T.au]at |-;refine ah func322 ntmps322 ?_;exact zdG
def SN(a:E)(C:nt a):nt (.un s a):=by
 intro t S H r;exact zal
def Pb(a b:E)(J:nt a)(N:nt b):nt (.bin s a b):=by
 intro t S H r;have⟨⟨C,A,M,j,F⟩,l⟩:=t;have⟨z,v,I,W⟩:=fp H;simp only at z v I;subst z v I;obtain⟨x,y,rfl,hx,m⟩:=BD W;simp only[E.ok,a6]at S;rw[E.tree,wt]at r;simp only[gq,lim]at r;have B:=J x S.1.2 hx zfq;have O:=N y S.2 m zfq;have c:=(E.len a S.1.2).2;have G:=(E.len b S.2).2;have i:(aR [x,y])[0]?=some (cT x):=bH rfl;have d:(aR [x,y])[1]?=some (cT y):=bH rfl;rw[E.full];generalize a.full=u at *;generalize b.full=w at *;simp only[cT,T.n,T.au]at |-;refine ah func322 ntmps322 ?_;refine aX (aI 0 4 (aI 7 3 (aI 12 4 (.a 4 (.q 5 (.q 6 (.q 10 (.q 11 (.a 16 (aI 17 3 .nil)))))))))) ?_;refine av ?_;refine aN [] B ?_;refine aN [] O ?_;exact aC
end
mutual
def yc:∀a:E,nt a
 |.num n=>Pc n
 |.name s=>LW s
 |.at_ s a=>SM s a (yc a)
 |.call s l=>LV s l (LU l)
 |.un s a=>SN s a (yc a)
 |.bin s a b=>Pb s a b (yc a) (yc b)
def LU:∀l:List E,∀a∈l,nt a
 |[]=>fun a h=>by cases h
 |b::l=>fun a h=>by
  rcases nj h with h|h
  ·rw[h];exact yc b
  ·exact LU l a h
end
def qx(b:Bool){a:E}(S:a.ok=true)(r:wt a.tree<=lim):Jr b a:=by
 cases b with
 |true=>exact(vf a).out S r
 |false=>exact(yc a).out S r
def kr(b:Bool)(a:E)(S:a.ok=true):(a.out b).length+4<=wt a.tree:=by
 have:=E.len a S
 cases b with
 |true=>exact this.1
 |false=>exact this.2
open Go.Xp (S cx iy)
def I9(x:E->Go.Xp.ai):∀(l:List S)(q:Go.Xp.ai),q.length<=(S.dX x q l).length
 |[],q=>by rw[S.dX];omega
 |a::l,q=>by
  rw[S.dX];have:=I9 x l (q++a.bT x++[32]);simp only[bl,length_cons,length_nil]at this;omega
def n7(b:Bool)(s:S):Prop:=∀t,s.ok=true->er t=s.tree->wt s.tree<=lim->GF prog 203 [.agg (cT t),.v (.bool b)] [] (.v (sv (s.bT (E.out b)))) []
def uR(b:Bool)(l:List S):Prop:=∀t,S.dv l=true->er t=cx l->wt (cx l)<=lim->GF prog 203 [.agg (cT t),.v (.bool b)] [] (.v (sv (iy (E.out b) l))) []
def IM:∀{ts:List T}{J:List S}(h:bp ts=S.aJ J),ts.length=J.length/\∀(k:Nat)t a,ts[k]?=some t->J[k]?=some a->er t=a.tree
 |[],[],_=>⟨rfl,fun k t a h=>by simp at h⟩
 |[],a::l,h=>by rw[bp,S.aJ]at h;cases h
 |t::r,[],h=>by rw[bp,S.aJ]at h;cases h
 |t::r,a::l,h=>by
  rw[bp,S.aJ]at h
  injection h with h1 h2
  have⟨I,c⟩:=IM h2;refine⟨by simp[I],fun k Q d H O=>?_⟩
  cases k with
  |zero=>cases H;cases O;exact h1
  |succ k=>exact c k Q d (by simpa using H) (by simpa using O)
def FI:∀{l:List S}{a:S},a∈l->wt a.tree<=gq (S.aJ l)
 |[],_,h=>by cases h
 |b::l,a,h=>by
  rw[S.aJ,gq]
  rcases nj h with rfl|h
  ·omega
  ·have:=FI h;omega
def FH:∀l:List S,l.length<=gq (S.aJ l)
 |[]=>bj _
 |a::l=>by
  have:=FH l;rw[S.aJ,gq,length_cons]
  have:1<=wt a.tree:=by cases a<;>(rw[S.tree,wt];omega)
  omega
def Fy:∀{l:List S}{a:S},S.dv l=true->a∈l->a.ok=true
 |[],_,_,h=>by cases h
 |b::l,a,T,h=>by
  simp only[S.dv,a6]at T
  rcases nj h with rfl|h
  ·exact T.1
  ·exact Fy T.2 h
section
variable(b:Bool)(s:Go.Xp.ai)(a:E)
def Oj:n7 b (.var s a):=by
 intro t c H r;have⟨⟨q,A,F,i,w⟩,l⟩:=t;have⟨z,v,I,d⟩:=fp H;simp only at z v I;subst z v I;obtain⟨N,rfl,m⟩:=vW d;simp only[S.ok,a6]at c;rw[S.tree,wt]at r;simp only[gq,lim]at r;have W:=qx b (a:=a) c.2 zfq N m;have u:=kr b a c.2;have J:(aR [N])[0]?=some (cT N):=bH rfl;rw[S.bT];generalize a.out b=R at *;simp only[cT,T.n,T.au];refine ah func203 ntmps203 ?_;refine aX (aI 0 10 (.a 10 (aI 11 3 .nil))) ?_;refine av ?_;refine aN [] W ?_;exact aC
def Oi:n7 b (.set s a):=by
 intro t c H r;have⟨⟨q,A,F,i,w⟩,l⟩:=t;have⟨z,v,I,d⟩:=fp H;simp only at z v I;subst z v I;obtain⟨N,rfl,m⟩:=vW d;simp only[S.ok,a6]at c;rw[S.tree,wt]at r;simp only[gq,lim]at r;have W:=qx b (a:=a) c.2 zfq N m;have u:=kr b a c.2;have J:(aR [N])[0]?=some (cT N):=bH rfl;rw[S.bT];generalize a.out b=R at *;simp only[cT,T.n,T.au];refine ah func203 ntmps203 ?_;refine aX (aI 0 9 (.a 9 (aI 10 3 .nil))) ?_;refine av ?_;refine aN [] W ?_;exact aC
def Og(c:E):n7 b (.put s a c):=by
 intro t W H r;have⟨⟨F,C,O,i,G⟩,l⟩:=t;have⟨z,w,I,e⟩:=fp H;simp only at z w I;subst z w I;obtain⟨N,J,rfl,m,u⟩:=BD e;simp only[S.ok,a6]at W;rw[S.tree,wt]at r;simp only[gq,lim]at r;have d:=qx b (a:=a) W.2.1 zfq N m;have A:=kr b a W.2.1;have M:(aR [N,J])[0]?=some (cT N):=bH rfl;have v:=qx b (a:=c) W.2.2 zfq J u;have B:=kr b c W.2.2;have o:(aR [N,J])[1]?=some (cT J):=bH rfl;rw[S.bT];generalize a.out b=R at *;generalize c.out b=Q at *;simp only[cT,T.n,T.au];refine ah func203 ntmps203 ?_;refine aX (aI 0 9 (aI 12 5 (.a 9 (.q 10 (.q 11 (.a 17 (aI 18 3 .nil))))))) ?_;refine av ?_;refine aN [] d ?_;refine aN [] v ?_;exact aC
end
section
variable(b:Bool)(c:E)(p:List S)
def Oe(O:uR b p):n7 b (.if1 c p):=by
 intro t W H s;have⟨⟨F,C,Q,i,G⟩,l⟩:=t;have⟨z,A,I,e⟩:=fp H;simp only at z A I;subst z A I;obtain⟨N,J,rfl,m,u⟩:=BD e;simp only[S.ok,a6]at W;rw[S.tree,wt]at s;simp only[gq,lim]at s;have d:=qx b (a:=c) W.1 zfq N m;have B:=kr b c W.1;have M:(aR [N,J])[0]?=some (cT N):=bH rfl;have w:=O J W.2 u zfJ;have r:=Go.Xp.sF (E.out b) (kr b) W.2;rw[cx]at r;have o:(aR [N,J])[1]?=some (cT J):=bH rfl;rw[S.bT];generalize c.out b=R at *
 change GF _ _ _ _ (.v (sv _)) _ at w
 exact zaS
def Of(q:List S)(G:uR b p)(H:uR b q):n7 b (.if2 c p q):=by
 intro t i Q F;have⟨⟨W,R,vv,ss,ks⟩,l⟩:=t;have⟨A,B,C,I⟩:=fp Q;simp only at A B C;subst A B C;obtain⟨m,o,r,rfl,u,w,z⟩:=ZE I;simp only[S.ok,a6]at i;rw[S.tree,wt]at F;simp only[gq,lim]at F;have s:=qx b (a:=c) i.1 zfq m u;have J:=kr b c i.1;have M:(aR [m,o,r])[0]?=some (cT m):=bH rfl;have d:=G o i.2.1 w zfJ;have j:=Go.Xp.sF (E.out b) (kr b) i.2.1;rw[cx]at j;have N:(aR [m,o,r])[1]?=some (cT o):=bH rfl;have e:=H r i.2.2 z zfJ;have k:=Go.Xp.sF (E.out b) (kr b) i.2.2;rw[cx]at k;have O:(aR [m,o,r])[2]?=some (cT r):=bH rfl;rw[S.bT];generalize c.out b=y0 at *
 change GF _ _ _ _ (.v (sv _)) _ at d
 unfold iy at d j;generalize S.dX (E.out b) [123,32] p++[125]=y1 at *
 change GF _ _ _ _ (.v (sv _)) _ at e
 unfold iy at e k;generalize S.dX (E.out b) [123,32] q++[125]=y2 at *;simp only[cT,T.n,T.au];refine ah func203 ntmps203 ?_;refine aX (aI 0 5 (aI 8 5 (.a 5 (.q 6 (.q 7 (.a 13 (.q 14 (.q 15 .nil)))))))) ?_;refine av ?_;refine aN [] s ?_;refine aN [] d ?_;refine X ?_;exact zcx
def GJ(O:uR b p):n7 b (.while_ c p):=by
 intro t W H s;have⟨⟨F,C,Q,i,G⟩,l⟩:=t;have⟨z,A,I,e⟩:=fp H;simp only at z A I;subst z A I;obtain⟨N,J,rfl,m,u⟩:=BD e;simp only[S.ok,a6]at W;rw[S.tree,wt]at s;simp only[gq,lim]at s;have d:=qx b (a:=c) W.1 zfq N m;have B:=kr b c W.1;have M:(aR [N,J])[0]?=some (cT N):=bH rfl;have w:=O J W.2 u zfJ;have r:=Go.Xp.sF (E.out b) (kr b) W.2;rw[cx]at r;have o:(aR [N,J])[1]?=some (cT J):=bH rfl;rw[S.bT];generalize c.out b=R at *
 change GF _ _ _ _ (.v (sv _)) _ at w
 exact zaS
end
def Oh(b:Bool)(a:E):n7 b (.ret a):=by
 intro t c H r;exact zat
def QA(b:Bool)(a:E):n7 b (.do_ a):=by
 intro t c H r;exact zat
def rY(b:Bool)(c:List S)(C:∀a∈c,n7 b a):uR b c:=by
 intro t B M r;have⟨⟨W,F,vv,ss,N⟩,l⟩:=t;have⟨w,z,A,J⟩:=fp M;simp only at w z A;subst w z A;have⟨d,q⟩:=IM J;have e:=Go.Xp.sF (E.out b) (kr b) B;rw[cx,wt]at r;rw[cx,wt]at e;have Q:=FH c;unfold iy at e |-;unfold lim at r;simp only[bl,length_cons,length_nil]at r e;simp only[cT,T.n,T.au];refine ah func203 ntmps203 ?_;refine GW.range (aR l).length (fun k G O=>∃y,G=U::.v (.bool b)::.loc 0 0::U::U::U::.v (sv y)::zU 124 (.sl 6 (aR l)::y4 ((aR l).length:Int)::y4 (k:Nat)::zU 12 [])/\O=[.box 89 [y4 14,y4 F,y4 0,.v (sv []),ints N,.sl 6 (aR l)]]/\S.dX (E.out b) y (c.drop k)=S.dX (E.out b) [123,32] c) ?_ zfZ ?_ ?_ ?_
 ·exact⟨_,_,Wk.bb aD,_,rfl,rfl,rfl⟩
 ·rintro k _ _⟨y,rfl,rfl,_⟩;exact eB
 ·rintro k _ _ m⟨y,rfl,rfl,i⟩
  have m:k<c.length:=by rw[bs,d]at m;exact m
  have s:k<l.length:=by omega
  have hx:c[k]?=some c[k]:=by simp[m]
  have o:l[k]?=some l[k]:=by simp[s]
  have R:=bH o;rw[kP m,S.dX]at i;have u:=bR hx;have H:=C _ u _ (Fy B u) (q k _ _ o hx) (by have:=FI u;unfold lim;omega);generalize l[k]=t at *;generalize I:c[k].bT (E.out b)=x at *;have j:=I9 (E.out b) (c.drop (k+1)) (y++x++[32]);rw[i]at j;simp only[bl,length_cons,length_nil]at j;refine X ?_;refine D [] H ?_;exact⟨rfl,rfl,_,_,(Wk.cut (n:=1) (dT rfl) rfl).trans (Wk.bb aD),_,rfl,rfl,i⟩
 ·rintro _ _⟨y,rfl,rfl,i⟩;rw[List.drop_of_length_le (by rw[bs,d];exact a8 _),S.dX]at i;subst i;exact aC
mutual
def WX(b:Bool):∀s:S,n7 b s
 |.set s a=>Oi b s a
 |.put s a c=>Og b s a c
 |.if1 c p=>Oe b c p (rY b p (sT b p))
 |.if2 c p q=>Of b c p q (rY b p (sT b p)) (rY b q (sT b q))
 |.while_ c p=>GJ b c p (rY b p (sT b p))
 |.ret a=>Oh b a
 |.do_ a=>QA b a
 |.var s a=>Oj b s a
def sT(b:Bool):∀l:List S,∀a∈l,n7 b a
 |[]=>fun a h=>by cases h
 |c::l=>fun a h=>by
  rcases nj h with h|h
  ·rw[h];exact WX b c
  ·exact sT b l a h
end
def WW(b:Bool)(l:List S):uR b l:=rY b l (sT b l)
open Go.Xp (gh)
def MD(p:Src)(I:A7 p)(ls:List (List S))(w:DH p ls):GF prog 146 [.agg (aQ p)] [] (.v (.bool (ls.all fun l=>gh l 1))) []:=by
 refine ah func146 ntmps146 ?_;refine GW.range (p.az.map aO).length (fun k M Γ=>M=U::.loc 0 0::U::U::U::U::U::U::.sl 3 (p.az.map aO)::y4 ((p.az.map aO).length:Int)::y4 (k:Nat)::zU 34 []/\Γ=[.box 28 (aQ p)]/\((ls.take k).all fun l=>gh l 1)=true) ?_ (by simpa using by have:=I.az.1;omega) ?_ ?_ ?_
 ·exact lK
 ·exact jE
 ·rintro k _ _ u⟨rfl,rfl,s⟩
  have u:k<p.az.length:=by simpa using u
  have B:k<ls.length:=by rw[w.len];exact u
  have hx:p.az[k]?=some p.az[k]:=by simp[u]
  have e:ls[k]?=some ls[k]:=by simp[B]
  have hr:=xC hx;have⟨N,H,hw,t,o,A⟩:=w.at_ k _ _ hx e;have F:=DG p (fun n hn=>(I.ak.2 n hn).2) _ _ _ o;rw[Int.toNat_of_nonneg N]at F;have d:=WW true ls[k] t H A zfq;have⟨J,t2,q,f,O,h2,h3,h4,Q,R,j⟩:=Sg H hw;have r:=MF _ J Z O;have C:RS.ok ⟨J,0,(iy E.bT ls[k]).length,0,0⟩:=⟨bj _,by simp only;omega⟩;have b:=(Zq f).block 1 _ t2 q C Z Q
  have G:(E.out true)=E.bT:=by funext a;rfl
  rw[G]at d;generalize iy E.bT ls[k]=tx at *;generalize c:gh ls[k] 1=fit at *;generalize p.az[k]=x at *
  rcases j with⟨j,T,rfl⟩|⟨j,rfl⟩
  ·have z:(q.code != 0)=false:=by simpa using j
   have W:((q.i:Int) != ((q.l.map db).length:Int))=false:=by rw[bI,R];simp[T]
   refine zel ?_;refine bA ?_;exact⟨rfl,rfl,_,_,(Wk.cut (n:=1) (dT rfl) rfl).trans (Wk.bb aD),rfl,rfl,sY e s c⟩
  ·have z:(q.code != 0)=true:=by simpa using j
   have m:(ls.all fun l=>gh l 1)=false:=uS e c;rw[m];refine zel ?_;exact zbe
 ·rintro _ _⟨rfl,rfl,s⟩;rw[mz (by rw[bI,w.len];exact a8 _)]at s;rw[s];exact aC
def KK(p:Src)(R:A7 p)(h:oX p=some false):GF prog 76 [.agg (aQ p)] [] (.v (.bool false)) []:=by
 have o:=AH p R false h;refine ah func76 ntmps76 ?_;exact zbO
def KN(p:Src)(R:A7 p)(h:oX p=some true)(ls:List (List S))(r:DH p ls):GF prog 76 [.agg (aQ p)] [] (.v (.bool (ls.all fun l=>gh l 1))) []:=by
 have o:=AH p R true h;have s:=MD p R ls r;generalize(ls.all fun l=>gh l 1)=b at *;refine ah func76 ntmps76 ?_;refine D [] o ?_;refine D [] s ?_;exact ax
open Go.Im
def TL{p:Src}(e:dE p<=1048576):A7 p:=by
 have⟨⟨a1,H⟩,⟨i,T⟩,⟨N,Q⟩,⟨E,R⟩⟩:=iR p;exact⟨⟨by omega,fun s o=>by have:=H s o;omega⟩,⟨by omega,fun s o=>by have:=T s o;omega⟩,⟨by omega,fun f t=>by have⟨F,q,G⟩:=Q f t;exact⟨by omega,by omega,fun s o=>by have:=G s o;omega⟩⟩,⟨by omega,fun n S=>by have⟨F,q⟩:=R n S;exact⟨by omega,by omega⟩⟩⟩
def KL(p:Src)(e:dE p<=1048576):GF prog 76 [.agg (aQ p)] [] (.v (.bool (fI p))) []:=by
 have E:=TL e;have⟨b,r⟩:=Kx p
 cases b with
 |false=>rw[ZF r];exact KK p E r
 |true =>
  have⟨l,W⟩:=TN r;have⟨F,s⟩:=W.Af;rw[ZG W s];exact KN p E r F (Lb W s e)
end Go.Xg
