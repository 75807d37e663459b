/- Part 6 of proofs that are told in their last texts. -/
import Derived.Test.YtfmnfhpifpjljaaGreatDoorZ5
open List (all_append all_cons all_eq_false all_nil any_append any_eq_false cons_append drop_length findIdx?_eq_some_iff_getElem length_cons length_nil map_take nil_append)
set_option linter.unusedVariables false
set_option linter.unusedSimpArgs false
set_option linter.defProp false
set_option maxRecDepth 100000
set_option maxHeartbeats 4000000
namespace Go.Xg
open Go.RowKit Go.Xw Go.Proofs Tryz Go.Sp
open GV (U)
open Go.Xp (Tok)
attribute [local irreducible] GW GL GO YG GC GA bh bn
def YR(s:ai)(hs:s.length<=1000000000000) :
  GC prog 167 [.v (sv s)] [] fun g Δ=>Δ=[]/\∃l c z,g=.tup [Go.Xg.hE l,y4 c,y4 z]/\(c=0->s.length<=6000/\l.length<=6000/\∀t∈l,BM t):=by
 rcases Nat.lt_or_ge 6000 s.length with r|r
 ·have N:decide ((6000:Int)<(s.length:Int))=true:=by simpa using by omega
  refine aj func167 ntmps167 ?_;refine mn ?_;exact⟨.tup [Go.Xg.hE [],y4 1,y4 0],iz,rfl,[],1,0,rfl,fun h=>by omega⟩
 ·have N:decide ((6000:Int)<(s.length:Int))=false:=by simpa using by omega
  have G:=Br s 0 X (bg _);have H:=tq s (s.length+1) 0 (bg _);generalize hS:skip s (s.length+1) 0=R at *;have⟨a0,z0⟩:=R;simp only at G H;refine aj func167 ntmps167 ?_;refine nR ?_;refine Z ?_;refine I [] G ?_;refine GW.A2 (fun L V=>∃(a:Nat)(z:Int)(n:Nat)(b:List am)(d:List Tok),L=.v (sv s)::U::U::U::U::.vec 0 n::y4 (a:Nat)::y4 z::zU 47 []/\V=[.vec 205 4 0 b]/\b.length=n/\b=d.map dd/\d.length<=6000/\∀t∈d,BM t) ?_ ?_
  ·refine GW.loop (fun x:Nat=>s.length-x) (fun a L V=>∃(z:Int)(n:Nat)(b:List am)(d:List Tok),L=.v (sv s)::U::U::U::U::.vec 0 n::y4 (a:Nat)::y4 z::zU 47 []/\V=[.vec 205 4 0 b]/\b.length=n/\b=d.map dd/\d.length<=a/\a<=s.length/\∀t∈d,BM t) a0 ?_ ?_
   ·exact⟨_,_,Wk.aW az,z0,0,[],[],rfl,rfl,rfl,rfl,bg _,H.2,fun t h=>by cases h⟩
   ·rintro a _ _⟨z,n,b,d,rfl,rfl,C,e,F,ha,E⟩
    cases B:s[a]? with
    |none =>
     have O:s.length<=a:=nE B
     have hd:decide ((a:Int)<(s.length:Int))=false:=by simpa using O
     exact zdW
    |some c =>
     have T:a<s.length:=(bR B).1
     have hd:decide ((a:Int)<(s.length:Int))=true:=by simpa using T
     by_cases J:z<0
     ·have A:decide (z<(0:Int))=true:=by simpa using J
      have w:=Hc B;have q:=R4 B;have j:=VI B r;have i:=FY s a c X B;generalize gD s a c=tk at *;have⟨t,nx⟩:=tk;simp only at w q j i
      by_cases Q:t.ab=0
      ·have S:(t.ab==0)=true:=by simpa using Q
       refine Z ?_;refine I [] i ?_;refine mn ?_;exact⟨.tup [Go.Xg.hE [],y4 2,y4 (a:Nat)],iz,rfl,[],2,_,rfl,fun h=>by omega⟩
      ·have S:(t.ab==0)=false:=by simpa using Q
       have q:=q Q
       by_cases k:t.n<=2147483647
       ·have M:decide ((2147483647:Int)<t.n)=false:=by simpa using k
        have j:=j k;have m:=Br s nx X w.2;have o:=tq s (s.length+1) nx w.2
        have hn2:n<=6000:=by rw[<-C,e,bC];omega
        generalize skip s (s.length+1) nx=W at *;have⟨a2,z2⟩:=W;simp only at m o;refine Z ?_;refine I [] i ?_;refine zbz ?_;refine I [] m ?_
        exact⟨a2,⟨_,_,(Wk.cut (n:=1) (ed rfl) rfl).trans (Wk.aW az),z2,n+1,b++[dd t],d++[t],rfl,rfl,by simp[C],by rw[kL,e];rfl,by rw[bf,List.length_singleton];omega,o.2,fun u hu=>by
         rcases vf hu with hu|hu
         ·exact E u hu
         ·rw[List.mem_singleton]at hu;subst hu;exact j⟩,by omega⟩
       ·have M:decide ((2147483647:Int)<t.n)=true:=by simpa using by omega
        refine Z ?_;refine I [] i ?_;refine mn ?_;exact⟨.tup [Go.Xg.hE [],y4 3,y4 (a:Nat)],iz,rfl,[],3,_,rfl,fun h=>by omega⟩
     ·have A:decide (z<(0:Int))=false:=by simpa using J
      exact zdW
  ·rintro _ _⟨a,z,n,b,d,rfl,rfl,C,e,F,E⟩
   by_cases J:0<=z
   ·have A:decide ((0:Int)<=z)=true:=by simpa using J
    refine Z ?_;refine mn ?_;exact⟨.tup [Go.Xg.hE [],y4 4,y4 z],iz,rfl,[],4,_,rfl,fun h=>by omega⟩
   ·have A:decide ((0:Int)<=z)=false:=by simpa using J
    subst e;refine Z ?_;refine GW.wk (Wk.ky (t:=2) rfl rfl rfl C) ?_;refine CO ?_;exact⟨rfl,d,0,0,rfl,fun _=>⟨r,F,E⟩⟩
end Go.Xg
set_option maxHeartbeats 1000000
namespace Go.Xg
open Go.RowKit Go.Xw Go.Proofs Tryz Go.Sp
open GV (U)
attribute [local irreducible] GW GL GO YG GC GA bh bn
def tD{S:Type}{l:List S}{q:S->Bool}{k:Nat}{x:S}(hx:l[k]?=some x)(hf:(l.take k).all q=true)(v:q x=true):(l.take (k+1)).all q=true:=by
 rw[dc,hx,all_append,hf];simp[v]
def idxOf(xs:List ai)(s:ai):Int:=match xs.findIdx? (fun x=>s==x)with|some i=>(i:Int)|none => -1
section
variable(xs:List ai)(s:ai)
def gz(T:xs.length<=1099511627776):GF prog 109 [strs xs,.v (sv s)] [] (y4 (idxOf xs s)) []:=by
 refine aj func109 ntmps109 ?_;refine GW.range (xs.map fun s=>[GV.v (sv s)]).length (fun k z W=>z=[strs xs,.v (sv s),U,U,U,U,strs xs,y4 ((xs.map fun s=>[GV.v (sv s)]).length:Int),y4 (k:Nat),U,U,U,U,U,U,U,U,U,U]/\W=[]/\((xs.take k).all fun x=>!(s==x))=true) ?_ zfk ?_ ?_ ?_
 ·exact kz
 ·exact iI
 ·rintro k _ _ M⟨rfl,rfl,l⟩
  have M:k<xs.length:=by simpa using M
  have hx:xs[k]?=some xs[k]:=by simp[M]
  have r:(xs.map fun s=>[GV.v (sv s)])[k]?=some [.v (sv xs[k])]:=by simp[M]
  cases w:(s==xs[k])with
  |true =>
   have t:xs.findIdx? (fun x=>s==x)=some k:=by
    rw[findIdx?_eq_some_iff_getElem];refine⟨M,w,fun j G=>?_⟩;rw[fa]at l;have:=l xs[j] zfa;exact zdQ
   unfold idxOf;rw[t];generalize xs[k]=x at *;exact aB
  |false =>
   have A:=tD (q:=fun x=>!(s==x)) hx l (by rw[w];rfl);generalize xs[k]=x at *;refine Z ?_;exact⟨rfl,rfl,_,_,Wk.aW az,rfl,rfl,A⟩
 ·rintro _ _⟨rfl,rfl,l⟩;rw[kK ze6]at l
  have t:xs.findIdx? (fun x=>s==x)=none:=by
   rw[List.findIdx?_eq_none_iff];intro x hx;rw[fa]at l;have:=l x hx;exact zdQ
  unfold idxOf;rw[t];exact aB
def QQ:decide (0<=idxOf xs s)=xs.contains s:=by
 unfold idxOf
 cases h:xs.findIdx? (fun x=>s==x)with
 |some i =>
  rw[findIdx?_eq_some_iff_getElem]at h;have⟨M,v,_⟩:=h
  have w:s=xs[i]:=by simpa using v
  have:xs.contains s=true:=by rw[l9,w];exact List.getElem_mem _
  rw[this];simp
 |none =>
  rw[List.findIdx?_eq_none_iff]at h
  have:xs.contains s=false:=by
   cases k:xs.contains s with
   |false=>rfl
   |true=>have:=h s (l9.1 k);simp at this
  rw[this];rfl
def lM(T:xs.length<=1099511627776):GF prog 48 [strs xs,.v (sv s)] [] (.v (.bool (xs.contains s))) []:=by
 have t:=gz xs s T;rw[<-QQ];generalize idxOf xs s=i at *;refine aj func48 ntmps48 ?_;refine I [] t ?_;exact aw
end
def Y9(p:Src)(R:p.ah.length<=1000000000000)(l:∀n∈p.ah,n.au.length<=1000000000000):∀(f a d:Nat)(e:Int),d<=801->pj p.ah f a d=some e->GF prog 201 [.agg (aD p),y4 (a:Nat),y4 (d:Nat)] [] (y4 e) []:=by
 intro f
 induction f using Nat.strongRecOn with
 |_ f Q =>
 intro a d e H h
 cases f with
 |zero=>simp[pj]at h
 |succ f =>
 rw[pj]at h;refine dT func201 ntmps201 ?_
 by_cases N:p.ah.length<=a
 ·rw[ae (.inl N)]at h;cases h
  have L:decide (((p.ah.map aP).length:Int)<=(a:Int))=true:=by simpa using N
  exact aB
 have L:decide (((p.ah.map aP).length:Int)<=(a:Int))=false:=by simpa using N
 by_cases z:d>800
 ·rw[ae (.inr z)]at h;cases h
  have V:decide ((800:Int)<(d:Int))=true:=by simpa using by omega
  exact aB
 have V:decide ((800:Int)<(d:Int))=false:=by simpa using by omega
 rw[D X]at h
 cases T:p.ah[a]? with
 |none=>rw[T]at h;cases h
 |some n =>
 rw[T]at h;simp only at h;have r:=b8 T;have F:=l n (bB T);refine Z ?_
 refine GW.range (n.au.map fun i=>[y4 i]).length (fun k w W=>∃nx g,w=[U,y4 (a:Nat),y4 (d:Nat),.loc 0 0,U,U,U,y4 nx,U,U,U,U,U,U,U,U,U,U,U,U,U,U,U,U,U,U,ints n.au,y4 ((n.au.map fun i=>[GV.v (ii i)]).length:Int),y4 (k:Nat),U,U,U,U,U,U,U,U,U,U,U,U,U,U,U] /\
   W=[.box 28 (aD p)]/\0<=nx/\g<=f/\ph p.ah g (n.au.drop k) nx d=some e) ?_ (by simp;omega) ?_ ?_ ?_
 ·exact⟨_,_,Wk.aW az,_,f,rfl,rfl,by omega,aQ _,h⟩
 ·rintro k _ _⟨_,_,rfl,rfl,_⟩;exact dN
 ·rintro k _ _ M⟨nx,g,rfl,rfl,O,C,h⟩
  have M:k<n.au.length:=by simpa using M
  have hx:n.au[k]?=some n.au[k]:=by simp[M]
  rw[l8 M]at h;generalize n.au[k]=x at *;have G:=ep hx
  cases g with
  |zero=>simp[ph]at h
  |succ g =>
  rw[ph]at h
  by_cases m:x=nx
  ·subst m;rw[ae rfl]at h
   have A:(x != x)=false:=by simp
   cases E:pj p.ah g x.toNat (d+1)with
   |none=>rw[E]at h;cases h
   |some y =>
   rw[E]at h;simp only at h;have B:=Q g X x.toNat (d+1) y X E;rw[Int.toNat_of_nonneg O]at B
   by_cases J:y<0
   ·rw[ae J]at h;cases h
    have j:decide (y<(0:Int))=true:=by simpa using J
    refine Z ?_;refine I [] B ?_;exact aw
   ·rw[D J]at h
    have j:decide (y<(0:Int))=false:=by simpa using J
    refine Z ?_;refine I [] B ?_;exact⟨rfl,rfl,_,_,Wk.aW az,_,g,rfl,rfl,by omega,by omega,h⟩
  ·rw[D m]at h;cases h
   have A:(x != nx)=true:=by simpa using m
   exact aB
 ·rintro _ _⟨nx,g,rfl,rfl,O,C,h⟩;rw[bC,drop_length]at h
  have c:nx=e:=by cases g<;>(rw[ph]at h;cases h;rfl)
  subst c;exact aB
open Go.Xp (T)
def ZI(a n:Int)(s:ai)(ks:List Int)(l:List T)(q:s.length<=1099511627776)(V:l.length<=1099511627776)(ha:decide (a<0)=false):GF prog 260 [.agg (cT (.mk ⟨1,a,n,s,ks⟩ l))] [] (.v (.bool (cK (.mk ⟨1,a,n,s,ks⟩ l)))) []:=by
 have k:cK (.mk ⟨1,a,n,s,ks⟩ l)=(decide ((0:Int)<=n)&&(decide (n<=2147483647)&&((s==[])&&((l.length:Int)==0)))):=by unfold cK own;rw[D ze5];rfl
 rw[k];refine dT func260 ntmps260 ?_
 cases t:decide ((0:Int)<=n)with
 |false =>
  exact aB
 |true =>
  cases M:decide (n<=2147483647)with
  |false =>
   exact aB
  |true =>
   cases w:(s==[])with
   |false =>
    exact aB
   |true =>
    refine Z ?_;exact zah
section
variable(a:Int)(s:ai)(ks:List Int)(l:List T)
def ZJ(q:s.length<=1099511627776)(V:l.length<=1099511627776)(ha:decide (a<0)=false):GF prog 260 [.agg (cT (.mk ⟨2,a,0,s,ks⟩ l))] [] (.v (.bool (cK (.mk ⟨2,a,0,s,ks⟩ l)))) []:=by
 have m:cK (.mk ⟨2,a,0,s,ks⟩ l)=(bY s&&((l.length:Int)==0)):=by unfold cK own;rw[D ze5];rfl
 rw[m];refine dT func260 ntmps260 ?_
 cases t:bY s with
 |false =>
  exact zai
 |true =>
  refine Z ?_;have k:=fc s q;rw[t]at k;exact zcj
def ZK(q:s.length<=1099511627776)(V:l.length<=1099511627776)(ha:decide (a<0)=false):GF prog 260 [.agg (cT (.mk ⟨3,a,0,s,ks⟩ l))] [] (.v (.bool (cK (.mk ⟨3,a,0,s,ks⟩ l)))) []:=by
 have m:cK (.mk ⟨3,a,0,s,ks⟩ l)=(bY s&&(((l.length:Int)==1)&&bW 1 0 l)):=by unfold cK own;rw[D ze5];rfl
 rw[m];refine dT func260 ntmps260 ?_
 cases t:bY s with
 |false =>
  exact zai
 |true =>
  cases M:((l.length:Int)==1)with
  |false =>
   have J:((((bj l).length:Int)==1))=false:=by rw[<-bq l]at M;exact M
   exact zai
  |true =>
   have J:((((bj l).length:Int)==1))=true:=by rw[<-bq l]at M;exact M
   refine Z ?_;have k:=fc s q;rw[t]at k;refine I [] k ?_;have k:=gk (.mk ⟨3,a,0,s,ks⟩ l) 1 V;exact zcj
def ZL(q:s.length<=1099511627776)(V:l.length<=1099511627776)(ha:decide (a<0)=false):GF prog 260 [.agg (cT (.mk ⟨4,a,0,s,ks⟩ l))] [] (.v (.bool (cK (.mk ⟨4,a,0,s,ks⟩ l)))) []:=by
 have m:cK (.mk ⟨4,a,0,s,ks⟩ l)=(bY s&&bW l.length 0 l):=by unfold cK own;rw[D ze5];rfl
 rw[m];refine dT func260 ntmps260 ?_
 cases t:bY s with
 |false =>
  exact zai
 |true =>
  refine Z ?_;have k:=fc s q;rw[t]at k;refine I [] k ?_;have k:=gk (.mk ⟨4,a,0,s,ks⟩ l) (bj l).length V;exact zcj
def ZN(q:s.length<=1099511627776)(V:l.length<=1099511627776)(ha:decide (a<0)=false):GF prog 260 [.agg (cT (.mk ⟨6,a,0,s,ks⟩ l))] [] (.v (.bool (cK (.mk ⟨6,a,0,s,ks⟩ l)))) []:=by
 have m:cK (.mk ⟨6,a,0,s,ks⟩ l)=(fX s&&(((l.length:Int)==2)&&bW 2 0 l)):=by unfold cK own;rw[D ze5];rfl
 rw[m];refine dT func260 ntmps260 ?_
 cases t:fX s with
 |false =>
  exact zey
 |true =>
  cases M:((l.length:Int)==2)with
  |false =>
   have J:((((bj l).length:Int)==2))=false:=by rw[<-bq l]at M;exact M
   exact zey
  |true =>
   have J:((((bj l).length:Int)==2))=true:=by rw[<-bq l]at M;exact M
   refine Z ?_;have k:=tQ s;rw[t]at k;refine I [] k ?_;have k:=gk (.mk ⟨6,a,0,s,ks⟩ l) 2 V;exact zcj
def ZO(q:s.length<=1099511627776)(V:l.length<=1099511627776)(ha:decide (a<0)=false):GF prog 260 [.agg (cT (.mk ⟨7,a,0,s,ks⟩ l))] [] (.v (.bool (cK (.mk ⟨7,a,0,s,ks⟩ l)))) []:=by
 have m:cK (.mk ⟨7,a,0,s,ks⟩ l)=(bY s&&(((l.length:Int)==1)&&bW 1 0 l)):=by unfold cK own;rw[D ze5];rfl
 rw[m];refine dT func260 ntmps260 ?_
 cases t:bY s with
 |false =>
  exact zai
 |true =>
  cases M:((l.length:Int)==1)with
  |false =>
   have J:((((bj l).length:Int)==1))=false:=by rw[<-bq l]at M;exact M
   exact zai
  |true =>
   have J:((((bj l).length:Int)==1))=true:=by rw[<-bq l]at M;exact M
   refine Z ?_;have k:=fc s q;rw[t]at k;refine I [] k ?_;have k:=gk (.mk ⟨7,a,0,s,ks⟩ l) 1 V;exact zcj
def ZP(q:s.length<=1099511627776)(V:l.length<=1099511627776)(ha:decide (a<0)=false):GF prog 260 [.agg (cT (.mk ⟨8,a,0,s,ks⟩ l))] [] (.v (.bool (cK (.mk ⟨8,a,0,s,ks⟩ l)))) []:=by
 have m:cK (.mk ⟨8,a,0,s,ks⟩ l)=(bY s&&(((l.length:Int)==2)&&bW 2 0 l)):=by unfold cK own;rw[D ze5];rfl
 rw[m];refine dT func260 ntmps260 ?_
 cases t:bY s with
 |false =>
  exact zai
 |true =>
  cases M:((l.length:Int)==2)with
  |false =>
   have J:((((bj l).length:Int)==2))=false:=by rw[<-bq l]at M;exact M
   exact zai
  |true =>
   have J:((((bj l).length:Int)==2))=true:=by rw[<-bq l]at M;exact M
   refine Z ?_;have k:=fc s q;rw[t]at k;refine I [] k ?_;have k:=gk (.mk ⟨8,a,0,s,ks⟩ l) 2 V;exact zcj
def X0(q:s.length<=1099511627776)(V:l.length<=1099511627776)(ha:decide (a<0)=false):GF prog 260 [.agg (cT (.mk ⟨10,a,0,s,ks⟩ l))] [] (.v (.bool (cK (.mk ⟨10,a,0,s,ks⟩ l)))) []:=by
 have k:cK (.mk ⟨10,a,0,s,ks⟩ l)=((s==[])&&(((l.length:Int)==2)&&bW 1 0 l)):=by unfold cK own;rw[D ze5];rfl
 rw[k];refine dT func260 ntmps260 ?_
 cases t:(s==[])with
 |false =>
  exact aB
 |true =>
  cases M:((l.length:Int)==2)with
  |false =>
   have J:((((bj l).length:Int)==2))=false:=by rw[<-bq l]at M;exact M
   exact aB
  |true =>
   have J:((((bj l).length:Int)==2))=true:=by rw[<-bq l]at M;exact M
   refine Z ?_;have m:=gk (.mk ⟨10,a,0,s,ks⟩ l) 1 V;refine I [] m ?_;exact zah
def X1(q:s.length<=1099511627776)(V:l.length<=1099511627776)(ha:decide (a<0)=false):GF prog 260 [.agg (cT (.mk ⟨11,a,0,s,ks⟩ l))] [] (.v (.bool (cK (.mk ⟨11,a,0,s,ks⟩ l)))) []:=by
 have k:cK (.mk ⟨11,a,0,s,ks⟩ l)=((s==[])&&(((l.length:Int)==1)&&bW 1 0 l)):=by unfold cK own;rw[D ze5];rfl
 rw[k];refine dT func260 ntmps260 ?_
 cases t:(s==[])with
 |false =>
  exact aB
 |true =>
  cases M:((l.length:Int)==1)with
  |false =>
   have J:((((bj l).length:Int)==1))=false:=by rw[<-bq l]at M;exact M
   exact aB
  |true =>
   have J:((((bj l).length:Int)==1))=true:=by rw[<-bq l]at M;exact M
   refine Z ?_;have m:=gk (.mk ⟨11,a,0,s,ks⟩ l) 1 V;refine I [] m ?_;exact zah
def X2(q:s.length<=1099511627776)(V:l.length<=1099511627776)(ha:decide (a<0)=false):GF prog 260 [.agg (cT (.mk ⟨12,a,0,s,ks⟩ l))] [] (.v (.bool (cK (.mk ⟨12,a,0,s,ks⟩ l)))) []:=by
 have k:cK (.mk ⟨12,a,0,s,ks⟩ l)=((s==[])&&(((l.length:Int)==1)&&bW 1 0 l)):=by unfold cK own;rw[D ze5];rfl
 rw[k];refine dT func260 ntmps260 ?_
 cases t:(s==[])with
 |false =>
  exact aB
 |true =>
  cases M:((l.length:Int)==1)with
  |false =>
   have J:((((bj l).length:Int)==1))=false:=by rw[<-bq l]at M;exact M
   exact aB
  |true =>
   have J:((((bj l).length:Int)==1))=true:=by rw[<-bq l]at M;exact M
   refine Z ?_;have m:=gk (.mk ⟨12,a,0,s,ks⟩ l) 1 V;refine I [] m ?_;exact zah
def X3(q:s.length<=1099511627776)(V:l.length<=1099511627776)(ha:decide (a<0)=false):GF prog 260 [.agg (cT (.mk ⟨13,a,0,s,ks⟩ l))] [] (.v (.bool (cK (.mk ⟨13,a,0,s,ks⟩ l)))) []:=by
 have m:cK (.mk ⟨13,a,0,s,ks⟩ l)=(bY s&&(((l.length:Int)==1)&&bW 1 0 l)):=by unfold cK own;rw[D ze5];rfl
 rw[m];refine dT func260 ntmps260 ?_
 cases t:bY s with
 |false =>
  exact zai
 |true =>
  cases M:((l.length:Int)==1)with
  |false =>
   have J:((((bj l).length:Int)==1))=false:=by rw[<-bq l]at M;exact M
   exact zai
  |true =>
   have J:((((bj l).length:Int)==1))=true:=by rw[<-bq l]at M;exact M
   refine Z ?_;have k:=fc s q;rw[t]at k;refine I [] k ?_;have k:=gk (.mk ⟨13,a,0,s,ks⟩ l) 1 V;exact zcj
def ZM(q:s.length<=1099511627776)(V:l.length<=1099511627776)(ha:decide (a<0)=false):GF prog 260 [.agg (cT (.mk ⟨5,a,0,s,ks⟩ l))] [] (.v (.bool (cK (.mk ⟨5,a,0,s,ks⟩ l)))) []:=by
 have m:cK (.mk ⟨5,a,0,s,ks⟩ l)=((s==[45] ||s==[33] ||s==[126])&&(((l.length:Int)==1)&&bW 1 0 l)):=by unfold cK own;rw[D ze5];rfl
 rw[m];refine dT func260 ntmps260 ?_
 cases M:(s==[45])with
 |true =>
  cases N:((l.length:Int)==1)with
  |false =>
   have w:(((bj l).length:Int)==1)=false:=by rw[<-bq l]at N;exact N
   exact aB
  |true =>
   have w:(((bj l).length:Int)==1)=true:=by rw[<-bq l]at N;exact N
   exact zbM
 |false =>
  cases z:(s==[33])with
  |true =>
   cases N:((l.length:Int)==1)with
   |false =>
    have w:(((bj l).length:Int)==1)=false:=by rw[<-bq l]at N;exact N
    exact aB
   |true =>
    have w:(((bj l).length:Int)==1)=true:=by rw[<-bq l]at N;exact N
    exact zbM
  |false =>
   cases A:(s==[126])with
   |false =>
    exact aB
   |true =>
    cases N:((l.length:Int)==1)with
    |false =>
     have w:(((bj l).length:Int)==1)=false:=by rw[<-bq l]at N;exact N
     exact aB
    |true =>
     have w:(((bj l).length:Int)==1)=true:=by rw[<-bq l]at N;exact N
     exact zbM
def ZQ(q:s.length<=1099511627776)(W:l.length<=1099511627776)(ha:decide (a<0)=false):GF prog 260 [.agg (cT (.mk ⟨9,a,0,s,ks⟩ l))] [] (.v (.bool (cK (.mk ⟨9,a,0,s,ks⟩ l)))) []:=by
 have m:cK (.mk ⟨9,a,0,s,ks⟩ l)=((s==[])&&((((l.length:Int)==2) ||((l.length:Int)==3))&&bW 1 0 l)):=by unfold cK own;rw[D ze5];rfl
 rw[m];refine dT func260 ntmps260 ?_
 cases t:(s==[])with
 |false =>
  exact aB
 |true =>
  cases M:((l.length:Int)==2)with
  |true =>
   have J:(((bj l).length:Int)==2)=true:=by rw[<-bq l]at M;exact M
   exact zdx
  |false =>
   have J:(((bj l).length:Int)==2)=false:=by rw[<-bq l]at M;exact M
   cases w:((l.length:Int)==3)with
   |true =>
    have V:(((bj l).length:Int)==3)=true:=by rw[<-bq l]at w;exact w
    exact zdx
   |false =>
    have V:(((bj l).length:Int)==3)=false:=by rw[<-bq l]at w;exact w
    exact aB
def X4(q:s.length<=1099511627776)(V:l.length<=1099511627776)(ha:decide (a<0)=false):GF prog 260 [.agg (cT (.mk ⟨14,a,0,s,ks⟩ l))] [] (.v (.bool (cK (.mk ⟨14,a,0,s,ks⟩ l)))) []:=by
 have o:cK (.mk ⟨14,a,0,s,ks⟩ l)=((l.all fun x=>jo x.n.ab)&&(s==[])):=by unfold cK own;rw[D ze5];rfl
 rw[o];refine aj func260 ntmps260 ?_;refine GW.range (bj l).length (fun k z W=>∃n,z=U::.loc 0 0::U::.loc 1 0::zU 172 (.sl 6 (bj l)::y4 ((bj l).length:Int)::y4 (k:Nat)::zU 12 [])/\W=[.box 89 (cT (.mk ⟨14,a,0,s,ks⟩ l)),.box 82 n]/\n=aP ⟨14,a,0,s,ks⟩/\((l.take k).all fun x=>jo x.n.ab)=true) ?_ (by rw[bq];exact V) ?_ ?_ ?_
 ·exact⟨_,_,Wk.aW az,_,rfl,rfl,rfl,rfl⟩
 ·rintro k _ _⟨_,rfl,rfl,_⟩;exact dN
 ·rintro k _ _ m⟨_,rfl,rfl,rfl,t⟩
  have m:k<l.length:=by rw[bq]at m;exact m
  have hx:l[k]?=some l[k]:=by simp[m]
  have r:=dp hx;generalize l[k]=x at *;have R:=HR x.n.ab
  cases w:jo x.n.ab with
  |true =>
   rw[w]at R;refine zbU ?_;exact⟨rfl,rfl,_,_,(Wk.cut (n:=2) (ed rfl) rfl).trans (Wk.aW az),_,rfl,rfl,rfl,by rw[dc,hx,all_append,t];simp only[Option.toList,all_cons,all_nil,w];rfl⟩
  |false =>
   rw[w]at R;refine zbU ?_;refine cb ?_
   have ha:(l.all fun x=>jo x.n.ab)=false:=by
    rw[all_eq_false];exact⟨x,bB hx,by simp[w]⟩
   rw[ha];exact zak
 ·rintro _ _⟨_,rfl,rfl,rfl,t⟩
  have t:(l.all fun x=>jo x.n.ab)=true:=by
   rw[kK zfE]at t;exact t
  rw[t];exact aB
end
section
variable(k a n:Int)(s:ai)(ks:List Int)(l:List T)
def ZU(q:k=1\/k=2\/k=3\/k=4\/k=5\/k=6\/k=7\/k=8\/k=9\/k=10\/k=11\/k=12\/k=13\/k=14\/True)(hx:¬(k=1\/k=2\/k=3\/k=4\/k=5\/k=6\/k=7\/k=8\/k=9\/k=10\/k=11\/k=12\/k=13\/k=14))(ha:decide (a<0)=false)(hn:(n != 0)=false):GF prog 260 [.agg (cT (.mk ⟨k,a,n,s,ks⟩ l))] [] (.v (.bool (cK (.mk ⟨k,a,n,s,ks⟩ l)))) []:=by
 simp only[not_or]at hx;have⟨M,z,A,N,V,W,R,B,i,S,w,t,e,m⟩:=hx
 have M:(k==1)=false:=by simpa using M
 have C:(k != 1)=true:=by simp only[bne,M];rfl
 have z:(k==2)=false:=by simpa using z
 have A:(k==3)=false:=by simpa using A
 have N:(k==4)=false:=by simpa using N
 have V:(k==5)=false:=by simpa using V
 have W:(k==6)=false:=by simpa using W
 have R:(k==7)=false:=by simpa using R
 have B:(k==8)=false:=by simpa using B
 have i:(k==9)=false:=by simpa using i
 have S:(k==10)=false:=by simpa using S
 have w:(k==11)=false:=by simpa using w
 have t:(k==12)=false:=by simpa using t
 have e:(k==13)=false:=by simpa using e
 have m:(k==14)=false:=by simpa using m
 have o:cK (.mk ⟨k,a,n,s,ks⟩ l)=false:=by
  show own ⟨k,a,n,s,ks⟩ _ _ _=_;simp[own,M,z,A,N,V,W,R,B,i,S,w,t,e,m]
 rw[o];exact zd8
def ZR(ha:decide (a<0)=true):GF prog 260 [.agg (cT (.mk ⟨k,a,n,s,ks⟩ l))] [] (.v (.bool (cK (.mk ⟨k,a,n,s,ks⟩ l)))) []:=by
 have m:cK (.mk ⟨k,a,n,s,ks⟩ l)=false:=by
  show own ⟨k,a,n,s,ks⟩ _ _ _=_;unfold own;rw[ae ha]
 rw[m];exact zd8
def ZT(ha:decide (a<0)=false)(o:(k != 1)=true)(hn:(n != 0)=true):GF prog 260 [.agg (cT (.mk ⟨k,a,n,s,ks⟩ l))] [] (.v (.bool (cK (.mk ⟨k,a,n,s,ks⟩ l)))) []:=by
 have m:cK (.mk ⟨k,a,n,s,ks⟩ l)=false:=by
  show own ⟨k,a,n,s,ks⟩ _ _ _=_;unfold own;rw[D ze5,ae (by show((k != 1)&&(n != 0))=true;rw[o,hn];rfl)]
 rw[m];exact zd8
end
def Q4(t:T)(q:t.n.s.length<=1099511627776)(V:t.au.length<=1099511627776):GF prog 260 [.agg (cT t)] [] (.v (.bool (cK t))) []:=by
 have⟨⟨k,a,n,s,A⟩,l⟩:=t
 cases z:decide (a<0)with
 |true=>exact ZR k a n s A l z
 |false =>
 by_cases e:k=1
 ·subst e;exact ZI a n s A l q V z
 by_cases W:n=0
 ·subst W
  by_cases h:k=1\/k=2\/k=3\/k=4\/k=5\/k=6\/k=7\/k=8\/k=9\/k=10\/k=11\/k=12\/k=13\/k=14
  ·rcases h with rfl|rfl|rfl|rfl|rfl|rfl|rfl|rfl|rfl|rfl|rfl|rfl|rfl|rfl
   ·exact absurd rfl e
   ·exact ZJ a s A l q V z
   ·exact ZK a s A l q V z
   ·exact ZL a s A l q V z
   ·exact ZM a s A l q V z
   ·exact ZN a s A l q V z
   ·exact ZO a s A l q V z
   ·exact ZP a s A l q V z
   ·exact ZQ a s A l q V z
   ·exact X0 a s A l q V z
   ·exact X1 a s A l q V z
   ·exact X2 a s A l q V z
   ·exact X3 a s A l q V z
   ·exact X4 a s A l q V z
  ·exact ZU k a 0 s A l ze6 h z rfl
 ·exact ZT k a n s A l z (by simpa using e) (by simpa using W)
def Mz(l:List T):dK l=l.all ef:=by
 induction l with
 |nil=>simp[dK]
 |cons a l O=>simp[dK,O]
def Q0:∀(e:Nat)(t:T),SizeOf.sizeOf t<=e->GP t->GF prog 202 [.agg (cT t)] [] (.v (.bool (ef t))) []:=by
 intro e
 induction e with
 |zero=>intro t h _;cases t;simp at h
 |succ e O =>
 intro t z u;have⟨n,l⟩:=t;have A:=u;rw[GP]at u;have⟨q,V,G⟩:=u
 have o:ef (.mk n l)=(dK l&&cK (.mk n l)):=by rw[ef]
 rw[o];rw[Mz];refine aj func202 ntmps202 ?_;refine GW.range (bj l).length (fun k B W=>B=[U,.loc 0 0,U,U,U,U,.sl 6 (bj l),y4 ((bj l).length:Int),y4 (k:Nat),U,U,U,U,U,U,U,U,U]/\W=[.box 89 (cT (.mk n l))]/\((l.take k).all ef)=true) ?_ (by rw[bq];exact V) ?_ ?_ ?_
 ·exact kz
 ·exact iI
 ·rintro k _ _ m⟨rfl,rfl,s⟩
  have m:k<l.length:=by rw[bq]at m;exact m
  have hx:l[k]?=some l[k]:=by simp[m]
  have b:=bB hx;have M:=List.sizeOf_lt_of_mem b;have r:=dp hx;have R:=O l[k] (by simp at z;omega) (GR G b);generalize l[k]=x at *
  cases w:ef x with
  |true =>
   rw[w]at R;refine zbU ?_;exact⟨rfl,rfl,_,_,(Wk.cut (n:=1) (ed rfl) rfl).trans (Wk.aW az),rfl,rfl,by rw[dc,hx,all_append,s];simp only[Option.toList,all_cons,all_nil,w];rfl⟩
  |false =>
   rw[w]at R;refine zbU ?_;refine cb ?_
   have C:(l.all ef)=false:=by
    rw[all_eq_false];exact⟨x,bB hx,by simp[w]⟩
   rw[C];exact zak
 ·rintro _ _⟨rfl,rfl,s⟩
  have s:(l.all ef)=true:=by
   rw[kK zfE]at s;exact s
  rw[s];refine Z ?_;refine I [] (Q4 (.mk n l) q V) ?_;exact aw
def QZ(t:T)(h:GP t):GF prog 202 [.agg (cT t)] [] (.v (.bool (ef t))) []:=Q0 _ t (aQ _) h
open Go.Xp (Ar)
structure Bu(p:Src):Prop where
 ax:p.ax.length<=1000000000000/\∀s∈p.ax,s.length<=1000000000000
 aq:p.aq.length<=1000000000000/\∀a∈p.aq,a.name.length<=1000000000000
 ak:p.ak.length<=1000000000000/\∀f∈p.ak,f.name.length<=1000000000000/\f.params.length<=1000000000000/\∀s∈f.params,s.length<=1000000000000
 ah:p.ah.length<=1000000000000/\∀n∈p.ah,n.s.length<=1000000000000/\n.au.length<=1000000000000
def J4{l:List ai}{i:Nat}{s:ai}(h:l[i]?=some s):(l.map fun s=>[GV.v (sv s)])[i]?=some [.v (sv s)]:=by rw[bO,h];rfl
def vX{l:List Ar}{i:Nat}{s:Ar}(h:l[i]?=some s):(l.map bb)[i]?=some (bb s):=by rw[bO,h];rfl
def yc{l:List Go.Sp.Fn}{i:Nat}{s:Go.Sp.Fn}(h:l[i]?=some s):(l.map aH)[i]?=some (aH s):=by rw[bO,h];rfl
def vj{S:Type}{l:List S}{q:S->Bool}{k:Nat}{x:S}(hx:l[k]?=some x)(v:q x=false):l.all q=false:=by
 rw[all_eq_false];exact⟨x,bB hx,by simp[v]⟩
def A3(p:Src)(A:Bu p)(b:Bool)(h:oZ p=some b):GF prog 145 [.agg (aD p)] [] (.v (.bool b)) []:=by
 unfold oZ at h;refine aj func145 ntmps145 ?_;refine GW.range (p.ax.map fun s=>[GV.v (sv s)]).length (fun k z c=>z=[U,.loc 0 0,U,y4 0,U,U,U,U,U,U,U,U,U,U,U,strs p.ax,y4 ((p.ax.map fun s=>[GV.v (sv s)]).length:Int),y4 (k:Nat),U,U,U,U,U,U,U,U,U,U,U,U,U,U,U,U,U,U,U,U,U,U,U,U,U,U,U,U,U,U,U,U,U,U,U,U,U,U,U,U,U,U,U,U,U,U,U,U,U,U,U,U,U,U,U,U,U,U,U,U,U,U,U,U,U,U,U,U,U,U,U,U,U,U,U,U,U,U,U,U,U,U,U,U,U,U,U]/\c=[.box 28 (aD p)]/\((p.ax.take k).all bY)=true) ?_ (by simpa using by have:=A.ax.1;omega) ?_ ?_ ?_
 ·exact kz
 ·exact iI
 ·rintro k _ _ m⟨rfl,rfl,u⟩
  have m:k<p.ax.length:=by simpa using m
  have hx:p.ax[k]?=some p.ax[k]:=by simp[m]
  have E:=J4 hx;have r:=A.ax.2 _ (bB hx);generalize p.ax[k]=x at *;have R:=fc x X
  cases w:bY x with
  |true =>
   rw[w]at R;refine zbU ?_;exact⟨rfl,rfl,_,_,Wk.aW az,rfl,rfl,tD hx u w⟩
  |false =>
   rw[w]at R;rw[ae (show dy p.ax=false from vj hx w)]at h;cases h;refine zbU ?_;exact aw
 ·rintro _ _⟨rfl,rfl,u⟩;rw[kK ze6]at u;rw[D (by rw[show dy p.ax=true from u];decide)]at h;refine Z ?_;refine GW.range (p.aq.map bb).length (fun k z c=>z=U::.loc 0 0::U::y4 0::zU 22 (.sl 2 (p.aq.map bb)::y4 ((p.aq.map bb).length:Int)::y4 (k:Nat)::zU 76 [])/\c=[.box 28 (aD p)]/\((p.aq.take k).all nZ)=true) ?_ (by simpa using by have:=A.aq.1;omega) ?_ ?_ ?_
  ·exact kz
  ·exact iI
  ·rintro k _ _ m⟨rfl,rfl,u⟩
   have m:k<p.aq.length:=by simpa using m
   have hx:p.aq[k]?=some p.aq[k]:=by simp[m]
   have E:=vX hx;have r:=A.aq.2 _ (bB hx);generalize p.aq[k]=x at *;have R:=fc x.name X
   cases w:bY x.name with
   |false =>
    rw[w]at R;rw[ae (vj hx (by simp[nZ,w]))]at h;cases h;refine zbU ?_;exact aw
   |true =>
    rw[w]at R
    cases M:decide (x.size<0)with
    |true =>
     rw[ae (vj hx (by simp only[nZ,w,M];rfl))]at h;cases h;refine zbU ?_;exact aw
    |false =>
     cases B:decide (2147483647<x.size)with
     |true =>
      rw[ae (vj hx (by simp only[nZ,w,M,B];rfl))]at h;cases h;refine zbU ?_;exact aw
     |false =>
      refine zbU ?_;exact⟨rfl,rfl,_,_,(Wk.cut (n:=1) (ed rfl) rfl).trans (Wk.aW az),rfl,rfl,tD hx u (by simp only[nZ,w,M,B];rfl)⟩
  ·rintro _ _⟨rfl,rfl,u⟩;rw[kK ze6]at u;rw[D (by rw[u];decide)]at h;refine Z ?_;refine GW.range (p.ak.map aH).length (fun k z c=>∃nx,z=U::.loc 0 0::U::y4 nx::zU 44 (.sl 3 (p.ak.map aH)::y4 ((p.ak.map aH).length:Int)::y4 (k:Nat)::zU 54 [])/\c=[.box 28 (aD p)]/\0<=nx/\(match jl p.ah (p.ak.drop k) nx with|none=>none|some none=>some false|some (some next)=>some (next==(p.ah.length:Int)&&decide (next<=800)))=some b) ?_ (by simpa using by have:=A.ak.1;omega) ?_ ?_ ?_
   ·exact⟨_,_,Wk.aW az,_,rfl,rfl,Int.le_refl _,h⟩
   ·rintro k _ _⟨_,rfl,rfl,_⟩;exact dN
   ·clear h u;rintro k _ _ m⟨nx,rfl,rfl,O,h⟩
    have m:k<p.ak.length:=by simpa using m
    have hx:p.ak[k]?=some p.ak[k]:=by simp[m]
    have E:=yc hx;have r:=A.ak.2 _ (bB hx);rw[l8 m,jl]at h;generalize p.ak[k]=x at *
    cases R:pj p.ah (fN p.ah) nx.toNat 0 with
    |none=>rw[R]at h;cases h
    |some e =>
    rw[R]at h;simp only at h;have V:=Y9 p A.ah.1 (fun n T=>(A.ah.2 n T).2) _ _ 0 _ X R;rw[Int.toNat_of_nonneg O]at V;have S:=fc x.name X
    by_cases M:x.body=nx
    ·have J:(x.body != nx)=false:=by simpa using M
     cases w:bY x.name with
     |false =>
      rw[w]at S;rw[ae (.inr (.inl w))]at h;cases h;refine zdr ?_;exact zca
     |true =>
      rw[w]at S
      by_cases B:e<0
      ·have d:decide (e<0)=true:=by simpa using B
       rw[ae (.inr (.inr B))]at h;cases h;refine zdr ?_;exact zca
      ·have d:decide (e<0)=false:=by simpa using B
       rw[D (by rw[w];simp[M,B])]at h;refine zdr ?_;refine I [] S ?_;refine GW.range (x.params.map fun s=>[GV.v (sv s)]).length (fun j z c=>z=[U,.loc 0 0,U,y4 nx,U,U,U,U,U,.loc 1 0,y4 e,U,U,U,U,U,U,U,U,U,U,U,U,U,U,U,U,U,U,U,U,U,U,U,U,U,U,U,U,U,U,U,U,U,U,U,U,U,.sl 3 (p.ak.map aH),y4 ((p.ak.map aH).length:Int),y4 (k:Nat),U,U,U,U,U,U,U,U,U,U,U,U,U,U,U,U,U,U,U,U,U,strs x.params,y4 ((x.params.map fun s=>[GV.v (sv s)]).length:Int),y4 (j:Nat),U,U,U,U,U,U,U,U,U,U,U,U,U,U,U,U,U,U,U,U,U,U,U,U,U,U,U,U,U,U]/\c=[.box 28 (aD p),.box 53 (aH x)]/\((x.params.take j).all bY)=true) ?_ (by simpa using by omega) ?_ ?_ ?_
       ·exact kz
       ·exact iI
       ·rintro j _ _ G⟨rfl,rfl,u⟩
        have G:j<x.params.length:=by simpa using G
        have H:x.params[j]?=some x.params[j]:=by simp[G]
        have F:=J4 H;have L:=r.2.2 _ (bB H);generalize x.params[j]=y at *;have o:=fc y X
        cases w:bY y with
        |true =>
         rw[w]at o;refine Z ?_;refine I [] o ?_;exact⟨rfl,rfl,_,_,Wk.aW az,rfl,rfl,tD H u w⟩
        |false =>
         rw[w]at o;rw[ae (show dy x.params=false from vj H w)]at h;cases h;refine Z ?_;refine I [] o ?_;exact aw
       ·rintro _ _⟨rfl,rfl,u⟩;rw[kK ze6]at u;rw[D (by rw[show dy x.params=true from u];decide)]at h
        cases q:sub p.ah (fN p.ah) nx.toNat with
        |none=>rw[q]at h;cases h
        |some t =>
        rw[q]at h;simp only at h;have W:=Bw p (fun n T=>(A.ah.2 n T).2) _ _ _ q;rw[Int.toNat_of_nonneg O]at W;have l:=QZ t ((Yt (fun n T=>by have:=A.ah.2 n T;omega) _).1 _ _ q)
        by_cases C:t.n.ab=14
        ·have i:(t.n.ab != 14)=false:=by simpa using C
         cases w:ef t with
         |false =>
          rw[w]at l;rw[ae (.inr w)]at h;cases h;refine Z ?_;refine I [] W ?_;refine I [] l ?_;exact aw
         |true =>
          rw[w]at l;rw[D (by rw[w];simp[C])]at h;refine Z ?_;refine I [] W ?_;refine I [] l ?_;exact⟨rfl,rfl,_,_,(Wk.cut (n:=1) (ed rfl) rfl).trans (Wk.aW az),_,rfl,rfl,by omega,h⟩
        ·have i:(t.n.ab != 14)=true:=by simpa using C
         rw[ae (.inl C)]at h;cases h;refine Z ?_;refine I [] W ?_;exact aw
    ·have J:(x.body != nx)=true:=by simpa using M
     rw[ae (.inl M)]at h;cases h;refine zdr ?_;exact aw
   ·clear h u;rintro _ _⟨nx,rfl,rfl,O,h⟩;rw[bC,drop_length,jl]at h;simp only at h;cases h
    cases M:(nx==(p.ah.length:Int))with
    |false =>
     have J:(nx==((p.ah.map aP).length:Int))=false:=by rw[bC];exact M
     exact aB
    |true =>
     have J:(nx==((p.ah.map aP).length:Int))=true:=by rw[bC];exact M
     exact aB
open Go.Xp (levels)
def nX(k:Int)(s:ai):Int:=if k=6 then(match levels.findIdx? (fun l=>l.contains s)with|some i=>(i:Int)|none => -1)else 9
def Lu(t:T):GF prog 357 [.agg (cT t)] [] (.v (.int .i64 (nX t.n.ab t.n.s))) []:=by
 refine dT func357 ntmps357 ?_
 by_cases S:t.n.ab=6
 ·have H:(t.n.ab != 6)=false:=by simpa using S
  unfold nX;rw[ae S];refine Z ?_;refine I [] jW ?_;refine GW.range (levels.map fun l=>[strs l]).length (fun k z W=>z=[U,.loc 0 0,U,U,U,U,U,U,U,U,U,.sl 1 (levels.map fun l=>[strs l]),y4 ((levels.map fun l=>[strs l]).length:Int),y4 (k:Nat),U,U,U,U,U,U,U,U,U,U,U]/\W=[.box 89 (cT t)]/\((levels.take k).any fun l=>l.contains t.n.s)=false) ?_ aN ?_ ?_ ?_
  ·exact kz
  ·exact iI
  ·rintro k _ _ m⟨rfl,rfl,u⟩
   have m:k<levels.length:=by simpa using m
   have hx:levels[k]?=some levels[k]:=by simp[m]
   have r:(levels.map fun l=>[strs l])[k]?=some [strs levels[k]]:=by simp[m]
   have B:levels[k].length<=1099511627776:=by
    have:∀l∈levels,l.length<=1099511627776:=by decide
    exact this _ (List.getElem_mem m)
   have o:levels[k].contains t.n.s=true->levels.findIdx? (fun l=>l.contains t.n.s)=some k:=by
    intro q;rw[findIdx?_eq_some_iff_getElem];refine⟨m,q,fun j G=>?_⟩;rw[any_eq_false]at u;refine u _ ?_;rw[List.mem_take_iff_getElem];exact⟨j,by omega,rfl⟩
   generalize levels[k]=x at *;have M:=kv x t.n.s B
   cases w:x.contains t.n.s with
   |true =>
    rw[w]at M;rw[o w];refine zcn ?_;exact aw
   |false =>
    rw[w]at M;refine zcn ?_;exact⟨rfl,rfl,_,_,Wk.aW az,rfl,rfl,by rw[dc,hx,any_append,u];simp only[Option.toList,List.any_cons,List.any_nil,w];rfl⟩
  ·rintro _ _⟨rfl,rfl,u⟩;rw[kK ze6]at u
   have V:levels.findIdx? (fun l=>l.contains t.n.s)=none:=by
    rw[List.findIdx?_eq_none_iff];intro x hx;rw[any_eq_false]at u;simpa using u x hx
   rw[V];exact aB
 ·have H:(t.n.ab != 6)=true:=by simpa using S
  unfold nX;rw[D S];refine Z ?_;refine I [] jW ?_;exact aw
open Go.Xp (bD gN Fi)
def TU(n:Int):GF prog 343 [y4 n] [] (y4 (n%4294967296)) []:=by
 refine aj func343 ntmps343 ?_;exact aw
def V0(n:Int):GF prog 342 [y4 n] [] (y4 (bD n)) []:=by
 unfold bD
 have w:0<=n%4294967296/\n%4294967296<4294967296:=by omega
 have A:=TU n;generalize n%4294967296=m at *;refine dT func342 ntmps342 ?_
 by_cases h:m>2147483647
 ·have L:decide ((2147483647:Int)<m)=true:=by simpa using h
  rw[ae h];refine zeq ?_;exact aw
 ·have L:decide ((2147483647:Int)<m)=false:=by simpa using h
  rw[D h];refine zeq ?_;exact aw
def DQ(k:Nat)(h:k<=57):[[GV.v (.int .u8 (k:Int))]]=[UInt8.ofNat k].map fun c=>[GV.v (.int .u8 (c.toNat:Int))]:=by
 have:(UInt8.ofNat k).toNat=k:=by simp;omega
 simp[this]
def HO(n:Nat)(hn:n<=1099511627776):GF prog 373 [y4 (n:Int)] [] (.v (sv (gN n))) []:=by
 induction n using Nat.strongRecOn with
 |_ n O =>
 unfold gN;refine dT func373 ntmps373 ?_
 by_cases h:n<10
 ·have L:decide ((n:Int)<10)=true:=by simpa using by omega
  have R:=DQ (48+n) X;rw[Int.natCast_add]at R;rw[dif_pos h];refine Z ?_;refine bL ?_;exact aB
 ·have L:decide ((n:Int)<10)=false:=by simpa using by omega
  rw[dif_neg h];have k:=O (n / 10) X X;have T:=Fi (n / 10);have R:=DQ (48+n%10) X;rw[Int.natCast_add]at R;refine Z ?_;refine aS (.q 0 (.q 1 (aK 3 4 (.f 2 (.a 7 (aK 8 3 .nil)) 7 (.q 8 (.a 2 (.q 9 (.q 10 .nil)))))))) ?_;refine av ?_;refine GO.fork ?_ ?_
  ·refine aJ [] k ?_;refine zar ?_;exact aB
  ·refine zar ?_;refine aJ [] k ?_;exact aB
end Go.Xg
set_option maxHeartbeats 2000000
namespace Go.Xg
open Go.RowKit Go.Xw Go.Proofs
attribute [local irreducible] GW GL GO YG GC GA bh bn
def JW{p:Nat->Bool}{Γ:ap}(h:∀x∈Γ,x.uG=true):qW p Γ=true:=by
 induction Γ with
 |nil=>rfl
 |cons x r O =>
  rw[qW,O fun y J=>h y (ew _ J),Bool.and_true];have:=h x List.mem_cons_self
  cases x<;>first|rfl|cases this
section
variable{P:Program}{fn:Func}{m:Nat}{R:GV->ap->Prop}{fr:am}{Γ:ap}{e:Exit}
end
end Go.Xg
namespace Go.Xg
open Go.RowKit Go.Xw Go.Proofs
def J3{x:Ob}(h:x.uG=true)(f:Nat->Nat):x.eJ f=x:=by cases x<;>first|rfl|cases h
def UR{ab7:ap}(h:∀x∈ab7,x.uG=true)(f:Nat->Nat):ab7.map (Ob.eJ f)=ab7 :=
 (List.map_congr_left fun x hx=>J3 (h x hx) f).trans (List.map_id _)
def Ia(s n N:Nat)(h:s+n<=N):kj (List.range' s n) N=true:=by
 induction n generalizing s with
 |zero=>rfl
 |succ n O =>
  rw[List.range'_succ,kj,O (s+1) X]
  have M:Nat.blt s N=true:=by rw[Nat.blt_eq];omega
  have v:(List.range' (s+1) n).contains s=false:=by
   cases k:(List.range' (s+1) n).contains s with
   |false=>rfl
   |true =>
    have:=List.mem_range'_1.1 (l9.1 k);omega
  rw[M,v];rfl
def Bo(f:Nat->Nat):∀(ab7 A C:ap),(∀x∈ab7,x.uG=true)->seen f (A++(ab7++C)) (List.range' A.length ab7.length) ab7
 |[],A,C,_=>trivial
 |x::ab7,A,C,h=>by
  rw[length_cons,List.range'_succ,seen];refine⟨by rw[lz (aQ _),sY,J3 (h x List.mem_cons_self)];rfl,?_⟩
  have:=Bo f ab7 (A++[x]) C fun y J=>h y (ew _ J)
  rw[bf,List.length_singleton,gS]at this;exact this
section
variable{P:Program}{m:Nat}{Q:dU}{fr:am}{Γ:ap}{ops:Array Oper}{rest:List Oper}{d:Option Tmp}{op:Op}{ty:TypeId}{pos:String}{af:Array Edge}
end
attribute [local irreducible] GW GL GO YG GC GA bh bn
def P3{S b:Type}{f:S->Value->b}{l:List S}{q:List Value}{i:Nat}{x:S}{h:Value}(M:l[i]?=some x)(v:q[i]?=some h):(List.zipWith f l q)[i]?=some (f x h):=by rw[List.getElem?_zipWith,M,v]
end Go.Xg
namespace Go.Xg
open Go.RowKit Go.Xw
def V5(A C:ap)(x:Ob):(A++x::C)[A.length]?=some x:=by
 rw[lz (aQ _),sY];rfl
def Al(A C:ap)(x y:Ob):oset (A++x::C) A.length y=A++y::C:=by
 rw[bS,List.set_append_right _ _ (aQ _),sY];rfl
def JV(q:Nat->Bool):∀(A B:ap),qW q (A++B)=(qW q A&&qW q B)
 |[],B=>by simp[qW]
 |a::A,B=>by simp only[cons_append,qW,JV q A B,Bool.and_assoc]
section
variable(a b c d e:Ob)(ab7:ap)(k x y:Ob)
end
section
variable{P:Program}{m:Nat}{Q:dU}{fr:am}{Γ:ap}{ops:Array Oper}{rest:List Oper}{d:Option Tmp}{op:Op}{ty:TypeId}{pos:String}{af:Array Edge}
def Wk.Ug{A:ap}{x:Ob}(G:Γ=A++[x])(H:m<=A.length)(ha:∀q,qW q A=true):Wk m fr Γ (u9 A.length fr) A:=by
 subst G;have h:=Wk.cut (m:=m) (fr:=fr) (Γ:=A++[x]) (n:=A.length) H (by simp[ha]);simpa using h
def GL.abk{t:TypeId}{z:Value}{agg:Bool}{k:Nat}[N:ps P t z][L:Ty P t agg k]{B ts:Tmp}{cs:am}{H:TypeId}{l:String}{w:Array Edge}{n:Option Tmp}(C:z.cells.size=k)(J:mI (cJ fr ts)=some cs)(q:Nat.beq ts B=false)(A:jc fr B=true)(s:cs.length=k)(M:oa cs=true)
  (h:GL P m ops Q rest (bN (bN fr (some B) (.loc Γ.length 0)) n (.v undef)) (Γ++[.box t cs])):GL P m ops Q (⟨some B,.alloc t,ty,pos,af,none⟩::⟨n,.store t (.tmp B) (.tmp ts),H,l,w,none⟩::rest) fr Γ:=by
 refine GL.alloc (cs:=gB z.cells.toList) rfl ?_
 have S:ts≠B:=by intro e;subst e;simp at q
 have r:∀(fr:am)(t:Nat)(g:GV),jc fr t=true->cJ (bU fr t g) t=g:=by
  intro fr
  induction fr with
  |nil=>intro t g h;cases h
  |cons x fr O=>intro t g h;cases t with|zero=>rfl|succ t=>exact O t g h
 have j:∀(fr:am)(t u:Nat)(g:GV),u≠t->cJ (bU fr t g) u=cJ fr u:=by
  intro fr
  induction fr with
  |nil=>intro t u g _;rfl
  |cons x fr O =>
   intro t u g h
   cases t with
   |zero=>cases u with|zero=>exact absurd rfl h|succ u=>rfl
   |succ t=>cases u with|zero=>rfl|succ u=>exact O t u g X
 have F:(gB z.cells.toList).length=k:=by simp[gB,C]
 refine GL.st (i:=Γ.length) (o:=0) (E:=t) (cs:=gB z.cells.toList) (gs:=cs) (r fr B _ A) ze6 ?_ s M (by rw[F];simp) ?_
 ·show mI (cJ (bU fr B _) ts)=some cs;rw[j fr B ts _ S];exact J
 ·have G:pI (gB z.cells.toList) 0 cs=cs:=by
   have:=AQ cs (gB z.cells.toList) [] (by rw[F,s]);exact zdQ
  rw[G];have e:=Al Γ [] (.box t (gB z.cells.toList)) (.box t cs);rw[e];exact h
end
section
variable{P:Program}{fn:Func}{R:GV->ap->Prop}{fr:am}{Γ:ap}{e:Exit}
end
def CP{A B:Prop}(h:B)(s:Hid B->A:=by intro G;(repeat (first|((first|(apply GL.q;(· exact Ma))|refine GL.nil ?_|refine bl ?_|refine GW.seq ?_|refine GW.region ?_|refine GW.skip ?_|refine jm ?_|refine GW.block ?_|(apply GL.gt;(· exact rfl);(· first|exact rfl|assumption))|(apply GL.gf;(· exact rfl);(· first|exact rfl|assumption))|(apply GL.gu;(· exact rfl))|(apply Mr;(· exact rfl);(· first|exact rfl|assumption))|(apply Mq;(· exact rfl);(· first|exact rfl|assumption)));try refine GN sX ?_)|((first|(apply GL.box;(· exact rfl))|(apply GL.st;(· exact rfl);(· exact rfl);(· exact rfl);(· exact rfl);(· exact rfl);(· exact rfl)));refine rV di ec ?_)));exact G.1):A:=s ⟨h⟩
open Go.Proofs Tryz Go.Im
open GV (U)
open Go.Xp (Ar)
open Go.Sp (Src)
attribute [local irreducible] GW GL GO YG GC GA bh bn
def Og(s:ai):GF prog 46 [.v (sv s)] [] (.v (.bool (jN s))) []:=by
 unfold jN lU lr cB
 cases M:(s==[103,101,116])
 all_goals cases w:(s==[112,117,116])
 all_goals
  refine aj func46 ntmps46 ?_;exact aw
section
variable{qe:FuncId}
def ER[eI prog qe](C:Go.Sp.Fn->Bool)(l:List (Go.Sp.Fn))(hn:l.length<=1099511627776)(n:∀x∈l,GF prog qe [.agg (aH x)] [] (.v (.bool (C x))) []) :
  GF prog 113 [.sl 3 (l.map aH),.v (.func (.func qe) #[] #[])] [] (y4 (bM C l)) []:=by
 have N:(l.map aH).length=l.length:=by simp
 refine aj func113 ntmps113 ?_;refine GW.range (l.map aH).length (fun k z W=>z=[.sl 3 (l.map aH),.v (.func (.func qe) #[] #[]),U,U,U,U,U,y4 ((l.map aH).length:Int),y4 (k:Nat),U,U,U,U,U,U,U,U,U,U]/\W=[]/\(l.take k).all (fun y=>!C y)=true) ?_ X ?_ ?_ ?_
 ·exact kz
 ·exact iI
 ·rintro k _ _ M⟨rfl,rfl,m⟩;rw[N]at M;obtain⟨x,u⟩:∃x,l[k]?=some x:=⟨l[k],by simp[M]⟩
  have r:(l.map aH)[k]?=some (aH x):=by rw[bO,u];rfl
  have h:=n x (bB u);have j:=nq (f:=C) u
  have hit:=fun s=>oR (f:=C) u s m
  unfold aH at r h
  cases w:C x with
  |true =>
   rw[w]at h;rw[hit w];refine Z ?_;refine jT [] h ?_;exact aB
  |false =>
   rw[w]at h j;refine Z ?_;refine jT [] h ?_;exact zb4
 ·rintro _ _⟨rfl,rfl,m⟩;exact zdl
def uo[eI prog qe](C:Go.Sp.Fn->Bool)(l:List (Go.Sp.Fn))(hn:l.length<=1099511627776)(k:∀x∈l,GF prog qe [.agg (aH x)] [] (.v (.bool (C x))) []) :
  GF prog 66 [.sl 3 (l.map aH),.v (.func (.func qe) #[] #[])] [] (.v (.bool (l.any C))) []:=by
 have h:=ER C l hn k;rw[<-Dj];generalize bM C l=z at *;refine aj func66 ntmps66 ?_;exact zbg
def Eh[eI prog qe](C:Go.Sp.Fn->Bool)(s:ai)(l:List (Go.Sp.Fn))(hn:l.length<=1099511627776)(n:∀x∈l,GF prog qe [.agg (aH x),.box [.v (sv s)] 0] [] (.v (.bool (C x))) []) :
  GF prog 113 [.sl 3 (l.map aH),.fn (.func qe) [] [.box [.v (sv s)] 0]] [] (y4 (bM C l)) []:=by
 have N:(l.map aH).length=l.length:=by simp
 refine aj func113 ntmps113 ?_;refine GW.range (l.map aH).length (fun k z W=>z=[.sl 3 (l.map aH),.fn (.func qe) [] [.box [.v (sv s)] 0],U,U,U,U,U,y4 ((l.map aH).length:Int),y4 (k:Nat),U,U,U,U,U,U,U,U,U,U]/\W=[]/\(l.take k).all (fun y=>!C y)=true) ?_ X ?_ ?_ ?_
 ·exact kz
 ·exact iI
 ·rintro k _ _ M⟨rfl,rfl,m⟩;rw[N]at M;obtain⟨x,u⟩:∃x,l[k]?=some x:=⟨l[k],by simp[M]⟩
  have r:(l.map aH)[k]?=some (aH x):=by rw[bO,u];rfl
  have h:=n x (bB u);have j:=nq (f:=C) u
  have hit:=fun t=>oR (f:=C) u t m
  unfold aH at r h
  cases w:C x with
  |true =>
   exact zeF
  |false =>
   rw[w]at h j;refine Z ?_;refine ll [] h ?_;exact zb4
 ·rintro _ _⟨rfl,rfl,m⟩;exact zdl
def Eg[eI prog qe](C:Ar->Bool)(s:ai)(l:List (Ar))(hn:l.length<=1099511627776)(n:∀x∈l,GF prog qe [.agg (bb x),.box [.v (sv s)] 0] [] (.v (.bool (C x))) []) :
  GF prog 111 [.sl 2 (l.map bb),.fn (.func qe) [] [.box [.v (sv s)] 0]] [] (y4 (bM C l)) []:=by
 have N:(l.map bb).length=l.length:=by simp
 refine aj func111 ntmps111 ?_;refine GW.range (l.map bb).length (fun k z W=>z=[.sl 2 (l.map bb),.fn (.func qe) [] [.box [.v (sv s)] 0],U,U,U,U,U,y4 ((l.map bb).length:Int),y4 (k:Nat),U,U,U,U,U,U,U,U,U,U]/\W=[]/\(l.take k).all (fun y=>!C y)=true) ?_ X ?_ ?_ ?_
 ·exact kz
 ·exact iI
 ·rintro k _ _ M⟨rfl,rfl,m⟩;rw[N]at M;obtain⟨x,u⟩:∃x,l[k]?=some x:=⟨l[k],by simp[M]⟩
  have r:(l.map bb)[k]?=some (bb x):=by rw[bO,u];rfl
  have h:=n x (bB u);have j:=nq (f:=C) u
  have hit:=fun t=>oR (f:=C) u t m
  unfold bb at r h
  cases w:C x with
  |true =>
   exact zeF
  |false =>
   rw[w]at h j;refine Z ?_;refine ll [] h ?_;exact zb4
 ·rintro _ _⟨rfl,rfl,m⟩;exact zdl
end
def Uw(x:Go.Sp.Fn)(s:ai):GF prog 114 [.agg (aH x),.box [.v (sv s)] 0] [] (.v (.bool (x.name==s))) []:=by
 unfold aH;refine aj func114 ntmps114 ?_;exact aw
def tM(p:Src)(s:ai)(hn:p.ak.length<=1099511627776):GF prog 52 [.agg (aD p),.v (sv s)] [] (y4 (bM (fun x:Go.Sp.Fn=>x.name==s) p.ak)) []:=by
 have h:=Eh (fun x:Go.Sp.Fn=>x.name==s) s p.ak hn (fun x _=>Uw x s);generalize bM (fun x:Go.Sp.Fn=>x.name==s) p.ak=z at *;refine dT func52 ntmps52 ?_;exact zb2
def KV(x:Ar)(s:ai):GF prog 112 [.agg (bb x),.box [.v (sv s)] 0] [] (.v (.bool (x.name==s))) []:=by
 unfold bb;refine aj func112 ntmps112 ?_;exact aw
def uz(p:Src)(s:ai)(hn:p.aq.length<=1099511627776):GF prog 51 [.agg (aD p),.v (sv s)] [] (y4 (bM (fun x:Ar=>x.name==s) p.aq)) []:=by
 have h:=Eg (fun x:Ar=>x.name==s) s p.aq hn (fun x _=>KV x s);generalize bM (fun x:Ar=>x.name==s) p.aq=z at *;refine dT func51 ntmps51 ?_;exact zb2
def L8(x:Go.Sp.Fn):GF prog 136 [.agg (aH x)] [] (.v (.bool (decide (x.params.length>40)))) []:=by
 have h:decide ((40:Int)<((x.params.map fun s=>[GV.v (sv s)]).length:Int))=decide (x.params.length>40):=by
  rw[bC];exact decide_eq_decide.2 X
 rw[<-h];unfold aH strs;refine aj func136 ntmps136 ?_;exact aw
def P4(x:Go.Sp.Fn):GF prog 67 [.agg (aH x)] [] (.v (.bool (nM x))) []:=by
 have h:(((x.params.map fun s=>[GV.v (sv s)]).length:Int)==0)=(x.params.length==0):=by
  rw[bC];exact Bool.eq_iff_iff.2 ze6
 unfold nM eU;rw[<-h];unfold aH strs
 cases M:(x.name==[109,97,105,110])
 all_goals
  refine aj func67 ntmps67 ?_;exact aw
section
variable{B:Bs}{K:Fz}{β:Bt}{w:World}{l:List Value}{fr:am}{A C:ap}
def ic{x y:Operand}{E k:Nat}{rows:List am}{h z:Value}(N:Inv B K β (A++(.vech E k rows h::C)) w)(S:FR K β fr l)(hx:a8 fr x=.v h)(J:a8 fr y=.v z) :
  ∃W,nY W w/\mb W (fun _=>.no) w/\bA W (fun _=>.no) ([x,y].map (ev l)) [.sl k rows,.v z]:=by
 obtain⟨W,m,M,F,G⟩:=N.view (i:=A.length) (E:=E) (k:=k) (rows:=rows) (x:=h) (by rw[lz (aQ _),sY];rfl);refine⟨W,M,F,?_⟩;show bA W _ [ev l x,ev l y] _;rw[S.eT hx,S.eT J];exact .cons G (.cons (.v _) .nil)
end
def rE(l:List ai):(bX l).length=l.length:=by simp[bX]
def Qa(xs:List Int)(s:Int)(T:xs.length<=1099511627776):GF prog 208 [ints xs,y4 s] [] (y4 (bM (fun x=>s==x) xs)) []:=by
 have N:(xs.map fun i=>[y4 i]).length=xs.length:=by simp
 refine aj func208 ntmps208 ?_;refine GW.range (xs.map fun i=>[y4 i]).length (fun k fr W=>fr=[ints xs,y4 s,U,U,U,U,ints xs,y4 ((xs.map fun i=>[GV.v (ii i)]).length:Int),y4 (k:Nat),U,U,U,U,U,U,U,U,U,U]/\W=[]/\((xs.take k).all fun x=>!(s==x))=true) ?_ X ?_ ?_ ?_
 ·exact kz
 ·exact iI
 ·rintro k _ _ M⟨rfl,rfl,m⟩;rw[N]at M;obtain⟨x,u⟩:∃x,xs[k]?=some x:=⟨xs[k],by simp[M]⟩;have r:=ep u;have j:=nq (f:=fun y:Int=>s==y) u
  have hit:=fun t=>oR (f:=fun y:Int=>s==y) u t m
  cases z:(s==x)with
  |true =>
   rw[hit z];exact aB
  |false =>
   refine Z ?_;exact⟨rfl,rfl,_,_,Wk.aW az,rfl,rfl,by rw[j,m,z];rfl⟩
 ·rintro _ _⟨rfl,rfl,m⟩;exact zdl
def za(xs:List Int)(s:Int)(T:xs.length<=1099511627776):GF prog 153 [ints xs,y4 s] [] (.v (.bool (xs.contains s))) []:=by
 have t:=Qa xs s T
 have R:xs.contains s=xs.any (fun x=>s==x):=by rw[List.contains_eq_any_beq]
 rw[R,<-Dj];generalize bM (fun x=>s==x) xs=i at *;refine aj func153 ntmps153 ?_;refine I [] t ?_;exact aw
end Go.Xg
set_option maxHeartbeats 4000000
namespace Go.Xg
open Go.RowKit Go.Xw Go.Proofs Go.Im
attribute [local irreducible] GW GL GO YG GC GA bh bn
def w8(l:List ai):ny (l.map fun s=>[GV.v (sv s)])=true:=by
 induction l with
 |nil=>rfl
 |cons s l O=>rw[List.map_cons,ny,O];rfl
def GW.Fl{P:Program}{m:Nat}{c:Code}{Q:dU}{fr de:am}{Γ bE:ap}(M:tB fr de)(v:Γ=bE)(h:GW P m c Q de bE):GW P m c Q fr Γ:=by
 subst v;exact GW.wk (Wk.aW M) h
open Tryz
open Go.Xp (Nd)
open Go.Sp (Src)
def sP(n:Nd):Bool:=(n.ab==4&&n.s==[115,105,122,101])&&((n.au.length:Int)==1)
def wM(p:Src)(a:Nat)(n:Nd)(hn:p.ah[a]?=some n):GF prog 138 [.agg (aD p),y4 (a:Nat)] [] (.v (.bool (sP n))) []:=by
 have r:=b8 hn
 have A:(n.au.map fun i=>[y4 i]).length=n.au.length:=by simp
 unfold sP;rw[<-A];unfold aP ints at r;generalize(n.au.map fun i=>[y4 i])=B at *
 cases M:(n.ab==4)
 all_goals cases w:(n.s==[115,105,122,101])
 all_goals
  refine aj func138 ntmps138 ?_;exact aw
def XK(p:Src)(s:ai)(hn:p.ak.length<=1099511627776):GF prog 259 [.agg (aD p),.v (sv s)] [] (y4 (jr p s)) []:=by
 have S:=tM p s hn;unfold jr lU lr cB
 cases M:(s==[103,101,116])with
 |true =>
  rw[ae zfc];exact zd9
 |false =>
  rw[D zfc]
  cases w:(s==[112,117,116])with
  |true =>
   rw[ae (.inl zfF)];exact zd9
  |false =>
   cases z:(s==[115,105,122,101])with
   |true =>
    rw[ae (.inr zfv)];exact zd9
   |false =>
    rw[D (by simpa using And.intro (show ¬s=[112,117,116] by simpa using w) (show ¬s=[115,105,122,101] by simpa using z))];unfold bM at S
    cases hx:p.ak.findIdx? (fun f:Go.Sp.Fn=>f.name==s)with
    |none =>
     rw[hx]at S
     have F:decide ((0:Int) <= -1)=false:=by decide
     refine aj func259 ntmps259 ?_;exact zca
    |some i =>
     rw[hx]at S;have u:i<p.ak.length:=(List.findIdx?_eq_some_iff_getElem.1 hx).1;obtain⟨f,t⟩:∃f,p.ak[i]?=some f:=⟨p.ak[i],by simp[u]⟩
     have r:(p.ak.map aH)[i]?=some (aH f):=by rw[bO,t];rfl
     have A:(f.params.map fun s=>[GV.v (sv s)]).length=f.params.length:=by simp
     have F:decide ((0:Int)<=((i:Nat):Int))=true:=by simp
     unfold aH at r;simp only at S |-;unfold mM;rw[t];simp only;rw[<-A];refine aj func259 ntmps259 ?_;exact zca
open Go.Xp (T Ar db)
def yJ{p:Src}{a:Nat}{n:Nd}{l:List T}(E:dW p.ah a (.mk n l)):b9 (.mk n l)=sP n:=by
 rw[dW]at E;unfold b9 sP cB
 congr 1
 rw[E.2.1,db]
 exact Bool.eq_iff_iff.2 (by
  show((l.length==1)=true)↔_
  simp only[beq_iff_eq];omega)
section
variable(p:Src)(a:Nat)(n:Nd)(l:List T)(ls:List ai)
def HJ(E:dW p.ah a (.mk n l))(q:p.ak.length<=1099511627776)(k:p.aq.length<=1099511627776)(J:ls.length<=1099511627776) :
  GF prog 200 [.agg (aD p),y4 (a:Nat),strs ls] [] (y4 (dH p (.mk n l) ls)) []:=by
 have O:=yJ E;rw[dW]at E;have⟨W,t,d⟩:=E;have S:=wM p a n W;have B:=b8 W
 have A:(n.au.map fun i=>[y4 i]).length=l.length:=by rw[bC,t,db]
 unfold dH;rw[O]
 cases o:sP n with
 |true =>
  rw[o]at S;rw[ae rfl]
  have V:l.length=1:=by
   unfold sP at o;simp only[aU,beq_iff_eq]at o;rw[t,db]at o;omega
  obtain⟨u,rfl⟩:∃u,l=[u]:=by
   match l,V with
   |[u],_=>exact⟨u,rfl⟩
  have H:p.ah[a+1]?=some u.n:=by
   rw[dQ]at d;have:=d.1
   cases u;rw[dW]at this;exact this.1
  have N:n.au[0]?=some (((a+1:Nat)):Int):=by rw[t];rfl
  have L:=ep N;have C:=b8 H;show GF _ _ _ _ (y4 (if ga p u.n ls=true then 24 else 0)) _;generalize u.n=m at *;have e:=uz p m.s k;have F:=lM ls m.s J;have G:ga p m ls=((m.ab != 2 ||decide (bM (fun x:Ar=>x.name==m.s) p.aq<0)) ||ls.contains m.s):=rfl;rw[G];generalize bM (fun x:Ar=>x.name==m.s) p.aq=z at *;unfold aP at B C
  cases M:(m.ab != 2)with
  |true =>
   refine aj func200 ntmps200 ?_;refine zez ?_;exact zby
  |false =>
   cases w:decide (z<0)with
   |true =>
    refine aj func200 ntmps200 ?_;refine zez ?_;refine bp ?_;exact zdO
   |false =>
    generalize ls.contains m.s=b at *;cases b
    all_goals
     refine aj func200 ntmps200 ?_;refine zez ?_;refine bp ?_;refine I [] e ?_;refine I [] F ?_;exact aw
 |false =>
  rw[o]at S;rw[D aN];have r:=XK p n.s q;show GF _ _ _ _ (y4 (if jr p n.s = -1 then 22 else if jr p n.s=(l.length:Int)then 0 else 23)) _;generalize jr p n.s=z at *;rw[<-A];unfold aP at B;unfold ints at B;generalize(n.au.map fun i=>[y4 i])=Q at *
  cases M:(z == -1)with
  |true =>
   rw[ae zfc];exact zbZ
  |false =>
   rw[D zfc]
   cases w:(z==(Q.length:Int))with
   |true =>
    rw[ae zfF];exact zbZ
   |false =>
    rw[D zfF];exact zbZ
def H7(E:dW p.ah a (.mk n l))(q:p.ak.length<=1099511627776)(k:p.aq.length<=1099511627776)(r:p.ax.length<=1099511627776)(J:ls.length<=1099511627776) :
  GF prog 139 [.agg (aD p),y4 (a:Nat),strs ls] [] (y4 (bG p (.mk n l) ls)) []:=by
 have L:=HJ p a n l ls E q k J
 have V:p.ah[a]?=some n:=by rw[dW]at E;exact E.1
 clear E;have G:=b8 V;have m:=lM ls n.s J;have F:=lM p.ax n.s r;have i:=uz p n.s k
 have C:(ls.map fun s=>[GV.v (sv s)]).length=ls.length:=by simp
 have S:bG p (.mk n l) ls=(if n.ab=13 then(if ls.contains n.s=true then 21 else if ls.length>=40 then 26 else 0)
  else if n.ab=2\/n.ab=7 then(if ls.contains n.s=false/\p.ax.contains n.s=false then 22 else 0)
  else if n.ab=3\/n.ab=8 then(if ls.contains n.s=true\/bM (fun x:Ar=>x.name==n.s) p.aq<0 then 24 else 0)
  else if n.ab=4 then dH p (.mk n l) ls else 0):=rfl
 rw[S];generalize dH p (.mk n l) ls=j at *;have⟨c,at_,d,s,W⟩:=n;simp only at *;unfold aP at G;simp only at G;generalize bM (fun x:Ar=>x.name==s) p.aq=z at *;generalize ls.contains s=b at *;generalize p.ax.contains s=g at *;rw[<-C]
 by_cases e:c=13
 ·subst e
  have t:((13:Int)==13)=true:=by decide
  rw[ae rfl]
  cases b with
  |true =>
   exact zaB
  |false =>
   cases N:decide ((40:Int)<=(((ls.map fun s=>[GV.v (sv s)]).length:Nat):Int))with
   |true =>
    rw[D aN,ae (by simp at N;omega)];exact zaB
   |false =>
    rw[D aN,D (by simp at N;omega)];exact zaB
 rw[D e]
 by_cases w:c=2
 ·subst w
  have t:((2:Int)==13)=false:=by decide
  have u:((2:Int)==2)=true:=by decide
  rw[ae aN]
  cases b with
  |true =>
   exact zaB
  |false =>
   cases g
   all_goals
    exact zdR
 by_cases R:c=7
 ·subst R
  have t:((7:Int)==13)=false:=by decide
  have u:((7:Int)==2)=false:=by decide
  have M:((7:Int)==7)=true:=by decide
  rw[ae aN]
  cases b with
  |true =>
   exact zaB
  |false =>
   cases g
   all_goals
    exact zdR
 rw[D (by rintro(h|h);(· exact w h);exact R h)]
 by_cases A:c=3
 ·subst A
  have t:((3:Int)==13)=false:=by decide
  have u:((3:Int)==2)=false:=by decide
  have M:((3:Int)==7)=false:=by decide
  have O:((3:Int)==3)=true:=by decide
  rw[ae aN]
  cases b with
  |true =>
   exact zaB
  |false =>
   cases o:decide (z<0)with
   |true =>
    rw[ae (.inr zfG)];exact zbi
   |false =>
    exact zdX
 by_cases B:c=8
 ·subst B
  have t:((8:Int)==13)=false:=by decide
  have u:((8:Int)==2)=false:=by decide
  have M:((8:Int)==7)=false:=by decide
  have O:((8:Int)==3)=false:=by decide
  have H:((8:Int)==8)=true:=by decide
  rw[ae aN]
  cases b with
  |true =>
   exact zaB
  |false =>
   cases o:decide (z<0)with
   |true =>
    rw[ae (.inr zfG)];exact zbi
   |false =>
    exact zdX
 rw[D (by rintro(h|h);(· exact A h);exact B h)]
 by_cases N:c=4
 ·subst N
  have t:((4:Int)==13)=false:=by decide
  have u:((4:Int)==2)=false:=by decide
  have M:((4:Int)==7)=false:=by decide
  have O:((4:Int)==3)=false:=by decide
  have H:((4:Int)==8)=false:=by decide
  have Q:((4:Int)==4)=true:=by decide
  rw[ae rfl];refine aj func139 ntmps139 ?_;refine I [] m ?_;refine I [] L ?_;exact aw
 rw[D N]
 have t:(c==13)=false:=by simpa using e
 have u:(c==2)=false:=by simpa using w
 have M:(c==7)=false:=by simpa using R
 have O:(c==3)=false:=by simpa using A
 have H:(c==8)=false:=by simpa using B
 have Q:(c==4)=false:=by simpa using N
 exact zaB
end
def FC{K W:Fz}{β:Bt}{v:Value}{gs:am}(k:cY K W)(A:∀g∈gs,g.pc=true)(h:Rel K β v (.agg gs)):Rel W (fun _=>.no) v (.agg gs):=by
 cases h with
 |agg d J T h =>
  exact .agg d gs T fun i v g M w=>((h i v g M w).mono k (dO.refl β)).pc (A g (bB w))
def Le(p:Src):∀g∈aD p,g.pc=true:=fun g B=>by
 simp only[aD,List.mem_cons,List.not_mem_nil,or_false]at B
 rcases B with rfl|rfl|rfl|rfl<;>rfl
def lQ{B:Bs}{K:Fz}{β:Bt}{w:World}{l:List Value}{fr:am}{A C:ap}{p:Src}{x y u:Operand}{E k:Nat}{rows:List am}{h z:Value}(N:Inv B K β (A++(.vech E k rows h::C)) w)(S:FR K β fr l)(hx:a8 fr x=.agg (aD p))(J:a8 fr y=.v z)(n:a8 fr u=.v h) :
  ∃W,nY W w/\mb W (fun _=>.no) w/\bA W (fun _=>.no) ([x,y,u].map (ev l)) [.agg (aD p),.v z,.sl k rows]:=by
 obtain⟨W,m,M,F,G⟩:=N.view (i:=A.length) (E:=E) (k:=k) (rows:=rows) (x:=h) (by rw[lz (aQ _),sY];rfl);have r:=S.ev x;rw[hx]at r;refine⟨W,M,F,?_⟩;show bA W _ [ev l x,ev l y,ev l u] _;rw[S.eT J,S.eT n];exact .cons (FC m (Le p) r) (.cons (.v _) (.cons G .nil))
def VC(p:Src)(a:Nat)(n:Nd)(l:List T)(ls:List ai)(c:CS)(Q R S:TypeId)(s:Option Addr)(t:Nat)(e:dW p.ah a (.mk n l))(H:p.ak.length<=1099511627776)(G:p.aq.length<=1099511627776)(J:p.ax.length<=1099511627776)(N:ls.length<=1099511627776) :
  GF prog 137 [y4 (a:Nat),.v (.slice s ls.length t),.loc 0 0,.loc 1 0,.box (aD p) 0,.loc 2 0] [.box Q [y4 c.code],.box R [y4 c.skip],.box S [y4 c.place],.vech 9 1 (bX ls) (.slice s ls.length t)] (.tup [])
   [.box Q [.v (ii (dB p c a (.mk n l) ls).code)],.box R [.v (ii (dB p c a (.mk n l) ls).skip)],.box S [.v (ii (dB p c a (.mk n l) ls).place)],.vech 9 1 (bX ls) (.slice s ls.length t)]:=by
 have hs:=yJ e;have k:=H7 p a n l ls e H G J N;rw[dW]at e;have⟨hn,W,o⟩:=e;have j:=wM p a n hn;have hr:=b8 hn;have⟨code,place,skip⟩:=c;unfold dB;rw[hs];simp only;generalize bG p (.mk n l) ls=z at *
 cases E:(code != 0)with
 |true =>
  rw[ae (.inl (by simpa using E))];refine aj func137 ntmps137 ?_;exact ia
 |false =>
  cases F:(((a:Nat):Int)==skip)with
  |true =>
   rw[ae (.inr (by simpa using F))];refine aj func137 ntmps137 ?_;exact ia
  |false =>
   rw[D (by rintro(h|h);(· simp at E;exact h E);(· simp at F;exact F h))];simp only
   cases q:sP n with
   |false =>
    rw[q]at j;rw[D (show ¬(false=true) by decide)];unfold aP at hr
    cases i:(z != 0)with
    |true =>
     exact zet
    |false =>
     exact zeG
   |true =>
    rw[q]at j;rw[ae rfl]
    have M:l.length=1:=by
     unfold sP at q;simp only[aU,beq_iff_eq]at q;rw[W,db]at q;omega
    obtain⟨u,rfl⟩:∃u,l=[u]:=by
     match l,M with
     |[u],_=>exact⟨u,rfl⟩
    have hm:p.ah[a+1]?=some u.n:=by
     rw[dQ]at o;have:=o.1
     cases u;rw[dW]at this;exact this.1
    have L:n.au[0]?=some (((a+1:Nat)):Int):=by rw[W];rfl
    have FP:=ep L;have O:=b8 hm;rw[show lG (.mk n [u])=u.n from rfl];generalize u.n=m at *;unfold aP at hr O
    cases V:(m.ab != 2)with
    |true =>
     rw[ae (show m.ab≠2 by simpa using V)]
     cases i:(z != 0)with
     |true =>
      exact zet
     |false =>
      exact zeG
    |false =>
     rw[D (show ¬(m.ab≠2) by simpa using V)]
     cases i:(z != 0)with
     |true =>
      exact zet
     |false =>
      exact zeG
open GV (U)
open Go.Xp (bc aR)
def Kp(p:Src):GV:=.fn (.func 137) [] [.loc 0 0,.loc 1 0,.box (aD p) 0,.loc 2 0]
def TD(p:Src):GV:=.fn (.func 115) [] [.loc 3 0,.loc 4 0,.box (aD p) 0,.loc 5 0]
def DV(p:Src)(A r z H j R:TypeId)(s:CS)(ls:List ai)(O:Option Addr)(L:Nat):ap :=
 [.box A [y4 s.code],.box r [y4 s.skip],.box z [y4 s.place],.box H [Kp p],.box j [.v (.slice O ls.length L)],.box R [TD p],.vech 9 1 (bX ls) (.slice O ls.length L)]
def Sb(p:Src)(C E F H J L:TypeId)(hp:p.ah.length<=1048576)(V:∀n∈p.ah,n.au.length<=1099511627776)(R:p.ak.length<=1099511627776)(Q:p.aq.length<=1099511627776)(S:p.ax.length<=1099511627776):∀(N:Nat)(t:T),bc t<=N->∀(a:Nat)(s:CS)(ls:List ai)(j:Option Addr)(m:Nat),dW p.ah a t->ls.length+bc t<=8388608 ->
  GC prog 115 [y4 (a:Nat),.loc 3 0,.loc 4 0,.box (aD p) 0,.loc 5 0] (DV p C E F H J L s ls j m) fun g Δ=>g=.tup []/\∃b c,Δ=DV p C E F H J L (fq (dB p) t a s ls).1 (fq (dB p) t a s ls).2 b c:=by
 intro N
 induction N with
 |zero=>intro t h;exact zel
 |succ N ih =>
 intro t hN a s ls j m q W
 cases t with
 |mk n l =>
 rw[Go.Xp.bc]at hN W;have A:=q;rw[dW]at q;have⟨hn,hk,DD⟩:=q;rw[fq];have hr:=b8 hn;have NT:=V n (bB hn);have ht:=VC p a n l ls s C E F j m A R Q S X;generalize FQ:(dB p) s a (.mk n l) ls=o at *
 have d:n.au.length=l.length:=by rw[hk,db]
 unfold aP at hr;unfold DV Kp TD;refine aj func115 ntmps115 ?_;refine GL.oO [0,1,2,6] ht rfl rfl rfl (by repeat (first|exact trivial|refine⟨rfl,?_⟩)) ?_;rintro _ _⟨rfl,rfl⟩;refine zao ?_;refine GW.range (n.au.map fun i=>[y4 i]).length (fun k fr Γ=>∃b c,fr=[y4 (a:Nat),.loc 3 0,.loc 4 0,.box (aD p) 0,.loc 5 0,U,U,U,U,U,U,U,U,U,U,U,U,ints n.au,y4 ((n.au.map fun i=>[GV.v (ii i)]).length:Int),y4 (k:Nat),U,U,U,U,U,U,U,U,U,U,U,U,U,U,U,U,U,U,U,U,U,U,U]/\Γ=DV p C E F H J L (dk (dB p) (l.take k) (a+1) o ls).1 (dk (dB p) (l.take k) (a+1) o ls).2 b c) ?_ zfd ?_ ?_ ?_
 ·exact zeu
 ·rintro k _ _⟨j,m,rfl,rfl⟩;exact dN
 ·rintro k _ _ z⟨j,m,rfl,rfl⟩;rw[bC,d]at z;obtain⟨u,G⟩:∃u,l[k]?=some u:=⟨l[k],by simp[z]⟩;have r:=oz (n:=a+1) G;rw[<-hk]at r;have Ju:=ep r;have pf:=gZ G;have Xi:dW p.ah (a+1+aR (l.take k)) u:=dQ.ix l (a+1) k u DD G
  have w:(dk (dB p) (l.take k) (a+1) o ls).2.length<=ls.length+aR (l.take k):=by
   exact zcZ
  rw[wG _ G];generalize(dk (dB p) (l.take k) (a+1) o ls).1=s2 at *;generalize(dk (dB p) (l.take k) (a+1) o ls).2=e at *;have B:=ih u X (a+1+aR (l.take k)) s2 e j m Xi X;unfold DV Kp TD at B |-;refine Z ?_;refine GL.oO [0,1,2,3,4,5,6] B rfl rfl rfl (by repeat (first|exact trivial|refine⟨rfl,?_⟩)) ?_;rintro _ _⟨rfl,b,c,rfl⟩;exact zcu
 ·rintro _ _⟨j,m,rfl,rfl⟩;rw[bC,d,dx]
  have w:(dk (dB p) l (a+1) o ls).2.length<=ls.length+aR l:=by
   exact zev
  generalize(dk (dB p) l (a+1) o ls).1=s2 at *;generalize(dk (dB p) l (a+1) o ls).2=e at *;have Dy:(bX e).length=e.length:=rE e;unfold DV Kp TD;refine bl ?_
  cases B:(n.ab==13)with
  |false =>
   rw[D (by simpa using B)];exact zc4
  |true =>
   rw[ae (by simpa using B)];refine zbm ?_;refine OA rfl rfl (GL.mx 6 (news:=[[.v (sv n.s)]]) rfl rfl rfl aO rfl rfl (by refine⟨?_,?_⟩;(· show _+1<=_;omega);(· show(_+1)*_<=_;omega)) ?_);intro M O;refine zem ?_;exact⟨rfl,M,O,by simp[bX]⟩
def Uk(p:Src)(B r z:TypeId)(i:Nat)(f:Go.Sp.Fn)(t:T)(s:CS)(G:p.ah.length<=1048576)(C:∀n∈p.ah,n.au.length<=1099511627776)(m:p.ak.length<=1099511627776)(k:p.aq.length<=1099511627776)(o:p.ax.length<=1099511627776)
  (hf:p.ak[i]?=some f)(w:f.params.length<=1048576)(J:0<=f.body)(E:dW p.ah f.body.toNat t)(H:bc t<=1048576) :
  GF prog 53 [.agg (aD p),y4 (i:Nat),Kp p] [.box B [y4 s.code],.box r [y4 s.skip],.box z [y4 s.place]] (.tup []) [.box B [.v (ii (fq (dB p) t f.body.toNat s f.params).1.code)],.box r [.v (ii (fq (dB p) t f.body.toNat s f.params).1.skip)],.box z [.v (ii (fq (dB p) t f.body.toNat s f.params).1.place)]]:=by
 have u:(p.ak.map aH)[i]?=some (aH f):=by rw[bO,hf];rfl
 have A:(f.params.map fun s=>[GV.v (sv s)]).length=f.params.length:=by simp
 have l:=w8 f.params;obtain⟨b,V⟩:∃b:Nat,f.body=(b:Int):=⟨f.body.toNat,by omega⟩;rw[V,dC]at E |-;unfold aH at u;rw[V]at u;unfold Kp;refine dT func53 ntmps53 ?_;refine jB ?_;refine GL.wk (Wk.freeze (i:=3) rfl rfl rfl (aQ _)) ?_;refine GN zfC ?_;refine GL.wk (Wk.aW (de:=[U,y4 (i:Nat),U,.box (aD p) 0,U,.loc 4 0,U,U,U,U,U,U,U,strs f.params,U,U,U,U,U,U,U,U,U,U]) az) ?_;refine GL.wk (Wk.jO 9 1) ?_;refine GL.yu 5 rfl rfl rfl rfl l (by refine⟨?_,?_⟩;(· rw[A];omega);(· rw[A];omega)) ?_;intro O L;rw[A];refine zcg ?_;refine GW.Fl (de:=U::y4 (i:Nat)::U::.box (aD p) 0::U::.loc 4 0::.loc 6 0::.loc 7 0::zU 16 []) (bE:=[.box B [y4 s.code],.box r [y4 s.skip],.box z [y4 s.place],.gone,.box _ [.fn (.func 137) [] [.loc 0 0,.loc 1 0,.box (aD p) 0,.loc 2 0]],.vech 9 1 (bX f.params) (.slice O f.params.length L),.box _ [.v (.slice O f.params.length L)],.box _ [.fn (.func 115) [] [.loc 4 0,.loc 6 0,.box (aD p) 0,.loc 7 0]]]) az rfl ?_;refine zdJ ?_;have W:=Sb p B r z;refine OA rfl rfl (GL.oO [0,1,2,4,6,7,5] (W _ _ _ G C m k o _ t (aQ _) b s f.params O L E X) rfl rfl rfl (by repeat (first|exact trivial|refine⟨rfl,?_⟩)) ?_);rintro _ _⟨rfl,M,F,rfl⟩;refine⟨by simp[DV],?_⟩;unfold DV;refine zcp ?_;exact dj
end Go.Xg
namespace Go.Im
open Go.Xp Go.Sp
def I1{l:List ai}:va l=false↔∀k,k<l.length->oQ l k=false:=by
 unfold va;rw[any_eq_false];constructor
 ·intro h k m;have:=h k (List.mem_range.2 m);exact zdQ
 ·intro h k m;rw[h k (List.mem_range.1 m)];decide
def sM{l:List Ar}{k:Nat}{a:Ar}(h:l[k]?=some a):eE (l.take (k+1))=eE (l.take k)+a.size:=by
 unfold eE;rw[dc,h,List.foldl_append];rfl
def u5{l:List Ar}(h:∀a∈l,0<=a.size/\a.size<=2147483648):∀k,0<=eE (l.take k)/\eE (l.take k)<=(k:Int)*2147483648:=by
 intro k
 induction k with
 |zero=>simp[eE]
 |succ k O =>
  cases hx:l[k]? with
  |none =>
   have:l.take (k+1)=l.take k:=by rw[dc,hx];simp
   rw[this];omega
  |some a =>
   have:=h a (bB hx);rw[sM hx];omega
def BV{l:List ai}:eK l=false↔∀k,k<l.length->kg l k=false:=by
 unfold eK;rw[any_eq_false];constructor
 ·intro h k m;have:=h k (List.mem_range.2 m);exact zdQ
 ·intro h k m;rw[h k (List.mem_range.1 m)];decide
def Fu(p:Src)(l:List T)(a:Nat):gI p [] l a=(0,0):=by unfold gI;rfl
end Go.Im
namespace Go.Xg
open Go.RowKit Go.Xw Go.Proofs Tryz Go.Im
open GV (U)
open Go.Xp (T bc)
open Go.Sp (Src)
def YG.EG{P:Program}{fr:am}{Γ:ap}{x up:Operand}{t e:TypeId}{k:Nat}[C:lN P t e k]{rows:List am}{E:IntKind}{i:Nat}(hx:a8 fr x=.sl k rows)(Q:a8 fr up=.v (.int E i))(hi:i<rows.length):YG P (.slice t x none (some up) none) fr Γ (.sl k (rows.take i)):=fun B K β w l N S=>by
 have h:=S.ev x;rw[hx]at h;have A:=S.eT Q;generalize T:ev l x=v at h
 cases h with
 |sl0 a c=>simp at hi
 |sl b o c _ _ h n =>
  refine⟨.slice (some ⟨b,o,none⟩) i c,fun d H F m=>?_,?_⟩
  ·have u:¬(c=0):=by omega
   have V:(i:Int)<=(c:Int):=by omega
   have z:i<=c:=by omega
   simp[execOp,Instr.sliceAt,Instr.slice,Instr.sliceBounds,Instr.sliceBound,asIntOf,T,A,run_underlying C.und,iw C.siz,u,V,z,qs]
  ·have:=Rel.sl (K:=K) (β:=β) b o c k (rows.take i) (fun j r s=>?_) (by simp;omega)
   ·rw[kr,Nat.min_eq_left (Nat.le_of_lt hi)]at this;exact this
   ·have G:j<i:=by
     rcases Nat.lt_or_ge j i with M|M
     ·exact M
     ·rw[List.getElem?_eq_none zfw]at s;cases s
    rw[List.getElem?_take,ae G]at s;exact h j r s
attribute [local irreducible] GW GL GO YG GC GA bh bn
def Nw(p:Src)(i:Nat)(f:Go.Sp.Fn)(t:T)(L:p.ah.length<=1048576)(A:∀n∈p.ah,n.au.length<=1099511627776)(o:p.ak.length<=1099511627776)(m:p.aq.length<=1099511627776)(r:p.ax.length<=1099511627776)
  (hf:p.ak[i]?=some f)(z:f.params.length<=1048576)(H:0<=f.body)(E:dW p.ah f.body.toNat t)(B:bc t<=1048576) :
  GF prog 68 [.agg (aD p),y4 (i:Nat)] [] (.tup [.v (ii (gW p f t f.body.toNat).1),.v (ii (gW p f t f.body.toNat).2)]) []:=by
 have u:(p.ak.map aH)[i]?=some (aH f):=by rw[bO,hf];rfl
 have O:(f.params.map fun s=>[GV.v (sv s)]).length=f.params.length:=by simp
 have V:=Uk p 3 3 3 i f t ⟨0,0,-1⟩ L A o m r hf z H E B;unfold aH at u;unfold gW;refine aj func68 ntmps68 ?_;refine GW.range (f.params.map fun s=>[GV.v (sv s)]).length (fun k F W=>F=[U,y4 (i:Nat),.loc 0 0,U,U,U,strs f.params,U,U,U,U,U,U,U,U,U,U,U,strs f.params,y4 ((f.params.map fun s=>[GV.v (sv s)]).length:Int),y4 (k:Nat),U,U,U,U,U,U,U,U,U,U,U,U,U,U,U,U]/\W=[.box 28 (aD p)]/\∀j,j<k->oQ f.params j=false) ?_ X ?_ ?_ ?_
 ·exact⟨_,_,Wk.aW az,rfl,rfl,fun j G=>absurd G (Nat.not_lt_zero _)⟩
 ·exact iI
 ·rintro k _ _ M⟨rfl,rfl,l⟩;have N:=M;rw[O]at M;obtain⟨x,hx⟩:∃x,f.params[k]?=some x:=⟨f.params[k],by simp[M]⟩
  have Q:(f.params.map fun s=>[GV.v (sv s)])[k]?=some [.v (sv x)]:=by rw[bO,hx];rfl
  have w:=lM (f.params.take k) x zfw
  have J:oQ f.params k=(f.params.take k).contains x:=by unfold oQ;rw[hx]
  rw[<-J]at w;unfold strs at w;rw[map_take]at w
  cases C:oQ f.params k with
  |true =>
   rw[C]at w
   have R:va f.params=true:=by
    cases h:va f.params with
    |true=>rfl
    |false=>rw[I1.1 h k M]at C;cases C
   rw[ae R];refine Z ?_;refine GL.q (YG.EG rfl rfl N) ?_;refine zaf ?_;refine I [] w ?_;exact dE
  |false =>
   rw[C]at w;refine Z ?_;refine GL.q (YG.EG rfl rfl N) ?_;refine zaf ?_;refine I [] w ?_
   exact⟨rfl,rfl,_,_,Wk.aW az,rfl,rfl,fun j G=>by
    rcases Nat.lt_succ_iff_lt_or_eq.1 G with h|rfl
    ·exact l j h
    ·exact C⟩
 ·rintro _ _⟨rfl,rfl,l⟩;rw[O]at l;rw[D (by rw[I1.2 l];decide)];refine bl ?_;refine GW.wk (Wk.freeze (i:=0) rfl rfl rfl (bg _)) ?_;refine GW.Fl (de:=U::y4 (i:Nat)::.box (aD p) 0::zU 34 []) (bE:=[.gone]) az rfl ?_;refine Z ?_;refine I [1,3,2] V ?_;refine aS (aK 0 4 .nil) ?_;refine av ?_;exact nC
open Go.Xp (Ar)
def Pz(p:Src)(m:p.ak.length<=1099511627776)(r:p.aq.length<=1048576)(z:∀a∈p.aq,0<=a.size/\a.size<=2147483648):GF prog 65 [.agg (aD p)] [] (.v (.bool (iH p))) []:=by
 have N:(p.aq.map bb).length=p.aq.length:=by simp
 have F:(p.ak.map aH).length=p.ak.length:=by simp
 have o:(p.ax.map fun s=>[GV.v (sv s)]).length=p.ax.length:=by simp
 have A:=uo (qe:=136) (fun x=>decide (x.params.length>40)) p.ak m (fun x _=>L8 x);unfold iH;generalize p.ak.any (fun x=>decide (x.params.length>40))=R at *;have B:=u5 z;refine aj func65 ntmps65 ?_;refine GW.range (p.aq.map bb).length (fun k w W=>w=U::.loc 0 0::U::y4 (eE (p.aq.take k))::U::U::U::.sl 2 (p.aq.map bb)::y4 ((p.aq.map bb).length:Int)::y4 (k:Nat)::zU 30 []/\W=[.box 28 (aD p)]/\(p.aq.take k).all (fun a=>!(a.size==0))=true) ?_ X ?_ ?_ ?_
 ·exact kz
 ·exact iI
 ·rintro k _ _ M⟨rfl,rfl,l⟩;rw[N]at M;obtain⟨x,hx⟩:∃x,p.aq[k]?=some x:=⟨p.aq[k],by simp[M]⟩
  have t:(p.aq.map bb)[k]?=some (bb x):=by rw[bO,hx];rfl
  have j:=nq (f:=fun a:Ar=>a.size==0) hx;have C:=sM hx;have d:=B k;have H:=z x (bB hx);unfold bb at t
  cases O:(x.size==0)with
  |true =>
   have:p.aq.any (fun a=>a.size==0)=true:=qQ.2 ⟨x,bB hx,O⟩;rw[this];exact aB
  |false =>
   rw[C];generalize eE (p.aq.take k)=c at *;refine Z ?_;exact⟨rfl,rfl,_,_,(Wk.cut (n:=1) (bg _) rfl).trans (Wk.aW az),rfl,rfl,by rw[j,l,O];rfl⟩
 ·rintro _ _⟨rfl,rfl,l⟩;rw[N,dx]at l |-
  have:p.aq.any (fun a=>a.size==0)=false:=by
   rw[any_eq_false];rw[fa]at l;intro x hx;simpa using l x hx
  rw[this];have e:decide (p.ak.length>40)=decide ((40:Int)<((p.ak.map aH).length:Int)):=decide_eq_decide.2 (by rw[F];omega);have J:decide (p.ax.length>29)=decide ((29:Int)<((p.ax.map fun s=>[GV.v (sv s)]).length:Int)):=decide_eq_decide.2 (by rw[o];omega);have q:decide (eE p.aq>8000)=decide ((8000:Int)<eE p.aq):=rfl;rw[e,J,q];generalize eE p.aq=c at *;refine bl ?_
  cases O:decide ((40:Int)<((p.ak.map aH).length:Int))
  all_goals cases E:decide ((29:Int)<((p.ax.map fun s=>[GV.v (sv s)]).length:Int))
  all_goals cases G:decide ((8000:Int)<c)
  all_goals
   refine Z ?_
   first
    |(refine cb ?_;exact⟨rfl,rfl⟩)
    |(refine jS [] A ?_;refine Z ?_;refine cb ?_;exact⟨rfl,rfl⟩)
open Go.Xp (aR)
section
variable(p:Src)
def Mh(S:GF prog 64 [.agg (aD p)] [] (.v (.bool false)) []):GF prog 16 [.agg (aD p)] [] (.tup [y4 20,y4 0]) []:=by
 refine aj func16 ntmps16 ?_;refine I [] S ?_;exact dE
def Kx(l:List T)(ns:List ai)(S5:ns.length<=8388608)(hfl:p.ak.length=l.length)(FJ:p.ak.length<=1048576)
  (W:GF prog 64 [.agg (aD p)] [] (.v (.bool true)) [])
  (V:GC prog 47 [.agg (aD p)] [] fun g Δ=>∃a c,g=.v (.slice a ns.length c)/\Δ=[.vech 9 1 (bX ns) (.slice a ns.length c)])
  (L:GF prog 65 [.agg (aD p)] [] (.v (.bool (iH p))) [])
  (hq:∀i f t,p.ak[i]?=some f->l[i]?=some t->GF prog 68 [.agg (aD p),y4 (i:Nat)] [] (.tup [.v (ii (gW p f t (aR (l.take i))).1),.v (ii (gW p f t (aR (l.take i))).2)]) []) :
  GF prog 16 [.agg (aD p)] []
   (.tup [.v (ii (if eK ns=true then((21,0):Int × Int)else if iH p=true then(26,0)else if p.ak.any nM=false then(25,0)else gI p p.ak l 0).1),.v (ii (if eK ns=true then((21,0):Int × Int)else if iH p=true then(26,0)else if p.ak.any nM=false then(25,0)else gI p p.ak l 0).2)]) []:=by
 have E:(ns.map fun s=>[GV.v (sv s)]).length=ns.length:=by simp
 have C:(p.ak.map aH).length=p.ak.length:=by simp
 have G:=uo (qe:=67) nM p.ak X (fun x _=>P4 x);generalize iH p=tm at *;refine aj func16 ntmps16 ?_;refine I [] W ?_;refine bx [] V ?_;rintro _ _⟨ad,cp,rfl,rfl⟩;refine bI ?_;refine GL.wk (Wk.uR (t:=14) (i:=1) rfl rfl rfl) ?_;refine GL.wk (Wk.cut (n:=1) (bg _) rfl) ?_;refine GL.wk (Wk.aW (de:=U::.loc 0 0::zU 12 (strs ns::zU 40 [])) az) ?_;refine zaf ?_;refine GW.range (ns.map fun s=>[GV.v (sv s)]).length (fun k J R=>J=[U,.loc 0 0,U,U,strs ns,U,U,U,U,U,U,U,U,U,U,strs ns,y4 ((ns.map fun s=>[GV.v (sv s)]).length:Int),y4 (k:Nat),U,U,U,U,U,U,U,U,U,U,U,U,U,U,U,U,U,U,U,U,U,U,U,U,U,U,U,U,U,U,U,U,U,U,U,U,U]/\R=[.box 28 (aD p)]/\∀j,j<k->kg ns j=false) ?_ X ?_ ?_ ?_
 ·exact⟨_,_,Wk.aW az,rfl,rfl,fun j Q=>absurd Q (Nat.not_lt_zero _)⟩
 ·exact iI
 ·rintro k _ _ b⟨rfl,rfl,d⟩;have o:=b;rw[E]at b;obtain⟨x,hx⟩:∃x,ns[k]?=some x:=⟨ns[k],by simp[b]⟩
  have hrs:(ns.map fun s=>[GV.v (sv s)])[k]?=some [.v (sv x)]:=by rw[bO,hx];rfl
  have A:=Og x;have w:=lM (ns.take k) x zfw
  have e:kg ns k=(jN x ||(ns.take k).contains x):=by unfold kg;rw[hx]
  unfold strs at w;rw[map_take]at w
  cases z:jN x with
  |true =>
   rw[z]at A e
   have u:eK ns=true:=by
    cases h:eK ns with
    |true=>rfl
    |false=>rw[BV.1 h k b]at e;simp at e
   rw[ae u];refine zeq ?_;exact dE
  |false =>
   rw[z]at A e
   cases B:(ns.take k).contains x with
   |true =>
    rw[B]at w e
    have u:eK ns=true:=by
     cases h:eK ns with
     |true=>rfl
     |false=>rw[BV.1 h k b]at e;simp at e
    rw[ae u];refine zeq ?_;refine GL.q (YG.EG rfl rfl o) ?_;refine zaf ?_;refine I [] w ?_;exact dE
   |false =>
    rw[B]at w e;refine zeq ?_;refine GL.q (YG.EG rfl rfl o) ?_;refine zaf ?_;refine I [] w ?_
    exact⟨rfl,rfl,_,_,Wk.aW az,rfl,rfl,fun j Q=>by
     rcases Nat.lt_succ_iff_lt_or_eq.1 Q with h|rfl
     ·exact d j h
     ·exact e⟩
 ·rintro _ _⟨rfl,rfl,d⟩;rw[E]at d;rw[D (show ¬eK ns=true by rw[BV.2 d];decide)];refine bl ?_
  cases tm with
  |true =>
   rw[ae rfl];refine Z ?_;refine I [] L ?_;exact dE
  |false =>
   rw[D aN]
   cases F:p.ak.any nM with
   |false =>
    rw[F]at G;rw[ae rfl];refine Z ?_;refine I [] L ?_;refine I [] G ?_;exact dE
   |true =>
    rw[F]at G;rw[D aN];refine Z ?_;refine I [] L ?_;refine I [] G ?_;refine GW.range (p.ak.map aH).length (fun k J R=>J=U::.loc 0 0::zU 37 (.sl 3 (p.ak.map aH)::y4 ((p.ak.map aH).length:Int)::y4 (k:Nat)::zU 13 [])/\R=[.box 28 (aD p)]/\gI p p.ak l 0=gI p (p.ak.drop k) (l.drop k) (aR (l.take k))) ?_ X ?_ ?_ ?_
    ·exact⟨_,_,Wk.aW az,rfl,rfl,by rw[List.drop_zero,List.drop_zero,List.take_zero,aR]⟩
    ·exact iI
    ·rintro k _ _ b⟨rfl,rfl,m⟩;rw[C]at b;obtain⟨f,O⟩:∃f,p.ak[k]?=some f:=⟨p.ak[k],by simp[b]⟩;obtain⟨t,H⟩:∃t,l[k]?=some t:=⟨l[k]'X,cq _⟩;have S:=hq k f t O H
     have M:p.ak.drop k=f::p.ak.drop (k+1):=by rw[l8 b];rw[cq b]at O;rw[uX O]
     have N:l.drop k=t::l.drop (k+1):=by rw[l8 X];rw[cq X]at H;rw[uX H]
     rw[M,N,gI,<-R1 H]at m
     cases z:((gW p f t (aR (l.take k))).1 != 0)with
     |true =>
      rw[ae zfv]at m;rw[m];generalize gW p f t (aR (l.take k))=r at *;refine Z ?_;refine I [] S ?_;exact dE
     |false =>
      rw[D zfv]at m;generalize gW p f t (aR (l.take k))=r at *;refine Z ?_;refine I [] S ?_;exact⟨rfl,rfl,_,_,Wk.aW az,rfl,rfl,m⟩
    ·rintro _ _⟨rfl,rfl,m⟩;rw[C,drop_length,Fu]at m;rw[m];refine bl ?_;exact nC
def NK(c z:Int)(h:GF prog 16 [.agg (aD p)] [] (.tup [y4 c,y4 z]) []):GF prog 44 [.agg (aD p)] [] (.v (.bool (c==0))) []:=by
 refine aj func44 ntmps44 ?_;exact zbg
def UD(fn:Int)(w g:Bool)(k:p.ak.length<=1048576)(hg:GF prog 44 [.agg (aD p)] [] (.v (.bool g)) [])
  (s:GF prog 156 [y4 fn,y4 0,y4 (((p.ak.map aH).length:Int)-1)] [] (.v (.bool w)) []):GF prog 83 [.agg (aD p),y4 fn] [] (.v (.bool (w&&g))) []:=by
 have q:(p.ak.map aH).length=p.ak.length:=by simp
 cases w with
 |false =>
  refine aj func83 ntmps83 ?_;exact zdK
 |true =>
  refine aj func83 ntmps83 ?_;refine I [] s ?_;refine I [] hg ?_;exact aw
end
end Go.Xg
set_option maxHeartbeats 2000000
namespace Go.Xg
open Go.RowKit Go.Xw Go.Proofs Tryz Go.Im
open GV (U)
open Go.Xp (Ar)
open Go.Sp (Src)
attribute [local irreducible] GW GL GO YG GC GA bh bn
def cC(p:Src)(h:Value)(c:SS):am:=[strs p.ax,.sl 2 (p.aq.map bb),.sl 3 (p.ak.map aH),.sl 5 (p.ah.map aP),.v h,y4 c.code,y4 c.at_]
def jD(p:Src)(h:Value)(c:SS)(k z:Int):GF prog 206 [.loc 0 0,y4 k,y4 z] [.box 155 (cC p h c)] (.tup []) [.box 155 (cC p h (c.fail k z))]:=by
 unfold SS.fail
 cases l:(c.code==0)with
 |true =>
  rw[ae (by simpa using l)];unfold cC;refine aj func206 ntmps206 ?_;exact ia
 |false =>
  rw[D (by simpa using l)];unfold cC;refine aj func206 ntmps206 ?_;exact ia
def Lz(s:ai):GF prog 56 [.v (sv s)] [] (.v (.bool (jN s))) []:=by
 unfold jN lU lr cB
 cases M:(s==[103,101,116])
 all_goals cases w:(s==[112,117,116])
 all_goals
  refine aj func56 ntmps56 ?_;exact aw
def A5(p:Src)(s:ai)(hn:p.aq.length<=1099511627776):GF prog 118 [.agg (aD p),.v (sv s)] [] (y4 (bM (fun x:Ar=>x.name==s) p.aq)) []:=by
 have N:(p.aq.map bb).length=p.aq.length:=by simp
 refine aj func118 ntmps118 ?_;refine GW.range (p.aq.map bb).length (fun k z W=>z=[U,.v (sv s),.loc 0 0,U,U,U,U,U,.sl 2 (p.aq.map bb),y4 ((p.aq.map bb).length:Int),y4 (k:Nat),U,U,U,U,U,U,U,U,U,U]/\W=[.box 28 (aD p)]/\(p.aq.take k).all (fun y=>!(y.name==s))=true) ?_ X ?_ ?_ ?_
 ·exact kz
 ·exact iI
 ·rintro k _ _ M⟨rfl,rfl,l⟩;rw[N]at M;obtain⟨x,u⟩:∃x,p.aq[k]?=some x:=⟨p.aq[k],by simp[M]⟩
  have r:(p.aq.map bb)[k]?=some (bb x):=by rw[bO,u];rfl
  have j:=nq (f:=fun y:Ar=>y.name==s) u
  have hit:=fun t=>oR (f:=fun y:Ar=>y.name==s) u t l
  unfold bb at r
  cases w:(x.name==s)with
  |true =>
   rw[hit w];exact aB
  |false =>
   exact zcz
 ·rintro _ _⟨rfl,rfl,l⟩;rw[N,dx]at l;rw[mg l];exact aB
def vK(p:Src)(s:ai)(hn:p.ak.length<=1099511627776):GF prog 94 [.agg (aD p),.v (sv s)] [] (y4 (bM (fun x:Go.Sp.Fn=>x.name==s) p.ak)) []:=by
 have N:(p.ak.map aH).length=p.ak.length:=by simp
 refine aj func94 ntmps94 ?_;refine GW.range (p.ak.map aH).length (fun k z W=>z=[U,.v (sv s),.loc 0 0,U,U,U,U,U,.sl 3 (p.ak.map aH),y4 ((p.ak.map aH).length:Int),y4 (k:Nat),U,U,U,U,U,U,U,U,U,U]/\W=[.box 28 (aD p)]/\(p.ak.take k).all (fun y=>!(y.name==s))=true) ?_ X ?_ ?_ ?_
 ·exact kz
 ·exact iI
 ·rintro k _ _ M⟨rfl,rfl,l⟩;rw[N]at M;obtain⟨x,u⟩:∃x,p.ak[k]?=some x:=⟨p.ak[k],by simp[M]⟩
  have r:(p.ak.map aH)[k]?=some (aH x):=by rw[bO,u];rfl
  have j:=nq (f:=fun y:Go.Sp.Fn=>y.name==s) u
  have hit:=fun t=>oR (f:=fun y:Go.Sp.Fn=>y.name==s) u t l
  unfold aH at r
  cases w:(x.name==s)with
  |true =>
   rw[hit w];exact aB
  |false =>
   exact zcz
 ·rintro _ _⟨rfl,rfl,l⟩;rw[N,dx]at l;rw[mg l];exact aB
def wV(l:List Int)(n:Int)(hn:l.length<=1099511627776):GF prog 160 [ints l,y4 n] [] (.v (.bool (l.contains n))) []:=by
 have N:(l.map fun i=>[y4 i]).length=l.length:=by simp
 refine aj func160 ntmps160 ?_;refine GW.range (l.map fun i=>[y4 i]).length (fun k z W=>z=[ints l,y4 n,U,U,U,U,U,ints l,y4 ((l.map fun i=>[GV.v (ii i)]).length:Int),y4 (k:Nat),U,U,U,U,U,U,U]/\W=[]/\(l.take k).contains n=false) ?_ X ?_ ?_ ?_
 ·exact kz
 ·exact iI
 ·rintro k _ _ M⟨rfl,rfl,m⟩;rw[N]at M;obtain⟨x,u⟩:∃x,l[k]?=some x:=⟨l[k],by simp[M]⟩;have r:=ep u
  have j:(l.take (k+1)).contains n=((l.take k).contains n ||(x==n)):=by
   rw[dc,u,List.contains_append];show(_ ||[x].contains n)=_
   congr 1
   exact zdC
  have G:=bB u
  cases w:(x==n)with
  |true =>
   have A:x=n:=by simpa using w
   rw[show l.contains n=true by rw[<-A];exact l9.2 G];exact aB
  |false =>
   refine Z ?_;exact⟨rfl,rfl,_,_,Wk.aW az,rfl,rfl,by rw[j,m,w];rfl⟩
 ·rintro _ _⟨rfl,rfl,m⟩;rw[N,dx]at m;rw[m];exact aB
end Go.Xg
set_option maxHeartbeats 4000000
namespace Go.Im
open Go.Xp Go.Sp
def xG(l:List ai)(k:Nat):Bool:=(List.range k).any (oQ l)
def Df(l:List ai)(k:Nat):xG l (k+1)=(xG l k ||oQ l k):=by
 unfold xG;rw[List.range_succ,any_append];simp
def lJ(f:Go.Sp.Fn)(c:SS)(k:Nat):SS:=⟨f.params.take k,if xG f.params k=true then iD c.code 21 else c.code,if xG f.params k=true/\c.code=0 then 0 else c.at_⟩
section
variable{f:Go.Sp.Fn}{c:SS}{k:Nat}
def RC(h:oQ f.params k=true):(lJ f c (k+1)).code=((lJ f c k).fail 21 0).code/\(lJ f c (k+1)).at_=((lJ f c k).fail 21 0).at_:=by
 unfold lJ SS.fail;simp only[Df,h,Bool.or_true,true_and,if_true];unfold iD
 cases xG f.params k<;>by_cases s:c.code=0<;>simp[s]
def O4(h:oQ f.params k=false):(lJ f c (k+1)).code=(lJ f c k).code/\(lJ f c (k+1)).at_=(lJ f c k).at_:=by
 unfold lJ;simp only[Df,h,Bool.or_false,and_self]
end
end Go.Im
namespace Go.Xg
open Go.RowKit Go.Xw Go.Proofs Tryz Go.Im
open GV (U)
open Go.Sp (Src)
attribute [local irreducible] GW GL GO YG GC GA bh bn
def HV(p:Src)(J:Value)(c:SS)(f:Go.Sp.Fn)(O:f.params.length<=1048576) :
  GC prog 149 [.loc 0 0,.agg (aH f)] [.box 155 (cC p J c)] fun g Δ=>g=.tup []/\∃i j,Δ=[.box 155 (cC p (.slice i f.params.length j) (ry f c)),.vech 9 1 (bX f.params) (.slice i f.params.length j)]:=by
 have E:(f.params.map fun s=>[GV.v (sv s)]).length=f.params.length:=by simp
 have u:ry f c=⟨f.params,(lJ f c f.params.length).code,(lJ f c f.params.length).at_⟩:=by
  unfold ry lJ xG va;rfl
 rw[u]
 have t:(lJ f c 0).code=c.code/\(lJ f c 0).at_=c.at_:=by unfold lJ xG;simp
 rw[show cC p J c=cC p J (lJ f c 0) by unfold cC;rw[t.1,t.2]];unfold cC aH;refine dT func149 ntmps149 ?_;refine GW.wk (Wk.jO 9 1) ?_;simp only[cons_append,nil_append];refine Z ?_;refine GW.range (f.params.map fun s=>[GV.v (sv s)]).length (fun k Q Γ=>∃i j R n B,Q=[.loc 0 0,U,U,.loc 2 0,U,U,U,U,U,U,strs f.params,y4 ((f.params.map fun s=>[GV.v (sv s)]).length:Int),y4 (k:Nat),U,U,U,U,U,U,U,U,U,U,U,U,U,U,U,U,U,U,U,U,U,U]/\Γ=[.box 155 (cC p (.slice i n j) (lJ f c k)),.vech 9 1 R (.slice i n j),B]/\R.length=n/\R=bX (f.params.take k)) ?_ X ?_ ?_ ?_
 ·exact⟨_,_,Wk.aW az,none,0,[],0,_,rfl,rfl,rfl,by simp[bX]⟩
 ·rintro k _ _⟨i,j,R,n,B,rfl,rfl,_⟩;exact dN
 ·rintro k _ _ z⟨i,j,R,n,B,rfl,rfl,d,m⟩;rw[E]at z;obtain⟨x,hx⟩:∃x,f.params[k]?=some x:=⟨f.params[k],by simp[z]⟩
  have V:(f.params.map fun s=>[GV.v (sv s)])[k]?=some [.v (sv x)]:=by rw[bO,hx];rfl
  have e:bX (f.params.take (k+1))=R++[[.v (sv x)]]:=by rw[dc,hx,m];simp[bX]
  have T:n<=1048576:=by rw[<-d,m,rE,kr];omega
  have r:GF prog 58 [.sl 1 R,.v (sv x)] [] (.v (.bool ((f.params.take k).contains x))) []:=by
   rw[m];exact kv (f.params.take k) x zfw
  have S:oQ f.params k=(f.params.take k).contains x:=by unfold oQ;rw[hx]
  rw[<-S]at r;have b:=jD p (.slice i n j) (lJ f c k) 21 0;clear m
  cases F:oQ f.params k with
  |true =>
   rw[F]at r;have⟨G,H⟩:=RC (c:=c) F;unfold cC at b |-;rw[G,H];generalize(lJ f c k).fail 21 0=s1 at *;generalize lJ f c k=W at *;refine Z ?_;refine GL.borrow r (fun B K β w l M L=>ic (A:=[_]) (C:=[_]) M L rfl rfl) ?_;refine zaf ?_;refine I [0] b ?_;exact zcv
  |false =>
   rw[F]at r;have⟨G,H⟩:=O4 (c:=c) F;unfold cC at b |-;rw[G,H];generalize lJ f c k=W at *;refine Z ?_;refine GL.borrow r (fun B K β w l M L=>ic (A:=[_]) (C:=[_]) M L rfl rfl) ?_;refine zaf ?_;exact zcv
 ·rintro _ _⟨i,j,R,n,B,rfl,rfl,d,m⟩;rw[E]at m |-;rw[dx]at m
  have N:n=f.params.length:=by rw[<-d,m,rE]
  subst N;refine zcS ?_;exact WE (n:=2) rfl c8 (ed rfl) rfl ⟨rfl,i,j,by rw[m];rfl⟩
open Go.Xp (Nd T)
def cO(p:Src)(c:SS)(ls:List ai)(O:Option Addr)(L:Nat):ap:=[.box 155 (cC p (.slice O ls.length L) c),.vech 9 1 (bX ls) (.slice O ls.length L)]
section
variable(p:Src)(c:SS)(n:Nd)(l:List T)(O:Option Addr)(L:Nat)
def HT(N:(n.s==[103,101,116])=true)(V:l.length<=1099511627776) :
  GF prog 207 [.loc 0 0,.agg (cT (.mk n l))] (cO p c c.ls O L) (.v (.bool true)) (cO p (ft c n l.length 0) c.ls O L):=by
 have M:(bj l).length=l.length:=bq l;unfold cO;unfold ft;show GF _ _ _ _ (.v (.bool true)) [.box _ (cC p _ (if l.length≠0 then _ else _)),_];have i:=jD p (.slice O c.ls.length L) c 23 n.at_;unfold cC at i |-
 cases k:(((bj l).length:Int) != ((0:Nat):Int))with
 |true =>
  rw[ae (show l.length≠0 by rw[M,bne_iff_ne]at k;omega)];exact zdL
 |false =>
  rw[D (show ¬l.length≠0 by rw[M,bne_eq_false_iff_eq]at k;omega)];refine aj func207 ntmps207 ?_;exact aw
def HU(N:(n.s==[103,101,116])=false)(w:(n.s==[112,117,116])=true)(V:l.length<=1099511627776) :
  GF prog 207 [.loc 0 0,.agg (cT (.mk n l))] (cO p c c.ls O L) (.v (.bool true)) (cO p (ft c n l.length 1) c.ls O L):=by
 have M:(bj l).length=l.length:=bq l;unfold cO;unfold ft;show GF _ _ _ _ (.v (.bool true)) [.box _ (cC p _ (if l.length≠1 then _ else _)),_];have i:=jD p (.slice O c.ls.length L) c 23 n.at_;unfold cC at i |-
 cases k:(((bj l).length:Int) != ((1:Nat):Int))with
 |true =>
  rw[ae (show l.length≠1 by rw[M,bne_iff_ne]at k;omega)];exact zdL
 |false =>
  rw[D (show ¬l.length≠1 by rw[M,bne_eq_false_iff_eq]at k;omega)];refine aj func207 ntmps207 ?_;exact aw
def Lw(M:(n.s==[103,101,116])=false)(w:(n.s==[112,117,116])=false)(z:(n.s==[115,105,122,101])=false)(V:l.length<=1099511627776)
  (S:GF prog 94 [.agg (aD p),.v (sv n.s)] [] (y4 (-1)) []) :
  GF prog 207 [.loc 0 0,.agg (cT (.mk n l))] (cO p c c.ls O L) (.v (.bool false)) (cO p (c.fail 22 n.at_) c.ls O L):=by
 have i:=jD p (.slice O c.ls.length L) c 22 n.at_
 have F:decide ((-1:Int)<0)=true:=by decide
 unfold cO;unfold cC at i |-;generalize c.fail 22 n.at_=G at *;refine aj func207 ntmps207 ?_;refine za4 ?_;refine aJ [] S ?_;refine Z ?_;exact zck
end
def Lv(p:Src)(c:SS)(n:Nd)(l:List T)(i:Nat)(f:Go.Sp.Fn)(O:Option Addr)(L:Nat)(N:(n.s==[103,101,116])=false)(w:(n.s==[112,117,116])=false)(z:(n.s==[115,105,122,101])=false)(V:l.length<=1099511627776)
  (hf:p.ak[i]?=some f)(S:GF prog 94 [.agg (aD p),.v (sv n.s)] [] (y4 ((i:Nat):Int)) []) :
  GF prog 207 [.loc 0 0,.agg (cT (.mk n l))] (cO p c c.ls O L) (.v (.bool true)) (cO p (ft c n l.length f.params.length) c.ls O L):=by
 have M:(bj l).length=l.length:=bq l
 have F:decide (((i:Nat):Int)<0)=false:=by simp
 have r:(p.ak.map aH)[i]?=some (aH f):=by rw[bO,hf];rfl
 have A:(f.params.map fun s=>[GV.v (sv s)]).length=f.params.length:=by simp
 unfold aH at r;rw[<-A];unfold cO;unfold ft;show GF _ _ _ _ (.v (.bool true)) [.box _ (cC p _ (if l.length≠(f.params.map fun s=>[GV.v (sv s)]).length then _ else _)),_];have j:=jD p (.slice O c.ls.length L) c 23 n.at_;unfold cC at j |-
 cases k:(((bj l).length:Int) != (((f.params.map fun s=>[GV.v (sv s)]).length:Nat):Int))with
 |true =>
  rw[ae (show l.length≠(f.params.map fun s=>[GV.v (sv s)]).length by rw[M,bne_iff_ne]at k;omega)];generalize c.fail 23 n.at_=G at *;refine aj func207 ntmps207 ?_;refine za4 ?_;refine aJ [] S ?_;refine Z ?_;refine I [0] j ?_;exact aw
 |false =>
  rw[D (show ¬l.length≠(f.params.map fun s=>[GV.v (sv s)]).length by rw[M,bne_eq_false_iff_eq]at k;omega)];refine aj func207 ntmps207 ?_;refine za4 ?_;refine aJ [] S ?_;exact aB
open Go.Xp (Ar)
section
variable(p:Src)(c:SS)
def Ek(n:Nd)(u:T)(O:Option Addr)(L:Nat)(M:(n.s==[103,101,116])=false)(F:(n.s==[112,117,116])=false)(H:(n.s==[115,105,122,101])=true)(k:p.aq.length<=1099511627776)(J:c.ls.length<=1099511627776) :
  GF prog 207 [.loc 0 0,.agg (cT (.mk n [u]))] (cO p c c.ls O L) (.v (.bool false)) (cO p (if ga p u.n c.ls=true then c.fail 24 n.at_ else c) c.ls O L):=by
 have E:(bj [u])[0]?=some (cT u):=dp rfl;have e:=A5 p u.n.s k;have m:=kv c.ls u.n.s J;have i:=jD p (.slice O c.ls.length L) c 24 n.at_;rw[show ga p u.n c.ls=((u.n.ab != 2 ||decide (bM (fun x:Ar=>x.name==u.n.s) p.aq<0)) ||c.ls.contains u.n.s)from rfl];generalize bM (fun x:Ar=>x.name==u.n.s) p.aq=z at *;unfold cO;unfold cC at i |-
 cases Q:(u.n.ab != 2)with
 |true =>
  rw[ae zfM];generalize c.fail 24 n.at_=G at *;refine aj func207 ntmps207 ?_;refine zbe ?_;refine av ?_;refine bp ?_;exact zck
 |false =>
  cases V:decide (z<0)with
  |true =>
   rw[ae zfM];generalize c.fail 24 n.at_=G at *;refine aj func207 ntmps207 ?_;refine zbe ?_;refine av ?_;refine cj [] e ?_;refine bp ?_;exact zck
  |false =>
   generalize c.ls.contains u.n.s=b at *
   cases b with
   |true =>
    rw[ae zfM];generalize c.fail 24 n.at_=G at *;refine aj func207 ntmps207 ?_;refine zbe ?_;refine av ?_;refine cj [] e ?_;refine Sl rfl rfl rfl (by first|exact rfl|assumption) (GL.borrow m (fun B K o w l N S=>ic (A:=[_]) (C:=[_]) N S rfl rfl) ?_);refine zaX ?_;exact zck
   |false =>
    rw[D aN];refine aj func207 ntmps207 ?_;refine zbe ?_;refine av ?_;refine cj [] e ?_;refine Sl rfl rfl rfl (by first|exact rfl|assumption) (GL.borrow m (fun B K o w l N S=>ic (A:=[_]) (C:=[_]) N S rfl rfl) ?_);refine cW ?_;exact zby
def El(n:Nd)(l:List T)(O:Option Addr)(L:Nat)(Q:(n.s==[103,101,116])=false)(w:(n.s==[112,117,116])=false)(z:(n.s==[115,105,122,101])=true)(V:l.length≠1) :
  GF prog 207 [.loc 0 0,.agg (cT (.mk n l))] (cO p c c.ls O L) (.v (.bool false)) (cO p (c.fail 23 n.at_) c.ls O L):=by
 have i:=jD p (.slice O c.ls.length L) c 23 n.at_;have M:(bj l).length=l.length:=bq l
 have g1:(((bj l).length:Int)==1)=false:=by rw[M,beq_eq_false_iff_ne];omega
 have N:(((bj l).length:Int) != 1)=true:=by rw[M,bne_iff_ne];omega
 unfold cO;unfold cC at i |-;generalize c.fail 23 n.at_=G at *;refine aj func207 ntmps207 ?_;refine zbe ?_;refine bp ?_;exact zck
def Oo(t:T)(O:Option Addr)(L:Nat)(m:p.aq.length<=1099511627776)(o:p.ak.length<=1099511627776)(N:c.ls.length<=1099511627776)(V:t.au.length<=1099511627776) :
  GF prog 207 [.loc 0 0,.agg (cT t)] (cO p c c.ls O L) (.v (.bool (gC p c t).2)) (cO p (gC p c t).1 c.ls O L):=by
 cases t with
 |mk n l =>
 have V:l.length<=1099511627776:=V
 cases M:(n.s==[103,101,116])with
 |true =>
  have e:gC p c (.mk n l)=(ft c n l.length 0,true):=by
   unfold gC lU;exact ae (show n.s=_ by simpa using M)
  rw[e];exact HT p c n l O L M V
 |false =>
  have B:¬n.s=[103,101,116]:=by simpa using M
  cases w:(n.s==[112,117,116])with
  |true =>
   have e:gC p c (.mk n l)=(ft c n l.length 1,true):=by
    unfold gC lU lr;rw[D (show ¬(T.mk n l).n.s=_ from B)];exact ae (show n.s=_ by simpa using w)
   rw[e];exact HU p c n l O L M w V
  |false =>
   have W:¬n.s=[112,117,116]:=by simpa using w
   cases z:(n.s==[115,105,122,101])with
   |true =>
    have e:gC p c (.mk n l)=(ft (if l.length=1/\ga p (lG (.mk n l)) c.ls=true then c.fail 24 n.at_ else c) n l.length 1,false):=by
     unfold gC lU lr cB;rw[D (show ¬(T.mk n l).n.s=_ from B),D (show ¬(T.mk n l).n.s=_ from W)];exact ae (show n.s=_ by simpa using z)
    rw[e]
    by_cases k:l.length=1
    ·obtain⟨u,rfl⟩:∃u,l=[u]:=by
      match l,k with
      |[u],_=>exact⟨u,rfl⟩
     have J:ft (if[u].length=1/\ga p (lG (.mk n [u])) c.ls=true then c.fail 24 n.at_ else c) n [u].length 1=(if ga p u.n c.ls=true then c.fail 24 n.at_ else c):=by
      unfold ft;rw[D ze6];show(if _/\ga p u.n c.ls=true then _ else _)=_
      by_cases A:ga p u.n c.ls=true
      ·rw[ae A];exact ae ⟨rfl,A⟩
      ·rw[D A];exact D fun h=>A h.2
     rw[J];exact Ek p c n u O L M w z m N
    ·have J:ft (if l.length=1/\ga p (lG (.mk n l)) c.ls=true then c.fail 24 n.at_ else c) n l.length 1=c.fail 23 n.at_:=by
      rw[D fun h=>k h.1];unfold ft;exact ae k
     rw[J];exact El p c n l O L M w z k
   |false =>
    have q:¬n.s=[115,105,122,101]:=by simpa using z
    have S:=vK p n.s o;unfold bM at S
    cases hx:p.ak.findIdx? (fun f:Go.Sp.Fn=>f.name==n.s)with
    |none =>
     rw[hx]at S
     have e:gC p c (.mk n l)=(c.fail 22 n.at_,false):=by
      refine zbs ?_;rfl
     rw[e];exact Lw p c n l O L M w z V S
    |some i =>
     rw[hx]at S;have E:i<p.ak.length:=(List.findIdx?_eq_some_iff_getElem.1 hx).1;obtain⟨f,C⟩:∃f,p.ak[i]?=some f:=⟨p.ak[i],by simp[E]⟩
     have e:gC p c (.mk n l)=(ft c n l.length f.params.length,true):=by
      refine zbs ?_;show(ft c n l.length (mM p i),true)=_;unfold mM;rw[C]
     rw[e];exact Lv p c n l i f O L M w z V C S
end
end Go.Xg
namespace Go.Im
open Go.Xp Go.Sp
def DN(p:Src)(u:T):∀(l:List T)(c:SS),jE p (l++[u]) c=oC p u (jE p l c)
 |[],c=>by rw[nil_append,jE,jE,jE]
 |t::l,c=>by rw[cons_append,jE,jE,DN p u l]
def OO(p:Src){l:List T}{k:Nat}{u:T}(h:l[k]?=some u)(c:SS):jE p (l.take (k+1)) c=oC p u (jE p (l.take k) c):=by
 rw[dc,h];exact DN p u _ c
def R7(c:SS)(n:Nd):(mZ c n).ls.length<=c.ls.length+1:=by
 unfold mZ;split
 ·omega
 split
 ·simp[SS.qd]
 split
 ·simp[SS.qd]
 ·simp
mutual
def UY(p:Src):∀(t:T)(c:SS),(oC p t c).ls.length<=c.ls.length+bc t
 |.mk n l,c=>by
  rw[oC,bc];refine jy (R7 _ _) ?_;split
  ·have:=wZ p l (kx p c (.mk n l)).1;rw[vW]at this;omega
  ·rw[vW];omega
def wZ(p:Src):∀(l:List T)(c:SS),(jE p l c).ls.length<=c.ls.length+aR l
 |[],c=>by rw[jE,aR];omega
 |t::r,c=>by
  rw[jE,aR];have M:=wZ p r (oC p t c);have v:=UY p t c;omega
end
def Us(k e:Int)(R:e≠0):iD (iD k e) e=iD k e:=by unfold iD;by_cases h:k=0<;>simp[h,R]
def QF(p:Src)(l:List T)(c:SS):oo p [] l c=c:=by unfold oo;rfl
end Go.Im
namespace Go.Xg
open Go.RowKit Go.Xw Go.Proofs Tryz Go.Im
open GV (U)
open Go.Xp (Nd T Ar bc aR gm)
open Go.Sp (Src)
attribute [local irreducible] GW GL GO YG GC GA bh bn
section
variable(p:Src)
def Oq(AR:p.aq.length<=1099511627776)(FJ:p.ak.length<=1099511627776)(FK:p.ax.length<=1099511627776):∀(N:Nat)(t:T),bc t<=N->∀(c:SS)(m:Option Addr)(o:Nat),c.ls.length+bc t<=8388608 ->
  GC prog 150 [.loc 0 0,.agg (cT t)] (cO p c c.ls m o) fun g Δ=>g=.tup []/\∃R S,Δ=cO p (oC p t c) (oC p t c).ls R S:=by
 intro N
 induction N with
 |zero=>intro t h;exact zel
 |succ N ih =>
 intro t hN c m o hls
 cases t with
 |mk n l =>
 rw[Go.Xp.bc]at hN hls;have xQ:=gm l;have sa:(bj l).length=l.length:=bq l;rw[oC];have H:=vW p c (.mk n l);have O:=kv c.ls n.s X;have hG:=kv p.ax n.s FK;have hA:=A5 p n.s AR;have hC:=Oo p c (.mk n l) m o AR FJ X (by show l.length<=_;omega);have L:=jD p (.slice m c.ls.length o) c 22 n.at_;have E:=jD p (.slice m c.ls.length o) c 24 n.at_
 have j:kx p c (.mk n l)=(if n.ab=2\/n.ab=7 then(if c.ls.contains n.s=false/\p.ax.contains n.s=false then c.fail 22 n.at_ else c,true)
  else if n.ab=3\/n.ab=8 then(if c.ls.contains n.s=true\/bM (fun x:Ar=>x.name==n.s) p.aq<0 then c.fail 24 n.at_ else c,true)
  else if n.ab=4 then gC p c (.mk n l)else(c,true)):=rfl
 obtain⟨P,hP⟩:∃P,kx p c (.mk n l)=P:=⟨_,rfl⟩;rw[hP]at j H |-;unfold cO at hC |-;unfold cC at hC L E |-;refine aj func150 ntmps150 ?_;refine aS (aK 0 6 (.a 6 (.q 7 .nil))) ?_;refine av ?_;refine OA rfl rfl (GL.borrow O (fun B K β w l W V=>ic (A:=[_]) (C:=[_,_]) W V rfl rfl) ?_);refine zcp ?_;refine CQ ?_;refine GW.join (fun fr Γ=>fr=.loc 0 0::U::U::.loc 2 0::.loc 3 0::U::.v (.bool P.2)::zU 103 []/\Γ=[.box 155 (cC p (.slice m c.ls.length o) P.1),.vech 9 1 (bX c.ls) (.slice m c.ls.length o),.box 89 (cT (.mk n l)),.box 82 (aP n)]) ?_ ?_
 ·have⟨J,at_,nn,s,ks⟩:=n;simp only at *;unfold cC;generalize gC p c (.mk ⟨J,at_,nn,s,ks⟩ l)=cs at *;generalize bM (fun x:Ar=>x.name==s) p.aq=z at *;generalize c.ls.contains s=b at *;generalize p.ax.contains s=g at *;generalize c.fail 22 at_=c22 at *;generalize c.fail 24 at_=c24 at *
  by_cases h2:J=2
  ·subst h2
   have q2:((2:Int)==2)=true:=by decide
   rw[ae aN]at j;subst j
   cases b with
   |true =>
    refine zaY ?_;refine bp ?_;exact jw
   |false =>
    cases g with
    |true =>
     refine zaY ?_;refine av ?_;refine cj [] hG ?_;exact iV
    |false =>
     exact zdd
  by_cases h7:J=7
  ·subst h7
   have q2:((7:Int)==2)=false:=by decide
   have q7:((7:Int)==7)=true:=by decide
   rw[ae aN]at j;subst j
   cases b with
   |true =>
    refine zaY ?_;refine bp ?_;exact jw
   |false =>
    cases g with
    |true =>
     refine zaY ?_;refine av ?_;refine cj [] hG ?_;exact iV
    |false =>
     exact zdd
  rw[D (by rintro(h|h);(· exact h2 h);exact h7 h)]at j
  by_cases h3:J=3
  ·subst h3
   have q2:((3:Int)==2)=false:=by decide
   have q7:((3:Int)==7)=false:=by decide
   have q3:((3:Int)==3)=true:=by decide
   rw[ae aN]at j
   cases b with
   |true =>
    exact zcs
   |false =>
    cases hz:decide (z<0)with
    |true =>
     exact zcJ
    |false =>
     exact zcQ
  by_cases h8:J=8
  ·subst h8
   have q2:((8:Int)==2)=false:=by decide
   have q7:((8:Int)==7)=false:=by decide
   have q3:((8:Int)==3)=false:=by decide
   have q8:((8:Int)==8)=true:=by decide
   rw[ae aN]at j
   cases b with
   |true =>
    exact zcs
   |false =>
    cases hz:decide (z<0)with
    |true =>
     exact zcJ
    |false =>
     exact zcQ
  rw[D (by rintro(h|h);(· exact h3 h);exact h8 h)]at j
  by_cases h4:J=4
  ·subst h4
   have q2:((4:Int)==2)=false:=by decide
   have q7:((4:Int)==7)=false:=by decide
   have q3:((4:Int)==3)=false:=by decide
   have q8:((4:Int)==8)=false:=by decide
   have q4:((4:Int)==4)=true:=by decide
   rw[ae rfl]at j;subst j;refine Z ?_;refine I [0,1] hC ?_;exact jw
  rw[D h4]at j;subst j
  have q2:(J==2)=false:=by simpa using h2
  have q7:(J==7)=false:=by simpa using h7
  have q3:(J==3)=false:=by simpa using h3
  have q8:(J==8)=false:=by simpa using h8
  have q4:(J==4)=false:=by simpa using h4
  exact iV
 ·rintro _ _⟨rfl,rfl⟩;clear j hC L E;have⟨M,d⟩:=P;simp only at H |-;rw[<-H]at hls;rw[show cC p (.slice m c.ls.length o) M=cC p (.slice m M.ls.length o) M by rw[H],<-H];clear O;refine Z ?_;refine GW.range (bj l).length (fun k fr Γ=>∃m o i,fr=.loc 0 0::U::U::.loc 2 0::.loc 3 0::U::.v (.bool d)::zU 57 (.sl 6 (bj l)::y4 ((bj l).length:Int)::y4 (k:Nat)::zU 43 [])/\Γ=[.box 155 (cC p (.slice m i.ls.length o) i),.vech 9 1 (bX i.ls) (.slice m i.ls.length o),.box 89 (cT (.mk n l)),.box 82 (aP n)]/\i=(if d=true then jE p (l.take k) M else M)) ?_ X ?_ ?_ ?_
  ·exact⟨_,_,Wk.aW az,m,o,M,rfl,rfl,by cases d<;>simp[jE]⟩
  ·rintro k _ _⟨m,o,i,rfl,rfl,_⟩;exact dN
  ·rintro k _ _ mo⟨m,o,i,rfl,rfl,r⟩;rw[sa]at mo;obtain⟨u,hu⟩:∃u,l[k]?=some u:=⟨l[k],by simp[mo]⟩;have hr:=dp hu;have pf:=gZ hu
   cases d with
   |false =>
    refine Z ?_;exact⟨rfl,rfl,_,_,(Wk.cut (n:=4) (ed rfl) rfl).trans (Wk.aW az),m,o,i,rfl,rfl,r⟩
   |true =>
    rw[ae rfl]at r;have Q:=wZ p (l.take k) M;rw[<-r]at Q;have hi:=ih u X i m o X;unfold cO at hi;rw[ae rfl,OO p hu,<-r];refine Z ?_;refine bx [0,1] hi ?_;rintro _ _⟨rfl,R,S,rfl⟩;refine zao ?_;exact⟨rfl,rfl,_,_,(Wk.cut (n:=4) (ed rfl) rfl).trans (Wk.aW az),R,S,_,rfl,rfl,rfl⟩
  ·rintro _ _⟨m,o,i,rfl,rfl,r⟩;rw[sa,dx]at r;rw[<-r]
   have Q:i.ls.length<=8388608:=by
    rw[r];split
    ·have:=wZ p l M;omega
    ·omega
   clear r ih;refine bl ?_;have O:=kv i.ls n.s X;have Dy:=rE i.ls;have Z9:=jD p (.slice m i.ls.length o) i 21 n.at_;have h26:=jD p (.slice m i.ls.length o) i 26 n.at_;have l21:=i.qd 21 n.at_;have l26:=i.qd 26 n.at_
   cases hv:(n.ab != 13)with
   |true =>
    have e:mZ i n=i:=by unfold mZ;exact ae (by simpa using hv)
    rw[e];refine Z ?_;refine dz ?_;exact⟨rfl,m,o,rfl⟩
   |false =>
    have Xo:¬n.ab≠13:=by simpa using hv
    unfold cC at Z9 h26
    cases hb:i.ls.contains n.s with
    |true =>
     rw[hb]at O
     have e:mZ i n=⟨(i.fail 21 n.at_).ls++[n.s],(i.fail 21 n.at_).code,(i.fail 21 n.at_).at_⟩:=by unfold mZ;rw[D Xo];exact ae hb
     rw[e];generalize i.fail 21 n.at_=y at *;refine zde ?_;refine OA rfl rfl (GL.borrow O (fun B K β w l W V=>ic (A:=[_]) (C:=[_,_]) W V rfl rfl) ?_);refine zaX ?_;refine I [0] Z9 ?_;refine zb3 ?_;refine OA rfl rfl (GL.mx 1 (news:=[[.v (sv n.s)]]) rfl rfl rfl aO rfl rfl (by refine⟨?_,?_⟩;(· show _+1<=_;omega);(· show(_+1)*_<=_;omega)) ?_);intro F G;refine zem ?_;exact⟨rfl,F,G,by simp[cO,cC,bX,l21]⟩
    |false =>
     rw[hb]at O
     cases Ji:((i.ls.length:Int)==40)with
     |true =>
      have e:mZ i n=⟨(i.fail 26 n.at_).ls++[n.s],(i.fail 26 n.at_).code,(i.fail 26 n.at_).at_⟩:=by
       unfold mZ;rw[D Xo,D (by rw[hb];decide)];exact ae (by rw[beq_iff_eq]at Ji;omega)
      rw[e];generalize i.fail 26 n.at_=y at *;refine zde ?_;refine OA rfl rfl (GL.borrow O (fun B K β w l W V=>ic (A:=[_]) (C:=[_,_]) W V rfl rfl) ?_);refine zaX ?_;refine I [0] h26 ?_;refine zb3 ?_;refine OA rfl rfl (GL.mx 1 (news:=[[.v (sv n.s)]]) rfl rfl rfl aO rfl rfl (by refine⟨?_,?_⟩;(· show _+1<=_;omega);(· show(_+1)*_<=_;omega)) ?_);intro F G;refine zem ?_;exact⟨rfl,F,G,by simp[cO,cC,bX,l26]⟩
     |false =>
      have e:mZ i n=⟨i.ls++[n.s],i.code,i.at_⟩:=by
       unfold mZ;rw[D Xo,D (by rw[hb];decide)];exact D (by rw[beq_eq_false_iff_ne]at Ji;omega)
      rw[e];refine zde ?_;refine OA rfl rfl (GL.borrow O (fun B K β w l W V=>ic (A:=[_]) (C:=[_,_]) W V rfl rfl) ?_);refine zaX ?_;refine zb3 ?_;refine OA rfl rfl (GL.mx 1 (news:=[[.v (sv n.s)]]) rfl rfl rfl aO rfl rfl (by refine⟨?_,?_⟩;(· show _+1<=_;omega);(· show(_+1)*_<=_;omega)) ?_);intro F G;refine zem ?_;exact⟨rfl,F,G,by simp[cO,cC,bX]⟩
def B8(h:Value)(k e:Int):GF prog 206 [.loc 0 0,y4 e,y4 0] [.box 155 (cC p h ⟨[],k,0⟩)] (.tup []) [.box 155 (cC p h ⟨[],iD k e,0⟩)]:=by
 have:=jD p h ⟨[],k,0⟩ e 0
 rwa[show(SS.fail ⟨[],k,0⟩ e 0)=⟨[],iD k e,0⟩ by unfold SS.fail iD;by_cases l:k=0<;>simp[l]]at this
def FZ(h:Value)(k:Int)(m:p.aq.length<=1048576)(z:∀a∈p.aq,0<=a.size/\a.size<=2147483648)
  (rest:(p.aq.all fun a=>!nB a)=true->GF prog 148 [.loc 0 0] [.box 155 (cC p h ⟨[],k,0⟩)] (.tup []) [.box 155 (cC p h ⟨[],rC p k,0⟩)]) :
  GF prog 148 [.loc 0 0] [.box 155 (cC p h ⟨[],k,0⟩)] (.tup []) [.box 155 (cC p h ⟨[],rC p k,0⟩)]:=by
 cases V:(p.aq.all fun a=>!nB a)with
 |true=>exact rest V
 |false =>
 have N:(p.aq.map bb).length=p.aq.length:=by simp
 have F:=u5 z;have w:=B8 p h k 26
 have q:p.aq.any nB=true:=by
  cases s:p.aq.any nB with
  |true=>rfl
  |false =>
   rw[any_eq_false]at s;rw[all_eq_false]at V;have⟨x,hx,O⟩:=V;have:=s x hx;simp at O;rw[O]at this;exact absurd rfl this
 rw[show rC p k=iD k 26 by unfold rC;exact ae q];unfold cC at w |-;refine aj func148 ntmps148 ?_;refine GW.range (p.aq.map bb).length (fun A B W=>B=.loc 0 0::U::y4 (eE (p.aq.take A))::U::U::U::U::U::U::U::U::U::.sl 2 (p.aq.map bb)::y4 ((p.aq.map bb).length:Int)::y4 (A:Nat)::zU 79 []/\W=[.box 155 [strs p.ax,.sl 2 (p.aq.map bb),.sl 3 (p.ak.map aH),.sl 5 (p.ah.map aP),.v h,y4 k,y4 0]]/\(p.aq.take A).all (fun a=>!nB a)=true) ?_ X ?_ ?_ ?_
 ·exact kz
 ·rintro A _ _⟨rfl,rfl,_⟩;exact dN
 ·rintro A _ _ M⟨rfl,rfl,l⟩;rw[N]at M;obtain⟨x,hx⟩:∃x,p.aq[A]?=some x:=⟨p.aq[A],by simp[M]⟩
  have r:(p.aq.map bb)[A]?=some (bb x):=by rw[bO,hx];rfl
  have j:=nq (f:=nB) hx;have C:=sM hx;have d:=F A;have H:=z x (bB hx);have G:nB x=(decide (x.size<1) ||decide (8000<x.size)):=rfl;unfold bb at r
  cases O:decide (x.size<1)with
  |true =>
   refine Z ?_;refine I [0] w ?_;exact ia
  |false =>
   cases E:decide (8000<x.size)with
   |true =>
    refine Z ?_;refine I [0] w ?_;exact ia
   |false =>
    rw[C];generalize eE (p.aq.take A)=c at *;refine Z ?_;exact⟨rfl,rfl,_,_,(Wk.cut (n:=1) (aQ _) rfl).trans (Wk.aW az),rfl,rfl,by rw[j,l,G,O,E];rfl⟩
 ·rintro _ _⟨rfl,rfl,l⟩;rw[N,dx]at l;rw[l]at V;cases V
def Em(h:Value)(k:Int)(AR:p.aq.length<=1048576)(FJ:p.ak.length<=1048576)(M:∀a∈p.aq,0<=a.size/\a.size<=2147483648)(m:(p.aq.all fun a=>!nB a)=true) :
  GF prog 148 [.loc 0 0] [.box 155 (cC p h ⟨[],k,0⟩)] (.tup []) [.box 155 (cC p h ⟨[],rC p k,0⟩)]:=by
 have J:(p.aq.map bb).length=p.aq.length:=by simp
 have A:(p.ak.map aH).length=p.ak.length:=by simp
 have FK:(p.ax.map fun s=>[GV.v (sv s)]).length=p.ax.length:=by simp
 have hb:=u5 M
 have o:p.aq.any nB=false:=by
  rw[any_eq_false];rw[fa]at m;intro x hx;simpa using m x hx
 have r:=B8 p h;unfold cC at r |-;refine aj func148 ntmps148 ?_;refine GW.range (p.aq.map bb).length (fun t E N=>E=.loc 0 0::U::y4 (eE (p.aq.take t))::U::U::U::U::U::U::U::U::U::.sl 2 (p.aq.map bb)::y4 ((p.aq.map bb).length:Int)::y4 (t:Nat)::zU 79 []/\N=[.box 155 [strs p.ax,.sl 2 (p.aq.map bb),.sl 3 (p.ak.map aH),.sl 5 (p.ah.map aP),.v h,y4 k,y4 0]]) ?_ X ?_ ?_ ?_
 ·exact jw
 ·rintro t _ _⟨rfl,rfl⟩;exact dN
 ·rintro t _ _ q⟨rfl,rfl⟩;rw[J]at q;obtain⟨x,hx⟩:∃x,p.aq[t]?=some x:=⟨p.aq[t],by simp[q]⟩
  have L:(p.aq.map bb)[t]?=some (bb x):=by rw[bO,hx];rfl
  have R:=sM hx;have hbk:=hb t;have hxs:=M x (bB hx)
  have z:nB x=false:=by
   rw[any_eq_false]at o;have:=o x (bB hx);exact zdQ
  unfold nB at z;rw[Bool.or_eq_false_iff]at z;have⟨F,Q⟩:=z;have Q:decide (8000<x.size)=false:=Q;unfold bb at L;rw[R];generalize eE (p.aq.take t)=c at *;refine Z ?_;exact⟨rfl,rfl,_,_,(Wk.cut (n:=1) (aQ _) rfl).trans (Wk.aW az),rfl,rfl⟩
 ·rintro _ _⟨rfl,rfl⟩;rw[J,dx];refine bl ?_;refine GW.seq ?_;have e1:decide (p.ak.length>40)=decide ((40:Int)<((p.ak.map aH).length:Int)):=decide_eq_decide.2 (by rw[A];omega);have e2:decide (p.ax.length>29)=decide ((29:Int)<((p.ax.map fun s=>[GV.v (sv s)]).length:Int)):=decide_eq_decide.2 X
  have G:u3 p=((decide ((40:Int)<((p.ak.map aH).length:Int)) ||decide ((29:Int)<((p.ax.map fun s=>[GV.v (sv s)]).length:Int))) ||decide ((8000:Int)<eE p.aq)):=by unfold u3;rw[e1,e2]
  refine GW.join (fun E N=>E=.loc 0 0::zU 93 []/\N=[.box 155 [strs p.ax,.sl 2 (p.aq.map bb),.sl 3 (p.ak.map aH),.sl 5 (p.ah.map aP),.v h,y4 (if u3 p=true then iD k 26 else k),y4 0]]) ?_ ?_
  ·rw[G];have d:=r k 26;generalize eE p.aq=c at *
   cases F:decide ((40:Int)<((p.ak.map aH).length:Int))
   all_goals cases Q:decide ((29:Int)<((p.ax.map fun s=>[GV.v (sv s)]).length:Int))
   all_goals cases h3:decide ((8000:Int)<c)
   all_goals
    refine Z ?_
    first
     |exact jw
     |(refine jS [0] d ?_;refine Z ?_;exact⟨_,_,Wk.aW az,rfl,rfl⟩)
  ·rintro _ _⟨rfl,rfl⟩;generalize H:(if u3 p=true then iD k 26 else k)=O
   have B:∀j:Nat,∀x:Go.Sp.Fn,p.ak[j]?=some x->(p.ak.take (j+1)).any (fun f=>decide (f.params.length>40))=((p.ak.take j).any (fun f=>decide (f.params.length>40)) ||decide (x.params.length>40)):=fun j x hx=>by
    rw[dc,hx,any_append];simp
   refine Z ?_;refine GW.range (p.ak.map aH).length (fun j E N=>∃b,E=.loc 0 0::zU 58 (.sl 3 (p.ak.map aH)::y4 ((p.ak.map aH).length:Int)::y4 (j:Nat)::zU 32 [])/\N=[.box 155 [strs p.ax,.sl 2 (p.aq.map bb),.sl 3 (p.ak.map aH),.sl 5 (p.ah.map aP),.v h,y4 b,y4 0]]/\b=(if(p.ak.take j).any (fun f=>decide (f.params.length>40))=true then iD O 26 else O)) ?_ X ?_ ?_ ?_
   ·exact⟨_,_,Wk.aW az,O,rfl,rfl,by simp⟩
   ·rintro j _ _⟨b,rfl,rfl,_⟩;exact dN
   ·rintro j _ _ q⟨b,rfl,rfl,l⟩;rw[A]at q;obtain⟨x,hx⟩:∃x,p.ak[j]?=some x:=⟨p.ak[j],by simp[q]⟩
    have L:(p.ak.map aH)[j]?=some (aH x):=by rw[bO,hx];rfl
    have V:(x.params.map fun s=>[GV.v (sv s)]).length=x.params.length:=by simp
    have S:=B j x hx;have z:decide (x.params.length>40)=decide ((40:Int)<((x.params.map fun s=>[GV.v (sv s)]).length:Int)):=decide_eq_decide.2 X;have d:=r b 26;rw[S,z];unfold aH at L
    cases F:decide ((40:Int)<((x.params.map fun s=>[GV.v (sv s)]).length:Int))with
    |true =>
     have e:iD b 26=iD O 26:=by rw[l];split;(· exact Us _ _ aN);rfl
     rw[e]at d;refine Z ?_;refine I [0] d ?_;exact⟨rfl,rfl,_,_,(Wk.cut (n:=1) (aQ _) rfl).trans (Wk.aW az),_,rfl,rfl,by simp⟩
    |false =>
     refine Z ?_;exact⟨rfl,rfl,_,_,(Wk.cut (n:=1) (aQ _) rfl).trans (Wk.aW az),b,rfl,rfl,by rw[l,Bool.or_false]⟩
   ·rintro _ _⟨b,rfl,rfl,l⟩;rw[A,dx]at l
    have hs:rC p k=(if lK p=true then iD b 25 else b):=by
     unfold rC;rw[D (by rw[o];decide),H,<-l]
    rw[hs];refine bl ?_;have u:=r b 25;have w:=vK p eU X;unfold bM at w;clear hs l H
    cases hx:p.ak.findIdx? (fun f:Go.Sp.Fn=>f.name==eU)with
    |none =>
     rw[hx]at w
     have z:decide ((-1:Int)<0)=true:=by decide
     simp only at w;rw[show(if lK p=true then iD b 25 else b)=iD b 25 from ae (by unfold lK;rw[hx])];refine Z ?_;refine I [] w ?_;refine I [0] u ?_;exact ia
    |some i =>
     rw[hx]at w;have hi:i<p.ak.length:=(List.findIdx?_eq_some_iff_getElem.1 hx).1;obtain⟨f,W⟩:∃f,p.ak[i]?=some f:=⟨p.ak[i],by simp[hi]⟩
     have L:(p.ak.map aH)[i]?=some (aH f):=by rw[bO,W];rfl
     have V:(f.params.map fun s=>[GV.v (sv s)]).length=f.params.length:=by simp
     have z:decide (((i:Nat):Int)<0)=false:=by simp
     have T:decide (mM p i>0)=decide ((0:Int)<((f.params.map fun s=>[GV.v (sv s)]).length:Int)):=by
      unfold mM;rw[W];exact decide_eq_decide.2 (by simp only;omega)
     simp only at w
     have C:lK p=decide (mM p i>0):=by unfold lK;rw[hx]
     rw[T]at C;unfold aH at L
     cases F:decide ((0:Int)<((f.params.map fun s=>[GV.v (sv s)]).length:Int))with
     |true =>
      rw[show(if lK p=true then iD b 25 else b)=iD b 25 from ae (by rw[C,F])];refine Z ?_;refine I [] w ?_;refine I [0] u ?_;exact ia
     |false =>
      rw[show(if lK p=true then iD b 25 else b)=b from D (by rw[C,F];decide)];refine Z ?_;refine I [] w ?_;exact ia
def Mg(S:GF prog 76 [.agg (aD p)] [] (.v (.bool false)) []):GF prog 80 [.agg (aD p)] [] (.tup [y4 20,y4 0]) []:=by
 refine aj func80 ntmps80 ?_;refine I [] S ?_;exact dE
def Kw(l:List T)(G e:SS)(V:p.ak.length=l.length)(W:p.ak.length<=1048576)(z:p.aq.length<=1099511627776)(C:p.ax.length<=1099511627776)
  (q:∀f∈p.ak,f.params.length<=1048576)(F:∀t∈l,bc t<=1048576)
  (S:GF prog 76 [.agg (aD p)] [] (.v (.bool true)) [])
  (H:GF prog 147 [.loc 0 0] [.box 155 (cC p y6 ⟨[],0,0⟩)] (.tup []) [.box 155 (cC p y6 G)])
  (L:GF prog 148 [.loc 0 0] [.box 155 (cC p y6 G)] (.tup []) [.box 155 (cC p y6 e)])
  (r:∀(i:Nat)(f:Go.Sp.Fn)(t:T),p.ak[i]?=some f->l[i]?=some t->GF prog 120 [.agg (aD p),y4 f.body] [] (.agg (cT t)) []) :
  GF prog 80 [.agg (aD p)] [] (.tup [.v (ii (oo p p.ak l e).code),.v (ii (oo p p.ak l e).at_)]) []:=by
 have o:(p.ak.map aH).length=p.ak.length:=by simp
 unfold cC at H L;refine aj func80 ntmps80 ?_;refine I [] S ?_;refine I [1] H ?_;refine I [1] L ?_;refine GW.range (p.ak.map aH).length (fun k R Γ=>∃h c,R=U::.loc 0 0::U::U::.loc 1 0::zU 13 (.sl 3 (p.ak.map aH)::y4 ((p.ak.map aH).length:Int)::y4 (k:Nat)::zU 26 [])/\Γ=[.box 28 (aD p),.box 155 (cC p h c)]/\oo p p.ak l e=oo p (p.ak.drop k) (l.drop k) c) ?_ X ?_ ?_ ?_
 ·exact⟨_,_,Wk.aW az,_,e,rfl,rfl,rfl⟩
 ·rintro k _ _⟨h,c,rfl,rfl,_⟩;exact dN
 ·rintro k _ _ b⟨h,c,rfl,rfl,d⟩;rw[o]at b;obtain⟨f,m⟩:∃f,p.ak[k]?=some f:=⟨p.ak[k],by simp[b]⟩;obtain⟨t,s⟩:∃t,l[k]?=some t:=⟨l[k]'X,cq _⟩
  have hr:(p.ak.map aH)[k]?=some (aH f):=by rw[bO,m];rfl
  have A:p.ak.drop k=f::p.ak.drop (k+1):=by rw[l8 b];rw[cq b]at m;rw[uX m]
  have B:l.drop k=t::l.drop (k+1):=by rw[l8 X];rw[cq X]at s;rw[uX s]
  have hp:=q f (bB m);have hz:=F t (bB s);have E:=r k f t m s;have J:=HV p h c f hp;rw[A,B,oo]at d
  cases M:(c.code==0)with
  |false =>
   rw[D zfc]at d;unfold cC aH at *;refine Z ?_;exact⟨rfl,rfl,_,_,(Wk.cut (n:=2) (bg _) rfl).trans (Wk.aW az),h,c,rfl,rfl,d⟩
  |true =>
   rw[ae zfc]at d
   have j:=fun u w=>Oq p z X C _ t (aQ _) (ry f c) u w (by show f.params.length+_<=_;omega)
   rw[d];generalize oC p t (ry f c)=O at *;unfold cO at j;unfold aH at hr J;rw[show cC p h c=[strs p.ax,.sl 2 (p.aq.map bb),.sl 3 (p.ak.map aH),.sl 5 (p.ah.map aP),.v h,y4 c.code,y4 c.at_]from rfl]at *;refine Z ?_;refine bx [1] J ?_;rintro _ _⟨rfl,u,w,rfl⟩;refine zao ?_;refine I [] E ?_;refine bx [1,3] (j u w) ?_;rintro _ _⟨rfl,N,Q,rfl⟩;refine zao ?_;exact⟨rfl,rfl,_,_,(Wk.cut (n:=2) (bg _) rfl).trans (Wk.aW az),_,O,rfl,rfl,rfl⟩
 ·rintro _ _⟨h,c,rfl,rfl,d⟩;rw[o,drop_length,QF]at d;rw[d];unfold cC;refine zeA ?_;refine aS (aK 0 10 .nil) ?_;refine av ?_;exact nC
end
end Go.Xg
namespace Go.Xg
open Go.RowKit Go.Xw Go.Proofs
section
variable{P:Program}{m:Nat}{ops:Array Oper}{Q:dU}{rest:List Oper}{fr:am}{Γ:ap}
def PE{o:Oper}{a:Act}{next l:Act->World->Prop}{Q Q':Exit->Act->World->Prop}(hn:∀a w,next a w->l a w)(n:∀e a w,Q e a w->Q' e a w):∀r,o.upon P a next Q r->o.upon P a l Q' r:=by
 have T:LetsOut Q->LetsOut Q':=fun⟨a,w,h⟩=>⟨a,w,n _ _ _ h⟩
 intro r h;unfold Oper.upon at h |-;split at h
 ·exact hn _ _ h
 ·exact hn _ _ h
 ·exact hn _ _ h
 ·refine Calls.mono h fun e t R=>?_
  cases e with
  |returned v=>exact hn _ _ R
  |panicked E=>exact n _ _ _ R
  |outgrown=>exact T R
 ·exact Rows.mono h fun v t V=>hn _ _ V
 ·exact n _ _ _ h
 ·exact h
def zD{Q Q':Exit->Act->World->Prop}(n:∀e a w,Q e a w->Q' e a w):∀(l:List Oper)(a:Act)(w:World),wpList P ops Q l a w->wpList P ops Q' l a w
 |[],a,w,h=>n _ _ _ h
 |o::l,a,w,h=>by
  have O:=zD n l;unfold wpList at h |-;split at h
  ·rename_i R;rw[ae R]
   rcases h with h|⟨M,v⟩
   ·exact .inl (PE O n _ h)
   ·exact .inr ⟨M,by have⟨a,w,h⟩:=v;exact⟨a,w,n _ _ _ h⟩⟩
  ·rename_i R;rw[D R];exact O _ _ h
theorem GL.mono{Q':dU}(h:GL P m ops Q rest fr Γ)(o:∀e fr Γ,Q e fr Γ->Q' e fr Γ):GL P m ops Q' rest fr Γ:=fun B K n w l G N S =>
 zD (fun e a w ⟨l,z,K,n,fr,Γ,N,S,q⟩=>⟨l,z,K,n,fr,Γ,N,S,o _ _ _ q⟩) _ _ _ (h B K n w l G N S)
def GL.Zr{z y:Code}(K:am->ap->Prop)(M:GL P m ops (bh (GW P m z (bh (zc m K) Q)) Q) rest fr Γ)(v:∀fr Γ,K fr Γ->GW P m y Q fr Γ):GL P m ops (bh (GW P m z (bh (GW P m y Q) Q)) (bh (GW P m y Q) Q)) rest fr Γ:=by
 refine M.mono fun e fr Γ n=>?_
 cases e with
 |normal=>exact GW.join K n v
 |_=>exact n
def GL.sw{t i n E k:Nat}{rows:List am}(q:cJ fr t=.vec i n)(z:jc fr t=true)(H:Γ[i]?=some (.vec E k 0 rows))(hn:rows.length=n)
  (h:∀a c,GL P m ops Q rest (bU fr t (.v (.slice a n c))) (oset Γ i (.vech E k rows (.slice a n c)))):GL P m ops Q rest fr Γ:=fun B K β w l J N S=>by
 subst hn;have⟨a,c,A,G⟩:=N.sw H
 have T:nth l t=.slice a rows.length c:=by
  have:=S.nth t;rw[q]at this;generalize nth l t=x at this
  cases this with
  |vec i n C r h =>
   have⟨s,u,e,_,o⟩:=h;rw[A]at e;cases e;exact o rfl
 have:=S.eV t (Rel.v (K:=K) (β:=β) (.slice a rows.length c));rw[<-T,Aw (nK S z),T]at this;exact h a c B K β w l J G this
end
end Go.Xg
set_option maxHeartbeats 1000000
namespace Go.Xg
open Go.RowKit Go.Xw Go.Proofs Tryz Go.Sp
open Go.Xp (Nd T levels bD gN E er bo wt gy qU eX)
attribute [local irreducible] GW GL GO YG GC GA bh bn
def fi{E:Nd}{l V:List T}{k v:Int}{s:ai}(h:er (.mk E l)=.mk ⟨k,0,v,s,[]⟩ V):E.ab=k/\E.n=v/\E.s=s/\bo l=V:=by
 rw[er]at h
 injection h with h1 h2
 injection h1 with a b c d e
 exact⟨a,c,d,h2⟩
def wF{l:List T}{x:T}(h:bo l=[x]):∃t,l=[t]/\er t=x:=by
 match l,h with
 |[t],h=>rw[bo,bo]at h;injection h with h1;exact⟨t,rfl,h1⟩
 |[],h=>rw[bo]at h;cases h
 |t::u::r,h=>rw[bo,bo]at h;injection h with h1 h2;cases h2
def B5{l:List T}{x y:T}(h:bo l=[x,y]):∃t u,l=[t,u]/\er t=x/\er u=y:=by
 match l,h with
 |t::r,h =>
  rw[bo]at h;injection h with h1 h2
  obtain⟨u,rfl,v⟩:=wF h2;exact⟨t,u,rfl,h1,v⟩
 |[],h=>rw[bo]at h;cases h
def aak{l:List T}{x y z:T}(h:bo l=[x,y,z]):∃t u w,l=[t,u,w]/\er t=x/\er u=y/\er w=z:=by
 match l,h with
 |t::r,h =>
  rw[bo]at h;injection h with h1 h2
  obtain⟨u,w,rfl,v,N⟩:=B5 h2;exact⟨t,u,w,rfl,h1,v,N⟩
 |[],h=>rw[bo]at h;cases h
def R3{a:E}(h:a.ok=true){t:T}(o:er t=a.tree):nX t.n.ab t.n.s=(a.lv:Int):=by
 have⟨F,l⟩:=t
 cases a with
 |bin s a b =>
  have⟨M,_,v,_⟩:=fi o;simp only[E.ok,aU]at h;have j:=(Go.Xp.sd h.1.1).1;simp only[T.n,M,v,nX,ae,E.lv];unfold eX at j |-
  cases u:levels.findIdx? (fun l=>l.contains s)with
  |none=>rw[u]at j;exact absurd j aN
  |some i=>rfl
 |num n=>exact zbE
 |name n=>exact zbE
 |at_ s a=>exact zbE
 |call s a=>exact zbE
 |un s a=>exact zbE
def rJ{a:E}(h:a.ok=true){t:T}(o:er t=a.tree):GF prog 357 [.agg (cT t)] [] (y4 (a.lv:Int)) []:=by
 have:=Lu t;rw[R3 h o]at this;exact this
def CY(n:Int)(h:0<=n/\n<=2147483647):GF prog 358 [y4 n] [] (.v (sv (gN n.toNat))) []:=by
 have R:=V0 n
 have t:bD n=n:=by unfold bD;rw[show n%4294967296=n by omega,D X]
 rw[t]at R;have F:=HO n.toNat X;rw[Int.toNat_of_nonneg h.1]at F
 have L:decide (n<0)=false:=by simpa using h.1
 refine aj func358 ntmps358 ?_;refine I [] R ?_;refine I [] F ?_;exact aw
abbrev lim:Nat:=1000000000000
def rW(a:E):Prop:=∀(t:T)(k:Nat),a.ok=true->er t=a.tree->wt a.tree<=lim->¬a.lv<k->GF prog 321 [.agg (cT t),y4 (k:Int)] [] (.v (sv a.bP)) []
def pr(a:E):Prop:=∀(t:T)(k:Nat),a.ok=true->er t=a.tree->wt a.tree<=lim->GF prog 321 [.agg (cT t),y4 (k:Int)] [] (.v (sv (qU a.lv k a.bP))) []
def rW.p{a:E}(C:rW a):pr a:=by
 intro t k l o v;unfold qU
 by_cases h:a.lv<k
 ·rw[ae h]
  have L:decide ((a.lv:Int)<(k:Int))=true:=by simpa using h
  have T:=(E.len a l).1;have s:=C t 0 l o v X;have F:=v;unfold lim at F;generalize a.bP=x at *;refine aj func321 ntmps321 ?_;refine I [] (rJ l o) ?_;exact zdK
 ·rw[D h];exact C t k l o v h
def OC(n:Int):rW (.num n):=by
 intro t k m o z h
 have L:decide (((E.num n).lv:Int)<(k:Int))=false:=by simpa using h
 have B:=rJ m o;have⟨⟨A,q,C,s,F⟩,l⟩:=t;have⟨M,v,w,W⟩:=fi o;simp only at M v w;subst M v w;simp only[E.ok,aU]at m;have V:=CY C ⟨oe m.1,oe m.2⟩;rw[E.bP];simp only[cT,T.n,T.au]at B |-;refine aj func321 ntmps321 ?_;refine I [] B ?_;refine I [] V ?_;exact aw
def LB(s:ai):rW (.name s):=by
 intro t k m o z h
 have L:decide (((E.name s).lv:Int)<(k:Int))=false:=by simpa using h
 have B:=rJ m o;have⟨⟨A,q,F,u,C⟩,l⟩:=t;have⟨M,v,w,V⟩:=fi o;simp only at M v w;subst M v w;rw[E.bP];simp only[cT,T.n,T.au]at B |-;refine aj func321 ntmps321 ?_;refine I [] B ?_;exact aw
def Re(s:ai)(a:E)(C:pr a):rW (.at_ s a):=by
 intro t k m q z h
 have L:decide (((E.at_ s a).lv:Int)<(k:Int))=false:=by simpa using h
 have B:=rJ m q;have⟨⟨A,r,H,G,F⟩,l⟩:=t;have⟨M,v,w,V⟩:=fi q;simp only at M v w;subst M v w;obtain⟨x,rfl,hx⟩:=wF V;simp only[E.ok,aU]at m;rw[E.tree,wt]at z;simp only[gy,lim]at z;have o:=C x 0 m.2 hx ze8;unfold qU at o;rw[D X]at o;have W:=(E.len a m.2).1;have u:(bj [x])[0]?=some (cT x):=dp rfl;rw[E.bP];generalize a.bP=y at *;simp only[cT,T.n,T.au]at B |-;refine aj func321 ntmps321 ?_;refine I [] B ?_;refine aS (aK 0 8 (.a 8 (aK 9 3 .nil))) ?_;exact zcM
def Rf(s:ai)(a:E)(C:pr a):rW (.un s a):=by
 intro t k m o z h
 have L:decide (((E.un s a).lv:Int)<(k:Int))=false:=by simpa using h
 have B:=rJ m o;have⟨⟨G,u,N,J,H⟩,l⟩:=t;have⟨M,v,w,V⟩:=fi o;simp only at M v w;subst M v w;obtain⟨x,rfl,hx⟩:=wF V;simp only[E.ok,aU]at m;rw[E.tree,wt]at z;simp only[gy,lim]at z;have r:=C x 9 m.2 hx ze8;have W:=(E.len a m.2).1;have A:=Go.Xp.s9 a.lv 9 a.bP;have F:(bj [x])[0]?=some (cT x):=dp rfl;rw[E.bP];generalize qU a.lv 9 a.bP=y at *;simp only[cT,T.n,T.au]at B |-;refine aj func321 ntmps321 ?_;refine I [] B ?_;refine aS (aK 0 8 (.a 8 (.q 9 (.a 10 (.q 11 (.q 12 .nil)))))) ?_;refine av ?_;refine aJ [] jW ?_;refine aJ [] r ?_;exact aB
def OB(s:ai)(a b:E)(Q:pr a)(Cb:pr b):rW (.bin s a b):=by
 intro t k m o G h
 have L:decide (((E.bin s a b).lv:Int)<(k:Int))=false:=by simpa using h
 have B:=rJ m o;have⟨⟨S,r,i,v,e⟩,l⟩:=t;have⟨M,A,F,V⟩:=fi o;simp only at M A F;subst M A F;obtain⟨x,y,rfl,hx,O⟩:=B5 V;simp only[E.ok,aU]at m;rw[E.tree,wt]at G;simp only[gy,lim]at G;have z:=Q x (eX v) m.1.2 hx ze8;have C:=Cb y (eX v+1) m.2 O ze8;have N:=(Go.Xp.sd m.1.1).1;have W:=(E.len a m.1.2).1;have H:=Go.Xp.s9 a.lv (eX v) a.bP;have J:=(E.len b m.2).1;have d:=Go.Xp.s9 b.lv (eX v+1) b.bP;have R:(bj [x,y])[0]?=some (cT x):=dp rfl;have c:(bj [x,y])[1]?=some (cT y):=dp rfl;rw[E.bP];simp only[E.lv]at B L;generalize qU a.lv (eX v) a.bP=u at *;generalize qU b.lv (eX v+1) b.bP=w at *;simp only[cT,T.n,T.au]at B |-;refine aj func321 ntmps321 ?_;refine I [] B ?_;refine I [] B ?_;refine aS (aK 0 5 (aK 7 3 (aK 12 6 (.a 5 (.q 6 (.q 10 (.q 11 (.a 18 (.q 19 (.q 20 .nil)))))))))) ?_;refine av ?_;refine aJ [] z ?_;refine aJ [] C ?_;exact aB
open GV (U)
open Go.Xp (cE A1 wN)
def KM(b:Bool)(a:E):Prop:=∀t,er t=a.tree->GF prog 261 [.agg (cT t),.v (.bool b)] [] (.v (sv (a.out b))) []
def Nj:∀{ts:List T}{m:List E}(h:bo ts=E.aM m),ts.length=m.length/\∀(k:Nat)t a,ts[k]?=some t->m[k]?=some a->er t=a.tree
 |[],[],_=>⟨rfl,fun k t a h=>by simp at h⟩
 |[],a::l,h=>by rw[bo,E.aM]at h;cases h
 |t::r,[],h=>by rw[bo,E.aM]at h;cases h
 |t::r,a::l,h=>by
  rw[bo,E.aM]at h
  injection h with h1 h2
  have⟨v,N⟩:=Nj h2;refine⟨by simp[v],fun k b B o z=>?_⟩
  cases k with
  |zero=>cases o;cases z;exact h1
  |succ k=>exact N k b B zfG zfv
def DJ(b:Bool)(l:List E)(C:∀a∈l,KM b a)(ts:List T)(N:bo ts=E.aM l)(B:(cE (l.map (E.out b))).length<=lim)(hn:l.length<=lim) :
  GF prog 359 [.sl 6 (bj ts),.v (.bool b)] [] (.v (sv (cE (l.map (E.out b))))) []:=by
 have⟨F,o⟩:=Nj N;unfold lim at B hn;refine aj func359 ntmps359 ?_;refine GW.range (bj ts).length (fun k z W=>∃y,z=U::.v (.bool b)::U::U::U::.v (sv y)::U::U::.sl 6 (bj ts)::y4 ((bj ts).length:Int)::y4 (k:Nat)::zU 15 []/\W=[]/\y=cE ((l.map (E.out b)).take k)) ?_ zfE ?_ ?_ ?_
 ·exact⟨_,_,Wk.aW az,[],rfl,rfl,by simp[cE]⟩
 ·rintro k _ _⟨y,rfl,rfl,_⟩;exact dN
 ·rintro k _ _ m⟨y,rfl,rfl,J⟩
  have m:k<l.length:=by rw[bq,F]at m;exact m
  have r:k<ts.length:=by omega
  have hx:l[k]?=some l[k]:=by simp[m]
  have w:ts[k]?=some ts[k]:=by simp[r]
  have S:=o k _ _ w hx;have H:=dp w;have u:=C _ (bB hx) _ S;have M:=wN (l.map (E.out b)) (k+1);have d:=wN (l.map (E.out b)) k
  have R:(l.map (E.out b)).take (k+1)=(l.map (E.out b)).take k++[l[k].out b]:=by
   rw[dc,bO,hx];rfl
  rw[R]at M;generalize ts[k]=t at *;generalize l[k]=a at *;generalize a.out b=x at *
  by_cases s:k=0
  ·subst s
   have A:decide ((0:Int)<((0:Nat):Int))=false:=by decide
   have G:cE ((l.map (E.out b)).take 0++[x])=[]++x:=by simp[cE]
   have O:cE ((l.map (E.out b)).take 0)=[]:=by simp[cE]
   rw[O]at J;subst J;rw[G]at M
   have M:x.length<=(cE (l.map (E.out b))).length:=by simpa using M
   exact zcb
  ·have A:decide ((0:Int)<(k:Int))=true:=by simpa using by omega
   have q:(l.map (E.out b)).take k≠[]:=by
    intro h;rw[List.take_eq_nil_iff]at h
    rcases h with h|h
    ·exact s h
    ·rw[List.map_eq_nil_iff]at h;subst h;simp at m
   have G:=A1 q x;rw[G]at M;rw[<-J]at M G d;simp only[bf,length_cons,length_nil]at M;exact zcb
 ·rintro _ _⟨y,rfl,rfl,J⟩;have:(l.map (E.out b)).take (bj ts).length=l.map (E.out b):=kK (by rw[bq,F];simp);rw[this]at J;subst J;exact aB
def pr.out{a:E}(C:pr a)(k:a.ok=true)(w:wt a.tree<=lim):KM true a:=by
 intro t o;have s:=C t 0 k o w;unfold qU at s;rw[D X]at s;show GF _ _ _ _ (.v (sv a.bP)) _;refine aj func261 ntmps261 ?_;exact zdK
def CU:∀l:List E,l.length<=gy (E.aM l)
 |[]=>bg _
 |a::l=>by
  have:=CU l;rw[E.aM,gy,length_cons]
  have:1<=wt a.tree:=by cases a<;>(rw[E.tree,wt];omega)
  omega
def CV:∀{l:List E}{a:E},a∈l->wt a.tree<=gy (E.aM l)
 |[],_,h=>by cases h
 |b::l,a,h=>by
  rw[E.aM,gy]
  rcases ln h with rfl|h
  ·omega
  ·have:=CV h;omega
def Cv:∀{l:List E}{a:E},E.dF l=true->a∈l->a.ok=true
 |[],_,_,h=>by cases h
 |b::l,a,k,h=>by
  simp only[E.dF,aU]at k
  rcases ln h with rfl|h
  ·exact k.1
  ·exact Cv k.2 h
def LA(s:ai)(m:List E)(C:∀a∈m,pr a):rW (.call s m):=by
 intro t k o q v h
 have L:decide (((E.call s m).lv:Int)<(k:Int))=false:=by simpa using h
 have B:=rJ o q;have⟨⟨H,r,N,u,J⟩,l⟩:=t;have⟨M,w,A,V⟩:=fi q;simp only at M w A;subst M w A;simp only[E.ok,aU]at o;rw[E.tree,wt]at v;have W:=(E.lens m o.2).1;have b:=CU m
 have F:E.ei m=m.map (E.out true):=by rw[E.R6];rfl
 have G:=DJ true m (fun a z=>(C a z).out (Cv o.2 z) (by have:=CV z;omega)) l V (by rw[<-F];omega) X;rw[<-F]at G;unfold lim at v;simp only at v;rw[E.bP];generalize cE (E.ei m)=y at *;simp only[cT,T.n,T.au]at B |-;refine aj func321 ntmps321 ?_;refine I [] B ?_;exact zdj
mutual
def vL:∀a:E,pr a
 |.num n=>(OC n).p
 |.name s=>(LB s).p
 |.at_ s a=>(Re s a (vL a)).p
 |.call s l=>(LA s l (JH l)).p
 |.un s a=>(Rf s a (vL a)).p
 |.bin s a b=>(OB s a b (vL a) (vL b)).p
def JH:∀l:List E,∀a∈l,pr a
 |[]=>fun a h=>by cases h
 |b::l=>fun a h=>by
  rcases ln h with h|h
  ·rw[h];exact vL b
  ·exact JH l a h
end
def nk(a:E):Prop:=∀(t:T),a.ok=true->er t=a.tree->wt a.tree<=lim->GF prog 322 [.agg (cT t)] [] (.v (sv a.full)) []
def nk.out{a:E}(C:nk a)(k:a.ok=true)(w:wt a.tree<=lim):KM false a:=by
 intro t o;have s:=C t k o w;show GF _ _ _ _ (.v (sv a.full)) _;refine aj func261 ntmps261 ?_;exact zdK
def QK(n:Int):nk (.num n):=by
 intro t k o z;have⟨⟨A,q,C,s,B⟩,l⟩:=t;have⟨M,v,w,W⟩:=fi o;simp only at M v w;subst M v w;simp only[E.ok,aU]at k;have V:=CY C ⟨oe k.1,oe k.2⟩;rw[E.full];simp only[cT,T.n,T.au];refine aj func322 ntmps322 ?_;refine I [] V ?_;exact aw
section
variable(s:ai)
def ND:nk (.name s):=by
 intro t k o z;have⟨⟨A,q,C,u,B⟩,l⟩:=t;have⟨M,v,w,V⟩:=fi o;simp only at M v w;subst M v w;rw[E.full];simp only[cT,T.n,T.au];refine aj func322 ntmps322 ?_;exact aw
def Ux(a:E)(C:nk a):nk (.at_ s a):=by
 intro t k o z;exact zam
def NC(m:List E)(C:∀a∈m,nk a):nk (.call s m):=by
 intro t k o v;have⟨⟨B,q,J,u,H⟩,l⟩:=t;have⟨M,w,A,V⟩:=fi o;simp only at M w A;subst M w A;simp only[E.ok,aU]at k;rw[E.tree,wt]at v;have W:=(E.lens m k.2).2;have b:=CU m
 have F:E.uD m=m.map (E.out false):=by rw[E.NF];rfl
 have G:=DJ false m (fun a z=>(C a z).out (Cv k.2 z) (by have:=CV z;omega)) l V (by rw[<-F];omega) X;rw[<-F]at G;unfold lim at v;simp only at v;rw[E.full];generalize cE (E.uD m)=y at *;simp only[cT,T.n,T.au]at |-;refine aj func322 ntmps322 ?_;exact zdj
def Uy(a:E)(C:nk a):nk (.un s a):=by
 intro t k o z;exact zam
def QJ(a b:E)(Q:nk a)(Cb:nk b):nk (.bin s a b):=by
 intro t k o B;have⟨⟨H,r,O,N,L⟩,l⟩:=t;have⟨M,z,A,V⟩:=fi o;simp only at M z A;subst M z A;obtain⟨x,y,rfl,hx,J⟩:=B5 V;simp only[E.ok,aU]at k;rw[E.tree,wt]at B;simp only[gy,lim]at B;have v:=Q x k.1.2 hx ze8;have C:=Cb y k.2 J ze8;have W:=(E.len a k.1.2).2;have F:=(E.len b k.2).2;have G:(bj [x,y])[0]?=some (cT x):=dp rfl;have c:(bj [x,y])[1]?=some (cT y):=dp rfl;rw[E.full];generalize a.full=u at *;generalize b.full=w at *;simp only[cT,T.n,T.au]at |-;refine aj func322 ntmps322 ?_;refine aS (aK 0 4 (aK 7 3 (aK 12 4 (.a 4 (.q 5 (.q 6 (.q 10 (.q 11 (.a 16 (aK 17 3 .nil)))))))))) ?_;refine av ?_;refine aJ [] v ?_;refine aJ [] C ?_;exact aB
end
mutual
def yE:∀a:E,nk a
 |.num n=>QK n
 |.name s=>ND s
 |.at_ s a=>Ux s a (yE a)
 |.call s l=>NC s l (NB l)
 |.un s a=>Uy s a (yE a)
 |.bin s a b=>QJ s a b (yE a) (yE b)
def NB:∀l:List E,∀a∈l,nk a
 |[]=>fun a h=>by cases h
 |b::l=>fun a h=>by
  rcases ln h with h|h
  ·rw[h];exact yE b
  ·exact NB l a h
end
def qD(b:Bool){a:E}(k:a.ok=true)(v:wt a.tree<=lim):KM b a:=by
 cases b with
 |true=>exact(vL a).out k v
 |false=>exact(yE a).out k v
def kl(b:Bool)(a:E)(k:a.ok=true):(a.out b).length+4<=wt a.tree:=by
 have:=E.len a k
 cases b with
 |true=>exact this.1
 |false=>exact this.2
open Go.Xp (S cy ir)
def Ks(x:E->Go.Xp.ai):∀(l:List S)(H:Go.Xp.ai),H.length<=(S.ei x H l).length
 |[],H=>by rw[S.ei];omega
 |a::l,H=>by
  rw[S.ei];have:=Ks x l (H++a.bP x++[32]);simp only[bf,length_cons,length_nil]at this;omega
def oh(b:Bool)(s:S):Prop:=∀t,s.ok=true->er t=s.tree->wt s.tree<=lim->GF prog 203 [.agg (cT t),.v (.bool b)] [] (.v (sv (s.bP (E.out b)))) []
def vi(b:Bool)(l:List S):Prop:=∀t,S.dF l=true->er t=cy l->wt (cy l)<=lim->GF prog 203 [.agg (cT t),.v (.bool b)] [] (.v (sv (ir (E.out b) l))) []
def J9:∀{ts:List T}{m:List S}(h:bo ts=S.aM m),ts.length=m.length/\∀(k:Nat)t a,ts[k]?=some t->m[k]?=some a->er t=a.tree
 |[],[],_=>⟨rfl,fun k t a h=>by simp at h⟩
 |[],a::l,h=>by rw[bo,S.aM]at h;cases h
 |t::r,[],h=>by rw[bo,S.aM]at h;cases h
 |t::r,a::l,h=>by
  rw[bo,S.aM]at h
  injection h with h1 h2
  have⟨v,N⟩:=J9 h2;refine⟨by simp[v],fun k b B o z=>?_⟩
  cases k with
  |zero=>cases o;cases z;exact h1
  |succ k=>exact N k b B zfG zfv
def G6:∀{l:List S}{a:S},a∈l->wt a.tree<=gy (S.aM l)
 |[],_,h=>by cases h
 |b::l,a,h=>by
  rw[S.aM,gy]
  rcases ln h with rfl|h
  ·omega
  ·have:=G6 h;omega
def G5:∀l:List S,l.length<=gy (S.aM l)
 |[]=>bg _
 |a::l=>by
  have:=G5 l;rw[S.aM,gy,length_cons]
  have:1<=wt a.tree:=by cases a<;>(rw[S.tree,wt];omega)
  omega
def GS:∀{l:List S}{a:S},S.dF l=true->a∈l->a.ok=true
 |[],_,_,h=>by cases h
 |b::l,a,k,h=>by
  simp only[S.dF,aU]at k
  rcases ln h with rfl|h
  ·exact k.1
  ·exact GS k.2 h
section
variable(b:Bool)(s:Go.Xp.ai)(a:E)
def P0:oh b (.var s a):=by
 intro t k r z;have⟨⟨A,u,G,C,B⟩,l⟩:=t;have⟨M,v,w,V⟩:=fi r;simp only at M v w;subst M v w;obtain⟨q,rfl,j⟩:=wF V;simp only[S.ok,aU]at k;rw[S.tree,wt]at z;simp only[gy,lim]at z;have o:=qD b (a:=a) k.2 ze8 q j;have R:=kl b a k.2;have F:(bj [q])[0]?=some (cT q):=dp rfl;rw[S.bP];generalize a.out b=i at *;simp only[cT,T.n,T.au];refine aj func203 ntmps203 ?_;refine aS (aK 0 10 (.a 10 (aK 11 3 .nil))) ?_;exact zcM
def PZ:oh b (.set s a):=by
 intro t k r z;have⟨⟨A,u,G,C,B⟩,l⟩:=t;have⟨M,v,w,V⟩:=fi r;simp only at M v w;subst M v w;obtain⟨q,rfl,j⟩:=wF V;simp only[S.ok,aU]at k;rw[S.tree,wt]at z;simp only[gy,lim]at z;have o:=qD b (a:=a) k.2 ze8 q j;have R:=kl b a k.2;have F:(bj [q])[0]?=some (cT q):=dp rfl;rw[S.bP];generalize a.out b=i at *;simp only[cT,T.n,T.au];refine aj func203 ntmps203 ?_;refine aS (aK 0 9 (.a 9 (aK 10 3 .nil))) ?_;exact zcM
def PW(c:E):oh b (.put s a c):=by
 intro t k B A;have⟨⟨G,C,L,J,H⟩,l⟩:=t;have⟨M,w,z,V⟩:=fi B;simp only at M w z;subst M w z;obtain⟨o,Q,rfl,j,R⟩:=B5 V;simp only[S.ok,aU]at k;rw[S.tree,wt]at A;simp only[gy,lim]at A;have r:=qD b (a:=a) k.2.1 ze8 o j;have W:=kl b a k.2.1;have F:(bj [o,Q])[0]?=some (cT o):=dp rfl;have v:=qD b (a:=c) k.2.2 ze8 Q R;have d:=kl b c k.2.2;have u:(bj [o,Q])[1]?=some (cT Q):=dp rfl;rw[S.bP];generalize a.out b=i at *;generalize c.out b=N at *;simp only[cT,T.n,T.au];refine aj func203 ntmps203 ?_;refine aS (aK 0 9 (aK 12 5 (.a 9 (.q 10 (.q 11 (.a 17 (aK 18 3 .nil))))))) ?_;refine av ?_;refine aJ [] r ?_;refine aJ [] v ?_;exact aB
end
section
variable(b:Bool)(c:E)(p:List S)
def PU(C:vi b p):oh b (.if1 c p):=by
 intro t k u B;have⟨⟨H,G,N,L,J⟩,l⟩:=t;have⟨M,z,A,W⟩:=fi u;simp only at M z A;subst M z A;obtain⟨o,Q,rfl,j,R⟩:=B5 W;simp only[S.ok,aU]at k;rw[S.tree,wt]at B;simp only[gy,lim]at B;have r:=qD b (a:=c) k.1 ze8 o j;have d:=kl b c k.1;have F:(bj [o,Q])[0]?=some (cT o):=dp rfl;have w:=C Q k.2 R zfp;have V:=Go.Xp.s0 (E.out b) (kl b) k.2;rw[cy]at V;have s:(bj [o,Q])[1]?=some (cT Q):=dp rfl;rw[S.bP];generalize c.out b=i at *
 change GF _ _ _ _ (.v (sv _)) _ at w
 exact zaP
def PV(q:List S)(G:vi b p)(H:vi b q):oh b (.if2 c p q):=by
 intro t i Q F;have⟨⟨V,R,vv,ss,W⟩,l⟩:=t;have⟨A,B,C,J⟩:=fi Q;simp only at A B C;subst A B C;obtain⟨m,o,r,rfl,u,w,z⟩:=aak J;simp only[S.ok,aU]at i;rw[S.tree,wt]at F;simp only[gy,lim]at F;have s:=qD b (a:=c) i.1 ze8 m u;have L:=kl b c i.1;have M:(bj [m,o,r])[0]?=some (cT m):=dp rfl;have d:=G o i.2.1 w zfp;have j:=Go.Xp.s0 (E.out b) (kl b) i.2.1;rw[cy]at j;have N:(bj [m,o,r])[1]?=some (cT o):=dp rfl;have e:=H r i.2.2 z zfp;have k:=Go.Xp.s0 (E.out b) (kl b) i.2.2;rw[cy]at k;have O:(bj [m,o,r])[2]?=some (cT r):=dp rfl;rw[S.bP];generalize c.out b=y0 at *
 change GF _ _ _ _ (.v (sv _)) _ at d
 unfold ir at d j;generalize S.ei (E.out b) [123,32] p++[125]=y1 at *
 change GF _ _ _ _ (.v (sv _)) _ at e
 unfold ir at e k;generalize S.ei (E.out b) [123,32] q++[125]=y2 at *;simp only[cT,T.n,T.au];refine aj func203 ntmps203 ?_;refine aS (aK 0 5 (aK 8 5 (.a 5 (.q 6 (.q 7 (.a 13 (.q 14 (.q 15 .nil)))))))) ?_;refine av ?_;refine aJ [] s ?_;refine aJ [] d ?_;refine Z ?_;exact zdO
def Io(C:vi b p):oh b (.while_ c p):=by
 intro t k u B;have⟨⟨H,G,N,L,J⟩,l⟩:=t;have⟨M,z,A,W⟩:=fi u;simp only at M z A;subst M z A;obtain⟨o,Q,rfl,j,R⟩:=B5 W;simp only[S.ok,aU]at k;rw[S.tree,wt]at B;simp only[gy,lim]at B;have r:=qD b (a:=c) k.1 ze8 o j;have d:=kl b c k.1;have F:(bj [o,Q])[0]?=some (cT o):=dp rfl;have w:=C Q k.2 R zfp;have V:=Go.Xp.s0 (E.out b) (kl b) k.2;rw[cy]at V;have s:(bj [o,Q])[1]?=some (cT Q):=dp rfl;rw[S.bP];generalize c.out b=i at *
 change GF _ _ _ _ (.v (sv _)) _ at w
 exact zaP
end
def PY(b:Bool)(a:E):oh b (.ret a):=by
 intro t k r z;exact zat
def Si(b:Bool)(a:E):oh b (.do_ a):=by
 intro t k r z;exact zat
def sn(b:Bool)(c:List S)(C:∀a∈c,oh b a):vi b c:=by
 intro t B M r;have⟨⟨V,F,vv,W,N⟩,l⟩:=t;have⟨w,z,A,L⟩:=fi M;simp only at w z A;subst w z A;have⟨d,q⟩:=J9 L;have e:=Go.Xp.s0 (E.out b) (kl b) B;rw[cy,wt]at r;rw[cy,wt]at e;have Q:=G5 c;unfold ir at e |-;unfold lim at r;simp only[bf,length_cons,length_nil]at r e;simp only[cT,T.n,T.au];refine aj func203 ntmps203 ?_;refine GW.range (bj l).length (fun k G O=>∃y,G=U::.v (.bool b)::.loc 0 0::U::U::U::.v (sv y)::zU 124 (.sl 6 (bj l)::y4 ((bj l).length:Int)::y4 (k:Nat)::zU 12 [])/\O=[.box 89 [y4 14,y4 F,y4 0,.v (sv []),ints N,.sl 6 (bj l)]]/\S.ei (E.out b) y (c.drop k)=S.ei (E.out b) [123,32] c) ?_ zfE ?_ ?_ ?_
 ·exact⟨_,_,Wk.aW az,_,rfl,rfl,rfl⟩
 ·rintro k _ _⟨y,rfl,rfl,_⟩;exact dN
 ·rintro k _ _ m⟨y,rfl,rfl,i⟩
  have m:k<c.length:=by rw[bq,d]at m;exact m
  have s:k<l.length:=by omega
  have hx:c[k]?=some c[k]:=by simp[m]
  have o:l[k]?=some l[k]:=by simp[s]
  have R:=dp o;rw[l8 m,S.ei]at i;have u:=bB hx;have H:=C _ u _ (GS B u) (q k _ _ o hx) (by have:=G6 u;unfold lim;omega);generalize l[k]=t at *;generalize J:c[k].bP (E.out b)=x at *;have j:=Ks (E.out b) (c.drop (k+1)) (y++x++[32]);rw[i]at j;simp only[bf,length_cons,length_nil]at j;refine Z ?_;refine I [] H ?_;exact⟨rfl,rfl,_,_,(Wk.cut (n:=1) (ed rfl) rfl).trans (Wk.aW az),_,rfl,rfl,i⟩
 ·rintro _ _⟨y,rfl,rfl,i⟩;rw[List.drop_of_length_le (by rw[bq,d];exact aQ _),S.ei]at i;subst i;exact aB
mutual
def YI(b:Bool):∀s:S,oh b s
 |.set s a=>PZ b s a
 |.put s a c=>PW b s a c
 |.if1 c p=>PU b c p (sn b p (tu b p))
 |.if2 c p q=>PV b c p q (sn b p (tu b p)) (sn b q (tu b q))
 |.while_ c p=>Io b c p (sn b p (tu b p))
 |.ret a=>PY b a
 |.do_ a=>Si b a
 |.var s a=>P0 b s a
def tu(b:Bool):∀l:List S,∀a∈l,oh b a
 |[]=>fun a h=>by cases h
 |c::l=>fun a h=>by
  rcases ln h with h|h
  ·rw[h];exact YI b c
  ·exact tu b l a h
end
def YH(b:Bool)(l:List S):vi b l:=sn b l (tu b l)
open Go.Xp (gh)
def Oj(p:Src)(J:Bu p)(ls:List (List S))(w:EM p ls):GF prog 146 [.agg (aD p)] [] (.v (.bool (ls.all fun l=>gh l 1))) []:=by
 refine aj func146 ntmps146 ?_;refine GW.range (p.ak.map aH).length (fun k M Γ=>M=U::.loc 0 0::U::U::U::U::U::U::.sl 3 (p.ak.map aH)::y4 ((p.ak.map aH).length:Int)::y4 (k:Nat)::zU 34 []/\Γ=[.box 28 (aD p)]/\((ls.take k).all fun l=>gh l 1)=true) ?_ (by simpa using by have:=J.ak.1;omega) ?_ ?_ ?_
 ·exact kz
 ·exact iI
 ·rintro k _ _ u⟨rfl,rfl,s⟩
  have u:k<p.ak.length:=by simpa using u
  have B:k<ls.length:=by rw[w.len];exact u
  have hx:p.ak[k]?=some p.ak[k]:=by simp[u]
  have e:ls[k]?=some ls[k]:=by simp[B]
  have hr:=yc hx;have⟨N,H,hw,t,o,A⟩:=w.at_ k _ _ hx e;have F:=Bw p (fun n W=>(J.ah.2 n W).2) _ _ _ o;rw[Int.toNat_of_nonneg N]at F;have d:=YH true ls[k] t H A ze8;have⟨L,t2,q,f,O,h2,h3,h4,Q,R,j⟩:=T0 H hw;have r:=Om _ L X O;have C:RS.ok ⟨L,0,(ir E.bP ls[k]).length,0,0⟩:=⟨bg _,by simp only;omega⟩;have b:=(sds f).block 1 _ t2 q C X Q
  have G:(E.out true)=E.bP:=by funext a;rfl
  rw[G]at d;generalize ir E.bP ls[k]=tx at *;generalize c:gh ls[k] 1=fit at *;generalize p.ak[k]=x at *
  rcases j with⟨j,T,rfl⟩|⟨j,rfl⟩
  ·have z:(q.code != 0)=false:=by simpa using j
   have V:((q.i:Int) != ((q.l.map dd).length:Int))=false:=by rw[bC,R];simp[T]
   refine zd2 ?_;refine bp ?_;exact⟨rfl,rfl,_,_,(Wk.cut (n:=1) (ed rfl) rfl).trans (Wk.aW az),rfl,rfl,tD e s c⟩
  ·have z:(q.code != 0)=true:=by simpa using j
   have m:(ls.all fun l=>gh l 1)=false:=vj e c;rw[m];refine zd2 ?_;exact zby
 ·rintro _ _⟨rfl,rfl,s⟩;rw[kK (by rw[bC,w.len];exact aQ _)]at s;rw[s];exact aB
def Mk(p:Src)(A:Bu p)(h:oZ p=some false):GF prog 76 [.agg (aD p)] [] (.v (.bool false)) []:=by
 have q:=A3 p A false h;refine aj func76 ntmps76 ?_;refine I [] q ?_;exact aw
def Mp(p:Src)(A:Bu p)(h:oZ p=some true)(ls:List (List S))(w:EM p ls):GF prog 76 [.agg (aD p)] [] (.v (.bool (ls.all fun l=>gh l 1))) []:=by
 have q:=A3 p A true h;have s:=Oj p A ls w;generalize(ls.all fun l=>gh l 1)=b at *;refine aj func76 ntmps76 ?_;refine I [] q ?_;exact zdK
open Go.Im
def Vv{p:Src}(R:cM p<=1048576):Bu p:=by
 have⟨⟨a1,M⟩,⟨H,t⟩,⟨G,B⟩,⟨E,k⟩⟩:=et p;exact⟨⟨by omega,fun s q=>by have:=M s q;omega⟩,⟨by omega,fun s q=>by have:=t s q;omega⟩,⟨by omega,fun f u=>by have⟨e,J,l⟩:=B f u;exact⟨by omega,by omega,fun s q=>by have:=l s q;omega⟩⟩,⟨by omega,fun n T=>by have⟨e,J⟩:=k n T;exact⟨by omega,by omega⟩⟩⟩
def Ml(p:Src)(R:cM p<=1048576):GF prog 76 [.agg (aD p)] [] (.v (.bool (fI p))) []:=by
 have u:=Vv R;have⟨b,w⟩:=L4 p
 cases b with
 |false=>rw[aal w];exact Mk p u w
 |true =>
  have⟨l,T⟩:=Vx w;have⟨G,s⟩:=T.Ez;rw[aam T s];exact Mp p u w G (MJ T s R)
end Go.Xg
