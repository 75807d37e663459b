/- Part 8 of proofs that are told in their last texts. -/
import Derived.Test.YtfmnfhpifpjljaaGreatDoorZ7
import Derived.Lib.OwnBridge
import Derived.Lib.AppendIntMem
open List (cons_append ext_getElem? findIdx? getD_eq_getElem?_getD getElem?_of_mem getElem?_zipWith length_cons length_nil length_replicate length_set length_singleton nil_append take_succ_cons take_zero)
set_option linter.unusedVariables false
set_option linter.unusedSimpArgs false
set_option linter.defProp false
set_option maxRecDepth 100000
set_option maxHeartbeats 1000000
namespace Go
def zak{A B:Prop}(h:B)(s:PLift B->A:=by intro hQ;refine GW.seq ?_;refine GW.region ?_;refine GL.vP rfl rfl ?_;refine bq ?_;refine X ?_;exact hQ.1):A:=s ⟨h⟩
end Go
namespace Go.Xg
open Go.RowKit Go.Xw Go.Proofs Tryz Go.Im
open Go.Xp (aZ en)
open Go.Sp (Src)
attribute [local irreducible] GW GL GO V GC GA bh bm
def LP{st:PS}{f:Go.Sp.Fn}(h:f∈pE st):∃x∈st.az,f.params=x.2:=by
 unfold pE at h;have⟨i,M⟩:=getElem?_of_mem h;rw[List.getElem?_mapIdx]at M
 cases hx:st.az[i]? with
 |none=>rw[hx]at M;cases M
 |some x=>rw[hx]at M;cases M;exact⟨x,bR hx,rfl⟩
def KM(p:Src)(hw:dE p<=1048576)(hn:mA p):GF prog 64 [.agg (aQ p)] [] (.v (.bool (fI p))) []:=by
 have⟨⟨s1,s2⟩,⟨s3,s4⟩,⟨s5,T⟩,⟨s7,s8⟩⟩:=iR p
 have b:∀n∈p.ak,n.au.length<=1099511627776:=fun n h=>by have:=(s8 n h).2;omega
 have j:=vO p Z b Z;unfold fI
 by_cases I:p.ak.length>800
 ·rw[ae I];exact DL p I
 rw[ab I]
 cases s:lb p.ak p.az 0 []with
 |none=>exact Bh p Z b Z s
 |some y =>
  have⟨l,e⟩:=y;simp only
  by_cases w:e≠p.ak.length
  ·rw[ae w];exact F5 p l e Z b Z s w
  rw[ab w]
  have w:e=p.ak.length:=by simpa using w
  subst w;have⟨l',O,H,W,h4,h5⟩:=Bx _ _ _ _ _ s;rw[nil_append]at O;subst O
  have S:aZ l=p.ak.length:=by omega
  have Q:=SZ hn H S;have i:=FO H S;have Ey:=gE.len W;have C:=dS.num hn.ak l 0 H
  by_cases r:l.all gJ=false
  ·rw[ae r];exact DJ p l Z b Z s Z (fun t o=>by have:=(i t o).2;omega) r
  rw[ab r]
  have r:l.all gJ=true:=by simpa using r
  have⟨A,c,z,q,st,m⟩:=reads (nO dW ia p l);rw[zL m];rw[s]at j;unfold Bw at j;simp only at j;rw[show((p.ak.length:Int)==(p.ak.length:Int))=true by simp]at j;have B:=uO l Z (fun t o=>by have:=(i t o).2;omega);rw[r]at B;have F:=Pz 126 127 dW ia Qz p l Z Z Z Z Z hn.aq (fun f h=>by have:=(T f h).2.1;omega)
   (fun t o=>⟨fL.1 r t o,kT C o,by have:=(i t o).1;omega,by have:=(i t o).2;omega⟩)
  have G:=PK _ _ A c z Z m.lex;have R:=m.len;have k:=Gx A (((nO dW ia p l).length:Nat):Int) q st Z Z (fun h=>by have:=(m.ok h).2;omega) m.read;have N:=Mv _ _ _ _ _ _ (a8 _) m.read ⟨bj _,bj _,bj _,fun x h=>by cases h⟩;have J:=m.ok;clear m s;generalize hxg:nO dW ia p l=x at *
  by_cases u:c≠0
  ·rw[ae u];exact F6 p l x A c z Z j B F G (by simpa using u)
  rw[ab u]
  have u:c=0:=by simpa using u
  subst u
  by_cases d:q.code≠0
  ·rw[ae d];unfold IC at k;rw[ab d]at k;exact yG p l x A z q.code q.at_ Z j B F G k (by simpa using d)
  rw[ab d]
  have d:q.code=0:=by simpa using d
  have⟨M,H0⟩:=J d
  by_cases E:aZ st.aJ>800
  ·rw[ae E];unfold IC at k;rw[ae d,ae E]at k;exact yG p l x A z 10 0 Z j B F G k aS
  rw[ab E];rw[Wl d E M.len]at k;have⟨m1,m2,m3,m4⟩:=N
  have Q3:(en 0 st.aJ).length<=800:=by rw[Go.Xp.sK];omega
  unfold same;refine DM p (RI st) l x A z _ _ _ _ Z j B F G ?_ ?_ ?_ ?_ k
  ·exact GR _ _ Z (by show st.aw.length<=_;omega)
  ·exact R8 _ _ Z (by show st.aq.length<=_;omega)
  ·refine F3 p.az (pE st) Z ?_ (fun f h=>by have:=(T f h).2.1;omega) (fun f h=>?_)
   ·unfold pE;rw[List.length_mapIdx];omega
   ·have⟨y,hy,h6⟩:=LP h;rw[h6];have:=m4 y hy;omega
  ·exact F4 p.ak (en 0 st.aJ) Z Z b (fun n h=>by have:=zp st.aJ 0 n h;omega)
def Qx(n lo hi:Int):GF prog 156 [y4 n,y4 lo,y4 hi] [] (.v (.bool (decide (lo<=n)&&decide (n<=hi)))) []:=by
 cases h:decide (lo<=n)
 all_goals
  refine ah func156 ntmps156 ?_;exact ax
end Go.Xg
set_option maxHeartbeats 2000000
namespace Go.Im
open Go.Xp Go.Sp
def AM(p:Src):(dK p).length=p.aw.length+p.aq.length+p.az.length:=by simp[dK,fY,jN];omega
end Go.Im
namespace Go.Xg
open Go.RowKit Go.Xw Go.Proofs Tryz Go.Im
open GV (U)
open Go.Sp (Src)
attribute [local irreducible] GW GL GO V GC GA bh bm
def wB:∀l:List ai,kK (b7 l)=true
 |[]=>rfl
 |s::l=>by
  have:=wB l;unfold b7 at this |-;rw[List.map_cons,kK,this];rfl
def pZ(l:List ai):(b7 l).length=l.length:=by simp[b7]
def Ju(p:Src)(q:dE p<=1048576):GC prog 47 [.agg (aQ p)] [] fun g J=>∃a c,g=.v (.slice a (dK p).length c)/\J=[.vech 9 1 (b7 (dK p)) (.slice a (dK p).length c)]:=by
 have⟨⟨a1,I⟩,⟨l,T⟩,⟨O,S⟩,⟨E,W⟩⟩:=iR p
 have d:(p.aw.map fun s=>[GV.v (sv s)]).length=p.aw.length:=by simp
 have F:kK (p.aw.map fun s=>[GV.v (sv s)])=true:=wB p.aw;refine ef func47 ntmps47 ?_;refine GW.wk (Wk.kH 9 1) ?_;simp only[nil_append];refine X ?_;refine GL.Jv 0 rfl rfl rfl rfl F (by refine⟨?_,?_⟩;(· rw[d];omega);(· rw[d];omega)) ?_;intro a c;rw[d];refine zef ?_;refine GW.range (p.aq.map bc).length (fun k o j=>∃a c R n,o=U::.loc 1 0::U::.v (.slice a n c)::U::U::U::U::U::U::U::U::.sl 2 (p.aq.map bc)::y4 ((p.aq.map bc).length:Int)::y4 (k:Nat)::zU 23 []/\j=[.vech 9 1 R (.slice a n c),.box 28 (aQ p)]/\R.length=n/\R=b7 (p.aw++(fY p).take k)) ?_ zfy ?_ ?_ ?_
 ·exact⟨_,_,Wk.bb aD,_,_,_,_,rfl,rfl,d,by simp[b7]⟩
 ·rintro k _ _⟨a,c,R,n,rfl,rfl,_⟩;exact eB
 ·rintro k _ _ H⟨a,c,R,n,rfl,rfl,Q,G⟩
  have H:k<p.aq.length:=by simpa using H
  have hx:p.aq[k]?=some p.aq[k]:=by simp[H]
  have i:=tH hx
  have N:b7 (p.aw++(fY p).take (k+1))=R++[[.v (sv p.aq[k].name)]]:=by
   have:(fY p)[k]?=some p.aq[k].name:=by rw[fY,b6,hx];rfl
   rw[dI,this,G];simp[b7]
  have e:n<=4194304:=by
   rw[<-Q,G,pZ,bl,iX];omega
  clear G;unfold bc at i;generalize p.aq[k]=x at *;exact zbE
 ·rintro _ _⟨a,c,R,n,rfl,rfl,Q,G⟩;rw[bI,show p.aq.length=(fY p).length by simp[fY],ej]at G;refine bx ?_;refine X ?_;refine GW.range (p.az.map aO).length (fun k o j=>∃a c R n,o=U::.loc 1 0::U::.v (.slice a n c)::zU 21 [.sl 3 (p.az.map aO),y4 ((p.az.map aO).length:Int),y4 (k:Nat),U,U,U,U,U,U,U,U,U,U]/\j=[.vech 9 1 R (.slice a n c),.box 28 (aQ p)]/\R.length=n/\R=b7 ((p.aw++fY p)++(jN p).take k)) ?_ zfy ?_ ?_ ?_
  ·exact⟨_,_,Wk.bb aD,_,_,_,_,rfl,rfl,Q,by rw[G];simp⟩
  ·rintro k _ _⟨a,c,R,n,rfl,rfl,_⟩;exact eB
  ·rintro k _ _ H⟨a,c,R,n,rfl,rfl,Q,G⟩
   have H:k<p.az.length:=by simpa using H
   have hx:p.az[k]?=some p.az[k]:=by simp[H]
   have i:=xC hx
   have N:b7 ((p.aw++fY p)++(jN p).take (k+1))=R++[[.v (sv p.az[k].name)]]:=by
    have:(jN p)[k]?=some p.az[k].name:=by rw[jN,b6,hx];rfl
    rw[dI,this,G];simp[b7]
   have e:n<=4194304:=by
    rw[<-Q,G,pZ,bl,bl,iX,fY,bI];omega
   clear G;unfold aO at i;generalize p.az[k]=x at *;exact zbE
  ·rintro _ _⟨a,c,R,n,rfl,rfl,Q,G⟩;rw[bI,show p.az.length=(jN p).length by simp[jN],ej]at G
   have m:n=(dK p).length:=by rw[<-Q,G,pZ];rfl
   subst m;refine bx ?_;refine zd6 ?_;exact oj (n:=1) rfl dY rfl (bj _) rfl rfl ⟨a,c,rfl,by rw[G];rfl⟩
end Go.Xg
set_option maxHeartbeats 4000000
namespace Go.Im
open Go.Xp Go.Sp
def wT(l:List ai)(k:Nat):Int:=if(List.range k).any (lL l)=true then 21 else 0
def PT(l:List ai)(k:Nat):wT l (k+1)=if lL l k=true then iH (wT l k) 21 else wT l k:=by
 unfold wT;rw[List.range_succ,List.any_append]
 cases h:(List.range k).any (lL l)with
 |true=>simp[iH]
 |false=>simp[iH]
def Te(l:List ai):wT l l.length=if fG l=true then 21 else 0:=rfl
structure KQ(p:Src)(l:List T)(i:Nat)(f:Go.Sp.Fn)(t:T):Prop where
 good:Good p l
 gf:p.az[i]?=some f
 gt:l[i]?=some t
 ok:tF p t f.params
 wf:gA t
 z:zT t
 st:ek p.ak f.body.toNat t
 body:0<=f.body
 sz:bg t<=800
def Good.fn{p:Src}{l:List T}(h:Good p l){i:Nat}{f:Go.Sp.Fn}{t:T}(F:p.az[i]?=some f)(n:l[i]?=some t):KQ p l i f t:=by
 have⟨a1,H,q,m,E⟩:=h.at_ _ _ _ F n;refine⟨h,F,n,a1,H,q,m,E,?_⟩;have:=h.st.few;have:=m.le;omega
mutual
def Ti:∀t:T,qM t->dn t=[]
 |.mk n l,h=>by rw[qM]at h;rw[dn,zG l h.2,ab h.1];rfl
def zG:∀l:List T,kJ l->bL l=[]
 |[],_=>by rw[bL]
 |t::r,h=>by rw[kJ]at h;rw[bL,Ti t h.1,zG r h.2];rfl
end
end Go.Im
namespace Go.Xg
open Go.RowKit Go.Xw Go.Proofs Tryz Go.Im
open GV (U)
open Go.Sp (Src)
attribute [local irreducible] GW GL GO V GC GA bh bm
def J3(p:Src)(hw:dE p<=1048576) :
  GF prog 147 [.loc 0 0] [.box 155 (cC p y6 ⟨[],0,0⟩)] (.tup []) [.box 155 (cC p y6 ⟨[],(if fG (dK p)=true then 21 else 0),0⟩)]:=by
 have⟨⟨a1,O⟩,⟨Q,T⟩,⟨c1,c2⟩,⟨d1,d2⟩⟩:=iR p
 have l:(p.aw.map fun s=>[GV.v (sv s)]).length=p.aw.length:=by simp
 have z:kK (p.aw.map fun s=>[GV.v (sv s)])=true:=wB p.aw;have M:=AM p;rw[<-Te]
 have r:=fun k=>BH p y6 (wT (dK p) k) 21
 rw[show(0:Int)=wT (dK p) 0 from rfl];unfold cC at r |-;refine ah func147 ntmps147 ?_;refine zc4 ?_;refine zc4 ?_;refine GL.vL rfl rfl rfl rfl z (by refine⟨?_,?_⟩;(· rw[l];omega);(· rw[l];omega)) ?_;rw[l];refine bq ?_;simp only[gW];refine X ?_;refine GW.range (p.aq.map bc).length (fun k q A=>∃R n,q=.loc 0 0::U::.vec 1 0::.vec 2 n::zU 18 (.sl 2 (p.aq.map bc)::y4 ((p.aq.map bc).length:Int)::y4 (k:Nat)::zU 45 [])/\A=[.box 155 [strs p.aw,.sl 2 (p.aq.map bc),.sl 3 (p.az.map aO),.sl 5 (p.ak.map aU),.v y6,y4 (wT (dK p) 0),y4 0],.vec 9 1 0 [],.vec 9 1 0 R]/\R.length=n/\R=b7 (p.aw++(fY p).take k)) ?_ zfy ?_ ?_ ?_
 ·exact⟨_,_,Wk.bb aD,_,_,rfl,rfl,l,by simp[b7,chunk]⟩
 ·rintro k _ _⟨R,n,rfl,rfl,_⟩;exact eB
 ·rintro k _ _ j⟨R,n,rfl,rfl,c,d⟩
  have j:k<p.aq.length:=by simpa using j
  have hx:p.aq[k]?=some p.aq[k]:=by simp[j]
  have F:=tH hx
  have b:b7 (p.aw++(fY p).take (k+1))=R++[[.v (sv p.aq[k].name)]]:=by
   have:(fY p)[k]?=some p.aq[k].name:=by rw[fY,b6,hx];rfl
   rw[dI,this,d];simp[b7]
  have w:n<=4194304:=by
   rw[<-c,d,pZ,bl,iX];omega
  have J:n+1<=9223372036854775807/\(n+1)*16<=140737488355328:=by omega
  clear d;unfold bc at F;generalize p.aq[k]=x at *;exact zcn
 ·rintro _ _⟨R,n,rfl,rfl,c,d⟩;rw[bI,show p.aq.length=(fY p).length by simp[fY],ej]at d;refine bx ?_;refine X ?_;refine GW.range (p.az.map aO).length (fun k q A=>∃R n,q=.loc 0 0::U::.vec 1 0::.vec 2 n::zU 34 (.sl 3 (p.az.map aO)::y4 ((p.az.map aO).length:Int)::y4 (k:Nat)::zU 29 [])/\A=[.box 155 [strs p.aw,.sl 2 (p.aq.map bc),.sl 3 (p.az.map aO),.sl 5 (p.ak.map aU),.v y6,y4 (wT (dK p) 0),y4 0],.vec 9 1 0 [],.vec 9 1 0 R]/\R.length=n/\R=b7 ((p.aw++fY p)++(jN p).take k)) ?_ zfy ?_ ?_ ?_
  ·exact⟨_,_,Wk.bb aD,_,_,rfl,rfl,c,by rw[d];simp⟩
  ·rintro k _ _⟨R,n,rfl,rfl,_⟩;exact eB
  ·rintro k _ _ j⟨R,n,rfl,rfl,c,d⟩
   have j:k<p.az.length:=by simpa using j
   have hx:p.az[k]?=some p.az[k]:=by simp[j]
   have F:=xC hx
   have b:b7 ((p.aw++fY p)++(jN p).take (k+1))=R++[[.v (sv p.az[k].name)]]:=by
    have:(jN p)[k]?=some p.az[k].name:=by rw[jN,b6,hx];rfl
    rw[dI,this,d];simp[b7]
   have w:n<=4194304:=by
    rw[<-c,d,pZ,bl,bl,iX,fY,bI];omega
   have J:n+1<=9223372036854775807/\(n+1)*16<=140737488355328:=by omega
   clear d;unfold aO at F;generalize p.az[k]=x at *;exact zcn
  ·rintro _ _⟨R,n,rfl,rfl,c,d⟩;rw[bI,show p.az.length=(jN p).length by simp[jN],ej]at d;have d:R=b7 (dK p):=d
   have m:R.length=(dK p).length:=by rw[d,pZ]
   have E:n=R.length:=c.symm;subst E;refine bx ?_;refine GW.wk (Wk.iC (t:=3) rfl rfl rfl rfl) ?_;refine GW.wk (Wk.cut (n:=2) (dT rfl) rfl) ?_;refine GW.Lz (dh:=.loc 0 0::U::.vec 1 0::.sl 1 R::zU 66 []) (bO:=[.box 155 [strs p.aw,.sl 2 (p.aq.map bc),.sl 3 (p.az.map aO),.sl 5 (p.ak.map aU),.v y6,y4 (wT (dK p) 0),y4 0],.vec 9 1 0 []]) aD rfl ?_;refine X ?_;refine GW.range R.length (fun k q A=>∃S n B,q=.loc 0 0::U::.vec 1 n::zU 47 (.sl 1 R::y4 (R.length:Int)::y4 (k:Nat)::zU 17 [])/\A=[.box 155 [strs p.aw,.sl 2 (p.aq.map bc),.sl 3 (p.az.map aO),.sl 5 (p.ak.map aU),.v y6,y4 (wT (dK p) k),y4 0],.vec 9 1 B S]/\S.length=n/\S=b7 ((dK p).take k)) ?_ Z ?_ ?_ ?_
   ·exact⟨_,_,Wk.bb aD,_,_,_,rfl,rfl,rfl,by simp[b7]⟩
   ·rintro k _ _⟨S,n,B,rfl,rfl,_⟩;exact eB
   ·rintro k _ _ j⟨S,n,B,rfl,rfl,e,u⟩;rw[m]at j;obtain⟨x,hx⟩:∃x,(dK p)[k]?=some x:=⟨(dK p)[k],by simp[j]⟩
    have N:R[k]?=some [.v (sv x)]:=by rw[d,b7,b6,hx];rfl
    have b:b7 ((dK p).take (k+1))=S++[[.v (sv x)]]:=by rw[dI,hx,u];simp[b7]
    have w:n<=8388608:=by rw[<-e,u,pZ,iX];omega
    have J:n+1<=9223372036854775807/\(n+1)*16<=140737488355328:=by omega
    have o:lL (dK p) k=(ga x ||((dK p).take k).contains x):=by unfold lL;rw[hx]
    have i:=wo x
    have C:GF prog 58 [.sl 1 S,.v (sv x)] [] (.v (.bool (((dK p).take k).contains x))) []:=by
     rw[u];exact jO ((dK p).take k) x zfG
    have I:=r k;rw[PT];clear u d m;generalize wT (dK p) k=cd at *;generalize lL (dK p) k=W at *
    cases G:ga x with
    |true =>
     rw[G]at i o;subst o;rw[ae zfm];refine zbT ?_;refine D [0] I ?_;exact zcu
    |false =>
     rw[G]at i o
     cases H:((dK p).take k).contains x with
     |true =>
      rw[H]at C o;subst o;rw[ae zfm];refine zbT ?_;refine GL.wk (Wk.iC (t:=59) rfl rfl rfl e) ?_;refine zbd ?_;refine D [] C ?_;refine D [0] I ?_;exact zcu
     |false =>
      rw[H]at C o;subst o;rw[ab zfm];refine zbT ?_;refine GL.wk (Wk.iC (t:=59) rfl rfl rfl e) ?_;refine zbd ?_;refine D [] C ?_;exact zcu
   ·rintro _ _⟨S,n,B,rfl,rfl,e,u⟩;rw[m];exact eP
def SY(p:Src)(c z:Int)(h:GF prog 80 [.agg (aQ p)] [] (.tup [y4 c,y4 z]) []):GF prog 38 [.agg (aQ p)] [] (.v (.bool (c==0))) []:=by
 refine ah func38 ntmps38 ?_;exact zbk
open Go.Xp (T bg aZ)
def I0{l:List T}{t:T}(h:t∈l):bg t<=aZ l:=by
 have⟨k,G⟩:=getElem?_of_mem h;have:=oE G;omega
def El{p:Src}(h:fI p=false):il p=false:=by unfold il;rw[h];rfl
def CH{p:Src}{l:List T}(h:fI p=true)(W:iv p l):il p=((yL p l).1==0):=by
 unfold il;rw[h,W.G8];simp only[Bool.true_and];rfl
section
variable(p:Src)
def HI(e:dE p<=1048576)(hn:mA p):GF prog 44 [.agg (aQ p)] [] (.v (.bool (il p))) []:=by
 have⟨⟨a1,H⟩,⟨k,T⟩,⟨N,Q⟩,⟨E,R⟩⟩:=iR p;have j:=KM p e hn
 cases s:fI p with
 |false =>
  rw[s]at j;have:=L2 p _ _ (KJ p j);rw[El s];exact this
 |true =>
  rw[s]at j;have⟨l,W⟩:=uc s;have u:=gE.len W.az;have m:=AM p;have r:=Cx W
  have o:=Je p l (dK p) Z u Z j (Ju p e) (NS p Z Z fun a O=>⟨(r a O).1,by have:=(r a O).2;omega⟩) fun i f t z w=>by
   have⟨F,_⟩:=gE.at_ W.az i f t z w;have b:=dS.ix l 0 i _ W.st w;rw[gW]at F b
   have A:f.body.toNat=aZ (l.take i):=by rw[F,eV]
   have G:=I0 (bR w);have:=W.len;have:=LO p i f t Z (fun n h=>by have:=(R n h).2;omega) Z Z Z z (by have:=(Q f (bR z)).2.1;omega) Z (by rw[A];exact b) Z;rw[A]at this;exact this
  rw[CH s W];exact L2 p _ _ o
def Ov(F:dE p<=1048576):∃c z,GF prog 80 [.agg (aQ p)] [] (.tup [y4 c,y4 z]) []/\(c==0)=il p:=by
 have⟨⟨a1,Q⟩,⟨R,S⟩,⟨T,G⟩,⟨W,H⟩⟩:=iR p;have r:=KL p F
 cases m:fI p with
 |false =>
  rw[m]at r;exact⟨_,_,KH p r,by rw[El m];rfl⟩
 |true =>
  rw[m]at r;have⟨l,j⟩:=uc m;have o:=gE.len j.az;have d:=Cx j
  have b:∀a∈p.aq,0<=a.size/\a.size<=2147483648:=fun a s=>⟨(d a s).1,by have:=(d a s).2;omega⟩
  have⟨ls,O⟩:=j.Af
  have I:=fun k=>EO p y6 k Z b fun h=>Dt p y6 k Z Z b h
  have N:=j.len
  have J:=Jd p l _ _ o Z Z Z (fun f h=>by have:=(G f h).2.1;omega) (fun t w=>by have:=I0 w;omega) r (J3 p F) (I _) fun i f t u B=>by
   have⟨A,_⟩:=gE.at_ j.az i f t u B;have C:=dS.ix l 0 i _ j.st B;rw[gW]at A C;rw[A];exact DG p (fun n h=>by have:=(H n h).2;omega) _ _ t ((vF _).1 t _ C (a8 _))
  have E:=UC (p:=p) (l:=l) (fun a s=>(d a s).1) (fun t w=>by have⟨i,M⟩:=getElem?_of_mem w;exact(O.wf M).1)
  have e:((Lk p l).code==0)=il p:=by
   rw[CH m j]
   by_cases q:(yL p l).1=0
   ·rw[q,E.1 q]
   ·have u:(Lk p l).code≠0:=fun e=>q (E.2 e)
    rw[show((yL p l).1==0)=false by simpa using q,show((Lk p l).code==0)=false by simpa using u]
  exact⟨_,_,J,e⟩
def SR(i:dE p<=1048576):GF prog 38 [.agg (aQ p)] [] (.v (.bool (il p))) []:=by
 have⟨c,z,h,e⟩:=Ov p i;rw[<-e];exact SY p c z h
def NK(G:∀n∈p.ak,n.au.length<=1000000000000)(f:Go.Sp.Fn)(t:T)(r:0<=f.body)(d:ek p.ak f.body.toNat t):GF prog 120 [.agg (aQ p),y4 f.body] [] (.agg (cT t)) []:=by
 have:=DG p G _ _ t ((vF _).1 t _ d (a8 _))
 rwa[Int.toNat_of_nonneg r]at this
def yY(i:Nat)(f:Go.Sp.Fn)(t:T)(G:∀n∈p.ak,n.au.length<=1000000000000)(hf:p.az[i]?=some f)(I:f.params.length<=1048576)(u:0<=f.body)(e:ek p.ak f.body.toNat t)(N:bg t<=1048576) :
  GC prog 59 [.agg (aQ p),y4 (i:Nat)] [] fun g J=>∃R W,g=.v (.slice R (f.params++dn t).length W)/\J=[.vech 9 1 (b7 (f.params++dn t)) (.slice R (f.params++dn t).length W)]:=by
 have j:(p.az.map aO)[i]?=some (aO f):=by rw[b6,hf];rfl
 have d:(f.params.map fun s=>[GV.v (sv s)]).length=f.params.length:=by simp
 have F:=wC f.params;have O:=NK p G f t u e
 have r:=fun R W=>MK _ t (a8 _) f.params R W Z
 unfold aO at j;refine ah func59 ntmps59 ?_;refine aX (.q 1 (.q 2 (aI 4 3 (.a 0 (.a 3 (.a 7 (.a 8 (.q 9 .nil)))))))) ?_;refine av ?_;refine o7 ?_;refine av ?_;refine OA rfl rfl (GL.vL rfl rfl rfl rfl F (by refine⟨?_,?_⟩;(· rw[d];omega);(· rw[d];omega)) ?_);rw[d];refine GL.uJ (t:=14) rfl rfl rfl (by simp[chunk]) ?_;intro R W;simp only[gW];refine za1 ?_;refine aN [] O ?_;refine OA rfl rfl ?_;refine cN [2] (r R W) ?_;rintro _ _⟨H,o,rfl,rfl⟩;refine⟨by simp,?_⟩;refine zbF ?_;refine nd ?_;refine XD 2 rfl dY rfl ?_ ?_
 ·intro x hx;rw[KE hx];rfl
 ·exact⟨_,_,rfl,rfl⟩
def MM(i:Nat)(f:Go.Sp.Fn)(t:T)(G:∀n∈p.ak,n.au.length<=1000000000000)(hf:p.az[i]?=some f)(I:f.params.length<=1048576)(r:0<=f.body)(d:ek p.ak f.body.toNat t)(N:bg t<=1048576) :
  GF prog 63 [.agg (aQ p),y4 (i:Nat)] [] (.agg (cT (km (f.params++dn t) t f.params))) []:=by
 have k:(p.az.map aO)[i]?=some (aO f):=by rw[b6,hf];rfl
 have O:=NK p G f t r d;have l:=yY p i f t G hf I r d N;have s:=FQ _ t (a8 _);have j:=ML (f.params++dn t) (by rw[bl];omega) _ t (a8 _) f.params Z;unfold aO at k;generalize f.params++dn t=B at *;generalize km B t f.params=m at *;refine ah func63 ntmps63 ?_;refine aX (.q 0 (.q 1 (aI 3 13 (.f 2 (.f 16 (.f 17 (aI 18 3 (.a 21 (.a 22 (.q 23 .nil)))) 21 (.a 17 (aI 18 3 (.a 22 (.q 23 .nil))))) 21 (.a 16 (.a 17 (aI 18 3 (.a 22 (.q 23 .nil)))))) 21 (.a 2 (.a 16 (.a 17 (aI 18 3 (.a 22 (.q 23 .nil)))))))))) ?_;refine av ?_;refine GO.fork ?_ ?_
 ·refine OA rfl rfl ?_;refine cN [] l ?_;rintro _ _⟨R,W,rfl,rfl⟩;refine⟨by simp,?_⟩;refine GL.wk (Wk.A1 (t:=10) (i:=2) rfl rfl rfl) ?_;refine za1 ?_;refine GO.fork ?_ ?_
  ·refine aN [] O ?_;refine GO.fork ?_ ?_
   ·exact zeZ
   ·refine av ?_;exact zeZ
  ·refine av ?_;refine aN [] O ?_;exact zeZ
 ·refine av ?_;refine OA rfl rfl ?_;refine cN [] l ?_;rintro _ _⟨R,W,rfl,rfl⟩;refine⟨by simp,?_⟩;refine GL.wk (Wk.A1 (t:=10) (i:=3) rfl rfl rfl) ?_;refine za1 ?_;refine aN [] O ?_;exact zeZ
end
end Go.Xg
namespace Go.Xg
open Go.RowKit Go.Xw Go.Proofs Tryz Go.Im
open GV (U)
open Go.Xp (Nd T bg aZ fH jA en sK bS wc ya)
def A3:∀(abo A I:ap),abo.length<=I.length->fE (A++abo) (List.range' A.length abo.length) I=A++I
 |[],A,I,h=>by
  show fE (A++[]) [] I=_;rw[fE,gw]
 |x::abo,A,[],h=>by simp at h
 |x::abo,A,y::I,h=>by
  rw[length_cons,List.range'_succ,fE]
  have e:oset (A++x::abo) A.length y=(A++[y])++abo:=by rw[zK];simp
  have:=A3 abo (A++[y]) I zfs;rw[bl,length_singleton]at this;rw[e,this];simp
section
variable{P:Program}{m:Nat}{Q:dF}{fr:am}{Γ:ap}{ops:Array Oper}{rest:List Oper}{d:Option Tmp}{op:Op}{ty:TypeId}{pos:String}{af:Array Edge}
def GL.Sj{f:FuncId}[hf:gM P f](A abo:ap){args:List Operand}{e:Array TypeId}{gs:am}{R:GV->ap->Prop}(o:GC P f gs abo R)(n:Γ=A++abo)(E:∀x∈abo,x.uj=true)(i:∀r,Go.Xg.mP r gs=gs)(ha:mc (args.map (bd fr)) gs)
  (h:∀g I,R g I->abo.length<=I.length/\(∀x∈I,x.uj=true)/\(∀r,eM r g=g)/\GL P m ops Q rest (bQ fr d g) (A++I)) :
  GL P m ops Q (⟨d,.call ⟨.value (.func f),args.toArray,e⟩,ty,pos,af,none⟩::rest) fr Γ:=by
 subst n
 refine GL.JC (List.range' A.length abo.length) o (by rw[i];exact ha) (Gw _ _ _ (by simp only[bl];omega)) ?_ fun g I j=>?_
 ·have:=A2 (cR (List.range' A.length abo.length) (A++abo).length) abo A [] E;rw[gw]at this;exact this
 have⟨z,v,J,c⟩:=h g I j;refine⟨by rw[List.length_range'];exact z,?_⟩;rw[S7 v,A3 _ _ _ z,J];exact c
end
def dc(be:List Nd)(h:Value)(ns:List Value):ap:=.vech 82 5 (List.zipWith eS be ns) h::List.zipWith iT be ns
structure o8(be:List Nd)(h:Value)(ns:List Value):Prop where
 head:∃a c,h=.slice a be.length c
 len:ns.length=be.length
 kid:∀(i:Nat)x y,be[i]?=some x->ns[i]?=some y->Hd x.au.length y
section
variable{be:List Nd}{h:Value}{ns:List Value}
def wz:∀x∈dc be h ns,x.uj=true:=fun x hx=>by
 rcases nj hx with rfl|hx
 ·rfl
 ·exact F1 (fun _ _=>rfl) x hx
def sq(H:o8 be h ns):(dc be h ns).length=be.length+1:=by
 unfold dc;rw[length_cons,rE,H.len,Nat.min_self]
end
def eR(x:Nd)(ks:List Int):Nd:=⟨x.aj,x.at_,x.n,x.s,ks⟩
def o8.snoc{be:List Nd}{h:Value}{ns:List Value}(H:o8 be h ns)(x:Nd){a b:Option Addr}{c d:Nat}:o8 (be++[x]) (.slice a (be.length+1) c) (ns++[.slice b x.au.length d]):=by
 refine⟨⟨a,c,by simp⟩,by simp[H.len],fun i y v z w=>?_⟩;have W:=H.len
 rcases Nat.lt_or_ge i be.length with M|M
 ·rw[n1 M]at z;rw[n1 Z]at w;exact H.kid i y v z w
 ·rw[mb M]at z;rw[mb Z,W]at w
  cases G:i-be.length with
  |zero =>
   rw[G]at z w
   cases z;cases w
   exact⟨_,_,rfl⟩
  |succ k=>rw[G]at z;simp at z
def Gu{be:List Nd}{ns:List Value}(W:ns.length=be.length)(x:Nd)(y h:Value):dc (be++[x]) h (ns++[y])=.vech 82 5 (List.zipWith eS be ns++[eS x y]) h::(List.zipWith iT be ns++[iT x y]):=by
 unfold dc;rw[List.zipWith_append W.symm,List.zipWith_append W.symm];rfl
def o8.put{be:List Nd}{h:Value}{ns:List Value}(H:o8 be h ns){i:Nat}{x:Nd}(hx:be[i]?=some x)(ks:List Int){b:Option Addr}{d n:Nat}(hn:n=ks.length):o8 (be.set i (eR x ks)) h (ns.set i (.slice b n d)):=by
 subst hn;have⟨a,c,e⟩:=H.head;refine⟨⟨a,c,by rw[e,length_set]⟩,by simp[H.len],fun j y v z w=>?_⟩;rw[iY]at z w
 by_cases E:i=j
 ·rw[ae E]at z w;split at z
  ·cases z;split at w
   ·cases w;exact⟨_,_,rfl⟩
   ·cases w
  ·cases z
 ·rw[ab E]at z w;exact H.kid j y v z w
def xE:∀{be:List Nd}{ns:List Value}{i:Nat}{x:Nd}(ks:List Int)(y:Value),ns.length=be.length->be[i]?=some x->dk (List.zipWith eS be ns) i 4 (.v y)=List.zipWith eS (be.set i (eR x ks)) (ns.set i y)
 |[],ns,i,x,ks,y,W,h=>by simp at h
 |n::be,[],i,x,ks,y,W,h=>by simp at W
 |n::be,v::ns,0,x,ks,y,W,h=>by cases h;rfl
 |n::be,v::ns,i+1,x,ks,y,W,h=>by
  have:=xE (be:=be) (ns:=ns) (i:=i) (x:=x) ks y zfC zfs;rw[List.zipWith_cons_cons,dk,this];rfl
def xz:∀{be:List Nd}{ns:List Value}{i:Nat}{x:Nd}(ks:List Int)(y:Value),ns.length=be.length->be[i]?=some x->oset (List.zipWith iT be ns) i (.vech 3 1 (mK ks) y)=List.zipWith iT (be.set i (eR x ks)) (ns.set i y)
 |[],ns,i,x,ks,y,W,h=>by simp at h
 |n::be,[],i,x,ks,y,W,h=>by simp at W
 |n::be,v::ns,0,x,ks,y,W,h=>by cases h;rfl
 |n::be,v::ns,i+1,x,ks,y,W,h=>by
  have:=xz (be:=be) (ns:=ns) (i:=i) (x:=x) ks y zfC zfs;rw[List.zipWith_cons_cons,oset,this];rfl
def kh(be:List Nd)(n:Nd)(l:List T)(k:Nat):List Nd:=be++eR n (bS (be.length+1) (l.take k))::en (be.length+1) (l.take k)
section
variable{be:List Nd}{n:Nd}{l:List T}
def EZ{k:Nat}:(kh be n l k).length=be.length+1+aZ (l.take k):=by
 unfold kh;rw[bl,length_cons,sK];omega
def S8{k:Nat}:(kh be n l k)[be.length]?=some (eR n (bS (be.length+1) (l.take k))):=by
 unfold kh;rw[mb (a8 _),uB];rfl
def MZ{k:Nat}{u:T}(h:l[k]?=some u) :
  (kh be n l k).set be.length (eR (eR n (bS (be.length+1) (l.take k))) (bS (be.length+1) (l.take k)++[(((kh be n l k).length:Nat):Int)]))++jA (kh be n l k).length u=kh be n l (k+1):=by
 have B:l.take (k+1)=l.take k++[u]:=by rw[dI,h];rfl
 rw[EZ];unfold kh;rw[List.set_append_right _ _ (a8 _),uB,List.set_cons_zero,B,wc,ya];simp only[bS,en,gw,eR,eU,cons_append]
def PQ:kh be n l l.length=be++jA be.length (.mk n l):=by
 unfold kh eR;rw[ej,jA]
end
attribute [local irreducible] GW GL GO V GC GA bh bm
def Pw:∀(N:Nat)(t:T),bg t<=N->∀(be:List Nd)(h:Value)(ns:List Value),o8 be h ns->be.length+bg t<=8388608 ->
  GC prog 61 [.v h,.agg (cT t)] (dc be h ns) fun g Δ=>∃j e,o8 (be++jA be.length t) j e/\g=.v j/\Δ=dc (be++jA be.length t) j e:=by
 intro N
 induction N with
 |zero=>intro t h;have:=kY t;omega
 |succ N ih =>
 intro t hN be h ns H hb
 cases t with
 |mk n l =>
 rw[Go.Xp.bg]at hN hb;have Ey:=fH l;have B:(aR l).length=l.length:=bs l;have hml:=sq H;have EA:=H.len;obtain⟨a0,c0,rfl⟩:=H.head
 have hRl:(List.zipWith eS be ns).length=be.length:=by rw[rE];omega
 have hOl:(List.zipWith iT be ns).length=be.length:=by rw[rE];omega
 have hOk:∀q,qz q (List.zipWith iT be ns)=true:=fun q=>IA (F1 (fun _ _=>rfl))
 have hsn:=fun(y h:Value)=>Gu EA (eR n []) y h
 have hHs:=fun(a:Option Addr)(c:Nat)=>H.snoc (eR n []) (a:=a) (c:=c) (b:=none) (d:=0)
 refine ef func61 ntmps61 ?_;rw[hml];unfold dc;generalize List.zipWith eS be ns=R at *;generalize List.zipWith iT be ns=O at *;refine GW.seq ?_;refine GW.region ?_;refine GL.vP rfl rfl ?_;refine bq ?_;refine yz ?_;refine GL.aax rfl rfl rfl rfl rfl rfl ?_;refine bq ?_
 have hq:∀x:Ob,(x::O).length=O.length+1:=fun x=>rfl
 simp only[hq,cons_append]
 have w:∀x y:Ob,(x::(O++[y]))[O.length+1]?=some y:=fun x y=>Ut (x::O) [] y
 have yV:∀x y z:Ob,oset (x::(O++[y])) (O.length+1) z=x::(O++[z]):=fun x y z=>zK (x::O) [] y z
 refine X ?_;refine GL.st rfl (w _ _) rfl rfl rfl rfl ?_;refine rG sy (yV _ _ _) ?_;refine X ?_;refine GL.q (V.PD rfl (w _ _) rfl rfl) ?_;refine bq ?_;refine GL.lz 0 rfl rfl rfl rfl rfl rfl rfl rfl hRl nR ?_;intro a1 c1;refine zbd ?_;refine GW.range (aR l).length (fun k fr Γ=>∃j e,fr=.v j::U::U::.box (cT (.mk n l)) 0::U::y4 (be.length:Nat)::zU 13 (.sl 6 (aR l)::y4 ((aR l).length:Int)::y4 (k:Nat)::zU 21 [])/\o8 (kh be n l k) j e/\Γ=dc (kh be n l k) j e) ?_ Z ?_ ?_ ?_
 ·have e0:kh be n l 0=be++[eR n []]:=by unfold kh;rw[take_zero];rfl
  rw[e0];refine⟨_,_,((Wk.Sn (A:=_::O) rfl (by rw[length_cons,hOl];exact a8 _) (fun q=>by simp only[qz,hOk];rfl)).trans (Wk.kH 3 1)).trans (Wk.bb aD),_,ns++[.slice none 0 0],rfl,hHs a1 c1,?_⟩;rw[hsn];rfl
 ·rintro k _ _⟨j,e,rfl,_,rfl⟩;exact eB
 ·rintro k _ _ G⟨j,e,rfl,o,rfl⟩;rw[B]at G;obtain⟨u,hu⟩:∃u,l[k]?=some u:=⟨l[k],by simp[G]⟩;have hr:=bH hu;have ps:=oE hu;have hMl:=EZ (be:=be) (n:=n) (l:=l) (k:=k);have i:=S8 (be:=be) (n:=n) (l:=l) (k:=k);have hMn:=MZ (be:=be) (n:=n) hu;rw[<-hMn];obtain⟨a2,c2,rfl⟩:=o.head;have r:=o.len;obtain⟨y,hy⟩:∃y,e[be.length]?=some y:=⟨e[be.length]'Z,cq _⟩;obtain⟨a3,c3,rfl⟩:=o.kid _ _ _ i hy
  have S:=fun(a:Option Addr)(c:Nat)=>o.put i (bS (be.length+1) (l.take k)++[(((kh be n l k).length:Nat):Int)]) (b:=a) (d:=c) (n:=(bS (be.length+1) (l.take k)).length+1) zfm
  have Mh:=fun(y:Value)=>xE (bS (be.length+1) (l.take k)++[(((kh be n l k).length:Nat):Int)]) y r i
  have J:=fun(y:Value)=>xz (bS (be.length+1) (l.take k)++[(((kh be n l k).length:Nat):Int)]) y r i
  have W:(List.zipWith eS (kh be n l k) e)[be.length]?=some (eS (eR n (bS (be.length+1) (l.take k))) (.slice a3 (bS (be.length+1) (l.take k)).length c3)):=by rw[getElem?_zipWith,i,hy];rfl
  have E:(List.zipWith iT (kh be n l k) e)[be.length]?=some (.vech 3 1 (mK (bS (be.length+1) (l.take k))) (.slice a3 (bS (be.length+1) (l.take k)).length c3)):=by rw[getElem?_zipWith,i,hy];rfl
  have hli:be.length<(List.zipWith eS (kh be n l k) e).length:=by rw[rE];omega
  have As:(mK (bS (be.length+1) (l.take k))).length=(bS (be.length+1) (l.take k)).length:=by simp[mK]
  have Vk:mK (bS (be.length+1) (l.take k)++[(((kh be n l k).length:Nat):Int)])=mK (bS (be.length+1) (l.take k))++[[y4 ((kh be n l k).length:Nat)]]:=by simp[mK]
  have YT:(bS (be.length+1) (l.take k)).length<=8388608:=by
   rw[Go.Xp.ec,iX];omega
  rw[Vk]at J
  have C:=fun(h:Value)(Ry:List Value)H2=>ih u Z ((kh be n l k).set be.length (eR (eR n (bS (be.length+1) (l.take k))) (bS (be.length+1) (l.take k)++[(((kh be n l k).length:Nat):Int)]))) h Ry H2 (by rw[length_set];omega)
  rw[length_set]at C;unfold dc;generalize YU:bS (be.length+1) (l.take k)=ks at *;generalize hM:kh be n l k=M at *;generalize hM2:M.set be.length (eR (eR n ks) (ks++[((M.length:Nat):Int)]))=M2 at *
  have s:∀x:Ob,(x::List.zipWith iT M e)[be.length+1]?=some (.vech 3 1 (mK ks) (.slice a3 ks.length c3)):=fun x=>E
  generalize List.zipWith iT M e=O2 at *;generalize List.zipWith eS M e=R2 at *;unfold eS eR at W;refine yz ?_;refine GL.PR rfl rfl rfl rfl rfl rfl rfl ?_;refine zap ?_;refine GL.lz (be.length+1) rfl rfl rfl rfl rfl rfl rfl (s _) As nR ?_;intro a4 c4;refine rG sy (by simp only[oset];rw[J]) ?_;refine X ?_;refine xP ?_;simp only[gW];rw[Mh];have H2:=S a4 c4;have xi:=sq H2;refine X ?_;refine GL.Sj [] (dc M2 (.slice a2 M.length c2) (e.set be.length (.slice a4 (ks.length+1) c4))) (C _ _ H2) rfl wz (fun _=>rfl) (pM) ?_;rintro _ _⟨h5,ns5,H5,rfl,rfl⟩;have F:=sq H5;rw[bl]at F;refine⟨by rw[xi,F];omega,wz,fun _=>rfl,?_⟩;rw[nil_append];refine zap ?_;exact⟨rfl,rfl,_,_,Wk.bb aD,h5,ns5,rfl,H5,rfl⟩
 ·rintro _ _⟨j,e,rfl,o,rfl⟩;rw[B]at o |-;rw[PQ]at o |-;have I:=sq o;refine bx ?_;unfold dc;refine zd6 ?_;refine oj (n:=(dc (be++jA be.length (.mk n l)) j e).length) rfl dY rfl (by rw[I,bl];omega) ?_ rfl ?_
  ·show tD _ (List.take _ (dc _ _ _))=true;rw[ej];exact IA wz
  ·show ∃h2 Ry,_/\_/\List.take _ (dc _ _ _)=_;rw[ej];exact⟨j,e,o,rfl,rfl⟩
end Go.Xg
set_option maxHeartbeats 2000000
namespace Go.Xg
open Go.RowKit Go.Xw Go.Proofs Go.Im
open Go.Sp (Src)
def NY(l:List Value)(i:Nat):Value:=(l[i]?).getD undef
def DR{K:Fz}{β:Bt}{v a b c d:Value}(h:Rel K β v (.agg [.v a,.v b,.v c,.v d])):v=.agg #[a,b,c,d]:=by
 cases h with
 |agg j k W h =>
  match j,W with
  |[x,y,z,u],_ =>
   rw[Rel.fx (h 0 x _ rfl rfl),Rel.fx (h 1 y _ rfl rfl),Rel.fx (h 2 z _ rfl rfl),Rel.fx (h 3 u _ rfl rfl)]
section
variable{B:Bs}{K:Fz}{β:Bt}{w:World}{l:List Value}{fr:am}{A C abo:ap}{p:Src}{hg ha hf hn:Value}{fs ns:List Value}
def CF(p:Src):∀g∈aQ p,g.pc=true:=fun g hg=>by
 simp only[aQ,List.mem_cons,List.not_mem_nil,or_false]at hg
 rcases hg with rfl|rfl|rfl|rfl<;>rfl
end
end Go.Xg
namespace Go.Xg
open Go.RowKit Go.Xw Go.Proofs
open Go.Xp (Nd)
def Ns{K O:Fz}{β fu:Bt}{vs:List Value}{gs:am}(h:bJ K β vs gs)(hg:∀g∈gs,∃x,g=.v x):bJ O fu vs gs :=
 ⟨h.1,fun i v g A z=>by
  obtain⟨x,rfl⟩:=hg g (bR z)
  rw[Rel.fx (h.2 i v _ A z)];exact .v _⟩
def Ob.H9:Ob->Prop
 |.vech _ _ j _=>∀r∈j,∀g∈r,∃x,g=GV.v x
 |_=>False
def K8:Ob->Bk
 |.vech _ _ j x=>.gr x j.length
 |_=>.no
def jj(N:ap):Bt:=fun i=>match N[i]? with
 |some x=>K8 x
 |none=>.no
structure Pk(N:ap)(h:Nat->Option Obj):Prop where
 plain:∀x∈N,x.H9
 dis:∀i j b,(jj N i).has b->(jj N j).has b->i=j
 dom:∀b,(h b).isSome=true↔∃i,(jj N i).has b
 own:∀w:World,(∀b o,h b=some o->w.heap[b]?=some o)->∀(i:Nat)E k rows x,N[i]?=some (.vech E k rows x)->gL k rows/\∃xs,ik w 0 E k x rows.length xs/\bJ (fun _ _=>none) (fun _=>.no) xs rows.flatten
abbrev blob(N:ap):Ob:=.blob (Pk N)
def uW{N:ap}{i:Nat}{x:Ob}(h:N[i]?=some x):jj N i=K8 x:=by grind[jj]
theorem z7{N:ap}{i:Nat}(h:N.length<=i):jj N i=.no:=by grind[jj]
def E8{w w':World}{base e k:Nat}{v:Value}{n:Nat}{xs:List Value}(h:ik w base e k v n xs)(q:∀b o,v.ownBlock=some b->w.heap[b]?=some o->w'.heap[b]?=some o):ik w' base e k v n xs:=by
 have⟨A,z⟩:=h;refine⟨A,?_⟩
 rcases z with z|⟨g,C,cur,rfl,s,F,r⟩
 ·grind
 ·exact .inr ⟨g,C,cur,rfl,s,q g _ rfl F,r⟩
def Pk.ob{N:ap}{h:Nat->Option Obj}{K:Fz}{β:Bt}{w:World}{i j:Nat}{x:Ob}(R:Pk N h)(t:∀b o,h b=some o->w.heap[b]?=some o/\∀j,K b j=none)(hx:N[j]?=some x)(d:β i=jj N j):gP K β w i x:=by
 have J:=R.plain x (bR hx)
 cases x with
 |vech E k l v =>
  obtain⟨z,q,A,I⟩:=R.own w (fun b o s=>(t b o s).1) j E k l v hx;refine⟨q,by rw[d,uW hx];rfl,A,Ns I (fun g F=>?_),z,fun b s o=>?_⟩
  ·have⟨r,n,T⟩:=List.mem_flatten.1 F;exact J r n g T
  ·have:(h b).isSome=true:=(R.dom b).2 ⟨j,by rw[uW hx];exact s⟩
   grind[Option.isSome_iff_exists]
 |_=>exact J.elim
def IB{K:Fz}{β:Bt}{w:World}{N:ap}(s:Nat)(q:∀x∈N,x.H9)(t:∀(j:Nat)x,N[j]?=some x->gP K β w (s+j) x)(hd:∀i j b,(β i).has b->(β j).has b->i=j) :
  ∃h:Nat->Option Obj,(∀b o,h b=some o->w.heap[b]?=some o/\∀j,K b j=none)/\Pk N h/\∀b,(h b).isSome=true->∃j,j<N.length/\(β (s+j)).has b:=by
 classical
 have W:∀j,j<N.length->β (s+j)=jj N j:=fun j c=>by
  have hx:N[j]?=some N[j]:=cq c;have n:=q _ (bR hx);have u:=t j _ hx;rw[uW hx];generalize N[j]=x at *
  cases x with
  |vech E k e v=>have⟨H,I,_⟩:=u;exact I
  |_=>exact n.elim
 have l:∀j b,(jj N j).has b->j<N.length:=fun j b d=>by
  rcases Nat.lt_or_ge j N.length with h|h
  ·exact h
  ·rw[z7 h]at d;exact d.elim
 have T:∀j b,(jj N j).has b->b<w.heap.size:=fun j b d=>by
  have c:=l j b d;exact(t j _ (cq c)).lt zfk
 refine⟨fun b=>if ∃j,(jj N j).has b then w.heap[b]? else none,fun b o d=>?_,⟨q,fun i j b hi c=>?_,fun b=>?_,fun w' G i E k e x hx=>?_⟩,fun b d=>?_⟩
 ·simp only at d;split at d
  ·rename_i c;refine⟨d,fun o=>?_⟩;have⟨j,c⟩:=c;have A:=l j b c;have hx:N[j]?=some N[j]:=cq A;have n:=q _ (bR hx);have u:=t j _ hx;rw[uW hx]at c;generalize N[j]=x at *
   cases x with
   |vech E k e v=>have⟨H,_,_,_,_,R⟩:=u;exact R b c o
   |_=>exact n.elim
  grind
 ·grind
 ·constructor
  ·grind
  ·rintro⟨j,c⟩;rw[ae ⟨j,c⟩]
   grind
 ·have n:=q _ (bR hx);have⟨H,I,J,M,O,_⟩:=t i _ hx;refine⟨O,H,E8 J fun b o d z=>G b o ?_,Ns M fun g S=>?_⟩
  ·show(if ∃j,(jj N j).has b then w.heap[b]? else none)=some o;rw[ae ⟨i,by grind[Bk.has,jj]⟩];exact z
  ·have⟨r,C,F⟩:=List.mem_flatten.1 S;exact n r C g F
 grind
section
variable{B:Bs}{K:Fz}{β:Bt}{Γ:ap}{w:World}
theorem Inv.unpack{i:Nat}{N:ap}(k:Inv B K β Γ w)(s:Γ[i]?=some (blob N)) :
  ∃fu,dO β fu/\(∀j,j<N.length->fu (Γ.length+j)=jj N j)/\(∀j b,(fu j).has b->∃q,(β q).has b)/\Inv B K fu (oset Γ i .gone++N) w:=by
 have⟨h,e,R,C⟩:=k.ob i _ s;have hi:=(bG s).1
 have z:∀b,(β i).has b↔(h b).isSome=true:=fun b=>by grind[Bk.has]
 have A:(oset Γ i .gone).length=Γ.length:=by grind[bU]
 have J:∀j,j<Γ.length->(if j<Γ.length then(if j=i then Bk.no else β j)else jj N (j-Γ.length))=if j=i then Bk.no else β j:=fun j d=>ae d
 have W:∀j,Γ.length<=j->(if j<Γ.length then(if j=i then Bk.no else β j)else jj N (j-Γ.length))=jj N (j-Γ.length):=fun j d=>ab Z
 have n:dO β (fun j=>if j<Γ.length then(if j=i then Bk.no else β j)else jj N (j-Γ.length)):=fun j=>by
  rcases Nat.lt_or_ge j Γ.length with d|d
  ·simp only[J j d]
   by_cases o:j=i
   ·grind[kz]
   simp_all[ab,kz.refl]
  ·rw[k.out j d];trivial
 have G:∀j b,(jj N j).has b->(β i).has b:=fun j b v=>(z b).2 ((C.dom b).2 ⟨j,v⟩)
 have l:∀j b,((fun j=>if j<Γ.length then(if j=i then Bk.no else β j)else jj N (j-Γ.length)) j).has b->(j<Γ.length/\j≠i/\(β j).has b)\/(Γ.length<=j/\(jj N (j-Γ.length)).has b):=fun j b v=>by
  grind[Bk.has,jj]
 have r:∀j b,((fun j=>if j<Γ.length then(if j=i then Bk.no else β j)else jj N (j-Γ.length)) j).has b->∃q,(β q).has b:=fun j b v=>by
  grind
 generalize H:(fun j=>if j<Γ.length then(if j=i then Bk.no else β j)else jj N (j-Γ.length))=fu at *;refine⟨fu,n,fun j d=>?_,r,k.ext,k.kle,k.ble.trans n,k.loc,k.fz,fun j x d=>?_,fun j d=>?_,fun a c b M O=>?_,fun j b d=>?_,k.kn,k.tab.step (S:=fT) (Ext.refl w) (fun _ h=>h.elim) (c7.refl K) (fun j b d=>.inl (r j b d))⟩
 ·grind
 ·rcases Nat.lt_or_ge j Γ.length with T|T
  ·rw[n1 Z,bU,iY]at d
   by_cases o:i=j
   ·grind[gP]
   ·rw[ab o]at d;exact(k.ob j x d).ext (S:=fT) (Ext.refl w) (fun _ _ h=>h) (c7.refl K) n zfk (fun _ _ _ h=>h)
  ·rw[mb Z,A]at d;exact C.ob R d zfk
 ·grind[z7]
 ·rcases l a b M with⟨a1,t,E⟩|⟨a1,t⟩<;>rcases l c b O with⟨I,u,F⟩|⟨I,u⟩
  ·exact k.dis a c b E F
  ·exact absurd (k.dis a i b E (G _ b u)) t
  ·exact absurd (k.dis c i b F (G _ b t)) u
  ·have:=C.dis _ _ b t u;omega
 ·have⟨q,r⟩:=r j b d;exact k.own q b r
end
section
variable{P:Program}{m:Nat}{fr:am}{Γ:ap}
def Wk.unpack(i:Nat){N:ap}(n:Γ[i]?=some (blob N)):Wk m fr Γ fr (oset Γ i .gone++N):=fun B K β w l k R j=>by
 have⟨c,z,_,_,d⟩:=R.unpack n;exact⟨K,c,d,j.mono (c7.refl K) z⟩
theorem Wk.pack(A N:ap)(M:Γ=A++N)(W:m<=A.length)(H:∀x∈N,x.H9)(O:tD A.length A=true):Wk m fr Γ (vT A.length fr) (A++[blob N]):=fun B K β w l R q G=>by
 have t:∀(j:Nat)x,N[j]?=some x->Γ[A.length+j]?=some x:=fun j x d=>by grind
 obtain⟨h,T,hp,u⟩:=IB (K:=K) (β:=β) (w:=w) A.length H (fun j x d=>q.ob _ x (t j x d)) q.dis
 have C:Γ.take A.length=A:=by grind
 have e:=q.cut (n:=A.length) Z zfk;rw[C]at e;have F:dH (below A.length) β A.length=.no:=sN (xW (a8 _));have o:dO (dH (below A.length) β) (fU (dH (below A.length) β) A.length (.set fun b=>(h b).isSome=true)):=iL zfO
 have r:∀b,(h b).isSome=true->∀i,¬(dH (below A.length) β i).has b:=fun b I i c=>by
  have⟨j,_,d⟩:=u b I
  by_cases v:i<A.length
  ·rw[qh (xX v)]at c;have:=q.dis i _ b c d;omega
  ·rw[sN (xW Z)]at c;cases c
 refine⟨K,fU (dH (below A.length) β) A.length (.set fun b=>(h b).isSome=true),?_,(G.res).mono (c7.refl K) o⟩;refine⟨e.ext,e.kle,e.ble.trans o,e.loc,e.fz,fun i z c=>?_,fun i c=>?_,fun i E b c d=>?_,fun i b c=>?_,e.kn,⟨e.tab.le,e.tab.pow,e.tab.spc,fun i b c=>?_⟩⟩
 ·by_cases J:i<A.length
  ·rw[n1 Z]at c;exact(e.ob i z c).ext (S:=fT) (Ext.refl w) (fun _ _ h=>h) (c7.refl K) o (cB Z) (fun _ _ _ h=>h)
  grind[gP,fU,dH,below]
 ·grind[bl,length_singleton,cB,sN,xW]
 ·by_cases k:i=A.length<;>by_cases s:E=A.length
  ·omega
  ·subst k;rw[bV]at c;rw[cB s]at d;exact absurd d (r b c E)
  ·subst s;rw[bV]at d;rw[cB k]at c;exact absurd c (r b d i)
  ·rw[cB k]at c;rw[cB s]at d;exact e.dis i E b c d
 ·rcases nq c with k|k
  ·have⟨j,_,d⟩:=u b k;exact q.own _ b d
  ·exact e.own i b k
 ·rcases nq c with k|k
  ·have⟨j,_,d⟩:=u b k;exact q.tab.free _ b d
  ·exact e.tab.free i b k
end
def GC.blob{P:Program}{f:FuncId}{gs:am}{N:ap}{R:GV->ap->Prop}(hc:GC P f gs N R)(hR:∀g F,R g F->(∀x∈F,x.H9)/\∃x,g=.v x) :
  GC P f gs [Go.Xg.blob N] fun g F=>∃W,R g W/\F=[Go.Xg.blob W]:=fun B K β w vs hB l hF=>by
 have⟨h,e,hh,O⟩:=l.ob 0 _ rfl
 have J:∀b,(β 0).has b↔(h b).isSome=true:=fun b=>by grind[Bk.has]
 have hN:∀j b,(jj N j).has b->(β 0).has b:=fun j b n=>(J b).2 ((O.dom b).2 ⟨j,n⟩)
 have M:dO β (fun j=>jj N j)->bJ K (jj N) vs gs:=fun n=>hF.mono (c7.refl K) n
 have Mf:∀i,0<i->β i=.no:=fun i c=>l.out i c
 have H:dO β (jj N):=fun j=>by
  grind[kz,jj]
 have I:Inv (cur K (jj N) N w) K (jj N) N w :=
  ⟨Ext.refl w,c7.refl K,dO.refl _,fun i c=>z7 c,l.fz,fun i x hx=>O.ob hh hx rfl,fun i c=>z7 c,O.dis,fun i b n=>.inl ⟨i,n⟩,fun _ _ _ h=>.inl h,l.tab.step (S:=fT) (Ext.refl w) (fun _ h=>h.elim) (c7.refl K) (fun j b q=>.inl ⟨0,hN j b q⟩)⟩
 refine(hc _ K (jj N) w vs rfl I (M H)).mono ?_;rintro v w'⟨G,A,g,s,d,hr,t⟩;obtain⟨T,x,rfl⟩:=hR g s t;obtain⟨C,hh',Vq,Q2⟩:=IB (K:=G) (β:=A) (w:=w') 0 T (fun j x q=>by rw[gW];exact d.ob j x q) d.dis
 have u:∀b,(C b).isSome=true->∃j,(A j).has b:=fun b n=>by grind
 have k:∀b,blocks (jj N) b->(β 0).has b:=fun b ⟨j,q⟩=>hN j b q
 refine⟨G,fun i=>if i=0 then .set (fun b=>(C b).isSome=true)else .no,.v x,[Go.Xg.blob s],?_,hr.pc rfl,s,t,rfl⟩
 have E:∀i b,((fun i=>if i=0 then Bk.set (fun b=>(C b).isSome=true)else .no) i).has b->i=0/\(C b).isSome=true:=fun i b n=>by
  simp only at n;split at n
  ·rename_i c;exact⟨c,n⟩
  ·exact n.elim
 refine⟨l.ext.step d.ext (fun j q=>(l.own 0 j (k j q)).symm),l.kle.trans d.kle,fun i=>?_,l.loc,d.fz,fun i z c=>?_,fun i c=>?_,fun i j b c q=>?_,fun i b c=>?_,fun b o g hg=>?_,d.tab.step (S:=fT) (Ext.refl w') (fun _ h=>h.elim) (c7.refl G) (fun i b c=>.inl (u b (E i b c).2))⟩
 ·have:=l.ble i
  rcases Nat.eq_zero_or_pos i with c|c
  ·subst c;rw[e]at this;generalize B.β0 0=y at this
   cases y with
   |no=>trivial
   |set S=>trivial
   |fix b=>cases this
   |gr a b=>grind[kz]
  grind
 ·grind[gP]
 ·grind
 ·rw[(E i b c).1,(E j b q).1]
 ·have⟨j,q⟩:=u b (E i b c).2
  rcases d.own j b q with r|r
  ·exact l.own 0 b (k b r)
  ·exact .inr (ju l.ext.size r)
 ·rcases d.kn b o g hg with r|r|r
  ·exact l.kn b o g r
  ·exact .inr (l.own 0 b (k b r))
  ·exact .inr (.inr (ju l.ext.size r))
def AP{be:List Nd}{h:Value}{ns:List Value}:∀x∈dc be h ns,x.H9:=fun x hx=>by
 rcases nj hx with rfl|hx
 ·intro r j g F;have⟨i,M⟩:=getElem?_of_mem j;rw[getElem?_zipWith]at M;split at M
  ·cases M;unfold eS at F;simp only[List.mem_cons,List.not_mem_nil,or_false]at F
   grind
  grind
 ·have⟨i,M⟩:=getElem?_of_mem hx;rw[getElem?_zipWith]at M;split at M
  ·cases M;intro r j g F;obtain⟨s,_,rfl⟩:=yE.1 j
   grind
  grind
def Inv.rU{B:Bs}{K:Fz}{β:Bt}{Γ A:ap}{w:World}{be:List Nd}{h:Value}{ns:List Value}(F:Inv B K β Γ w)(H:o8 be h ns)(c:Γ=A++dc be h ns)(G:B.m<=A.length)(W:tD A.length A=true) :
  ∃e,c7 K e/\Rel e (fun _=>.no) h (.sl 5 (be.map aU))/\Inv B e (dH (below A.length) β) A w:=by
 have hl:=H.len
 have d:∀i,i<be.length->be[i]?=some (be.getD i ⟨0,0,0,[],[]⟩)/\ns[i]?=some (NY ns i):=fun i b=>by
  grind[NY]
 have z:Γ[A.length]?=some (.vech 82 5 (List.zipWith eS be ns) h):=by rw[c,mb (a8 _),uB];rfl
 have C:∀i,i<be.length->Γ[A.length+1+i]?=some (.vech 3 1 (mK (be.getD i ⟨0,0,0,[],[]⟩).au) (NY ns i)):=fun i b=>by
  rw[c,mb Z,show A.length+1+i-A.length=i+1 by omega];unfold dc;rw[List.getElem?_cons_succ,Oq (d i b).1 (d i b).2];rfl
 obtain⟨T,l,u,M,I,r,l2,r2,R⟩:=F.P6 (jf:=A.length) (N:=be.length) (o:=4) (E:=3) (k':=1) (raw:=fun i=>eS (be.getD i ⟨0,0,0,[],[]⟩) (NY ns i)) (fin:=fun i=>aU (be.getD i ⟨0,0,0,[],[]⟩)) (ks:=fun i=>mK (be.getD i ⟨0,0,0,[],[]⟩).au) (hd:=fun i=>NY ns i) (jp:=fun i=>A.length+1+i)
  z ⟨by grind,fun i b=>Oq (d i b).1 (d i b).2⟩ (fun i b=>⟨rfl,rfl⟩) C (fun i b=>by omega) (fun i j _ _ h=>by omega)
 have v:u=be.map aU:=by
  apply ext_getElem?
  grind
 rw[v]at r;have⟨t,O,S,J⟩:=I.pJ r
 have k:(oset l A.length (.vec 82 5 (be.map aU).length (be.map aU))).take A.length=A:=by
  apply ext_getElem?;intro q;rw[List.getElem?_take];split
  ·rw[bU,iY,ab Z,R q Z (fun i _=>by omega),c,n1 Z]
  grind
 have s:=J.cut (n:=A.length) G zfk;rw[k]at s;exact⟨t,M.trans O,S.pc rfl,s⟩
def Wk.rU{m:Nat}{fr:am}{Γ:ap}(A:ap){be:List Nd}{h:Value}{ns:List Value}{i o:Nat}{T:TypeId}{cs:am}(H:o8 be h ns)(n:Γ=A++dc be h ns)(N:m<=A.length)(d:tD A.length A=true)(hi:A[i]?=some (.box T cs))(S:cs[o]?=some (.v h)) :
  Wk m fr Γ (vT A.length fr) (oset A i (.box T (bN cs o (.sl 5 (be.map aU))))):=fun B K β w l r R j=>by
 have⟨O,e,k,C⟩:=R.rU H n Z d;have⟨b,q,z,E,I,c⟩:=C.ob i _ hi;exact⟨O,_,C.swap ⟨b,q,z,E,bJ.bN (k.pc rfl) I S,c⟩,(j.res).mono e (dO.refl _)⟩
def Ob.tt:Ob->Bool
 |.vech _ _ _ _=>true
 |.blob _=>true
 |.box _ j=>oA j
 |_=>false
def Inv.RB{B:Bs}{K:Fz}{β:Bt}{Γ:ap}{w:World}(h:Inv B K β Γ w){bf:List Nat}(R:∀j,j<B.m->bf[j]?=some j){I:ap}(W:I.length=bf.length)(hn:bf.Nodup)
  (hx:∀(j:Nat)x,I[j]?=some x->x.tt=true/\∀i,bf[j]?=some i->Γ[i]?=some x):Inv B K (iQ β bf) I w:=by
 have s:∀i b,(iQ β bf i).has b->∃q,bf[i]?=some q/\(β q).has b:=fun i b M=>by
  grind[iQ,Bk.has]
 refine⟨h.ext,h.kle,fun i=>?_,h.loc,h.fz,fun i x M=>?_,fun i M=>?_,fun i j b M u=>?_,fun i b M=>?_,h.kn,h.tab.step (S:=fT) (Ext.refl w) (fun _ h=>h.elim) (c7.refl K) (fun i T z=>?_)⟩
 ·rcases Nat.lt_or_ge i B.m with M|M
  ·have:iQ β bf i=β i:=by grind[iQ]
   rw[this];exact h.ble i
  ·rw[h.loc i M];trivial
 ·have⟨A,z⟩:=hx i x M;have C:=(bG M).1;have o:bf[i]?=some (bf[i]'Z):=cq _
  have d:iQ β bf i=β (bf[i]'Z):=by grind[iQ]
  cases x with
  |vech E k t v =>
   have⟨J,F,n,G,l,e⟩:=h.ob _ _ (z _ o);exact⟨J,d.trans F,n,G.oA l.flat,l,e⟩
  |blob p =>
   have⟨g,F,n,G⟩:=h.ob _ _ (z _ o)
   grind[gP,iQ]
  |box E N =>
   have⟨b,H,F,n,G,l⟩:=h.ob _ _ (z _ o);exact⟨b,H,d.trans F,n,G.oA (mO A),l⟩
  |_=>cases A
 ·grind[iQ]
 ·have⟨q,A,z⟩:=s i b M;have⟨r,O,c⟩:=s j b u;have:=h.dis q r b z c
  grind[List.getElem?_eq_some_iff,List.getElem_inj]
 ·have⟨q,A,z⟩:=s i b M;exact h.own q b z
 grind
def HF{P:Program}{fn:Func}{R:GV->ap->Prop}{fr:am}{Γ:ap}{e:Exit}{t u s:Tmp}{T:TypeId}{k:Nat}[hT:Ty P T true k]{i:Nat}{E:TypeId}{cs:am}{y z:Value}(n:Nat)(hr:fn.results=#[.cell t T,.tmp u,.tmp s])(S:e=.normal\/e=.ret)(hg:cQ fr t=.loc i 0)(H:Γ[i]?=some (.box E cs))(hk:cs.length=k)(W:oA cs=true)(r:cQ fr u=.v y)(A:cQ fr s=.v z)
  (ha:∀x∈Γ.drop n,x.tt=true)(h:R (.tup [.agg cs,.v y,.v z]) (Γ.drop n)):tl P fn 0 R e fr Γ :=
 ⟨S,fun B K β w l hB J q=>by
  have⟨b,vs,h1,h2,N,h4⟩:=J.ob i _ H
  have G:nth l t=.pointer (some ⟨b,0,none⟩):=by
   have:=q.nth t;rw[hg]at this;generalize nth l t=v at this
   cases this with
   |loc _ _ b' O=>grind
  have Vq:l.toArray.getD t undef=.pointer (some ⟨b,0,none⟩):=by rw[jJ,G]
  have F:=mQ (P:=P) (w:=w) (t:=T) (b:=b) (o:=0) (vs:=vs) (k:=k) Z (fun j v C=>by
   grind[World.cell?])
  have d:l[t]?.getD undef=.pointer (some ⟨b,0,none⟩):=by simp_all
  have I:bJ K (iQ β ((List.range (Γ.length-n)).map (·+n))) vs cs:=N.oA (mO W);have hu:nth l u=y:=Rel.fx (by rw[<-r];exact q.nth u);have hs:nth l s=z:=Rel.fx (by rw[<-A];exact q.nth s);have c:(Γ.drop n).length=((List.range (Γ.length-n)).map (·+n)).length/\((List.range (Γ.length-n)).map (·+n)).Nodup /\
   ∀(j:Nat)x,(Γ.drop n)[j]?=some x->x.tt=true/\∀i,((List.range (Γ.length-n)).map (·+n))[j]?=some i->Γ[i]?=some x:=by
   refine⟨by simp,?_,fun j x C=>⟨ha x (bR C),fun i hi=>?_⟩⟩
   ·grind[List.nodup_range]
   grind
  refine⟨.tuple #[.agg vs.toArray,y,z],K,iQ β ((List.range (Γ.length-n)).map (·+n)),.tup [.agg cs,.v y,.v z],Γ.drop n,?_,J.RB (fun j C=>by omega) c.1 c.2.1 c.2.2,?_,h⟩
  ·rw[<-hu,<-hs,<-jJ l u,<-jJ l s];simp[results,hr,d,asAddr,F]
  ·have M:bJ K (iQ β ((List.range (Γ.length-n)).map (·+n))) [.agg vs.toArray,y,z] [.agg cs,.v y,.v z]:=.cons (.agg vs cs I.1 I.2) (.cons (.v _) (.cons (.v _) .nil))
   exact .tup [.agg vs.toArray,y,z] _ M.1 M.2⟩
def Wk.Kb{m:Nat}{fr:am}{Γ:ap}(N:m<=Γ.length)(d:tD Γ.length Γ=true):Wk m fr Γ (vT Γ.length fr) (Γ++[blob (dc [] y6 [])]) :=
 (Wk.kH 82 5).trans (Wk.pack Γ (dc [] y6 []) rfl N AP d)
theorem o8.nil:o8 [] y6 []:=⟨⟨none,0,rfl⟩,rfl,fun i x y h=>by simp at h⟩
def Fb(Γ:ap):List Nat->ap->Prop
 |[],[]=>True
 |i::r,x::l=>(Γ[i]?=some x/\x.tt=true)/\Fb Γ r l
 |_,_=>False
def y9{Γ:ap}:∀{bf:List Nat}{I:ap},Fb Γ bf I->I.length=bf.length/\∀(j:Nat)x,I[j]?=some x->x.tt=true/\∀i,bf[j]?=some i->Γ[i]?=some x
 |[],[],_=>⟨rfl,fun j x h=>by simp at h⟩
 |i::r,x::l,h=>by
  have⟨z,v⟩:=y9 h.2;refine⟨by simp[z],fun j y o=>?_⟩
  cases j with
  |zero=>cases o;exact⟨h.1.2,fun J M=>by cases M;exact h.1.1⟩
  |succ j=>grind
 |[],_::_,h=>h.elim
 |_::_,[],h=>h.elim
def QY{P:Program}{fn:Func}{m:Nat}{R:GV->ap->Prop}{fr:am}{Γ:ap}{e:Exit}{t:Tmp}{T:TypeId}{k:Nat}[hT:Ty P T true k]{i:Nat}{E:TypeId}{cs:am}(bf:List Nat)(r:ap)(N:fn.results=#[.cell t T])(H:e=.normal\/e=.ret)(hg:cQ fr t=.loc i 0)(q:Γ[i]?=some (.box E cs))(hk:cs.length=k)(J:oA cs=true)
  (O:bf.Nodup)(hm:bf.take m=List.range m)(hx:Fb Γ bf r)(h:R (.agg cs) r):tl P fn m R e fr Γ :=
 ⟨H,fun B K β w l C u F=>by
  have⟨b,vs,h1,h2,A,h4⟩:=u.ob i _ q
  have n:nth l t=.pointer (some ⟨b,0,none⟩):=by
   have:=F.nth t;rw[hg]at this;generalize nth l t=v at this
   cases this with
   |loc _ _ b' G=>grind
  have M:l.toArray.getD t undef=.pointer (some ⟨b,0,none⟩):=by rw[jJ,n]
  have d:=mQ (P:=P) (w:=w) (t:=T) (b:=b) (o:=0) (vs:=vs) (k:=k) Z (fun j v z=>by
   grind[World.cell?])
  have c:l[t]?.getD undef=.pointer (some ⟨b,0,none⟩):=by simp_all
  have s:bJ K (iQ β bf) vs cs:=A.oA (mO J);have⟨S,W⟩:=y9 hx;refine⟨.agg vs.toArray,K,iQ β bf,.agg cs,r,?_,u.RB (fun j z=>?_) S O W,.agg vs cs s.1 s.2,h⟩
  ·simp[results,N,c,asAddr,d]
  ·rw[C]at z
   have I:(bf.take m)[j]?=some j:=by grind
   grind⟩
def Kg(n:Nat)(r:am):Bool:=match r with
 |[.v (.string b)]=>Nat.ble b.data.size n
 |_=>false
def TT{n m:Nat}{rows:List am}(h:rows.all (Kg n)=true)(N:m<rows.length):∃s:ai,rows[m]?=some [.v (sv s)]/\s.length<=n:=by
 have hx:rows[m]?=some rows[m]:=cq N;have z:=fL.1 h rows[m] (bR hx);rw[hx];generalize rows[m]=r at *;unfold Kg at z;split at z
 ·rename_i b;refine⟨b.data.toList,?_,by simp_all⟩;rfl
 grind
section
variable{P:Program}{m:Nat}{Q:dF}{fr:am}{Γ:ap}{ops:Array Oper}{rest:List Oper}{ty:TypeId}{pos:String}{af:Array Edge}
def wO{g:GV}:∀{fr:am}{t:Nat},gN fr t=true->cQ (bN fr t g) t=g
 |[],t,h=>by cases h
 |x::fr,0,h=>rfl
 |x::fr,t+1,h=>wO (fr:=fr) (t:=t) h
def GL.RC{x y:Operand}{E T:Tmp}{t e z:TypeId}[H:lC P t e 1][d:Ty P z false 1]{S:TypeId}{b:String}{R:Array Edge}(n:Nat){q:Nat}{rows:List am}{C:IntKind}(hx:bd fr x=.sl 1 rows)(u:bd fr y=.v (.int C q))(i:rows.all (Kg n)=true)(c:q<rows.length)(A:gN fr E=true)
  (h:∀s:ai,s.length<=n->GL P m ops Q rest (bQ (bQ fr (some E) (.box [.v (sv s)] 0)) (some T) (.v (sv s))) Γ) :
  GL P m ops Q (⟨some E,.indexAddr t x y,ty,pos,af,none⟩::⟨some T,.load z (.tmp E),S,b,R,none⟩::rest) fr Γ:=by
 have⟨s,r,W⟩:=TT i c;refine GL.q (V.fR hx u r) ?_;refine GL.q (V.VQ (cs:=[.v (sv s)]) (o:=0) ?_ rfl) (h s W);exact wO A
end
def V.gi{P:Program}{fr:am}{Γ:ap}{x y:Operand}{t e:TypeId}{k:Nat}[H:lC P t e k](i:Nat){v:Value}{s:IntKind}{j E n:Nat}{rows:List am}(hx:bd fr x=.v v)(r:bd fr y=.v (.int s j))(o:Γ[i]?=some (.vech E k rows v))(hn:rows.length=n)(q:j<n):V P (.indexAddr t x y) fr Γ (.vp i n k j 0):=by
 subst hn;exact V.a7 i hx r o q
def V.Rm{P:Program}{fr:am}{Γ:ap}{x y:Operand}{t e:TypeId}{k:Nat}[H:lC P t e k](i j:Nat){v:Value}{s:IntKind}{z:Int}{E n:Nat}{rows:List am}(hx:bd fr x=.v v)(r:bd fr y=.v (.int s z))(F:z=(j:Int))(o:Γ[i]?=some (.vech E k rows v))(hn:rows.length=n)(q:j<n):V P (.indexAddr t x y) fr Γ (.vp i n k j 0):=by
 subst F;exact V.gi i hx r o hn q
section
variable{P:Program}{m:Nat}{Q:dF}{fr:am}{Γ:ap}{ops:Array Oper}{rest:List Oper}{d:Option Tmp}{ty:TypeId}{pos:String}{af:Array Edge}
def V.aar{x y:Operand}{t e:TypeId}{k:Nat}[H:lC P t e k]{b o n c:Nat}{s:IntKind}{q:Nat}(hx:bd fr x=.v (.slice (some ⟨b,o,none⟩) n c))(r:bd fr y=.v (.int s q))(T:q<n):V P (.indexAddr t x y) fr Γ (.v (.pointer (some ⟨b,o+q*k,none⟩))):=fun B K W w l S j =>
 ⟨_,R.iI (j.fC hx) (j.fC r) T,.v _⟩
def V.Zi{x:Operand}{t:TypeId}[hT:Ty P t false 1](i j:Nat){b idx n c E:Nat}{N:ap}{rows:List am}{u:Value}(hx:bd fr x=.v (.pointer (some ⟨b,idx,none⟩)))(z:Γ[i]?=some (blob N))(G:N[j]?=some (.vech E 1 rows (.slice (some ⟨b,0,none⟩) n c)))(T:rows[idx]?=some [.v u]):V P (.load t x) fr Γ (.v u):=fun B K β w l F C=>by
 have⟨h,e,M,S⟩:=F.ob i _ z;obtain⟨O,xs,q,k⟩:=S.own w (fun b o H=>(M b o H).1) j E 1 rows _ G;have⟨v,r,s⟩:=k.at (rR O T (j:=0) rfl);have:=Rel.fx s;subst this;obtain⟨W,c2,J,_,_,I⟩:=q.cells.2 (by intro A;rw[A]at r;simp at r);cases J;refine⟨_,R.ld (C.fC hx) (by rw[<-fZ];exact I _ _ (by simpa using r)),.v _⟩
def Fe{K:Fz}{β:Bt}{u:Value}{g:GV}(W:Rel K β u g):∀(vs:List Value)(cs:am)(q:Nat),bJ K β vs cs->bJ K β (eN vs q u) (bN cs q g)
 |[],cs,q,h=>by have:cs=[]:=ky h.1.symm;subst this;exact h
 |v::vs,[],q,h=>by have:=h.1;simp at this
 |v::vs,c::cs,0,h=>by have⟨a1,H⟩:=h.oF;exact .cons W H
 |v::vs,c::cs,q+1,h=>by have⟨a1,H⟩:=h.oF;exact .cons a1 (Fe W vs cs q H)
def Se{N:ap}{j:Nat}{x y:Ob}(h:N[j]?=some x)(r:K8 y=K8 x):jj (N.set j y)=jj N:=by
 funext i
 unfold jj;rw[iY]
 by_cases M:j=i
 ·subst M;rw[ae rfl,ae (bG h).1,h];exact r
 ·rw[ab M]
def GL.Zr{x y:Operand}{t:TypeId}[hT:Ty P t false 1](i j:Nat){b idx n c E:Nat}{N:ap}{rows:List am}{u:Value}(hx:bd fr x=.v (.pointer (some ⟨b,idx,none⟩)))(sd:Γ[i]?=some (blob N))(hN:N[j]?=some (.vech E 1 rows (.slice (some ⟨b,0,none⟩) n c)))(hr:idx<rows.length)(hy:bd fr y=.v u)(hu:zJ u=true)
  (h:GL P m ops Q rest (bQ fr d (.v undef)) (oset Γ i (blob (N.set j (.vech E 1 (dk rows idx 0 (.v u)) (.slice (some ⟨b,0,none⟩) n c)))))):GL P m ops Q (⟨d,.store t x y,ty,pos,af,none⟩::rest) fr Γ:=fun B K β w l hm F hF=>by
 have⟨A,e,hh,T⟩:=F.ob i _ sd
 have xe:∀q,(β i).has q↔(A q).isSome=true:=fun q=>by rw[e];exact Iff.rfl
 obtain⟨hk,xs,how,Vv⟩:=T.own w (fun b o hb=>(hh b o hb).1) j E 1 rows _ hN
 have YS:(jj N j).has b:=by rw[uW hN];rfl
 have Q6:(A b).isSome=true:=(T.dom b).2 ⟨j,YS⟩
 rcases how.2 with⟨e5,e6⟩|⟨g0,cap,cur,e5,Xs,hg,CO,Am,ps,Re⟩
 ·cases e5
 ·have e5':=e5
  injection e5 with e6 e7 e8
  injection e6 with e6
  injection e6 with e6 _ _
  subst e6;subst e7;subst e8
  have hq:idx<rows.length*1:=by omega
  refine WL.st (t:=t) (k:=1) (hF.fC hx) rfl hg (by rw[hF.fC hy];have:=(l7 hu).1;rw[this];rfl) Z (by rw[hF.fC hy,(l7 hu).1];have:=(l7 hu).2;simpa[Xw.lI]using this) fun w' O=>?_
  rw[hF.fC hy]at O
  have L8:setL cur idx u.cells.toList=(eN cur.toList idx u).toArray:=by
   rw[(l7 hu).1];simp only[setL];rw[<-xN]
  rw[L8]at O
  have aag:∀w2:World,w2.heap[b]?=w'.heap[b]?->ik w2 0 E 1 (.slice (some ⟨b,0,none⟩) rows.length c) (dk rows idx 0 (.v u)).length (eN xs idx u):=fun w2 C=>by
   rw[dm];exact⟨by rw[qH];exact how.1,.inr ⟨b,c,_,rfl,Xs,by rw[C];exact O.blk,CO,Am,by simp[qH,ps],by rw[List.toList_toArray,zS _ _ _ Z,Re]⟩⟩
  have XL:bJ (fun _ _=>none) (fun _=>.no) (eN xs idx u) (dk rows idx 0 (.v u)).flatten:=by
   rw[rT Z hk hr,Nat.mul_one,Nat.add_zero];exact Fe (.v u) _ _ _ Vv
  let I:Nat->Option Obj:=fun q=>if q=b then w'.heap[b]? else A q
  have J:I b=w'.heap[b]?:=ae rfl
  have M:∀q,q≠b->I q=A q:=fun q h=>ab h
  have R:∀q,(I q).isSome=(A q).isSome:=fun q=>by
   by_cases s:q=b
   ·subst s;rw[J,O.blk,Q6];rfl
   ·rw[M q s]
  have CM:=Se (y:=.vech E 1 (dk rows idx 0 (.v u)) (.slice (some ⟨b,0,none⟩) rows.length c)) hN (by simp only[K8,dm])
  have Vr:Pk (N.set j (.vech E 1 (dk rows idx 0 (.v u)) (.slice (some ⟨b,0,none⟩) rows.length c))) I:=by
   refine⟨fun z hz=>?_,fun a a' q h1 C=>?_,fun q=>?_,fun w2 xn a E' k' rows' x' S=>?_⟩
   ·rcases List.mem_or_eq_of_mem_set hz with hz|rfl
    ·exact T.plain z hz
    ·have wQ:=T.plain _ (bR hN);show ∀r∈dk rows idx 0 (.v u),∀g∈r,∃x,g=GV.v x;intro r xk g G
     have:∀(rows:List am)(i:Nat),(∀r∈rows,∀g∈r,∃x,g=GV.v x)->r∈dk rows i 0 (.v u)->∃x,g=GV.v x:=by
      intro rows
      induction rows with
      |nil=>intro i _ h;cases h
      |cons a rows ih =>
       intro i h C
       cases i with
       |zero =>
        rw[dk]at C
        rcases nj C with rfl|C
        ·rcases Ep G with h3|h3
         ·exact h a List.mem_cons_self g h3
         ·exact⟨u,h3⟩
        ·exact h r (ey _ C) g G
       |succ i =>
        rw[dk]at C
        rcases nj C with rfl|C
        ·exact h _ List.mem_cons_self g G
        ·exact ih i (fun r hr=>h r (ey _ hr)) C
     exact this rows idx wQ xk
   ·rw[CM]at h1 C;exact T.dis a a' q h1 C
   ·rw[R,CM];exact T.dom q
   ·by_cases haj:a=j
    ·subst haj;rw[List.getElem?_set_self (bG hN).1]at S;cases S;refine⟨vu rfl hk,_,aag w2 ?_,XL⟩;rw[O.blk];exact xn b _ (by rw[J,O.blk])
    ·rw[List.getElem?_set_ne (fun h=>haj h.symm)]at S;obtain⟨a1,ys,a2,a3⟩:=T.own w (fun b o hb=>(hh b o hb).1) a E' k' rows' x' S;refine⟨a1,ys,E8 a2 fun q o' s Y4=>?_,a3⟩
     have L3:(jj N a).has q:=by rw[uW S];exact s
     have yT:q≠b:=fun h=>by subst h;exact haj (T.dis a j q L3 YS)
     have⟨y',W⟩:=Option.isSome_iff_exists.1 ((T.dom q).2 ⟨a,L3⟩);have:=(hh q y' W).1;rw[Y4]at this;cases this;exact xn q _ (by rw[M q yT];exact W)
  have Vh:(β i).has b:=(xe b).2 Q6
  have Q1:∀o,K b o=none:=by
   have⟨y',W⟩:=Option.isSome_iff_exists.1 Q6;exact(hh b y' W).2
  have hI':Inv B K β (oset Γ i (blob (N.set j (.vech E 1 (dk rows idx 0 (.v u)) (.slice (some ⟨b,0,none⟩) rows.length c))))) w':=by
   refine⟨F.ext.step O.ext (fun j H=>?_),F.kle,F.ble,F.loc,F.fz.ext O.ext (fun q o' g' G he=>?_),fun a y H=>?_,fun a H=>F.out a (by simpa[bU]using H),F.dis,F.own,F.kn,F.tab.step O.ext (fun a H=>⟨i,by subst H;exact Vh⟩) (c7.refl K) (fun i b2 h=>.inl ⟨i,h⟩)⟩
   ·subst H;exact(F.own i _ Vh).symm
   ·subst he;rw[Q1]at G;cases G
   ·rw[bU,iY]at H;split at H
    ·rename_i HQ;split at H
     ·cases H;subst HQ
      refine⟨I,?_,fun q o' s=>?_,Vr⟩
      ·rw[e]
       congr 1
       funext q
       rw[R]
      ·by_cases ug:q=b
       ·subst ug;rw[J]at s;exact⟨s,Q1⟩
       ·rw[M q ug]at s;have⟨h1,C⟩:=hh q o' s;exact⟨O.ext.blk h1 (fun h=>ug h),C⟩
     ·cases H
    ·rename_i HQ;refine(F.ob a y H).ext O.ext (fun q s he=>?_) (c7.refl K) (dO.refl β) rfl (fun _ _ _ h=>h);subst he;exact HQ (F.dis i a _ Vh s)
  exact h B K β w' _ hm hI' (hF.put d (.v _))
end
end Go.Xg
namespace Go.Xw
open Go.RowKit
section
variable{P:Program}(w:World)(t I ty e:TypeId)(i:TypeInfo)(z:Value)
theorem vz(k B:IntKind)(H:P.underlying t=some (.slice e))(o:P.underlying I=some (.int B))(hi:P.info? e=some i)(E:i.zero=some z)
  (m:Nat)(N:0<m)(q:i.size=1)(c:(m:Int)<=9223372036854775807)(M:m*i.bytes<=281474976710656) :
  (Builtin.append_ #[t,I] ty #[.slice none 0 0,.int k m]).run P w =
   .ok (.slice (some ⟨w.heap.size,0,none⟩) m (grownCap w m 0 e)) (w.drew.alloc (.cells (Builtin.zeroCells z.cells m++Builtin.zeroCells z.cells (grownCap w m 0 e-m)) e)):=by
 have R:m≠0:=by omega
 have r:IntKind.i64.wrap (m:Int)=m:=by rw[IntKind.wrap_i64];omega
 have n:¬(9223372036854775807<(m:Int)):=by omega
 have j:¬(281474976710656<Builtin.nextslicecap m 0*i.bytes):=by grind[nextslicecap_zero]
 have J:¬(281474976710656<(m:Int)*(i.bytes:Int)):=by omega
 have F:¬((m:Int)<0):=by omega
 simp[Builtin.append_,run_underlying H,run_underlying o,sizeOf,typeInfo,zeroValue,hi,E,q,asInt,asIntOf,r,R,F,n,j,J,Question.forced,run_firstCells_none,newRow,grownCap]
def vy(s O:IntKind)(N:P.underlying t=some (.slice e))(q:P.underlying I=some (.int O))(hi:P.info? e=some i)(E:i.zero=some z)
  (base:Option Addr)(n C:Nat)(G:List Value)(A:(Builtin.firstCells 1 n (.slice base n C)).run P w.drew=.ok G.toArray w.drew)
  (m:Nat)(S:0<m)(r:i.size=1)(hg:C<n+m)(c:((n+m:Nat):Int)<=9223372036854775807)(M:m*i.bytes<=281474976710656)(B:Builtin.nextslicecap (n+m) C*i.bytes<=281474976710656) :
  (Builtin.append_ #[t,I] ty #[.slice base n C,.int s m]).run P w =
   .ok (.slice (some ⟨w.heap.size,0,none⟩) (n+m) (grownCap w (n+m) C e)) (w.drew.alloc (.cells (G.toArray++Builtin.zeroCells z.cells m++Builtin.zeroCells z.cells (grownCap w (n+m) C e-(n+m))) e)):=by
 have H:m≠0:=by omega
 have k:IntKind.i64.wrap (m:Int)=m:=by rw[IntKind.wrap_i64];omega
 have R:¬(n+m<=C):=by omega
 have o:¬(9223372036854775807<((n:Int)+(m:Int))):=by omega
 have j:¬(281474976710656<Builtin.nextslicecap (n+m) C*i.bytes):=by omega
 have J:¬(281474976710656<(m:Int)*(i.bytes:Int)):=by omega
 have F:¬((m:Int)<0):=by omega
 simp[Builtin.append_,run_underlying N,run_underlying q,sizeOf,typeInfo,zeroValue,hi,E,r,asInt,asIntOf,k,H,R,F,o,j,J,Question.forced,A,newRow,grownCap]
end
def vA{P:Program}{w:World}(t I ty e:TypeId)(i:TypeInfo)(z u:Value)(k G:IntKind)(H:P.underlying t=some (.slice e))(q:P.underlying I=some (.int G))(hi:P.info? e=some i)(E:i.zero=some z)(B:z.cells=#[u])(W:u.oneCell'=true)(s:i.size=1)
  (g v n m:Nat)(cur:Array Value)(hg:w.heap[g]?=some (.cells cur e (0,0)))(N:0<m)(c:(m:Int)<=9223372036854775807)(M:m*i.bytes<=281474976710656)
  (j:v+m<=n)(A:v+m<=cur.size) :
  (Builtin.append_ #[t,I] ty #[.slice (some ⟨g,0,none⟩) v n,.int k m]).run P w =
   .ok (.slice (some ⟨g,0,none⟩) (v+m) n) (w.setRow g (cur.toList.take v++List.replicate m u++cur.toList.drop (v+m)).toArray):=by
 have R:m≠0:=by omega
 have C:IntKind.i64.wrap (m:Int)=m:=by rw[IntKind.wrap_i64];omega
 have J:¬(281474976710656<(m:Int)*(i.bytes:Int)):=by
  omega
 have F:¬((m:Int)<0):=by omega
 have r:(Builtin.zeroCells #[u] m).toList=List.replicate m u:=by
  unfold Builtin.zeroCells;rw[Array.toList_map,Array.toList_range];simp[List.size_toArray,length_singleton,Nat.mul_one,Nat.mod_one,List.eq_replicate_iff,yE]
 have o:=run_storeCells_at P g v e (List.replicate m u) 0 cur w hg zfk (fun x hx=>by grind);simp only[Nat.add_zero,length_replicate]at o;simp[Builtin.append_,run_underlying H,run_underlying q,sizeOf,typeInfo,zeroValue,hi,E,s,asInt,asIntOf,C,R,F,J,j,Addr.add_lit,B,r,o]
section
variable{P:Program}{Q:mf}{l:List Value}{w:World}{ops:Array Oper}{rest:List Oper}{d:Option Tmp}{ty:TypeId}{pos:String}{af:Array Edge}
theorem Oo{u:Value}(m:Nat):Builtin.zeroCells #[u] m=(List.replicate m u).toArray:=by
 grind[Builtin.zeroCells]
theorem WL.zg{s x:Operand}{t O e M:Nat}{u:Value}{W kq:IntKind}[hT:lP P t e 1 M][hZ:nS P t e 1 [u]](I:P.underlying O=some (.int W)){base n m:Nat}{xs:List Value}{v:Value}(hs:ev l s=v)(c:ik w base e 1 v n xs)
  (hx:ev l x=.int kq (m:Int))(h0:0<m)(hu:u.oneCell'=true)(h63:n+m<=9223372036854775807)(R:(n+m)*M<=140737488355328)(E:base<=w.heap.size)
  (h:∀v' w',ik w' base e 1 v' (n+m) (xs++List.replicate m u)->Ext (fun b=>v.ownBlock=some b) w w'->(∀b,v'.ownBlock=some b->v.ownBlock=some b\/w.heap.size<=b)->WL P ops Q rest (put l d v') w') :
  WL P ops Q (⟨d,.call ⟨.builtin .append,#[s,x],#[t,O]⟩,ty,pos,af,none⟩::rest) l w:=by
 have⟨J,⟨i,z,S,T,H0,H,L5⟩,hk⟩:=hT.parts
 have hzc:z.cells=#[u]:=by
  have h4:=hZ.zero;rw[S]at h4;simp only[Option.bind_some,T,Option.some.injEq,if_true,List.headD_cons]at h4;rw[h4];exact hZ.one rfl
 have Q6:m*i.bytes<=140737488355328:=by grind
 have A:∀(r:Nat),r<n+m->ik (w.drew.alloc (.cells (xs.toArray++Builtin.zeroCells z.cells m++Builtin.zeroCells z.cells (grownCap w (n+m) r e-(n+m))) e)) base e 1 (.slice (some ⟨w.heap.size,0,none⟩) (n+m) (grownCap w (n+m) r e)) (n+m) (xs++List.replicate m u):=fun r ho=>by
  have Mb:=grownCap_ge w (n+m) r e;have F:grownCap w (n+m) r e<=maxLen:=grownCap_le_maxLen w (n+m) r e zfz;have hxl:=c.1;refine⟨by grind,.inr ⟨w.heap.size,_,_,rfl,E,heap_alloc_new w.drew _,Mb,F,?_,?_⟩⟩
  ·grind[Builtin.zeroCells,Value.cells,grownCap]
  grind[Oo,Array.toList_append,eU,bl,length_replicate,List.take_left]
 have B:∀o,Ext (fun b=>v.ownBlock=some b) w (w.drew.alloc o):=fun o=>⟨rfl,rfl,rfl,by simp,fun k hk _=>Below.heap_alloc _ _ _ (by simp_all)⟩
 have aaQ:=c
 rcases c.2 with⟨rfl,rfl⟩|⟨g,q,cur,rfl,HM,hg,CO,F,L8,XM⟩
 ·have HZ:xs=[]:=ky (by simpa using c.1);subst HZ;have N:=vz (P:=P) w t O ty e i z kq W J I S T m h0 H zfn zfn;have hgr:=A 0 zfn;simp only[gW,nil_append,Array.empty_append]at hgr;refine WL.val (v:=.slice (some ⟨w.heap.size,0,none⟩) m (grownCap w m 0 e)) (w':=w.drew.alloc (.cells (Builtin.zeroCells z.cells m++Builtin.zeroCells z.cells (grownCap w m 0 e-m)) e)) zfB (h _ _ zfk (B _) fun b hb=>?_)
  exact zbQ
 ·by_cases C:n+m<=q
  ·have N:=vA (P:=P) (w:=w) t O ty e i z u kq W J I S T hzc hu H g n q m cur hg h0 zfn zfn C zfn;have yS:=c.1;refine WL.val (v:=.slice (some ⟨g,0,none⟩) (n+m) q) (w':=w.setRow g (cur.toList.take n++List.replicate m u++cur.toList.drop (n+m)).toArray) zfB (h _ _ ⟨by grind,.inr ⟨g,q,_,rfl,HM,setRow_heap w g cur _ e _ hg,C,F,?_,?_⟩⟩ ⟨rfl,rfl,rfl,by simp,fun k _ hk=>setRow_other w g k _ (fun e=>hk (by simp[Value.ownBlock,e]))⟩ fun b hb=>.inl hb)
   ·grind
   grind
  ·have G:∀j u,xs[j]?=some u->w.cell? ((⟨g,0,none⟩:Addr).add j)=some u:=World.ownsRow.cells (g:=g) c rfl;have hf:=run_firstCells_some (P:=P) w.drew 1 n ⟨g,0,none⟩ n q xs c.1 G;have N:=vy (P:=P) w t O ty e i z kq W J I S T (some ⟨g,0,none⟩) n q xs zfn m h0 H zfn zfn zfn (growslice_fits zfn zfk);refine WL.val (v:=.slice (some ⟨w.heap.size,0,none⟩) (n+m) (grownCap w (n+m) q e)) (w':=w.drew.alloc (.cells (xs.toArray++Builtin.zeroCells z.cells m++Builtin.zeroCells z.cells (grownCap w (n+m) q e-(n+m))) e)) zfB (h _ _ (A q zfn) (B _) fun b hb=>?_)
   exact zbQ
end
end Go.Xw
namespace Go.Xg
open Go.RowKit Go.Xw Go.Proofs
section
variable{P:Program}{m:Nat}{Q:dF}{fr:am}{Γ:ap}{ops:Array Oper}{rest:List Oper}{d:Option Tmp}{ty:TypeId}{pos:String}{af:Array Edge}
theorem GL.QK{s x:Operand}{t tn e A:Nat}{u:Value}{kn kq:IntKind}[hT:lP P t e 1 A][hZ:nS P t e 1 [u]][hN:me P tn kn](i:Nat){n q:Nat}{G:Tmp}{R:Option Addr}{S:Nat}{rows:List am}(hx:bd fr x=.v (.int kq (q:Int)))(hs:bd fr s=.v (.slice R n S))
  (k:Γ[i]?=some (.vech e 1 rows (.slice R n S)))(hn:rows.length=n)(h0:0<q)(hu:zJ u=true)(W:n+q<=9223372036854775807/\(n+q)*A<=140737488355328)
  (h:∀a c,GL P m ops Q rest (bQ fr (some G) (.v (.slice a (n+q) c))) (oset Γ i (.vech e 1 (rows++List.replicate q [.v u]) (.slice a (n+q) c)))) :
  GL P m ops Q (⟨some G,.call ⟨.builtin .append,#[s,x],#[t,tn]⟩,ty,pos,af,none⟩::rest) fr Γ:=fun B K β w l hm T H=>by
 subst hn;have⟨xs,o1,o2,o3,o4,o5⟩:=T.ob i _ k;have N:=H.fC hs;have O:=H.fC hx
 refine WL.zg (base:=0) (n:=rows.length) (m:=q) (xs:=xs) hN.und N o2 O h0 (by simp_all[l7,Xw.lI]) W.1 W.2 (bj _) fun v' w' M E J=>?_
 have I:(List.replicate q [GV.v u]).flatten=(List.replicate q u).map .v:=by
  simp
 have hk:gL 1 (List.replicate q [GV.v u]):=fun r hr=>by
  grind[GV.pc]
 obtain⟨K',hK,F,C⟩:=(T.xM k).grow (fz:=0) (mn k) o1 ⟨o2,o3⟩ (news:=List.replicate q [.v u]) (ns:=List.replicate q u) zfk E J (by rw[I];exact bJ.self) hk zfk (fun b Ak o v ho hv=>by omega);rw[<-bU,kU]at C;have⟨a,c,j,z⟩:=C.uJ (mn k);rw[kU]at z;obtain⟨a',c',rfl⟩:=M.shape;rw[bV]at j;simp only[bl,length_replicate]at j z F;cases j;exact h _ _ B K' _ w' _ hm z ((H.mono hK F).put (some G) (.v _))
theorem GL.V0{x:Operand}{t e k u:Nat}{z:List Value}[hT:lP P t e k u][E:nS P t e k z]{I:Tmp}{n:Nat}(hx:bd fr x=y4 (n:Nat))(hb:n<=1099511627776/\u*n<=281474976710656)
  (h:∀b c,GL P m ops Q rest (bQ fr (some I) (.v (.slice (some ⟨b,0,none⟩) n c))) (Γ++[.vech e k (List.replicate n (gO z)) (.slice (some ⟨b,0,none⟩) n c)])) :
  GL P m ops Q (⟨some I,.makeSlice t x x,ty,pos,af,none⟩::rest) fr Γ:=fun B K β w l hm hI hF=>by
 have⟨hu,⟨i,T,hi,hz,H0,R,L5⟩,hk⟩:=hT.parts;have S:ev l x=ii (n:Nat):=hF.fC hx;obtain⟨w',hr,W,A⟩:=run_make_full (P:=P) (w:=w) 0 t e i T k hu hi hz R .i64 .i64 n zfk zfz (bj _)
 have ui:T.cells.toList=z:=by
  have H:=E.zero;rw[hi]at H;simp only[Option.bind_some,hz,Option.some.injEq]at H;have hl:=E.zl
  by_cases J:k=1
  ·rw[ae J]at H;rw[H,E.one J];subst J
   match z,hl with
   |[a],_=>rfl
  grind[Value.cells]
 have o:(madeCells T.cells (n*k)).toList=(List.range (n*k)).map fun j=>z.getD (j%k) undef:=by
  unfold madeCells;rw[Array.toList_map,Array.toList_range]
  exact zeC
 rw[o]at W;have s:=Bg (K:=K) (β:=β) (n:=n) E.zl E.pos;rw[<-Jc]at s
 have N:gL k (List.replicate n (gO z)):=fun r hr=>by
  grind[gO,GV.pc]
 have F:Ext fT w w':=⟨A.os,A.tape,A.output,A.size,fun j hj _=>A.block j hj zfm⟩;have M:=hI.Bo (x:=.slice (some ⟨w.heap.size,0,none⟩) n n) (rows:=List.replicate n (gO z)) F (by rw[length_replicate];exact W) (fun b hb=>by cases hb;simp) s N
 have G:(Γ++[Ob.vec e k 0 (List.replicate n (gO z))])[Γ.length]?=some (Ob.vec e k 0 (List.replicate n (gO z))):=by simp
 have⟨a,c,q,C⟩:=M.uJ G;rw[bV]at q
 injection q with CL ug
 injection CL with L4 hb4 hb5
 subst L4 hb5
 have O:oset (Γ++[.vec e k 0 (List.replicate n (gO z))]) Γ.length (.vech e k (List.replicate n (gO z)) (.slice (some ⟨w.heap.size,0,none⟩) (List.replicate n (gO z)).length n))=Γ++[.vech e k (List.replicate n (gO z)) (.slice (some ⟨w.heap.size,0,none⟩) (List.replicate n (gO z)).length n)]:=by
  rw[bU];simp
 rw[O,length_replicate]at C;exact zba
variable{x y:Operand}{t t':TypeId}
def V.O5[H:uC P t]{a:Option Addr}(hx:bd fr x=.v (.pointer a))(n:bd fr y=.v (.pointer none)):V P (.binOp .eql t x y t') fr Γ (.v (.bool a.isNone)):=fun B K W w l R k=>by
 have⟨e,j,z,A⟩:=H.und
 have S:P.pointee t=e:=by simp[Program.pointee,z]
 have:=run_eql_pointer_nil (P:=P) w t a zfk;exact zdJ
def V.V4[H:uC P t]{a:Option Addr}(hx:bd fr x=.v (.pointer a))(n:bd fr y=.v (.pointer none)):V P (.binOp .neq t x y t') fr Γ (.v (.bool a.isSome)):=fun B K W w l R k=>by
 have⟨e,j,z,A⟩:=H.und
 have S:P.pointee t=e:=by simp[Program.pointee,z]
 have:=run_neq_pointer_nil (P:=P) w t a zfk;exact zdJ
theorem V.WG{x lo:Operand}{t e:TypeId}{k:Nat}[H:lC P t e k]{rows:List am}{z:IntKind}{i:Nat}(hx:bd fr x=.sl k rows)(s:bd fr lo=.v (.int z (i:Int)))(hi:i=rows.length)(M:0<i):V P (.slice t x (some lo) none none) fr Γ (.sl k []):=fun B K W w l R j=>by
 have h:=j.ev x;rw[hx]at h;have r:=j.fC s;generalize N:ev l x=v at h
 cases h with
 |sl0 a c=>grind
 |sl b o c _ _ h q =>
  have T:(i:Int)<=(rows.length:Int):=by omega
  by_cases u:c=i
  ·refine⟨.slice (some ⟨b,o,none⟩) 0 0,fun d ty pos af=>?_,.sl0 _ _ _⟩;subst u;simp[execOp,Instr.sliceAt,Instr.slice,Instr.sliceBounds,Instr.sliceBound,asIntOf,N,r,run_underlying H.und,fw H.siz,hi,n8]
  ·refine⟨.slice (some ⟨b,o+i*k,none⟩) 0 (c-i),fun d ty pos af=>?_,.sl0 _ _ _⟩;simp[execOp,Instr.sliceAt,Instr.slice,Instr.sliceBounds,Instr.sliceBound,asIntOf,N,r,run_underlying H.und,fw H.siz,u,q,<-hi,n8]
def V.NJ{x lo:Operand}{t e:TypeId}{k:Nat}[H:lC P t e k]{r:am}{rows:List am}{q:IntKind}(hx:bd fr x=.sl k (r::rows))(s:bd fr lo=.v (.int q 1)):V P (.slice t x (some lo) none none) fr Γ (.sl k rows):=by
 cases rows with
 |nil=>exact V.WG (i:=1) hx s rfl aS
 |cons a rows=>exact V.RL (i:=1) hx s rfl
theorem V.JW{e:TypeId}[H:lC P t e 1]{b n c:Nat}{r:IntKind}{q:Nat}(hx:bd fr x=.v (.slice (some ⟨b,0,none⟩) n c))(o:bd fr y=.v (.int r (q:Int)))(T:q<n):V P (.indexAddr t x y) fr Γ (.v (.pointer (some ⟨b,q,none⟩))):=by
 have:=V.aar (P:=P) (Γ:=Γ) (t:=t) (k:=1) (q:=q) hx o T
 grind
def V.V6{a:Addr}(hx:bd fr x=.v (.pointer (some a))):V P (.nilCheck x) fr Γ (.v (.pointer (some a))):=fun B K W w l S j=>⟨_,R.DE (j.fC hx),.v _⟩
end
end Go.Xg
set_option maxHeartbeats 4000000
namespace Go.Xg
open Go.RowKit Go.Xw Go.Proofs Tryz Go.Im Go.Mn
open Go.Xp (Nd Ar)
open Go.Sp (Src)
attribute [local irreducible] GW GL GO V GC GA bh bm
instance:uC prog 234:=uC.mk' (e:=3) (aL) (aL)
abbrev bE(l:List Int):List am:=l.map fun i=>[GV.v (ii i)]
def xo(xs:List ai)(s:ai):idxOf xs s=bP (fun x=>x==s) xs:=by
 unfold idxOf bP
 have:(fun x:ai=>s==x)=fun x=>x==s:=by funext x;exact BEq.comm
 rw[this]
 cases findIdx? (fun x=>x==s) xs<;>rfl
structure MH where
 ag:Option Addr
 cg:Nat
 ac:Option Addr
 cc:Nat
 hs:List (Nat × Nat)
def Ao(row:List Int)(h:Nat × Nat):Value:=.slice (some ⟨h.1,0,none⟩) row.length h.2
def om(row:List Int)(h:Nat × Nat):am:=[.v (Ao row h)]
def o9(row:List Int)(h:Nat × Nat):Ob:=.vech 3 1 (bE row) (Ao row h)
def du(p:Src)(own:List Int)(F:Nat)(H:MH)(s:M):Ob:=.box 64 [strs p.aw,.sl 2 (p.aq.map bc),.sl 3 (p.az.map aO),.sl 5 (p.ak.map aU),ints own,ints s.inp,y4 (F:Nat),
 y4 s.fin,y4 s.why,y4 0,.vec 1 s.out.length,y4 (s.ay:Nat),.v (.slice H.ag s.bF.length H.cg),.v (.slice H.ac s.cells.length H.cc),y4 (s.aY:Nat)]
def cP(s:M):Ob:=.vec 3 1 0 (bE s.out)
def dJ(H:MH)(s:M):Ob:=.vech 3 1 (bE s.bF) (.slice H.ag s.bF.length H.cg)
def dC(H:MH)(s:M):Ob:=.vech 29 1 (List.zipWith om s.cells H.hs) (.slice H.ac s.cells.length H.cc)
def fk(H:MH)(s:M):Ob:=blob (List.zipWith o9 s.cells H.hs)
def pb(al:Option Addr)(cl:Nat)(s:M):Ob:=.box 181 [.v (.slice al s.locs.length cl),.v (.bool s.left),y4 s.gT]
def pz(al:Option Addr)(cl:Nat)(s:M):Ob:=.vech 3 1 (bE s.locs) (.slice al s.locs.length cl)
def mS(p:Src)(own:List Int)(F:Nat)(H:MH)(al:Option Addr)(cl:Nat)(s:M):ap:=[du p own F H s,cP s,dJ H s,dC H s,fk H s,pb al cl s,pz al cl s]
section
variable(p:Src)(own:List Int)(F:Nat)(H:MH)(al:Option Addr)(cl:Nat)
def Ac(s:M)(c w:Int):GF prog 102 [.loc 0 0,y4 c,y4 w] [du p own F H s,cP s] (y4 0) [du p own F H (s.stop c w),cP s]:=by
 unfold du cP;refine ah func102 ntmps102 ?_;exact ax
def ki(s:M):GF prog 231 [.loc 0 0,.loc 2 0] [du p own F H s,cP s,pb al cl s,pz al cl s] (.v (.bool s.over)) [du p own F H s,cP s,pb al cl s,pz al cl s]:=by
 unfold M.over du cP pb pz
 cases h:(s.fin != 0)with
 |true =>
  refine ah func231 ntmps231 ?_;exact ax
 |false =>
  refine ah func231 ntmps231 ?_;exact ax
variable{p own F H al cl}
def T7{a k j:Nat}{n:Nd}{s t:M}{v:Int}(hn:p.ak[a]?=some n)(G:n.au[k]?=some (j:Int))(hd:GF prog 176 [.loc 0 0,.loc 5 0,y4 (j:Nat)] (mS p own F H al cl s) (y4 v) (mS p own F H al cl t)) :
  GF prog 229 [.loc 0 0,.loc 5 0,y4 (a:Nat),y4 (k:Nat)] (mS p own F H al cl s) (y4 v) (mS p own F H al cl t):=by
 have i:=cH hn;have l:=iq G;unfold aU at i;unfold mS du at *;refine ah func229 ntmps229 ?_;refine aB [0,1,2,3,4,5,6] hd ?_;exact aC
def Dy(H:MH)(s:M)(k:Nat)(n:Int):Value:=if s.over=true then .pointer none else if nV (row s k) n=true then .pointer (some ⟨(H.hs.getD k (0,0)).1,n.toNat,none⟩)else .pointer none
def Dx(s:M)(k:Nat)(n:Int):M:=if s.over=true then s else if nV (row s k) n=true then s else s.stop 2 6
def pQ{s:M}{k:Nat}(h:k<s.cells.length):s.cells[k]?=some (row s k):=by
 unfold row;rw[getD_eq_getElem?_getD,cq h];rfl
def Lj{a k:Nat}{n:Nd}{c:Ar}{s t:M}{v:Int}(N:p.aq.length<=1099511627776)(hn:p.ak[a]?=some n)(J:lR p n.s=(k:Int))(d:p.aq[k]?=some c)(R:0<=c.size/\c.size<=2147483647)(r:jy p F t)(C:H.hs.length=p.aq.length)
  (B:GF prog 229 [.loc 0 0,.loc 5 0,y4 (a:Nat),y4 0] (mS p own F H al cl s) (y4 v) (mS p own F H al cl t)) :
  GF prog 226 [.loc 0 0,.loc 5 0,y4 (a:Nat)] (mS p own F H al cl s) (.v (Dy H t k v)) (mS p own F H al cl (Dx t k v)):=by
 have Q:=cH hn;have z:=tH d;have o:=tY p n.s N;have G:bP (fun x:Ar=>x.name==n.s) p.aq=(k:Int):=J;rw[G]at o;have i:=Qx v 0 (c.size-1);have A:=r.rows k c d
 have m:k<t.cells.length:=by rw[r.cells];exact(bG d).1
 have u:(decide ((0:Int)<=v)&&decide (v<=c.size-1))=nV (row t k) v:=by
  unfold nV;rw[show decide (v<=c.size-1)=decide (v<((row t k).length:Int)) by rw[A];exact decide_eq_decide.2 Z]
 rw[u]at i;have b:=ki p own F H al cl t;have j:=Ac p own F H t 2 6;have I:=pQ m
 have w:H.hs[k]?=some (H.hs.getD k (0,0)):=by
  rw[getD_eq_getElem?_getD,cq (by rw[C,<-r.cells];exact m)];rfl
 have S:(List.zipWith om t.cells H.hs)[k]?=some [.v (.slice (some ⟨(H.hs.getD k (0,0)).1,0,none⟩) (row t k).length (H.hs.getD k (0,0)).2)]:=by
  rw[getElem?_zipWith,I,w];rfl
 have T:k<(List.zipWith om t.cells H.hs).length:=(bG S).1
 have W:(List.zipWith om t.cells H.hs).length=t.cells.length:=by rw[rE,C,<-r.cells,Nat.min_self]
 unfold Dy Dx;generalize H.hs.getD k (0,0)=hd at *;unfold aU at Q;unfold bc at z
 have l:nV (row t k) v=true->∃q:Nat,v=(q:Int)/\q<(row t k).length:=fun h=>by
  unfold nV at h;simp only[a6,decide_eq_true_eq]at h;exact⟨v.toNat,by omega,by omega⟩
 cases E:t.over with
 |true =>
  rw[E]at b;rw[ae rfl,ae rfl];unfold mS at *;unfold du at *;refine ah func226 ntmps226 ?_;refine zbf ?_;refine aB [0,1,5,6] b ?_;exact aC
 |false =>
  rw[E]at b;refine zdS ?_
  cases e:nV (row t k) v with
  |false =>
   rw[e]at i;refine zdS ?_;unfold mS at *;unfold du at *;refine ah func226 ntmps226 ?_;refine zbf ?_;refine aB [0,1,5,6] b ?_;refine zbT ?_;refine D [0,1] j ?_;exact ax
  |true =>
   rw[e]at i;simp only[if_true];obtain⟨q,rfl,O⟩:=l e;rw[eV];unfold mS at *;unfold du dC at *;refine ah func226 ntmps226 ?_;refine zbf ?_;refine aB [0,1,5,6] b ?_;refine zbT ?_;refine GL.q (V.JW rfl rfl O) ?_;exact zcv
end
end Go.Xg
namespace Go.Im
open Go.Xp Go.Sp
section
variable{p:Src}{Wm:Bool}
end
section
variable(p:Src)(l:List T)(Wm:Bool)
end
section
variable{p:Src}{l:List T}{Wm:Bool}
def Mz(hg:Good p l){i:Nat}{t:T}(H:l[i]?=some t):gJ t=true:=fL.1 hg.st.k t (bR H)
end
def Cq:∀{l:List T}{k:Nat}{t:T},fK l->l[k]?=some t->gA t
 |[],k,t,h,G=>by simp at G
 |a::l,0,t,h,G=>by grind[fK]
 |a::l,k+1,t,h,G=>by rw[fK]at h;exact Cq (l:=l) h.2 G
open Go.Mn
structure wX(p:Src)(own:List Int)(a:Nat)(t:T)(ls:List ai):Prop where
 st:ek p.ak a t
 ow:sU own a t ls
 ok:tF p t ls
 wf:gA t
 k:gJ t=true
 sx:jK t
 len:ls.length<=40
def zI{p:Src}:∀{l:List T}{ls:List ai}{k:Nat}{t:T},uK p l ls->l[k]?=some t->tF p t (ls++bL (l.take k))
 |[],ls,k,t,_,h=>by simp at h
 |u::l,ls,0,t,h,G=>by
  rw[uK]at h;cases G;rw[take_zero,bL,gw];exact h.1
 |u::l,ls,k+1,t,h,G=>by
  rw[uK]at h;have:=zI h.2 (show l[k]?=some t by simpa using G);rw[take_succ_cons,bL,<-eU];exact this
def Dh:∀(l:List T)(k:Nat),(bL (l.take k)).length<=(bL l).length
 |[],k=>by simp
 |t::l,0=>by rw[take_zero,bL];simp
 |t::l,k+1=>by
  rw[take_succ_cons,bL,bL,bl,bl];have:=Dh l k;omega
def B6{p:Src}:∀{l:List T}{ls:List ai}{k:Nat}{t:T},l[k]?=some t->(eA p l ls)[k]?=some (qB p t (ls++bL (l.take k)))
 |[],ls,k,t,h=>by simp at h
 |u::l,ls,0,t,G=>by
  cases G;rw[eA,take_zero,bL,gw];rfl
 |u::l,ls,k+1,t,G=>by
  rw[eA,List.getElem?_cons_succ,B6 (show l[k]?=some t by simpa using G),take_succ_cons,bL,<-eU]
def Ib:∀{l:List T}{k:Nat}{t:T},xt l=true->l[k]?=some t->gJ t=true:=fun{l}{k}{t}h G=>by
 rw[qV]at h;exact fL.1 h t (bR G)
section
variable{p:Src}{own:List Int}{a:Nat}{n:Nd}{l:List T}{ls:List ai}
def wX.kid(h:wX p own a (.mk n l) ls)(E:b8 (.mk n l)=false){k:Nat}{u:T}(W:l[k]?=some u) :
  wX p own (a+1+aZ (l.take k)) u (ls++bL (l.take k))/\n.au[k]?=some ((a+1+aZ (l.take k):Nat):Int)/\(eA p l ls)[k]?=some (qB p u (ls++bL (l.take k))):=by
 have⟨z,v,I,c,G,J,b⟩:=h;rw[ek]at z;rw[sU]at v;rw[tF]at I;rw[gA]at c;rw[gJ,a6]at G;rw[jK]at J;have M:=um (n:=a+1) W;rw[<-z.2.1]at M;refine⟨⟨dS.ix l (a+1) k u z.2.2 W,v.2.at_ W,zI (I.2 E) W,Cq c.2.2 W,Ib G.2 W,Ci J.2 W,?_⟩,M,B6 W⟩;have O:=B1 l ls (I.2 E) c.2.2 b;have B:=Dh l k;rw[bl]at O |-;omega
def wX.node(h:wX p own a (.mk n l) ls):p.ak[a]?=some n/\own[a]?=some (wD n ls)/\bM p (.mk n l) ls=0/\df n.aj l.length=true/\NM n/\n.au.length=l.length:=by
 have⟨z,v,I,c,G,J,W⟩:=h;rw[ek]at z;rw[sU]at v;rw[tF]at I;rw[gJ,a6]at G;rw[jK]at J;exact⟨z.1,v.1,I.1,G.1,J.1,by rw[z.2.1,ec]⟩
end
structure MW(p:Src)(l:List T)(own:List Int)(F:Nat)(H:Go.Xg.MH):Prop where
 w:dE p<=1048576
 gd:il p=true
 gl:Good p l
 ow:∀(i:Nat)f t,p.az[i]?=some f->l[i]?=some t->sU own f.body.toNat t f.params
 F:F<=20000
 hs:H.hs.length=p.aq.length
end Go.Im
namespace Go.Xg
open Go.RowKit Go.Xw Go.MapKept
class Zu (P:Program) (t:TypeId):Prop where
 und:∃k e,P.underlying t=some (.map k e)/\P.underlying k=some (.int .i64)/\(P.info? e).bind (·.zero)=some (ii 0)
section
variable{P:Program}{w:World}{t:TypeId}[hT:Zu P t]{f:Int->Option Int}{b:Nat}{o:Obj}
end
section
variable{P:Program}{m:Nat}{Q:dF}{fr:am}{Γ:ap}{ops:Array Oper}{rest:List Oper}{d:Option Tmp}{op:Op}{ty:TypeId}{pos:String}{af:Array Edge}
def V.min{x y:Operand}{W z:TypeId}{a b:Int}(hx:bd fr x=y4 a)(n:bd fr y=y4 b):V P (.call ⟨.builtin .min,#[x,y],#[W,z]⟩) fr Γ (y4 (if b<a then b else a)) :=
 V.v2 hx n fun l w h k=>fun d ty pos af=>by simp[execOp,resolve,invoke,builtin,Builtin.min_,Builtin.min2,h,k]
theorem V.max{x y:Operand}{W z:TypeId}{a b:Int}(hx:bd fr x=y4 a)(n:bd fr y=y4 b):V P (.call ⟨.builtin .max,#[x,y],#[W,z]⟩) fr Γ (y4 (if a<b then b else a)) :=
 V.v2 hx n fun l w h k=>fun d ty pos af=>by simp[execOp,resolve,invoke,builtin,Builtin.max_,Builtin.max2,h,k]
end
end Go.Xg
namespace Go.Xg
open Go.RowKit Go.Xw Go.Proofs Tryz Go.Im Go.Mn
open Go.Xp (Nd T aZ ec)
open Go.Sp (Src)
attribute [local irreducible] GW GL GO V GC GA bh bm
def qi:∀(l:List Int)(k:Nat)(x:Int),dk (bE l) k 0 (y4 x)=bE (l.set k x)
 |[],k,x=>rfl
 |a::l,0,x=>rfl
 |a::l,k+1,x=>by
  show[y4 a]::dk (bE l) k 0 (y4 x)=_;rw[qi l k x];rfl
section
variable{p:Src}{l:List T}{own:List Int}{F:Nat}{H:MH}{al:Option Addr}{cl:Nat}
def Ny{a k:Nat}{s:M}(W:own[a]?=some (k:Int))(G:k<s.locs.length)(x:Int) :
  GF prog 299 [.loc 0 0,.loc 5 0,y4 (a:Nat),y4 x] (mS p own F H al cl s) (.tup []) (mS p own F H al cl { s with locs:=s.locs.set k x }):=by
 have b:=iq W;have c:(bE s.locs)[k]?=some [.v (ii s.locs[k])]:=iq (cq G)
 have o:k<(bE s.locs).length:=by rw[bI];exact G
 have q:(bE s.locs).length=s.locs.length:=bI _
 have r:decide ((0:Int)<=(k:Int))=true:=by simp
 have e:mS p own F H al cl { s with locs:=s.locs.set k x }=[du p own F H s,cP s,dJ H s,dC H s,fk H s,pb al cl s,.vech 3 1 (dk (bE s.locs) k 0 (y4 x)) (.slice al s.locs.length cl)]:=by
  rw[qi];unfold mS pb pz;simp only[length_set];rfl
 rw[e];unfold mS du pb pz;refine ah func299 ntmps299 ?_;refine xP ?_;exact bY
def Wv{a k:Nat}{o:Int}{n:Nd}{s:M}(hg:p.aw.length<=1099511627776)(hn:p.ak[a]?=some n)(W:own[a]?=some o)(S:o<0)(hx:bP (fun x=>x==n.s) p.aw=(k:Int))(G:k<s.bF.length)(x:Int) :
  GF prog 299 [.loc 0 0,.loc 5 0,y4 (a:Nat),y4 x] (mS p own F H al cl s) (.tup []) (mS p own F H al cl { s with bF:=s.bF.set k x }):=by
 have b:=iq W;have i:=cH hn;have R:=gy p.aw n.s hg;rw[xo,hx]at R;have c:(bE s.bF)[k]?=some [.v (ii s.bF[k])]:=iq (cq G)
 have r:k<(bE s.bF).length:=by rw[bI];exact G
 have t:(bE s.bF).length=s.bF.length:=bI _
 have u:decide ((0:Int)<=o)=false:=by simpa using S
 have e:mS p own F H al cl { s with bF:=s.bF.set k x }=[du p own F H s,cP s,.vech 3 1 (dk (bE s.bF) k 0 (y4 x)) (.slice H.ag s.bF.length H.cg),dC H s,fk H s,pb al cl s,pz al cl s]:=by
  rw[qi];unfold mS du dJ;simp only[length_set];rfl
 rw[e];unfold aU at i;unfold mS du dJ;refine ah func299 ntmps299 ?_;refine aX (aI 0 19 (.q 20 (.a 19 (.q 21 (.a 22 .nil))))) ?_;refine av ?_;refine aN [] R ?_;exact zdf
def gZ(p:Src)(own:List Int)(F:Nat)(H:MH)(al:Option Addr)(cl:Nat)(a k:Nat)(s t:M)(v:Int):Prop :=
 GF prog 229 [.loc 0 0,.loc 5 0,y4 (a:Nat),y4 (k:Nat)] (mS p own F H al cl s) (y4 v) (mS p own F H al cl t)
section
variable{a:Nat}{n:Nd}
theorem zi{s t:M}{v:Int}(hn:p.ak[a]?=some n)(N:gZ p own F H al cl a 0 s t v)(S:t.over=true) :
  GF prog 230 [.loc 0 0,.loc 5 0,y4 (a:Nat)] (mS p own F H al cl s) (y4 0) (mS p own F H al cl t):=by
 have i:=cH hn;have z:=ki p own F H al cl t;rw[S]at z;unfold gZ at N;unfold aU at i;unfold mS at *;unfold du at *;refine ah func230 ntmps230 ?_;refine zay ?_;refine X ?_;refine aB [0,1,5,6] z ?_;exact aC
theorem zj{s t u:M}{v w:Int}(hn:p.ak[a]?=some n)(N:gZ p own F H al cl a 0 s t v)(S:t.over=false)(I:(n.s=[124,124]->v=0)/\(n.s=[38,38]->v≠0))(e:gZ p own F H al cl a 1 t u w)(W:u.over=true) :
  GF prog 230 [.loc 0 0,.loc 5 0,y4 (a:Nat)] (mS p own F H al cl s) (y4 0) (mS p own F H al cl u):=by
 have i:=cH hn;have z:=ki p own F H al cl t;have A:=ki p own F H al cl u;rw[S]at z;rw[W]at A;unfold gZ at N e;unfold aU at i;unfold mS at *;unfold du at *
 cases O:(n.s==[124,124])with
 |true =>
  have C:(v != 0)=false:=by simpa using I.1 (by simpa using O)
  have Q:(n.s==[38,38])=false:=by rw[show n.s=[124,124] by simpa using O];decide
  exact zcr
 |false =>
  cases Q:(n.s==[38,38])with
  |true =>
   have C:(v==0)=false:=by simpa using I.2 zf0
   exact zcr
  |false =>
   exact zcr
def DV{s t:M}{v:Int}(hn:p.ak[a]?=some n)(O:gZ p own F H al cl a 0 s t v)(S:t.over=false)(I:n.s=[124,124]/\v≠0\/n.s=[38,38]/\v=0) :
  GF prog 230 [.loc 0 0,.loc 5 0,y4 (a:Nat)] (mS p own F H al cl s) (y4 (iD (v != 0))) (mS p own F H al cl t):=by
 have j:=cH hn;have z:=ki p own F H al cl t;rw[S]at z;have r:=si (v != 0);unfold gZ at O;unfold aU at j;unfold mS at *;unfold du at *
 rcases I with⟨N,Q⟩|⟨N,Q⟩
 ·have C:(v != 0)=true:=by simpa using Q
  have J:(n.s==[124,124])=true:=by simpa using N
  exact zdg
 ·have C:(v != 0)=false:=by simpa using Q
  have i:(v==0)=true:=by simpa using Q
  have J:(n.s==[38,38])=true:=by simpa using N
  have w:(n.s==[124,124])=false:=by rw[N];decide
  exact zdg
theorem DW{s t u:M}{v w:Int}(hn:p.ak[a]?=some n)(O:gZ p own F H al cl a 0 s t v)(S:t.over=false)(I:n.s=[124,124]/\v=0\/n.s=[38,38]/\v≠0)(e:gZ p own F H al cl a 1 t u w)(W:u.over=false) :
  GF prog 230 [.loc 0 0,.loc 5 0,y4 (a:Nat)] (mS p own F H al cl s) (y4 (iD (w != 0))) (mS p own F H al cl u):=by
 have i:=cH hn;have z:=ki p own F H al cl t;rw[S]at z;have A:=ki p own F H al cl u;rw[W]at A;have r:=si (w != 0);unfold gZ at O e;unfold aU at i;unfold mS at *;unfold du at *
 rcases I with⟨N,Q⟩|⟨N,Q⟩
 ·have C:(v != 0)=false:=by simpa using Q
  have J:(n.s==[124,124])=true:=by simpa using N
  have B:(n.s==[38,38])=false:=by rw[N];decide
  exact zet
 ·have C:(v==0)=false:=by simpa using Q
  have J:(n.s==[38,38])=true:=by simpa using N
  have B:(n.s==[124,124])=false:=by rw[N];decide
  exact zet
def OJ{s t u:M}{v w:Int}(hn:p.ak[a]?=some n)(N:gZ p own F H al cl a 0 s t v)(S:t.over=false)(I:n.s∈nw)(e:gZ p own F H al cl a 1 t u w)(W:u.over=false) :
  GF prog 230 [.loc 0 0,.loc 5 0,y4 (a:Nat)] (mS p own F H al cl s) (y4 (if(mh n.s v w).2≠0 then 0 else(mh n.s v w).1)) (mS p own F H al cl (if(mh n.s v w).2≠0 then u.stop 2 (mh n.s v w).2 else u)):=by
 have i:=cH hn;have z:=ki p own F H al cl t;rw[S]at z;have A:=ki p own F H al cl u;rw[W]at A;have r:=Jx n.s v w I;have J:=Ac p own F H u 2 (mh n.s v w).2
 have O:(n.s==[124,124])=false:=by
  cases h:(n.s==[124,124])with
  |false=>rfl
  |true=>rw[show n.s=[124,124] by simpa using h]at I;revert I;decide
 have B:(n.s==[38,38])=false:=by
  cases h:(n.s==[38,38])with
  |false=>rfl
  |true=>rw[show n.s=[38,38] by simpa using h]at I;revert I;decide
 generalize(mh n.s v w).1=x at *;generalize(mh n.s v w).2=c at *;unfold gZ at N e;unfold aU at i;unfold mS at *;unfold du at *
 cases o:(c != 0)with
 |true =>
  rw[ae zfD,ae zfD];refine ah func230 ntmps230 ?_;refine zay ?_;refine zah ?_;refine X ?_;refine D [] r ?_;refine D [0,1] J ?_;exact ax
 |false =>
  rw[ab zfD,ab zfD];refine ah func230 ntmps230 ?_;refine zay ?_;refine zah ?_;exact zct
end
end
end Go.Xg
namespace Go.Mn
open Go.Xp (ai bo)
def j3(O:Op)(F:Nat)(B:Nat->R)(x:Int)(s':M)(K:List Int->M->Prop):Nat->List R->List Int->M->Prop
 |_,[],q,s=>K q s
 |0,_::_,_,_=>False
 |g+1,r::l,q,s=>∃v t,ev O F B g r s=some (v,t)/\(t.over=true->x=0/\s'=t)/\(t.over=false->j3 O F B x s' K g l (q++[v]) t)
section
variable{O:Op}{F:Nat}{B:Nat->R}{x:Int}{s':M}{K:List Int->M->Prop}
def Cy:∀(g:Nat)(l:List R)(q:List Int)(s:M)(args:List Int)(t:M),kb O F B g l q s=some (args,t)->s.over=false->(t.over=true->x=0/\s'=t)->(t.over=false->K args t)->j3 O F B x s' K g l q s
 |0,l,q,s,args,t,h,o,z,w=>by simp only[kb]at h;cases h
 |g+1,[],q,s,args,t,h,o,z,w=>by
  simp only[kb,Option.some.injEq,Prod.mk.injEq]at h;obtain⟨rfl,rfl⟩:=h;rw[j3];exact w o
 |g+1,r::l,q,s,args,t,h,o,z,w=>by
  simp only[kb]at h;have⟨v,u,G,n⟩:=br h;rw[j3];refine⟨v,u,G,fun W=>?_,fun W=>?_⟩
  ·rw[ae W]at n;simp only[Option.some.injEq,Prod.mk.injEq]at n;obtain⟨rfl,rfl⟩:=n;exact z W
  ·rw[ab (by rw[W];decide)]at n;exact Cy g l _ u args t n W z w
end
end Go.Mn
namespace Go.Im
open Go.Xp Go.Sp Go.Mn
def wW(p:Src)(F:Nat)(B:Nat->R)(G:Nat)(n:Nd)(x:Int)(s':M)(args:List Int)(t:M):Prop :=
 (n.s=kG/\((t.inp=[]/\x = -1/\s'=t)\/∃a r,t.inp=a::r/\x=bo a/\s'={ t with inp:=r })) \/
 (n.s=ly/\∃v,args=[v]/\x=0/\s'={ t with out:=t.out++[v%4294967296%256] }) \/
 (n.s≠kG/\n.s≠ly/\∃i:Nat,jF p n.s=(i:Int)/\((100<=t.aY/\x=0/\s'=t.stop 5 0)\/(t.aY<100/\∃g w u,g<=G/\ev jY F B g (B i) (t.enter args)=some (w,u)/\x=u.gT/\s'=t.leave u)))
def E3{p:Src}{F:Nat}{B:Nat->R}{g:Nat}{n:Nd}{l:List T}{ls:List ai}{s s':M}{x:Int}(c:n.aj=4)(E:n.s≠eh)(S:bM p (.mk n l) ls=0)(m:s.over=false)(h:bB jY F B g (nY p n l ls (eA p l ls)) s=some (x,s')) :
  ∃A,A<=g/\j3 jY F B x s' (wW p F B g n x s') A (eA p l ls) [] s:=by
 cases g with
 |zero=>simp only[bB]at h;cases h
 |succ g =>
 unfold bM at S;rw[ab (show ¬(T.mk n l).n.aj=13 by show ¬n.aj=13;omega),ab (show ¬((T.mk n l).n.aj=2\/(T.mk n l).n.aj=7) by show ¬(n.aj=2\/n.aj=7);omega),ab (show ¬((T.mk n l).n.aj=3\/(T.mk n l).n.aj=8) by show ¬(n.aj=3\/n.aj=8);omega),ae (show(T.mk n l).n.aj=4 from c)]at S;unfold dG b8 at S;simp only[show(T.mk n l).n=n from rfl,show(T.mk n l).au=l from rfl]at S;rw[ab zfW]at S
 have Q:gC p n.s ≠ -1:=fun e=>by rw[ae e]at S;cases S
 have z:gC p n.s=(l.length:Int):=by
  rw[ab Q]at S
  by_cases e:gC p n.s=(l.length:Int)
  ·exact e
  ·rw[ab e]at S;cases S
 unfold nY at h;rw[ab (show ¬n.aj=1 by omega),ab (show ¬n.aj=2 by omega),ab (show ¬n.aj=3 by omega),ae c,ab E]at h
 by_cases G:n.s=kG
 ·rw[ae G]at h;have b:l=[]:=ky (by unfold gC at z;rw[ae G]at z;omega);subst b;refine⟨g+1,a8 _,?_⟩;rw[eA,j3];refine .inl ⟨G,?_⟩;simp only[bB]at h
  cases N:s.inp with
  |nil =>
   exact zcZ
  |cons a r =>
   exact zcQ
 rw[ab G]at h
 by_cases W:n.s=ly
 ·rw[ae W]at h
  have b:l.length=1:=by unfold gC at z;rw[ab G,ae (.inl W)]at z;omega
  obtain⟨a,rfl⟩:∃a,l=[a]:=by
   match l,b with
   |[a],_=>exact⟨a,rfl⟩
  rw[eA,eA]at h |-;simp only[bB,r0,List.getElem?_cons_zero]at h;have⟨v,t,J,o⟩:=br h;refine⟨g+1,a8 _,?_⟩;rw[j3];refine⟨v,t,J,fun I=>?_,fun I=>?_⟩
  ·rw[ae I]at o;simp only[Option.some.injEq,Prod.mk.injEq]at o;exact⟨o.1.symm,o.2.symm⟩
  ·rw[ab (by rw[I];decide)]at o;simp only[Option.some.injEq,Prod.mk.injEq]at o;rw[j3];exact .inr (.inl ⟨W,v,rfl,o.1.symm,o.2.symm⟩)
 rw[ab W]at h;simp only[bB]at h;have⟨args,t,J,o⟩:=br h
 refine⟨g,Nat.le_succ _,Cy (x:=x) (s':=s') (K:=wW p F B (g+1) n x s') g _ _ _ _ _ J m (fun I=>by
  rw[ae I]at o;simp only[Option.some.injEq,Prod.mk.injEq]at o
  exact⟨o.1.symm,o.2.symm⟩) (fun I=>by
  rw[ab (by rw[I];decide)]at o
  have C:∃i:Nat,jF p n.s=(i:Int):=by
   unfold gC at Q;rw[ab G,ab (by rintro(h|h);exact W h;exact E h)]at Q;unfold jF bP
   cases k:p.az.findIdx? (fun f:Go.Sp.Fn=>f.name==n.s)with
   |none=>rw[k]at Q;exact absurd rfl Q
   |some i=>exact⟨i,rfl⟩
  have⟨i,N⟩:=C;refine .inr (.inr ⟨G,W,i,N,?_⟩);rw[N,eV]at o
  by_cases q:100<=t.aY
  ·rw[ae q]at o;simp only[Option.some.injEq,Prod.mk.injEq]at o;exact .inl ⟨q,o.1.symm,o.2.symm⟩
  ·rw[ab q]at o;have⟨w,u,d,j⟩:=br o;simp only[Option.some.injEq,Prod.mk.injEq]at j
   exact .inr ⟨by omega,g,w,u,by omega,d,j.1.symm,j.2.symm⟩)⟩
end Go.Im
namespace Go.Xg
open Go.RowKit Go.Xw Go.Proofs Tryz Go.Im Go.Mn
open Go.Xp (Nd T)
open Go.Sp (Src)
attribute [local irreducible] GW GL GO V GC GA bh bm
def mC(p:Src)(own:List Int)(F:Nat)(H:MH)(s:M)(x:Ob):ap:=[du p own F H s,cP s,dJ H s,dC H s,fk H s,x]
def y3(p:Src)(own:List Int)(F:Nat)(H:MH)(i:Nat)(args:List Int)(s s':M)(x:Int):Prop:=∀(A:Option Addr)(N:Nat),
 GC prog 104 [.loc 0 0,y4 (i:Nat),.v (.slice A args.length N)] (mC p own F H s (.vech 3 1 (bE args) (.slice A args.length N))) fun g I=>g=y4 x/\∃o,I=mC p own F H s' o
section
variable{p:Src}{l:List T}{own:List Int}{F:Nat}{H:MH}
def Lf{i:Nat}{args:List Int}{s:M}(hd:100<=s.aY):y3 p own F H i args s (s.stop 5 0) 0:=fun A N=>by
 have z:decide ((100:Int)<=(s.aY:Int))=true:=decide_eq_true Z;have e:=Ac p own F H s 5 0;unfold mC du at *;refine ah func104 ntmps104 ?_;refine D [0,1] e ?_;refine nd ?_;exact oj (n:=6) rfl dY rfl (dT rfl) rfl rfl ⟨rfl,_,rfl⟩
def PM(al:Option Addr)(cl:Nat)(s:M)(args:List Int):mS p own F H al cl (s.enter args)=[du p own F H { s with aY:=s.aY+1 },cP s,dJ H s,dC H s,fk H s,
  .box 181 [.v (.slice al (args.length+40) cl),.v (.bool false),y4 0],.vech 3 1 (bE args++List.replicate 40 [y4 0]) (.slice al (args.length+40) cl)]:=by
 unfold mS pb pz M.enter;simp only[bl,length_replicate,bE,jH,List.map_replicate];rfl
def Hi{i:Nat}{f:Go.Sp.Fn}{args:List Int}{s u:M}{w:Int}(hf:p.az[i]?=some f)(r:0<=f.body)(hd:s.aY<100)(ha:args.length<=1048576)(W:u.aY=s.aY+1)
  (c:∀al cl,GF prog 176 [.loc 0 0,.loc 5 0,y4 (f.body.toNat:Nat)] (mS p own F H al cl (s.enter args)) (y4 w) (mS p own F H al cl u)):y3 p own F H i args s (s.leave u) u.gT:=fun C N=>by
 have A:decide ((100:Int)<=(s.aY:Int))=false:=decide_eq_false Z;have j:=xC hf;obtain⟨b,z⟩:∃b:Nat,f.body=(b:Int):=⟨f.body.toNat,by omega⟩;rw[z,eV]at c;unfold aO at j;rw[z]at j;have J:(bE args).length=args.length:=bI _
 have e:((u.aY-1:Nat):Int)=(u.aY:Int)-1:=by omega
 unfold mC du;refine ah func104 ntmps104 ?_;refine GL.QK 5 (q:=40) rfl rfl rfl J aS rfl ⟨by omega,by omega⟩ ?_;intro al cl;refine zbd ?_;have c:=c al cl;rw[PM]at c;unfold du mS at c;refine aB [0,1,2,3,4,6,5] c ?_;refine zd6 ?_;refine oj (n:=6) rfl dY rfl (dT rfl) rfl rfl ⟨rfl,pz al cl u,?_⟩;unfold M.leave;simp only[e];rfl
end
end Go.Xg
set_option maxHeartbeats 8000000
namespace Go.Im
open Go.Xp Go.Sp Go.Mn
def sC{p:Src}{s:ai}(h:0<=lR p s):∃(k:Nat)(a:Ar),lR p s=(k:Int)/\p.aq[k]?=some a:=by
 have z:=vY h;refine⟨(lR p s).toNat,_,by omega,cq z⟩
def xV{p:Src}{l:List T}(h:Good p l){k:Nat}{a:Ar}(ha:p.aq[k]?=some a):0<=a.size/\a.size<=2147483647:=by
 have:=fL.1 h.st.aq a (bR ha);exact zdk
end Go.Im
namespace Go.Xg
open Go.RowKit Go.Xw Go.Proofs Tryz Go.Im Go.Mn
open GV (U)
open Go.Xp (Nd T Ar)
open Go.Sp (Src)
attribute [local irreducible] GW GL GO V GC GA bh bm
section
variable{p:Src}{l0:List T}{own:List Int}{F:Nat}{H:MH}{al:Option Addr}{cl:Nat}
def Ka(W:MW p l0 own F H){a:Nat}{n:Nd}{l:List T}{ls:List ai}(m:wX p own a (.mk n l) ls)(J:n.aj=4)(E:n.s=eh)(s:M) :
  GF prog 227 [.loc 0 0,.loc 5 0,y4 (a:Nat)] (mS p own F H al cl s) (y4 (su p (lH (.mk n l)).s)) (mS p own F H al cl s):=by
 have⟨⟨a1,a2⟩,⟨b1,b2⟩,⟨c1,c2⟩,⟨d1,d2⟩⟩:=iR p;have hw:=W.w;obtain⟨R,-,N,-,-,-⟩:=m.node;have d:=m.st;obtain⟨k,e,-,-,j,-,-⟩:=IU m.wf N J E;have e:l=[k]:=e;subst e;rw[ek]at d;obtain⟨-,r,c⟩:=d;have⟨b,kl⟩:=k;rw[dS,ek]at c;have O:=c.1.1;have o:lH (.mk n [.mk b kl])=b:=rfl;rw[o];have j:0<=lR p b.s:=j;have⟨q,G,z,A⟩:=sC j;have B:=tY p b.s Z;have I:bP (fun x:Ar=>x.name==b.s) p.aq=(q:Int):=z;rw[I]at B
 have S:su p b.s=G.size:=by unfold su;rw[z,eV,A]
 rw[S];have C:=cH R;have u:=cH O;have t:=tH A
 have Q:(n.au.map fun i=>[GV.v (ii i)])[0]?=some [y4 ((a+1:Nat):Int)]:=by rw[r];rfl
 unfold aU at C u;rw[E]at C;unfold bc at t;unfold mS du;refine ah func227 ntmps227 ?_;refine aX (aI 0 21 (.a 21 (aI 22 4 .nil))) ?_;refine av ?_;refine aN [] B ?_;exact aC
def Tt(s:M)(x:Int):mS p own F H al cl { s with out:=s.out++[x] }=[.box 64 [strs p.aw,.sl 2 (p.aq.map bc),.sl 3 (p.az.map aO),.sl 5 (p.ak.map aU),ints own,ints s.inp,y4 (F:Nat),
 y4 s.fin,y4 s.why,y4 0,.vec 1 (s.out.length+1),y4 (s.ay:Nat),.v (.slice H.ag s.bF.length H.cg),.v (.slice H.ac s.cells.length H.cc),y4 (s.aY:Nat)],.vec 3 1 0 (bE s.out++[[y4 x]]),dJ H s,dC H s,fk H s,pb al cl s,pz al cl s]:=by
 unfold mS du cP;exact zep
def Tc(W:MW p l0 own F H){a:Nat}{n:Nd}{l:List T}{ls:List ai}{G g:Nat}{s s':M}{x:Int}{B:Nat->R}(hN:wX p own a (.mk n l) ls)(h4:n.aj=4)(hz:n.s≠eh)
  (abq:∀(k:Nat)(r:R)(s t:M)(v:Int)(e:Nat),e<g->(eA p l ls)[k]?=some r->jy p F s->s.over=false->ev jY F B e r s=some (v,t)->gZ p own F H al cl a k s t v)
  (C:∀(i:Nat)(args:List Int)(t:M)(e:Nat)(w:Int)(u:M),e<=G->t.over=false->t.aY<100->args.length<=1048576->jy p F t->jF p n.s=(i:Int)->ev jY F B e (B i) (t.enter args)=some (w,u)->y3 p own F H i args t (t.leave u) u.gT)
  (h:j3 jY F B x s' (wW p F B G n x s') g (eA p l ls) [] s)(hm:jy p F s)(hs:s.over=false) :
  GF prog 227 [.loc 0 0,.loc 5 0,y4 (a:Nat)] (mS p own F H al cl s) (y4 x) (mS p own F H al cl s'):=by
 have⟨⟨a1,a2⟩,⟨b1,b2⟩,⟨c1,c2⟩,⟨d1,d2⟩⟩:=iR p;have hw:=W.w;have hF:=W.F;obtain⟨hn,-,hf,-,-,As⟩:=hN.node;have hr:=cH hn;have xh:=(d2 n (bR hn)).2;have hz':(n.s==[115,105,122,101])=false:=beq_eq_false_iff_ne.2 (show n.s≠[115,105,122,101]from hz);have xm:=pX p l ls;have I:(n.au.map fun i=>[GV.v (ii i)]).length=n.au.length:=bI _;unfold aU at hr
 have z:∀s,mS p own F H al cl s=[du p own F H s,cP s,dJ H s,dC H s,fk H s,pb al cl s,pz al cl s]:=fun _=>rfl
 rw[z s];unfold du;refine ef func227 ntmps227 ?_;refine Cp ?_;refine GW.wk (Wk.kH 3 1) ?_;refine zdP ?_;refine GW.block ?_
 refine GW.range (n.au.map fun i=>[GV.v (ii i)]).length (fun k fr Γ=>∃(e:Nat)(c:List Int)(d:M)(O:Option Addr)(Q:Nat),e<=g/\j3 jY F B x s' (wW p F B G n x s') e ((eA p l ls).drop k) c d/\jy p F d/\d.over=false/\c.length=k /\
  fr=[.loc 0 0,.loc 5 0,y4 (a:Nat),U,U,U,U,.loc 7 0,.v (.slice O k Q),U,U,U,U,U,U,U,U,U,U,U,U,U,U,U,U,U,U,U,U,U,U,U,U,U,U,U,U,U,U,U,U,U,U,U,U,U,U,U,ints n.au,y4 ((n.au.map fun i=>[GV.v (ii i)]).length:Int),y4 (k:Nat),U,U,U,U,U,U,U,U,U,U,U,U,U,U,U,U,U,U,U,U,U,U,U,U,U,U,U,U,U,U,U,U,U,U,U,U,U,U,U,U,U,U,U,U,U,U,U,U,U,U,U,U,U,U,U,U,U,U,U,U,U,U,U,U,U,U,U,U]/\Γ=[du p own F H d,cP d,dJ H d,dC H d,fk H d,pb al cl d,pz al cl d,.box 82 [y4 n.aj,y4 n.at_,y4 n.n,.v (sv n.s),ints n.au],.vech 3 1 (bE c) (.slice O k Q)]) ?_ Z ?_ ?_ ?_
 ·exact⟨_,_,Wk.bb aD,g,[],s,none,0,a8 _,h,hm,hs,rfl,rfl,rfl⟩
 ·rintro k _ _⟨e,c,d,O,Q,-,-,-,-,-,rfl,rfl⟩;exact eB
 ·rintro k _ _ J⟨e,c,d,O,Q,wP,E,j,N,m,rfl,rfl⟩;rw[I,As,<-xm]at J;have Mh:(eA p l ls)[k]?=some (eA p l ls)[k]:=cq J;rw[kP J]at E
  cases e with
  |zero=>rw[j3]at E;exact E.elim
  |succ e =>
  rw[j3]at E;have⟨v,t,he,Vz,VA⟩:=E;have hv:=abq k _ d t v e Z Mh j N he;have Q7:=j.ev he;have A:=ki p own F H al cl t
  have HL:(bE c).length=k:=by rw[bI];exact m
  unfold gZ at hv
  cases ho:t.over with
  |true =>
   obtain⟨rfl,rfl⟩:=Vz ho;rw[ho]at A;unfold mS at *;unfold du at *;refine zdQ ?_;intro Un UA;refine zbd ?_;refine aB [0,1,5,6] A ?_;exact aC
  |false =>
   have hA2:=VA ho;rw[ho]at A;unfold mS at *;unfold du at *;refine zdQ ?_;intro Un UA;refine zbd ?_;refine aB [0,1,5,6] A ?_;refine X ?_;exact⟨rfl,rfl,_,_,Wk.bb aD,e,c++[v],t,Un,UA,by omega,hA2,Q7,ho,by simp[m],rfl,by rw[show bE (c++[v])=bE c++[[y4 v]] by simp[bE]];rfl⟩
 ·rintro _ _⟨e,c,d,O,Q,wP,E,j,N,m,rfl,rfl⟩;rw[I,As,<-xm,List.drop_length,j3]at E;rw[I]at m |-;refine bx ?_;have hob:=j.out;have hsb:=j.ay
  rcases E with⟨S,hh⟩|⟨S,v,rfl,rfl,rfl⟩|⟨S,hp,i,hi,hh⟩
  ·have c1:(n.s==[103,101,116])=true:=beq_iff_eq.2 (show n.s=[103,101,116]from S)
   rcases hh with⟨hi,rfl,rfl⟩|⟨b,r,hi,rfl,rfl⟩
   ·rw[z];unfold du;rw[hi];exact aC
   ·have c2:(((bE (b::r)).length:Int)==0)=false:=by simp;omega
    have c3:(bE (b::r))[0]?=some [y4 b]:=rfl;have hW:=fj b;rw[z];unfold du;rw[hi];refine X ?_;refine D [] hW ?_;refine GL.q (V.NJ rfl rfl) ?_;exact zcv
  ·have c1:(n.s==[103,101,116])=false:=by rw[show n.s=[112,117,116]from S];decide
   have c2:(n.s==[112,117,116])=true:=beq_iff_eq.2 (show n.s=[112,117,116]from S);have hW:=kW v
   have hb0:0<=v%4294967296:=by omega
   rw[Tt];unfold du cP;refine X ?_;have c3:(bE [v])[0]?=some [y4 v]:=rfl;have hol:(bE d.out).length=d.out.length:=bI _;refine GW.wk ((Wk.A1 (t:=8) (i:=8) rfl rfl rfl).trans (Wk.bb (dh:=.loc 0 0::.loc 5 0::y4 (a:Nat)::U::U::U::U::U::.sl 1 (bE [v])::zU 110 []) aD)) ?_;simp only[oset];refine aX (aI 0 9 (.a 9 (.q 10 (.a 11 (.a 12 (aI 13 3 (.a 16 .nil))))))) ?_;refine av ?_;refine aN [] hW ?_;refine zaI ?_;refine qk ?_;exact zbe
  ·have c1:(n.s==[103,101,116])=false:=beq_eq_false_iff_ne.2 (show n.s≠[103,101,116]from S);have c2:(n.s==[112,117,116])=false:=beq_eq_false_iff_ne.2 (show n.s≠[112,117,116]from hp);have Et:=Ei p n.s Z;have e1:bP (fun x:Go.Sp.Fn=>x.name==n.s) p.az=(i:Int):=hi;rw[e1]at Et
   have hC:y3 p own F H i c d s' x:=by
    rcases hh with⟨hd,rfl,rfl⟩|⟨hd,g2,w,u,Q4,Ap,rfl,rfl⟩
    ·exact Lf hd
    ·exact C i c d g2 w u Q4 N hd Z j hi Ap
   have Y8:pb al cl s'=pb al cl d/\pz al cl s'=pz al cl d:=by
    rcases hh with⟨hd,rfl,rfl⟩|⟨hd,g2,w,u,Q4,Ap,rfl,rfl⟩
    ·exact zai
    ·exact zai
   have hC:=hC O Q;rw[m]at hC;unfold mC at hC;rw[z,Y8.1,Y8.2];unfold du at *;refine X ?_;refine aX (aI 0 7 (.q 8 (.a 7 (.a 9 (.q 10 .nil))))) ?_;refine av ?_;refine aN [] Et ?_;refine OA rfl rfl (GL.DY (bf:=[0,1,2,3,4,8]) ⟨hC⟩ pM rfl yA ?_);rintro _ _⟨rfl,o,rfl⟩;refine⟨by simp,?_⟩;refine za1 ?_;exact aC
end
def Ex(s:M)(o:List (Nat × Nat))(k q:Nat)(x:Int):List.zipWith om (nP s k (q:Int) x).cells o=List.zipWith om s.cells o:=by
 refine ext_getElem? fun j=>?_
 unfold nP;rw[getElem?_zipWith,getElem?_zipWith,eV,iY]
 by_cases r:k=j
 ·subst r;rw[ae rfl]
  by_cases W:k<s.cells.length
  ·rw[ae W,pQ W]
   cases o[k]? with
   |none=>rfl
   |some h=>simp[om,Ao]
  ·rw[ab W,List.getElem?_eq_none (Nat.le_of_not_lt W)]
 ·rw[ab r]
def DT(s:M)(r:List (Nat × Nat))(k q:Nat)(x:Int)(h:Nat × Nat)(G:k<s.cells.length)(t:r[k]?=some h):List.zipWith o9 (nP s k (q:Int) x).cells r=(List.zipWith o9 s.cells r).set k (.vech 3 1 (dk (bE (row s k)) q 0 (y4 x)) (Ao (row s k) h)):=by
 refine ext_getElem? fun j=>?_
 unfold nP;rw[getElem?_zipWith,iY,eV,iY,rE,getElem?_zipWith];have W:=(bG t).1
 by_cases o:k=j
 ·subst o;rw[ae rfl,ae G,ae rfl,ae Z,t];show some (o9 _ _)=_;unfold o9 Ao;rw[qi,length_set]
 ·rw[ab o,ab o]
def S6{p:Src}{own:List Int}{F:Nat}{H:MH}{al:Option Addr}{cl:Nat}(s:M)(k q:Nat)(x:Int)(h:Nat × Nat)(G:k<s.cells.length)(t:H.hs[k]?=some h):mS p own F H al cl (nP s k (q:Int) x) =
  [du p own F H s,cP s,dJ H s,dC H s,blob ((List.zipWith o9 s.cells H.hs).set k (.vech 3 1 (dk (bE (row s k)) q 0 (y4 x)) (Ao (row s k) h))),pb al cl s,pz al cl s]:=by
 have z:=Ex s H.hs k q x;have w:=DT s H.hs k q x h G t
 have I:(nP s k (q:Int) x).cells.length=s.cells.length:=by unfold nP;rw[length_set]
 unfold mS dC fk du;rw[z,w,I];rfl
section
variable{p:Src}{l0:List T}{own:List Int}{F:Nat}{H:MH}{al:Option Addr}{cl:Nat}
def FB{a k:Nat}{n:Nd}{h:Nat × Nat}{s t u:M}{c:Value}{v:Int}(hn:p.ak[a]?=some n)(Q:n.aj=8)
  (o:GF prog 226 [.loc 0 0,.loc 5 0,y4 (a:Nat)] (mS p own F H al cl s) (.v c) (mS p own F H al cl t))
  (hx:c=.pointer none\/∃q:Nat,c=.pointer (some ⟨h.1,q,none⟩)/\q<(row t k).length/\k<t.cells.length/\H.hs[k]?=some h/\gZ p own F H al cl a 1 t u v/\(u.over=false->(row u k).length=(row t k).length/\u.cells.length=t.cells.length))(s':M)
  (N:(c=.pointer none->s'=t)/\∀q:Nat,c=.pointer (some ⟨h.1,q,none⟩)->s'=if u.over=true then u else nP u k (q:Int) v) :
  GF prog 232 [.loc 0 0,.loc 5 0,y4 (a:Nat)] (mS p own F H al cl s) (.tup []) (mS p own F H al cl s'):=by
 have i:=cH hn;unfold aU at i;rw[Q]at i
 have A:∀s,mS p own F H al cl s=[du p own F H s,cP s,dJ H s,dC H s,fk H s,pb al cl s,pz al cl s]:=fun _=>rfl
 rcases hx with rfl|⟨q,rfl,T,G,w,O,W⟩
 ·have e:=N.1 rfl;subst e;unfold mS at *;unfold du at *;refine ah func232 ntmps232 ?_;refine zcG ?_;refine GL.q (V.O5 rfl rfl) ?_;refine bq ?_;exact bY
 ·have e:=N.2 q rfl;have J:=ki p own F H al cl u;unfold gZ at O
  cases S:u.over with
  |true =>
   rw[S]at J;rw[S,ae rfl]at e;subst e;unfold mS at *;unfold du at *;refine ah func232 ntmps232 ?_;refine zcG ?_;refine GL.q (V.O5 rfl rfl) ?_;refine zap ?_;refine zaN ?_;exact zaM
  |false =>
   rw[S]at J;rw[S,ab aS]at e;have⟨j,C⟩:=W S;subst e;rw[S6 u k q v h Z w]
   have z:(List.zipWith o9 u.cells H.hs)[k]?=some (.vech 3 1 (bE (row u k)) (.slice (some ⟨h.1,0,none⟩) (row u k).length h.2)):=by
    rw[getElem?_zipWith,pQ Z,w];rfl
   unfold mS at *;unfold du fk at *;refine ah func232 ntmps232 ?_;refine zcG ?_;refine GL.q (V.O5 rfl rfl) ?_;refine zap ?_;refine zaN ?_;refine X ?_;refine aB [0,1,5,6] J ?_;refine X ?_;refine GL.q (V.V6 rfl) ?_;refine bq ?_;refine GL.Zr 4 k rfl rfl z zfy rfl rfl ?_;refine cV ?_;exact bY
section
variable{a:Nat}{n:Nd}
def ri{s t s':M}{v:Int}(hn:p.ak[a]?=some n)(G:n.aj=7\/n.aj=13)(N:gZ p own F H al cl a 0 s t v)(z:t.over=true->s'=t)
  (w:t.over=false->GF prog 299 [.loc 0 0,.loc 5 0,y4 (a:Nat),y4 v] (mS p own F H al cl t) (.tup []) (mS p own F H al cl s')) :
  GF prog 232 [.loc 0 0,.loc 5 0,y4 (a:Nat)] (mS p own F H al cl s) (.tup []) (mS p own F H al cl s'):=by
 have i:=cH hn;have J:=ki p own F H al cl t;unfold aU at i;unfold gZ at N
 cases S:t.over with
 |true =>
  rw[S]at J;have e:=z S;subst e;unfold mS at *;unfold du at *
  rcases G with G|G
  all_goals
   rw[G]at i;exact zb0
 |false =>
  rw[S]at J;have O:=w S;unfold mS at *;unfold du at *
  rcases G with G|G
  all_goals
   rw[G]at i;refine ah func232 ntmps232 ?_;refine zay ?_;refine X ?_;refine aB [0,1,5,6] J ?_;refine X ?_;refine zaN ?_;exact bY
def FC{s t:M}{v:Int}(hn:p.ak[a]?=some n)(G:n.aj=11\/n.aj=12)(N:gZ p own F H al cl a 0 s t v) :
  GF prog 232 [.loc 0 0,.loc 5 0,y4 (a:Nat)] (mS p own F H al cl s) (.tup []) (mS p own F H al cl (if t.over=true then t else if n.aj=11 then{ t with left:=true,gT:=v }else t)):=by
 have i:=cH hn;have J:=ki p own F H al cl t;unfold aU at i;unfold gZ at N
 cases S:t.over with
 |true =>
  rw[S]at J;rw[ae rfl];unfold mS at *;unfold du at *
  rcases G with G|G
  all_goals
   rw[G]at i;exact zb0
 |false =>
  rw[S]at J;rw[ab aS]
  rcases G with G|G
  ·rw[ae G];rw[G]at i;unfold mS at *;unfold du pb at *;exact zb0
  ·rw[ab Z];rw[G]at i;unfold mS at *;unfold du at *;exact zb0
def sR{s t s':M}{v:Int}(hn:p.ak[a]?=some n)(G:n.aj=9)(O:gZ p own F H al cl a 0 s t v)(z:t.over=true->s'=t)
  (A:t.over=false->(v≠0/\∃w,gZ p own F H al cl a 1 t s' w)\/(v=0/\n.au.length=3/\∃w,gZ p own F H al cl a 2 t s' w)\/(v=0/\n.au.length≠3/\s'=t)) :
  GF prog 232 [.loc 0 0,.loc 5 0,y4 (a:Nat)] (mS p own F H al cl s) (.tup []) (mS p own F H al cl s'):=by
 have k:=cH hn;have J:=ki p own F H al cl t;unfold aU at k;rw[G]at k;unfold gZ at O
 cases S:t.over with
 |true =>
  rw[S]at J;have e:=z S;subst e;exact zdE
 |false =>
  rw[S]at J
  rcases A S with⟨N,w,j⟩|⟨N,Q,w,j⟩|⟨N,Q,e⟩
  ·have C:(v != 0)=true:=by simpa using N
   exact zbA
  ·have C:(v != 0)=false:=by simpa using N
   have I:(((n.au.map fun i=>[GV.v (ii i)]).length:Int)==3)=true:=by rw[bI,Q];rfl
   exact zbA
  ·subst e
   have C:(v != 0)=false:=by simpa using N
   have I:(((n.au.map fun i=>[GV.v (ii i)]).length:Int)==3)=false:=by rw[bI];simp;omega
   exact zdE
end
end
section
variable{p:Src}{l0:List T}{own:List Int}{F:Nat}{H:MH}{al:Option Addr}{cl:Nat}{B:Nat->R}
def DO(p:Src)(own:List Int)(F:Nat)(H:MH)(al:Option Addr)(cl:Nat)(B:Nat->R)(a:Nat)(rs:List R)(G:Nat):Prop :=
 ∀(k:Nat)(r:R)(s t:M)(v:Int)(u:Nat),u<=G->rs[k]?=some r->jy p F s->s.over=false->ev jY F B u r s=some (v,t)->gZ p own F H al cl a k s t v
def Ky{a g:Nat}{n:Nd}{c b:R}{rs:List R}{s s':M}(hn:p.ak[a]?=some n)(l:n.aj=10)(abq:DO p own F H al cl B a rs g)(d:rs[0]?=some c)(I:rs[1]?=some b)(N:jy p F s)(o:s.over=false)(h:lW jY F B g c b s=some ((),s')) :
  GF prog 232 [.loc 0 0,.loc 5 0,y4 (a:Nat)] (mS p own F H al cl s) (.tup []) (mS p own F H al cl s'):=by
 have i:=cH hn;unfold aU at i;rw[l]at i
 have A:∀s,mS p own F H al cl s=[du p own F H s,cP s,dJ H s,dC H s,fk H s,pb al cl s,pz al cl s]:=fun _=>rfl
 rw[A s];unfold du;refine ah func232 ntmps232 ?_;refine GW.loop (fun z:Nat × M=>z.1) (fun z E m=>E=.loc 0 0::.loc 5 0::y4 (a:Nat)::U::U::U::.loc 7 0::zU 111 []/\m=[du p own F H z.2,cP z.2,dJ H z.2,dC H z.2,fk H z.2,pb al cl z.2,pz al cl z.2,.box 82 [y4 10,y4 n.at_,y4 n.n,.v (sv n.s),ints n.au]]/\z.1<=g/\jy p F z.2/\z.2.over=false/\lW jY F B z.1 c b z.2=some ((),s')) (g,s) ?_ ?_
 ·exact⟨_,_,Wk.bb aD,rfl,rfl,a8 _,N,o,h⟩
 ·clear h o N;rintro⟨r,s⟩_ _⟨rfl,rfl,k,N,o,h⟩;simp only at k N o h |-
  cases r with
  |zero=>simp only[lW]at h;cases h
  |succ r =>
  rw[lW]at h;have⟨v,t,G,h⟩:=br h;have Q:=abq 0 c s t v r Z d N o G;have O:=N.ev G;have J:=ki p own F H al cl t;unfold gZ at Q
  cases S:t.over with
  |true =>
   rw[S]at J;rw[ae S]at h;exact zbX
  |false =>
   rw[S]at J;rw[ab (by rw[S];decide)]at h
   cases T:(v==0)with
   |true =>
    rw[ae (by simpa using T)]at h;exact zbX
   |false =>
    rw[ab (by simpa using T)]at h;have⟨w,u,C,h⟩:=br h;have e:=abq 1 b t u w r Z I O S C;have q:=O.ev C;have j:=ki p own F H al cl u;unfold gZ at e
    cases W:u.over with
    |true =>
     rw[W]at j;rw[ae W]at h;simp only[Option.some.injEq,Prod.mk.injEq,true_and]at h;subst h;unfold mS at *;unfold du at *;refine zdF ?_;refine X ?_;refine aB [0,1,5,6] j ?_;exact bY
    |false =>
     rw[W]at j;rw[ab (by rw[W];decide)]at h;unfold mS at *;unfold du at *;refine zdF ?_;refine X ?_;refine aB [0,1,5,6] j ?_;refine X ?_;exact⟨(r,u),⟨_,_,Wk.bb aD,rfl,rfl,by omega,q,W,h⟩,by simp⟩
theorem UG{a:Nat}{s:M}(T:F<=s.ay):GF prog 176 [.loc 0 0,.loc 5 0,y4 (a:Nat)] (mS p own F H al cl s) (y4 0) (mS p own F H al cl (s.stop 3 0)):=by
 have n:decide (((F:Nat):Int)<=((s.ay:Nat):Int))=true:=by simpa using T
 have e:=Ac p own F H s 3 0;unfold mS;unfold du at *;refine ah func176 ntmps176 ?_;refine zaL ?_;exact zeu
theorem UI{a:Nat}{n:Nd}{s:M}(hn:p.ak[a]?=some n)(G:n.aj=1)(i:s.ay<F)(k:F<=20000):GF prog 176 [.loc 0 0,.loc 5 0,y4 (a:Nat)] (mS p own F H al cl s) (y4 n.n) (mS p own F H al cl { s with ay:=s.ay+1 }):=by
 have o:decide (((F:Nat):Int)<=((s.ay:Nat):Int))=false:=by simpa using i
 have j:=cH hn;unfold aU at j;rw[G]at j;unfold mS du;refine ah func176 ntmps176 ?_;exact zc8
theorem UH{a k:Nat}{n:Nd}{s:M}(hn:p.ak[a]?=some n)(G:n.aj=2)(i:s.ay<F)(l:F<=20000)(W:own[a]?=some (k:Int))(b:k<s.locs.length) :
  GF prog 176 [.loc 0 0,.loc 5 0,y4 (a:Nat)] (mS p own F H al cl s) (y4 (s.locs.getD k 0)) (mS p own F H al cl { s with ay:=s.ay+1 }):=by
 have t:decide (((F:Nat):Int)<=((s.ay:Nat):Int))=false:=by simpa using i
 have j:=cH hn;have c:=iq W
 have o:decide ((0:Int)<=(k:Int))=true:=by simp
 have hx:(bE s.locs)[k]?=some [y4 (s.locs.getD k 0)]:=iq (by rw[getD_eq_getElem?_getD,cq b];rfl)
 have q:k<(bE s.locs).length:=by rw[bI];exact b
 have r:(bE s.locs).length=s.locs.length:=bI _;unfold aU at j;rw[G]at j;unfold mS du pz pb;refine ah func176 ntmps176 ?_;exact zc8
theorem Sr{a k:Nat}{o:Int}{n:Nd}{s:M}(hg:p.aw.length<=1099511627776)(hn:p.ak[a]?=some n)(G:n.aj=2)(i:s.ay<F)(l:F<=20000)(W:own[a]?=some o)(S:o<0)(hx:bP (fun x=>x==n.s) p.aw=(k:Int))(b:k<s.bF.length) :
  GF prog 176 [.loc 0 0,.loc 5 0,y4 (a:Nat)] (mS p own F H al cl s) (y4 (s.bF.getD k 0)) (mS p own F H al cl { s with ay:=s.ay+1 }):=by
 have u:decide (((F:Nat):Int)<=((s.ay:Nat):Int))=false:=by simpa using i
 have j:=cH hn;have c:=iq W
 have q:decide ((0:Int)<=o)=false:=by simpa using S
 have R:=gy p.aw n.s hg;rw[xo,hx]at R;have m:(bE s.bF)[k]?=some [y4 (s.bF.getD k 0)]:=iq (by rw[getD_eq_getElem?_getD,cq b];rfl)
 have r:k<(bE s.bF).length:=by rw[bI];exact b
 have t:(bE s.bF).length=s.bF.length:=bI _;unfold aU at j;rw[G]at j;unfold mS du dJ;refine ah func176 ntmps176 ?_;refine zaL ?_;refine zeD ?_;refine aN [] R ?_;exact aC
def JK{a k q:Nat}{n:Nd}{h:Nat × Nat}{s t:M}{c:Value}(hn:p.ak[a]?=some n)(G:n.aj=3)(i:s.ay<F)(l:F<=20000)
  (o:GF prog 226 [.loc 0 0,.loc 5 0,y4 (a:Nat)] (mS p own F H al cl { s with ay:=s.ay+1 }) (.v c) (mS p own F H al cl t))(x:Int)
  (hx:c=.pointer none/\x=0\/c=.pointer (some ⟨h.1,q,none⟩)/\q<(row t k).length/\k<t.cells.length/\H.hs[k]?=some h/\x=(row t k).getD q 0) :
  GF prog 176 [.loc 0 0,.loc 5 0,y4 (a:Nat)] (mS p own F H al cl s) (y4 x) (mS p own F H al cl t):=by
 have r:decide (((F:Nat):Int)<=((s.ay:Nat):Int))=false:=by simpa using i
 have j:=cH hn;unfold aU at j;rw[G]at j
 rcases hx with⟨rfl,rfl⟩|⟨rfl,T,I,w,rfl⟩
 ·unfold mS at *;unfold du at *;refine ah func176 ntmps176 ?_;refine zaL ?_;refine zcG ?_;refine GL.q (V.V4 rfl rfl) ?_;exact zcv
 ·have u:(List.zipWith o9 t.cells H.hs)[k]?=some (.vech 3 1 (bE (row t k)) (.slice (some ⟨h.1,0,none⟩) (row t k).length h.2)):=by
   rw[getElem?_zipWith,pQ I,w];rfl
  have hx:(bE (row t k))[q]?=some [y4 ((row t k).getD q 0)]:=iq (by rw[getD_eq_getElem?_getD,cq T];rfl);unfold mS at *;unfold du fk at *;refine ah func176 ntmps176 ?_;refine zaL ?_;refine zcG ?_;refine GL.q (V.V4 rfl rfl) ?_;refine zap ?_;refine GL.q (V.V6 rfl) ?_;refine bq ?_;refine GL.q (V.Zi 4 k rfl rfl u hx) ?_;exact zcv
section
variable{a:Nat}{n:Nd}
def Hl{s s':M}{x:Int}(hn:p.ak[a]?=some n)(G:n.aj=4)(i:s.ay<F)(k:F<=20000)
  (o:GF prog 227 [.loc 0 0,.loc 5 0,y4 (a:Nat)] (mS p own F H al cl { s with ay:=s.ay+1 }) (y4 x) (mS p own F H al cl s')) :
  GF prog 176 [.loc 0 0,.loc 5 0,y4 (a:Nat)] (mS p own F H al cl s) (y4 x) (mS p own F H al cl s'):=by
 have q:decide (((F:Nat):Int)<=((s.ay:Nat):Int))=false:=by simpa using i
 have j:=cH hn;unfold aU at j;rw[G]at j;exact za5
def UF{s s':M}{x:Int}(hn:p.ak[a]?=some n)(G:n.aj=6)(i:s.ay<F)(k:F<=20000)
  (o:GF prog 230 [.loc 0 0,.loc 5 0,y4 (a:Nat)] (mS p own F H al cl { s with ay:=s.ay+1 }) (y4 x) (mS p own F H al cl s')) :
  GF prog 176 [.loc 0 0,.loc 5 0,y4 (a:Nat)] (mS p own F H al cl s) (y4 x) (mS p own F H al cl s'):=by
 have q:decide (((F:Nat):Int)<=((s.ay:Nat):Int))=false:=by simpa using i
 have j:=cH hn;unfold aU at j;rw[G]at j;exact za5
def Xr{s t:M}{v:Int}(hn:p.ak[a]?=some n)(G:n.aj=5)(i:s.ay<F)(k:F<=20000)(S:n.s=[45]\/n.s=[33]\/n.s=[126])(N:gZ p own F H al cl a 0 { s with ay:=s.ay+1 } t v) :
  GF prog 176 [.loc 0 0,.loc 5 0,y4 (a:Nat)] (mS p own F H al cl s) (y4 (Ja n.s v)) (mS p own F H al cl t):=by
 have o:decide (((F:Nat):Int)<=((s.ay:Nat):Int))=false:=by simpa using i
 have j:=cH hn;have Q:=NV n.s v S;unfold aU at j;rw[G]at j;unfold gZ at N;unfold mS at *;unfold du at *;refine ah func176 ntmps176 ?_;refine zaL ?_;refine aX (aI 0 5 (.a 5 (.a 6 (.q 7 .nil)))) ?_;refine av ?_;refine ql [0,1,2,3,4,5,6] N ?_;refine av ?_;refine aN [] Q ?_;exact aC
def Xq{s s':M}(hn:p.ak[a]?=some n)(G:7<=n.aj/\n.aj<=13)(i:s.ay<F)(k:F<=20000)
  (o:GF prog 232 [.loc 0 0,.loc 5 0,y4 (a:Nat)] (mS p own F H al cl { s with ay:=s.ay+1 }) (.tup []) (mS p own F H al cl s')) :
  GF prog 176 [.loc 0 0,.loc 5 0,y4 (a:Nat)] (mS p own F H al cl s) (y4 0) (mS p own F H al cl s'):=by
 have q:decide (((F:Nat):Int)<=((s.ay:Nat):Int))=false:=by simpa using i
 have j:=cH hn
 have t:(n.aj==1)=false:=by simp;omega
 have e:(n.aj==2)=false:=by simp;omega
 have w:(n.aj==3)=false:=by simp;omega
 have I:(n.aj==4)=false:=by simp;omega
 have N:(n.aj==5)=false:=by simp;omega
 have z:(n.aj==6)=false:=by simp;omega
 have l:(n.aj==14)=false:=by simp;omega
 unfold aU at j;exact za5
end
def O4{a g:Nat}{n:Nd}{rs:List R}{s s':M}(hn:p.ak[a]?=some n)(N:n.aj=14)(z:s.ay<F)(T:F<=20000)(m:n.au.length=rs.length)(W:n.au.length<=1048576)(abq:DO p own F H al cl B a rs g)(O:jy p F { s with ay:=s.ay+1 })(Q:s.over=false)
  (h:jz jY F B g rs { s with ay:=s.ay+1 }=some ((),s')):GF prog 176 [.loc 0 0,.loc 5 0,y4 (a:Nat)] (mS p own F H al cl s) (y4 0) (mS p own F H al cl s'):=by
 have hd:decide (((F:Nat):Int)<=((s.ay:Nat):Int))=false:=by simpa using z
 have I:=cH hn;have o:(n.au.map fun i=>[GV.v (ii i)]).length=n.au.length:=bI _;unfold aU at I;rw[N]at I
 have q:∀s,mS p own F H al cl s=[du p own F H s,cP s,dJ H s,dC H s,fk H s,pb al cl s,pz al cl s]:=fun _=>rfl
 rw[q s];unfold du;refine ah func176 ntmps176 ?_;refine zaL ?_
 refine GW.range (n.au.map fun i=>[GV.v (ii i)]).length (fun k J S=>∃(d:Nat)(c:M),d<=g/\jz jY F B d (rs.drop k) c=some ((),s')/\jy p F c/\c.over=false/\J=[.loc 0 0,.loc 5 0,y4 (a:Nat),U,U,U,U,U,U,U,U,U,U,U,U,U,U,U,U,U,U,U,U,U,U,U,U,U,U,U,U,U,U,U,U,U,U,U,U,U,U,U,U,U,U,U,U,U,U,U,U,U,U,U,U,U,U,U,U,U,U,U,U,U,U,U,U,U,U,U,U,U,U,U,U,U,U,U,U,U,U,U,U,U,U,U,U,U,U,U,U,U,U,U,U,U,U,U,U,U,U,U,U,U,U,U,U,U,U,U,U,U,U,U,ints n.au,y4 ((n.au.map fun i=>[GV.v (ii i)]).length:Int),y4 (k:Nat),U,U,U,U,U,U,U,U,U,U,U,U,U,U,U] /\
  S=[du p own F H c,cP c,dJ H c,dC H c,fk H c,pb al cl c,pz al cl c,.box 82 [y4 14,y4 n.at_,y4 n.n,.v (sv n.s),ints n.au]]) ?_ Z ?_ ?_ ?_
 ·exact⟨_,_,Wk.bb aD,g,{ s with ay:=s.ay+1 },a8 _,h,O,Q,rfl,rfl⟩
 ·rintro k _ _⟨d,c,-,-,-,-,rfl,rfl⟩;exact eB
 ·rintro k _ _ j⟨d,c,w,b,l,u,rfl,rfl⟩;rw[o,m]at j;have C:rs[k]?=some rs[k]:=cq j;rw[kP j]at b
  cases d with
  |zero=>simp only[jz]at b;cases b
  |succ d =>
  rw[jz]at b;have⟨v,t,G,b⟩:=br b;have E:=abq k _ c t v d Z C l u G;have A:=l.ev G;have e:=ki p own F H al cl t;unfold gZ at E
  cases r:t.over with
  |true =>
   rw[r]at e;rw[ae r]at b;simp only[Option.some.injEq,Prod.mk.injEq,true_and]at b;subst b;unfold mS at *;unfold du at *;refine X ?_;refine aB [0,1,2,3,4,5,6] E ?_;refine X ?_;refine aB [0,1,5,6] e ?_;exact zc7
  |false =>
   rw[r]at e;rw[ab (by rw[r];decide)]at b;unfold mS at *;unfold du at *;refine X ?_;refine aB [0,1,2,3,4,5,6] E ?_;refine X ?_;refine aB [0,1,5,6] e ?_;refine X ?_;exact⟨rfl,rfl,_,_,Wk.bb aD,d,t,by omega,b,A,r,rfl,rfl⟩
 ·rintro _ _⟨d,c,w,b,l,u,rfl,rfl⟩;rw[o,m,List.drop_length]at b
  cases d with
  |zero=>simp only[jz]at b;cases b
  |succ d =>
  simp only[jz,Option.some.injEq,Prod.mk.injEq,true_and]at b;subst b;refine bx ?_;rw[q];exact aC
end
end Go.Xg
namespace Go.Im
open Go.Xp Go.Sp Go.Mn
variable{p:Src}
def CI{l:List T}(J:il p=true)(h:Good p l):∃(i:Nat)(f:Go.Sp.Fn)(t:T),jF p jn=(i:Int)/\KQ p l i f t/\f.params=[]:=by
 have N:p.az.any nI=true:=by
  unfold il at J;rw[h.st.G8]at J;simp only[a6,decide_eq_true_eq]at J;have:=J.2;unfold yL at this;rw[ab (by rw[h.names];decide)]at this;split at this
  ·cases this
  split at this
  ·cases this
  ·rename_i I;simpa using I
 have r:=(zC h.names).1 N;unfold lM at r
 cases W:p.az.findIdx? (fun f:Go.Sp.Fn=>f.name==jn)with
 |none=>rw[W]at r;cases r
 |some i =>
  rw[W]at r;obtain⟨z,v,-⟩:=List.findIdx?_eq_some_iff_getElem.1 W;have b:=h.len;have s:p.az[i]?=some p.az[i]:=cq z;have H:l[i]?=some (l[i]'zfn):=cq zfn;refine⟨i,_,_,by unfold jF bP;rw[W],h.fn s H,?_⟩;simp only[decide_eq_false_iff_not]at r;unfold l8 at r;rw[s]at r;exact ky (by simp only at r;omega)
def Fi{l:List T}{i:Nat}{f:Go.Sp.Fn}{t:T}(hf:p.az[i]?=some f)(H:l[i]?=some t):jd p l i=qB p t f.params:=by unfold jd;rw[hf,H]
end Go.Im
set_option maxHeartbeats 4000000
namespace Go.Im
open Go.Xp Go.Sp Go.Mn
def A5{s:ai}(h:fX s=true):s=[124,124]\/s=[38,38]\/s∈Go.Xg.nw:=by
 have c:∀l∈levels,∀x∈l,x=[124,124]\/x=[38,38]\/x∈Go.Xg.nw:=by decide
 grind[fX,qJ,sB]
def tj{l:List ai}{s:ai}(h:l.contains s=true):bP (fun x=>x==s) l=((yW l s:Nat):Int)/\yW l s<l.length:=by
 have z:=AB h
 have v:0<=bP (fun x=>x==s) l:=by
  grind[bP]
 grind[yW]
theorem Eh{l:List ai}{s:ai}(h:l.contains s=false):bP (fun x=>x==s) l<0:=by
 grind[bP]
section
variable{p:Src}{n:Nd}{l:List T}{ls:List ai}
theorem yn(h:bM p (.mk n l) ls=0)(I:n.aj=2\/n.aj=7)(W:ls.contains n.s=false):p.aw.contains n.s=true:=by
 unfold bM at h;rw[ab (show ¬(T.mk n l).n.aj=13 by grind[T.n]),ae (show(T.mk n l).n.aj=2\/(T.mk n l).n.aj=7 from I)]at h
 cases G:p.aw.contains n.s with
 |true=>rfl
 |false=>rw[ae (show ls.contains (T.mk n l).n.s=false/\p.aw.contains (T.mk n l).n.s=false from⟨W,G⟩)]at h;cases h
theorem AN(h:bM p (.mk n l) ls=0)(G:n.aj=3\/n.aj=8):0<=lR p n.s:=by
 unfold bM at h;rw[ab (show ¬(T.mk n l).n.aj=13 by grind[T.n]),ab (show ¬((T.mk n l).n.aj=2\/(T.mk n l).n.aj=7) by grind[T.n]),ae (show(T.mk n l).n.aj=3\/(T.mk n l).n.aj=8 from G)]at h
 by_cases o:ls.contains n.s=true\/lR p n.s<0
 ·rw[ae (show ls.contains (T.mk n l).n.s=true\/lR p (T.mk n l).n.s<0 from o)]at h;cases h
 ·omega
def V5(h:bM p (.mk n l) ls=0)(G:n.aj=13):ls.length<40:=by
 unfold bM at h;rw[ae (show(T.mk n l).n.aj=13 from G)]at h;omega
end
section
variable{k:Int}{n:Nat}
theorem pH(h:df k n=true)(G:k=3\/k=5\/k=7\/k=11\/k=12\/k=13):n=1:=by
 unfold df at h
 grind
theorem yf(h:df k n=true)(G:k=6\/k=8\/k=10):n=2:=by
 unfold df at h
 grind
theorem VM(h:df k n=true)(G:k=9):n=2\/n=3:=by
 unfold df at h;rw[ab (show ¬(k=1\/k=2) by omega),ab (show ¬(k=4\/k=14) by omega),ab (show ¬(k=3\/k=5\/k=7\/k=11\/k=12\/k=13) by omega),ab (show ¬(k=6\/k=8\/k=10) by omega),ae G]at h
 grind
theorem DD(h:df k n=true):1<=k/\k<=14:=by
 grind[df]
end
def lA{l:List R}{k:Nat}(h:k<l.length):l[k]?=some (r0 l k):=by
 grind[r0]
def xc{p:Src}(h:il p=true):∀f∈p.az,f.params.length<=40:=fun f s=>by
 have⟨l,W⟩:=va h;unfold il at h;rw[W.st.G8]at h;simp only[a6,decide_eq_true_eq]at h;have v:=h.2;unfold yL at v;rw[ab zfk]at v
 by_cases I:iM p=true
 ·grind
 simp_all[iM,Bool.or_eq_true,not_or,Bool.not_eq_true,List.any_eq_false,decide_eq_true_eq]
end Go.Im
namespace Go.Xg
open Go.RowKit Go.Xw Go.Proofs Tryz Go.Im Go.Mn
open Go.Xp (Nd T)
open Go.Sp (Src)
attribute [local irreducible] GW GL GO V GC GA bh bm
def GP(p:Src)(l0:List T)(own:List Int)(F:Nat)(H:MH)(g:Nat):Prop:=∀(a:Nat)(t:T)(E:List ai)(s:M)(v:Int)(j:M),wX p own a t E->jy p F s->s.over=false->ev jY F (jd p l0) g (qB p t E) s=some (v,j)->∀(al:Option Addr)(cl:Nat),
 GF prog 176 [.loc 0 0,.loc 5 0,y4 (a:Nat)] (mS p own F H al cl s) (y4 v) (mS p own F H al cl j)
section
variable{p:Src}{l0:List T}{own:List Int}{F:Nat}{H:MH}{al:Option Addr}{cl:Nat}
def VN{G a:Nat}{n:Nd}{l:List T}{ls:List ai}(q:∀u,u<=G->GP p l0 own F H u)(z:wX p own a (.mk n l) ls)(E:b8 (.mk n l)=false):DO p own F H al cl (jd p l0) a (eA p l ls) G:=fun k r s t v u w J N o e=>by
 have A:=pX p l ls;have M:=(bG J).1;have W:l[k]?=some (l[k]'Z):=cq Z;have⟨B,C,I⟩:=z.kid E W;rw[J]at I;cases I;exact T7 z.node.1 C (q u w _ _ _ _ _ _ B N o e al cl)
def QV(W:MW p l0 own F H){i:Nat}{f:Go.Sp.Fn}{t:T}(hf:p.az[i]?=some f)(I:l0[i]?=some t):wX p own f.body.toNat t f.params/\0<=f.body:=by
 have⟨a1,J,q,m,E⟩:=W.gl.at_ i f t hf I;exact⟨⟨m,W.ow i f t hf I,a1,J,Mz W.gl I,W.gl.sx I,xc W.gd f (bR hf)⟩,E⟩
def D7{s:M}{args:List Int}(h:jy p F s):jy p F (s.enter args):=⟨h.bF,h.cells,h.rows,by simp[M.locs,M.enter],h.ay,h.out⟩
theorem UJ(W:MW p l0 own F H){g a:Nat}{n:Nd}{l:List T}{ls:List ai}{s s':M}{v:Int}(hN:wX p own a (.mk n l) ls)(h7:7<=n.aj)(abq:DO p own F H al cl (jd p l0) a (eA p l ls) (g+1))(hm:jy p F s)(hle:¬F<=s.ay)(hs:s.over=false)
  (h:bB jY F (jd p l0) (g+1) (nY p n l ls (eA p l ls)) { s with ay:=s.ay+1 }=some (v,s')) :
  GF prog 176 [.loc 0 0,.loc 5 0,y4 (a:Nat)] (mS p own F H al cl s) (y4 v) (mS p own F H al cl s'):=by
 have⟨⟨a1,a2⟩,⟨b1,b2⟩,⟨c1,c2⟩,⟨d1,d2⟩⟩:=iR p;have hw:=W.w;have hF:=W.F
 have oo:s.ay<F:=by omega
 have b:=hm.next hle
 have o:({ s with ay:=s.ay+1 }:M).over=false:=hs;generalize Av:({ s with ay:=s.ay+1 }:M)=s1 at *;have⟨i,A,hf,Q,yV,As⟩:=hN.node;have xm:=pX p l ls;have⟨k1,k2⟩:=DD Q;unfold nY at h;rw[ab (show ¬n.aj=1 by omega),ab (show ¬n.aj=2 by omega),ab (show ¬n.aj=3 by omega),ab (show ¬n.aj=4 by omega),ab (show ¬n.aj=5 by omega),ab (show ¬n.aj=6 by omega)]at h
 have ST:∀{s':M},n.aj<=13->GF prog 232 [.loc 0 0,.loc 5 0,y4 (a:Nat)] (mS p own F H al cl s1) (.tup []) (mS p own F H al cl s')->GF prog 176 [.loc 0 0,.loc 5 0,y4 (a:Nat)] (mS p own F H al cl s) (y4 0) (mS p own F H al cl s'):=fun h13 J=>Xq i ⟨h7,h13⟩ oo hF (by rw[Av];exact J)
 by_cases O:n.aj=7
 ·rw[ae O]at h;have R:=pH Q (.inr (.inr (.inl O)));unfold wD at A;rw[ab (show ¬n.aj=13 by omega)]at A
  by_cases J:ls.contains n.s=true
  ·rw[ae J]at h;simp only[bB]at h;have⟨x,t,G,h⟩:=br h;have j:=abq 0 _ _ t x g Z (lA Z) b o G;have⟨S,f2⟩:=tj J;rw[S]at A;have HK:=hN.len;have Au:=(b.ev G).locs
   by_cases e:t.over=true
   ·exact zbM
   ·rw[ab e]at h;simp only[Option.some.injEq,Prod.mk.injEq]at h;obtain⟨rfl,rfl⟩:=h;exact ST Z (ri i (.inl O) j (fun h=>absurd h e) fun _=>Ny A Z x)
  ·rw[ab J]at h;simp only[bB]at h;have⟨x,t,G,h⟩:=br h;have j:=abq 0 _ _ t x g Z (lA Z) b o G
   have Al:ls.contains n.s=false:=by grind
   have⟨S,f2⟩:=tj (yn hf (.inr O) Al);have vc:=(b.ev G).bF
   by_cases e:t.over=true
   ·exact zbM
   ·rw[ab e]at h;simp only[Option.some.injEq,Prod.mk.injEq]at h;obtain⟨rfl,rfl⟩:=h;exact ST Z (ri i (.inl O) j (fun h=>absurd h e) fun _=>Wv Z i A (Eh Al) S Z x)
 rw[ab O]at h
 by_cases G:n.aj=8
 ·rw[ae G]at h;have xi:=yf Q (.inr (.inl G));simp only[bB]at h;have⟨x,t,I,h⟩:=br h;have j:=abq 0 _ _ t x g Z (lA Z) b o I;have z:=b.ev I;have⟨k,ar,S,f2⟩:=sC (AN hf (.inr G));rw[S,eV]at h;have hh:=W.hs;have J:=Lj Z i S f2 (xV W.gl f2) z hh j
  have Vl:k<t.cells.length:=by rw[z.cells];grind
  have Vg:H.hs[k]?=some (H.hs.getD k (0,0)):=by grind
  unfold Dy Dx at J
  have aaz:∀(t':M),GF prog 226 [.loc 0 0,.loc 5 0,y4 (a:Nat)] (mS p own F H al cl s1) (.v (.pointer none)) (mS p own F H al cl t')->GF prog 232 [.loc 0 0,.loc 5 0,y4 (a:Nat)] (mS p own F H al cl s1) (.tup []) (mS p own F H al cl t'):=fun t' J=>FB (k:=0) (h:=(0,0)) (u:=t') (v:=0) i G J (.inl rfl) t' ⟨fun _=>rfl,fun q hq=>(by cases hq)⟩
  by_cases e:t.over=true
  ·rw[ae e]at h;simp only[Option.some.injEq,Prod.mk.injEq]at h;obtain⟨rfl,rfl⟩:=h
   simp_all
  ·rw[ab e]at h;rw[ab e,ab e]at J
   by_cases hi:nV (row t k) x=true
   ·rw[ae hi]at h;rw[ae hi,ae hi]at J;unfold nV at hi;simp only[a6,decide_eq_true_eq]at hi;have⟨y,u,c,h⟩:=br h;have hw:=abq 1 _ _ u y g Z (lA Z) z zfk c;have Aw:=zW.ev c
    have hxq:((x.toNat:Nat):Int)=x:=by omega
    have B:=FB (k:=k) (h:=H.hs.getD k (0,0)) (u:=u) (v:=y) i G J (.inr ⟨x.toNat,rfl,by omega,Vl,Vg,hw,fun _=>⟨Aw.rows k,Aw.cells⟩⟩) (if u.over=true then u else nP u k (x.toNat:Int) y) ⟨fun hq=>(by cases hq),fun q hq=>zfk⟩;rw[hxq]at B
    by_cases hu:u.over=true
    ·rw[ae hu]at h B;exact zdv
    ·rw[ab hu]at h B;exact zdv
   simp_all
 rw[ab G]at h
 by_cases I:n.aj=9
 ·rw[ae I]at h;have hl3:=VM Q I
  by_cases h3:l.length=3
  ·rw[ae h3]at h;simp only[bB]at h;have⟨x,t,c,h⟩:=br h;have j:=abq 0 _ _ t x g Z (lA Z) b o c;have z:=b.ev c
   by_cases e:t.over=true
   ·exact zbS
   ·rw[ab e]at h
    by_cases hx:x≠0
    ·exact za7
    ·rw[ab hx]at h;have⟨y,u,d,h⟩:=br h;simp only[Option.some.injEq,Prod.mk.injEq]at h;obtain⟨rfl,rfl⟩:=h;exact ST Z (sR i I j (fun h=>absurd h e) fun E=>.inr (.inl ⟨by omega,by omega,y,abq 2 _ _ _ y g Z (lA Z) z E d⟩))
  ·rw[ab h3]at h;simp only[bB]at h;have⟨x,t,c,h⟩:=br h;have j:=abq 0 _ _ t x g Z (lA Z) b o c;have z:=b.ev c
   by_cases e:t.over=true
   ·exact zbS
   ·rw[ab e]at h
    by_cases hx:x≠0
    ·exact za7
    ·rw[ab hx]at h;simp only[Option.some.injEq,Prod.mk.injEq]at h;obtain⟨rfl,rfl⟩:=h;exact ST Z (sR i I j (fun h=>absurd h e) fun E=>.inr (.inr ⟨by omega,by omega,rfl⟩))
 rw[ab I]at h
 by_cases c:n.aj=10
 ·rw[ae c]at h;have xi:=yf Q (.inr (.inr c));simp only[bB]at h;have⟨w0,t,d,h⟩:=br h;simp only[Option.some.injEq,Prod.mk.injEq]at h;obtain⟨rfl,rfl⟩:=h;exact ST Z (Ky i c (fun k r s t v g' wP=>abq k r s t v g' Z) (lA Z) (lA Z) b o d)
 rw[ab c]at h
 by_cases d:n.aj=11
 ·rw[ae d]at h;have R:=pH Q (.inr (.inr (.inr (.inl d))));simp only[bB]at h;have⟨x,t,C,h⟩:=br h;have j:=abq 0 _ _ t x g Z (lA Z) b o C;have B:=FC i (.inl d) j;rw[ae d]at B
  by_cases e:t.over=true
  ·simp_all
  simp_all
 rw[ab d]at h
 by_cases C:n.aj=12
 ·rw[ae C]at h;have R:=pH Q (.inr (.inr (.inr (.inr (.inl C)))));simp only[bB]at h;have⟨x,t,m,h⟩:=br h;have j:=abq 0 _ _ t x g Z (lA Z) b o m;have B:=FC i (.inr C) j
  simp_all
 rw[ab C]at h
 by_cases m:n.aj=13
 ·rw[ae m]at h;have R:=pH Q (.inr (.inr (.inr (.inr (.inr m)))));unfold wD at A;rw[ae m]at A;simp only[bB]at h;have⟨x,t,N,h⟩:=br h;have j:=abq 0 _ _ t x g Z (lA Z) b o N;have HK:=V5 hf m;have Au:=(b.ev N).locs
  by_cases e:t.over=true
  ·rw[ae e]at h;simp only[Option.some.injEq,Prod.mk.injEq]at h;obtain⟨rfl,rfl⟩:=h;exact ST Z (ri i (.inr m) j (fun _=>rfl) fun h=>absurd h zfk)
  ·rw[ab e]at h;simp only[Option.some.injEq,Prod.mk.injEq]at h;obtain⟨rfl,rfl⟩:=h;exact ST Z (ri i (.inr m) j (fun h=>absurd h e) fun _=>Ny A Z x)
 rw[ab m]at h
 have N:n.aj=14:=by omega
 simp only[bB]at h;have⟨w0,t,YC,h⟩:=br h;simp only[Option.some.injEq,Prod.mk.injEq]at h;obtain⟨rfl,rfl⟩:=h;have xh:=(d2 n (bR i)).2;exact O4 (g:=g) i N oo hF Z Z (fun k r s t v g' wP=>abq k r s t v g' Z) zfk hs zfk
theorem Sw(W:MW p l0 own F H){G:Nat}(ih:∀g',g'<=G->GP p l0 own F H g'):GP p l0 own F H (G+1):=fun a t ls s v s' hN hm hs h al cl=>by
 have⟨⟨a1,a2⟩,⟨b1,b2⟩,⟨c1,c2⟩,⟨d1,d2⟩⟩:=iR p;have hw:=W.w;have Q:=W.F;rw[Go.Mn.ev]at h;split at h
 ·grind[Option.some.injEq,Prod.mk.injEq,UG]
 rename_i hle
 have d:s.ay<F:=by omega
 have b:=hm.next hle
 have j:({ s with ay:=s.ay+1 }:M).over=false:=hs;have⟨n,l⟩:=t;rw[qB]at h;have⟨z,S,hf,hk,yV,As⟩:=hN.node
 have hV:b8 (.mk n l)=false->DO p own F H al cl (jd p l0) a (eA p l ls) G:=fun hz=>VN ih hN hz
 have Mf:n.aj≠4->b8 (.mk n l)=false:=fun h4=>by grind[T.n,b8]
 have xm:=pX p l ls;have⟨k1,k2⟩:=DD hk
 cases G with
 |zero=>grind[bB]
 |succ g =>
 by_cases e1:n.aj=1
 ·unfold nY at h;rw[ae e1]at h
  grind[bB,Option.some.injEq,Prod.mk.injEq,UI]
 by_cases e2:n.aj=2
 ·unfold nY at h;rw[ab e1,ae e2]at h;unfold wD at S;rw[ab (show ¬n.aj=13 by omega)]at S
  by_cases o:ls.contains n.s=true
  ·rw[ae o]at h;simp only[bB,Option.some.injEq,Prod.mk.injEq]at h;obtain⟨rfl,rfl⟩:=h;have⟨B,J⟩:=tj o;rw[B]at S;have HK:=hN.len;have Au:=hm.locs
   grind[UH]
  ·rw[ab o]at h;simp only[bB,Option.some.injEq,Prod.mk.injEq]at h;obtain⟨rfl,rfl⟩:=h
   have Al:ls.contains n.s=false:=by grind
   have⟨B,J⟩:=tj (yn hf (.inl e2) Al);have vc:=hm.bF
   grind[Sr,Eh]
 by_cases A:n.aj=3
 ·have abq:=hV (Mf Z);unfold nY at h;rw[ab e1,ab e2,ae A]at h;have yS:=pH hk (.inl A);simp only[bB]at h;have⟨x,t,m,h⟩:=br h;have hv:=abq 0 _ _ t x g Z (lA Z) b j m;have E:=b.ev m;have⟨k,ar,B,J⟩:=sC (AN hf (.inl A));rw[B,eV]at h;have hh:=W.hs;have o:=Lj Z z B J (xV W.gl J) E hh hv
  have Vl:k<t.cells.length:=by rw[E.cells];grind
  have Vg:H.hs[k]?=some (H.hs.getD k (0,0)):=by grind
  unfold Dy Dx at o
  by_cases e:t.over=true
  ·rw[ae e]at h;simp only[Option.some.injEq,Prod.mk.injEq]at h;obtain⟨rfl,rfl⟩:=h;rw[ae e,ae e]at o;exact zev
  ·rw[ab e]at h;rw[ab e,ab e]at o
   by_cases C:nV (row t k) x=true
   ·rw[ae C]at h;simp only[Option.some.injEq,Prod.mk.injEq]at h;obtain⟨rfl,rfl⟩:=h;rw[ae C,ae C]at o;unfold nV at C;simp only[a6,decide_eq_true_eq]at C;exact JK (k:=k) (q:=x.toNat) (h:=H.hs.getD k (0,0)) z A d Q o _ (.inr ⟨rfl,by omega,Vl,Vg,rfl⟩)
   ·rw[ab C]at h;simp only[Option.some.injEq,Prod.mk.injEq]at h;obtain⟨rfl,rfl⟩:=h;rw[ab C,ab C]at o;exact zev
 by_cases m:n.aj=4
 ·by_cases hz:n.s=eh
  ·unfold nY at h;rw[ab e1,ab e2,ab A,ae m,ae hz]at h;simp only[bB,Option.some.injEq,Prod.mk.injEq]at h;obtain⟨rfl,rfl⟩:=h;exact Hl z m d Q (Ka W hN m hz _)
  ·have ui:b8 (.mk n l)=false:=by
    refine zc1 ?_
    grind
   have abq:=hV ui;have⟨g',wP,hA⟩:=E3 m hz hf j h;refine Hl z m d Q (Tc W (G:=g+1) hN m hz (fun k r s t v g2 Q4 hk hm hs he=>abq k r s t v g2 Z hk hm hs he) (fun i args t g2 w u Q4 hto hd HL E C Ap=>?_) hA b j)
   have Aq:i<p.az.length:=by
    have:=vY (f:=fun f:Go.Sp.Fn=>f.name==n.s) (l:=p.az) (by grind[jF])
    grind[bP,jF]
   have hlen:=W.gl.len;have R:p.az[i]?=some p.az[i]:=cq Aq;have Y9:l0[i]?=some (l0[i]'Z):=cq Z;have⟨hNf,hbf⟩:=QV W R Y9;have N:=Ap;rw[Fi R Y9]at N;have Aw:=zW.ev Ap
   refine Hi R hbf hd HL Aw.aY fun al cl=>ih g2 Z _ _ _ _ _ _ hNf (D7 E) ?_ N al cl
   grind[M.over,M.enter]
 have abq:=hV (Mf m)
 by_cases e5:n.aj=5
 ·unfold nY at h;rw[ab e1,ab e2,ab A,ab m,ae e5]at h;have yS:=pH hk (.inr (.inl e5));simp only[bB]at h;have⟨x,t,e6,h⟩:=br h;simp only[Option.some.injEq,Prod.mk.injEq]at h;obtain⟨rfl,rfl⟩:=h;exact Xr z e5 d Q (yV.2.1 e5) (abq 0 _ _ t x g Z (lA Z) b j e6)
 by_cases e6:n.aj=6
 ·unfold nY at h;rw[ab e1,ab e2,ab A,ab m,ab e5,ae e6]at h;have xi:=yf hk (.inl e6);have EB:=lA (l:=eA p l ls) (k:=0) Z;have xl:=lA (l:=eA p l ls) (k:=1) Z;refine UF z e6 d Q ?_;have Av:=A5 (yV.2.2 e6)
  by_cases B:n.s=[38,38]
  ·rw[ae B]at h;simp only[bB]at h;have⟨x,t,I,h⟩:=br h;have hv:=abq 0 _ _ t x g Z EB b j I
   by_cases e:t.over=true
   ·rw[ae e]at h
    exact zd0
   ·rw[ab e]at h
    have c:t.over=false:=by grind
    by_cases hx:x=0
    ·rw[ae hx]at h;simp only[Option.some.injEq,Prod.mk.injEq]at h;obtain⟨rfl,rfl⟩:=h;have:=DV z hv c (.inr ⟨B,hx⟩);subst hx;exact this
    ·rw[ab hx]at h;have⟨y,u,e8,h⟩:=br h;have hw:=abq 1 _ _ u y g Z xl (b.ev I) c e8
     by_cases O:u.over=true
     ·rw[ae O]at h
      exact zd1
     ·rw[ab O]at h
      grind[Option.some.injEq,Prod.mk.injEq,DW,iD]
  rw[ab B]at h
  by_cases J:n.s=[124,124]
  ·rw[ae J]at h;simp only[bB]at h;have⟨x,t,I,h⟩:=br h;have hv:=abq 0 _ _ t x g Z EB b j I
   by_cases e:t.over=true
   ·rw[ae e]at h
    exact zd0
   ·rw[ab e]at h
    have c:t.over=false:=by grind
    by_cases hx:x≠0
    ·rw[ae hx]at h;simp only[Option.some.injEq,Prod.mk.injEq]at h;obtain⟨rfl,rfl⟩:=h;have:=DV z hv c (.inl ⟨J,hx⟩)
     simp_all[iD,ae]
    ·rw[ab hx]at h;have⟨y,u,e8,h⟩:=br h;have hw:=abq 1 _ _ u y g Z xl (b.ev I) c e8
     have HZ:x=0:=by omega
     by_cases O:u.over=true
     ·rw[ae O]at h
      exact zd1
     ·rw[ab O]at h
      grind[Option.some.injEq,Prod.mk.injEq,DW,iD]
  rw[ab J]at h
  have CM:n.s∈nw:=by grind
  simp only[bB]at h;have⟨x,t,I,h⟩:=br h;have hv:=abq 0 _ _ t x g Z EB b j I
  by_cases e:t.over=true
  ·rw[ae e]at h
   exact zd0
  ·rw[ab e]at h
   have c:t.over=false:=by grind
   have⟨y,u,e8,h⟩:=br h;have hw:=abq 1 _ _ u y g Z xl (b.ev I) c e8
   by_cases O:u.over=true
   ·rw[ae O]at h
    exact zd1
   ·rw[ab O]at h;have:=OJ z hv c CM hw zfk;have h:(if(mh n.s x y).2≠0 then some ((0:Int),u.stop 2 (mh n.s x y).2)else some ((mh n.s x y).1,u))=some (v,s'):=h
    grind
 grind[UJ]
theorem ZD(W:MW p l0 own F H):∀g,GP p l0 own F H g:=by
 have c:∀N g,g<=N->GP p l0 own F H g:=by
  intro N
  induction N with
  |zero =>
   grind[Go.Mn.ev,GP]
  |succ N q =>
   intro g G
   cases g with
   |zero=>grind
   |succ g=>grind[Sw]
 exact fun g=>c g g (a8 g)
end
end Go.Xg
namespace Go.Im
open Go.Xp Go.Sp
def Da(s:List Int)(a:Nat)(t:T)(ls:List ai):(fV s a t ls).length=s.length:=by unfold fV;rw[length_set]
mutual
def SE:∀(t:T)(a:Nat)(s:List Int)(ls:List ai),(iO fV t a s ls).1.length=s.length
 |.mk n l,a,s,ls=>by rw[iO];show(eL fV l (a+1) _ ls).1.length=_;rw[zm l,Da]
def zm:∀(l:List T)(a:Nat)(s:List Int)(ls:List ai),(eL fV l a s ls).1.length=s.length
 |[],a,s,ls=>by rw[eL]
 |t::r,a,s,ls=>by rw[eL,zm r,SE t]
end
end Go.Im
namespace Go.Xg
open Go.RowKit Go.Xw Go.Proofs Tryz Go.Im
open Go.Xp (Nd T)
open Go.Sp (Src)
attribute [local irreducible] GW GL GO V GC GA bh bm
def xD:∀(l:List Int)(k:Nat)(x:Int),dk (bE l) k 0 (y4 x)=bE (l.set k x)
 |[],k,x=>rfl
 |a::l,0,x=>rfl
 |a::l,k+1,x=>by
  show[y4 a]::dk (bE l) k 0 (y4 x)=_;rw[xD l k x];rfl
def TS(p:Src)(b:Option Addr)(W:Nat)(a:Nat)(n:Nd)(l:List T)(ls:List ai)(s:List Int)(E:TypeId)(S:Option Addr)(c:Nat)(hn:p.ak[a]?=some n)(m:ls.length<=1099511627776)(o:s.length=p.ak.length) :
  GF prog 175 [y4 (a:Nat),.v (.slice S ls.length c),.box (aQ p) 0,.loc 0 0] [.box E [.v (.slice b p.ak.length W)],.vech 3 1 (bE s) (.slice b p.ak.length W),.vech 9 1 (b7 ls) (.slice S ls.length c)] (.tup [])
   [.box E [.v (.slice b p.ak.length W)],.vech 3 1 (bE (fV s a (.mk n l) ls)) (.slice b p.ak.length W),.vech 9 1 (b7 ls) (.slice S ls.length c)]:=by
 have i:=cH hn;have I:=(bG hn).1;have R:=gy ls n.s m;rw[xo]at R;have H:strs ls=.sl 1 (b7 ls):=rfl;rw[H]at R;have hx:(bE s)[a]?=some [.v (ii s[a])]:=iq (cq Z)
 have F:a<(bE s).length:=by rw[bI];omega
 have G:(bE s).length=p.ak.length:=by rw[bI];exact o
 have e:bE (fV s a (.mk n l) ls)=if(n.aj==13)=true then dk (dk (bE s) a 0 (y4 (bP (fun x=>x==n.s) ls))) a 0 (y4 (ls.length:Nat))else dk (bE s) a 0 (y4 (bP (fun x=>x==n.s) ls)):=by
  rw[xD,xD];unfold fV wD;show bE (s.set a (if n.aj=13 then(ls.length:Int)else _))=_
  by_cases h:n.aj=13
  ·rw[ae h,ae zfs,List.set_set]
  ·rw[ab h,ab zfs];rfl
 rw[e];generalize bP (fun x=>x==n.s) ls=q at *
 have r:(dk (bE s) a 0 (y4 q))[a]?=some [y4 q]:=by rw[B7 hx,ae rfl];rfl
 have z:a<(dk (bE s) a 0 (y4 q)).length:=by rw[dm];exact F
 have J:(dk (bE s) a 0 (.v (ii q))).length=p.ak.length:=by rw[dm];exact G
 unfold aU at i
 cases M:(n.aj==13)with
 |true =>
  rw[ae rfl];refine ah func175 ntmps175 ?_;refine aX (aI 0 5 (.a 5 (.q 6 (.a 7 .nil)))) ?_;refine av ?_;refine OA rfl rfl ?_;refine GL.borrow R (fun B K d w l R j=>kQ (A:=[_,_]) (C:=[_]) R j rfl rfl) ?_;refine za1 ?_;refine OA rfl rfl ?_;refine GL.vE rfl rfl rfl aM rfl rfl rfl rfl ?_;refine zbF ?_;refine xP ?_;exact bY
 |false =>
  rw[ab aS];refine ah func175 ntmps175 ?_;refine aX (aI 0 5 (.a 5 (.q 6 (.a 7 .nil)))) ?_;refine av ?_;refine OA rfl rfl ?_;refine GL.borrow R (fun B K d w l R j=>kQ (A:=[_,_]) (C:=[_]) R j rfl rfl) ?_;refine za1 ?_;exact zdf
open GV (U)
open Go.Xp (bg aZ ec)
def FK(p:Src)(b:Option Addr)(T:Nat):GV:=.fn (.func 175) [] [.box (aQ p) 0,.loc 0 0]
def RO(p:Src):GV:=.fn (.func 115) [] [.loc 2 0,.loc 3 0,.box (aQ p) 0,.loc 4 0]
def C6(p:Src)(b:Option Addr)(T:Nat)(C u w c:TypeId)(s:List Int)(ls:List ai)(R:Option Addr)(W:Nat):ap :=
 [.box C [.v (.slice b p.ak.length T)],.vech 3 1 (bE (s)) (.slice b p.ak.length T),.box u [FK p b T],.box w [.v (.slice R ls.length W)],.box c [RO p],.vech 9 1 (b7 ls) (.slice R ls.length W)]
def Qv(p:Src)(C:Option Addr)(E:Nat)(B G H I:TypeId)(hp:p.ak.length<=1048576)(O:∀n∈p.ak,n.au.length<=1099511627776):∀(N:Nat)(t:T),bg t<=N->∀(a:Nat)(s:List Int)(ls:List ai)(j:Option Addr)(m:Nat),ek p.ak a t->ls.length+bg t<=8388608->s.length=p.ak.length ->
  GC prog 115 [y4 (a:Nat),.loc 2 0,.loc 3 0,.box (aQ p) 0,.loc 4 0] (C6 p C E B G H I s ls j m) fun g Δ=>g=.tup []/\∃b c,Δ=C6 p C E B G H I (iO fV t a s ls).1 (iO fV t a s ls).2 b c:=by
 intro N
 induction N with
 |zero=>intro t h;have:=kY t;omega
 |succ N ih =>
 intro t hN a s ls j m q Q hs
 cases t with
 |mk n l =>
 rw[Go.Xp.bg]at hN Q;have abk:=q;rw[ek]at q;have⟨R,hk,S⟩:=q;rw[iO];have hr:=cH R;have YT:=O n (bR R);have ht:=TS p C E a n l ls s B j m R Z hs;have Vo:=Da s a (.mk n l) ls;generalize Mi:fV s a (.mk n l) ls=o at *
 have d:n.au.length=l.length:=by rw[hk,ec]
 unfold aU at hr;unfold C6 FK RO;refine ah func115 ntmps115 ?_;refine GL.vQ [0,1,5] ht rfl rfl rfl (by repeat (first|exact trivial|refine⟨rfl,?_⟩)) ?_;rintro _ _⟨rfl,rfl⟩;refine zaR ?_;refine GW.range (n.au.map fun i=>[GV.v (ii i)]).length (fun k fr Γ=>∃b c,fr=[y4 (a:Nat),.loc 2 0,.loc 3 0,.box (aQ p) 0,.loc 4 0,U,U,U,U,U,U,U,U,U,U,U,U,ints n.au,y4 ((n.au.map fun i=>[GV.v (ii i)]).length:Int),y4 (k:Nat),U,U,U,U,U,U,U,U,U,U,U,U,U,U,U,U,U,U,U,U,U,U,U]/\Γ=C6 p C E B G H I (eL fV (l.take k) (a+1) o ls).1 (eL fV (l.take k) (a+1) o ls).2 b c) ?_ zfy ?_ ?_ ?_
 ·exact⟨_,_,Wk.bb aD,j,m,rfl,rfl⟩
 ·rintro k _ _⟨j,m,rfl,rfl⟩;exact eB
 ·rintro k _ _ z⟨j,m,rfl,rfl⟩;rw[bI,d]at z;obtain⟨u,F⟩:∃u,l[k]?=some u:=⟨l[k],by simp[z]⟩;have r:=um (n:=a+1) F;rw[<-hk]at r;have Y6:=iq r;have ps:=oE F;have W:ek p.ak (a+1+aZ (l.take k)) u:=dS.ix l (a+1) k u S F
  have w:(eL fV (l.take k) (a+1) o ls).2.length<=ls.length+aZ (l.take k):=by
   rw[qR,bl];have:=nr (l.take k);omega
  have YW:=zm (l.take k) (a+1) o ls;rw[Ec _ F];generalize(eL fV (l.take k) (a+1) o ls).1=s2 at *;generalize(eL fV (l.take k) (a+1) o ls).2=e at *;have A:=ih u Z (a+1+aZ (l.take k)) s2 e j m W Z Z;unfold C6 FK RO at A |-;refine X ?_;refine GL.vQ [0,1,2,3,4,5] A rfl rfl rfl (by repeat (first|exact trivial|refine⟨rfl,?_⟩)) ?_;rintro _ _⟨rfl,b,c,rfl⟩;exact ze5
 ·rintro _ _⟨j,m,rfl,rfl⟩;rw[bI,d,ej]
  have w:(eL fV l (a+1) o ls).2.length<=ls.length+aZ l:=by
   rw[qR,bl];have:=nr l;omega
  generalize(eL fV l (a+1) o ls).1=s2 at *;generalize(eL fV l (a+1) o ls).2=e at *;have HU:(b7 e).length=e.length:=sS e;unfold C6 FK RO;refine bx ?_
  cases A:(n.aj==13)with
  |false =>
   rw[ab zf1];refine X ?_;refine eC ?_;exact⟨rfl,j,m,rfl⟩
  |true =>
   rw[ae zf1];refine X ?_;refine aX (aI 0 7 (.a 7 (.a 8 (.a 9 .nil)))) ?_;refine zdT ?_;refine OA rfl rfl (GL.nu 5 (news:=[[.v (sv n.s)]]) rfl rfl rfl aM rfl rfl (by refine⟨?_,?_⟩;(· show _+1<=_;omega);(· show(_+1)*_<=_;omega)) ?_);intro J M;refine zbF ?_;refine eC ?_;exact⟨rfl,J,M,by simp[b7]⟩
def Sz(p:Src)(c:Option Addr)(W:Nat)(C:TypeId)(i:Nat)(f:Go.Sp.Fn)(t:T)(s:List Int)(S:p.ak.length<=1048576)(H:∀n∈p.ak,n.au.length<=1099511627776)
  (hf:p.az[i]?=some f)(I:f.params.length<=1048576)(r:0<=f.body)(d:ek p.ak f.body.toNat t)(N:bg t<=1048576)(q:s.length=p.ak.length) :
  GF prog 53 [.agg (aQ p),y4 (i:Nat),FK p c W] [.box C [.v (.slice c p.ak.length W)],.vech 3 1 (bE (s)) (.slice c p.ak.length W)] (.tup []) [.box C [.v (.slice c p.ak.length W)],.vech 3 1 (bE ((iO fV t f.body.toNat s f.params).1)) (.slice c p.ak.length W)]:=by
 have j:(p.az.map aO)[i]?=some (aO f):=by rw[b6,hf];rfl
 have J:(f.params.map fun s=>[GV.v (sv s)]).length=f.params.length:=by simp
 have F:=wC f.params;obtain⟨b,w⟩:∃b:Nat,f.body=(b:Int):=⟨f.body.toNat,by omega⟩;rw[w,eV]at d |-;unfold aO at j;rw[w]at j;unfold FK;refine ef func53 ntmps53 ?_;refine kZ ?_;refine GL.wk (Wk.freeze (i:=2) rfl rfl rfl (a8 _)) ?_;refine GN zfX ?_;refine GL.wk (Wk.bb (dh:=[U,y4 (i:Nat),U,.box (aQ p) 0,U,.loc 3 0,U,U,U,U,U,U,U,strs f.params,U,U,U,U,U,U,U,U,U,U]) aD) ?_;refine GL.wk (Wk.kH 9 1) ?_;refine GL.Jv 4 rfl rfl rfl rfl F (by refine⟨?_,?_⟩;(· rw[J];omega);(· rw[J];omega)) ?_;intro R e;rw[J];refine zef ?_;refine GW.Lz (dh:=U::y4 (i:Nat)::U::.box (aQ p) 0::U::.loc 3 0::.loc 5 0::.loc 6 0::zU 16 []) (bO:=[.box C [.v (.slice c p.ak.length W)],.vech 3 1 (bE (s)) (.slice c p.ak.length W),.gone,.box _ [.fn (.func 175) [] [.box (aQ p) 0,.loc 0 0]],.vech 9 1 (b7 f.params) (.slice R f.params.length e),.box _ [.v (.slice R f.params.length e)],.box _ [.fn (.func 115) [] [.loc 3 0,.loc 5 0,.box (aQ p) 0,.loc 6 0]]]) aD rfl ?_;refine aX (aI 0 7 (.a 7 .nil)) ?_;refine av ?_;have O:=Qv p c W C;refine OA rfl rfl (GL.vQ [0,1,3,5,6,4] (O _ _ _ S H _ t (a8 _) b s f.params R e d Z q) rfl rfl rfl (by repeat (first|exact trivial|refine⟨rfl,?_⟩)) ?_);rintro _ _⟨rfl,M,o,rfl⟩;refine⟨by simp[C6],?_⟩;unfold C6;refine za1 ?_;exact bY
end Go.Xg
set_option maxHeartbeats 8000000
namespace Go.Im
open Go.Xp Go.Sp Go.Mn
def C7:∀(M:List Go.Sp.Fn)(l:List T)(k:Nat)(f:Go.Sp.Fn)(t:T)(a:Nat)(s:List Int),M[k]?=some f->l[k]?=some t->pV (M.take (k+1)) (l.take (k+1)) a s=(iO fV t (a+aZ (l.take k)) (pV (M.take k) (l.take k) a s) f.params).1
 |[],l,k,f,t,a,s,h,_=>by simp at h
 |g::M,[],k,f,t,a,s,_,h=>by simp at h
 |g::M,u::l,0,f,t,a,s,z,v=>by
  cases z;cases v
  rw[take_succ_cons,take_succ_cons,take_zero,take_zero,pV,take_zero,take_zero,aZ];rfl
 |g::M,u::l,k+1,f,t,a,s,z,v=>by
  rw[take_succ_cons,take_succ_cons,pV,C7 M l k f t _ _ zfv zfY,take_succ_cons,take_succ_cons,pV,aZ,nE]
def Kh(p:Src)(l:List T):List Int:=pV p.az l 0 (List.replicate p.ak.length 0)
def Tl{p:Src}{l:List T}(h:Good p l):∀(i:Nat)f t,p.az[i]?=some f->l[i]?=some t->sU (Kh p l) f.body.toNat t f.params:=fun i f t s H=>by
 have r:=(h.st.az.at_ i f t s H).1;have W:=h.st.len;have:=(B3 p.az l 0 (List.replicate p.ak.length 0) (by rw[length_replicate];omega)).2 i f t s H;rw[r,eV];exact this
def xK{p:Src}{l:List T}(h:Good p l)(v:List Int)(F:Nat):jy p F ((⟨v,[],List.replicate p.aw.length 0,p.aq.map fun a=>List.replicate a.size.toNat 0,0,0,0,0,[],false,0⟩:M).enter []):=by
 refine⟨length_replicate,bI _,fun k a O=>?_,a8 _,bj _,a8 _⟩;have:=fL.1 h.st.aq a (bR O);unfold la at this;simp only[a6,Bool.not_eq_true',decide_eq_false_iff_not]at this;unfold row M.enter;rw[getD_eq_getElem?_getD,b6,O];show((List.replicate a.size.toNat (0:Int)).length:Int)=a.size;rw[length_replicate];omega
end Go.Im
namespace Go.Xg
open Go.RowKit Go.Xw Go.Proofs Tryz Go.Im Go.Mn
open GV (U)
open Go.Xp (T aZ)
open Go.Sp (Src)
attribute [local irreducible] GW GL GO V GC GA bh bm
def pW(n:Nat):List.replicate n (gO [ii 0])=bE (List.replicate n 0):=by
 unfold bE;rw[List.map_replicate];rfl
def Du(p:Src)(F:dE p<=1048576){l:List T}(hg:Go.Im.Good p l)(J:il p=true) :
  GC prog 103 [.agg (aQ p)] [] fun g N=>∃a c,g=.v (.slice a p.ak.length c)/\N=[.vech 3 1 (bE (Kh p l)) (.slice a p.ak.length c)]:=by
 have⟨⟨a1,O⟩,⟨A,e⟩,⟨B,R⟩,⟨E,S⟩⟩:=iR p;have r:(p.ak.map aU).length=p.ak.length:=bI _;have m:(p.az.map aO).length=p.az.length:=bI _;have t:=hg.len;have I:=hg.st.len
 have C:∀k,(pV (p.az.take k) (l.take k) 0 (List.replicate p.ak.length 0)).length=p.ak.length:=fun k=>by
  have G:=Go.Xp.rB l k;have:=(B3 (p.az.take k) (l.take k) 0 (List.replicate p.ak.length 0) (by rw[length_replicate];omega)).1.len;rw[this,length_replicate]
 refine ef func103 ntmps103 ?_;refine zak ?_;refine GL.M0 (n:=(p.ak.map aU).length) rfl ⟨by omega,by omega⟩ ?_;intro b W;rw[r,pW];refine zbd ?_;refine GW.range (p.az.map aO).length (fun k u d=>u=[U,.box (aQ p) 0,U,.loc 1 0,U,U,U,U,U,U,.sl 3 (p.az.map aO),y4 ((p.az.map aO).length:Int),y4 (k:Nat),U,U,U,U,U,U,U,U]/\d=[.vech 3 1 (bE (pV (p.az.take k) (l.take k) 0 (List.replicate p.ak.length 0))) (.slice b p.ak.length W),.box 29 [.v (.slice b p.ak.length W)]]) ?_ Z ?_ ?_ ?_
 ·exact ja
 ·rintro k _ _⟨rfl,rfl⟩;exact eB
 ·rintro k _ _ o⟨rfl,rfl⟩;rw[m]at o;have s:p.az[k]?=some p.az[k]:=cq o;have H:l[k]?=some (l[k]'Z):=cq Z;have Q:=hg.fn s H;have z:=(hg.st.az.at_ k _ _ s H).1;rw[C7 p.az l k _ _ 0 _ s H];have q:=Sz p b W 29 k _ _ (pV (p.az.take k) (l.take k) 0 (List.replicate p.ak.length 0)) Z (fun n h=>by have:=(S n h).2;omega) s (by have:=(R _ (bR s)).2.1;omega) Q.body Q.st (by have:=Q.sz;omega) (C k)
  have w:(p.az[k]).body.toNat=0+aZ (l.take k):=by rw[z,eV]
  rw[w]at q;unfold FK at q;refine X ?_;refine D [1,0] q ?_;exact zb9
 ·rintro _ _⟨rfl,rfl⟩;rw[m,ej,t,ej];refine bx ?_;refine zd6 ?_;refine QX [0] [_] rfl dY rfl rfl aS (fun j x hx=>?_) ⟨b,W,rfl,rfl⟩
  cases j with
  |zero=>cases hx;exact⟨rfl,fun i M=>by cases M;rfl⟩
  |succ j=>simp at hx
def uM(r:iu):am:=[y4 r.fin,y4 r.why,y4 r.n,ints r.out,y4 (r.ay:Nat),ints r.bF]
def mR(p:Src)(own:List Int)(F:Nat)(H:MH)(s:M)(r:iu):ap:=[.box 64 [strs p.aw,.sl 2 (p.aq.map bc),.sl 3 (p.az.map aO),.sl 5 (p.ak.map aU),ints own,ints s.inp,y4 (F:Nat),
 y4 r.fin,y4 r.why,y4 r.n,.vec 1 r.out.length,y4 (r.ay:Nat),.v (.slice H.ag r.bF.length H.cg),.v (.slice H.ac s.cells.length H.cc),y4 (s.aY:Nat)],.vec 3 1 0 (bE r.out),.vec 3 1 (bE own).length (bE own),.vech 3 1 (bE r.bF) (.slice H.ag r.bF.length H.cg),dC H s,fk H s]
def Xu(p:Src)(z:List Int)(F:Nat)(c w:Int):GF prog 102 [.loc 0 0,y4 c,y4 w] [.box 64 [strs p.aw,.sl 2 (p.aq.map bc),.sl 3 (p.az.map aO),.sl 5 (p.ak.map aU),.v y6,ints z,y4 (F:Nat),y4 0,y4 0,y4 0,.v y6,y4 0,.v y6,.v y6,y4 0]] (y4 0)
  [.box 64 [strs p.aw,.sl 2 (p.aq.map bc),.sl 3 (p.az.map aO),.sl 5 (p.ak.map aU),.v y6,ints z,y4 (F:Nat),y4 c,y4 w,y4 0,.v y6,y4 0,.v y6,.v y6,y4 0]]:=by
 refine ah func102 ntmps102 ?_;exact ax
def D1(S:Int):(if(20000:Int)<(if S<0 then 0 else S)then 20000 else(if S<0 then 0 else S))=((iN S:Nat):Int):=by
 unfold iN;omega
def PO(p:Src)(e:dE p<=1048576)(hn:mA p)(J:il p=false)(w:List Int)(S:Int):GF prog 37 [.agg (aQ p),ints w,y4 S] [] (.loc 0 0)
  [.box 64 [strs p.aw,.sl 2 (p.aq.map bc),.sl 3 (p.az.map aO),.sl 5 (p.ak.map aU),.v y6,ints w,y4 (iN S:Nat),y4 4,y4 0,y4 0,.v y6,y4 0,.v y6,.v y6,y4 0]]:=by
 have Q:=HI p e hn;rw[J]at Q;have r:=Xu p w (iN S) 4 0;have j:=D1 S;refine ef func37 ntmps37 ?_;refine zak ?_;refine GL.q (V.max rfl rfl) ?_;refine bq ?_;refine GL.q (V.min rfl rfl) ?_;rw[j];refine zap ?_;refine D [] Q ?_;refine D [0] r ?_;refine nd ?_;exact oj (n:=1) rfl dY rfl (bj _) rfl rfl ⟨rfl,rfl⟩
def dj(p:Src):List (List Int):=p.aq.map fun a=>List.replicate a.size.toNat 0
def wL{C β H:Type}(f:C->β->H)(l:List C)(m:List β)(a:C)(b:β)(h:l.length=m.length):List.zipWith f (l++[a]) (m++[b])=List.zipWith f l m++[f a b]:=by
 rw[List.zipWith_append h];rfl
def G4(l:List (List Int))(m:List (Nat × Nat)):∀x∈List.zipWith o9 l m,x.H9:=fun x hx=>by
 have⟨i,M⟩:=getElem?_of_mem hx;rw[getElem?_zipWith]at M
 cases z:l[i]? with
 |none=>rw[z]at M;cases M
 |some a =>
  cases v:m[i]? with
  |none=>rw[z,v]at M;cases M
  |some b =>
   rw[z,v]at M;cases M;intro r j g F;obtain⟨y,_,rfl⟩:=yE.1 j;rw[KE F];exact⟨_,rfl⟩
def MY(p:Src)(hw:dE p<=1048576)(hn:mA p)(Q:il p=true){l:List T}(hg:Go.Im.Good p l)(d:List Int)(e:Int):GC prog 37 [.agg (aQ p),ints d,y4 e] [] fun g Δ=>g=.loc 0 0/\∃(H:MH)(s:M),Δ=mR p (Kh p l) (iN e) H s (nC (my p l d (iN e))):=by
 have⟨⟨a1,a2⟩,⟨b1,b2⟩,⟨c1,c2⟩,⟨d1,d2⟩⟩:=iR p;have hG:=HI p hw hn;rw[Q]at hG;have A:=D1 e
 have hF:iN e<=20000:=by unfold iN;omega
 generalize hFe:iN e=F at *;have hNL:=Du p hw hg Q;have aah:=Tl hg;generalize hOe:Kh p l=own at *;have vc:(p.aw.map fun s=>[GV.v (sv s)]).length=p.aw.length:=bI _;have Eu:(p.aq.map bc).length=p.aq.length:=bI _;have J:=Ei p jn Z;have e1:bP (fun x:Go.Sp.Fn=>x.name==jn) p.az=jF p jn:=rfl;rw[e1]at J;have⟨i,f,t,C,w,JT⟩:=CI Q hg;rw[C]at J;have hrb:jd p l i=qB p t f.params:=Fi w.gf w.gt;refine ef func37 ntmps37 ?_;refine zak ?_;refine GL.q (V.max rfl rfl) ?_;refine bq ?_;refine GL.q (V.min rfl rfl) ?_;rw[A];refine zap ?_;refine D [] hG ?_;refine GL.wk (Wk.zE (i:=0) (o:=10) 3 1 rfl rfl) ?_;refine cV ?_;refine cN [] hNL ?_;rintro _ _⟨ao,co,rfl,rfl⟩;refine zaR ?_;refine GL.wk (Wk.nZ (i:=0) (o:=4) (j:=2) rfl rfl rfl rfl) ?_;refine cV ?_;refine GL.M0 (n:=(p.aw.map fun s=>[GV.v (sv s)]).length) rfl ⟨by omega,by omega⟩ ?_;intro ag cg;rw[vc,pW];refine zbd ?_;refine GW.wk (Wk.kH 29 1) ?_;refine zdP ?_
 refine GW.range (p.aq.map bc).length (fun k fr Γ=>∃(E:Option Addr)(G:Nat)(r:List (Nat × Nat)),r.length=k/\fr=U::U::U::.box (aQ p) 0::U::U::U::.loc 0 0::zU 30 (.sl 2 (p.aq.map bc)::y4 ((p.aq.map bc).length:Int)::y4 (k:Nat)::zU 34 []) /\
  Γ=.box 64 [strs p.aw,.sl 2 (p.aq.map bc),.sl 3 (p.az.map aO),.sl 5 (p.ak.map aU),ints own,ints d,y4 (F:Nat),y4 0,y4 0,y4 0,.vec 1 0,y4 0,.v (.slice ag p.aw.length cg),.v (.slice E k G),y4 0]::.vec 3 1 0 []::.vec 3 1 (bE own).length (bE own)::.vech 3 1 (bE (List.replicate p.aw.length 0)) (.slice ag p.aw.length cg) ::
   .vech 29 1 (List.zipWith om ((dj p).take k) r) (.slice E k G)::List.zipWith o9 ((dj p).take k) r) ?_ Z ?_ ?_ ?_
 ·exact⟨_,_,Wk.bb aD,none,0,[],rfl,rfl,rfl⟩
 ·rintro k _ _⟨E,G,r,-,rfl,rfl⟩;exact eB
 ·rintro k _ _ hk⟨E,G,r,z,rfl,rfl⟩;rw[Eu]at hk;have vb:p.aq[k]?=some p.aq[k]:=cq hk;have ps:=xV hg vb;have Mg:=tH vb;obtain⟨m,hm⟩:∃m:Nat,(p.aq[k]).size=(m:Int):=⟨(p.aq[k]).size.toNat,by omega⟩;unfold bc at Mg;rw[hm]at Mg ps
  have An:(dj p).take (k+1)=(dj p).take k++[List.replicate m 0]:=by
   rw[dI]
   congr 1
   unfold dj;rw[b6,vb,Option.map_some,hm,eV];rfl
  have A:((dj p).take k).length=r.length:=by
   rw[iX,z];unfold dj;rw[bI];omega
  have VE:=fun b c=>wL om ((dj p).take k) r (List.replicate m 0) (b,c) A
  have Ax:=fun b c=>wL o9 ((dj p).take k) r (List.replicate m 0) (b,c) A
  have VF:(List.zipWith om ((dj p).take k) r).length=k:=by rw[rE,A,Nat.min_self];exact z
  generalize List.zipWith om ((dj p).take k) r=R at *;generalize List.zipWith o9 ((dj p).take k) r=abo at *
  have ug:m<=2147483647:=by omega
  refine yz ?_;refine zbB ?_;intro b c;rw[pW];refine za1 ?_;refine zaI ?_;refine OA rfl rfl (GL.nu 4 (news:=[[.v (.slice (some ⟨b,0,none⟩) m c)]]) rfl rfl rfl aM rfl rfl (by refine⟨?_,?_⟩;(· show _+1<=_;omega);(· show(_+1)*_<=_;omega)) ?_);intro Uo UB;refine zbF ?_;refine⟨rfl,rfl,_,_,Wk.bb aD,Uo,UB,r++[(b,c)],by simp[z],rfl,?_⟩;rw[An,VE,Ax];unfold om o9 Ao;simp only[length_replicate,VF];rfl
 ·rintro _ _⟨E,G,r,z,rfl,rfl⟩;rw[Eu]at z |-;have An:(dj p).take p.aq.length=dj p:=mz (by unfold dj;rw[bI];exact a8 _);rw[An];have Pd:(dj p).length=p.aq.length:=bI _;refine bx ?_;refine GW.wk ((Wk.pack [.box 64 [strs p.aw,.sl 2 (p.aq.map bc),.sl 3 (p.az.map aO),.sl 5 (p.ak.map aU),ints own,ints d,y4 (F:Nat),y4 0,y4 0,y4 0,.vec 1 0,y4 0,.v (.slice ag p.aw.length cg),.v (.slice E p.aq.length G),y4 0],.vec 3 1 0 [],.vec 3 1 (bE own).length (bE own),.vech 3 1 (bE (List.replicate p.aw.length 0)) (.slice ag p.aw.length cg),.vech 29 1 (List.zipWith om (dj p) r) (.slice E p.aq.length G)] (List.zipWith o9 (dj p) r) rfl (bj _) (G4 _ _) rfl).trans (Wk.bb (dh:=U::U::U::.box (aQ p) 0::U::U::U::.loc 0 0::zU 67 []) aD)) ?_;refine GW.wk (Wk.kH 3 1) ?_;refine zdP ?_
  let H:MH:=⟨ag,cg,E,G,r⟩
  have W:MW p l own F H:=⟨hw,Q,hg,aah,hF,z⟩
  let I:M:=⟨d,[],List.replicate p.aw.length 0,dj p,0,0,0,0,[],false,0⟩
  have⟨v,N⟩:=vw (O:=jY) (F:=F) (B:=jd p l) (jd p l i) (mW p d)
  have EC:pY jY F (jd p l) (jd p l i) (mW p d)=my p l d F:=by unfold my;rw[C,eV]
  rw[EC]at N;have Vo:jy p F (mW p d):=xK hg d F;have Q7:=Vo.ev N;have Aw:=zW.ev N;generalize my p l d F=u at *
  have hdo:=fun al cl=>ZD W (3*F+1) f.body.toNat t f.params (mW p d) v u (QV W w.gf w.gt).1 Vo rfl (by rw[<-hrb];exact N) al cl
  have hC:y3 p own F H i [] I (I.leave u) u.gT:=Hi w.gf w.body (by show 0<100;omega) (bj _) Aw.aY hdo;have hC:=hC none 0;have Mc:I.bF.length=p.aw.length:=length_replicate;have L9:I.cells.length=p.aq.length:=Pd;have S:=Ac p own F H (I.leave u) 1 0;unfold mC at hC
  have Vc:du p own F H I=.box 64 [strs p.aw,.sl 2 (p.aq.map bc),.sl 3 (p.az.map aO),.sl 5 (p.ak.map aU),ints own,ints d,y4 (F:Nat),y4 0,y4 0,y4 0,.vec 1 0,y4 0,.v (.slice ag p.aw.length cg),.v (.slice E p.aq.length G),y4 0]:=by
   unfold du;rw[Mc,L9];rfl
  have Vf:dJ H I=.vech 3 1 (bE (List.replicate p.aw.length 0)) (.slice ag p.aw.length cg):=by
   unfold dJ;rw[Mc]
  have L6:dC H I=.vech 29 1 (List.zipWith om (dj p) r) (.slice E p.aq.length G):=by
   unfold dC;rw[L9]
  rw[Vc,Vf,L6]at hC;unfold du at hC S
  cases hfin:(u.fin==0)with
  |true =>
   have hr:nC u=⟨1,0,u.gT,u.out,u.ay,u.bF⟩:=by unfold nC;rw[ae (by simpa using hfin)]
   rw[hr];refine zc6 ?_;refine Di [0,1,3,4,5,6] hC ?_;rintro _ _⟨rfl,o,rfl⟩;refine zaR ?_;refine D [0,1] S ?_;exact zdL
  |false =>
   have hr:nC u=⟨u.fin,u.why,0,u.out,u.ay,u.bF⟩:=by unfold nC;rw[ab (by simpa using hfin)]
   rw[hr];refine zc6 ?_;refine Di [0,1,3,4,5,6] hC ?_;rintro _ _⟨rfl,o,rfl⟩;refine zaR ?_;exact zdL
def KU(p:Src)(k:dE p<=1048576)(hn:mA p)(w:List Int)(S:Int):GF prog 9 [.agg (aQ p),ints w,y4 S] [] (.agg (uM (jG p w S))) []:=by
 cases J:il p with
 |false =>
  have I:=PO p k hn J w S
  have e:jG p w S=DU:=by unfold jG;rw[ab zf2]
  rw[e];refine ef func9 ntmps9 ?_;refine zak ?_;refine D [] I ?_;exact zd4
 |true =>
  have⟨l,F⟩:=va J;have I:=MY p k hn J F w S;rw[qy F J];generalize nC (my p l w (iN S))=r at *;refine ef func9 ntmps9 ?_;refine zak ?_;refine cN [] I ?_;rintro _ _⟨rfl,H,s,rfl⟩;unfold mR;refine zaR ?_;have n:(bE r.out).length=r.out.length:=bI _;refine GW.wk (Wk.uy (i:=0) (o:=3) (j:=2) rfl rfl rfl rfl n) ?_;refine GW.wk (Wk.nZ (i:=0) (o:=5) (j:=4) rfl rfl rfl rfl) ?_;exact eQ
end Go.Xg
set_option maxHeartbeats 4000000
namespace Go.Xg
open Go.RowKit Go.Xw Go.Proofs Tryz Go.Im Go.Mn
def V.Wj{P:Program}{fr:am}{Γ:ap}{x up:Operand}{t e:TypeId}{k:Nat}[H:lC P t e k]{rows:List am}{z:IntKind}(hx:bd fr x=.sl k rows)(J:bd fr up=.v (.int z (rows.length:Nat))):V P (.slice t x none (some up) none) fr Γ (.sl k rows):=fun B K W w l R j=>by
 have h:=j.ev x;rw[hx]at h;have r:=j.fC J;generalize N:ev l x=v at h
 cases h with
 |sl0 a c =>
  refine⟨.slice (if c=0 then a else a.map (·.add 0)) 0 c,fun d O s C=>?_,.sl0 _ _ _⟩;simp[execOp,Instr.sliceAt,Instr.slice,Instr.sliceBounds,Instr.sliceBound,asIntOf,N,r,run_underlying H.und,fw H.siz]
 |sl b o c _ _ h q =>
  refine⟨.slice (some ⟨b,o,none⟩) rows.length c,fun d O s C=>?_,.sl b o c k rows h q⟩
  have T:(rows.length:Int)<=(c:Int):=by omega
  have I:rows.length<=c:=q
  by_cases u:c=0
  ·have M:rows=[]:=ky Z;subst M;exact zcj
  ·exact zcj
attribute [local irreducible] GW GL GO V GC GA bh bm
def vV:∀l:List Int,fv (fun x y=>x==y) l l=true
 |[]=>by simp[fv]
 |a::l=>by simp[fv,vV l]
def Sd(a b:List Int)(ha:a.length<=1099511627776)(t:b.length<=1099511627776)(h:a <+: b):GF prog 40 [ints a,ints b] [] (.v (.bool true)) []:=by
 have T:=h.length_le;have r:=xT a (b.take a.length) ha zfG;rw[<-List.prefix_iff_eq_take.1 h,vV]at r;have A:(a.map fun s=>[GV.v (ii s)]).length=a.length:=bI _;have j:(b.map fun s=>[GV.v (ii s)]).length=b.length:=bI _;have n:decide (((a.map fun s=>[GV.v (ii s)]).length:Int)<=((b.map fun s=>[GV.v (ii s)]).length:Int))=true:=decide_eq_true Z
 have H:(b.map fun s=>[GV.v (ii s)]).take ((a.map fun s=>[GV.v (ii s)]).length)=a.map fun s=>[GV.v (ii s)]:=by
  rw[A,<-List.map_take,<-List.prefix_iff_eq_take.1 h]
 rcases Nat.lt_or_ge a.length b.length with i|N
 ·have z:(a.map fun s=>[GV.v (ii s)]).length<(b.map fun s=>[GV.v (ii s)]).length:=by omega
  refine ah func40 ntmps40 ?_;refine GL.q (V.AW rfl rfl z) ?_;rw[H];refine zap ?_;refine D [] r ?_;exact ax
 ·obtain rfl:a=b:=List.IsPrefix.eq_of_length h Z;refine ah func40 ntmps40 ?_;refine GL.q (V.Wj rfl rfl) ?_;refine zap ?_;refine jw [] (xT a a ha ha) ?_;rw[vV];exact aC
def OC{a b:iu}(ha:a.out.length<=1099511627776)(r:b.out.length<=1099511627776)(h:a.out <+: b.out):GF prog 11 [.agg (uM a),.agg (uM b)] [] (.v (.bool true)) []:=by
 have i:=Sd _ _ ha r h;unfold uM;refine ah func11 ntmps11 ?_;refine D [] i ?_;exact ax
def Ul(a:iu){b:iu}(ha:a.out.length<=1099511627776)(z:b.fin=a.fin)(w:b.why=a.why)(I:b.n=a.n)(c:b.out=a.out):GF prog 12 [.agg (uM a),.agg (uM b)] [] (.v (.bool true)) []:=by
 have q:=xT a.out a.out ha ha;rw[vV]at q;have F:(a.fin==a.fin)=true:=beq_self_eq_true _;have o:(a.why==a.why)=true:=beq_self_eq_true _;have G:(a.n==a.n)=true:=beq_self_eq_true _;unfold uM;rw[z,w,I,c];refine ah func12 ntmps12 ?_;refine D [] q ?_;exact ax
end Go.Xg
namespace Go.Xg
open Go.RowKit Go.Xw Go.Proofs
open Go.Xp (levels)
def yi:List ai:=[[120],[121],[103],[49],[48],[55],[103,101,116,40,41],[115,105,122,101,40,97,41]]
def nA(l:List ai)(k:Int):ai:=l.getD k.toNat []
def PW{l:List ai}{k:Int}(h:0<=k/\k<(l.length:Int)):(b7 l)[k.toNat]?=some [.v (sv (nA l k))]:=by
 have G:k.toNat<l.length:=by omega
 unfold nA;rw[getD_eq_getElem?_getD,cq G,Option.getD_some];simp[b7,G]
def nB{l:List ai}{n:Nat}(h:∀s∈l,s.length<=n)(k:Int):(nA l k).length<=n:=by
 unfold nA;rw[getD_eq_getElem?_getD]
 cases G:l[k.toNat]? with
 |none=>exact bj _
 |some s=>exact h s (bR G)
def iG(code:ai):Nat->c9->ai × c9
 |0,c=>(nA yi (bD code 8 (bD code 9 c).2).1,(bD code 8 (bD code 9 c).2).2)
 |d+1,c =>
  let k:=bD code 9 c
  if k.1<3 then(nA yi (bD code 8 k.2).1,(bD code 8 k.2).2)
  else if k.1=3 then([97,91]++(iG code d k.2).1++[32,38,32,51,93],(iG code d k.2).2)
  else if k.1=4 then
   let j:=bD code 3 k.2
   (nA [[45],[33],[126]] j.1++[40]++(iG code d j.2).1++[41],(iG code d j.2).2)
  else if k.1=5 then([97,91]++(iG code d k.2).1++[93],(iG code d k.2).2)
  else
   let j:=bD code 9 k.2
   let a:=iG code d j.2
   let cE:=levels.getD j.1.toNat []
   let o:=bD code (cE.length:Int) a.2
   let b:=iG code d o.2
   ([40]++a.1++[32]++nA cE o.1++[32]++b.1++[41],b.2)
def Fu(k:Int):∀s∈levels.getD k.toNat [],s.length<=2:=fun s o=>by
 rw[getD_eq_getElem?_getD]at o
 cases G:levels[k.toNat]? with
 |none=>rw[G]at o;cases o
 |some l =>
  rw[G]at o
  have h:∀l∈levels,∀s∈l,s.length<=2:=by decide
  exact h l (bR G) s o
def w8:Nat->Nat
 |0=>7
 |d+1=>2*w8 d+7
def XB:∀d,7<=w8 d
 |0=>a8 _
 |d+1=>by rw[w8];omega
def mG(code:ai):∀(d:Nat)(c:c9),(iG code d c).1.length<=w8 d
 |0,c=>by rw[iG,w8];exact nB aS _
 |d+1,c=>by
  have q:=mG code d;have W:=XB d;rw[iG,w8];simp only;split
  ·have:=nB (l:=yi) (n:=7) aS (bD code 8 (bD code 9 c).2).1;show(nA yi _).length<=_;omega
  split
  ·have:=q (bD code 9 c).2;exact zaD
  split
  ·have z:=q (bD code 3 (bD code 9 c).2).2;have v:=nB (l:=[[45],[33],[126]]) (n:=1) aS (bD code 3 (bD code 9 c).2).1;exact zaD
  split
  ·have:=q (bD code 9 c).2;exact zaD
  ·generalize bD code 9 (bD code 9 c).2=j;have z:=q j.2;generalize iG code d j.2=a at *;have v:=nB (Fu j.1) (bD code ((levels.getD j.1.toNat []).length:Int) a.2).1;have I:=q (bD code ((levels.getD j.1.toNat []).length:Int) a.2).2;exact zaD
def qt{code:ai}:∀(d:Nat){c:c9},c.i<=code.length->(iG code d c).2.i<=code.length
 |0,c,h=>by rw[iG];exact dR _ (dR _ h)
 |d+1,c,h=>by
  have q:=fun{c:c9}=>qt (code:=code) d (c:=c)
  have z:=dR (code:=code) 9 h;rw[iG];simp only;split
  ·exact dR _ z
  split
  ·exact q z
  split
  ·exact q (dR _ z)
  split
  ·exact q z
  ·exact q (dR _ (q (dR _ z)))
def oW(code:ai)(d:Nat)(sub:c9->ai × c9)(out:ai)(c:c9):ai × c9 :=
 let k:=bD code 8 c
 if k.1=0/\0<d then
  let e:=iG code 1 k.2
  let a:=sub e.2
  let b:=sub a.2
  (out++[105,102,32,40]++e.1++[41,32,123,32]++a.1++[32,125,32,101,108,115,101,32,123,32]++b.1++[32,125,32],b.2)
 else if k.1=1/\0<d then
  let a:=sub k.2
  (out++[121,32,61,32,51,59,32,119,104,105,108,101,32,40,121,32,62,32,48,41,32,123,32]++a.1++[32,121,32,61,32,121,32,45,32,49,59,32,125,32],a.2)
 else if k.1=2 then
  let e:=iG code 1 k.2
  let f:=iG code 2 e.2
  (out++[97,91]++e.1++[32,38,32,51,93,32,61,32]++f.1++[59,32],f.2)
 else if k.1=3 then
  let e:=iG code 2 k.2
  (out++[112,117,116,40]++e.1++[41,59,32],e.2)
 else if k.1=4 then
  let e:=iG code 1 k.2
  (out++[103,32,61,32,103,32,43,32]++e.1++[59,32],e.2)
 else
  let x:=bD code 2 k.2
  let e:=iG code 2 x.2
  (out++nA [[120],[121]] x.1++[32,61,32]++e.1++[59,32],e.2)
def kE(g:ai->c9->ai × c9):Nat->ai->c9->ai × c9
 |0,out,c=>(out,c)
 |n+1,out,c=>kE g n (g out c).1 (g out c).2
def vD(code:ai):Nat->c9->ai × c9
 |0,c=>kE (oW code 0 fun c=>([],c)) (bD code 4 c).1.toNat [] (bD code 4 c).2
 |d+1,c=>kE (oW code (d+1) (vD code d)) (bD code 4 c).1.toNat [] (bD code 4 c).2
section
variable{code:ai}{d:Nat}{sub:c9->ai × c9}
def xJ{B:Nat}(o:∀c,(sub c).1.length<=B)(out:ai)(c:c9):(oW code d sub out c).1.length<=out.length+2*B+200:=by
 have z:=fun c=>mG code 1 c
 have v:=fun c=>mG code 2 c
 simp only[w8]at z v;unfold oW;simp only;generalize bD code 8 c=k;split
 ·have a1:=z k.2;have H:=o (iG code 1 k.2).2;have q:=o (sub (iG code 1 k.2).2).2;exact zaD
 split
 ·have H:=o k.2;exact zaD
 split
 ·have a1:=z k.2;have H:=v (iG code 1 k.2).2;exact zaD
 split
 ·have a1:=v k.2;exact zaD
 split
 ·have a1:=z k.2;exact zaD
 ·have a1:=v (bD code 2 k.2).2;have H:=nB (l:=[[120],[121]]) (n:=1) aS (bD code 2 k.2).1;exact zaD
def Ch(o:∀c:c9,c.i<=code.length->(sub c).2.i<=code.length){out:ai}{c:c9}(q:c.i<=code.length):(oW code d sub out c).2.i<=code.length:=by
 have z:=dR (code:=code) 8 q;unfold oW;simp only;generalize bD code 8 c=k at *;split
 ·exact o _ (o _ (qt 1 z))
 split
 ·exact o _ z
 split
 ·exact qt 2 (qt 1 z)
 split
 ·exact qt 2 z
 split
 ·exact qt 1 z
 ·exact qt 2 (dR _ z)
end
def wG{g:ai->c9->ai × c9}{B:Nat}(hg:∀out c,(g out c).1.length<=out.length+B):∀(n:Nat)(out:ai)(c:c9),(kE g n out c).1.length<=out.length+n*B
 |0,out,c=>by rw[kE];show out.length<=_;omega
 |n+1,out,c=>by
  have z:=wG hg n (g out c).1 (g out c).2;have v:=hg out c;rw[kE,Nat.succ_mul];omega
def zQ{code:ai}{g:ai->c9->ai × c9}(hg:∀out c,c.i<=code.length->(g out c).2.i<=code.length):∀(n:Nat)(out:ai)(c:c9),c.i<=code.length->(kE g n out c).2.i<=code.length
 |0,out,c,h=>by rw[kE];exact h
 |n+1,out,c,h=>by rw[kE];exact zQ hg n _ _ (hg out c h)
def za:Nat->Nat
 |0=>600
 |d+1=>6*za d+600
def yw(code:ai):∀(d:Nat)(c:c9),(vD code d c).1.length<=za d
 |0,c=>by
  rw[vD,za];have h:=eD code c (n:=4) Z;have v:=wG (B:=200) (fun out c=>xJ (code:=code) (d:=0) (sub:=fun c=>([],c)) (B:=0) (fun c=>a8 _) out c) (bD code 4 c).1.toNat [] (bD code 4 c).2;have I:(bD code 4 c).1.toNat*200<=3*200:=rF _ Z;simp only[length_nil]at v;omega
 |d+1,c=>by
  rw[vD,za];have h:=eD code c (n:=4) Z;have v:=wG (B:=2*za d+200) (fun out c=>by have:=xJ (code:=code) (d:=d+1) (yw code d) out c;omega) (bD code 4 c).1.toNat [] (bD code 4 c).2;have I:(bD code 4 c).1.toNat*(2*za d+200)<=3*(2*za d+200):=rF _ Z;simp only[length_nil]at v;omega
def DF{code:ai}:∀(d:Nat){c:c9},c.i<=code.length->(vD code d c).2.i<=code.length
 |0,c,h=>by rw[vD];exact zQ (fun out c o=>Ch (fun c h=>h) o) _ _ _ (dR _ h)
 |d+1,c,h=>by rw[vD];exact zQ (fun out c o=>Ch (fun c h=>DF d h) o) _ _ _ (dR _ h)
open Tryz
open GV (U)
abbrev fm(code:ai)(c:c9):Ob:=.box 115 (uG code c)
def UO{d:Nat}(h:d<=3):w8 d<=105:=by
 have:d=0\/d=1\/d=2\/d=3:=by omega
 rcases this with rfl|rfl|rfl|rfl<;>decide
def re{l:List ai}{m:Nat}(h:m<l.length):(b7 l)[m]?=some [.v (sv (nA l (m:Int)))]:=by
 have:=PW (l:=l) (k:=(m:Int)) ⟨by omega,by omega⟩
 rwa[eV]at this
def J7{m:Nat}(h:m<9):(levels.map fun l=>[strs l])[m]?=some [strs (levels.getD m [])]:=by
 have:m<levels.length:=h;rw[b6,getD_eq_getElem?_getD,cq this];rfl
def MQ:∀m,m<9->0<(levels.getD m []).length:=by decide
def oN{code:ai}(W:code.length<=1099511627776){c:c9}(o:c.i<=code.length)(n:Int)(hn:0<n):∃(z:Int)(R:c9),GF prog 33 [.loc 0 0,y4 n] [fm code c] (y4 z) [fm code R]/\R.i<=code.length/\0<=z/\z<n:=⟨_,_,gk code n c W o,dR n o,eD code c hn⟩
def yr{code:ai}(W:code.length<=1099511627776){c:c9}(o:c.i<=code.length):∃(z:Int)(R:c9),GF prog 36 [.loc 0 0] [fm code c] (y4 z) [fm code R]/\R.i<=code.length /\ -9223372036854775808<=z/\z<=9223372036854775807:=⟨_,_,Pr code c W o,Wo o,P0 code c⟩
def sD{code:ai}(W:code.length<=1099511627776){c:c9}(o:c.i<=code.length)(n:Int)(hn:0<n):∃(z:Nat)(R:c9),GF prog 33 [.loc 0 0,y4 n] [fm code c] (y4 (z:Nat)) [fm code R]/\R.i<=code.length/\0<=(z:Int)/\(z:Int)<n:=by
 have⟨z,R,h,i,r⟩:=oN W o n hn;obtain⟨z,rfl⟩:∃q:Nat,z=(q:Int):=⟨z.toNat,by omega⟩;exact⟨z,R,h,i,r⟩
attribute [local irreducible] GW GL GO V GC GA bh bm oa tQ qI
def Ie(code:ai)(G:code.length<=1099511627776):∀(d:Nat)(c:c9),d<=3->c.i<=code.length ->
  GF prog 174 [.loc 0 0,y4 (d:Nat)] [fm code c] (.v (sv (iG code d c).1)) [fm code (iG code d c).2]:=by
 intro d
 induction d with
 |zero =>
  intro c hd B;rw[iG];have z:=gk code 9 c G B;have u:=dR (code:=code) 9 B;generalize bD code 9 c=a at *;have⟨k,b⟩:=a;simp only at z u |-;exact zaC
 |succ d ih =>
  intro c hd B
  have hdd:(((d+1:Nat):Int)==0)=false:=by simp;omega
  have hB:=UO (d:=d) Z
  have w:∀c:c9,c.i<=code.length->GF prog 174 [.loc 0 0,y4 (((d+1:Nat):Int)-1)] [fm code c] (.v (sv (iG code d c).1)) [fm code (iG code d c).2]:=fun c B=>by
   rw[show(((d+1:Nat):Int)-1)=(d:Int) by omega];exact ih c Z B
  clear ih;rw[iG];have z:=gk code 9 c G B;have r1:=eD code c (n:=9) Z;have u:=dR (code:=code) 9 B;generalize bD code 9 c=a at *;have⟨k,b⟩:=a;simp only at z r1 u |-
  by_cases N:k<3
  ·have T:decide (k<(3:Int))=true:=by simpa using N
   rw[ae N];exact zaC
  ·have T:decide (k<(3:Int))=false:=by simpa using N
   rw[ab N]
   by_cases C:k=3
   ·subst C;exact zbr
   ·have aaZ:(k==3)=false:=by simpa using C
    rw[ab C]
    by_cases E:k=4
    ·subst E;rw[ae rfl];have e:=gk code 3 b G u;have H:=eD code b (n:=3) Z;have I:=dR (code:=code) 3 u;generalize bD code 3 b=a at *;have⟨j,t⟩:=a;simp only at e H I |-;obtain⟨m,rfl⟩:∃m:Nat,j=(m:Int):=⟨j.toNat,by omega⟩;have W:=re (l:=[[45],[33],[126]]) (m:=m) (by show m<3;omega);have hp:=nB (l:=[[45],[33],[126]]) (n:=1) aS (m:Int);generalize nA [[45],[33],[126]] (m:Int)=sg at *;have A:=w t I;have Q:=mG code d t;generalize iG code d t=a at *;have⟨s,M⟩:=a;simp only at A Q |-;refine ah func174 ntmps174 ?_;refine D [0] z ?_;refine aX (.q 1 (aI 6 3 (.f 0 (.a 2 (aI 3 3 (.a 9 (aI 10 3 .nil)))) 2 (.f 0 (aI 3 3 (.a 9 (aI 10 3 .nil))) 9 (.a 0 (aI 3 3 (aI 10 3 .nil))))))) ?_;refine av ?_;refine GO.fork ?_ ?_
     ·refine zaI ?_;refine aN [0] e ?_;refine aN [0] A ?_;exact aC
     ·refine aN [0] e ?_;refine GO.fork ?_ ?_
      ·refine zaI ?_;refine aN [0] A ?_;exact aC
      ·refine aN [0] A ?_;refine zaI ?_;exact aC
    ·have aa0:(k==4)=false:=by simpa using E
     rw[ab E]
     by_cases F:k=5
     ·subst F;exact zbr
     ·have aa1:(k==5)=false:=by simpa using F
      rw[ab F];have e:=gk code 9 b G u;have H:=eD code b (n:=9) Z;have I:=dR (code:=code) 9 u;generalize bD code 9 b=a at *;have⟨j,t⟩:=a;simp only at e H I |-;obtain⟨m,rfl⟩:∃m:Nat,j=(m:Int):=⟨j.toNat,by omega⟩;rw[eV];have W:=J7 (m:=m) Z;have hn:=MQ m Z;have J:=Fu (m:Int);rw[eV]at J;generalize levels.getD m []=r at *;have A:=w t I;have Q:=mG code d t;have i3:=qt (code:=code) d I;generalize iG code d t=a at *;have⟨s,M⟩:=a;simp only at A Q i3 |-;have S:=gk code (r.length:Int) M G i3;have r4:=eD code M (n:=(r.length:Int)) Z;have i4:=dR (code:=code) (r.length:Int) i3;generalize bD code (r.length:Int) M=a at *;have⟨o,R⟩:=a;simp only at S r4 i4 |-;obtain⟨q,rfl⟩:∃q:Nat,o=(q:Int):=⟨o.toNat,by omega⟩;have hr4:=re (l:=r) (m:=q) Z;have hp:=nB J (q:Int);generalize nA r (q:Int)=sg at *;have Mj:(r.map fun s=>[GV.v (sv s)]).length=r.length:=bI _;rw[<-Mj]at S;have h5:=w R i4;have b5:=mG code d R;generalize iG code d R=a at *;have⟨s2,c5⟩:=a;simp only at h5 b5 |-;refine ah func174 ntmps174 ?_;refine D [0] z ?_;refine D [] jZ ?_;refine D [0] e ?_;refine aX (aI 0 3 (aI 6 4 (aI 15 3 (.a 3 (.q 4 (.q 5 (.a 10 (aI 11 4 (.a 18 (aI 19 3 .nil)))))))))) ?_;refine av ?_;refine aN [0] A ?_;refine aN [0] S ?_;refine aN [0] h5 ?_;exact aC
def AJ(code:ai)(S:code.length<=1099511627776)(d:Nat)(hd:d<=3)(sub:c9->ai × c9)
  (hs:0<d->∀c:c9,c.i<=code.length->GF prog 173 [.loc 0 0,y4 ((d:Int)-1)] [fm code c] (.v (sv (sub c).1)) [fm code (sub c).2])
  (R:∀c,(sub c).1.length<=1000000)(hi:∀c:c9,c.i<=code.length->(sub c).2.i<=code.length)(c:c9)(I:c.i<=code.length) :
  GF prog 173 [.loc 0 0,y4 (d:Nat)] [fm code c] (.v (sv (kE (oW code d sub) (bD code 4 c).1.toNat [] (bD code 4 c).2).1)) [fm code (kE (oW code d sub) (bD code 4 c).1.toNat [] (bD code 4 c).2).2]:=by
 have h1:=gk code 4 c S I;have r1:=eD code c (n:=4) Z;have i1:=dR (code:=code) 4 I;generalize bD code 4 c=a at *;have⟨n0,c1⟩:=a;simp only at h1 r1 i1 |-;obtain⟨n,rfl⟩:∃n:Nat,n0=(n:Int):=⟨n0.toNat,by omega⟩;rw[eV];have H:=Ie code S
 have w:=fun c=>mG code 1 c
 have z:=fun c=>mG code 2 c
 have he1:w8 1=21:=rfl;have xg:w8 2=49:=rfl;rw[he1]at w;rw[xg]at z
 have Q:=fun out c=>xJ (code:=code) (d:=d) R out c
 have O:=fun(out:ai)(c:c9)(h:c.i<=code.length)=>Ch (code:=code) (d:=d) hi (out:=out) h
 generalize hr:kE (oW code d sub) n [] c1=r;refine ah func173 ntmps173 ?_;refine D [0] h1 ?_;refine GW.loop (fun x:Nat=>x) (fun x fr Γ=>∃out c,fr=.loc 0 0::y4 (d:Nat)::U::U::U::.v (sv out)::y4 (x:Nat)::zU 88 []/\Γ=[fm code c]/\x<=3/\c.i<=code.length/\out.length+x*2000200<=8000000/\kE (oW code d sub) x out c=r) n ?_ ?_
 ·exact⟨_,_,Wk.bb aD,_,_,rfl,rfl,by omega,i1,by simp only[length_nil];omega,hr⟩
 ·rintro x _ _⟨out,c,rfl,rfl,hx,I,aaf,h⟩
  cases x with
  |zero =>
   rw[kE]at h;subst h;exact zc7
  |succ x =>
   rw[kE]at h;have HZ:decide ((0:Int)<((x+1:Nat):Int))=true:=decide_eq_true Z
   have t:(((x+1:Nat):Int)-1)=(x:Int):=by omega
   have xi:=Q out c;have N:=O out c I
   have b:∀y,oW code d sub out c=y->kE (oW code d sub) x y.1 y.2=r/\y.2.i<=code.length/\y.1.length+x*2000200<=8000000:=by
    rintro _ rfl;exact⟨h,N,by omega⟩
   clear h xi N Q O;unfold oW at b;have G:=gk code 8 c S I;have r3:=eD code c (n:=8) Z;have C:=dR (code:=code) 8 I;generalize bD code 8 c=a at *;have⟨k,s⟩:=a;simp only at G r3 C b;obtain⟨m,rfl⟩:∃m:Nat,k=(m:Int):=⟨k.toNat,by omega⟩
   by_cases hA:(m:Int)=0/\0<d
   ·have⟨e,j,o⟩:=b _ (ae hA);have⟨hm,B⟩:=hA
    obtain rfl:m=0:=by omega
    have Q2:decide ((0:Int)<(d:Int))=true:=by simpa using B
    have g1:=H 1 s Z C;have M:=w s;have J:=qt (code:=code) 1 C;generalize iG code 1 s=a at *;have⟨s1,A⟩:=a;simp only at e j o g1 M J;have u:=hs B A J;have E:=R A;have j2:=hi A J;generalize sub A=a at *;have⟨T,F⟩:=a;simp only at e j o u E j2;have g3:=hs B F j2;have b3:=R F;generalize sub F=a at *;have⟨s3,c5⟩:=a;simp only at e j o g3 b3;refine X ?_;refine D [0] G ?_;refine D [0] g1 ?_;refine D [0] u ?_;refine D [0] g3 ?_;exact zam
   have b:=fun y h=>b y ((ab hA).trans h)
   by_cases hB:(m:Int)=1/\0<d
   ·have⟨e,j,o⟩:=b _ (ae hB);have⟨hm,B⟩:=hB
    obtain rfl:m=1:=by omega
    have Q2:decide ((0:Int)<(d:Int))=true:=by simpa using B
    have u:=hs B s C;have E:=R s;generalize sub s=a at *;exact zcV
   have b:=fun y h=>b y ((ab hB).trans h)
   by_cases hC:(m:Int)=2
   ·have⟨e,j,o⟩:=b _ (ae hC)
    obtain rfl:m=2:=by omega
    have g1:=H 1 s Z C;have M:=w s;have J:=qt (code:=code) 1 C;generalize iG code 1 s=a at *;have⟨s1,A⟩:=a;simp only at e j o g1 M J;have u:=H 2 A Z J;have E:=z A;generalize iG code 2 A=a at *;have⟨T,F⟩:=a;simp only at e j o u E;refine X ?_;refine D [0] G ?_;refine D [0] g1 ?_;refine D [0] u ?_;exact zam
   have b:=fun y h=>b y ((ab hC).trans h)
   by_cases hD:(m:Int)=3
   ·have⟨e,j,o⟩:=b _ (ae hD)
    obtain rfl:m=3:=by omega
    have u:=H 2 s Z C;have E:=z s;generalize iG code 2 s=a at *;exact zcV
   have b:=fun y h=>b y ((ab hD).trans h)
   by_cases hF:(m:Int)=4
   ·have⟨e,j,o⟩:=b _ (ae hF)
    obtain rfl:m=4:=by omega
    have g1:=H 1 s Z C;have M:=w s;generalize iG code 1 s=a at *;have⟨s1,A⟩:=a;simp only at e j o g1 M;refine X ?_;refine D [0] G ?_;refine D [0] g1 ?_;exact zam
   have⟨e,j,o⟩:=b _ (ab hF);have W:=gk code 2 s S C;have r4:=eD code s (n:=2) Z;have i4:=dR (code:=code) 2 C;generalize bD code 2 s=a at *;have⟨q,A⟩:=a;simp only at e j o W r4 i4;obtain⟨q,rfl⟩:∃q':Nat,q=(q':Int):=⟨q.toNat,by omega⟩;have abg:=re (l:=[[120],[121]]) (m:=q) (by show q<2;omega);have hp:=nB (l:=[[120],[121]]) (n:=1) aS (q:Int);generalize nA [[120],[121]] (q:Int)=sg at *;have u:=H 2 A Z i4;have E:=z A;generalize iG code 2 A=a at *;have⟨T,F⟩:=a;simp only at e j o u E
   have hm:(m=0/\d=0)\/(m=1/\d=0)\/m=5\/m=6\/m=7:=by omega
   rcases hm with⟨rfl,rfl⟩|⟨rfl,rfl⟩|rfl|rfl|rfl
   all_goals
    refine X ?_;refine D [0] G ?_;refine aX (.q 0 (.q 2 (.q 8 (.f 1 (.a 3 (aI 4 4 (.a 9 (aI 10 3 .nil)))) 3 (.f 1 (aI 4 4 (.a 9 (aI 10 3 .nil))) 9 (.a 1 (aI 4 4 (aI 10 3 .nil)))))))) ?_;refine av ?_;refine GO.fork ?_ ?_
    ·refine zaI ?_;refine aN [0] W ?_;refine aN [0] u ?_;refine X ?_;exact zam
    ·refine aN [0] W ?_;refine GO.fork ?_ ?_
     ·refine zaI ?_;refine aN [0] u ?_;refine X ?_;exact zam
     ·refine aN [0] u ?_;refine c6 ?_;refine bA ?_;exact zam
def Wz{d:Nat}(h:d<=3):za d<=1000000:=by
 have:d=0\/d=1\/d=2\/d=3:=by omega
 rcases this with rfl|rfl|rfl|rfl<;>decide
def wm(code:ai)(W:code.length<=1099511627776):∀(d:Nat)(c:c9),d<=3->c.i<=code.length ->
  GF prog 173 [.loc 0 0,y4 (d:Nat)] [fm code c] (.v (sv (vD code d c).1)) [fm code (vD code d c).2]
 |0,c,n,o=>by
  rw[vD];exact AJ code W 0 n _ (fun h=>absurd h (Nat.lt_irrefl 0)) (fun c=>bj _) (fun c h=>h) c o
 |d+1,c,n,o=>by
  rw[vD];refine AJ code W (d+1) n _ (fun h c o=>?_) (fun c=>ju (yw code d c) (Wz Z)) (fun c h=>DF d h) c o;rw[show(((d+1:Nat):Int)-1)=(d:Int) by omega];exact wm code W d c Z o
end Go.Xg
