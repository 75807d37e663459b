/- Part 8 of proofs that are told in their last texts. -/
import Derived.Test.YtfmnfhpifpjljaaGreatDoorO7
import Derived.Lib.OwnBridge
import Derived.Lib.AppendIntMem
open List (cons_append ext_getElem? getElem?_cons_succ getElem?_eq_none getElem?_of_mem getElem?_zipWith length_cons length_nil length_replicate length_set nil_append take_succ_cons take_zero)
set_option linter.unusedVariables false
set_option linter.unusedSimpArgs false
set_option linter.defProp false
set_option maxRecDepth 100000
set_option maxHeartbeats 2000000
namespace Go
def zci{A B:Prop}(h:B)(s:PLift B->A:=by intro hQ;refine GW.seq ?_;refine GW.region ?_;refine zaX ?_;exact hQ.1):A:=s ⟨h⟩
end Go
namespace Go.Im
open Go.Xp Go.Sp
def qg(p:Src):List ah:=if fI p=true then bO p else[]
def lU(p:Src):(bO p).length=p.au.length+p.aq.length+p.av.length:=by simp[bO,dE,ez];omega
end Go.Im
namespace Go.Xg
open Go.RowKit Go.Xw Go.Proofs Tryz Go.Im
open GV (U)
open Go.Sp (Src)
attribute [local irreducible] GW GL GO D GC GA bo bn
def sq:∀l:List ah,iz (bs l)=true
 |[]=>rfl
 |s::l=>by
  have:=sq l;unfold bs at this |-;exact zdR
theorem ij(l:List ah):(bs l).length=l.length:=by simp[bs]
def pY(p:Src)(z:cH p<=1048576):GC prog 47 [.agg (aB p)] [] fun g o=>∃a c,g=.v (.slice a (bO p).length c)/\o=[.vech 9 1 (bs (bO p)) (.slice a (bO p).length c)]:=by
 have⟨⟨a1,G⟩,⟨q,r⟩,⟨t,M⟩,⟨E,W⟩⟩:=gg p
 have Q:(p.au.map fun s=>[GV.v (sv s)]).length=p.au.length:=by simp
 have F:iz (p.au.map fun s=>[GV.v (sv s)])=true:=sq p.au;refine dj func47 ntmps47 ?_;refine GW.wk (Wk.eS 9 1) ?_;simp only[nil_append];refine V ?_;refine GL.nb 0 rfl rfl rfl rfl F (by refine⟨?_,?_⟩;(· rw[Q];omega);(· rw[Q];omega)) ?_;intro a c;rw[Q];refine zbx ?_;refine GW.range (p.aq.map bb).length (fun k J u=>∃a c R n,J=U::.loc 1 0::U::.v (.slice a n c)::U::U::U::U::U::U::U::U::.sl 2 (p.aq.map bb)::y4 ((p.aq.map bb).length:Int)::y4 (k:Nat)::zU 23 []/\u=[.vech 9 1 R (.slice a n c),.box 28 (aB p)]/\R.length=n/\R=bs (p.au++(dE p).take k)) ?_ zfq ?_ ?_ ?_
 ·exact⟨_,_,Wk.a6 aC,_,_,_,_,rfl,rfl,Q,by simp[bs]⟩
 ·rintro k _ _⟨a,c,R,n,rfl,rfl,_⟩;exact dS
 ·rintro k _ _ N⟨a,c,R,n,rfl,rfl,O,i⟩
  have N:k<p.aq.length:=by simpa using N
  have hx:p.aq[k]?=some p.aq[k]:=by simp[N]
  have w:=tt hx
  have l:bs (p.au++(dE p).take (k+1))=R++[[.v (sv p.aq[k].name)]]:=by
   have:(dE p)[k]?=some p.aq[k].name:=by rw[dE,dR,hx];rfl
   rw[c7,this,i];simp[bs]
  have j:n<=4194304:=by
   rw[<-O,i,ij,bp,iC];omega
  clear i;unfold bb at w;generalize p.aq[k]=x at *;exact zbd
 ·rintro _ _⟨a,c,R,n,rfl,rfl,O,i⟩;rw[bS,show p.aq.length=(dE p).length by simp[dE],dx]at i;refine zcl ?_;refine GW.range (p.av.map aI).length (fun k J u=>∃a c R n,J=U::.loc 1 0::U::.v (.slice a n c)::zU 21 [.sl 3 (p.av.map aI),y4 ((p.av.map aI).length:Int),y4 (k:Nat),U,U,U,U,U,U,U,U,U,U]/\u=[.vech 9 1 R (.slice a n c),.box 28 (aB p)]/\R.length=n/\R=bs ((p.au++dE p)++(ez p).take k)) ?_ zfq ?_ ?_ ?_
  ·exact⟨_,_,Wk.a6 aC,_,_,_,_,rfl,rfl,O,by rw[i];simp⟩
  ·rintro k _ _⟨a,c,R,n,rfl,rfl,_⟩;exact dS
  ·rintro k _ _ N⟨a,c,R,n,rfl,rfl,O,i⟩
   have N:k<p.av.length:=by simpa using N
   have hx:p.av[k]?=some p.av[k]:=by simp[N]
   have w:=qi hx
   have l:bs ((p.au++dE p)++(ez p).take (k+1))=R++[[.v (sv p.av[k].name)]]:=by
    have:(ez p)[k]?=some p.av[k].name:=by rw[ez,dR,hx];rfl
    rw[c7,this,i];simp[bs]
   have j:n<=4194304:=by
    rw[<-O,i,ij,bp,bp,iC,dE,bS];omega
   clear i;unfold aI at w;generalize p.av[k]=x at *;exact zbd
  ·rintro _ _⟨a,c,R,n,rfl,rfl,O,i⟩;rw[bS,show p.av.length=(ez p).length by simp[ez],dx]at i
   have m:n=(bO p).length:=by rw[<-O,i,ij];rfl
   subst m;refine zcl ?_;refine lG ?_;exact qb (n:=1) rfl fH rfl (bl _) rfl rfl ⟨a,c,rfl,by rw[i];rfl⟩
end Go.Xg
set_option maxHeartbeats 4000000
namespace Go.Im
open Go.Xp Go.Sp
def wB(l:List ah)(k:Nat):Int:=if(List.range k).any (mu l)=true then 21 else 0
def O8(l:List ah)(k:Nat):wB l (k+1)=if mu l k=true then jq (wB l k) 21 else wB l k:=by
 grind[wB,mu,jq]
def Sj(l:List ah):wB l l.length=if gh l=true then 21 else 0:=rfl
structure J9(p:Src)(l:List T)(i:Nat)(f:Go.Sp.Fn)(t:T):Prop where
 good:Good p l
 gf:p.av[i]?=some f
 gt:l[i]?=some t
 ok:qz p t f.params
 wf:fS t
 z:zT t
 st:dr p.ae f.body.toNat t
 body:0<=f.body
 sz:be t<=800
def Good.fn{p:Src}{l:List T}(h:Good p l){i:Nat}{f:Go.Sp.Fn}{t:T}(w:p.av[i]?=some f)(R:l[i]?=some t):J9 p l i f t:=by
 have⟨a1,F,A,b,r⟩:=h.at_ _ _ _ w R;refine⟨h,w,R,a1,F,A,b,r,?_⟩;have:=h.st.few;have:=b.le;omega
end Go.Im
namespace Go.Xg
open Go.RowKit Go.Xw Go.Proofs Tryz Go.Im
open GV (U)
open Go.Sp (Src)
attribute [local irreducible] GW GL GO D GC GA bo bn
def Jm(p:Src)(hw:cH p<=1048576) :
  GF prog 147 [.loc 0 0] [.box 155 (cC p y6 ⟨[],0,0⟩)] (.tup []) [.box 155 (cC p y6 ⟨[],(if gh (bO p)=true then 21 else 0),0⟩)]:=by
 have⟨⟨a1,Q⟩,⟨T,W⟩,⟨Y,Z⟩,⟨d1,d2⟩⟩:=gg p
 have r:(p.au.map fun s=>[GV.v (sv s)]).length=p.au.length:=by simp
 have w:iz (p.au.map fun s=>[GV.v (sv s)])=true:=sq p.au;have N:=lU p;rw[<-Sj]
 have q:=fun k=>AM p y6 (wB (bO p) k) 21
 rw[show(0:Int)=wB (bO p) 0 from rfl];unfold cC at q |-;refine ak func147 ntmps147 ?_;refine nF ?_;refine V ?_;refine nF ?_;refine V ?_;refine GL.vB rfl rfl rfl rfl w L ?_;rw[r];refine bh ?_;simp only[dy];refine V ?_;refine GW.range (p.aq.map bb).length (fun k o z=>∃R n,o=.loc 0 0::U::.vec 1 0::.vec 2 n::zU 18 (.sl 2 (p.aq.map bb)::y4 ((p.aq.map bb).length:Int)::y4 (k:Nat)::zU 45 [])/\z=[.box 155 [strs p.au,.sl 2 (p.aq.map bb),.sl 3 (p.av.map aI),.sl 5 (p.ae.map aR),.v y6,y4 (wB (bO p) 0),y4 0],.vec 9 1 0 [],.vec 9 1 0 R]/\R.length=n/\R=bs (p.au++(dE p).take k)) ?_ ze2 ?_ ?_ ?_
 ·exact⟨_,_,Wk.a6 aC,_,_,rfl,rfl,r,by simp[bs,chunk]⟩
 ·rintro k _ _⟨R,n,rfl,rfl,_⟩;exact dS
 ·rintro k _ _ j⟨R,n,rfl,rfl,c,d⟩
  have j:k<p.aq.length:=by grind
  have hx:p.aq[k]?=some p.aq[k]:=by simp[j]
  have F:=tt hx
  have b:bs (p.au++(dE p).take (k+1))=R++[[.v (sv p.aq[k].name)]]:=by
   have:(dE p)[k]?=some p.aq[k].name:=by grind[dE]
   rw[c7,this,d];simp[bs]
  have u:n<=4194304:=by
   grind[ij,bp,iC]
  have M:n+1<=9223372036854775807/\(n+1)*16<=140737488355328:=by omega
  clear d;unfold bb at F;generalize p.aq[k]=x at *;exact zcf
 ·rintro _ _⟨R,n,rfl,rfl,c,d⟩;rw[bS,show p.aq.length=(dE p).length by simp[dE],dx]at d;refine zcl ?_;refine GW.range (p.av.map aI).length (fun k o z=>∃R n,o=.loc 0 0::U::.vec 1 0::.vec 2 n::zU 34 (.sl 3 (p.av.map aI)::y4 ((p.av.map aI).length:Int)::y4 (k:Nat)::zU 29 [])/\z=[.box 155 [strs p.au,.sl 2 (p.aq.map bb),.sl 3 (p.av.map aI),.sl 5 (p.ae.map aR),.v y6,y4 (wB (bO p) 0),y4 0],.vec 9 1 0 [],.vec 9 1 0 R]/\R.length=n/\R=bs ((p.au++dE p)++(ez p).take k)) ?_ ze2 ?_ ?_ ?_
  ·exact⟨_,_,Wk.a6 aC,_,_,rfl,rfl,c,by grind⟩
  ·rintro k _ _⟨R,n,rfl,rfl,_⟩;exact dS
  ·rintro k _ _ j⟨R,n,rfl,rfl,c,d⟩
   have j:k<p.av.length:=by grind
   have hx:p.av[k]?=some p.av[k]:=by simp[j]
   have F:=qi hx
   have b:bs ((p.au++dE p)++(ez p).take (k+1))=R++[[.v (sv p.av[k].name)]]:=by
    have:(ez p)[k]?=some p.av[k].name:=by grind[ez]
    rw[c7,this,d];simp[bs]
   have u:n<=4194304:=by
    grind[ij,bp,iC,dE,bS]
   have M:n+1<=9223372036854775807/\(n+1)*16<=140737488355328:=by omega
   clear d;unfold aI at F;generalize p.av[k]=x at *;exact zcf
  ·rintro _ _⟨R,n,rfl,rfl,c,d⟩;rw[bS,show p.av.length=(ez p).length by simp[ez],dx]at d;have d:R=bs (bO p):=d
   have l:R.length=(bO p).length:=by rw[d,ij]
   have E:n=R.length:=c.symm;subst E;refine bg ?_;refine GW.wk (Wk.jJ (t:=3) rfl rfl rfl rfl) ?_;refine GW.wk (Wk.cut (n:=2) (eF rfl) rfl) ?_;refine GW.GY (c8:=.loc 0 0::U::.vec 1 0::.sl 1 R::zU 66 []) (bE:=[.box 155 [strs p.au,.sl 2 (p.aq.map bb),.sl 3 (p.av.map aI),.sl 5 (p.ae.map aR),.v y6,y4 (wB (bO p) 0),y4 0],.vec 9 1 0 []]) aC rfl ?_;refine V ?_;refine GW.range R.length (fun k o z=>∃S n A,o=.loc 0 0::U::.vec 1 n::zU 47 (.sl 1 R::y4 (R.length:Int)::y4 (k:Nat)::zU 17 [])/\z=[.box 155 [strs p.au,.sl 2 (p.aq.map bb),.sl 3 (p.av.map aI),.sl 5 (p.ae.map aR),.v y6,y4 (wB (bO p) k),y4 0],.vec 9 1 A S]/\S.length=n/\S=bs ((bO p).take k)) ?_ L ?_ ?_ ?_
   ·exact⟨_,_,Wk.a6 aC,_,_,_,rfl,rfl,rfl,by rfl⟩
   ·rintro k _ _⟨S,n,A,rfl,rfl,_⟩;exact dS
   ·rintro k _ _ j⟨S,n,A,rfl,rfl,e,C⟩;rw[l]at j;obtain⟨x,hx⟩:∃x,(bO p)[k]?=some x:=⟨(bO p)[k],by simp[j]⟩
    have O:R[k]?=some [.v (sv x)]:=by grind[bs]
    have b:bs ((bO p).take (k+1))=S++[[.v (sv x)]]:=by rw[c7,hx,C];simp[bs]
    have u:n<=8388608:=by grind[ij,iC]
    have M:n+1<=9223372036854775807/\(n+1)*16<=140737488355328:=by omega
    have m:mu (bO p) k=(iO x ||((bO p).take k).contains x):=by grind[mu]
    have i:=Jn x
    have B:GF prog 58 [.sl 1 S,.v (sv x)] [] (.v (.bool (((bO p).take k).contains x))) []:=by
     rw[C];exact jR ((bO p).take k) x ze2
    have J:=q k;rw[O8];clear C d l;generalize wB (bO p) k=cd at *;generalize mu (bO p) k=X at *
    cases G:iO x with
    |true =>
     rw[G]at i m;subst m;rw[ai ze3];refine V ?_;refine I [] i ?_;refine I [0] J ?_;exact zbO
    |false =>
     rw[G]at i m
     cases H:((bO p).take k).contains x with
     |true =>
      rw[H]at B m;subst m;rw[ai ze3];refine zee ?_;refine I [0] J ?_;exact zbO
     |false =>
      rw[H]at B m;subst m;rw[ab ze3];refine zee ?_;exact zbO
   ·rintro _ _⟨S,n,A,rfl,rfl,e,C⟩;rw[l];exact oA
open Go.Xp (T be aP)
def xV{l:List T}{t:T}(h:t∈l):be t<=aP l:=by
 have⟨k,N⟩:=getElem?_of_mem h;have:=oy N;omega
def yO{p:Src}(h:fI p=false):fk p=false:=by unfold fk;rw[h];rfl
def wT{p:Src}{l:List T}(h:fI p=true)(M:cD p l):fk p=((wI p l).1==0):=by
 unfold fk;rw[h,M.r8];simp only[Bool.true_and];rfl
def AQ(p:Src)(q:cH p<=1048576)(hn:iN p):GF prog 44 [.agg (aB p)] [] (.v (.bool (fk p))) []:=by
 have⟨⟨a1,F⟩,⟨r,s⟩,⟨u,R⟩,⟨E,W⟩⟩:=gg p;have O:=nY p q hn
 cases m:fI p with
 |false =>
  rw[m]at O;have:=Lg p _ _ (BJ p O);rw[yO m];exact this
 |true =>
  rw[m]at O;have⟨l,M⟩:=jH m;have c:=eo.len M.av;have k:=lU p;have N:=wE M
  have X:=zi p l (bO p) L c L O (pY p q) (CB p L L fun a z=>⟨(N a z).1,by have:=(N a z).2;omega⟩) fun i f t o b=>by
   have⟨w,_⟩:=eo.at_ M.av i f t o b;have Q:=cJ.ix l 0 i _ M.st b;rw[dy]at w Q
   have j:f.body.toNat=aP (l.take i):=by rw[w,eV]
   have A:=xV (bN b);exact zbD
  rw[wT m M];exact Lg p _ _ X
def Nt(p:Src)(s:cH p<=1048576):∃c z,GF prog 80 [.agg (aB p)] [] (.tup [y4 c,y4 z]) []/\(c==0)=fk p:=by
 have⟨⟨a1,F⟩,⟨B,C⟩,⟨E,S⟩,⟨H,W⟩⟩:=gg p;have O:=tI p s
 cases m:fI p with
 |false =>
  rw[m]at O;exact⟨_,_,J4 p O,by rw[yO m];rfl⟩
 |true =>
  rw[m]at O;have⟨l,M⟩:=jH m;have d:=eo.len M.av;have N:=wE M
  have q:∀a∈p.aq,0<=a.size/\a.size<=2147483648:=fun a w=>⟨(N a w).1,by have:=(N a w).2;omega⟩
  have⟨J,u⟩:=M.CT
  have T:=fun k=>D5 p y6 k L q fun h=>CL p y6 k L L q h
  have Y:=M.len
  have X:=Iv p l _ _ d L L L (fun f h=>by have:=(S f h).2.1;omega) (fun t Q=>by have:=xV Q;omega) O (Jm p s) (T _) fun i f t r b=>by
   have⟨A,_⟩:=eo.at_ M.av i f t r b;have R:=cJ.ix l 0 i _ M.st b;rw[dy]at A R;rw[A];exact C5 p (fun n h=>by have:=(W n h).2;omega) _ _ t ((vr _).1 t _ R (a8 _))
  have G:=Tx (p:=p) (l:=l) (fun a w=>(N a w).1) (fun t Q=>by have⟨i,j⟩:=getElem?_of_mem Q;exact(u.wf j).1)
  have e:((Kx p l).code==0)=fk p:=by
   rw[wT m M]
   by_cases o:(wI p l).1=0
   ·rw[o,G.1 o]
   ·have r:(Kx p l).code≠0:=fun e=>o (G.2 e)
    rw[show((wI p l).1==0)=false by simpa using o,show((Kx p l).code==0)=false by simpa using r]
  exact⟨_,_,X,e⟩
def Vu(p:Src)(N:∀n∈p.ae,n.aw.length<=1000000000000)(f:Go.Sp.Fn)(t:T)(i:0<=f.body)(r:dr p.ae f.body.toNat t):GF prog 120 [.agg (aB p),y4 f.body] [] (.agg (cT t)) []:=by
 have:=C5 p N _ _ t ((vr _).1 t _ r (a8 _))
 rwa[Int.toNat_of_nonneg i]at this
end Go.Xg
namespace Go.Xg
open Go.RowKit Go.Xw Go.Proofs Go.Im
open Go.Xp (Ar)
attribute [local irreducible] GW GL GO D GC GA bo bn
def sH:∀l:List Ar,iz (l.map bb)=true
 |[]=>rfl
 |a::l=>by
  have:=sH l;exact zdR
def Ez:∀l:List Int,iz (l.map fun i=>[GV.v (ii i)])=true
 |[]=>rfl
 |a::l=>by
  have:=Ez l;exact zdR
end Go.Xg
namespace Go.Xg
open Go.RowKit Go.Xw Go.Proofs Tryz Go.Im
open GV (U)
open Go.Xp (Nd T be aP dU fR cv ki bm qe lH)
theorem z8:∀(X A k:ap),X.length<=k.length->eC (A++X) (List.range' A.length X.length) k=A++k
 |[],A,k,h=>by
  simp[eC]
 |x::X,A,[],h=>by simp at h
 |x::X,A,y::k,h=>by
  rw[length_cons,List.range'_succ,eC]
  have e:oset (A++x::X) A.length y=(A++[y])++X:=by rw[v7];simp
  have:=z8 X (A++[y]) k ze2
  grind
section
variable{P:Program}{m:Nat}{Q:dQ}{fr:am}{Γ:ap}{ops:Array Oper}{rest:List Oper}{d:Option Tmp}{op:Op}{ty:TypeId}{pos:String}{af:Array Edge}
theorem GL.AF{f:FuncId}[hf:fQ P f](A X:ap){args:List Operand}{T:Array TypeId}{gs:am}{R:GV->ap->Prop}(W:GC P f gs X R)(o:Γ=A++X)(q:∀x∈X,x.kl=true)(s:∀r,Go.Xg.iR r gs=gs)(ha:lC (args.map (bf fr)) gs)
  (h:∀g k,R g k->X.length<=k.length/\(∀x∈k,x.kl=true)/\(∀r,dC r g=g)/\GL P m ops Q rest (bI fr d g) (A++k)) :
  GL P m ops Q (⟨d,.call ⟨.value (.func f),args.toArray,T⟩,ty,pos,af,none⟩::rest) fr Γ:=by
 subst o
 refine GL.I0 (List.range' A.length X.length) W (by rw[s];exact ha) (F8 _ _ _ ze3) ?_ fun g k v=>?_
 ·have:=z7 (cr (List.range' A.length X.length) (A++X).length) X A [] q
  grind
 grind[List.length_range',HH,z8]
end
def b9(aY:List Nd)(h:Value)(ns:List Value):ap:=.vech 82 5 (List.zipWith db aY ns) h::List.zipWith eT aY ns
structure mP(aY:List Nd)(h:Value)(ns:List Value):Prop where
 head:∃a c,h=.slice a aY.length c
 len:ns.length=aY.length
 kid:∀(i:Nat)x y,aY[i]?=some x->ns[i]?=some y->Hd x.aw.length y
section
variable{aY:List Nd}{h:Value}{ns:List Value}
def j1:∀x∈b9 aY h ns,x.kl=true:=fun x hx=>by
 rcases lp hx with rfl|hx
 ·rfl
 ·exact zed
def j3(H:mP aY h ns):(b9 aY h ns).length=aY.length+1:=by
 unfold b9;rw[length_cons,py,H.len,Nat.min_self]
end
def cZ(x:Nd)(ks:List Int):Nd:=⟨x.aj,x.at_,x.n,x.s,ks⟩
def mP.snoc{aY:List Nd}{h:Value}{ns:List Value}(H:mP aY h ns)(x:Nd){a b:Option Addr}{c d:Nat}:mP (aY++[x]) (.slice a (aY.length+1) c) (ns++[.slice b x.aw.length d]):=by
 refine⟨⟨a,c,by simp⟩,by simp[H.len],fun i y v o e=>?_⟩;have M:=H.len
 rcases Nat.lt_or_ge i aY.length with j|j
 ·rw[gA j]at o;rw[gA L]at e;exact H.kid i y v o e
 grind[Hd]
def yv{aY:List Nd}{ns:List Value}(M:ns.length=aY.length)(x:Nd)(y h:Value):b9 (aY++[x]) h (ns++[y])=.vech 82 5 (List.zipWith db aY ns++[db x y]) h::(List.zipWith eT aY ns++[eT x y]):=by
 unfold b9
 simp_all[List.zipWith_append]
def mP.put{aY:List Nd}{h:Value}{ns:List Value}(H:mP aY h ns){i:Nat}{x:Nd}(hx:aY[i]?=some x)(ks:List Int){b:Option Addr}{d n:Nat}(hn:n=ks.length):mP (aY.set i (cZ x ks)) h (ns.set i (.slice b n d)):=by
 subst hn;have⟨a,c,e⟩:=H.head;refine⟨⟨a,c,by grind⟩,by simp[H.len],fun j y v o k=>?_⟩;rw[eR]at o k
 by_cases S:i=j
 ·rw[ai S]at o k;split at o
  ·cases o;split at k
   ·cases k;exact⟨_,_,rfl⟩
   grind
  grind
 ·rw[ab S]at o k;exact H.kid j y v o k
def uh:∀{aY:List Nd}{ns:List Value}{i:Nat}{x:Nd}(ks:List Int)(y:Value),ns.length=aY.length->aY[i]?=some x->dI (List.zipWith db aY ns) i 4 (.v y)=List.zipWith db (aY.set i (cZ x ks)) (ns.set i y)
 |[],ns,i,x,ks,y,M,h=>by simp at h
 |n::aY,[],i,x,ks,y,M,h=>by simp at M
 |n::aY,v::ns,0,x,ks,y,M,h=>by cases h;rfl
 |n::aY,v::ns,i+1,x,ks,y,M,h=>by
  have:=uh (aY:=aY) (ns:=ns) (i:=i) (x:=x) ks y ze2 ze2;rw[List.zipWith_cons_cons,dI,this];rfl
def uf:∀{aY:List Nd}{ns:List Value}{i:Nat}{x:Nd}(ks:List Int)(y:Value),ns.length=aY.length->aY[i]?=some x->oset (List.zipWith eT aY ns) i (.vech 3 1 (fO ks) y)=List.zipWith eT (aY.set i (cZ x ks)) (ns.set i y)
 |[],ns,i,x,ks,y,M,h=>by simp at h
 |n::aY,[],i,x,ks,y,M,h=>by simp at M
 |n::aY,v::ns,0,x,ks,y,M,h=>by rfl
 |n::aY,v::ns,i+1,x,ks,y,M,h=>by
  have:=uf (aY:=aY) (ns:=ns) (i:=i) (x:=x) ks y ze2 ze2;rw[List.zipWith_cons_cons,oset,this];rfl
def fC(aY:List Nd)(n:Nd)(l:List T)(k:Nat):List Nd:=aY++cZ n (bm (aY.length+1) (l.take k))::cv (aY.length+1) (l.take k)
section
variable{aY:List Nd}{n:Nd}{l:List T}
theorem yY{k:Nat}:(fC aY n l k).length=aY.length+1+aP (l.take k):=by
 grind[bp,length_cons,ki,fC,aP]
def HJ{k:Nat}:(fC aY n l k)[aY.length]?=some (cZ n (bm (aY.length+1) (l.take k))):=by
 simp[fC,cZ,bm]
theorem Cd{k:Nat}{u:T}(h:l[k]?=some u) :
  (fC aY n l k).set aY.length (cZ (cZ n (bm (aY.length+1) (l.take k))) (bm (aY.length+1) (l.take k)++[(((fC aY n l k).length:Nat):Int)]))++fR (fC aY n l k).length u=fC aY n l (k+1):=by
 have e:l.take (k+1)=l.take k++[u]:=by grind[c7]
 rw[yY];unfold fC;rw[List.set_append_right _ _ (a8 _),qs,List.set_cons_zero,e,qe,lH];simp only[bm,cv,gL,cZ,gK,cons_append]
def Ej:fC aY n l l.length=aY++fR aY.length (.mk n l):=by
 simp[cZ,dx,fC,fR]
end
attribute [local irreducible] GW GL GO D GC GA bo bn
def OI:∀(N:Nat)(t:T),be t<=N->∀(aY:List Nd)(h:Value)(ns:List Value),mP aY h ns->aY.length+be t<=8388608 ->
  GC prog 61 [.v h,.agg (cT t)] (b9 aY h ns) fun g Δ=>∃i e,mP (aY++fR aY.length t) i e/\g=.v i/\Δ=b9 (aY++fR aY.length t) i e:=by
 intro N
 induction N with
 |zero=>intro t h;exact zeK
 |succ N ih =>
 intro t hN aY h ns H hb
 cases t with
 |mk n l =>
 rw[Go.Xp.be]at hN hb;have Lv:=dU l;have B:(bq l).length=l.length:=bC l;have Ui:=j3 H;have Ho:=H.len;obtain⟨a0,c0,rfl⟩:=H.head
 have Qf:(List.zipWith db aY ns).length=aY.length:=by grind
 have hOl:(List.zipWith eT aY ns).length=aY.length:=by grind
 have hOk:∀q,oq q (List.zipWith eT aY ns)=true:=fun q=>xQ (q9 (fun _ _=>rfl))
 have Us:=fun(y h:Value)=>yv Ho (cZ n []) y h
 have Z9:=fun(a:Option Addr)(c:Nat)=>H.snoc (cZ n []) (a:=a) (c:=c) (b:=none) (d:=0)
 refine dj func61 ntmps61 ?_;rw[Ui];unfold b9;generalize List.zipWith db aY ns=R at *;generalize List.zipWith eT aY ns=O at *;refine GW.seq ?_;refine GW.region ?_;refine GL.l8 rfl rfl ?_;refine bh ?_;refine pS ?_;refine GL.Y6 rfl rfl rfl rfl rfl rfl ?_;refine bh ?_
 have hq:∀x:Ob,(x::O).length=O.length+1:=fun x=>rfl
 simp only[hq,cons_append]
 have w:∀x y:Ob,(x::(O++[y]))[O.length+1]?=some y:=fun x y=>Ts (x::O) [] y
 have Lz:∀x y z:Ob,oset (x::(O++[y])) (O.length+1) z=x::(O++[z]):=fun x y z=>v7 (x::O) [] y z
 refine V ?_;refine GL.st rfl (w _ _) rfl rfl rfl rfl ?_;refine qw ru (Lz _ _ _) ?_;refine V ?_;refine GL.q (D.OO rfl (w _ _) rfl rfl) ?_;refine bh ?_;refine GL.jw 0 rfl rfl rfl rfl rfl rfl rfl rfl Qf ll ?_;intro a1 c1;refine zbt ?_;refine GW.range (bq l).length (fun k fr Γ=>∃i e,fr=.v i::U::U::.box (cT (.mk n l)) 0::U::y4 (aY.length:Nat)::zU 13 (.sl 6 (bq l)::y4 ((bq l).length:Int)::y4 (k:Nat)::zU 21 [])/\mP (fC aY n l k) i e/\Γ=b9 (fC aY n l k) i e) ?_ L ?_ ?_ ?_
 ·have e0:fC aY n l 0=aY++[cZ n []]:=by rfl
  rw[e0];refine⟨_,_,((Wk.Rz (A:=_::O) rfl ze2 (fun q=>by simp only[oq,hOk];rfl)).trans (Wk.eS 3 1)).trans (Wk.a6 aC),_,ns++[.slice none 0 0],rfl,Z9 a1 c1,?_⟩;rw[Us];rfl
 ·rintro k _ _⟨i,e,rfl,_,rfl⟩;exact dS
 ·rintro k _ _ F⟨i,e,rfl,o,rfl⟩;rw[B]at F;obtain⟨u,hu⟩:∃u,l[k]?=some u:=⟨l[k],by simp[F]⟩;have hr:=dK hu;have rI:=oy hu;have hMl:=yY (aY:=aY) (n:=n) (l:=l) (k:=k);have j:=HJ (aY:=aY) (n:=n) (l:=l) (k:=k);have hMn:=Cd (aY:=aY) (n:=n) hu;rw[<-hMn];obtain⟨a2,c2,rfl⟩:=o.head;have r:=o.len;obtain⟨y,hy⟩:∃y,e[aY.length]?=some y:=⟨e[aY.length]'L,cY _⟩;obtain⟨Z,c3,rfl⟩:=o.kid _ _ _ j hy
  have J:=fun(a:Option Addr)(c:Nat)=>o.put j (bm (aY.length+1) (l.take k)++[(((fC aY n l k).length:Nat):Int)]) (b:=a) (d:=c) (n:=(bm (aY.length+1) (l.take k)).length+1) ze3
  have DU:=fun(y:Value)=>uh (bm (aY.length+1) (l.take k)++[(((fC aY n l k).length:Nat):Int)]) y r j
  have G:=fun(y:Value)=>uf (bm (aY.length+1) (l.take k)++[(((fC aY n l k).length:Nat):Int)]) y r j
  have S:(List.zipWith db (fC aY n l k) e)[aY.length]?=some (db (cZ n (bm (aY.length+1) (l.take k))) (.slice Z (bm (aY.length+1) (l.take k)).length c3)):=by grind[cZ]
  have E:(List.zipWith eT (fC aY n l k) e)[aY.length]?=some (.vech 3 1 (fO (bm (aY.length+1) (l.take k))) (.slice Z (bm (aY.length+1) (l.take k)).length c3)):=by rw[getElem?_zipWith,j,hy];rfl
  have hli:aY.length<(List.zipWith db (fC aY n l k) e).length:=by grind
  have wy:(fO (bm (aY.length+1) (l.take k))).length=(bm (aY.length+1) (l.take k)).length:=by simp[fO]
  have Ls:fO (bm (aY.length+1) (l.take k)++[(((fC aY n l k).length:Nat):Int)])=fO (bm (aY.length+1) (l.take k))++[[y4 ((fC aY n l k).length:Nat)]]:=by simp[fO]
  have Lt:(bm (aY.length+1) (l.take k)).length<=8388608:=by
   grind[Go.Xp.cW]
  rw[Ls]at G
  have C:=fun(h:Value)(X:List Value)Y=>ih u L ((fC aY n l k).set aY.length (cZ (cZ n (bm (aY.length+1) (l.take k))) (bm (aY.length+1) (l.take k)++[(((fC aY n l k).length:Nat):Int)]))) h X Y ze2
  rw[length_set]at C;unfold b9;generalize Xt:bm (aY.length+1) (l.take k)=W at *;generalize hM:fC aY n l k=M at *;generalize hM2:M.set aY.length (cZ (cZ n W) (W++[((M.length:Nat):Int)]))=M2 at *
  have s:∀x:Ob,(x::List.zipWith eT M e)[aY.length+1]?=some (.vech 3 1 (fO W) (.slice Z W.length c3)):=fun x=>E
  generalize List.zipWith eT M e=O2 at *;generalize List.zipWith db M e=R2 at *;unfold db cZ at S;refine za6 ?_;refine GL.jw (aY.length+1) rfl rfl rfl rfl rfl rfl rfl (s _) wy ll ?_;intro a4 c4;refine qw ru (by simp only[oset];rw[G]) ?_;refine V ?_;refine tE ?_;simp only[dy];rw[DU];have Y:=J a4 c4;have zA:=j3 Y;refine V ?_;refine GL.AF [] (b9 M2 (.slice a2 M.length c2) (e.set aY.length (.slice a4 (W.length+1) c4))) (C _ _ Y) rfl j1 (fun _=>rfl) (nX) ?_;rintro _ _⟨h5,Mh,H5,rfl,rfl⟩;have hl5:=j3 H5;rw[bp]at hl5;refine⟨by omega,j1,fun _=>rfl,?_⟩;exact zdy
 ·rintro _ _⟨i,e,rfl,o,rfl⟩;rw[B]at o |-;rw[Ej]at o |-;have aaw:=j3 o;refine bg ?_;unfold b9;refine zew ?_;refine qb (n:=(b9 (aY++fR aY.length (.mk n l)) i e).length) rfl ze3 rfl ze2 ?_ rfl ?_
  ·exact zeH
  ·show ∃h2 X,_/\_/\List.take _ (b9 _ _ _)=_;rw[dx];exact⟨i,e,o,rfl,rfl⟩
end Go.Xg
set_option maxHeartbeats 2000000
namespace Go.Xg
open Go.RowKit Go.Xw Go.Proofs Go.Im
open Go.Xp (Nd)
open Go.Sp (Src)
def Tr{A X C:ap}{j:Nat}(h:j<X.length):(A++(X++C))[A.length+j]?=X[j]?:=by
 rw[hO L,Nat.add_sub_cancel_left,gA h]
def G6(p:Src)(i:Nat):Go.Sp.Fn:=(p.av[i]?).getD ⟨[],[],0⟩
def HL(p:Src)(i:Nat):Nd:=(p.ae[i]?).getD ⟨0,0,0,[],[]⟩
def tD(l:List Value)(i:Nat):Value:=(l[i]?).getD undef
section
variable{B:Bs}{K:Fz}{β:Bt}{w:World}
def MN{Γ:ap}{s:Nat}{p:Src}{hg ha hf hn:Value}{fs ns:List Value}(H:Dg p hg ha hf hn fs ns)(G:∀(i:Nat)x,(qm p hg ha hf hn fs ns)[i]?=some x->Γ[s+i]?=some x)(hI:Inv B K β Γ w) :
  ∃t bE,c6 K t/\Inv B t β bE w/\bu t (fun _=>.no) [hg,ha,hf,hn] (aB p)/\∀q,q<s\/s+(qm p hg ha hf hn fs ns).length<=q->bE[q]?=Γ[q]?:=by
 have⟨_,_,_,_,hfl,Ho,_,_⟩:=H
 have d:(List.zipWith rn p.av fs).length=p.av.length:=by rw[py];omega
 have M:(List.zipWith eT p.ae ns).length=p.ae.length:=by rw[py];omega
 have n:(qm p hg ha hf hn fs ns).length=4+p.av.length+p.ae.length:=by simp[qm,d,M];omega
 have k:∀i,i<p.av.length->p.av[i]?=some (G6 p i)/\fs[i]?=some (tD fs i):=fun i c=>by
  unfold G6 tD;rw[cY c,cY (show i<fs.length by omega)];exact zai
 have m:∀i,i<p.ae.length->p.ae[i]?=some (HL p i)/\ns[i]?=some (tD ns i):=fun i c=>by
  unfold HL tD;rw[cY c,cY (show i<ns.length by omega)];exact zai
 have Z:Γ[s+0]?=some (.vech 9 1 (bs p.au) hg):=G 0 _ rfl;have g1:Γ[s+1]?=some (.vech 79 2 (p.aq.map bb) ha):=G 1 _ rfl;have g2:Γ[s+2]?=some (.vech 53 3 (List.zipWith rp p.av fs) hf):=G 2 _ rfl
 have gF:∀i,i<p.av.length->Γ[s+(3+i)]?=some (.vech 9 1 (bs (G6 p i).params) (tD fs i)):=fun i c=>G _ _ <|by
  unfold qm;rw[show 3+i=i+1+1+1 by omega,getElem?_cons_succ,getElem?_cons_succ,getElem?_cons_succ,gA L,vA (k i c).1 (k i c).2];rfl
 have g3:Γ[s+(3+p.av.length)]?=some (.vech 82 5 (List.zipWith db p.ae ns) hn):=G _ _ <|by
  unfold qm;rw[show 3+p.av.length=p.av.length+1+1+1 by omega,getElem?_cons_succ,getElem?_cons_succ,getElem?_cons_succ,hO L,d,qs];rfl
 have gN:∀i,i<p.ae.length->Γ[s+(4+p.av.length+i)]?=some (.vech 3 1 (fO (HL p i).aw) (tD ns i)):=fun i c=>G _ _ <|by
  unfold qm;rw[show 4+p.av.length+i=(p.av.length+(i+1))+1+1+1 by omega,getElem?_cons_succ,getElem?_cons_succ,getElem?_cons_succ,hO L,d,Nat.add_sub_cancel_left,getElem?_cons_succ,vA (m i c).1 (m i c).2];rfl
 obtain⟨t,Γ1,S,k1,i1,dM,l1,r1,r⟩:=hI.zb (jf:=s+2) (N:=p.av.length) (o:=1) (E:=9) (k':=1) (raw:=fun i=>rp (G6 p i) (tD fs i)) (fin:=fun i=>aI (G6 p i)) (ks:=fun i=>bs (G6 p i).params) (hd:=fun i=>tD fs i) (jp:=fun i=>s+(3+i)) g2
  ⟨by rw[py];omega,fun i c=>vA (k i c).1 (k i c).2⟩ (fun i c=>⟨rfl,rfl⟩) gF (fun i c=>by omega) (fun i j _ _ h=>by omega)
 obtain⟨K2,e,T,k2,i2,kZ,l2,r2,v⟩:=i1.zb (jf:=s+(3+p.av.length)) (N:=p.ae.length) (o:=4) (E:=3) (k':=1) (raw:=fun i=>db (HL p i) (tD ns i)) (fin:=fun i=>aR (HL p i)) (ks:=fun i=>fO (HL p i).aw) (hd:=fun i=>tD ns i) (jp:=fun i=>s+(4+p.av.length+i))
  (by rw[r _ L fun i c=>by omega];exact g3) ⟨by rw[py];omega,fun i c=>vA (m i c).1 (m i c).2⟩ (fun i c=>⟨rfl,rfl⟩) (fun i c=>by rw[r _ L fun j hj=>by omega];exact gN i c) (fun i c=>by omega) (fun i j _ _ h=>by omega)
 have W:S=p.av.map aI:=by
  apply ext_getElem?;intro i
  by_cases c:i<p.av.length
  ·rw[r1 i c,dR,(k i c).1];rfl
  ·exact zeI
 have Y:T=p.ae.map aR:=by
  apply ext_getElem?;intro i
  by_cases c:i<p.ae.length
  ·rw[r2 i c,dR,(m i c).1];rfl
  ·exact zeI
 rw[W]at dM;rw[Y]at kZ
 have z:e[s+2]?=some (.vech 53 3 (p.av.map aI) hf):=by rw[v _ L fun i c=>by omega];exact dM
 have F:e[s+0]?=some (.vech 9 1 (bs p.au) hg):=by rw[v _ L fun i c=>by omega,r _ L fun i c=>by omega];exact Z
 have J:e[s+1]?=some (.vech 79 2 (p.aq.map bb) ha):=by rw[v _ L fun i c=>by omega,r _ L fun i c=>by omega];exact g1
 have⟨K3,k3,q0,i3⟩:=i2.nW F;obtain⟨K4,Q,q1,i4⟩:=i3.nW (i:=s+1) (by rw[bD,eR,ab L];exact J);obtain⟨K5,O,q2,i5⟩:=i4.nW (i:=s+2) (by rw[bD,bD,eR,ab L,eR,ab L];exact z);obtain⟨R,u,q3,i6⟩:=i5.nW (i:=s+(3+p.av.length)) (by rw[bD,bD,bD,eR,ab L,eR,ab L,eR,ab L];exact kZ);have b:dJ β β:=dJ.refl β;refine⟨R,_,k1.trans (k2.trans (k3.trans (Q.trans (O.trans u)))),i6,.cons ((q0.mono (Q.trans (O.trans u)) b).pc rfl) (.cons ((q1.mono (O.trans u) b).pc rfl) (.cons ((q2.mono u b).pc rfl) (.cons (q3.pc rfl) .nil))),fun q hq=>?_⟩;rw[n]at hq;rw[bD,bD,bD,bD,eR,ab L,eR,ab L,eR,ab L,eR,ab L,v q L fun i c=>by omega,r q L fun i c=>by omega]
def Pu{A C:ap}{p:Src}{hg ha hf hn:Value}{fs ns:List Value}(H:Dg p hg ha hf hn fs ns)(j:Inv B K β (A++(qm p hg ha hf hn fs ns++C)) w) :
  ∃O,c6 K O/\mo O w/\kH O (fun _=>.no) w/\bu O (fun _=>.no) [hg,ha,hf,hn] (aB p):=by
 obtain⟨O,v,o,b,G,-⟩:=MN H (fun i x h=>by rw[Tr (b6 h).1];exact h) j;exact⟨O,o,b.fz,b.Zd,G⟩
end
def yC{K:Fz}{β:Bt}{v a b c d:Value}(h:Rel K β v (.agg [.v a,.v b,.v c,.v d])):v=.agg #[a,b,c,d]:=by
 cases h with
 |agg m O M h =>
  match m,M with
  |[x,y,z,u],_ =>
   rw[Rel.eE (h 0 x _ rfl rfl),Rel.eE (h 1 y _ rfl rfl),Rel.eE (h 2 z _ rfl rfl),Rel.eE (h 3 u _ rfl rfl)]
def NI{K:Fz}{a b c d:Value}{gs:am}(h:bu K (fun _=>.no) [a,b,c,d] gs):Rel K (fun _=>.no) (.agg #[a,b,c,d]) (.agg gs):=.agg [a,b,c,d] gs h.1 h.2
section
variable{B:Bs}{K:Fz}{β:Bt}{w:World}{l:List Value}{fr:am}{A C X:ap}{p:Src}{hg ha hf hn:Value}{fs ns:List Value}
def FH{x:Operand}(H:Dg p hg ha hf hn fs ns)(i:Inv B K β (A++(qm p hg ha hf hn fs ns++C)) w)(Q:FR K β fr l)(hx:bf fr x=.agg [.v hg,.v ha,.v hf,.v hn]) :
  ∃O,mo O w/\kH O (fun _=>.no) w/\bu O (fun _=>.no) ([x].map (ev l)) [.agg (aB p)]:=by
 have⟨O,_,o,b,G⟩:=Pu H i;have z:=Q.ev x;rw[hx]at z;have e:=yC z;refine⟨O,o,b,?_⟩;show bu O _ [ev l x] _;rw[e];exact .cons (NI G) .nil
def BQ(p:Src):∀g∈aB p,g.pc=true:=fun g hg=>by
 simp only[aB,List.mem_cons,List.not_mem_nil,or_false]at hg
 rcases hg with rfl|rfl|rfl|rfl<;>rfl
end
end Go.Xg
namespace Go.Xg
open Go.RowKit Go.Xw Go.Proofs
open Go.Xp (Nd)
def Mz{K S:Fz}{β fX:Bt}{vs:List Value}{gs:am}(h:bu K β vs gs)(hg:∀g∈gs,∃x,g=.v x):bu S fX vs gs :=
 ⟨h.1,fun i v g o b=>by
  obtain⟨x,rfl⟩:=hg g (bN b)
  rw[Rel.eE (h.2 i v _ o b)];exact .v _⟩
def Ob.D2:Ob->Prop
 |.vech _ _ H _=>∀r∈H,∀g∈r,∃x,g=GV.v x
 |_=>False
def Km:Ob->Bk
 |.vech _ _ H x=>.gr x H.length
 |_=>.no
def jo(N:ap):Bt:=fun i=>match N[i]? with
 |some x=>Km x
 |none=>.no
structure Pk(N:ap)(h:Nat->Option Obj):Prop where
 plain:∀x∈N,x.D2
 dis:∀i j b,(jo N i).has b->(jo N j).has b->i=j
 dom:∀b,(h b).isSome=true↔∃i,(jo N i).has b
 own:∀w:World,(∀b o,h b=some o->w.heap[b]?=some o)->∀(i:Nat)E k rows x,N[i]?=some (.vech E k rows x)->gR k rows/\∃xs,iw w 0 E k x rows.length xs/\bu (fun _ _=>none) (fun _=>.no) xs rows.flatten
abbrev blob(N:ap):Ob:=.blob (Pk N)
def uK{N:ap}{i:Nat}{x:Ob}(h:N[i]?=some x):jo N i=Km x:=by grind[jo]
theorem zp{N:ap}{i:Nat}(h:N.length<=i):jo N i=.no:=by grind[jo]
def EA{w w':World}{base e k:Nat}{v:Value}{n:Nat}{xs:List Value}(h:iw w base e k v n xs)(G:∀b o,v.ownBlock=some b->w.heap[b]?=some o->w'.heap[b]?=some o):iw w' base e k v n xs:=by
 have⟨q,d⟩:=h;refine⟨q,?_⟩
 rcases d with d|⟨g,c,cur,rfl,i,X,r⟩
 ·grind
 ·exact .inr ⟨g,c,cur,rfl,i,G g _ rfl X,r⟩
def Pk.ob{N:ap}{h:Nat->Option Obj}{K:Fz}{β:Bt}{w:World}{i j:Nat}{x:Ob}(W:Pk N h)(Y:∀b o,h b=some o->w.heap[b]?=some o/\∀j,K b j=none)(hx:N[j]?=some x)(t:β i=jo N j):gV K β w i x:=by
 have c:=W.plain x (bN hx)
 cases x with
 |vech E k H v =>
  obtain⟨q,Z,d,G⟩:=W.own w (fun b o l=>(Y b o l).1) j E k H v hx;refine⟨Z,by rw[t,uK hx];rfl,d,Mz G (fun g X=>?_),q,fun b l o=>?_⟩
  ·have⟨r,z,s⟩:=List.mem_flatten.1 X;exact c r z g s
  ·have:(h b).isSome=true:=(W.dom b).2 ⟨j,by rw[uK hx];exact l⟩
   grind[Option.isSome_iff_exists]
 |_=>exact c.elim
def HS{K:Fz}{β:Bt}{w:World}{N:ap}(s:Nat)(C:∀x∈N,x.D2)(A:∀(j:Nat)x,N[j]?=some x->gV K β w (s+j) x)(hd:∀i j b,(β i).has b->(β j).has b->i=j) :
  ∃h:Nat->Option Obj,(∀b o,h b=some o->w.heap[b]?=some o/\∀j,K b j=none)/\Pk N h/\∀b,(h b).isSome=true->∃j,j<N.length/\(β (s+j)).has b:=by
 classical
 have R:∀j,j<N.length->β (s+j)=jo N j:=fun j Y=>by
  have hx:N[j]?=some N[j]:=cY Y;have W:=C _ (bN hx);have q:=A j _ hx;rw[uK hx];generalize N[j]=x at *
  cases x with
  |vech E k H v=>have⟨X,u,_⟩:=q;exact u
  |_=>exact W.elim
 have O:∀j b,(jo N j).has b->j<N.length:=fun j b l=>by
  rcases Nat.lt_or_ge j N.length with h|h
  ·exact h
  ·rw[zp h]at l;exact l.elim
 have M:∀j b,(jo N j).has b->b<w.heap.size:=fun j b l=>by
  have Y:=O j b l;exact(A j _ (cY Y)).lt ze2
 refine⟨fun b=>if ∃j,(jo N j).has b then w.heap[b]? else none,fun b o l=>?_,⟨C,fun i j b S Y=>?_,fun b=>?_,fun T Z i E k H x hx=>?_⟩,fun b l=>?_⟩
 ·simp only at l;split at l
  ·rename_i Y;refine⟨l,fun o=>?_⟩;have⟨j,Y⟩:=Y;have n:=O j b Y;have hx:N[j]?=some N[j]:=cY n;have W:=C _ (bN hx);have q:=A j _ hx;rw[uK hx]at Y;generalize N[j]=x at *
   cases x with
   |vech E k H v=>have⟨X,_,_,_,_,e⟩:=q;exact e b Y o
   |_=>exact W.elim
  grind
 ·grind
 ·constructor
  ·grind
  ·rintro⟨j,Y⟩;rw[ai ⟨j,Y⟩]
   grind
 ·have W:=C _ (bN hx);have⟨X,u,c,G,F,_⟩:=A i _ hx;refine⟨F,X,EA c fun b o l J=>Z b o ?_,Mz G fun g d=>?_⟩
  ·show(if ∃j,(jo N j).has b then w.heap[b]? else none)=some o;rw[ai ⟨i,by grind[Bk.has,jo]⟩];exact J
  ·have⟨r,z,t⟩:=List.mem_flatten.1 d;exact W r z g t
 grind
section
variable{B:Bs}{K:Fz}{β:Bt}{Γ:ap}{w:World}
theorem Inv.unpack{i:Nat}{N:ap}(k:Inv B K β Γ w)(o:Γ[i]?=some (blob N)) :
  ∃fX,dJ β fX/\(∀j,j<N.length->fX (Γ.length+j)=jo N j)/\(∀j b,(fX j).has b->∃q,(β q).has b)/\Inv B K fX (oset Γ i .gone++N) w:=by
 have⟨h,e,n,W⟩:=k.ob i _ o;have t:=(b6 o).1
 have R:∀b,(β i).has b↔(h b).isSome=true:=fun b=>by grind[Bk.has]
 have z:(oset Γ i .gone).length=Γ.length:=by grind[bD]
 have Z:∀j,j<Γ.length->(if j<Γ.length then(if j=i then Bk.no else β j)else jo N (j-Γ.length))=if j=i then Bk.no else β j:=fun j Y=>ai Y
 have G:∀j,Γ.length<=j->(if j<Γ.length then(if j=i then Bk.no else β j)else jo N (j-Γ.length))=jo N (j-Γ.length):=fun j Y=>ab L
 have O:dJ β (fun j=>if j<Γ.length then(if j=i then Bk.no else β j)else jo N (j-Γ.length)):=fun j=>by
  rcases Nat.lt_or_ge j Γ.length with Y|Y
  ·simp only[Z j Y]
   by_cases u:j=i
   ·grind[kb]
   simp_all[ab,kb.refl]
  ·rw[k.out j Y];trivial
 have E:∀j b,(jo N j).has b->(β i).has b:=fun j b l=>(R b).2 ((W.dom b).2 ⟨j,l⟩)
 have d:∀j b,((fun j=>if j<Γ.length then(if j=i then Bk.no else β j)else jo N (j-Γ.length)) j).has b->(j<Γ.length/\j≠i/\(β j).has b)\/(Γ.length<=j/\(jo N (j-Γ.length)).has b):=fun j b l=>by
  grind[Bk.has,jo]
 have J:∀j b,((fun j=>if j<Γ.length then(if j=i then Bk.no else β j)else jo N (j-Γ.length)) j).has b->∃q,(β q).has b:=fun j b l=>by
  grind
 generalize T:(fun j=>if j<Γ.length then(if j=i then Bk.no else β j)else jo N (j-Γ.length))=fX at *;refine⟨fX,O,fun j Y=>?_,J,k.ext,k.kle,k.ble.trans O,k.loc,k.fz,fun j x Y=>?_,fun j Y=>?_,fun a c b v X=>?_,fun j b Y=>?_,k.kn,k.tab.step (S:=gx) (Ext.refl w) (fun _ h=>h.elim) (c6.refl K) (fun j b Y=>.inl (J j b Y))⟩
 ·grind
 ·rcases Nat.lt_or_ge j Γ.length with s|s
  ·rw[gA L,bD,eR]at Y
   by_cases u:i=j
   ·grind[gV]
   ·rw[ab u]at Y;exact(k.ob j x Y).ext (S:=gx) (Ext.refl w) (fun _ _ h=>h) (c6.refl K) O ze2 (fun _ _ _ h=>h)
  ·rw[hO L,z]at Y;exact W.ob n Y ze2
 ·grind[zp]
 ·rcases d a b v with⟨a1,F,A⟩|⟨a1,F⟩<;>rcases d c b X with⟨r,M,C⟩|⟨r,M⟩
  ·exact k.dis a c b A C
  ·exact absurd (k.dis a i b A (E _ b M)) F
  ·exact absurd (k.dis c i b C (E _ b F)) M
  ·have:=W.dis _ _ b F M;omega
 ·have⟨q,J⟩:=J j b Y;exact k.own q b J
end
section
variable{P:Program}{m:Nat}{fr:am}{Γ:ap}
def Wk.unpack(i:Nat){N:ap}(o:Γ[i]?=some (blob N)):Wk m fr Γ fr (oset Γ i .gone++N):=fun B K β w l R j O=>by
 have⟨u,q,_,_,C⟩:=j.unpack o;exact⟨K,u,C,O.mono (c6.refl K) q⟩
theorem Wk.pack(A N:ap)(v:Γ=A++N)(M:m<=A.length)(F:∀x∈N,x.D2)(H:qh A.length A=true):Wk m fr Γ (rW A.length fr) (A++[blob N]):=fun B K β w l R q O=>by
 have E:∀(j:Nat)x,N[j]?=some x->Γ[A.length+j]?=some x:=fun j x Y=>by grind
 obtain⟨h,X,Z,T⟩:=HS (K:=K) (β:=β) (w:=w) A.length F (fun j x Y=>q.ob _ x (E j x Y)) q.dis
 have d:Γ.take A.length=A:=by grind
 have W:=q.cut (n:=A.length) L ze2;rw[d]at W;have t:dD (below A.length) β A.length=.no:=sI (uI (a8 _));have C:dJ (dD (below A.length) β) (fP (dD (below A.length) β) A.length (.set fun b=>(h b).isSome=true)):=iT zfg
 have r:∀b,(h b).isSome=true->∀i,¬(dD (below A.length) β i).has b:=fun b u i k=>by
  have⟨j,_,Y⟩:=T b u
  by_cases s:i<A.length
  ·rw[pN (sy s)]at k;have:=q.dis i _ b k Y;omega
  ·rw[sI (uI L)]at k;cases k
 refine⟨K,fP (dD (below A.length) β) A.length (.set fun b=>(h b).isSome=true),?_,(O.res).mono (c6.refl K) C⟩;refine⟨W.ext,W.kle,W.ble.trans C,W.loc,W.fz,fun i z k=>?_,fun i k=>?_,fun i J b k Y=>?_,fun i b k=>?_,W.kn,⟨W.tab.le,W.tab.pow,W.tab.spc,fun i b k=>?_⟩⟩
 ·by_cases G:i<A.length
  ·rw[gA L]at k;exact(W.ob i z k).ext (S:=gx) (Ext.refl w) (fun _ _ h=>h) (c6.refl K) C (cM L) (fun _ _ _ h=>h)
  grind[gV,fP,dD,below]
 ·grind[bp,List.length_singleton,cM,sI,uI]
 ·by_cases o:i=A.length<;>by_cases c:J=A.length
  ·omega
  ·subst o;rw[bV]at k;rw[cM c]at Y;exact absurd Y (r b k J)
  ·subst c;rw[bV]at Y;rw[cM o]at k;exact absurd k (r b Y i)
  ·rw[cM o]at k;rw[cM c]at Y;exact W.dis i J b k Y
 ·rcases mU k with o|o
  ·have⟨j,_,Y⟩:=T b o;exact q.own _ b Y
  ·exact W.own i b o
 ·rcases mU k with o|o
  ·have⟨j,_,Y⟩:=T b o;exact q.tab.free _ b Y
  ·exact W.tab.free i b o
end
def GC.blob{P:Program}{f:FuncId}{gs:am}{N:ap}{R:GV->ap->Prop}(hc:GC P f gs N R)(hR:∀g F,R g F->(∀x∈F,x.D2)/\∃x,g=.v x) :
  GC P f gs [Go.Xg.blob N] fun g F=>∃X,R g X/\F=[Go.Xg.blob X]:=fun B K β w Z hB l hF=>by
 have⟨h,e,hh,T⟩:=l.ob 0 _ rfl
 have M:∀b,(β 0).has b↔(h b).isSome=true:=fun b=>by grind[Bk.has]
 have Y:∀j b,(jo N j).has b->(β 0).has b:=fun j b n=>(M b).2 ((T.dom b).2 ⟨j,n⟩)
 have O:dJ β (fun j=>jo N j)->bu K (jo N) Z gs:=fun n=>hF.mono (c6.refl K) n
 have DS:∀i,0<i->β i=.no:=fun i c=>l.out i c
 have H:dJ β (jo N):=fun j=>by
  grind[kb,jo]
 have J:Inv (cur K (jo N) N w) K (jo N) N w :=
  ⟨Ext.refl w,c6.refl K,dJ.refl _,fun i c=>zp c,l.fz,fun i x hx=>T.ob hh hx rfl,fun i c=>zp c,T.dis,fun i b n=>.inl ⟨i,n⟩,fun _ _ _ h=>.inl h,l.tab.step (S:=gx) (Ext.refl w) (fun _ h=>h.elim) (c6.refl K) (fun j b q=>.inl ⟨0,Y j b q⟩)⟩
 refine(hc _ K (jo N) w Z rfl J (O H)).mono ?_;rintro v w'⟨G,A,g,s,d,hr,t⟩;obtain⟨W,x,rfl⟩:=hR g s t;obtain⟨C,hh',XE,hd'⟩:=HS (K:=G) (β:=A) (w:=w') 0 W (fun j x q=>by rw[dy];exact d.ob j x q) d.dis
 have u:∀b,(C b).isSome=true->∃j,(A j).has b:=fun b n=>by grind
 have k:∀b,blocks (jo N) b->(β 0).has b:=fun b ⟨j,q⟩=>Y j b q
 refine⟨G,fun i=>if i=0 then .set (fun b=>(C b).isSome=true)else .no,.v x,[Go.Xg.blob s],?_,hr.pc rfl,s,t,rfl⟩
 have E:∀i b,((fun i=>if i=0 then Bk.set (fun b=>(C b).isSome=true)else .no) i).has b->i=0/\(C b).isSome=true:=fun i b n=>by
  simp only at n;split at n
  ·rename_i c;exact⟨c,n⟩
  ·exact n.elim
 refine⟨l.ext.step d.ext (fun j q=>(l.own 0 j (k j q)).symm),l.kle.trans d.kle,fun i=>?_,l.loc,d.fz,fun i z c=>?_,fun i c=>?_,fun i j b c q=>?_,fun i b c=>?_,fun b o g hg=>?_,d.tab.step (S:=gx) (Ext.refl w') (fun _ h=>h.elim) (c6.refl G) (fun i b c=>.inl (u b (E i b c).2))⟩
 ·have:=l.ble i
  rcases Nat.eq_zero_or_pos i with c|c
  ·subst c;rw[e]at this;generalize B.β0 0=y at this
   cases y with
   |no=>trivial
   |set S=>trivial
   |fix b=>cases this
   |gr a b=>grind[kb]
  grind
 ·grind[gV]
 ·grind
 ·rw[(E i b c).1,(E j b q).1]
 ·have⟨j,q⟩:=u b (E i b c).2
  rcases d.own j b q with r|r
  ·exact l.own 0 b (k b r)
  ·exact .inr (jC l.ext.size r)
 ·rcases d.kn b o g hg with r|r|r
  ·exact l.kn b o g r
  ·exact .inr (l.own 0 b (k b r))
  ·exact .inr (.inr (jC l.ext.size r))
theorem zS{aY:List Nd}{h:Value}{ns:List Value}:∀x∈b9 aY h ns,x.D2:=fun x hx=>by
 rcases lp hx with rfl|hx
 ·intro r v g X;have⟨i,j⟩:=getElem?_of_mem v;rw[getElem?_zipWith]at j;split at j
  ·cases j;unfold db at X;simp only[List.mem_cons,List.not_mem_nil,or_false]at X
   grind
  grind
 ·have⟨i,j⟩:=getElem?_of_mem hx;rw[getElem?_zipWith]at j;split at j
  ·cases j;intro r v g X;obtain⟨s,_,rfl⟩:=x9.1 v
   grind
  grind
def Inv.ui{B:Bs}{K:Fz}{β:Bt}{Γ A:ap}{w:World}{aY:List Nd}{h:Value}{ns:List Value}(F:Inv B K β Γ w)(H:mP aY h ns)(c:Γ=A++b9 aY h ns)(G:B.m<=A.length)(X:qh A.length A=true) :
  ∃e,c6 K e/\Rel e (fun _=>.no) h (.sl 5 (aY.map aR))/\Inv B e (dD (below A.length) β) A w:=by
 have Y:=H.len
 have d:∀i,i<aY.length->aY[i]?=some (aY.getD i ⟨0,0,0,[],[]⟩)/\ns[i]?=some (tD ns i):=fun i b=>by
  grind[tD]
 have z:Γ[A.length]?=some (.vech 82 5 (List.zipWith db aY ns) h):=by rw[c,hO (a8 _),qs];rfl
 have C:∀i,i<aY.length->Γ[A.length+1+i]?=some (.vech 3 1 (fO (aY.getD i ⟨0,0,0,[],[]⟩).aw) (tD ns i)):=fun i b=>by
  rw[c,hO L,show A.length+1+i-A.length=i+1 by omega];unfold b9;rw[getElem?_cons_succ,vA (d i b).1 (d i b).2];rfl
 obtain⟨W,l,u,O,J,r,Z,r2,S⟩:=F.zb (jf:=A.length) (N:=aY.length) (o:=4) (E:=3) (k':=1) (raw:=fun i=>db (aY.getD i ⟨0,0,0,[],[]⟩) (tD ns i)) (fin:=fun i=>aR (aY.getD i ⟨0,0,0,[],[]⟩)) (ks:=fun i=>fO (aY.getD i ⟨0,0,0,[],[]⟩).aw) (hd:=fun i=>tD ns i) (jp:=fun i=>A.length+1+i)
  z ⟨by grind,fun i b=>vA (d i b).1 (d i b).2⟩ (fun i b=>⟨rfl,rfl⟩) C (fun i b=>by omega) (fun i j _ _ h=>by omega)
 have v:u=aY.map aR:=by
  apply ext_getElem?
  grind
 rw[v]at r;have⟨t,R,T,M⟩:=J.nW r
 have k:(oset l A.length (.vec 82 5 (aY.map aR).length (aY.map aR))).take A.length=A:=by
  apply ext_getElem?;intro q;rw[List.getElem?_take];split
  ·rw[bD,eR,ab L,S q L (fun i _=>by omega),c,gA L]
  grind
 have s:=M.cut (n:=A.length) G ze2;rw[k]at s;exact⟨t,O.trans R,T.pc rfl,s⟩
def Wk.ui{m:Nat}{fr:am}{Γ:ap}(A:ap){aY:List Nd}{h:Value}{ns:List Value}{i o:Nat}{T:TypeId}{cs:am}(H:mP aY h ns)(q:Γ=A++b9 aY h ns)(t:m<=A.length)(n:qh A.length A=true)(hi:A[i]?=some (.box T cs))(E:cs[o]?=some (.v h)) :
  Wk m fr Γ (rW A.length fr) (oset A i (.box T (bB cs o (.sl 5 (aY.map aR))))):=fun B K β w l N j O=>by
 have⟨S,k,z,F⟩:=j.ui H q L n;have⟨b,s,r,c,G,C⟩:=F.ob i _ hi;exact⟨S,_,F.swap ⟨b,s,r,c,bu.bB (z.pc rfl) G E,C⟩,(O.res).mono k (dJ.refl _)⟩
def Ob.rJ:Ob->Bool
 |.vech _ _ _ _=>true
 |.blob _=>true
 |.box _ O=>lY O
 |_=>false
def Inv.QN{B:Bs}{K:Fz}{β:Bt}{Γ:ap}{w:World}(h:Inv B K β Γ w){bc:List Nat}(Z:∀j,j<B.m->bc[j]?=some j){u:ap}(W:u.length=bc.length)(hn:bc.Nodup)
  (hx:∀(j:Nat)x,u[j]?=some x->x.rJ=true/\∀i,bc[j]?=some i->Γ[i]?=some x):Inv B K (fU β bc) u w:=by
 have n:∀i b,(fU β bc i).has b->∃q,bc[i]?=some q/\(β q).has b:=fun i b l=>by
  grind[fU,Bk.has]
 refine⟨h.ext,h.kle,fun i=>?_,h.loc,h.fz,fun i x l=>?_,fun i l=>?_,fun i j b l Y=>?_,fun i b l=>?_,h.kn,h.tab.step (S:=gx) (Ext.refl w) (fun _ h=>h.elim) (c6.refl K) (fun i M c=>?_)⟩
 ·rcases Nat.lt_or_ge i B.m with l|l
  ·have:fU β bc i=β i:=by grind[fU]
   rw[this];exact h.ble i
  ·rw[h.loc i l];trivial
 ·have⟨o,c⟩:=hx i x l;have N:=(b6 l).1;have G:bc[i]?=some (bc[i]'L):=cY _
  have t:fU β bc i=β (bc[i]'L):=by grind[fU]
  cases x with
  |vech E k H v =>
   have⟨X,z,R,s,F,A⟩:=h.ob _ _ (c _ G);exact⟨X,t.trans z,R,s.lY F.flat,F,A⟩
  |blob p =>
   have⟨g,z,R,s⟩:=h.ob _ _ (c _ G)
   grind[gV,fU]
  |box E O =>
   have⟨b,J,z,R,s,F⟩:=h.ob _ _ (c _ G);exact⟨b,J,t.trans z,R,s.lY (kp o),F⟩
  |_=>cases o
 ·grind[fU]
 ·have⟨q,o,c⟩:=n i b l;have⟨r,T,C⟩:=n j b Y;have:=h.dis q r b c C
  grind[List.getElem?_eq_some_iff,List.getElem_inj]
 ·have⟨q,o,c⟩:=n i b l;exact h.own q b c
 grind
def G9{P:Program}{fn:Func}{R:GV->ap->Prop}{fr:am}{Γ:ap}{e:Exit}{t u s:Tmp}{T:TypeId}{k:Nat}[hT:Ty P T true k]{i:Nat}{E:TypeId}{cs:am}{y z:Value}(n:Nat)(Z:fn.results=#[.cell t T,.tmp u,.tmp s])(W:e=.normal\/e=.ret)(hg:bx fr t=.loc i 0)(H:Γ[i]?=some (.box E cs))(hk:cs.length=k)(X:lY cs=true)(r:bx fr u=.v y)(A:bx fr s=.v z)
  (ha:∀x∈Γ.drop n,x.rJ=true)(h:R (.tup [.agg cs,.v y,.v z]) (Γ.drop n)):oZ P fn 0 R e fr Γ :=
 ⟨W,fun B K β w l hB M q=>by
  have⟨b,vs,h1,h2,O,h4⟩:=M.ob i _ H
  have G:nth l t=.pointer (some ⟨b,0,none⟩):=by
   have:=q.nth t;rw[hg]at this;generalize nth l t=v at this
   cases this with
   |loc _ _ b' S=>grind
  have Y:l.toArray.getD t undef=.pointer (some ⟨b,0,none⟩):=by rw[gQ,G]
  have F:=jx (P:=P) (w:=w) (t:=T) (b:=b) (o:=0) (vs:=vs) (k:=k) L (fun j v C=>by
   grind[World.cell?])
  have d:l[t]?.getD undef=.pointer (some ⟨b,0,none⟩):=by simp_all
  have J:bu K (fU β ((List.range (Γ.length-n)).map (·+n))) vs cs:=O.lY (kp X);have hu:nth l u=y:=Rel.eE (by rw[<-r];exact q.nth u);have hs:nth l s=z:=Rel.eE (by rw[<-A];exact q.nth s);have c:(Γ.drop n).length=((List.range (Γ.length-n)).map (·+n)).length/\((List.range (Γ.length-n)).map (·+n)).Nodup /\
   ∀(j:Nat)x,(Γ.drop n)[j]?=some x->x.rJ=true/\∀i,((List.range (Γ.length-n)).map (·+n))[j]?=some i->Γ[i]?=some x:=by
   refine⟨by simp,?_,fun j x C=>⟨ha x (bN C),fun i hi=>?_⟩⟩
   ·grind[List.nodup_range]
   grind
  refine⟨.tuple #[.agg vs.toArray,y,z],K,fU β ((List.range (Γ.length-n)).map (·+n)),.tup [.agg cs,.v y,.v z],Γ.drop n,?_,M.QN (fun j C=>by omega) c.1 c.2.1 c.2.2,?_,h⟩
  ·rw[<-hu,<-hs,<-gQ l u,<-gQ l s];simp[results,Z,d,asAddr,F]
  ·have N:bu K (fU β ((List.range (Γ.length-n)).map (·+n))) [.agg vs.toArray,y,z] [.agg cs,.v y,.v z]:=.cons (.agg vs cs J.1 J.2) (.cons (.v _) (.cons (.v _) .nil))
   exact .tup [.agg vs.toArray,y,z] _ N.1 N.2⟩
def Wk.Jy{m:Nat}{fr:am}{Γ:ap}(j:m<=Γ.length)(n:qh Γ.length Γ=true):Wk m fr Γ (rW Γ.length fr) (Γ++[blob (b9 [] y6 [])]) :=
 (Wk.eS 82 5).trans (Wk.pack Γ (b9 [] y6 []) rfl j zS n)
theorem mP.nil:mP [] y6 []:=⟨⟨none,0,rfl⟩,rfl,fun i x y h=>by simp at h⟩
def ED(Γ:ap):List Nat->ap->Prop
 |[],[]=>True
 |i::r,x::X=>(Γ[i]?=some x/\x.rJ=true)/\ED Γ r X
 |_,_=>False
def yy{Γ:ap}:∀{bc:List Nat}{k:ap},ED Γ bc k->k.length=bc.length/\∀(j:Nat)x,k[j]?=some x->x.rJ=true/\∀i,bc[j]?=some i->Γ[i]?=some x
 |[],[],_=>⟨rfl,fun j x h=>by simp at h⟩
 |i::r,x::X,h=>by
  have⟨o,b⟩:=yy h.2;refine⟨by simp[o],fun j y Y=>?_⟩
  cases j with
  |zero=>cases Y;exact⟨h.1.2,fun J l=>by cases l;exact h.1.1⟩
  |succ j=>grind
 |[],_::_,h=>h.elim
 |_::_,[],h=>h.elim
def P9{P:Program}{fn:Func}{m:Nat}{R:GV->ap->Prop}{fr:am}{Γ:ap}{e:Exit}{t:Tmp}{T:TypeId}{k:Nat}[hT:Ty P T true k]{i:Nat}{E:TypeId}{cs:am}(bc:List Nat)(r:ap)(O:fn.results=#[.cell t T])(H:e=.normal\/e=.ret)(hg:bx fr t=.loc i 0)(q:Γ[i]?=some (.box E cs))(hk:cs.length=k)(M:lY cs=true)
  (S:bc.Nodup)(hm:bc.take m=List.range m)(hx:ED Γ bc r)(h:R (.agg cs) r):oZ P fn m R e fr Γ :=
 ⟨H,fun B K β w l C u F=>by
  have⟨b,vs,Z,h2,A,h4⟩:=u.ob i _ q
  have n:nth l t=.pointer (some ⟨b,0,none⟩):=by
   have:=F.nth t;rw[hg]at this;generalize nth l t=v at this
   cases this with
   |loc _ _ Y G=>grind
  have N:l.toArray.getD t undef=.pointer (some ⟨b,0,none⟩):=by rw[gQ,n]
  have d:=jx (P:=P) (w:=w) (t:=T) (b:=b) (o:=0) (vs:=vs) (k:=k) L (fun j v z=>by
   grind[World.cell?])
  have c:l[t]?.getD undef=.pointer (some ⟨b,0,none⟩):=by simp_all
  have s:bu K (fU β bc) vs cs:=A.lY (kp M);have⟨W,X⟩:=yy hx;refine⟨.agg vs.toArray,K,fU β bc,.agg cs,r,?_,u.QN (fun j z=>?_) W S X,.agg vs cs s.1 s.2,h⟩
  ·simp[results,O,c,asAddr,d]
  ·rw[C]at z
   have J:(bc.take m)[j]?=some j:=by grind
   grind⟩
def JC(n:Nat)(r:am):Bool:=match r with
 |[.v (.string b)]=>Nat.ble b.data.size n
 |_=>false
def S4{n m:Nat}{rows:List am}(h:rows.all (JC n)=true)(j:m<rows.length):∃s:ah,rows[m]?=some [.v (sv s)]/\s.length<=n:=by
 have hx:rows[m]?=some rows[m]:=cY j;have o:=hY.1 h rows[m] (bN hx);rw[hx];generalize rows[m]=r at *;unfold JC at o;split at o
 ·rename_i b;refine⟨b.data.toList,?_,by simp_all⟩;rfl
 grind
section
variable{P:Program}{m:Nat}{Q:dQ}{fr:am}{Γ:ap}{ops:Array Oper}{rest:List Oper}{ty:TypeId}{pos:String}{af:Array Edge}
def wu{g:GV}:∀{fr:am}{t:Nat},iy fr t=true->bx (bB fr t g) t=g
 |[],t,h=>by cases h
 |x::fr,0,h=>rfl
 |x::fr,t+1,h=>wu (fr:=fr) (t:=t) h
def GL.zY{x y:Operand}{E W:Tmp}{t e i:TypeId}[u:lK P t e 1][R:Ty P i false 1]{j:TypeId}{C:String}{z:Array Edge}(n:Nat){q:Nat}{rows:List am}{H:IntKind}(hx:bf fr x=.sl 1 rows)(F:bf fr y=.v (.int H q))(A:rows.all (JC n)=true)(J:q<rows.length)(r:iy fr E=true)
  (h:∀s:ah,s.length<=n->GL P m ops Q rest (bI (bI fr (some E) (.box [.v (sv s)] 0)) (some W) (.v (sv s))) Γ) :
  GL P m ops Q (⟨some E,.indexAddr t x y,ty,pos,af,none⟩::⟨some W,.load i (.tmp E),j,C,z,none⟩::rest) fr Γ:=by
 have⟨s,G,M⟩:=S4 A J;refine GL.q (D.eD hx F G) ?_;refine GL.q (D.UK (cs:=[.v (sv s)]) (o:=0) ?_ rfl) (h s M);exact wu r
end
def D.jg{P:Program}{fr:am}{Γ:ap}{x y:Operand}{t e:TypeId}{k:Nat}[q:lK P t e k](i:Nat){v:Value}{z:IntKind}{j E n:Nat}{rows:List am}(hx:bf fr x=.v v)(C:bf fr y=.v (.int z j))(o:Γ[i]?=some (.vech E k rows v))(hn:rows.length=n)(Y:j<n):D P (.indexAddr t x y) fr Γ (.vp i n k j 0):=by
 subst hn;exact D.aS i hx C o Y
def D.QA{P:Program}{fr:am}{Γ:ap}{x y:Operand}{t e:TypeId}{k:Nat}[r:lK P t e k](i j:Nat){v:Value}{A:IntKind}{z:Int}{E n:Nat}{rows:List am}(hx:bf fr x=.v v)(C:bf fr y=.v (.int A z))(q:z=(j:Int))(o:Γ[i]?=some (.vech E k rows v))(hn:rows.length=n)(Y:j<n):D P (.indexAddr t x y) fr Γ (.vp i n k j 0):=by
 subst q;exact D.jg i hx C o hn Y
section
variable{P:Program}{m:Nat}{Q:dQ}{fr:am}{Γ:ap}{ops:Array Oper}{rest:List Oper}{d:Option Tmp}{ty:TypeId}{pos:String}{af:Array Edge}
def D.YY{x y:Operand}{t e:TypeId}{k:Nat}[r:lK P t e k]{b o n c:Nat}{z:IntKind}{q:Nat}(hx:bf fr x=.v (.slice (some ⟨b,o,none⟩) n c))(C:bf fr y=.v (.int z q))(J:q<n):D P (.indexAddr t x y) fr Γ (.v (.pointer (some ⟨b,o+q*k,none⟩))):=fun B K s w l i O =>
 ⟨_,R.gi (O.fE hx) (O.fE C) J,.v _⟩
theorem D.ldQ{x:Operand}{t:TypeId}[W:Ty P t false 1](i j:Nat){b idx n c E:Nat}{N:ap}{rows:List am}{u:Value}(hx:bf fr x=.v (.pointer (some ⟨b,idx,none⟩)))(s:Γ[i]?=some (blob N))(C:N[j]?=some (.vech E 1 rows (.slice (some ⟨b,0,none⟩) n c)))(O:rows[idx]?=some [.v u]):D P (.load t x) fr Γ (.v u):=fun B K β w l A z=>by
 have⟨h,e,H,M⟩:=A.ob i _ s;obtain⟨J,Z,q,k⟩:=M.own w (fun b o F=>(H b o F).1) j E 1 rows _ C;have⟨v,Y,r⟩:=k.at (rN J O (j:=0) rfl);have:=Rel.eE r;subst this;have⟨S,T,G,_,_,X⟩:=q.cells.2 ze2;cases G;refine⟨_,R.ld (z.fE hx) (by grind[gb]),.v _⟩
theorem EE{K:Fz}{β:Bt}{u:Value}{g:GV}(M:Rel K β u g):∀(vs:List Value)(cs:am)(q:Nat),bu K β vs cs->bu K β (fg vs q u) (bB cs q g)
 |[],cs,q,h=>by have:cs=[]:=kQ h.1.symm;subst this;exact h
 |v::vs,[],q,h=>by grind
 |v::vs,c::cs,0,h=>by have⟨a1,F⟩:=h.nE;exact .cons M F
 |v::vs,c::cs,q+1,h=>by have⟨a1,F⟩:=h.nE;exact .cons a1 (EE M vs cs q F)
theorem Rq{N:ap}{j:Nat}{x y:Ob}(h:N[j]?=some x)(i:Km y=Km x):jo (N.set j y)=jo N:=by
 grind[jo]
theorem GL.stQ{x y:Operand}{t:TypeId}[hT:Ty P t false 1](i j:Nat){b idx n c E:Nat}{N:ap}{rows:List am}{u:Value}(hx:bf fr x=.v (.pointer (some ⟨b,idx,none⟩)))(uW:Γ[i]?=some (blob N))(hN:N[j]?=some (.vech E 1 rows (.slice (some ⟨b,0,none⟩) n c)))(hr:idx<rows.length)(hy:bf fr y=.v u)(hu:Bd u=true)
  (h:GL P m ops Q rest (bI fr d (.v undef)) (oset Γ i (blob (N.set j (.vech E 1 (dI rows idx 0 (.v u)) (.slice (some ⟨b,0,none⟩) n c)))))):GL P m ops Q (⟨d,.store t x y,ty,pos,af,none⟩::rest) fr Γ:=fun B K β w l hm C hF=>by
 have⟨A,e,hh,M⟩:=C.ob i _ uW
 have Xj:∀q,(β i).has q↔(A q).isSome=true:=fun q=>by grind[Bk.has]
 obtain⟨hk,xs,how,Up⟩:=M.own w (fun b o hb=>(hh b o hb).1) j E 1 rows _ hN
 have Xs:(jo N j).has b:=by rw[uK hN];rfl
 have Uh:(A b).isSome=true:=(M.dom b).2 ⟨j,Xs⟩
 rcases how.2 with⟨e5,Z⟩|⟨g0,cap,cur,e5,R,hg,B2,Lo,rI,Uw⟩
 ·cases e5
 ·have e5':=e5
  injection e5 with Z e7 e8
  injection Z with Z
  injection Z with Z _ _
  subst Z;subst e7;subst e8
  have hq:idx<rows.length*1:=by omega
  refine WL.st (t:=t) (k:=1) (hF.fE hx) rfl hg (by rw[hF.fE hy];grind[lW]) L (by rw[hF.fE hy,(lW hu).1];simp_all[lW,Xw.lf]) fun w' O=>?_
  rw[hF.fE hy]at O
  have Lp:setL cur idx u.cells.toList=(fg cur.toList idx u).toArray:=by
   rw[(lW hu).1];simp only[setL];rw[<-xp]
  rw[Lp]at O
  have YN:∀w2:World,w2.heap[b]?=w'.heap[b]?->iw w2 0 E 1 (.slice (some ⟨b,0,none⟩) rows.length c) (dI rows idx 0 (.v u)).length (fg xs idx u):=fun w2 H=>by
   rw[ea];exact⟨by grind[qq],.inr ⟨b,c,_,rfl,R,by rw[H];exact O.blk,B2,Lo,by simp[qq,rI],by simp_all[List.toList_toArray,zg]⟩⟩
  have W:bu (fun _ _=>none) (fun _=>.no) (fg xs idx u) (dI rows idx 0 (.v u)).flatten:=by
   rw[rP L hk hr,Nat.mul_one,Nat.add_zero];exact EE (.v u) _ _ _ Up
  let F:Nat->Option Obj:=fun q=>if q=b then w'.heap[b]? else A q
  have YI:F b=w'.heap[b]?:=ai rfl
  have YJ:∀q,q≠b->F q=A q:=fun q h=>ab h
  have X:∀q,(F q).isSome=(A q).isSome:=fun q=>by
   by_cases s:q=b
   ·subst s;rw[YI,O.blk,Uh];rfl
   grind
  have Qi:=Rq (y:=.vech E 1 (dI rows idx 0 (.v u)) (.slice (some ⟨b,0,none⟩) rows.length c)) hN (by simp only[Km,ea])
  have Um:Pk (N.set j (.vech E 1 (dI rows idx 0 (.v u)) (.slice (some ⟨b,0,none⟩) rows.length c))) F:=by
   refine⟨fun z hz=>?_,fun a a' q h1 H=>?_,fun q=>?_,fun w2 Uy a E' k' Y x' G=>?_⟩
   ·rcases List.mem_or_eq_of_mem_set hz with hz|rfl
    ·exact M.plain z hz
    ·have yl:=M.plain _ (bN hN);show ∀r∈dI rows idx 0 (.v u),∀g∈r,∃x,g=GV.v x;intro r Lw g wV
     have:∀(rows:List am)(i:Nat),(∀r∈rows,∀g∈r,∃x,g=GV.v x)->r∈dI rows i 0 (.v u)->∃x,g=GV.v x:=by
      intro rows
      induction rows with
      |nil=>simp[dI]
      |cons a rows ih =>
       intro i h H
       cases i with
       |zero =>
        rw[dI]at H
        rcases lp H with rfl|H
        ·rcases DM wV with h3|h3
         ·grind
         grind
        grind
       |succ i =>
        grind[dI,List.mem_cons_self,eQ]
     exact this rows idx yl Lw
   ·rw[Qi]at h1 H;exact M.dis a a' q h1 H
   ·rw[X,Qi];exact M.dom q
   ·by_cases S:a=j
    ·subst S;rw[List.getElem?_set_self (b6 hN).1]at G;cases G;refine⟨vj rfl hk,_,YN w2 ?_,W⟩
     grind
    ·rw[List.getElem?_set_ne (fun h=>S h.symm)]at G;obtain⟨a1,ys,a2,a3⟩:=M.own w (fun b o hb=>(hh b o hb).1) a E' k' Y x' G;refine⟨a1,ys,EA a2 fun q o' s ho'=>?_,a3⟩
     have Qg:(jo N a).has q:=by rw[uK G];exact s
     have Hm:q≠b:=fun h=>by subst h;exact S (M.dis a j q Qg Xs)
     have⟨y',XR⟩:=Option.isSome_iff_exists.1 ((M.dom q).2 ⟨a,Qg⟩)
     grind
  have Xq:(β i).has b:=(Xj b).2 Uh
  have Xf:∀o,K b o=none:=by
   grind[Option.isSome_iff_exists]
  have hI':Inv B K β (oset Γ i (blob (N.set j (.vech E 1 (dI rows idx 0 (.v u)) (.slice (some ⟨b,0,none⟩) rows.length c))))) w':=by
   refine⟨C.ext.step O.ext (fun j J=>?_),C.kle,C.ble,C.loc,C.fz.ext O.ext (fun q o' g' wV he=>?_),fun a y J=>?_,fun a J=>C.out a ze9,C.dis,C.own,C.kn,C.tab.step O.ext (fun a J=>⟨i,by grind⟩) (c6.refl K) (fun i b2 h=>.inl ⟨i,h⟩)⟩
   ·subst J;exact(C.own i _ Xq).symm
   ·grind
   ·rw[bD,eR]at J;split at J
    ·rename_i T;split at J
     ·cases J;subst T
      refine⟨F,?_,fun q o' s=>?_,Um⟩
      ·grind
      ·by_cases wv:q=b
       ·grind
       ·rw[YJ q wv]at s;have⟨h1,H⟩:=hh q o' s;exact⟨O.ext.blk h1 (fun h=>wv h),H⟩
     grind
    ·rename_i T;refine(C.ob a y J).ext O.ext (fun q s he=>?_) (c6.refl K) (dJ.refl β) rfl (fun _ _ _ h=>h);subst he;exact T (C.dis i a _ Xq s)
  exact h B K β w' _ hm hI' (hF.put d (.v _))
end
end Go.Xg
namespace Go.Xw
open Go.RowKit
section
variable{P:Program}(w:World)(t b ty e:TypeId)(i:TypeInfo)(z:Value)
theorem vl(k B:IntKind)(M:P.underlying t=some (.slice e))(j:P.underlying b=some (.int B))(hi:P.info? e=some i)(q:i.zero=some z)
  (m:Nat)(r:0<m)(G:i.size=1)(Z:(m:Int)<=9223372036854775807)(T:m*i.bytes<=281474976710656) :
  (Builtin.append_ #[t,b] ty #[.slice none 0 0,.int k m]).run P w =
   .ok (.slice (some ⟨w.heap.size,0,none⟩) m (grownCap w m 0 e)) (w.drew.alloc (.cells (Builtin.zeroCells z.cells m++Builtin.zeroCells z.cells (grownCap w m 0 e-m)) e)):=by
 have n:m≠0:=by omega
 have o:IntKind.i64.wrap (m:Int)=m:=by rw[IntKind.wrap_i64];omega
 have F:¬(9223372036854775807<(m:Int)):=by omega
 have A:¬(281474976710656<Builtin.nextslicecap m 0*i.bytes):=by grind[nextslicecap_zero]
 have C:¬(281474976710656<(m:Int)*(i.bytes:Int)):=by omega
 have c:¬((m:Int)<0):=by omega
 simp[Builtin.append_,run_underlying M,run_underlying j,sizeOf,typeInfo,zeroValue,hi,q,G,asInt,asIntOf,o,n,c,F,A,C,Question.forced,run_firstCells_none,newRow,grownCap]
def vk(v B:IntKind)(M:P.underlying t=some (.slice e))(k:P.underlying b=some (.int B))(hi:P.info? e=some i)(s:i.zero=some z)
  (base:Option Addr)(n c:Nat)(u:List Value)(E:(Builtin.firstCells 1 n (.slice base n c)).run P w.drew=.ok u.toArray w.drew)
  (m:Nat)(H:0<m)(G:i.size=1)(hg:c<n+m)(Z:((n+m:Nat):Int)<=9223372036854775807)(T:m*i.bytes<=281474976710656)(o:Builtin.nextslicecap (n+m) c*i.bytes<=281474976710656) :
  (Builtin.append_ #[t,b] ty #[.slice base n c,.int v m]).run P w =
   .ok (.slice (some ⟨w.heap.size,0,none⟩) (n+m) (grownCap w (n+m) c e)) (w.drew.alloc (.cells (u.toArray++Builtin.zeroCells z.cells m++Builtin.zeroCells z.cells (grownCap w (n+m) c e-(n+m))) e)):=by
 have N:m≠0:=by omega
 have r:IntKind.i64.wrap (m:Int)=m:=by rw[IntKind.wrap_i64];omega
 have q:¬(n+m<=c):=by omega
 have F:¬(9223372036854775807<((n:Int)+(m:Int))):=by omega
 have A:¬(281474976710656<Builtin.nextslicecap (n+m) c*i.bytes):=by omega
 have C:¬(281474976710656<(m:Int)*(i.bytes:Int)):=by omega
 have j:¬((m:Int)<0):=by omega
 simp[Builtin.append_,run_underlying M,run_underlying k,sizeOf,typeInfo,zeroValue,hi,s,G,asInt,asIntOf,r,N,q,j,F,A,C,Question.forced,E,newRow,grownCap]
end
def vm{P:Program}{w:World}(t b ty e:TypeId)(i:TypeInfo)(z u:Value)(k B:IntKind)(M:P.underlying t=some (.slice e))(j:P.underlying b=some (.int B))(hi:P.info? e=some i)(v:i.zero=some z)(o:z.cells=#[u])(N:u.oneCell'=true)(H:i.size=1)
  (g A T m:Nat)(cur:Array Value)(hg:w.heap[g]?=some (.cells cur e (0,0)))(F:0<m)(Z:(m:Int)<=9223372036854775807)(W:m*i.bytes<=281474976710656)
  (E:A+m<=T)(n:A+m<=cur.size) :
  (Builtin.append_ #[t,b] ty #[.slice (some ⟨g,0,none⟩) A T,.int k m]).run P w =
   .ok (.slice (some ⟨g,0,none⟩) (A+m) T) (w.setRow g (cur.toList.take A++List.replicate m u++cur.toList.drop (A+m)).toArray):=by
 have q:m≠0:=by omega
 have s:IntKind.i64.wrap (m:Int)=m:=by rw[IntKind.wrap_i64];omega
 have C:¬(281474976710656<(m:Int)*(i.bytes:Int)):=by
  omega
 have c:¬((m:Int)<0):=by omega
 have G:(Builtin.zeroCells #[u] m).toList=List.replicate m u:=by
  unfold Builtin.zeroCells;rw[Array.toList_map,Array.toList_range];simp[List.size_toArray,List.length_singleton,Nat.mul_one,Nat.mod_one,List.eq_replicate_iff,x9]
 have r:=run_storeCells_at P g A e (List.replicate m u) 0 cur w hg ze2 (fun x hx=>by grind);simp only[Nat.add_zero,length_replicate]at r;simp[Builtin.append_,run_underlying M,run_underlying j,sizeOf,typeInfo,zeroValue,hi,v,H,asInt,asIntOf,s,q,c,C,E,Addr.add_lit,o,G,r]
section
variable{P:Program}{Q:nL}{l:List Value}{w:World}{ops:Array Oper}{rest:List Oper}{d:Option Tmp}{ty:TypeId}{pos:String}{af:Array Edge}
theorem Nr{u:Value}(m:Nat):Builtin.zeroCells #[u] m=(List.replicate m u).toArray:=by
 grind[Builtin.zeroCells]
theorem WL.Dj{s x:Operand}{t R e N:Nat}{u:Value}{X Y:IntKind}[hT:mO P t e 1 N][hZ:n5 P t e 1 [u]](J:P.underlying R=some (.int X)){base n m:Nat}{xs:List Value}{v:Value}(hs:ev l s=v)(c:iw w base e 1 v n xs)
  (hx:ev l x=.int Y (m:Int))(Z:0<m)(hu:u.oneCell'=true)(ZZ:n+m<=9223372036854775807)(S:(n+m)*N<=140737488355328)(E:base<=w.heap.size)
  (h:∀v' w',iw w' base e 1 v' (n+m) (xs++List.replicate m u)->Ext (fun b=>v.ownBlock=some b) w w'->(∀b,v'.ownBlock=some b->v.ownBlock=some b\/w.heap.size<=b)->WL P ops Q rest (put l d v') w') :
  WL P ops Q (⟨d,.call ⟨.builtin .append,#[s,x],#[t,R]⟩,ty,pos,af,none⟩::rest) l w:=by
 have⟨M,⟨i,z,T,W,LC,H,Qj⟩,hk⟩:=hT.parts
 have hzc:z.cells=#[u]:=by
  have h4:=hZ.zero;rw[T]at h4;simp only[Option.bind_some,W,Option.some.injEq,if_true,List.headD_cons]at h4;rw[h4];exact hZ.one rfl
 have Uh:m*i.bytes<=140737488355328:=by grind
 have A:∀(r:Nat),r<n+m->iw (w.drew.alloc (.cells (xs.toArray++Builtin.zeroCells z.cells m++Builtin.zeroCells z.cells (grownCap w (n+m) r e-(n+m))) e)) base e 1 (.slice (some ⟨w.heap.size,0,none⟩) (n+m) (grownCap w (n+m) r e)) (n+m) (xs++List.replicate m u):=fun r ho=>by
  have Hi:=grownCap_ge w (n+m) r e;have F:grownCap w (n+m) r e<=maxLen:=grownCap_le_maxLen w (n+m) r e zfd;have hxl:=c.1;refine⟨by grind,.inr ⟨w.heap.size,_,_,rfl,E,heap_alloc_new w.drew _,Hi,F,?_,?_⟩⟩
  ·grind[Builtin.zeroCells,Value.cells,grownCap]
  grind[Nr,Array.toList_append,gK,bp,length_replicate,List.take_left]
 have B:∀o,Ext (fun b=>v.ownBlock=some b) w (w.drew.alloc o):=fun o=>⟨rfl,rfl,rfl,by simp,fun k hk _=>Below.heap_alloc _ _ _ (by simp_all)⟩
 have aad:=c
 rcases c.2 with⟨rfl,rfl⟩|⟨g,q,cur,rfl,Qh,hg,B2,F,Lp,aaf⟩
 ·have Uz:xs=[]:=kQ (by simpa using c.1);subst Uz;have O:=vl (P:=P) w t R ty e i z Y X M J T W m Z H ze4 ze4;have hgr:=A 0 ze4;simp only[dy,nil_append,Array.empty_append]at hgr;refine WL.val (v:=.slice (some ⟨w.heap.size,0,none⟩) m (grownCap w m 0 e)) (w':=w.drew.alloc (.cells (Builtin.zeroCells z.cells m++Builtin.zeroCells z.cells (grownCap w m 0 e-m)) e)) zff (h _ _ ze2 (B _) fun b hb=>?_)
  exact zbM
 ·by_cases C:n+m<=q
  ·have O:=vm (P:=P) (w:=w) t R ty e i z u Y X M J T W hzc hu H g n q m cur hg Z ze4 ze4 C ze4;have Uf:=c.1;refine WL.val (v:=.slice (some ⟨g,0,none⟩) (n+m) q) (w':=w.setRow g (cur.toList.take n++List.replicate m u++cur.toList.drop (n+m)).toArray) zff (h _ _ ⟨by grind,.inr ⟨g,q,_,rfl,Qh,setRow_heap w g cur _ e _ hg,C,F,?_,?_⟩⟩ ⟨rfl,rfl,rfl,by simp,fun k _ hk=>setRow_other w g k _ (fun e=>hk (by simp[Value.ownBlock,e]))⟩ fun b hb=>.inl hb)
   ·grind
   grind
  ·have G:∀j u,xs[j]?=some u->w.cell? ((⟨g,0,none⟩:Addr).add j)=some u:=World.ownsRow.cells (g:=g) c rfl;have hf:=run_firstCells_some (P:=P) w.drew 1 n ⟨g,0,none⟩ n q xs c.1 G;have O:=vk (P:=P) w t R ty e i z Y X M J T W (some ⟨g,0,none⟩) n q xs ze4 m Z H ze4 ze4 ze4 (growslice_fits ze4 ze2);refine WL.val (v:=.slice (some ⟨w.heap.size,0,none⟩) (n+m) (grownCap w (n+m) q e)) (w':=w.drew.alloc (.cells (xs.toArray++Builtin.zeroCells z.cells m++Builtin.zeroCells z.cells (grownCap w (n+m) q e-(n+m))) e)) zff (h _ _ (A q ze4) (B _) fun b hb=>?_)
   exact zbM
end
end Go.Xw
namespace Go.Xg
open Go.RowKit Go.Xw Go.Proofs
section
variable{P:Program}{m:Nat}{Q:dQ}{fr:am}{Γ:ap}{ops:Array Oper}{rest:List Oper}{d:Option Tmp}{ty:TypeId}{pos:String}{af:Array Edge}
theorem GL.VW{s x:Operand}{t Z e A:Nat}{u:Value}{kn kq:IntKind}[hT:mO P t e 1 A][hZ:n5 P t e 1 [u]][hN:mY P Z kn](i:Nat){n q:Nat}{G:Tmp}{S:Option Addr}{T:Nat}{rows:List am}(hx:bf fr x=.v (.int kq (q:Int)))(hs:bf fr s=.v (.slice S n T))
  (k:Γ[i]?=some (.vech e 1 rows (.slice S n T)))(hn:rows.length=n)(h0:0<q)(hu:Bd u=true)(X:n+q<=9223372036854775807/\(n+q)*A<=140737488355328)
  (h:∀a c,GL P m ops Q rest (bI fr (some G) (.v (.slice a (n+q) c))) (oset Γ i (.vech e 1 (rows++List.replicate q [.v u]) (.slice a (n+q) c)))) :
  GL P m ops Q (⟨some G,.call ⟨.builtin .append,#[s,x],#[t,Z]⟩,ty,pos,af,none⟩::rest) fr Γ:=fun B K β w l hm W H=>by
 subst hn;have⟨xs,o1,Y,o3,o4,o5⟩:=W.ob i _ k;have O:=H.fE hs;have R:=H.fE hx
 refine WL.Dj (base:=0) (n:=rows.length) (m:=q) (xs:=xs) hN.und O Y R h0 (by simp_all[lW,Xw.lf]) X.1 X.2 (bl _) fun v' w' N E M=>?_
 have J:(List.replicate q [GV.v u]).flatten=(List.replicate q u).map .v:=by
  simp
 have hk:gR 1 (List.replicate q [GV.v u]):=fun r hr=>by
  grind[GV.pc]
 obtain⟨K',hK,F,C⟩:=(W.xn k).grow (fz:=0) (nr k) o1 ⟨Y,o3⟩ (news:=List.replicate q [.v u]) (ns:=List.replicate q u) ze2 E M (by rw[J];exact bu.self) hk ze2 (fun b Lk o v ho hv=>by omega);rw[<-bD,lX]at C;have⟨a,c,j,z⟩:=C.AV (nr k);rw[lX]at z;obtain⟨a',c',rfl⟩:=N.shape;rw[bV]at j;simp only[bp,length_replicate]at j z F;cases j;exact h _ _ B K' _ w' _ hm z ((H.mono hK F).put (some G) (.v _))
theorem GL.Y4{x:Operand}{t e k u:Nat}{z:List Value}[hT:mO P t e k u][E:n5 P t e k z]{J:Tmp}{n:Nat}(hx:bf fr x=y4 (n:Nat))(hb:n<=1099511627776/\u*n<=281474976710656)
  (h:∀b c,GL P m ops Q rest (bI fr (some J) (.v (.slice (some ⟨b,0,none⟩) n c))) (Γ++[.vech e k (List.replicate n (gT z)) (.slice (some ⟨b,0,none⟩) n c)])) :
  GL P m ops Q (⟨some J,.makeSlice t x x,ty,pos,af,none⟩::rest) fr Γ:=fun B K β w l hm Z Y=>by
 have⟨hu,⟨i,W,hi,hz,LC,S,Qj⟩,hk⟩:=hT.parts;have T:ev l x=ii (n:Nat):=Y.fE hx;obtain⟨w',hr,X,A⟩:=run_make_full (P:=P) (w:=w) 0 t e i W k hu hi hz S .i64 .i64 n ze2 zfd (bl _)
 have UB:W.cells.toList=z:=by
  have H:=E.zero;rw[hi]at H;simp only[Option.bind_some,hz,Option.some.injEq]at H;have hl:=E.zl
  by_cases M:k=1
  ·rw[ai M]at H;rw[H,E.one M];subst M
   match z,hl with
   |[a],_=>rfl
  grind[Value.cells]
 have o:(madeCells W.cells (n*k)).toList=(List.range (n*k)).map fun j=>z.getD (j%k) undef:=by
  unfold madeCells;rw[Array.toList_map,Array.toList_range]
  exact zeo
 rw[o]at X;have s:=Ak (K:=K) (β:=β) (n:=n) E.zl E.pos;rw[<-Iu]at s
 have O:gR k (List.replicate n (gT z)):=fun r hr=>by
  grind[gT,GV.pc]
 have F:Ext gx w w':=⟨A.os,A.tape,A.output,A.size,fun j hj _=>A.block j hj ze3⟩;have N:=Z.Au (x:=.slice (some ⟨w.heap.size,0,none⟩) n n) (rows:=List.replicate n (gT z)) F (by rw[length_replicate];exact X) (fun b hb=>by cases hb;simp) s O
 have G:(Γ++[Ob.vec e k 0 (List.replicate n (gT z))])[Γ.length]?=some (Ob.vec e k 0 (List.replicate n (gT z))):=by simp
 have⟨a,c,q,C⟩:=N.AV G;rw[bV]at q
 injection q with DO wv
 injection DO with Ll hb4 hb5
 subst Ll hb5
 have R:oset (Γ++[.vec e k 0 (List.replicate n (gT z))]) Γ.length (.vech e k (List.replicate n (gT z)) (.slice (some ⟨w.heap.size,0,none⟩) (List.replicate n (gT z)).length n))=Γ++[.vech e k (List.replicate n (gT z)) (.slice (some ⟨w.heap.size,0,none⟩) (List.replicate n (gT z)).length n)]:=by
  rw[bD];simp
 rw[R,length_replicate]at C;exact zba
variable{x y:Operand}{t t':TypeId}
def D.N6[n:uq P t]{a:Option Addr}(hx:bf fr x=.v (.pointer a))(C:bf fr y=.v (.pointer none)):D P (.binOp .eql t x y t') fr Γ (.v (.bool a.isNone)):=fun B K q w l i O=>by
 have⟨e,j,o,b⟩:=n.und
 have W:P.pointee t=e:=by simp[Program.pointee,o]
 have:=run_eql_pointer_nil (P:=P) w t a ze2;exact zdt
def D.UX[n:uq P t]{a:Option Addr}(hx:bf fr x=.v (.pointer a))(C:bf fr y=.v (.pointer none)):D P (.binOp .neq t x y t') fr Γ (.v (.bool a.isSome)):=fun B K q w l i O=>by
 have⟨e,j,o,b⟩:=n.und
 have W:P.pointee t=e:=by simp[Program.pointee,o]
 have:=run_neq_pointer_nil (P:=P) w t a ze2;exact zdt
theorem D.Vt{x lo:Operand}{t e:TypeId}{k:Nat}[n:lK P t e k]{rows:List am}{A:IntKind}{i:Nat}(hx:bf fr x=.sl k rows)(G:bf fr lo=.v (.int A (i:Int)))(hi:i=rows.length)(q:0<i):D P (.slice t x (some lo) none none) fr Γ (.sl k []):=fun B K s w l r O=>by
 have h:=O.ev x;rw[hx]at h;have z:=O.fE G;generalize j:ev l x=v at h
 cases h with
 |sl0 a c=>grind
 |sl b o c _ _ h W =>
  have N:(i:Int)<=(rows.length:Int):=by omega
  by_cases C:c=i
  ·refine⟨.slice (some ⟨b,o,none⟩) 0 0,fun d ty pos af=>?_,.sl0 _ _ _⟩;subst C;simp[execOp,Instr.sliceAt,Instr.slice,Instr.sliceBounds,Instr.sliceBound,asIntOf,j,z,run_underlying n.und,iI n.siz,hi,pX]
  ·refine⟨.slice (some ⟨b,o+i*k,none⟩) 0 (c-i),fun d ty pos af=>?_,.sl0 _ _ _⟩;simp[execOp,Instr.sliceAt,Instr.slice,Instr.sliceBounds,Instr.sliceBound,asIntOf,j,z,run_underlying n.und,iI n.siz,C,W,<-hi,pX]
def D.Vs{x lo:Operand}{t e:TypeId}{k:Nat}[n:lK P t e k]{r:am}{rows:List am}{z:IntKind}(hx:bf fr x=.sl k (r::rows))(G:bf fr lo=.v (.int z 1)):D P (.slice t x (some lo) none none) fr Γ (.sl k rows):=by
 cases rows with
 |nil=>exact D.Vt (i:=1) hx G rfl aU
 |cons a rows=>exact D.QT (i:=1) hx G rfl
theorem D.Wp{e:TypeId}[o:lK P t e 1]{b n c:Nat}{z:IntKind}{q:Nat}(hx:bf fr x=.v (.slice (some ⟨b,0,none⟩) n c))(B:bf fr y=.v (.int z (q:Int)))(J:q<n):D P (.indexAddr t x y) fr Γ (.v (.pointer (some ⟨b,q,none⟩))):=by
 have:=D.YY (P:=P) (Γ:=Γ) (t:=t) (k:=1) (q:=q) hx B J
 grind
def D.UZ{a:Addr}(hx:bf fr x=.v (.pointer (some a))):D P (.nilCheck x) fr Γ (.v (.pointer (some a))):=fun B K n w l i O=>⟨_,R.CW (O.fE hx),.v _⟩
end
end Go.Xg
set_option maxHeartbeats 4000000
namespace Go.Xg
open Go.RowKit Go.Xw Go.Proofs Tryz Go.Im Go.Mn
open Go.Xp (Nd Ar)
open Go.Sp (Src)
attribute [local irreducible] GW GL GO D GC GA bo bn
instance:uq prog 234:=uq.mk' (e:=3) (aQ) (aQ)
abbrev cz(l:List Int):List am:=l.map fun i=>[.v (ii i)]
def wX(xs:List ah)(s:ah):idxOf xs s=bL (fun x=>x==s) xs:=by
 unfold idxOf bL
 grind
structure MH where
 ag:Option Addr
 cg:Nat
 ac:Option Addr
 cc:Nat
 hs:List (Nat × Nat)
def DP(row:List Int)(h:Nat × Nat):Value:=.slice (some ⟨h.1,0,none⟩) row.length h.2
def tU(row:List Int)(h:Nat × Nat):am:=[.v (DP row h)]
def sT(row:List Int)(h:Nat × Nat):Ob:=.vech 3 1 (cz row) (DP row h)
def dp(p:Src)(own:List Int)(F:Nat)(H:MH)(s:M):Ob:=.box 64 [strs p.au,.sl 2 (p.aq.map bb),.sl 3 (p.av.map aI),.sl 5 (p.ae.map aR),ints own,ints s.inp,y4 (F:Nat),
 y4 s.fin,y4 s.why,y4 0,.vec 1 s.out.length,y4 (s.bd:Nat),.v (.slice H.ag s.b7.length H.cg),.v (.slice H.ac s.cells.length H.cc),y4 (s.aW:Nat)]
def pb(s:M):Ob:=.vec 3 1 0 (cz s.out)
def qy(H:MH)(s:M):Ob:=.vech 3 1 (cz s.b7) (.slice H.ag s.b7.length H.cg)
def p8(H:MH)(s:M):Ob:=.vech 29 1 (List.zipWith tU s.cells H.hs) (.slice H.ac s.cells.length H.cc)
def rD(H:MH)(s:M):Ob:=blob (List.zipWith sT s.cells H.hs)
def oO(al:Option Addr)(cl:Nat)(s:M):Ob:=.box 181 [.v (.slice al s.locs.length cl),.v (.bool s.left),y4 s.jV]
def o9(al:Option Addr)(cl:Nat)(s:M):Ob:=.vech 3 1 (cz s.locs) (.slice al s.locs.length cl)
def mS(p:Src)(own:List Int)(F:Nat)(H:MH)(al:Option Addr)(cl:Nat)(s:M):ap:=[dp p own F H s,pb s,qy H s,p8 H s,rD H s,oO al cl s,o9 al cl s]
section
variable(p:Src)(own:List Int)(F:Nat)(H:MH)(al:Option Addr)(cl:Nat)
def zt(s:M)(c w:Int):GF prog 102 [.loc 0 0,y4 c,y4 w] [dp p own F H s,pb s] (y4 0) [dp p own F H (s.stop c w),pb s]:=by
 unfold dp pb;refine ak func102 ntmps102 ?_;exact az
def kg(s:M):GF prog 231 [.loc 0 0,.loc 2 0] [dp p own F H s,pb s,oO al cl s,o9 al cl s] (.v (.bool s.over)) [dp p own F H s,pb s,oO al cl s,o9 al cl s]:=by
 unfold M.over dp pb oO o9
 cases h:(s.fin != 0)with
 |true =>
  refine ak func231 ntmps231 ?_;exact az
 |false =>
  refine ak func231 ntmps231 ?_;exact az
variable{p own F H al cl}
def Ta{a k j:Nat}{n:Nd}{s t:M}{v:Int}(hn:p.ae[a]?=some n)(l:n.aw[k]?=some (j:Int))(hd:GF prog 176 [.loc 0 0,.loc 5 0,y4 (j:Nat)] (mS p own F H al cl s) (y4 v) (mS p own F H al cl t)) :
  GF prog 229 [.loc 0 0,.loc 5 0,y4 (a:Nat),y4 (k:Nat)] (mS p own F H al cl s) (y4 v) (mS p own F H al cl t):=by
 have r:=cq hn;have u:=gE l;unfold aR at r;unfold mS dp at *;refine ak func229 ntmps229 ?_;refine a7 [0,1,2,3,4,5,6] hd ?_;exact aK
def CQ(H:MH)(s:M)(k:Nat)(n:Int):Value:=if s.over=true then .pointer none else if uX (row s k) n=true then .pointer (some ⟨(H.hs.getD k (0,0)).1,n.toNat,none⟩)else .pointer none
def CP(s:M)(k:Nat)(n:Int):M:=if s.over=true then s else if uX (row s k) n=true then s else s.stop 2 6
theorem vE{s:M}{k:Nat}(h:k<s.cells.length):s.cells[k]?=some (row s k):=by
 grind[row]
theorem Kw{a k:Nat}{n:Nd}{l:Ar}{s t:M}{v:Int}(C:p.aq.length<=1099511627776)(hn:p.ae[a]?=some n)(B:fi p n.s=(k:Int))(m:p.aq[k]?=some l)(Q:0<=l.size/\l.size<=2147483647)(J:nu p F t)(O:H.hs.length=p.aq.length)
  (Z:GF prog 229 [.loc 0 0,.loc 5 0,y4 (a:Nat),y4 0] (mS p own F H al cl s) (y4 v) (mS p own F H al cl t)) :
  GF prog 226 [.loc 0 0,.loc 5 0,y4 (a:Nat)] (mS p own F H al cl s) (.v (CQ H t k v)) (mS p own F H al cl (CP t k v)):=by
 have N:=cq hn;have j:=tt m;have e:=rC p n.s C;have i:bL (fun x:Ar=>x.name==n.s) p.aq=(k:Int):=B;rw[i]at e;have u:=PL v 0 (l.size-1);have b:=J.rows k l m
 have A:k<t.cells.length:=by rw[J.cells];grind
 have o:(decide ((0:Int)<=v)&&decide (v<=l.size-1))=uX (row t k) v:=by
  grind[uX]
 rw[o]at u;have T:=kg p own F H al cl t;have Y:=zt p own F H t 2 6;have z:=vE A
 have X:H.hs[k]?=some (H.hs.getD k (0,0)):=by
  grind
 have R:(List.zipWith tU t.cells H.hs)[k]?=some [.v (.slice (some ⟨(H.hs.getD k (0,0)).1,0,none⟩) (row t k).length (H.hs.getD k (0,0)).2)]:=by
  rw[getElem?_zipWith,z,X];rfl
 have S:k<(List.zipWith tU t.cells H.hs).length:=(b6 R).1
 have W:(List.zipWith tU t.cells H.hs).length=t.cells.length:=by rw[py,O,<-J.cells,Nat.min_self]
 unfold CQ CP;generalize H.hs.getD k (0,0)=c at *;unfold aR at N;unfold bb at j
 have G:uX (row t k) v=true->∃q:Nat,v=(q:Int)/\q<(row t k).length:=fun h=>by
  unfold uX at h;simp only[aZ,decide_eq_true_eq]at h;exact⟨v.toNat,by omega,by omega⟩
 cases r:t.over with
 |true =>
  rw[r]at T;rw[ai rfl,ai rfl];unfold mS at *;unfold dp at *;refine ak func226 ntmps226 ?_;refine zbb ?_;refine a7 [0,1,5,6] T ?_;exact aK
 |false =>
  rw[r]at T;refine zbJ ?_
  cases w:uX (row t k) v with
  |false =>
   rw[w]at u;refine zbJ ?_;unfold mS at *;unfold dp at *;refine ak func226 ntmps226 ?_;refine zbb ?_;refine a7 [0,1,5,6] T ?_;refine zcs ?_;refine I [0,1] Y ?_;exact az
  |true =>
   rw[w]at u;simp only[if_true];obtain⟨q,rfl,E⟩:=G w;rw[eV];unfold mS at *;unfold dp p8 at *;refine ak func226 ntmps226 ?_;refine zbb ?_;refine a7 [0,1,5,6] T ?_;refine zcs ?_;refine GL.q (D.Wp rfl rfl E) ?_;exact zdr
end
end Go.Xg
namespace Go.Xg
open Go.RowKit Go.Xw Go.Proofs Go.Im
def RX(l:List Int):(fO l).length=l.length:=by simp[fO]
def QL{K:Fz}{β:Bt}{vs:List Value}{x:Value}(h:bu K β vs [.v x]):vs=[x]:=by
 match vs,h.1 with
 |[v],_=>rw[Rel.eE h.nE.1]
end Go.Xg
namespace Go.Im
open Go.Xp Go.Sp
section
variable{p:Src}{l:List T}{aaP:Bool}
def UG(hg:Good p l){i:Nat}{t:T}(M:l[i]?=some t):iL t=true:=hY.1 hg.st.k t (bN M)
end
def Is:∀{l:List T}{k:Nat}{t:T},eH l->l[k]?=some t->fS t
 |[],k,t,h,N=>by simp at N
 |a::l,0,t,h,N=>by grind[eH]
 |a::l,k+1,t,h,N=>by rw[eH]at h;exact Is (l:=l) h.2 N
open Go.Mn
structure wD(p:Src)(own:List Int)(a:Nat)(t:T)(ls:List ah):Prop where
 st:dr p.ae a t
 ow:sO own a t ls
 ok:qz p t ls
 wf:fS t
 k:iL t=true
 sx:kV t
 len:ls.length<=40
def Ey{p:Src}:∀{l:List T}{ls:List ah}{k:Nat}{t:T},oU p l ls->l[k]?=some t->qz p t (ls++dF (l.take k))
 |[],ls,k,t,_,h=>by simp at h
 |u::l,ls,0,t,h,m=>by
  rw[oU]at h
  grind[dF]
 |u::l,ls,k+1,t,h,m=>by
  rw[oU]at h;have:=Ey h.2 (show l[k]?=some t by grind)
  grind[dF]
theorem CC:∀(l:List T)(k:Nat),(dF (l.take k)).length<=(dF l).length
 |[],k=>by simp
 |t::l,0=>by simp[ah,dF]
 |t::l,k+1=>by
  rw[take_succ_cons,dF,dF,bp,bp];have:=CC l k;omega
def HZ{p:Src}:∀{l:List T}{ls:List ah}{k:Nat}{t:T},l[k]?=some t->(gY p l ls)[k]?=some (sc p t (ls++dF (l.take k)))
 |[],ls,k,t,h=>by simp at h
 |u::l,ls,0,t,m=>by
  cases m;simp[gY,sc,ah,dF]
 |u::l,ls,k+1,t,m=>by
  rw[gY,getElem?_cons_succ,HZ (show l[k]?=some t by grind),take_succ_cons,dF,<-gK]
def RZ:∀{l:List T}{k:Nat}{t:T},w6 l=true->l[k]?=some t->iL t=true:=fun{l}{k}{t}h m=>by
 grind[qJ,hY,bN]
section
variable{p:Src}{own:List Int}{a:Nat}{n:Nd}{l:List T}{ls:List ah}
theorem wD.kid(h:wD p own a (.mk n l) ls)(q:b8 (.mk n l)=false){k:Nat}{u:T}(m:l[k]?=some u) :
  wD p own (a+1+aP (l.take k)) u (ls++dF (l.take k))/\n.aw[k]?=some ((a+1+aP (l.take k):Nat):Int)/\(gY p l ls)[k]?=some (sc p u (ls++dF (l.take k))):=by
 have⟨O,w,v,Q,W,X,Y⟩:=h;rw[dr]at O;rw[sO]at w;rw[qz]at v;rw[fS]at Q;rw[iL,aZ]at W;rw[kV]at X;have o:=rK (n:=a+1) m;rw[<-O.2.1]at o;refine⟨⟨cJ.ix l (a+1) k u O.2.2 m,w.2.at_ m,Ey (v.2 q) m,Is Q.2.2 m,RZ W.2 m,Ih X.2 m,?_⟩,o,HZ m⟩;have z:=Bb l ls (v.2 q) Q.2.2 Y
 grind[CC,bp]
theorem wD.node(h:wD p own a (.mk n l) ls):p.ae[a]?=some n/\own[a]?=some (v8 n ls)/\bG p (.mk n l) ls=0/\eB n.aj l.length=true/\Vw n/\n.aw.length=l.length:=by
 have⟨O,v,w,Q,W,X,T⟩:=h;rw[dr]at O
 simp_all[sO,qz,iL,aZ,kV,cW]
end
structure MW(p:Src)(l:List T)(own:List Int)(F:Nat)(H:Go.Xg.MH):Prop where
 w:cH p<=1048576
 gd:fk p=true
 gl:Good p l
 ow:∀(i:Nat)f t,p.av[i]?=some f->l[i]?=some t->sO own f.body.toNat t f.params
 F:F<=20000
 hs:H.hs.length=p.aq.length
end Go.Im
namespace Go.Xg
open Go.RowKit Go.Xw Go.MapKept
class aag (P:Program) (t:TypeId):Prop where
 und:∃k e,P.underlying t=some (.map k e)/\P.underlying k=some (.int .i64)/\(P.info? e).bind (·.zero)=some (ii 0)
section
variable{P:Program}{m:Nat}{Q:dQ}{fr:am}{Γ:ap}{ops:Array Oper}{rest:List Oper}{d:Option Tmp}{op:Op}{ty:TypeId}{pos:String}{af:Array Edge}
def D.min{x y:Operand}{Z e:TypeId}{a b:Int}(hx:bf fr x=y4 a)(B:bf fr y=y4 b):D P (.call ⟨.builtin .min,#[x,y],#[Z,e]⟩) fr Γ (y4 (if b<a then b else a)) :=
 D.v2 hx B fun l w h k=>fun d ty pos af=>by simp[execOp,resolve,invoke,builtin,Builtin.min_,Builtin.min2,h,k]
theorem D.max{x y:Operand}{Z e:TypeId}{a b:Int}(hx:bf fr x=y4 a)(B:bf fr y=y4 b):D P (.call ⟨.builtin .max,#[x,y],#[Z,e]⟩) fr Γ (y4 (if a<b then b else a)) :=
 D.v2 hx B fun l w h k=>fun d ty pos af=>by simp[execOp,resolve,invoke,builtin,Builtin.max_,Builtin.max2,h,k]
end
end Go.Xg
namespace Go.Xg
open Go.RowKit Go.Xw Go.Proofs Tryz Go.Im Go.Mn
open Go.Xp (Nd T aP cW)
open Go.Sp (Src)
attribute [local irreducible] GW GL GO D GC GA bo bn
theorem ug:∀(l:List Int)(k:Nat)(x:Int),dI (cz l) k 0 (y4 x)=cz (l.set k x)
 |[],k,x=>rfl
 |a::l,0,x=>rfl
 |a::l,k+1,x=>by
  show[y4 a]::dI (cz l) k 0 (y4 x)=_;rw[ug l k x];rfl
section
variable{p:Src}{l:List T}{own:List Int}{F:Nat}{H:MH}{al:Option Addr}{cl:Nat}
theorem MF{a k:Nat}{s:M}(Y:own[a]?=some (k:Int))(m:k<s.locs.length)(x:Int) :
  GF prog 299 [.loc 0 0,.loc 5 0,y4 (a:Nat),y4 x] (mS p own F H al cl s) (.tup []) (mS p own F H al cl { s with locs:=s.locs.set k x }):=by
 have G:=gE Y;have X:(cz s.locs)[k]?=some [.v (ii s.locs[k])]:=gE (cY m)
 have o:k<(cz s.locs).length:=by grind
 have q:(cz s.locs).length=s.locs.length:=bS _
 have J:decide ((0:Int)<=(k:Int))=true:=by simp
 have e:mS p own F H al cl { s with locs:=s.locs.set k x }=[dp p own F H s,pb s,qy H s,p8 H s,rD H s,oO al cl s,.vech 3 1 (dI (cz s.locs) k 0 (y4 x)) (.slice al s.locs.length cl)]:=by
  rw[ug];unfold mS oO o9;simp only[length_set];rfl
 rw[e];unfold mS dp oO o9;refine ak func299 ntmps299 ?_;refine tE ?_;exact zeR
theorem Vi{a k:Nat}{o:Int}{n:Nd}{s:M}(hg:p.au.length<=1099511627776)(hn:p.ae[a]?=some n)(Y:own[a]?=some o)(w:o<0)(hx:bL (fun x=>x==n.s) p.au=(k:Int))(m:k<s.b7.length)(x:Int) :
  GF prog 299 [.loc 0 0,.loc 5 0,y4 (a:Nat),y4 x] (mS p own F H al cl s) (.tup []) (mS p own F H al cl { s with b7:=s.b7.set k x }):=by
 have G:=gE Y;have u:=cq hn;have Q:=gC p.au n.s hg;rw[wX,hx]at Q;have X:(cz s.b7)[k]?=some [.v (ii s.b7[k])]:=gE (cY m)
 have r:k<(cz s.b7).length:=by grind
 have t:(cz s.b7).length=s.b7.length:=bS _
 have J:decide ((0:Int)<=o)=false:=by grind
 have e:mS p own F H al cl { s with b7:=s.b7.set k x }=[dp p own F H s,pb s,.vech 3 1 (dI (cz s.b7) k 0 (y4 x)) (.slice H.ag s.b7.length H.cg),p8 H s,rD H s,oO al cl s,o9 al cl s]:=by
  rw[ug];unfold mS dp qy;simp only[length_set];rfl
 rw[e];unfold aR at u;unfold mS dp qy;refine ak func299 ntmps299 ?_;refine aV (aM 0 19 (.q 20 (.a 19 (.q 21 (.a 22 .nil))))) ?_;refine ay ?_;refine aX [] Q ?_;refine zdp ?_;refine zaM ?_;exact zcj
def ia(p:Src)(own:List Int)(F:Nat)(H:MH)(al:Option Addr)(cl:Nat)(a k:Nat)(s t:M)(v:Int):Prop :=
 GF prog 229 [.loc 0 0,.loc 5 0,y4 (a:Nat),y4 (k:Nat)] (mS p own F H al cl s) (y4 v) (mS p own F H al cl t)
section
variable{a:Nat}{n:Nd}
theorem yE{s t:M}{v:Int}(hn:p.ae[a]?=some n)(X:ia p own F H al cl a 0 s t v)(k:t.over=true) :
  GF prog 230 [.loc 0 0,.loc 5 0,y4 (a:Nat)] (mS p own F H al cl s) (y4 0) (mS p own F H al cl t):=by
 have r:=cq hn;have O:=kg p own F H al cl t;rw[k]at O;unfold ia at X;unfold aR at r;unfold mS at *;unfold dp at *;refine ak func230 ntmps230 ?_;refine a7 [0,1,2,3,4,5,6] X ?_;refine V ?_;refine a7 [0,1,5,6] O ?_;exact aK
theorem yF{s t u:M}{v w:Int}(hn:p.ae[a]?=some n)(X:ia p own F H al cl a 0 s t v)(k:t.over=false)(A:(n.s=[124,124]->v=0)/\(n.s=[38,38]->v≠0))(T:ia p own F H al cl a 1 t u w)(m:u.over=true) :
  GF prog 230 [.loc 0 0,.loc 5 0,y4 (a:Nat)] (mS p own F H al cl s) (y4 0) (mS p own F H al cl u):=by
 have r:=cq hn;have O:=kg p own F H al cl t;have z:=kg p own F H al cl u;rw[k]at O;rw[m]at z;unfold ia at X T;unfold aR at r;unfold mS at *;unfold dp at *
 cases G:(n.s==[124,124])with
 |true =>
  have e:(v != 0)=false:=by grind
  have B:(n.s==[38,38])=false:=by grind
  exact zbP
 |false =>
  cases B:(n.s==[38,38])with
  |true =>
   have e:(v==0)=false:=by grind
   exact zbP
  |false =>
   exact zbP
theorem Dn{s t:M}{v:Int}(hn:p.ae[a]?=some n)(X:ia p own F H al cl a 0 s t v)(k:t.over=false)(u:n.s=[124,124]/\v≠0\/n.s=[38,38]/\v=0) :
  GF prog 230 [.loc 0 0,.loc 5 0,y4 (a:Nat)] (mS p own F H al cl s) (y4 (oG (v != 0))) (mS p own F H al cl t):=by
 have r:=cq hn;have O:=kg p own F H al cl t;rw[k]at O;have w:=sd (v != 0);unfold ia at X;unfold aR at r;unfold mS at *;unfold dp at *
 rcases u with⟨G,B⟩|⟨G,B⟩
 ·have e:(v != 0)=true:=by grind
  have J:(n.s==[124,124])=true:=by grind
  exact zb3
 ·have e:(v != 0)=false:=by grind
  have Y:(v==0)=true:=by grind
  have J:(n.s==[38,38])=true:=by grind
  have Z:(n.s==[124,124])=false:=by grind
  exact zb3
theorem Dp{s t u:M}{v w:Int}(hn:p.ae[a]?=some n)(X:ia p own F H al cl a 0 s t v)(k:t.over=false)(A:n.s=[124,124]/\v=0\/n.s=[38,38]/\v≠0)(T:ia p own F H al cl a 1 t u w)(m:u.over=false) :
  GF prog 230 [.loc 0 0,.loc 5 0,y4 (a:Nat)] (mS p own F H al cl s) (y4 (oG (w != 0))) (mS p own F H al cl u):=by
 have r:=cq hn;have O:=kg p own F H al cl t;rw[k]at O;have z:=kg p own F H al cl u;rw[m]at z;have B:=sd (w != 0);unfold ia at X T;unfold aR at r;unfold mS at *;unfold dp at *
 rcases A with⟨G,C⟩|⟨G,C⟩
 ·have e:(v != 0)=false:=by grind
  have J:(n.s==[124,124])=true:=by grind
  have Z:(n.s==[38,38])=false:=by grind
  exact zcz
 ·have e:(v==0)=false:=by grind
  have J:(n.s==[38,38])=true:=by grind
  have Z:(n.s==[124,124])=false:=by grind
  exact zcz
theorem NM{s t u:M}{v w:Int}(hn:p.ae[a]?=some n)(X:ia p own F H al cl a 0 s t v)(k:t.over=false)(z:n.s∈qC)(T:ia p own F H al cl a 1 t u w)(m:u.over=false) :
  GF prog 230 [.loc 0 0,.loc 5 0,y4 (a:Nat)] (mS p own F H al cl s) (y4 (if(qB n.s v w).2≠0 then 0 else(qB n.s v w).1)) (mS p own F H al cl (if(qB n.s v w).2≠0 then u.stop 2 (qB n.s v w).2 else u)):=by
 have r:=cq hn;have O:=kg p own F H al cl t;rw[k]at O;have A:=kg p own F H al cl u;rw[m]at A;have B:=IW n.s v w z;have Y:=zt p own F H u 2 (qB n.s v w).2
 have G:(n.s==[124,124])=false:=by
  cases h:(n.s==[124,124])with
  |false=>rfl
  |true=>rw[show n.s=[124,124] by grind]at z;revert z;decide
 have Z:(n.s==[38,38])=false:=by
  cases h:(n.s==[38,38])with
  |false=>rfl
  |true=>rw[show n.s=[38,38] by grind]at z;revert z;decide
 generalize(qB n.s v w).1=x at *;generalize(qB n.s v w).2=c at *;unfold ia at X T;unfold aR at r;unfold mS at *;unfold dp at *
 cases o:(c != 0)with
 |true =>
  rw[ai ze2,ai ze2];refine ak func230 ntmps230 ?_;refine zah ?_;refine a7 [0,1,5,6] A ?_;refine V ?_;refine I [] B ?_;refine I [0,1] Y ?_;exact az
 |false =>
  rw[ab ze2,ab ze2];refine ak func230 ntmps230 ?_;refine zah ?_;refine a7 [0,1,5,6] A ?_;refine V ?_;refine I [] B ?_;exact az
end
end
end Go.Xg
namespace Go.Mn
open Go.Xp (ah bH)
def mn(O:Op)(F:Nat)(B:Nat->R)(x:Int)(s':M)(K:List Int->M->Prop):Nat->List R->List Int->M->Prop
 |_,[],J,s=>K J s
 |0,_::_,_,_=>False
 |g+1,r::l,J,s=>∃v t,ev O F B g r s=some (v,t)/\(t.over=true->x=0/\s'=t)/\(t.over=false->mn O F B x s' K g l (J++[v]) t)
section
variable{O:Op}{F:Nat}{B:Nat->R}{x:Int}{s':M}{K:List Int->M->Prop}
theorem BM:∀(g:Nat)(l:List R)(J:List Int)(s:M)(args:List Int)(t:M),nS O F B g l J s=some (args,t)->s.over=false->(t.over=true->x=0/\s'=t)->(t.over=false->K args t)->mn O F B x s' K g l J s
 |0,l,J,s,args,t,h,q,Q,w=>by grind[nS]
 |g+1,[],J,s,args,t,h,q,Q,w=>by
  grind[nS,Option.some.injEq,Prod.mk.injEq,mn]
 |g+1,r::l,J,s,args,t,h,q,Q,w=>by
  simp only[nS]at h;have⟨v,u,e,N⟩:=cV h;rw[mn];refine⟨v,u,e,fun m=>?_,fun m=>?_⟩
  ·grind
  ·rw[ab ze2]at N;exact BM g l _ u args t N m Q w
end
end Go.Mn
namespace Go.Im
open Go.Xp Go.Sp Go.Mn
def wC(p:Src)(F:Nat)(B:Nat->R)(G:Nat)(n:Nd)(x:Int)(s':M)(args:List Int)(t:M):Prop :=
 (n.s=lP/\((t.inp=[]/\x = -1/\s'=t)\/∃a r,t.inp=a::r/\x=bH a/\s'={ t with inp:=r })) \/
 (n.s=lR/\∃v,args=[v]/\x=0/\s'={ t with out:=t.out++[v%4294967296%256] }) \/
 (n.s≠lP/\n.s≠lR/\∃i:Nat,jd p n.s=(i:Int)/\((100<=t.aW/\x=0/\s'=t.stop 5 0)\/(t.aW<100/\∃g w u,g<=G/\ev oP F B g (B i) (t.enter args)=some (w,u)/\x=u.jV/\s'=t.leave u)))
def O6{p:Src}{F:Nat}{B:Nat->R}{g:Nat}{n:Nd}{l:List T}{ls:List ah}{s s':M}{x:Int}(Q:n.aj=4)(m:n.s≠ef)(k:bG p (.mk n l) ls=0)(q:s.over=false)(h:bY oP F B g (qj p n l ls (gY p l ls)) s=some (x,s')) :
  ∃Z,Z<=g/\mn oP F B x s' (wC p F B g n x s') Z (gY p l ls) [] s:=by
 cases g with
 |zero=>grind[bY]
 |succ g =>
 unfold bG at k;rw[ab (show ¬(T.mk n l).n.aj=13 by grind[T.n]),ab (show ¬((T.mk n l).n.aj=2\/(T.mk n l).n.aj=7) by grind[T.n]),ab (show ¬((T.mk n l).n.aj=3\/(T.mk n l).n.aj=8) by grind[T.n]),ai (show(T.mk n l).n.aj=4 from Q)]at k;unfold dw b8 at k;simp only[show(T.mk n l).n=n from rfl,show(T.mk n l).aw=l from rfl]at k;rw[ab ze2]at k
 have G:jv p n.s ≠ -1:=fun e=>by omega
 have E:jv p n.s=(l.length:Int):=by
  omega
 unfold qj at h;rw[ab (show ¬n.aj=1 by omega),ab (show ¬n.aj=2 by omega),ab (show ¬n.aj=3 by omega),ai Q,ab m]at h
 by_cases C:n.s=lP
 ·rw[ai C]at h;have X:l=[]:=kQ (by grind[jv]);subst X;refine⟨g+1,a8 _,?_⟩;rw[gY,mn];refine .inl ⟨C,?_⟩;simp only[bY]at h
  cases z:s.inp with
  |nil =>
   grind
  |cons a r =>
   rw[z]at h;simp only[Option.some.injEq,Prod.mk.injEq]at h;exact .inr ⟨a,r,rfl,h.1.symm,h.2.symm⟩
 rw[ab C]at h
 by_cases A:n.s=lR
 ·rw[ai A]at h
  have X:l.length=1:=by grind[jv]
  obtain⟨a,rfl⟩:∃a,l=[a]:=by
   match l,X with
   |[a],_=>simp
  rw[gY,gY]at h |-;simp only[bY,r0,List.getElem?_cons_zero]at h;have⟨v,t,j,J⟩:=cV h;refine⟨g+1,a8 _,?_⟩;rw[mn];refine⟨v,t,j,fun o=>?_,fun o=>?_⟩
  ·grind
  grind[mn,oP,wC]
 rw[ab A]at h;simp only[bY]at h;have⟨args,t,j,J⟩:=cV h
 refine⟨g,Nat.le_succ _,BM (x:=x) (s':=s') (K:=wC p F B (g+1) n x s') g _ _ _ _ _ j q (fun o=>by
  grind) (fun o=>by
  rw[ab ze2]at J
  have S:∃i:Nat,jd p n.s=(i:Int):=by
   unfold jv at G;rw[ab C,ab ze2]at G;unfold jd bL
   grind
  have⟨i,z⟩:=S;refine .inr (.inr ⟨C,A,i,z,?_⟩);rw[z,eV]at J
  by_cases N:100<=t.aW
  ·grind
  ·rw[ab N]at J;have⟨w,u,W,Y⟩:=cV J
   grind)⟩
end Go.Im
namespace Go.Xg
open Go.RowKit Go.Xw Go.Proofs Tryz Go.Im Go.Mn
open Go.Xp (Nd T)
open Go.Sp (Src)
attribute [local irreducible] GW GL GO D GC GA bo bn
def mC(p:Src)(own:List Int)(F:Nat)(H:MH)(s:M)(x:Ob):ap:=[dp p own F H s,pb s,qy H s,p8 H s,rD H s,x]
def zh(p:Src)(own:List Int)(F:Nat)(H:MH)(i:Nat)(args:List Int)(s s':M)(x:Int):Prop:=∀(n:Option Addr)(t:Nat),
 GC prog 104 [.loc 0 0,y4 (i:Nat),.v (.slice n args.length t)] (mC p own F H s (.vech 3 1 (cz args) (.slice n args.length t))) fun g J=>g=y4 x/\∃o,J=mC p own F H s' o
section
variable{p:Src}{l:List T}{own:List Int}{F:Nat}{H:MH}
theorem Kt{i:Nat}{args:List Int}{s:M}(hd:100<=s.aW):zh p own F H i args s (s.stop 5 0) 0:=fun o t=>by
 have Q:decide ((100:Int)<=(s.aW:Int))=true:=decide_eq_true L;have T:=zt p own F H s 5 0;unfold mC dp at *;refine ak func104 ntmps104 ?_;refine I [0,1] T ?_;refine lG ?_;exact qb (n:=6) rfl ze3 rfl (eF rfl) rfl rfl ⟨rfl,_,rfl⟩
def O1(N:Option Addr)(cl:Nat)(s:M)(args:List Int):mS p own F H N cl (s.enter args)=[dp p own F H { s with aW:=s.aW+1 },pb s,qy H s,p8 H s,rD H s,
  .box 181 [.v (.slice N (args.length+40) cl),.v (.bool false),y4 0],.vech 3 1 (cz args++List.replicate 40 [y4 0]) (.slice N (args.length+40) cl)]:=by
 unfold mS oO o9 M.enter;simp only[bp,length_replicate,cz,jK,List.map_replicate];rfl
def GG{i:Nat}{f:Go.Sp.Fn}{args:List Int}{s u:M}{w:Int}(hf:p.av[i]?=some f)(z:0<=f.body)(hd:s.aW<100)(ha:args.length<=1048576)(m:u.aW=s.aW+1)
  (J:∀N cl,GF prog 176 [.loc 0 0,.loc 5 0,y4 (f.body.toNat:Nat)] (mS p own F H N cl (s.enter args)) (y4 w) (mS p own F H N cl u)):zh p own F H i args s (s.leave u) u.jV:=fun o t=>by
 have Q:decide ((100:Int)<=(s.aW:Int))=false:=decide_eq_false L;have r:=qi hf;obtain⟨b,X⟩:∃b:Nat,f.body=(b:Int):=⟨f.body.toNat,by omega⟩;rw[X,eV]at J;unfold aI at r;rw[X]at r;have C:(cz args).length=args.length:=bS _
 have e:((u.aW-1:Nat):Int)=(u.aW:Int)-1:=by omega
 unfold mC dp;refine ak func104 ntmps104 ?_;refine GL.VW 5 (q:=40) rfl rfl rfl C aU rfl ⟨by omega,by omega⟩ ?_;intro N cl;refine zbt ?_;have J:=J N cl;rw[O1]at J;unfold dp mS at J;refine a7 [0,1,2,3,4,6,5] J ?_;refine zew ?_;refine qb (n:=6) rfl ze3 rfl (eF rfl) rfl rfl ⟨rfl,o9 N cl u,?_⟩;unfold M.leave;simp only[e];rfl
end
end Go.Xg
set_option maxHeartbeats 8000000
namespace Go.Im
open Go.Xp Go.Sp Go.Mn
def Aw{p:Src}{s:ah}(h:0<=fi p s):∃(k:Nat)(a:Ar),fi p s=(k:Int)/\p.aq[k]?=some a:=by
 have O:=qG h;refine⟨(fi p s).toNat,_,by omega,cY O⟩
def Ax{p:Src}{l:List T}(h:Good p l){k:Nat}{a:Ar}(ha:p.aq[k]?=some a):0<=a.size/\a.size<=2147483647:=by
 have:=hY.1 h.st.aq a (bN ha)
 exact zeJ
end Go.Im
namespace Go.Xg
open Go.RowKit Go.Xw Go.Proofs Tryz Go.Im Go.Mn
open GV (U)
open Go.Xp (Nd T Ar)
open Go.Sp (Src)
attribute [local irreducible] GW GL GO D GC GA bo bn
section
variable{p:Src}{l0:List T}{own:List Int}{F:Nat}{H:MH}{al:Option Addr}{cl:Nat}
theorem Jx(W:MW p l0 own F H){a:Nat}{n:Nd}{l:List T}{ls:List ah}(m:wD p own a (.mk n l) ls)(N:n.aj=4)(B:n.s=ef)(s:M) :
  GF prog 227 [.loc 0 0,.loc 5 0,y4 (a:Nat)] (mS p own F H al cl s) (y4 (ss p (la (.mk n l)).s)) (mS p own F H al cl s):=by
 have⟨⟨a1,Z⟩,⟨b1,b2⟩,⟨c1,c2⟩,⟨d1,d2⟩⟩:=gg p;have hw:=W.w;obtain⟨S,-,O,-,-,-⟩:=m.node;have d:=m.st;obtain⟨k,e,-,-,j,-,-⟩:=Bq m.wf O N B;have e:l=[k]:=e;subst e;rw[dr]at d;obtain⟨-,r,c⟩:=d;have⟨b,Y⟩:=k;rw[cJ,dr]at c;have Q:=c.1.1;have o:la (.mk n [.mk b Y])=b:=rfl;rw[o];have j:0<=fi p b.s:=j;have⟨q,C,E,G⟩:=Aw j;have z:=rC p b.s L;have J:bL (fun x:Ar=>x.name==b.s) p.aq=(q:Int):=E;rw[J]at z
 have X:ss p b.s=C.size:=by grind[ss]
 rw[X];have A:=cq S;have u:=cq Q;have t:=tt G
 have R:(n.aw.map fun i=>[GV.v (ii i)])[0]?=some [y4 ((a+1:Nat):Int)]:=by rw[r];rfl
 unfold aR at A u;rw[B]at A;unfold bb at t;unfold mS dp;refine ak func227 ntmps227 ?_;refine aV (aM 0 21 (.a 21 (aM 22 4 .nil))) ?_;refine ay ?_;refine aX [] z ?_;exact aK
def SA(s:M)(x:Int):mS p own F H al cl { s with out:=s.out++[x] }=[.box 64 [strs p.au,.sl 2 (p.aq.map bb),.sl 3 (p.av.map aI),.sl 5 (p.ae.map aR),ints own,ints s.inp,y4 (F:Nat),
 y4 s.fin,y4 s.why,y4 0,.vec 1 (s.out.length+1),y4 (s.bd:Nat),.v (.slice H.ag s.b7.length H.cg),.v (.slice H.ac s.cells.length H.cc),y4 (s.aW:Nat)],.vec 3 1 0 (cz s.out++[[y4 x]]),qy H s,p8 H s,rD H s,oO al cl s,o9 al cl s]:=by
 unfold mS dp pb;simp only[bp,List.length_singleton,cz,jK,List.map_cons,List.map_nil];rfl
theorem Sg(W:MW p l0 own F H){a:Nat}{n:Nd}{l:List T}{ls:List ah}{G g:Nat}{s s':M}{x:Int}{B:Nat->R}(hN:wD p own a (.mk n l) ls)(h4:n.aj=4)(hz:n.s≠ef)
  (aaS:∀(k:Nat)(r:R)(s t:M)(v:Int)(e:Nat),e<g->(gY p l ls)[k]?=some r->nu p F s->s.over=false->ev oP F B e r s=some (v,t)->ia p own F H al cl a k s t v)
  (C:∀(i:Nat)(args:List Int)(t:M)(e:Nat)(w:Int)(u:M),e<=G->t.over=false->t.aW<100->args.length<=1048576->nu p F t->jd p n.s=(i:Int)->ev oP F B e (B i) (t.enter args)=some (w,u)->zh p own F H i args t (t.leave u) u.jV)
  (h:mn oP F B x s' (wC p F B G n x s') g (gY p l ls) [] s)(hm:nu p F s)(hs:s.over=false) :
  GF prog 227 [.loc 0 0,.loc 5 0,y4 (a:Nat)] (mS p own F H al cl s) (y4 x) (mS p own F H al cl s'):=by
 have⟨⟨a1,a2⟩,⟨b1,b2⟩,⟨c1,c2⟩,⟨d1,d2⟩⟩:=gg p;have hw:=W.w;have hF:=W.F;obtain⟨hn,-,hf,-,-,wy⟩:=hN.node;have hr:=cq hn;have wW:=(d2 n (bN hn)).2;have hz':(n.s==[115,105,122,101])=false:=beq_eq_false_iff_ne.2 (show n.s≠[115,105,122,101]from hz);have B3:=qU p l ls;have J:(n.aw.map fun i=>[GV.v (ii i)]).length=n.aw.length:=bS _;unfold aR at hr
 have z:∀s,mS p own F H al cl s=[dp p own F H s,pb s,qy H s,p8 H s,rD H s,oO al cl s,o9 al cl s]:=fun _=>rfl
 rw[z s];unfold dp;refine dj func227 ntmps227 ?_;refine BC ?_;refine GW.wk (Wk.eS 3 1) ?_;refine zbe ?_;refine GW.block ?_
 refine GW.range (n.aw.map fun i=>[GV.v (ii i)]).length (fun k fr Γ=>∃(e:Nat)(c:List Int)(d:M)(O:Option Addr)(Q:Nat),e<=g/\mn oP F B x s' (wC p F B G n x s') e ((gY p l ls).drop k) c d/\nu p F d/\d.over=false/\c.length=k /\
  fr=[.loc 0 0,.loc 5 0,y4 (a:Nat),U,U,U,U,.loc 7 0,.v (.slice O k Q),U,U,U,U,U,U,U,U,U,U,U,U,U,U,U,U,U,U,U,U,U,U,U,U,U,U,U,U,U,U,U,U,U,U,U,U,U,U,U,ints n.aw,y4 ((n.aw.map fun i=>[GV.v (ii i)]).length:Int),y4 (k:Nat),U,U,U,U,U,U,U,U,U,U,U,U,U,U,U,U,U,U,U,U,U,U,U,U,U,U,U,U,U,U,U,U,U,U,U,U,U,U,U,U,U,U,U,U,U,U,U,U,U,U,U,U,U,U,U,U,U,U,U,U,U,U,U,U,U,U,U,U]/\Γ=[dp p own F H d,pb d,qy H d,p8 H d,rD H d,oO al cl d,o9 al cl d,.box 82 [y4 n.aj,y4 n.at_,y4 n.n,.v (sv n.s),ints n.aw],.vech 3 1 (cz c) (.slice O k Q)]) ?_ L ?_ ?_ ?_
 ·exact⟨_,_,Wk.a6 aC,g,[],s,none,0,a8 _,h,hm,hs,rfl,rfl,rfl⟩
 ·rintro k _ _⟨e,c,d,O,Q,-,-,-,-,-,rfl,rfl⟩;exact dS
 ·rintro k _ _ N⟨e,c,d,O,Q,wV,E,j,XJ,m,rfl,rfl⟩;rw[J,wy,<-B3]at N;have DU:(gY p l ls)[k]?=some (gY p l ls)[k]:=cY N;rw[lz N]at E
  cases e with
  |zero=>rw[mn]at E;grind
  |succ e =>
  rw[mn]at E;have⟨v,t,he,Uu,Uv⟩:=E;have hv:=aaS k _ d t v e L DU j XJ he;have Xz:=j.ev he;have A:=kg p own F H al cl t
  have He:(cz c).length=k:=by grind
  unfold ia at hv
  cases ho:t.over with
  |true =>
   obtain⟨rfl,rfl⟩:=Uu ho;rw[ho]at A;unfold mS at *;unfold dp at *;refine zdz ?_;intro X Y;refine zbt ?_;refine a7 [0,1,5,6] A ?_;exact aK
  |false =>
   have Z2:=Uv ho;rw[ho]at A;unfold mS at *;unfold dp at *;refine zdz ?_;intro X Y;refine zbt ?_;refine a7 [0,1,5,6] A ?_;refine V ?_;exact⟨rfl,rfl,_,_,Wk.a6 aC,e,c++[v],t,X,Y,by omega,Z2,Xz,ho,by simp[m],rfl,by rw[show cz (c++[v])=cz c++[[y4 v]] by simp];rfl⟩
 ·rintro _ _⟨e,c,d,O,Q,wV,E,j,XJ,m,rfl,rfl⟩;rw[J,wy,<-B3,List.drop_length,mn]at E;rw[J]at m |-;refine bg ?_;have hob:=j.out;have hsb:=j.bd
  rcases E with⟨S,hh⟩|⟨S,v,rfl,rfl,rfl⟩|⟨S,hp,i,hi,hh⟩
  ·have c1:(n.s==[103,101,116])=true:=beq_iff_eq.2 (show n.s=[103,101,116]from S)
   rcases hh with⟨hi,rfl,rfl⟩|⟨b,r,hi,rfl,rfl⟩
   ·rw[z];unfold dp;rw[hi];exact aK
   ·have c2:(((cz (b::r)).length:Int)==0)=false:=by rfl
    have c3:(cz (b::r))[0]?=some [y4 b]:=rfl;have hW:=fq b;rw[z];unfold dp;rw[hi];refine V ?_;refine I [] hW ?_;refine GL.q (D.Vs rfl rfl) ?_;exact zdr
  ·have c1:(n.s==[103,101,116])=false:=by rw[show n.s=[112,117,116]from S];decide
   have c2:(n.s==[112,117,116])=true:=beq_iff_eq.2 (show n.s=[112,117,116]from S);have hW:=kW v
   have Xi:0<=v%4294967296:=by omega
   rw[SA];unfold dp pb;refine V ?_;have c3:(cz [v])[0]?=some [y4 v]:=rfl;have hol:(cz d.out).length=d.out.length:=bS _;refine GW.wk ((Wk.sr (t:=8) (i:=8) rfl rfl rfl).trans (Wk.a6 (c8:=.loc 0 0::.loc 5 0::y4 (a:Nat)::U::U::U::U::U::.sl 1 (cz [v])::zU 110 []) aC)) ?_;simp only[oset];refine aV (aM 0 9 (.a 9 (.q 10 (.a 11 (.a 12 (aM 13 3 (.a 16 .nil))))))) ?_;refine ay ?_;refine aX [] hW ?_;refine zar ?_;refine vy ?_;exact zbI
  ·have c1:(n.s==[103,101,116])=false:=beq_eq_false_iff_ne.2 (show n.s≠[103,101,116]from S);have c2:(n.s==[112,117,116])=false:=beq_eq_false_iff_ne.2 (show n.s≠[112,117,116]from hp);have Xe:=zu p n.s L;have e1:bL (fun x:Go.Sp.Fn=>x.name==n.s) p.av=(i:Int):=hi;rw[e1]at Xe
   have Z:zh p own F H i c d s' x:=by
    grind[Kt]
   have XI:oO al cl s'=oO al cl d/\o9 al cl s'=o9 al cl d:=by
    rcases hh with⟨hd,rfl,rfl⟩|⟨hd,g2,w,u,Xn,DQ,rfl,rfl⟩
    ·exact zai
    ·exact zai
   have Z:=Z O Q;rw[m]at Z;unfold mC at Z;rw[z,XI.1,XI.2];unfold dp at *;refine V ?_;refine aV (aM 0 7 (.q 8 (.a 7 (.a 9 (.q 10 .nil))))) ?_;refine ay ?_;refine aX [] Xe ?_;refine OA rfl rfl (GL.Ds (bc:=[0,1,2,3,4,8]) ⟨Z⟩ nX rfl xX ?_);rintro _ _⟨rfl,o,rfl⟩;refine⟨by simp,?_⟩;refine zbu ?_;exact aK
end
section
variable(s:M)(r:List (Nat × Nat))(k q:Nat)(x:Int)
theorem Oj:List.zipWith tU (qk s k (q:Int) x).cells r=List.zipWith tU s.cells r:=by
 refine ext_getElem? fun j=>?_
 unfold qk;rw[getElem?_zipWith,getElem?_zipWith,eV,eR]
 by_cases G:k=j
 ·subst G;rw[ai rfl]
  by_cases X:k<s.cells.length
  ·rw[ai X,vE X]
   grind[DP,row,tU]
  grind
 grind
theorem NK(h:Nat × Nat)(l:k<s.cells.length)(O:r[k]?=some h):List.zipWith sT (qk s k (q:Int) x).cells r=(List.zipWith sT s.cells r).set k (.vech 3 1 (dI (cz (row s k)) q 0 (y4 x)) (DP (row s k) h)):=by
 refine ext_getElem? fun j=>?_
 unfold qk;rw[getElem?_zipWith,eR,eV,eR,py,getElem?_zipWith];have X:=(b6 O).1
 by_cases G:k=j
 ·subst G;rw[ai rfl,ai l,ai rfl,ai L,O];show some (sT _ _)=_;unfold sT DP
  grind[ug]
 grind
end
def Sc{p:Src}{own:List Int}{F:Nat}{H:MH}{al:Option Addr}{cl:Nat}(s:M)(k q:Nat)(x:Int)(h:Nat × Nat)(l:k<s.cells.length)(Q:H.hs[k]?=some h):mS p own F H al cl (qk s k (q:Int) x) =
  [dp p own F H s,pb s,qy H s,p8 H s,blob ((List.zipWith sT s.cells H.hs).set k (.vech 3 1 (dI (cz (row s k)) q 0 (y4 x)) (DP (row s k) h))),oO al cl s,o9 al cl s]:=by
 have O:=Oj s H.hs k q x;have w:=NK s H.hs k q x h l Q
 have z:(qk s k (q:Int) x).cells.length=s.cells.length:=by simp[M.cells,qk]
 unfold mS p8 rD dp;rw[O,w,z];rfl
section
variable{p:Src}{l0:List T}{own:List Int}{F:Nat}{H:MH}{al:Option Addr}{cl:Nat}
def EZ{a k:Nat}{n:Nd}{h:Nat × Nat}{s t u:M}{c:Value}{v:Int}(hn:p.ae[a]?=some n)(z:n.aj=8)
  (m:GF prog 226 [.loc 0 0,.loc 5 0,y4 (a:Nat)] (mS p own F H al cl s) (.v c) (mS p own F H al cl t))
  (hx:c=.pointer none\/∃q:Nat,c=.pointer (some ⟨h.1,q,none⟩)/\q<(row t k).length/\k<t.cells.length/\H.hs[k]?=some h/\ia p own F H al cl a 1 t u v/\(u.over=false->(row u k).length=(row t k).length/\u.cells.length=t.cells.length))(s':M)
  (C:(c=.pointer none->s'=t)/\∀q:Nat,c=.pointer (some ⟨h.1,q,none⟩)->s'=if u.over=true then u else qk u k (q:Int) v) :
  GF prog 232 [.loc 0 0,.loc 5 0,y4 (a:Nat)] (mS p own F H al cl s) (.tup []) (mS p own F H al cl s'):=by
 have r:=cq hn;unfold aR at r;rw[z]at r
 have Y:∀s,mS p own F H al cl s=[dp p own F H s,pb s,qy H s,p8 H s,rD H s,oO al cl s,o9 al cl s]:=fun _=>rfl
 rcases hx with rfl|⟨q,rfl,E,B,O,X,o⟩
 ·have e:=C.1 rfl;subst e;unfold mS at *;unfold dp at *;refine ak func232 ntmps232 ?_;refine zc3 ?_;refine bh ?_;exact et
 ·have e:=C.2 q rfl;have T:=kg p own F H al cl u;unfold ia at X
  cases l:u.over with
  |true =>
   rw[l]at T;rw[l,ai rfl]at e;subst e;unfold mS at *;unfold dp at *;refine ak func232 ntmps232 ?_;refine zc3 ?_;refine zak ?_;refine zae ?_;exact et
  |false =>
   rw[l]at T;rw[l,ab aU]at e;have⟨w,W⟩:=o l;subst e;rw[Sc u k q v h L O]
   have A:(List.zipWith sT u.cells H.hs)[k]?=some (.vech 3 1 (cz (row u k)) (.slice (some ⟨h.1,0,none⟩) (row u k).length h.2)):=by
    rw[getElem?_zipWith,vE L,O];rfl
   unfold mS at *;unfold dp rD at *;refine ak func232 ntmps232 ?_;refine zc3 ?_;refine zak ?_;refine zae ?_;refine V ?_;refine GL.q (D.UZ rfl) ?_;refine bh ?_;refine GL.stQ 4 k rfl rfl A ze2 rfl rfl ?_;refine cP ?_;exact et
section
variable{a:Nat}{n:Nd}
def qW{s t s':M}{v:Int}(hn:p.ae[a]?=some n)(k:n.aj=7\/n.aj=13)(X:ia p own F H al cl a 0 s t v)(O:t.over=true->s'=t)
  (w:t.over=false->GF prog 299 [.loc 0 0,.loc 5 0,y4 (a:Nat),y4 v] (mS p own F H al cl t) (.tup []) (mS p own F H al cl s')) :
  GF prog 232 [.loc 0 0,.loc 5 0,y4 (a:Nat)] (mS p own F H al cl s) (.tup []) (mS p own F H al cl s'):=by
 have r:=cq hn;have T:=kg p own F H al cl t;unfold aR at r;unfold ia at X
 cases l:t.over with
 |true =>
  rw[l]at T;have e:=O l;subst e;unfold mS at *;unfold dp at *
  rcases k with k|k
  all_goals
   rw[k]at r;exact za0
 |false =>
  rw[l]at T;have W:=w l;unfold mS at *;unfold dp at *
  rcases k with k|k
  all_goals
   rw[k]at r;exact zbp
def E0{s t:M}{v:Int}(hn:p.ae[a]?=some n)(k:n.aj=11\/n.aj=12)(X:ia p own F H al cl a 0 s t v) :
  GF prog 232 [.loc 0 0,.loc 5 0,y4 (a:Nat)] (mS p own F H al cl s) (.tup []) (mS p own F H al cl (if t.over=true then t else if n.aj=11 then{ t with left:=true,jV:=v }else t)):=by
 have r:=cq hn;have T:=kg p own F H al cl t;unfold aR at r;unfold ia at X
 cases l:t.over with
 |true =>
  rw[l]at T;rw[ai rfl];unfold mS at *;unfold dp at *
  rcases k with k|k
  all_goals
   rw[k]at r;exact za0
 |false =>
  rw[l]at T;rw[ab aU]
  rcases k with k|k
  ·rw[ai k];rw[k]at r;unfold mS at *;unfold dp oO at *;exact za0
  ·rw[ab L];rw[k]at r;exact zd2
theorem sM{s t s':M}{v:Int}(hn:p.ae[a]?=some n)(l:n.aj=9)(X:ia p own F H al cl a 0 s t v)(O:t.over=true->s'=t)
  (z:t.over=false->(v≠0/\∃w,ia p own F H al cl a 1 t s' w)\/(v=0/\n.aw.length=3/\∃w,ia p own F H al cl a 2 t s' w)\/(v=0/\n.aw.length≠3/\s'=t)) :
  GF prog 232 [.loc 0 0,.loc 5 0,y4 (a:Nat)] (mS p own F H al cl s) (.tup []) (mS p own F H al cl s'):=by
 have r:=cq hn;have T:=kg p own F H al cl t;unfold aR at r;rw[l]at r;unfold ia at X
 cases k:t.over with
 |true =>
  rw[k]at T;have e:=O k;subst e;exact zd2
 |false =>
  rw[k]at T
  rcases z k with⟨G,w,W⟩|⟨G,B,w,W⟩|⟨G,B,e⟩
  ·have j:(v != 0)=true:=by grind
   unfold ia at W;unfold mS at *;unfold dp at *;exact zbp
  ·have j:(v != 0)=false:=by grind
   have J:(((n.aw.map fun i=>[GV.v (ii i)]).length:Int)==3)=true:=by grind
   unfold ia at W;unfold mS at *;unfold dp at *;exact zbp
  ·subst e
   have j:(v != 0)=false:=by grind
   have J:(((n.aw.map fun i=>[GV.v (ii i)]).length:Int)==3)=false:=by grind
   exact zd2
end
end
section
variable{p:Src}{l0:List T}{own:List Int}{F:Nat}{H:MH}{al:Option Addr}{cl:Nat}{B:Nat->R}
def Dc(p:Src)(own:List Int)(F:Nat)(H:MH)(al:Option Addr)(cl:Nat)(B:Nat->R)(a:Nat)(rs:List R)(G:Nat):Prop :=
 ∀(k:Nat)(r:R)(s t:M)(v:Int)(Z:Nat),Z<=G->rs[k]?=some r->nu p F s->s.over=false->ev oP F B Z r s=some (v,t)->ia p own F H al cl a k s t v
def JT{a g:Nat}{n:Nd}{c b:R}{rs:List R}{s s':M}(hn:p.ae[a]?=some n)(o:n.aj=10)(aaS:Dc p own F H al cl B a rs g)(l:rs[0]?=some c)(N:rs[1]?=some b)(G:nu p F s)(q:s.over=false)(h:pJ oP F B g c b s=some ((),s')) :
  GF prog 232 [.loc 0 0,.loc 5 0,y4 (a:Nat)] (mS p own F H al cl s) (.tup []) (mS p own F H al cl s'):=by
 have C:=cq hn;unfold aR at C;rw[o]at C
 have Y:∀s,mS p own F H al cl s=[dp p own F H s,pb s,qy H s,p8 H s,rD H s,oO al cl s,o9 al cl s]:=fun _=>rfl
 rw[Y s];unfold dp;refine ak func232 ntmps232 ?_;refine GW.loop (fun z:Nat × M=>z.1) (fun z E i=>E=.loc 0 0::.loc 5 0::y4 (a:Nat)::U::U::U::.loc 7 0::zU 111 []/\i=[dp p own F H z.2,pb z.2,qy H z.2,p8 H z.2,rD H z.2,oO al cl z.2,o9 al cl z.2,.box 82 [y4 10,y4 n.at_,y4 n.n,.v (sv n.s),ints n.aw]]/\z.1<=g/\nu p F z.2/\z.2.over=false/\pJ oP F B z.1 c b z.2=some ((),s')) (g,s) ?_ ?_
 ·exact⟨_,_,Wk.a6 aC,rfl,rfl,a8 _,G,q,h⟩
 ·clear h q G;rintro⟨Z,s⟩_ _⟨rfl,rfl,O,G,q,h⟩;simp only at O G q h |-
  cases Z with
  |zero=>simp only[pJ]at h;cases h
  |succ Z =>
  rw[pJ]at h;have⟨v,t,e,h⟩:=cV h;have X:=aaS 0 c s t v Z L l G q e;have A:=G.ev e;have T:=kg p own F H al cl t;unfold ia at X
  cases k:t.over with
  |true =>
   rw[k]at T;rw[ai k]at h;exact zcb
  |false =>
   rw[k]at T;rw[ab ze2]at h
   cases Q:(v==0)with
   |true =>
    rw[ai ze2]at h;exact zcb
   |false =>
    rw[ab ze2]at h;have⟨w,u,J,h⟩:=cV h;have d:=aaS 1 b t u w Z L N A k J;have r:=A.ev J;have W:=kg p own F H al cl u;unfold ia at d
    cases m:u.over with
    |true =>
     rw[m]at W;rw[ai m]at h;simp only[Option.some.injEq,Prod.mk.injEq,true_and]at h;subst h;unfold mS at *;unfold dp at *;refine zef ?_;exact et
    |false =>
     rw[m]at W;rw[ab ze2]at h;unfold mS at *;unfold dp at *;refine zef ?_;refine V ?_;exact⟨(Z,u),⟨_,_,Wk.a6 aC,rfl,rfl,by omega,r,m,h⟩,by simp⟩
theorem TE{a:Nat}{s:M}(Y:F<=s.bd):GF prog 176 [.loc 0 0,.loc 5 0,y4 (a:Nat)] (mS p own F H al cl s) (y4 0) (mS p own F H al cl (s.stop 3 0)):=by
 have G:decide (((F:Nat):Int)<=((s.bd:Nat):Int))=true:=by grind
 have T:=zt p own F H s 3 0;unfold mS;unfold dp at *;refine ak func176 ntmps176 ?_;refine zaN ?_;refine I [0,1] T ?_;exact az
theorem TG{a:Nat}{n:Nd}{s:M}(hn:p.ae[a]?=some n)(k:n.aj=1)(O:s.bd<F)(W:F<=20000):GF prog 176 [.loc 0 0,.loc 5 0,y4 (a:Nat)] (mS p own F H al cl s) (y4 n.n) (mS p own F H al cl { s with bd:=s.bd+1 }):=by
 have G:decide (((F:Nat):Int)<=((s.bd:Nat):Int))=false:=by grind
 have r:=cq hn;unfold aR at r;rw[k]at r;unfold mS dp;exact zeb
theorem TF{a k:Nat}{n:Nd}{s:M}(hn:p.ae[a]?=some n)(l:n.aj=2)(O:s.bd<F)(W:F<=20000)(Y:own[a]?=some (k:Int))(X:k<s.locs.length) :
  GF prog 176 [.loc 0 0,.loc 5 0,y4 (a:Nat)] (mS p own F H al cl s) (y4 (s.locs.getD k 0)) (mS p own F H al cl { s with bd:=s.bd+1 }):=by
 have J:decide (((F:Nat):Int)<=((s.bd:Nat):Int))=false:=by grind
 have r:=cq hn;have G:=gE Y
 have o:decide ((0:Int)<=(k:Int))=true:=by simp
 have hx:(cz s.locs)[k]?=some [y4 (s.locs.getD k 0)]:=gE ze2
 have m:k<(cz s.locs).length:=by grind
 have q:(cz s.locs).length=s.locs.length:=bS _;unfold aR at r;rw[l]at r;unfold mS dp o9 oO;exact zeb
theorem RA{a k:Nat}{o:Int}{n:Nd}{s:M}(hg:p.au.length<=1099511627776)(hn:p.ae[a]?=some n)(l:n.aj=2)(O:s.bd<F)(W:F<=20000)(Y:own[a]?=some o)(u:o<0)(hx:bL (fun x=>x==n.s) p.au=(k:Int))(X:k<s.b7.length) :
  GF prog 176 [.loc 0 0,.loc 5 0,y4 (a:Nat)] (mS p own F H al cl s) (y4 (s.b7.getD k 0)) (mS p own F H al cl { s with bd:=s.bd+1 }):=by
 have J:decide (((F:Nat):Int)<=((s.bd:Nat):Int))=false:=by grind
 have r:=cq hn;have G:=gE Y
 have q:decide ((0:Int)<=o)=false:=by grind
 have Q:=gC p.au n.s hg;rw[wX,hx]at Q;have N:(cz s.b7)[k]?=some [y4 (s.b7.getD k 0)]:=gE ze2
 have m:k<(cz s.b7).length:=by grind
 have t:(cz s.b7).length=s.b7.length:=bS _;unfold aR at r;rw[l]at r;unfold mS dp qy;refine ak func176 ntmps176 ?_;refine zaN ?_;refine aV (aM 0 12 (.a 12 (aM 13 3 .nil))) ?_;refine ay ?_;refine aX [] Q ?_;exact aK
theorem I7{a k q:Nat}{n:Nd}{h:Nat × Nat}{s t:M}{c:Value}(hn:p.ae[a]?=some n)(m:n.aj=3)(Q:s.bd<F)(W:F<=20000)
  (l:GF prog 226 [.loc 0 0,.loc 5 0,y4 (a:Nat)] (mS p own F H al cl { s with bd:=s.bd+1 }) (.v c) (mS p own F H al cl t))(x:Int)
  (hx:c=.pointer none/\x=0\/c=.pointer (some ⟨h.1,q,none⟩)/\q<(row t k).length/\k<t.cells.length/\H.hs[k]?=some h/\x=(row t k).getD q 0) :
  GF prog 176 [.loc 0 0,.loc 5 0,y4 (a:Nat)] (mS p own F H al cl s) (y4 x) (mS p own F H al cl t):=by
 have G:decide (((F:Nat):Int)<=((s.bd:Nat):Int))=false:=by grind
 have r:=cq hn;unfold aR at r;rw[m]at r
 rcases hx with⟨rfl,rfl⟩|⟨rfl,o,A,O,rfl⟩
 ·unfold mS at *;unfold dp at *;refine ak func176 ntmps176 ?_;refine zaN ?_;refine a7 [0,1,2,3,4,5,6] l ?_;refine V ?_;refine GL.q (D.UX rfl rfl) ?_;exact zdr
 ·have z:(List.zipWith sT t.cells H.hs)[k]?=some (.vech 3 1 (cz (row t k)) (.slice (some ⟨h.1,0,none⟩) (row t k).length h.2)):=by
   rw[getElem?_zipWith,vE A,O];rfl
  have hx:(cz (row t k))[q]?=some [y4 ((row t k).getD q 0)]:=gE ze2;unfold mS at *;unfold dp rD at *;refine ak func176 ntmps176 ?_;refine zaN ?_;refine a7 [0,1,2,3,4,5,6] l ?_;refine V ?_;refine GL.q (D.UX rfl rfl) ?_;refine zak ?_;refine GL.q (D.UZ rfl) ?_;refine bh ?_;refine GL.q (D.ldQ 4 k rfl rfl z hx) ?_;exact zdr
section
variable{a:Nat}{n:Nd}
theorem GK{s s':M}{x:Int}(hn:p.ae[a]?=some n)(l:n.aj=4)(O:s.bd<F)(W:F<=20000)
  (k:GF prog 227 [.loc 0 0,.loc 5 0,y4 (a:Nat)] (mS p own F H al cl { s with bd:=s.bd+1 }) (y4 x) (mS p own F H al cl s')) :
  GF prog 176 [.loc 0 0,.loc 5 0,y4 (a:Nat)] (mS p own F H al cl s) (y4 x) (mS p own F H al cl s'):=by
 have G:decide (((F:Nat):Int)<=((s.bd:Nat):Int))=false:=by grind
 have r:=cq hn;unfold aR at r;rw[l]at r;exact za9
theorem TD{s s':M}{x:Int}(hn:p.ae[a]?=some n)(l:n.aj=6)(O:s.bd<F)(W:F<=20000)
  (k:GF prog 230 [.loc 0 0,.loc 5 0,y4 (a:Nat)] (mS p own F H al cl { s with bd:=s.bd+1 }) (y4 x) (mS p own F H al cl s')) :
  GF prog 176 [.loc 0 0,.loc 5 0,y4 (a:Nat)] (mS p own F H al cl s) (y4 x) (mS p own F H al cl s'):=by
 have G:decide (((F:Nat):Int)<=((s.bd:Nat):Int))=false:=by grind
 have r:=cq hn;unfold aR at r;rw[l]at r;exact za9
theorem V3{s t:M}{v:Int}(hn:p.ae[a]?=some n)(k:n.aj=5)(O:s.bd<F)(W:F<=20000)(m:n.s=[45]\/n.s=[33]\/n.s=[126])(X:ia p own F H al cl a 0 { s with bd:=s.bd+1 } t v) :
  GF prog 176 [.loc 0 0,.loc 5 0,y4 (a:Nat)] (mS p own F H al cl s) (y4 (VD n.s v)) (mS p own F H al cl t):=by
 have G:decide (((F:Nat):Int)<=((s.bd:Nat):Int))=false:=by grind
 have r:=cq hn;have o:=M0 n.s v m;unfold aR at r;rw[k]at r;unfold ia at X;unfold mS at *;unfold dp at *;refine ak func176 ntmps176 ?_;refine zaN ?_;refine aV (aM 0 5 (.a 5 (.a 6 (.q 7 .nil)))) ?_;refine ay ?_;refine M6 [0,1,2,3,4,5,6] X ?_;refine ay ?_;refine aX [] o ?_;exact aK
theorem V2{s s':M}(hn:p.ae[a]?=some n)(l:7<=n.aj/\n.aj<=13)(O:s.bd<F)(W:F<=20000)
  (k:GF prog 232 [.loc 0 0,.loc 5 0,y4 (a:Nat)] (mS p own F H al cl { s with bd:=s.bd+1 }) (.tup []) (mS p own F H al cl s')) :
  GF prog 176 [.loc 0 0,.loc 5 0,y4 (a:Nat)] (mS p own F H al cl s) (y4 0) (mS p own F H al cl s'):=by
 have G:decide (((F:Nat):Int)<=((s.bd:Nat):Int))=false:=by grind
 have r:=cq hn
 have C:(n.aj==1)=false:=by grind
 have N:(n.aj==2)=false:=by grind
 have t:(n.aj==3)=false:=by grind
 have J:(n.aj==4)=false:=by grind
 have X:(n.aj==5)=false:=by grind
 have Y:(n.aj==6)=false:=by grind
 have Q:(n.aj==14)=false:=by grind
 unfold aR at r;exact za9
end
theorem N4{a g:Nat}{n:Nd}{rs:List R}{s s':M}(hn:p.ae[a]?=some n)(m:n.aj=14)(O:s.bd<F)(u:F<=20000)(A:n.aw.length=rs.length)(N:n.aw.length<=1048576)(aaS:Dc p own F H al cl B a rs g)(J:nu p F { s with bd:=s.bd+1 })(q:s.over=false)
  (h:mT oP F B g rs { s with bd:=s.bd+1 }=some ((),s')):GF prog 176 [.loc 0 0,.loc 5 0,y4 (a:Nat)] (mS p own F H al cl s) (y4 0) (mS p own F H al cl s'):=by
 have Q:decide (((F:Nat):Int)<=((s.bd:Nat):Int))=false:=by grind
 have r:=cq hn;have o:(n.aw.map fun i=>[GV.v (ii i)]).length=n.aw.length:=bS _;unfold aR at r;rw[m]at r
 have Y:∀s,mS p own F H al cl s=[dp p own F H s,pb s,qy H s,p8 H s,rD H s,oO al cl s,o9 al cl s]:=fun _=>rfl
 rw[Y s];unfold dp;refine ak func176 ntmps176 ?_;refine zaN ?_
 refine GW.range (n.aw.map fun i=>[GV.v (ii i)]).length (fun k G d=>∃(Z:Nat)(W:M),Z<=g/\mT oP F B Z (rs.drop k) W=some ((),s')/\nu p F W/\W.over=false/\G=[.loc 0 0,.loc 5 0,y4 (a:Nat),U,U,U,U,U,U,U,U,U,U,U,U,U,U,U,U,U,U,U,U,U,U,U,U,U,U,U,U,U,U,U,U,U,U,U,U,U,U,U,U,U,U,U,U,U,U,U,U,U,U,U,U,U,U,U,U,U,U,U,U,U,U,U,U,U,U,U,U,U,U,U,U,U,U,U,U,U,U,U,U,U,U,U,U,U,U,U,U,U,U,U,U,U,U,U,U,U,U,U,U,U,U,U,U,U,U,U,U,U,U,U,ints n.aw,y4 ((n.aw.map fun i=>[GV.v (ii i)]).length:Int),y4 (k:Nat),U,U,U,U,U,U,U,U,U,U,U,U,U,U,U] /\
  d=[dp p own F H W,pb W,qy H W,p8 H W,rD H W,oO al cl W,o9 al cl W,.box 82 [y4 14,y4 n.at_,y4 n.n,.v (sv n.s),ints n.aw]]) ?_ L ?_ ?_ ?_
 ·exact⟨_,_,Wk.a6 aC,g,{ s with bd:=s.bd+1 },a8 _,h,J,q,rfl,rfl⟩
 ·rintro k _ _⟨Z,W,-,-,-,-,rfl,rfl⟩;exact dS
 ·rintro k _ _ w⟨Z,W,E,T,j,b,rfl,rfl⟩;rw[o,A]at w;have C:rs[k]?=some rs[k]:=cY w;rw[lz w]at T
  cases Z with
  |zero=>simp only[mT]at T;cases T
  |succ Z =>
  rw[mT]at T;have⟨v,t,e,T⟩:=cV T;have c:=aaS k _ W t v Z L C j b e;have z:=j.ev e;have X:=kg p own F H al cl t;unfold ia at c
  cases l:t.over with
  |true =>
   rw[l]at X;rw[ai l]at T;simp only[Option.some.injEq,Prod.mk.injEq,true_and]at T;subst T;unfold mS at *;unfold dp at *;refine V ?_;refine a7 [0,1,2,3,4,5,6] c ?_;refine V ?_;refine a7 [0,1,5,6] X ?_;exact zcZ
  |false =>
   rw[l]at X;rw[ab ze2]at T;unfold mS at *;unfold dp at *;refine V ?_;refine a7 [0,1,2,3,4,5,6] c ?_;refine V ?_;refine a7 [0,1,5,6] X ?_;refine V ?_;exact⟨rfl,rfl,_,_,Wk.a6 aC,Z,t,by omega,T,z,l,rfl,rfl⟩
 ·rintro _ _⟨Z,W,E,T,j,b,rfl,rfl⟩;rw[o,A,List.drop_length]at T
  cases Z with
  |zero=>simp only[mT]at T;cases T
  |succ Z =>
  simp only[mT,Option.some.injEq,Prod.mk.injEq,true_and]at T;subst T;refine bg ?_;rw[Y];exact aK
end
end Go.Xg
namespace Go.Im
open Go.Xp Go.Sp Go.Mn
variable{p:Src}
def BV{l:List T}(c:fk p=true)(h:Good p l):∃(i:Nat)(f:Go.Sp.Fn)(t:T),jd p lQ=(i:Int)/\J9 p l i f t/\f.params=[]:=by
 have G:p.av.any nB=true:=by
  unfold fk at c;rw[h.st.r8]at c;simp only[aZ,decide_eq_true_eq]at c;have:=c.2;unfold wI at this;rw[ab (by rw[h.names];decide)]at this;split at this
  ·cases this
  split at this
  ·cases this
  ·rename_i w;simpa using w
 have v:=(yX h.names).1 G;unfold kX at v
 cases m:p.av.findIdx? (fun f:Go.Sp.Fn=>f.name==lQ)with
 |none=>rw[m]at v;cases v
 |some i =>
  rw[m]at v;obtain⟨O,z,-⟩:=List.findIdx?_eq_some_iff_getElem.1 m;have X:=h.len;have s:p.av[i]?=some p.av[i]:=cY O;have o:l[i]?=some (l[i]'ze4):=cY ze4;refine⟨i,_,_,by unfold jd bL;rw[m],h.fn s o,?_⟩;simp only[decide_eq_false_iff_not]at v;unfold lg at v;rw[s]at v;exact kQ (by simp only at v;omega)
def EI{l:List T}{i:Nat}{f:Go.Sp.Fn}{t:T}(hf:p.av[i]?=some f)(o:l[i]?=some t):mF p l i=sc p t f.params:=by unfold mF;rw[hf,o]
end Go.Im
set_option maxHeartbeats 4000000
namespace Go.Im
open Go.Xp Go.Sp Go.Mn
def JN{s:ah}(h:ga s=true):s=[124,124]\/s=[38,38]\/s∈Go.Xg.qC:=by
 have c:∀l∈levels,∀x∈l,x=[124,124]\/x=[38,38]\/x∈Go.Xg.qC:=by decide
 grind[ga,pz,rv]
def vK{l:List ah}{s:ah}(h:l.contains s=true):bL (fun x=>x==s) l=((wz l s:Nat):Int)/\wz l s<l.length:=by
 have O:=zD h
 have v:0<=bL (fun x=>x==s) l:=by
  grind[bL]
 grind[wz]
theorem DF{l:List ah}{s:ah}(h:l.contains s=false):bL (fun x=>x==s) l<0:=by
 grind[bL]
section
variable{p:Src}{n:Nd}{l:List T}{ls:List ah}
theorem HM(h:bG p (.mk n l) ls=0)(k:n.aj=2\/n.aj=7)(X:ls.contains n.s=false):p.au.contains n.s=true:=by
 unfold bG at h;rw[ab (show ¬(T.mk n l).n.aj=13 by grind[T.n]),ai (show(T.mk n l).n.aj=2\/(T.mk n l).n.aj=7 from k)]at h
 cases B:p.au.contains n.s with
 |true=>rfl
 |false=>rw[ai (show ls.contains (T.mk n l).n.s=false/\p.au.contains (T.mk n l).n.s=false from⟨X,B⟩)]at h;cases h
theorem Me(h:bG p (.mk n l) ls=0)(m:n.aj=3\/n.aj=8):0<=fi p n.s:=by
 unfold bG at h;rw[ab (show ¬(T.mk n l).n.aj=13 by grind[T.n]),ab (show ¬((T.mk n l).n.aj=2\/(T.mk n l).n.aj=7) by grind[T.n]),ai (show(T.mk n l).n.aj=3\/(T.mk n l).n.aj=8 from m)]at h
 by_cases k:ls.contains n.s=true\/fi p n.s<0
 ·rw[ai (show ls.contains (T.mk n l).n.s=true\/fi p (T.mk n l).n.s<0 from k)]at h;cases h
 ·omega
def UY(h:bG p (.mk n l) ls=0)(k:n.aj=13):ls.length<40:=by
 unfold bG at h;rw[ai (show(T.mk n l).n.aj=13 from k)]at h;omega
end
section
variable{k:Int}{n:Nat}
theorem xK(h:eB k n=true)(l:k=3\/k=5\/k=7\/k=11\/k=12\/k=13):n=1:=by
 unfold eB at h
 grind
theorem Jg(h:eB k n=true)(l:k=6\/k=8\/k=10):n=2:=by
 unfold eB at h
 grind
theorem YZ(h:eB k n=true)(l:k=9):n=2\/n=3:=by
 unfold eB at h;rw[ab (show ¬(k=1\/k=2) by omega),ab (show ¬(k=4\/k=14) by omega),ab (show ¬(k=3\/k=5\/k=7\/k=11\/k=12\/k=13) by omega),ab (show ¬(k=6\/k=8\/k=10) by omega),ai l]at h
 grind
theorem QB(h:eB k n=true):1<=k/\k<=14:=by
 grind[eB]
end
def lu{l:List R}{k:Nat}(h:k<l.length):l[k]?=some (r0 l k):=by
 grind[r0]
def Lh{p:Src}(h:fk p=true):∀f∈p.av,f.params.length<=40:=fun f s=>by
 have⟨l,X⟩:=sE h;unfold fk at h;rw[X.st.r8]at h;simp only[aZ,decide_eq_true_eq]at h;have v:=h.2;unfold wI at v;rw[ab ze2]at v
 by_cases o:gS p=true
 ·grind
 simp_all[gS,Bool.or_eq_true,not_or,Bool.not_eq_true,List.any_eq_false,decide_eq_true_eq]
end Go.Im
namespace Go.Xg
open Go.RowKit Go.Xw Go.Proofs Tryz Go.Im Go.Mn
open Go.Xp (Nd T)
open Go.Sp (Src)
attribute [local irreducible] GW GL GO D GC GA bo bn
def Gi(p:Src)(l0:List T)(own:List Int)(F:Nat)(H:MH)(g:Nat):Prop:=∀(a:Nat)(t:T)(G:List ah)(s:M)(v:Int)(u:M),wD p own a t G->nu p F s->s.over=false->ev oP F (mF p l0) g (sc p t G) s=some (v,u)->∀(al:Option Addr)(cl:Nat),
 GF prog 176 [.loc 0 0,.loc 5 0,y4 (a:Nat)] (mS p own F H al cl s) (y4 v) (mS p own F H al cl u)
section
variable{p:Src}{l0:List T}{own:List Int}{F:Nat}{H:MH}{al:Option Addr}{cl:Nat}
def UH{G a:Nat}{n:Nd}{l:List T}{ls:List ah}(R:∀Z,Z<=G->Gi p l0 own F H Z)(z:wD p own a (.mk n l) ls)(u:b8 (.mk n l)=false):Dc p own F H al cl (mF p l0) a (gY p l ls) G:=fun k r s t v Z E m N q W=>by
 have J:=qU p l ls;have B:=(b6 m).1;have o:l[k]?=some (l[k]'L):=cY L;have⟨O,A,w⟩:=z.kid u o;rw[m]at w;cases w;exact Ta z.node.1 A (R Z E _ _ _ _ _ _ O N q W al cl)
def P6(W:MW p l0 own F H){i:Nat}{f:Go.Sp.Fn}{t:T}(hf:p.av[i]?=some f)(o:l0[i]?=some t):wD p own f.body.toNat t f.params/\0<=f.body:=by
 have⟨a1,O,s,Q,l⟩:=W.gl.at_ i f t hf o;exact⟨⟨Q,W.ow i f t hf o,a1,O,UG W.gl o,W.gl.sx o,Lh W.gd f (bN hf)⟩,l⟩
def N5{s:M}{args:List Int}(h:nu p F s):nu p F (s.enter args):=⟨h.b7,h.cells,h.rows,by simp[M.locs,M.enter],h.bd,h.out⟩
theorem TH(W:MW p l0 own F H){g a:Nat}{n:Nd}{l:List T}{ls:List ah}{s s':M}{v:Int}(hN:wD p own a (.mk n l) ls)(h7:7<=n.aj)(aaS:Dc p own F H al cl (mF p l0) a (gY p l ls) (g+1))(hm:nu p F s)(hle:¬F<=s.bd)(hs:s.over=false)
  (h:bY oP F (mF p l0) (g+1) (qj p n l ls (gY p l ls)) { s with bd:=s.bd+1 }=some (v,s')) :
  GF prog 176 [.loc 0 0,.loc 5 0,y4 (a:Nat)] (mS p own F H al cl s) (y4 v) (mS p own F H al cl s'):=by
 have⟨⟨a1,a2⟩,⟨b1,b2⟩,⟨c1,c2⟩,⟨d1,d2⟩⟩:=gg p;have hw:=W.w;have hF:=W.F
 have ny:s.bd<F:=by omega
 have b:=hm.next hle
 have o:({ s with bd:=s.bd+1 }:M).over=false:=hs;generalize ym:({ s with bd:=s.bd+1 }:M)=s1 at *;have⟨i,A,hf,R,Lz,wy⟩:=hN.node;have B3:=qU p l ls;have⟨k1,k2⟩:=QB R;unfold qj at h;rw[ab (show ¬n.aj=1 by omega),ab (show ¬n.aj=2 by omega),ab (show ¬n.aj=3 by omega),ab (show ¬n.aj=4 by omega),ab (show ¬n.aj=5 by omega),ab (show ¬n.aj=6 by omega)]at h
 have ST:∀{s':M},n.aj<=13->GF prog 232 [.loc 0 0,.loc 5 0,y4 (a:Nat)] (mS p own F H al cl s1) (.tup []) (mS p own F H al cl s')->GF prog 176 [.loc 0 0,.loc 5 0,y4 (a:Nat)] (mS p own F H al cl s) (y4 0) (mS p own F H al cl s'):=fun Qd N=>V2 i ⟨h7,Qd⟩ ny hF (by rw[ym];exact N)
 by_cases Q:n.aj=7
 ·rw[ai Q]at h;have S:=xK R (.inr (.inr (.inl Q)));unfold v8 at A;rw[ab (show ¬n.aj=13 by omega)]at A
  by_cases N:ls.contains n.s=true
  ·rw[ai N]at h;simp only[bY]at h;have⟨x,t,G,h⟩:=cV h;have j:=aaS 0 _ _ t x g L (lu L) b o G;have⟨X,f2⟩:=vK N;rw[X]at A;have Qe:=hN.len;have Hl:=(b.ev G).locs
   by_cases e:t.over=true
   ·exact zbF
   ·rw[ab e]at h;simp only[Option.some.injEq,Prod.mk.injEq]at h;obtain⟨rfl,rfl⟩:=h;exact ST L (qW i (.inl Q) j (fun h=>absurd h e) fun _=>MF A L x)
  ·rw[ab N]at h;simp only[bY]at h;have⟨x,t,G,h⟩:=cV h;have j:=aaS 0 _ _ t x g L (lu L) b o G
   have Z:ls.contains n.s=false:=by grind
   have⟨X,f2⟩:=vK (HM hf (.inr Q) Z);have DR:=(b.ev G).b7
   by_cases e:t.over=true
   ·exact zbF
   ·rw[ab e]at h;simp only[Option.some.injEq,Prod.mk.injEq]at h;obtain⟨rfl,rfl⟩:=h;exact ST L (qW i (.inl Q) j (fun h=>absurd h e) fun _=>Vi L i A (DF Z) X L x)
 rw[ab Q]at h
 by_cases G:n.aj=8
 ·rw[ai G]at h;have zA:=Jg R (.inr (.inl G));simp only[bY]at h;have⟨x,t,J,h⟩:=cV h;have j:=aaS 0 _ _ t x g L (lu L) b o J;have z:=b.ev J;have⟨k,ar,X,f2⟩:=Aw (Me hf (.inr G));rw[X,eV]at h;have hh:=W.hs;have N:=Kw L i X f2 (Ax W.gl f2) z hh j
  have Ud:k<t.cells.length:=by rw[z.cells];grind
  have Ua:H.hs[k]?=some (H.hs.getD k (0,0)):=by grind
  unfold CQ CP at N
  have Y:∀(t':M),GF prog 226 [.loc 0 0,.loc 5 0,y4 (a:Nat)] (mS p own F H al cl s1) (.v (.pointer none)) (mS p own F H al cl t')->GF prog 232 [.loc 0 0,.loc 5 0,y4 (a:Nat)] (mS p own F H al cl s1) (.tup []) (mS p own F H al cl t'):=fun t' N=>EZ (k:=0) (h:=(0,0)) (u:=t') (v:=0) i G N (.inl rfl) t' ⟨fun _=>rfl,fun q hq=>(by cases hq)⟩
  by_cases e:t.over=true
  ·rw[ai e]at h;simp only[Option.some.injEq,Prod.mk.injEq]at h;obtain⟨rfl,rfl⟩:=h
   simp_all
  ·rw[ab e]at h;rw[ab e,ab e]at N
   by_cases hi:uX (row t k) x=true
   ·rw[ai hi]at h;rw[ai hi,ai hi]at N;unfold uX at hi;simp only[aZ,decide_eq_true_eq]at hi;have⟨y,u,c,h⟩:=cV h;have hw:=aaS 1 _ _ u y g L (lu L) z ze2 c;have Hr:=Df.ev c
    have hxq:((x.toNat:Nat):Int)=x:=by omega
    have B:=EZ (k:=k) (h:=H.hs.getD k (0,0)) (u:=u) (v:=y) i G N (.inr ⟨x.toNat,rfl,by omega,Ud,Ua,hw,fun _=>⟨Hr.rows k,Hr.cells⟩⟩) (if u.over=true then u else qk u k (x.toNat:Int) y) ⟨fun hq=>(by cases hq),fun q hq=>ze2⟩;rw[hxq]at B
    by_cases hu:u.over=true
    ·rw[ai hu]at h B;exact zdh
    ·rw[ab hu]at h B;exact zdh
   simp_all
 rw[ab G]at h
 by_cases J:n.aj=9
 ·rw[ai J]at h;have hl3:=YZ R J
  by_cases h3:l.length=3
  ·rw[ai h3]at h;simp only[bY]at h;have⟨x,t,c,h⟩:=cV h;have j:=aaS 0 _ _ t x g L (lu L) b o c;have z:=b.ev c
   by_cases e:t.over=true
   ·exact zbN
   ·rw[ab e]at h
    by_cases hx:x≠0
    ·exact za4
    ·rw[ab hx]at h;have⟨y,u,d,h⟩:=cV h;simp only[Option.some.injEq,Prod.mk.injEq]at h;obtain⟨rfl,rfl⟩:=h;exact ST L (sM i J j (fun h=>absurd h e) fun E=>.inr (.inl ⟨by omega,by omega,y,aaS 2 _ _ _ y g L (lu L) z E d⟩))
  ·rw[ab h3]at h;simp only[bY]at h;have⟨x,t,c,h⟩:=cV h;have j:=aaS 0 _ _ t x g L (lu L) b o c;have z:=b.ev c
   by_cases e:t.over=true
   ·exact zbN
   ·rw[ab e]at h
    by_cases hx:x≠0
    ·exact za4
    ·rw[ab hx]at h;simp only[Option.some.injEq,Prod.mk.injEq]at h;obtain⟨rfl,rfl⟩:=h;exact ST L (sM i J j (fun h=>absurd h e) fun E=>.inr (.inr ⟨by omega,by omega,rfl⟩))
 rw[ab J]at h
 by_cases c:n.aj=10
 ·rw[ai c]at h;have zA:=Jg R (.inr (.inr c));simp only[bY]at h;have⟨w0,t,d,h⟩:=cV h;simp only[Option.some.injEq,Prod.mk.injEq]at h;obtain⟨rfl,rfl⟩:=h;exact ST L (JT i c (fun k r s t v g' wV=>aaS k r s t v g' L) (lu L) (lu L) b o d)
 rw[ab c]at h
 by_cases d:n.aj=11
 ·rw[ai d]at h;have S:=xK R (.inr (.inr (.inr (.inl d))));simp only[bY]at h;have⟨x,t,C,h⟩:=cV h;have j:=aaS 0 _ _ t x g L (lu L) b o C;have B:=E0 i (.inl d) j;rw[ai d]at B
  by_cases e:t.over=true
  ·simp_all
  simp_all
 rw[ab d]at h
 by_cases C:n.aj=12
 ·rw[ai C]at h;have S:=xK R (.inr (.inr (.inr (.inr (.inl C)))));simp only[bY]at h;have⟨x,t,m,h⟩:=cV h;have j:=aaS 0 _ _ t x g L (lu L) b o m;have B:=E0 i (.inr C) j
  simp_all
 rw[ab C]at h
 by_cases m:n.aj=13
 ·rw[ai m]at h;have S:=xK R (.inr (.inr (.inr (.inr (.inr m)))));unfold v8 at A;rw[ai m]at A;simp only[bY]at h;have⟨x,t,O,h⟩:=cV h;have j:=aaS 0 _ _ t x g L (lu L) b o O;have Qe:=UY hf m;have Hl:=(b.ev O).locs
  by_cases e:t.over=true
  ·rw[ai e]at h;simp only[Option.some.injEq,Prod.mk.injEq]at h;obtain⟨rfl,rfl⟩:=h;exact ST L (qW i (.inr m) j (fun _=>rfl) fun h=>absurd h ze2)
  ·rw[ab e]at h;simp only[Option.some.injEq,Prod.mk.injEq]at h;obtain⟨rfl,rfl⟩:=h;exact ST L (qW i (.inr m) j (fun h=>absurd h e) fun _=>MF A L x)
 rw[ab m]at h
 have O:n.aj=14:=by omega
 simp only[bY]at h;have⟨w0,t,e15,h⟩:=cV h;simp only[Option.some.injEq,Prod.mk.injEq]at h;obtain⟨rfl,rfl⟩:=h;have wW:=(d2 n (bN i)).2;exact N4 (g:=g) i O ny hF L L (fun k r s t v g' wV=>aaS k r s t v g' L) ze2 hs ze2
theorem RB(W:MW p l0 own F H){G:Nat}(ih:∀g',g'<=G->Gi p l0 own F H g'):Gi p l0 own F H (G+1):=fun a t ls s v s' hN hm hs h al cl=>by
 have⟨⟨a1,a2⟩,⟨b1,b2⟩,⟨c1,c2⟩,⟨d1,d2⟩⟩:=gg p;have hw:=W.w;have R:=W.F;rw[Go.Mn.ev]at h;split at h
 ·grind[Option.some.injEq,Prod.mk.injEq,TE]
 rename_i hle
 have d:s.bd<F:=by omega
 have b:=hm.next hle
 have j:({ s with bd:=s.bd+1 }:M).over=false:=hs;have⟨n,l⟩:=t;rw[sc]at h;have⟨z,X,hf,hk,Lz,wy⟩:=hN.node
 have hV:b8 (.mk n l)=false->Dc p own F H al cl (mF p l0) a (gY p l ls) G:=fun hz=>UH ih hN hz
 have DS:n.aj≠4->b8 (.mk n l)=false:=fun h4=>by grind[T.n,b8]
 have B3:=qU p l ls;have⟨k1,k2⟩:=QB hk
 cases G with
 |zero=>grind[bY]
 |succ g =>
 by_cases e1:n.aj=1
 ·unfold qj at h;rw[ai e1]at h
  grind[bY,Option.some.injEq,Prod.mk.injEq,TG]
 by_cases e2:n.aj=2
 ·unfold qj at h;rw[ab e1,ai e2]at h;unfold v8 at X;rw[ab (show ¬n.aj=13 by omega)]at X
  by_cases o:ls.contains n.s=true
  ·rw[ai o]at h;simp only[bY,Option.some.injEq,Prod.mk.injEq]at h;obtain⟨rfl,rfl⟩:=h;have⟨B,N⟩:=vK o;rw[B]at X;have Qe:=hN.len;have Hl:=hm.locs
   grind[TF]
  ·rw[ab o]at h;simp only[bY,Option.some.injEq,Prod.mk.injEq]at h;obtain⟨rfl,rfl⟩:=h
   have Xk:ls.contains n.s=false:=by grind
   have⟨B,N⟩:=vK (HM hf (.inl e2) Xk);have DR:=hm.b7
   grind[RA,DF]
 by_cases A:n.aj=3
 ·have aaS:=hV (DS L);unfold qj at h;rw[ab e1,ab e2,ai A]at h;have Uf:=xK hk (.inl A);simp only[bY]at h;have⟨x,t,m,h⟩:=cV h;have hv:=aaS 0 _ _ t x g L (lu L) b j m;have E:=b.ev m;have⟨k,ar,B,N⟩:=Aw (Me hf (.inl A));rw[B,eV]at h;have hh:=W.hs;have o:=Kw L z B N (Ax W.gl N) E hh hv
  have Ud:k<t.cells.length:=by rw[E.cells];grind
  have Ua:H.hs[k]?=some (H.hs.getD k (0,0)):=by grind
  unfold CQ CP at o
  by_cases e:t.over=true
  ·rw[ai e]at h;simp only[Option.some.injEq,Prod.mk.injEq]at h;obtain⟨rfl,rfl⟩:=h;rw[ai e,ai e]at o;exact zeg
  ·rw[ab e]at h;rw[ab e,ab e]at o
   by_cases C:uX (row t k) x=true
   ·rw[ai C]at h;simp only[Option.some.injEq,Prod.mk.injEq]at h;obtain⟨rfl,rfl⟩:=h;rw[ai C,ai C]at o;unfold uX at C;simp only[aZ,decide_eq_true_eq]at C;exact I7 (k:=k) (q:=x.toNat) (h:=H.hs.getD k (0,0)) z A d R o _ (.inr ⟨rfl,by omega,Ud,Ua,rfl⟩)
   ·rw[ab C]at h;simp only[Option.some.injEq,Prod.mk.injEq]at h;obtain⟨rfl,rfl⟩:=h;rw[ab C,ab C]at o;exact zeg
 by_cases m:n.aj=4
 ·by_cases hz:n.s=ef
  ·unfold qj at h;rw[ab e1,ab e2,ab A,ai m,ai hz]at h;simp only[bY,Option.some.injEq,Prod.mk.injEq]at h;obtain⟨rfl,rfl⟩:=h;exact GK z m d R (Jx W hN m hz _)
  ·have UB:b8 (.mk n l)=false:=by
    unfold b8;show((n.aj==4&&n.s==ef)&&_)=false
    grind
   have aaS:=hV UB;have⟨g',wV,hA⟩:=O6 m hz hf j h;refine GK z m d R (Sg W (G:=g+1) hN m hz (fun k r s t v g2 Xn hk hm hs he=>aaS k r s t v g2 L hk hm hs he) (fun i args t g2 w u Xn hto hd He E C DQ=>?_) hA b j)
   have Hj:i<p.av.length:=by
    have:=qG (f:=fun f:Go.Sp.Fn=>f.name==n.s) (l:=p.av) (by grind[jd])
    grind[bL,jd]
   have hlen:=W.gl.len;have S:p.av[i]?=some p.av[i]:=cY Hj;have XL:l0[i]?=some (l0[i]'L):=cY L;have⟨hNf,hbf⟩:=P6 W S XL;have O:=DQ;rw[EI S XL]at O;have Hr:=Df.ev DQ
   refine GG S hbf hd He Hr.aW fun al cl=>ih g2 L _ _ _ _ _ _ hNf (N5 E) ?_ O al cl
   grind[M.over,M.enter]
 have aaS:=hV (DS m)
 by_cases e5:n.aj=5
 ·unfold qj at h;rw[ab e1,ab e2,ab A,ab m,ai e5]at h;have Uf:=xK hk (.inr (.inl e5));simp only[bY]at h;have⟨x,t,e6,h⟩:=cV h;simp only[Option.some.injEq,Prod.mk.injEq]at h;obtain⟨rfl,rfl⟩:=h;exact V3 z e5 d R (Lz.2.1 e5) (aaS 0 _ _ t x g L (lu L) b j e6)
 by_cases e6:n.aj=6
 ·unfold qj at h;rw[ab e1,ab e2,ab A,ab m,ab e5,ai e6]at h;have zA:=Jg hk (.inl e6);have Y:=lu (l:=gY p l ls) (k:=0) L;have Z:=lu (l:=gY p l ls) (k:=1) L;refine TD z e6 d R ?_;have ym:=JN (Lz.2.2 e6)
  by_cases B:n.s=[38,38]
  ·rw[ai B]at h;simp only[bY]at h;have⟨x,t,J,h⟩:=cV h;have hv:=aaS 0 _ _ t x g L Y b j J
   by_cases e:t.over=true
   ·rw[ai e]at h
    exact zdI
   ·rw[ab e]at h
    have c:t.over=false:=by grind
    by_cases hx:x=0
    ·rw[ai hx]at h;simp only[Option.some.injEq,Prod.mk.injEq]at h;obtain⟨rfl,rfl⟩:=h;have:=Dn z hv c (.inr ⟨B,hx⟩);subst hx;exact this
    ·rw[ab hx]at h;have⟨y,u,e8,h⟩:=cV h;have hw:=aaS 1 _ _ u y g L Z (b.ev J) c e8
     by_cases Q:u.over=true
     ·rw[ai Q]at h
      exact zdJ
     ·rw[ab Q]at h
      grind[Option.some.injEq,Prod.mk.injEq,Dp,oG]
  rw[ab B]at h
  by_cases N:n.s=[124,124]
  ·rw[ai N]at h;simp only[bY]at h;have⟨x,t,J,h⟩:=cV h;have hv:=aaS 0 _ _ t x g L Y b j J
   by_cases e:t.over=true
   ·rw[ai e]at h
    exact zdI
   ·rw[ab e]at h
    have c:t.over=false:=by grind
    by_cases hx:x≠0
    ·rw[ai hx]at h;simp only[Option.some.injEq,Prod.mk.injEq]at h;obtain⟨rfl,rfl⟩:=h;have:=Dn z hv c (.inl ⟨N,hx⟩)
     simp_all[oG,ai]
    ·rw[ab hx]at h;have⟨y,u,e8,h⟩:=cV h;have hw:=aaS 1 _ _ u y g L Z (b.ev J) c e8
     have Uz:x=0:=by omega
     by_cases Q:u.over=true
     ·rw[ai Q]at h
      exact zdJ
     ·rw[ab Q]at h
      grind[Option.some.injEq,Prod.mk.injEq,Dp,oG]
  rw[ab N]at h
  have Qi:n.s∈qC:=by grind
  simp only[bY]at h;have⟨x,t,J,h⟩:=cV h;have hv:=aaS 0 _ _ t x g L Y b j J
  by_cases e:t.over=true
  ·rw[ai e]at h
   exact zdI
  ·rw[ab e]at h
   have c:t.over=false:=by grind
   have⟨y,u,e8,h⟩:=cV h;have hw:=aaS 1 _ _ u y g L Z (b.ev J) c e8
   by_cases Q:u.over=true
   ·rw[ai Q]at h
    exact zdJ
   ·rw[ab Q]at h;have:=NM z hv c Qi hw ze2;have h:(if(qB n.s x y).2≠0 then some ((0:Int),u.stop 2 (qB n.s x y).2)else some ((qB n.s x y).1,u))=some (v,s'):=h
    grind
 grind[TH]
theorem Yb(W:MW p l0 own F H):∀g,Gi p l0 own F H g:=by
 have c:∀N g,g<=N->Gi p l0 own F H g:=by
  intro N
  induction N with
  |zero =>
   grind[Go.Mn.ev,Gi]
  |succ N R =>
   intro g B
   cases g with
   |zero=>grind
   |succ g=>grind[RB]
 exact fun g=>c g g (a8 g)
end
end Go.Xg
namespace Go.Im
open Go.Xp Go.Sp
def Cv(s:List Int)(a:Nat)(t:T)(ls:List ah):(fZ s a t ls).length=s.length:=by unfold fZ;rw[length_set]
mutual
def RI:∀(t:T)(a:Nat)(s:List Int)(ls:List ah),(fy fZ t a s ls).1.length=s.length
 |.mk n l,a,s,ls=>by rw[fy];show(dh fZ l (a+1) _ ls).1.length=_;rw[yJ l,Cv]
def yJ:∀(l:List T)(a:Nat)(s:List Int)(ls:List ah),(dh fZ l a s ls).1.length=s.length
 |[],a,s,ls=>by rw[dh]
 |t::r,a,s,ls=>by rw[dh,yJ r,RI t]
end
end Go.Im
namespace Go.Xg
open Go.RowKit Go.Xw Go.Proofs Tryz Go.Im
open Go.Xp (Nd T)
open Go.Sp (Src)
attribute [local irreducible] GW GL GO D GC GA bo bn
def xf:∀(l:List Int)(k:Nat)(x:Int),dI (cz l) k 0 (y4 x)=cz (l.set k x)
 |[],k,x=>rfl
 |a::l,0,x=>rfl
 |a::l,k+1,x=>by
  show[y4 a]::dI (cz l) k 0 (y4 x)=_;rw[xf l k x];rfl
def S3(p:Src)(G:Option Addr)(N:Nat)(a:Nat)(n:Nd)(l:List T)(ls:List ah)(s:List Int)(k:TypeId)(S:Option Addr)(c:Nat)(hn:p.ae[a]?=some n)(m:ls.length<=1099511627776)(H:s.length=p.ae.length) :
  GF prog 175 [y4 (a:Nat),.v (.slice S ls.length c),.box (aB p) 0,.loc 0 0] [.box k [.v (.slice G p.ae.length N)],.vech 3 1 (cz s) (.slice G p.ae.length N),.vech 9 1 (bs ls) (.slice S ls.length c)] (.tup [])
   [.box k [.v (.slice G p.ae.length N)],.vech 3 1 (cz (fZ s a (.mk n l) ls)) (.slice G p.ae.length N),.vech 9 1 (bs ls) (.slice S ls.length c)]:=by
 have z:=cq hn;have t:=(b6 hn).1;have i:=gC ls n.s m;rw[wX]at i;have r:strs ls=.sl 1 (bs ls):=rfl;rw[r]at i;have hx:(cz s)[a]?=some [.v (ii s[a])]:=gE (cY L)
 have M:a<(cz s).length:=by rw[bS];omega
 have j:(cz s).length=p.ae.length:=by rw[bS];exact H
 have e:cz (fZ s a (.mk n l) ls)=if(n.aj==13)=true then dI (dI (cz s) a 0 (y4 (bL (fun x=>x==n.s) ls))) a 0 (y4 (ls.length:Nat))else dI (cz s) a 0 (y4 (bL (fun x=>x==n.s) ls)):=by
  rw[xf,xf];unfold fZ v8;show cz (s.set a (if n.aj=13 then(ls.length:Int)else _))=_
  by_cases h:n.aj=13
  ·rw[ai h,ai ze8,List.set_set]
  ·rw[ab h,ab ze8];rfl
 rw[e];generalize bL (fun x=>x==n.s) ls=q at *
 have E:(dI (cz s) a 0 (y4 q))[a]?=some [y4 q]:=by rw[Bj hx,ai rfl];rfl
 have Y:a<(dI (cz s) a 0 (y4 q)).length:=by rw[ea];exact M
 have b:(dI (cz s) a 0 (.v (ii q))).length=p.ae.length:=by rw[ea];exact j
 unfold aR at z
 cases Q:(n.aj==13)with
 |true =>
  rw[ai rfl];refine ak func175 ntmps175 ?_;refine aV (aM 0 5 (.a 5 (.q 6 (.a 7 .nil)))) ?_;refine zbK ?_;refine GL.borrow i (fun B K o w l i O=>iV (A:=[_,_]) (C:=[_]) i O rfl rfl) ?_;refine zbu ?_;refine zdp ?_;refine zaM ?_;refine tE ?_;exact et
 |false =>
  rw[ab aU];refine ak func175 ntmps175 ?_;refine aV (aM 0 5 (.a 5 (.q 6 (.a 7 .nil)))) ?_;refine zbK ?_;refine GL.borrow i (fun B K o w l i O=>iV (A:=[_,_]) (C:=[_]) i O rfl rfl) ?_;refine zbu ?_;refine zdp ?_;refine zbu ?_;exact et
open GV (U)
open Go.Xp (be aP cW)
def Fb(p:Src)(G:Option Addr)(N:Nat):GV:=.fn (.func 175) [] [.box (aB p) 0,.loc 0 0]
def QY(p:Src):GV:=.fn (.func 115) [] [.loc 2 0,.loc 3 0,.box (aB p) 0,.loc 4 0]
def Co(p:Src)(G:Option Addr)(N:Nat)(j k X z:TypeId)(s:List Int)(ls:List ah)(S:Option Addr)(c:Nat):ap :=
 [.box j [.v (.slice G p.ae.length N)],.vech 3 1 (cz (s)) (.slice G p.ae.length N),.box k [Fb p G N],.box X [.v (.slice S ls.length c)],.box z [QY p],.vech 9 1 (bs ls) (.slice S ls.length c)]
def PJ(p:Src)(B:Option Addr)(C:Nat)(A F G H:TypeId)(hp:p.ae.length<=1048576)(O:∀n∈p.ae,n.aw.length<=1099511627776):∀(N:Nat)(t:T),be t<=N->∀(a:Nat)(s:List Int)(ls:List ah)(m:Option Addr)(o:Nat),dr p.ae a t->ls.length+be t<=8388608->s.length=p.ae.length ->
  GC prog 115 [y4 (a:Nat),.loc 2 0,.loc 3 0,.box (aB p) 0,.loc 4 0] (Co p B C A F G H s ls m o) fun g Δ=>g=.tup []/\∃b c,Δ=Co p B C A F G H (fy fZ t a s ls).1 (fy fZ t a s ls).2 b c:=by
 intro N
 induction N with
 |zero=>intro t h;exact zeK
 |succ N ih =>
 intro t hN a s ls m o q Q hs
 cases t with
 |mk n l =>
 rw[Go.Xp.be]at hN Q;have Z:=q;rw[dr]at q;have⟨R,Y,S⟩:=q;rw[fy];have hr:=cq R;have Lt:=O n (bN R);have ht:=S3 p B C a n l ls s A m o R L hs;have Ug:=Cv s a (.mk n l) ls;generalize Lx:fZ s a (.mk n l) ls=j at *
 have d:n.aw.length=l.length:=by rw[Y,cW]
 unfold aR at hr;unfold Co Fb QY;refine ak func115 ntmps115 ?_;refine GL.re [0,1,5] ht rfl rfl rfl (by repeat (first|exact trivial|refine⟨rfl,?_⟩)) ?_;rintro _ _⟨rfl,rfl⟩;refine zas ?_;refine GW.range (n.aw.map fun i=>[GV.v (ii i)]).length (fun k fr Γ=>∃b c,fr=[y4 (a:Nat),.loc 2 0,.loc 3 0,.box (aB p) 0,.loc 4 0,U,U,U,U,U,U,U,U,U,U,U,U,ints n.aw,y4 ((n.aw.map fun i=>[GV.v (ii i)]).length:Int),y4 (k:Nat),U,U,U,U,U,U,U,U,U,U,U,U,U,U,U,U,U,U,U,U,U,U,U]/\Γ=Co p B C A F G H (dh fZ (l.take k) (a+1) j ls).1 (dh fZ (l.take k) (a+1) j ls).2 b c) ?_ ze2 ?_ ?_ ?_
 ·exact⟨_,_,Wk.a6 aC,m,o,rfl,rfl⟩
 ·rintro k _ _⟨m,o,rfl,rfl⟩;exact dS
 ·rintro k _ _ z⟨m,o,rfl,rfl⟩;rw[bS,d]at z;obtain⟨u,E⟩:∃u,l[k]?=some u:=⟨l[k],by simp[z]⟩;have r:=rK (n:=a+1) E;rw[<-Y]at r;have Ur:=gE r;have rI:=oy E;have W:dr p.ae (a+1+aP (l.take k)) u:=cJ.ix l (a+1) k u S E
  have w:(dh fZ (l.take k) (a+1) j ls).2.length<=ls.length+aP (l.take k):=by
   grind[oc,bp,pQ]
  have hm1:=yJ (l.take k) (a+1) j ls;rw[yI _ E];generalize(dh fZ (l.take k) (a+1) j ls).1=s2 at *;generalize(dh fZ (l.take k) (a+1) j ls).2=e at *;have X:=ih u L (a+1+aP (l.take k)) s2 e m o W L L;unfold Co Fb QY at X |-;refine V ?_;refine GL.re [0,1,2,3,4,5] X rfl rfl rfl (by repeat (first|exact trivial|refine⟨rfl,?_⟩)) ?_;rintro _ _⟨rfl,b,c,rfl⟩;exact zeL
 ·rintro _ _⟨m,o,rfl,rfl⟩;rw[bS,d,dx]
  have w:(dh fZ l (a+1) j ls).2.length<=ls.length+aP l:=by
   grind[oc,bp,pQ]
  generalize(dh fZ l (a+1) j ls).1=s2 at *;generalize(dh fZ l (a+1) j ls).2=e at *;have B1:(bs e).length=e.length:=nJ e;unfold Co Fb QY;refine bg ?_
  cases X:(n.aj==13)with
  |false =>
   rw[ab ze2];exact zeR
  |true =>
   rw[ai ze2];refine zcX ?_;refine OA rfl rfl (GL.mr 5 (news:=[[.v (sv n.s)]]) rfl rfl rfl aH rfl rfl (by refine⟨?_,?_⟩;(· show _+1<=_;omega);(· show(_+1)*_<=_;omega)) ?_);intro J M;refine zej ?_;exact⟨rfl,J,M,by simp[bs]⟩
def RE(p:Src)(G:Option Addr)(N:Nat)(j:TypeId)(i:Nat)(f:Go.Sp.Fn)(t:T)(s:List Int)(X:p.ae.length<=1048576)(e:∀n∈p.ae,n.aw.length<=1099511627776)
  (hf:p.av[i]?=some f)(W:f.params.length<=1048576)(l:0<=f.body)(r:dr p.ae f.body.toNat t)(z:be t<=1048576)(H:s.length=p.ae.length) :
  GF prog 53 [.agg (aB p),y4 (i:Nat),Fb p G N] [.box j [.v (.slice G p.ae.length N)],.vech 3 1 (cz (s)) (.slice G p.ae.length N)] (.tup []) [.box j [.v (.slice G p.ae.length N)],.vech 3 1 (cz ((fy fZ t f.body.toNat s f.params).1)) (.slice G p.ae.length N)]:=by
 have w:(p.av.map aI)[i]?=some (aI f):=by grind
 have d:(f.params.map fun s=>[GV.v (sv s)]).length=f.params.length:=by simp
 have F:=mc f.params;obtain⟨b,m⟩:∃b:Nat,f.body=(b:Int):=⟨f.body.toNat,by omega⟩;rw[m,eV]at r |-;unfold aI at w;rw[m]at w;unfold Fb;refine dj func53 ntmps53 ?_;refine kz ?_;refine GL.wk (Wk.freeze (i:=2) rfl rfl rfl (a8 _)) ?_;refine GN (by simp only[oe,nN];rfl) ?_;refine GL.wk (Wk.a6 (c8:=[U,y4 (i:Nat),U,.box (aB p) 0,U,.loc 3 0,U,U,U,U,U,U,U,strs f.params,U,U,U,U,U,U,U,U,U,U]) aC) ?_;refine GL.wk (Wk.eS 9 1) ?_;refine GL.nb 4 rfl rfl rfl rfl F L ?_;intro S c;rw[d];refine zbx ?_;refine GW.GY (c8:=U::y4 (i:Nat)::U::.box (aB p) 0::U::.loc 3 0::.loc 5 0::.loc 6 0::zU 16 []) (bE:=[.box j [.v (.slice G p.ae.length N)],.vech 3 1 (cz (s)) (.slice G p.ae.length N),.gone,.box _ [.fn (.func 175) [] [.box (aB p) 0,.loc 0 0]],.vech 9 1 (bs f.params) (.slice S f.params.length c),.box _ [.v (.slice S f.params.length c)],.box _ [.fn (.func 115) [] [.loc 3 0,.loc 5 0,.box (aB p) 0,.loc 6 0]]]) aC rfl ?_;refine aV (aM 0 7 (.a 7 .nil)) ?_;refine ay ?_;have k:=PJ p G N j;refine OA rfl rfl (GL.re [0,1,3,5,6,4] (k _ _ _ X e _ t (a8 _) b s f.params S c r L H) rfl rfl rfl (by repeat (first|exact trivial|refine⟨rfl,?_⟩)) ?_);rintro _ _⟨rfl,u,Y,rfl⟩;refine⟨by simp[Co],?_⟩;unfold Co;refine zaM ?_;exact zcj
end Go.Xg
set_option maxHeartbeats 8000000
namespace Go.Im
open Go.Xp Go.Sp Go.Mn
def Cp:∀(d:List Go.Sp.Fn)(l:List T)(k:Nat)(f:Go.Sp.Fn)(t:T)(a:Nat)(s:List Int),d[k]?=some f->l[k]?=some t->pD (d.take (k+1)) (l.take (k+1)) a s=(fy fZ t (a+aP (l.take k)) (pD (d.take k) (l.take k) a s) f.params).1
 |[],l,k,f,t,a,s,h,_=>by simp at h
 |g::d,[],k,f,t,a,s,_,h=>by simp at h
 |g::d,u::l,0,f,t,a,s,O,v=>by
  cases O;cases v
  rw[take_succ_cons,take_succ_cons,take_zero,take_zero,pD,take_zero,take_zero,aP];rfl
 |g::d,u::l,k+1,f,t,a,s,O,v=>by
  rw[take_succ_cons,take_succ_cons,pD,Cp d l k f t _ _ zfu (by simpa using v),take_succ_cons,take_succ_cons,pD,aP,kA]
def JD(p:Src)(l:List T):List Int:=pD p.av l 0 (List.replicate p.ae.length 0)
def Ss{p:Src}{l:List T}(h:Good p l):∀(i:Nat)f t,p.av[i]?=some f->l[i]?=some t->sO (JD p l) f.body.toNat t f.params:=fun i f t s o=>by
 have v:=(h.st.av.at_ i f t s o).1;have X:=h.st.len;have:=(Bf p.av l 0 (List.replicate p.ae.length 0) (by rw[length_replicate];omega)).2 i f t s o;rw[v,eV];exact this
def Cu{p:Src}{l:List T}(h:Good p l)(S:List Int)(F:Nat):nu p F ((⟨S,[],List.replicate p.au.length 0,p.aq.map fun a=>List.replicate a.size.toNat 0,0,0,0,0,[],false,0⟩:M).enter []):=by
 refine⟨length_replicate,bS _,fun k a z=>?_,a8 _,bl _,a8 _⟩;have:=hY.1 h.st.aq a (bN z);unfold nM at this;simp only[aZ,Bool.not_eq_true',decide_eq_false_iff_not]at this;unfold row M.enter;rw[List.getD_eq_getElem?_getD,dR,z];show((List.replicate a.size.toNat (0:Int)).length:Int)=a.size;rw[length_replicate];omega
end Go.Im
namespace Go.Xg
open Go.RowKit Go.Xw Go.Proofs Tryz Go.Im Go.Mn
open GV (U)
open Go.Xp (T aP)
open Go.Sp (Src)
attribute [local irreducible] GW GL GO D GC GA bo bn
def y8(n:Nat):List.replicate n (gT [ii 0])=cz (List.replicate n 0):=by
 unfold cz;rw[List.map_replicate];rfl
def CM(p:Src)(W:cH p<=1048576){l:List T}(hg:Go.Im.Good p l)(e:fk p=true) :
  GC prog 103 [.agg (aB p)] [] fun g J=>∃a c,g=.v (.slice a p.ae.length c)/\J=[.vech 3 1 (cz (JD p l)) (.slice a p.ae.length c)]:=by
 have⟨⟨a1,Q⟩,⟨H,A⟩,⟨G,B⟩,⟨N,q⟩⟩:=gg p;have d:(p.ae.map aR).length=p.ae.length:=bS _;have F:(p.av.map aI).length=p.av.length:=bS _;have E:=hg.len;have C:=hg.st.len
 have b:∀k,(pD (p.av.take k) (l.take k) 0 (List.replicate p.ae.length 0)).length=p.ae.length:=fun k=>by
  have R:=Go.Xp.iJ l k;have:=(Bf (p.av.take k) (l.take k) 0 (List.replicate p.ae.length 0) (by rw[length_replicate];omega)).1.len;rw[this,length_replicate]
 refine dj func103 ntmps103 ?_;refine zci ?_;refine GL.XY (n:=(p.ae.map aR).length) rfl ⟨by omega,by omega⟩ ?_;intro m Z;rw[d,y8];refine zbt ?_;refine GW.range (p.av.map aI).length (fun k w r=>w=[U,.box (aB p) 0,U,.loc 1 0,U,U,U,U,U,U,.sl 3 (p.av.map aI),y4 ((p.av.map aI).length:Int),y4 (k:Nat),U,U,U,U,U,U,U,U]/\r=[.vech 3 1 (cz (pD (p.av.take k) (l.take k) 0 (List.replicate p.ae.length 0))) (.slice m p.ae.length Z),.box 29 [.v (.slice m p.ae.length Z)]]) ?_ L ?_ ?_ ?_
 ·exact ji
 ·rintro k _ _⟨rfl,rfl⟩;exact dS
 ·rintro k _ _ O⟨rfl,rfl⟩;rw[F]at O;have s:p.av[k]?=some p.av[k]:=cY O;have o:l[k]?=some (l[k]'L):=cY L;have t:=hg.fn s o;have z:=(hg.st.av.at_ k _ _ s o).1;rw[Cp p.av l k _ _ 0 _ s o];have Y:=RE p m Z 29 k _ _ (pD (p.av.take k) (l.take k) 0 (List.replicate p.ae.length 0)) L (fun n h=>by have:=(q n h).2;omega) s (by have:=(B _ (bN s)).2.1;omega) t.body t.st (by have:=t.sz;omega) (b k)
  have X:(p.av[k]).body.toNat=0+aP (l.take k):=by rw[z,eV]
  rw[X]at Y;unfold Fb at Y;refine V ?_;refine I [1,0] Y ?_;exact zb7
 ·rintro _ _⟨rfl,rfl⟩;rw[F,dx,E,dx];refine zcl ?_;refine lG ?_;refine P8 [0] [_] rfl fH rfl rfl aU (fun j x hx=>?_) ⟨m,Z,rfl,rfl⟩
  cases j with
  |zero=>cases hx;exact⟨rfl,fun i u=>by cases u;rfl⟩
  |succ j=>simp at hx
def Bh(r:eW):am:=[y4 r.fin,y4 r.why,y4 r.n,ints r.out,y4 (r.bd:Nat),ints r.b7]
def mR(p:Src)(own:List Int)(F:Nat)(H:MH)(s:M)(r:eW):ap:=[.box 64 [strs p.au,.sl 2 (p.aq.map bb),.sl 3 (p.av.map aI),.sl 5 (p.ae.map aR),ints own,ints s.inp,y4 (F:Nat),
 y4 r.fin,y4 r.why,y4 r.n,.vec 1 r.out.length,y4 (r.bd:Nat),.v (.slice H.ag r.b7.length H.cg),.v (.slice H.ac s.cells.length H.cc),y4 (s.aW:Nat)],.vec 3 1 0 (cz r.out),.vec 3 1 (cz own).length (cz own),.vech 3 1 (cz r.b7) (.slice H.ag r.b7.length H.cg),p8 H s,rD H s]
def V5(p:Src)(S:List Int)(F:Nat)(c w:Int):GF prog 102 [.loc 0 0,y4 c,y4 w] [.box 64 [strs p.au,.sl 2 (p.aq.map bb),.sl 3 (p.av.map aI),.sl 5 (p.ae.map aR),.v y6,ints S,y4 (F:Nat),y4 0,y4 0,y4 0,.v y6,y4 0,.v y6,.v y6,y4 0]] (y4 0)
  [.box 64 [strs p.au,.sl 2 (p.aq.map bb),.sl 3 (p.av.map aI),.sl 5 (p.ae.map aR),.v y6,ints S,y4 (F:Nat),y4 c,y4 w,y4 0,.v y6,y4 0,.v y6,.v y6,y4 0]]:=by
 refine ak func102 ntmps102 ?_;exact az
def Dv(A:Int):(if(20000:Int)<(if A<0 then 0 else A)then 20000 else(if A<0 then 0 else A))=((kE A:Nat):Int):=by
 grind[kE]
def O4(p:Src)(T:cH p<=1048576)(hn:iN p)(c:fk p=false)(S:List Int)(A:Int):GF prog 37 [.agg (aB p),ints S,y4 A] [] (.loc 0 0)
  [.box 64 [strs p.au,.sl 2 (p.aq.map bb),.sl 3 (p.av.map aI),.sl 5 (p.ae.map aR),.v y6,ints S,y4 (kE A:Nat),y4 4,y4 0,y4 0,.v y6,y4 0,.v y6,.v y6,y4 0]]:=by
 have t:=AQ p T hn;rw[c]at t;have Y:=V5 p S (kE A) 4 0;have s:=Dv A;refine dj func37 ntmps37 ?_;refine zci ?_;refine GL.q (D.max rfl rfl) ?_;refine bh ?_;refine GL.q (D.min rfl rfl) ?_;rw[s];refine zak ?_;refine I [] t ?_;refine I [0] Y ?_;refine lG ?_;exact qb (n:=1) rfl ze3 rfl (bl _) rfl rfl ⟨rfl,rfl⟩
def iX(p:Src):List (List Int):=p.aq.map fun a=>List.replicate a.size.toNat 0
def Fv{W β c:Type}(f:W->β->c)(l:List W)(m:List β)(a:W)(b:β)(h:l.length=m.length):List.zipWith f (l++[a]) (m++[b])=List.zipWith f l m++[f a b]:=by
 rw[List.zipWith_append h];rfl
def Rp(l:List (List Int))(m:List (Nat × Nat)):∀x∈List.zipWith sT l m,x.D2:=fun x hx=>by
 have⟨i,t⟩:=getElem?_of_mem hx;rw[getElem?_zipWith]at t
 cases O:l[i]? with
 |none=>grind
 |some a =>
  cases v:m[i]? with
  |none=>grind
  |some b =>
   rw[O,v]at t;cases t;simp[Ob.D2,sT]
def L9(p:Src)(hw:cH p<=1048576)(hn:iN p)(J:fk p=true){l:List T}(hg:Go.Im.Good p l)(d:List Int)(e:Int):GC prog 37 [.agg (aB p),ints d,y4 e] [] fun g Δ=>g=.loc 0 0/\∃(H:MH)(s:M),Δ=mR p (JD p l) (kE e) H s (rZ (sj p l d (kE e))):=by
 have⟨⟨a1,a2⟩,⟨b1,b2⟩,⟨c1,c2⟩,⟨d1,d2⟩⟩:=gg p;have hG:=AQ p hw hn;rw[J]at hG;have G:=Dv e
 have hF:kE e<=20000:=by omega
 generalize hFe:kE e=F at *;have hNL:=CM p hw hg J;have YO:=Ss hg;generalize hOe:JD p l=own at *;have DR:(p.au.map fun s=>[GV.v (sv s)]).length=p.au.length:=bS _;have S:(p.aq.map bb).length=p.aq.length:=bS _;have E:=zu p lQ L;have e1:bL (fun x:Go.Sp.Fn=>x.name==lQ) p.av=jd p lQ:=rfl;rw[e1]at E;have⟨i,f,t,Wi,w,Ul⟩:=BV J hg;rw[Wi]at E;have hrb:mF p l i=sc p t f.params:=EI w.gf w.gt;refine dj func37 ntmps37 ?_;refine zci ?_;refine GL.q (D.max rfl rfl) ?_;refine bh ?_;refine GL.q (D.min rfl rfl) ?_;rw[G];refine zak ?_;refine I [] hG ?_;refine GL.wk (Wk.A7 (i:=0) (o:=10) 3 1 rfl rfl) ?_;refine cP ?_;refine bP [] hNL ?_;rintro _ _⟨ao,co,rfl,rfl⟩;refine zas ?_;refine GL.wk (Wk.nV (i:=0) (o:=4) (j:=2) rfl rfl rfl rfl) ?_;refine cP ?_;refine GL.XY (n:=(p.au.map fun s=>[GV.v (sv s)]).length) rfl ⟨by omega,by omega⟩ ?_;intro Y Z;rw[DR,y8];refine zbt ?_;refine GW.wk (Wk.eS 29 1) ?_;refine zbe ?_
 refine GW.range (p.aq.map bb).length (fun k fr Γ=>∃(z:Option Addr)(A:Nat)(r:List (Nat × Nat)),r.length=k/\fr=U::U::U::.box (aB p) 0::U::U::U::.loc 0 0::zU 30 (.sl 2 (p.aq.map bb)::y4 ((p.aq.map bb).length:Int)::y4 (k:Nat)::zU 34 []) /\
  Γ=.box 64 [strs p.au,.sl 2 (p.aq.map bb),.sl 3 (p.av.map aI),.sl 5 (p.ae.map aR),ints own,ints d,y4 (F:Nat),y4 0,y4 0,y4 0,.vec 1 0,y4 0,.v (.slice Y p.au.length Z),.v (.slice z k A),y4 0]::.vec 3 1 0 []::.vec 3 1 (cz own).length (cz own)::.vech 3 1 (cz (List.replicate p.au.length 0)) (.slice Y p.au.length Z) ::
   .vech 29 1 (List.zipWith tU ((iX p).take k) r) (.slice z k A)::List.zipWith sT ((iX p).take k) r) ?_ L ?_ ?_ ?_
 ·exact⟨_,_,Wk.a6 aC,none,0,[],rfl,rfl,rfl⟩
 ·rintro k _ _⟨z,A,r,-,rfl,rfl⟩;exact dS
 ·rintro k _ _ hk⟨z,A,r,N,rfl,rfl⟩;rw[S]at hk;have DN:p.aq[k]?=some p.aq[k]:=cY hk;have rI:=Ax hg DN;have XG:=tt DN;obtain⟨m,hm⟩:∃m:Nat,(p.aq[k]).size=(m:Int):=⟨(p.aq[k]).size.toNat,by omega⟩;unfold bb at XG;rw[hm]at XG rI
  have Lq:(iX p).take (k+1)=(iX p).take k++[List.replicate m 0]:=by
   grind[c7,eV,iX]
  have G:((iX p).take k).length=r.length:=by
   grind[iX]
  have hz1:=fun b c=>Fv tU ((iX p).take k) r (List.replicate m 0) (b,c) G
  have Qu:=fun b c=>Fv sT ((iX p).take k) r (List.replicate m 0) (b,c) G
  have hzl:(List.zipWith tU ((iX p).take k) r).length=k:=by grind
  generalize List.zipWith tU ((iX p).take k) r=R at *;generalize List.zipWith sT ((iX p).take k) r=X at *
  have wv:m<=2147483647:=by omega
  refine za6 ?_;refine aV (aM 0 7 (.a 7 (.a 8 (.a 9 (.q 10 (.q 11 (.a 12 .nil))))))) ?_;refine zbK ?_;refine GL.Y4 (n:=m) rfl ⟨by omega,by omega⟩ ?_;intro b c;rw[y8];refine zbu ?_;refine zar ?_;refine OA rfl rfl (GL.mr 4 (news:=[[.v (.slice (some ⟨b,0,none⟩) m c)]]) rfl rfl rfl aH rfl rfl (by refine⟨?_,?_⟩;(· show _+1<=_;omega);(· show(_+1)*_<=_;omega)) ?_);intro Zu Zx;refine zaM ?_;refine⟨rfl,rfl,_,_,Wk.a6 aC,Zu,Zx,r++[(b,c)],by simp[N],rfl,?_⟩;rw[Lq,hz1,Qu];unfold tU sT DP
  grind
 ·rintro _ _⟨z,A,r,N,rfl,rfl⟩;rw[S]at N |-;have Lq:(iX p).take p.aq.length=iX p:=ml (by simp[iX,Src.aq]);rw[Lq];have YD:(iX p).length=p.aq.length:=bS _;refine bg ?_;refine GW.wk ((Wk.pack [.box 64 [strs p.au,.sl 2 (p.aq.map bb),.sl 3 (p.av.map aI),.sl 5 (p.ae.map aR),ints own,ints d,y4 (F:Nat),y4 0,y4 0,y4 0,.vec 1 0,y4 0,.v (.slice Y p.au.length Z),.v (.slice z p.aq.length A),y4 0],.vec 3 1 0 [],.vec 3 1 (cz own).length (cz own),.vech 3 1 (cz (List.replicate p.au.length 0)) (.slice Y p.au.length Z),.vech 29 1 (List.zipWith tU (iX p) r) (.slice z p.aq.length A)] (List.zipWith sT (iX p) r) rfl (bl _) (Rp _ _) rfl).trans (Wk.a6 (c8:=U::U::U::.box (aB p) 0::U::U::U::.loc 0 0::zU 67 []) aC)) ?_;refine GW.wk (Wk.eS 3 1) ?_;refine zbe ?_
  let H:MH:=⟨Y,Z,z,A,r⟩
  have W:MW p l own F H:=⟨hw,J,hg,YO,hF,N⟩
  let C:M:=⟨d,[],List.replicate p.au.length 0,iX p,0,0,0,0,[],false,0⟩
  have⟨v,DQ⟩:=xS (O:=oP) (F:=F) (B:=mF p l) (mF p l i) (pe p d)
  have Om:JI oP F (mF p l) (mF p l i) (pe p d)=sj p l d F:=by unfold sj;grind
  rw[Om]at DQ;have Ug:nu p F (pe p d):=Cu hg d F;have Xz:=Ug.ev DQ;have Hr:=Df.ev DQ;generalize sj p l d F=u at *
  have hdo:=fun al cl=>Yb W (3*F+1) f.body.toNat t f.params (pe p d) v u (P6 W w.gf w.gt).1 Ug rfl ze2 al cl
  have hC:zh p own F H i [] C (C.leave u) u.jV:=GG w.gf w.body ze2 (bl _) Hr.aW hdo;have hC:=hC none 0;have hgz:C.b7.length=p.au.length:=length_replicate;have hcz:C.cells.length=p.aq.length:=YD;have Q:=zt p own F H (C.leave u) 1 0;unfold mC at hC
  have hbx:dp p own F H C=.box 64 [strs p.au,.sl 2 (p.aq.map bb),.sl 3 (p.av.map aI),.sl 5 (p.ae.map aR),ints own,ints d,y4 (F:Nat),y4 0,y4 0,y4 0,.vec 1 0,y4 0,.v (.slice Y p.au.length Z),.v (.slice z p.aq.length A),y4 0]:=by
   unfold dp;grind
  have hgo:qy H C=.vech 3 1 (cz (List.replicate p.au.length 0)) (.slice Y p.au.length Z):=by
   unfold qy;rw[hgz]
  have T8:p8 H C=.vech 29 1 (List.zipWith tU (iX p) r) (.slice z p.aq.length A):=by
   unfold p8;rw[hcz]
  rw[hbx,hgo,T8]at hC;unfold dp at hC Q
  cases hfin:(u.fin==0)with
  |true =>
   have hr:rZ u=⟨1,0,u.jV,u.out,u.bd,u.b7⟩:=by unfold rZ;grind
   rw[hr];refine V ?_;refine I [] E ?_;refine CD [0,1,3,4,5,6] hC ?_;rintro _ _⟨rfl,o,rfl⟩;refine zas ?_;refine I [0,1] Q ?_;exact zdb
  |false =>
   have hr:rZ u=⟨u.fin,u.why,0,u.out,u.bd,u.b7⟩:=by unfold rZ;grind
   rw[hr];refine V ?_;refine I [] E ?_;refine CD [0,1,3,4,5,6] hC ?_;rintro _ _⟨rfl,o,rfl⟩;refine zas ?_;exact zdb
def Kd(p:Src)(T:cH p<=1048576)(hn:iN p)(S:List Int)(A:Int):GF prog 9 [.agg (aB p),ints S,y4 A] [] (.agg (Bh (lT p S A))) []:=by
 cases c:fk p with
 |false =>
  have t:=O4 p T hn c S A
  have e:lT p S A=Dl:=by grind[lT,Dl]
  rw[e];refine dj func9 ntmps9 ?_;refine zci ?_;refine I [] t ?_;exact zeA
 |true =>
  have⟨l,B⟩:=sE c;have t:=L9 p T hn c B S A;rw[si B c];generalize rZ (sj p l S (kE A))=r at *;refine dj func9 ntmps9 ?_;refine zci ?_;refine bP [] t ?_;rintro _ _⟨rfl,H,s,rfl⟩;unfold mR;refine zas ?_;have N:(cz r.out).length=r.out.length:=bS _;refine GW.wk (Wk.rm (i:=0) (o:=3) (j:=2) rfl rfl rfl rfl N) ?_;refine GW.wk (Wk.nV (i:=0) (o:=5) (j:=4) rfl rfl rfl rfl) ?_;exact ln
end Go.Xg
set_option maxHeartbeats 4000000
namespace Go.Xg
open Go.RowKit Go.Xw Go.Proofs Tryz Go.Im Go.Mn
attribute [local irreducible] GW GL GO D GC GA bo bn
def DA:∀l:List Int,fx (fun x y=>x==y) l l=true
 |[]=>by simp[fx]
 |a::l=>by simp[fx,DA l]
def Tl(a:eW){b:eW}(ha:a.out.length<=1099511627776)(O:b.fin=a.fin)(w:b.why=a.why)(z:b.n=a.n)(Q:b.out=a.out):GF prog 12 [.agg (Bh a),.agg (Bh b)] [] (.v (.bool true)) []:=by
 have Y:=Gk a.out a.out ha ha;rw[DA]at Y;have e:(a.fin==a.fin)=true:=beq_self_eq_true _;have J:(a.why==a.why)=true:=beq_self_eq_true _;have l:(a.n==a.n)=true:=beq_self_eq_true _;unfold Bh;rw[O,w,z,Q];refine ak func12 ntmps12 ?_;refine I [] Y ?_;exact az
end Go.Xg
namespace Go.Xg
open Go.RowKit Go.Xw Go.Proofs
open Go.Xp (levels)
def zP:List ah:=[[120],[121],[103],[49],[48],[55],[103,101,116,40,41],[115,105,122,101,40,97,41]]
def lr(l:List ah)(k:Int):ah:=l.getD k.toNat []
def Y9{l:List ah}{k:Int}(h:0<=k/\k<(l.length:Int)):(bs l)[k.toNat]?=some [.v (sv (lr l k))]:=by
 grind[bs,sv,lr]
theorem me{l:List ah}{n:Nat}(h:∀s∈l,s.length<=n)(k:Int):(lr l k).length<=n:=by
 grind[lr]
def jG(code:ah):Nat->c9->ah × c9
 |0,c=>(lr zP (bF code 8 (bF code 9 c).2).1,(bF code 8 (bF code 9 c).2).2)
 |d+1,c =>
  let k:=bF code 9 c
  if k.1<3 then(lr zP (bF code 8 k.2).1,(bF code 8 k.2).2)
  else if k.1=3 then([97,91]++(jG code d k.2).1++[32,38,32,51,93],(jG code d k.2).2)
  else if k.1=4 then
   let j:=bF code 3 k.2
   (lr [[45],[33],[126]] j.1++[40]++(jG code d j.2).1++[41],(jG code d j.2).2)
  else if k.1=5 then([97,91]++(jG code d k.2).1++[93],(jG code d k.2).2)
  else
   let j:=bF code 9 k.2
   let a:=jG code d j.2
   let cE:=levels.getD j.1.toNat []
   let o:=bF code (cE.length:Int) a.2
   let b:=jG code d o.2
   ([40]++a.1++[32]++lr cE o.1++[32]++b.1++[41],b.2)
theorem ET(k:Int):∀s∈levels.getD k.toNat [],s.length<=2:=fun s G=>by
 rw[List.getD_eq_getElem?_getD]at G
 cases N:levels[k.toNat]? with
 |none=>grind
 |some l =>
  rw[N]at G
  have h:∀l∈levels,∀s∈l,s.length<=2:=by decide
  grind
def wo:Nat->Nat
 |0=>7
 |d+1=>2*wo d+7
def V9:∀d,7<=wo d
 |0=>a8 _
 |d+1=>by simp[wo]
def mx(code:ah):∀(d:Nat)(c:c9),(jG code d c).1.length<=wo d
 |0,c=>by rw[jG,wo];exact me aU _
 |d+1,c=>by
  have O:=mx code d;have Q:=V9 d;rw[jG,wo];simp only;split
  ·have:=me (l:=zP) (n:=7) aU (bF code 8 (bF code 9 c).2).1
   grind
  split
  ·grind[bF]
  split
  ·have o:=O (bF code 3 (bF code 9 c).2).2;have b:=me (l:=[[45],[33],[126]]) (n:=1) aU (bF code 3 (bF code 9 c).2).1
   grind
  grind[bp,length_cons,length_nil,me,ET]
theorem xE{code:ah}:∀(d:Nat){c:c9},c.i<=code.length->(jG code d c).2.i<=code.length
 |0,c,h=>by rw[jG];grind[fK]
 |d+1,c,h=>by
  have O:=fun{c:c9}=>xE (code:=code) d (c:=c)
  have o:=fK (code:=code) 9 h;rw[jG]
  grind[fK]
def oL(code:ah)(d:Nat)(sub:c9->ah × c9)(out:ah)(c:c9):ah × c9 :=
 let k:=bF code 8 c
 if k.1=0/\0<d then
  let e:=jG code 1 k.2
  let a:=sub e.2
  let b:=sub a.2
  (out++[105,102,32,40]++e.1++[41,32,123,32]++a.1++[32,125,32,101,108,115,101,32,123,32]++b.1++[32,125,32],b.2)
 else if k.1=1/\0<d then
  let a:=sub k.2
  (out++[121,32,61,32,51,59,32,119,104,105,108,101,32,40,121,32,62,32,48,41,32,123,32]++a.1++[32,121,32,61,32,121,32,45,32,49,59,32,125,32],a.2)
 else if k.1=2 then
  let e:=jG code 1 k.2
  let f:=jG code 2 e.2
  (out++[97,91]++e.1++[32,38,32,51,93,32,61,32]++f.1++[59,32],f.2)
 else if k.1=3 then
  let e:=jG code 2 k.2
  (out++[112,117,116,40]++e.1++[41,59,32],e.2)
 else if k.1=4 then
  let e:=jG code 1 k.2
  (out++[103,32,61,32,103,32,43,32]++e.1++[59,32],e.2)
 else
  let x:=bF code 2 k.2
  let e:=jG code 2 x.2
  (out++lr [[120],[121]] x.1++[32,61,32]++e.1++[59,32],e.2)
def kG(g:ah->c9->ah × c9):Nat->ah->c9->ah × c9
 |0,out,c=>(out,c)
 |n+1,out,c=>kG g n (g out c).1 (g out c).2
def vq(code:ah):Nat->c9->ah × c9
 |0,c=>kG (oL code 0 fun c=>([],c)) (bF code 4 c).1.toNat [] (bF code 4 c).2
 |d+1,c=>kG (oL code (d+1) (vq code d)) (bF code 4 c).1.toNat [] (bF code 4 c).2
section
variable{code:ah}{d:Nat}{sub:c9->ah × c9}
theorem xl{B:Nat}(G:∀c,(sub c).1.length<=B)(out:ah)(c:c9):(oL code d sub out c).1.length<=out.length+2*B+200:=by
 have o:=fun c=>mx code 1 c
 have b:=fun c=>mx code 2 c
 simp only[wo]at o b;unfold oL;simp only;generalize bF code 8 c=k;split
 ·exact zcC
 split
 ·exact zcC
 split
 ·exact zcC
 split
 ·grind
 split
 ·exact zcC
 grind[lr]
theorem Bu(G:∀c:c9,c.i<=code.length->(sub c).2.i<=code.length){out:ah}{c:c9}(W:c.i<=code.length):(oL code d sub out c).2.i<=code.length:=by
 have o:=fK (code:=code) 8 W;unfold oL
 grind[xE,fK]
end
def we{g:ah->c9->ah × c9}{B:Nat}(hg:∀out c,(g out c).1.length<=out.length+B):∀(n:Nat)(out:ah)(c:c9),(kG g n out c).1.length<=out.length+n*B
 |0,out,c=>by simp[ah,kG]
 |n+1,out,c=>by
  have o:=we hg n (g out c).1 (g out c).2
  grind[kG]
def ze{code:ah}{g:ah->c9->ah × c9}(hg:∀out c,c.i<=code.length->(g out c).2.i<=code.length):∀(n:Nat)(out:ah)(c:c9),c.i<=code.length->(kG g n out c).2.i<=code.length
 |0,out,c,h=>by grind[kG]
 |n+1,out,c,h=>by rw[kG];exact ze hg n _ _ (hg out c h)
def xi:Nat->Nat
 |0=>600
 |d+1=>6*xi d+600
def xU(code:ah):∀(d:Nat)(c:c9),(vq code d c).1.length<=xi d
 |0,c=>by
  rw[vq,xi];have h:=eJ code c (n:=4) L;have b:=we (B:=200) (fun out c=>xl (code:=code) (d:=0) (sub:=fun c=>([],c)) (B:=0) (fun c=>a8 _) out c) (bF code 4 c).1.toNat [] (bF code 4 c).2
  grind
 |d+1,c=>by
  rw[vq,xi];have h:=eJ code c (n:=4) L;have b:=we (B:=2*xi d+200) (fun out c=>by have:=xl (code:=code) (d:=d+1) (xU code d) out c;omega) (bF code 4 c).1.toNat [] (bF code 4 c).2;have G:(bF code 4 c).1.toNat*(2*xi d+200)<=3*(2*xi d+200):=sw _ L
  grind
def C3{code:ah}:∀(d:Nat){c:c9},c.i<=code.length->(vq code d c).2.i<=code.length
 |0,c,h=>by rw[vq];simp_all[ze,Bu,fK]
 |d+1,c,h=>by rw[vq];exact ze (fun out c W=>Bu (fun c h=>C3 d h) W) _ _ _ (fK _ h)
open Tryz
open GV (U)
abbrev eL(code:ah)(c:c9):Ob:=.box 115 (ux code c)
def TK{d:Nat}(h:d<=3):wo d<=105:=by
 have:d=0\/d=1\/d=2\/d=3:=by omega
 grind[wo]
def ot{l:List ah}{m:Nat}(h:m<l.length):(bs l)[m]?=some [.v (sv (lr l (m:Int)))]:=by
 grind[bs,sv,lr]
def Jr{m:Nat}(h:m<9):(levels.map fun l=>[strs l])[m]?=some [strs (levels.getD m [])]:=by
 have:m<levels.length:=h
 grind
def L0:∀m,m<9->0<(levels.getD m []).length:=by decide
def nI{code:ah}(M:code.length<=1099511627776){c:c9}(W:c.i<=code.length)(n:Int)(hn:0<n):∃(z:Int)(J:c9),GF prog 33 [.loc 0 0,y4 n] [eL code c] (y4 z) [eL code J]/\J.i<=code.length/\0<=z/\z<n:=⟨_,_,gq code n c M W,fK n W,eJ code c hn⟩
def CY{code:ah}(M:code.length<=1099511627776){c:c9}(W:c.i<=code.length):∃(z:Int)(J:c9),GF prog 36 [.loc 0 0] [eL code c] (y4 z) [eL code J]/\J.i<=code.length /\ -9223372036854775808<=z/\z<=9223372036854775807:=⟨_,_,OC code c M W,Vd W,Pe code c⟩
def oF{code:ah}(M:code.length<=1099511627776){c:c9}(W:c.i<=code.length)(n:Int)(hn:0<n):∃(z:Nat)(J:c9),GF prog 33 [.loc 0 0,y4 n] [eL code c] (y4 (z:Nat)) [eL code J]/\J.i<=code.length/\0<=(z:Int)/\(z:Int)<n:=by
 have⟨z,J,h,i,r⟩:=nI M W n hn;obtain⟨z,rfl⟩:∃q:Nat,z=(q:Int):=⟨z.toNat,by omega⟩;exact⟨z,J,h,i,r⟩
attribute [local irreducible] GW GL GO D GC GA bo bn oQ r7 ph
def Hy(code:ah)(C:code.length<=1099511627776):∀(d:Nat)(c:c9),d<=3->c.i<=code.length ->
  GF prog 174 [.loc 0 0,y4 (d:Nat)] [eL code c] (.v (sv (jG code d c).1)) [eL code (jG code d c).2]:=by
 intro d
 induction d with
 |zero =>
  intro c hd B;rw[jG];have z:=gq code 9 c C B;have u:=fK (code:=code) 9 B;generalize bF code 9 c=a at *;have⟨k,b⟩:=a;simp only at z u |-;exact zaD
 |succ d ih =>
  intro c hd B
  have hdd:(((d+1:Nat):Int)==0)=false:=by rfl
  have hB:=TK (d:=d) L
  have w:∀c:c9,c.i<=code.length->GF prog 174 [.loc 0 0,y4 (((d+1:Nat):Int)-1)] [eL code c] (.v (sv (jG code d c).1)) [eL code (jG code d c).2]:=fun c B=>by
   rw[show(((d+1:Nat):Int)-1)=(d:Int) by omega];exact ih c L B
  clear ih;rw[jG];have z:=gq code 9 c C B;have r1:=eJ code c (n:=9) L;have u:=fK (code:=code) 9 B;generalize bF code 9 c=a at *;have⟨k,b⟩:=a;simp only at z r1 u |-
  by_cases hk:k<3
  ·have T:decide (k<(3:Int))=true:=by grind
   rw[ai hk];exact zaD
  ·have T:decide (k<(3:Int))=false:=by grind
   rw[ab hk]
   by_cases G:k=3
   ·subst G;exact zbk
   ·have aao:(k==3)=false:=by grind
    rw[ab G]
    by_cases H:k=4
    ·subst H;rw[ai rfl];have e:=gq code 3 b C u;have E:=eJ code b (n:=3) L;have F:=fK (code:=code) 3 u;generalize bF code 3 b=a at *;have⟨j,t⟩:=a;simp only at e E F |-;obtain⟨m,rfl⟩:∃m:Nat,j=(m:Int):=⟨j.toNat,by omega⟩;have W:=ot (l:=[[45],[33],[126]]) (m:=m) ze2;have hp:=me (l:=[[45],[33],[126]]) (n:=1) aU (m:Int);generalize lr [[45],[33],[126]] (m:Int)=sg at *;have A:=w t F;have Q:=mx code d t;generalize jG code d t=a at *;have⟨s,N⟩:=a;simp only at A Q |-;refine ak func174 ntmps174 ?_;refine I [0] z ?_;refine aV (.q 1 (aM 6 3 (.f 0 (.a 2 (aM 3 3 (.a 9 (aM 10 3 .nil)))) 2 (.f 0 (aM 3 3 (.a 9 (aM 10 3 .nil))) 9 (.a 0 (aM 3 3 (aM 10 3 .nil))))))) ?_;refine ay ?_;refine GO.fork ?_ ?_
     ·refine zar ?_;refine aX [0] e ?_;refine aX [0] A ?_;exact aK
     ·refine aX [0] e ?_;refine GO.fork ?_ ?_
      ·refine zar ?_;refine aX [0] A ?_;exact aK
      ·refine aX [0] A ?_;refine zar ?_;exact aK
    ·have aap:(k==4)=false:=by grind
     rw[ab H]
     by_cases J:k=5
     ·subst J;exact zbk
     ·have aaq:(k==5)=false:=by grind
      rw[ab J];have e:=gq code 9 b C u;have E:=eJ code b (n:=9) L;have F:=fK (code:=code) 9 u;generalize bF code 9 b=a at *;have⟨j,t⟩:=a;simp only at e E F |-;obtain⟨m,rfl⟩:∃m:Nat,j=(m:Int):=⟨j.toNat,by omega⟩;rw[eV];have W:=Jr (m:=m) L;have hn:=L0 m L;have M:=ET (m:Int);rw[eV]at M;generalize levels.getD m []=r at *;have A:=w t F;have Q:=mx code d t;have Y:=xE (code:=code) d F;generalize jG code d t=a at *;have⟨s,N⟩:=a;simp only at A Q Y |-;have S:=gq code (r.length:Int) N C Y;have r4:=eJ code N (n:=(r.length:Int)) L;have i4:=fK (code:=code) (r.length:Int) Y;generalize bF code (r.length:Int) N=a at *;have⟨o,R⟩:=a;simp only at S r4 i4 |-;obtain⟨q,rfl⟩:∃q:Nat,o=(q:Int):=⟨o.toNat,by omega⟩;have hr4:=ot (l:=r) (m:=q) L;have hp:=me M (q:Int);generalize lr r (q:Int)=sg at *;have X:(r.map fun s=>[GV.v (sv s)]).length=r.length:=bS _;rw[<-X]at S;have Z:=w R i4;have b5:=mx code d R;generalize jG code d R=a at *;have⟨s2,c5⟩:=a;simp only at Z b5 |-;refine ak func174 ntmps174 ?_;refine I [0] z ?_;refine I [] jZ ?_;refine I [0] e ?_;refine aV (aM 0 3 (aM 6 4 (aM 15 3 (.a 3 (.q 4 (.q 5 (.a 10 (aM 11 4 (.a 18 (aM 19 3 .nil)))))))))) ?_;refine ay ?_;refine aX [0] A ?_;refine aX [0] S ?_;refine aX [0] Z ?_;exact aK
def zM(code:ah)(S:code.length<=1099511627776)(d:Nat)(hd:d<=3)(sub:c9->ah × c9)
  (hs:0<d->∀c:c9,c.i<=code.length->GF prog 173 [.loc 0 0,y4 ((d:Int)-1)] [eL code c] (.v (sv (sub c).1)) [eL code (sub c).2])
  (R:∀c,(sub c).1.length<=1000000)(hi:∀c:c9,c.i<=code.length->(sub c).2.i<=code.length)(c:c9)(J:c.i<=code.length) :
  GF prog 173 [.loc 0 0,y4 (d:Nat)] [eL code c] (.v (sv (kG (oL code d sub) (bF code 4 c).1.toNat [] (bF code 4 c).2).1)) [eL code (kG (oL code d sub) (bF code 4 c).1.toNat [] (bF code 4 c).2).2]:=by
 have h1:=gq code 4 c S J;have r1:=eJ code c (n:=4) L;have i1:=fK (code:=code) 4 J;generalize bF code 4 c=a at *;have⟨n0,c1⟩:=a;simp only at h1 r1 i1 |-;obtain⟨n,rfl⟩:∃n:Nat,n0=(n:Int):=⟨n0.toNat,by omega⟩;rw[eV];have H:=Hy code S
 have w:=fun c=>mx code 1 c
 have z:=fun c=>mx code 2 c
 have he1:wo 1=21:=rfl;have wU:wo 2=49:=rfl;rw[he1]at w;rw[wU]at z
 have Q:=fun out c=>xl (code:=code) (d:=d) R out c
 have O:=fun(out:ah)(c:c9)(h:c.i<=code.length)=>Bu (code:=code) (d:=d) hi (out:=out) h
 generalize hr:kG (oL code d sub) n [] c1=r;refine ak func173 ntmps173 ?_;refine I [0] h1 ?_;refine GW.loop (fun x:Nat=>x) (fun x fr Γ=>∃out c,fr=.loc 0 0::y4 (d:Nat)::U::U::U::.v (sv out)::y4 (x:Nat)::zU 88 []/\Γ=[eL code c]/\x<=3/\c.i<=code.length/\out.length+x*2000200<=8000000/\kG (oL code d sub) x out c=r) n ?_ ?_
 ·exact⟨_,_,Wk.a6 aC,_,_,rfl,rfl,by omega,i1,by grind,hr⟩
 ·rintro x _ _⟨out,c,rfl,rfl,hx,J,YL,h⟩
  cases x with
  |zero =>
   rw[kG]at h;subst h;exact zcZ
  |succ x =>
   rw[kG]at h;have Uz:decide ((0:Int)<((x+1:Nat):Int))=true:=decide_eq_true L
   have t:(((x+1:Nat):Int)-1)=(x:Int):=by omega
   have zA:=Q out c;have hi2:=O out c J
   have b:∀y,oL code d sub out c=y->kG (oL code d sub) x y.1 y.2=r/\y.2.i<=code.length/\y.1.length+x*2000200<=8000000:=by
    grind
   clear h zA hi2 Q O;unfold oL at b;have G:=gq code 8 c S J;have r3:=eJ code c (n:=8) L;have B:=fK (code:=code) 8 J;generalize bF code 8 c=a at *;have⟨k,s⟩:=a;simp only at G r3 B b;obtain⟨m,rfl⟩:∃m:Nat,k=(m:Int):=⟨k.toNat,by omega⟩
   by_cases X:(m:Int)=0/\0<d
   ·have⟨e,j,o⟩:=b _ (ai X);have⟨hm,E⟩:=X
    obtain rfl:m=0:=by omega
    have Z:decide ((0:Int)<(d:Int))=true:=by grind
    have g1:=H 1 s L B;have N:=w s;have M:=xE (code:=code) 1 B;generalize jG code 1 s=a at *;have⟨s1,A⟩:=a;simp only at e j o g1 N M;have u:=hs E A M;have C:=R A;have j2:=hi A M;generalize sub A=a at *;have⟨T,F⟩:=a;simp only at e j o u C j2;have g3:=hs E F j2;have b3:=R F;generalize sub F=a at *;have⟨s3,c5⟩:=a;simp only at e j o g3 b3;refine V ?_;refine I [0] G ?_;refine I [0] g1 ?_;refine I [0] u ?_;refine I [0] g3 ?_;exact zam
   have b:=fun y h=>b y ((ab X).trans h)
   by_cases Y:(m:Int)=1/\0<d
   ·have⟨e,j,o⟩:=b _ (ai Y);have⟨hm,E⟩:=Y
    obtain rfl:m=1:=by omega
    have Z:decide ((0:Int)<(d:Int))=true:=by grind
    have u:=hs E s B;have C:=R s;generalize sub s=a at *;exact zcQ
   have b:=fun y h=>b y ((ab Y).trans h)
   by_cases hC:(m:Int)=2
   ·have⟨e,j,o⟩:=b _ (ai hC)
    obtain rfl:m=2:=by omega
    have g1:=H 1 s L B;have N:=w s;have M:=xE (code:=code) 1 B;generalize jG code 1 s=a at *;have⟨s1,A⟩:=a;simp only at e j o g1 N M;have u:=H 2 A L M;have C:=z A;generalize jG code 2 A=a at *;have⟨T,F⟩:=a;simp only at e j o u C;refine V ?_;refine I [0] G ?_;refine I [0] g1 ?_;refine I [0] u ?_;exact zam
   have b:=fun y h=>b y ((ab hC).trans h)
   by_cases hD:(m:Int)=3
   ·have⟨e,j,o⟩:=b _ (ai hD)
    obtain rfl:m=3:=by omega
    have u:=H 2 s L B;have C:=z s;generalize jG code 2 s=a at *;exact zcQ
   have b:=fun y h=>b y ((ab hD).trans h)
   by_cases hF:(m:Int)=4
   ·have⟨e,j,o⟩:=b _ (ai hF)
    obtain rfl:m=4:=by omega
    have g1:=H 1 s L B;have N:=w s;generalize jG code 1 s=a at *;have⟨s1,A⟩:=a;simp only at e j o g1 N;refine V ?_;refine I [0] G ?_;refine I [0] g1 ?_;exact zam
   have⟨e,j,o⟩:=b _ (ab hF);have W:=gq code 2 s S B;have r4:=eJ code s (n:=2) L;have i4:=fK (code:=code) 2 B;generalize bF code 2 s=a at *;have⟨q,A⟩:=a;simp only at e j o W r4 i4;obtain⟨q,rfl⟩:∃q':Nat,q=(q':Int):=⟨q.toNat,by omega⟩;have aaI:=ot (l:=[[120],[121]]) (m:=q) ze2;have hp:=me (l:=[[120],[121]]) (n:=1) aU (q:Int);generalize lr [[120],[121]] (q:Int)=sg at *;have u:=H 2 A L i4;have C:=z A;generalize jG code 2 A=a at *;have⟨T,F⟩:=a;simp only at e j o u C
   have hm:(m=0/\d=0)\/(m=1/\d=0)\/m=5\/m=6\/m=7:=by omega
   rcases hm with⟨rfl,rfl⟩|⟨rfl,rfl⟩|rfl|rfl|rfl
   all_goals
    refine V ?_;refine I [0] G ?_;refine aV (.q 0 (.q 2 (.q 8 (.f 1 (.a 3 (aM 4 4 (.a 9 (aM 10 3 .nil)))) 3 (.f 1 (aM 4 4 (.a 9 (aM 10 3 .nil))) 9 (.a 1 (aM 4 4 (aM 10 3 .nil)))))))) ?_;refine ay ?_;refine GO.fork ?_ ?_
    ·refine zar ?_;refine aX [0] W ?_;refine aX [0] u ?_;refine V ?_;exact zam
    ·refine aX [0] W ?_;refine GO.fork ?_ ?_
     ·refine zar ?_;refine aX [0] u ?_;refine V ?_;exact zam
     ·refine aX [0] u ?_;refine de ?_;refine bj ?_;exact zam
def Vm{d:Nat}(h:d<=3):xi d<=1000000:=by
 have:d=0\/d=1\/d=2\/d=3:=by omega
 grind[xi]
def vT(code:ah)(M:code.length<=1099511627776):∀(d:Nat)(c:c9),d<=3->c.i<=code.length ->
  GF prog 173 [.loc 0 0,y4 (d:Nat)] [eL code c] (.v (sv (vq code d c).1)) [eL code (vq code d c).2]
 |0,c,T,W=>by
  rw[vq];exact zM code M 0 T _ (fun h=>absurd h (Nat.lt_irrefl 0)) (fun c=>bl _) (fun c h=>h) c W
 |d+1,c,T,W=>by
  rw[vq];refine zM code M (d+1) T _ (fun h c W=>?_) (fun c=>jC (xU code d c) (Vm L)) (fun c h=>C3 d h) c W;rw[show(((d+1:Nat):Int)-1)=(d:Int) by omega];exact vT code M d c L W
end Go.Xg
namespace Go.Xg
open Go.RowKit Go.Xw Go.Proofs Tryz Go.Sp
open GV (U)
open Go.Xp (Tok)
attribute [local irreducible] GW GL GO D GC GA bo bn
def VQ(s:ah)(hs:s.length<=1000000000000) :
  GC prog 167 [.v (sv s)] [] fun g Δ=>Δ=[]/\∃l c z,g=.tup [Go.Xg.ir l,y4 c,y4 z]/\(c=0->s.length<=6000/\l.length<=6000/\∀t∈l,As t):=by
 rcases Nat.lt_or_ge 6000 s.length with q|q
 ·have N:decide ((6000:Int)<(s.length:Int))=true:=by grind
  refine ak func167 ntmps167 ?_;refine mj ?_;exact⟨.tup [Go.Xg.ir [],y4 1,y4 0],gy,rfl,[],1,0,rfl,fun h=>by omega⟩
 ·have N:decide ((6000:Int)<(s.length:Int))=false:=by grind
  have F:=Ab s 0 L (bl _);have G:=sL s (s.length+1) 0 (bl _);generalize hS:skip s (s.length+1) 0=R at *;have⟨T,z0⟩:=R;simp only at F G;refine ak func167 ntmps167 ?_;refine nF ?_;refine V ?_;refine I [] F ?_;refine GW.zJ (fun J Q=>∃(a:Nat)(z:Int)(n:Nat)(b:List am)(d:List Tok),J=.v (sv s)::U::U::U::U::.vec 0 n::y4 (a:Nat)::y4 z::zU 47 []/\Q=[.vec 205 4 0 b]/\b.length=n/\b=d.map da/\d.length<=6000/\∀t∈d,As t) ?_ ?_
  ·refine GW.loop (fun x:Nat=>s.length-x) (fun a J Q=>∃(z:Int)(n:Nat)(b:List am)(d:List Tok),J=.v (sv s)::U::U::U::U::.vec 0 n::y4 (a:Nat)::y4 z::zU 47 []/\Q=[.vec 205 4 0 b]/\b.length=n/\b=d.map da/\d.length<=a/\a<=s.length/\∀t∈d,As t) T ?_ ?_
   ·exact⟨_,_,Wk.a6 aC,z0,0,[],[],rfl,rfl,rfl,rfl,bl _,G.2,fun t h=>by cases h⟩
   ·rintro a _ _⟨z,n,b,d,rfl,rfl,C,i,E,ha,H⟩
    cases A:s[a]? with
    |none =>
     have Y:s.length<=a:=nQ A
     have X:decide ((a:Int)<(s.length:Int))=false:=by grind
     exact zdW
    |some c =>
     have ny:a<s.length:=(b6 A).1
     have X:decide ((a:Int)<(s.length:Int))=true:=by grind
     by_cases hz:z<0
     ·have w:decide (z<(0:Int))=true:=by grind
      have r:=Fc A;have o:=PC A;have m:=S7 A q;have e:=D3 s a c L A;generalize gJ s a c=tk at *;have⟨t,nx⟩:=tk;simp only at r o m e
      by_cases Z:t.aj=0
      ·have O:(t.aj==0)=true:=by grind
       refine zcr ?_;refine mj ?_;exact⟨.tup [Go.Xg.ir [],y4 2,y4 (a:Nat)],gy,rfl,[],2,_,rfl,fun h=>by omega⟩
      ·have O:(t.aj==0)=false:=by grind
       have o:=o Z
       by_cases B:t.n<=2147483647
       ·have M:decide ((2147483647:Int)<t.n)=false:=by grind
        have m:=m B;have j:=Ab s nx L r.2;have k:=sL s (s.length+1) nx r.2
        have XC:n<=6000:=by grind
        generalize skip s (s.length+1) nx=S at *;have⟨W,z2⟩:=S;simp only at j k;refine zcr ?_;refine zbG ?_;refine I [] j ?_
        exact⟨W,⟨_,_,(Wk.cut (n:=1) (eF rfl) rfl).trans (Wk.a6 aC),z2,n+1,b++[da t],d++[t],rfl,rfl,by simp[C],by grind,by grind,k.2,fun u hu=>by
         grind⟩,by omega⟩
       ·have M:decide ((2147483647:Int)<t.n)=true:=by grind
        refine zcr ?_;refine mj ?_;exact⟨.tup [Go.Xg.ir [],y4 3,y4 (a:Nat)],gy,rfl,[],3,_,rfl,fun h=>by omega⟩
     ·have w:decide (z<(0:Int))=false:=by grind
      exact zdW
  ·rintro _ _⟨a,z,n,b,d,rfl,rfl,C,i,E,H⟩
   by_cases hz:0<=z
   ·have w:decide ((0:Int)<=z)=true:=by grind
    refine V ?_;refine mj ?_;exact⟨.tup [Go.Xg.ir [],y4 4,y4 z],gy,rfl,[],4,_,rfl,fun h=>by omega⟩
   ·have w:decide ((0:Int)<=z)=false:=by grind
    subst i;refine V ?_;refine GW.wk (Wk.jJ (t:=2) rfl rfl rfl C) ?_;refine BB ?_;exact⟨rfl,d,0,0,rfl,fun _=>⟨q,E,H⟩⟩
open Go.Im
open Go.Xp (Ar jh)
def Tg(p:RS)(gl:List ah)(e:List Ar)(hf hn:Value)(g:GV)(k:ap):Prop :=
 ∃q M Q H X,p.to q/\Hd M.length H/\Hd Q.length X/\(q.code=0->p.i<q.i/\∀w s,PB ⟨gl,e,w,s⟩ p.i->PB ⟨M,Q,w,s⟩ q.i) /\
  g=.agg [.v H,.v X,.v hf,.v hn]/\k=[cb q,.vech 9 1 (bs M) H,.vech 79 2 (Q.map bb) X]
def zQ{p:RS}{s:ah}(G:s≠[])(h:(p.ba s).code=0):p.i<(p.ba s).i:=by
 rw[(qM G h).1];grind[RS.next]
def OG(p:RS)(r:p.ok)(hb:SB p)(gl:List ah)(d:List Ar)(hg ha hf hn:Value)(Hg:Hd gl.length hg)(Ha:Hd d.length ha){Y nn:Nat}(Hf:Hd Y hf)(Hn:Hd nn hn)(DR:gl.length<=1000000)(He:d.length<=1000000) :
  GC prog 169 [.loc 0 0,.agg [.v hg,.v ha,.v hf,.v hn]] [cb p,.vech 9 1 (bs gl) hg,.vech 79 2 (d.map bb) ha] (Tg p gl d hf hn):=by
 obtain⟨ag,cg,rfl⟩:=Hg;obtain⟨aa,ca,rfl⟩:=Ha;obtain⟨af,cf,rfl⟩:=Hf;obtain⟨an,cn,rfl⟩:=Hn;have aal:(bs gl).length=gl.length:=bS _;have m:(d.map bb).length=d.length:=bS _;have M:=cX p jh r aU;have t1:=bU r (s:=jh) aU;have o1:=t1.ok r;have i1:(p.ba jh).code=0->p.i<(p.ba jh).i:=zQ aU;generalize p.ba jh=G at *;have B:=oi G o1;have H:=t1.trans (eU o1);have F:=H.ok r;have Z:=oj G
 have ne:¬G.code=0->¬G.name.2.code=0:=fun h=>by grind[RS.name]
 have le:=(eU o1).2.2.2;generalize G.name=nm at *;have⟨s,b⟩:=nm;simp only at B H F Z ne le;have N:=dk b 0 F aU
 by_cases hs:b.aJ 0=[91]
 ·have T:(b.aJ 0==[91])=true:=by grind
  have o:=dv hs aU;have Qu:=o.2;have o:=o.1;rw[Nat.add_zero]at o;have yl:=F.2;have t3:=H.trans (cR o);have o3:=t3.ok r;have Q:=hb.to t3
  have li:b.next.i=b.i+1:=rfl
  have ls:b.next.l=b.l:=rfl
  have lc:b.next.code=b.code:=rfl
  have O:GF prog 172 [.loc 0 0] [cb b.next] (y4 b.next.place) [cb b.next]:=j0 _ o3;have w:=t3.trans (Ip o3);have A:=w.ok r;have J:=Ps Q;have u:=(Ip o3).2.2.2
  have j:∀(z:Int)(q:RS),ps b.next=(z,q)->GF prog 223 [.loc 0 0,.v (sv [93])] [cb q] (.tup []) [cb (q.ba [93])]/\GF prog 223 [.loc 0 0,.v (sv [59])] [cb (q.ba [93])] (.tup []) [cb ((q.ba [93]).ba [59])] /\
    ∀a c n,n=d.length->Tg p gl d (.slice af Y cf) (.slice an nn cn) (.agg [.v (.slice ag gl.length cg),.v (.slice a (n+1) c),.v (.slice af Y cf),.v (.slice an nn cn)]) [cb ((q.ba [93]).ba [59]),.vech 9 1 (bs gl) (.slice ag gl.length cg),.vech 79 2 (d.map bb++[[.v (sv s),y4 z]]) (.slice a (n+1) c)]:=fun z q e=>by
   rw[e]at w A J u;simp only at w A J u;have t5:=w.trans (bU A (s:=[93]) aU);have o5:=t5.ok r;have t6:=t5.trans (bU o5 (s:=[59]) aU);refine⟨cX _ _ A aU,cX _ _ o5 aU,?_⟩;rintro a c n rfl;refine⟨_,gl,d++[⟨s,z⟩],_,_,t6,⟨_,_,rfl⟩,⟨a,c,by simp⟩,fun R=>?_,rfl,by rw[jK];rfl⟩;have a1:=zQ aU R;have a2:=(bU A (s:=[93]) aU).2.2.2;have a3:=(bU o5 (s:=[59]) aU).2.2.2
   have k:p.i<((q.ba [93]).ba [59]).i:=by omega
   exact⟨k,fun fs X h=>h.arr ⟨s,z⟩ Z J k⟩
  clear w A J u
  cases W:b.l[b.i+1]? with
  |none =>
   have Hi:=nQ W
   have hd:decide (((b.i+1:Nat):Int)<((b.l.map da).length:Int))=false:=by grind
   have e:ps b.next=(0,b.next.fail 7 b.next.place):=by grind[ps,RS.next,RS.fail,RS.place]
   exact zay
  |some t =>
   have aau:=(b6 W).1
   have hd:decide (((b.i+1:Nat):Int)<((b.l.map da).length:Int))=true:=by grind
   have hr:=kY W
   by_cases hk:t.aj=1
   ·have S:(t.aj==1)=true:=by grind
    have e:ps b.next=(t.n,b.next.next):=by grind[ps]
    have⟨C,E,j⟩:=j _ _ e;refine ak func169 ntmps169 ?_;refine I [0] M ?_;refine I [0] B ?_;refine I [0] N ?_;refine aV (aM 0 24 .nil) ?_;refine bj ?_;refine aV (aM 0 12 .nil) ?_;refine bj ?_;refine I [0] C ?_;refine GL.jw 2 rfl rfl rfl rfl rfl rfl rfl rfl aH ll ?_;intro a c;refine zbt ?_;refine I [0] E ?_;refine dX ?_;exact j _ _ _ m
   ·have S:(t.aj==1)=false:=by grind
    have e:ps b.next=(0,b.next.fail 7 b.next.place):=by grind[ps,RS.next,RS.fail,RS.place]
    exact zay
 ·have T:(b.aJ 0==[91])=false:=by
   grind
  have O:=cX b [59] F aU;have w:=H.trans (bU F (s:=[59]) aU);refine ak func169 ntmps169 ?_;refine I [0] M ?_;refine I [0] B ?_;refine I [0] N ?_;refine zbH ?_;intro a c;refine zbt ?_;refine I [0] O ?_;refine dX ?_;refine⟨_,gl++[s],d,_,_,w,⟨a,c,by grind⟩,⟨_,_,rfl⟩,fun R=>?_,rfl,by unfold bs;simp⟩;have a1:=zQ aU R;have a2:=H.2.2.2
  have k:p.i<(b.ba [59]).i:=by omega
  exact⟨k,fun fs X h=>h.glob s Z k⟩
end Go.Xg
