/- Part 9 of proofs that are told in their last texts. -/
import Derived.Test.YtfmnfhpifpjljaaGreatDoorZ8
open List (findIdx? foldl_append foldl_cons getD_eq_getElem?_getD getElem?_cons_succ getElem?_cons_zero getElem?_zipWith headD_cons length_replicate length_set mem_append mem_append_left mem_append_right mem_singleton mem_singleton_self nil_append take_zero)
set_option linter.unusedVariables false
set_option linter.unusedSimpArgs false
set_option linter.defProp false
set_option maxRecDepth 100000
set_option maxHeartbeats 4000000
namespace Go
def zch{A B:Prop}(h:B)(s:PLift B->A:=by intro hQ;refine GW.seq ?_;refine GW.region ?_;refine GL.wA rfl rfl ?_;exact hQ.1):A:=s ⟨h⟩
end Go
namespace Go.Im
open Go.Xp Go.Sp
section
variable{l:List Int}{k:Nat}{x n:Int}
def xD(h:l[k]?=some x)(m:(l.take k).contains n=false)(hx:(x==n)=false):(l.take (k+1)).contains n=false:=by
 rw[dc,h];simp only[List.contains_eq_mem,decide_eq_false_iff_not,mem_append,not_or]at *;refine⟨m,?_⟩;simp only[Option.toList_some,mem_singleton];intro e;subst e;simp at hx
def Fa(h:l[k]?=some x)(hx:(x==n)=true):l.contains n=true:=by
 have:x=n:=by simpa using hx
 subst this;exact l9.2 (bB h)
end
def Vh{l:List Int}{n:Int}(h:l.contains n=true):jP l n=l:=by unfold jP;rw[ae h]
def xn:∀(ks l:List Int),(ks.foldl jP l).length<=l.length+ks.length
 |[],l=>by simp
 |k::r,l=>by
  have:=xn r (jP l k);have:=RE (l:=l) (n:=k);rw[foldl_cons,List.length_cons];omega
def mO(l ks:List Int):List Int:=ks.foldl jP l
def LO(l a b:List Int):mO l (a++b)=mO (mO l a) b:=foldl_append
def LP(l ks:List Int):(mO l ks).length<=l.length+ks.length:=xn ks l
def M0(p:Src){l:List T}{k:Nat}{u:T}(h:l[k]?=some u)(o:List Int)(n:Nd):mO o (pb p n++eC p (l.take (k+1)))=mO (mO o (pb p n++eC p (l.take k))) (jb p u):=by
 rw[M1 p h,<-gS,LO]
def LQ(ks:List Int):mO [] ks=pC ks:=rfl
def ri{p:Src}{i:Nat}(hg:cw p=true)(hi:i<p.ak.length):gX p (i:Int)=true:=by
 unfold gX;rw[hg,decide_eq_true (show(0:Int)<=(i:Int) by omega),decide_eq_true (show(i:Int)<(p.ak.length:Int) by omega)];rfl
end Go.Im
namespace Go.Xg
open Go.RowKit Go.Xw Go.Proofs Tryz Go.Im
open GV (U)
attribute [local irreducible] GW GL GO YG GC GA bh bn
def Q5(l:List Int)(n:Int)(a:Option Addr)(c:Nat)(j:l.length<=8388608) :
  GC prog 88 [.v (.slice a l.length c),y4 n] [.vech 3 1 (bK l) (.slice a l.length c)] fun g J =>
   (l.contains n=true/\g=.v (.slice a l.length c)/\J=[.vech 3 1 (bK l) (.slice a l.length c)]) \/
   (l.contains n=false/\∃E r,g=.v (.slice E (jP l n).length r)/\J=[.vech 3 1 (bK l) (.slice a l.length c),.vech 3 1 (bK (jP l n)) (.slice E (jP l n).length r)]):=by
 have F:=fj l;refine aj func88 ntmps88 ?_;refine nR ?_;refine GL.sw (t:=9) rfl rfl rfl rfl ?_;intro a1 G;refine zaJ ?_;refine GW.range l.length (fun k z d=>∃a1 G m W S,z=.v (.slice a l.length c)::y4 n::U::U::U::.v (.slice a1 m G)::.v (.bool W)::U::U::U::.v (.slice a l.length c)::y4 (l.length:Int)::y4 (k:Nat)::zU 30 []/\d=[.vech 3 1 (bK l) (.slice a l.length c),.vech 3 1 S (.slice a1 m G)]/\S.length=m/\S=bK (kF l n k).1/\W=(kF l n k).2/\(l.take k).contains n=false) ?_ X ?_ ?_ ?_
 ·exact⟨_,_,Wk.aW az,a1,G,0,false,[],rfl,rfl,rfl,rfl,rfl,rfl⟩
 ·rintro k _ _⟨a1,G,m,W,S,rfl,rfl,_⟩;exact dN
 ·rintro k _ _ Q⟨a1,G,m,W,S,rfl,rfl,u,T,q,o⟩;obtain⟨x,hx⟩:∃x,l[k]?=some x:=⟨l[k],by simp[Q]⟩
  have L:(bK l)[k]?=some [y4 x]:=by unfold bK;rw[bO,hx];rfl
  have A:k<(bK l).length:=by omega
  have H:m<=8388609:=by
   have:=(Gq l n k).1;rw[<-u,T,fj];omega
  have O:=DZ (n:=n) hx
  cases R:(x==n)with
  |true =>
   refine zcS ?_;exact kD (n:=1) rfl c8 rfl (ed rfl) rfl rfl (.inl ⟨Fa hx R,rfl,rfl⟩)
  |false =>
   have C:=xD hx o R
   cases W with
   |true =>
    have e:kF l n (k+1)=((kF l n k).1++[x],true):=by rw[O];unfold pn;rw[<-q];rfl
    have N:bK (kF l n (k+1)).1=S++[[y4 x]]:=by rw[e,T];simp[bK]
    clear T;refine Z ?_;refine zau ?_;intro M B;refine zaJ ?_;exact⟨rfl,rfl,_,_,Wk.aW az,M,B,_,true,_,rfl,rfl,by simp[u],N.symm,by rw[e],C⟩
   |false =>
    cases w:decide (n<x)with
    |true =>
     have e:kF l n (k+1)=((kF l n k).1++[n]++[x],true):=by rw[O];unfold pn;rw[<-q,w];rfl
     have N:bK (kF l n (k+1)).1=(S++[[y4 n]])++[[y4 x]]:=by rw[e,T];simp[bK]
     have b:(S++[[GV.v (ii n)]]).length=m+1:=by rw[bf,u];rfl
     clear T;refine Z ?_;refine zau ?_;intro M B;refine zaJ ?_;refine zau ?_;intro s i;refine zaJ ?_;exact⟨rfl,rfl,_,_,Wk.aW az,s,i,_,true,_,rfl,rfl,by simp[u],N.symm,by rw[e],C⟩
    |false =>
     have e:kF l n (k+1)=((kF l n k).1++[x],false):=by rw[O];unfold pn;rw[<-q,w];rfl
     have N:bK (kF l n (k+1)).1=S++[[y4 x]]:=by rw[e,T];simp[bK]
     clear T;refine Z ?_;refine zau ?_;intro M B;refine zaJ ?_;exact⟨rfl,rfl,_,_,Wk.aW az,M,B,_,false,_,rfl,rfl,by simp[u],N.symm,by rw[e],C⟩
 ·rintro _ _⟨a1,G,m,W,S,rfl,rfl,u,T,q,o⟩;rw[dx]at o;have V:=RF l n o
  have H:m<=8388609:=by
   have:=(Gq l n l.length).1;rw[<-u,T,fj];omega
  refine bl ?_
  cases W with
  |true =>
   rw[ae q.symm]at V
   have e:m=(jP l n).length:=by rw[<-u,T,fj,V]
   subst e;rw[V]at T;subst T;refine zcS ?_;exact kD (n:=2) rfl c8 rfl (ed rfl) rfl rfl (.inr ⟨o,a1,G,rfl,rfl⟩)
  |false =>
   rw[D (by rw[<-q];decide)]at V
   have N:bK (jP l n)=S++[[y4 n]]:=by rw[<-V,T];simp[bK]
   have e:(jP l n).length=m+1:=by rw[<-fj,N,bf,u];rfl
   rw[N,e];clear T;subst u;refine Z ?_;refine zau ?_;intro M B;refine zaJ ?_;refine iY ?_;exact kD (n:=2) rfl c8 rfl (ed rfl) rfl rfl (.inr ⟨o,M,B,rfl,rfl⟩)
open Go.Xp (Nd T bc aR gm)
open Go.Sp (Src)
def VV(l r:List Int)(a:Option Addr)(c:Nat)(g:GV)(J:ap):Prop :=
 (r=l/\g=.v (.slice a l.length c)/\J=[.vech 3 1 (bK l) (.slice a l.length c)]) \/
 (∃B o,g=.v (.slice B r.length o)/\J=[.vech 3 1 (bK l) (.slice a l.length c),.vech 3 1 (bK r) (.slice B r.length o)])
def Ou(l:List Int)(n:Int)(a:Option Addr)(c:Nat)(T:l.length<=8388608) :
  GC prog 88 [.v (.slice a l.length c),y4 n] [.vech 3 1 (bK l) (.slice a l.length c)] (VV l (jP l n) a c):=by
 refine(Q5 l n a c T).mono fun g J h=>?_
 rcases h with⟨M,w,z⟩|⟨M,B,o,w,z⟩
 ·exact .inl ⟨Vh M,w,z⟩
 ·exact .inr ⟨B,o,w,z⟩
def Lx(p:Src)(M:p.ak.length<=1099511627776):∀(N:Nat)(t:T),bc t<=N->∀(l:List Int)(a:Option Addr)(c:Nat),l.length+bc t<=8388608 ->
  GC prog 214 [.v (.slice a l.length c),.agg (aD p),.agg (cT t)] [.vech 3 1 (bK l) (.slice a l.length c)] (VV l (mO l (jb p t)) a c):=by
 intro N
 induction N with
 |zero=>intro t h;exact zel
 |succ N ih =>
 intro t hN l a c Q
 cases t with
 |mk n b =>
 rw[Go.Xp.bc]at hN Q;have xQ:=gm b;have q:(bj b).length=b.length:=bq b;have V:=vK p n.s M;have e0:bM (fun x:Go.Sp.Fn=>x.name==n.s) p.ak=bF p n.s:=rfl;rw[e0]at V;have hP:=Ou l (bF p n.s) a c X
 have d:pb p n=if n.ab=4/\0<=bF p n.s then[bF p n.s]else[]:=rfl
 rw[jb];generalize bF p n.s=z at *;refine aj func214 ntmps214 ?_;refine I [] V ?_
 refine GL.Zr (fun G A=>∃h L,G=.v h::U::U::U::.loc 1 0::.loc 2 0::zU 33 []/\L=mO l (pb p n) /\
  ((L=l/\h=.slice a l.length c/\A=[.vech 3 1 (bK l) (.slice a l.length c),.box 28 (aD p),.box 89 (cT (.mk n b))]) \/
   (∃e i,h=.slice e L.length i/\A=[.vech 3 1 (bK l) (.slice a l.length c),.box 28 (aD p),.box 89 (cT (.mk n b)),.vech 3 1 (bK L) (.slice e L.length i)]))) ?_ ?_
 ·cases S:(n.ab==4)with
  |false =>
   rw[D (fun h=>by rw[h.1]at S;cases S)]at d;exact zdm
  |true =>
   cases q5:decide ((0:Int)<=z)with
   |false =>
    rw[D (fun h=>by have:=of_decide_eq_false q5;exact this h.2)]at d;exact zdm
   |true =>
    rw[ae ⟨by simpa using S,by simpa using q5⟩]at d;refine Z ?_;refine bx [0] hP ?_;rintro _ _(⟨H,rfl,rfl⟩|⟨e,i,rfl,rfl⟩)
    ·refine zao ?_;exact⟨_,_,Wk.aW az,_,l,rfl,by rw[d];exact H.symm,.inl ⟨rfl,rfl,rfl⟩⟩
    ·refine zao ?_;exact⟨_,_,Wk.aW az,_,jP l z,rfl,by rw[d];rfl,.inr ⟨e,i,rfl,rfl⟩⟩
 ·rintro _ _⟨h,L0,rfl,J,m⟩;have W:=B3 p n
  rcases m with⟨e1,rfl,rfl⟩|⟨a0,c0,rfl,rfl⟩
  all_goals
   refine Z ?_
   refine GW.range (bj b).length (fun k G A=>∃h L,G=.v h::U::U::U::.loc 1 0::.loc 2 0::zU 21 [.sl 6 (bj b),y4 ((bj b).length:Int),y4 (k:Nat),U,U,U,U,U,U,U,U,U]/\L=mO l (pb p n++eC p (b.take k)) /\
    ((L=l/\h=.slice a l.length c/\A=[.vech 3 1 (bK l) (.slice a l.length c),.box 28 (aD p),.box 89 (cT (.mk n b))]) \/
     (∃e i,h=.slice e L.length i/\A=[.vech 3 1 (bK l) (.slice a l.length c),.box 28 (aD p),.box 89 (cT (.mk n b)),.vech 3 1 (bK L) (.slice e L.length i)]))) ?_ X ?_ ?_ ?_
   ·exact⟨_,_,Wk.aW az,_,L0,rfl,by rw[take_zero,eC,fV];exact J,by first|exact .inl ⟨e1,rfl,rfl⟩|exact .inr ⟨_,_,rfl,rfl⟩⟩
   ·rintro k _ _⟨h,L,rfl,_,m⟩;exact dN
   ·rintro k _ _ r⟨h,L,rfl,o,m⟩;rw[q]at r;obtain⟨u,R⟩:∃u,b[k]?=some u:=⟨b[k],by simp[r]⟩;have hr:=dp R;have pf:=gZ R
    have hLl:L.length<=l.length+1+aR (b.take k):=by
     have:=LP l (pb p n++eC p (b.take k));have:=E8 p (b.take k);rw[bf]at *;rw[o];omega
    have w:=M0 p R l n;rw[<-o]at w;rw[w]
    rcases m with⟨F,rfl,rfl⟩|⟨e,i,rfl,rfl⟩
    ·subst F;have O:=ih u X L a c X;generalize mO L (jb p u)=B at *;refine Z ?_;refine bx [0] O ?_;rintro _ _(⟨H,rfl,rfl⟩|⟨C,E,rfl,rfl⟩)
     ·refine zao ?_;exact⟨rfl,rfl,_,_,(Wk.cut (n:=3) (ed rfl) rfl).trans (Wk.aW az),_,B,rfl,rfl,.inl ⟨H,rfl,rfl⟩⟩
     ·refine zao ?_;exact⟨rfl,rfl,_,_,(Wk.keep (n:=3) (j:=4) (ed rfl) aN rfl rfl rfl).trans (Wk.aW az),_,B,rfl,rfl,.inr ⟨C,E,rfl,rfl⟩⟩
    ·have O:=ih u X L e i X;generalize mO L (jb p u)=B at *;refine Z ?_;refine bx [3] O ?_;rintro _ _(⟨rfl,rfl,rfl⟩|⟨C,E,rfl,rfl⟩)
     ·refine zao ?_;exact⟨rfl,rfl,_,_,(Wk.cut (n:=4) (ed rfl) rfl).trans (Wk.aW az),_,_,rfl,rfl,.inr ⟨e,i,rfl,rfl⟩⟩
     ·refine zao ?_;exact⟨rfl,rfl,_,_,(Wk.keep (n:=3) (j:=5) (ed rfl) aN rfl rfl rfl).trans (Wk.aW az),_,B,rfl,rfl,.inr ⟨C,E,rfl,rfl⟩⟩
   ·rintro _ _⟨h,L,rfl,o,m⟩;rw[q,dx]at o;rw[<-o];refine bl ?_
    rcases m with⟨F,rfl,rfl⟩|⟨e,i,rfl,rfl⟩
    ·refine zcS ?_;exact kD (n:=1) rfl c8 rfl (ed rfl) rfl rfl (.inl ⟨F,rfl,rfl⟩)
    ·refine GW.wk (Wk.keep (n:=1) (j:=3) (aQ _) aN rfl rfl rfl) ?_;refine GW.Fl (de:=.v (.slice e L.length i)::zU 38 []) (bE:=[.vech 3 1 (bK l) (.slice a l.length c),.vech 3 1 (bK L) (.slice e L.length i)]) az rfl ?_;refine zcS ?_;exact kD (n:=2) rfl c8 rfl (ed rfl) rfl rfl (.inr ⟨e,i,rfl,rfl⟩)
def AA(p:Src)(R:cM p<=1048576){l:List T}{i:Nat}{f:Go.Sp.Fn}{t:T}(hg:cw p=true)(h:eQ p l i f t) :
  GC prog 159 [.agg (aD p),y4 (i:Nat)] [] fun g J=>∃a c,g=.v (.slice a (cQ p t).length c)/\J=[.vech 3 1 (bK (cQ p t)) (.slice a (cQ p t).length c)]:=by
 have⟨⟨a1,N⟩,⟨H,s⟩,⟨G,C⟩,⟨E,k⟩⟩:=et p;have u:=yG p R;rw[hg]at u
 have F:(p.ak.map aH).length=p.ak.length:=by simp
 have z:=(bR h.gf).1
 have r:(p.ak.map aH)[i]?=some (aH f):=by rw[bO,h.gf];rfl
 have A:decide ((i:Int)<0)=false:=decide_eq_false X;have O:decide (((p.ak.map aH).length:Int)<=(i:Int))=false:=decide_eq_false (by rw[F];omega);have S:=Ys p (fun n V=>by have:=(k n V).2;omega) f t h.body h.st
 have w:=fun a c=>Lx p X _ t (aQ _) [] a c (by have:=h.sz;show 0+_<=_;omega)
 rw[LQ]at w;unfold cQ;unfold aH at r;generalize pC (jb p t)=L at *;refine aj func159 ntmps159 ?_;refine I [] u ?_;refine aS (aK 1 8 (.f 0 (.a 9 (.a 10 (.q 11 .nil))) 9 (.a 0 (.a 10 (.q 11 .nil))))) ?_;refine av ?_;refine GO.fork ?_ ?_
 ·refine OA rfl rfl (GL.Tk rfl rfl rfl rfl ?_);refine GL.sw (t:=19) rfl rfl rfl rfl ?_;intro a1 G;refine zcp ?_;refine aJ [] S ?_;refine OA rfl rfl ?_;refine bx [1] (w a1 G) ?_;rintro _ _(⟨M,rfl,rfl⟩|⟨B,o,rfl,rfl⟩)
  ·refine⟨by simp,?_⟩;refine cW ?_;subst M;refine bp ?_;refine iY ?_;refine EA 1 rfl c8 rfl ?_ ?_
   ·intro x hx;rw[Ay hx];rfl
   ·exact zen
  ·refine⟨by simp,?_⟩;refine zaX ?_;refine iY ?_;refine EA 2 rfl c8 rfl ?_ ?_
   ·intro x hx;rw[Ay hx];rfl
   ·exact zen
 ·refine aJ [] S ?_;refine OA rfl rfl (GL.Tk rfl rfl rfl rfl ?_);refine GL.sw (t:=19) rfl rfl rfl rfl ?_;intro a1 G;refine zcp ?_;refine OA rfl rfl ?_;refine bx [1] (w a1 G) ?_;rintro _ _(⟨M,rfl,rfl⟩|⟨B,o,rfl,rfl⟩)
  ·refine⟨by simp,?_⟩;refine cW ?_;subst M;refine bp ?_;refine iY ?_;refine EA 1 rfl c8 rfl ?_ ?_
   ·intro x hx;rw[Ay hx];rfl
   ·exact zen
  ·refine⟨by simp,?_⟩;refine zaX ?_;refine iY ?_;refine EA 2 rfl c8 rfl ?_ ?_
   ·intro x hx;rw[Ay hx];rfl
   ·exact zen
end Go.Xg
namespace Go.Im
open Go.Xp Go.Sp
def BN(a b:Int) : -1<=eu a b:=by grind[eu]
def Cc:∀(l:List Int)(v:Int),-1<=v -> -1<=l.foldl eu v
 |[],v,h=>h
 |y::l,v,h=>by rw[foldl_cons];exact Cc l _ (BN _ _)
theorem IP(n:Nat):ek n<=1000000001:=Nat.min_le_right _ _
theorem y3:∀(l:List Nat)(v:Nat),v<=1000000001->l.foldl (fun m k=>ek (m+k)) v<=1000000001
 |[],v,h=>h
 |y::l,v,h=>by rw[foldl_cons];exact y3 l _ (IP _)
section
variable{p:Src}{l:List T}{ay:Bool}
theorem Bh(n:Nd):eo ay n<=1:=by grind[eo]
theorem St{V:Int->Int}:∀t:T,-1<=cR p ay V t
 |.mk n l=>by
  rw[cR];unfold sT;split
  ·omega
  ·split
   ·omega
   ·split
    ·grind[eu]
    ·split
     ·exact BN _ _
     simp[Cc]
theorem Eu{W:Int->Nat}:∀t:T,cP p ay W t<=1000000001
 |.mk n l=>by
  grind[Bh,sS,IP,y3,cP]
def zL(f:Int) : -1<=ji p l ay f:=by
 unfold ji;rw[Vf];split
 ·omega
 ·split
  ·exact St _
  ·omega
mutual
def u6{W b:Int->Nat}:∀t:T,(∀g∈jb p t,W g=b g)->cP p ay W t=cP p ay b t
 |.mk n l,h=>by
  rw[jb]at h;rw[cP,cP,xF l fun g B=>h g (mem_append_right _ B)];unfold sS
  simp_all[mem_append_left,pb,ae,mem_singleton_self,if_false]
def xF{W b:Int->Nat}:∀l:List T,(∀g∈eC p l,W g=b g)->fx p ay W l=fx p ay b l
 |[],_=>by rfl
 |t::r,h=>by
  rw[eC]at h;rw[fx,fx,u6 t fun g B=>h g (mem_append_left _ B),xF r fun g B=>h g (mem_append_right _ B)]
end
def ch(p:Src)(l:List T)(ay:Bool)(f:Int):Nat:=Wf p l ay (p.ak.length+1) f
def Iw(c:cw p=true)(hg:Good p l):∀(N i:Nat)(f:Go.Sp.Fn)(t:T),eQ p l i f t->q6 p l (i:Int)->(br p (i:Int)).length<N->Wf p l ay N (i:Int)=Wf p l ay (N+1) (i:Int)
 |0,i,f,t,h,q,z=>by omega
 |N+1,i,f,t,h,q,z=>by
  rw[Wf,Wf,dC,h.gt]
  refine u6 t fun g u=>?_
  have d:=iu c h u;have M:=ot d (q g (.inr d)).1;obtain⟨j,B,b,rfl,L⟩:=mH hg d;exact Iw c hg N j B b L (q.down d) ze4
def Dc(c:cw p=true)(hg:Good p l){i:Nat}{f:Go.Sp.Fn}{t:T}(h:eQ p l i f t)(q:q6 p l (i:Int)):ch p l ay (i:Int)=cP p ay (ch p l ay) t:=by
 have V:=(fy (p:=p) (fn:=(i:Int))).len;unfold ch;rw[Wf,dC,h.gt]
 refine u6 t fun g u=>?_
 have d:=iu c h u;have M:=ot d (q g (.inr d)).1;obtain⟨j,B,b,rfl,L⟩:=mH hg d;exact Iw c hg _ j B b L (q.down d) ze4
theorem Fc(f:Int):ch p l ay f<=1000000001:=by
 grind[Wf,Eu,ch]
def qE(p:Src)(l:List T)(k:Int):Bool:=qw p k k ||(match l[k.toNat]? with|some t=>uj t|none=>false)
def xg(p:Src)(l:List T)(f:Int):Bool:=(gO (kV p l [f])).all fun k=>!qE p l k
theorem IC(c:cw p=true)(hg:Good p l){i:Nat}{f:Go.Sp.Fn}{t:T}(h:eQ p l i f t)(x:Int):x∈kV p l [(i:Int)]↔x=(i:Int)\/x∈br p (i:Int):=by
 have u:=(bR h.gf).1
 have Q:jU p l (i:Int)=cQ p t:=by unfold jU;rw[dC,h.gt]
 rw[oq (ri c u) h,<-Q];have o:Trail p [(i:Int)]:=⟨List.nodup_cons.2 ⟨by simp,List.Pairwise.nil⟩,fun y J=>by grind⟩;have R:=IW p l (i:Int);have G:=sJ (jU p l) p.ak.length (vu p l) (p.ak.length+1) 0 [(i:Int)] o.nodup o.rng ze4 (fun j x H=>by omega);have B:=sJ (jU p l) p.ak.length (vu p l) (p.ak.length+1) 0 (jU p l (i:Int)) R.nodup R.rng ze4 (fun j x H=>by omega);constructor
 ·intro hx;refine rZ (jU p l) (fun x=>x=(i:Int)\/x∈kV p l (jU p l (i:Int))) (fun x hx y J=>?_) _ 0 _ (fun x hx=>.inl (Ay hx)) x hx
  grind[vn,kV,jU]
 ·rintro(rfl|hx)
  ·grind[vn,mem_singleton_self,kV]
  ·exact rZ (jU p l) (fun x=>x∈kV p l [(i:Int)]) (fun x hx y J=>G x hx y J) _ 0 _ (fun x hx=>G _ (vn _ _ _ _ _ (mem_singleton_self _)) x hx) x hx
theorem xh(c:cw p=true)(hg:Good p l){i:Nat}{f:Go.Sp.Fn}{t:T}(h:eQ p l i f t):xg p l (i:Int)=true↔q6 p l (i:Int):=by
 unfold xg q6;rw[fa]
 have d:∀k,(!qE p l k)=true↔(k ∉ br p k/\∀t,l[k.toNat]?=some t->uj t=false):=fun k=>by
  unfold qE qw
  grind
 constructor
 ·grind[ud,IC]
 grind[IC,ud]
def xE(c:cw p=true)(hg:Good p l){i:Nat}{f:Go.Sp.Fn}{t:T}(h:eQ p l i f t) :
  ji p l ay (i:Int)=if xg p l (i:Int)=true then(if 1000000000<ch p l ay (i:Int)then -1 else(ch p l ay (i:Int):Int))else -1:=by
 have V:=(fy (p:=p) (fn:=(i:Int))).len
 by_cases q:xg p l (i:Int)=true
 ·rw[ae q];exact(Kg c hg _ i f t h ((xh c hg h).1 q) ze4).2
 ·rw[D q];have M:=Kf (ay:=ay) c hg _ i f t h (Nat.lt_succ_self _) (fun v=>q ((xh c hg h).2 v));have v:=zL (p:=p) (l:=l) (ay:=ay) (i:Int);omega
end
def gF(p:Src)(ay:Bool)(fn:Int):Int:=if gX p fn=true then(match j3 p.ah p.ak 0 []with|some (l,_)=>ji p l ay fn|none => -1)else -1
def sL{p:Src}{ay:Bool}{fn:Int}(h:gX p fn=false):gF p ay fn = -1:=by grind[gF]
theorem rM{p:Src}{ay:Bool}{l:List T}{i:Nat}(M:gX p (i:Int)=true)(h:Good p l):gF p ay (i:Int)=ji p l ay (i:Int):=by
 unfold gF;rw[ae M,h.xz]
def K4(p:Src)(ay:Bool)(fn:Int) : -1<=gF p ay fn:=by
 unfold gF;split
 ·split
  ·exact zL _
  ·omega
 ·omega
def qG(p:Src)(l:List T)(ay:Bool)(b6:List Int)(g:Int):Int:=if g∈b6 then ji p l ay g else -1
def O3{p:Src}{l:List T}{ay:Bool}(c:cw p=true)(hg:Good p l){b6:List Int}{i:Nat}{f:Go.Sp.Fn}{t:T}(h:eQ p l i f t)(hf:oS (br p) b6 (i:Int)=true)(hn:(i:Int) ∉ br p (i:Int)) :
  cR p ay (qG p l ay b6) t=ji p l ay (i:Int):=by
 rw[Db c hg h hn]
 refine sO t fun g u=>?_
 have d:=iu c h u;unfold qG
 rcases(xN.1 hf).1 g d with M|M
 ·grind
 ·exfalso
  rcases D2.1 M with v|v
  ·grind
  ·exact hn (lT p _ _ d _ v.2)
end Go.Im
namespace Go.Xg
open Go.RowKit Go.Xw Go.MapKept
def su:List MapEntry->Int->Option Value
 |[],_=>none
 |e::r,x=>match e.key with
  |.int .i64 a=>if a=x then some e.val else su r x
  |_=>su r x
def Lr(l:List MapEntry):Prop:=∀e∈l,IsKey (.int .i64) e.key
def Ac{v:Value}(h:IsKey (.int .i64) v):∃a,v=ii a:=by
 cases v<;>simp[IsKey]at h
 subst h;exact⟨_,rfl⟩
def nd{e:MapEntry}{r:List MapEntry}{x a:Int}(h:e.key=ii a):su (e::r) x=if a=x then some e.val else su r x:=by
 rw[su,h]
def Dg:∀(l:List MapEntry)(x:Int)(i:Nat),Lr l->∃r,Instr.findNow (.int .i64) (ii x) l i=some r/\r.map Prod.snd=su l x
 |[],x,i,_=>⟨none,rfl,rfl⟩
 |e::r,x,i,h=>by
  have⟨a,z⟩:=Ac (h e (.head _));rw[nd z]
  by_cases hx:a=x
  ·subst hx;exact⟨some (i,e.val),by simp[Instr.findNow,z,Instr.sameNow],by simp⟩
  ·obtain⟨q,M,v⟩:=Dg r x (i+1) fun y J=>h y (.tail _ J)
   have R:(x==a)=false:=by simpa using Ne.symm hx
   exact⟨q,by simp[Instr.findNow,z,Instr.sameNow,R,M],by rw[D hx];exact v⟩
def Dh:∀(l:List MapEntry)(k v:Int)(c:Nat),Lr l->(∀e∈l,e.key≠ii k)->∀x,su (l++[⟨ii k,ii v,c⟩]) x=if x=k then some (ii v)else su l x
 |[],k,v,c,_,_,x=>by
  rw[nil_append,nd (a:=k) rfl]
  by_cases hx:x=k
  ·subst hx;simp
  ·rw[D (Ne.symm hx),D hx]
 |e::r,k,v,c,h,T,x=>by
  have⟨a,z⟩:=Ac (h e (.head _));rw[List.cons_append,nd z,nd z,Dh r k v c (fun y J=>h y (.tail _ J)) (fun y J=>T y (.tail _ J)) x]
  have:a≠k:=fun n=>T e (.head _) (by rw[z,n])
  by_cases hx:a=x
  ·subst hx;simp[this]
  ·simp only[D hx]
def Fj:∀(l:List MapEntry)(k v:Int)(i j:Nat)(y:Value),Lr l->Instr.findNow (.int .i64) (ii k) l i=some (some (i+j,y))->∀x,su (l.modify j fun e=>{ e with key:=ii k,val:=ii v }) x=if x=k then some (ii v)else su l x
 |[],k,v,i,j,y,_,s,x=>by cases s
 |e::r,k,v,i,j,y,h,s,x=>by
  have⟨a,z⟩:=Ac (h e (.head _))
  by_cases u:a=k
  ·subst u;simp[Instr.findNow,z,Instr.sameNow]at s
   have G:j=0:=by omega
   subst G;rw[List.modify_zero_cons,nd z,nd (a:=a) rfl]
   by_cases hx:a=x
   ·subst hx;simp
   ·rw[D hx,D hx,D (Ne.symm hx)]
  ·have A:(k==a)=false:=by simpa using Ne.symm u
   simp[Instr.findNow,z,Instr.sameNow,A]at s
   have G:∃q,j=q+1:=by
    cases j with
    |succ q=>exact⟨q,rfl⟩
    |zero =>
     exfalso
     have B:∀(l:List MapEntry)(i n:Nat)(y:Value),Instr.findNow (.int .i64) (ii k) l i=some (some (n,y))->i<=n:=by
      intro l
      induction l with
      |nil=>intro i n y h;cases h
      |cons e r O =>
       intro i n y h;unfold Instr.findNow at h;split at h
       ·simp at h;omega
       ·have:=O _ _ _ h;omega
       ·cases h
     have:=B _ _ _ _ s;omega
   obtain⟨q,rfl⟩:=G;rw[List.modify_succ_cons,nd z,nd z,Fj r k v (i+1) q y (fun y J=>h y (.tail _ J)) (by rw[show i+1+q=i+(q+1) by omega];exact s) x]
   by_cases hx:a=x
   ·subst hx;simp[u]
   ·simp only[D hx]
def IsMap(f:Int->Option Int)(o:Obj):Prop:=∃l O,o=.map l O/\Lr l.toList/\∀x,su l.toList x=(f x).map ii
def Av(f:Int->Option Int)(k v:Int):Int->Option Int:=fun x=>if x=k then some v else f x
class KL (P:Program) (t:TypeId):Prop where
 und:∃k e,P.underlying t=some (.map k e)/\P.underlying k=some (.int .i64)/\(P.info? e).bind (·.zero)=some (ii 0)
section
variable{P:Program}{w:World}{t:TypeId}[hT:KL P t]{f:Int->Option Int}{b:Nat}{o:Obj}
def Rq(C:w.heap[b]?=some o)(hf:IsMap f o)(k:Int):(Instr.lookup t (.map (some b)) (ii k) true).run P w=.ok (.tuple #[ii ((f k).getD 0),.bool (f k).isSome]) w:=by
 have⟨kt,e,M,z,A⟩:=hT.und;obtain⟨q,O,rfl,N,T⟩:=hf;have l:IsKey (.int .i64) (ii k):=rfl;have⟨r,S,R⟩:=Dg q.toList k 0 N
 have s:(zeroValue e).run P w=.ok (ii 0) w:=by
  cases n:P.info? e with
  |none=>simp[n]at A
  |some i=>simp[n]at A;simp[zeroValue,typeInfo,n,A]
 rw[T]at R
 cases B:f k with
 |none =>
  have:r=none:=by rw[B]at R;simpa using R
  subst this;simp[Instr.lookup,run_underlying M,Go.MapKept.run_getObj_map C,Go.MapKept.run_checkKey z l,Go.MapKept.run_findKey z S,Result.andThen,s]
 |some v =>
  rw[B]at R
  cases r with
  |none=>simp at R
  |some p =>
   have⟨i,y⟩:=p;simp at R;subst R;simp[Instr.lookup,run_underlying M,Go.MapKept.run_getObj_map C,Go.MapKept.run_checkKey z l,Go.MapKept.run_findKey z S,Result.andThen]
def US(z:w.heap[b]?=some o)(hf:IsMap f o)(k v:Int):∃w' T,(Instr.mapUpdate t (.map (some b)) (ii k) (ii v)).run P w=.ok () w'/\w'.heap[b]?=some T/\IsMap (Av f k v) T/\Ext (·=b) w w':=by
 have⟨kt,e,M,A,E⟩:=hT.und;obtain⟨n,O,rfl,N,W⟩:=hf;have q:IsKey (.int .i64) (ii k):=rfl
 have l:∀T,Ext (·=b) w { w with heap:=w.heap.setIfInBounds b T }:=fun T=>⟨rfl,rfl,rfl,by simp,fun i F r=>by simp[Ne.symm r]⟩
 have S:∀x,(Av f k v x).map ii=if x=k then some (ii v)else su n.toList x:=fun x=>by
  unfold Av
  by_cases hx:x=k
  ·simp[hx]
  ·rw[D hx,D hx,W]
 rcases findNow_spec q n.toList 0 N with⟨C,s⟩|⟨j,B,C,s,V⟩
 ·refine⟨_,.map (n.push ⟨ii k,ii v,O⟩) (O+1),by simp[Instr.mapUpdate,run_underlying M,Go.MapKept.run_getObj_map z,Go.MapKept.run_checkKey A q,Go.MapKept.run_findKey A C,Go.MapKept.run_setObj_map _ z,Result.andThen],(heap_set z).1,⟨_,_,rfl,?_,fun x=>?_⟩,l _⟩
  ·intro y J;simp only[Array.toList_push,mem_append,mem_singleton]at J
   rcases J with J|rfl
   ·exact N y J
   ·rfl
  ·rw[Array.toList_push,Dh _ _ _ _ N s,S]
 ·have G:n[j]?=some B:=by simpa using s
  refine⟨_,.map (n.modify j fun u=>{ u with key:=ii k,val:=ii v }) O,by simp[Instr.mapUpdate,run_underlying M,Go.MapKept.run_getObj_map z,Go.MapKept.run_checkKey A q,Go.MapKept.run_findKey A C,G,V,run_keyThatStays q,Go.MapKept.run_setObj_map _ z,Result.andThen],(heap_set z).1,⟨_,_,rfl,?_,fun x=>?_⟩,l _⟩
  ·exact isKey_modify N _ _ fun u R=>by rw[G]at R;cases R;exact V.symm
  ·rw[Array.toList_modify,Fj _ _ _ _ _ _ N C,S]
end
section
variable{P:Program}{m:Nat}{Q:dU}{fr:am}{Γ:ap}{ops:Array Oper}{rest:List Oper}{d:Option Tmp}{op:Op}{ty:TypeId}{pos:String}{af:Array Edge}
def YG.look{x y:Operand}{t:TypeId}[hT:KL P t](i:Nat){b:Nat}{f:Int->Option Int}{k:Int}(hx:a8 fr x=.v (.map (some b)))(J:a8 fr y=y4 k)(G:Γ[i]?=some (.blk b (IsMap f))) :
  YG P (.lookup t x y true) fr Γ (.tup [y4 ((f k).getD 0),.v (.bool (f k).isSome)]):=fun B K q w l N S=>by
 have⟨M,⟨o,z,A⟩,_⟩:=N.ob i _ G;have n:bA K q [ii ((f k).getD 0),.bool (f k).isSome] [y4 ((f k).getD 0),.v (.bool (f k).isSome)]:=.cons (.v _) (.cons (.v _) .nil);exact⟨.tuple #[ii ((f k).getD 0),.bool (f k).isSome],fun d ty pos af=>by simp[execOp,S.eT hx,S.eT J,Rq (t:=t) z A k],.tup [ii ((f k).getD 0),.bool (f k).isSome] _ rfl n.2⟩
def YG.min{x y:Operand}{u n:TypeId}{a b:Int}(hx:a8 fr x=y4 a)(J:a8 fr y=y4 b):YG P (.call ⟨.builtin .min,#[x,y],#[u,n]⟩) fr Γ (y4 (if b<a then b else a)) :=
 YG.v2 hx J fun l w h k=>fun d ty pos af=>by simp[execOp,resolve,invoke,builtin,Builtin.min_,Builtin.min2,h,k]
theorem YG.max{x y:Operand}{u n:TypeId}{a b:Int}(hx:a8 fr x=y4 a)(J:a8 fr y=y4 b):YG P (.call ⟨.builtin .max,#[x,y],#[u,n]⟩) fr Γ (y4 (if a<b then b else a)) :=
 YG.v2 hx J fun l w h k=>fun d ty pos af=>by simp[execOp,resolve,invoke,builtin,Builtin.max_,Builtin.max2,h,k]
def GL.mkMap{t:TypeId}(h:∀b,GL P m ops Q rest (bN fr d (.v (.map (some b)))) (Γ++[.blk b (IsMap fun _=>none)])):GL P m ops Q (⟨d,.makeMap t none,ty,pos,af,none⟩::rest) fr Γ:=fun B K n w l G N S=>by
 have e:(Instr.makeMap t none).run P w=.ok (.map (some w.heap.size)) (w.alloc (.map #[] 0)):=rfl;have T:=ur.of w (.map #[] 0);have O:=N.same T.ext;have V:dO n (e9 n Γ.length (.fix w.heap.size)):=gK (by rw[N.out _ (aQ _)];trivial)
 have C:=O.KS (x:=.fix w.heap.size) (y:=.blk w.heap.size (IsMap fun _=>none)) (fun b z=>by
  cases z;refine⟨fun i u=>?_,N.ext.size,?_⟩
  ·have:=N.lt u;omega
  ·have:=N.tab.pow.lt;have:=N.tab.spc.lt;exact⟨by omega,by omega⟩) ⟨bH,⟨_,T.blk,⟨#[],0,rfl,(fun e R=>by simp at R),fun x=>rfl⟩⟩,fun o=>by
   cases k:K w.heap.size o with
   |none=>rfl
   |some g=>have:=N.fz.lt k;omega⟩ V
 exact WL.val (v:=.map (some w.heap.size)) (w':=w.alloc (.map #[] 0)) (by simp[execOp,e]) (h _ B K _ _ _ G C ((S.mono (cY.refl K) V).put d (.v _)))
def GL.XL{x y z:Operand}{t:TypeId}[hT:KL P t](i:Nat){b:Nat}{f:Int->Option Int}{k v:Int}(hx:a8 fr x=.v (.map (some b)))(R:a8 fr y=y4 k)(S:a8 fr z=y4 v)(G:Γ[i]?=some (.blk b (IsMap f)))
  (h:GL P m ops Q rest (bN fr d (.v undef)) (oset Γ i (.blk b (IsMap (Av f k v))))):GL P m ops Q (⟨d,.mapUpdate t x y z,ty,pos,af,none⟩::rest) fr Γ:=fun B K A w l O c s=>by
 have⟨H,⟨o,M,N⟩,J⟩:=c.ob i _ G;have⟨w',T,V,W,r3,u⟩:=US (P:=P) (t:=t) M N k v
 have n:(A i).has b:=by rw[H];exact rfl
 have C:Inv B K A (oset Γ i (.blk b (IsMap (Av f k v)))) w':=by
  refine⟨c.ext.step u (fun j e=>by subst e;exact(c.own i _ n).symm),c.kle,c.ble,c.loc,c.fz.ext u (fun L o g r F=>by subst F;rw[J]at r;cases r),fun j y e=>?_,fun j e=>c.out j (by simpa[bS]using e),c.dis,c.own,c.kn,c.tab.step u (fun j e=>⟨i,by subst e;exact n⟩) (cY.refl K) (fun i b2 h=>.inl ⟨i,h⟩)⟩;rw[bS,ik]at e;split at e
  ·rename_i q;split at e
   ·cases e;subst q
    exact⟨H,⟨T,W,r3⟩,J⟩
   ·cases e
  ·rename_i q;exact(c.ob j y e).ext u (fun L E F=>by subst F;exact q (c.dis i j _ n E)) (cY.refl K) (dO.refl A) rfl (fun _ _ _ h=>h)
 exact WL.skp (w':=w') (by simp[execOp,s.eT hx,s.eT R,s.eT S,V]) (h B K A w' _ O C (s.put d (.v _)))
end
end Go.Xg
namespace Go.Im
open Go.Xp Go.Sp
def U0(p:Src)(ay:Bool)(W:Int->Nat)(n:Nd)(ks:List Nat):sS p ay W n ks =
  if(n.ab==4&&n.s==cB)=true then eo ay n else if(n.ab==9)=true then ek (eo ay n+ks.headD 0+ks.tail.foldl max 0)
  else if(n.ab==4&&decide ((0:Int)<=bF p n.s))=true then ek (ks.foldl (fun m k=>ek (m+k)) (eo ay n)+W (bF p n.s))else ks.foldl (fun m k=>ek (m+k)) (eo ay n):=by
 unfold sS;simp
def MO{p:Src}{ay:Bool}{W:Int->Nat}:∀{l:List T}{k:Nat}{t:T},l[k]?=some t->(fx p ay W l)[k]?=some (cP p ay W t)
 |[],k,t,h=>by simp at h
 |a::l,0,t,h=>by grind[fx,cP]
 |a::l,k+1,t,h=>by rw[fx];exact MO (l:=l) h
def Fv:∀(l:List Nat)(v:Nat),v<=1000000001->(∀x∈l,x<=1000000001)->l.foldl max v<=1000000001
 |[],v,h,_=>h
 |y::l,v,h,k=>by rw[foldl_cons];exact Fv l _ (by have:=k y ze6;omega) fun x hx=>k x (by simp[hx])
def MP{p:Src}{ay:Bool}{W:Int->Nat}:∀(l:List T),∀x∈fx p ay W l,x<=1000000001
 |[],x,h=>by grind[fx]
 |t::l,x,h=>by
  rw[fx]at h
  rcases ln h with rfl|h
  ·exact Eu t
  ·exact MP l x h
def CZ(p:Src)(l:List T)(ay:Bool)(f:Int->Option Int):Prop:=∀g v,f g=some v->v=((ch p l ay g:Nat):Int)
def JY{p:Src}:∀{l:List T}{ls:List ai}{k:Nat}{t:T},oE p l ls->l[k]?=some t->∃n,qF p t n
 |[],ls,k,t,h,m=>by simp at m
 |a::l,ls,0,t,h,m=>by grind[oE]
 |a::l,ls,k+1,t,h,m=>by rw[oE]at h;exact JY (l:=l) h.2 m
def CR:∀{l:List T}{k:Nat}{t:T},eL l->l[k]?=some t->fR t
 |[],k,t,h,m=>by simp at m
 |a::l,0,t,h,m=>by grind[eL]
 |a::l,k+1,t,h,m=>by rw[eL]at h;exact CR (l:=l) h.2 m
def IU{p:Src}:∀{l:List T}{k:Nat}{t:T},l[k]?=some t->∀g∈jb p t,g∈eC p l
 |[],k,t,m=>by simp at m
 |a::l,0,t,m=>fun g B=>by grind[eC]
 |a::l,k+1,t,m=>fun g B=>by rw[eC];exact mem_append_right _ (IU (l:=l) m g B)
end Go.Im
namespace Go.Xg
open Go.RowKit Go.Xw Go.Proofs Tryz Go.Im
open GV (U)
open Go.Xp (Nd T bc aR db)
open Go.Sp (Src)
attribute [local irreducible] GW GL GO YG GC GA bh bn
instance:KL prog 167:=⟨3,3,aL,aL,aL⟩
def zK(n:Nat):GF prog 289 [y4 (n:Nat)] [] (y4 ((ek n:Nat):Int)) []:=by
 have e:((ek n:Nat):Int)=if(1000000001:Int)<(n:Int)then 1000000001 else(n:Int):=by grind[ek]
 rw[e];refine aj func289 ntmps289 ?_;refine GL.q (YG.min rfl rfl) ?_;refine zaf ?_;refine cb ?_
 grind[cJ]
def zh(p:Src)(F:FuncId)(E:am)(b:Nat)(f:Int->Option Int):ap :=
 [.box 169 [strs p.ax,.sl 2 (p.aq.map bb),.sl 3 (p.ak.map aH),.sl 5 (p.ah.map aP),.fn (.func F) [] E,.v (.map (some b))],.blk b (IsMap f)]
def VR(p:Src)(l:List T)(ay:Bool)(F:FuncId)(E:am)(g:Int):Prop :=
 ∀(b:Nat)(f:Int->Option Int),CZ p l ay f->GC prog 166 [.loc 0 0,y4 g] (zh p F E b f) fun x J=>x=y4 ((ch p l ay g:Nat):Int)/\∃B,J=zh p F E b B/\CZ p l ay B
def Ub(p:Src)(c:List T)(ay:Bool)(F:FuncId)[hFun:eI prog F](d:am)(WO:d=[]\/∃cs,d=[.box cs 0])(hp:p.ah.length<=1048576)(xq:∀n∈p.ah,n.au.length<=1048576)(FJ:p.ak.length<=1048576)
  (hO:∀(a:Nat)n,p.ah[a]?=some n->GF prog F (y4 (a:Nat)::d) [] (y4 ((eo ay n:Nat):Int)) []):∀(N:Nat)(t:T),bc t<=N->∀(a:Nat)(ls:List ai),dW p.ah a t->fR t->eY t=true->qF p t ls->(∀g∈jb p t,VR p c ay F d g) ->
  ∀(b:Nat)(f:Int->Option Int),CZ p c ay f->GC prog 219 [.loc 0 0,y4 (a:Nat)] (zh p F d b f) fun x Δ=>x=y4 ((cP p ay (ch p c ay) t:Nat):Int)/\∃G,Δ=zh p F d b G/\CZ p c ay G:=by
 intro N
 induction N with
 |zero=>intro t h;exact zel
 |succ N ih =>
 intro t hN a ls FT wf hk ho SX b f C
 cases t with
 |mk n l =>
 rw[Go.Xp.bc]at hN
 rcases WO with rfl|⟨cs,rfl⟩
 let d:am:=[]
 rotate_left
 let d:am:=[.box cs 0]
 all_goals
  have R:=FT;have wf0:=wf;rw[dW]at FT;have⟨hn,hkd,DD⟩:=FT;rw[eY,aU]at hk;rw[fR]at wf;rw[qF]at ho;rw[jb]at SX
  have S1:∀x∈l,eY x=true:=by have h:=hk.2;rw[oy]at h;exact fa.1 h
  have W0:n.ab=9->l.length=2\/l.length=3:=fun h=>by
   have:=hk.1;simp[c7,h]at this;omega
  have j:n.au.length=l.length:=by rw[hkd,db]
  have NT:=xq n (bB hn);have hr:=b8 hn;have O:=hO a n hn;have H:=wM p a n hn;have M:=tM p n.s X;have e1:bM (fun x:Go.Sp.Fn=>x.name==n.s) p.ak=bF p n.s:=rfl;rw[e1]at M;have J:=zS p n.s;have Lm:=Bh (ay:=ay) n
  have S:=fun{k:Nat}{t:T}(h:l[k]?=some t)=>MO (p:=p) (ay:=ay) (W:=ch p c ay) h
  have xr:=IK p ay (ch p c ay) l;have aa0:=MP (p:=p) (ay:=ay) (W:=ch p c ay) l
  have pf:sP n=(n.ab==4&&n.s==cB):=by
   rw[<-yJ R];show((n.ab==4&&n.s==cB)&&_)=_
   cases h:(n.ab==4&&n.s==cB)with
   |false=>rfl
   |true =>
    simp only[aU,beq_iff_eq]at h;obtain⟨k,e1,-,-,-,-,-⟩:=CG wf0 ho.1 h.1 h.2;have e1:l=[k]:=e1;subst e1;rfl
  have aa4:b9 (.mk n l)=(n.ab==4&&n.s==cB):=by rw[yJ R,pf]
  rw[pf]at H;rw[aa4]at ho;rw[cP,U0]
  have e:(n.ab==4&&n.s==cB)=false->∀{k:Nat}{u:T},l[k]?=some u->∀(b:Nat)(f:Int->Option Int),CZ p c ay f->GC prog 219 [.loc 0 0,y4 ((a+1+aR (l.take k):Nat))] (zh p F d b f) fun x Δ=>x=y4 ((cP p ay (ch p c ay) u:Nat):Int)/\∃G,Δ=zh p F d b G/\CZ p c ay G:=fun h0 k u w b f C=>by
   have⟨ls',sE⟩:=JY (ho.2 h0) w;have ab2:=gZ w;exact ih u X _ ls' (dQ.ix l (a+1) k u DD w) (CR wf.2.2 w) (S1 u (bB w)) sE (fun g hg=>SX g (mem_append_right _ (IU w g hg))) b f C
  clear ih;obtain⟨o,hoo⟩:∃o:Nat,eo ay n=o:=⟨_,rfl⟩;rw[hoo]at O Lm |-
  have L:∀{k:Nat}{u:T},l[k]?=some u->(n.au.map fun i=>[y4 i])[k]?=some [y4 ((a+1+aR (l.take k):Nat):Int)]:=fun{k u}w=>by
   have Jp:=oz (n:=a+1) w;rw[<-hkd]at Jp;exact ep Jp
  unfold aP at hr;unfold zh at e |-
  cases h0:(n.ab==4&&n.s==cB)with
  |true =>
   rw[h0]at H;rw[ae rfl];refine aj func219 ntmps219 ?_;refine ll [] O ?_;refine Z ?_;refine I [] H ?_;refine iY ?_;exact kD (n:=2) rfl c8 rfl (aQ _) rfl rfl ⟨rfl,f,rfl,C⟩
  |false =>
  have e:=fun{k:Nat}{u:T}(w:l[k]?=some u)=>e h0 w
  rw[h0]at H;rw[D aN]
  cases h9:(n.ab==9)with
  |true =>
   have hl9:=W0 (by simpa using h9);rw[ae rfl];obtain⟨u0,Xn⟩:∃u,l[0]?=some u:=⟨l[0]'X,cq _⟩;have FP:=L Xn;have V:=e Xn
   have a0:(fx p ay (ch p c ay) l).headD 0=cP p ay (ch p c ay) u0:=by
    have:=S Xn
    cases hc:fx p ay (ch p c ay) l with
    |nil=>rw[hc]at this;cases this
    |cons x r=>rw[hc]at this;cases this;rfl
   have hp0:=Eu (p:=p) (ay:=ay) (W:=ch p c ay) u0;rw[a0]
   have FN:((n.au.map fun i=>[y4 i]).drop 1).length=l.length-1:=by rw[mr,bC,j]
   have htl:(fx p ay (ch p c ay) l).tail=(fx p ay (ch p c ay) l).drop 1:=by rw[List.drop_one]
   rw[htl]
   have aaT:∀k,(((fx p ay (ch p c ay) l).drop 1).take k).foldl max 0<=1000000001:=fun k=>Fv _ 0 X fun x hx=>aa0 x (List.mem_of_mem_drop (List.mem_of_mem_take hx))
   have abC:Nat.blt 1 (n.au.map fun i=>[y4 i]).length=true:=by rw[bC,j];simp only[Nat.blt_eq];omega
   generalize cP p ay (ch p c ay) u0=y0 at *;refine aj func219 ntmps219 ?_;refine ll [] O ?_;refine Z ?_;refine I [] H ?_;refine GW.range ((n.au.map fun i=>[y4 i]).drop 1).length (fun k fr Γ=>∃f,fr=[.loc 0 0,y4 (a:Nat),U,U,U,.loc 2 0,y4 (o:Nat),.v (ii (((((fx p ay (ch p c ay) l).drop 1).take k).foldl max 0:Nat):Int)),U,U,U,U,U,U,U,U,U,U,U,U,U,U,U,U,U,U,U,U,U,U,U,U,U,U,U,U,U,U,U,.sl 1 ((n.au.map fun i=>[y4 i]).drop 1),y4 (((n.au.map fun i=>[GV.v (ii i)]).drop 1).length:Int),y4 (k:Nat),U,U,U,U,U,U,U,U,U,U,U,U,U,U,U,U,U,U,U,U,U,U,U,U,U,U,U,U,U,U,U,U,U,U,U,U,U,U,U,U,U,U,U,U,U,U,U,U,U,U,U,U,U,U,U]/\Γ=[.box 169 [strs p.ax,.sl 2 (p.aq.map bb),.sl 3 (p.ak.map aH),.sl 5 (p.ah.map aP),.fn (.func F) [] d,.v (.map (some b))],.blk b (IsMap f),.box 82 [y4 n.ab,y4 n.at_,y4 n.n,.v (sv n.s),ints n.au]]/\CZ p c ay f) ?_ X ?_ ?_ ?_
   ·exact⟨_,_,Wk.aW az,f,rfl,rfl,C⟩
   ·rintro k _ _⟨f,rfl,rfl,_⟩;exact dN
   ·rintro k _ _ J⟨f,rfl,rfl,C⟩;rw[FN]at J;obtain⟨u,w⟩:∃u,l[k+1]?=some u:=⟨l[k+1]'X,cq _⟩;have hru:=L w
    have hrd:((n.au.map fun i=>[y4 i]).drop 1)[k]?=some [y4 ((a+1+aR (l.take (k+1)):Nat):Int)]:=by rw[List.getElem?_drop,Nat.add_comm 1 k];exact hru
    have WS:=e w b f C
    have AW:(((fx p ay (ch p c ay) l).drop 1).take (k+1)).foldl max 0=max ((((fx p ay (ch p c ay) l).drop 1).take k).foldl max 0) (cP p ay (ch p c ay) u):=by
     rw[dc,List.getElem?_drop,Nat.add_comm 1 k,S w,foldl_append];rfl
    rw[AW];generalize(((fx p ay (ch p c ay) l).drop 1).take k).foldl max 0=s at *;generalize cP p ay (ch p c ay) u=y at *
    have hmx:((max s y:Nat):Int)=if(s:Int)<(y:Int)then(y:Int)else(s:Int):=by split<;>omega
    rw[hmx];refine Z ?_;refine bx [0,1] WS ?_;rintro _ _⟨rfl,G,rfl,E⟩;refine zao ?_;refine GL.q (YG.max rfl rfl) ?_;refine zaf ?_;exact⟨rfl,rfl,_,_,Wk.aW az,G,rfl,rfl,E⟩
   ·rintro _ _⟨f,rfl,rfl,C⟩;have hm:=aaT ((n.au.map fun i=>[y4 i]).drop 1).length;have AX:((fx p ay (ch p c ay) l).drop 1).take ((n.au.map fun i=>[y4 i]).drop 1).length=(fx p ay (ch p c ay) l).drop 1:=kK (by rw[mr,xr,FN];exact aQ _);rw[AX]at hm |-;generalize((fx p ay (ch p c ay) l).drop 1).foldl max 0=s at *;have B:=zK (o+y0+s)
    have A:(((o+y0+s:Nat):Int))=(o:Int)+(y0:Int)+(s:Int):=by omega
    rw[A]at B;generalize ek (o+y0+s)=r at *;have V:=V b f C;refine zeA ?_;refine bx [0,1] V ?_;rintro _ _⟨rfl,G,rfl,E⟩;exact zcF
  |false =>
   rw[D aN]
   have Q:∀k,((fx p ay (ch p c ay) l).take k).foldl (fun m k=>ek (m+k)) o<=1000000001:=fun k=>y3 _ o X
   refine aj func219 ntmps219 ?_;refine ll [] O ?_;refine Z ?_;refine I [] H ?_;refine GW.range (n.au.map fun i=>[y4 i]).length (fun k fr Γ=>∃f,fr=[.loc 0 0,y4 (a:Nat),U,U,U,.loc 2 0,.v (ii ((((fx p ay (ch p c ay) l).take k).foldl (fun m k=>ek (m+k)) o:Nat):Int)),U,U,U,U,U,U,U,U,U,U,U,U,U,U,U,U,U,U,U,U,U,U,U,U,U,U,U,U,U,U,U,U,U,U,U,U,U,U,U,U,U,U,U,U,U,U,U,U,U,U,U,U,U,U,U,U,ints n.au,y4 ((n.au.map fun i=>[GV.v (ii i)]).length:Int),y4 (k:Nat),U,U,U,U,U,U,U,U,U,U,U,U,U,U,U,U,U,U,U,U,U,U,U,U,U,U,U,U,U,U,U]/\Γ=[.box 169 [strs p.ax,.sl 2 (p.aq.map bb),.sl 3 (p.ak.map aH),.sl 5 (p.ah.map aP),.fn (.func F) [] d,.v (.map (some b))],.blk b (IsMap f),.box 82 [y4 n.ab,y4 n.at_,y4 n.n,.v (sv n.s),ints n.au]]/\CZ p c ay f) ?_ zfd ?_ ?_ ?_
   ·exact⟨_,_,Wk.aW az,f,rfl,rfl,C⟩
   ·rintro k _ _⟨f,rfl,rfl,_⟩;exact dN
   ·rintro k _ _ J⟨f,rfl,rfl,C⟩;rw[bC,j]at J;obtain⟨u,w⟩:∃u,l[k]?=some u:=⟨l[k],by simp[J]⟩;have hru:=L w;have WS:=e w b f C
    have AW:((fx p ay (ch p c ay) l).take (k+1)).foldl (fun m k=>ek (m+k)) o=ek (((fx p ay (ch p c ay) l).take k).foldl (fun m k=>ek (m+k)) o+cP p ay (ch p c ay) u):=by
     rw[dc,S w,foldl_append];rfl
    have hs:=Q k;have hy:=Eu (p:=p) (ay:=ay) (W:=ch p c ay) u;rw[AW];generalize((fx p ay (ch p c ay) l).take k).foldl (fun m k=>ek (m+k)) o=s at *;generalize cP p ay (ch p c ay) u=y at *;have B:=zK (s+y)
    have A:(((s+y:Nat):Int))=(s:Int)+(y:Int):=by omega
    rw[A]at B;generalize ek (s+y)=r at *;refine Z ?_;refine bx [0,1] WS ?_;rintro _ _⟨rfl,G,rfl,E⟩;refine zao ?_;refine I [] B ?_;exact⟨rfl,rfl,_,_,Wk.aW az,G,rfl,rfl,E⟩
   ·rintro _ _⟨f,rfl,rfl,C⟩;have hs:=Q l.length;rw[bC,j];have AX:(fx p ay (ch p c ay) l).take l.length=fx p ay (ch p c ay) l:=kK (by rw[xr];exact aQ _);rw[AX]at hs |-;generalize(fx p ay (ch p c ay) l).foldl (fun m k=>ek (m+k)) o=s at *;refine bl ?_
    cases g1:(n.ab==4)with
    |false =>
     simp only[Bool.false_and,Bool.false_eq_true,if_false];exact zbj
    |true =>
     simp only[Bool.true_and]
     cases g6:decide ((0:Int)<=bF p n.s)with
     |false =>
      rw[D aN];exact zbj
     |true =>
      rw[ae rfl];have hcf:=SX (bF p n.s) (mem_append_left _ (by unfold pb;rw[ae ⟨by simpa using g1,oe g6⟩];exact mem_singleton_self _)) b f C;have hwl:=Fc (p:=p) (l:=c) (ay:=ay) (bF p n.s);generalize bF p n.s=z at *;generalize ch p c ay z=y at *;have B:=zK (s+y)
      have A:(((s+y:Nat):Int))=(s:Int)+(y:Int):=by omega
      rw[A]at B;generalize ek (s+y)=r at *;unfold zh at hcf;refine Z ?_;refine aS (aK 0 6 (.a 6 (.q 7 .nil))) ?_;refine av ?_;refine aJ [] M ?_;refine Z ?_;refine bx [0,1] hcf ?_;rintro _ _⟨rfl,G,rfl,E⟩;exact zcF
def Y2(p:Src)(k:List T)(ay:Bool)(F:FuncId)[L:eI prog F](c:am)(e:c=[]\/∃cs,c=[.box cs 0])(hp:p.ah.length<=1048576)(H:∀n∈p.ah,n.au.length<=1048576)(E:p.ak.length<=1048576)(r:cw p=true)(hg:Go.Im.Good p k)
  (M:∀(a:Nat)n,p.ah[a]?=some n->GF prog F (y4 (a:Nat)::c) [] (y4 ((eo ay n:Nat):Int)) []):∀(N i:Nat)(fn:Go.Sp.Fn)(t:T),eQ p k i fn t->q6 p k (i:Int)->(br p (i:Int)).length<N->VR p k ay F c (i:Int):=by
 intro N
 induction N with
 |zero=>simp
 |succ N Q =>
 intro i fn t h J hN b f A
 have o:∀g∈jb p t,VR p k ay F c g:=fun g G=>by
  have d:=iu r h G;have mo:=ot d (J g (.inr d)).1;obtain⟨j,z,t',rfl,R⟩:=mH hg d;exact Q j z t' R (J.down d) X
 have hw:=Dc (ay:=ay) r hg h J
 have O:(p.ak.map aH)[i]?=some (aH fn):=by rw[bO,h.gf];rfl
 obtain⟨w,m⟩:∃w:Nat,fn.body=(w:Int):=⟨fn.body.toNat,by have:=h.body;omega⟩;have s:=h.st;rw[m,dC]at s;have l:=Ub p k ay F c e hp H E M _ t (aQ _) w fn.params s h.wf (vJ hg h.gt) h.ok o b f A;rw[<-hw]at l;unfold aH at O;rw[m]at O
 have C:=fun v=>A (i:Int) v
 unfold zh at l |-;clear o Q M
 rcases e with rfl|⟨cs,rfl⟩
 all_goals
  cases u:f (i:Int)with
  |some v =>
   have hv:=C v u
   have S:(f (i:Int)).isSome=true:=by rw[u];rfl
   have V:(f (i:Int)).getD 0=((ch p k ay (i:Int):Nat):Int):=by rw[u,<-hv];rfl
   refine aj func166 ntmps166 ?_;refine GL.q (YG.look 1 rfl rfl rfl) ?_;refine zaf ?_;refine iY ?_;exact kD (n:=2) rfl c8 rfl (aQ _) rfl rfl ⟨by rw[V];rfl,f,rfl,A⟩
  |none =>
   have S:(f (i:Int)).isSome=false:=by rw[u];rfl
   refine aj func166 ntmps166 ?_;refine GL.q (YG.look 1 rfl rfl rfl) ?_;refine zaf ?_;refine bx [0,1] l ?_;rintro _ _⟨rfl,z,rfl,B⟩;refine zao ?_;refine GL.XL 1 rfl rfl rfl rfl ?_;refine zaJ ?_;refine iY ?_;refine kD (n:=2) rfl c8 rfl (aQ _) rfl rfl ⟨rfl,Av z (i:Int) ((ch p k ay (i:Int):Nat):Int),rfl,fun g v hg=>?_⟩;unfold Av at hg;split at hg
   ·rename_i W;cases hg;rw[W]
   ·exact B g v hg
end Go.Xg
namespace Go.Im
open Go.Xp Go.Sp
def jH(s:Bool)(_:Nat)(t:T)(_:List ai):Bool:=s ||(t.n.ab==10)
mutual
def SD:∀(t:T)(a:Nat)(s:Bool)(ls:List ai),(fq jH t a s ls).1=(s ||uj t)
 |.mk n l,a,s,ls=>by
  rw[fq,uj];simp only;rw[Nn l];unfold jH;rw[Bool.or_assoc];rfl
def Nn:∀(l:List T)(a:Nat)(s:Bool)(ls:List ai),(dk jH l a s ls).1=(s ||p9 l)
 |[],a,s,ls=>by rw[dk,p9,Bool.or_false]
 |t::r,a,s,ls=>by
  rw[dk,p9,Nn r,SD t,Bool.or_assoc]
end
def RB(n:Nd):eo false n=1:=rfl
def E4{p:Src}{ay:Bool}{l:List T}{i:Nat}{f:Go.Sp.Fn}{t:T}(c:cw p=true)(hi:i<p.ak.length)(h:eQ p l i f t) :
  gF p ay (i:Int)=if xg p l (i:Int)=true then(if 1000000000<ch p l ay (i:Int)then -1 else(ch p l ay (i:Int):Int))else -1:=by
 rw[rM (ri c hi) h.good,xE c h.good h]
def dR(p:Src):Int:=gF p false (bF p eU)
def qH(p:Src):Int:=if(dR p == -1)=true then -1 else gF p true (bF p eU)
end Go.Im
namespace Go.Xg
open Go.RowKit Go.Xw Go.Proofs Tryz Go.Im
open Go.Xp (Nd T)
open Go.Sp (Src)
attribute [local irreducible] GW GL GO YG GC GA bh bn
def VE(p:Src)(a:Nat)(n:Nd)(l:List T)(ls:List ai)(s:Bool)(A:TypeId)(O:Option Addr)(L:Nat)(hn:p.ah[a]?=some n) :
  GF prog 218 [y4 (a:Nat),.v (.slice O ls.length L),.loc 0 0,.box (aD p) 0] [.box A [.v (.bool s)],.vech 9 1 (bX ls) (.slice O ls.length L)] (.tup [])
   [.box A [.v (.bool (jH s a (.mk n l) ls))],.vech 9 1 (bX ls) (.slice O ls.length L)]:=by
 have r:=b8 hn;have e:jH s a (.mk n l) ls=(s ||(n.ab==10)):=rfl;rw[e];unfold aP at r;cases s
 all_goals
  refine aj func218 ntmps218 ?_;exact ia
open GV (U)
open Go.Xp (bc aR db)
def Hb(p:Src):GV:=.fn (.func 218) [] [.loc 0 0,.box (aD p) 0]
def TF(p:Src):GV:=.fn (.func 115) [] [.loc 1 0,.loc 2 0,.box (aD p) 0,.loc 3 0]
def DX(p:Src)(A H j R:TypeId)(s:Bool)(ls:List ai)(O:Option Addr)(L:Nat):ap :=
 [.box A [.v (.bool s)],.box H [Hb p],.box j [.v (.slice O ls.length L)],.box R [TF p],.vech 9 1 (bX ls) (.slice O ls.length L)]
section
variable(p:Src)
def Sd(B E F G:TypeId)(hp:p.ah.length<=1048576)(L:∀n∈p.ah,n.au.length<=1099511627776):∀(N:Nat)(t:T),bc t<=N->∀(a:Nat)(s:Bool)(ls:List ai)(j:Option Addr)(m:Nat),dW p.ah a t->ls.length+bc t<=8388608 ->
  GC prog 115 [y4 (a:Nat),.loc 1 0,.loc 2 0,.box (aD p) 0,.loc 3 0] (DX p B E F G s ls j m) fun g Δ=>g=.tup []/\∃b c,Δ=DX p B E F G (fq jH t a s ls).1 (fq jH t a s ls).2 b c:=by
 intro N
 induction N with
 |zero=>intro t h;exact zel
 |succ N ih =>
 intro t hN a s ls j m q M
 cases t with
 |mk n l =>
 rw[Go.Xp.bc]at hN M;have V:=q;rw[dW]at q;have⟨O,S,Q⟩:=q;rw[fq];have hr:=b8 O;have NT:=L n (bB O);have ht:=VE p a n l ls s B j m O;generalize FQ:jH s a (.mk n l) ls=o at *
 have d:n.au.length=l.length:=by rw[S,db]
 unfold aP at hr;unfold DX Hb TF;refine aj func115 ntmps115 ?_;refine GL.oO [0,4] ht rfl rfl rfl (by repeat (first|exact trivial|refine⟨rfl,?_⟩)) ?_;rintro _ _⟨rfl,rfl⟩;refine zao ?_;refine GW.range (n.au.map fun i=>[y4 i]).length (fun k fr Γ=>∃b c,fr=[y4 (a:Nat),.loc 1 0,.loc 2 0,.box (aD p) 0,.loc 3 0,U,U,U,U,U,U,U,U,U,U,U,U,ints n.au,y4 ((n.au.map fun i=>[GV.v (ii i)]).length:Int),y4 (k:Nat),U,U,U,U,U,U,U,U,U,U,U,U,U,U,U,U,U,U,U,U,U,U,U]/\Γ=DX p B E F G (dk jH (l.take k) (a+1) o ls).1 (dk jH (l.take k) (a+1) o ls).2 b c) ?_ zfd ?_ ?_ ?_
 ·exact zeu
 ·rintro k _ _⟨j,m,rfl,rfl⟩;exact dN
 ·rintro k _ _ z⟨j,m,rfl,rfl⟩;rw[bC,d]at z;obtain⟨u,C⟩:∃u,l[k]?=some u:=⟨l[k],by simp[z]⟩;have r:=oz (n:=a+1) C;rw[<-S]at r;have Ju:=ep r;have pf:=gZ C;have R:dW p.ah (a+1+aR (l.take k)) u:=dQ.ix l (a+1) k u Q C
  have w:(dk jH (l.take k) (a+1) o ls).2.length<=ls.length+aR (l.take k):=by
   exact zcZ
  rw[wG _ C];generalize(dk jH (l.take k) (a+1) o ls).1=W at *;generalize(dk jH (l.take k) (a+1) o ls).2=e at *;have A:=ih u X (a+1+aR (l.take k)) W e j m R X;unfold DX Hb TF at A |-;refine Z ?_;refine GL.oO [0,1,2,3,4] A rfl rfl rfl (by repeat (first|exact trivial|refine⟨rfl,?_⟩)) ?_;rintro _ _⟨rfl,b,c,rfl⟩;exact zcu
 ·rintro _ _⟨j,m,rfl,rfl⟩;rw[bC,d,dx]
  have w:(dk jH l (a+1) o ls).2.length<=ls.length+aR l:=by
   exact zev
  generalize(dk jH l (a+1) o ls).1=W at *;generalize(dk jH l (a+1) o ls).2=e at *;have Dy:(bX e).length=e.length:=rE e;unfold DX Hb TF;refine bl ?_
  cases A:(n.ab==13)with
  |false =>
   rw[D zfI];exact zc4
  |true =>
   rw[ae zfI];refine zbm ?_;refine OA rfl rfl (GL.mx 4 (news:=[[.v (sv n.s)]]) rfl rfl rfl aO rfl rfl (by refine⟨?_,?_⟩;(· show _+1<=_;omega);(· show(_+1)*_<=_;omega)) ?_);intro H J;refine zem ?_;exact⟨rfl,H,J,by simp[bX]⟩
def Um(B:TypeId)(i:Nat)(f:Go.Sp.Fn)(t:T)(s:Bool)(G:p.ah.length<=1048576)(C:∀n∈p.ah,n.au.length<=1099511627776)
  (hf:p.ak[i]?=some f)(w:f.params.length<=1048576)(H:0<=f.body)(E:dW p.ah f.body.toNat t)(z:bc t<=1048576) :
  GF prog 53 [.agg (aD p),y4 (i:Nat),Hb p] [.box B [.v (.bool s)]] (.tup []) [.box B [.v (.bool (fq jH t f.body.toNat s f.params).1)]]:=by
 have r:(p.ak.map aH)[i]?=some (aH f):=by rw[bO,hf];rfl
 have A:(f.params.map fun s=>[GV.v (sv s)]).length=f.params.length:=by simp
 have l:=w8 f.params;obtain⟨b,V⟩:∃b:Nat,f.body=(b:Int):=⟨f.body.toNat,by omega⟩;rw[V,dC]at E |-;unfold aH at r;rw[V]at r;unfold Hb;refine dT func53 ntmps53 ?_;refine jB ?_;refine GL.wk (Wk.freeze (i:=1) rfl rfl rfl (aQ _)) ?_;refine GN zfC ?_;refine GL.wk (Wk.aW (de:=[U,y4 (i:Nat),U,.box (aD p) 0,U,.loc 2 0,U,U,U,U,U,U,U,strs f.params,U,U,U,U,U,U,U,U,U,U]) az) ?_;refine GL.wk (Wk.jO 9 1) ?_;refine GL.yu 3 rfl rfl rfl rfl l (by refine⟨?_,?_⟩;(· rw[A];omega);(· rw[A];omega)) ?_;intro O L;rw[A];refine bm ?_;simp only[nil_append,List.length_nil,iX];refine Z ?_;refine GW.Fl (de:=U::y4 (i:Nat)::U::.box (aD p) 0::U::.loc 2 0::.loc 4 0::.loc 5 0::zU 16 []) (bE:=[.box B [.v (.bool s)],.gone,.box _ [.fn (.func 218) [] [.loc 0 0,.box (aD p) 0]],.vech 9 1 (bX f.params) (.slice O f.params.length L),.box _ [.v (.slice O f.params.length L)],.box _ [.fn (.func 115) [] [.loc 2 0,.loc 4 0,.box (aD p) 0,.loc 5 0]]]) az rfl ?_;refine zdJ ?_;have W:=Sd p B;refine OA rfl rfl (GL.oO [0,2,4,5,3] (W _ _ _ G C _ t (aQ _) b s f.params O L E X) rfl rfl rfl (by repeat (first|exact trivial|refine⟨rfl,?_⟩)) ?_);rintro _ _⟨rfl,M,F,rfl⟩;refine⟨by simp[DX],?_⟩;unfold DX;refine zcp ?_;exact dj
def ve(t:T):Trail p (cQ p t):=⟨tY (oP p t),nV p t⟩
def DK(hw:cM p<=1048576)(r:cw p=true){l:List T}{i0:Nat}{f0:Go.Sp.Fn}{M:T}(V:eQ p l i0 f0 M) :
  GF prog 89 [.agg (aD p),y4 (i0:Nat)] [] (ints (kV p l (cQ p M))) []:=by
 have⟨⟨a1,O⟩,⟨b1,b2⟩,⟨c1,Q⟩,⟨d1,d2⟩⟩:=et p;have hlen:=V.good.len;have hg:=V.good;have hL:=ve p M;have W3:=hL.len;have W:=AA p hw r V;generalize cQ p M=F at *;obtain⟨N,hN⟩:∃N,p.ak.length=N:=⟨_,rfl⟩;have hi0:=fj F;refine aj func89 ntmps89 ?_;refine bx [] W ?_;rintro _ _⟨ad,cp,rfl,rfl⟩;refine zao ?_;refine GW.loop (fun s:Nat × List Int=>N-s.1) (fun s R Γ=>∃a c n S,R=U::U::.loc 0 0::U::U::.v (.slice a n c)::y4 (s.1:Nat)::zU 32 []/\Γ=[.box 28 (aD p),.vech 3 1 S (.slice a n c)]/\S.length=n/\S=bK s.2/\Trail p s.2/\s.1<=s.2.length/\mA (jU p l) (N+1-s.1) s.1 s.2=kV p l F) (0,F) ?_ ?_
 ·exact⟨_,_,Wk.aW az,ad,cp,_,_,rfl,rfl,hi0,rfl,hL,bg _,by rw[<-hN];rfl⟩
 rintro⟨i,L⟩_ _⟨a,c,n,S,rfl,rfl,b,d,o,hi,H⟩;simp only at d o hi H;have xQ:=o.len
 have FN:n=L.length:=by rw[<-b,d,fj]
 by_cases mo:i<L.length
 ·have hd:decide ((i:Int)<(n:Int))=true:=decide_eq_true X;obtain⟨x,hx⟩:∃x,L[i]?=some x:=⟨L[i],by simp[mo]⟩
  have Xh:S[i]?=some [y4 x]:=by rw[d];unfold bK;rw[bO,hx];rfl
  have hxr:=o.rng x (bB hx);obtain⟨j,hj⟩:∃j:Nat,x=(j:Int):=⟨x.toNat,by omega⟩;subst hj
  have WZ:j<p.ak.length:=by omega
  obtain⟨f,hf⟩:∃f,p.ak[j]?=some f:=⟨p.ak[j],by simp[WZ]⟩;obtain⟨t,ht⟩:∃t,l[j]?=some t:=⟨l[j]'X,cq _⟩;have hC:=AA p hw r (hg.fn hf ht)
  have AU:jU p l (j:Int)=cQ p t:=by unfold jU;rw[dC,ht]
  have AW:mA (jU p l) (N+1-(i+1)) (i+1) (da L (cQ p t))=kV p l F:=by
   rw[<-H,show N+1-i=(N+1-(i+1))+1 by omega,EZ hx,AU]
  have z:=nV p t;have xq:=zf p t
  have u:((cQ p t).map fun i=>[y4 i]).length=(cQ p t).length:=by simp
  have S2:i+1<=(da L (cQ p t)).length:=by
   have⟨m,hm⟩:=wv (cQ p t) L;rw[hm,bf];omega
  generalize cQ p t=ks at *;refine Z ?_;refine aS (aK 0 5 (.q 7 (.a 5 (.q 6 .nil)))) ?_;refine av ?_;refine OA rfl rfl ?_;refine bx [] hC ?_;rintro _ _⟨O,Q,rfl,rfl⟩;refine⟨by simp,?_⟩;refine GL.wk (Wk.uR (t:=23) (i:=2) rfl rfl rfl) ?_;refine zaX ?_;refine GW.range (ks.map fun i=>[y4 i]).length (fun k R Γ=>∃a c n S B,R=[U,U,.loc 0 0,U,U,.v (.slice a n c),y4 (i:Nat),U,U,U,U,U,U,U,U,U,U,U,U,U,U,U,U,ints ks,y4 ((ks.map fun i=>[GV.v (ii i)]).length:Int),y4 (k:Nat),U,U,U,U,U,U,U,U,U,U,U,U,U]/\Γ=[.box 28 (aD p),.vech 3 1 S (.slice a n c),B]/\S.length=n/\S=bK (da L (ks.take k))) ?_ X ?_ ?_ ?_
  ·exact⟨_,_,Wk.aW az,a,c,n,S,_,rfl,rfl,b,d⟩
  ·rintro k _ _⟨a,c,n,S,B,rfl,rfl,_⟩;exact dN
  ·rintro k _ _ hk⟨a,c,n,S,B,rfl,rfl,b,d⟩;rw[u]at hk;obtain⟨y,J⟩:∃y,ks[k]?=some y:=⟨ks[k],by simp[hk]⟩
   have hry:(ks.map fun i=>[y4 i])[k]?=some [y4 y]:=by rw[bO,J];rfl
   have WN:=o.add (ks:=ks.take k) fun y J=>z y (List.mem_of_mem_take J)
   have hWl:=WN.len
   have e:GF prog 160 [.sl 1 S,y4 y] [] (.v (.bool ((da L (ks.take k)).contains y))) []:=by
    rw[d];exact wV (da L (ks.take k)) y X
   have E:=C0 L ks k y J
   have S4:n<=1048576:=by rw[<-b,d,fj];omega
   rw[E]
   cases G:(da L (ks.take k)).contains y with
   |true =>
    rw[G]at e;rw[ae rfl];refine Z ?_;refine GL.borrow e (fun B K β w l hI hF=>ic (A:=[_]) (C:=[_]) hI hF rfl rfl) ?_;refine zaf ?_;exact⟨rfl,rfl,_,_,Wk.aW az,a,c,n,S,B,rfl,rfl,b,d⟩
   |false =>
    rw[G]at e;rw[D aN]
    have W7:bK (da L (ks.take k)++[y])=S++[[y4 y]]:=by rw[d];simp[bK]
    rw[W7];clear d;refine Z ?_;refine GL.borrow e (fun B K β w l hI hF=>ic (A:=[_]) (C:=[_]) hI hF rfl rfl) ?_;refine zaf ?_;refine zau ?_;intro O Q;refine zaJ ?_;exact⟨rfl,rfl,_,_,Wk.aW az,O,Q,_,_,B,rfl,rfl,by simp[b],rfl⟩
  ·rintro _ _⟨a,c,n,S,B,rfl,rfl,b,d⟩;rw[u,dx]at d;refine jm (bl ?_);refine Z ?_;exact⟨(i+1,da L ks),⟨_,_,(Wk.cut (n:=2) (bg _) rfl).trans (Wk.aW az),a,c,n,S,rfl,rfl,b,d,o.add z,S2,AW⟩,by show N-(i+1)<N-i;omega⟩
 ·have hd:decide ((i:Int)<(n:Int))=false:=decide_eq_false X;have G:=E0 (cs:=jU p l) (f:=N+1-i) (i:=i) (L:=L) X;rw[G]at H;rw[<-H];subst d;refine zbk ?_;refine GW.wk (Wk.uR (t:=4) (i:=1) rfl rfl rfl) ?_;exact aw
def Oe(R:cM p<=1048576)(c:cw p=true){l:List T}{i:Nat}{f:Go.Sp.Fn}{t:T}(h:eQ p l i f t) :
  GF prog 217 [.agg (aD p),y4 (i:Nat)] [] (.v (.bool (qw p (i:Int) (i:Int)))) []:=by
 have⟨⟨a1,M⟩,⟨H,s⟩,⟨J,B⟩,⟨E,k⟩⟩:=et p;have u:=(bR h.gf).1;have w:=IM p R h;have z:=Da p R h.good (cQ p t) (ve p t);have C:=(yv (p:=p) (l:=l) (p.ak.length+1) 0 _ (ve p t)).len
 have G:GF prog 153 [ints (gO (kV p l (cQ p t))),y4 (i:Nat)] [] (.v (.bool (qw p (i:Int) (i:Int)))) []:=by
  have:=za (gO (kV p l (cQ p t))) (i:Int) (by rw[nA];unfold kV;omega);rw[GY]at this;unfold qw;rw[oq (ri c u) h];exact this
 generalize gO (kV p l (cQ p t))=L at *;generalize cQ p t=A at *;generalize qw p (i:Int) (i:Int)=b at *;refine aj func217 ntmps217 ?_;refine aS (aK 0 3 (.q 5 (.a 3 (.a 4 (.a 6 (.q 7 .nil)))))) ?_;refine av ?_;refine aJ [] w ?_;refine aJ [] z ?_;refine aJ [] G ?_;exact aB
end
def lA.fnV{f:Fn}:lA (.v (.func f #[] #[])) (.fn f [] []):=fun K l x h=>by
 cases h;exact .fn f [] [] [] [] rfl rfl (fun i v g h=>by simp at h) (fun i v g h=>by simp at h)
section
variable(p:Src)
def L6(O:cM p<=1048576)(F:cw p=true){l:List T}{i:Nat}{f:Go.Sp.Fn}{t:T}(h:eQ p l i f t) :
  GF prog 165 [.agg (aD p),y4 (i:Nat)] [] (.v (.bool (xg p l (i:Int)))) []:=by
 have⟨⟨a1,a2⟩,⟨b1,b2⟩,⟨c1,R⟩,⟨d1,S⟩⟩:=et p;have hi:=(bR h.gf).1;have E:=h.good;have N:=E.len;have u:Trail p [(i:Int)]:=⟨List.nodup_cons.2 ⟨by simp,List.Pairwise.nil⟩,fun y H=>by rw[mem_singleton]at H;omega⟩;have J:=Da p O E [(i:Int)] u;have o:=yv (p:=p) (l:=l) (p.ak.length+1) 0 _ u
 have s:∀y∈gO (kV p l [(i:Int)]),0<=y/\y<(p.ak.length:Int):=fun y H=>o.rng y (ud.1 H)
 have xQ:(gO (kV p l [(i:Int)])).length<=p.ak.length:=by rw[nA];exact o.len
 unfold xg;generalize gO (kV p l [(i:Int)])=L at *
 have q:(L.map fun i=>[y4 i]).length=L.length:=by simp
 have V:ints [(i:Int)]=.sl 1 [[y4 (i:Nat)]]:=rfl;rw[V]at J;refine dT func165 ntmps165 ?_;refine zch ?_;refine zaf ?_;refine zac ?_;refine I [] J ?_;refine GW.range (L.map fun i=>[y4 i]).length (fun k W Γ=>W=[U,U,.box (aD p) 0,U,U,U,U,U,U,U,U,ints L,y4 ((L.map fun i=>[GV.v (ii i)]).length:Int),y4 (k:Nat),U,U,U,U,U,U,U,U,U,U,U,U]/\Γ=[]/\(L.take k).all (fun k=>!qE p l k)=true) ?_ X ?_ ?_ ?_
 ·exact kz
 ·exact iI
 ·rintro k _ _ r⟨rfl,rfl,b⟩;rw[q]at r;obtain⟨x,hx⟩:∃x,L[k]?=some x:=⟨L[k],by simp[r]⟩;have Xh:=ep hx;have hxr:=s x (bB hx);obtain⟨j,rfl⟩:∃j:Nat,x=(j:Int):=⟨x.toNat,by omega⟩;obtain⟨z,e⟩:∃f,p.ak[j]?=some f:=⟨p.ak[j]'X,cq _⟩;obtain⟨Q,w⟩:∃t,l[j]?=some t:=⟨l[j]'X,cq _⟩;have A:=E.fn e w;have M:=Oe p O F A;have pf:=A.sz;have m:=Um p 4 j z Q (qw p (j:Int) (j:Int)) X (fun n hn=>by have:=(S n hn).2;omega) e (by have:=(R z (bB e)).2.1;omega) A.body A.st X
  have G:qE p l (j:Int)=(fq jH Q z.body.toNat (qw p (j:Int) (j:Int)) z.params).1:=by
   rw[SD];unfold qE;rw[dC,w]
  have d:=nq (f:=qE p l) hx;rw[<-G]at m;unfold Hb at m;generalize qw p (j:Int) (j:Int)=c at *
  cases C:qE p l (j:Int)with
  |true =>
   rw[C]at m
   have B:L.all (fun k=>!qE p l k)=false:=by
    rw[List.all_eq_false];exact⟨(j:Int),bB hx,by rw[C];decide⟩
   rw[B];refine zcn ?_;refine I [0] m ?_;exact aw
  |false =>
   rw[C]at m d;refine zcn ?_;refine I [0] m ?_;exact⟨rfl,rfl,_,_,(Wk.cut (n:=0) (bg _) rfl).trans (Wk.aW az),rfl,rfl,by rw[d,b];rfl⟩
 ·rintro _ _⟨rfl,rfl,b⟩;rw[q,dx]at b;rw[b];refine bl ?_;exact aB
def Fb(R:cM p<=1048576)(hn:jZ p)(ay:Bool)(F:FuncId)[u:eI prog F](E:am)(A:E=[]\/∃cs,E=[.box cs 0])
  (k:∀(a:Nat)n,p.ah[a]?=some n->GF prog F (y4 (a:Nat)::E) [] (y4 ((eo ay n:Nat):Int)) [])(fn:Int) :
  GF prog 95 [.agg (aD p),y4 fn,.fn (.func F) [] E] [] (y4 (gF p ay fn)) []:=by
 have⟨⟨a1,N⟩,⟨H,s⟩,⟨J,C⟩,⟨L,m⟩⟩:=et p;have G:=QL p fn R hn
 cases M:gX p fn with
 |false =>
  rw[M]at G;rw[sL M];refine aj func95 ntmps95 ?_;exact zeU
 |true =>
  rw[M]at G
  have d:cw p=true:=by unfold gX at M;simp only[aU]at M;exact M.1.1
  obtain⟨i,l,f,t,rfl,h⟩:=vE M;have w:=(bR h.gf).1;have S:=L6 p R d h;rw[E4 d w h]
  cases q:xg p l (i:Int)with
  |false =>
   rw[q]at S;rw[D aN];refine aj func95 ntmps95 ?_;refine I [] G ?_;exact zca
  |true =>
   rw[q]at S;rw[ae rfl];have W:=(fy (p:=p) (fn:=(i:Int))).len;have T:=Y2 p l ay F E A X (fun n h=>by have:=(m n h).2;omega) X d h.good k (p.ak.length+1) i f t h ((xh d h.good h).1 q) X;have V:=Fc (p:=p) (l:=l) (ay:=ay) (i:Int)
   have j:=fun b=>T b (fun _=>none) (fun g v B=>by cases B)
   clear T
   have e:(if 1000000000<ch p l ay (i:Int)then(-1:Int)else(ch p l ay (i:Int):Int))=if decide ((1000000000:Int)<((ch p l ay (i:Int):Nat):Int))=true then -1 else((ch p l ay (i:Int):Nat):Int):=by
    simp only[decide_eq_true_eq];split<;>split<;>omega
   rw[e];clear e;generalize ch p l ay (i:Int)=c at *;unfold zh at j;clear k
   rcases A with rfl|⟨cs,rfl⟩
   all_goals cases o:decide ((1000000000:Int)<((c:Nat):Int))
   all_goals
    refine aj func95 ntmps95 ?_;refine I [] G ?_;refine I [] S ?_;refine GL.mkMap ?_;intro b;refine zaJ ?_;refine bx [2,1] (j b) ?_;rintro _ _⟨rfl,O,rfl,-⟩;refine bI ?_;exact aB
def Me(R:cM p<=1048576)(hn:jZ p)(fn:Int):GF prog 92 [.agg (aD p),y4 fn] [] (y4 (gF p false fn)) []:=by
 have w:=Fb p R hn false 163 [] (.inl rfl) (fun a n _=>by
  rw[RB];refine aj func163 ntmps163 ?_;refine cb ?_
  exact⟨rfl,rfl⟩) fn
 generalize gF p false fn=r at *;refine aj func92 ntmps92 ?_;refine GL.Sv [] w (ku.cons lA.refl (ku.cons lA.refl (ku.cons lA.fnV ku.nil))) rfl nS rfl ?_;refine ct ?_;exact aB
def BG(R:cM p<=1048576)(hn:jZ p):GF prog 27 [.agg (aD p)] [] (y4 (dR p)) []:=by
 have⟨⟨a1,M⟩,⟨H,s⟩,⟨G,B⟩,⟨E,k⟩⟩:=et p;have S:=tM p [109,97,105,110] X;have e:bM (fun x:Go.Sp.Fn=>x.name==[109,97,105,110]) p.ak=bF p eU:=rfl;rw[e]at S;have d:=Me p R hn (bF p eU);unfold dR;generalize gF p false (bF p eU)=r at *;generalize bF p eU=m at *;refine aj func27 ntmps27 ?_;exact zcm
def KO(R:cM p<=1048576)(hn:jZ p):GF prog 29 [.agg (aD p)] [] (.v (.bool (dR p != -1))) []:=by
 have d:=BG p R hn;generalize dR p=r at *;refine aj func29 ntmps29 ?_;refine I [] d ?_;exact aw
def VU(R:cM p<=1048576)(hn:jZ p):GF prog 30 [.agg (aD p)] [] (y4 (qH p)) []:=by
 have⟨⟨a1,M⟩,⟨H,u⟩,⟨G,B⟩,⟨E,k⟩⟩:=et p;have i:=BG p R hn;have S:=tM p [109,97,105,110] X;have j:bM (fun x:Go.Sp.Fn=>x.name==[109,97,105,110]) p.ak=bF p eU:=rfl;rw[j]at S
 have w:=Fb p R hn true 96 [.box (aD p) 0] (.inr ⟨_,rfl⟩) (fun a n d=>by
  have t:=b8 d
  have e:((eo true n:Nat):Int)=if(n.ab==4&&n.s==[112,117,116])=true then 1 else 0:=by
   show(((if(!true ||(n.ab==4&&n.s==[112,117,116]))=true then 1 else 0:Nat)):Int)=_;rw[Bool.not_true,Bool.false_or];split<;>rfl
  rw[e];unfold aP at t
  cases g1:(n.ab==4)
  all_goals cases N:(n.s==[112,117,116])
  all_goals
   refine aj func96 ntmps96 ?_;refine cb ?_
   exact⟨rfl,rfl⟩) (bF p eU)
 unfold qH;generalize gF p true (bF p eU)=r at *;generalize bF p eU=m at *;generalize dR p=q at *
 cases o:(q == -1)with
 |true =>
  refine dT func30 ntmps30 ?_;refine zch ?_;refine zaf ?_;refine I [] i ?_;exact aw
 |false =>
  refine dT func30 ntmps30 ?_;refine zch ?_;refine zaf ?_;refine I [] i ?_;refine aS (.q 0 (.q 1 (.q 3 (.a 2 (.a 4 (.q 5 .nil)))))) ?_;refine av ?_;refine aJ [] S ?_;refine aJ [] w ?_;exact aB
end
end Go.Xg
namespace Go.Im
open Go.Xp Go.Sp Go.Mn
theorem SL:∀(ks:List Nat)(v:Nat),ks.foldl (fun m k=>ek (m+k)) v<=1000000000->ks.foldl (fun m k=>ek (m+k)) v=v+ks.sum
 |[],v,h=>by simp
 |k::ks,v,h=>by
  rw[foldl_cons]at h |-;have M:=SL ks _ h
  grind[ek]
def Wb{n:Nat}(h:ek n<=1000000000):ek n=n:=by grind[ek]
def Cb(p:Src)(ay:Bool)(W:Int->Nat)(c:Nat->Nat)(ab8:Nat->Prop)(t:T)(ls:List ai):Prop:=cP p ay W t<=1000000000->(sf p t ls).nw ab8/\wo (!ay)+gR (!ay) c (sf p t ls)<=cP p ay W t
def AB(p:Src)(ay:Bool)(W:Int->Nat)(c:Nat->Nat)(ab8:Nat->Prop):List T->List ai->Prop
 |[],_=>True
 |t::r,G=>Cb p ay W c ab8 t G/\AB p ay W c ab8 r (G++kJ t)
section
variable{p:Src}{ay:Bool}{W:Int->Nat}{c:Nat->Nat}{ab8:Nat->Prop}
theorem IQ:∀(l:List T)(ls:List ai),AB p ay W c ab8 l ls->(fx p ay W l).sum<=1000000000->R.uO ab8 (fK p l ls)/\xo (!ay) c (fK p l ls)<=(fx p ay W l).sum
 |[],ls,_,_=>by simp[R.uO,fK,xo,fx]
 |t::r,ls,h,k=>by
  rw[AB]at h;rw[fx,List.sum_cons]at k |-;have⟨a1,M⟩:=h.1 ze4;have⟨H,s⟩:=IQ r _ h.2 ze4;rw[fK,R.uO,xo]
  grind
theorem X7(n:Nd):wo (!ay)<=eo ay n:=by grind[wo,eo]
theorem U9{n:Nd}(N:n.ab=4)(A:n.s=lr):wo (!ay)+wp (!ay)<=eo ay n:=by
 grind[wo,wp,eo]
def JZ{l:List T}(h:l.length=1):∃a,l=[a]:=by
 match l,h with
 |[a],_=>simp
def Hj{l:List T}(h:l.length=2):∃a b,l=[a,b]:=by
 match l,h with
 |[a,b],_=>simp
def L7{l:List T}(h:l.length=3):∃a b d,l=[a,b,d]:=by
 match l,h with
 |[a,b,d],_=>simp
theorem aai{n:Nd}{l:List T}{ls:List ai}(S:∀s,jN s=true->bF p s<0)(hW:∀g∈pb p n,W g<=1000000000->ab8 g.toNat/\c g.toNat=W g)(B:c7 n.ab l.length=true)(M:n.ab≠10)(u:bG p (.mk n l) ls=0)
  (j:n.ab=4/\n.s=cB\/AB p ay W c ab8 l ls):Cb p ay W c ab8 (.mk n l) ls:=by
 intro i;rw[cP]at i |-;rw[sf];have Q:=X7 (ay:=ay) n;unfold sS at i |-
 by_cases G:n.ab=4/\n.s=cB
 ·rw[ae G];unfold uP;rw[D (show ¬n.ab=1 by omega),D (show ¬n.ab=2 by omega),D (show ¬n.ab=3 by omega),ae G.1,ae G.2,R.nw,gR]
  grind
 have j:=j.resolve_left G;rw[D G]at i |-;unfold c7 at B
 by_cases H:n.ab=9
 ·rw[ae H]at i |-;have L:=Wb i;rw[L]at i |-;rw[D (show ¬(n.ab=1\/n.ab=2) by omega),D (show ¬(n.ab=4\/n.ab=14) by omega),D (show ¬(n.ab=3\/n.ab=5\/n.ab=7\/n.ab=11\/n.ab=12\/n.ab=13) by omega),D (show ¬(n.ab=6\/n.ab=8\/n.ab=10) by omega),ae H]at B;unfold uP;rw[D (show ¬n.ab=1 by omega),D (show ¬n.ab=2 by omega),D (show ¬n.ab=3 by omega),D (show ¬n.ab=4 by omega),D (show ¬n.ab=5 by omega),D (show ¬n.ab=6 by omega),D (show ¬n.ab=7 by omega),D (show ¬n.ab=8 by omega),ae H]
  by_cases N:l.length=3
  ·obtain⟨a,b,d,rfl⟩:=L7 N;rw[ae N];simp only[fx,headD_cons,List.tail_cons,foldl_cons,List.foldl_nil]at i |-;simp only[AB]at j;obtain⟨q,w,k3,-⟩:=j;have⟨a1,V⟩:=q ze4;have⟨b1,b2⟩:=w ze4;have⟨d1,d2⟩:=k3 ze4;simp only[fK,r0,getElem?_cons_zero,getElem?_cons_succ,R.nw,gR]
   grind
  ·have E:l.length=2:=by grind
   obtain⟨a,b,rfl⟩:=Hj E;rw[D N];simp only[fx,headD_cons,List.tail_cons,foldl_cons,List.foldl_nil]at i |-;simp only[AB]at j;obtain⟨q,w,-⟩:=j;have⟨a1,V⟩:=q ze4;have⟨b1,b2⟩:=w ze4;simp only[fK,r0,getElem?_cons_zero,getElem?_cons_succ,R.nw,gR]
   grind
 ·rw[D H]at i |-;have hS:=IQ l ls j
  have o:∀(v x:Nat),v=(fx p ay W l).foldl (fun m k=>ek (m+k)) (eo ay n)->v<=1000000000->(R.uO ab8 (fK p l ls)/\xo (!ay) c (fK p l ls)<=(fx p ay W l).sum)/\v=eo ay n+(fx p ay W l).sum:=fun v x hv hle=>by
   grind[SL]
  unfold uP
  by_cases C:n.ab=1
  ·rw[D (show ¬(n.ab=4/\0<=bF p n.s) by omega)]at i |-;obtain⟨-,e⟩:=o _ 0 rfl i;rw[ae C,R.nw,gR]
   grind
  rw[D C]
  by_cases E:n.ab=2
  ·rw[D (show ¬(n.ab=4/\0<=bF p n.s) by omega)]at i |-;obtain⟨-,e⟩:=o _ 0 rfl i;rw[ae E];split<;>(rw[R.nw,gR];exact⟨trivial,by omega⟩)
  rw[D E]
  by_cases z:n.ab=4
  ·rw[D (show ¬n.ab=3 by omega),ae z,D (fun e=>G ⟨z,e⟩)]
   by_cases O:n.s=lU
   ·rw[D (show ¬(n.ab=4/\0<=bF p n.s)from fun h=>by have:=S n.s (by rw[O];rfl);omega)]at i |-;obtain⟨-,e⟩:=o _ 0 rfl i;rw[ae O,R.nw,gR]
    grind
   rw[D O]
   by_cases J:n.s=lr
   ·rw[D (show ¬(n.ab=4/\0<=bF p n.s)from fun h=>by have:=S n.s (by rw[J];rfl);omega)]at i |-;have⟨⟨q,w⟩,e⟩:=o _ 0 rfl i;have hpo:=U9 (ay:=ay) z J
    have hl:l.length=1:=by
     unfold bG at u;rw[D (show ¬(T.mk n l).n.ab=13 by grind[T.n]),D (show ¬((T.mk n l).n.ab=2\/(T.mk n l).n.ab=7) by grind[T.n]),D (show ¬((T.mk n l).n.ab=3\/(T.mk n l).n.ab=8) by grind[T.n]),ae (show(T.mk n l).n.ab=4 from z)]at u;unfold dH b9 at u;simp only[show(T.mk n l).n=n from rfl,show(T.mk n l).au=l from rfl]at u;rw[D ze3]at u
     grind[jr]
    obtain⟨a,rfl⟩:=JZ hl;rw[ae J];simp only[fK,R.uO,xo]at q w;simp only[fK,r0,getElem?_cons_zero,R.nw,gR]
    grind
   ·rw[D J]
    have hf:0<=bF p n.s:=by
     unfold bG at u;rw[D (show ¬(T.mk n l).n.ab=13 by grind[T.n]),D (show ¬((T.mk n l).n.ab=2\/(T.mk n l).n.ab=7) by grind[T.n]),D (show ¬((T.mk n l).n.ab=3\/(T.mk n l).n.ab=8) by grind[T.n]),ae (show(T.mk n l).n.ab=4 from z)]at u;unfold dH b9 at u;simp only[show(T.mk n l).n=n from rfl,show(T.mk n l).au=l from rfl]at u;rw[D ze3]at u
     have hm:jr p n.s ≠ -1:=fun e=>by omega
     unfold bF bM
     grind[jr]
    rw[ae ⟨z,hf⟩]at i |-;have L:=Wb i;rw[L]at i |-;have⟨⟨q,w⟩,e⟩:=o _ 0 rfl ze4;obtain⟨w1,w2⟩:=hW (bF p n.s) (by grind[pb]) ze4;rw[R.nw,gR]
    grind
  ·rw[D (show ¬(n.ab=4/\0<=bF p n.s)from fun h=>z h.1)]at i |-;have⟨⟨q,w⟩,e⟩:=o _ 0 rfl i;rw[D (show ¬(n.ab=1\/n.ab=2) by omega)]at B
   by_cases hb:n.ab=14
   ·rw[D (show ¬n.ab=3 by omega),D z,D (show ¬n.ab=5 by omega),D (show ¬n.ab=6 by omega),D (show ¬n.ab=7 by omega),D (show ¬n.ab=8 by omega),D H,D M,D (show ¬n.ab=11 by omega),D (show ¬n.ab=12 by omega),D (show ¬n.ab=13 by omega),R.nw,gR]
    grind
   rw[D (show ¬(n.ab=4\/n.ab=14) by omega)]at B
   by_cases t:n.ab=3\/n.ab=5\/n.ab=7\/n.ab=11\/n.ab=12\/n.ab=13
   ·rw[ae t]at B;obtain⟨a,rfl⟩:=JZ (l:=l) ze3;simp only[fK,R.uO,xo]at q w
    have F:∀r:R,(r.nw ab8↔(sf p a ls).nw ab8)->gR (!ay) c r=wo (!ay)+gR (!ay) c (sf p a ls)->r.nw ab8/\wo (!ay)+gR (!ay) c r<=(fx p ay W [a]).foldl (fun m k=>ek (m+k)) (eo ay n):=fun r C E=>⟨C.2 q.1,by omega⟩
    simp only[fK,r0,getElem?_cons_zero]
    rcases t with h|h|h|h|h|h
    all_goals simp only[h,if_true,if_false,Int.reduceEq]
    all_goals try split
    all_goals exact F _ (by rw[R.nw]) (by rw[gR])
   ·rw[D t]at B
    by_cases A:n.ab=6\/n.ab=8\/n.ab=10
    ·rw[ae A]at B;obtain⟨a,b,rfl⟩:=Hj (l:=l) ze3;simp only[fK,R.uO,xo]at q w
     have F:∀r:R,(r.nw ab8↔(sf p a ls).nw ab8/\(sf p b (ls++kJ a)).nw ab8)->gR (!ay) c r=(wo (!ay)+gR (!ay) c (sf p a ls))+(wo (!ay)+gR (!ay) c (sf p b (ls++kJ a)))->r.nw ab8/\wo (!ay)+gR (!ay) c r<=(fx p ay W [a,b]).foldl (fun m k=>ek (m+k)) (eo ay n):=fun r C E=>⟨C.2 ⟨q.1,q.2.1⟩,by omega⟩
     simp only[fK,r0,getElem?_cons_zero,getElem?_cons_succ]
     rcases A with h|h|h
     ·simp only[h,if_true,if_false,Int.reduceEq];split
      ·exact zcV
      ·split
       ·exact zcV
       ·exact zcV
     ·simp only[h,if_true,if_false,Int.reduceEq];exact zcV
     omega
    grind
mutual
def Wc(r:∀s,jN s=true->bF p s<0):∀(t:T)(ls:List ai),eY t=true->uj t=false->qF p t ls->fR t->(∀g∈jb p t,W g<=1000000000->ab8 g.toNat/\c g.toNat=W g)->Cb p ay W c ab8 t ls
 |.mk n l,ls,k,R,m,wf,u=>by
  rw[eY,aU]at k;rw[uj,Bool.or_eq_false_iff]at R;rw[qF]at m;rw[fR]at wf;rw[jb]at u
  have S:n.ab≠10:=by grind
  refine aai r (fun g B=>u g (mem_append_left _ B)) k.1 S m.1 ?_
  by_cases o:n.ab=4/\n.s=cB
  ·grind
  ·right
   have M:b9 (.mk n l)=false:=by
    unfold b9;show((n.ab==4&&n.s==cB)&&_)=false
    grind
   exact Sw r l ls k.2 R.2 (m.2 M) wf.2.2 fun g B=>u g (mem_append_right _ B)
def Sw(v:∀s,jN s=true->bF p s<0):∀(l:List T)(ls:List ai),qB l=true->p9 l=false->oE p l ls->eL l->(∀g∈eC p l,W g<=1000000000->ab8 g.toNat/\c g.toNat=W g)->AB p ay W c ab8 l ls
 |[],ls,_,_,_,_,_=>by simp[AB]
 |t::r,ls,k,R,m,wf,u=>by
  rw[qB,aU]at k;rw[p9,Bool.or_eq_false_iff]at R;rw[oE]at m;rw[eL]at wf;rw[eC]at u;rw[AB];exact⟨Wc v t ls k.1 R.1 m.1 wf.1 fun g B=>u g (mem_append_left _ B),Sw v r (ls++kJ t) k.2 R.2 m.2 wf.2 fun g B=>u g (mem_append_right _ B)⟩
end
end
variable{p:Src}
def Lk{l:List T}(h:Good p l):∀s,jN s=true->bF p s<0:=fun s q=>by
 unfold bF bM
 cases n:p.ak.findIdx? (fun f:Go.Sp.Fn=>f.name==s)with
 |none=>simp
 |some i =>
  exfalso;obtain⟨M,w,-⟩:=List.findIdx?_eq_some_iff_getElem.1 n;rw[beq_iff_eq]at w
  have G:s∈du p:=by
   unfold du iL;exact mem_append_right _ (by rw[<-w];exact List.mem_map_of_mem (List.getElem_mem M))
  have⟨k,m⟩:=List.getElem?_of_mem G;have v:=h.names;unfold eK at v;rw[List.any_eq_false]at v;have:=v k (List.mem_range.2 (bR m).1);unfold kg at this;rw[m]at this;simp[q]at this
def Dr{l:List T}(c:cw p=true)(h:Good p l):∃(i:Nat)(f:Go.Sp.Fn)(t:T),bF p eU=(i:Int)/\eQ p l i f t/\f.params=[]:=by
 have G:p.ak.any nM=true:=by
  unfold cw at c;rw[h.st.xz]at c;simp only[aU,decide_eq_true_eq]at c;have:=c.2;unfold zg at this;rw[D (by rw[h.names];decide)]at this;split at this
  ·cases this
  split at this
  ·cases this
  ·rename_i w;simpa using w
 have v:=(Ah h.names).1 G;unfold lK at v
 cases m:p.ak.findIdx? (fun f:Go.Sp.Fn=>f.name==eU)with
 |none=>rw[m]at v;cases v
 |some i =>
  rw[m]at v;obtain⟨M,z,-⟩:=List.findIdx?_eq_some_iff_getElem.1 m;have V:=h.len;have s:p.ak[i]?=some p.ak[i]:=cq M;have o:l[i]?=some (l[i]'ze4):=cq ze4;refine⟨i,_,_,by unfold bF bM;rw[m],h.fn s o,?_⟩;simp only[decide_eq_false_iff_not]at v;unfold mM at v;rw[s]at v;exact jF (by simp only at v;omega)
def Gv{l:List T}{i:Nat}{f:Go.Sp.Fn}{t:T}(hf:p.ak[i]?=some f)(o:l[i]?=some t):qY p l i=sf p t f.params:=by unfold qY;rw[hf,o]
def qo:List Nat->List Nat->Prop
 |[],[]=>True
 |a::l,b::m=>a<=b/\qo l m
 |_,_=>False
theorem C8{a b:Nat}(h:a<=b):ek a<=ek b:=by grind[ek]
theorem qo.fold:∀{l m:List Nat}{v w:Nat},qo l m->v<=w->l.foldl (fun m k=>ek (m+k)) v<=m.foldl (fun m k=>ek (m+k)) w
 |[],[],v,w,_,h=>h
 |a::l,b::m,v,w,h,T=>by
  rw[qo]at h;rw[foldl_cons,foldl_cons];exact qo.fold h.2 (C8 ze4)
 |[],b::m,v,w,h,_=>by cases h
 |a::l,[],v,w,h,_=>by cases h
theorem qo.max:∀{l m:List Nat}{v w:Nat},qo l m->v<=w->l.foldl max v<=m.foldl max w
 |[],[],v,w,_,h=>h
 |a::l,b::m,v,w,h,T=>by
  rw[qo]at h;rw[foldl_cons,foldl_cons];exact qo.max h.2 ze4
 |[],b::m,v,w,h,_=>by cases h
 |a::l,[],v,w,h,_=>by cases h
theorem qo.head{l m:List Nat}(h:qo l m):l.headD 0<=m.headD 0:=by
 match l,m,h with
 |[],[],_=>simp
 |a::l,b::m,h=>grind[qo]
theorem qo.tail{l m:List Nat}(h:qo l m):qo l.tail m.tail:=by
 match l,m,h with
 |[],[],_=>grind
 |a::l,b::m,h=>grind[qo]
section
variable{p:Src}
theorem X6(n:Nd):eo true n<=eo false n:=by grind[eo]
mutual
def Ss{W c:Int->Nat}(u:∀g,W g<=c g):∀t:T,cP p true W t<=cP p false c t
 |.mk n l=>by
  have h:=MQ u l;have k:=X6 n;rw[cP,cP];unfold sS
  by_cases M:n.ab=4/\n.s=cB
  ·grind
  rw[D M,D M]
  by_cases v:n.ab=9
  ·rw[ae v,ae v];have a:=h.head;have b:=h.tail.max (aQ 0)
   grind[ek]
  rw[D v,D v];have b:=h.fold k
  by_cases w:n.ab=4/\0<=bF p n.s
  ·rw[ae w,ae w];have:=u (bF p n.s);exact C8 ze4
  grind
def MQ{W b:Int->Nat}(s:∀g,W g<=b g):∀l:List T,qo (fx p true W l) (fx p false b l)
 |[]=>by simp[qo,fx]
 |t::r=>by rw[fx,fx,qo];exact⟨Ss s t,MQ s r⟩
end
theorem Sn(l:List T):∀(N:Nat)(f:Int),Wf p l true N f<=Wf p l false N f
 |0,f=>aQ _
 |N+1,f=>by
  rw[Wf,Wf]
  cases l[f.toNat]? with
  |none=>simp
  |some t=>exact Ss (Sn l N) t
def V6{O:Go.Mn.Op}{F:Nat}{B:Nat->R}{o:Bool}{ab8:Nat->Prop}{c:Nat->Nat}(d:∀f,ab8 f->(B f).nw ab8/\wo o+gR o c (B f)<=c f){r:R}(u:r.nw ab8){s:M}(t:s.fin≠3)(q:s.a7<=F):Bd o F s (Gz O F B r s) (wo o+gR o c r):=by
 have⟨v,h⟩:=J7 (O:=O) (F:=F) (B:=B) r s;exact(Sz d _).1 r s v _ u t q h
theorem C6{l:List T}(c:cw p=true)(hg:Good p l)(ay:Bool){i:Nat}{f:Go.Sp.Fn}{t:T}(h:eQ p l i f t)(A:q6 p l (i:Int))(q:ch p l ay (i:Int)<=1000000000)(Q:List Int)(F:Nat)(G:bF p eU=(i:Int)) :
  Bd (!ay) F (qL p Q) (oU p l Q F) (ch p l ay (i:Int)):=by
 have v:=Lk hg;have d:∀(j:Nat)(B:Go.Sp.Fn)(b:T),eQ p l j B b->q6 p l (j:Int)->ch p l ay (j:Int)<=1000000000->(∀g,g∈br p (j:Int)->g∈br p (i:Int)) ->
   (qY p l j).nw (fun k=>((k:Int)=(i:Int)\/(k:Int)∈br p (i:Int))/\ch p l ay (k:Int)<=1000000000)/\wo (!ay)+gR (!ay) (fun k=>ch p l ay (k:Int)) (qY p l j)<=ch p l ay (j:Int):=fun j B b L C m W=>by
  have z:=Dc (ay:=ay) c hg L C;rw[z]at m |-;rw[Gv L.gf L.gt];refine Wc v b B.params (vJ hg L.gt) ((C _ (.inl rfl)).2 b (by rw[dC];exact L.gt)) L.ok L.wf (fun g u V=>?_) m;have r:=iu c L u
  grind[mH,dC]
 have n:∀k:Nat,(((k:Int)=(i:Int)\/(k:Int)∈br p (i:Int))/\ch p l ay (k:Int)<=1000000000)->(qY p l k).nw (fun k=>((k:Int)=(i:Int)\/(k:Int)∈br p (i:Int))/\ch p l ay (k:Int)<=1000000000)/\wo (!ay)+gR (!ay) (fun k=>ch p l ay (k:Int)) (qY p l k)<=ch p l ay (k:Int):=fun k o=>by
  rcases o.1 with e|e
  ·grind
  ·have⟨j,B,b,J,L⟩:=mH hg e
   have J:k=j:=by omega
   subst J
   exact d k B b L (A.down e) o.2 fun g w=>lT p _ _ e g w
 have N:=n i ⟨.inl rfl,q⟩;unfold oU;rw[G,dC];exact(V6 (O:=qX) n N.1 (s:=qL p Q) (by simp[M.fin,qL]) (bg F)).mono N.2
theorem MM{l:List T}(c:cw p=true)(hg:Good p l)(v:0<=dR p)(Q:List Int)(F:Nat) :
  ((oU p l Q F).a7:Int)<=dR p/\((oU p l Q F).fin=3->(F:Int)<dR p)/\((oU p l Q F).out.length:Int)<=qH p:=by
 obtain⟨i,f,t,G,h,-⟩:=Dr c hg;have u:=(bR h.gf).1;have M:=ri c u
 have e:dR p=ji p l false (i:Int):=by grind[rM,dR,ji]
 have J:qH p=ji p l true (i:Int):=by unfold qH;grind[rM]
 rw[e]at v |-;rw[J];rw[xE c hg h]at v |-;rw[xE c hg h]
 by_cases q:xg p l (i:Int)=true
 ·rw[ae q]at v |-;rw[ae q];have z:=(xh c hg h).1 q
  by_cases k:1000000000<ch p l false (i:Int)
  ·omega
  ·rw[D k]
   have V:ch p l true (i:Int)<=ch p l false (i:Int):=by grind[Sn,ch]
   rw[D ze4];have H:=C6 c hg false h z ze4 Q F G;have s:=C6 c hg true h z ze4 Q F G
   simp_all[Bd,ae,D,qL]
 grind
end
end Go.Im
namespace Go.Xg
open Go.RowKit Go.Xw
def yZ{A:Prop}(s:A:=by repeat (first|exact trivial|refine⟨rfl,?_⟩)):A:=s
section
variable{A B C:Prop}(be:List Nat)
def aZ(c:C)(h:B)(s:qR be C->Hid B->A:=by intro v G;(refine GL.r7 v pO rfl yZ rfl ?_;refine rV di ec ?_);exact G.1):A:=s ⟨c⟩ ⟨h⟩
def PJ(c:C)(h:B)(s:qR be C->Hid B->A:=by intro v G;(refine OA rfl rfl (GL.r7 v pO rfl yZ rfl (GL.nil (bl (dP.mk jK ?_))));refine jY di ec ?_);exact G.1):A:=s ⟨c⟩ ⟨h⟩
def Ee(c:C)(h:B)(s:qR be C->Hid B->A:=by intro v G;(refine GL.E5 v pO rfl yZ ?_);exact G.1):A:=s ⟨c⟩ ⟨h⟩
end
open Go.Xp (bD)
open Go.Mn
def Jx(n:Int):IntKind.i32.wrap n=bD n:=by
 rw[IntKind.wrap_i32];unfold bD;split<;>omega
def FV{n:Int}(h:qn n):IntKind.i64.wrap n=n:=by
 unfold qn at h;rw[IntKind.wrap_i64];omega
def YA(n:Int):IntKind.u32.wrap n=((mN n:Nat):Int):=by
 rw[IntKind.wrap_u32,O5]
def CM{n:Nat}(h:n<4294967296):IntKind.u32.wrap (n:Int)=(n:Int):=by
 rw[IntKind.wrap_u32];omega
def B1{n:Nat}(h:n<4294967296):(BitVec.ofInt 32 (n:Int)).toNat=n:=by
 rw[BitVec.toNat_ofInt];simp;omega
section
variable{P:Program}{fr:am}{Γ:ap}{x y:Operand}{t t':TypeId}
def YG.Fh{s t:TypeId}{k k':IntKind}{a:Int}[S:np P s k'][z:np P t k](hx:a8 fr x=.v (.int k' a)):YG P (.convert s t x) fr Γ (.v (.int k (k.wrap a))) :=
 YG.v1 hx fun l w h d r u c=>by simp[execOp,h,convert,run_underlying S.und,run_underlying z.und,Conv.intToInt]
def YG.Y4{s t:TypeId}{a:Int}[S:np P s .i64][z:np P t .i32](hx:a8 fr x=y4 a):YG P (.convert s t x) fr Γ (.v (.int .i32 (bD a))):=by
 rw[<-Jx];exact YG.Fh hx
def YG.tG{s t:TypeId}{a:Int}[S:np P s .i64][z:np P t .u32](hx:a8 fr x=y4 a):YG P (.convert s t x) fr Γ (.v (.int .u32 ((mN a:Nat):Int))):=by
 rw[<-YA];exact YG.Fh hx
def YG.Ey{s t:TypeId}{a:Nat}[S:np P s .u32][z:np P t .i32](hx:a8 fr x=.v (.int .u32 (a:Int))):YG P (.convert s t x) fr Γ (.v (.int .i32 (bD (a:Int)))):=by
 rw[<-Jx];exact YG.Fh hx
def YG.Fg{s t:TypeId}{a:Int}[S:np P s .i32][z:np P t .i64](hx:a8 fr x=.v (.int .i32 a))(h:qn a):YG P (.convert s t x) fr Γ (y4 a):=by
 have:=YG.Fh (P:=P) (Γ:=Γ) (s:=s) (t:=t) (k:=.i64) hx;rw[FV h]at this;exact this
def YG.B4{s t:TypeId}{a:Nat}[S:np P s .u32][z:np P t .i64](hx:a8 fr x=.v (.int .u32 (a:Int)))(h:a<4294967296):YG P (.convert s t x) fr Γ (y4 (a:Int)):=by
 have:=YG.Fh (P:=P) (Γ:=Γ) (s:=s) (t:=t) (k:=.i64) hx;rw[show IntKind.i64.wrap (a:Int)=(a:Int) by rw[IntKind.wrap_i64];omega]at this;exact this
def YG.X9{a b:Int}(hx:a8 fr x=y4 a)(J:a8 fr y=y4 b)(z:b≠0)(r:qn (a.tdiv b)):YG P (.binOp .quo t x y t') fr Γ (y4 (a.tdiv b)) :=
 YG.v2 hx J fun l w h k d s u c=>by simp[execOp,eqGuard,h,k,binOp,Op.intDiv,z,FV r]
def YG.abo{a b:Int}(hx:a8 fr x=y4 a)(J:a8 fr y=y4 b)(z:b≠0):YG P (.binOp .rem t x y t') fr Γ (y4 (a.tmod b)) :=
 YG.v2 hx J fun l w h k d r u c=>by simp[execOp,eqGuard,h,k,binOp,Op.intDiv,z]
variable{a b:Nat}
def YG.aaf(hx:a8 fr x=.v (.int .u32 (a:Int)))(J:a8 fr y=.v (.int .u32 (b:Int)))(ha:a<4294967296)(B:b<4294967296):YG P (.binOp .and t x y t') fr Γ (.v (.int .u32 ((a &&& b:Nat):Int))) :=
 YG.v2 hx J fun l w h k d r u c=>by
  have M:(BitVec.ofInt 32 (a:Int) &&& BitVec.ofInt 32 (b:Int)).toNat=a &&& b:=by rw[BitVec.toNat_and,B1 ha,B1 B]
  have A:=CM (n:=a &&& b) (Nat.lt_of_le_of_lt Nat.and_le_left ha);exact zaN
def YG.orU(hx:a8 fr x=.v (.int .u32 (a:Int)))(J:a8 fr y=.v (.int .u32 (b:Int)))(ha:a<4294967296)(B:b<4294967296):YG P (.binOp .or t x y t') fr Γ (.v (.int .u32 ((a |||b:Nat):Int))) :=
 YG.v2 hx J fun l w h k d r u c=>by
  have M:(BitVec.ofInt 32 (a:Int) |||BitVec.ofInt 32 (b:Int)).toNat=a |||b:=by rw[BitVec.toNat_or,B1 ha,B1 B]
  have A:=CM (n:=a |||b) (Nat.or_lt_two_pow (n:=32) ha B);exact zaN
def YG.abv(hx:a8 fr x=.v (.int .u32 (a:Int)))(J:a8 fr y=.v (.int .u32 (b:Int)))(ha:a<4294967296)(B:b<4294967296):YG P (.binOp .xor t x y t') fr Γ (.v (.int .u32 ((a ^^^ b:Nat):Int))) :=
 YG.v2 hx J fun l w h k d r u c=>by
  have M:(BitVec.ofInt 32 (a:Int) ^^^ BitVec.ofInt 32 (b:Int)).toNat=a ^^^ b:=by rw[BitVec.toNat_xor,B1 ha,B1 B]
  have A:=CM (n:=a ^^^ b) (Nat.xor_lt_two_pow (n:=32) ha B);exact zaN
def YG.Gt(hx:a8 fr x=.v (.int .u32 (a:Int)))(J:a8 fr y=.v (.int .u32 (b:Int)))(z:1<=b):YG P (.binOp .rem t x y t') fr Γ (.v (.int .u32 ((a%b:Nat):Int))) :=
 YG.v2 hx J fun l w h k d r u c=>by
  have q:(b:Int)≠0:=by omega
  have R:(a:Int).tmod (b:Int)=((a%b:Nat):Int):=by rw[Int.ofNat_tmod]
  simp only[execOp,eqGuard,h,k,binOp,Op.intDiv,D q,R];rfl
def YG.abp{n:Nat}{B:IntKind}(hx:a8 fr x=.v (.int .u32 (a:Int)))(J:a8 fr y=.v (.int B (n:Int)))(hn:n<=31):YG P (.binOp .shl t x y t') fr Γ (.v (.int .u32 ((a*2^n%4294967296:Nat):Int))) :=
 YG.v2 hx J fun l w h k d r u c=>by
  have M:¬((n:Int)<0):=by omega
  have z:Min.min n 32=n:=by omega
  have A:IntKind.u32.wrap ((a:Int)*2^n)=((a*2^n%4294967296:Nat):Int):=by
   have e:(a:Int)*2^n=((a*2^n:Nat):Int):=by rw[Int.natCast_mul,Int.natCast_pow];rfl
   rw[e,IntKind.wrap_u32];generalize a*2^n=q;omega
  simp[execOp,eqGuard,h,k,binOp,Op.shift,M,IntKind.bits,z,A]
end
open Go.Proofs Tryz
attribute [local irreducible] GW GL GO YG GC GA bh bn
def fg(n:Int):GF prog 293 [y4 n] [] (y4 (bD n)) []:=by
 refine aj func293 ntmps293 ?_;refine GL.q (YG.Y4 rfl) ?_;refine bm ?_;refine GL.q (YG.Fg rfl (nc n)) ?_;exact zcy
def kQ(n:Int):GF prog 294 [y4 n] [] (y4 (n%4294967296)) []:=by
 rw[<-O5];refine aj func294 ntmps294 ?_;refine GL.q (YG.tG rfl) ?_;refine bm ?_;refine GL.q (YG.B4 rfl (kd n)) ?_;exact zcy
def sK(b:Bool):GF prog 296 [.v (.bool b)] [] (y4 (oN b)) []:=by
 cases b with
 |true =>
  refine aj func296 ntmps296 ?_;exact aw
 |false =>
  refine aj func296 ntmps296 ?_;exact aw
def XP{x y:Int}(hx:qn x)(J:qn y) : -9223372036854775808<=x*y/\x*y<=9223372036854775807:=by
 unfold qn at hx J;have h:=Int.natAbs_mul x y;have M:x.natAbs*y.natAbs<=2147483648*2147483648:=Nat.mul_le_mul X X;generalize x.natAbs*y.natAbs=m at *;omega
section
variable(a b:Int)
def YN:GF prog 339 [y4 a,y4 b] [] (y4 (KR a b)) []:=by
 unfold KR;have e:=fg a;have d:=fg b;have w:=fg (bD a+bD b);have z:=nc a;have A:=nc b;unfold qn at z A;generalize bD a=x at *;generalize bD b=y at *;refine aj func339 ntmps339 ?_;refine zb0 ?_;exact zbI
def Sm:GF prog 295 [y4 a,y4 b] [] (y4 (EL a b)) []:=by
 unfold EL;have e:=fg a;have d:=fg b;have w:=fg (bD a-bD b);have z:=nc a;have A:=nc b;unfold qn at z A;generalize bD a=x at *;generalize bD b=y at *;refine aj func295 ntmps295 ?_;refine zb0 ?_;exact zbI
def YS:GF prog 340 [y4 a,y4 b] [] (y4 (LG a b)) []:=by
 unfold LG;have e:=fg a;have d:=fg b;have A:=fg (bD a*bD b);have z:=nc a;have w:=nc b;have G:=XP z w;unfold qn at z w;generalize bD a=x at *;generalize bD b=y at *;refine aj func340 ntmps340 ?_;refine zb0 ?_;refine I [] A ?_;exact aw
def VP:GF prog 337 [y4 a,y4 b] [] (.tup [.v (ii (yz a b).1),.v (ii (yz a b).2)]) []:=by
 have r:=Wj a b;unfold yz at r |-;have e:=fg a;have d:=fg b;generalize bD a=x at *;generalize bD b=y at *
 by_cases s:y=0
 ·rw[ae s]
  have A:(y==0)=true:=by simpa using s
  refine aj func337 ntmps337 ?_;refine zb0 ?_;exact dE
 ·rw[D s]at r |-
  have A:(y==0)=false:=by simpa using s
  by_cases M:x = -2147483648
  ·have J:(x == -2147483648)=true:=by simpa using M
   by_cases w:y = -1
   ·have T:(y == -1)=true:=by simpa using w
    rw[ae ⟨M,w⟩];refine aj func337 ntmps337 ?_;refine zb0 ?_;exact dE
   ·have T:(y == -1)=false:=by simpa using w
    rw[D (fun h=>w h.2)]at r |-;exact zcK
  ·have J:(x == -2147483648)=false:=by simpa using M
   rw[D (fun h=>M h.1)]at r |-;exact zcK
def VW:GF prog 338 [y4 a,y4 b] [] (.tup [.v (ii (EI a b).1),.v (ii (EI a b).2)]) []:=by
 unfold EI;have e:=fg a;have d:=fg b;generalize bD a=x at *;generalize bD b=y at *
 by_cases s:y=0
 ·rw[ae s]
  have A:(y==0)=true:=by simpa using s
  refine aj func338 ntmps338 ?_;refine zb0 ?_;exact dE
 ·rw[D s]
  have A:(y==0)=false:=by simpa using s
  refine aj func338 ntmps338 ?_;refine zb0 ?_;refine GL.q (YG.abo rfl rfl s) ?_;refine bm ?_;exact nC
end
def VO(m:Nat):bD ((m%4294967296:Nat):Int)=bD (m:Int):=by unfold bD;split<;>split<;>omega
section
variable(a b:Int)
def TN:GF prog 297 [y4 1,y4 a,y4 b] [] (y4 (oi 1 a b)) []:=by
 have M:=kd b;have o:=kd a
 have G:mN b%32<=31:=by omega
 refine aj func297 ntmps297 ?_;refine zbV ?_;refine GL.q (YG.aaf rfl rfl (kd a) (kd b)) ?_;exact za8
def TO:GF prog 297 [y4 2,y4 a,y4 b] [] (y4 (oi 2 a b)) []:=by
 have M:=kd b;have o:=kd a
 have G:mN b%32<=31:=by omega
 refine aj func297 ntmps297 ?_;refine zbV ?_;refine GL.q (YG.orU rfl rfl (kd a) (kd b)) ?_;exact za8
def Ip:GF prog 297 [y4 3,y4 a,y4 b] [] (y4 (oi 3 a b)) []:=by
 have M:=kd b;have o:=kd a
 have G:mN b%32<=31:=by omega
 refine aj func297 ntmps297 ?_;refine zbV ?_;refine GL.q (YG.abv rfl rfl (kd a) (kd b)) ?_;exact za8
def TP:GF prog 297 [y4 4,y4 a,y4 b] [] (y4 (oi 4 a b)) []:=by
 have M:=kd b;have o:=kd a
 have G:mN b%32<=31:=by omega
 refine aj func297 ntmps297 ?_;refine zbV ?_;refine GL.q (YG.abp rfl rfl X) ?_;refine zaf ?_;refine GL.q (YG.Ey rfl) ?_;rw[VO];refine bm ?_;refine GL.q (YG.Fg rfl (nc _)) ?_;exact zcy
def TQ:GF prog 297 [y4 5,y4 a,y4 b] [] (y4 (oi 5 a b)) []:=by
 have M:=kd b;have o:=kd a
 have G:mN b%32<=31:=by omega
 have s:=fg a;refine aj func297 ntmps297 ?_;refine zbV ?_;refine I [] s ?_;refine GL.q (YG.GK (n:=mN b%32) rfl rfl) ?_;rw[show min (mN b%32) 64=mN b%32 by omega];exact zcy
def Ky:GF prog 341 [y4 1,y4 a,y4 b] [] (.v (.bool (iR 1 a b))) []:=by
 exact zab
def Kz:GF prog 341 [y4 2,y4 a,y4 b] [] (.v (.bool (iR 2 a b))) []:=by
 exact zab
def KA:GF prog 341 [y4 3,y4 a,y4 b] [] (.v (.bool (iR 3 a b))) []:=by
 exact zab
def KB:GF prog 341 [y4 5,y4 a,y4 b] [] (.v (.bool (iR 5 a b))) []:=by
 exact zab
def KC:GF prog 341 [y4 7,y4 a,y4 b] [] (.v (.bool (iR 7 a b))) []:=by
 exact zab
def KD:GF prog 341 [y4 9,y4 a,y4 b] [] (.v (.bool (iR 9 a b))) []:=by
 exact zab
end
def PC(o:ai)(a:Int)(h:o=[45]\/o=[33]\/o=[126]):GF prog 228 [.v (sv o),y4 a] [] (y4 (YC o a)) []:=by
 rcases h with rfl|rfl|rfl
 ·have S:=Sm 0 a;exact zd3
 ·have S:=sK (a==0);exact zd3
 ·have S:=Ip a (-1);exact zd3
def rb:List ai:=[[47],[37],[43],[45],[42],[61,61],[33,61],[60],[62],[60,61],[62,61],[38],[124],[94],[60,60],[62,62]]
def KX(o:ai)(a b:Int)(h:o∈rb):GF prog 298 [.v (sv o),y4 a,y4 b] [] (.tup [.v (ii (ra o a b).1),.v (ii (ra o a b).2)]) []:=by
 unfold rb at h;simp only[List.mem_cons,List.not_mem_nil,or_false]at h
 rcases h with rfl|rfl|rfl|rfl|rfl|rfl|rfl|rfl|rfl|rfl|rfl|rfl|rfl|rfl|rfl|rfl
 ·have S:=VP a b;exact zbn
 ·have S:=VW a b;exact zbn
 ·have S:=YN a b;exact zbn
 ·have S:=Sm a b;exact zbn
 ·have S:=YS a b;exact zbn
 ·have N:GF _ _ _ _ (y4 0) _:=gz [[61,61],[33,61],[60],[],[62],[],[60,61],[],[62,61]] [61,61] aN;have S:=Ky a b;have z:=sK (iR 1 a b);exact zal
 ·have N:GF _ _ _ _ (y4 1) _:=gz [[61,61],[33,61],[60],[],[62],[],[60,61],[],[62,61]] [33,61] aN;have S:=Kz a b;have z:=sK (iR 2 a b);exact zal
 ·have N:GF _ _ _ _ (y4 2) _:=gz [[61,61],[33,61],[60],[],[62],[],[60,61],[],[62,61]] [60] aN;have S:=KA a b;have z:=sK (iR 3 a b);exact zal
 ·have N:GF _ _ _ _ (y4 4) _:=gz [[61,61],[33,61],[60],[],[62],[],[60,61],[],[62,61]] [62] aN;have S:=KB a b;have z:=sK (iR 5 a b);exact zal
 ·have N:GF _ _ _ _ (y4 6) _:=gz [[61,61],[33,61],[60],[],[62],[],[60,61],[],[62,61]] [60,61] aN;have S:=KC a b;have z:=sK (iR 7 a b);exact zal
 ·have N:GF _ _ _ _ (y4 8) _:=gz [[61,61],[33,61],[60],[],[62],[],[60,61],[],[62,61]] [62,61] aN;have S:=KD a b;have z:=sK (iR 9 a b);exact zal
 ·have N:GF _ _ _ _ (y4 (-1)) _:=gz [[61,61],[33,61],[60],[],[62],[],[60,61],[],[62,61]] [38] aN;have V:GF _ _ _ _ (y4 0) _:=gz [[38],[124],[94],[60,60],[62,62]] [38] aN;have S:=TN a b;exact zaq
 ·have N:GF _ _ _ _ (y4 (-1)) _:=gz [[61,61],[33,61],[60],[],[62],[],[60,61],[],[62,61]] [124] aN;have V:GF _ _ _ _ (y4 1) _:=gz [[38],[124],[94],[60,60],[62,62]] [124] aN;have S:=TO a b;exact zaq
 ·have N:GF _ _ _ _ (y4 (-1)) _:=gz [[61,61],[33,61],[60],[],[62],[],[60,61],[],[62,61]] [94] aN;have V:GF _ _ _ _ (y4 2) _:=gz [[38],[124],[94],[60,60],[62,62]] [94] aN;have S:=Ip a b;exact zaq
 ·have N:GF _ _ _ _ (y4 (-1)) _:=gz [[61,61],[33,61],[60],[],[62],[],[60,61],[],[62,61]] [60,60] aN;have V:GF _ _ _ _ (y4 3) _:=gz [[38],[124],[94],[60,60],[62,62]] [60,60] aN;have S:=TP a b;exact zaq
 ·have N:GF _ _ _ _ (y4 (-1)) _:=gz [[61,61],[33,61],[60],[],[62],[],[60,61],[],[62,61]] [62,62] aN;have V:GF _ _ _ _ (y4 4) _:=gz [[38],[124],[94],[60,60],[62,62]] [62,62] aN;have S:=TQ a b;exact zaq
end Go.Xg
set_option maxHeartbeats 2000000
namespace Go.Xg
open Go.RowKit Go.Xw Go.Proofs
section
variable{P:Program}{m:Nat}{Q:dU}{fr:am}{Γ:ap}{ops:Array Oper}{rest:List Oper}{d:Option Tmp}{ty:TypeId}{pos:String}{af:Array Edge}
def YG.abb{x y:Operand}{t e:TypeId}{k:Nat}[z:lN P t e k]{b o n c:Nat}{A:IntKind}{q:Nat}(hx:a8 fr x=.v (.slice (some ⟨b,o,none⟩) n c))(J:a8 fr y=.v (.int A q))(r:q<n):YG P (.indexAddr t x y) fr Γ (.v (.pointer (some ⟨b,o+q*k,none⟩))):=fun B K s w l N S =>
 ⟨_,R.jM (S.eT hx) (S.eT J) r,.v _⟩
def YG.ldQ{x:Operand}{t:TypeId}[hT:Ty P t false 1](i j:Nat){b idx n c E:Nat}{N:ap}{rows:List am}{u:Value}(hx:a8 fr x=.v (.pointer (some ⟨b,idx,none⟩)))(z:Γ[i]?=some (blob N))(G:N[j]?=some (.vech E 1 rows (.slice (some ⟨b,0,none⟩) n c)))(T:rows[idx]?=some [.v u]):YG P (.load t x) fr Γ (.v u):=fun B K β w l F C=>by
 have⟨h,e,M,S⟩:=F.ob i _ z;obtain⟨O,xs,q,k⟩:=S.own w (fun b o H=>(M b o H).1) j E 1 rows _ G;have⟨v,r,s⟩:=k.at (se O T (j:=0) rfl);have:=Rel.eP s;subst this;obtain⟨V,W,L,_,_,J⟩:=q.cells.2 (by intro A;rw[A]at r;simp at r);cases L;refine⟨_,R.ld (C.eT hx) (by rw[<-fY];exact J _ _ zfH),.v _⟩
def Gs{K:Fz}{β:Bt}{u:Value}{g:GV}(n:Rel K β u g):∀(vs:List Value)(cs:am)(q:Nat),bA K β vs cs->bA K β (eV vs q u) (bU cs q g)
 |[],cs,q,h=>by have:cs=[]:=jF h.1.symm;subst this;exact h
 |v::vs,[],q,h=>by have:=h.1;simp at this
 |v::vs,c::cs,0,h=>by have⟨a1,M⟩:=h.nQ;exact .cons n M
 |v::vs,c::cs,q+1,h=>by have⟨a1,M⟩:=h.nQ;exact .cons a1 (Gs n vs cs q M)
def TZ{N:ap}{j:Nat}{x y:Ob}(h:N[j]?=some x)(v:MF y=MF x):jh (N.set j y)=jh N:=by
 funext i
 unfold jh;rw[ik]
 by_cases t:j=i
 ·subst t;rw[ae rfl,ae (bR h).1,h];exact v
 ·rw[D t]
def GL.stQ{x y:Operand}{t:TypeId}[hT:Ty P t false 1](i j:Nat){b idx n c E:Nat}{N:ap}{rows:List am}{u:Value}(hx:a8 fr x=.v (.pointer (some ⟨b,idx,none⟩)))(vG:Γ[i]?=some (blob N))(hN:N[j]?=some (.vech E 1 rows (.slice (some ⟨b,0,none⟩) n c)))(hr:idx<rows.length)(hy:a8 fr y=.v u)(hu:Cw u=true)
  (h:GL P m ops Q rest (bN fr d (.v undef)) (oset Γ i (blob (N.set j (.vech E 1 (dw rows idx 0 (.v u)) (.slice (some ⟨b,0,none⟩) n c)))))):GL P m ops Q (⟨d,.store t x y,ty,pos,af,none⟩::rest) fr Γ:=fun B K β w l hm F hF=>by
 have⟨A,e,hh,T⟩:=F.ob i _ vG
 have hbk:∀q,(β i).has q↔(A q).isSome=true:=fun q=>by rw[e];exact Iff.rfl
 obtain⟨hk,xs,how,Xe⟩:=T.own w (fun b o hb=>(hh b o hb).1) j E 1 rows _ hN
 have hjb:(jh N j).has b:=by rw[vo hN];rfl
 have S3:(A b).isSome=true:=(T.dom b).2 ⟨j,hjb⟩
 rcases how.2 with⟨e5,e6⟩|⟨g0,cap,cur,e5,W,hg,DA,zp,pf,NY⟩
 ·cases e5
 ·have e5':=e5
  injection e5 with e6 e7 e8
  injection e6 with e6
  injection e6 with e6 _ _
  subst e6;subst e7;subst e8
  have hq:idx<rows.length*1:=by omega
  refine WL.st (t:=t) (k:=1) (hF.eT hx) rfl hg (by rw[hF.eT hy];have:=(lX hu).1;rw[this];rfl) X (by rw[hF.eT hy,(lX hu).1];have:=(lX hu).2;simpa[Xw.lI]using this) fun w' O=>?_
  rw[hF.eT hy]at O
  have AU:setL cur idx u.cells.toList=(eV cur.toList idx u).toArray:=by
   rw[(lX hu).1];simp only[setL];rw[<-yl]
  rw[AU]at O
  have aaY:∀w2:World,w2.heap[b]?=w'.heap[b]?->gT w2 0 E 1 (.slice (some ⟨b,0,none⟩) rows.length c) (dw rows idx 0 (.v u)).length (eV xs idx u):=fun w2 C=>by
   rw[eb];exact⟨by rw[qP];exact how.1,.inr ⟨b,c,_,rfl,W,by rw[C];exact O.blk,DA,zp,by simp[qP,pf],by rw[List.toList_toArray,Ax _ _ _ X,NY]⟩⟩
  have Zk:bA (fun _ _=>none) (fun _=>.no) (eV xs idx u) (dw rows idx 0 (.v u)).flatten:=by
   rw[si X hk hr,Nat.mul_one,Nat.add_zero];exact Gs (.v u) _ _ _ Xe
  let J:Nat->Option Obj:=fun q=>if q=b then w'.heap[b]? else A q
  have L:J b=w'.heap[b]?:=ae rfl
  have M:∀q,q≠b->J q=A q:=fun q h=>D h
  have R:∀q,(J q).isSome=(A q).isSome:=fun q=>by
   by_cases s:q=b
   ·subst s;rw[L,O.blk,S3];rfl
   ·rw[M q s]
  have SU:=TZ (y:=.vech E 1 (dw rows idx 0 (.v u)) (.slice (some ⟨b,0,none⟩) rows.length c)) hN (by simp only[MF,eb])
  have Xa:Pk (N.set j (.vech E 1 (dw rows idx 0 (.v u)) (.slice (some ⟨b,0,none⟩) rows.length c))) J:=by
   refine⟨fun z hz=>?_,fun a a' q h1 C=>?_,fun q=>?_,fun w2 N1 a E' k' rows' x' S=>?_⟩
   ·rcases List.mem_or_eq_of_mem_set hz with hz|rfl
    ·exact T.plain z hz
    ·have xr:=T.plain _ (bB hN);show ∀r∈dw rows idx 0 (.v u),∀g∈r,∃x,g=GV.v x;intro r NU g G
     have:∀(rows:List am)(i:Nat),(∀r∈rows,∀g∈r,∃x,g=GV.v x)->r∈dw rows i 0 (.v u)->∃x,g=GV.v x:=by
      intro rows
      induction rows with
      |nil=>intro i _ h;cases h
      |cons a rows ih =>
       intro i h C
       cases i with
       |zero =>
        rw[dw]at C
        rcases ln C with rfl|C
        ·rcases FH G with h3|h3
         ·exact h a List.mem_cons_self g h3
         ·exact⟨u,h3⟩
        ·exact h r (ew _ C) g G
       |succ i =>
        rw[dw]at C
        rcases ln C with rfl|C
        ·exact h _ List.mem_cons_self g G
        ·exact ih i (fun r hr=>h r (ew _ hr)) C
     exact this rows idx xr NU
   ·rw[SU]at h1 C;exact T.dis a a' q h1 C
   ·rw[R,SU];exact T.dom q
   ·by_cases haj:a=j
    ·subst haj;rw[List.getElem?_set_self (bR hN).1]at S;cases S;refine⟨vZ rfl hk,_,aaY w2 ?_,Zk⟩;rw[O.blk];exact N1 b _ (by rw[L,O.blk])
    ·rw[List.getElem?_set_ne (fun h=>haj h.symm)]at S;obtain⟨a1,ys,a2,a3⟩:=T.own w (fun b o hb=>(hh b o hb).1) a E' k' rows' x' S;refine⟨a1,ys,Gk a2 fun q o' s ho'=>?_,a3⟩
     have hab:(jh N a).has q:=by rw[vo S];exact s
     have FM:q≠b:=fun h=>by subst h;exact haj (T.dis a j q hab hjb)
     have⟨y',V⟩:=Option.isSome_iff_exists.1 ((T.dom q).2 ⟨a,hab⟩);have:=(hh q y' V).1;rw[ho']at this;cases this;exact N1 q _ (by rw[M q FM];exact V)
  have WW:(β i).has b:=(hbk b).2 S3
  have SR:∀o,K b o=none:=by
   have⟨y',V⟩:=Option.isSome_iff_exists.1 S3;exact(hh b y' V).2
  have hI':Inv B K β (oset Γ i (blob (N.set j (.vech E 1 (dw rows idx 0 (.v u)) (.slice (some ⟨b,0,none⟩) rows.length c))))) w':=by
   refine⟨F.ext.step O.ext (fun j H=>?_),F.kle,F.ble,F.loc,F.fz.ext O.ext (fun q o' g' G he=>?_),fun a y H=>?_,fun a H=>F.out a (by simpa[bS]using H),F.dis,F.own,F.kn,F.tab.step O.ext (fun a H=>⟨i,by subst H;exact WW⟩) (cY.refl K) (fun i b2 h=>.inl ⟨i,h⟩)⟩
   ·subst H;exact(F.own i _ WW).symm
   ·subst he;rw[SR]at G;cases G
   ·rw[bS,ik]at H;split at H
    ·rename_i Jm;split at H
     ·cases H;subst Jm
      refine⟨J,?_,fun q o' s=>?_,Xa⟩
      ·rw[e]
       congr 1
       funext q
       rw[R]
      ·by_cases vF:q=b
       ·subst vF;rw[L]at s;exact⟨s,SR⟩
       ·rw[M q vF]at s;have⟨h1,C⟩:=hh q o' s;exact⟨O.ext.blk h1 (fun h=>vF h),C⟩
     ·cases H
    ·rename_i Jm;refine(F.ob a y H).ext O.ext (fun q s he=>?_) (cY.refl K) (dO.refl β) rfl (fun _ _ _ h=>h);subst he;exact Jm (F.dis i a _ WW s)
  exact h B K β w' _ hm hI' (hF.put d (.v _))
end
end Go.Xg
namespace Go.Xw
open Go.RowKit
section
variable{P:Program}(w:World)(t o ty e:TypeId)(i:TypeInfo)(z:Value)
theorem v8(k b:IntKind)(r:P.underlying t=some (.slice e))(S:P.underlying o=some (.int b))(hi:P.info? e=some i)(s:i.zero=some z)
  (m:Nat)(u:0<m)(q:i.size=1)(n:(m:Int)<=9223372036854775807)(T:m*i.bytes<=281474976710656) :
  (Builtin.append_ #[t,o] ty #[.slice none 0 0,.int k m]).run P w =
   .ok (.slice (some ⟨w.heap.size,0,none⟩) m (grownCap w m 0 e)) (w.drew.alloc (.cells (Builtin.zeroCells z.cells m++Builtin.zeroCells z.cells (grownCap w m 0 e-m)) e)):=by
 have V:m≠0:=by omega
 have W:IntKind.i64.wrap (m:Int)=m:=by rw[IntKind.wrap_i64];omega
 have A:¬(9223372036854775807<(m:Int)):=by omega
 have N:¬(281474976710656<Builtin.nextslicecap m 0*i.bytes):=by grind[nextslicecap_zero]
 have R:¬(281474976710656<(m:Int)*(i.bytes:Int)):=by omega
 have B:¬((m:Int)<0):=by omega
 simp[Builtin.append_,run_underlying r,run_underlying S,sizeOf,typeInfo,zeroValue,hi,s,q,asInt,asIntOf,W,V,B,A,N,R,Question.forced,run_firstCells_none,newRow,grownCap]
def v7(v c:IntKind)(s:P.underlying t=some (.slice e))(S:P.underlying o=some (.int c))(hi:P.info? e=some i)(u:i.zero=some z)
  (base:Option Addr)(n E:Nat)(V:List Value)(G:(Builtin.firstCells 1 n (.slice base n E)).run P w.drew=.ok V.toArray w.drew)
  (m:Nat)(C:0<m)(r:i.size=1)(hg:E<n+m)(q:((n+m:Nat):Int)<=9223372036854775807)(T:m*i.bytes<=281474976710656)(j:Builtin.nextslicecap (n+m) E*i.bytes<=281474976710656) :
  (Builtin.append_ #[t,o] ty #[.slice base n E,.int v m]).run P w =
   .ok (.slice (some ⟨w.heap.size,0,none⟩) (n+m) (grownCap w (n+m) E e)) (w.drew.alloc (.cells (V.toArray++Builtin.zeroCells z.cells m++Builtin.zeroCells z.cells (grownCap w (n+m) E e-(n+m))) e)):=by
 have k:m≠0:=by omega
 have b:IntKind.i64.wrap (m:Int)=m:=by rw[IntKind.wrap_i64];omega
 have W:¬(n+m<=E):=by omega
 have A:¬(9223372036854775807<((n:Int)+(m:Int))):=by omega
 have N:¬(281474976710656<Builtin.nextslicecap (n+m) E*i.bytes):=by omega
 have R:¬(281474976710656<(m:Int)*(i.bytes:Int)):=by omega
 have B:¬((m:Int)<0):=by omega
 simp[Builtin.append_,run_underlying s,run_underlying S,sizeOf,typeInfo,zeroValue,hi,u,r,asInt,asIntOf,b,k,W,B,A,N,R,Question.forced,G,newRow,grownCap]
end
def wa{P:Program}{w:World}(t o ty e:TypeId)(i:TypeInfo)(z u:Value)(k c:IntKind)(s:P.underlying t=some (.slice e))(S:P.underlying o=some (.int c))(hi:P.info? e=some i)(C:i.zero=some z)(T:z.cells=#[u])(G:u.oneCell'=true)(r:i.size=1)
  (g v n m:Nat)(cur:Array Value)(hg:w.heap[g]?=some (.cells cur e (0,0)))(F:0<m)(q:(m:Int)<=9223372036854775807)(V:m*i.bytes<=281474976710656)
  (J:v+m<=n)(j:v+m<=cur.size) :
  (Builtin.append_ #[t,o] ty #[.slice (some ⟨g,0,none⟩) v n,.int k m]).run P w =
   .ok (.slice (some ⟨g,0,none⟩) (v+m) n) (w.setRow g (cur.toList.take v++List.replicate m u++cur.toList.drop (v+m)).toArray):=by
 have W:m≠0:=by omega
 have b:IntKind.i64.wrap (m:Int)=m:=by rw[IntKind.wrap_i64];omega
 have R:¬(281474976710656<(m:Int)*(i.bytes:Int)):=by
  omega
 have A:¬((m:Int)<0):=by omega
 have B:(Builtin.zeroCells #[u] m).toList=List.replicate m u:=by
  unfold Builtin.zeroCells;rw[Array.toList_map,Array.toList_range];simp[List.size_toArray,List.length_singleton,Nat.mul_one,Nat.mod_one,List.eq_replicate_iff,uY]
 have E:=run_storeCells_at P g v e (List.replicate m u) 0 cur w hg ze3 (fun x hx=>by grind);simp only[Nat.add_zero,length_replicate]at E;simp[Builtin.append_,run_underlying s,run_underlying S,sizeOf,typeInfo,zeroValue,hi,C,r,asInt,asIntOf,b,W,A,R,J,Addr.add_lit,T,B,E]
section
variable{P:Program}{Q:ma}{l:List Value}{w:World}{ops:Array Oper}{rest:List Oper}{d:Option Tmp}{ty:TypeId}{pos:String}{af:Array Edge}
theorem P2{u:Value}(m:Nat):Builtin.zeroCells #[u] m=(List.replicate m u).toArray:=by
 grind[Builtin.zeroCells]
theorem WL.aag{s x:Operand}{t O e M:Nat}{u:Value}{V W:IntKind}[hT:nF P t e 1 M][hZ:og P t e 1 [u]](J:P.underlying O=some (.int V)){base n m:Nat}{xs:List Value}{v:Value}(hs:ev l s=v)(c:gT w base e 1 v n xs)
  (hx:ev l x=.int W (m:Int))(h0:0<m)(hu:u.oneCell'=true)(h63:n+m<=9223372036854775807)(R:(n+m)*M<=140737488355328)(E:base<=w.heap.size)
  (h:∀v' w',gT w' base e 1 v' (n+m) (xs++List.replicate m u)->Ext (fun b=>v.ownBlock=some b) w w'->(∀b,v'.ownBlock=some b->v.ownBlock=some b\/w.heap.size<=b)->WL P ops Q rest (put l d v') w') :
  WL P ops Q (⟨d,.call ⟨.builtin .append,#[s,x],#[t,O]⟩,ty,pos,af,none⟩::rest) l w:=by
 have⟨L,⟨i,z,S,T,N5,H,SV⟩,hk⟩:=hT.parts
 have hzc:z.cells=#[u]:=by
  have h4:=hZ.zero;rw[S]at h4;simp only[Option.bind_some,T,Option.some.injEq,if_true,headD_cons]at h4;rw[h4];exact hZ.one rfl
 have S3:m*i.bytes<=140737488355328:=by grind
 have A:∀(r:Nat),r<n+m->gT (w.drew.alloc (.cells (xs.toArray++Builtin.zeroCells z.cells m++Builtin.zeroCells z.cells (grownCap w (n+m) r e-(n+m))) e)) base e 1 (.slice (some ⟨w.heap.size,0,none⟩) (n+m) (grownCap w (n+m) r e)) (n+m) (xs++List.replicate m u):=fun r ho=>by
  have NS:=grownCap_ge w (n+m) r e;have F:grownCap w (n+m) r e<=maxLen:=grownCap_le_maxLen w (n+m) r e zfh;have hxl:=c.1;refine⟨by grind,.inr ⟨w.heap.size,_,_,rfl,E,heap_alloc_new w.drew _,NS,F,?_,?_⟩⟩
  ·grind[Builtin.zeroCells,Value.cells,grownCap]
  grind[P2,Array.toList_append,gS,bf,length_replicate,List.take_left]
 have B:∀o,Ext (fun b=>v.ownBlock=some b) w (w.drew.alloc o):=fun o=>⟨rfl,rfl,rfl,by simp,fun k hk _=>Below.heap_alloc _ _ _ (by simp_all)⟩
 have aby:=c
 rcases c.2 with⟨rfl,rfl⟩|⟨g,q,cur,rfl,NO,hg,DA,F,AU,abA⟩
 ·have Xq:xs=[]:=jF (by simpa using c.1);subst Xq;have N:=v8 (P:=P) w t O ty e i z W V L J S T m h0 H ze4 ze4;have hgr:=A 0 ze4;simp only[iX,nil_append,Array.empty_append]at hgr;refine WL.val (v:=.slice (some ⟨w.heap.size,0,none⟩) m (grownCap w m 0 e)) (w':=w.drew.alloc (.cells (Builtin.zeroCells z.cells m++Builtin.zeroCells z.cells (grownCap w m 0 e-m)) e)) zfj (h _ _ ze3 (B _) fun b hb=>?_)
  exact zbJ
 ·by_cases C:n+m<=q
  ·have N:=wa (P:=P) (w:=w) t O ty e i z u W V L J S T hzc hu H g n q m cur hg h0 ze4 ze4 C ze4;have W4:=c.1;refine WL.val (v:=.slice (some ⟨g,0,none⟩) (n+m) q) (w':=w.setRow g (cur.toList.take n++List.replicate m u++cur.toList.drop (n+m)).toArray) zfj (h _ _ ⟨by grind,.inr ⟨g,q,_,rfl,NO,setRow_heap w g cur _ e _ hg,C,F,?_,?_⟩⟩ ⟨rfl,rfl,rfl,by simp,fun k _ hk=>setRow_other w g k _ (fun e=>hk (by simp[Value.ownBlock,e]))⟩ fun b hb=>.inl hb)
   ·grind
   grind
  ·have G:∀j u,xs[j]?=some u->w.cell? ((⟨g,0,none⟩:Addr).add j)=some u:=World.ownsRow.cells (g:=g) c rfl;have hf:=run_firstCells_some (P:=P) w.drew 1 n ⟨g,0,none⟩ n q xs c.1 G;have N:=v7 (P:=P) w t O ty e i z W V L J S T (some ⟨g,0,none⟩) n q xs ze4 m h0 H ze4 ze4 ze4 (growslice_fits ze4 ze3);refine WL.val (v:=.slice (some ⟨w.heap.size,0,none⟩) (n+m) (grownCap w (n+m) q e)) (w':=w.drew.alloc (.cells (xs.toArray++Builtin.zeroCells z.cells m++Builtin.zeroCells z.cells (grownCap w (n+m) q e-(n+m))) e)) zfj (h _ _ (A q ze4) (B _) fun b hb=>?_)
   exact zbJ
end
end Go.Xw
namespace Go.Xg
open Go.RowKit Go.Xw Go.Proofs
section
variable{P:Program}{m:Nat}{Q:dU}{fr:am}{Γ:ap}{ops:Array Oper}{rest:List Oper}{d:Option Tmp}{ty:TypeId}{pos:String}{af:Array Edge}
theorem GL.YY{s x:Operand}{t tn e A:Nat}{u:Value}{kn kq:IntKind}[hT:nF P t e 1 A][hZ:og P t e 1 [u]][hN:np P tn kn](i:Nat){n q:Nat}{G:Tmp}{R:Option Addr}{S:Nat}{rows:List am}(hx:a8 fr x=.v (.int kq (q:Int)))(hs:a8 fr s=.v (.slice R n S))
  (k:Γ[i]?=some (.vech e 1 rows (.slice R n S)))(hn:rows.length=n)(h0:0<q)(hu:Cw u=true)(V:n+q<=9223372036854775807/\(n+q)*A<=140737488355328)
  (h:∀a c,GL P m ops Q rest (bN fr (some G) (.v (.slice a (n+q) c))) (oset Γ i (.vech e 1 (rows++List.replicate q [.v u]) (.slice a (n+q) c)))) :
  GL P m ops Q (⟨some G,.call ⟨.builtin .append,#[s,x],#[t,tn]⟩,ty,pos,af,none⟩::rest) fr Γ:=fun B K β w l hm T H=>by
 subst hn;have⟨xs,o1,W,o3,o4,o5⟩:=T.ob i _ k;have N:=H.eT hs;have O:=H.eT hx
 refine WL.aag (base:=0) (n:=rows.length) (m:=q) (xs:=xs) hN.und N W O h0 (by simp_all[lX,Xw.lI]) V.1 V.2 (bg _) fun v' w' M E L=>?_
 have J:(List.replicate q [GV.v u]).flatten=(List.replicate q u).map .v:=by
  simp
 have hk:fM 1 (List.replicate q [GV.v u]):=fun r hr=>by
  grind[GV.pc]
 obtain⟨K',hK,F,C⟩:=(T.wm k).grow (fz:=0) (nz k) o1 ⟨W,o3⟩ (news:=List.replicate q [.v u]) (ns:=List.replicate q u) ze3 E L (by rw[J];exact bA.self) hk ze3 (fun b Jk o v ho hv=>by omega);rw[<-bS,lY]at C;have⟨a,c,j,z⟩:=C.sw (nz k);rw[lY]at z;obtain⟨a',c',rfl⟩:=M.shape;rw[bH]at j;simp only[bf,length_replicate]at j z F;cases j;exact h _ _ B K' _ w' _ hm z ((H.mono hK F).put (some G) (.v _))
theorem GL.abh{x:Operand}{t e k u:Nat}{z:List Value}[hT:nF P t e k u][E:og P t e k z]{J:Tmp}{n:Nat}(hx:a8 fr x=y4 (n:Nat))(hb:n<=1099511627776/\u*n<=281474976710656)
  (h:∀b c,GL P m ops Q rest (bN fr (some J) (.v (.slice (some ⟨b,0,none⟩) n c))) (Γ++[.vech e k (List.replicate n (gB z)) (.slice (some ⟨b,0,none⟩) n c)])) :
  GL P m ops Q (⟨some J,.makeSlice t x x,ty,pos,af,none⟩::rest) fr Γ:=fun B K β w l hm hI W=>by
 have⟨hu,⟨i,T,hi,hz,N5,R,SV⟩,hk⟩:=hT.parts;have S:ev l x=ii (n:Nat):=W.eT hx;obtain⟨w',hr,V,A⟩:=run_make_full (P:=P) (w:=w) 0 t e i T k hu hi hz R .i64 .i64 n ze3 zfh (bg _)
 have Xr:T.cells.toList=z:=by
  have H:=E.zero;rw[hi]at H;simp only[Option.bind_some,hz,Option.some.injEq]at H;have hl:=E.zl
  by_cases L:k=1
  ·rw[ae L]at H;rw[H,E.one L];subst L
   match z,hl with
   |[a],_=>rfl
  grind[Value.cells]
 have o:(madeCells T.cells (n*k)).toList=(List.range (n*k)).map fun j=>z.getD (j%k) undef:=by
  unfold madeCells;rw[Array.toList_map,Array.toList_range]
  grind[List.map_congr_left,Nat.mod_lt,Array.getElem?_eq_getElem]
 rw[o]at V;have s:=BE (K:=K) (β:=β) (n:=n) E.zl E.pos;rw[<-Ku]at s
 have N:fM k (List.replicate n (gB z)):=fun r hr=>by
  grind[gB,uY,GV.pc]
 have F:Ext gn w w':=⟨A.os,A.tape,A.output,A.size,fun j hj _=>A.block j hj ze6⟩;have M:=hI.BP (x:=.slice (some ⟨w.heap.size,0,none⟩) n n) (rows:=List.replicate n (gB z)) F (by rw[length_replicate];exact V) (fun b hb=>by cases hb;simp) s N
 have G:(Γ++[Ob.vec e k 0 (List.replicate n (gB z))])[Γ.length]?=some (Ob.vec e k 0 (List.replicate n (gB z))):=by simp
 have⟨a,c,q,C⟩:=M.sw G;rw[bH]at q
 injection q with Du vF
 injection Du with NN hb4 hb5
 subst NN hb5
 have O:oset (Γ++[.vec e k 0 (List.replicate n (gB z))]) Γ.length (.vech e k (List.replicate n (gB z)) (.slice (some ⟨w.heap.size,0,none⟩) (List.replicate n (gB z)).length n))=Γ++[.vech e k (List.replicate n (gB z)) (.slice (some ⟨w.heap.size,0,none⟩) (List.replicate n (gB z)).length n)]:=by
  rw[bS];simp
 rw[O,length_replicate]at C;exact zba
variable{x y:Operand}{t t':TypeId}
def YG.QC[z:uZ P t]{a:Option Addr}(hx:a8 fr x=.v (.pointer a))(J:a8 fr y=.v (.pointer none)):YG P (.binOp .eql t x y t') fr Γ (.v (.bool a.isNone)):=fun B K n w l N S=>by
 have⟨e,j,M,A⟩:=z.und
 have C:P.pointee t=e:=by simp[Program.pointee,M]
 have:=run_eql_pointer_nil (P:=P) w t a ze3;exact zdn
def YG.XR[z:uZ P t]{a:Option Addr}(hx:a8 fr x=.v (.pointer a))(J:a8 fr y=.v (.pointer none)):YG P (.binOp .neq t x y t') fr Γ (.v (.bool a.isSome)):=fun B K n w l N S=>by
 have⟨e,j,M,A⟩:=z.und
 have C:P.pointee t=e:=by simp[Program.pointee,M]
 have:=run_neq_pointer_nil (P:=P) w t a ze3;exact zdn
theorem YG.Yr{x lo:Operand}{t e:TypeId}{k:Nat}[A:lN P t e k]{rows:List am}{E:IntKind}{i:Nat}(hx:a8 fr x=.sl k rows)(C:a8 fr lo=.v (.int E (i:Int)))(hi:i=rows.length)(s:0<i):YG P (.slice t x (some lo) none none) fr Γ (.sl k []):=fun B K q w l N S=>by
 have h:=S.ev x;rw[hx]at h;have z:=S.eT C;generalize T:ev l x=v at h
 cases h with
 |sl0 a c=>grind
 |sl b o c _ _ h n =>
  have V:(i:Int)<=(rows.length:Int):=by omega
  by_cases u:c=i
  ·refine⟨.slice (some ⟨b,o,none⟩) 0 0,fun d ty pos af=>?_,.sl0 _ _ _⟩;subst u;simp[execOp,Instr.sliceAt,Instr.slice,Instr.sliceBounds,Instr.sliceBound,asIntOf,T,z,run_underlying A.und,iw A.siz,hi,qs]
  ·refine⟨.slice (some ⟨b,o+i*k,none⟩) 0 (c-i),fun d ty pos af=>?_,.sl0 _ _ _⟩;simp[execOp,Instr.sliceAt,Instr.slice,Instr.sliceBounds,Instr.sliceBound,asIntOf,T,z,run_underlying A.und,iw A.siz,u,n,<-hi,qs]
def YG.Yq{x lo:Operand}{t e:TypeId}{k:Nat}[z:lN P t e k]{r:am}{rows:List am}{A:IntKind}(hx:a8 fr x=.sl k (r::rows))(B:a8 fr lo=.v (.int A 1)):YG P (.slice t x (some lo) none none) fr Γ (.sl k rows):=by
 cases rows with
 |nil=>exact YG.Yr (i:=1) hx B rfl aN
 |cons a rows=>exact YG.TA (i:=1) hx B rfl
theorem YG.Zp{e:TypeId}[z:lN P t e 1]{b n c:Nat}{A:IntKind}{q:Nat}(hx:a8 fr x=.v (.slice (some ⟨b,0,none⟩) n c))(J:a8 fr y=.v (.int A (q:Int)))(o:q<n):YG P (.indexAddr t x y) fr Γ (.v (.pointer (some ⟨b,q,none⟩))):=by
 have:=YG.abb (P:=P) (Γ:=Γ) (t:=t) (k:=1) (q:=q) hx J o
 grind
def YG.XU{a:Addr}(hx:a8 fr x=.v (.pointer (some a))):YG P (.nilCheck x) fr Γ (.v (.pointer (some a))):=fun B K n w l N S=>⟨_,R.EE (S.eT hx),.v _⟩
end
end Go.Xg
set_option maxHeartbeats 4000000
namespace Go.Xg
open Go.RowKit Go.Xw Go.Proofs Tryz Go.Im Go.Mn
open Go.Xp (Nd Ar)
open Go.Sp (Src)
attribute [local irreducible] GW GL GO YG GC GA bh bn
instance:uZ prog 234:=uZ.mk' (e:=3) (aL) (aL)
abbrev cm(l:List Int):List am:=l.map fun i=>[y4 i]
def xS(xs:List ai)(s:ai):idxOf xs s=bM (fun x=>x==s) xs:=by
 unfold idxOf bM
 have:(fun x:ai=>s==x)=fun x=>x==s:=by funext x;exact BEq.comm
 rw[this]
 cases findIdx? (fun x=>x==s) xs<;>rfl
structure MH where
 ag:Option Addr
 cg:Nat
 ac:Option Addr
 cc:Nat
 hs:List (Nat × Nat)
def FI(row:List Int)(h:Nat × Nat):Value:=.slice (some ⟨h.1,0,none⟩) row.length h.2
def uF(row:List Int)(h:Nat × Nat):am:=[.v (FI row h)]
def uy(row:List Int)(h:Nat × Nat):Ob:=.vech 3 1 (cm row) (FI row h)
def dD(p:Src)(own:List Int)(F:Nat)(H:MH)(s:M):Ob:=.box 64 [strs p.ax,.sl 2 (p.aq.map bb),.sl 3 (p.ak.map aH),.sl 5 (p.ah.map aP),ints own,ints s.inp,y4 (F:Nat),
 y4 s.fin,y4 s.why,y4 0,.vec 1 s.out.length,y4 (s.a7:Nat),.v (.slice H.ag s.cN.length H.cg),.v (.slice H.ac s.cells.length H.cc),y4 (s.aX:Nat)]
def pB(s:M):Ob:=.vec 3 1 0 (cm s.out)
def qV(H:MH)(s:M):Ob:=.vech 3 1 (cm s.cN) (.slice H.ag s.cN.length H.cg)
def qv(H:MH)(s:M):Ob:=.vech 29 1 (List.zipWith uF s.cells H.hs) (.slice H.ac s.cells.length H.cc)
def r6(H:MH)(s:M):Ob:=blob (List.zipWith uy s.cells H.hs)
def pe(al:Option Addr)(cl:Nat)(s:M):Ob:=.box 181 [.v (.slice al s.locs.length cl),.v (.bool s.left),y4 s.b6]
def pA(al:Option Addr)(cl:Nat)(s:M):Ob:=.vech 3 1 (cm s.locs) (.slice al s.locs.length cl)
def mS(p:Src)(own:List Int)(F:Nat)(H:MH)(al:Option Addr)(cl:Nat)(s:M):ap:=[dD p own F H s,pB s,qV H s,qv H s,r6 H s,pe al cl s,pA al cl s]
section
variable(p:Src)(own:List Int)(F:Nat)(H:MH)(al:Option Addr)(cl:Nat)
def AL(s:M)(c w:Int):GF prog 102 [.loc 0 0,y4 c,y4 w] [dD p own F H s,pB s] (y4 0) [dD p own F H (s.stop c w),pB s]:=by
 unfold dD pB;refine aj func102 ntmps102 ?_;exact aw
def kc(s:M):GF prog 231 [.loc 0 0,.loc 2 0] [dD p own F H s,pB s,pe al cl s,pA al cl s] (.v (.bool s.over)) [dD p own F H s,pB s,pe al cl s,pA al cl s]:=by
 unfold M.over dD pB pe pA
 cases h:(s.fin != 0)with
 |true =>
  refine aj func231 ntmps231 ?_;exact aw
 |false =>
  refine aj func231 ntmps231 ?_;exact aw
variable{p own F H al cl}
def VL{a k j:Nat}{n:Nd}{s t:M}{v:Int}(hn:p.ah[a]?=some n)(l:n.au[k]?=some (j:Int))(hd:GF prog 176 [.loc 0 0,.loc 5 0,y4 (j:Nat)] (mS p own F H al cl s) (y4 v) (mS p own F H al cl t)) :
  GF prog 229 [.loc 0 0,.loc 5 0,y4 (a:Nat),y4 (k:Nat)] (mS p own F H al cl s) (y4 v) (mS p own F H al cl t):=by
 have r:=b8 hn;have u:=ep l;unfold aP at r;unfold mS dD at *;refine aj func229 ntmps229 ?_;refine aZ [0,1,2,3,4,5,6] hd ?_;exact aB
def Ex(H:MH)(s:M)(k:Nat)(n:Int):Value:=if s.over=true then .pointer none else if vH (row s k) n=true then .pointer (some ⟨(H.hs.getD k (0,0)).1,n.toNat,none⟩)else .pointer none
def Ew(s:M)(k:Nat)(n:Int):M:=if s.over=true then s else if vH (row s k) n=true then s else s.stop 2 6
def wB{s:M}{k:Nat}(h:k<s.cells.length):s.cells[k]?=some (row s k):=by
 unfold row;rw[getD_eq_getElem?_getD,cq h];rfl
def MY{a k:Nat}{n:Nd}{l:Ar}{s t:M}{v:Int}(C:p.aq.length<=1099511627776)(hn:p.ah[a]?=some n)(B:mq p n.s=(k:Int))(m:p.aq[k]?=some l)(O:0<=l.size/\l.size<=2147483647)(J:nG p F t)(N:H.hs.length=p.aq.length)
  (b:GF prog 229 [.loc 0 0,.loc 5 0,y4 (a:Nat),y4 0] (mS p own F H al cl s) (y4 v) (mS p own F H al cl t)) :
  GF prog 226 [.loc 0 0,.loc 5 0,y4 (a:Nat)] (mS p own F H al cl s) (.v (Ex H t k v)) (mS p own F H al cl (Ew t k v)):=by
 have L:=b8 hn;have j:=vX m;have e:=uz p n.s C;have i:bM (fun x:Ar=>x.name==n.s) p.aq=(k:Int):=B;rw[i]at e;have u:=Hr v 0 (l.size-1);have W:=J.rows k l m
 have A:k<t.cells.length:=by rw[J.cells];exact(bR m).1
 have o:(decide ((0:Int)<=v)&&decide (v<=l.size-1))=vH (row t k) v:=by
  unfold vH;rw[show decide (v<=l.size-1)=decide (v<((row t k).length:Int)) by rw[W];exact decide_eq_decide.2 X]
 rw[o]at u;have R:=kc p own F H al cl t;have V:=AL p own F H t 2 6;have z:=wB A
 have T:H.hs[k]?=some (H.hs.getD k (0,0)):=by
  rw[getD_eq_getElem?_getD,cq (by rw[N,<-J.cells];exact A)];rfl
 have Q:(List.zipWith uF t.cells H.hs)[k]?=some [.v (.slice (some ⟨(H.hs.getD k (0,0)).1,0,none⟩) (row t k).length (H.hs.getD k (0,0)).2)]:=by
  rw[getElem?_zipWith,z,T];rfl
 have S:k<(List.zipWith uF t.cells H.hs).length:=(bR Q).1
 have c:(List.zipWith uF t.cells H.hs).length=t.cells.length:=by rw[uW,N,<-J.cells,Nat.min_self]
 unfold Ex Ew;generalize H.hs.getD k (0,0)=d at *;unfold aP at L;unfold bb at j
 have G:vH (row t k) v=true->∃q:Nat,v=(q:Int)/\q<(row t k).length:=fun h=>by
  unfold vH at h;simp only[aU,decide_eq_true_eq]at h;exact⟨v.toNat,by omega,by omega⟩
 cases r:t.over with
 |true =>
  rw[r]at R;rw[ae rfl,ae rfl];unfold mS at *;unfold dD at *;refine aj func226 ntmps226 ?_;refine zbb ?_;refine aZ [0,1,5,6] R ?_;exact aB
 |false =>
  rw[r]at R;refine zdM ?_
  cases w:vH (row t k) v with
  |false =>
   rw[w]at u;refine zdM ?_;unfold mS at *;unfold dD at *;refine aj func226 ntmps226 ?_;refine zbb ?_;refine aZ [0,1,5,6] R ?_;refine zds ?_;refine I [0,1] V ?_;exact aw
  |true =>
   rw[w]at u;simp only[if_true];obtain⟨q,rfl,E⟩:=G w;rw[dC];unfold mS at *;unfold dD qv at *;refine aj func226 ntmps226 ?_;refine zbb ?_;refine aZ [0,1,5,6] R ?_;refine zds ?_;refine GL.q (YG.Zp rfl rfl E) ?_;exact zcy
end
end Go.Xg
namespace Go.Im
open Go.Xp Go.Sp Go.Mn
structure xy(p:Src)(own:List Int)(a:Nat)(t:T)(ls:List ai):Prop where
 st:dW p.ah a t
 ow:tw own a t ls
 ok:qF p t ls
 wf:fR t
 k:eY t=true
 sx:kP t
 len:ls.length<=40
def Gi{p:Src}:∀{l:List T}{ls:List ai}{k:Nat}{t:T},oE p l ls->l[k]?=some t->qF p t (ls++dJ (l.take k))
 |[],ls,k,t,_,h=>by simp at h
 |u::l,ls,0,t,h,m=>by
  rw[oE]at h;cases m;rw[take_zero,dJ,fV];exact h.1
 |u::l,ls,k+1,t,h,m=>by
  rw[oE]at h;have:=Gi h.2 (show l[k]?=some t by simpa using m);rw[List.take_succ_cons,dJ,<-gS];exact this
def Ed:∀(l:List T)(k:Nat),(dJ (l.take k)).length<=(dJ l).length
 |[],k=>by simp
 |t::l,0=>by rw[take_zero,dJ];simp
 |t::l,k+1=>by
  rw[List.take_succ_cons,dJ,dJ,bf,bf];have:=Ed l k;omega
def J5{p:Src}:∀{l:List T}{ls:List ai}{k:Nat}{t:T},l[k]?=some t->(fK p l ls)[k]?=some (sf p t (ls++dJ (l.take k)))
 |[],ls,k,t,h=>by simp at h
 |u::l,ls,0,t,m=>by
  cases m;rw[fK,take_zero,dJ,fV];rfl
 |u::l,ls,k+1,t,m=>by
  rw[fK,getElem?_cons_succ,J5 (show l[k]?=some t by simpa using m),List.take_succ_cons,dJ,<-gS]
def UF:∀{l:List T}{k:Nat}{t:T},qB l=true->l[k]?=some t->eY t=true:=fun{l}{k}{t}h m=>by
 rw[oy]at h;exact fa.1 h t (bB m)
section
variable{p:Src}{own:List Int}{a:Nat}{n:Nd}{l:List T}{ls:List ai}
def xy.kid(h:xy p own a (.mk n l) ls)(q:b9 (.mk n l)=false){k:Nat}{u:T}(m:l[k]?=some u) :
  xy p own (a+1+aR (l.take k)) u (ls++dJ (l.take k))/\n.au[k]?=some ((a+1+aR (l.take k):Nat):Int)/\(fK p l ls)[k]?=some (sf p u (ls++dJ (l.take k))):=by
 have⟨M,w,v,N,S,V,R⟩:=h;rw[dW]at M;rw[tw]at w;rw[qF]at v;rw[fR]at N;rw[eY,aU]at S;rw[kP]at V;have o:=oz (n:=a+1) m;rw[<-M.2.1]at o;refine⟨⟨dQ.ix l (a+1) k u M.2.2 m,w.2.at_ m,Gi (v.2 q) m,CR N.2.2 m,UF S.2 m,Ki V.2 m,?_⟩,o,J5 m⟩;have z:=Cu l ls (v.2 q) N.2.2 R;have i:=Ed l k;rw[bf]at z |-;omega
def xy.node(h:xy p own a (.mk n l) ls):p.ah[a]?=some n/\own[a]?=some (w9 n ls)/\bG p (.mk n l) ls=0/\c7 n.ab l.length=true/\Yu n/\n.au.length=l.length:=by
 have⟨M,v,w,N,S,T,R⟩:=h;rw[dW]at M;rw[tw]at v;rw[qF]at w;rw[eY,aU]at S;rw[kP]at T;exact⟨M.1,v.1,w.1,S.1,T.1,by rw[M.2.1,db]⟩
end
structure MW(p:Src)(l:List T)(own:List Int)(F:Nat)(H:Go.Xg.MH):Prop where
 w:cM p<=1048576
 gd:cw p=true
 gl:Good p l
 ow:∀(i:Nat)f t,p.ak[i]?=some f->l[i]?=some t->tw own f.body.toNat t f.params
 F:F<=20000
 hs:H.hs.length=p.aq.length
end Go.Im
namespace Go.Xg
open Go.RowKit Go.Xw Go.Proofs Tryz Go.Im Go.Mn
open Go.Xp (Nd T aR db)
open Go.Sp (Src)
attribute [local irreducible] GW GL GO YG GC GA bh bn
def uQ:∀(l:List Int)(k:Nat)(x:Int),dw (cm l) k 0 (y4 x)=cm (l.set k x)
 |[],k,x=>rfl
 |a::l,0,x=>rfl
 |a::l,k+1,x=>by
  show[y4 a]::dw (cm l) k 0 (y4 x)=_;rw[uQ l k x];rfl
section
variable{p:Src}{l:List T}{own:List Int}{F:Nat}{H:MH}{al:Option Addr}{cl:Nat}
def Pf{a k:Nat}{s:M}(V:own[a]?=some (k:Int))(m:k<s.locs.length)(x:Int) :
  GF prog 299 [.loc 0 0,.loc 5 0,y4 (a:Nat),y4 x] (mS p own F H al cl s) (.tup []) (mS p own F H al cl { s with locs:=s.locs.set k x }):=by
 have G:=ep V;have T:(cm s.locs)[k]?=some [.v (ii s.locs[k])]:=ep (cq m)
 have o:k<(cm s.locs).length:=by rw[bC];exact m
 have q:(cm s.locs).length=s.locs.length:=bC _
 have J:decide ((0:Int)<=(k:Int))=true:=by simp
 have e:mS p own F H al cl { s with locs:=s.locs.set k x }=[dD p own F H s,pB s,qV H s,qv H s,r6 H s,pe al cl s,.vech 3 1 (dw (cm s.locs) k 0 (y4 x)) (.slice al s.locs.length cl)]:=by
  rw[uQ];unfold mS pe pA;simp only[length_set];rfl
 rw[e];unfold mS dD pe pA;refine aj func299 ntmps299 ?_;refine wq ?_;exact dj
def Yg{a k:Nat}{o:Int}{n:Nd}{s:M}(hg:p.ax.length<=1099511627776)(hn:p.ah[a]?=some n)(V:own[a]?=some o)(u:o<0)(hx:bM (fun x=>x==n.s) p.ax=(k:Int))(m:k<s.cN.length)(x:Int) :
  GF prog 299 [.loc 0 0,.loc 5 0,y4 (a:Nat),y4 x] (mS p own F H al cl s) (.tup []) (mS p own F H al cl { s with cN:=s.cN.set k x }):=by
 have G:=ep V;have w:=b8 hn;have N:=gz p.ax n.s hg;rw[xS,hx]at N;have T:(cm s.cN)[k]?=some [.v (ii s.cN[k])]:=ep (cq m)
 have r:k<(cm s.cN).length:=by rw[bC];exact m
 have t:(cm s.cN).length=s.cN.length:=bC _
 have J:decide ((0:Int)<=o)=false:=by simpa using u
 have e:mS p own F H al cl { s with cN:=s.cN.set k x }=[dD p own F H s,pB s,.vech 3 1 (dw (cm s.cN) k 0 (y4 x)) (.slice H.ag s.cN.length H.cg),qv H s,r6 H s,pe al cl s,pA al cl s]:=by
  rw[uQ];unfold mS dD qV;simp only[length_set];rfl
 rw[e];unfold aP at w;unfold mS dD qV;refine aj func299 ntmps299 ?_;refine aS (aK 0 19 (.q 20 (.a 19 (.q 21 (.a 22 .nil))))) ?_;refine av ?_;refine aJ [] N ?_;exact zc0
def gV(p:Src)(own:List Int)(F:Nat)(H:MH)(al:Option Addr)(cl:Nat)(a k:Nat)(s t:M)(v:Int):Prop :=
 GF prog 229 [.loc 0 0,.loc 5 0,y4 (a:Nat),y4 (k:Nat)] (mS p own F H al cl s) (y4 v) (mS p own F H al cl t)
section
variable{a:Nat}{n:Nd}
theorem zH{s t:M}{v:Int}(hn:p.ah[a]?=some n)(T:gV p own F H al cl a 0 s t v)(k:t.over=true) :
  GF prog 230 [.loc 0 0,.loc 5 0,y4 (a:Nat)] (mS p own F H al cl s) (y4 0) (mS p own F H al cl t):=by
 have r:=b8 hn;have N:=kc p own F H al cl t;rw[k]at N;unfold gV at T;unfold aP at r;unfold mS at *;unfold dD at *;refine aj func230 ntmps230 ?_;refine aZ [0,1,2,3,4,5,6] T ?_;refine Z ?_;refine aZ [0,1,5,6] N ?_;exact aB
theorem zI{s t u:M}{v w:Int}(hn:p.ah[a]?=some n)(T:gV p own F H al cl a 0 s t v)(k:t.over=false)(z:(n.s=[124,124]->v=0)/\(n.s=[38,38]->v≠0))(R:gV p own F H al cl a 1 t u w)(m:u.over=true) :
  GF prog 230 [.loc 0 0,.loc 5 0,y4 (a:Nat)] (mS p own F H al cl s) (y4 0) (mS p own F H al cl u):=by
 have r:=b8 hn;have N:=kc p own F H al cl t;have A:=kc p own F H al cl u;rw[k]at N;rw[m]at A;unfold gV at T R;unfold aP at r;unfold mS at *;unfold dD at *
 cases G:(n.s==[124,124])with
 |true =>
  have e:(v != 0)=false:=by simpa using z.1 (by simpa using G)
  have B:(n.s==[38,38])=false:=by rw[show n.s=[124,124] by simpa using G];decide
  exact zbN
 |false =>
  cases B:(n.s==[38,38])with
  |true =>
   have e:(v==0)=false:=by simpa using z.2 (by simpa using B)
   exact zbN
  |false =>
   exact zbN
def E1{s t:M}{v:Int}(hn:p.ah[a]?=some n)(T:gV p own F H al cl a 0 s t v)(k:t.over=false)(u:n.s=[124,124]/\v≠0\/n.s=[38,38]/\v=0) :
  GF prog 230 [.loc 0 0,.loc 5 0,y4 (a:Nat)] (mS p own F H al cl s) (y4 (oN (v != 0))) (mS p own F H al cl t):=by
 have r:=b8 hn;have N:=kc p own F H al cl t;rw[k]at N;have w:=sK (v != 0);unfold gV at T;unfold aP at r;unfold mS at *;unfold dD at *
 rcases u with⟨G,B⟩|⟨G,B⟩
 ·have e:(v != 0)=true:=by simpa using B
  have J:(n.s==[124,124])=true:=by simpa using G
  exact zce
 ·have e:(v != 0)=false:=by simpa using B
  have V:(v==0)=true:=by simpa using B
  have J:(n.s==[38,38])=true:=by simpa using G
  have W:(n.s==[124,124])=false:=by rw[G];decide
  exact zce
theorem E2{s t u:M}{v w:Int}(hn:p.ah[a]?=some n)(T:gV p own F H al cl a 0 s t v)(k:t.over=false)(A:n.s=[124,124]/\v=0\/n.s=[38,38]/\v≠0)(R:gV p own F H al cl a 1 t u w)(m:u.over=false) :
  GF prog 230 [.loc 0 0,.loc 5 0,y4 (a:Nat)] (mS p own F H al cl s) (y4 (oN (w != 0))) (mS p own F H al cl u):=by
 have r:=b8 hn;have N:=kc p own F H al cl t;rw[k]at N;have z:=kc p own F H al cl u;rw[m]at z;have C:=sK (w != 0);unfold gV at T R;unfold aP at r;unfold mS at *;unfold dD at *
 rcases A with⟨G,B⟩|⟨G,B⟩
 ·have e:(v != 0)=false:=by simpa using B
  have J:(n.s==[124,124])=true:=by simpa using G
  have W:(n.s==[38,38])=false:=by rw[G];decide
  exact zcw
 ·have e:(v==0)=false:=by simpa using B
  have J:(n.s==[38,38])=true:=by simpa using G
  have W:(n.s==[124,124])=false:=by rw[G];decide
  exact zcw
def Ql{s t u:M}{v w:Int}(hn:p.ah[a]?=some n)(T:gV p own F H al cl a 0 s t v)(m:t.over=false)(z:n.s∈rb)(R:gV p own F H al cl a 1 t u w)(o:u.over=false) :
  GF prog 230 [.loc 0 0,.loc 5 0,y4 (a:Nat)] (mS p own F H al cl s) (y4 (if(ra n.s v w).2≠0 then 0 else(ra n.s v w).1)) (mS p own F H al cl (if(ra n.s v w).2≠0 then u.stop 2 (ra n.s v w).2 else u)):=by
 have r:=b8 hn;have N:=kc p own F H al cl t;rw[m]at N;have A:=kc p own F H al cl u;rw[o]at A;have B:=KX n.s v w z;have V:=AL p own F H u 2 (ra n.s v w).2
 have G:(n.s==[124,124])=false:=by
  cases h:(n.s==[124,124])with
  |false=>rfl
  |true=>rw[show n.s=[124,124] by simpa using h]at z;revert z;decide
 have W:(n.s==[38,38])=false:=by
  cases h:(n.s==[38,38])with
  |false=>rfl
  |true=>rw[show n.s=[38,38] by simpa using h]at z;revert z;decide
 generalize(ra n.s v w).1=x at *;generalize(ra n.s v w).2=c at *;unfold gV at T R;unfold aP at r;unfold mS at *;unfold dD at *
 cases k:(c != 0)with
 |true =>
  rw[ae zfJ,ae zfJ];refine aj func230 ntmps230 ?_;refine zag ?_;refine aZ [0,1,5,6] A ?_;refine Z ?_;refine I [] B ?_;refine I [0,1] V ?_;exact aw
 |false =>
  rw[D zfJ,D zfJ];refine aj func230 ntmps230 ?_;refine zag ?_;refine aZ [0,1,5,6] A ?_;refine Z ?_;refine I [] B ?_;exact aw
end
end
end Go.Xg
namespace Go.Mn
open Go.Xp (ai bD)
def mu(O:Op)(F:Nat)(B:Nat->R)(x:Int)(s':M)(K:List Int->M->Prop):Nat->List R->List Int->M->Prop
 |_,[],J,s=>K J s
 |0,_::_,_,_=>False
 |g+1,r::l,J,s=>∃v t,ev O F B g r s=some (v,t)/\(t.over=true->x=0/\s'=t)/\(t.over=false->mu O F B x s' K g l (J++[v]) t)
section
variable{O:Op}{F:Nat}{B:Nat->R}{x:Int}{s':M}{K:List Int->M->Prop}
def C4:∀(g:Nat)(l:List R)(J:List Int)(s:M)(args:List Int)(t:M),pd O F B g l J s=some (args,t)->s.over=false->(t.over=true->x=0/\s'=t)->(t.over=false->K args t)->mu O F B x s' K g l J s
 |0,l,J,s,args,t,h,q,N,w=>by simp only[pd]at h;cases h
 |g+1,[],J,s,args,t,h,q,N,w=>by
  simp only[pd,Option.some.injEq,Prod.mk.injEq]at h;obtain⟨rfl,rfl⟩:=h;rw[mu];exact w q
 |g+1,r::l,J,s,args,t,h,q,N,w=>by
  simp only[pd]at h;have⟨v,u,e,L⟩:=cH h;rw[mu];refine⟨v,u,e,fun m=>?_,fun m=>?_⟩
  ·rw[ae m]at L;simp only[Option.some.injEq,Prod.mk.injEq]at L;obtain⟨rfl,rfl⟩:=L;exact N m
  ·rw[D (by rw[m];decide)]at L;exact C4 g l _ u args t L m N w
end
end Go.Mn
namespace Go.Im
open Go.Xp Go.Sp Go.Mn
def AE(p:Src)(F:Nat)(B:Nat->R)(G:Nat)(n:Nd)(x:Int)(s':M)(args:List Int)(t:M):Prop :=
 (n.s=lU/\((t.inp=[]/\x = -1/\s'=t)\/∃a r,t.inp=a::r/\x=bD a/\s'={ t with inp:=r })) \/
 (n.s=lr/\∃v,args=[v]/\x=0/\s'={ t with out:=t.out++[v%4294967296%256] }) \/
 (n.s≠lU/\n.s≠lr/\∃i:Nat,bF p n.s=(i:Int)/\((100<=t.aX/\x=0/\s'=t.stop 5 0)\/(t.aX<100/\∃g w u,g<=G/\ev qX F B g (B i) (t.enter args)=some (w,u)/\x=u.b6/\s'=t.leave u)))
def Rv{p:Src}{F:Nat}{B:Nat->R}{g:Nat}{n:Nd}{l:List T}{ls:List ai}{s s':M}{x:Int}(Q:n.ab=4)(m:n.s≠cB)(k:bG p (.mk n l) ls=0)(c:s.over=false)(h:bZ qX F B g (uP p n l ls (fK p l ls)) s=some (x,s')) :
  ∃W,W<=g/\mu qX F B x s' (AE p F B g n x s') W (fK p l ls) [] s:=by
 cases g with
 |zero=>simp only[bZ]at h;cases h
 |succ g =>
 unfold bG at k;rw[D (show ¬(T.mk n l).n.ab=13 by show ¬n.ab=13;omega),D (show ¬((T.mk n l).n.ab=2\/(T.mk n l).n.ab=7) by show ¬(n.ab=2\/n.ab=7);omega),D (show ¬((T.mk n l).n.ab=3\/(T.mk n l).n.ab=8) by show ¬(n.ab=3\/n.ab=8);omega),ae (show(T.mk n l).n.ab=4 from Q)]at k;unfold dH b9 at k;simp only[show(T.mk n l).n=n from rfl,show(T.mk n l).au=l from rfl]at k;rw[D (by simp only[aU,beq_iff_eq];exact fun h=>m h.1.2)]at k
 have G:jr p n.s ≠ -1:=fun e=>by rw[ae e]at k;cases k
 have E:jr p n.s=(l.length:Int):=by
  rw[D G]at k
  by_cases e:jr p n.s=(l.length:Int)
  ·exact e
  ·rw[D e]at k;cases k
 unfold uP at h;rw[D (show ¬n.ab=1 by omega),D (show ¬n.ab=2 by omega),D (show ¬n.ab=3 by omega),ae Q,D m]at h
 by_cases C:n.s=lU
 ·rw[ae C]at h;have V:l=[]:=jF (by unfold jr at E;rw[ae C]at E;omega);subst V;refine⟨g+1,aQ _,?_⟩;rw[fK,mu];refine .inl ⟨C,?_⟩;simp only[bZ]at h
  cases z:s.inp with
  |nil =>
   rw[z]at h;simp only[Option.some.injEq,Prod.mk.injEq]at h;exact .inl ⟨rfl,h.1.symm,h.2.symm⟩
  |cons a r =>
   rw[z]at h;simp only[Option.some.injEq,Prod.mk.injEq]at h;exact .inr ⟨a,r,rfl,h.1.symm,h.2.symm⟩
 rw[D C]at h
 by_cases A:n.s=lr
 ·rw[ae A]at h
  have V:l.length=1:=by unfold jr at E;rw[D C,ae (.inl A)]at E;omega
  obtain⟨a,rfl⟩:∃a,l=[a]:=by
   match l,V with
   |[a],_=>exact⟨a,rfl⟩
  rw[fK,fK]at h |-;simp only[bZ,r0,getElem?_cons_zero]at h;have⟨v,t,j,J⟩:=cH h;refine⟨g+1,aQ _,?_⟩;rw[mu];refine⟨v,t,j,fun o=>?_,fun o=>?_⟩
  ·rw[ae o]at J;simp only[Option.some.injEq,Prod.mk.injEq]at J;exact⟨J.1.symm,J.2.symm⟩
  ·rw[D (by rw[o];decide)]at J;simp only[Option.some.injEq,Prod.mk.injEq]at J;rw[mu];exact .inr (.inl ⟨A,v,rfl,J.1.symm,J.2.symm⟩)
 rw[D A]at h;simp only[bZ]at h;have⟨args,t,j,J⟩:=cH h
 refine⟨g,Nat.le_succ _,C4 (x:=x) (s':=s') (K:=AE p F B (g+1) n x s') g _ _ _ _ _ j c (fun o=>by
  rw[ae o]at J;simp only[Option.some.injEq,Prod.mk.injEq]at J
  exact⟨J.1.symm,J.2.symm⟩) (fun o=>by
  rw[D (by rw[o];decide)]at J
  have S:∃i:Nat,bF p n.s=(i:Int):=by
   unfold jr at G;rw[D C,D (by rintro(h|h);exact A h;exact m h)]at G;unfold bF bM
   cases b:p.ak.findIdx? (fun f:Go.Sp.Fn=>f.name==n.s)with
   |none=>rw[b]at G;exact absurd rfl G
   |some i=>exact⟨i,rfl⟩
  have⟨i,z⟩:=S;refine .inr (.inr ⟨C,A,i,z,?_⟩);rw[z,dC]at J
  by_cases N:100<=t.aX
  ·rw[ae N]at J;simp only[Option.some.injEq,Prod.mk.injEq]at J;exact .inl ⟨N,J.1.symm,J.2.symm⟩
  ·rw[D N]at J;have⟨w,u,q,L⟩:=cH J;simp only[Option.some.injEq,Prod.mk.injEq]at L
   exact .inr ⟨by omega,g,w,u,by omega,q,L.1.symm,L.2.symm⟩)⟩
end Go.Im
namespace Go.Xg
open Go.RowKit Go.Xw Go.Proofs Tryz Go.Im Go.Mn
open Go.Xp (Nd T)
open Go.Sp (Src)
attribute [local irreducible] GW GL GO YG GC GA bh bn
def mC(p:Src)(own:List Int)(F:Nat)(H:MH)(s:M)(x:Ob):ap:=[dD p own F H s,pB s,qV H s,qv H s,r6 H s,x]
def Az(p:Src)(own:List Int)(F:Nat)(H:MH)(i:Nat)(args:List Int)(s s':M)(x:Int):Prop:=∀(n:Option Addr)(t:Nat),
 GC prog 104 [.loc 0 0,y4 (i:Nat),.v (.slice n args.length t)] (mC p own F H s (.vech 3 1 (cm args) (.slice n args.length t))) fun g J=>g=y4 x/\∃o,J=mC p own F H s' o
section
variable{p:Src}{l:List T}{own:List Int}{F:Nat}{H:MH}
def MU{i:Nat}{args:List Int}{s:M}(hd:100<=s.aX):Az p own F H i args s (s.stop 5 0) 0:=fun o t=>by
 have N:decide ((100:Int)<=(s.aX:Int))=true:=decide_eq_true X;have R:=AL p own F H s 5 0;unfold mC dD at *;refine aj func104 ntmps104 ?_;refine I [0,1] R ?_;refine iY ?_;exact kD (n:=6) rfl c8 rfl (ed rfl) rfl rfl ⟨rfl,_,rfl⟩
def Rp(L:Option Addr)(j:Nat)(s:M)(args:List Int):mS p own F H L j (s.enter args)=[dD p own F H { s with aX:=s.aX+1 },pB s,qV H s,qv H s,r6 H s,
  .box 181 [.v (.slice L (args.length+40) j),.v (.bool false),y4 0],.vech 3 1 (cm args++List.replicate 40 [y4 0]) (.slice L (args.length+40) j)]:=by
 unfold mS pe pA M.enter;simp only[bf,length_replicate,cm,kL,List.map_replicate];rfl
def IL{i:Nat}{f:Go.Sp.Fn}{args:List Int}{s u:M}{w:Int}(hf:p.ak[i]?=some f)(z:0<=f.body)(hd:s.aX<100)(ha:args.length<=1048576)(m:u.aX=s.aX+1)
  (J:∀L j,GF prog 176 [.loc 0 0,.loc 5 0,y4 (f.body.toNat:Nat)] (mS p own F H L j (s.enter args)) (y4 w) (mS p own F H L j u)):Az p own F H i args s (s.leave u) u.b6:=fun o t=>by
 have N:decide ((100:Int)<=(s.aX:Int))=false:=decide_eq_false X;have r:=yc hf;obtain⟨b,T⟩:∃b:Nat,f.body=(b:Int):=⟨f.body.toNat,by omega⟩;rw[T,dC]at J;unfold aH at r;rw[T]at r;have C:(cm args).length=args.length:=bC _
 have e:((u.aX-1:Nat):Int)=(u.aX:Int)-1:=by omega
 unfold mC dD;refine aj func104 ntmps104 ?_;refine GL.YY 5 (q:=40) rfl rfl rfl C aN rfl ⟨by omega,by omega⟩ ?_;intro L j;refine zaJ ?_;have J:=J L j;rw[Rp]at J;unfold dD mS at J;refine aZ [0,1,2,3,4,6,5] J ?_;refine zcS ?_;refine kD (n:=6) rfl c8 rfl (ed rfl) rfl rfl ⟨rfl,pA L j u,?_⟩;unfold M.leave;simp only[e];rfl
end
end Go.Xg
set_option maxHeartbeats 8000000
namespace Go.Im
open Go.Xp Go.Sp Go.Mn
def BR{p:Src}{s:ai}(h:0<=mq p s):∃(k:Nat)(a:Ar),mq p s=(k:Int)/\p.aq[k]?=some a:=by
 have M:=zQ h;refine⟨(mq p s).toNat,_,by omega,cq M⟩
def BS{p:Src}{l:List T}(h:Good p l){k:Nat}{a:Ar}(ha:p.aq[k]?=some a):0<=a.size/\a.size<=2147483647:=by
 have:=fa.1 h.st.aq a (bB ha);exact zc2
end Go.Im
namespace Go.Xg
open Go.RowKit Go.Xw Go.Proofs Tryz Go.Im Go.Mn
open GV (U)
open Go.Xp (Nd T Ar)
open Go.Sp (Src)
attribute [local irreducible] GW GL GO YG GC GA bh bn
section
variable{p:Src}{l0:List T}{own:List Int}{F:Nat}{H:MH}{al:Option Addr}{cl:Nat}
def LI(W:MW p l0 own F H){a:Nat}{n:Nd}{l:List T}{ls:List ai}(m:xy p own a (.mk n l) ls)(L:n.ab=4)(E:n.s=cB)(s:M) :
  GF prog 227 [.loc 0 0,.loc 5 0,y4 (a:Nat)] (mS p own F H al cl s) (y4 (EJ p (lG (.mk n l)).s)) (mS p own F H al cl s):=by
 have⟨⟨a1,a2⟩,⟨b1,b2⟩,⟨c1,c2⟩,⟨d1,d2⟩⟩:=et p;have hw:=W.w;obtain⟨R,-,N,-,-,-⟩:=m.node;have d:=m.st;obtain⟨k,e,-,-,j,-,-⟩:=CG m.wf N L E;have e:l=[k]:=e;subst e;rw[dW]at d;obtain⟨-,r,c⟩:=d;have⟨b,V⟩:=k;rw[dQ,dW]at c;have O:=c.1.1;have o:lG (.mk n [.mk b V])=b:=rfl;rw[o];have j:0<=mq p b.s:=j;have⟨q,G,z,A⟩:=BR j;have B:=uz p b.s X;have J:bM (fun x:Ar=>x.name==b.s) p.aq=(q:Int):=z;rw[J]at B
 have S:EJ p b.s=G.size:=by unfold EJ;rw[z,dC,A]
 rw[S];have C:=b8 R;have u:=b8 O;have t:=vX A
 have Q:(n.au.map fun i=>[y4 i])[0]?=some [y4 ((a+1:Nat):Int)]:=by rw[r];rfl
 unfold aP at C u;rw[E]at C;unfold bb at t;unfold mS dD;refine aj func227 ntmps227 ?_;refine aS (aK 0 21 (.a 21 (aK 22 4 .nil))) ?_;refine av ?_;refine aJ [] B ?_;exact aB
def Vi(s:M)(x:Int):mS p own F H al cl { s with out:=s.out++[x] }=[.box 64 [strs p.ax,.sl 2 (p.aq.map bb),.sl 3 (p.ak.map aH),.sl 5 (p.ah.map aP),ints own,ints s.inp,y4 (F:Nat),
 y4 s.fin,y4 s.why,y4 0,.vec 1 (s.out.length+1),y4 (s.a7:Nat),.v (.slice H.ag s.cN.length H.cg),.v (.slice H.ac s.cells.length H.cc),y4 (s.aX:Nat)],.vec 3 1 0 (cm s.out++[[y4 x]]),qV H s,qv H s,r6 H s,pe al cl s,pA al cl s]:=by
 unfold mS dD pB;simp only[bf,List.length_singleton,cm,kL,List.map_cons,List.map_nil];rfl
def UX(W:MW p l0 own F H){a:Nat}{n:Nd}{l:List T}{ls:List ai}{G g:Nat}{s s':M}{x:Int}{B:Nat->R}(hN:xy p own a (.mk n l) ls)(h4:n.ab=4)(hz:n.s≠cB)
  (V:∀(k:Nat)(r:R)(s t:M)(v:Int)(e:Nat),e<g->(fK p l ls)[k]?=some r->nG p F s->s.over=false->ev qX F B e r s=some (v,t)->gV p own F H al cl a k s t v)
  (C:∀(i:Nat)(args:List Int)(t:M)(e:Nat)(w:Int)(u:M),e<=G->t.over=false->t.aX<100->args.length<=1048576->nG p F t->bF p n.s=(i:Int)->ev qX F B e (B i) (t.enter args)=some (w,u)->Az p own F H i args t (t.leave u) u.b6)
  (h:mu qX F B x s' (AE p F B G n x s') g (fK p l ls) [] s)(hm:nG p F s)(hs:s.over=false) :
  GF prog 227 [.loc 0 0,.loc 5 0,y4 (a:Nat)] (mS p own F H al cl s) (y4 x) (mS p own F H al cl s'):=by
 have⟨⟨a1,a2⟩,⟨b1,b2⟩,⟨c1,c2⟩,⟨d1,d2⟩⟩:=et p;have hw:=W.w;have hF:=W.F;obtain⟨hn,-,hf,-,-,xq⟩:=hN.node;have hr:=b8 hn;have xP:=(d2 n (bB hn)).2;have hz':(n.s==[115,105,122,101])=false:=beq_eq_false_iff_ne.2 (show n.s≠[115,105,122,101]from hz);have DB:=tZ p l ls;have J:(n.au.map fun i=>[y4 i]).length=n.au.length:=bC _;unfold aP at hr
 have z:∀s,mS p own F H al cl s=[dD p own F H s,pB s,qV H s,qv H s,r6 H s,pe al cl s,pA al cl s]:=fun _=>rfl
 rw[z s];unfold dD;refine dT func227 ntmps227 ?_;refine CQ ?_;refine GW.wk (Wk.jO 3 1) ?_;simp only[List.cons_append,nil_append];refine GW.block ?_
 refine GW.range (n.au.map fun i=>[y4 i]).length (fun k fr Γ=>∃(e:Nat)(c:List Int)(d:M)(O:Option Addr)(Q:Nat),e<=g/\mu qX F B x s' (AE p F B G n x s') e ((fK p l ls).drop k) c d/\nG p F d/\d.over=false/\c.length=k /\
  fr=[.loc 0 0,.loc 5 0,y4 (a:Nat),U,U,U,U,.loc 7 0,.v (.slice O k Q),U,U,U,U,U,U,U,U,U,U,U,U,U,U,U,U,U,U,U,U,U,U,U,U,U,U,U,U,U,U,U,U,U,U,U,U,U,U,U,ints n.au,y4 ((n.au.map fun i=>[GV.v (ii i)]).length:Int),y4 (k:Nat),U,U,U,U,U,U,U,U,U,U,U,U,U,U,U,U,U,U,U,U,U,U,U,U,U,U,U,U,U,U,U,U,U,U,U,U,U,U,U,U,U,U,U,U,U,U,U,U,U,U,U,U,U,U,U,U,U,U,U,U,U,U,U,U,U,U,U,U]/\Γ=[dD p own F H d,pB d,qV H d,qv H d,r6 H d,pe al cl d,pA al cl d,.box 82 [y4 n.ab,y4 n.at_,y4 n.n,.v (sv n.s),ints n.au],.vech 3 1 (cm c) (.slice O k Q)]) ?_ X ?_ ?_ ?_
 ·exact⟨_,_,Wk.aW az,g,[],s,none,0,aQ _,h,hm,hs,rfl,rfl,rfl⟩
 ·rintro k _ _⟨e,c,d,O,Q,-,-,-,-,-,rfl,rfl⟩;exact dN
 ·rintro k _ _ L⟨e,c,d,O,Q,Dw,E,j,N,m,rfl,rfl⟩;rw[J,xq,<-DB]at L;have NW:(fK p l ls)[k]?=some (fK p l ls)[k]:=cq L;rw[l8 L]at E
  cases e with
  |zero=>rw[mu]at E;exact E.elim
  |succ e =>
  rw[mu]at E;have⟨v,t,he,Xk,Xl⟩:=E;have hv:=V k _ d t v e X NW j N he;have hmt:=j.ev he;have A:=kc p own F H al cl t
  have Jj:(cm c).length=k:=by rw[bC];exact m
  unfold gV at hv
  cases ho:t.over with
  |true =>
   obtain⟨rfl,rfl⟩:=Xk ho;rw[ho]at A;unfold mS at *;unfold dD at *;refine zdt ?_;intro V1 Wa;refine zaJ ?_;refine aZ [0,1,5,6] A ?_;exact aB
  |false =>
   have hA2:=Xl ho;rw[ho]at A;unfold mS at *;unfold dD at *;refine zdt ?_;intro V1 Wa;refine zaJ ?_;refine aZ [0,1,5,6] A ?_;refine Z ?_;exact⟨rfl,rfl,_,_,Wk.aW az,e,c++[v],t,V1,Wa,by omega,hA2,hmt,ho,by simp[m],rfl,by rw[show cm (c++[v])=cm c++[[y4 v]] by simp[cm]];rfl⟩
 ·rintro _ _⟨e,c,d,O,Q,Dw,E,j,N,m,rfl,rfl⟩;rw[J,xq,<-DB,List.drop_length,mu]at E;rw[J]at m |-;refine bl ?_;have hob:=j.out;have hsb:=j.a7
  rcases E with⟨S,hh⟩|⟨S,v,rfl,rfl,rfl⟩|⟨S,hp,i,hi,hh⟩
  ·have c1:(n.s==[103,101,116])=true:=beq_iff_eq.2 (show n.s=[103,101,116]from S)
   rcases hh with⟨hi,rfl,rfl⟩|⟨b,r,hi,rfl,rfl⟩
   ·rw[z];unfold dD;rw[hi];exact aB
   ·have c2:(((cm (b::r)).length:Int)==0)=false:=by simp;omega
    have c3:(cm (b::r))[0]?=some [y4 b]:=rfl;have hW:=fg b;rw[z];unfold dD;rw[hi];refine Z ?_;refine I [] hW ?_;refine GL.q (YG.Yq rfl rfl) ?_;exact zcy
  ·have c1:(n.s==[103,101,116])=false:=by rw[show n.s=[112,117,116]from S];decide
   have c2:(n.s==[112,117,116])=true:=beq_iff_eq.2 (show n.s=[112,117,116]from S);have hW:=kQ v
   have hb0:0<=v%4294967296:=by omega
   rw[Vi];unfold dD pB;refine Z ?_;have c3:(cm [v])[0]?=some [y4 v]:=rfl;have hol:(cm d.out).length=d.out.length:=bC _;refine GW.wk ((Wk.uR (t:=8) (i:=8) rfl rfl rfl).trans (Wk.aW (de:=.loc 0 0::.loc 5 0::y4 (a:Nat)::U::U::U::U::U::.sl 1 (cm [v])::zU 110 []) az)) ?_;simp only[oset];refine aS (aK 0 9 (.a 9 (.q 10 (.a 11 (.a 12 (aK 13 3 (.a 16 .nil))))))) ?_;refine av ?_;refine aJ [] hW ?_;refine zar ?_;refine yX ?_;exact zby
  ·have c1:(n.s==[103,101,116])=false:=beq_eq_false_iff_ne.2 (show n.s≠[103,101,116]from S);have c2:(n.s==[112,117,116])=false:=beq_eq_false_iff_ne.2 (show n.s≠[112,117,116]from hp);have hFa:=tM p n.s X;have e1:bM (fun x:Go.Sp.Fn=>x.name==n.s) p.ak=(i:Int):=hi;rw[e1]at hFa
   have hC:Az p own F H i c d s' x:=by
    rcases hh with⟨hd,rfl,rfl⟩|⟨hd,g2,w,u,SZ,NR,rfl,rfl⟩
    ·exact MU hd
    ·exact C i c d g2 w u SZ N hd X j hi NR
   have hsf:pe al cl s'=pe al cl d/\pA al cl s'=pA al cl d:=by
    rcases hh with⟨hd,rfl,rfl⟩|⟨hd,g2,w,u,SZ,NR,rfl,rfl⟩
    ·exact zak
    ·exact zak
   have hC:=hC O Q;rw[m]at hC;unfold mC at hC;rw[z,hsf.1,hsf.2];unfold dD at *;refine Z ?_;refine aS (aK 0 7 (.q 8 (.a 7 (.a 9 (.q 10 .nil))))) ?_;refine av ?_;refine aJ [] hFa ?_;refine OA rfl rfl (GL.E5 (be:=[0,1,2,3,4,8]) ⟨hC⟩ pO rfl yZ ?_);rintro _ _⟨rfl,o,rfl⟩;refine⟨by simp,?_⟩;refine cW ?_;exact zby
end
section
variable(s:M)(r:List (Nat × Nat))(k q:Nat)(x:Int)
def QM:List.zipWith uF (qJ s k (q:Int) x).cells r=List.zipWith uF s.cells r:=by
 refine List.ext_getElem? fun j=>?_
 unfold qJ;rw[getElem?_zipWith,getElem?_zipWith,dC,ik]
 by_cases G:k=j
 ·subst G;rw[ae rfl]
  by_cases T:k<s.cells.length
  ·rw[ae T,wB T]
   cases r[k]? with
   |none=>rfl
   |some h=>simp[uF,FI]
  ·rw[D T,List.getElem?_eq_none (Nat.le_of_not_lt T)]
 ·rw[D G]
def Qi(h:Nat × Nat)(l:k<s.cells.length)(N:r[k]?=some h):List.zipWith uy (qJ s k (q:Int) x).cells r=(List.zipWith uy s.cells r).set k (.vech 3 1 (dw (cm (row s k)) q 0 (y4 x)) (FI (row s k) h)):=by
 refine List.ext_getElem? fun j=>?_
 unfold qJ;rw[getElem?_zipWith,ik,dC,ik,uW,getElem?_zipWith];have T:=(bR N).1
 by_cases G:k=j
 ·subst G;rw[ae rfl,ae l,ae rfl,ae X,N];show some (uy _ _)=_;unfold uy FI;rw[uQ,length_set]
 ·rw[D G,D G]
end
def UQ{p:Src}{own:List Int}{F:Nat}{H:MH}{al:Option Addr}{cl:Nat}(s:M)(k q:Nat)(x:Int)(h:Nat × Nat)(l:k<s.cells.length)(O:H.hs[k]?=some h):mS p own F H al cl (qJ s k (q:Int) x) =
  [dD p own F H s,pB s,qV H s,qv H s,blob ((List.zipWith uy s.cells H.hs).set k (.vech 3 1 (dw (cm (row s k)) q 0 (y4 x)) (FI (row s k) h))),pe al cl s,pA al cl s]:=by
 have N:=QM s H.hs k q x;have w:=Qi s H.hs k q x h l O
 have z:(qJ s k (q:Int) x).cells.length=s.cells.length:=by unfold qJ;rw[length_set]
 unfold mS qv r6 dD;rw[N,w,z];rfl
section
variable{p:Src}{l0:List T}{own:List Int}{F:Nat}{H:MH}{al:Option Addr}{cl:Nat}
def GZ{a k:Nat}{n:Nd}{h:Nat × Nat}{s t u:M}{c:Value}{v:Int}(hn:p.ah[a]?=some n)(z:n.ab=8)
  (m:GF prog 226 [.loc 0 0,.loc 5 0,y4 (a:Nat)] (mS p own F H al cl s) (.v c) (mS p own F H al cl t))
  (hx:c=.pointer none\/∃q:Nat,c=.pointer (some ⟨h.1,q,none⟩)/\q<(row t k).length/\k<t.cells.length/\H.hs[k]?=some h/\gV p own F H al cl a 1 t u v/\(u.over=false->(row u k).length=(row t k).length/\u.cells.length=t.cells.length))(s':M)
  (C:(c=.pointer none->s'=t)/\∀q:Nat,c=.pointer (some ⟨h.1,q,none⟩)->s'=if u.over=true then u else qJ u k (q:Int) v) :
  GF prog 232 [.loc 0 0,.loc 5 0,y4 (a:Nat)] (mS p own F H al cl s) (.tup []) (mS p own F H al cl s'):=by
 have r:=b8 hn;unfold aP at r;rw[z]at r
 have V:∀s,mS p own F H al cl s=[dD p own F H s,pB s,qV H s,qv H s,r6 H s,pe al cl s,pA al cl s]:=fun _=>rfl
 rcases hx with rfl|⟨q,rfl,E,B,N,T,o⟩
 ·have e:=C.1 rfl;subst e;unfold mS at *;unfold dD at *;refine aj func232 ntmps232 ?_;refine zcT ?_;refine bm ?_;exact dj
 ·have e:=C.2 q rfl;have R:=kc p own F H al cl u;unfold gV at T
  cases l:u.over with
  |true =>
   rw[l]at R;rw[l,ae rfl]at e;subst e;unfold mS at *;unfold dD at *;refine aj func232 ntmps232 ?_;refine zeZ ?_;exact dj
  |false =>
   rw[l]at R;rw[l,D aN]at e;have⟨w,S⟩:=o l;subst e;rw[UQ u k q v h X N]
   have A:(List.zipWith uy u.cells H.hs)[k]?=some (.vech 3 1 (cm (row u k)) (.slice (some ⟨h.1,0,none⟩) (row u k).length h.2)):=by
    rw[getElem?_zipWith,wB X,N];rfl
   unfold mS at *;unfold dD r6 at *;refine aj func232 ntmps232 ?_;refine zeZ ?_;refine Z ?_;refine GL.q (YG.XU rfl) ?_;refine bm ?_;refine GL.stQ 4 k rfl rfl A zfd rfl rfl ?_;refine ct ?_;exact dj
section
variable{a:Nat}{n:Nd}
def rD{s t s':M}{v:Int}(hn:p.ah[a]?=some n)(k:n.ab=7\/n.ab=13)(T:gV p own F H al cl a 0 s t v)(N:t.over=true->s'=t)
  (w:t.over=false->GF prog 299 [.loc 0 0,.loc 5 0,y4 (a:Nat),y4 v] (mS p own F H al cl t) (.tup []) (mS p own F H al cl s')) :
  GF prog 232 [.loc 0 0,.loc 5 0,y4 (a:Nat)] (mS p own F H al cl s) (.tup []) (mS p own F H al cl s'):=by
 have r:=b8 hn;have R:=kc p own F H al cl t;unfold aP at r;unfold gV at T
 cases l:t.over with
 |true =>
  rw[l]at R;have e:=N l;subst e;unfold mS at *;unfold dD at *
  rcases k with k|k
  all_goals
   rw[k]at r;exact zaj
 |false =>
  rw[l]at R;have S:=w l;unfold mS at *;unfold dD at *
  rcases k with k|k
  all_goals
   rw[k]at r;exact zaK
def G0{s t:M}{v:Int}(hn:p.ah[a]?=some n)(k:n.ab=11\/n.ab=12)(T:gV p own F H al cl a 0 s t v) :
  GF prog 232 [.loc 0 0,.loc 5 0,y4 (a:Nat)] (mS p own F H al cl s) (.tup []) (mS p own F H al cl (if t.over=true then t else if n.ab=11 then{ t with left:=true,b6:=v }else t)):=by
 have r:=b8 hn;have R:=kc p own F H al cl t;unfold aP at r;unfold gV at T
 cases l:t.over with
 |true =>
  rw[l]at R;rw[ae rfl];unfold mS at *;unfold dD at *
  rcases k with k|k
  all_goals
   rw[k]at r;exact zaj
 |false =>
  rw[l]at R;rw[D aN]
  rcases k with k|k
  ·rw[ae k];rw[k]at r;unfold mS at *;unfold dD pe at *;exact zaj
  ·rw[D X];rw[k]at r;exact zd4
def tt{s t s':M}{v:Int}(hn:p.ah[a]?=some n)(l:n.ab=9)(T:gV p own F H al cl a 0 s t v)(N:t.over=true->s'=t)
  (z:t.over=false->(v≠0/\∃w,gV p own F H al cl a 1 t s' w)\/(v=0/\n.au.length=3/\∃w,gV p own F H al cl a 2 t s' w)\/(v=0/\n.au.length≠3/\s'=t)) :
  GF prog 232 [.loc 0 0,.loc 5 0,y4 (a:Nat)] (mS p own F H al cl s) (.tup []) (mS p own F H al cl s'):=by
 have r:=b8 hn;have R:=kc p own F H al cl t;unfold aP at r;rw[l]at r;unfold gV at T
 cases k:t.over with
 |true =>
  rw[k]at R;have e:=N k;subst e;exact zd4
 |false =>
  rw[k]at R
  rcases z k with⟨G,w,S⟩|⟨G,B,w,S⟩|⟨G,B,e⟩
  ·have j:(v != 0)=true:=by simpa using G
   unfold gV at S;unfold mS at *;unfold dD at *;exact zaK
  ·have j:(v != 0)=false:=by simpa using G
   have J:(((n.au.map fun i=>[y4 i]).length:Int)==3)=true:=by rw[bC,B];rfl
   unfold gV at S;unfold mS at *;unfold dD at *;exact zaK
  ·subst e
   have j:(v != 0)=false:=by simpa using G
   have J:(((n.au.map fun i=>[y4 i]).length:Int)==3)=false:=by rw[bC];simp;omega
   exact zd4
end
end
section
variable{p:Src}{l0:List T}{own:List Int}{F:Nat}{H:MH}{al:Option Addr}{cl:Nat}{B:Nat->R}
def ES(p:Src)(own:List Int)(F:Nat)(H:MH)(al:Option Addr)(cl:Nat)(B:Nat->R)(a:Nat)(rs:List R)(G:Nat):Prop :=
 ∀(k:Nat)(r:R)(s t:M)(v:Int)(W:Nat),W<=G->rs[k]?=some r->nG p F s->s.over=false->ev qX F B W r s=some (v,t)->gV p own F H al cl a k s t v
def L5{a g:Nat}{n:Nd}{c b:R}{rs:List R}{s s':M}(hn:p.ah[a]?=some n)(o:n.ab=10)(V:ES p own F H al cl B a rs g)(l:rs[0]?=some c)(N:rs[1]?=some b)(G:nG p F s)(q:s.over=false)(h:tK qX F B g c b s=some ((),s')) :
  GF prog 232 [.loc 0 0,.loc 5 0,y4 (a:Nat)] (mS p own F H al cl s) (.tup []) (mS p own F H al cl s'):=by
 have E:=b8 hn;unfold aP at E;rw[o]at E
 have e:∀s,mS p own F H al cl s=[dD p own F H s,pB s,qV H s,qv H s,r6 H s,pe al cl s,pA al cl s]:=fun _=>rfl
 rw[e s];unfold dD;refine aj func232 ntmps232 ?_;refine GW.loop (fun z:Nat × M=>z.1) (fun z L Q=>L=.loc 0 0::.loc 5 0::y4 (a:Nat)::U::U::U::.loc 7 0::zU 111 []/\Q=[dD p own F H z.2,pB z.2,qV H z.2,qv H z.2,r6 H z.2,pe al cl z.2,pA al cl z.2,.box 82 [y4 10,y4 n.at_,y4 n.n,.v (sv n.s),ints n.au]]/\z.1<=g/\nG p F z.2/\z.2.over=false/\tK qX F B z.1 c b z.2=some ((),s')) (g,s) ?_ ?_
 ·exact⟨_,_,Wk.aW az,rfl,rfl,aQ _,G,q,h⟩
 ·clear h q G;rintro⟨W,s⟩_ _⟨rfl,rfl,O,G,q,h⟩;simp only at O G q h |-
  cases W with
  |zero=>simp only[tK]at h;cases h
  |succ W =>
  rw[tK]at h;have⟨v,t,j,h⟩:=cH h;have d:=V 0 c s t v W X l G q j;have A:=G.ev j;have S:=kc p own F H al cl t;unfold gV at d
  cases k:t.over with
  |true =>
   rw[k]at S;rw[ae k]at h;exact zbu
  |false =>
   rw[k]at S;rw[D (by rw[k];decide)]at h
   cases r:(v==0)with
   |true =>
    rw[ae zfH]at h;exact zbu
   |false =>
    rw[D zfH]at h;have⟨w,u,J,h⟩:=cH h;have i:=V 1 b t u w W X N A k J;have C:=A.ev J;have T:=kc p own F H al cl u;unfold gV at i
    cases m:u.over with
    |true =>
     rw[m]at T;rw[ae m]at h;simp only[Option.some.injEq,Prod.mk.injEq,true_and]at h;subst h;unfold mS at *;unfold dD at *;refine zdh ?_;refine Z ?_;refine aZ [0,1,5,6] T ?_;exact dj
    |false =>
     rw[m]at T;rw[D (by rw[m];decide)]at h;unfold mS at *;unfold dD at *;refine zdh ?_;refine Z ?_;refine aZ [0,1,5,6] T ?_;refine Z ?_;exact⟨(W,u),⟨_,_,Wk.aW az,rfl,rfl,by omega,C,m,h⟩,by simp⟩
theorem Wm{a:Nat}{s:M}(V:F<=s.a7):GF prog 176 [.loc 0 0,.loc 5 0,y4 (a:Nat)] (mS p own F H al cl s) (y4 0) (mS p own F H al cl (s.stop 3 0)):=by
 have G:decide (((F:Nat):Int)<=((s.a7:Nat):Int))=true:=by simpa using V
 have R:=AL p own F H s 3 0;unfold mS;unfold dD at *;refine aj func176 ntmps176 ?_;refine zaL ?_;refine I [0,1] R ?_;exact aw
theorem Wo{a:Nat}{n:Nd}{s:M}(hn:p.ah[a]?=some n)(k:n.ab=1)(N:s.a7<F)(S:F<=20000):GF prog 176 [.loc 0 0,.loc 5 0,y4 (a:Nat)] (mS p own F H al cl s) (y4 n.n) (mS p own F H al cl { s with a7:=s.a7+1 }):=by
 have G:decide (((F:Nat):Int)<=((s.a7:Nat):Int))=false:=by simpa using N
 have r:=b8 hn;unfold aP at r;rw[k]at r;unfold mS dD;exact zec
theorem Wn{a k:Nat}{n:Nd}{s:M}(hn:p.ah[a]?=some n)(l:n.ab=2)(N:s.a7<F)(S:F<=20000)(V:own[a]?=some (k:Int))(T:k<s.locs.length) :
  GF prog 176 [.loc 0 0,.loc 5 0,y4 (a:Nat)] (mS p own F H al cl s) (y4 (s.locs.getD k 0)) (mS p own F H al cl { s with a7:=s.a7+1 }):=by
 have J:decide (((F:Nat):Int)<=((s.a7:Nat):Int))=false:=by simpa using N
 have r:=b8 hn;have G:=ep V
 have o:decide ((0:Int)<=(k:Int))=true:=by simp
 have hx:(cm s.locs)[k]?=some [y4 (s.locs.getD k 0)]:=ep (by rw[getD_eq_getElem?_getD,cq T];rfl)
 have m:k<(cm s.locs).length:=by rw[bC];exact T
 have q:(cm s.locs).length=s.locs.length:=bC _;unfold aP at r;rw[l]at r;unfold mS dD pA pe;exact zec
theorem Uh{a k:Nat}{o:Int}{n:Nd}{s:M}(hg:p.ax.length<=1099511627776)(hn:p.ah[a]?=some n)(l:n.ab=2)(N:s.a7<F)(S:F<=20000)(V:own[a]?=some o)(u:o<0)(hx:bM (fun x=>x==n.s) p.ax=(k:Int))(T:k<s.cN.length) :
  GF prog 176 [.loc 0 0,.loc 5 0,y4 (a:Nat)] (mS p own F H al cl s) (y4 (s.cN.getD k 0)) (mS p own F H al cl { s with a7:=s.a7+1 }):=by
 have J:decide (((F:Nat):Int)<=((s.a7:Nat):Int))=false:=by simpa using N
 have r:=b8 hn;have G:=ep V
 have q:decide ((0:Int)<=o)=false:=by simpa using u
 have O:=gz p.ax n.s hg;rw[xS,hx]at O;have L:(cm s.cN)[k]?=some [y4 (s.cN.getD k 0)]:=ep (by rw[getD_eq_getElem?_getD,cq T];rfl)
 have m:k<(cm s.cN).length:=by rw[bC];exact T
 have t:(cm s.cN).length=s.cN.length:=bC _;unfold aP at r;rw[l]at r;unfold mS dD qV;refine aj func176 ntmps176 ?_;refine zaL ?_;refine aS (aK 0 12 (.a 12 (aK 13 3 .nil))) ?_;refine av ?_;refine aJ [] O ?_;exact aB
def Ld{a k q:Nat}{n:Nd}{h:Nat × Nat}{s t:M}{c:Value}(hn:p.ah[a]?=some n)(m:n.ab=3)(N:s.a7<F)(S:F<=20000)
  (l:GF prog 226 [.loc 0 0,.loc 5 0,y4 (a:Nat)] (mS p own F H al cl { s with a7:=s.a7+1 }) (.v c) (mS p own F H al cl t))(x:Int)
  (hx:c=.pointer none/\x=0\/c=.pointer (some ⟨h.1,q,none⟩)/\q<(row t k).length/\k<t.cells.length/\H.hs[k]?=some h/\x=(row t k).getD q 0) :
  GF prog 176 [.loc 0 0,.loc 5 0,y4 (a:Nat)] (mS p own F H al cl s) (y4 x) (mS p own F H al cl t):=by
 have G:decide (((F:Nat):Int)<=((s.a7:Nat):Int))=false:=by simpa using N
 have r:=b8 hn;unfold aP at r;rw[m]at r
 rcases hx with⟨rfl,rfl⟩|⟨rfl,o,A,O,rfl⟩
 ·unfold mS at *;unfold dD at *;refine aj func176 ntmps176 ?_;refine zaL ?_;refine aZ [0,1,2,3,4,5,6] l ?_;refine Z ?_;refine GL.q (YG.XR rfl rfl) ?_;exact zcy
 ·have z:(List.zipWith uy t.cells H.hs)[k]?=some (.vech 3 1 (cm (row t k)) (.slice (some ⟨h.1,0,none⟩) (row t k).length h.2)):=by
   rw[getElem?_zipWith,wB A,O];rfl
  have hx:(cm (row t k))[q]?=some [y4 ((row t k).getD q 0)]:=ep (by rw[getD_eq_getElem?_getD,cq o];rfl);unfold mS at *;unfold dD r6 at *;refine aj func176 ntmps176 ?_;refine zaL ?_;refine aZ [0,1,2,3,4,5,6] l ?_;refine Z ?_;refine GL.q (YG.XR rfl rfl) ?_;refine zaf ?_;refine GL.q (YG.XU rfl) ?_;refine bm ?_;refine GL.q (YG.ldQ 4 k rfl rfl z hx) ?_;exact zcy
section
variable{a:Nat}{n:Nd}
def IZ{s s':M}{x:Int}(hn:p.ah[a]?=some n)(l:n.ab=4)(N:s.a7<F)(S:F<=20000)
  (k:GF prog 227 [.loc 0 0,.loc 5 0,y4 (a:Nat)] (mS p own F H al cl { s with a7:=s.a7+1 }) (y4 x) (mS p own F H al cl s')) :
  GF prog 176 [.loc 0 0,.loc 5 0,y4 (a:Nat)] (mS p own F H al cl s) (y4 x) (mS p own F H al cl s'):=by
 have G:decide (((F:Nat):Int)<=((s.a7:Nat):Int))=false:=by simpa using N
 have r:=b8 hn;unfold aP at r;rw[l]at r;exact za2
def Wl{s s':M}{x:Int}(hn:p.ah[a]?=some n)(l:n.ab=6)(N:s.a7<F)(S:F<=20000)
  (k:GF prog 230 [.loc 0 0,.loc 5 0,y4 (a:Nat)] (mS p own F H al cl { s with a7:=s.a7+1 }) (y4 x) (mS p own F H al cl s')) :
  GF prog 176 [.loc 0 0,.loc 5 0,y4 (a:Nat)] (mS p own F H al cl s) (y4 x) (mS p own F H al cl s'):=by
 have G:decide (((F:Nat):Int)<=((s.a7:Nat):Int))=false:=by simpa using N
 have r:=b8 hn;unfold aP at r;rw[l]at r;exact za2
def Y6{s t:M}{v:Int}(hn:p.ah[a]?=some n)(k:n.ab=5)(N:s.a7<F)(S:F<=20000)(m:n.s=[45]\/n.s=[33]\/n.s=[126])(T:gV p own F H al cl a 0 { s with a7:=s.a7+1 } t v) :
  GF prog 176 [.loc 0 0,.loc 5 0,y4 (a:Nat)] (mS p own F H al cl s) (y4 (YC n.s v)) (mS p own F H al cl t):=by
 have G:decide (((F:Nat):Int)<=((s.a7:Nat):Int))=false:=by simpa using N
 have r:=b8 hn;have o:=PC n.s v m;unfold aP at r;rw[k]at r;unfold gV at T;unfold mS at *;unfold dD at *;refine aj func176 ntmps176 ?_;refine zaL ?_;refine aS (aK 0 5 (.a 5 (.a 6 (.q 7 .nil)))) ?_;refine av ?_;refine PJ [0,1,2,3,4,5,6] T ?_;exact zcM
def Y5{s s':M}(hn:p.ah[a]?=some n)(l:7<=n.ab/\n.ab<=13)(N:s.a7<F)(S:F<=20000)
  (k:GF prog 232 [.loc 0 0,.loc 5 0,y4 (a:Nat)] (mS p own F H al cl { s with a7:=s.a7+1 }) (.tup []) (mS p own F H al cl s')) :
  GF prog 176 [.loc 0 0,.loc 5 0,y4 (a:Nat)] (mS p own F H al cl s) (y4 0) (mS p own F H al cl s'):=by
 have G:decide (((F:Nat):Int)<=((s.a7:Nat):Int))=false:=by simpa using N
 have r:=b8 hn
 have C:(n.ab==1)=false:=by simp;omega
 have L:(n.ab==2)=false:=by simp;omega
 have t:(n.ab==3)=false:=by simp;omega
 have J:(n.ab==4)=false:=by simp;omega
 have T:(n.ab==5)=false:=by simp;omega
 have V:(n.ab==6)=false:=by simp;omega
 have O:(n.ab==14)=false:=by simp;omega
 unfold aP at r;exact za2
end
def QA{a g:Nat}{n:Nd}{rs:List R}{s s':M}(hn:p.ah[a]?=some n)(N:n.ab=14)(z:s.a7<F)(T:F<=20000)(m:n.au.length=rs.length)(W:n.au.length<=1048576)(V:ES p own F H al cl B a rs g)(O:nG p F { s with a7:=s.a7+1 })(Q:s.over=false)
  (h:n8 qX F B g rs { s with a7:=s.a7+1 }=some ((),s')):GF prog 176 [.loc 0 0,.loc 5 0,y4 (a:Nat)] (mS p own F H al cl s) (y4 0) (mS p own F H al cl s'):=by
 have hd:decide (((F:Nat):Int)<=((s.a7:Nat):Int))=false:=by simpa using z
 have J:=b8 hn;have o:(n.au.map fun i=>[y4 i]).length=n.au.length:=bC _;unfold aP at J;rw[N]at J
 have q:∀s,mS p own F H al cl s=[dD p own F H s,pB s,qV H s,qv H s,r6 H s,pe al cl s,pA al cl s]:=fun _=>rfl
 rw[q s];unfold dD;refine aj func176 ntmps176 ?_;refine zaL ?_
 refine GW.range (n.au.map fun i=>[y4 i]).length (fun k L S=>∃(d:Nat)(c:M),d<=g/\n8 qX F B d (rs.drop k) c=some ((),s')/\nG p F c/\c.over=false/\L=[.loc 0 0,.loc 5 0,y4 (a:Nat),U,U,U,U,U,U,U,U,U,U,U,U,U,U,U,U,U,U,U,U,U,U,U,U,U,U,U,U,U,U,U,U,U,U,U,U,U,U,U,U,U,U,U,U,U,U,U,U,U,U,U,U,U,U,U,U,U,U,U,U,U,U,U,U,U,U,U,U,U,U,U,U,U,U,U,U,U,U,U,U,U,U,U,U,U,U,U,U,U,U,U,U,U,U,U,U,U,U,U,U,U,U,U,U,U,U,U,U,U,U,U,ints n.au,y4 ((n.au.map fun i=>[GV.v (ii i)]).length:Int),y4 (k:Nat),U,U,U,U,U,U,U,U,U,U,U,U,U,U,U] /\
  S=[dD p own F H c,pB c,qV H c,qv H c,r6 H c,pe al cl c,pA al cl c,.box 82 [y4 14,y4 n.at_,y4 n.n,.v (sv n.s),ints n.au]]) ?_ X ?_ ?_ ?_
 ·exact⟨_,_,Wk.aW az,g,{ s with a7:=s.a7+1 },aQ _,h,O,Q,rfl,rfl⟩
 ·rintro k _ _⟨d,c,-,-,-,-,rfl,rfl⟩;exact dN
 ·rintro k _ _ j⟨d,c,w,b,l,u,rfl,rfl⟩;rw[o,m]at j;have C:rs[k]?=some rs[k]:=cq j;rw[l8 j]at b
  cases d with
  |zero=>simp only[n8]at b;cases b
  |succ d =>
  rw[n8]at b;have⟨v,t,G,b⟩:=cH b;have E:=V k _ c t v d X C l u G;have A:=l.ev G;have e:=kc p own F H al cl t;unfold gV at E
  cases r:t.over with
  |true =>
   rw[r]at e;rw[ae r]at b;simp only[Option.some.injEq,Prod.mk.injEq,true_and]at b;subst b;unfold mS at *;unfold dD at *;refine Z ?_;refine aZ [0,1,2,3,4,5,6] E ?_;refine Z ?_;refine aZ [0,1,5,6] e ?_;exact zcU
  |false =>
   rw[r]at e;rw[D (by rw[r];decide)]at b;unfold mS at *;unfold dD at *;refine Z ?_;refine aZ [0,1,2,3,4,5,6] E ?_;refine Z ?_;refine aZ [0,1,5,6] e ?_;refine Z ?_;exact⟨rfl,rfl,_,_,Wk.aW az,d,t,by omega,b,A,r,rfl,rfl⟩
 ·rintro _ _⟨d,c,w,b,l,u,rfl,rfl⟩;rw[o,m,List.drop_length]at b
  cases d with
  |zero=>simp only[n8]at b;cases b
  |succ d =>
  simp only[n8,Option.some.injEq,Prod.mk.injEq,true_and]at b;subst b;refine bl ?_;rw[q];exact aB
end
end Go.Xg
set_option maxHeartbeats 4000000
namespace Go.Im
open Go.Xp Go.Sp Go.Mn
def LZ{s:ai}(h:fX s=true):s=[124,124]\/s=[38,38]\/s∈Go.Xg.rb:=by
 have c:∀l∈levels,∀x∈l,x=[124,124]\/x=[38,38]\/x∈Go.Xg.rb:=by decide
 grind[fX,qQ,l9]
def wI{l:List ai}{s:ai}(h:l.contains s=true):bM (fun x=>x==s) l=((DF l s:Nat):Int)/\DF l s<l.length:=by
 have M:=Zq h
 have v:0<=bM (fun x=>x==s) l:=by
  grind[bM]
 grind[DF]
theorem Ft{l:List ai}{s:ai}(h:l.contains s=false):bM (fun x=>x==s) l<0:=by
 grind[bM]
section
variable{p:Src}{n:Nd}{l:List T}{ls:List ai}
theorem JQ(h:bG p (.mk n l) ls=0)(k:n.ab=2\/n.ab=7)(V:ls.contains n.s=false):p.ax.contains n.s=true:=by
 unfold bG at h;rw[D (show ¬(T.mk n l).n.ab=13 by grind[T.n]),ae (show(T.mk n l).n.ab=2\/(T.mk n l).n.ab=7 from k)]at h
 cases B:p.ax.contains n.s with
 |true=>rfl
 |false=>rw[ae (show ls.contains (T.mk n l).n.s=false/\p.ax.contains (T.mk n l).n.s=false from⟨V,B⟩)]at h;cases h
theorem OT(h:bG p (.mk n l) ls=0)(m:n.ab=3\/n.ab=8):0<=mq p n.s:=by
 unfold bG at h;rw[D (show ¬(T.mk n l).n.ab=13 by grind[T.n]),D (show ¬((T.mk n l).n.ab=2\/(T.mk n l).n.ab=7) by grind[T.n]),ae (show(T.mk n l).n.ab=3\/(T.mk n l).n.ab=8 from m)]at h
 by_cases k:ls.contains n.s=true\/mq p n.s<0
 ·rw[ae (show ls.contains (T.mk n l).n.s=true\/mq p (T.mk n l).n.s<0 from k)]at h;cases h
 ·omega
def XT(h:bG p (.mk n l) ls=0)(k:n.ab=13):ls.length<40:=by
 unfold bG at h;rw[ae (show(T.mk n l).n.ab=13 from k)]at h;omega
end
section
variable{k:Int}{n:Nat}
theorem yK(h:c7 k n=true)(l:k=3\/k=5\/k=7\/k=11\/k=12\/k=13):n=1:=by
 unfold c7 at h
 grind
theorem Lq(h:c7 k n=true)(l:k=6\/k=8\/k=10):n=2:=by
 unfold c7 at h
 grind
theorem abc(h:c7 k n=true)(l:k=9):n=2\/n=3:=by
 unfold c7 at h;rw[D (show ¬(k=1\/k=2) by omega),D (show ¬(k=4\/k=14) by omega),D (show ¬(k=3\/k=5\/k=7\/k=11\/k=12\/k=13) by omega),D (show ¬(k=6\/k=8\/k=10) by omega),ae l]at h
 grind
theorem Te(h:c7 k n=true):1<=k/\k<=14:=by
 grind[c7]
end
def lu{l:List R}{k:Nat}(h:k<l.length):l[k]?=some (r0 l k):=by
 grind[r0]
def NL{p:Src}(h:cw p=true):∀f∈p.ak,f.params.length<=40:=fun f s=>by
 have⟨l,T⟩:=yH h;unfold cw at h;rw[T.st.xz]at h;simp only[aU,decide_eq_true_eq]at h;have v:=h.2;unfold zg at v;rw[D ze3]at v
 by_cases o:iH p=true
 ·grind
 simp_all[iH,Bool.or_eq_true,not_or,Bool.not_eq_true,List.any_eq_false,decide_eq_true_eq]
end Go.Im
namespace Go.Xg
open Go.RowKit Go.Xw Go.Proofs Tryz Go.Im Go.Mn
open Go.Xp (Nd T)
open Go.Sp (Src)
attribute [local irreducible] GW GL GO YG GC GA bh bn
def Iq(p:Src)(l0:List T)(own:List Int)(F:Nat)(H:MH)(g:Nat):Prop:=∀(a:Nat)(t:T)(G:List ai)(s:M)(v:Int)(u:M),xy p own a t G->nG p F s->s.over=false->ev qX F (qY p l0) g (sf p t G) s=some (v,u)->∀(al:Option Addr)(cl:Nat),
 GF prog 176 [.loc 0 0,.loc 5 0,y4 (a:Nat)] (mS p own F H al cl s) (y4 v) (mS p own F H al cl u)
section
variable{p:Src}{l0:List T}{own:List Int}{F:Nat}{H:MH}{al:Option Addr}{cl:Nat}
def Xy{G a:Nat}{n:Nd}{l:List T}{ls:List ai}(O:∀W,W<=G->Iq p l0 own F H W)(z:xy p own a (.mk n l) ls)(u:b9 (.mk n l)=false):ES p own F H al cl (qY p l0) a (fK p l ls) G:=fun k r s t v W E m L q R=>by
 have J:=tZ p l ls;have B:=(bR m).1;have o:l[k]?=some (l[k]'X):=cq X;have⟨M,A,w⟩:=z.kid u o;rw[m]at w;cases w;exact VL z.node.1 A (O W E _ _ _ _ _ _ M L q R al cl)
def SK(W:MW p l0 own F H){i:Nat}{f:Go.Sp.Fn}{t:T}(hf:p.ak[i]?=some f)(o:l0[i]?=some t):xy p own f.body.toNat t f.params/\0<=f.body:=by
 have⟨a1,M,s,N,l⟩:=W.gl.at_ i f t hf o;exact⟨⟨N,W.ow i f t hf o,a1,M,vJ W.gl o,W.gl.sx o,NL W.gd f (bB hf)⟩,l⟩
def QB{s:M}{args:List Int}(h:nG p F s):nG p F (s.enter args):=⟨h.cN,h.cells,h.rows,by simp[M.locs,M.enter],h.a7,h.out⟩
theorem Wp(W:MW p l0 own F H){g a:Nat}{n:Nd}{l:List T}{ls:List ai}{s s':M}{v:Int}(hN:xy p own a (.mk n l) ls)(h7:7<=n.ab)(V:ES p own F H al cl (qY p l0) a (fK p l ls) (g+1))(hm:nG p F s)(hle:¬F<=s.a7)(hs:s.over=false)
  (h:bZ qX F (qY p l0) (g+1) (uP p n l ls (fK p l ls)) { s with a7:=s.a7+1 }=some (v,s')) :
  GF prog 176 [.loc 0 0,.loc 5 0,y4 (a:Nat)] (mS p own F H al cl s) (y4 v) (mS p own F H al cl s'):=by
 have⟨⟨a1,a2⟩,⟨b1,b2⟩,⟨c1,c2⟩,⟨d1,d2⟩⟩:=et p;have hw:=W.w;have hF:=W.F
 have mo:s.a7<F:=by omega
 have b:=hm.next hle
 have o:({ s with a7:=s.a7+1 }:M).over=false:=hs;generalize DC:({ s with a7:=s.a7+1 }:M)=s1 at *;have⟨i,A,hf,Q,NX,xq⟩:=hN.node;have DB:=tZ p l ls;have⟨k1,k2⟩:=Te Q;unfold uP at h;rw[D (show ¬n.ab=1 by omega),D (show ¬n.ab=2 by omega),D (show ¬n.ab=3 by omega),D (show ¬n.ab=4 by omega),D (show ¬n.ab=5 by omega),D (show ¬n.ab=6 by omega)]at h
 have ST:∀{s':M},n.ab<=13->GF prog 232 [.loc 0 0,.loc 5 0,y4 (a:Nat)] (mS p own F H al cl s1) (.tup []) (mS p own F H al cl s')->GF prog 176 [.loc 0 0,.loc 5 0,y4 (a:Nat)] (mS p own F H al cl s) (y4 0) (mS p own F H al cl s'):=fun h13 L=>Y5 i ⟨h7,h13⟩ mo hF (by rw[DC];exact L)
 by_cases O:n.ab=7
 ·rw[ae O]at h;have R:=yK Q (.inr (.inr (.inl O)));unfold w9 at A;rw[D (show ¬n.ab=13 by omega)]at A
  by_cases L:ls.contains n.s=true
  ·rw[ae L]at h;simp only[bZ]at h;have⟨x,t,G,h⟩:=cH h;have j:=V 0 _ _ t x g X (lu X) b o G;have⟨S,f2⟩:=wI L;rw[S]at A;have Ji:=hN.len;have Jr:=(b.ev G).locs
   by_cases e:t.over=true
   ·exact zbH
   ·rw[D e]at h;simp only[Option.some.injEq,Prod.mk.injEq]at h;obtain⟨rfl,rfl⟩:=h;exact ST X (rD i (.inl O) j (fun h=>absurd h e) fun _=>Pf A X x)
  ·rw[D L]at h;simp only[bZ]at h;have⟨x,t,G,h⟩:=cH h;have j:=V 0 _ _ t x g X (lu X) b o G
   have SW:ls.contains n.s=false:=by grind
   have⟨S,f2⟩:=wI (JQ hf (.inr O) SW);have FK:=(b.ev G).cN
   by_cases e:t.over=true
   ·exact zbH
   ·rw[D e]at h;simp only[Option.some.injEq,Prod.mk.injEq]at h;obtain⟨rfl,rfl⟩:=h;exact ST X (rD i (.inl O) j (fun h=>absurd h e) fun _=>Yg X i A (Ft SW) S X x)
 rw[D O]at h
 by_cases G:n.ab=8
 ·rw[ae G]at h;have AV:=Lq Q (.inr (.inl G));simp only[bZ]at h;have⟨x,t,J,h⟩:=cH h;have j:=V 0 _ _ t x g X (lu X) b o J;have z:=b.ev J;have⟨k,ar,S,f2⟩:=BR (OT hf (.inr G));rw[S,dC]at h;have hh:=W.hs;have L:=MY X i S f2 (BS W.gl f2) z hh j
  have W2:k<t.cells.length:=by rw[z.cells];grind
  have WV:H.hs[k]?=some (H.hs.getD k (0,0)):=by grind
  unfold Ex Ew at L
  have abm:∀(t':M),GF prog 226 [.loc 0 0,.loc 5 0,y4 (a:Nat)] (mS p own F H al cl s1) (.v (.pointer none)) (mS p own F H al cl t')->GF prog 232 [.loc 0 0,.loc 5 0,y4 (a:Nat)] (mS p own F H al cl s1) (.tup []) (mS p own F H al cl t'):=fun t' L=>GZ (k:=0) (h:=(0,0)) (u:=t') (v:=0) i G L (.inl rfl) t' ⟨fun _=>rfl,fun q hq=>(by cases hq)⟩
  by_cases e:t.over=true
  ·rw[ae e]at h;simp only[Option.some.injEq,Prod.mk.injEq]at h;obtain⟨rfl,rfl⟩:=h
   simp_all
  ·rw[D e]at h;rw[D e,D e]at L
   by_cases hi:vH (row t k) x=true
   ·rw[ae hi]at h;rw[ae hi,ae hi]at L;unfold vH at hi;simp only[aU,decide_eq_true_eq]at hi;have⟨y,u,c,h⟩:=cH h;have hw:=V 1 _ _ u y g X (lu X) z ze3 c;have Jv:=EV.ev c
    have hxq:((x.toNat:Nat):Int)=x:=by omega
    have B:=GZ (k:=k) (h:=H.hs.getD k (0,0)) (u:=u) (v:=y) i G L (.inr ⟨x.toNat,rfl,by omega,W2,WV,hw,fun _=>⟨Jv.rows k,Jv.cells⟩⟩) (if u.over=true then u else qJ u k (x.toNat:Int) y) ⟨fun hq=>(by cases hq),fun q hq=>ze3⟩;rw[hxq]at B
    by_cases hu:u.over=true
    ·rw[ae hu]at h B;exact zdc
    ·rw[D hu]at h B;exact zdc
   simp_all
 rw[D G]at h
 by_cases J:n.ab=9
 ·rw[ae J]at h;have hl3:=abc Q J
  by_cases h3:l.length=3
  ·rw[ae h3]at h;simp only[bZ]at h;have⟨x,t,c,h⟩:=cH h;have j:=V 0 _ _ t x g X (lu X) b o c;have z:=b.ev c
   by_cases e:t.over=true
   ·exact zbL
   ·rw[D e]at h
    by_cases hx:x≠0
    ·exact za9
    ·rw[D hx]at h;have⟨y,u,d,h⟩:=cH h;simp only[Option.some.injEq,Prod.mk.injEq]at h;obtain⟨rfl,rfl⟩:=h;exact ST X (tt i J j (fun h=>absurd h e) fun E=>.inr (.inl ⟨by omega,by omega,y,V 2 _ _ _ y g X (lu X) z E d⟩))
  ·rw[D h3]at h;simp only[bZ]at h;have⟨x,t,c,h⟩:=cH h;have j:=V 0 _ _ t x g X (lu X) b o c;have z:=b.ev c
   by_cases e:t.over=true
   ·exact zbL
   ·rw[D e]at h
    by_cases hx:x≠0
    ·exact za9
    ·rw[D hx]at h;simp only[Option.some.injEq,Prod.mk.injEq]at h;obtain⟨rfl,rfl⟩:=h;exact ST X (tt i J j (fun h=>absurd h e) fun E=>.inr (.inr ⟨by omega,by omega,rfl⟩))
 rw[D J]at h
 by_cases c:n.ab=10
 ·rw[ae c]at h;have AV:=Lq Q (.inr (.inr c));simp only[bZ]at h;have⟨w0,t,d,h⟩:=cH h;simp only[Option.some.injEq,Prod.mk.injEq]at h;obtain⟨rfl,rfl⟩:=h;exact ST X (L5 i c (fun k r s t v g' Dw=>V k r s t v g' X) (lu X) (lu X) b o d)
 rw[D c]at h
 by_cases d:n.ab=11
 ·rw[ae d]at h;have R:=yK Q (.inr (.inr (.inr (.inl d))));simp only[bZ]at h;have⟨x,t,C,h⟩:=cH h;have j:=V 0 _ _ t x g X (lu X) b o C;have B:=G0 i (.inl d) j;rw[ae d]at B
  by_cases e:t.over=true
  ·simp_all
  simp_all
 rw[D d]at h
 by_cases C:n.ab=12
 ·rw[ae C]at h;have R:=yK Q (.inr (.inr (.inr (.inr (.inl C)))));simp only[bZ]at h;have⟨x,t,m,h⟩:=cH h;have j:=V 0 _ _ t x g X (lu X) b o m;have B:=G0 i (.inr C) j
  simp_all
 rw[D C]at h
 by_cases m:n.ab=13
 ·rw[ae m]at h;have R:=yK Q (.inr (.inr (.inr (.inr (.inr m)))));unfold w9 at A;rw[ae m]at A;simp only[bZ]at h;have⟨x,t,N,h⟩:=cH h;have j:=V 0 _ _ t x g X (lu X) b o N;have Ji:=XT hf m;have Jr:=(b.ev N).locs
  by_cases e:t.over=true
  ·rw[ae e]at h;simp only[Option.some.injEq,Prod.mk.injEq]at h;obtain⟨rfl,rfl⟩:=h;exact ST X (rD i (.inr m) j (fun _=>rfl) fun h=>absurd h ze3)
  ·rw[D e]at h;simp only[Option.some.injEq,Prod.mk.injEq]at h;obtain⟨rfl,rfl⟩:=h;exact ST X (rD i (.inr m) j (fun h=>absurd h e) fun _=>Pf A X x)
 rw[D m]at h
 have N:n.ab=14:=by omega
 simp only[bZ]at h;have⟨w0,t,e15,h⟩:=cH h;simp only[Option.some.injEq,Prod.mk.injEq]at h;obtain⟨rfl,rfl⟩:=h;have xP:=(d2 n (bB i)).2;exact QA (g:=g) i N mo hF X X (fun k r s t v g' Dw=>V k r s t v g' X) ze3 hs ze3
theorem Ui(W:MW p l0 own F H){G:Nat}(ih:∀g',g'<=G->Iq p l0 own F H g'):Iq p l0 own F H (G+1):=fun a t ls s v s' hN hm hs h al cl=>by
 have⟨⟨a1,a2⟩,⟨b1,b2⟩,⟨c1,c2⟩,⟨d1,d2⟩⟩:=et p;have hw:=W.w;have Q:=W.F;rw[Go.Mn.ev]at h;split at h
 ·grind[Option.some.injEq,Prod.mk.injEq,Wm]
 rename_i hle
 have d:s.a7<F:=by omega
 have b:=hm.next hle
 have j:({ s with a7:=s.a7+1 }:M).over=false:=hs;have⟨n,l⟩:=t;rw[sf]at h;have⟨z,S,hf,hk,NX,xq⟩:=hN.node
 have hV:b9 (.mk n l)=false->ES p own F H al cl (qY p l0) a (fK p l ls) G:=fun hz=>Xy ih hN hz
 have FO:n.ab≠4->b9 (.mk n l)=false:=fun h4=>by grind[T.n,b9]
 have DB:=tZ p l ls;have⟨k1,k2⟩:=Te hk
 cases G with
 |zero=>grind[bZ]
 |succ g =>
 by_cases e1:n.ab=1
 ·unfold uP at h;rw[ae e1]at h
  grind[bZ,Option.some.injEq,Prod.mk.injEq,Wo]
 by_cases e2:n.ab=2
 ·unfold uP at h;rw[D e1,ae e2]at h;unfold w9 at S;rw[D (show ¬n.ab=13 by omega)]at S
  by_cases o:ls.contains n.s=true
  ·rw[ae o]at h;simp only[bZ,Option.some.injEq,Prod.mk.injEq]at h;obtain⟨rfl,rfl⟩:=h;have⟨B,L⟩:=wI o;rw[B]at S;have Ji:=hN.len;have Jr:=hm.locs
   grind[Wn]
  ·rw[D o]at h;simp only[bZ,Option.some.injEq,Prod.mk.injEq]at h;obtain⟨rfl,rfl⟩:=h
   have SW:ls.contains n.s=false:=by grind
   have⟨B,L⟩:=wI (JQ hf (.inl e2) SW);have FK:=hm.cN
   grind[Uh,Ft]
 by_cases A:n.ab=3
 ·have V:=hV (FO X);unfold uP at h;rw[D e1,D e2,ae A]at h;have W4:=yK hk (.inl A);simp only[bZ]at h;have⟨x,t,m,h⟩:=cH h;have hv:=V 0 _ _ t x g X (lu X) b j m;have E:=b.ev m;have⟨k,ar,B,L⟩:=BR (OT hf (.inl A));rw[B,dC]at h;have hh:=W.hs;have o:=MY X z B L (BS W.gl L) E hh hv
  have W2:k<t.cells.length:=by rw[E.cells];grind
  have WV:H.hs[k]?=some (H.hs.getD k (0,0)):=by grind
  unfold Ex Ew at o
  by_cases e:t.over=true
  ·rw[ae e]at h;simp only[Option.some.injEq,Prod.mk.injEq]at h;obtain⟨rfl,rfl⟩:=h;rw[ae e,ae e]at o;exact zef
  ·rw[D e]at h;rw[D e,D e]at o
   by_cases C:vH (row t k) x=true
   ·rw[ae C]at h;simp only[Option.some.injEq,Prod.mk.injEq]at h;obtain⟨rfl,rfl⟩:=h;rw[ae C,ae C]at o;unfold vH at C;simp only[aU,decide_eq_true_eq]at C;exact Ld (k:=k) (q:=x.toNat) (h:=H.hs.getD k (0,0)) z A d Q o _ (.inr ⟨rfl,by omega,W2,WV,rfl⟩)
   ·rw[D C]at h;simp only[Option.some.injEq,Prod.mk.injEq]at h;obtain⟨rfl,rfl⟩:=h;rw[D C,D C]at o;exact zef
 by_cases m:n.ab=4
 ·by_cases hz:n.s=cB
  ·unfold uP at h;rw[D e1,D e2,D A,ae m,ae hz]at h;simp only[bZ,Option.some.injEq,Prod.mk.injEq]at h;obtain⟨rfl,rfl⟩:=h;exact IZ z m d Q (LI W hN m hz _)
  ·have Xr:b9 (.mk n l)=false:=by
    unfold b9;show((n.ab==4&&n.s==cB)&&_)=false
    grind
   have V:=hV Xr;have⟨g',Dw,hA⟩:=Rv m hz hf j h;refine IZ z m d Q (UX W (G:=g+1) hN m hz (fun k r s t v g2 SZ hk hm hs he=>V k r s t v g2 X hk hm hs he) (fun i args t g2 w u SZ hto hd Jj E C NR=>?_) hA b j)
   have Dx:i<p.ak.length:=by
    have:=zQ (f:=fun f:Go.Sp.Fn=>f.name==n.s) (l:=p.ak) (by grind[bF])
    grind[bM,bF]
   have hlen:=W.gl.len;have R:p.ak[i]?=some p.ak[i]:=cq Dx;have hti:l0[i]?=some (l0[i]'X):=cq X;have⟨hNf,hbf⟩:=SK W R hti;have N:=NR;rw[Gv R hti]at N;have Jv:=EV.ev NR
   refine IL R hbf hd Jj Jv.aX fun al cl=>ih g2 X _ _ _ _ _ _ hNf (QB E) ?_ N al cl
   grind[M.over,M.enter]
 have V:=hV (FO m)
 by_cases e5:n.ab=5
 ·unfold uP at h;rw[D e1,D e2,D A,D m,ae e5]at h;have W4:=yK hk (.inr (.inl e5));simp only[bZ]at h;have⟨x,t,e6,h⟩:=cH h;simp only[Option.some.injEq,Prod.mk.injEq]at h;obtain⟨rfl,rfl⟩:=h;exact Y6 z e5 d Q (NX.2.1 e5) (V 0 _ _ t x g X (lu X) b j e6)
 by_cases e6:n.ab=6
 ·unfold uP at h;rw[D e1,D e2,D A,D m,D e5,ae e6]at h;have AV:=Lq hk (.inl e6);have FP:=lu (l:=fK p l ls) (k:=0) X;have zq:=lu (l:=fK p l ls) (k:=1) X;refine Wl z e6 d Q ?_;have DC:=LZ (NX.2.2 e6)
  by_cases B:n.s=[38,38]
  ·rw[ae B]at h;simp only[bZ]at h;have⟨x,t,J,h⟩:=cH h;have hv:=V 0 _ _ t x g X FP b j J
   by_cases e:t.over=true
   ·rw[ae e]at h
    exact zdD
   ·rw[D e]at h
    have c:t.over=false:=by grind
    by_cases hx:x=0
    ·rw[ae hx]at h;simp only[Option.some.injEq,Prod.mk.injEq]at h;obtain⟨rfl,rfl⟩:=h;have:=E1 z hv c (.inr ⟨B,hx⟩);subst hx;exact this
    ·rw[D hx]at h;have⟨y,u,e8,h⟩:=cH h;have hw:=V 1 _ _ u y g X zq (b.ev J) c e8
     by_cases O:u.over=true
     ·rw[ae O]at h
      exact zdE
     ·rw[D O]at h
      grind[Option.some.injEq,Prod.mk.injEq,E2,oN]
  rw[D B]at h
  by_cases L:n.s=[124,124]
  ·rw[ae L]at h;simp only[bZ]at h;have⟨x,t,J,h⟩:=cH h;have hv:=V 0 _ _ t x g X FP b j J
   by_cases e:t.over=true
   ·rw[ae e]at h
    exact zdD
   ·rw[D e]at h
    have c:t.over=false:=by grind
    by_cases hx:x≠0
    ·rw[ae hx]at h;simp only[Option.some.injEq,Prod.mk.injEq]at h;obtain⟨rfl,rfl⟩:=h;have:=E1 z hv c (.inl ⟨L,hx⟩)
     simp_all[oN,ae]
    ·rw[D hx]at h;have⟨y,u,e8,h⟩:=cH h;have hw:=V 1 _ _ u y g X zq (b.ev J) c e8
     have Xq:x=0:=by omega
     by_cases O:u.over=true
     ·rw[ae O]at h
      exact zdE
     ·rw[D O]at h
      grind[Option.some.injEq,Prod.mk.injEq,E2,oN]
  rw[D L]at h
  have SU:n.s∈rb:=by grind
  simp only[bZ]at h;have⟨x,t,J,h⟩:=cH h;have hv:=V 0 _ _ t x g X FP b j J
  by_cases e:t.over=true
  ·rw[ae e]at h
   exact zdD
  ·rw[D e]at h
   have c:t.over=false:=by grind
   have⟨y,u,e8,h⟩:=cH h;have hw:=V 1 _ _ u y g X zq (b.ev J) c e8
   by_cases O:u.over=true
   ·rw[ae O]at h
    exact zdE
   ·rw[D O]at h;have:=Ql z hv c SU hw ze3;have h:(if(ra n.s x y).2≠0 then some ((0:Int),u.stop 2 (ra n.s x y).2)else some ((ra n.s x y).1,u))=some (v,s'):=h
    grind
 grind[Wp]
theorem aaj(W:MW p l0 own F H):∀g,Iq p l0 own F H g:=by
 have c:∀N g,g<=N->Iq p l0 own F H g:=by
  intro N
  induction N with
  |zero =>
   grind[Go.Mn.ev,Iq]
  |succ N O =>
   intro g B
   cases g with
   |zero=>grind
   |succ g=>grind[Ui]
 exact fun g=>c g g (aQ g)
end
end Go.Xg
namespace Go.Im
open Go.Xp Go.Sp
def D5(s:List Int)(a:Nat)(t:T)(ls:List ai):(fU s a t ls).length=s.length:=by unfold fU;rw[length_set]
mutual
def Uq:∀(t:T)(a:Nat)(s:List Int)(ls:List ai),(fq fU t a s ls).1.length=s.length
 |.mk n l,a,s,ls=>by rw[fq];show(dk fU l (a+1) _ ls).1.length=_;rw[zN l,D5]
def zN:∀(l:List T)(a:Nat)(s:List Int)(ls:List ai),(dk fU l a s ls).1.length=s.length
 |[],a,s,ls=>by rw[dk]
 |t::r,a,s,ls=>by rw[dk,zN r,Uq t]
end
end Go.Im
namespace Go.Xg
open Go.RowKit Go.Xw Go.Proofs Tryz Go.Im
open Go.Xp (Nd T)
open Go.Sp (Src)
attribute [local irreducible] GW GL GO YG GC GA bh bn
def yd:∀(l:List Int)(k:Nat)(x:Int),dw (cm l) k 0 (y4 x)=cm (l.set k x)
 |[],k,x=>rfl
 |a::l,0,x=>rfl
 |a::l,k+1,x=>by
  show[y4 a]::dw (cm l) k 0 (y4 x)=_;rw[yd l k x];rfl
def VD(p:Src)(i:Option Addr)(W:Nat)(a:Nat)(n:Nd)(l:List T)(ls:List ai)(s:List Int)(F:TypeId)(O:Option Addr)(L:Nat)(hn:p.ah[a]?=some n)(J:ls.length<=1099511627776)(t:s.length=p.ah.length) :
  GF prog 175 [y4 (a:Nat),.v (.slice O ls.length L),.box (aD p) 0,.loc 0 0] [.box F [.v (.slice i p.ah.length W)],.vech 3 1 (cm s) (.slice i p.ah.length W),.vech 9 1 (bX ls) (.slice O ls.length L)] (.tup [])
   [.box F [.v (.slice i p.ah.length W)],.vech 3 1 (cm (fU s a (.mk n l) ls)) (.slice i p.ah.length W),.vech 9 1 (bX ls) (.slice O ls.length L)]:=by
 have r:=b8 hn;have G:=(bR hn).1;have N:=gz ls n.s J;rw[xS]at N;have o:strs ls=.sl 1 (bX ls):=rfl;rw[o]at N;have hx:(cm s)[a]?=some [.v (ii s[a])]:=ep (cq X)
 have E:a<(cm s).length:=by rw[bC];omega
 have m:(cm s).length=p.ah.length:=by rw[bC];exact t
 have e:cm (fU s a (.mk n l) ls)=if(n.ab==13)=true then dw (dw (cm s) a 0 (y4 (bM (fun x=>x==n.s) ls))) a 0 (y4 (ls.length:Nat))else dw (cm s) a 0 (y4 (bM (fun x=>x==n.s) ls)):=by
  rw[yd,yd];unfold fU w9;show cm (s.set a (if n.ab=13 then(ls.length:Int)else _))=_
  by_cases h:n.ab=13
  ·rw[ae h,ae zfb,List.set_set]
  ·rw[D h,D zfb];rfl
 rw[e];generalize bM (fun x=>x==n.s) ls=q at *
 have M:(dw (cm s) a 0 (y4 q))[a]?=some [y4 q]:=by rw[CA hx,ae rfl];rfl
 have V:a<(dw (cm s) a 0 (y4 q)).length:=by rw[eb];exact E
 have c:(dw (cm s) a 0 (y4 q)).length=p.ah.length:=by rw[eb];exact m
 unfold aP at r
 cases k:(n.ab==13)with
 |true =>
  rw[ae rfl];refine aj func175 ntmps175 ?_;refine aS (aK 0 5 (.a 5 (.q 6 (.a 7 .nil)))) ?_;refine av ?_;refine OA rfl rfl ?_;refine GL.borrow N (fun B K u w l N S=>ic (A:=[_,_]) (C:=[_]) N S rfl rfl) ?_;refine zcp ?_;refine OA rfl rfl ?_;refine GL.xw rfl rfl rfl aO rfl rfl rfl rfl ?_;refine zaX ?_;refine wq ?_;exact dj
 |false =>
  rw[D aN];refine aj func175 ntmps175 ?_;refine aS (aK 0 5 (.a 5 (.q 6 (.a 7 .nil)))) ?_;refine av ?_;refine OA rfl rfl ?_;refine GL.borrow N (fun B K u w l N S=>ic (A:=[_,_]) (C:=[_]) N S rfl rfl) ?_;refine zcp ?_;exact zc0
open GV (U)
open Go.Xp (bc aR db)
def G9(p:Src)(i:Option Addr)(W:Nat):GV:=.fn (.func 175) [] [.box (aD p) 0,.loc 0 0]
def TE(p:Src):GV:=.fn (.func 115) [] [.loc 2 0,.loc 3 0,.box (aD p) 0,.loc 4 0]
def DW(p:Src)(i:Option Addr)(W:Nat)(A H j R:TypeId)(s:List Int)(ls:List ai)(O:Option Addr)(L:Nat):ap :=
 [.box A [.v (.slice i p.ah.length W)],.vech 3 1 (cm (s)) (.slice i p.ah.length W),.box H [G9 p i W],.box j [.v (.slice O ls.length L)],.box R [TE p],.vech 9 1 (bX ls) (.slice O ls.length L)]
def Sc(p:Src)(C:Option Addr)(E:Nat)(B G H J:TypeId)(hp:p.ah.length<=1048576)(O:∀n∈p.ah,n.au.length<=1099511627776):∀(N:Nat)(t:T),bc t<=N->∀(a:Nat)(s:List Int)(ls:List ai)(j:Option Addr)(m:Nat),dW p.ah a t->ls.length+bc t<=8388608->s.length=p.ah.length ->
  GC prog 115 [y4 (a:Nat),.loc 2 0,.loc 3 0,.box (aD p) 0,.loc 4 0] (DW p C E B G H J s ls j m) fun g Δ=>g=.tup []/\∃b c,Δ=DW p C E B G H J (fq fU t a s ls).1 (fq fU t a s ls).2 b c:=by
 intro N
 induction N with
 |zero=>intro t h;exact zel
 |succ N ih =>
 intro t hN a s ls j m q Q hs
 cases t with
 |mk n l =>
 rw[Go.Xp.bc]at hN Q;have aa5:=q;rw[dW]at q;have⟨R,W,S⟩:=q;rw[fq];have hr:=b8 R;have NT:=O n (bB R);have ht:=VD p C E a n l ls s B j m R X hs;have W6:=D5 s a (.mk n l) ls;generalize FQ:fU s a (.mk n l) ls=o at *
 have d:n.au.length=l.length:=by rw[W,db]
 unfold aP at hr;unfold DW G9 TE;refine aj func115 ntmps115 ?_;refine GL.oO [0,1,5] ht rfl rfl rfl (by repeat (first|exact trivial|refine⟨rfl,?_⟩)) ?_;rintro _ _⟨rfl,rfl⟩;refine zao ?_;refine GW.range (n.au.map fun i=>[y4 i]).length (fun k fr Γ=>∃b c,fr=[y4 (a:Nat),.loc 2 0,.loc 3 0,.box (aD p) 0,.loc 4 0,U,U,U,U,U,U,U,U,U,U,U,U,ints n.au,y4 ((n.au.map fun i=>[GV.v (ii i)]).length:Int),y4 (k:Nat),U,U,U,U,U,U,U,U,U,U,U,U,U,U,U,U,U,U,U,U,U,U,U]/\Γ=DW p C E B G H J (dk fU (l.take k) (a+1) o ls).1 (dk fU (l.take k) (a+1) o ls).2 b c) ?_ zfd ?_ ?_ ?_
 ·exact zeu
 ·rintro k _ _⟨j,m,rfl,rfl⟩;exact dN
 ·rintro k _ _ z⟨j,m,rfl,rfl⟩;rw[bC,d]at z;obtain⟨u,F⟩:∃u,l[k]?=some u:=⟨l[k],by simp[z]⟩;have r:=oz (n:=a+1) F;rw[<-W]at r;have Ju:=ep r;have pf:=gZ F;have V:dW p.ah (a+1+aR (l.take k)) u:=dQ.ix l (a+1) k u S F
  have w:(dk fU (l.take k) (a+1) o ls).2.length<=ls.length+aR (l.take k):=by
   exact zcZ
  have hm1:=zN (l.take k) (a+1) o ls;rw[wG _ F];generalize(dk fU (l.take k) (a+1) o ls).1=s2 at *;generalize(dk fU (l.take k) (a+1) o ls).2=e at *;have A:=ih u X (a+1+aR (l.take k)) s2 e j m V X X;unfold DW G9 TE at A |-;refine Z ?_;refine GL.oO [0,1,2,3,4,5] A rfl rfl rfl (by repeat (first|exact trivial|refine⟨rfl,?_⟩)) ?_;rintro _ _⟨rfl,b,c,rfl⟩;exact zcu
 ·rintro _ _⟨j,m,rfl,rfl⟩;rw[bC,d,dx]
  have w:(dk fU l (a+1) o ls).2.length<=ls.length+aR l:=by
   exact zev
  generalize(dk fU l (a+1) o ls).1=s2 at *;generalize(dk fU l (a+1) o ls).2=e at *;have Dy:(bX e).length=e.length:=rE e;unfold DW G9 TE;refine bl ?_
  cases A:(n.ab==13)with
  |false =>
   rw[D zfI];exact zc4
  |true =>
   rw[ae zfI];refine zbm ?_;refine OA rfl rfl (GL.mx 5 (news:=[[.v (sv n.s)]]) rfl rfl rfl aO rfl rfl (by refine⟨?_,?_⟩;(· show _+1<=_;omega);(· show(_+1)*_<=_;omega)) ?_);intro L M;refine zem ?_;exact⟨rfl,L,M,by simp[bX]⟩
def Ul(p:Src)(j:Option Addr)(W:Nat)(B:TypeId)(i:Nat)(f:Go.Sp.Fn)(t:T)(s:List Int)(G:p.ah.length<=1048576)(C:∀n∈p.ah,n.au.length<=1099511627776)
  (hf:p.ak[i]?=some f)(w:f.params.length<=1048576)(H:0<=f.body)(E:dW p.ah f.body.toNat t)(z:bc t<=1048576)(q:s.length=p.ah.length) :
  GF prog 53 [.agg (aD p),y4 (i:Nat),G9 p j W] [.box B [.v (.slice j p.ah.length W)],.vech 3 1 (cm (s)) (.slice j p.ah.length W)] (.tup []) [.box B [.v (.slice j p.ah.length W)],.vech 3 1 (cm ((fq fU t f.body.toNat s f.params).1)) (.slice j p.ah.length W)]:=by
 have r:(p.ak.map aH)[i]?=some (aH f):=by rw[bO,hf];rfl
 have A:(f.params.map fun s=>[GV.v (sv s)]).length=f.params.length:=by simp
 have l:=w8 f.params;obtain⟨b,V⟩:∃b:Nat,f.body=(b:Int):=⟨f.body.toNat,by omega⟩;rw[V,dC]at E |-;unfold aH at r;rw[V]at r;unfold G9;refine dT func53 ntmps53 ?_;refine za1 ?_;refine GL.yu 4 rfl rfl rfl rfl l (by refine⟨?_,?_⟩;(· rw[A];omega);(· rw[A];omega)) ?_;intro O L;rw[A];refine bm ?_;simp only[nil_append,List.length_nil,iX];refine Z ?_;refine GW.Fl (de:=U::y4 (i:Nat)::U::.box (aD p) 0::U::.loc 3 0::.loc 5 0::.loc 6 0::zU 16 []) (bE:=[.box B [.v (.slice j p.ah.length W)],.vech 3 1 (cm (s)) (.slice j p.ah.length W),.gone,.box _ [.fn (.func 175) [] [.box (aD p) 0,.loc 0 0]],.vech 9 1 (bX f.params) (.slice O f.params.length L),.box _ [.v (.slice O f.params.length L)],.box _ [.fn (.func 115) [] [.loc 3 0,.loc 5 0,.box (aD p) 0,.loc 6 0]]]) az rfl ?_;refine zdJ ?_;have c:=Sc p j W B;refine OA rfl rfl (GL.oO [0,1,3,5,6,4] (c _ _ _ G C _ t (aQ _) b s f.params O L E X q) rfl rfl rfl (by repeat (first|exact trivial|refine⟨rfl,?_⟩)) ?_);rintro _ _⟨rfl,M,F,rfl⟩;refine⟨by simp[DW],?_⟩;unfold DW;refine zcp ?_;exact dj
end Go.Xg
