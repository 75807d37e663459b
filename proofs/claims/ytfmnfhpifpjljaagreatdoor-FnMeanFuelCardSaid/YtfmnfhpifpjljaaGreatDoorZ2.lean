/- Part 2 of proofs that are told in their last texts. -/
import Derived.Test.YtfmnfhpifpjljaaGreatDoorZ1
open List (all_cons any_eq_false cons_append drop_left find?_eq_none flatMap_cons getElem?_of_mem length_cons length_nil length_set mem_cons_self nil_append prefix_refl zip_cons_cons)
set_option linter.unusedVariables false
set_option linter.unusedSimpArgs false
set_option linter.defProp false
set_option maxRecDepth 100000
namespace Go.Im
open Go.Xp Go.Sp
def pG(n:Int):ai:=if n<0 then 45::gQ n.natAbs else gQ n.toNat
def tB(s:ai):Int:=match levels.findIdx? (fun l=>l.contains s)with|some i=>(i:Int)|none => -1
def uZ(b:Bool)(x:ai):ai:=if b=true then(40::x)++[41]else x
def oS(t:T)(W:Int):Bool:=(t.n.aj==6)&&decide (tB t.n.s<W)
def vH(n:Nd)(l:List T)(x:List ai):ai :=
 if n.aj=1 then pG n.n
 else if n.aj=3 then((n.s++[91])++x.getD 0 [])++[93]
 else if n.aj=4 then((n.s++[40])++cJ x)++[41]
 else if n.aj=5 then(n.s++[32])++(match l with|a::_=>uZ (a.n.aj==6) (x.getD 0 [])|[]=>[])
 else if n.aj=6 then(match l with
  |a::b::_=>(((uZ (oS a (tB n.s)) (x.getD 0 [])++[32])++n.s)++[32])++uZ (oS b (tB n.s+1)) (x.getD 1 [])
  |_=>[])
 else n.s
mutual
def dW:T->ai
 |.mk n l=>vH n l (jg l)
def jg:List T->List ai
 |[]=>[]
 |t::r=>dW t::jg r
end
def NP(t:T):dW t=vH t.n t.au (jg t.au):=by cases t;rfl
theorem I4(l:List T):jg l=l.map dW:=by
 induction l with
 |nil=>rfl
 |cons t l q=>grind[jg]
mutual
def lF:T->Nat
 |.mk n l=>n.s.length+60+jb l
def jb:List T->Nat
 |[]=>0
 |t::r=>lF t+jb r
end
def pC(t:T):lF t=t.n.s.length+60+jb t.au:=by cases t;rfl
def tP{l:List T}{t:T}(h:t∈l):lF t<=jb l:=by
 induction l with
 |nil=>cases h
 |cons a l q =>
  grind[lF,jb]
def PH(l:List T):l.length*60<=jb l:=by
 induction l with
 |nil=>simp
 |cons t l q=>rw[jb,pC,length_cons];omega
theorem Lt{n:Nat}(h:n<100000000000000000000):(gQ n).length<=20:=Hj 19 n aK
theorem xp{n:Int}(h : -9223372036854775808<=n/\n<=9223372036854775807):(pG n).length<=21:=by
 grind[Lt,length_cons,pG]
theorem Hb(b:Bool)(x:ai):(uZ b x).length<=x.length+2:=by
 grind[uZ]
theorem zz:∀(x:List ai),(cJ x).length<=(x.map fun y=>y.length+2).sum
 |[]=>by simp[cJ]
 |y::r=>by
  simp[cJ,ai]
mutual
def r9:T->Prop
 |.mk n l=>(-9223372036854775808<=n.n/\n.n<=9223372036854775807)/\rz l
def rz:List T->Prop
 |[]=>True
 |t::r=>r9 t/\rz r
end
def ra(t:T):r9 t↔(-9223372036854775808<=t.n.n/\t.n.n<=9223372036854775807)/\rz t.au:=by cases t;rfl
def kT{l:List T}{t:T}(h:rz l)(H:t∈l):r9 t:=by
 induction l with
 |nil=>cases H
 |cons a l q =>
  grind[rz]
def vI:∀(N:Nat)(t:T),bg t<=N->r9 t->(dW t).length+4<=lF t:=by
 intro N
 induction N with
 |zero=>grind[fP]
 |succ N q =>
  intro t u Q;rw[fP]at u;rw[ra]at Q
  have G:∀a∈t.au,(dW a).length+4<=lF a:=fun a O=>by
   refine q a ?_ (kT Q.2 O)
   have:∀(l:List T),a∈l->bg a<=aZ l:=by
    intro l
    induction l with
    |nil=>simp
    |cons b l W =>
     grind[bg,aZ]
   grind
  have J:((jg t.au).map fun y=>y.length+2).sum<=jb t.au:=by
   have:∀(l:List T),(∀a∈l,(dW a).length+4<=lF a)->((jg l).map fun y=>y.length+2).sum<=jb l:=by
    intro l
    induction l with
    |nil=>intro _;simp[jg]
    |cons a l W =>
     intro h;have z:=h a (mem_cons_self)
     have v:=W fun b s=>h b (ey _ s)
     rw[jg,jb,List.map_cons,List.sum_cons];omega
   grind
  have M:((jg t.au).getD 0 []).length<=jb t.au:=by
   cases c:t.au with
   |nil=>simp[jg]
   |cons a r =>
    grind[jg]
  have A:∀a b r,t.au=a::b::r->((jg t.au).getD 0 []).length+((jg t.au).getD 1 []).length+8<=jb t.au:=fun a b r c=>by
   have z:=G a zfk;have v:=G b zfk;rw[c,jg,jg,jb,jb];grind
  rw[NP,pC];unfold vH
  grind[xp,bl,length_cons,length_nil,zz,Hb]
def zb(own:ai)(n:Nd)(k:Nat)(x b:List ai):ai :=
 if n.aj=13 then((([118,97,114,32]++n.s)++[32,61,32])++x.getD 0 [])++[59]
 else if n.aj=7 then((n.s++[32,61,32])++x.getD 0 [])++[59]
 else if n.aj=8 then((((n.s++[91])++x.getD 0 [])++[93,32,61,32])++x.getD 1 [])++[59]
 else if n.aj=9 then(if k=3 then((([105,102,32,40]++x.getD 0 [])++[41,32])++b.getD 1 [])++([32,101,108,115,101,32]++b.getD 2 [])else(([105,102,32,40]++x.getD 0 [])++[41,32])++b.getD 1 [])
 else if n.aj=10 then(([119,104,105,108,101,32,40]++x.getD 0 [])++[41,32])++b.getD 1 []
 else if n.aj=11 then([114,101,116,117,114,110,32]++x.getD 0 [])++[59]
 else if n.aj=12 then x.getD 0 []++[59]
 else own
section
variable(tx:T->ai)(inl:List ai->Nat->ai)
mutual
def ln:Nat->T->ai
 |d,.mk n l=>zb (tx (.mk n l)) n l.length (l.map tx) (qs d l)
def qs:Nat->List T->List ai
 |_,[]=>[]
 |d,t::r=>nT d t::qs d r
def nT:Nat->T->ai
 |d,.mk n l=>inl (xI (d+1) l) d
def xI:Nat->List T->List ai
 |_,[]=>[]
 |d,t::r=>ln d t::xI d r
end
end
section
variable(tx:T->ai)(inl:List ai->Nat->ai)(d:Nat)
def NG(t:T):ln tx inl d t=zb (tx t) t.n t.au.length (t.au.map tx) (qs tx inl d t.au):=by cases t;rw[ln];rfl
def K9(t:T):nT tx inl d t=inl (xI tx inl (d+1) t.au) d:=by cases t;rw[nT];rfl
def G7(l:List T):qs tx inl d l=l.map (nT tx inl d):=by
 induction l with
 |nil=>rfl
 |cons t l q=>rw[qs,q];rfl
def IX(l:List T):xI tx inl d l=l.map (ln tx inl d):=by
 induction l with
 |nil=>rfl
 |cons t l q=>rw[xI,q];rfl
end
def r8(q:ai)(l:List ai):ai:=l.foldl (fun q s=>q++(s++[32])) q
def ia(l:List ai)(d:Nat):ai:=r8 [123,32] l++[125]
def lp:List ai->Nat
 |[]=>0
 |s::l=>s.length+1+lp l
theorem sZ(l:List ai):∀q,(r8 q l).length=q.length+lp l:=by
 induction l with
 |nil=>intro q;simp[r8,lp]
 |cons s l r =>
  intro q;have:=r (q++(s++[32]));simp only[r8,List.foldl_cons,lp,bl,length_cons,length_nil]at this |-;omega
def FE(a b:List ai):lp (a++b)=lp a+lp b:=by
 induction a with
 |nil=>simp[lp]
 |cons s a q=>simp only[cons_append,lp,q];omega
def NL(l:List ai)(k:Nat):lp (l.take k)<=lp l:=by
 have:lp l=lp (l.take k)+lp (l.drop k):=by rw[<-FE,List.take_append_drop]
 omega
def Lh(q:ai)(l:List ai)(s:ai):r8 q (l++[s])=r8 q l++(s++[32]):=by simp[r8]
def TP{l:List ai}{s:ai}(h:s∈l):s.length<=lp l:=by
 induction l with
 |nil=>cases h
 |cons a l q =>
  rw[lp]
  rcases nj h with rfl|h
  ·omega
  ·have:=q h;omega
def Pj{l:List ai}{d:Nat}{s:ai}(h:s∈l):s.length<=(ia l d).length:=by
 have z:=TP h;have v:=sZ l [123,32];unfold ia;rw[bl,v];omega
def g1(s:ai):ai:=([105,110,116,32]++s)++[59,10]
def a1(a:Ar):ai:=((([105,110,116,32]++a.name)++[91])++pG a.size)++[93,59,10]
def dV(u:T->ai)(inl:List ai->Nat->ai)(x:Fn × T):ai:=((((([102,117,110,99,32]++x.1.name)++[40])++cJ x.1.params)++[41,32])++nT u inl 0 x.2)++[10]
def ez{C:Type}(f:C->ai):ai->List C->ai
 |acc,[]=>acc
 |acc,x::l=>ez f (acc++f x) l
section
variable{C:Type}(f:C->ai)
theorem wZ(l:List C)(x:C):∀q,ez f q (l++[x])=ez f q l++f x:=by
 induction l with
 |nil=>intro q;rfl
 |cons y l r=>intro q;simp only[cons_append,ez];exact r _
def OR(l k:List C):∀q,ez f q (l++k)=ez f (ez f q l) k:=by
 induction l with
 |nil=>intro q;rfl
 |cons y l r=>intro q;simp only[cons_append,ez];exact r _
def BB(l:List C):∀q,q.length<=(ez f q l).length:=by
 induction l with
 |nil=>intro q;exact a8 _
 |cons y l r=>intro q;have:=r (q++f y);rw[ez];rw[bl]at this;omega
def w4(l:List C)(k:Nat)(q:ai):(ez f q (l.take k)).length<=(ez f q l).length:=by
 have:ez f q l=ez f (ez f q (l.take k)) (l.drop k):=by rw[<-OR,List.take_append_drop]
 rw[this];exact BB f _ _
end
def nO(u:T->ai)(inl:List ai->Nat->ai)(p:Src)(aJ:List T):ai:=ez (dV u inl) (ez a1 (ez g1 [] p.aw) p.aq) (p.az.zip aJ)
end Go.Im
namespace Go.Im
def fv{C:Type}(p:C->C->Bool):List C->List C->Bool
 |[],[]=>true
 |a::r,b::s=>p a b&&fv p r s
 |_,_=>false
section
variable{C:Type}{p:C->C->Bool}
def x9:∀{a b:List C},fv p a b=true->a.length=b.length
 |[],[],_=>rfl
 |a::r,b::s,h=>by rw[fv,a6]at h;rw[length_cons,length_cons,x9 h.2]
 |[],b::s,h=>by cases h
 |a::r,[],h=>by cases h
def rL{a b:List C}(h:a.length≠b.length):fv p a b=false:=by
 cases o:fv p a b with
 |false=>rfl
 |true=>exact absurd (x9 o) h
theorem D8:∀{a b:List C}{k:Nat}{x y:C},a[k]?=some x->b[k]?=some y->fv p a b=true->p x y=true
 |a::r,b::s,0,x,y,z,v,h=>by cases z;cases v;rw[fv,a6]at h;exact h.1
 |a::r,b::s,k+1,x,y,z,v,h=>by rw[fv,a6]at h;exact D8 zfv zfY h.2
 |[],_,k,x,y,z,v,h=>by simp at z
 |a::r,[],k,x,y,z,v,h=>by simp at v
def rM{a b:List C}{k:Nat}{x y:C}(z:a[k]?=some x)(v:b[k]?=some y)(h:p x y=false):fv p a b=false:=by
 cases o:fv p a b with
 |false=>rfl
 |true=>have:=D8 z v o;rw[h]at this;cases this
def Hs:∀{a b:List C},a.length=b.length->(∀(k:Nat)x y,a[k]?=some x->b[k]?=some y->p x y=true)->fv p a b=true
 |[],[],_,_=>rfl
 |a::r,b::s,W,h=>by
  rw[fv,h 0 a b rfl rfl,Hs zfC fun k x y z v=>h (k+1) x y zfv zfY];rfl
 |[],b::s,W,h=>by simp at W
 |a::r,[],W,h=>by simp at W
end
def th{C:Type}(p:C->C->Bool)(a b:List C)(k:Nat):Prop:=∀j x y,j<k->a[j]?=some x->b[j]?=some y->p x y=true
section
variable{C:Type}{p:C->C->Bool}{a b:List C}
def nk{k:Nat}{x y:C}(z:a[k]?=some x)(w:b[k]?=some y)(h:th p a b k)(R:p x y=true):th p a b (k+1):=fun j u v o I c=>by
 by_cases e:j=k
 ·subst e;rw[z]at I;rw[w]at c;cases I;cases c;exact R
 ·exact h j u v aK I c
def od(W:a.length=b.length)(h:th p a b a.length):fv p a b=true :=
 Hs W fun k x y z v=>h k x y (bG z).1 z v
end
def rA(a b:Go.Sp.Fn):Bool:=((a.name==b.name)&&fv (fun x y=>x==y) a.params b.params)&&(a.body==b.body)
def kL(a b:Go.Xp.Nd):Bool:=(((a.aj==b.aj)&&(a.n==b.n))&&(a.s==b.s))&&fv (fun x y=>x==y) a.au b.au
def yM(x y:Go.Xp.Ar):Bool:=(x.name==y.name)&&(x.size==y.size)
open Go.Xp Go.Sp
def Hw(l:List T):(bp l).length=l.length:=by grind[sI]
def w6(t:T):(er t).n=⟨t.n.aj,0,t.n.n,t.n.s,[]⟩:=by cases t;rfl
def SC(t:T):(er t).au=bp t.au:=by cases t;rfl
mutual
theorem A9:∀t:T,bg (er t)=bg t
 |.mk n l=>by rw[er,bg,bg,vG l]
theorem vG:∀l:List T,aZ (bp l)=aZ l
 |[]=>by rw[bp]
 |t::r=>by rw[bp,aZ,aZ,A9 t,vG r]
end
def CT(m:Nat):∀(l:List T)(i:Nat),b0 m i (bp l)=b0 m i l
 |[],i=>by rw[bp]
 |t::r,i=>by rw[bp,b0,b0,CT m r (i+1),w6]
def Db:∀(l:List T),(bp l).all (fun x=>jl x.n.aj)=l.all (fun x=>jl x.n.aj)
 |[]=>by rw[bp]
 |t::r=>by rw[bp,all_cons,all_cons,Db r,w6]
def Wh(n:Nd)(k:Nat)(kd:Nat->Bool)(o:Bool)(h:0<=n.at_)(W:own ⟨n.aj,0,n.n,n.s,[]⟩ k kd o=true):own n k kd o=true:=by
 grind[own]
mutual
def KZ:∀t:T,dU (er t)=true->wM t->dU t=true
 |.mk n l,h,O=>by
  rw[er,dU,a6]at h;rw[wM]at O;rw[dU,a6];refine⟨G3 l h.1 O.2,?_⟩;have v:own ⟨n.aj,0,n.n,n.s,[]⟩ (bp l).length (fun m=>b0 m 0 (bp l)) ((bp l).all fun x=>jl x.n.aj)=true:=h.2;rw[Hw,Db]at v;simp only[CT]at v;exact Wh n _ _ _ O.1 v
def G3:∀l:List T,dB (bp l)=true->mg l->dB l=true
 |[],_,_=>rfl
 |t::r,h,O=>by
  rw[bp,dB,a6]at h;rw[mg]at O;rw[dB,a6];exact⟨KZ t h.1 O.1,G3 r h.2 O.2⟩
end
mutual
theorem KY:∀t:T,dU t=true->wM t
 |.mk n l,h=>by
  rw[dU,a6]at h;rw[wM];refine⟨?_,G2 l h.1⟩;have v:own n l.length (fun m=>b0 m 0 l) (l.all fun x=>jl x.n.aj)=true:=h.2
  grind[own]
theorem G2:∀l:List T,dB l=true->mg l
 |[],_=>trivial
 |t::r,h=>by
  rw[dB,a6]at h;rw[mg];exact⟨KY t h.1,G2 r h.2⟩
end
def lU(a:E):nH a.tree.n.aj=true:=by cases a<;>rfl
mutual
def E.ig:∀a:E,a.ok=true->dU a.tree=true
 |.num n,h=>by
  simp only[E.ok,a6]at h
  grind[dB,cL,own,T.n,T.au,dU,E.tree]
 |.name s,h=>by
  grind[E.ok,dB,cL,own,T.n,T.au,dU,E.tree]
 |.at_ s a,h=>by
  simp only[E.ok,a6]at h;have v:=E.ig a h.2;have I:=lU a
  exact zei
 |.call s l,h=>by
  simp only[E.ok,a6]at h;have⟨v,I⟩:=E.rW l h.2;rw[E.tree,dU,v];have:=I (E.aJ l).length 0 aK;simp[cL,own,T.n,T.au,h.1,this]
 |.un s a,h=>by
  simp only[E.ok,a6]at h;have v:=E.ig a h.2;have I:=lU a
  exact zei
 |.bin s a b,h=>by
  simp only[E.ok,a6]at h;have v:=E.ig a h.1.2;have I:=lU a;have c:=E.ig b h.2;have F:=lU b
  exact zei
def E.rW:∀l:List E,E.dv l=true->dB (E.aJ l)=true/\∀m i,i+(E.aJ l).length<=m->b0 m i (E.aJ l)=true
 |[],_=>⟨rfl,fun m i _=>rfl⟩
 |a::l,h=>by
  simp only[E.dv,a6]at h;have⟨v,I⟩:=E.rW l h.2;refine⟨by rw[E.aJ,dB,E.ig a h.1,v];rfl,fun m i N=>?_⟩;rw[E.aJ,length_cons]at N;rw[E.aJ,b0,ae aK,lU a,I m (i+1) aK];rfl
end
def Wt(a:S):jl a.tree.n.aj=true:=by cases a<;>rfl
mutual
def S.ig:∀a:S,a.ok=true->dU a.tree=true
 |.set s a,h=>by
  simp only[S.ok,a6]at h;have v:=E.ig a h.2;have I:=lU a
  exact zej
 |.var s a,h=>by
  simp only[S.ok,a6]at h;have v:=E.ig a h.2;have I:=lU a
  exact zej
 |.ret a,h=>by
  exact zcI
 |.do_ a,h=>by
  exact zcI
 |.put s a b,h=>by
  simp only[S.ok,a6]at h;have v:=E.ig a h.2.1;have I:=lU a;have d:=E.ig b h.2.2;have F:=lU b
  exact zej
 |.if1 c b,h=>by
  exact zb5
 |.if2 c b W,h=>by
  simp only[S.ok,a6]at h;have v:=E.ig c h.1;have I:=lU c;have d:=S.uY b h.2.1;have F:=S.uY W h.2.2;rw[S.tree,dU,dB,dB,dB,dB,v,d,F];simp[cL,own,T.n,T.au,b0];exact I
 |.while_ c b,h=>by
  exact zb5
def S.uY:∀l:List S,S.dv l=true->dU (.mk ⟨14,0,0,[],[]⟩ (S.aJ l))=true
 |l,h=>by
  have⟨z,v⟩:=S.rW l h;have I:cL (.mk ⟨14,0,0,[],[]⟩ (S.aJ l))=own ⟨14,0,0,[],[]⟩ (S.aJ l).length (fun m=>b0 m 0 (S.aJ l)) ((S.aJ l).all fun x=>jl x.n.aj):=rfl;rw[dU,z,I,v];simp[own]
def S.rW:∀l:List S,S.dv l=true->dB (S.aJ l)=true/\(S.aJ l).all (fun x=>jl x.n.aj)=true
 |[],_=>⟨rfl,rfl⟩
 |a::l,h=>by
  simp only[S.dv,a6]at h;have⟨z,v⟩:=S.rW l h.2;exact⟨by rw[S.aJ,dB,S.ig a h.1,z];rfl,by rw[S.aJ,all_cons,v,Wt a];rfl⟩
end
def Yj{n:Nd}{k:Nat}{kd:Nat->Bool}{o:Bool}(h:own n k kd o=true):df n.aj k=true:=by
 have q:n.aj=1\/n.aj=2\/n.aj=3\/n.aj=4\/n.aj=5\/n.aj=6\/n.aj=7\/n.aj=8\/n.aj=9\/n.aj=10\/n.aj=11\/n.aj=12\/n.aj=13\/n.aj=14\/(n.aj<1\/14<n.aj):=by omega
 unfold own at h
 by_cases M:decide (n.at_<0)=true
 ·grind
 rw[ab M]at h
 by_cases z:(n.aj != 1&&n.n != 0)=true
 ·grind
 rw[ab z]at h;clear M z
 rcases q with G|G|G|G|G|G|G|G|G|G|G|G|G|G|G
 all_goals(first|(simp[G]at h;simp[df,G];done)|(simp[G]at h;simp[df,G];omega)|(simp[G]at h;simp[df,G,h];done)|skip)
 ·exfalso
  have F:(n.aj==1)=false:=by grind
  have r:(n.aj==2)=false:=by grind
  grind
mutual
def QI:∀t:T,dU t=true->gJ t=true
 |.mk n l,h=>by
  rw[dU,a6]at h;rw[gJ,K4 l h.1,Bool.and_true];exact Yj h.2
def K4:∀l:List T,dB l=true->xt l=true
 |[],_=>rfl
 |t::r,h=>by
  rw[dB,a6]at h;rw[xt,QI t h.1,K4 r h.2];rfl
end
def PI(t:T)(z:Int):oS (er t) z=oS t z:=by unfold oS;rw[w6]
def TU(n:Nd)(l:List T)(x:List ai):vH ⟨n.aj,0,n.n,n.s,[]⟩ (bp l) x=vH n l x:=by
 unfold vH
 match l with
 |[]=>rw[bp]
 |[a]=>rw[bp,bp];simp[w6]
 |a::b::r=>rw[bp,bp];simp[w6,PI]
mutual
theorem NQ:∀t:T,dW (er t)=dW t
 |.mk n l=>by rw[er,dW,dW,Cm l,TU]
theorem Cm:∀l:List T,jg (bp l)=jg l
 |[]=>by rw[bp]
 |t::r=>by rw[bp,jg,jg,NQ t,Cm r]
end
mutual
def WA(inl:List ai->Nat->ai):∀(t:T)(d:Nat),ln dW inl d (er t)=ln dW inl d t
 |.mk n l,d=>by
  have h:=NQ (.mk n l);rw[er]at h |-;rw[ln,ln,h,G6 inl l d,Hw]
  have:(bp l).map dW=l.map dW:=by grind[I4,Cm]
  rw[this];rfl
def G6(inl:List ai->Nat->ai):∀(l:List T)(d:Nat),qs dW inl d (bp l)=qs dW inl d l
 |[],d=>by rw[bp]
 |t::r,d=>by rw[bp,qs,qs,La inl t d,G6 inl r d]
def La(inl:List ai->Nat->ai):∀(t:T)(d:Nat),nT dW inl d (er t)=nT dW inl d t
 |.mk n l,d=>by rw[er,nT,nT,IW inl l (d+1)]
def IW(inl:List ai->Nat->ai):∀(l:List T)(d:Nat),xI dW inl d (bp l)=xI dW inl d l
 |[],d=>by rw[bp]
 |t::r,d=>by rw[bp,xI,xI,WA inl t d,IW inl r d]
end
theorem MT{s:ai}(h:fX s=true):tB s=(fg s:Int):=by
 grind[List.findIdx?_eq_none_iff,fX,qJ,tB,fg]
def Ih{a:E}(h:a.ok=true)(k:Nat)(G:k<=9):oS a.tree (k:Int)=decide (a.lv<k):=by
 have c:∀b:Bool,(false&&b)=decide (9<k):=fun b=>by grind
 cases a with
 |bin s x y =>
  simp only[E.ok,a6]at h;show(true&&decide (tB s<(k:Int)))=decide (fg s<k)
  simp_all[MT,Bool.true_and,decide_eq_decide]
 |num n=>exact c _
 |name n=>exact c _
 |at_ s a=>exact c _
 |call s l=>exact c _
 |un s a=>exact c _
def Bz(lv k:Nat)(x:ai):uZ (decide (lv<k)) x=qL lv k x:=by
 simp[ai,uZ,qL]
def Uv{a:E}(h:a.ok=true):(a.tree.n.aj==6)=decide (a.lv<9):=by
 cases a with
 |bin s x y =>
  simp only[E.ok,a6]at h;have:=(rQ h.1.1).1;show true=decide (fg s<9)
  grind
 |_=>rfl
mutual
def kx:∀a:E,a.ok=true->dW a.tree=a.bT
 |.num n,h=>by
  simp only[E.ok,a6,decide_eq_true_eq]at h;rw[E.tree,dW,E.bT];unfold vH pG
  grind
 |.name s,h=>by
  rfl
 |.at_ s a,h=>by
  simp only[E.ok,a6]at h;have v:=kx a h.2;rw[E.tree,dW,jg,jg,v,E.bT];simp[vH]
 |.call s l,h=>by
  simp only[E.ok,a6]at h;rw[E.tree,dW,I5 l h.2,E.bT];simp[vH]
 |.un s a,h=>by
  simp only[E.ok,a6]at h;have v:=kx a h.2;rw[E.tree,dW,jg,jg,v,E.bT,<-Bz,<-Uv h.2];simp[vH]
 |.bin s a b,h=>by
  simp only[E.ok,a6]at h;have v:=kx a h.1.2;have I:=kx b h.2;have W:=(rQ h.1.1).1;have F:=Ih h.1.2 (fg s) aK;have o:=Ih h.2 (fg s+1) aK;rw[E.tree,dW,jg,jg,jg,v,I,E.bT,<-Bz,<-Bz,<-F,<-o];unfold vH
  grind[MT]
def I5:∀l:List E,E.dv l=true->jg (E.aJ l)=E.dX l
 |[],_=>rfl
 |a::l,h=>by
  simp only[E.dv,a6]at h;rw[E.aJ,jg,E.dX,kx a h.1,I5 l h.2]
end
def CC(x:E->ai):∀(l:List S)(q:ai),r8 q (l.map (S.bT x))=S.dX x q l
 |[],q=>by rfl
 |a::l,q=>by
  rw[S.dX,<-CC x l];simp[ai,r8,S.bT]
mutual
def TM:∀(s:S),s.ok=true->∀d,ln dW ia d s.tree=s.bT E.bT
 |.set s a,h,d=>by
  exact zdW
 |.var s a,h,d=>by
  exact zdW
 |.ret a,h,d=>by
  exact zea
 |.do_ a,h,d=>by
  exact zea
 |.put s a b,h,d=>by
  simp only[S.ok,a6]at h;rw[S.tree,ln,List.map_cons,List.map_cons,kx a h.2.1,kx b h.2.2,S.bT];simp[zb]
 |.if1 c b,h,d=>by
  exact zcR
 |.if2 c b T,h,d=>by
  simp only[S.ok,a6]at h;have r:=uX b h.2.1 d;have Q:=uX T h.2.2 d;rw[S.tree,ln,List.map_cons,kx c h.1,qs,qs,qs,qs,r,Q,S.bT];simp[zb,iy]
 |.while_ c b,h,d=>by
  exact zcR
def uX:∀(l:List S),S.dv l=true->∀d,nT dW ia d (.mk ⟨14,0,0,[],[]⟩ (S.aJ l))=iy E.bT l
 |l,h,d=>by
  rw[nT,IY l h (d+1),ia,CC];rfl
def IY:∀(l:List S),S.dv l=true->∀d,xI dW ia d (S.aJ l)=l.map (S.bT E.bT)
 |[],_,d=>by rfl
 |a::l,h,d=>by
  simp only[S.dv,a6]at h;rw[S.aJ,xI,List.map_cons,TM a h.1,IY l h.2]
end
def tg{C:Type}{p:C->C->Bool}(h:∀x,p x x=true):∀l:List C,fv p l l=true
 |[]=>rfl
 |a::l=>by rw[fv,h a,tg h l];rfl
def x8{C:Type}[BEq C][LawfulBEq C]:∀{a b:List C},fv (fun x y=>x==y) a b=true->a=b
 |[],[],_=>rfl
 |a::r,b::s,h=>by rw[fv,a6,beq_iff_eq]at h;rw[h.1,x8 h.2]
 |[],b::s,h=>by cases h
 |a::r,[],h=>by cases h
def Ht{C:Type}{p:C->C->Bool}:∀{a b:List C}{c d:List C},a.length=b.length->fv p (a++c) (b++d)=(fv p a b&&fv p c d)
 |[],[],c,d,_=>rfl
 |a::r,b::s,c,d,h=>by rw[cons_append,cons_append,fv,fv,Ht zfk,Bool.and_assoc]
 |[],b::s,_,_,h=>by simp at h
 |a::r,[],_,_,h=>by simp at h
def we:∀(l:List T)(a:Nat),bS a (bp l)=bS a l
 |[],a=>by rw[bp]
 |t::r,a=>by rw[bp,bS,bS,A9,we r]
mutual
theorem SJ:∀(t u:T)(a:Nat),er t=er u->fv kL (jA a t) (jA a u)=true
 |.mk n l,.mk m k,a,h=>by
  rw[er,er]at h
  injection h with h1 h2
  injection h1 with h3 h4 h5 h6 h7
  rw[jA,jA,fv,BJ l k (a+1) h2,Bool.and_true,<-we l,<-we k,h2];simp only[kL,h3,h5,h6];simp[tg]
theorem BJ:∀(l k:List T)(a:Nat),bp l=bp k->fv kL (en a l) (en a k)=true
 |[],[],a,_=>by rfl
 |t::r,u::s,a,h=>by
  rw[bp,bp]at h
  injection h with h1 h2
  have E:bg t=bg u:=by grind[A9]
  rw[en,en,Ht (by grind[SI]),SJ t u a h1,<-E,BJ r s _ h2];rfl
 |[],u::s,a,h=>by grind[bp]
 |t::r,[],a,h=>by grind[bp]
end
mutual
def TJ:∀(t u:T)(a:Nat)(x y:List Nd),fv kL (jA a t++x) (jA a u++y)=true->er t=er u/\fv kL x y=true
 |.mk n l,.mk m k,a,x,y,h=>by
  rw[jA,jA,cons_append,cons_append,fv,a6]at h;have⟨z,v⟩:=h;simp only[kL,a6,beq_iff_eq]at z;have⟨⟨⟨I,c⟩,F⟩,H⟩:=z;have W:=congrArg List.length (x8 H);rw[ec,ec]at W;have⟨O,B⟩:=Ce l k (a+1) x y W v
  grind[er,fv,kL]
def Ce:∀(l k:List T)(a:Nat)(x y:List Nd),l.length=k.length->fv kL (en a l++x) (en a k++y)=true->bp l=bp k/\fv kL x y=true
 |[],[],a,x,y,_,h=>by grind[en]
 |t::r,u::s,a,x,y,W,h=>by
  rw[en,en,eU,eU]at h;have⟨z,v⟩:=TJ t u a _ _ h
  have E:bg t=bg u:=by grind[A9]
  rw[<-E]at v;have⟨I,c⟩:=Ce r s _ x y zfk v
  grind[bp,fv,kL]
 |[],u::s,a,x,y,W,h=>by simp at W
 |t::r,[],a,x,y,W,h=>by simp at W
end
def TI{l k:List T}(W:l.length=k.length)(h:fv kL (en 0 l) (en 0 k)=true):bp l=bp k:=by
 have:=Ce l k 0 [] [] W zfk
 grind
structure PS where
 aJ:List T
 aw:List ai
 aq:List Ar
 az:List (ai × List ai)
def PS.empty:PS:=⟨[],[],[],[]⟩
def px:Nat->List ai->RS->Option (List ai × RS)
 |0,_,_=>none
 |f+1,q,p =>
  if p.code=0/\is p 0 [41]=false then px f (q++[(tok (if q.length=0 then p else want p [44]) 0).s]) (bZ (if q.length=0 then p else want p [44]))
  else some (q,want p [41])
def iW(f:Nat)(p:RS)(st:PS):Option (RS × PS) :=
 if is p 0 iV=true then
  if(bZ p.next).code=0/\is (bZ p.next) 0 [91]=true then
   if(tok (bZ p.next).next 0).aj=1 then
    some (want (want (bZ p.next).next.next [93]) [59],{ st with aq:=st.aq++[⟨(tok p.next 0).s,(tok (bZ p.next).next 0).n⟩] })
   else some (lB (bZ p.next).next,st)
  else some (want (bZ p.next) [59],{ st with aw:=st.aw++[(tok p.next 0).s] })
 else if is p 0 jm=true then
  match px f [] (want (bZ p.next) [40])with
  |none=>none
  |some (l,q) =>
   if q.code=0 then match iS f (.block 1) q with
    |none=>none
    |some (t,q)=>some (q,{ st with aJ:=st.aJ++[t],az:=st.az++[((tok p.next 0).s,l)] })
   else some (q,st)
 else some (lB p,st)
def nU:Nat->Nat->RS->PS->Option (RS × PS)
 |0,_,_,_=>none
 |g+1,f,p,st =>
  if p.code=0/\p.i<p.l.length then match iW f p st with
   |none=>none
   |some (p,st)=>nU g f p st
  else some (p,st)
def Mu:∀(f:Nat)(r:List ai)(p:RS)(l:List ai)(q:RS),p.ok->px f r p=some (l,q)->p.to q
 |0,_,_,_,_,_,h=>by cases h
 |f+1,r,p,l,q,R,h=>by
  rw[px]at h;split at h
  ·have z:p.to (if r.length=0 then p else want p [44]):=by grind[jV,de]
   have v:=jr (z.ok R);have I:=Mu f _ _ l q ((z.trans v).ok R) h
   grind[RS.to]
  grind[de]
def XQ{f:Nat}{p q:RS}{st o:PS}(R:p.ok)(h:iW f p st=some (q,o)):p.to q:=by
 unfold iW at h;split at h
 ·rename_i M;have z:=kM M;have v:=z.trans (jr (z.ok R));split at h
  ·rename_i s;have I:=v.trans (kM s.2);split at h
   ·rename_i G
    have N:(tok (bZ p.next).next 0).aj≠0:=by omega
    have c:=I.trans (cS (by have:=rV N;exact this));have F:=c.trans (de (c.ok R) [93])
    cases h;exact F.trans (de (F.ok R) _)
   ·cases h;exact I.trans (wI (I.ok R))
  ·cases h;exact v.trans (de (v.ok R) _)
 ·split at h
  ·rename_i M;have z:=kM M;have v:=z.trans (jr (z.ok R));have I:=v.trans (de (v.ok R) [40])
   cases O:px f [] (want (bZ p.next) [40])with
   |none=>grind
   |some r =>
    have⟨l,u⟩:=r;rw[O]at h;simp only at h;have c:=I.trans (Mu _ _ _ _ _ (I.ok R) O);split at h
    ·cases s:iS f (.block 1) u with
     |none=>grind
     |some r =>
      have⟨t,b⟩:=r;rw[s]at h;cases h;exact c.trans ((DB f).1 _ _ _ _ (c.ok R) s)
    grind
  grind[wI]
structure PS.le(a:PS)(n:Nat):Prop where
 aJ:a.aJ.length<=n
 aw:a.aw.length<=n
 aq:a.aq.length<=n
 az:a.az.length=a.aJ.length
def XO{f n:Nat}{p q:RS}{st o:PS}(h:iW f p st=some (q,o))(r:st.le n):o.le (n+1):=by
 have⟨a,b,c,d⟩:=r;have e:st.le (n+1):=⟨by omega,by omega,by omega,d⟩;unfold iW at h;split at h
 ·split at h
  ·split at h
   ·cases h;exact⟨by grind,by grind,by grind,by omega⟩
   grind
  ·cases h;exact⟨by grind,by grind,by grind,by omega⟩
 ·split at h
  ·split at h
   ·cases h
   ·split at h
    ·split at h
     ·cases h
     ·cases h;exact⟨by grind,by grind,by grind,by grind⟩
    grind
  grind
end Go.Im
namespace Go.Sp
open Go.Xp
inductive Tz(s:ai):Nat->List Tok->Nat->Prop
 |nil (a:Nat):Tz s a [] a
 |blank {a b:Nat} {c:UInt8} {ts:List Tok} (hc:s[a]?=some c) (hb:fq c=true) (h:Tz s (a+1) ts b):Tz s a ts b
 |tok {a a' b:Nat} {c:UInt8} {t:Tok} {ts:List Tok} (hc:s[a]?=some c) (hb:fq c=false) (hr:cr s a [47,42]=false) (ht:gD s a c=(t,a')) (hk:t.aj=1\/t.aj=2\/t.aj=3) (hn:t.n<=2147483647) (ha:a<a') (h:Tz s a' ts b):Tz s a (t::ts) b
def Tz.app{s:ai}{a b c:Nat}{ts us:List Tok}(h:Tz s a ts b)(k:Tz s b us c):Tz s a (ts++us) c:=by
 induction h with
 |nil a=>exact k
 |blank o r h q=>exact .blank o r (q k)
 |tok o r i H G Q O h q=>exact .tok o r i H G Q O (q k)
def Tz.kinds{s:ai}{a b:Nat}{ts:List Tok}(h:Tz s a ts b):∀t∈ts,t.aj=1\/t.aj=2\/t.aj=3:=by
 induction h with
 |nil a=>simp
 |blank o r h q=>exact q
 |tok o r i H G Q O h q =>
  grind
def Tz.len{s:ai}{a b:Nat}{ts:List Tok}(h:Tz s a ts b):a+ts.length<=b:=by
 induction h with
 |nil a=>simp
 |blank o r h q=>omega
 |tok o r i H G Q O h q=>grind
theorem ND(s:ai):∀(f H a:Nat),a<=s.length->s.length<f+a->s.length<H+a->skip s f a=skip s H a:=by
 intro f
 induction f with
 |zero=>omega
 |succ f q =>
  intro H a z v I;obtain⟨H,rfl⟩:∃g,H=g+1:=⟨H-1,by omega⟩
  grind[List.getElem?_eq_some_iff,lT,sk,rv,cr,im,skip]
def Tz.ic{s:ai}{a b:Nat}{ts:List Tok}(h:Tz s a ts b):∀(f:Nat)(q:List Tok),qG s (f+ts.length) (skip s (s.length+1) a).1 q=qG s f (skip s (s.length+1) b).1 (q++ts):=by
 induction h with
 |nil a=>simp
 |blank o u h r =>
  rename_i a b c ts;intro f q;have i:=(bG o).1;rw[<-r f q]
  have:skip s (s.length+1) a=skip s (s.length+1) (a+1):=by
   rw[skip,o];grind[ND]
  rw[this]
 |tok o u j H G Q O h r =>
  rename_i a d b c t ts;intro f q
  have:skip s (s.length+1) a=(a,-1):=by
   grind[skip]
  rw[this,length_cons,<-nE,qG,o]
  grind
def Tz.all{s:ai}{ts:List Tok}(h:Tz s 0 ts s.length):Go.Sp.ic s=some ts:=by
 have z:=h.len;have v:=h.ic (s.length+2-ts.length) [];unfold Go.Sp.ic;rw[show s.length+2-ts.length+ts.length=s.length+2 by omega]at v;rw[v]
 have I:skip s (s.length+1) s.length=(s.length,-1):=by rw[skip];simp
 rw[I];obtain⟨g,F⟩:∃g,s.length+2-ts.length=g+1:=⟨s.length+1-ts.length,by omega⟩
 grind[qG]
theorem nL{s r:ai}{a:Nat}{c:UInt8}(h:s.drop a=c::r):s[a]?=some c/\s.drop (a+1)=r/\a<s.length:=by
 have z:s[a]?=some c:=by
  have:=List.getElem?_drop (xs:=s) (i:=a) (j:=0)
  grind
 grind[List.getElem?_eq_some_iff,List.tail_drop]
def TE(s:ai)(p:UInt8->Bool):∀(w n:ai)(f a:Nat),s.drop a=w++n->(∀c∈w,p c=true)->run s p (f+w.length) a=run s p f (a+w.length):=by
 intro w
 induction w with
 |nil=>simp
 |cons c w q =>
  intro n f a h R;have⟨z,v,_⟩:=nL h;rw[length_cons,<-nE,run,z];simp only;rw[ae (R c (mem_cons_self)),q n f (a+1) v (fun c o=>R c (ey _ o))]
  grind
def P3(s:ai)(p:UInt8->Bool)(n:ai)(f a:Nat)(h:s.drop a=n)(R:∀c,n.head?=some c->p c=false):run s p f a=a:=by
 cases f with
 |zero=>rfl
 |succ f =>
  rw[run]
  cases n with
  |nil =>
   simp_all
  |cons c r =>
   grind[nL]
def ES{s w n:ai}{a:Nat}(h:s.drop a=w++n)(ha:a<=s.length):a+w.length+n.length=s.length:=by
 grind[n2]
def Qy{s w n:ai}{a:Nat}{c:UInt8}{r:ai}(ha:a<=s.length)(h:s.drop a=w++n)(i:w=c::r)(o:small c=true)(W:∀c∈w,fB c=true)(R:∀c,n.head?=some c->fB c=false) :
  gD s a c=(⟨if words.contains w=true then 3 else 2,0,w,a⟩,a+w.length):=by
 have b:=ES h ha
 have e:gV s a=a+w.length:=by
  unfold gV;obtain⟨g,F⟩:∃g,s.length+1=g+w.length:=⟨s.length+1-w.length,by omega⟩;rw[F,TE s fB w n g a h W];refine P3 s fB n g _ ?_ R;rw[<-List.drop_drop,h,drop_left]
 have q:eF c=false:=by
  simp only[small,eF,a6]at o |-
  grind
 unfold gD;rw[ab zfk,ae o]
 grind[jt]
def fold(n:Int)(w:ai):Int:=w.foldl (fun n c=>if n<=2147483647 then n*10+((c.toNat:Int)-48)else n) n
def Kf(s:ai):∀(w o:ai)(f:Nat)(n:Int)(a:Nat),s.drop a=w++o->(∀c∈w,eF c=true)->number s (f+w.length) n a=number s f (fold n w) (a+w.length):=by
 intro w
 induction w with
 |nil=>grind[fold]
 |cons c w r =>
  intro o f n a h R;have⟨z,v,_⟩:=nL h;rw[length_cons,<-nE,number,z];simp only;rw[ae (R c (mem_cons_self)),r o f _ (a+1) v (fun c q=>R c (ey _ q))]
  grind[number,fold]
def Gv(s:ai)(o:ai)(f:Nat)(n:Int)(a:Nat)(h:s.drop a=o)(R:∀c,o.head?=some c->eF c=false):number s f n a=(n,a):=by
 cases f with
 |zero=>rfl
 |succ f =>
  rw[number]
  cases o with
  |nil =>
   simp_all
  |cons c r =>
   grind[nL]
def Ls(k:Nat)(h:k<=9):eF (UInt8.ofNat (48+k))=true/\((UInt8.ofNat (48+k)).toNat:Int)=48+k:=by
 have:(UInt8.ofNat (48+k)).toNat=48+k:=by simp;omega
 grind[eF]
def Hk(n:Nat):(∀c∈gQ n,eF c=true)/\(n<=2147483647->fold 0 (gQ n)=n)/\gQ n≠[]:=by
 induction n using Nat.strongRecOn with
 |_ n q =>
 unfold gQ
 by_cases h:n<10
 ·rw[dif_pos h];have⟨z,v⟩:=Ls n aK
  grind[fold]
 ·rw[dif_neg h];have⟨z,v,I⟩:=q (n / 10) aK;have⟨d,F⟩:=Ls (n%10) aK
  grind[fold]
def Tg{s o:ai}{n a:Nat}{c:UInt8}{r:ai}(ha:a<=s.length)(h:s.drop a=gQ n++o)(e:gQ n=c::r)(hn:n<=2147483647)(R:∀c,o.head?=some c->eF c=false) :
  gD s a c=(⟨1,n,[],a⟩,a+(gQ n).length):=by
 have⟨z,v,I⟩:=Hk n;have W:=ES h ha;have q:eF c=true:=z c zfk;obtain⟨g,F⟩:∃g,s.length+1=g+(gQ n).length:=⟨s.length+1-(gQ n).length,by omega⟩;unfold gD;rw[ae q,F,Kf s (gQ n) o g 0 a h z,v hn,Gv s o g _ _ (by rw[<-List.drop_drop,h,drop_left]) R]
def yI{s r t:ai}{a:Nat}(h:s.drop a=r)(ha:a<=s.length):cr s a t=t.isPrefixOf r:=by
 have W:a+r.length=s.length:=by grind
 unfold cr;rw[List.drop_take,h,Nat.add_sub_cancel_left]
 by_cases R:t <+: r
 ·obtain⟨z,rfl⟩:=R
  grind
 grind
def Cb:List UInt8:=[32,40,41,91,93,44,59,123,125,10]
def Sep(n:ai):Prop:=∀c,n.head?=some c->c∈Cb
theorem Sep.fB{n:ai}(h:Sep n):∀c,n.head?=some c->fB c=false:=by
 intro c o
 have:∀c∈Cb,Go.Sp.fB c=false:=by decide
 exact this c (h c o)
theorem Sep.eF{n:ai}(h:Sep n):∀c,n.head?=some c->eF c=false:=by
 intro c o
 have:∀c∈Cb,Go.Sp.eF c=false:=by decide
 exact this c (h c o)
theorem Tr{x y z:ai}(h:x.length<=y.length):x.isPrefixOf (y++z)=x.isPrefixOf y:=by
 induction x generalizing y with
 |nil=>simp
 |cons a x q =>
  cases y with
  |nil=>simp at h
  |cons b y=>grind
def find_congr{C:Type}{p q:C->Bool}:∀{l:List C},(∀x∈l,p x=q x)->l.find? p=l.find? q
 |[],_=>rfl
 |a::l,h=>by rw[List.find?_cons,List.find?_cons,h a (mem_cons_self),find_congr (fun x hx=>h x (ey _ hx))]
def Qb{s w n:ai}{a:Nat}{c:UInt8}{r:ai}(ha:a<=s.length)(h:s.drop a=w++n)(e:w=c::r)(N:w∈cE)(W:Sep n) :
  gD s a c=(⟨3,0,w,a⟩,a+w.length)/\fq c=false/\cr s a [47,42]=false:=by
 have q:∀w∈cE,∀c,w.head?=some c->eF c=false/\small c=false/\fq c=false:=by
  have:∀w∈cE,(match w.head? with|some c=>!eF c&&!small c&&!fq c|none=>true)=true:=by decide
  grind
 have⟨z,v,I⟩:=q w N c zfk
 have R:∀w∈cE,w.length<=2/\1<=w.length:=by decide
 have d:∀w∈cE,cE.find? (fun x=>x.isPrefixOf w)=some w/\[47,42].isPrefixOf w=false:=by decide
 have T:∀w∈cE,∀c∈Cb,cE.find? (fun x=>x.isPrefixOf (w++[c]))=some w/\[47,42].isPrefixOf (w++[c])=false:=by decide
 have t:cE.find? (cr s a)=some w/\cr s a [47,42]=false:=by
  have F:∀x,cr s a x=x.isPrefixOf (w++n):=fun x=>yI h ha
  have o:cE.find? (cr s a)=cE.find? (fun x=>x.isPrefixOf (w++n)):=find_congr fun x _=>F x
  rw[o,F]
  cases n with
  |nil=>grind
  |cons S n =>
   have C:=W S rfl
   have G:∀x:ai,x.length<=2->x.isPrefixOf (w++S::n)=x.isPrefixOf (w++[S]):=fun x hx=>by
    rw[show w++S::n=(w++[S])++n by simp]
    grind[Tr,bl]
   rw[find_congr fun x hx=>G x (R x hx).1,G _ aE]
   grind
 grind[gD,fq,cr]
def Pa{s n:ai}{a:Nat}{c:UInt8}(ha:a<=s.length)(h:s.drop a=c::n)(N:c∈[40,41,91,93,44,59,123,125]) :
  gD s a c=(⟨3,0,[c],a⟩,a+1)/\fq c=false/\cr s a [47,42]=false:=by
 have q:∀c∈([40,41,91,93,44,59,123,125]:List UInt8),eF c=false/\small c=false/\fq c=false/\c≠47:=by decide
 have⟨z,v,I,e⟩:=q c N
 have F:∀x,cr s a x=x.isPrefixOf (c::n):=fun x=>yI h ha
 have r:cE.find? (cr s a)=cE.find? (fun x=>x.isPrefixOf (c::n)):=find_congr fun x _=>F x
 have d:∀n:ai,∀c∈([40,41,91,93,44,59,123,125]:List UInt8),cE.find? (fun x=>x.isPrefixOf (c::n))=some [c]:=by
  intro n c o;simp only[List.mem_cons,List.not_mem_nil,or_false]at o
  rcases o with rfl|rfl|rfl|rfl|rfl|rfl|rfl|rfl<;>rfl
 refine⟨?_,I,?_⟩
 ·unfold gD
  simp_all
 grind
end Go.Sp
namespace Go.Im
open Go.Xp Go.Sp
def oD:List ai:=[[105,110,116],[118,97,114],[102,117,110,99],[105,102],[101,108,115,101],[119,104,105,108,101],[114,101,116,117,114,110],[124,124],[38,38],[61,61],[33,61],[60,61],[62,61],[60,60],[62,62],[40],[41],[123],[125],[91],[93],[44],[59],[61],[60],[62],[43],[45],[42],[47],[37],[38],[124],[94],[33],[126]]
theorem xH:oD=words++cE:=by decide
def ml(s:ai):Bool:=oD.contains s
def mN:ai->Int->Int
 |[],n=>n
 |c::r,n=>if n<=2147483647 then mN r (10*n+((c.toNat:Int)-48))else n
def dz(s:ai)(a b:Nat):ai:=(s.take b).drop a
def ku(s:ai)(a:Nat)(k:Nat):Bool:=decide (a+k<=s.length)&&(match s[a]? with|some c=>!(small c)|none=>false)&&ml (dz s a (a+k))
def jq(s:ai)(a:Nat):ai:=if ku s a 2=true then dz s a (a+2)else if ku s a 1=true then dz s a (a+1)else[]
def oc(s:ai)(a:Nat):Nat:=run s eF (s.length+1) a
def tN:Tok:=⟨0,0,[],0⟩
def mZ(s:ai)(a:Nat)(c:UInt8):Tok × Nat × Int :=
 if eF c=true then
  if mN (dz s a (oc s a)) 0>2147483647 then(tN,a,3)else(⟨1,mN (dz s a (oc s a)) 0,[],a⟩,oc s a,0)
 else if small c=true then(⟨if ml (jt s a)=true then 3 else 2,0,jt s a,a⟩,gV s a,0)
 else if jq s a=[]then(tN,a,2)
 else(⟨3,0,jq s a,a⟩,a+(jq s a).length,0)
def tq:ai->Option Nat
 |[]=>none
 |b::l=>if List.isPrefixOf [42,47] (b::l)then some 0 else match tq l with|none=>none|some n=>some (n+1)
def pS(s:ai):Nat->Nat->List Tok->Option (List Tok × Int × Int)
 |0,_,_=>none
 |f+1,a,q=>match s[a]? with
  |none=>some (q,0,0)
  |some c =>
   if fq c=true then pS s f (a+1) q
   else if cr s a [47,42]=true then
    match tq (s.drop (a+2))with
    |none=>some ([],4,a)
    |some n=>pS s f (a+(n+4)) q
   else if(mZ s a c).2.2≠0 then some ([],(mZ s a c).2.2,a)
   else pS s f (mZ s a c).2.1 (q++[(mZ s a c).1])
structure zX(t:Tok):Prop where
 num:t.aj=1->0<=t.n/\t.n<=2147483647/\t.s=[]
 name:t.aj=2->word t.s=true/\ml t.s=false
 aH:t.aj=3->ml t.s=true
 kinds:t.aj=1\/t.aj=2\/t.aj=3
theorem s9{s:ai}{a b:Nat}(h:b<=s.length):(dz s a b).length=b-a:=by
 grind[dz]
def qb{s:ai}{a b:Nat}{c:UInt8}(h:s[a]?=some c)(r:a<b)(W:b<=s.length):dz s a b=c::dz s (a+1) b:=by
 unfold dz;have i:=(bG h).1
 simp_all[List.getElem?_take,ae,List.getElem?_eq_some_iff,kP]
def B8(s:ai)(p:UInt8->Bool):∀(f a:Nat),a<=s.length->∀c∈dz s a (run s p f a),p c=true:=by
 intro f
 induction f with
 |zero =>
  simp[ai,dz,run]
 |succ f q =>
  intro a O c o;rw[Go.Sp.run]at o
  have F:∀x:ai,x=dz s a a->c∈x->p c=true:=fun x hx Q=>by
   grind[dz,s9,ky]
  cases T:s[a]? with
  |none=>grind
  |some d =>
   rw[T]at o;simp only at o;have i:=(bG T).1
   by_cases R:p d=true
   ·rw[ae R]at o
    have N:a+1<=Go.Sp.run s p f (a+1)/\Go.Sp.run s p f (a+1)<=s.length:=by
     have:∀(f a:Nat),a<=s.length->a<=Go.Sp.run s p f a/\Go.Sp.run s p f a<=s.length:=by
      intro f
      induction f with
      |zero=>simp[run]
      |succ f q =>
       grind[run]
     grind
    rw[qb T aK N.2]at o
    grind
   grind
def Ix:∀(w:ai)(n:Int),0<=n->(∀c∈w,eF c=true)->0<=mN w n
 |[],n,h,_=>h
 |c::r,n,h,q=>by
  rw[mN];have o:=q c (mem_cons_self);simp only[eF,a6,decide_eq_true_eq]at o;split
  ·exact Ix r _ aK (fun c o=>q c (ey _ o))
  ·exact h
def Pl{x:ai}(h:ml x=true):x≠[]:=by
 intro M;subst M;revert h;decide
def I8{s:ai}{a:Nat}{c:UInt8}(q:s[a]?=some c)(M:(mZ s a c).2.2=0):zX (mZ s a c).1/\(mZ s a c).1.at_=a/\a<(mZ s a c).2.1/\(mZ s a c).2.1<=s.length:=by
 have i:=(bG q).1;unfold mZ at M |-
 by_cases n:eF c=true
 ·rw[ae n]at M |-
  by_cases Q:mN (dz s a (oc s a)) 0>2147483647
  ·grind
  ·rw[ab Q];have⟨H,t,F⟩:=oV s eF (s.length+1) a aK aK
   have u:a<oc s a:=by
    grind[oc]
   refine⟨⟨fun _=>⟨Ix _ _ aE (B8 s eF _ a aK),by grind,rfl⟩,fun h=>by simp at h,fun h=>by simp at h,.inl rfl⟩,rfl,u,F⟩
 ·rw[ab n]at M |-
  by_cases o:small c=true
  ·rw[ae o];have⟨H,t,F⟩:=oV s fB (s.length+1) a aK aK
   have e:fB c=true:=by simp[fB,o]
   have u:a<gV s a:=by
    grind[gV]
   have j:word (jt s a)=true:=by
    have z:jt s a=c::dz s (a+1) (gV s a):=qb q u F;have v:=B8 s fB (s.length+1) a aK;unfold word;have I:(jt s a).all fB=true:=fL.2 v
    grind
   refine⟨⟨fun h=>?_,fun h=>⟨j,?_⟩,fun h=>?_,?_⟩,rfl,u,F⟩
   ·grind
   ·grind
   ·grind
   simp
  ·rw[ab o]at M |-
   by_cases G:jq s a=[]
   ·grind
   ·rw[ab G]
    have d:ml (jq s a)=true/\a+(jq s a).length<=s.length:=by
     unfold jq at G |-
     have r:∀k,ku s a k=true->ml (dz s a (a+k))=true/\a+(dz s a (a+k)).length<=s.length:=fun k h=>by
      simp_all[ku,a6,decide_eq_true_eq,s9]
     grind
    have W:=List.length_pos_iff.2 (Pl d.1);exact⟨⟨fun h=>by simp at h,fun h=>by simp at h,fun _=>d.1,.inr (.inr rfl)⟩,rfl,by grind,d.2⟩
def BO:∀{l:ai}{n:Nat},tq l=some n->n+2<=l.length
 |[],n,h=>by cases h
 |b::l,n,h=>by
  rw[tq]at h;split at h
  ·grind
  ·cases T:tq l with
   |none=>grind
   |some m=>rw[T]at h;cases h;have:=BO T;grind
def rP(s:ai):∀(f a:Nat)(q:List Tok),a<=s.length->s.length<f+a->(∀t∈q,zX t)->(q.Pairwise fun x y=>x.at_<y.at_)->(∀t∈q,t.at_<(a:Int))->q.length<=a ->
  ∃ts c z,pS s f a q=some (ts,c,z)/\(∀t∈ts,zX t)/\(ts.Pairwise fun x y=>x.at_<y.at_)/\ts.length<=s.length
 |0,a,q,A,v,_,_,_,_=>by omega
 |f+1,a,q,A,v,I,d,F,O=>by
  rw[pS]
  cases o:s[a]? with
  |none=>grind
  |some c =>
   simp only;have i:=(bG o).1;split
   ·exact rP s f (a+1) q aK aK I d (fun t H=>by grind) aK
   ·split
    ·rename_i r;have G:=lT r;simp only[length_cons,length_nil]at G
     cases M:tq (s.drop (a+2))with
     |none=>simp
     |some n =>
      have:=BO M;rw[n2]at this;exact rP s f (a+(n+4)) q aK aK I d (fun t H=>by grind) aK
    ·split
     ·simp
     ·rename_i N;have⟨u,e,w,J⟩:=I8 o aK;refine rP s f _ _ J aK (fun t H=>?_) ?_ (fun t H=>?_) zfk
      ·grind
      ·grind
      grind
theorem y8(s:ai):∀(f:Nat)(n:Int)(a:Nat),a<=s.length->s.length<f+a->mN (dz s a (number s f n a).2) n=(number s f n a).1
 |0,n,a,z,v=>by omega
 |f+1,n,a,z,v=>by
  have F:dz s a a=[]:=ky (by simp[dz]);rw[number]
  cases o:s[a]? with
  |none=>simp only;rw[F,mN]
  |some c =>
   simp only;have i:=(bG o).1
   by_cases t:eF c=true
   ·rw[ae t];have⟨H,u,G⟩:=sr s f (if n<=2147483647 then n*10+((c.toNat:Int)-48)else n) (a+1) aK aK;rw[qb o aK G,mN];have q:=y8 s f (if n<=2147483647 then n*10+((c.toNat:Int)-48)else n) (a+1) aK aK
    by_cases Q:n<=2147483647
    ·grind
    ·rw[ab Q]at q |-;rw[ab Q];rw[<-q]
     cases e:dz s (a+1) (number s f n (a+1)).2 with
     |nil=>rw[mN]
     |cons d r=>grind[mN]
   grind[mN,dz,eF,number]
def AQ(s:ai):∀(f:Nat)(n:Int)(a:Nat),(number s f n a).2=Go.Sp.run s eF f a
 |0,n,a=>rfl
 |f+1,n,a=>by
  rw[number,Go.Sp.run]
  cases o:s[a]? with
  |none=>rfl
  |some c =>
   simp only;split
   ·exact AQ s f _ (a+1)
   ·rfl
theorem oM{s x:ai}{a:Nat}:cr s a x=(decide (a+x.length<=s.length)&&(dz s a (a+x.length)==x)):=rfl
def Kt{s:ai}{a:Nat}{c:UInt8}(o:s[a]?=some c)(C:small c=false):jq s a=(match cE.find? (cr s a)with|some x=>x|none=>[]):=by
 have m:=(bG o).1
 have v:∀x∈cE,x.length=1\/x.length=2:=by decide
 have b:cE=cE.take 8++cE.drop 8:=(List.take_append_drop 8 cE).symm
 have j:∀x∈cE.take 8,x.length=2:=by decide
 have u:∀x∈cE.drop 8,x.length=1:=by decide
 have n:∀x∈words,∃d r,x=d::r/\small d=true:=by
  simp[ai,words,small]
 have l:∀k,1<=k->a+k<=s.length->dz s a (a+k)=c::dz s (a+1) (a+k):=fun k z v=>qb o aK v
 have M:∀k,1<=k->a+k<=s.length->(ml (dz s a (a+k))=true↔dz s a (a+k)∈cE):=fun k z v=>by
  unfold ml
  grind[xH,sB]
 have e:∀k,1<=k->(ku s a k=true↔a+k<=s.length/\dz s a (a+k)∈cE):=fun k z=>by
  grind[ku]
 have B:∀k,1<=k->k<=2->a+k<=s.length->dz s a (a+k)∈cE->(dz s a (a+k)).length=k:=fun k _ _ h _=>by grind[dz]
 unfold jq
 by_cases A:ku s a 2=true
 ·rw[ae A];have⟨p,q⟩:=(e 2 aE).1 A
  have T:dz s a (a+2)∈cE.take 8:=by
   grind
  rw[b,List.find?_append]
  have:(cE.take 8).find? (cr s a)=some (dz s a (a+2)):=by
   cases t:(cE.take 8).find? (cr s a)with
   |none =>
    grind[find?_eq_none,oM,s9]
   |some x =>
    have z:=List.find?_some t;have I:=j x (List.mem_of_find?_eq_some t)
    grind[oM]
  grind
 ·rw[ab A]
  have i:(cE.take 8).find? (cr s a)=none:=by
   rw[find?_eq_none];intro x hx w;rw[oM,j x hx]at w
   grind
  rw[b,List.find?_append,i]
  by_cases W:ku s a 1=true
  ·rw[ae W];have⟨p,q⟩:=(e 1 aE).1 W
   have T:dz s a (a+1)∈cE.drop 8:=by
    grind
   have:(cE.drop 8).find? (cr s a)=some (dz s a (a+1)):=by
    cases t:(cE.drop 8).find? (cr s a)with
    |none =>
     grind[find?_eq_none,oM,s9]
    |some x =>
     have z:=List.find?_some t;have I:=u x (List.mem_of_find?_eq_some t)
     grind[oM]
   grind
  ·rw[ab W]
   have:(cE.drop 8).find? (cr s a)=none:=by
    rw[find?_eq_none];intro x hx w;rw[oM,u x hx]at w
    grind
   grind
def TX{s:ai}{a e:Nat}{c:UInt8}{t:Tok}(o:s[a]?=some c)(h:gD s a c=(t,e))(H:t.aj=1\/t.aj=2\/t.aj=3)(hn:t.n<=2147483647):mZ s a c=(t,e,0):=by
 have i:=(bG o).1;unfold gD at h;unfold mZ
 by_cases v:eF c=true
 ·rw[ae v]at h |-;cases h;have F:oc s a=(number s (s.length+1) 0 a).2:=(AQ s _ 0 a).symm
  grind[y8]
 ·rw[ab v]at h |-
  by_cases q:small c=true
  ·rw[ae q]at h |-;cases h
   have S:∃r,jt s a=c::r\/jt s a=[]:=by
    cases l:jt s a with
    |nil=>simp
    |cons d r =>
     have⟨F,z,G⟩:=oV s fB (s.length+1) a aK aK
     have j:fB c=true:=by simp[fB,q]
     have u:a<gV s a:=by
      grind[gV]
     have A:jt s a=c::dz s (a+1) (gV s a):=qb o u G
     grind
   have M:ml (jt s a)=words.contains (jt s a):=by
    unfold ml;rw[xH]
    have k:∀x∈cE,(match x with|d::_=>small d|[]=>true)=false:=by decide
    grind
   rw[M]
  ·rw[ab q]at h |-;rw[Kt o zfk]
   cases w:cE.find? (cr s a)with
   |none=>grind
   |some x =>
    rw[w]at h;cases h;simp only;have hx:=List.mem_of_find?_eq_some w
    have B:x≠[]:=by
     intro N;subst N;revert hx;decide
    grind
def S5{s:ai}{a b:Nat}{ts:List Tok}(h:Tz s a ts b):b=s.length->∀(f:Nat)(q:List Tok),s.length<f+a->pS s f a q=some (q++ts,0,0):=by
 induction h with
 |nil a =>
  intro r f q t
  cases f with
  |zero=>omega
  |succ f =>
   grind[pS]
 |blank o G h u =>
  intro r f q t
  cases f with
  |zero=>grind
  |succ f =>
   grind[pS]
 |tok o G i I H Q O h u =>
  intro r f q t
  cases f with
  |zero=>grind
  |succ f =>
   rw[pS,o];simp only;rw[ab zfk,ab zfk,TX o I H Q]
   grind
abbrev rJ(ts:List Tok):Prop:=∀t∈ts,zX t
def EF(t:T):Prop:=∃a:E,a.ok=true/\er t=a.tree
def GQ(l:List T):Prop:=∃J:List E,E.dv J=true/\bp l=E.aJ J
def Sf(ts r:List Tok)(n:Nat):Prop:=∃w,ts=w++r/\n<=w.length
theorem Sf.nil(ts:List Tok):Sf ts ts 0:=⟨[],rfl,bj _⟩
theorem Sf.one(t:Tok)(ts:List Tok):Sf (t::ts) ts 1:=⟨[t],rfl,a8 _⟩
def Sf.trans{a b c:List Tok}{n m:Nat}(h:Sf a b n)(k:Sf b c m):Sf a c (n+m):=by
 grind[Sf]
theorem Sf.le{a b:List Tok}{n m:Nat}(h:Sf a b n)(k:m<=n):Sf a b m:=by
 grind[Sf]
theorem Sf.ok{a b:List Tok}{n:Nat}(h:Sf a b n)(k:rJ a):rJ b:=by
 obtain⟨p,rfl,h⟩:=h
 grind
theorem Sf.ba{e:Int}{s:ai}{ts r:List Tok}(o:s≠[])(h:ba e s ts=.ok r):Sf ts r 1:=by
 grind[wv,one]
theorem Sf.aH{s:ai}{ts:List Tok}(o:s≠[])(h:aH ts 0=s):Sf ts ts.tail 1:=by
 have⟨u,z,_⟩:=tK o h
 grind[one]
theorem P9{s:ai}(h:ml s=false):words.contains s=false:=by
 grind[ml,xH,sB,cE,List.mem_append_left]
theorem X5{t:Tok}(h:zX t)(G:t.aj=2)(W:t.s.length<=12):cb t.s=true:=by
 have⟨z,v⟩:=h.name G;unfold cb
 grind[P9]
theorem Sf.name{e:Int}{s:ai}{ts r:List Tok}(h:name e ts=.ok (s,r))(S:rJ ts):Sf ts r 1/\cb s=true:=by
 grind[E2,one,X5,mem_cons_self]
def Sc{s:ai}{k:Nat}(h:s∈levels.getD k []):fX s=true:=by
 unfold fX;rw[qJ];rw[List.getD_eq_getElem?_getD]at h
 cases G:levels[k]? with
 |none=>grind
 |some l =>
  rw[G]at h;exact⟨l,bR G,by grind⟩
theorem kv(k a:Int)(s:ai)(l:List T):bg (one k a s l)=aZ l+1:=by rfl
def GQ.snoc{l:List T}{t:T}(h:GQ l)(k:EF t):GQ (l++[t]):=by
 have⟨J,z,v⟩:=h;have⟨a,I,d⟩:=k
 have c:∀J:List E,E.dv J=true->E.dv (J++[a])=true/\E.aJ (J++[a])=E.aJ J++[a.tree]:=by
  intro J
  induction J with
  |nil=>intro _;simp[E.dv,E.aJ,I]
  |cons b J q =>
   grind[E.dv,E.aJ,E.tree]
 grind[Hv,bp,GQ]
def xq:tS->Nat
 |.loop _ _ out=>bg out
 |_=>0
def jok:tS->Prop
 |.loop _ _ out=>EF out
 |_=>True
def Tv(e:Int):∀f,(∀j ts t r,rJ ts->jok j->rd e f j ts=.ok (t,r)->EF t/\∃n,Sf ts r n/\bg t<=n+xq j) /\
  (∀d o ts l r,rJ ts->GQ o->rd.args e f d o ts=.ok (l,r)->GQ l/\∃n,Sf ts r n/\aZ l+1<=n+aZ o):=by
 intro f
 induction f with
 |zero=>exact⟨fun j ts t r _ _ h=>by simp[rd]at h,fun d o ts l r _ _ h=>by simp[rd.args]at h⟩
 |succ f u =>
  have⟨u,J⟩:=u;refine⟨fun j ts t r i G h=>?_,fun d o ts l r i G h=>?_⟩
  ·cases j with
   |expr d =>
    rw[rd]at h;split at h
    ·cases h
    ·exact u (.level 0 (d+1)) ts t r i trivial h
   |level k d =>
    rw[rd]at h;split at h
    ·exact u (.operand d) ts t r i trivial h
    ·split at h
     ·cases h
     ·rename_i out M hx;have⟨q,n,c,F⟩:=u (.level (k+1) d) ts out M i trivial hx;have⟨v,m,C,w⟩:=u (.loop k d out) M t r (c.ok i) q h;exact⟨v,n+m,c.trans C,by grind[bg,xq]⟩
   |loop k d out =>
    cases ts with
    |nil=>rw[rd]at h;cases h;exact⟨G,0,.nil _,by simp[bg,xq]⟩
    |cons z r0 =>
     rw[rd]at h;split at h
     ·rename_i T;split at h
      ·cases h
      ·rename_i b H hx;obtain⟨⟨b',A,q⟩,n,c,F⟩:=u (.level (k+1) d) r0 b H (fun t ht=>i t (ey _ ht)) trivial hx;have⟨o',Q,h5⟩:=G;have h6:=(Sf.one z r0).trans c;obtain⟨v,m,C,w⟩:=u (.loop k d (one 6 z.at_ z.s [out,b])) H t r (h6.ok i) ⟨.bin z.s o' b',by simp only[E.ok,Sc T.2,Q,A];rfl,by rw[eY,bp,bp,bp,h5,q,E.tree]⟩ h;refine⟨v,_,h6.trans C,?_⟩
       grind[kv,aZ,bg,xq]
     ·cases h;exact⟨G,0,.nil _,by simp[bg,xq]⟩
   |operand d =>
    cases ts with
    |nil =>
     grind[rd]
    |cons z r0 =>
     rw[rd]at h;split at h
     ·cases h
     ·have I:rJ r0:=fun t ht=>i t (ey _ ht)
      have B:=Sf.one z r0;split at h
      ·split at h
       ·rename_i hu;split at h
        ·cases h
        ·rename_i a H hx;cases h;have⟨⟨R,A,q⟩,n,c,F⟩:=u (.operand (d+1)) r0 a r I trivial hx;refine⟨⟨.un z.s R,?_,by rw[eY,bp,bp,q,E.tree]⟩,_,B.trans c,?_⟩
         ·grind[E.ok]
         ·simp only[xq,kv,aZ]at *;omega
       ·split at h
        ·split at h
         ·cases h
         ·rename_i a H hx;split at h
          ·cases h
          ·rename_i r2 W;cases h;have⟨q,n,c,F⟩:=u (.expr (d+1)) r0 t H I trivial hx;exact⟨q,_,(B.trans c).trans (Sf.ba aE W),by grind[bg,xq]⟩
        ·cases h
      ·split at h
       ·rename_i hk;cases h;have⟨v,C,w⟩:=(i z mem_cons_self).num hk;exact⟨⟨.num z.n,by grind[E.ok],by rfl⟩,1,B,by simp only[xq,bg,aZ];omega⟩
       ·split at h
        ·cases h
        ·rename_i s H Q8;have⟨v,C⟩:=Sf.name Q8 i;split at h
         ·rename_i S;have w:=v.trans (Sf.aH aE S);split at h
          ·cases h
          ·rename_i a r2 hx;split at h
           ·cases h
           ·rename_i r3 W;cases h;have⟨⟨R,A,q⟩,n,c,F⟩:=u (.expr (d+1)) _ a r2 (w.ok i) trivial hx;refine⟨⟨.at_ s R,by grind[E.ok],by rw[eY,bp,bp,q,E.tree]⟩,_,(w.trans c).trans (Sf.ba aE W),?_⟩;simp only[xq,kv,aZ]at *;omega
         ·split at h
          ·rename_i S;have w:=v.trans (Sf.aH aE S);split at h
           ·cases h
           ·rename_i l r2 hx;cases h;have⟨⟨es,A,q⟩,n,c,F⟩:=J _ _ _ l r (w.ok i) ⟨[],rfl,rfl⟩ hx;refine⟨⟨.call s es,by grind[E.ok],by rw[eY,q,E.tree]⟩,_,w.trans c,?_⟩
            grind[kv,aZ]
          ·cases h;exact⟨⟨.name s,by grind[E.ok],by rfl⟩,1,v,by grind[kv,aZ]⟩
  ·rw[rd.args]at h;split at h
   ·rename_i T;cases h;exact⟨G,1,Sf.aH aE T,by omega⟩
   ·split at h
    ·cases h
    ·rename_i N hx
     have A:Sf ts N 0:=by
      split at hx
      ·cases hx;exact .nil _
      ·exact(Sf.ba aE hx).le (bj _)
     split at h
     ·cases h
     ·rename_i a O hy;have⟨q,n,c,F⟩:=u (.expr d) N a O (A.ok i) trivial hy;have Q:=A.trans c;have⟨v,m,C,w⟩:=J _ (o++[a]) O l r (Q.ok i) (G.snoc q) h;refine⟨v,_,Q.trans C,?_⟩
      grind[xq,oY,aZ]
section
variable{e:Int}{d:Nat}
theorem w9{ts r:List Tok}{t:T}(S:rJ ts)(h:expr e d ts=.ok (t,r)):EF t/\Sf ts r (bg t):=by
 have⟨z,n,v,I⟩:=(Tv e _).1 (.expr d) ts t r S trivial h
 grind[xq,EF,Sf,bg]
def v8{a b:ai}{ts r:List Tok}{t:T}(ha:a≠[])(u:b≠[])(S:rJ ts)(h:inner e d a b ts=.ok (t,r)):EF t/\Sf ts r (bg t+2):=by
 unfold inner at h;split at h
 ·cases h
 ·rename_i A z;have s:=Sf.ba ha z;split at h
  ·cases h
  ·rename_i O Q v;have⟨i,w⟩:=w9 (s.ok S) v;split at h
   ·cases h
   ·rename_i W I;cases h;exact⟨i,((s.trans w).trans (Sf.ba u I)).le aK⟩
theorem A4{ts r:List Tok}{s:ai}{t:T}(S:rJ ts)(h:l9 e d ts=.ok ((s,t),r)):cb s=true/\EF t/\Sf ts r (bg t+3):=by
 unfold l9 at h;split at h
 ·cases h
 ·rename_i j w z;have⟨u,i⟩:=Sf.name z S;split at h
  ·cases h
  ·rename_i O Q v;cases h;have⟨A,I⟩:=v8 aE aE (u.ok S) v
   grind[cb,EF,Sf,bg]
end
def SF(t:T):Prop:=∃a:S,a.ok=true/\er t=a.tree
def GY(l:List T):Prop:=∃J:List S,S.dv J=true/\bp l=S.aJ J
def BF(t:T):Prop:=∃l:List S,S.dv l=true/\er t=cx l
def GY.snoc{l:List T}{t:T}(h:GY l)(k:SF t):GY (l++[t]):=by
 have⟨J,z,v⟩:=h;have⟨a,I,d⟩:=k
 have c:∀J:List S,S.dv J=true->S.dv (J++[a])=true/\S.aJ (J++[a])=S.aJ J++[a.tree]:=by
  intro J
  induction J with
  |nil=>intro _;simp[S.dv,S.aJ,I]
  |cons b J q =>
   grind[S.dv,S.aJ,S.tree]
 grind[Hv,bp,GY]
def PY{t:T}(h:EF t)(G:t.n.aj=3):∃(s:ai)(a:T),t.au=[a]/\t.n.s=s/\cb s=true/\EF a:=by
 have⟨a,z,v⟩:=h;have I:=congrArg (fun x=>x.n.aj) v;simp only[w6,G]at I
 cases a with
 |at_ s b =>
  simp only[E.ok,a6]at z
  have c:t.n.s=s:=by have:=congrArg (fun x=>x.n.s) v;simp only[w6]at this;exact this
  have F:bp t.au=[b.tree]:=by rw[<-SC,v];rfl
  match W:t.au,F with
  |[x],F =>
   rw[bp,bp]at F
   injection F with h6
   exact⟨s,x,rfl,c,z.1,b,z.2,h6⟩
  |[],F=>grind[bp]
  |x::y::r,F=>grind[bp]
 |num n=>exact zeR
 |name n=>exact zeR
 |call s l=>exact zeR
 |un s a=>exact zeR
 |bin s a b=>exact zeR
theorem GB{e:Int}{d:Nat}{ts r:List Tok}{t:T}(W:rJ ts)(h:simple e d ts=.ok (t,r)):SF t/\Sf ts r (bg t):=by
 unfold simple at h;split at h
 ·grind
 ·rename_i m r0;split at h
  ·split at h
   ·cases h
   ·rename_i s a B z;cases h;have⟨u,⟨j,i,A⟩,I⟩:=A4 W z;exact⟨⟨.set s j,by grind[S.ok],by rw[eY,bp,bp,A,S.tree]⟩,I.le zfx⟩
  ·split at h
   ·cases h
   ·rename_i a B z;have⟨u,i⟩:=w9 W z;split at h
    ·rename_i o;split at h
     ·cases h
     ·rename_i v Q w;cases h;have⟨⟨N,A,I⟩,M⟩:=v8 aE aE (i.ok W) w;have⟨s,x,C,k,n,l,G,F⟩:=PY u o.1;have E:=fP a;rw[C]at E;simp only[aZ]at E;rw[C];refine⟨⟨.put s l N,by grind[S.ok],?_⟩,(i.trans M).le ?_⟩
      ·rw[eY,k];grind[bp,S.tree]
      grind[kv,aZ]
    ·split at h
     ·cases h
     ·rename_i Q w;cases h;have⟨j,A,I⟩:=u;exact⟨⟨.do_ j,by grind[S.ok],by rw[eY,bp,bp,I,S.tree]⟩,(i.trans (Sf.ba aE w)).le zfx⟩
def TC(e:Int):∀f,(∀d ts t r,rJ ts->rs e f (.block d) ts=.ok (t,r)->BF t/\Sf ts r (bg t))/\(∀d ts t r,rJ ts->rs e f (.stmt d) ts=.ok (t,r)->SF t/\Sf ts r (bg t)) /\
  (∀d i ts l r,rJ ts->GY i->rs.body e f d i ts=.ok (l,r)->GY l/\∃n,Sf ts r n/\aZ l+1<=n+aZ i):=by
 intro f
 induction f with
 |zero=>exact⟨fun d ts t r _ h=>by simp[rs]at h,fun d ts t r _ h=>by simp[rs]at h,fun d i ts l r _ _ h=>by simp[rs.body]at h⟩
 |succ f ih =>
  have⟨C,I,E⟩:=ih;refine⟨fun d ts t r j h=>?_,fun d ts t r j h=>?_,fun d i ts l r j O h=>?_⟩
  ·rw[rs]at h;split at h
   ·cases h
   ·split at h
    ·cases h
    ·rename_i W o;have A:=Sf.ba aE o;split at h
     ·cases h
     ·rename_i l r2 B;cases h;have⟨⟨es,k,u⟩,n,z,Q⟩:=E _ [] W l r (A.ok j) ⟨[],rfl,rfl⟩ B;exact⟨⟨es,k,by rw[eY,u,cx]⟩,(A.trans z).le zfx⟩
  ·rw[rs]at h;split at h
   ·cases h
   ·simp only at h;split at h
    ·rename_i q;have w:=Sf.aH aE q;split at h
     ·cases h
     ·rename_i s a v o;cases h;have⟨A,⟨F,k,u⟩,z⟩:=A4 (w.ok j) o;exact⟨⟨.var s F,by grind[S.ok],by rw[eY,bp,bp,u,S.tree]⟩,(w.trans z).le zfx⟩
    ·split at h
     ·rename_i q
      have w:Sf ts ts.tail 1:=by
       rcases q with q|q
       ·exact Sf.aH aE q
       ·exact Sf.aH aE q
      split at h
      ·cases h
      ·rename_i c W o;have⟨⟨G,A,k⟩,u⟩:=v8 aE aE (w.ok j) o;have z:=w.trans u;split at h
       ·cases h
       ·rename_i b r2 B;have⟨⟨M,Q,R⟩,k7⟩:=C _ _ b r2 (z.ok j) B;have J:=z.trans k7;split at h
        ·split at h
         ·rename_i H;have T:=J.trans (Sf.aH aE H);split at h
          ·cases h
          ·rename_i b2 r3 h3;cases h;have⟨⟨N,j5,j6⟩,j7⟩:=C _ _ b2 r (T.ok j) h3;refine⟨⟨.if2 G M N,by grind[S.ok],?_⟩,(T.trans j7).le zfx⟩
           grind[eY,bp,cx,er,one,place,S.tree]
         ·cases h;refine⟨⟨.if1 G M,by grind[S.ok],?_⟩,J.le zfx⟩;rw[eY,bp,bp,bp,k,R,S.tree,cx]
        ·cases h;refine⟨⟨.while_ G M,by grind[S.ok],?_⟩,J.le zfx⟩;rw[eY,bp,bp,bp,k,R,S.tree,cx]
     ·split at h
      ·rename_i q;have w:=Sf.aH aE q;split at h
       ·cases h
       ·rename_i a v o;have⟨⟨F,A,k⟩,u⟩:=w9 (w.ok j) o;split at h
        ·cases h
        ·rename_i ts2 B;cases h;exact⟨⟨.ret F,by grind[S.ok],by rw[eY,bp,bp,k,S.tree]⟩,((w.trans u).trans (Sf.ba aE B)).le zfx⟩
      grind[GB]
  ·rw[rs.body]at h;split at h
   ·rename_i hc;cases h;exact⟨O,1,Sf.aH aE hc,by omega⟩
   ·split at h
    ·cases h
    ·rename_i a v o;have⟨A,k⟩:=I _ ts a v j o;have⟨u,m,z,Q⟩:=E _ (i++[a]) v l r (k.ok j) (O.snoc A) h;refine⟨u,_,k.trans z,?_⟩
     grind[oY,aZ,bg]
def Jz{e:Int}{d:Nat}{ts r:List Tok}{t:T}(S:rJ ts)(h:block e d ts=.ok (t,r)):BF t/\Sf ts r (bg t):=(TC e _).1 _ ts t r S h
end Go.Im
namespace Go.Sp
open Go.Xp
def fh(x:ai)(l:List K):Prop:=∀w n:ai,∃Q,Q.map kf=l/\Tz (w++(x++n)) w.length Q (w.length+x.length)
def jh(x:ai)(l:List K):Prop:=∀w n:ai,Sep n->∃Q,Q.map kf=l/\Tz (w++(x++n)) w.length Q (w.length+x.length)
def fh.s{x:ai}{l:List K}(h:fh x l):jh x l:=fun w n _=>h w n
def fh.app{x y:ai}{l m:List K}(h:fh x l)(k:fh y m):fh (x++y) (l++m):=by
 intro w n;have⟨Q,z,v⟩:=h w (y++n);have⟨o,I,c⟩:=k (w++x) n;refine⟨Q++o,by grind,?_⟩;exact zcS
def fh.apps{x y:ai}{l m:List K}(h:fh x l)(k:jh y m):jh (x++y) (l++m):=by
 intro w n R;have⟨Q,z,v⟩:=h w (y++n);have⟨o,I,c⟩:=k (w++x) n R;refine⟨Q++o,by grind,?_⟩;exact zcS
def jh.DS{x y:ai}{l m:List K}(h:jh x l)(k:fh y m)(o:∀n,Sep (y++n)):fh (x++y) (l++m):=by
 intro w n;have⟨Q,z,v⟩:=h w (y++n) (o n);have⟨q,I,c⟩:=k (w++x) n;refine⟨Q++q,by grind,?_⟩;exact zcS
theorem fh.nil:fh [] []:=fun w n=>⟨[],rfl,.nil _⟩
def xF{c:UInt8}{x:ai}(h:c∈Cb):∀n,Sep (c::x++n):=fun n d o=>by grind
def tf{w x:ai}:(w++x).drop w.length=x:=drop_left
theorem Tz.one{s:ai}{a d:Nat}{c:UInt8}{t:Tok}(o:s[a]?=some c)(r:fq c=false)(i:cr s a [47,42]=false)(H:gD s a c=(t,d))(G:t.aj=1\/t.aj=2\/t.aj=3)(hn:t.n<=2147483647)(ha:a<d):Tz s a [t] d :=
 .tok o r i H G hn ha (.nil _)
def xu{c:UInt8}(h:fq c=true):fh [c] []:=by
 intro w n;have o:(w++([c]++n)).drop w.length=c::n:=tf;have⟨z,_,_⟩:=nL o;exact⟨[],rfl,.blank z h (.nil _)⟩
def ny{c:UInt8}(N:c∈[40,41,91,93,44,59,123,125]):fh [c] [kS [c]]:=by
 intro w n;have o:(w++([c]++n)).drop w.length=c::n:=tf;have⟨z,_,d⟩:=nL o;have⟨v,I,F⟩:=Pa (Nat.le_of_lt d) o N;exact⟨[_],rfl,Tz.one z I F v zfm zfm zfm⟩
def zB{w:ai}(N:w∈cE):jh w [kS w]:=by
 intro z n R;have o:(z++(w++n)).drop z.length=w++n:=tf
 have B:w≠[]:=by rintro rfl;revert N;decide
 have⟨c,r,e⟩:=List.exists_cons_of_ne_nil B;have s:=o;rw[e,cons_append]at s;have⟨A,_,d⟩:=nL s;rw[<-cons_append,<-e]at A d;have⟨v,I,F⟩:=Qb (Nat.le_of_lt d) o e N R
 have:0<w.length:=by grind
 exact⟨[_],rfl,Tz.one A I F v zfm zfm aK⟩
def GD{c:UInt8}(h:small c=true):fq c=false/\c≠47:=by
 simp only[small,a6]at h;have z:=pN h.1;refine⟨?_,fun M=>?_⟩
 ·grind[fq]
 simp_all
def M8{s r:ai}{a:Nat}{c:UInt8}(h:s.drop a=c::r)(o:c≠47):cr s a [47,42]=false:=by
 have⟨_,_,d⟩:=nL h
 grind[cr]
theorem EV{w:ai}(e:word w=true):jh w [if words.contains w then kS w else kN w]:=by
 intro z n R;have o:(z++(w++n)).drop z.length=w++n:=tf;simp only[word,a6,fL]at e
 match w,e,o with
 |[],e,_=>simp at e
 |c::r,e,o =>
  have⟨W,q⟩:=e;have s:=o;rw[cons_append]at s;have⟨A,_,d⟩:=nL s;have⟨I,F⟩:=GD q;have H:=Qy (Nat.le_of_lt d) o rfl q W R.fB;refine⟨[_],?_,Tz.one A I (M8 s F) H ?_ zfm zfm⟩
  ·simp only[List.map_cons,List.map_nil,kf,kS,kN]
   grind
  grind
def lk{w:ai}(e:cb w=true):jh w [kN w]:=by
 simp only[cb,a6,Bool.not_eq_true']at e
 grind[EV]
def MR{w:ai}(e:w∈words):jh w [kS w]:=by
 have z:∀w∈words,word w=true:=by decide
 grind[EV]
theorem Io{n:Nat}(hn:n<=2147483647):jh (gQ n) [kI n]:=by
 intro w o R;have t:(w++(gQ n++o)).drop w.length=gQ n++o:=tf;have⟨z,v,I⟩:=Hk n;have⟨c,r,i⟩:=List.exists_cons_of_ne_nil I;have s:=t;rw[i,cons_append]at s;have⟨d,_,F⟩:=nL s;rw[<-cons_append,<-i]at d F;have q:eF c=true:=z c zfk
 have e:fq c=false/\c≠47:=by
  simp only[eF,a6]at q;have z:=pN q.1;refine⟨?_,fun M=>?_⟩
  ·simp only[fq,Bool.or_eq_false_iff,beq_eq_false_iff_ne];omega
  simp_all
 have H:=Tg (Nat.le_of_lt F) t i hn R.eF
 have:0<(gQ n).length:=by grind
 refine⟨[_],rfl,Tz.one d e.1 ?_ H zfm zfk aK⟩
 grind[cr]
def VT{s:ai}(h:fX s=true):s∈cE:=by
 have N:s∈levels.flatten:=by
  grind[fX,qJ,List.mem_flatten]
 have c:∀s∈levels.flatten,s∈cE:=by decide
 grind
def Kv:fh [32] []:=xu aE
def jh.then{x:ai}{l:List K}(h:jh x l){c:UInt8}(N:c∈[40,41,91,93,44,59,123,125]):fh (x++[c]) (l++[kS [c]]) :=
 h.DS (ny N) (xF (by revert N;unfold Cb;simp only[List.mem_cons,List.not_mem_nil,or_false];grind))
def jh.sp{x:ai}{l:List K}(h:jh x l):fh (x++[32]) l:=by
 have:=h.DS Kv (xF aE)
 grind
theorem jh.eq{x:ai}{l m:List K}(h:jh x l)(e:l=m):jh x m:=e ▸ h
theorem fh.eq{x:ai}{l m:List K}(h:fh x l)(e:l=m):fh x m:=e ▸ h
def BS{lv k:Nat}{x:ai}{l:List K}(h:jh x l):jh (qL lv k x) (brk lv k l):=by
 unfold qL brk;split
 ·have:=((ny (c:=40) aE).apps h).then (c:=41) aE;exact this.s.eq zfm
 ·exact h
mutual
def pR:∀a:E,a.ok=true->jh a.bT a.tk
 |.num n,h=>by
  simp only[E.ok,a6]at h;have z:=pN h.1;have v:=pN h.2
  grind[Io,Int.toNat_of_nonneg,jh,E.bT,E.tk]
 |.name s,h=>by rw[E.bT,E.tk];exact lk h
 |.at_ s a,h=>by
  simp only[E.ok,a6]at h;rw[E.bT,E.tk];exact((((lk h.1).then (c:=91) aE).apps (pR a h.2)).then (c:=93) aE).s.eq zfm
 |.call s l,h=>by
  simp only[E.ok,a6]at h;rw[E.bT,E.tk];exact((((lk h.1).then (c:=40) aE).apps (XW l h.2)).then (c:=41) aE).s.eq zfm
 |.un s a,h=>by
  simp only[E.ok,a6,Bool.or_eq_true,beq_iff_eq]at h;rw[E.bT,E.tk]
  have o:s∈cE:=by rcases h.1 with(h|h)|h<;>(rw[h];decide)
  exact((zB o).sp.apps (BS (pR a h.2))).eq zfm
 |.bin s a b,h=>by
  simp only[E.ok,a6]at h;rw[E.bT,E.tk];exact((((BS (pR a h.1.2)).sp.apps (zB (VT h.1.1))).sp).apps (BS (pR b h.2))).eq zfm
def XW:∀l:List E,E.dv l=true->jh (cJ (E.dX l)) (E.nJ l)
 |[],_=>fh.nil.s
 |a::l,h=>by
  simp only[E.dv,a6]at h;rw[E.dX,E.nJ,cJ];exact Rq l h.2 _ _ (pR a h.1)
def Rq:∀l:List E,E.dv l=true->∀x m,jh x m->jh (x++(E.dX l).flatMap fun y=>44::32::y) (m++E.qE l)
 |[],_,x,m,hx=>by rw[E.dX,E.qE];grind
 |a::l,h,x,m,hx=>by
  simp only[E.dv,a6]at h;have z:=((hx.then (c:=44) aE).app Kv).apps (pR a h.1);have v:=Rq l h.2 _ _ z;rw[E.dX,E.qE,flatMap_cons]
  grind
end
def jh.set{x:ai}{l:List K}(h:jh x l):fh (x++[32,61,32]) (l++[kS [61]]):=by
 have:=(h.sp.apps (zB (w:=[61]) aE)).sp
 grind
def uo{w:ai}(e:w∈words):fh (w++[32]) [kS w]:=(MR e).sp
mutual
def XX:∀s:S,s.ok=true->fh (s.bT E.bT) s.tk
 |.set s a,h=>by
  simp only[S.ok,a6]at h;rw[S.bT,S.tk];exact(((lk h.1).set.apps (pR a h.2)).then (c:=59) aE).eq zfm
 |.put s a b,h=>by
  simp only[S.ok,a6]at h;rw[S.bT,S.tk];have z:=((((lk h.1).then (c:=91) aE).apps (pR a h.2.1)).then (c:=93) aE).s.set;have v:=(z.apps (pR b h.2.2)).then (c:=59) aE
  grind
 |.if1 c b,h=>by
  simp only[S.ok,a6]at h;rw[S.bT,S.tk];have z:=((((uo (w:=[105,102]) aE).app (ny (c:=40) aE)).apps (pR c h.1)).then (c:=41) aE).s.sp;have v:=z.app (lexB b h.2)
  have e:[105,102,32,40]++c.bT++[41,32]++(S.dX E.bT [123,32] b++[125])=[105,102]++[32]++[40]++c.bT++[41]++[32]++(S.dX E.bT [123,32] b++[125]):=by simp
  rw[e];exact v.eq (by simp[gb])
 |.if2 c b T,h=>by
  simp only[S.ok,a6]at h;rw[S.bT,S.tk];have z:=((((uo (w:=[105,102]) aE).app (ny (c:=40) aE)).apps (pR c h.1)).then (c:=41) aE).s.sp;have v:=z.app (lexB b h.2.1);have I:=((v.s.sp.apps (MR (w:=[101,108,115,101]) aE)).sp).app (lexB T h.2.2)
  have e:[105,102,32,40]++c.bT++[41,32]++(S.dX E.bT [123,32] b++[125])++[32,101,108,115,101,32]++(S.dX E.bT [123,32] T++[125])=[105,102]++[32]++[40]++c.bT++[41]++[32]++(S.dX E.bT [123,32] b++[125])++[32]++[101,108,115,101]++[32]++(S.dX E.bT [123,32] T++[125]):=by simp
  rw[e];exact I.eq (by simp[gb,iz])
 |.while_ c b,h=>by
  simp only[S.ok,a6]at h;rw[S.bT,S.tk];have z:=((((uo (w:=[119,104,105,108,101]) aE).app (ny (c:=40) aE)).apps (pR c h.1)).then (c:=41) aE).s.sp;have v:=z.app (lexB b h.2)
  have e:[119,104,105,108,101,32,40]++c.bT++[41,32]++(S.dX E.bT [123,32] b++[125])=[119,104,105,108,101]++[32]++[40]++c.bT++[41]++[32]++(S.dX E.bT [123,32] b++[125]):=by simp
  rw[e];exact v.eq (by simp[gz])
 |.ret a,h=>by
  simp only[S.ok]at h;rw[S.bT,S.tk];have z:=((uo (w:=[114,101,116,117,114,110]) aE).apps (pR a h)).then (c:=59) aE;exact z.eq zfQ
 |.do_ a,h=>by
  simp only[S.ok]at h;rw[S.bT,S.tk];exact(pR a h).then (c:=59) aE
 |.var s a,h=>by
  simp only[S.ok,a6]at h;rw[S.bT,S.tk];have z:=((((uo (w:=[118,97,114]) aE).apps (lk h.1)).set).apps (pR a h.2)).then (c:=59) aE;exact z.eq zfQ
def lexB:∀l:List S,S.dv l=true->fh (S.dX E.bT [123,32] l++[125]) (kS [123]::(S.nJ l++[kS [125]]))
 |l,h=>by
  have M:fh [123,32] [kS [123]]:=by
   have:=(ny (c:=123) aE).s.sp
   grind
  exact((Rr l h _ _ M).s.then (c:=125) aE).eq zfm
def Rr:∀l:List S,S.dv l=true->∀q m,fh q m->fh (S.dX E.bT q l) (m++S.nJ l)
 |[],_,q,m,h=>by rw[S.dX,S.nJ,gw];exact h
 |a::l,T,q,m,h=>by
  simp only[S.dv,a6]at T;rw[S.dX,S.nJ];have z:=(h.app (XX a T.1)).s.sp;exact(Rr l T.2 _ _ z).eq zfm
end
def fh.all{x:ai}{l:List K}(h:fh x l):∃ts,ts.map kf=l/\Tz x 0 ts x.length:=by
 have⟨ts,z,v⟩:=h [] []
 grind
def Ik{l:List S}(h:S.dv l=true):fh (iy E.bT l) (Jy l):=lexB l h
end Go.Sp
namespace Go.Im
open Go.Xp Go.Sp
def LY(s:ai):List K:=[kS iV,kN s,kS [59]]
def GZ(a:Ar):List K:=[kS iV,kN a.name,kS [91],kI a.size,kS [93],kS [59]]
def uL:List ai->List K
 |[]=>[]
 |s::r=>kS [44]::kN s::uL r
def E9:List ai->List K
 |[]=>[]
 |s::r=>kN s::uL r
def HB(x:Fn × List S):List K:=kS jm::kN x.1.name::kS [40]::(E9 x.1.params++kS [41]::Jy x.2)
def mH(x:Fn × List S):ai:=((((([102,117,110,99,32]++x.1.name)++[40])++cJ x.1.params)++[41,32])++iy E.bT x.2)++[10]
def Il:fh [59,10] [kS [59]]:=(ny (c:=59) aE).app (xu (c:=10) aE)
def X0{s:ai}(h:cb s=true):fh (g1 s) (LY s) :=
 ((uo (w:=iV) aE).apps (lk h)).DS Il (xF (c:=59) (x:=[10]) aE)
def XY{a:Ar}(h:la a=true):fh (a1 a) (GZ a):=by
 unfold la at h;simp only[a6,Bool.not_eq_true',decide_eq_false_iff_not]at h;have⟨⟨z,v⟩,I⟩:=h
 have E:pG a.size=gQ a.size.toNat:=by grind[pG]
 have G:kI a.size=kI ((a.size.toNat:Nat):Int):=by grind
 have J:=((uo (w:=iV) aE).apps (lk z)).then (c:=91) aE;have N:=J.apps (Io (n:=a.size.toNat) aK);have A:=N.DS ((ny (c:=93) aE).app Il) (xF (c:=93) (x:=[59,10]) aE);unfold a1 GZ;rw[E,G];exact A
def MS:∀(l:List ai),dp l=true->∀x m,jh x m->jh (x++l.flatMap fun y=>44::32::y) (m++uL l)
 |[],_,x,m,h=>by grind[uL]
 |s::r,R,x,m,h=>by
  unfold dp at R;rw[all_cons,a6]at R;have z:=(h.then (c:=44) aE).app Kv;have v:=z.apps (lk R.1);have I:=MS r R.2 _ _ v
  grind[uL]
def X1{l:List ai}(h:dp l=true):jh (cJ l) (E9 l):=by
 match l,h with
 |[],_=>exact fh.nil.s
 |s::r,h =>
  unfold dp at h;rw[all_cons,a6]at h;exact MS r h.2 s [kN s] (lk h.1)
def XZ{x:Fn × List S}(z:cb x.1.name=true)(v:dp x.1.params=true)(I:S.dv x.2=true):fh (mH x) (HB x):=by
 have J:=((uo (w:=jm) aE).apps (lk z)).then (c:=40) aE;have N:=(J.apps (X1 v)).DS ((ny (c:=41) aE).app Kv) (xF (c:=41) (x:=[32]) aE);have A:=(N.app (Ik I)).app (xu (c:=10) aE);refine fh.eq A ?_;simp[HB]
def yh{C:Type}{f:C->ai}{k:C->List K}:∀(l:List C),(∀x∈l,fh (f x) (k x))->∀t m,fh t m->fh (ez f t l) (m++l.flatMap k)
 |[],_,t,m,h=>by grind[ez]
 |x::l,W,t,m,h=>by
  rw[ez,flatMap_cons,<-eU];exact yh l (fun y n=>W y (ey _ n)) _ _ (h.app (W x mem_cons_self))
def Li{inl:List ai->Nat->ai}:∀(az:List Fn)(l:List T)(ls:List (List S))(v:ai),ls.length=l.length->(∀(i:Nat)t b,l[i]?=some t->ls[i]?=some b->nT dW inl 0 t=iy E.bT b) ->
  ez (dV dW inl) v (az.zip l)=ez mH v (az.zip ls)
 |[],l,ls,v,_,_=>by rfl
 |f::r,[],[],v,_,_=>by rfl
 |f::r,t::l,b::ls,v,W,h=>by
  have M:=h 0 t b rfl rfl;rw[zip_cons_cons,zip_cons_cons,ez,ez,Li r l ls _ zfk fun i O j z w=>h (i+1) O j zfk zfk];simp only[dV,mH,M]
 |f::r,[],b::ls,v,W,_=>by simp at W
 |f::r,t::l,[],v,W,_=>by simp at W
section
variable{p q:RS}{ts r rest:List Tok}{u:Tok}{s:ai}
theorem qF(h:On p (u::r)):tok p 0=u:=by rw[On.tok h];rfl
theorem zy(h:On p (u::r))(G:kf u=kS s):is p 0 s=true:=by
 grind[ff,qF,is]
theorem JX(h:On p (u::r)){k:K}(G:kf u=k)(hn:k.1=3->k.2.2≠s):is p 0 s=false:=by
 grind[qF,kf,is]
def tO(h:On p (u::r))(G:kf u=kS s):want p s=p.next:=by unfold want;rw[ae h.code,ae (zy h G)]
def xw(h:On p (u::r))(G:kf u=kN s)(W:cb s=true):bZ p=p.next:=by
 have⟨z,v⟩:=qw G;have:=nz W;unfold bZ;rw[ae h.code,qF h,ae z,ab zfk]
def nx(h:On p (u::r)):On p.next r:=h.next.1
def tW(h:On p (u::r)):p.next.l=p.l/\p.next.e=p.e:=⟨h.next.2.1,h.next.2.2⟩
theorem aav(h:On p (u::r)):p.i<p.l.length:=by
 have:=congrArg List.length h.rest
 grind
theorem VW(h:On p []):¬p.i<p.l.length:=by
 have:=congrArg List.length h.rest
 grind
theorem H7{G f:Nat}{st:PS}(h:p.code≠0)(hg:1<=G):nU G f p st=some (p,st):=by
 obtain⟨G,rfl⟩:∃t,G=t+1:=⟨G-1,by omega⟩
 grind[nU]
theorem ye{f:Nat}{t:List ai}(h:p.code≠0)(hg:1<=f):px f t p=some (t,p):=by
 obtain⟨f,rfl⟩:∃v,f=v+1:=⟨f-1,by omega⟩;rw[px,ab (fun o=>h o.1),ij h]
end
section
variable{f:Nat}{p:RS}{st:PS}{ts rest:List Tok}
def aaq{s:ai}(R:On p (ts++rest))(H:ts.map kf=LY s)(o:cb s=true) :
  ∃q,iW f p st=some (q,{ st with aw:=st.aw++[s] })/\cD p q (.ok rest):=by
 obtain⟨u,r,rfl,A,H⟩:=map_cons H;obtain⟨v,r,rfl,z,H⟩:=map_cons H;obtain⟨w,rfl,I⟩:=jv H;simp only[cons_append,nil_append]at R;have l:=nx R;have j:=nx l;have B:=nx j;refine⟨p.next.next.next,?_,B,by rfl,by rfl⟩;unfold iW;rw[ae (zy R A),xw l z o,JX j I aE,ab zfm,tO j I,qF l,(qw z).2]
def aao{a:Ar}(R:On p (ts++rest))(H:ts.map kf=GZ a)(o:cb a.name=true) :
  ∃q,iW f p st=some (q,{ st with aq:=st.aq++[a] })/\cD p q (.ok rest):=by
 obtain⟨u,r,rfl,C,H⟩:=map_cons H;obtain⟨v,r,rfl,A,H⟩:=map_cons H;obtain⟨w,r,rfl,I,H⟩:=map_cons H;obtain⟨x,r,rfl,c,H⟩:=map_cons H;obtain⟨y,r,rfl,F,H⟩:=map_cons H;obtain⟨z,rfl,J⟩:=jv H;simp only[cons_append,nil_append]at R;have l:=nx R;have j:=nx l;have B:=nx j;have M:=nx B;have T:=nx M;have t:=nx T;refine⟨p.next.next.next.next.next.next,?_,t,by rfl,by rfl⟩;unfold iW;rw[ae (zy R C),xw l A o,ae ⟨j.code,zy j I⟩,qF B,ae (Po c).1,tO M F,tO T J,qF l,(qw A).2,(Po c).2]
end
section
variable{rest:List Tok}{u:Tok}
theorem Rh(W:kf u=kS [41]):∀(l:List ai)(f:Nat)(t:List ai)(p:RS)(ts:List Tok),l.length<f->t≠[]->dp l=true->On p (ts++u::rest)->ts.map kf=uL l ->
  ∃q,px f t p=some (t++l,q)/\cD p q (.ok rest)
 |[],f,t,p,ts,C,O,_,R,H=>by
  obtain⟨f,rfl⟩:∃z,f=z+1:=⟨f-1,by omega⟩
  have:ts=[]:=by simp_all[uL]
  subst this;rw[nil_append]at R;refine⟨p.next,?_,nx R,tW R⟩;rw[px,ab (by grind[zy]),tO R W,gw]
 |s::l,f,t,p,ts,C,O,Q,R,H=>by
  obtain⟨f,rfl⟩:∃z,f=z+1:=⟨f-1,by omega⟩;rw[uL]at H;obtain⟨v,r,rfl,A,H⟩:=map_cons H;obtain⟨w,r,rfl,B,H⟩:=map_cons H;unfold dp at Q;rw[all_cons,a6]at Q;simp only[cons_append]at R;have m:=nx R;have j:=nx m
  have J:t.length≠0:=fun h=>O (ky h)
  rw[length_cons]at C
  have⟨q,I,c⟩:=Rh W l f (t++[s]) p.next.next r aK zfm Q.2 j H
  refine⟨q,?_,c.1,by rw[c.2.1,(tW m).1,(tW R).1],by rw[c.2.2,(tW m).2,(tW R).2]⟩;rw[px,ae ⟨R.code,JX R A aE⟩,ab J,tO R A,qF m,(qw B).2,xw m B Q.1,I];simp
theorem XN(W:kf u=kS [41])(l:List ai)(f:Nat)(p:RS)(ts:List Tok)(hf:l.length<f)(hn:dp l=true)(R:On p (ts++u::rest))(H:ts.map kf=E9 l) :
  ∃q,px f [] p=some (l,q)/\cD p q (.ok rest):=by
 obtain⟨f,rfl⟩:∃t,f=t+1:=⟨f-1,by omega⟩
 match l,hn,H,hf with
 |[],_,H,_ =>
  have:ts=[]:=by simp_all[E9]
  subst this;rw[nil_append]at R;refine⟨p.next,?_,nx R,tW R⟩;rw[px,ab (by grind[zy]),tO R W]
 |s::l,hn,H,hf =>
  rw[E9]at H;obtain⟨w,r,rfl,v,H⟩:=map_cons H;unfold dp at hn;rw[all_cons,a6]at hn;simp only[cons_append]at R;have j:=nx R;rw[length_cons]at hf
  have⟨q,I,c⟩:=Rh W l f ([]++[s]) p.next r aK zfm hn.2 j H
  refine⟨q,?_,c.1,by rw[c.2.1,(tW R).1],by rw[c.2.2,(tW R).2]⟩;rw[px,ae ⟨R.code,JX R v (fun h=>by cases h)⟩,ae zfQ,qF R,(qw v).2,xw R v hn.1,I];rfl
end
def fW(p:RS):Nat:=40*p.l.length+100
def Fa:∀l:List ai,l.length<=(uL l).length
 |[]=>bj _
 |s::r=>by have:=Fa r;grind[uL]
theorem Tm(l:List ai):l.length<=(E9 l).length:=by
 cases l with
 |nil=>simp
 |cons s r=>simp[Fa,length_cons,ai,K,E9]
def On.len{p:RS}{ts:List Tok}(h:Go.Sp.On p ts):ts.length<=p.l.length:=by
 rw[<-h.rest,n2];omega
def VG{f:Nat}{q:RS}{ts:List Tok}(T:Go.Sp.On q ts)(o:tU q.l)(hf:fW q<=f):∃t F,iS f (.block 1) q=some (t,F)/\iu q F t (block q.e 1 ts):=by
 have⟨t,F,z,v⟩:=(is_ (nG ts)).block 1 ts q T o vN;have:=On.len T;exact⟨t,F,z f (by grind[fW,KI,nG]),v⟩
def aap{f:Nat}{p:RS}{st:PS}{ts rest:List Tok}{x:Fn × List S}(m:On p (ts++rest))(hs:tU p.l)(hf:fW p<=f)(c:ts.map kf=HB x)(O:cb x.1.name=true)(Q:dp x.1.params=true)(R:S.dv x.2=true) :
  (gh x.2 1=true->∃q t,iW f p st=some (q,{ st with aJ:=st.aJ++[t],az:=st.az++[(x.1.name,x.1.params)] })/\er t=cx x.2/\cD p q (.ok rest)) /\
  (gh x.2 1=false->∃q F,iW f p st=some (q,F)/\q.code≠0):=by
 obtain⟨u,r,rfl,I,c⟩:=map_cons c;obtain⟨v,r,rfl,J,c⟩:=map_cons c;obtain⟨w,r,rfl,k3,c⟩:=map_cons c;obtain⟨A,r,rfl,k4,c⟩:=dZ c;obtain⟨y,r,rfl,k5,c⟩:=map_cons c;simp only[cons_append,eU]at m;have C:=nx m;have M:=nx C;have N:=nx M
 have G:p.next.next.next.l=p.l:=by rfl
 have hA:x.1.params.length<=A.length:=by grind[Tm,bI]
 have i:=On.len N;simp only[bl]at i;rw[G]at i
 have n:x.1.params.length<f:=by grind[fW]
 have⟨q,T,j⟩:=XN k5 x.1.params f p.next.next.next A n Q N k4
 have o:q.l=p.l:=j.2.1.trans G;have⟨t,E,W,k⟩:=VG (f:=f) j.1 zfk zfM;have⟨r1,r2⟩:=DX (e:=q.e) (d:=1) (rest:=rest) R c
 have H:iW f p st=some (E,{ st with aJ:=st.aJ++[t],az:=st.az++[(x.1.name,x.1.params)] }):=by
  unfold iW;rw[ab (by rw[JX m I aE];decide),ae (zy m I),xw C J O,tO M k3,T];simp only;rw[ae j.1.code,W,qF C,(qw J).2]
 refine⟨fun b=>?_,fun b=>?_⟩
 ·have⟨t',j1,z⟩:=r1 b;rw[z]at k;obtain⟨rfl,B⟩:=k;exact⟨E,t,H,j1,B.1,B.2.1.trans o,B.2.2.trans (j.2.2.trans zfQ)⟩
 ·have⟨pos,z⟩:=r2 b;rw[z]at k;exact⟨E,_,H,cD.err k⟩
theorem qU{G f:Nat}{p q:RS}{st o:PS}{u:Tok}{r:List Tok}(R:On p (u::r))(h:iW f p st=some (q,o)):nU (G+1) f p st=nU G f q o:=by
 rw[nU,ae ⟨R.code,aav R⟩,h]
section
variable{f:Nat}{rest:List Tok}
theorem Rk:∀(gs:List ai)(p:RS)(st:PS)(ts:List Tok),On p (ts++rest)->ts.map kf=gs.flatMap LY->dp gs=true ->
  ∃q,cD p q (.ok rest)/\∀G,nU (G+gs.length) f p st=nU G f q { st with aw:=st.aw++gs }
 |[],p,st,ts,R,H,_=>by
  have:ts=[]:=by simp_all
  subst this;exact⟨p,On.self R,fun G=>by simp⟩
 |s::gs,p,st,ts,R,H,Q=>by
  rw[flatMap_cons]at H;obtain⟨A,B,rfl,z,v⟩:=dZ H;unfold dp at Q;rw[all_cons,a6]at Q;rw[eU]at R;have⟨q,I,c⟩:=aaq (f:=f) (st:=st) R z Q.1;have⟨M,F,J⟩:=Rk gs q { st with aw:=st.aw++[s] } B c.1 v Q.2;refine⟨M,c.tr F,fun G=>?_⟩;obtain⟨u,r,rfl,_,_⟩:=map_cons z;rw[length_cons,<-nE,qU R I,J];simp
theorem Ri:∀(as:List Ar)(p:RS)(st:PS)(ts:List Tok),On p (ts++rest)->ts.map kf=as.flatMap GZ->as.all la=true ->
  ∃q,cD p q (.ok rest)/\∀G,nU (G+as.length) f p st=nU G f q { st with aq:=st.aq++as }
 |[],p,st,ts,R,H,_=>by
  have:ts=[]:=by simp_all
  subst this;exact⟨p,On.self R,fun G=>by simp⟩
 |s::t,p,st,ts,R,H,Q=>by
  rw[flatMap_cons]at H;obtain⟨A,B,rfl,z,v⟩:=dZ H;rw[all_cons,a6]at Q;rw[eU]at R
  have I:cb s.name=true:=by simp_all[la,a6]
  have⟨q,J,c⟩:=aao (f:=f) (st:=st) R z I;have⟨N,F,M⟩:=Ri t q { st with aq:=st.aq++[s] } B c.1 v Q.2;refine⟨N,c.tr F,fun G=>?_⟩;obtain⟨u,r,rfl,_,_⟩:=map_cons z;rw[length_cons,<-nE,qU R J,M];simp
end
def WZ(x:Fn × List S):Prop:=cb x.1.name=true/\dp x.1.params=true/\S.dv x.2=true
def Rj{f:Nat}:∀(xs:List (Fn × List S))(p:RS)(st:PS)(ts:List Tok),On p ts->tU p.l->fW p<=f->ts.map kf=xs.flatMap HB->(∀x∈xs,WZ x) ->
  ((xs.all fun x=>gh x.2 1)=true->∃q l,(∀G,xs.length<G->nU G f p st=some (q,{ st with aJ:=st.aJ++l,az:=st.az++xs.map fun x=>(x.1.name,x.1.params) }))/\q.code=0/\bp l=xs.map fun x=>cx x.2) /\
  ((xs.all fun x=>gh x.2 1)=false->∃q b,(∀G,xs.length<G->nU G f p st=some (q,b))/\q.code≠0)
 |[],p,st,ts,d,_,_,k,_=>by
  have:ts=[]:=by simp_all
  subst this;refine⟨fun _=>⟨p,[],fun G e=>?_,d.code,by rfl⟩,fun h=>by cases h⟩;obtain⟨G,rfl⟩:∃c,G=c+1:=⟨G-1,by omega⟩;rw[nU,ab (fun E=>VW d E.2)];simp
 |x::xs,p,st,ts,d,I,F,k,hx=>by
  rw[flatMap_cons]at k;obtain⟨A,B,rfl,v,C⟩:=dZ k;have⟨W,x2,x3⟩:=hx x mem_cons_self;have⟨R,T⟩:=aap (st:=st) d I F v W x2 x3
  have j:∃u r,A++B=u::r:=by obtain⟨u,r,rfl,_,_⟩:=map_cons v;simp
  have⟨u,r,J⟩:=j;rw[J]at d
  cases i:gh x.2 1 with
  |false =>
   have⟨q,b,w,n⟩:=T i;refine⟨fun h=>zfk,fun _=>⟨q,b,fun G e=>?_,n⟩⟩;obtain⟨G,rfl⟩:∃c,G=c+1:=⟨G-1,by omega⟩;rw[qU d w,H7 n zfk]
  |true =>
   have⟨q,t,w,n,z⟩:=R i;have H:q.l=p.l:=z.2.1;obtain⟨N,O⟩:=Rj (f:=f) xs q { st with aJ:=st.aJ++[t],az:=st.az++[(x.1.name,x.1.params)] } B z.1 zfk zfM C (fun y M=>hx y (ey _ M));rw[all_cons,i,Bool.true_and];refine⟨fun h=>?_,fun h=>?_⟩
   ·have⟨o,l,Q,m,j5⟩:=N h;refine⟨o,t::l,fun G e=>?_,m,by grind[bp]⟩;obtain⟨G,rfl⟩:∃c,G=c+1:=⟨G-1,by omega⟩
    grind[qU,length_cons]
   ·have⟨o,b,Q,m⟩:=O h;refine⟨o,b,fun G e=>?_,m⟩;obtain⟨G,rfl⟩:∃c,G=c+1:=⟨G-1,by omega⟩
    grind[qU,length_cons]
def Nl(G:List ai)(d:List Ar)(xs:List (Fn × List S))(R:dp G=true)(T:d.all la=true)(W:∀x∈xs,WZ x) :
  ∃ts,Tz (ez mH (ez a1 (ez g1 [] G) d) xs) 0 ts (ez mH (ez a1 (ez g1 [] G) d) xs).length /\
  (tU ts->∀(e:Int)(g f:Nat),ts.length+1<=g->40*ts.length+100<=f ->
   ((xs.all fun x=>gh x.2 1)=true->∃q l,nU g f ⟨ts,0,e,0,0⟩ .empty=some (q,⟨l,G,d,xs.map fun x=>(x.1.name,x.1.params)⟩)/\q.code=0/\bp l=xs.map fun x=>cx x.2) /\
   ((xs.all fun x=>gh x.2 1)=false->∃q st',nU g f ⟨ts,0,e,0,0⟩ .empty=some (q,st')/\q.code≠0)):=by
 have N:=yh (f:=g1) (k:=LY) G (fun s m=>X0 (fL.1 R s m)) [] [] fh.nil;have O:=yh (f:=a1) (k:=GZ) d (fun s m=>XY (fL.1 T s m)) _ _ N;have Q:=yh (f:=mH) (k:=HB) xs (fun x hx=>by have⟨a,b,c⟩:=W x hx;exact XZ a b c) _ _ O;have⟨ts,v,w⟩:=Q.all;refine⟨ts,w,fun m e g f F E=>?_⟩;rw[nil_append]at v;obtain⟨A,C,rfl,M,k4⟩:=dZ v;obtain⟨A,B,rfl,k5,k6⟩:=dZ M;have j:On ⟨(A++B)++C,0,e,0,0⟩ (A++(B++C)):=⟨rfl,bj _,by simp,w.kinds⟩;obtain⟨q1,o,H⟩:=Rk (f:=f) G _ .empty A j k5 R;obtain⟨q2,t,I⟩:=Ri (f:=f) d q1 _ B o.1 k6 T;have i:q2.l=(A++B)++C:=(o.tr t).2.1;obtain⟨J,j6⟩:=Rj (f:=f) xs q2 { ({ PS.empty with aw:=PS.empty.aw++G }:PS)with aq:=PS.empty.aq++d } C t.1 (by rw[i];exact m) (by unfold fW;rw[i];exact E) k4 W
 have c1:G.length<=A.length:=by
  have:=congrArg List.length k5;rw[bI]at this;rw[this];clear this k5 o H t I J j6 i j m v w M N O Q E F R
  induction G with
  |nil=>simp
  |cons s G ih=>grind[LY]
 have c2:d.length<=B.length:=by
  have:=congrArg List.length k6;rw[bI]at this;rw[this];clear this k6 o H t I J j6 i j m v w M N O Q E F T
  induction d with
  |nil=>simp
  |cons s G ih=>grind[GZ]
 have c3:xs.length<=C.length:=by
  have:=congrArg List.length k4;rw[bI]at this;rw[this];clear this k4 o H t I J j6 i j m v w M N O Q E F W
  induction xs with
  |nil=>simp
  |cons s G ih=>grind[HB]
 rw[bl,bl]at F;have n:∃z,xs.length<z/\g=z+d.length+G.length:=⟨g-d.length-G.length,by omega,by omega⟩;obtain⟨z,wP,rfl⟩:=n;rw[H,I];refine⟨fun h=>?_,fun h=>?_⟩
 ·have⟨q,l,j7,j8,j9⟩:=J h;exact⟨q,l,j7 z wP,j8,j9⟩
 grind
structure Bj(st:PS):Prop where
 aw:dp st.aw=true
 aq:st.aq.all la=true
 az:∀x∈st.az,cb x.1=true/\dp x.2=true
 aJ:∀t∈st.aJ,BF t
 len:st.az.length=st.aJ.length
def y5{a b:List ai}(h:dp a=true)(k:dp b=true):dp (a++b)=true:=by
 grind[dp]
def y7{s:ai}(h:cb s=true):dp [s]=true:=by
 grind[dp]
def Sf.len{a b:List Tok}{n:Nat}(h:Sf a b n):b.length+n<=a.length:=by
 obtain⟨p,rfl,h⟩:=h
 grind
def H4:∀(f:Nat)(t:List ai)(p:RS)(ts:List Tok),On p ts->rJ ts->ts.length+1<f->dp t=true ->
  ∃l q,px f t p=some (l,q)/\((∃r n,cD p q (.ok r)/\dp l=true/\Sf ts r n)\/q.code≠0)
 |0,t,p,ts,_,_,B,_=>by omega
 |f+1,t,p,ts,R,S,B,Q=>by
  rw[px]
  by_cases o:p.code=0/\is p 0 [41]=false
  ·rw[ae o]
   have u:(∃r,cD p (if t.length=0 then p else want p [44]) (.ok r)/\Sf ts r 0)\/(if t.length=0 then p else want p [44]).code≠0:=by
    by_cases O:t.length=0
    ·rw[ae O];exact .inl ⟨ts,On.self R,.nil _⟩
    ·rw[ab O]
     rcases nh R (s:=[44]) aE with⟨r,z,v⟩|⟨x,z,v⟩
     ·exact .inl ⟨r,v,(Sf.ba aE z).le (bj _)⟩
     grind[cD.err]
   generalize(if t.length=0 then p else want p [44])=k at *
   rcases u with⟨r,z,v⟩|z
   ·rcases tC z.1 with⟨F,I,c⟩|⟨x,I,c⟩
    ·have⟨w,e⟩:=Sf.name I (v.ok S);have A:=(v.trans w).len;have⟨l,q,C,J⟩:=H4 f (t++[(tok k 0).s]) (bZ k) F c.1 ((v.trans w).ok S) aK (y5 Q (y7 e));refine⟨l,q,C,?_⟩
     rcases J with⟨G,n,M,E,i⟩|M
     ·exact .inl ⟨G,_,(z.tr c).tr M,E,(v.trans w).trans i⟩
     omega
    grind[ye,cD.err]
   ·rw[M3 z];exact⟨_,_,ye z aK,.inr z⟩
  ·rw[ab o]
   rcases nh R (s:=[41]) aE with⟨r,z,v⟩|⟨x,z,v⟩
   ·exact⟨t,_,rfl,.inl ⟨r,1,v,Q,Sf.ba aE z⟩⟩
   grind[cD.err]
def VI{f:Nat}{p:RS}{st:PS}{u:Tok}{r0:List Tok}(N:On p (u::r0))(E:rJ (u::r0))(hs:tU p.l)(hf:fW p<=f)(b:Bj st) :
  ∃q k,iW f p st=some (q,k)/\((∃r n,cD p q (.ok r)/\Bj k/\Sf (u::r0) r (n+1)/\aZ k.aJ<=n+1+aZ st.aJ)\/q.code≠0):=by
 have p1:=nx N;have i:=Sf.one u r0;unfold iW
 by_cases h1:is p 0 iV=true
 ·rw[ae h1]
  rcases tC p1 with⟨A,a1,c⟩|⟨x,a1,c⟩
  ·have⟨Q,R⟩:=Sf.name a1 (i.ok E);have I:=i.trans Q;have G:cD p (bZ p.next) (.ok A):=(On.next N).tr c
   by_cases C:(bZ p.next).code=0/\is (bZ p.next) 0 [91]=true
   ·rw[ae C]
    have h3:aH A 0=[91]:=by
     have:=On.is c.1 0 (s:=[91]) aE
     grind
    have⟨v,h4,_⟩:=tK aE h3;have m:=I.trans (Sf.aH aE h3);have T:=c.1;rw[h4]at T
    have B:cD p (bZ p.next).next (.ok A.tail):=G.tr (On.next T)
    have z:=nx T
    by_cases M:(tok (bZ p.next).next 0).aj=1
    ·rw[ae M]
     cases hr:A.tail with
     |nil =>
      grind[On.tok]
     |cons w W =>
      rw[hr]at z B m;have p4:=nx z;have J:=m.trans (Sf.one w W);have H:=B.tr (On.next z);rw[qF z]at M;have hw:=(m.ok E w mem_cons_self).num M
      rcases nh p4 (s:=[93]) aE with⟨O,j,d⟩|⟨x,j,d⟩
      ·rcases nh d.1 (s:=[59]) aE with⟨r5,d1,d2⟩|⟨x,d1,d2⟩
       ·refine⟨_,_,rfl,.inl ⟨r5,0,(H.tr d).tr d2,⟨b.aw,?_,b.az,b.aJ,b.len⟩,((J.trans (Sf.ba aE j)).trans (Sf.ba aE d1)).le aK,by simp⟩⟩;simp only;rw[List.all_append,b.aq,all_cons,List.all_nil,Bool.and_true,Bool.true_and];unfold la;rw[qF z,R]
        grind
       grind[cD.err]
      grind[ij,cD.err]
    ·rw[ab M];exact⟨_,_,rfl,.inr (cD.err (On.lB z))⟩
   ·rw[ab C]
    rcases nh c.1 (s:=[59]) aE with⟨O,j,d⟩|⟨x,j,d⟩
    ·exact⟨_,_,rfl,.inl ⟨O,0,G.tr d,⟨y5 b.aw (y7 R),b.aq,b.az,b.aJ,b.len⟩,(I.trans (Sf.ba aE j)).le aK,by simp⟩⟩
    grind[cD.err]
  ·rw[ab (fun h=>cD.err c h.1),ij (cD.err c)]
   grind[cD.err]
 ·rw[ab h1]
  by_cases C:is p 0 jm=true
  ·rw[ae C]
   rcases tC p1 with⟨A,a1,c⟩|⟨x,a1,c⟩
   ·have⟨Q,R⟩:=Sf.name a1 (i.ok E);have I:=i.trans Q;have G:cD p (bZ p.next) (.ok A):=(On.next N).tr c
    rcases nh c.1 (s:=[40]) aE with⟨r2,j,d⟩|⟨x,j,d⟩
    ·have m:=I.trans (Sf.ba aE j);have B:=G.tr d;have hl:=On.len d.1;have xi:(want (bZ p.next) [40]).l=p.l:=B.2.1;have⟨l,q,k1,k2⟩:=H4 f [] _ r2 d.1 (m.ok E) zfM rfl;rw[k1];simp only
     rcases k2 with⟨W,n,F,k4,k5⟩|F
     ·have H:=B.tr F;have hql:q.l=p.l:=H.2.1;rw[ae F.1.code];have⟨t,q',k6,o⟩:=VG (f:=f) F.1 zfk zfM;rw[k6];simp only;have J:=m.trans k5
      cases S:block q.e 1 W with
      |error x=>rw[S]at o;exact⟨_,_,rfl,.inr (cD.err o)⟩
      |ok y =>
       have⟨t',O⟩:=y;rw[S]at o;obtain⟨rfl,o⟩:=o;have⟨k8,k9⟩:=Jz (J.ok E) S;refine⟨_,_,rfl,.inl ⟨O,n+bg t+2,H.tr o,⟨b.aw,b.aq,?_,?_,?_⟩,(J.trans k9).le aK,?_⟩⟩
       ·intro x hx
        rcases sb hx with hx|hx
        ·exact b.az x hx
        grind
       ·intro x hx
        rcases sb hx with hx|hx
        ·exact b.aJ x hx
        grind
       ·simp only[bl,length_cons,length_nil];have:=b.len;omega
       ·simp only[oY,aZ];omega
     ·rw[ab F]
      grind
    ·rw[ye (cD.err d) zfM];simp only;rw[ab (cD.err d)]
     grind[cD.err]
   ·rw[ij (cD.err c),ye (cD.err c) zfM];simp only;rw[ab (cD.err c)]
    grind[cD.err]
  ·rw[ab C];exact⟨_,_,rfl,.inr (cD.err (On.lB N))⟩
def H6{f:Nat}:∀(G:Nat)(p:RS)(st:PS)(ts:List Tok),On p ts->rJ ts->tU p.l->fW p<=f->Bj st->ts.length<G ->
  ∃q o,nU G f p st=some (q,o)/\(q.code=0->Bj o/\aZ o.aJ<=ts.length+aZ st.aJ)
 |0,p,st,ts,_,_,_,_,_,Q=>by omega
 |G+1,p,st,ts,R,S,w,s,d,Q=>by
  cases ts with
  |nil =>
   rw[nU,ab (fun t=>VW R t.2)]
   grind
  |cons u r0 =>
   have⟨q,o,z,v⟩:=VI R S w s d;rw[qU R z];rw[length_cons]at Q
   rcases v with⟨r,n,I,c,F,H⟩|I
   ·have W:=F.len;rw[length_cons]at W;have E:q.l=p.l:=I.2.1;obtain⟨J,A,B,e⟩:=H6 G q o r I.1 (F.ok S) zfk (by unfold fW at s |-;rw[E];exact s) c aK
    grind
   grind[H7]
def pE(st:PS):List Fn:=st.az.mapIdx fun i x=>⟨x.1,x.2,((aZ (st.aJ.take i):Nat):Int)⟩
def same(p:Src)(st:PS):Bool:=fv (fun x y=>x==y) p.aw st.aw&&(fv yM p.aq st.aq&&(fv rA p.az (pE st)&&fv kL p.ak (en 0 st.aJ)))
structure Reads(x:ai)(ts:List Tok)(c z:Int)(q:RS)(st:PS):Prop where
 lex:pS x (x.length+1) 0 []=some (ts,c,z)
 len:ts.length<=x.length
 read:nU (ts.length+1) (40*ts.length+100) ⟨ts,0,(x.length:Int),0,0⟩ .empty=some (q,st)
 ok:q.code=0->Bj st/\aZ st.aJ<=ts.length
def reads(x:ai):∃ts c z q st,Reads x ts c z q st:=by
 obtain⟨ts,c,z,A,v,I,e⟩:=rP x (x.length+1) 0 [] (bj _) aK (fun t h=>by simp at h) .nil (fun t h=>by simp at h) (a8 _);have d:On ⟨ts,0,(x.length:Int),0,0⟩ ts:=⟨rfl,bj _,rfl,fun t J=>(v t J).kinds⟩;obtain⟨q,st,F,H⟩:=H6 (f:=40*ts.length+100) (ts.length+1) _ .empty ts d v I (a8 _) ⟨rfl,rfl,fun x h=>zfu,fun x h=>zfu,rfl⟩ aK;exact⟨ts,c,z,q,st,A,e,F,fun h=>by have⟨a,b⟩:=H h;exact⟨a,by simpa[PS.empty,aZ]using b⟩⟩
structure Forms(l:List T)(ls:List (List S)):Prop where
 len:ls.length=l.length
 at_:∀(i:Nat)t b,l[i]?=some t->ls[i]?=some b->S.dv b=true/\er t=cx b
def Ek:∀(l:List T),(∀t∈l,BF t)->∃ls,Forms l ls
 |[],_=>⟨[],rfl,fun i t b h=>by simp at h⟩
 |t::l,h=>by
  have⟨b,z,v⟩:=h t mem_cons_self
  obtain⟨ls,I⟩:=Ek l fun u W=>h u (ey _ W)
  refine⟨b::ls,by simp[I.len],fun i O j s e=>?_⟩
  cases i with
  |zero=>grind
  |succ i=>exact I.at_ i O j zfk zfk
def gE.mem{Q:Fn->T->Prop}:∀{az:List Fn}{a:Nat}{l:List T},gE Q az a l->(∀f∈az,∃t∈l,Q f t)/\(∀t∈l,∃f∈az,Q f t)
 |[],_,[],_=>⟨fun f h=>zfu,fun f h=>zfu⟩
 |f::r,a,t::l,h=>by
  rw[gE]at h;have⟨s,e⟩:=gE.mem h.2.2;refine⟨fun g F=>?_,fun u hu=>?_⟩
  ·rcases nj F with rfl|F
   ·exact⟨t,mem_cons_self,h.2.1⟩
   ·have⟨u,a,b⟩:=s g F;exact⟨u,ey _ a,b⟩
  ·rcases nj hu with rfl|hu
   ·exact⟨f,mem_cons_self,h.2.1⟩
   ·have⟨g,a,b⟩:=e u hu;exact⟨g,ey _ a,b⟩
 |[],_,t::l,h=>by cases h
 |f::r,_,[],h=>by cases h
def iv.Af{p:Src}{l:List T}(h:iv p l):∃ls,Forms l ls:=by
 refine Ek l fun t H=>?_
 have⟨f,_,z⟩:=(gE.mem h.az).2 t H;exact toB z.all z.aj
def iv.at_{p:Src}{l:List T}(h:iv p l):mg l:=by
 have:∀l:List T,(∀t∈l,dU t=true)->mg l:=by
  intro l
  induction l with
  |nil=>intro _;trivial
  |cons t l q=>grind[KY,mem_cons_self,ey,dU,mg]
 refine this l fun t H=>?_
 have⟨f,_,z⟩:=(gE.mem h.az).2 t H;exact z.all
def iv.G8{p:Src}{l:List T}(h:iv p l):lb p.ak p.az 0 []=some (l,p.ak.length):=by
 rw[G9 p.az 0 [] l h.st h.az h.at_,h.len];simp
def iv.k{p:Src}{l:List T}(h:iv p l):l.all gJ=true:=by
 rw[fL];intro t H;have⟨f,_,z⟩:=(gE.mem h.az).2 t H;exact QI t z.all
theorem LR{l:List T}{ls:List (List S)}(h:Forms l ls):bp l=ls.map cx:=by
 rw[sI];apply List.ext_getElem?;intro i;rw[b6,b6];have W:=h.len
 cases z:l[i]? with
 |none =>
  grind
 |some t =>
  have M:=(bG z).1
  have v:ls[i]?=some (ls[i]'aK):=by simp
  rw[v];exact congrArg some (h.at_ i t _ z v).2
def zip_fst{C β:Type}:∀(a:List C)(b:List β),a.length=b.length->(a.zip b).map Prod.fst=a
 |[],[],_=>rfl
 |x::a,y::b,h=>by rw[zip_cons_cons,List.map_cons,zip_fst a b zfk]
 |[],y::b,h=>by simp at h
 |x::a,[],h=>by simp at h
def Cu{C β:Type}:∀(a:List C)(b:List β),a.length=b.length->(a.zip b).map Prod.snd=b
 |[],[],_=>rfl
 |x::a,y::b,h=>by rw[zip_cons_cons,List.map_cons,Cu a b zfk]
 |[],y::b,h=>by simp at h
 |x::a,[],h=>by simp at h
def xL(l:List T)(i:Nat):aZ (l.take i)=aZ ((bp l).take i):=by
 rw[sI,<-List.map_take,<-sI,vG]
def Wu{p:Src}{l:List T}{m:List T}{ls:List (List S)}(h:iv p l)(e:bp m=bp l):same p ⟨m,p.aw,p.aq,p.az.map fun x=>(x.name,x.params)⟩=true:=by
 unfold same;simp only[a6];refine⟨tg (fun x=>by simp) _,tg (fun x=>by simp[yM]) _,?_,?_⟩
 ·have:pE ⟨m,p.aw,p.aq,p.az.map fun x=>(x.name,x.params)⟩=p.az:=by
   unfold pE;apply List.ext_getElem?;intro i;simp only[List.getElem?_mapIdx,b6]
   cases s:p.az[i]? with
   |none=>rfl
   |some f =>
    have t:=gE.len h.az;have M:=(bG s).1
    have H:l[i]?=some (l[i]'aK):=by simp
    have r:=(gE.at_ h.az i f _ s H).1;rw[gW,xL,<-e,<-xL]at r;simp only[Option.map_some];rw[<-r]
  rw[this];simp[tg,fv,rA,Src.az]
 ·rw[dS.all h.st h.len]
  grind[BJ]
section
variable{p:Src}{l:List T}{ls:List (List S)}
def VP(h:iv p l)(hf:Forms l ls):nO dW ia p l=ez mH (ez a1 (ez g1 [] p.aw) p.aq) (p.az.zip ls):=by
 unfold nO
 refine Li _ _ _ _ hf.len fun i t b z v=>?_
 have⟨I,c⟩:=hf.at_ i t b z v;rw[<-La,c];exact uX b I 0
theorem Kw(h:iv p l)(hf:Forms l ls){ts:List Tok}{c z:Int}{q:RS}{st:PS}(o:Reads (nO dW ia p l) ts c z q st) :
  c=0/\((ls.all fun b=>gh b 1)=true->q.code=0/\aZ st.aJ<=800/\same p st=true)/\((ls.all fun b=>gh b 1)=false->q.code≠0):=by
 have hx:=VP h hf;have B:=gE.len h.az;have H:=hf.len
 have s:∀x∈p.az.zip ls,WZ x:=by
  intro x hx;have⟨f,b⟩:=x;have⟨i,n⟩:=getElem?_of_mem hx;rw[List.getElem?_zip_eq_some]at n;have G:=(bG n.2).1
  have C:l[i]?=some (l[i]'aK):=by simp
  have j:=(gE.at_ h.az i f _ n.1 C).2;exact⟨j.name,j.params,(hf.at_ i _ b C n.2).1⟩
 have⟨us,j,F⟩:=Nl p.aw p.aq (p.az.zip ls) h.aw h.aq s;rw[<-hx]at j;have r:=S5 j rfl ((nO dW ia p l).length+1) [] aK;rw[nil_append,o.lex]at r;simp only[Option.some.injEq,Prod.mk.injEq]at r;obtain⟨rfl,rfl,rfl⟩:=r
 have m:tU ts:=by
  obtain⟨O,Q,z',e,u,I,W⟩:=rP (nO dW ia p l) ((nO dW ia p l).length+1) 0 [] (bj _) aK (fun t h=>by simp at h) .nil (fun t h=>by simp at h) (a8 _);rw[o.lex]at e
  grind
 have⟨v,w⟩:=F m ((nO dW ia p l).length:Int) (ts.length+1) (40*ts.length+100) (a8 _) (a8 _)
 have k:((p.az.zip ls).all fun x=>gh x.2 1)=ls.all fun b=>gh b 1:=by
  have:ls=(p.az.zip ls).map Prod.snd:=(Cu _ _ aK).symm
  grind
 rw[k]at v w;refine⟨rfl,fun d=>?_,fun d=>?_⟩
 ·have⟨M,J,e,u,I⟩:=v d;rw[o.read]at e;simp only[Option.some.injEq,Prod.mk.injEq]at e;obtain⟨rfl,rfl⟩:=e
  have R:((p.az.zip ls).map fun x=>cx x.2)=ls.map cx:=by
   have:ls=(p.az.zip ls).map Prod.snd:=(Cu _ _ aK).symm
   conv=>rhs;rw[this]
   simp
  have E:((p.az.zip ls).map fun x=>(x.1.name,x.1.params))=p.az.map fun x=>(x.name,x.params):=by
   have:p.az=(p.az.zip ls).map Prod.fst:=(zip_fst _ _ aK).symm
   conv=>rhs;rw[this]
   simp
  have A:bp J=bp l:=by grind[LR]
  refine⟨u,?_,?_⟩
  ·simp only;rw[<-vG,A,vG,h.len];exact h.few
  ·rw[E];exact Wu (ls:=ls) h A
 ·have⟨M,N,e,u⟩:=w d;rw[o.read]at e
  grind
end
def Hu{C:Type}{p:C->C->Bool}{a b:List C}(h:fv p a b=true){x:C}(hx:x∈a):∃y∈b,p x y=true:=by
 have⟨i,M⟩:=getElem?_of_mem hx;have W:=x9 h;have j:=(bG M).1
 have r:b[i]?=some (b[i]'aK):=by simp
 grind[bR,D8]
def Kl{p:Src}{l:List T}(hn:p.ak.length<=800)(w:lb p.ak p.az 0 []=some (l,p.ak.length)){st:PS}(c:Bj st)(A:same p st=true):iv p l:=by
 have⟨l',F,G,H,h4,h5⟩:=Bx _ _ _ _ _ w;rw[nil_append]at F;subst F;unfold same at A;simp only[a6]at A;have⟨s1,s2,M,N⟩:=A
 have J:aZ l=p.ak.length:=by omega
 have d:=dS.all G J;rw[d]at N
 have j:l.length=st.aJ.length:=by
  have a1:=gE.len H;have E:=x9 M;unfold pE at E;rw[List.length_mapIdx]at E;have:=c.len;omega
 have R:=TI j N
 have e:∀f∈p.az,cb f.name=true/\dp f.params=true:=by
  intro f o;have⟨g,I,q⟩:=Hu M o;unfold pE at I;have⟨i,z⟩:=getElem?_of_mem I;rw[List.getElem?_mapIdx]at z
  cases hx:st.az[i]? with
  |none=>grind
  |some x =>
   rw[hx]at z;cases z;simp only[rA,a6,beq_iff_eq]at q;have⟨⟨C,m⟩,_⟩:=q;have⟨k3,k4⟩:=c.az x (bR hx);rw[C,x8 m];grind
 have k:∀t∈l,t.n.aj=14/\dU t=true:=by
  intro t B
  have r:er t∈bp l:=by grind[sI,List.mem_map_of_mem]
  rw[R,sI]at r;have⟨u,W,O⟩:=yE.1 r;have⟨b,C,m⟩:=c.aJ u W;rw[O]at m
  have s:wM t:=by
   have:∀l:List T,mg l->t∈l->wM t:=by
    intro l
    induction l with
    |nil=>simp
    |cons v l ih =>
     grind[mg,wM]
   grind
  refine⟨?_,KZ t (by rw[m];exact S.uY b C) s⟩;have:=congrArg (fun x=>x.n.aj) m;simp only[w6]at this;exact this
 refine⟨?_,?_,G,gE.mono H fun f t o B _=>⟨(e f o).1,(e f o).2,(k t B).1,(k t B).2⟩,J,hn⟩
 ·rw[x8 s1];exact c.aw
 ·rw[fL];intro a Q;have⟨b,w,q⟩:=Hu s2 Q;have r:=fL.1 c.aq b w;simp only[yM,a6,beq_iff_eq]at q
  grind[la]
section
variable{C:Type}
def cM(f:C->Nat):List C->Nat
 |[]=>0
 |x::l=>f x+cM f l
theorem rj(f:C->Nat)(a b:List C):cM f (a++b)=cM f a+cM f b:=by
 induction a with
 |nil=>simp[cM]
 |cons x a q=>grind[cM]
theorem TO{f g:C->Nat}{l:List C}(h:∀x∈l,f x<=g x):cM f l<=cM g l:=by
 induction l with
 |nil=>simp[cM]
 |cons x l q =>
  grind[cM]
theorem rm{f:C->Nat}{l:List C}{x:C}(h:x∈l):f x<=cM f l:=by
 induction l with
 |nil=>cases h
 |cons y l q =>
  grind[cM]
theorem rl{f g:C->Nat}{k:Nat}{l:List C}(h:∀x∈l,f x<=k*g x):cM f l<=k*cM g l:=by
 induction l with
 |nil=>simp[cM]
 |cons x l q =>
  grind[mem_cons_self,ey,Nat.mul_add,cM]
theorem tL(f:C->Nat)(l:List C)(h:∀x∈l,1<=f x):l.length<=cM f l:=by
 induction l with
 |nil=>simp
 |cons x l q =>
  grind[cM]
end
def FG{C β:Type}(f:C->Nat)(g:β->Nat):∀(a:List C)(b:List β),cM (fun x:C × β=>f x.1+g x.2) (a.zip b)<=cM f a+cM g b
 |[],b=>by simp[cM]
 |x::a,[]=>by simp[cM]
 |x::a,y::b=>by
  have:=FG f g a b
  grind[zip_cons_cons,cM]
theorem DZ{C:Type}(f:C->ai):∀(l:List C)(q:ai),(ez f q l).length=q.length+cM (fun x=>(f x).length) l
 |[],q=>by rfl
 |x::l,q=>by rw[ez,DZ f l,bl,cM];omega
def so(n:Nd):Nat:=n.s.length+60
mutual
def WY:∀(t:T)(a:Nat),lF t=cM so (jA a t)
 |.mk n l,a=>by rw[lF,jA,cM,yD l (a+1),so]
def yD:∀(l:List T)(a:Nat),jb l=cM so (en a l)
 |[],a=>rfl
 |t::r,a=>by rw[jb,en,rj,WY t a,yD r (a+bg t)]
end
def wi(l:List T)(i:Nat):Nat:=match l[i]? with|some t=>lF t|none=>0
def aaL(l:List T):wi l 0+wi l 1+wi l 2<=jb l:=by
 match l with
 |[]=>simp[wi]
 |[a]=>simp[wi,jb]
 |[a,b]=>simp[wi,jb]
 |a::b::c::r=>grind[wi,jb]
def HG{l:List T}{f:T->ai}(h:∀t∈l,(f t).length<=lF t)(i:Nat):((l.map f).getD i []).length<=wi l i:=by
 grind[wi]
def I1{l:List T}{t:T}(h:t∈l):bg t<=aZ l:=by
 induction l with
 |nil=>cases h
 |cons a l q =>
  grind[bg,aZ]
def IZ{f:T->ai}:∀{l:List T},(∀t∈l,(f t).length+4<=lF t)->lp (l.map f)<=jb l
 |[],_=>bj _
 |t::l,h=>by
  have z:=h t mem_cons_self
  have v:=IZ (l:=l) fun y m=>h y (ey _ m)
  rw[List.map_cons,lp,jb];omega
def WB:∀(N:Nat)(t:T),bg t<=N->r9 t->∀d,(ln dW ia d t).length+4<=lF t/\(nT dW ia d t).length<=lF t:=by
 intro N
 induction N with
 |zero=>grind[kY]
 |succ N q =>
  intro t u Q d;have R:=fP t;rw[ra]at Q
  have G:∀a∈t.au,∀d,(ln dW ia d a).length+4<=lF a/\(nT dW ia d a).length<=lF a:=fun a O d=>q a (by have:=I1 O;omega) (kT Q.2 O) d
  have hx:=HG (l:=t.au) (f:=dW) (fun a O=>by have:=vI (bg a) a (a8 _) (kT Q.2 O);omega);have r:=HG (l:=t.au) (f:=nT dW ia d) (fun a O=>(G a O d).2);have I:=aaL t.au;have j:=pC t;have W:=vI (bg t) t (a8 _) ((ra t).2 Q);have S:=hx 0;have J:=hx 1;have i:=r 1;have b:=r 2;constructor
  ·rw[NG,G7];unfold zb
   grind[bl,length_cons,length_nil]
  ·rw[K9,IX]
   have:=IZ (f:=ln dW ia (d+1)) (l:=t.au) fun a O=>(G a O (d+1)).1
   have e:∀l:List ai,(ia l d).length=3+lp l:=fun l=>by
    grind[bl,sZ,length_cons,length_nil,ia,lp]
   grind
def wS(l:List ai):Nat:=cM (fun s=>s.length+1) l
def dE(p:Src):Nat:=wS p.aw+cM (fun a:Ar=>a.name.length+1) p.aq+cM (fun f:Fn=>f.name.length+wS f.params+1) p.az+cM (fun n:Nd=>n.s.length+n.au.length+1) p.ak
structure mA(p:Src):Prop where
 aq:∀a∈p.aq,-9223372036854775808<=a.size/\a.size<=9223372036854775807
 ak:∀n∈p.ak,-9223372036854775808<=n.n/\n.n<=9223372036854775807
mutual
def ek.num{ak:List Nd}(h:∀n∈ak,-9223372036854775808<=n.n/\n.n<=9223372036854775807):∀(t:T)(a:Nat),ek ak a t->r9 t
 |.mk n l,a,o=>by
  rw[ek]at o;rw[r9];exact⟨h n (bR o.1),dS.num h l _ o.2.2⟩
def dS.num{ak:List Nd}(h:∀n∈ak,-9223372036854775808<=n.n/\n.n<=9223372036854775807):∀(l:List T)(a:Nat),dS ak a l->rz l
 |[],a,_=>trivial
 |t::r,a,o=>by
  rw[dS]at o;rw[rz];exact⟨ek.num h t a o.1,dS.num h r _ o.2⟩
end
def Qi(l:List ai):(l.map fun y=>y.length+2).sum=cM (fun s=>s.length+2) l:=by
 induction l with
 |nil=>rfl
 |cons s l q=>grind[cM]
def FY(l:List T):jb l=cM lF l:=by
 induction l with
 |nil=>rfl
 |cons t l q=>rw[jb,cM,q]
def SZ{p:Src}{l:List T}(hn:mA p)(o:dS p.ak 0 l)(E:aZ l=p.ak.length):(nO dW ia p l).length<=100*dE p:=by
 have W:=dS.num hn.ak l 0 o
 have F:cM (fun s=>(g1 s).length) p.aw<=100*wS p.aw:=rl fun s _=>by grind[bl,length_cons,length_nil,g1]
 have q:cM (fun a=>(a1 a).length) p.aq<=100*cM (fun a:Ar=>a.name.length+1) p.aq:=rl fun a O=>by
  have:=xp (hn.aq a O)
  grind[a1]
 have G:cM (fun x=>(dV dW ia x).length) (p.az.zip l)<=cM (fun x:Fn × T=>(fun f:Fn=>100*(f.name.length+wS f.params+1)) x.1+lF x.2) (p.az.zip l):=TO fun x hx=>by
  have z:=(WB (bg x.2) x.2 (a8 _) (kT W (List.of_mem_zip hx).2) 0).2;have v:=zz x.1.params;rw[Qi]at v
  have J:cM (fun s=>s.length+2) x.1.params<=2*wS x.1.params:=rl fun s _=>by omega
  simp only[dV,bl,length_cons,length_nil];omega
 have i:=FG (fun f:Fn=>100*(f.name.length+wS f.params+1)) lF p.az l
 have d:cM (fun f:Fn=>100*(f.name.length+wS f.params+1)) p.az<=100*cM (fun f:Fn=>f.name.length+wS f.params+1) p.az:=rl fun f _=>a8 _
 have B:cM so p.ak<=100*cM (fun n:Nd=>n.s.length+n.au.length+1) p.ak:=rl fun n _=>by grind[so]
 have I:cM lF l=cM so p.ak:=by rw[<-FY,yD l 0,<-dS.all o E]
 unfold nO dE
 grind[DZ,length_nil,ju]
def FO{p:Src}{l:List T}(o:dS p.ak 0 l)(E:aZ l=p.ak.length):∀t∈l,lF t<=100*dE p/\bg t<=dE p:=fun t H=>by
 have B:cM so p.ak<=100*cM (fun n:Nd=>n.s.length+n.au.length+1) p.ak:=rl fun n _=>by grind[so]
 have I:cM lF l=cM so p.ak:=by rw[<-FY,yD l 0,<-dS.all o E]
 have u:=rm (f:=lF) H;have c:=I1 H
 have F:=tL (fun n:Nd=>n.s.length+n.au.length+1) p.ak fun n _=>by omega
 grind[dE]
theorem N0(l:List ai):l.length<=wS l:=tL _ l fun s _=>by omega
def N1{l:List ai}{s:ai}(h:s∈l):s.length+1<=wS l:=rm (f:=fun s:ai=>s.length+1) h
structure Small(p:Src)(n:Nat):Prop where
 aw:p.aw.length<=n/\∀s∈p.aw,s.length<=n
 aq:p.aq.length<=n/\∀a∈p.aq,a.name.length<=n
 az:p.az.length<=n/\∀f∈p.az,f.name.length<=n/\f.params.length<=n/\∀s∈f.params,s.length<=n
 ak:p.ak.length<=n/\∀x∈p.ak,x.s.length<=n/\x.au.length<=n
def iR(p:Src):Small p (dE p):=by
 have a1:=N0 p.aw
 have H:=tL (fun a:Ar=>a.name.length+1) p.aq fun a _=>by omega
 have q:=tL (fun f:Fn=>f.name.length+wS f.params+1) p.az fun a _=>by omega
 have m:=tL (fun n:Nd=>n.s.length+n.au.length+1) p.ak fun a _=>by omega
 unfold dE;refine⟨⟨by omega,fun s o=>?_⟩,⟨by omega,fun a O=>?_⟩,⟨by omega,fun f t=>?_⟩,⟨by omega,fun n Q=>?_⟩⟩
 ·have:=N1 o;omega
 ·grind[rm]
 ·have:=rm (f:=fun f:Fn=>f.name.length+wS f.params+1) t;refine⟨by omega,by grind[N0],fun s o=>by have:=N1 o;omega⟩
 grind[rm]
structure zf(st:PS)(n:Nat):Prop where
 aw:st.aw.length<=n
 aq:st.aq.length<=n
 az:st.az.length<=n
 params:∀x∈st.az,x.2.length<=n
def Mt:∀(f:Nat)(r:List ai)(p:RS)(l:List ai)(q:RS),px f r p=some (l,q)->l.length<=r.length+f
 |0,_,_,_,_,h=>by cases h
 |f+1,r,p,l,q,h=>by
  rw[px]at h;split at h
  ·have:=Mt f _ _ l q h
   grind
  grind
theorem zf.up{st:PS}{n:Nat}(h:zf st n):zf st (n+1):=by
 have⟨a,b,c,d⟩:=h;exact ze8
def XP{f n:Nat}{p q:RS}{st o:PS}(hf:f<=n)(h:iW f p st=some (q,o))(s:zf st n):zf o (n+1):=by
 have e:=s.up;have⟨a,b,c,d⟩:=s;unfold iW at h;split at h
 ·split at h
  ·split at h
   ·cases h;exact ze9
   grind
  ·cases h;exact ze9
 ·split at h
  ·cases N:px f [] (want (bZ p.next) [40])with
   |none=>grind
   |some r =>
    have⟨l,t⟩:=r;rw[N]at h;simp only at h;have W:=Mt _ _ _ _ _ N;split at h
    ·split at h
     ·cases h
     ·cases h;refine⟨by grind,by grind,by grind,fun x hx=>?_⟩
      grind
    grind
  grind
def Mv{f:Nat}:∀(G n:Nat)(p q:RS)(st o:PS),f<=n->nU G f p st=some (q,o)->zf st n->zf o (n+G)
 |0,n,p,q,st,o,_,h,_=>by cases h
 |G+1,n,p,q,st,o,t,h,s=>by
  rw[nU]at h;split at h
  ·cases e:iW f p st with
   |none=>grind
   |some r =>
    have⟨u,M⟩:=r;rw[e]at h;simp only at h;have:=Mv G (n+1) u q M o aK h (XP t e s)
    grind
  ·cases h;have⟨a,b,c,d⟩:=s;exact ze8
mutual
def O6:∀(t:T)(a:Nat),∀n∈jA a t,n.au.length<=bg t
 |.mk m l,a,n,h=>by
  rw[jA]at h;rw[bg]
  rcases nj h with rfl|h
  ·grind[ec,fH]
  ·have:=zp l (a+1) n h;omega
def zp:∀(l:List T)(a:Nat),∀n∈en a l,n.au.length<=aZ l
 |[],a,n,h=>by grind[en]
 |t::r,a,n,h=>by
  rw[en]at h;rw[aZ]
  rcases sb h with h|h
  ·have:=O6 t a n h;omega
  ·have:=zp r _ n h;omega
end
end Go.Im
namespace Go.Sp
open Go.Xp
structure DH(p:Src)(ls:List (List S)):Prop where
 len:ls.length=p.az.length
 at_:∀(i:Nat)f l,p.az[i]?=some f->ls[i]?=some l->0<=f.body/\S.dv l=true/\wt (cx l)<=1000000000/\∃t,sub p.ak (fN p.ak) f.body.toNat=some t/\er t=cx l
def Tk(a:E)(S:a.ok=true):(a.bT).length+4<=wt a.tree:=(E.len a S).1
def Sg{l:List S}(b:S.dv l=true)(m:wt (cx l)<=1000000000) :
  ∃ts t q f,Go.Sp.ic (iy E.bT l)=some ts/\(iy E.bT l).length<=1000000000/\ts.length<=1000000000/\1+f<=1099511627776/\mS f (.block 1) ⟨ts,0,(iy E.bT l).length,0,0⟩=some (t,q)/\q.l=ts/\((q.code=0/\q.i=ts.length/\gh l 1=true)\/(q.code≠0/\gh l 1=false)):=by
 have u:=sF E.bT Tk b;generalize hx:iy E.bT l=x at *;have⟨ts,z,v⟩:=(Ik b).all;rw[hx]at v;have I:=v.len;have c:On ⟨ts,0,x.length,0,0⟩ ts:=⟨rfl,bj _,rfl,v.kinds⟩;have B:rs (x.length:Int) (nG ts) (.block 1) ts≠.error bC:=vN;have⟨t,q,k,F⟩:=(js (nG ts)).block 1 ts _ c B;have J:=DX (e:=(x.length:Int)) (d:=1) (rest:=[]) b z;rw[gw]at J
 change iu _ q t (block (x.length:Int) 1 ts)at F
 refine⟨ts,t,q,KF (nG ts),v.all,by omega,by omega,by unfold KF nG;omega,k _ (a8 _),?_⟩
 cases s:gh l 1 with
 |true =>
  have⟨Q,_,H⟩:=J.1 s;rw[H]at F;have⟨_,W,O,_⟩:=F;have O:q.l=ts:=O;refine⟨O,.inl ⟨W.code,?_,rfl⟩⟩;have j:=congrArg List.length W.rest;have T:=W.le;rw[n2]at j;rw[O]at j T;simp only[length_nil]at j;omega
 |false =>
  have⟨r,H⟩:=J.2 s;rw[H]at F;exact⟨F.2.2.2.1,.inr ⟨cD.err F,rfl⟩⟩
end Go.Sp
namespace Go.Im
open Go.Xp Go.Sp
def Kk(p:Src)(x:ai):Bool:=match pS x (x.length+1) 0 []with
 |none=>false
 |some (Q,c,z)=>if c≠0 then false else match nU (Q.length+1) (40*Q.length+100) ⟨Q,0,(x.length:Int),0,0⟩ .empty with
  |none=>false
  |some (q,st)=>if q.code≠0 then false else if aZ st.aJ>800 then false else same p st
def fI(p:Src):Bool:=if p.ak.length>800 then false else match lb p.ak p.az 0 []with
 |none=>false
 |some (l,e)=>if e≠p.ak.length then false else if l.all gJ=false then false else Kk p (nO dW ia p l)
section
variable{p:Src}
theorem zL{x:ai}{ts:List Tok}{c z:Int}{q:RS}{st:PS}(h:Reads x ts c z q st):Kk p x=if c≠0 then false else if q.code≠0 then false else if aZ st.aJ>800 then false else same p st:=by
 unfold Kk;rw[h.lex];simp only;rw[h.read]
theorem ZG{l:List T}{ls:List (List S)}(h:iv p l)(hf:Forms l ls):fI p=ls.all fun b=>gh b 1:=by
 unfold fI;have O:=h.few;rw[ab aK,h.G8];simp only;rw[ab zfm,ab (by rw[h.k];decide)];have⟨Q,c,z,q,st,i⟩:=reads (nO dW ia p l);have⟨A,v,I⟩:=Kw h hf i
 grind[zL]
theorem uc(h:fI p=true):∃l,iv p l:=by
 unfold fI at h
 by_cases O:p.ak.length>800
 ·grind
 rw[ab O]at h
 cases r:lb p.ak p.az 0 []with
 |none=>grind
 |some y =>
  have⟨l,e⟩:=y;rw[r]at h;simp only at h
  by_cases j:e=p.ak.length
  ·subst j;rw[ab zfm]at h
   by_cases G:l.all gJ=false
   ·grind
   rw[ab G]at h;have⟨Q,c,z,q,st,i⟩:=reads (nO dW ia p l);rw[zL i]at h;split at h
   ·cases h
   split at h
   ·cases h
   ·rename_i o;split at h
    ·cases h
    ·exact⟨l,Kl aK r (i.ok aK).1 h⟩
  grind
def ZF(h:oX p=some false):fI p=false:=by
 cases s:fI p with
 |false=>rfl
 |true =>
  have⟨l,z⟩:=uc s;rw[z.oX]at h;cases h
end
def dS.ix{ak:List Nd}:∀(l:List T)(a i:Nat)(t:T),dS ak a l->l[i]?=some t->ek ak (a+aZ (l.take i)) t
 |[],a,i,t,_,h=>by simp at h
 |u::r,a,0,t,h,M=>by
  grind[dS,ek,aZ]
 |u::r,a,i+1,t,h,M=>by
  rw[dS]at h;have:=dS.ix r (a+bg u) i t h.2 (by simpa using M);rw[List.take_succ_cons,aZ,<-nE];exact this
mutual
def Ol:∀t:T,wt t<=lF t
 |.mk n l=>by have:=FZ l;rw[wt,lF];omega
def FZ:∀l:List T,gq l<=jb l
 |[]=>a8 _
 |t::r=>by have:=Ol t;have:=FZ r;rw[gq,jb];omega
end
def Lb{p:Src}{l:List T}{ls:List (List S)}(h:iv p l)(hf:Forms l ls)(e:dE p<=1048576):DH p ls:=by
 have d:=gE.len h.az;refine⟨by rw[hf.len];omega,fun i f b z v=>?_⟩;have M:=(bG v).1;have s:=hf.len
 have H:l[i]?=some (l[i]'aK):=by simp
 have⟨I,c⟩:=hf.at_ i _ b H v;have⟨F,J⟩:=gE.at_ h.az i f _ z H;have W:=dS.ix l 0 i _ h.st H;rw[gW]at F W;have N:=bR H;have O:=FO h.st h.len _ N;have B:=Ol (l[i]'aK);have G:=ek.le _ _ W;refine⟨by omega,I,by grind[RX],_,?_,c⟩;rw[F,eV];exact(vF _).1 _ _ W zfL
end Go.Im
namespace Go.Mn
open Go.Xp (ai)
inductive R where
 |num (n:Int)
 |loc (k:Nat)
 |glob (k:Nat)
 |at_ (k:Nat) (i:R)
 |size (n:Int)
 |get
 |put (a:R)
 |call (f:Nat) (l:List R)
 |un (o:ai) (a:R)
 |bin (o:ai) (a b:R)
 |and_ (a b:R)
 |or_ (a b:R)
 |setL (k:Nat) (a:R)
 |setG (k:Nat) (a:R)
 |putA (k:Nat) (i v:R)
 |if1 (c t:R)
 |if2 (c t e:R)
 |while_ (c b:R)
 |ret (a:R)
 |do_ (a:R)
 |block (l:List R)
structure M where
 inp:List Int
 out:List Int
 bF:List Int
 cells:List (List Int)
 ay:Nat
 fin:Int
 why:Int
 aY:Nat
 locs:List Int
 left:Bool
 gT:Int
def M.over(s:M):Bool:=s.fin != 0 ||s.left
def M.stop(s:M)(c w:Int):M:={ s with fin:=c,why:=w }
structure Op where
 un:ai->Int->Int
 bin:ai->Int->Int->Int × Int
 wr:Int->Int
 pl:Int->Int
def jc{C β:Type}(x:Option (C × M))(k:C->M->Option (β × M)):Option (β × M):=match x with
 |none=>none
 |some (v,s)=>k v s
def row(s:M)(k:Nat):List Int:=s.cells.getD k []
def nV(l:List Int)(n:Int):Bool:=decide (0<=n)&&decide (n<(l.length:Int))
def nP(s:M)(k:Nat)(n:Int)(v:Int):M:={ s with cells:=s.cells.set k ((row s k).set n.toNat v) }
def M.enter(s:M)(args:List Int):M:={ s with aY:=s.aY+1,locs:=args++List.replicate 40 0,left:=false,gT:=0 }
def M.leave(s t:M):M:={ t with aY:=t.aY-1,locs:=s.locs,left:=s.left,gT:=s.gT }
section
variable(O:Op)(F:Nat)(B:Nat->R)
mutual
def ev:Nat->R->M->Option (Int × M)
 |0,_,_=>none
 |g+1,r,s=>if F<=s.ay then some (0,s.stop 3 0)else bB g r { s with ay:=s.ay+1 }
def bB:Nat->R->M->Option (Int × M)
 |0,_,_=>none
 |g+1,r,s=>match r with
  |.num n=>some (n,s)
  |.loc k=>some (s.locs.getD k 0,s)
  |.glob k=>some (s.bF.getD k 0,s)
  |.at_ k i=>jc (ev g i s) fun n s=>if s.over then some (0,s)else if nV (row s k) n then some ((row s k).getD n.toNat 0,s)else some (0,s.stop 2 6)
  |.size n=>some (n,s)
  |.get=>match s.inp with
   |[]=>some (-1,s)
   |a::r=>some (O.wr a,{ s with inp:=r })
  |.put a=>jc (ev g a s) fun n s=>if s.over then some (0,s)else some (0,{ s with out:=s.out++[O.pl n] })
  |.call f l=>jc (kb g l [] s) fun args s=>if s.over then some (0,s)else if 100<=s.aY then some (0,s.stop 5 0)else jc (ev g (B f) (s.enter args)) fun _ t=>some (t.gT,s.leave t)
  |.un o a=>jc (ev g a s) fun n s=>some (O.un o n,s)
  |.bin o a b=>jc (ev g a s) fun n s=>if s.over then some (0,s)else jc (ev g b s) fun m s=>if s.over then some (0,s)else if(O.bin o n m).2≠0 then some (0,s.stop 2 (O.bin o n m).2)else some ((O.bin o n m).1,s)
  |.and_ a b=>jc (ev g a s) fun n s=>if s.over then some (0,s)else if n=0 then some (0,s)else jc (ev g b s) fun m s=>if s.over then some (0,s)else some (if m=0 then 0 else 1,s)
  |.or_ a b=>jc (ev g a s) fun n s=>if s.over then some (0,s)else if n≠0 then some (1,s)else jc (ev g b s) fun m s=>if s.over then some (0,s)else some (if m=0 then 0 else 1,s)
  |.setL k a=>jc (ev g a s) fun n s=>if s.over then some (0,s)else some (0,{ s with locs:=s.locs.set k n })
  |.setG k a=>jc (ev g a s) fun n s=>if s.over then some (0,s)else some (0,{ s with bF:=s.bF.set k n })
  |.putA k i v=>jc (ev g i s) fun n s=>if s.over then some (0,s)else if nV (row s k) n then jc (ev g v s) fun m s=>if s.over then some (0,s)else some (0,nP s k n m)else some (0,s.stop 2 6)
  |.if1 c t=>jc (ev g c s) fun n s=>if s.over then some (0,s)else if n≠0 then jc (ev g t s) fun _ s=>some (0,s)else some (0,s)
  |.if2 c t e=>jc (ev g c s) fun n s=>if s.over then some (0,s)else if n≠0 then jc (ev g t s) fun _ s=>some (0,s)else jc (ev g e s) fun _ s=>some (0,s)
  |.while_ c b=>jc (lW g c b s) fun _ s=>some (0,s)
  |.ret a=>jc (ev g a s) fun n s=>if s.over then some (0,s)else some (0,{ s with left:=true,gT:=n })
  |.do_ a=>jc (ev g a s) fun _ s=>some (0,s)
  |.block l=>jc (jz g l s) fun _ s=>some (0,s)
def kb:Nat->List R->List Int->M->Option (List Int × M)
 |0,_,_,_=>none
 |g+1,l,q,s=>match l with
  |[]=>some (q,s)
  |r::l=>jc (ev g r s) fun n s=>if s.over then some (q++[n],s)else kb g l (q++[n]) s
def jz:Nat->List R->M->Option (Unit × M)
 |0,_,_=>none
 |g+1,l,s=>match l with
  |[]=>some ((),s)
  |r::l=>jc (ev g r s) fun _ s=>if s.over then some ((),s)else jz g l s
def lW:Nat->R->R->M->Option (Unit × M)
 |0,_,_,_=>none
 |g+1,c,b,s=>jc (ev g c s) fun n s=>if s.over then some ((),s)else if n=0 then some ((),s)else jc (ev g b s) fun _ s=>if s.over then some ((),s)else lW g c b s
end
end
def br{C β:Type}{x:Option (C × M)}{k:C->M->Option (β × M)}{y:β × M}(h:jc x k=some y):∃v s,x=some (v,s)/\k v s=some y:=by
 unfold jc at h
 grind
theorem gH{C β:Type}{x l:Option (C × M)}{k k':C->M->Option (β × M)}(hx:∀p,x=some p->l=some p)(G:∀v s p,k v s=some p->k' v s=some p){y:β × M}(h:jc x k=some y):jc l k'=some y:=by
 have⟨v,s,z,w⟩:=br h
 grind[jc]
def kA{C:Type}{c:Prop}[Decidable c]{a b d j:Option C}{y:C}(ha:a=some y->d=some y)(r:b=some y->j=some y)(h:(if c then a else b)=some y):(if c then d else j)=some y:=by
 grind
section
variable{O:Op}{F:Nat}{B:Nat->R}
theorem Hz:∀g:Nat,(∀r s y,ev O F B g r s=some y->ev O F B (g+1) r s=some y)/\(∀r s y,bB O F B g r s=some y->bB O F B (g+1) r s=some y)/\(∀l q s y,kb O F B g l q s=some y->kb O F B (g+1) l q s=some y)/\(∀l s y,jz O F B g l s=some y->jz O F B (g+1) l s=some y)/\(∀c b s y,lW O F B g c b s=some y->lW O F B (g+1) c b s=some y)
 |0=>⟨fun r s y h=>zfT,fun r s y h=>zfU,fun l q s y h=>zfV,fun l s y h=>(by grind[jz]),fun c b s y h=>(by grind[lW])⟩
 |g+1=>by
  have⟨z,v,I,d,G⟩:=Hz g;refine⟨fun r s y h=>?_,fun r s y h=>?_,fun l q s y h=>?_,fun l s y h=>?_,fun c b s y h=>?_⟩
  ·grind[ev]
  ·cases r<;>simp only[bB]at h |-<;>first
    |exact h
    |exact gH (z _ _) (fun _ _ _=>id) h
    |exact gH (G _ _ _) (fun _ _ _=>id) h
    |exact gH (d _ _) (fun _ _ _=>id) h
    |exact gH (z _ _) (fun _ _ _=>kA id (gH (z _ _) fun _ _ _=>id)) h
    |exact gH (z _ _) (fun _ _ _=>kA id (kA id (gH (z _ _) fun _ _ _=>id))) h
    |exact gH (z _ _) (fun _ _ _=>kA id (kA (gH (z _ _) fun _ _ _=>id) id)) h
    |exact gH (z _ _) (fun _ _ _=>kA id (kA (gH (z _ _) fun _ _ _=>id) (gH (z _ _) fun _ _ _=>id))) h
    |grind[gH]
  ·cases l<;>simp only[kb]at h |-
   ·exact h
   ·exact gH (z _ _) (fun _ _ _=>kA id (I _ _ _ _)) h
  ·cases l<;>simp only[jz]at h |-
   ·exact h
   ·exact gH (z _ _) (fun _ _ _=>kA id (d _ _ _)) h
  ·simp only[lW]at h |-;exact gH (z _ _) (fun _ _ _=>kA id (kA id (gH (z _ _) fun _ _ _=>kA id (G _ _ _ _)))) h
end
section
variable{O:Op}{F:Nat}{B:Nat->R}
def eW{C β:Type}{x:Option (C × M)}{k:C->M->Option (β × M)}{P:M->Prop}{Q:M->Prop}(hx:∃v t,x=some (v,t)/\P t)(G:∀v t,P t->∃y u,k v t=some (y,u)/\Q u):∃y u,jc x k=some (y,u)/\Q u:=by
 obtain⟨v,t,rfl,h⟩:=hx;exact G v t h
theorem eH{C:Type}{c:Prop}[Decidable c]{a b:Option (C × M)}{Q:M->Prop}(ha:c->∃y u,a=some (y,u)/\Q u)(r:¬c->∃y u,b=some (y,u)/\Q u):∃y u,(if c then a else b)=some (y,u)/\Q u:=by
 split
 ·grind
 grind
structure Um(O:Op)(F:Nat)(B:Nat->R)(n:Nat):Prop where
 e:∀g r s,F<=s.ay+n->3*n+1<=g->∃v t,ev O F B g r s=some (v,t)/\s.ay<=t.ay/\(s.ay<t.ay/\s.ay<F\/t.over=true)
 a:∀g l acc s,F<=s.ay+n->3*n+2<=g->∃v t,kb O F B g l acc s=some (v,t)/\s.ay<=t.ay
 b:∀g l s,F<=s.ay+n->3*n+2<=g->∃v t,jz O F B g l s=some (v,t)/\s.ay<=t.ay
 w:∀g c b s,F<=s.ay+n->3*n+2<=g->∃v t,lW O F B g c b s=some (v,t)/\s.ay<=t.ay
 g:∀g r s,F<=s.ay+n->3*n+3<=g->∃v t,bB O F B g r s=some (v,t)/\s.ay<=t.ay
theorem FM{n:Nat}(e:∀g r s,F<=s.ay+n->3*n+1<=g->∃v t,ev O F B g r s=some (v,t)/\s.ay<=t.ay/\(s.ay<t.ay/\s.ay<F\/t.over=true))
  (R:∀m,n=m+1->Um O F B m):Um O F B n:=by
 have Q:∀g l q s,F<=s.ay+n->3*n+2<=g->∃v t,kb O F B g l q s=some (v,t)/\s.ay<=t.ay:=by
  intro g l q s z N;obtain⟨g,rfl⟩:∃A,g=A+1:=⟨g-1,by omega⟩
  cases l with
  |nil=>exact⟨q,s,by rw[kb],a8 _⟩
  |cons r l =>
   rw[kb]
   refine eW (e g r s z aK) fun v t H=>eH (fun h=>⟨_,_,rfl,H.1⟩) fun h=>?_
   rcases H.2 with C|C
   ·obtain⟨m,rfl⟩:∃m,n=m+1:=⟨n-1,by omega⟩;have⟨y,u,G,I⟩:=(R m rfl).a g l (q++[v]) t aK aK
    grind
   grind
 have S:∀g l s,F<=s.ay+n->3*n+2<=g->∃v t,jz O F B g l s=some (v,t)/\s.ay<=t.ay:=by
  intro g l s z N;obtain⟨g,rfl⟩:∃A,g=A+1:=⟨g-1,by omega⟩
  cases l with
  |nil=>simp[jz,M.ay]
  |cons r l =>
   rw[jz]
   refine eW (e g r s z aK) fun v t H=>eH (fun h=>⟨_,_,rfl,H.1⟩) fun h=>?_
   rcases H.2 with C|C
   ·obtain⟨m,rfl⟩:∃m,n=m+1:=⟨n-1,by omega⟩;have⟨y,u,G,I⟩:=(R m rfl).b g l t aK aK
    grind
   grind
 have j:∀g c b s,F<=s.ay+n->3*n+2<=g->∃v t,lW O F B g c b s=some (v,t)/\s.ay<=t.ay:=by
  intro g c b s z N;obtain⟨g,rfl⟩:∃A,g=A+1:=⟨g-1,by omega⟩;rw[lW]
  refine eW (e g c s z aK) fun v t H=>eH (fun h=>⟨_,_,rfl,H.1⟩) fun h=>eH (fun _=>⟨_,_,rfl,H.1⟩) fun _=>?_
  rcases H.2 with C|C
  ·refine eW (P:=fun u=>t.ay<=u.ay) (by
    obtain⟨v,u,G,I,-⟩:=e g b t aK aK
    grind) fun v u W=>eH (fun h=>⟨_,_,rfl,by omega⟩) fun _=>?_
   obtain⟨m,rfl⟩:∃m,n=m+1:=⟨n-1,by omega⟩;have⟨y,x,G,I⟩:=(R m rfl).w g c b u aK aK
   grind
  grind
 refine⟨e,Q,S,j,fun g r s z N=>?_⟩;obtain⟨g,rfl⟩:∃A,g=A+1:=⟨g-1,by omega⟩
 have E:∀r(t:M),s.ay<=t.ay->∃v u,ev O F B g r t=some (v,u)/\s.ay<=u.ay:=fun r t H=>by
  obtain⟨v,u,C,G,-⟩:=e g r t aK aK
  grind
 have J:=fun r=>E r s (a8 _)
 cases r with
 |num n=>exact zdZ
 |loc k=>exact zdZ
 |glob k=>exact zdZ
 |size n=>exact zdZ
 |get =>
  rw[bB]
  cases s.inp with
  |nil=>grind
  |cons a r=>grind
 |at_ k i =>
  rw[bB]
  exact eW (J i) fun v t H=>eH (fun _=>⟨_,_,rfl,H⟩) fun _=>eH (fun _=>⟨_,_,rfl,H⟩) fun _=>⟨_,_,rfl,H⟩
 |put a =>
  rw[bB]
  exact za8
 |call f l =>
  rw[bB]
  refine eW (Q g l [] s z aK) fun v t H=>eH (fun _=>⟨_,_,rfl,H⟩) fun _=>eH (fun _=>⟨_,_,rfl,H⟩) fun _=>?_
  exact eW (E (B f) (t.enter v) H) fun _ u W=>⟨_,_,rfl,W⟩
 |un o a =>
  rw[bB]
  exact eW (J a) fun v t H=>⟨_,_,rfl,H⟩
 |bin o a b =>
  rw[bB]
  refine eW (J a) fun v t H=>eH (fun _=>⟨_,_,rfl,H⟩) fun _=>?_
  exact eW (E b t H) fun v t H=>eH (fun _=>⟨_,_,rfl,H⟩) fun _=>eH (fun _=>⟨_,_,rfl,H⟩) fun _=>⟨_,_,rfl,H⟩
 |and_ a b =>
  rw[bB]
  refine eW (J a) fun v t H=>eH (fun _=>⟨_,_,rfl,H⟩) fun _=>eH (fun _=>⟨_,_,rfl,H⟩) fun _=>?_
  exact zdK
 |or_ a b =>
  rw[bB]
  refine eW (J a) fun v t H=>eH (fun _=>⟨_,_,rfl,H⟩) fun _=>eH (fun _=>⟨_,_,rfl,H⟩) fun _=>?_
  exact zdK
 |setL k a =>
  rw[bB]
  exact za8
 |setG k a =>
  rw[bB]
  exact za8
 |putA k i v =>
  rw[bB]
  refine eW (J i) fun n t H=>eH (fun _=>⟨_,_,rfl,H⟩) fun _=>eH (fun _=>?_) fun _=>⟨_,_,rfl,H⟩
  exact eW (E v t H) fun v t H=>eH (fun _=>⟨_,_,rfl,H⟩) fun _=>⟨_,_,rfl,H⟩
 |if1 c b =>
  rw[bB]
  refine eW (J c) fun v t H=>eH (fun _=>⟨_,_,rfl,H⟩) fun _=>eH (fun _=>?_) fun _=>⟨_,_,rfl,H⟩
  exact eW (E b t H) fun v t H=>⟨_,_,rfl,H⟩
 |if2 c b T =>
  rw[bB]
  refine eW (J c) fun v t H=>eH (fun _=>⟨_,_,rfl,H⟩) fun _=>eH (fun _=>?_) fun _=>?_
  ·exact eW (E b t H) fun v t H=>⟨_,_,rfl,H⟩
  ·exact eW (E T t H) fun v t H=>⟨_,_,rfl,H⟩
 |while_ c b =>
  rw[bB]
  exact eW (j g c b s z aK) fun v t H=>⟨_,_,rfl,H⟩
 |ret a =>
  rw[bB]
  exact za8
 |do_ a =>
  rw[bB]
  exact eW (J a) fun v t H=>⟨_,_,rfl,H⟩
 |block l =>
  rw[bB]
  exact eW (S g l s z aK) fun v t H=>⟨_,_,rfl,H⟩
theorem Dc(s:M){c w:Int}(h:c≠0):(s.stop c w).over=true:=by
 grind[M.over,M.stop]
theorem WM:∀n,Um O F B n
 |0=>FM (fun g r s o G=>by
   obtain⟨g,rfl⟩:∃u,g=u+1:=⟨g-1,by omega⟩;rw[ev,ae aK]
   exact⟨_,_,rfl,a8 _,.inr (Dc s aE)⟩) fun m h=>by omega
 |n+1=>FM (fun g r s o G=>by
   obtain⟨g,rfl⟩:∃u,g=u+1:=⟨g-1,by omega⟩;rw[ev]
   by_cases h:F<=s.ay
   ·rw[ae h];exact⟨_,_,rfl,a8 _,.inr (Dc s aE)⟩
   ·rw[ab h];have⟨v,t,z,w⟩:=(WM n).g g r { s with ay:=s.ay+1 } zfk aK
    grind) fun m h=>by
   have:m=n:=by omega
   subst this;exact WM m
end
structure Js(F:Nat)(R:M->M->Prop):Prop where
 rfl:∀s,R s s
 trans:∀s t u,R s t->R t u->R s u
 stop:∀s c w,R s (s.stop c w)
 step:∀s,s.ay<F->R s { s with ay:=s.ay+1 }
 inp:∀(s:M)a r,s.inp=a::r->R s { s with inp:=r }
 out:∀(s:M)n,R s { s with out:=s.out++[n] }
 locs:∀(s:M)k n,R s { s with locs:=s.locs.set k n }
 bF:∀(s:M)k n,R s { s with bF:=s.bF.set k n }
 cells:∀(s:M)k n v,R s (nP s k n v)
 ret:∀(s:M)n,R s { s with left:=true,gT:=n }
 call:∀(s:M)args t,R (s.enter args) t->R s (s.leave t)
section
variable{O:Op}{F:Nat}{B:Nat->R}{Rl:M->M->Prop}
def da{C β:Type}{x:Option (C × M)}{k:C->M->Option (β × M)}{s:M}{y:β}{u:M}(m:Js F Rl)(hx:∀v t,x=some (v,t)->Rl s t)(G:∀v t y u,k v t=some (y,u)->Rl t u)(h:jc x k=some (y,u)):Rl s u:=by
 have⟨v,t,z,w⟩:=br h;exact m.trans _ _ _ (hx v t z) (G v t y u w)
theorem bK{C:Type}{c:Prop}[Decidable c]{a b:Option (C × M)}{s:M}{y:C}{u:M}(ha:a=some (y,u)->Rl s u)(r:b=some (y,u)->Rl s u)(h:(if c then a else b)=some (y,u)):Rl s u:=by
 grind
theorem aW{C:Type}{v y:C}{s t u:M}(o:Rl s t)(h:some (v,t)=some (y,u)):Rl s u:=by grind
theorem qc(m:Js F Rl):∀g:Nat,(∀r s v t,ev O F B g r s=some (v,t)->Rl s t)/\(∀r s v t,bB O F B g r s=some (v,t)->Rl s t)/\(∀l q s v t,kb O F B g l q s=some (v,t)->Rl s t)/\(∀l s v t,jz O F B g l s=some (v,t)->Rl s t)/\(∀c b s v t,lW O F B g c b s=some (v,t)->Rl s t)
 |0=>⟨fun r s v t h=>zfT,fun r s v t h=>zfU,fun l q s v t h=>zfV,fun l s v t h=>(by grind[jz]),fun c b s v t h=>(by grind[lW])⟩
 |g+1=>by
  have⟨A,C,I,d,G⟩:=qc m g;have z:=m.rfl;refine⟨fun r s v t h=>?_,fun r s v t h=>?_,fun l q s v t h=>?_,fun l s v t h=>?_,fun c b s v t h=>?_⟩
  ·rw[ev]at h;split at h
   ·exact aW (m.stop _ _ _) h
   ·rename_i H;exact m.trans _ _ _ (m.step s aK) (C _ _ _ _ h)
  ·have S:=fun(t:M)c w=>m.stop t c w
   cases r with
   |num n=>simp_all[bB,aW]
   |loc k=>simp_all[bB,aW]
   |glob k=>simp_all[bB,aW]
   |size n=>simp_all[bB,aW]
   |get =>
    simp only[bB]at h
    cases N:s.inp with
    |nil=>grind
    |cons a r=>rw[N]at h;exact aW (m.inp s a r N) h
   |at_ k i=>simp only[bB]at h;exact da m (A _ _) (fun v t y u=>bK (aW (z _)) (bK (aW (z _)) (aW (S _ _ _)))) h
   |put a=>simp only[bB]at h;exact da m (A _ _) (fun v t y u=>bK (aW (z _)) (aW (m.out _ _))) h
   |call f l =>
    simp only[bB]at h;refine da m (I _ _ _) (fun v t y u=>bK (aW (z _)) (bK (aW (S _ _ _)) fun h=>?_)) h;have⟨w,x,E,e⟩:=br h;cases e;exact m.call _ _ _ (A _ _ _ _ E)
   |un o a=>exact zeA
   |bin o a b=>simp only[bB]at h;exact da m (A _ _) (fun v t y u=>bK (aW (z _)) (da m (A _ _) (fun v t y u=>bK (aW (z _)) (bK (aW (S _ _ _)) (aW (z _)))))) h
   |and_ a b=>exact zb2
   |or_ a b=>exact zb2
   |setL k a=>simp only[bB]at h;exact da m (A _ _) (fun v t y u=>bK (aW (z _)) (aW (m.locs _ _ _))) h
   |setG k a=>simp only[bB]at h;exact da m (A _ _) (fun v t y u=>bK (aW (z _)) (aW (m.bF _ _ _))) h
   |putA k i v=>simp only[bB]at h;exact da m (A _ _) (fun v t y u=>bK (aW (z _)) (bK (da m (A _ _) (fun v t y u=>bK (aW (z _)) (aW (m.cells _ _ _ _)))) (aW (S _ _ _)))) h
   |if1 c b=>simp only[bB]at h;exact da m (A _ _) (fun v t y u=>bK (aW (z _)) (bK (da m (A _ _) (fun v t y u=>aW (z _))) (aW (z _)))) h
   |if2 c b T=>simp only[bB]at h;exact da m (A _ _) (fun v t y u=>bK (aW (z _)) (bK (da m (A _ _) (fun v t y u=>aW (z _))) (da m (A _ _) (fun v t y u=>aW (z _))))) h
   |while_ c b=>simp only[bB]at h;exact da m (G _ _ _) (fun v t y u=>aW (z _)) h
   |ret a=>simp only[bB]at h;exact da m (A _ _) (fun v t y u=>bK (aW (z _)) (aW (m.ret _ _))) h
   |do_ a=>exact zeA
   |block l=>simp only[bB]at h;exact da m (d _ _) (fun v t y u=>aW (z _)) h
  ·cases l with
   |nil=>simp_all[kb,aW]
   |cons r l=>simp only[kb]at h;exact da m (A _ _) (fun v t y u=>bK (aW (z _)) (I _ _ _ _ _)) h
  ·cases l with
   |nil=>simp_all[jz,aW]
   |cons r l=>simp only[jz]at h;exact da m (A _ _) (fun v t y u=>bK (aW (z _)) (d _ _ _ _)) h
  ·simp only[lW]at h;exact da m (A _ _) (fun v t y u=>bK (aW (z _)) (bK (aW (z _)) (da m (A _ _) (fun v t y u=>bK (aW (z _)) (G _ _ _ _ _))))) h
def mw(F:Nat)(s t:M):Prop:=s.out <+: t.out/\(s.ay<=F->t.ay<=F)
def HJ(F:Nat):Js F (mw F) where
 rfl s:=⟨prefix_refl _,id⟩
 trans s t u h k:=⟨h.1.trans k.1,fun x=>k.2 (h.2 x)⟩
 stop s c w:=⟨prefix_refl _,id⟩
 step s h:=⟨prefix_refl _,fun _=>h⟩
 inp s a r h:=⟨prefix_refl _,id⟩
 out s n:=⟨List.prefix_append _ _,id⟩
 locs s k n:=⟨prefix_refl _,id⟩
 bF s k n:=⟨prefix_refl _,id⟩
 cells s k n v:=⟨prefix_refl _,id⟩
 ret s n:=⟨prefix_refl _,id⟩
 call s args t h:=h
structure zW(s t:M):Prop where
 bF:t.bF.length=s.bF.length
 cells:t.cells.length=s.cells.length
 rows:∀k,(row t k).length=(row s k).length
 locs:t.locs.length=s.locs.length
 aY:t.aY=s.aY
theorem Tx(s:M)(k:Nat)(n v:Int)(j:Nat):(row (nP s k n v) j).length=(row s j).length:=by
 grind[row,nP]
def RH(F:Nat):Js F zW where
 rfl s:=⟨Eq.refl _,Eq.refl _,fun _=>Eq.refl _,Eq.refl _,Eq.refl _⟩
 trans s t u h k:=⟨k.bF.trans h.bF,k.cells.trans h.cells,fun j=>(k.rows j).trans (h.rows j),k.locs.trans h.locs,k.aY.trans h.aY⟩
 stop s c w:=⟨Eq.refl _,Eq.refl _,fun _=>Eq.refl _,Eq.refl _,Eq.refl _⟩
 step s h:=⟨Eq.refl _,Eq.refl _,fun _=>Eq.refl _,Eq.refl _,Eq.refl _⟩
 inp s a r h:=⟨Eq.refl _,Eq.refl _,fun _=>Eq.refl _,Eq.refl _,Eq.refl _⟩
 out s n:=⟨Eq.refl _,Eq.refl _,fun _=>Eq.refl _,Eq.refl _,Eq.refl _⟩
 locs s k n:=⟨Eq.refl _,Eq.refl _,fun _=>Eq.refl _,length_set,Eq.refl _⟩
 bF s k n:=⟨length_set,Eq.refl _,fun _=>Eq.refl _,Eq.refl _,Eq.refl _⟩
 cells s k n v:=⟨Eq.refl _,length_set,Tx s k n v,Eq.refl _,Eq.refl _⟩
 ret s n:=⟨Eq.refl _,Eq.refl _,fun _=>Eq.refl _,Eq.refl _,Eq.refl _⟩
 call s args t h:=⟨h.bF,h.cells,h.rows,Eq.refl _,by show t.aY-1=s.aY;rw[h.aY];rfl⟩
def k0(F:Nat){C:Type}(x k:Option (C × M)):Prop:=∀v t N Q,x=some (v,t)->k=some (N,Q)->(t.fin≠3/\v=N/\t=Q)\/(t.fin=3/\t.ay=F/\t.out <+: Q.out)
theorem ch{C:Type}{v:C}{s:M}(h:s.fin≠3):k0 F (some (v,s)) (some (v,s)):=fun _ _ _ _ z w=>by
 grind
theorem eb{C:Type}{c:Prop}[Decidable c]{a b d j:Option (C × M)}(ha:k0 F a d)(r:k0 F b j):k0 F (if c then a else b) (if c then d else j):=by
 grind
section
variable{C β:Type}
def Rest(k:C->M->Option (β × M)):Prop:=∀v t y u,t.fin=3->k v t=some (y,u)->u.fin=3/\u.ay=t.ay/\u.out=t.out
theorem oB(f:C->M->β):Rest (fun v t=>some (f v t,t)):=fun v t y u h w=>by grind
theorem eo(f:C->M->β)(k:C->M->Option (β × M)):Rest (fun v t=>if t.over then some (f v t,t)else k v t):=fun v t y u h w=>by
 simp_all[M.over,ae]
theorem ea{x l:Option (C × M)}{k k':C->M->Option (β × M)}(hx:k0 F x l)(T:∀v t,x=some (v,t)->t.ay<=F)(I:∀v t,t.fin≠3->t.ay<=F->k0 F (k v t) (k' v t))(j:Rest k)(hg:∀v t y u,k' v t=some (y,u)->t.out <+: u.out):k0 F (jc x k) (jc l k'):=fun v t N Q z w=>by
 have⟨a,s,G,n⟩:=br z;have⟨d,m,H,i⟩:=br w
 rcases hx a s d m G H with⟨h,rfl,rfl⟩|⟨h,J,c⟩
 ·exact I a s h (T _ _ G) v t N Q n i
 ·have⟨A,e,E⟩:=j a s v t h n
  grind
end
end
section
variable{O:Op}{F F':Nat}{B:Nat->R}
theorem LD(hF:F<=F'):∀g:Nat,(∀r s,s.fin≠3->s.ay<=F->k0 F (ev O F B g r s) (ev O F' B g r s))/\(∀r s,s.fin≠3->s.ay<=F->k0 F (bB O F B g r s) (bB O F' B g r s))/\(∀l G s,s.fin≠3->s.ay<=F->k0 F (kb O F B g l G s) (kb O F' B g l G s))/\(∀l s,s.fin≠3->s.ay<=F->k0 F (jz O F B g l s) (jz O F' B g l s))/\(∀c b s,s.fin≠3->s.ay<=F->k0 F (lW O F B g c b s) (lW O F' B g c b s))
 |0=>⟨fun r s _ _ v t I H h=>zfT,fun r s _ _ v t I H h=>zfU,fun l G s _ _ v t I H h=>zfV,fun l s _ _ v t I H h=>(by grind[jz]),fun c b s _ _ v t I H h=>(by grind[lW])⟩
 |g+1=>by
  have⟨z,h2,Q,R,S⟩:=LD hF g;have⟨l1,l2,l3,l4,l5⟩:=qc (O:=O) (B:=B) (HJ F) g;have⟨E,m2,m3,m4,T⟩:=qc (O:=O) (B:=B) (HJ F') g
  have q:∀r(s:M),s.ay<=F->∀v t,ev O F B g r s=some (v,t)->t.ay<=F:=fun r s m v t h=>(l1 r s v t h).2 m
  have P:=HJ F';have j:=P.rfl
  have G1:∀r(t:M)v u,ev O F' B g r t=some (v,u)->t.out <+: u.out:=fun r t v u h=>(E r t v u h).1
  refine⟨fun r s A m=>?_,fun r s A m=>?_,fun l G s A m=>?_,fun l s A m=>?_,fun c b s A m=>?_⟩
  ·by_cases hf:F<=s.ay
   ·intro v t I H N W;rw[ev,ae hf]at N;cases N;refine .inr ⟨rfl,by grind[M.stop],?_⟩;have:=(qc (O:=O) (B:=B) (HJ F') (g+1)).1 r s I H W;exact this.1
   grind[k0,ev]
  ·cases r with
   |num n=>grind[k0,bB]
   |loc k=>grind[k0,bB]
   |glob k=>grind[k0,bB]
   |size n=>grind[k0,bB]
   |get =>
    grind[k0,bB]
   |at_ k i =>
    simp only[bB]
    exact ea (z _ _ A m) (q _ _ m) (fun v t e _=>eb (ch e) (eb (ch e) (ch zf7))) (eo _ _) fun v t y u h=>(bK (Rl:=mw F') (aW (j _)) (bK (aW (j _)) (aW (P.stop _ _ _))) h).1
   |put a =>
    simp only[bB]
    exact ea (z _ _ A m) (q _ _ m) (fun v t e _=>eb (ch e) (ch e)) (eo _ _) fun v t y u h=>(bK (Rl:=mw F') (aW (j _)) (aW (P.out _ _)) h).1
   |call f l =>
    simp only[bB]
    refine ea (Q _ _ _ A m) (fun v t h=>(l3 _ _ _ _ _ h).2 m) (fun v t e d=>eb (ch e) (eb (ch zf7) ?_)) (eo _ _) fun v t y u h=>(bK (Rl:=mw F') (aW (j _)) (bK (aW (P.stop _ _ _)) fun h=>?_) h).1
    ·refine ea (z _ _ e d) (q _ _ d) (fun w u C _=>ch (s:=t.leave u) C) (fun w u y x C h=>?_) fun w u y x h=>?_
     ·cases h;grind[M.leave]
     ·cases h;grind[M.leave]
    ·have⟨w,x,k1,k2⟩:=br h;cases k2;exact P.call _ _ _ (E _ _ _ _ k1)
   |un o a =>
    simp only[bB]
    exact zcW
   |bin o a b =>
    simp only[bB]
    refine ea (z _ _ A m) (q _ _ m) (fun v t e d=>eb (ch e) ?_) (eo _ _) fun v t y u h=>(bK (Rl:=mw F') (aW (j _)) (da P (E _ _) fun v t y u=>bK (aW (j _)) (bK (aW (P.stop _ _ _)) (aW (j _)))) h).1
    refine ea (z _ _ e d) (q _ _ d) (fun w u C _=>eb (ch C) ?_) (eo _ _) fun v t y u h=>(bK (Rl:=mw F') (aW (j _)) (bK (aW (P.stop _ _ _)) (aW (j _))) h).1
    by_cases hc:(O.bin o v w).2≠0
    ·rw[ae hc]
     by_cases YJ:(O.bin o v w).2=(O.bin o v w).2
     ·exact ch (by grind[M.stop])
     omega
    grind[k0]
   |and_ a b =>
    simp only[bB]
    refine ea (z _ _ A m) (q _ _ m) (fun v t e d=>eb (ch e) (eb (ch e) ?_)) (eo _ _) fun v t y u h=>(bK (Rl:=mw F') (aW (j _)) (bK (aW (j _)) (da P (E _ _) fun v t y u=>bK (aW (j _)) (aW (j _)))) h).1
    exact zcc
   |or_ a b =>
    simp only[bB]
    refine ea (z _ _ A m) (q _ _ m) (fun v t e d=>eb (ch e) (eb (ch e) ?_)) (eo _ _) fun v t y u h=>(bK (Rl:=mw F') (aW (j _)) (bK (aW (j _)) (da P (E _ _) fun v t y u=>bK (aW (j _)) (aW (j _)))) h).1
    exact zcc
   |setL k a =>
    simp only[bB]
    exact ea (z _ _ A m) (q _ _ m) (fun v t e _=>eb (ch e) (ch e)) (eo _ _) fun v t y u h=>(bK (Rl:=mw F') (aW (j _)) (aW (P.locs _ _ _)) h).1
   |setG k a =>
    simp only[bB]
    exact ea (z _ _ A m) (q _ _ m) (fun v t e _=>eb (ch e) (ch e)) (eo _ _) fun v t y u h=>(bK (Rl:=mw F') (aW (j _)) (aW (P.bF _ _ _)) h).1
   |putA k i v =>
    simp only[bB]
    refine ea (z _ _ A m) (q _ _ m) (fun n t e d=>eb (ch e) (eb ?_ (ch zf7))) (eo _ _) fun n t y u h=>(bK (Rl:=mw F') (aW (j _)) (bK (da P (E _ _) fun v t y u=>bK (aW (j _)) (aW (P.cells _ _ _ _))) (aW (P.stop _ _ _))) h).1
    exact ea (z _ _ e d) (q _ _ d) (fun w u C _=>eb (ch C) (ch C)) (eo _ _) fun v t y u h=>(bK (Rl:=mw F') (aW (j _)) (aW (P.cells _ _ _ _)) h).1
   |if1 c b =>
    simp only[bB]
    refine ea (z _ _ A m) (q _ _ m) (fun n t e d=>eb (ch e) (eb ?_ (ch e))) (eo _ _) fun n t y u h=>(bK (Rl:=mw F') (aW (j _)) (bK (da P (E _ _) fun v t y u=>aW (j _)) (aW (j _))) h).1
    exact zbs
   |if2 c b b2 =>
    simp only[bB]
    refine ea (z _ _ A m) (q _ _ m) (fun n t e d=>eb (ch e) (eb ?_ ?_)) (eo _ _) fun n t y u h=>(bK (Rl:=mw F') (aW (j _)) (bK (da P (E _ _) fun v t y u=>aW (j _)) (da P (E _ _) fun v t y u=>aW (j _))) h).1
    ·exact zbs
    ·exact zbs
   |while_ c b =>
    simp only[bB]
    exact ea (S _ _ _ A m) (fun v t h=>(l5 _ _ _ _ _ h).2 m) (fun v t e _=>ch e) (oB _) fun v t y u h=>(aW (Rl:=mw F') (j _) h).1
   |ret a =>
    simp only[bB]
    exact ea (z _ _ A m) (q _ _ m) (fun v t e _=>eb (ch e) (ch e)) (eo _ _) fun v t y u h=>(bK (Rl:=mw F') (aW (j _)) (aW (P.ret _ _)) h).1
   |do_ a =>
    simp only[bB]
    exact zcW
   |block l =>
    simp only[bB]
    exact ea (R _ _ A m) (fun v t h=>(l4 _ _ _ _ h).2 m) (fun v t e _=>ch e) (oB _) fun v t y u h=>(aW (Rl:=mw F') (j _) h).1
  ·cases l with
   |nil=>grind[k0,kb]
   |cons r l =>
    simp only[kb]
    exact ea (z _ _ A m) (q _ _ m) (fun v t e d=>eb (ch e) (Q _ _ _ e d)) (eo _ _) fun v t y u h=>(bK (Rl:=mw F') (aW (j _)) (m3 _ _ _ _ _) h).1
  ·cases l with
   |nil=>grind[k0,jz]
   |cons r l =>
    simp only[jz]
    exact ea (z _ _ A m) (q _ _ m) (fun v t e d=>eb (ch e) (R _ _ e d)) (eo _ _) fun v t y u h=>(bK (Rl:=mw F') (aW (j _)) (m4 _ _ _ _) h).1
  ·simp only[lW]
   refine ea (z _ _ A m) (q _ _ m) (fun v t e d=>eb (ch e) (eb (ch e) ?_)) (eo _ _) fun v t y u h=>(bK (Rl:=mw F') (aW (j _)) (bK (aW (j _)) (da P (E _ _) fun v t y u=>bK (aW (j _)) (T _ _ _ _ _))) h).1
   exact ea (z _ _ e d) (q _ _ d) (fun w u C J=>eb (ch C) (S _ _ _ C J)) (eo _ _) fun v t y u h=>(bK (Rl:=mw F') (aW (j _)) (T _ _ _ _ _) h).1
end
end Go.Mn
namespace Go.Im
open Go.Xp Go.Sp
def Cx{p:Src}{l:List T}(h:iv p l):∀a∈p.aq,0<=a.size/\a.size<=2147483647:=fun a O=>by
 have:=fL.1 h.aq a O;exact zdk
def kG:ai:=[103,101,116]
def ly:ai:=[112,117,116]
def eh:ai:=[115,105,122,101]
def jn:ai:=[109,97,105,110]
def ga(s:ai):Bool:=(s==kG ||s==ly) ||s==eh
def bP{C:Type}(f:C->Bool)(l:List C):Int:=match l.findIdx? f with|some i=>(i:Int)|none => -1
def jF(p:Src)(s:ai):Int:=bP (fun f:Fn=>f.name==s) p.az
def lR(p:Src)(s:ai):Int:=bP (fun a:Ar=>a.name==s) p.aq
def fY(p:Src):List ai:=p.aq.map fun a:Ar=>a.name
def jN(p:Src):List ai:=p.az.map fun f:Fn=>f.name
def dK(p:Src):List ai:=(p.aw++fY p)++jN p
def lH(t:T):Nd:=match t.au with|k::_=>k.n|[]=>⟨0,0,0,[],[]⟩
def b8(t:T):Bool:=(t.n.aj==4&&t.n.s==eh)&&(t.au.length==1)
def l8(p:Src)(i:Nat):Nat:=match p.az[i]? with|some f=>f.params.length|none=>0
def gC(p:Src)(s:ai):Int:=if s=kG then 0 else if s=ly\/s=eh then 1 else match p.az.findIdx? (fun f:Fn=>f.name==s)with|some i=>(l8 p i:Int)|none => -1
def gg(p:Src)(k:Nd)(ls:List ai):Bool:=(k.aj != 2 ||decide (lR p k.s<0)) ||ls.contains k.s
def dG(p:Src)(t:T)(ls:List ai):Int :=
 if b8 t=true then(if gg p (lH t) ls=true then 24 else 0)
 else if gC p t.n.s = -1 then 22 else if gC p t.n.s=(t.au.length:Int)then 0 else 23
def bM(p:Src)(t:T)(ls:List ai):Int :=
 if t.n.aj=13 then(if ls.contains t.n.s=true then 21 else if ls.length>=40 then 26 else 0)
 else if t.n.aj=2\/t.n.aj=7 then(if ls.contains t.n.s=false/\p.aw.contains t.n.s=false then 22 else 0)
 else if t.n.aj=3\/t.n.aj=8 then(if ls.contains t.n.s=true\/lR p t.n.s<0 then 24 else 0)
 else if t.n.aj=4 then dG p t ls
 else 0
structure CS where
 code:Int
 place:Int
 skip:Int
def dq(p:Src)(c:CS)(a:Nat)(t:T)(ls:List ai):CS :=
 if c.code≠0\/(a:Int)=c.skip then c
 else⟨bM p t ls,if bM p t ls≠0 then t.n.at_ else c.place,if b8 t=true then(if(lH t).aj≠2 then -1 else((a+1:Nat):Int))else c.skip⟩
mutual
def iO{i:Type}(f:i->Nat->T->List ai->i):T->Nat->i->List ai->i × List ai
 |.mk n l,a,s,E=>((eL f l (a+1) (f s a (.mk n l) E) E).1,if n.aj=13 then(eL f l (a+1) (f s a (.mk n l) E) E).2++[n.s]else(eL f l (a+1) (f s a (.mk n l) E) E).2)
def eL{i:Type}(f:i->Nat->T->List ai->i):List T->Nat->i->List ai->i × List ai
 |[],_,s,E=>(s,E)
 |t::r,a,s,E=>eL f r (a+bg t) (iO f t a s E).1 (iO f t a s E).2
end
theorem u5{i:Type}(f:i->Nat->T->List ai->i)(t:T)(a:Nat)(s:i)(ls:List ai) :
  iO f t a s ls=((eL f t.au (a+1) (f s a t ls) ls).1,if t.n.aj=13 then(eL f t.au (a+1) (f s a t ls) ls).2++[t.n.s]else(eL f t.au (a+1) (f s a t ls) ls).2):=by
 cases t;rfl
def oQ(l:List ai)(k:Nat):Bool:=match l[k]? with|some s=>(l.take k).contains s|none=>false
def uH(l:List ai):Bool:=(List.range l.length).any (oQ l)
def hO(p:Src)(f:Fn)(t:T)(a:Nat):Int × Int :=
 if uH f.params=true then(21,0)else((iO (dq p) t a ⟨0,0,-1⟩ f.params).1.code,(iO (dq p) t a ⟨0,0,-1⟩ f.params).1.place)
def lL(l:List ai)(k:Nat):Bool:=match l[k]? with|some s=>ga s ||(l.take k).contains s|none=>false
def fG(l:List ai):Bool:=(List.range l.length).any (lL l)
def eE(l:List Ar):Int:=l.foldl (fun n a=>n+a.size) 0
def iM(p:Src):Bool:=p.aq.any (fun a=>a.size==0) ||((((decide (p.az.length>40) ||decide (p.aw.length>29)) ||decide (eE p.aq>8000))) ||p.az.any fun f=>decide (f.params.length>40))
def nI(f:Fn):Bool:=f.name==jn&&f.params.length==0
def gI(p:Src):List Fn->List T->Nat->Int × Int
 |f::r,t::l,a=>if(hO p f t a).1≠0 then hO p f t a else gI p r l (a+bg t)
 |_,_,_=>(0,0)
def yL(p:Src)(l:List T):Int × Int :=
 if fG (dK p)=true then(21,0)else if iM p=true then(26,0)else if p.az.any nI=false then(25,0)else gI p p.az l 0
def il(p:Src):Bool:=fI p&&(match lb p.ak p.az 0 []with|some (l,_)=>decide ((yL p l).1=0)|none=>false)
structure SS where
 ls:List ai
 code:Int
 at_:Int
def SS.fail(c:SS)(k a:Int):SS:=if c.code=0 then⟨c.ls,k,a⟩else c
def fy(c:SS)(n:Nd)(k want:Nat):SS:=if k≠want then c.fail 23 n.at_ else c
def gB(p:Src)(c:SS)(t:T):SS × Bool :=
 if t.n.s=kG then(fy c t.n t.au.length 0,true)
 else if t.n.s=ly then(fy c t.n t.au.length 1,true)
 else if t.n.s=eh then(fy (if t.au.length=1/\gg p (lH t) c.ls=true then c.fail 24 t.n.at_ else c) t.n t.au.length 1,false)
 else match p.az.findIdx? (fun f:Fn=>f.name==t.n.s)with
  |none=>(c.fail 22 t.n.at_,false)
  |some i=>(fy c t.n t.au.length (l8 p i),true)
def kB(p:Src)(c:SS)(t:T):SS × Bool :=
 if t.n.aj=2\/t.n.aj=7 then(if c.ls.contains t.n.s=false/\p.aw.contains t.n.s=false then c.fail 22 t.n.at_ else c,true)
 else if t.n.aj=3\/t.n.aj=8 then(if c.ls.contains t.n.s=true\/lR p t.n.s<0 then c.fail 24 t.n.at_ else c,true)
 else if t.n.aj=4 then gB p c t
 else(c,true)
def nc(c:SS)(n:Nd):SS :=
 if n.aj≠13 then c
 else if c.ls.contains n.s=true then⟨(c.fail 21 n.at_).ls++[n.s],(c.fail 21 n.at_).code,(c.fail 21 n.at_).at_⟩
 else if c.ls.length=40 then⟨(c.fail 26 n.at_).ls++[n.s],(c.fail 26 n.at_).code,(c.fail 26 n.at_).at_⟩
 else⟨c.ls++[n.s],c.code,c.at_⟩
mutual
def oy(p:Src):T->SS->SS
 |.mk n l,c=>nc (if(kB p c (.mk n l)).2=true then jD p l (kB p c (.mk n l)).1 else(kB p c (.mk n l)).1) n
def jD(p:Src):List T->SS->SS
 |[],c=>c
 |t::r,c=>jD p r (oy p t c)
end
theorem vi(p:Src)(t:T)(c:SS):oy p t c=nc (if(kB p c t).2=true then jD p t.au (kB p c t).1 else(kB p c t).1) t.n:=by cases t;rw[oy];rfl
mutual
def qM:T->Prop
 |.mk n l=>n.aj≠13/\kJ l
def kJ:List T->Prop
 |[]=>True
 |t::r=>qM t/\kJ r
end
mutual
def gA:T->Prop
 |.mk n l=>(n.aj=13->kJ l)/\(n.aj=2->l=[])/\fK l
def fK:List T->Prop
 |[]=>True
 |t::r=>gA t/\fK r
end
mutual
def X7:∀t:T,qM (er t)↔qM t
 |.mk n l=>by rw[er,qM,qM,E6 l]
def E6:∀l:List T,kJ (bp l)↔kJ l
 |[]=>by rw[bp]
 |t::r=>by rw[bp,kJ,kJ,X7 t,E6 r]
end
def SD{l:List T}:bp l=[]↔l=[]:=by
 cases l with
 |nil=>rw[bp]
 |cons t r=>rw[bp];simp
mutual
theorem RV:∀t:T,gA (er t)↔gA t
 |.mk n l=>by rw[er,gA,gA,E6 l,Oc l,SD]
theorem Oc:∀l:List T,fK (bp l)↔fK l
 |[]=>by rw[bp]
 |t::r=>by rw[bp,fK,fK,RV t,Oc r]
end
mutual
def E.nv:∀a:E,qM a.tree
 |.num n=>by rw[E.tree,qM];exact⟨by simp,trivial⟩
 |.name s=>by rw[E.tree,qM];exact⟨by simp,trivial⟩
 |.at_ s a=>by rw[E.tree,qM,kJ,kJ];exact⟨by simp,E.nv a,trivial⟩
 |.call s l=>by rw[E.tree,qM];exact⟨by simp,E.Zp l⟩
 |.un s a=>by rw[E.tree,qM,kJ,kJ];exact⟨by simp,E.nv a,trivial⟩
 |.bin s a b=>by rw[E.tree,qM,kJ,kJ,kJ];exact⟨by simp,E.nv a,E.nv b,trivial⟩
def E.Zp:∀l:List E,kJ (E.aJ l)
 |[]=>trivial
 |a::l=>by rw[E.aJ,kJ];exact⟨E.nv a,E.Zp l⟩
end
mutual
theorem E.wf:∀a:E,gA a.tree
 |.num n=>zed
 |.name s=>zed
 |.at_ s a=>zcX
 |.call s l=>by rw[E.tree,gA];exact⟨fun h=>absurd h zfm,fun h=>absurd h zfm,E.Dj l⟩
 |.un s a=>zcX
 |.bin s a b=>by rw[E.tree,gA,fK,fK,fK];exact⟨fun h=>absurd h zfm,fun h=>absurd h zfm,E.wf a,E.wf b,trivial⟩
theorem E.Dj:∀l:List E,fK (E.aJ l)
 |[]=>trivial
 |a::l=>by rw[E.aJ,fK];exact⟨E.wf a,E.Dj l⟩
end
mutual
theorem S.wf:∀a:S,gA a.tree
 |.set s a=>zdR
 |.put s a b=>zdR
 |.if1 c b=>zey
 |.if2 c b d=>zey
 |.while_ c b=>zey
 |.ret a=>zdR
 |.do_ a=>zdR
 |.var s a=>by simp[fK,kJ,E.nv,trivial,E.wf,gA,S.tree]
theorem S.Dj:∀l:List S,fK (S.aJ l)
 |[]=>trivial
 |a::l=>by rw[S.aJ,fK];exact⟨S.wf a,S.Dj l⟩
end
theorem WU(l:List S):gA (cx l):=by
 grind[S.Dj,gA,cx]
def SS.qd(c:SS)(k a:Int):(c.fail k a).ls=c.ls:=by grind[fail]
theorem wK(c:SS)(n:Nd)(k w:Nat):(fy c n k w).ls=c.ls:=by unfold fy;grind[SS.fail]
theorem vr(p:Src)(c:SS)(t:T):(kB p c t).1.ls=c.ls:=by
 unfold kB gB;split
 ·simp only;split;(· exact c.qd _ _);rfl
 split
 ·simp only;split;(· exact c.qd _ _);rfl
 split
 ·split
  ·grind[wK]
  split
  ·grind[wK]
  split
  ·simp only;rw[wK];split;(· exact c.qd _ _);rfl
  split
  ·exact c.qd _ _
  grind[wK]
 ·rfl
mutual
def X4(p:Src):∀(t:T),qM t->∀c,(oy p t c).ls=c.ls
 |.mk n l,h,c=>by
  rw[qM]at h;rw[oy,nc,ae h.1];split
  ·rw[E4 p l h.2,vr]
  grind[vr]
def E4(p:Src):∀(l:List T),kJ l->∀c,(jD p l c).ls=c.ls
 |[],_,c=>by rw[jD]
 |t::r,h,c=>by
  rw[kJ]at h;rw[jD,E4 p r h.2,X4 p t h.1]
end
theorem SS.BI{c:SS}(h:c.code≠0)(k a:Int):c.fail k a=c:=by grind[fail]
theorem SS.sJ(c:SS){k:Int}(G:k≠0)(a:Int):(c.fail k a).code≠0:=by
 grind[fail]
def Qw{c:SS}(h:c.code≠0)(n:Nd)(k w:Nat):fy c n k w=c:=by grind[SS.BI,fy]
def Tq(p:Src){c:SS}(h:c.code≠0)(t:T):(kB p c t).1=c:=by
 unfold kB gB;simp only[SS.BI h,Qw h,ite_self]
 grind
theorem yx{c:SS}(h:c.code≠0)(n:Nd):(nc c n).code≠0:=by
 unfold nc
 grind[SS.BI]
mutual
theorem Rw(p:Src):∀(t:T)(c:SS),c.code≠0->(oy p t c).code≠0
 |.mk n l,c,h=>by
  rw[oy];refine yx ?_ n;rw[Tq p h];split
  ·exact vj p l c h
  ·exact h
theorem vj(p:Src):∀(l:List T)(c:SS),c.code≠0->(jD p l c).code≠0
 |[],c,h=>by grind[jD]
 |t::r,c,h=>by rw[jD];exact vj p r _ (Rw p t c h)
end
def Qg(p:Src){c:CS}(h:c.code≠0)(a:Nat)(t:T)(ls:List ai):dq p c a t ls=c:=by grind[dq]
mutual
theorem XA(p:Src):∀(t:T)(a:Nat)(c:CS)(ls:List ai),c.code≠0->(iO (dq p) t a c ls).1=c
 |.mk n l,a,c,ls,h=>by rw[iO,Qg p h];exact u6 p l _ c ls h
theorem u6(p:Src):∀(l:List T)(a:Nat)(c:CS)(ls:List ai),c.code≠0->(eL (dq p) l a c ls).1=c
 |[],a,c,ls,h=>by rw[eL]
 |t::r,a,c,ls,h=>by
  have z:=XA p t a c ls h;rw[eL,z];exact u6 p r _ c _ h
end
def k0(a:Nat)(r:CS × List ai)(q:SS):Prop:=(r.1.code=0/\q.code=0/\r.2=q.ls/\r.1.skip<(a:Int)/\q.ls.length<=40)\/(r.1.code≠0/\q.code≠0)
def Qc(p:Src)(t:T)(vd:t.n.aj=13->kJ t.au)(xn:∀k∈t.au,k.n.aj=2->k.au=[])
  (ih:∀(a:Nat)(r:CS)(q:SS),r.code=0->q.code=0->r.skip<(a:Int)->q.ls.length<=40->k0 (a+aZ t.au) (eL (dq p) t.au a r q.ls) (jD p t.au q))
  (a:Nat)(r:CS)(q:SS)(hr:r.code=0)(hq:q.code=0)(hs:r.skip<(a:Int))(H:q.ls.length<=40):k0 (a+bg t) (iO (dq p) t a r q.ls) (oy p t q):=by
 have yT:¬(r.code≠0\/(a:Int)=r.skip):=by
  omega
 obtain⟨I,m⟩:∃I,dq p r a t q.ls=⟨bM p t q.ls,I,if b8 t=true then(if(lH t).aj≠2 then -1 else((a+1:Nat):Int))else r.skip⟩:=by
  unfold dq;simp_all
 have ps:=fP t
 have e:∀x:SS,bM p t q.ls≠0->x.code≠0->k0 (a+bg t) (iO (dq p) t a r q.ls) x:=fun x M v=>by
  refine .inr ⟨?_,v⟩
  grind[u5,u6]
 have go:bM p t q.ls=0->b8 t=false->t.n.aj≠13->kB p q t=(q,true)->k0 (a+bg t) (iO (dq p) t a r q.ls) (oy p t q):=fun M v N h4=>by
  have:=ih (a+1) ⟨0,I,r.skip⟩ q rfl hq zfk H;rw[u5,vi,h4,m,M,v,ab N,nc,ae N]
  grind
 by_cases j:t.n.aj=13
 ·have W:=vd j
  have G:b8 t=false:=by grind[b8]
  have b:kB p q t=(q,true):=by grind[kB]
  have l:(jD p t.au q).ls=q.ls:=E4 p t.au W q
  have E:bM p t q.ls=if q.ls.contains t.n.s=true then 21 else if q.ls.length>=40 then 26 else 0:=by
   unfold bM;omega
  rw[vi,b];simp only[if_true]
  by_cases o:q.ls.contains t.n.s=true
  ·refine e _ zfk ?_;rw[nc,ab aK,l,ae o]
   grind[SS.sJ]
  by_cases HK:q.ls.length>=40
  ·refine e _ aK ?_;rw[nc,ab aK,l,ab o,ae aK]
   grind[SS.sJ]
  have J:bM p t q.ls=0:=by grind
  have:=ih (a+1) ⟨0,I,r.skip⟩ q rfl hq zfk H;rw[nc,ab aK,l,ab o,ab aK,u5,m,J,G,ae j];refine zdS ?_;rw[show a+bg t=a+1+aZ t.au by omega]
  rcases this with⟨k1,k2,k3,k4,k5⟩|⟨k1,k2⟩
  ·refine .inl ⟨k1,k2,?_,k4,?_⟩
   ·grind
   grind
  ·exact .inr ⟨k1,k2⟩
 by_cases v:t.n.aj=2\/t.n.aj=7
 ·have G:b8 t=false:=by
   grind[b8]
  by_cases o:q.ls.contains t.n.s=false/\p.aw.contains t.n.s=false
  ·refine e _ (by grind[bM]) ?_
   have b:kB p q t=(q.fail 22 t.n.at_,true):=by grind[kB]
   rw[vi,b];refine yx ?_ t.n;simp[if_true,vj,SS.sJ]
  simp_all[bM,ab,ae,kB]
 by_cases N:t.n.aj=3\/t.n.aj=8
 ·have G:b8 t=false:=by
   grind[b8]
  by_cases o:q.ls.contains t.n.s=true\/lR p t.n.s<0
  ·refine e _ (by grind[bM]) ?_
   have b:kB p q t=(q.fail 24 t.n.at_,true):=by grind[kB]
   rw[vi,b];refine yx ?_ t.n;simp[if_true,vj,SS.sJ]
  simp_all[bM,ab,ae,kB]
 by_cases h4:t.n.aj=4
 ·have E:bM p t q.ls=dG p t q.ls:=by grind[bM]
  have b:kB p q t=gB p q t:=by grind[kB,gB]
  have u:∀x:SS × Bool,gB p q t=x->bM p t q.ls≠0->x.1.code≠0->k0 (a+bg t) (iO (dq p) t a r q.ls) (oy p t q):=fun x hx M v=>by
   grind[vi,yx,vj]
  have aaX:b8 t=((t.n.s==eh)&&(t.au.length==1)):=by unfold b8;grind
  have d:∀w:Nat,t.n.s≠eh->gC p t.n.s=(w:Int)->gB p q t=(fy q t.n t.au.length w,true)->k0 (a+bg t) (iO (dq p) t a r q.ls) (oy p t q):=fun w e1 e2 e3=>by
   have G:b8 t=false:=by grind
   have O:dG p t q.ls=if(w:Int)=(t.au.length:Int)then 0 else 23:=by
    grind[dG]
   by_cases B:t.au.length=w
   ·simp_all[ae,fy,ab]
   ·refine u _ e3 aK ?_;rw[fy,ae B]
    grind[SS.fail]
  by_cases hg:t.n.s=kG
  ·exact d 0 (by rw[hg];decide) (by grind[gC]) (by grind[gB])
  by_cases hp:t.n.s=ly
  ·exact d 1 (by rw[hp];decide) (by grind[gC]) (by grind[gB,fy,T.n,T.au])
  by_cases G:t.n.s=eh
  ·have z:gB p q t=(fy (if t.au.length=1/\gg p (lH t) q.ls=true then q.fail 24 t.n.at_ else q) t.n t.au.length 1,false):=by
    unfold gB
    grind
   by_cases B:t.au.length=1
   ·have Mi:b8 t=true:=by grind
    have O:dG p t q.ls=if gg p (lH t) q.ls=true then 24 else 0:=by grind[dG]
    by_cases hb:gg p (lH t) q.ls=true
    ·simp_all[ae,fy,ab,SS.sJ]
    ·have A:gB p q t=(q,false):=by simp_all[ab,fy]
     rw[vi,b,A,nc,ae j];refine zdS ?_
     have J:bM p t q.ls=0:=by grind
     obtain⟨k,S⟩:∃k,t.au=[k]:=by
      match H:t.au,B with
      |[k],_=>simp
     have Q:lH t=k.n:=by grind[lH]
     have R:k.n.aj=2:=by
      grind[gg,Bool.or_eq_false_iff]
     have C:k.au=[]:=xn k zfk R
     have hk1:bg k=1:=by rw[fP,C,aZ]
     have F:∀c:CS,((a+1:Nat):Int)=c.skip->dq p c (a+1) k q.ls=c:=fun c o=>by grind[dq]
     rw[u5,m,J,Mi,ab j,S,Q];simp only[if_true,eL];rw[u5,C];simp only[eL];rw[ab aK,F _ rfl,ab aK];refine .inl ⟨rfl,hq,rfl,?_,H⟩
     grind[aZ]
   ·have Y7:b8 t=false:=by grind
    refine u _ z ?_ ?_
    ·rw[E];unfold dG;rw[Y7,ab aE]
     grind[gC]
    ·rw[ab (fun h=>B h.1),fy,ae B]
     grind[SS.fail]
  have Q8:gC p t.n.s=match p.az.findIdx? (fun f:Fn=>f.name==t.n.s)with|some i=>(l8 p i:Int)|none => -1:=by
   unfold gC;grind
  have z:gB p q t=match p.az.findIdx? (fun f:Fn=>f.name==t.n.s)with|none=>(q.fail 22 t.n.at_,false)|some i=>(fy q t.n t.au.length (l8 p i),true):=by
   unfold gB
   grind
  cases hf:p.az.findIdx? (fun f:Fn=>f.name==t.n.s)with
  |some i =>
   grind
  |none =>
   simp_all[SS.sJ,dG,eh,Bool.false_and,ab]
 simp_all[bM,ab,b8,kB]
def FX:∀{l:List T},fK l->∀k∈l,gA k
 |[],_,k,G=>by cases G
 |t::r,h,k,G=>by
  rw[fK]at h
  rcases nj G with rfl|G
  ·exact h.1
  ·exact FX h.2 k G
mutual
def Wx(p:Src):∀(t:T),gA t->∀(a:Nat)(r:CS)(q:SS),r.code=0->q.code=0->r.skip<(a:Int)->q.ls.length<=40->k0 (a+bg t) (iO (dq p) t a r q.ls) (oy p t q)
 |.mk n l,e=>by
  rw[gA]at e;refine Qc p (.mk n l) e.1 (fun k G v=>?_) (Ww p l e.2.2);have:=FX e.2.2 k G;have⟨m,j⟩:=k;rw[gA]at this;exact this.2.1 v
def Ww(p:Src):∀(l:List T),fK l->∀(a:Nat)(r:CS)(q:SS),r.code=0->q.code=0->r.skip<(a:Int)->q.ls.length<=40->k0 (a+aZ l) (eL (dq p) l a r q.ls) (jD p l q)
 |[],_,a,r,q,j,b,o,W=>by rw[eL,jD,aZ];grind[k0]
 |t::l,e,a,r,q,j,b,o,W=>by
  rw[fK]at e;rw[eL,jD,aZ]
  rcases Wx p t e.1 a r q j b o W with⟨s,i,w,I,M⟩|⟨s,i⟩
  ·rw[w];have:=Ww p l e.2 (a+bg t) _ _ s i I M
   grind
  ·exact .inr ⟨by grind[u6],vj p l _ i⟩
end
def iH(c k:Int):Int:=if c=0 then k else c
def nD(a:Ar):Bool:=decide (a.size<1) ||decide (a.size>8000)
def lM(p:Src):Bool:=match p.az.findIdx? (fun f:Fn=>f.name==jn)with|none=>true|some i=>decide (l8 p i>0)
def uD(p:Src):Bool:=(decide (p.az.length>40) ||decide (p.aw.length>29)) ||decide (eE p.aq>8000)
def rh(p:Src)(c:Int):Int :=
 if p.aq.any nD=true then iH c 26
 else if lM p=true then iH (if(p.az.any fun f=>decide (f.params.length>40))=true then iH (if uD p=true then iH c 26 else c) 26 else(if uD p=true then iH c 26 else c)) 25
 else if(p.az.any fun f=>decide (f.params.length>40))=true then iH (if uD p=true then iH c 26 else c) 26 else(if uD p=true then iH c 26 else c)
def rb(f:Fn)(c:SS):SS:=⟨f.params,if uH f.params=true then iH c.code 21 else c.code,if uH f.params=true/\c.code=0 then 0 else c.at_⟩
def oe(p:Src):List Fn->List T->SS->SS
 |f::r,t::l,c=>oe p r l (if c.code=0 then oy p t (rb f c)else c)
 |_,_,c=>c
def Lk(p:Src)(l:List T):SS:=oe p p.az l ⟨[],rh p (if fG (dK p)=true then 21 else 0),0⟩
def yb(p:Src):∀(M:List Fn)(l:List T)(c:SS),c.code≠0->(oe p M l c).code≠0
 |f::r,t::l,c,h=>by rw[oe,ab h];exact yb p r l c h
 |[],_,c,h=>by grind[oe]
 |f::r,[],c,h=>by grind[oe]
def U0(p:Src)(f:Fn)(t:T)(a:Nat)(c:SS)(e:gA t)(o:c.code=0)(R:f.params.length<=40):(hO p f t a).1=0↔(oy p t (rb f c)).code=0:=by
 unfold hO
 by_cases n:uH f.params=true
 ·rw[ae n]
  have:(rb f c).code≠0:=by unfold rb;rw[ae n];unfold iH;grind
  grind[Rw]
 ·rw[ab n]
  have W:(rb f c).code=0:=by grind[rb]
  have z:=Wx p t e a ⟨0,0,-1⟩ (rb f c) rfl W zfk R;show(iO (dq p) t a ⟨0,0,-1⟩ (rb f c).ls).1.code=0↔_
  rcases z with⟨s,i,_⟩|⟨s,i⟩
  ·omega
  omega
theorem HD(p:Src):∀(M:List Fn)(l:List T)(a:Nat)(c:SS),c.code=0->(∀t∈l,gA t)->(∀f∈M,f.params.length<=40)->((gI p M l a).1=0↔(oe p M l c).code=0)
 |f::r,t::l,a,c,o,e,R=>by
  have z:=U0 p f t a c (e t mem_cons_self) o (R f mem_cons_self);rw[gI,oe,ae o]
  by_cases h:(hO p f t a).1=0
  ·rw[ab aK];exact HD p r l _ _ (z.1 h) (fun u W=>e u (ey _ W)) (fun g F=>R g (ey _ F))
  simp_all[ae,yb]
 |[],_,a,c,o,_,_=>by rw[gI,oe];(· omega);all_goals(intros;simp_all)
 |f::r,[],a,c,o,_,_=>by rw[gI,oe];(· omega);all_goals(intros;simp_all)
def cells_from(l:List Ar):∀n:Int,l.foldl (fun n a=>n+a.size) n=n+eE l:=by
 induction l with
 |nil=>grind[eE]
 |cons a l q =>
  grind[eE]
theorem JG(a:Ar)(l:List Ar):eE (a::l)=a.size+eE l:=by
 unfold eE;rw[List.foldl_cons,cells_from];grind[eE]
def OT{l:List Ar}(h:∀a∈l,0<=a.size):0<=eE l/\∀a∈l,a.size<=eE l:=by
 induction l with
 |nil=>simp[eE,Ar.size]
 |cons b l q =>
  grind[ey,mem_cons_self,JG]
theorem Gb{l:List ai}(h:fG l=false){i j:Nat}{s:ai}(hi:l[i]?=some s)(o:l[j]?=some s):i=j:=by
 have c:∀x y:Nat,x<y->l[x]?=some s->l[y]?=some s->False:=fun x y m z v=>by
  have n:=(bG v).1;unfold fG at h;rw[any_eq_false]at h;have:=h y (List.mem_range.2 n);unfold lL at this;rw[v]at this;simp only[Bool.or_eq_true,not_or]at this
  grind[sB,List.mem_take_iff_getElem,List.getElem?_eq_some_iff]
 grind
theorem zC{p:Src}(h:fG (dK p)=false):p.az.any nI=true↔lM p=false:=by
 have C:∀(i:Nat)f,p.az[i]?=some f->(dK p)[(p.aw++fY p).length+i]?=some f.name:=fun i f s=>by
  unfold dK;rw[mb aK,Nat.add_sub_cancel_left,jN,b6,s];rfl
 unfold lM
 cases s:p.az.findIdx? (fun f:Fn=>f.name==jn)with
 |none =>
  grind[nI]
 |some i =>
  rw[List.findIdx?_eq_some_iff_getElem]at s;have⟨M,z,v⟩:=s
  have A:p.az[i]?=some p.az[i]:=by simp[M]
  simp only[l8,A];constructor
  ·intro I;have⟨f,c,F⟩:=qJ.1 I;have⟨j,o⟩:=getElem?_of_mem c;unfold nI at F
   grind[Gb]
  ·intro I;simp only[gt_iff_lt,decide_eq_false_iff_not,Nat.not_lt,Nat.le_zero]at I;exact qJ.2 ⟨p.az[i],List.getElem_mem M,by grind[nI]⟩
def TK{p:Src}(ha:∀a∈p.aq,0<=a.size):(iM p=false/\lM p=false)↔rh p 0=0:=by
 have⟨T,q⟩:=OT ha;have b:iH 0 26=26:=rfl
 have o:∀c,c≠0->iH c 25=c:=fun c h=>by grind[iH]
 have e:∀c,iH c 25≠0:=fun c=>by
  grind[iH]
 have W:∀c,iH c 26≠0:=fun c=>by
  grind[iH]
 unfold rh
 by_cases z:p.aq.any nD=true
 ·rw[ae z,b];refine⟨fun h=>?_,fun h=>by cases h⟩;have⟨a,v,I⟩:=qJ.1 z;have d:=h.1;unfold iM at d;simp only[Bool.or_eq_false_iff,decide_eq_false_iff_not]at d;have F:=List.any_eq_false.1 d.1 a v;have H:=q a v;have i:=ha a v;unfold nD at I
  grind
 rw[ab z]
 have E:p.aq.any (fun a=>a.size==0)=false:=by
  rw[any_eq_false]
  grind[nD]
 have n:iM p=(uD p ||p.az.any fun f=>decide (f.params.length>40)):=by
  unfold iM uD;grind
 grind
def UC{p:Src}{l:List T}(ha:∀a∈p.aq,0<=a.size)(e:∀t∈l,gA t):(yL p l).1=0↔(Lk p l).code=0:=by
 have ne:rh p 21≠0:=by
  simp[iH,ab,ite_self,rh]
 unfold yL Lk
 by_cases z:fG (dK p)=true
 ·simp_all[ae,yb]
 rw[ab z,ab z];have o:=TK ha
 by_cases v:rh p 0=0
 ·have⟨I,c⟩:=o.2 v;rw[ab zfk,ab (by grind[zC]),v]
  grind[HD,iM,Bool.or_eq_false_iff,any_eq_false]
 ·refine⟨fun h=>?_,fun h=>absurd h (yb p _ _ _ v)⟩;exfalso;apply v;apply o.1
  by_cases I:iM p=true
  ·grind
  ·rw[ab I]at h
   grind[zC]
mutual
def dn:T->List ai
 |.mk n l=>bL l++(if n.aj=13 then[n.s]else[])
def bL:List T->List ai
 |[]=>[]
 |t::r=>dn t++bL r
end
theorem Qt(t:T):dn t=bL t.au++(if t.n.aj=13 then[t.n.s]else[]):=by cases t;rfl
mutual
def BE{i:Type}(f:i->Nat->T->List ai->i):∀(t:T)(a:Nat)(s:i)(ls:List ai),(iO f t a s ls).2=ls++dn t
 |.mk n l,a,s,ls=>by
  rw[iO,dn];simp only;rw[qR f l]
  grind
def qR{i:Type}(f:i->Nat->T->List ai->i):∀(l:List T)(a:Nat)(s:i)(ls:List ai),(eL f l a s ls).2=ls++bL l
 |[],a,s,ls=>by simp[ai,eL,bL]
 |t::r,a,s,ls=>by rw[eL,qR f r,BE f t,bL,eU]
end
mutual
def tF(p:Src):T->List ai->Prop
 |.mk n l,E=>bM p (.mk n l) E=0/\(b8 (.mk n l)=false->uK p l E)
def uK(p:Src):List T->List ai->Prop
 |[],_=>True
 |t::r,E=>tF p t E/\uK p r (E++dn t)
end
mutual
def RA(p:Src):∀(t:T),gA t->∀(a:Nat)(r:CS)(ls:List ai),r.code=0->r.skip<(a:Int)->(iO (dq p) t a r ls).1.code=0->tF p t ls/\(iO (dq p) t a r ls).1.skip<((a+bg t:Nat):Int)
 |.mk n l,i,a,r,ls,z,C,o=>by
  rw[gA]at i
  have B:¬(r.code≠0\/(a:Int)=r.skip):=by
   omega
  obtain⟨u,d⟩:∃u,dq p r a (.mk n l) ls=⟨bM p (.mk n l) ls,u,if b8 (.mk n l)=true then(if(lH (.mk n l)).aj≠2 then -1 else((a+1:Nat):Int))else r.skip⟩:=by
   unfold dq;simp_all
  rw[iO]at o |-;simp only at o |-;rw[d]at o |-
  have M:bM p (.mk n l) ls=0:=by
   grind[u6]
  rw[M]at o |-
  by_cases E:b8 (.mk n l)=true
  ·have G:l.length=1:=by
    unfold b8 at E;simp only[a6,beq_iff_eq]at E;exact E.2
   have c:n.aj=4/\n.s=eh:=by
    unfold b8 at E;simp only[a6,beq_iff_eq]at E;exact E.1
   have w:gg p (lH (.mk n l)) ls=false:=by
    have e:bM p (.mk n l) ls=dG p (.mk n l) ls:=by
     unfold bM;rw[ab zf9,ab zf9,ab zf9,ae zf9]
    simp_all[dG,ae]
   have q:(lH (.mk n l)).aj=2:=by
    grind[gg,Bool.or_eq_false_iff]
   rw[ae E,ab (by rw[q];decide)]at o |-
   match l,G,i with
   |[k],_,i =>
    have F:k.n.aj=2:=q;rw[fK]at i
    have H:k.au=[]:=by
     have:=i.2.2.1;have⟨m,j⟩:=k;rw[gA]at this;exact this.2.1 F
    have R:bg k=1:=by rw[fP,H,aZ]
    refine⟨by grind[tF],?_⟩;simp only[eL];rw[u5,H];simp only[eL]
    have A:dq p ⟨0,u,((a+1:Nat):Int)⟩ (a+1) k ls=⟨0,u,((a+1:Nat):Int)⟩:=by simp[dq]
    rw[A,bg,aZ,aZ,R];simp
  ·have v:b8 (.mk n l)=false:=by grind
   rw[ab E]at o |-;have h:=Nb p l i.2.2 (a+1) ⟨0,u,r.skip⟩ ls rfl zfk o;refine⟨by grind[tF],?_⟩;rw[bg,show a+(aZ l+1)=a+1+aZ l by omega];exact h.2
def Nb(p:Src):∀(l:List T),fK l->∀(a:Nat)(r:CS)(ls:List ai),r.code=0->r.skip<(a:Int)->(eL (dq p) l a r ls).1.code=0->uK p l ls/\(eL (dq p) l a r ls).1.skip<((a+aZ l:Nat):Int)
 |[],_,a,r,ls,i,q,o=>by rw[eL,aZ];grind[uK]
 |t::l,e,a,r,ls,i,q,o=>by
  rw[fK]at e;rw[eL]at o |-
  have z:(iO (dq p) t a r ls).1.code=0:=by
   grind[u6]
  have⟨v,I⟩:=RA p t e.1 a r ls i q z;have⟨c,F⟩:=Nb p l e.2 _ _ _ z I o;rw[BE]at c;rw[uK,aZ,<-nE]
  grind
end
def po(names:List ai)(s:ai):Int:=bP (fun x=>x==s) names
def eg(names:List ai)(n:Nd)(o:List ai):Nd :=
 if n.aj=13 then⟨n.aj,n.at_,po names n.s+1,n.s,n.au⟩
 else if(n.aj=2\/n.aj=7)/\o.contains n.s=true then⟨n.aj,n.at_,po names n.s+1,n.s,n.au⟩else n
mutual
def km(names:List ai):T->List ai->T
 |.mk n l,o=>.mk (eg names n o) (bn names l o)
def bn(names:List ai):List T->List ai->List T
 |[],_=>[]
 |t::r,o=>km names t o::bn names r (o++dn t)
end
mutual
def zT:T->Prop
 |.mk n l=>(n.aj≠1->n.n=0)/\mx l
def mx:List T->Prop
 |[]=>True
 |t::r=>zT t/\mx r
end
mutual
theorem W0:∀t:T,zT (er t)↔zT t
 |.mk n l=>by rw[er,zT,zT,RY l]
theorem RY:∀l:List T,mx (bp l)↔mx l
 |[]=>by rw[bp]
 |t::r=>by rw[bp,mx,mx,W0 t,RY r]
end
mutual
theorem E.z:∀a:E,zT a.tree
 |.num n=>by rw[E.tree,zT];exact⟨fun h=>absurd rfl h,trivial⟩
 |.name s=>by rw[E.tree,zT];exact⟨fun _=>rfl,trivial⟩
 |.at_ s a=>zfa
 |.call s l=>by rw[E.tree,zT];exact⟨fun _=>rfl,E.zs l⟩
 |.un s a=>zfa
 |.bin s a b=>by rw[E.tree,zT,mx,mx,mx];exact⟨fun _=>rfl,E.z a,E.z b,trivial⟩
theorem E.zs:∀l:List E,mx (E.aJ l)
 |[]=>trivial
 |a::l=>by rw[E.aJ,mx];exact⟨E.z a,E.zs l⟩
end
mutual
theorem S.z:∀a:S,zT a.tree
 |.set s a=>zc2
 |.put s a b=>zc2
 |.if1 c b=>zeF
 |.if2 c b d=>zeF
 |.while_ c b=>zeF
 |.ret a=>zc2
 |.do_ a=>zc2
 |.var s a=>zc2
theorem S.zs:∀l:List S,mx (S.aJ l)
 |[]=>trivial
 |a::l=>by rw[S.aJ,mx];exact⟨S.z a,S.zs l⟩
end
theorem Yx(l:List S):zT (cx l):=by grind[S.zs,zT,cx]
def IU{p:Src}{t:T}{ls:List ai}(i:gA t)(M:bM p t ls=0)(G:t.n.aj=4)(o:t.n.s=eh):∃k,t.au=[k]/\k.n.aj=2/\k.au=[]/\0<=lR p k.n.s/\ls.contains k.n.s=false/\b8 t=true:=by
 have e:bM p t ls=dG p t ls:=by
  grind[bM,dG]
 rw[e]at M
 have N:gC p t.n.s=1:=by rw[o];rfl
 by_cases W:t.au.length=1
 ·have E:b8 t=true:=by grind[b8]
  unfold dG at M;rw[ae E]at M
  have u:gg p (lH t) ls=false:=by
   grind
  have⟨n,l⟩:=t
  match l,W with
  |[k],_ =>
   have r:gg p k.n ls=false:=u;unfold gg at r;simp only[Bool.or_eq_false_iff,bne_eq_false_iff_eq,decide_eq_false_iff_not,Int.not_lt]at r;rw[gA,fK]at i;refine⟨k,rfl,r.1.1,?_,r.1.2,r.2,E⟩;have:=i.2.2.1;have⟨m,j⟩:=k;rw[gA]at this;exact this.2.1 r.1.1
 ·have E:b8 t=false:=by grind[b8]
  grind[dG]
section
variable(p:Src)(names:List ai)(name:ai)
end
def Forms.wf{l:List T}{ls:List (List S)}(h:Forms l ls){i:Nat}{t:T}(H:l[i]?=some t):gA t/\zT t:=by
 have M:=(bG H).1;have s:=h.len;have r:ls[i]?=some (ls[i]'aK):=cq _;have⟨_,v⟩:=h.at_ i t _ H r
 grind[RV,WU,W0,Yx]
def LQ(p:Src):∀(M:List Fn)(l:List T)(a:Nat),(gI p M l a).1=0->∀(i:Nat)f t,M[i]?=some f->l[i]?=some t->∃b,(hO p f t b).1=0
 |f::r,t::l,a,h,0,g,u,z,v=>by
  grind[gI]
 |f::r,t::l,a,h,i+1,g,u,z,v=>by
  rw[gI]at h
  by_cases o:(hO p f t a).1=0
  ·rw[ab aK]at h;exact LQ p r l _ h i g u zfk zfk
  grind
 |[],_,a,h,i,g,u,z,v=>by simp at z
 |f::r,[],a,h,i,g,u,z,v=>by simp at v
structure Good(p:Src)(l:List T):Prop where
 st:iv p l
 test:fI p=true
 names:fG (dK p)=false
 len:p.az.length=l.length
 at_:∀(i:Nat)f t,p.az[i]?=some f->l[i]?=some t->tF p t f.params/\gA t/\zT t/\ek p.ak f.body.toNat t/\0<=f.body
def va{p:Src}(h:il p=true):∃l,Good p l:=by
 unfold il at h;rw[a6]at h;have⟨s,h⟩:=h;have⟨l,W⟩:=uc s;rw[W.G8]at h;simp only[decide_eq_true_eq]at h;have⟨E,N⟩:=W.Af
 have r:fG (dK p)=false:=by
  grind[yL]
 have j:(gI p p.az l 0).1=0:=by
  grind[yL]
 refine⟨l,W,s,r,gE.len W.az,fun i f t z v=>?_⟩;have⟨b,o⟩:=LQ p _ _ _ j i f t z v;have⟨M,q⟩:=N.wf v;unfold hO at o
 have n:¬uH f.params=true:=fun n=>by grind
 rw[ab n]at o;have O:=(bG v).1;have⟨F,H⟩:=gE.at_ W.az i f t z v;have c:=dS.ix l 0 i _ W.st v;rw[gW]at F c;refine⟨(RA p t M b ⟨0,0,-1⟩ f.params rfl zfk o).1,M,q,?_,by omega⟩
 grind
open Go.Mn
def yW(l:List ai)(s:ai):Nat:=(bP (fun x=>x==s) l).toNat
def su(p:Src)(s:ai):Int:=match p.aq[(lR p s).toNat]? with|some a=>a.size|none=>0
def r0(r:List R)(k:Nat):R:=match r[k]? with|some x=>x|none=>.num 0
def nY(p:Src)(n:Nd)(l:List T)(ls:List ai)(r:List R):R :=
 if n.aj=1 then .num n.n
 else if n.aj=2 then(if ls.contains n.s=true then .loc (yW ls n.s)else .glob (yW p.aw n.s))
 else if n.aj=3 then .at_ (lR p n.s).toNat (r0 r 0)
 else if n.aj=4 then(if n.s=eh then .size (su p (lH (.mk n l)).s)else if n.s=kG then .get else if n.s=ly then .put (r0 r 0)else .call (jF p n.s).toNat r)
 else if n.aj=5 then .un n.s (r0 r 0)
 else if n.aj=6 then(if n.s=[38,38]then .and_ (r0 r 0) (r0 r 1)else if n.s=[124,124]then .or_ (r0 r 0) (r0 r 1)else .bin n.s (r0 r 0) (r0 r 1))
 else if n.aj=7 then(if ls.contains n.s=true then .setL (yW ls n.s) (r0 r 0)else .setG (yW p.aw n.s) (r0 r 0))
 else if n.aj=8 then .putA (lR p n.s).toNat (r0 r 0) (r0 r 1)
 else if n.aj=9 then(if l.length=3 then .if2 (r0 r 0) (r0 r 1) (r0 r 2)else .if1 (r0 r 0) (r0 r 1))
 else if n.aj=10 then .while_ (r0 r 0) (r0 r 1)
 else if n.aj=11 then .ret (r0 r 0)
 else if n.aj=12 then .do_ (r0 r 0)
 else if n.aj=13 then .setL ls.length (r0 r 0)
 else .block r
mutual
def qB(p:Src):T->List ai->R
 |.mk n l,E=>nY p n l E (eA p l E)
def eA(p:Src):List T->List ai->List R
 |[],_=>[]
 |t::r,E=>qB p t E::eA p r (E++dn t)
end
def jd(p:Src)(l:List T)(f:Nat):R:=match p.az[f]?,l[f]? with
 |some g,some t=>qB p t g.params
 |_,_=>.num 0
section
variable{p q:Src}{fr to:ai}
end
mutual
def Th:∀t:T,qM t->dn t=[]
 |.mk n l,h=>by
  rw[qM]at h;rw[dn,zF l h.2,ab h.1];rfl
def zF:∀l:List T,kJ l->bL l=[]
 |[],_=>by rw[bL]
 |t::r,h=>by
  rw[kJ]at h;rw[bL,Th t h.1,zF r h.2];rfl
end
mutual
def Na{p:Src}:∀(t:T)(ls:List ai),tF p t ls->gA t->ls.length<=40->(ls++dn t).length<=40
 |.mk n l,ls,S,e,W=>by
  rw[tF]at S;rw[gA]at e;rw[dn]
  by_cases o:n.aj=13
  ·rw[zF l (e.1 o),ae o];have:=S.1;unfold bM at this;rw[ae (show(T.mk n l).n.aj=13 from o)]at this
   by_cases q:ls.contains n.s=true
   ·rw[ae (show ls.contains (T.mk n l).n.s=true from q)]at this;cases this
   ·rw[ab (show ¬ls.contains (T.mk n l).n.s=true from q)]at this
    by_cases w:ls.length>=40
    ·rw[ae w]at this;cases this
    ·simp only[nil_append,bl,length_cons,length_nil];omega
  ·rw[ab o,gw]
   cases E:b8 (.mk n l)with
   |false=>exact B1 l ls (S.2 E) e.2.2 W
   |true =>
    have M:=S.1;unfold bM dG at M;unfold b8 at E;simp only[a6,beq_iff_eq,show(T.mk n l).n=n from rfl,show(T.mk n l).au=l from rfl]at E
    match l,E.2,e with
    |[.mk B b],_,e =>
     rw[ab (show ¬(T.mk n [.mk B b]).n.aj=13 from o),ab (show ¬((T.mk n [.mk B b]).n.aj=2\/(T.mk n [.mk B b]).n.aj=7) by show ¬(n.aj=2\/n.aj=7);omega),ab (show ¬((T.mk n [.mk B b]).n.aj=3\/(T.mk n [.mk B b]).n.aj=8) by show ¬(n.aj=3\/n.aj=8);omega),ae (show(T.mk n [.mk B b]).n.aj=4 from E.1.1),ae (show b8 (.mk n [.mk B b])=true by unfold b8;simp[T.n,T.au,E.1.1,E.1.2])]at M
     have r:gg p (lH (.mk n [.mk B b])) ls=false:=by
      cases r:gg p (lH (.mk n [.mk B b])) ls with
      |false=>rfl
      |true=>rw[r,ae rfl]at M;cases M
     unfold gg at r;simp only[Bool.or_eq_false_iff,bne_eq_false_iff_eq]at r;have G:B.aj=2:=r.1.1;have A:=e.2.2;rw[fK,gA]at A;have H:=A.1.2.1 G;subst H;rw[bL,bL,dn,bL,ab aK];simpa using W
def B1{p:Src}:∀(l:List T)(ls:List ai),uK p l ls->fK l->ls.length<=40->(ls++bL l).length<=40
 |[],ls,_,_,W=>by rw[bL,gw];exact W
 |t::r,ls,S,e,W=>by
  rw[uK]at S;rw[fK]at e;rw[bL,<-eU];exact B1 r _ S.2 e.2 (Na t ls S.1 e.1 W)
end
def vY{C:Type}{f:C->Bool}{l:List C}(h:0<=bP f l):(bP f l).toNat<l.length:=by
 unfold bP at h |-
 cases T:l.findIdx? f with
 |none=>rw[T]at h;simp at h
 |some i=>simpa using(List.findIdx?_eq_some_iff_getElem.1 T).1
def AB{l:List ai}{s:ai}(h:l.contains s=true):yW l s<l.length:=by
 refine vY ?_;unfold bP
 cases T:l.findIdx? (fun x=>x==s)with
 |none =>
  rw[List.findIdx?_eq_none_iff]at T;have:=T s zfs;simp at this
 |some i=>exact Int.natCast_nonneg i
def pX(p:Src):∀(l:List T)(ls:List ai),(eA p l ls).length=l.length
 |[],ls=>by rw[eA];rfl
 |t::r,ls=>by rw[eA,length_cons,length_cons,pX p r]
end Go.Im
namespace Go.Mn
structure Mo where
 g:Nat->Nat
 a:Nat->Nat
 f:Nat->Nat
structure Dm where
 g:Nat->Prop
 a:Nat->Prop
 f:Nat->Prop
section
variable{O:Op}{F:Nat}{B B':Nat->R}{μ:Mo}{abn:Dm}
end
open Go.Xp (ai bo)
def cz(n:Int):Prop := -2147483648<=n/\n<=2147483647
theorem fc(n:Int):cz (bo n):=by grind[cz,bo]
def ni{n:Int}(h:cz n):bo n=n:=by grind[cz,bo]
def iD(b:Bool):Int:=if b=true then 1 else 0
theorem pP(b:Bool):cz (iD b):=by grind[cz,iD]
def zY(a b:Int):Int:=bo (bo a+bo b)
def wH(a b:Int):Int:=bo (bo a-bo b)
def AK(a b:Int):Int:=bo (bo a*bo b)
def oP(a b:Int):Int × Int:=if bo b=0 then(0,2)else if bo a = -2147483648/\bo b = -1 then(0,3)else((bo a).tdiv (bo b),0)
def oU(a b:Int):Int × Int:=if bo b=0 then(0,2)else((bo a).tmod (bo b),0)
def jo(n:Int):Nat:=(n%4294967296).toNat
def fO(n:Int):jo n<4294967296:=by grind[jo]
def Fc(n:Int):((jo n:Nat):Int)=n%4294967296:=by grind[jo]
def sw(n:Int):Nat:=jo n%32
def gF(l:Nat)(a b:Int):Int:=match l with
 |1=>bo ((jo a &&& jo b:Nat):Int)
 |2=>bo ((jo a |||jo b:Nat):Int)
 |3=>bo ((jo a ^^^ jo b:Nat):Int)
 |4=>bo ((jo a*2^sw b:Nat):Int)
 |5=>(bo a).fdiv (2^sw b)
 |6=>bo ((jo a / 2^sw b:Nat):Int)
 |7=>bo ((jo a*2^sw b |||jo a / 2^(32-sw b):Nat):Int)
 |8=>bo ((jo a / 2^sw b |||jo a*2^(32-sw b):Nat):Int)
 |_=>0
def dM(l:Nat)(a b:Int):Bool:=match l with
 |1=>bo a==bo b
 |2=>bo a != bo b
 |3=>decide (bo a<bo b)
 |4=>decide (a%4294967296<b%4294967296)
 |5=>decide (bo b<bo a)
 |6=>decide (b%4294967296<a%4294967296)
 |7=>decide (bo a<=bo b)
 |8=>decide (a%4294967296<=b%4294967296)
 |9=>decide (bo b<=bo a)
 |10=>decide (b%4294967296<=a%4294967296)
 |_=>false
def HC{n:Int}(h:cz n)(k:Nat):cz (n.fdiv (2^k)):=by
 unfold cz at *
 have z:(1:Int)<=2^k:=by
  have M:0<2^k:=Nat.two_pow_pos k
  grind
 generalize(2:Int)^k=m at *;rw[Int.fdiv_eq_ediv_of_nonneg _ aK]
 by_cases M:0<=n
 ·have v:=Int.ediv_nonneg M (show 0<=m by omega);have I:=Int.ediv_le_self m M;omega
 ·have I:n / m<0:=Int.ediv_neg_of_neg_of_pos aK aK
  have c:n<=n / m:=(Int.le_ediv_iff_mul_le aK).2 (by
   have:=Int.mul_le_mul_of_nonpos_left (show n<=0 by omega) z
   omega)
  omega
theorem sE(l:Nat)(a b:Int):cz (gF l a b):=by
 unfold gF
 split<;>first|exact fc _|exact HC (fc _) _|simp[cz]
def D6(a b:Int):cz (oP a b).1:=by
 have O:=fc a;have r:=fc b;unfold oP;generalize bo a=x at *;generalize bo b=y at *;unfold cz at *;split
 ·simp
 split
 ·simp
 ·rename_i z v;simp only;have I:(x.tdiv y).natAbs=x.natAbs / y.natAbs:=Int.natAbs_tdiv x y
  by_cases F:y=1
  ·grind
  ·by_cases j:y = -1
   ·grind
   ·have c:x.natAbs / y.natAbs<=x.natAbs / 2:=Nat.div_le_div_left aK aK;omega
def rem_in(a b:Int):cz (oU a b).1:=by
 have r:=fc b;unfold oU;generalize bo a=x at *;generalize bo b=y at *;unfold cz at *;split
 ·simp
 ·rename_i z;simp only;have I:(x.tmod y).natAbs=x.natAbs%y.natAbs:=Int.natAbs_tmod x y;have c:x.natAbs%y.natAbs<y.natAbs:=Nat.mod_lt _ aK;omega
def Ja(o:ai)(a:Int):Int:=if o=[45]then wH 0 a else if o=[33]then iD (a==0)else gF 3 a (-1)
def mh(o:ai)(a b:Int):Int × Int :=
 if o=[47]then oP a b else if o=[37]then oU a b
 else if o=[43]then(zY a b,0)else if o=[45]then(wH a b,0)else if o=[42]then(AK a b,0)
 else if o=[61,61]then(iD (dM 1 a b),0)else if o=[33,61]then(iD (dM 2 a b),0)else if o=[60]then(iD (dM 3 a b),0)
 else if o=[62]then(iD (dM 5 a b),0)else if o=[60,61]then(iD (dM 7 a b),0)else if o=[62,61]then(iD (dM 9 a b),0)
 else if o=[38]then(gF 1 a b,0)else if o=[124]then(gF 2 a b,0)else if o=[94]then(gF 3 a b,0)else if o=[60,60]then(gF 4 a b,0)else if o=[62,62]then(gF 5 a b,0)
 else(0,0)
def jY:Op:=⟨Ja,mh,bo,fun n=>n%4294967296%256⟩
def Yu(o:ai)(a:Int):cz (Ja o a):=by
 grind[wH,fc,pP,sE,cz,Ja]
def kD{c:Prop}[Decidable c]{x y:Int × Int}(hx:cz x.1)(m:cz y.1):cz (if c then x else y).1:=by
 grind
def Uu(o:ai)(a b:Int):cz (mh o a b).1:=by
 unfold mh;refine kD (D6 a b) (kD (rem_in a b) (kD (fc _) (kD (fc _) (kD (fc _) ?_))));refine kD (pP _) (kD (pP _) (kD (pP _) (kD (pP _) (kD (pP _) (kD (pP _) ?_)))));exact kD (sE 1 a b) (kD (sE 2 a b) (kD (sE 3 a b) (kD (sE 4 a b) (kD (sE 5 a b) ⟨by decide,by decide⟩))))
structure Rg(s:M):Prop where
 bF:∀x∈s.bF,cz x
 cells:∀l∈s.cells,∀x∈l,cz x
 locs:∀x∈s.locs,cz x
 gT:cz s.gT
mutual
def R.n32:R->Prop
 |.num n=>cz n
 |.loc k=>True
 |.glob k=>True
 |.at_ k i=>i.n32
 |.size n=>cz n
 |.get=>True
 |.put a=>a.n32
 |.call f l=>R.pU l
 |.un o a=>a.n32
 |.bin o a b=>a.n32/\b.n32
 |.and_ a b=>a.n32/\b.n32
 |.or_ a b=>a.n32/\b.n32
 |.setL k a=>a.n32
 |.setG k a=>a.n32
 |.putA k i v=>i.n32/\v.n32
 |.if1 c t=>c.n32/\t.n32
 |.if2 c t e=>c.n32/\t.n32/\e.n32
 |.while_ c b=>c.n32/\b.n32
 |.ret a=>a.n32
 |.do_ a=>a.n32
 |.block l=>R.pU l
def R.pU:List R->Prop
 |[]=>True
 |r::l=>r.n32/\R.pU l
end
theorem rO:cz 0:=⟨by omega,by omega⟩
def BK{l:List Int}(h:∀x∈l,cz x)(k:Nat):cz (l.getD k 0):=by
 rw[List.getD_eq_getElem?_getD]
 cases G:l[k]? with
 |none=>exact rO
 |some x=>exact h x (bR G)
def Nu{s:M}(h:Rg s)(k:Nat):∀x∈row s k,cz x:=by
 unfold row;rw[List.getD_eq_getElem?_getD]
 cases G:s.cells[k]? with
 |none=>intro x hx;cases hx
 |some l=>exact h.cells l (bR G)
def Ft{l:List Int}(h:∀x∈l,cz x){v:Int}(N:cz v)(k:Nat):∀x∈l.set k v,cz x:=fun x hx=>by
 rcases List.mem_or_eq_of_mem_set hx with z|rfl
 ·exact h x z
 ·exact N
def TG{s:M}(h:Rg s)(k:Nat)(n:Int){v:Int}(N:cz v):Rg (nP s k n v):=by
 refine⟨h.bF,fun l W=>?_,h.locs,h.gT⟩;have W:l∈s.cells.set k ((row s k).set n.toNat v):=W
 rcases List.mem_or_eq_of_mem_set W with z|rfl
 ·exact h.cells l z
 ·exact Ft (Nu h k) N _
def Rg.step{s:M}(h:Rg s){k:Nat}:Rg { s with ay:=k }:=⟨h.bF,h.cells,h.locs,h.gT⟩
def Rg.pin{s:M}(h:Rg s){r:List Int}:Rg { s with inp:=r }:=⟨h.bF,h.cells,h.locs,h.gT⟩
def Rg.aaD{s:M}(h:Rg s){r:List Int}:Rg { s with out:=r }:=⟨h.bF,h.cells,h.locs,h.gT⟩
def Rg.aaC{s:M}(h:Rg s){r:List Int}(i:∀x∈r,cz x):Rg { s with locs:=r }:=⟨h.bF,h.cells,i,h.gT⟩
def Rg.aaB{s:M}(h:Rg s){r:List Int}(i:∀x∈r,cz x):Rg { s with bF:=r }:=⟨i,h.cells,h.locs,h.gT⟩
def Rg.aaE{s:M}(h:Rg s){b:Bool}{v:Int}(N:cz v):Rg { s with left:=b,gT:=v }:=⟨h.bF,h.cells,h.locs,N⟩
def Rg.Yn{s:M}(h:Rg s){c w:Int}:Rg (s.stop c w):=⟨h.bF,h.cells,h.locs,h.gT⟩
def Rg.Nk{s:M}(h:Rg s){l:List Int}(W:∀x∈l,cz x):Rg (s.enter l):=⟨h.bF,h.cells,fun x hx=>by
 rcases sb hx with hx|hx
 ·exact W x hx
 ·rw[List.mem_replicate]at hx;rw[hx.2];exact rO,rO⟩
def Rg.Wi{s t:M}(h:Rg s)(k:Rg t):Rg (s.leave t):=⟨k.bF,k.cells,h.locs,h.gT⟩
structure Uh(O:Op):Prop where
 un:∀o a,cz (O.un o a)
 bin:∀o a b,cz (O.bin o a b).1
 wr:∀a,cz (O.wr a)
def Nc:Uh jY:=⟨Yu,Uu,Go.Mn.fc⟩
section
variable{O:Op}{F:Nat}{B:Nat->R}
def eX{C β:Type}{x:Option (C × M)}{k:C->M->Option (β × M)}{P:C->M->Prop}{Q:β->M->Prop}{y:β}{u:M}(hx:∀v t,x=some (v,t)->P v t)(G:∀v t,P v t->∀y u,k v t=some (y,u)->Q y u)(h:jc x k=some (y,u)):Q y u:=by
 have⟨v,t,z,w⟩:=br h;exact G v t (hx v t z) y u w
def eI{C:Type}{c:Prop}[Decidable c]{a b:Option (C × M)}{Q:C->M->Prop}{y:C}{u:M}(ha:a=some (y,u)->Q y u)(r:b=some (y,u)->Q y u)(h:(if c then a else b)=some (y,u)):Q y u:=by
 split at h
 ·exact ha h
 ·exact r h
def bW{C:Type}{Q:C->M->Prop}{v y:C}{t u:M}(o:Q v t)(h:some (v,t)=some (y,u)):Q y u:=by cases h;exact o
def Iv(v:Int)(t:M):Prop:=cz v/\Rg t
def Ed(A:Uh O)(H:∀f,(B f).n32):∀g:Nat,(∀r s v t,r.n32->Rg s->ev O F B g r s=some (v,t)->Iv v t)/\(∀r s v t,r.n32->Rg s->bB O F B g r s=some (v,t)->Iv v t) /\
  (∀l q s v t,R.pU l->(∀x∈q,cz x)->Rg s->kb O F B g l q s=some (v,t)->(∀x∈v,cz x)/\Rg t)/\(∀l s v t,R.pU l->Rg s->jz O F B g l s=some (v,t)->Rg t)/\(∀c b s v t,c.n32->b.n32->Rg s->lW O F B g c b s=some (v,t)->Rg t)
 |0=>⟨fun r s v t _ _ h=>(by simp only[ev]at h;cases h),fun r s v t _ _ h=>(by simp only[bB]at h;cases h),fun l q s v t _ _ _ h=>(by simp only[kb]at h;cases h),fun l s v t _ _ h=>(by simp only[jz]at h;cases h),fun c b s v t _ _ _ h=>(by simp only[lW]at h;cases h)⟩
 |g+1=>by
  have⟨m,W,C,E,G⟩:=Ed A H g
  have S:∀(t:M)c w,Rg t->Iv 0 (t.stop c w):=fun t c w h=>⟨rO,h.Yn⟩
  have abp:∀(t:M),Rg t->Iv 0 t:=fun t h=>⟨rO,h⟩
  refine⟨fun r s v t e j h=>?_,fun r s v t e j h=>?_,fun l q s v t e I j h=>?_,fun l s v t e j h=>?_,fun c b s v t N J j h=>?_⟩
  ·rw[ev]at h;split at h
   ·exact bW (Q:=Iv) (S _ _ _ j) h
   ·exact W _ _ _ _ e j.step h
  ·cases r with
   |num n=>exact zeB
   |loc k=>simp only[bB]at h;exact bW (Q:=Iv) ⟨BK j.locs k,j⟩ h
   |glob k=>simp only[bB]at h;exact bW (Q:=Iv) ⟨BK j.bF k,j⟩ h
   |size n=>exact zeB
   |get =>
    simp only[bB]at h
    cases T:s.inp with
    |nil=>rw[T]at h;exact bW (Q:=Iv) ⟨⟨by omega,by omega⟩,j⟩ h
    |cons a r=>rw[T]at h;exact bW (Q:=Iv) ⟨A.wr a,j.pin⟩ h
   |at_ k i =>
    simp only[bB]at h;rw[R.n32]at e;exact eX (P:=Iv) (Q:=Iv) (fun v t=>m _ _ v t e j) (fun v t d y u=>eI (Q:=Iv) (bW (Q:=Iv) (abp _ d.2)) (eI (Q:=Iv) (bW (Q:=Iv) ⟨BK (Nu d.2 k) _,d.2⟩) (bW (Q:=Iv) (S _ _ _ d.2)))) h
   |put a =>
    simp only[bB]at h;rw[R.n32]at e;exact eX (P:=Iv) (Q:=Iv) (fun v t=>m _ _ v t e j) (fun v t d y u=>eI (Q:=Iv) (bW (Q:=Iv) (abp _ d.2)) (bW (Q:=Iv) ⟨rO,d.2.aaD⟩)) h
   |call f l =>
    simp only[bB]at h;rw[R.n32]at e;refine eX (P:=fun v t=>(∀x∈v,cz x)/\Rg t) (Q:=Iv) (fun v t=>C _ _ _ v t e (fun x hx=>by cases hx) j) (fun v t d y u=>eI (Q:=Iv) (bW (Q:=Iv) (abp _ d.2)) (eI (Q:=Iv) (bW (Q:=Iv) (S _ _ _ d.2)) fun h=>?_)) h;refine eX (P:=Iv) (Q:=Iv) (fun w x=>m _ _ w x (H f) (d.2.Nk d.1)) (fun w x hx y u=>bW (Q:=Iv) ⟨hx.2.gT,d.2.Wi hx.2⟩) h
   |un o a =>
    simp only[bB]at h;rw[R.n32]at e;exact eX (P:=Iv) (Q:=Iv) (fun v t=>m _ _ v t e j) (fun v t d y u=>bW (Q:=Iv) ⟨A.un o v,d.2⟩) h
   |bin o a b =>
    simp only[bB]at h;rw[R.n32]at e;exact eX (P:=Iv) (Q:=Iv) (fun v t=>m _ _ v t e.1 j) (fun v t d y u=>eI (Q:=Iv) (bW (Q:=Iv) (abp _ d.2)) (eX (P:=Iv) (Q:=Iv) (fun w x=>m _ _ w x e.2 d.2) (fun w x hx y u=>eI (Q:=Iv) (bW (Q:=Iv) (abp _ hx.2)) (eI (Q:=Iv) (bW (Q:=Iv) (S _ _ _ hx.2)) (bW (Q:=Iv) ⟨A.bin o v w,hx.2⟩))))) h
   |and_ a b =>
    simp only[bB]at h;rw[R.n32]at e;exact eX (P:=Iv) (Q:=Iv) (fun v t=>m _ _ v t e.1 j) (fun v t d y u=>eI (Q:=Iv) (bW (Q:=Iv) (abp _ d.2)) (eI (Q:=Iv) (bW (Q:=Iv) (abp _ d.2)) (eX (P:=Iv) (Q:=Iv) (fun w x=>m _ _ w x e.2 d.2) (fun w x hx y u=>eI (Q:=Iv) (bW (Q:=Iv) (abp _ hx.2)) (bW (Q:=Iv) ⟨by unfold cz;split<;>omega,hx.2⟩))))) h
   |or_ a b =>
    simp only[bB]at h;rw[R.n32]at e;exact eX (P:=Iv) (Q:=Iv) (fun v t=>m _ _ v t e.1 j) (fun v t d y u=>eI (Q:=Iv) (bW (Q:=Iv) (abp _ d.2)) (eI (Q:=Iv) (bW (Q:=Iv) ⟨⟨by omega,by omega⟩,d.2⟩) (eX (P:=Iv) (Q:=Iv) (fun w x=>m _ _ w x e.2 d.2) (fun w x hx y u=>eI (Q:=Iv) (bW (Q:=Iv) (abp _ hx.2)) (bW (Q:=Iv) ⟨by unfold cz;split<;>omega,hx.2⟩))))) h
   |setL k a =>
    simp only[bB]at h;rw[R.n32]at e;exact eX (P:=Iv) (Q:=Iv) (fun v t=>m _ _ v t e j) (fun v t d y u=>eI (Q:=Iv) (bW (Q:=Iv) (abp _ d.2)) (bW (Q:=Iv) ⟨rO,d.2.aaC (Ft d.2.locs d.1 k)⟩)) h
   |setG k a =>
    simp only[bB]at h;rw[R.n32]at e;exact eX (P:=Iv) (Q:=Iv) (fun v t=>m _ _ v t e j) (fun v t d y u=>eI (Q:=Iv) (bW (Q:=Iv) (abp _ d.2)) (bW (Q:=Iv) ⟨rO,d.2.aaB (Ft d.2.bF d.1 k)⟩)) h
   |putA k i v =>
    simp only[bB]at h;rw[R.n32]at e;exact eX (P:=Iv) (Q:=Iv) (fun v t=>m _ _ v t e.1 j) (fun n t d y u=>eI (Q:=Iv) (bW (Q:=Iv) (abp _ d.2)) (eI (Q:=Iv) (eX (P:=Iv) (Q:=Iv) (fun w x=>m _ _ w x e.2 d.2) (fun w x hx y u=>eI (Q:=Iv) (bW (Q:=Iv) (abp _ hx.2)) (bW (Q:=Iv) ⟨rO,TG hx.2 k n hx.1⟩))) (bW (Q:=Iv) (S _ _ _ d.2)))) h
   |if1 c b =>
    simp only[bB]at h;rw[R.n32]at e;exact eX (P:=Iv) (Q:=Iv) (fun v t=>m _ _ v t e.1 j) (fun v t d y u=>eI (Q:=Iv) (bW (Q:=Iv) (abp _ d.2)) (eI (Q:=Iv) (eX (P:=Iv) (Q:=Iv) (fun w x=>m _ _ w x e.2 d.2) (fun w x hx y u=>bW (Q:=Iv) (abp _ hx.2))) (bW (Q:=Iv) (abp _ d.2)))) h
   |if2 c b b2 =>
    simp only[bB]at h;rw[R.n32]at e;exact eX (P:=Iv) (Q:=Iv) (fun v t=>m _ _ v t e.1 j) (fun v t d y u=>eI (Q:=Iv) (bW (Q:=Iv) (abp _ d.2)) (eI (Q:=Iv) (eX (P:=Iv) (Q:=Iv) (fun w x=>m _ _ w x e.2.1 d.2) (fun w x hx y u=>bW (Q:=Iv) (abp _ hx.2))) (eX (P:=Iv) (Q:=Iv) (fun w x=>m _ _ w x e.2.2 d.2) (fun w x hx y u=>bW (Q:=Iv) (abp _ hx.2))))) h
   |while_ c b =>
    simp only[bB]at h;rw[R.n32]at e;exact eX (P:=fun _ t=>Rg t) (Q:=Iv) (fun v t=>G _ _ _ v t e.1 e.2 j) (fun v t d y u=>bW (Q:=Iv) (abp _ d)) h
   |ret a =>
    simp only[bB]at h;rw[R.n32]at e;exact eX (P:=Iv) (Q:=Iv) (fun v t=>m _ _ v t e j) (fun v t d y u=>eI (Q:=Iv) (bW (Q:=Iv) (abp _ d.2)) (bW (Q:=Iv) ⟨rO,d.2.aaE d.1⟩)) h
   |do_ a =>
    simp only[bB]at h;rw[R.n32]at e;exact eX (P:=Iv) (Q:=Iv) (fun v t=>m _ _ v t e j) (fun v t d y u=>bW (Q:=Iv) (abp _ d.2)) h
   |block l =>
    simp only[bB]at h;rw[R.n32]at e;exact eX (P:=fun _ t=>Rg t) (Q:=Iv) (fun v t=>E _ _ v t e j) (fun v t d y u=>bW (Q:=Iv) (abp _ d)) h
  ·cases l with
   |nil=>simp only[kb]at h;exact bW (Q:=fun v t=>(∀x∈v,cz x)/\Rg t) ⟨I,j⟩ h
   |cons r l =>
    simp only[kb]at h;rw[R.pU]at e
    have z:∀v,cz v->∀x∈q++[v],cz x:=fun v hv x hx=>by
     rcases sb hx with hx|hx
     ·exact I x hx
     ·rw[KE hx];exact hv
    exact eX (P:=Iv) (Q:=fun v t=>(∀x∈v,cz x)/\Rg t) (fun v t=>m _ _ v t e.1 j) (fun v t d y u=>eI (Q:=fun v t=>(∀x∈v,cz x)/\Rg t) (bW (Q:=fun v t=>(∀x∈v,cz x)/\Rg t) ⟨z v d.1,d.2⟩) (C _ _ _ y u e.2 (z v d.1) d.2)) h
  ·cases l with
   |nil=>simp only[jz]at h;exact bW (Q:=fun _ t=>Rg t) j h
   |cons r l =>
    simp only[jz]at h;rw[R.pU]at e;exact eX (P:=Iv) (Q:=fun _ t=>Rg t) (fun v t=>m _ _ v t e.1 j) (fun v t d y u=>eI (Q:=fun _ t=>Rg t) (bW (Q:=fun _ t=>Rg t) d.2) (E _ _ y u e.2 d.2)) h
  ·simp only[lW]at h;exact eX (P:=Iv) (Q:=fun _ t=>Rg t) (fun v t=>m _ _ v t N j) (fun v t d y u=>eI (Q:=fun _ t=>Rg t) (bW (Q:=fun _ t=>Rg t) d.2) (eI (Q:=fun _ t=>Rg t) (bW (Q:=fun _ t=>Rg t) d.2) (eX (P:=Iv) (Q:=fun _ t=>Rg t) (fun w x=>m _ _ w x J d.2) (fun w x hx y u=>eI (Q:=fun _ t=>Rg t) (bW (Q:=fun _ t=>Rg t) hx.2) (G _ _ _ y u N J hx.2))))) h
end
end Go.Mn
namespace Go.Im
open Go.Xp Go.Sp
def wD(n:Nd)(ls:List ai):Int:=if n.aj=13 then(ls.length:Int)else bP (fun x=>x==n.s) ls
def fV(s:List Int)(a:Nat)(t:T)(ls:List ai):List Int:=s.set a (wD t.n ls)
mutual
def sU(own:List Int):Nat->T->List ai->Prop
 |a,.mk n l,E=>own[a]?=some (wD n E)/\rI own (a+1) l E
def rI(own:List Int):Nat->List T->List ai->Prop
 |_,[],_=>True
 |a,t::r,E=>sU own a t E/\rI own (a+bg t) r (E++dn t)
end
mutual
def sU.congr{o G:List Int}:∀(t:T)(a:Nat)(ls:List ai),(∀j,a<=j->j<a+bg t->G[j]?=o[j]?)->sU o a t ls->sU G a t ls
 |.mk n l,a,ls,e,h=>by
  rw[sU]at h |-;rw[bg]at e;exact⟨by rw[e a (a8 _) aK];exact h.1,rI.congr l (a+1) ls (fun j z v=>e j aK aK) h.2⟩
def rI.congr{o G:List Int}:∀(l:List T)(a:Nat)(ls:List ai),(∀j,a<=j->j<a+aZ l->G[j]?=o[j]?)->rI o a l ls->rI G a l ls
 |[],a,ls,e,h=>by simp[rI]
 |t::r,a,ls,e,h=>by
  rw[rI]at h |-;rw[aZ]at e;exact⟨sU.congr t a ls (fun j z v=>e j z aK) h.1,rI.congr r _ _ (fun j z v=>e j aK aK) h.2⟩
end
structure Uk(o o':List Int)(a n:Nat):Prop where
 len:o'.length=o.length
 out:∀j,j<a\/a+n<=j->o'[j]?=o[j]?
mutual
def LC:∀(t:T)(a:Nat)(s:List Int)(ls:List ai),a+bg t<=s.length->Uk s (iO fV t a s ls).1 a (bg t)/\sU (iO fV t a s ls).1 a t ls
 |.mk n l,a,s,ls,W=>by
  rw[bg]at W;rw[iO];have e:fV s a (.mk n l) ls=s.set a (wD n ls):=rfl;rw[e];have⟨⟨z,v⟩,I⟩:=HA l (a+1) (s.set a (wD n ls)) ls zfk;rw[length_set]at z;refine⟨⟨z,fun j o=>?_⟩,?_⟩
  ·grind[bg,List.getElem?_set_ne]
  ·rw[sU]
   grind
def HA:∀(l:List T)(a:Nat)(s:List Int)(ls:List ai),a+aZ l<=s.length->Uk s (eL fV l a s ls).1 a (aZ l)/\rI (eL fV l a s ls).1 a l ls
 |[],a,s,ls,W=>by rw[eL,rI];exact⟨⟨rfl,fun _ _=>rfl⟩,trivial⟩
 |t::r,a,s,ls,W=>by
  rw[aZ]at W;rw[eL,BE];have⟨⟨z,v⟩,I⟩:=LC t a s ls aK;generalize(iO fV t a s ls).1=M at *;have⟨⟨c,F⟩,H⟩:=HA r (a+bg t) M (ls++dn t) aK;generalize(eL fV r (a+bg t) M (ls++dn t)).1=Q at *;refine⟨⟨c.trans z,fun j o=>?_⟩,?_⟩
  ·grind[aZ]
  ·rw[rI];exact⟨I.congr t a ls (fun j b O=>F j aK),H⟩
end
def pV:List Go.Sp.Fn->List T->Nat->List Int->List Int
 |f::M,t::l,a,s=>pV M l (a+bg t) (iO fV t a s f.params).1
 |_,_,_,s=>s
def B3:∀(M:List Go.Sp.Fn)(l:List T)(a:Nat)(s:List Int),a+aZ l<=s.length->Uk s (pV M l a s) a (aZ l)/\∀(i:Nat)f t,M[i]?=some f->l[i]?=some t->sU (pV M l a s) (a+aZ (l.take i)) t f.params
 |[],l,a,s,h=>by
  have e:pV [] l a s=s:=by rfl
  rw[e];exact⟨⟨rfl,fun _ _=>rfl⟩,fun i f t h=>by simp at h⟩
 |f::M,[],a,s,h=>⟨⟨rfl,fun _ _=>rfl⟩,fun i f t _ h=>by simp at h⟩
 |f::M,t::l,a,s,h=>by
  rw[aZ]at h;rw[pV];have⟨⟨z,v⟩,I⟩:=LC t a s f.params aK;generalize(iO fV t a s f.params).1=N at *;have⟨⟨c,F⟩,H⟩:=B3 M l (a+bg t) N aK;generalize pV M l (a+bg t) N=Q at *;refine⟨⟨c.trans z,fun j o=>?_⟩,fun i g u G W=>?_⟩
  ·grind[aZ]
  ·cases i with
   |zero =>
    cases G;cases W
    rw[List.take_zero,aZ];exact I.congr t a f.params (fun j b O=>F j aK)
   |succ i =>
    grind[aZ]
def rI.at_{own:List Int}:∀{l:List T}{a k:Nat}{t:T}{ls:List ai},rI own a l ls->l[k]?=some t->sU own (a+aZ (l.take k)) t (ls++bL (l.take k))
 |[],a,k,t,ls,_,h=>by simp at h
 |u::l,a,0,t,ls,h,G=>by
  rw[rI]at h;cases G;rw[List.take_zero,aZ,bL,gw];exact h.1
 |u::l,a,k+1,t,ls,h,G=>by
  rw[rI]at h;have:=rI.at_ h.2 (show l[k]?=some t by simpa using G);rw[List.take_succ_cons,aZ,bL,show a+(bg u+aZ (l.take k))=a+bg u+aZ (l.take k) by omega,<-eU];exact this
open Go.Mn
def NM(n:Nd):Prop:=(n.aj=1->0<=n.n/\n.n<=2147483647)/\(n.aj=5->n.s=[45]\/n.s=[33]\/n.s=[126])/\(n.aj=6->fX n.s=true)
theorem pL{n:Nd}(z:n.aj≠1)(v:n.aj≠5)(I:n.aj≠6):NM n:=⟨fun h=>absurd h z,fun h=>absurd h v,fun h=>absurd h I⟩
mutual
def jK:T->Prop
 |.mk n l=>NM n/\eO l
def eO:List T->Prop
 |[]=>True
 |t::r=>jK t/\eO r
end
mutual
theorem RM:∀t:T,jK (er t)↔jK t
 |.mk n l=>by rw[er,jK,jK,NN l];rfl
theorem NN:∀l:List T,eO (bp l)↔eO l
 |[]=>by rw[bp]
 |t::r=>by rw[bp,eO,eO,RM t,NN r]
end
mutual
theorem E.sx:∀a:E,a.ok=true->jK a.tree
 |.num n,h=>by
  rw[E.ok,a6,decide_eq_true_eq,decide_eq_true_eq]at h;rw[E.tree,jK];exact⟨⟨fun _=>h,fun h=>absurd h zfm,fun h=>absurd h zfm⟩,trivial⟩
 |.name s,_=>by rw[E.tree,jK];exact⟨pL zfm zfm zfm,trivial⟩
 |.at_ s a,h=>by rw[E.ok,a6]at h;rw[E.tree,jK,eO,eO];exact zeG
 |.call s l,h=>by rw[E.ok,a6]at h;rw[E.tree,jK];exact⟨pL zfm zfm zfm,E.De l h.2⟩
 |.un s a,h=>by
  rw[E.ok,a6]at h;rw[E.tree,jK,eO,eO];refine⟨⟨fun h=>absurd h zfm,fun _=>?_,fun h=>absurd h zfm⟩,E.sx a h.2,trivial⟩;have z:=h.1;simp only[Bool.or_eq_true,beq_iff_eq]at z
  rcases z with(z|z)|z
  ·exact .inl z
  ·exact .inr (.inl z)
  ·exact .inr (.inr z)
 |.bin s a b,h=>by
  rw[E.ok,a6,a6]at h;rw[E.tree,jK,eO,eO,eO];exact⟨⟨fun h=>absurd h zfm,fun h=>absurd h zfm,fun _=>h.1.1⟩,E.sx a h.1.2,E.sx b h.2,trivial⟩
theorem E.De:∀l:List E,E.dv l=true->eO (E.aJ l)
 |[],_=>trivial
 |a::l,h=>by rw[E.dv,a6]at h;rw[E.aJ,eO];exact⟨E.sx a h.1,E.De l h.2⟩
end
mutual
theorem S.sx:∀a:S,a.ok=true->jK a.tree
 |.set s a,h=>by rw[S.ok,a6]at h;exact zds
 |.put s a b,h=>by rw[S.ok,a6,a6]at h;rw[S.tree,jK,eO,eO,eO];simp_all[pL,E.sx,trivial]
 |.if1 c b,h=>zdX
 |.if2 c b d,h=>by rw[S.ok,a6,a6]at h;rw[S.tree,jK,eO,eO,eO,eO,jK,jK];simp_all[pL,E.sx,S.De,trivial]
 |.while_ c b,h=>zdX
 |.ret a,h=>by rw[S.ok]at h;exact zds
 |.do_ a,h=>by rw[S.ok]at h;exact zds
 |.var s a,h=>by rw[S.ok,a6]at h;rw[S.tree,jK,eO,eO];exact zeG
theorem S.De:∀l:List S,S.dv l=true->eO (S.aJ l)
 |[],_=>trivial
 |a::l,h=>by rw[S.dv,a6]at h;rw[S.aJ,eO];exact⟨S.sx a h.1,S.De l h.2⟩
end
theorem WI(l:List S)(h:S.dv l=true):jK (cx l):=by grind[pL,S.De,jK,cx]
def Good.sx{p:Src}{l:List T}(h:Good p l){i:Nat}{t:T}(H:l[i]?=some t):jK t:=by
 have⟨E,N⟩:=h.st.Af;have M:=(bG H).1;have s:=N.len;have⟨z,v⟩:=N.at_ i t _ H (cq aK)
 grind[RM,WI]
def Ci:∀{l:List T}{k:Nat}{t:T},eO l->l[k]?=some t->jK t
 |[],k,t,h,G=>by simp at G
 |a::l,0,t,h,G=>by grind[eO]
 |a::l,k+1,t,h,G=>by rw[eO]at h;exact Ci (l:=l) h.2 G
theorem It:∀{l:List R}{k:Nat}{r:R},R.pU l->l[k]?=some r->r.n32
 |[],k,r,_,h=>by simp at h
 |a::l,0,r,s,h=>by grind[R.pU]
 |a::l,k+1,r,s,h=>by rw[R.pU]at s;exact It s.2 zfs
def Wn{r:List R}(h:R.pU r)(k:Nat):(r0 r k).n32:=by
 grind[rO,It,R.n32,r0]
def Qe{p:Src}(h:p.aq.all la=true)(s:ai):cz (su p s):=by
 unfold su;split
 ·rename_i a O;have:=fL.1 h a (bR O);unfold la at this
  grind[cz]
 ·exact rO
def S9{c:Prop}[Decidable c]{x y:R}(hx:x.n32)(m:y.n32):(if c then x else y).n32:=by
 grind
def TB{p:Src}{n:Nd}{l:List T}{ls:List ai}{r:List R}(ha:p.aq.all la=true)(o:NM n)(i:R.pU r):(nY p n l ls r).n32:=by
 have F:=Wn i;have E:=Qe ha;unfold nY
 by_cases z:n.aj=1
 ·rw[ae z,R.n32];have:=o.1 z;grind[cz]
 rw[ab z]
 repeat' (refine S9 ?_ ?_)
 all_goals rw[R.n32]
 all_goals first|trivial|exact E _|exact F _|exact⟨F _,F _⟩|grind|exact i
mutual
def AY{p:Src}(ha:p.aq.all la=true):∀(t:T)(ls:List ai),jK t->(qB p t ls).n32
 |.mk n l,ls,h=>by
  rw[jK]at h;rw[qB];exact TB ha h.1 (IK ha l ls h.2)
def IK{p:Src}(ha:p.aq.all la=true):∀(l:List T)(ls:List ai),eO l->R.pU (eA p l ls)
 |[],ls,_=>by simp[R.pU,eA]
 |t::r,ls,h=>by
  rw[eO]at h;rw[eA,R.pU];exact⟨AY ha t ls h.1,IK ha r _ h.2⟩
end
end Go.Im
namespace Go.Mn
structure iu where
 fin:Int
 why:Int
 n:Int
 out:List Int
 ay:Nat
 bF:List Int
def nC(t:M):iu:=if t.fin=0 then⟨1,0,t.gT,t.out,t.ay,t.bF⟩else⟨t.fin,t.why,0,t.out,t.ay,t.bF⟩
def DU:iu:=⟨4,0,0,[],0,[]⟩
section
variable{O:Op}{F:Nat}{B:Nat->R}
def UL{g:Nat}{r:R}{s:M}{y:Int × M}(h:ev O F B g r s=some y)(k:Nat):ev O F B (g+k) r s=some y:=by
 induction k with
 |zero=>exact h
 |succ k q=>exact(Hz (g+k)).1 r s y q
def Xz{g t:Nat}(hg:g<=t){r:R}{s:M}{y:Int × M}(h:ev O F B g r s=some y):ev O F B t r s=some y:=by
 have:=UL h (t-g)
 rwa[show g+(t-g)=t by omega]at this
def pY(O:Op)(F:Nat)(B:Nat->R)(r:R)(s:M):M:=match ev O F B (3*F+1) r s with
 |some (_,t)=>t
 |none=>s
def vw(r:R)(s:M):∃v,ev O F B (3*F+1) r s=some (v,pY O F B r s):=by
 obtain⟨v,t,h,_⟩:=(WM (O:=O) (F:=F) (B:=B) F).e (3*F+1) r s aK (a8 _);exact⟨v,by unfold pY;rw[h]⟩
def P2{F':Nat}(j:F<=F')(r:R)(s:M)(N:s.fin≠3)(o:s.ay<=F) :
  (pY O F B r s).ay<=F/\((pY O F B r s).fin≠3/\pY O F' B r s=pY O F B r s\/(pY O F B r s).fin=3/\(pY O F B r s).ay=F/\(pY O F B r s).out <+: (pY O F' B r s).out):=by
 have⟨v,z⟩:=vw (O:=O) (F:=F) (B:=B) r s;have⟨Q,w⟩:=vw (O:=O) (F:=F') (B:=B) r s;refine⟨((qc (O:=O) (B:=B) (HJ F) _).1 r s _ _ z).2 o,?_⟩;have I:=Xz (show 3*F+1<=3*F'+1 by omega) z
 rcases(LD (O:=O) (B:=B) j (3*F'+1)).1 r s N o v _ Q _ I w with⟨a,_,b⟩|⟨a,b,c⟩
 ·exact .inl ⟨a,b.symm⟩
 ·exact .inr ⟨a,b,c⟩
end
end Go.Mn
namespace Go.Im
open Go.Xp Go.Sp Go.Mn
def mW(p:Src)(v:List Int):M:=⟨v,[],List.replicate p.aw.length 0,p.aq.map fun a=>List.replicate a.size.toNat 0,0,0,0,1,List.replicate 40 0,false,0⟩
def iN(S:Int):Nat:=(min (max S 0) 20000).toNat
def my(p:Src)(l:List T)(v:List Int)(F:Nat):M:=pY jY F (jd p l) (jd p l (jF p jn).toNat) (mW p v)
def jG(p:Src)(v:List Int)(S:Int):iu:=if il p=true then(match lb p.ak p.az 0 []with|some (l,_)=>nC (my p l v (iN S))|none=>DU)else DU
def qy{p:Src}{l:List T}(h:Good p l)(hg:il p=true)(v:List Int)(S:Int):jG p v S=nC (my p l v (iN S)):=by
 unfold jG;rw[ae hg,h.st.G8]
end Go.Im
