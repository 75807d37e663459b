/- Part 2 of proofs that are told in their last texts. -/
import Derived.Test.YtfmnfhpifpjljaaGreatDoorZ1
open List (all_cons any_eq_false cons_append drop_left find?_eq_none flatMap_cons getElem?_of_mem length_cons length_nil length_set mem_cons_self nil_append prefix_refl take_append_drop zip_cons_cons)
set_option linter.unusedVariables false
set_option linter.unusedSimpArgs false
set_option linter.defProp false
set_option maxRecDepth 100000
namespace Go.Im
open Go.Xp Go.Sp
def pJ(n:Int):ai:=if n<0 then 45::gN n.natAbs else gN n.toNat
def tV(s:ai):Int:=match levels.findIdx? (fun l=>l.contains s)with|some i=>(i:Int)|none => -1
def vt(b:Bool)(x:ai):ai:=if b=true then(40::x)++[41]else x
def oT(t:T)(M:Int):Bool:=(t.n.ab==6)&&decide (tV t.n.s<M)
def wh(n:Nd)(l:List T)(x:List ai):ai :=
 if n.ab=1 then pJ n.n
 else if n.ab=3 then((n.s++[91])++x.getD 0 [])++[93]
 else if n.ab=4 then((n.s++[40])++cE x)++[41]
 else if n.ab=5 then(n.s++[32])++(match l with|a::_=>vt (a.n.ab==6) (x.getD 0 [])|[]=>[])
 else if n.ab=6 then(match l with
  |a::b::_=>(((vt (oT a (tV n.s)) (x.getD 0 [])++[32])++n.s)++[32])++vt (oT b (tV n.s+1)) (x.getD 1 [])
  |_=>[])
 else n.s
mutual
def eh:T->ai
 |.mk n l=>wh n l (jd l)
def jd:List T->List ai
 |[]=>[]
 |t::r=>eh t::jd r
end
def Pw(t:T):eh t=wh t.n t.au (jd t.au):=by cases t;rfl
theorem Kn(l:List T):jd l=l.map eh:=by
 induction l with
 |nil=>rfl
 |cons t l O=>grind[jd]
mutual
def lE:T->Nat
 |.mk n l=>n.s.length+60+iZ l
def iZ:List T->Nat
 |[]=>0
 |t::r=>lE t+iZ r
end
def pF(t:T):lE t=t.n.s.length+60+iZ t.au:=by cases t;rfl
def uk{l:List T}{t:T}(h:t∈l):lE t<=iZ l:=by
 induction l with
 |nil=>cases h
 |cons a l O =>
  grind[lE,iZ]
def Ri(l:List T):l.length*60<=iZ l:=by
 induction l with
 |nil=>simp
 |cons t l O=>rw[iZ,pF,length_cons];omega
theorem Nf{n:Nat}(h:n<100000000000000000000):(gN n).length<=20:=IX 19 n aI
theorem xT{n:Int}(h : -9223372036854775808<=n/\n<=9223372036854775807):(pJ n).length<=21:=by
 grind[Nf,length_cons,pJ]
theorem IH(b:Bool)(x:ai):(vt b x).length<=x.length+2:=by
 grind[vt]
theorem Ab:∀(x:List ai),(cE x).length<=(x.map fun y=>y.length+2).sum
 |[]=>by simp[cE]
 |y::r=>by
  simp[cE,ai]
mutual
def sA:T->Prop
 |.mk n l=>(-9223372036854775808<=n.n/\n.n<=9223372036854775807)/\rP l
def rP:List T->Prop
 |[]=>True
 |t::r=>sA t/\rP r
end
def rv(t:T):sA t↔(-9223372036854775808<=t.n.n/\t.n.n<=9223372036854775807)/\rP t.au:=by cases t;rfl
def kM{l:List T}{t:T}(h:rP l)(o:t∈l):sA t:=by
 induction l with
 |nil=>cases o
 |cons a l O =>
  grind[rP]
def wj:∀(N:Nat)(t:T),bc t<=N->sA t->(eh t).length+4<=lE t:=by
 intro N
 induction N with
 |zero=>grind[fC]
 |succ N O =>
  intro t z W;rw[fC]at z;rw[rv]at W
  have k:∀a∈t.au,(eh a).length+4<=lE a:=fun a A=>by
   refine O a ?_ (kM W.2 A)
   have:∀(l:List T),a∈l->bc a<=aR l:=by
    intro l
    induction l with
    |nil=>simp
    |cons b l d =>
     grind[bc,aR]
   grind
  have c:((jd t.au).map fun y=>y.length+2).sum<=iZ t.au:=by
   have:∀(l:List T),(∀a∈l,(eh a).length+4<=lE a)->((jd l).map fun y=>y.length+2).sum<=iZ l:=by
    intro l
    induction l with
    |nil=>intro _;simp[jd]
    |cons a l d =>
     intro h;have M:=h a (mem_cons_self)
     have v:=d fun b w=>h b (ew _ w)
     rw[jd,iZ,List.map_cons,List.sum_cons];omega
   grind
  have s:((jd t.au).getD 0 []).length<=iZ t.au:=by
   cases V:t.au with
   |nil=>simp[jd]
   |cons a r =>
    grind[jd]
  have n:∀a b r,t.au=a::b::r->((jd t.au).getD 0 []).length+((jd t.au).getD 1 []).length+8<=iZ t.au:=fun a b r V=>by
   have M:=k a ze3;have v:=k b ze3;rw[V,jd,jd,iZ,iZ];grind
  rw[Pw,pF];unfold wh
  grind[xT,bf,length_cons,length_nil,Ab,IH]
def zC(own:ai)(n:Nd)(k:Nat)(x b:List ai):ai :=
 if n.ab=13 then((([118,97,114,32]++n.s)++[32,61,32])++x.getD 0 [])++[59]
 else if n.ab=7 then((n.s++[32,61,32])++x.getD 0 [])++[59]
 else if n.ab=8 then((((n.s++[91])++x.getD 0 [])++[93,32,61,32])++x.getD 1 [])++[59]
 else if n.ab=9 then(if k=3 then((([105,102,32,40]++x.getD 0 [])++[41,32])++b.getD 1 [])++([32,101,108,115,101,32]++b.getD 2 [])else(([105,102,32,40]++x.getD 0 [])++[41,32])++b.getD 1 [])
 else if n.ab=10 then(([119,104,105,108,101,32,40]++x.getD 0 [])++[41,32])++b.getD 1 []
 else if n.ab=11 then([114,101,116,117,114,110,32]++x.getD 0 [])++[59]
 else if n.ab=12 then x.getD 0 []++[59]
 else own
section
variable(tx:T->ai)(inl:List ai->Nat->ai)
mutual
def lb:Nat->T->ai
 |d,.mk n l=>zC (tx (.mk n l)) n l.length (l.map tx) (qu d l)
def qu:Nat->List T->List ai
 |_,[]=>[]
 |d,t::r=>n7 d t::qu d r
def n7:Nat->T->ai
 |d,.mk n l=>inl (yi (d+1) l) d
def yi:Nat->List T->List ai
 |_,[]=>[]
 |d,t::r=>lb d t::yi d r
end
end
section
variable(tx:T->ai)(inl:List ai->Nat->ai)(d:Nat)
def Pp(t:T):lb tx inl d t=zC (tx t) t.n t.au.length (t.au.map tx) (qu tx inl d t.au):=by cases t;rw[lb];rfl
def MG(t:T):n7 tx inl d t=inl (yi tx inl (d+1) t.au) d:=by cases t;rw[n7];rfl
def IF(l:List T):qu tx inl d l=l.map (n7 tx inl d):=by
 induction l with
 |nil=>rfl
 |cons t l O=>rw[qu,O];rfl
def Kd(l:List T):yi tx inl d l=l.map (lb tx inl d):=by
 induction l with
 |nil=>rfl
 |cons t l O=>rw[yi,O];rfl
end
def sr(H:ai)(l:List ai):ai:=l.foldl (fun H s=>H++(s++[32])) H
def gY(l:List ai)(d:Nat):ai:=sr [123,32] l++[125]
def lk:List ai->Nat
 |[]=>0
 |s::l=>s.length+1+lk l
theorem tE(l:List ai):∀H,(sr H l).length=H.length+lk l:=by
 induction l with
 |nil=>intro H;simp[sr,lk]
 |cons s l O =>
  intro H;have:=O (H++(s++[32]));simp only[sr,List.foldl_cons,lk,bf,length_cons,length_nil]at this |-;omega
def G2(a b:List ai):lk (a++b)=lk a+lk b:=by
 induction a with
 |nil=>simp[lk]
 |cons s a O=>simp only[cons_append,lk,O];omega
def Pt(l:List ai)(k:Nat):lk (l.take k)<=lk l:=by
 have:lk l=lk (l.take k)+lk (l.drop k):=by rw[<-G2,take_append_drop]
 omega
def MV(H:ai)(l:List ai)(s:ai):sr H (l++[s])=sr H l++(s++[32]):=by simp[sr]
def Vz{l:List ai}{s:ai}(h:s∈l):s.length<=lk l:=by
 induction l with
 |nil=>cases h
 |cons a l O =>
  rw[lk]
  rcases ln h with rfl|h
  ·omega
  ·have:=O h;omega
def QS{l:List ai}{d:Nat}{s:ai}(h:s∈l):s.length<=(gY l d).length:=by
 have M:=Vz h;have v:=tE l [123,32];unfold gY;rw[bf,v];omega
def g1(s:ai):ai:=([105,110,116,32]++s)++[59,10]
def a1(a:Ar):ai:=((([105,110,116,32]++a.name)++[91])++pJ a.size)++[93,59,10]
def eg(k:T->ai)(inl:List ai->Nat->ai)(x:Fn × T):ai:=((((([102,117,110,99,32]++x.1.name)++[40])++cE x.1.params)++[41,32])++n7 k inl 0 x.2)++[10]
def eB{S:Type}(f:S->ai):ai->List S->ai
 |acc,[]=>acc
 |acc,x::l=>eB f (acc++f x) l
section
variable{S:Type}(f:S->ai)
theorem xB(l:List S)(x:S):∀H,eB f H (l++[x])=eB f H l++f x:=by
 induction l with
 |nil=>intro H;rfl
 |cons y l O=>intro H;simp only[cons_append,eB];exact O _
def Qn(l k:List S):∀H,eB f H (l++k)=eB f (eB f H l) k:=by
 induction l with
 |nil=>intro H;rfl
 |cons y l O=>intro H;simp only[cons_append,eB];exact O _
def B2(l:List S):∀H,H.length<=(eB f H l).length:=by
 induction l with
 |nil=>intro H;exact aQ _
 |cons y l O=>intro H;have:=O (H++f y);rw[eB];rw[bf]at this;omega
def xC(l:List S)(k:Nat)(H:ai):(eB f H (l.take k)).length<=(eB f H l).length:=by
 have:eB f H l=eB f (eB f H (l.take k)) (l.drop k):=by rw[<-Qn,take_append_drop]
 rw[this];exact B2 f _ _
end
def n2(k:T->ai)(inl:List ai->Nat->ai)(p:Src)(aM:List T):ai:=eB (eg k inl) (eB a1 (eB g1 [] p.ax) p.aq) (p.ak.zip aM)
end Go.Im
namespace Go.Im
def fL{S:Type}(p:S->S->Bool):List S->List S->Bool
 |[],[]=>true
 |a::r,b::s=>p a b&&fL p r s
 |_,_=>false
section
variable{S:Type}{p:S->S->Bool}
def yB:∀{a b:List S},fL p a b=true->a.length=b.length
 |[],[],_=>rfl
 |a::r,b::s,h=>by rw[fL,aU]at h;rw[length_cons,length_cons,yB h.2]
 |[],b::s,h=>by cases h
 |a::r,[],h=>by cases h
def r8{a b:List S}(h:a.length≠b.length):fL p a b=false:=by
 cases k:fL p a b with
 |false=>rfl
 |true=>exact absurd (yB k) h
theorem Fk:∀{a b:List S}{k:Nat}{x y:S},a[k]?=some x->b[k]?=some y->fL p a b=true->p x y=true
 |a::r,b::s,0,x,y,M,v,h=>by cases M;cases v;rw[fL,aU]at h;exact h.1
 |a::r,b::s,k+1,x,y,M,v,h=>by rw[fL,aU]at h;exact Fk zfc zfq h.2
 |[],_,k,x,y,M,v,h=>by simp at M
 |a::r,[],k,x,y,M,v,h=>by simp at v
def r9{a b:List S}{k:Nat}{x y:S}(M:a[k]?=some x)(v:b[k]?=some y)(h:p x y=false):fL p a b=false:=by
 cases l:fL p a b with
 |false=>rfl
 |true=>have:=Fk M v l;rw[h]at this;cases this
def I3:∀{a b:List S},a.length=b.length->(∀(k:Nat)x y,a[k]?=some x->b[k]?=some y->p x y=true)->fL p a b=true
 |[],[],_,_=>rfl
 |a::r,b::s,T,h=>by
  rw[fL,h 0 a b rfl rfl,I3 zfk fun k x y M v=>h (k+1) x y zfc zfq];rfl
 |[],b::s,T,h=>by simp at T
 |a::r,[],T,h=>by simp at T
end
def tJ{S:Type}(p:S->S->Bool)(a b:List S)(k:Nat):Prop:=∀j x y,j<k->a[j]?=some x->b[j]?=some y->p x y=true
section
variable{S:Type}{p:S->S->Bool}{a b:List S}
def nh{k:Nat}{x y:S}(M:a[k]?=some x)(z:b[k]?=some y)(h:tJ p a b k)(A:p x y=true):tJ p a b (k+1):=fun j u v G w N=>by
 by_cases R:j=k
 ·subst R;rw[M]at w;rw[z]at N;cases w;cases N;exact A
 ·exact h j u v aI w N
def om(T:a.length=b.length)(h:tJ p a b a.length):fL p a b=true :=
 I3 T fun k x y M v=>h k x y (bR M).1 M v
end
def rQ(a b:Go.Sp.Fn):Bool:=((a.name==b.name)&&fL (fun x y=>x==y) a.params b.params)&&(a.body==b.body)
def kG(a b:Go.Xp.Nd):Bool:=(((a.ab==b.ab)&&(a.n==b.n))&&(a.s==b.s))&&fL (fun x y=>x==y) a.au b.au
def zj(x y:Go.Xp.Ar):Bool:=(x.name==y.name)&&(x.size==y.size)
open Go.Xp Go.Sp
def I7(l:List T):(bo l).length=l.length:=by grind[td]
def xI(t:T):(er t).n=⟨t.n.ab,0,t.n.n,t.n.s,[]⟩:=by cases t;rfl
def Uo(t:T):(er t).au=bo t.au:=by cases t;rfl
mutual
theorem Bx:∀t:T,bc (er t)=bc t
 |.mk n l=>by rw[er,bc,bc,wg l]
theorem wg:∀l:List T,aR (bo l)=aR l
 |[]=>by rw[bo]
 |t::r=>by rw[bo,aR,aR,Bx t,wg r]
end
def DH(m:Nat):∀(l:List T)(i:Nat),bW m i (bo l)=bW m i l
 |[],i=>by rw[bo]
 |t::r,i=>by rw[bo,bW,bW,DH m r (i+1),xI]
def D6:∀(l:List T),(bo l).all (fun x=>jo x.n.ab)=l.all (fun x=>jo x.n.ab)
 |[]=>by rw[bo]
 |t::r=>by rw[bo,all_cons,all_cons,D6 r,xI]
def X5(n:Nd)(k:Nat)(c:Nat->Bool)(J:Bool)(h:0<=n.at_)(L:own ⟨n.ab,0,n.n,n.s,[]⟩ k c J=true):own n k c J=true:=by
 grind[own]
mutual
def MB:∀t:T,ef (er t)=true->xl t->ef t=true
 |.mk n l,h,z=>by
  rw[er,ef,aU]at h;rw[xl]at z;rw[ef,aU];refine⟨IA l h.1 z.2,?_⟩;have v:own ⟨n.ab,0,n.n,n.s,[]⟩ (bo l).length (fun m=>bW m 0 (bo l)) ((bo l).all fun x=>jo x.n.ab)=true:=h.2;rw[I7,D6]at v;simp only[DH]at v;exact X5 n _ _ _ z.1 v
def IA:∀l:List T,dK (bo l)=true->mc l->dK l=true
 |[],_,_=>rfl
 |t::r,h,z=>by
  rw[bo,dK,aU]at h;rw[mc]at z;rw[dK,aU];exact⟨MB t h.1 z.1,IA r h.2 z.2⟩
end
mutual
theorem MA:∀t:T,ef t=true->xl t
 |.mk n l,h=>by
  rw[ef,aU]at h;rw[xl];refine⟨?_,Iz l h.1⟩;have v:own n l.length (fun m=>bW m 0 l) (l.all fun x=>jo x.n.ab)=true:=h.2
  grind[own]
theorem Iz:∀l:List T,dK l=true->mc l
 |[],_=>trivial
 |t::r,h=>by
  rw[dK,aU]at h;rw[mc];exact⟨MA t h.1,Iz r h.2⟩
end
def lS(a:E):nL a.tree.n.ab=true:=by cases a<;>rfl
mutual
def E.hY:∀a:E,a.ok=true->ef a.tree=true
 |.num n,h=>by
  simp only[E.ok,aU]at h
  grind[dK,cK,own,T.n,T.au,ef,E.tree]
 |.name s,h=>by
  grind[E.ok,dK,cK,own,T.n,T.au,ef,E.tree]
 |.at_ s a,h=>by
  simp only[E.ok,aU]at h;have v:=E.hY a h.2;have w:=lS a
  exact zd0
 |.call s l,h=>by
  simp only[E.ok,aU]at h;have⟨v,w⟩:=E.sk l h.2;rw[E.tree,ef,v];have:=w (E.aM l).length 0 aI;simp[cK,own,T.n,T.au,h.1,this]
 |.un s a,h=>by
  simp only[E.ok,aU]at h;have v:=E.hY a h.2;have w:=lS a
  exact zd0
 |.bin s a b,h=>by
  simp only[E.ok,aU]at h;have v:=E.hY a h.1.2;have w:=lS a;have N:=E.hY b h.2;have S:=lS b
  exact zd0
def E.sk:∀l:List E,E.dF l=true->dK (E.aM l)=true/\∀m i,i+(E.aM l).length<=m->bW m i (E.aM l)=true
 |[],_=>⟨rfl,fun m i _=>rfl⟩
 |a::l,h=>by
  simp only[E.dF,aU]at h;have⟨v,w⟩:=E.sk l h.2;refine⟨by rw[E.aM,dK,E.hY a h.1,v];rfl,fun m i G=>?_⟩;rw[E.aM,length_cons]at G;rw[E.aM,bW,ae aI,lS a,w m (i+1) aI];rfl
end
def Ye(a:S):jo a.tree.n.ab=true:=by cases a<;>rfl
mutual
def S.hY:∀a:S,a.ok=true->ef a.tree=true
 |.set s a,h=>by
  simp only[S.ok,aU]at h;have v:=E.hY a h.2;have w:=lS a
  exact zd1
 |.var s a,h=>by
  simp only[S.ok,aU]at h;have v:=E.hY a h.2;have w:=lS a
  exact zd1
 |.ret a,h=>by
  exact zcr
 |.do_ a,h=>by
  exact zcr
 |.put s a b,h=>by
  simp only[S.ok,aU]at h;have v:=E.hY a h.2.1;have w:=lS a;have N:=E.hY b h.2.2;have V:=lS b
  exact zd1
 |.if1 c b,h=>by
  exact zbX
 |.if2 c b t,h=>by
  simp only[S.ok,aU]at h;have v:=E.hY c h.1;have w:=lS c;have N:=S.vr b h.2.1;have V:=S.vr t h.2.2;rw[S.tree,ef,dK,dK,dK,dK,v,N,V];simp[cK,own,T.n,T.au,bW];exact w
 |.while_ c b,h=>by
  exact zbX
def S.vr:∀l:List S,S.dF l=true->ef (.mk ⟨14,0,0,[],[]⟩ (S.aM l))=true
 |l,h=>by
  have⟨M,v⟩:=S.sk l h;have w:cK (.mk ⟨14,0,0,[],[]⟩ (S.aM l))=own ⟨14,0,0,[],[]⟩ (S.aM l).length (fun m=>bW m 0 (S.aM l)) ((S.aM l).all fun x=>jo x.n.ab):=rfl;rw[ef,M,w,v];simp[own]
def S.sk:∀l:List S,S.dF l=true->dK (S.aM l)=true/\(S.aM l).all (fun x=>jo x.n.ab)=true
 |[],_=>⟨rfl,rfl⟩
 |a::l,h=>by
  simp only[S.dF,aU]at h;have⟨M,v⟩:=S.sk l h.2;exact⟨by rw[S.aM,dK,S.hY a h.1,M];rfl,by rw[S.aM,all_cons,v,Ye a];rfl⟩
end
def ZS{n:Nd}{k:Nat}{c:Nat->Bool}{J:Bool}(h:own n k c J=true):c7 n.ab k=true:=by
 have m:n.ab=1\/n.ab=2\/n.ab=3\/n.ab=4\/n.ab=5\/n.ab=6\/n.ab=7\/n.ab=8\/n.ab=9\/n.ab=10\/n.ab=11\/n.ab=12\/n.ab=13\/n.ab=14\/(n.ab<1\/14<n.ab):=by omega
 unfold own at h
 by_cases s:decide (n.at_<0)=true
 ·grind
 rw[D s]at h
 by_cases M:(n.ab != 1&&n.n != 0)=true
 ·grind
 rw[D M]at h;clear s M
 rcases m with l|l|l|l|l|l|l|l|l|l|l|l|l|l|l
 all_goals(first|(simp[l]at h;simp[c7,l];done)|(simp[l]at h;simp[c7,l];omega)|(simp[l]at h;simp[c7,l,h];done)|skip)
 ·exfalso
  have e:(n.ab==1)=false:=by grind
  have L:(n.ab==2)=false:=by grind
  grind
mutual
def Sq:∀t:T,ef t=true->eY t=true
 |.mk n l,h=>by
  rw[ef,aU]at h;rw[eY,MC l h.1,Bool.and_true];exact ZS h.2
def MC:∀l:List T,dK l=true->qB l=true
 |[],_=>rfl
 |t::r,h=>by
  rw[dK,aU]at h;rw[qB,Sq t h.1,MC r h.2];rfl
end
def Rj(t:T)(z:Int):oT (er t) z=oT t z:=by unfold oT;rw[xI]
def VG(n:Nd)(l:List T)(x:List ai):wh ⟨n.ab,0,n.n,n.s,[]⟩ (bo l) x=wh n l x:=by
 unfold wh
 match l with
 |[]=>rw[bo]
 |[a]=>rw[bo,bo];simp[xI]
 |a::b::r=>rw[bo,bo];simp[xI,Rj]
mutual
theorem Px:∀t:T,eh (er t)=eh t
 |.mk n l=>by rw[er,eh,eh,CL l,VG]
theorem CL:∀l:List T,jd (bo l)=jd l
 |[]=>by rw[bo]
 |t::r=>by rw[bo,jd,jd,Px t,CL r]
end
mutual
def Yl(inl:List ai->Nat->ai):∀(t:T)(d:Nat),lb eh inl d (er t)=lb eh inl d t
 |.mk n l,d=>by
  have h:=Px (.mk n l);rw[er]at h |-;rw[lb,lb,h,ID inl l d,I7]
  have:(bo l).map eh=l.map eh:=by grind[Kn,CL]
  rw[this];rfl
def ID(inl:List ai->Nat->ai):∀(l:List T)(d:Nat),qu eh inl d (bo l)=qu eh inl d l
 |[],d=>by rw[bo]
 |t::r,d=>by rw[bo,qu,qu,MI inl t d,ID inl r d]
def MI(inl:List ai->Nat->ai):∀(t:T)(d:Nat),n7 eh inl d (er t)=n7 eh inl d t
 |.mk n l,d=>by rw[er,n7,n7,Kc inl l (d+1)]
def Kc(inl:List ai->Nat->ai):∀(l:List T)(d:Nat),yi eh inl d (bo l)=yi eh inl d l
 |[],d=>by rw[bo]
 |t::r,d=>by rw[bo,yi,yi,Yl inl t d,Kc inl r d]
end
theorem OI{s:ai}(h:fX s=true):tV s=(eX s:Int):=by
 grind[List.findIdx?_eq_none_iff,fX,qQ,tV,eX]
def JI{a:E}(h:a.ok=true)(k:Nat)(m:k<=9):oT a.tree (k:Int)=decide (a.lv<k):=by
 have c:∀b:Bool,(false&&b)=decide (9<k):=fun b=>by grind
 cases a with
 |bin s x y =>
  simp only[E.ok,aU]at h;show(true&&decide (tV s<(k:Int)))=decide (eX s<k)
  simp_all[OI,Bool.true_and,decide_eq_decide]
 |num n=>exact c _
 |name n=>exact c _
 |at_ s a=>exact c _
 |call s l=>exact c _
 |un s a=>exact c _
def B0(lv k:Nat)(x:ai):vt (decide (lv<k)) x=qU lv k x:=by
 simp[ai,vt,qU]
def V7{a:E}(h:a.ok=true):(a.tree.n.ab==6)=decide (a.lv<9):=by
 cases a with
 |bin s x y =>
  simp only[E.ok,aU]at h;have:=(sd h.1.1).1;show true=decide (eX s<9)
  grind
 |_=>rfl
mutual
def kp:∀a:E,a.ok=true->eh a.tree=a.bP
 |.num n,h=>by
  simp only[E.ok,aU,decide_eq_true_eq]at h;rw[E.tree,eh,E.bP];unfold wh pJ
  grind
 |.name s,h=>by
  rfl
 |.at_ s a,h=>by
  simp only[E.ok,aU]at h;have v:=kp a h.2;rw[E.tree,eh,jd,jd,v,E.bP];simp[wh]
 |.call s l,h=>by
  simp only[E.ok,aU]at h;rw[E.tree,eh,Ko l h.2,E.bP];simp[wh]
 |.un s a,h=>by
  simp only[E.ok,aU]at h;have v:=kp a h.2;rw[E.tree,eh,jd,jd,v,E.bP,<-B0,<-V7 h.2];simp[wh]
 |.bin s a b,h=>by
  simp only[E.ok,aU]at h;have v:=kp a h.1.2;have w:=kp b h.2;have T:=(sd h.1.1).1;have e:=JI h.1.2 (eX s) aI;have J:=JI h.2 (eX s+1) aI;rw[E.tree,eh,jd,jd,jd,v,w,E.bP,<-B0,<-B0,<-e,<-J];unfold wh
  grind[OI]
def Ko:∀l:List E,E.dF l=true->jd (E.aM l)=E.ei l
 |[],_=>rfl
 |a::l,h=>by
  simp only[E.dF,aU]at h;rw[E.aM,jd,E.ei,kp a h.1,Ko l h.2]
end
def C9(x:E->ai):∀(l:List S)(H:ai),sr H (l.map (S.bP x))=S.ei x H l
 |[],H=>by rfl
 |a::l,H=>by
  rw[S.ei,<-C9 x l];simp[ai,sr,S.bP]
mutual
def Vw:∀(s:S),s.ok=true->∀d,lb eh gY d s.tree=s.bP E.bP
 |.set s a,h,d=>by
  exact zdw
 |.var s a,h,d=>by
  exact zdw
 |.ret a,h,d=>by
  exact zdP
 |.do_ a,h,d=>by
  exact zdP
 |.put s a b,h,d=>by
  simp only[S.ok,aU]at h;rw[S.tree,lb,List.map_cons,List.map_cons,kp a h.2.1,kp b h.2.2,S.bP];simp[zC]
 |.if1 c b,h,d=>by
  exact zcG
 |.if2 c b t,h,d=>by
  simp only[S.ok,aU]at h;have v:=vq b h.2.1 d;have C:=vq t h.2.2 d;rw[S.tree,lb,List.map_cons,kp c h.1,qu,qu,qu,qu,v,C,S.bP];simp[zC,ir]
 |.while_ c b,h,d=>by
  exact zcG
def vq:∀(l:List S),S.dF l=true->∀d,n7 eh gY d (.mk ⟨14,0,0,[],[]⟩ (S.aM l))=ir E.bP l
 |l,h,d=>by
  rw[n7,Ke l h (d+1),gY,C9];rfl
def Ke:∀(l:List S),S.dF l=true->∀d,yi eh gY d (S.aM l)=l.map (S.bP E.bP)
 |[],_,d=>by rfl
 |a::l,h,d=>by
  simp only[S.dF,aU]at h;rw[S.aM,yi,List.map_cons,Vw a h.1,Ke l h.2]
end
def tI{S:Type}{p:S->S->Bool}(h:∀x,p x x=true):∀l:List S,fL p l l=true
 |[]=>rfl
 |a::l=>by rw[fL,h a,tI h l];rfl
def yA{S:Type}[BEq S][LawfulBEq S]:∀{a b:List S},fL (fun x y=>x==y) a b=true->a=b
 |[],[],_=>rfl
 |a::r,b::s,h=>by rw[fL,aU,beq_iff_eq]at h;rw[h.1,yA h.2]
 |[],b::s,h=>by cases h
 |a::r,[],h=>by cases h
def I4{S:Type}{p:S->S->Bool}:∀{a b:List S}{c d:List S},a.length=b.length->fL p (a++c) (b++d)=(fL p a b&&fL p c d)
 |[],[],c,d,_=>rfl
 |a::r,b::s,c,d,h=>by rw[cons_append,cons_append,fL,fL,I4 ze3,Bool.and_assoc]
 |[],b::s,_,_,h=>by simp at h
 |a::r,[],_,_,h=>by simp at h
def wP:∀(l:List T)(a:Nat),bQ a (bo l)=bQ a l
 |[],a=>by rw[bo]
 |t::r,a=>by rw[bo,bQ,bQ,Bx,wP r]
mutual
theorem Uu:∀(t u:T)(a:Nat),er t=er u->fL kG (jC a t) (jC a u)=true
 |.mk n l,.mk m k,a,h=>by
  rw[er,er]at h
  injection h with h1 h2
  injection h1 with h3 h4 h5 h6 h7
  rw[jC,jC,fL,Ca l k (a+1) h2,Bool.and_true,<-wP l,<-wP k,h2];simp only[kG,h3,h5,h6];simp[tI]
theorem Ca:∀(l k:List T)(a:Nat),bo l=bo k->fL kG (ey a l) (ey a k)=true
 |[],[],a,_=>by rfl
 |t::r,u::s,a,h=>by
  rw[bo,bo]at h
  injection h with h1 h2
  have m:bc t=bc u:=by grind[Bx]
  rw[ey,ey,I4 (by grind[Ut]),Uu t u a h1,<-m,Ca r s _ h2];rfl
 |[],u::s,a,h=>by grind[bo]
 |t::r,[],a,h=>by grind[bo]
end
mutual
def Vt:∀(t u:T)(a:Nat)(x y:List Nd),fL kG (jC a t++x) (jC a u++y)=true->er t=er u/\fL kG x y=true
 |.mk n l,.mk m k,a,x,y,h=>by
  rw[jC,jC,cons_append,cons_append,fL,aU]at h;have⟨M,v⟩:=h;simp only[kG,aU,beq_iff_eq]at M;have⟨⟨⟨w,N⟩,V⟩,S⟩:=M;have R:=congrArg List.length (yA S);rw[db,db]at R;have⟨z,i⟩:=CF l k (a+1) x y R v
  grind[er,fL,kG]
def CF:∀(l k:List T)(a:Nat)(x y:List Nd),l.length=k.length->fL kG (ey a l++x) (ey a k++y)=true->bo l=bo k/\fL kG x y=true
 |[],[],a,x,y,_,h=>by grind[ey]
 |t::r,u::s,a,x,y,V,h=>by
  rw[ey,ey,gS,gS]at h;have⟨M,v⟩:=Vt t u a _ _ h
  have m:bc t=bc u:=by grind[Bx]
  rw[<-m]at v;have⟨w,N⟩:=CF r s _ x y ze3 v
  grind[bo,fL,kG]
 |[],u::s,a,x,y,V,h=>by simp at V
 |t::r,[],a,x,y,V,h=>by simp at V
end
def Vs{l k:List T}(V:l.length=k.length)(h:fL kG (ey 0 l) (ey 0 k)=true):bo l=bo k:=by
 have:=CF l k 0 [] [] V ze3
 grind
structure PS where
 aM:List T
 ax:List ai
 aq:List Ar
 ak:List (ai × List ai)
def PS.empty:PS:=⟨[],[],[],[]⟩
def py:Nat->List ai->RS->Option (List ai × RS)
 |0,_,_=>none
 |f+1,H,p =>
  if p.code=0/\is p 0 [41]=false then py f (H++[(tok (if H.length=0 then p else want p [44]) 0).s]) (bV (if H.length=0 then p else want p [44]))
  else some (H,want p [41])
def iW(f:Nat)(p:RS)(st:PS):Option (RS × PS) :=
 if is p 0 iU=true then
  if(bV p.next).code=0/\is (bV p.next) 0 [91]=true then
   if(tok (bV p.next).next 0).ab=1 then
    some (want (want (bV p.next).next.next [93]) [59],{ st with aq:=st.aq++[⟨(tok p.next 0).s,(tok (bV p.next).next 0).n⟩] })
   else some (ly (bV p.next).next,st)
  else some (want (bV p.next) [59],{ st with ax:=st.ax++[(tok p.next 0).s] })
 else if is p 0 jq=true then
  match py f [] (want (bV p.next) [40])with
  |none=>none
  |some (l,q) =>
   if q.code=0 then match iS f (.block 1) q with
    |none=>none
    |some (t,q)=>some (q,{ st with aM:=st.aM++[t],ak:=st.ak++[((tok p.next 0).s,l)] })
   else some (q,st)
 else some (ly p,st)
def n9:Nat->Nat->RS->PS->Option (RS × PS)
 |0,_,_,_=>none
 |g+1,f,p,st =>
  if p.code=0/\p.i<p.l.length then match iW f p st with
   |none=>none
   |some (p,st)=>n9 g f p st
  else some (p,st)
def Oa:∀(f:Nat)(H:List ai)(p:RS)(l:List ai)(q:RS),p.ok->py f H p=some (l,q)->p.to q
 |0,_,_,_,_,_,h=>by cases h
 |f+1,H,p,l,q,A,h=>by
  rw[py]at h;split at h
  ·have M:p.to (if H.length=0 then p else want p [44]):=by grind[jR,dh]
   have v:=jv (M.ok A);have w:=Oa f _ _ l q ((M.trans v).ok A) h
   grind[RS.to]
  grind[dh]
def Zo{f:Nat}{p q:RS}{st O:PS}(A:p.ok)(h:iW f p st=some (q,O)):p.to q:=by
 unfold iW at h;split at h
 ·rename_i u;have M:=kH u;have v:=M.trans (jv (M.ok A));split at h
  ·rename_i z;have w:=v.trans (kH z.2);split at h
   ·rename_i k
    have B:(tok (bV p.next).next 0).ab≠0:=by omega
    have N:=w.trans (cU (by have:=sj B;exact this));have S:=N.trans (dh (N.ok A) [93])
    cases h;exact S.trans (dh (S.ok A) _)
   ·cases h;exact w.trans (xi (w.ok A))
  ·cases h;exact v.trans (dh (v.ok A) _)
 ·split at h
  ·rename_i u;have M:=kH u;have v:=M.trans (jv (M.ok A));have w:=v.trans (dh (v.ok A) [40])
   cases G:py f [] (want (bV p.next) [40])with
   |none=>grind
   |some r =>
    have⟨l,C⟩:=r;rw[G]at h;simp only at h;have N:=w.trans (Oa _ _ _ _ _ (w.ok A) G);split at h
    ·cases z:iS f (.block 1) C with
     |none=>grind
     |some r =>
      have⟨t,s⟩:=r;rw[z]at h;cases h;exact N.trans ((EC f).1 _ _ _ _ (N.ok A) z)
    grind
  grind[xi]
structure PS.le(a:PS)(n:Nat):Prop where
 aM:a.aM.length<=n
 ax:a.ax.length<=n
 aq:a.aq.length<=n
 ak:a.ak.length=a.aM.length
def Zm{f n:Nat}{p q:RS}{st N:PS}(h:iW f p st=some (q,N))(r:st.le n):N.le (n+1):=by
 have⟨a,b,c,d⟩:=r;have e:st.le (n+1):=⟨by omega,by omega,by omega,d⟩;unfold iW at h;split at h
 ·split at h
  ·split at h
   ·cases h;exact⟨by grind,by grind,by grind,by omega⟩
   grind
  ·cases h;exact⟨by grind,by grind,by grind,by omega⟩
 ·split at h
  ·split at h
   ·cases h
   ·split at h
    ·split at h
     ·cases h
     ·cases h;exact⟨by grind,by grind,by grind,by grind⟩
    grind
  grind
end Go.Im
namespace Go.Sp
open Go.Xp
inductive Tz(s:ai):Nat->List Tok->Nat->Prop
 |nil (a:Nat):Tz s a [] a
 |blank {a b:Nat} {c:UInt8} {ts:List Tok} (hc:s[a]?=some c) (hb:fk c=true) (h:Tz s (a+1) ts b):Tz s a ts b
 |tok {a a' b:Nat} {c:UInt8} {t:Tok} {ts:List Tok} (hc:s[a]?=some c) (hb:fk c=false) (hr:cr s a [47,42]=false) (ht:gD s a c=(t,a')) (hk:t.ab=1\/t.ab=2\/t.ab=3) (hn:t.n<=2147483647) (ha:a<a') (h:Tz s a' ts b):Tz s a (t::ts) b
def Tz.app{s:ai}{a b c:Nat}{ts us:List Tok}(h:Tz s a ts b)(k:Tz s b us c):Tz s a (ts++us) c:=by
 induction h with
 |nil a=>exact k
 |blank l v h O=>exact .blank l v (O k)
 |tok l v r o m T z h O=>exact .tok l v r o m T z (O k)
def Tz.kinds{s:ai}{a b:Nat}{ts:List Tok}(h:Tz s a ts b):∀t∈ts,t.ab=1\/t.ab=2\/t.ab=3:=by
 induction h with
 |nil a=>simp
 |blank k v h O=>exact O
 |tok k v r o l T z h O =>
  grind
def Tz.len{s:ai}{a b:Nat}{ts:List Tok}(h:Tz s a ts b):a+ts.length<=b:=by
 induction h with
 |nil a=>simp
 |blank k v h O=>omega
 |tok k v r o l T z h O=>grind
theorem Pm(s:ai):∀(f B a:Nat),a<=s.length->s.length<f+a->s.length<B+a->skip s f a=skip s B a:=by
 intro f
 induction f with
 |zero=>omega
 |succ f O =>
  intro B a M v w;obtain⟨B,rfl⟩:∃g,B=g+1:=⟨B-1,by omega⟩
  grind[List.getElem?_eq_some_iff,lP,sN,rN,cr,il,skip]
def Tz.hE{s:ai}{a b:Nat}{ts:List Tok}(h:Tz s a ts b):∀(f:Nat)(H:List Tok),qO s (f+ts.length) (skip s (s.length+1) a).1 H=qO s f (skip s (s.length+1) b).1 (H++ts):=by
 induction h with
 |nil a=>simp
 |blank k v h O =>
  rename_i a b c ts;intro f H;have M:=(bR k).1;rw[<-O f H]
  have:skip s (s.length+1) a=skip s (s.length+1) (a+1):=by
   rw[skip,k];grind[Pm]
  rw[this]
 |tok k v r o l T z h O =>
  rename_i a B b c t ts;intro f H
  have:skip s (s.length+1) a=(a,-1):=by
   grind[skip]
  rw[this,length_cons,<-nD,qO,k]
  grind
def Tz.all{s:ai}{ts:List Tok}(h:Tz s 0 ts s.length):Go.Sp.hE s=some ts:=by
 have M:=h.len;have v:=h.hE (s.length+2-ts.length) [];unfold Go.Sp.hE;rw[show s.length+2-ts.length+ts.length=s.length+2 by omega]at v;rw[v]
 have w:skip s (s.length+1) s.length=(s.length,-1):=by rw[skip];simp
 rw[w];obtain⟨g,B⟩:∃g,s.length+2-ts.length=g+1:=⟨s.length+1-ts.length,by omega⟩
 grind[qO]
theorem nU{s r:ai}{a:Nat}{c:UInt8}(h:s.drop a=c::r):s[a]?=some c/\s.drop (a+1)=r/\a<s.length:=by
 have M:s[a]?=some c:=by
  have:=List.getElem?_drop (xs:=s) (i:=a) (j:=0)
  grind
 grind[List.getElem?_eq_some_iff,List.tail_drop]
def Vp(s:ai)(p:UInt8->Bool):∀(w V:ai)(f a:Nat),s.drop a=w++V->(∀c∈w,p c=true)->run s p (f+w.length) a=run s p f (a+w.length):=by
 intro w
 induction w with
 |nil=>simp
 |cons c w O =>
  intro V f a h A;have⟨M,v,_⟩:=nU h;rw[length_cons,<-nD,run,M];simp only;rw[ae (A c (mem_cons_self)),O V f (a+1) v (fun c k=>A c (ew _ k))]
  grind
def RL(s:ai)(p:UInt8->Bool)(V:ai)(f a:Nat)(h:s.drop a=V)(A:∀c,V.head?=some c->p c=false):run s p f a=a:=by
 cases f with
 |zero=>rfl
 |succ f =>
  rw[run]
  cases V with
  |nil =>
   simp_all
  |cons c r =>
   grind[nU]
def F3{s w V:ai}{a:Nat}(h:s.drop a=w++V)(ha:a<=s.length):a+w.length+V.length=s.length:=by
 grind[mr]
def Sg{s w V:ai}{a:Nat}{c:UInt8}{r:ai}(ha:a<=s.length)(h:s.drop a=w++V)(S:w=c::r)(q:small c=true)(k:∀c∈w,fv c=true)(A:∀c,V.head?=some c->fv c=false) :
  gD s a c=(⟨if words.contains w=true then 3 else 2,0,w,a⟩,a+w.length):=by
 have T:=F3 h ha
 have R:gQ s a=a+w.length:=by
  unfold gQ;obtain⟨g,B⟩:∃g,s.length+1=g+w.length:=⟨s.length+1-w.length,by omega⟩;rw[B,Vp s fv w V g a h k];refine RL s fv V g _ ?_ A;rw[<-List.drop_drop,h,drop_left]
 have F:eF c=false:=by
  simp only[small,eF,aU]at q |-
  grind
 unfold gD;rw[D ze3,ae q]
 grind[jx]
def fold(n:Int)(w:ai):Int:=w.foldl (fun n c=>if n<=2147483647 then n*10+((c.toNat:Int)-48)else n) n
def LM(s:ai):∀(w V:ai)(f:Nat)(n:Int)(a:Nat),s.drop a=w++V->(∀c∈w,eF c=true)->number s (f+w.length) n a=number s f (fold n w) (a+w.length):=by
 intro w
 induction w with
 |nil=>grind[fold]
 |cons c w O =>
  intro V f n a h A;have⟨M,v,_⟩:=nU h;rw[length_cons,<-nD,number,M];simp only;rw[ae (A c (mem_cons_self)),O V f _ (a+1) v (fun c k=>A c (ew _ k))]
  grind[number,fold]
def H9(s:ai)(V:ai)(f:Nat)(n:Int)(a:Nat)(h:s.drop a=V)(A:∀c,V.head?=some c->eF c=false):number s f n a=(n,a):=by
 cases f with
 |zero=>rfl
 |succ f =>
  rw[number]
  cases V with
  |nil =>
   simp_all
  |cons c r =>
   grind[nU]
def Nc(k:Nat)(h:k<=9):eF (UInt8.ofNat (48+k))=true/\((UInt8.ofNat (48+k)).toNat:Int)=48+k:=by
 have:(UInt8.ofNat (48+k)).toNat=48+k:=by simp;omega
 grind[eF]
def IY(n:Nat):(∀c∈gN n,eF c=true)/\(n<=2147483647->fold 0 (gN n)=n)/\gN n≠[]:=by
 induction n using Nat.strongRecOn with
 |_ n O =>
 unfold gN
 by_cases h:n<10
 ·rw[dif_pos h];have⟨M,v⟩:=Nc n aI
  grind[fold]
 ·rw[dif_neg h];have⟨M,v,w⟩:=O (n / 10) aI;have⟨N,S⟩:=Nc (n%10) aI
  grind[fold]
def U3{s V:ai}{n a:Nat}{c:UInt8}{r:ai}(ha:a<=s.length)(h:s.drop a=gN n++V)(R:gN n=c::r)(hn:n<=2147483647)(A:∀c,V.head?=some c->eF c=false) :
  gD s a c=(⟨1,n,[],a⟩,a+(gN n).length):=by
 have⟨M,v,w⟩:=IY n;have T:=F3 h ha;have F:eF c=true:=M c ze3;obtain⟨g,B⟩:∃g,s.length+1=g+(gN n).length:=⟨s.length+1-(gN n).length,by omega⟩;unfold gD;rw[ae F,B,LM s (gN n) V g 0 a h M,v hn,H9 s V g _ _ (by rw[<-List.drop_drop,h,drop_left]) A]
def zd{s r t:ai}{a:Nat}(h:s.drop a=r)(ha:a<=s.length):cr s a t=t.isPrefixOf r:=by
 have T:a+r.length=s.length:=by grind
 unfold cr;rw[List.drop_take,h,Nat.add_sub_cancel_left]
 by_cases A:t <+: r
 ·obtain⟨z,rfl⟩:=A
  grind
 grind
def CD:List UInt8:=[32,40,41,91,93,44,59,123,125,10]
def Sep(V:ai):Prop:=∀c,V.head?=some c->c∈CD
theorem Sep.fv{V:ai}(h:Sep V):∀c,V.head?=some c->fv c=false:=by
 intro c k
 have:∀c∈CD,Go.Sp.fv c=false:=by decide
 exact this c (h c k)
theorem Sep.eF{V:ai}(h:Sep V):∀c,V.head?=some c->eF c=false:=by
 intro c k
 have:∀c∈CD,Go.Sp.eF c=false:=by decide
 exact this c (h c k)
theorem Vg{x y z:ai}(h:x.length<=y.length):x.isPrefixOf (y++z)=x.isPrefixOf y:=by
 induction x generalizing y with
 |nil=>simp
 |cons a x O =>
  cases y with
  |nil=>simp at h
  |cons b y=>grind
def find_congr{S:Type}{p q:S->Bool}:∀{l:List S},(∀x∈l,p x=q x)->l.find? p=l.find? q
 |[],_=>rfl
 |a::l,h=>by rw[List.find?_cons,List.find?_cons,h a (mem_cons_self),find_congr (fun x hx=>h x (ew _ hx))]
def RT{s w V:ai}{a:Nat}{c:UInt8}{r:ai}(ha:a<=s.length)(h:s.drop a=w++V)(R:w=c::r)(H:w∈cx)(A:Sep V) :
  gD s a c=(⟨3,0,w,a⟩,a+w.length)/\fk c=false/\cr s a [47,42]=false:=by
 have G:∀w∈cx,∀c,w.head?=some c->eF c=false/\small c=false/\fk c=false:=by
  have:∀w∈cx,(match w.head? with|some c=>!eF c&&!small c&&!fk c|none=>true)=true:=by decide
  grind
 have⟨M,v,z⟩:=G w H c ze3
 have W:∀w∈cx,w.length<=2/\1<=w.length:=by decide
 have d:∀w∈cx,cx.find? (fun x=>x.isPrefixOf w)=some w/\[47,42].isPrefixOf w=false:=by decide
 have F:∀w∈cx,∀c∈CD,cx.find? (fun x=>x.isPrefixOf (w++[c]))=some w/\[47,42].isPrefixOf (w++[c])=false:=by decide
 have t:cx.find? (cr s a)=some w/\cr s a [47,42]=false:=by
  have e:∀x,cr s a x=x.isPrefixOf (w++V):=fun x=>zd h ha
  have J:cx.find? (cr s a)=cx.find? (fun x=>x.isPrefixOf (w++V)):=find_congr fun x _=>e x
  rw[J,e]
  cases V with
  |nil=>grind
  |cons o V =>
   have k:=A o rfl
   have l:∀x:ai,x.length<=2->x.isPrefixOf (w++o::V)=x.isPrefixOf (w++[o]):=fun x hx=>by
    rw[show w++o::V=(w++[o])++V by simp]
    grind[Vg,bf]
   rw[find_congr fun x hx=>l x (W x hx).1,l _ aC]
   grind
 grind[gD,fk,cr]
def QI{s V:ai}{a:Nat}{c:UInt8}(ha:a<=s.length)(h:s.drop a=c::V)(G:c∈[40,41,91,93,44,59,123,125]) :
  gD s a c=(⟨3,0,[c],a⟩,a+1)/\fk c=false/\cr s a [47,42]=false:=by
 have F:∀c∈([40,41,91,93,44,59,123,125]:List UInt8),eF c=false/\small c=false/\fk c=false/\c≠47:=by decide
 have⟨M,w,v,N⟩:=F c G
 have e:∀x,cr s a x=x.isPrefixOf (c::V):=fun x=>zd h ha
 have J:cx.find? (cr s a)=cx.find? (fun x=>x.isPrefixOf (c::V)):=find_congr fun x _=>e x
 have d:∀V:ai,∀c∈([40,41,91,93,44,59,123,125]:List UInt8),cx.find? (fun x=>x.isPrefixOf (c::V))=some [c]:=by
  intro V c k;simp only[List.mem_cons,List.not_mem_nil,or_false]at k
  rcases k with rfl|rfl|rfl|rfl|rfl|rfl|rfl|rfl<;>rfl
 refine⟨?_,v,?_⟩
 ·unfold gD
  simp_all
 grind
end Go.Sp
namespace Go.Im
open Go.Xp Go.Sp
def oH:List ai:=[[105,110,116],[118,97,114],[102,117,110,99],[105,102],[101,108,115,101],[119,104,105,108,101],[114,101,116,117,114,110],[124,124],[38,38],[61,61],[33,61],[60,61],[62,61],[60,60],[62,62],[40],[41],[123],[125],[91],[93],[44],[59],[61],[60],[62],[43],[45],[42],[47],[37],[38],[124],[94],[33],[126]]
theorem yh:oH=words++cx:=by decide
def mh(s:ai):Bool:=oH.contains s
def mK:ai->Int->Int
 |[],n=>n
 |c::r,n=>if n<=2147483647 then mK r (10*n+((c.toNat:Int)-48))else n
def dI(s:ai)(a b:Nat):ai:=(s.take b).drop a
def km(s:ai)(a:Nat)(k:Nat):Bool:=decide (a+k<=s.length)&&(match s[a]? with|some c=>!(small c)|none=>false)&&mh (dI s a (a+k))
def ju(s:ai)(a:Nat):ai:=if km s a 2=true then dI s a (a+2)else if km s a 1=true then dI s a (a+1)else[]
def oj(s:ai)(a:Nat):Nat:=run s eF (s.length+1) a
def uh:Tok:=⟨0,0,[],0⟩
def mW(s:ai)(a:Nat)(c:UInt8):Tok × Nat × Int :=
 if eF c=true then
  if mK (dI s a (oj s a)) 0>2147483647 then(uh,a,3)else(⟨1,mK (dI s a (oj s a)) 0,[],a⟩,oj s a,0)
 else if small c=true then(⟨if mh (jx s a)=true then 3 else 2,0,jx s a,a⟩,gQ s a,0)
 else if ju s a=[]then(uh,a,2)
 else(⟨3,0,ju s a,a⟩,a+(ju s a).length,0)
def tO:ai->Option Nat
 |[]=>none
 |b::l=>if List.isPrefixOf [42,47] (b::l)then some 0 else match tO l with|none=>none|some n=>some (n+1)
def pV(s:ai):Nat->Nat->List Tok->Option (List Tok × Int × Int)
 |0,_,_=>none
 |f+1,a,H=>match s[a]? with
  |none=>some (H,0,0)
  |some c =>
   if fk c=true then pV s f (a+1) H
   else if cr s a [47,42]=true then
    match tO (s.drop (a+2))with
    |none=>some ([],4,a)
    |some n=>pV s f (a+(n+4)) H
   else if(mW s a c).2.2≠0 then some ([],(mW s a c).2.2,a)
   else pV s f (mW s a c).2.1 (H++[(mW s a c).1])
structure AG(t:Tok):Prop where
 num:t.ab=1->0<=t.n/\t.n<=2147483647/\t.s=[]
 name:t.ab=2->word t.s=true/\mh t.s=false
 aE:t.ab=3->mh t.s=true
 kinds:t.ab=1\/t.ab=2\/t.ab=3
theorem tF{s:ai}{a b:Nat}(h:b<=s.length):(dI s a b).length=b-a:=by
 grind[dI]
def qc{s:ai}{a b:Nat}{c:UInt8}(h:s[a]?=some c)(v:a<b)(T:b<=s.length):dI s a b=c::dI s (a+1) b:=by
 unfold dI;have M:=(bR h).1
 simp_all[List.getElem?_take,ae,List.getElem?_eq_some_iff,l8]
def CB(s:ai)(p:UInt8->Bool):∀(f a:Nat),a<=s.length->∀c∈dI s a (run s p f a),p c=true:=by
 intro f
 induction f with
 |zero =>
  simp[ai,dI,run]
 |succ f O =>
  intro a z c k;rw[Go.Sp.run]at k
  have e:∀x:ai,x=dI s a a->c∈x->p c=true:=fun x hx G=>by
   grind[dI,tF,jF]
  cases m:s[a]? with
  |none=>grind
  |some d =>
   rw[m]at k;simp only at k;have M:=(bR m).1
   by_cases A:p d=true
   ·rw[ae A]at k
    have T:a+1<=Go.Sp.run s p f (a+1)/\Go.Sp.run s p f (a+1)<=s.length:=by
     have:∀(f a:Nat),a<=s.length->a<=Go.Sp.run s p f a/\Go.Sp.run s p f a<=s.length:=by
      intro f
      induction f with
      |zero=>simp[run]
      |succ f O =>
       grind[run]
     grind
    rw[qc m aI T.2]at k
    grind
   grind
def JT:∀(w:ai)(n:Int),0<=n->(∀c∈w,eF c=true)->0<=mK w n
 |[],n,h,_=>h
 |c::r,n,h,F=>by
  rw[mK];have k:=F c (mem_cons_self);simp only[eF,aU,decide_eq_true_eq]at k;split
  ·exact JT r _ aI (fun c k=>F c (ew _ k))
  ·exact h
def QT{x:ai}(h:mh x=true):x≠[]:=by
 intro s;subst s;revert h;decide
def Kr{s:ai}{a:Nat}{c:UInt8}(m:s[a]?=some c)(u:(mW s a c).2.2=0):AG (mW s a c).1/\(mW s a c).1.at_=a/\a<(mW s a c).2.1/\(mW s a c).2.1<=s.length:=by
 have M:=(bR m).1;unfold mW at u |-
 by_cases F:eF c=true
 ·rw[ae F]at u |-
  by_cases T:mK (dI s a (oj s a)) 0>2147483647
  ·grind
  ·rw[D T];have⟨e,J,l⟩:=oX s eF (s.length+1) a aI aI
   have t:a<oj s a:=by
    grind[oj]
   refine⟨⟨fun _=>⟨JT _ _ aC (CB s eF _ a aI),by grind,rfl⟩,fun h=>by simp at h,fun h=>by simp at h,.inl rfl⟩,rfl,t,l⟩
 ·rw[D F]at u |-
  by_cases q:small c=true
  ·rw[ae q];have⟨e,J,l⟩:=oX s fv (s.length+1) a aI aI
   have z:fv c=true:=by simp[fv,q]
   have t:a<gQ s a:=by
    grind[gQ]
   have R:word (jx s a)=true:=by
    have N:jx s a=c::dI s (a+1) (gQ s a):=qc m t l;have v:=CB s fv (s.length+1) a aI;unfold word;have A:(jx s a).all fv=true:=fa.2 v
    grind
   refine⟨⟨fun h=>?_,fun h=>⟨R,?_⟩,fun h=>?_,?_⟩,rfl,t,l⟩
   ·grind
   ·grind
   ·grind
   simp
  ·rw[D q]at u |-
   by_cases B:ju s a=[]
   ·grind
   ·rw[D B]
    have d:mh (ju s a)=true/\a+(ju s a).length<=s.length:=by
     unfold ju at B |-
     have w:∀k,km s a k=true->mh (dI s a (a+k))=true/\a+(dI s a (a+k)).length<=s.length:=fun k h=>by
      simp_all[km,aU,decide_eq_true_eq,tF]
     grind
    have V:=List.length_pos_iff.2 (QT d.1);exact⟨⟨fun h=>by simp at h,fun h=>by simp at h,fun _=>d.1,.inr (.inr rfl)⟩,rfl,by grind,d.2⟩
def Ci:∀{l:ai}{n:Nat},tO l=some n->n+2<=l.length
 |[],n,h=>by cases h
 |b::l,n,h=>by
  rw[tO]at h;split at h
  ·grind
  ·cases o:tO l with
   |none=>grind
   |some m=>rw[o]at h;cases h;have:=Ci o;grind
def sc(s:ai):∀(f a:Nat)(H:List Tok),a<=s.length->s.length<f+a->(∀t∈H,AG t)->(H.Pairwise fun x y=>x.at_<y.at_)->(∀t∈H,t.at_<(a:Int))->H.length<=a ->
  ∃ts c z,pV s f a H=some (ts,c,z)/\(∀t∈ts,AG t)/\(ts.Pairwise fun x y=>x.at_<y.at_)/\ts.length<=s.length
 |0,a,H,M,w,_,_,_,_=>by omega
 |f+1,a,H,M,w,v,N,S,T=>by
  rw[pV]
  cases k:s[a]? with
  |none=>grind
  |some c =>
   simp only;have O:=(bR k).1;split
   ·exact sc s f (a+1) H aI aI v N (fun t o=>by grind) aI
   ·split
    ·rename_i A;have B:=lP A;simp only[length_cons,length_nil]at B
     cases u:tO (s.drop (a+2))with
     |none=>simp
     |some n =>
      have:=Ci u;rw[mr]at this;exact sc s f (a+(n+4)) H aI aI v N (fun t o=>by grind) aI
    ·split
     ·simp
     ·rename_i C;have⟨E,L,F,J⟩:=Kr k aI;refine sc s f _ _ J aI (fun t o=>?_) ?_ (fun t o=>?_) ze3
      ·grind
      ·grind
      grind
theorem zz(s:ai):∀(f:Nat)(n:Int)(a:Nat),a<=s.length->s.length<f+a->mK (dI s a (number s f n a).2) n=(number s f n a).1
 |0,n,a,M,v=>by omega
 |f+1,n,a,M,v=>by
  have e:dI s a a=[]:=jF (by simp[dI]);rw[number]
  cases k:s[a]? with
  |none=>simp only;rw[e,mK]
  |some c =>
   simp only;have N:=(bR k).1
   by_cases F:eF c=true
   ·rw[ae F];have⟨i,J,l⟩:=sW s f (if n<=2147483647 then n*10+((c.toNat:Int)-48)else n) (a+1) aI aI;rw[qc k aI l,mK];have O:=zz s f (if n<=2147483647 then n*10+((c.toNat:Int)-48)else n) (a+1) aI aI
    by_cases T:n<=2147483647
    ·grind
    ·rw[D T]at O |-;rw[D T];rw[<-O]
     cases R:dI s (a+1) (number s f n (a+1)).2 with
     |nil=>rw[mK]
     |cons d r=>grind[mK]
   grind[mK,dI,eF,number]
def Be(s:ai):∀(f:Nat)(n:Int)(a:Nat),(number s f n a).2=Go.Sp.run s eF f a
 |0,n,a=>rfl
 |f+1,n,a=>by
  rw[number,Go.Sp.run]
  cases k:s[a]? with
  |none=>rfl
  |some c =>
   simp only;split
   ·exact Be s f _ (a+1)
   ·rfl
theorem oL{s x:ai}{a:Nat}:cr s a x=(decide (a+x.length<=s.length)&&(dI s a (a+x.length)==x)):=rfl
def LY{s:ai}{a:Nat}{c:UInt8}(n:s[a]?=some c)(B:small c=false):ju s a=(match cx.find? (cr s a)with|some x=>x|none=>[]):=by
 have N:=(bR n).1
 have v:∀x∈cx,x.length=1\/x.length=2:=by decide
 have t:cx=cx.take 8++cx.drop 8:=(take_append_drop 8 cx).symm
 have e:∀x∈cx.take 8,x.length=2:=by decide
 have T:∀x∈cx.drop 8,x.length=1:=by decide
 have R:∀x∈words,∃d r,x=d::r/\small d=true:=by
  simp[ai,words,small]
 have C:∀k,1<=k->a+k<=s.length->dI s a (a+k)=c::dI s (a+1) (a+k):=fun k M v=>qc n aI v
 have G:∀k,1<=k->a+k<=s.length->(mh (dI s a (a+k))=true↔dI s a (a+k)∈cx):=fun k M v=>by
  unfold mh
  grind[yh,l9]
 have V:∀k,1<=k->(km s a k=true↔a+k<=s.length/\dI s a (a+k)∈cx):=fun k M=>by
  grind[km]
 have b:∀k,1<=k->k<=2->a+k<=s.length->dI s a (a+k)∈cx->(dI s a (a+k)).length=k:=fun k _ _ h _=>by grind[dI]
 unfold ju
 by_cases m:km s a 2=true
 ·rw[ae m];have⟨p,q⟩:=(V 2 aC).1 m
  have o:dI s a (a+2)∈cx.take 8:=by
   grind
  rw[t,List.find?_append]
  have:(cx.take 8).find? (cr s a)=some (dI s a (a+2)):=by
   cases u:(cx.take 8).find? (cr s a)with
   |none =>
    grind[find?_eq_none,oL,tF]
   |some x =>
    have M:=List.find?_some u;have A:=e x (List.mem_of_find?_eq_some u)
    grind[oL]
  grind
 ·rw[D m]
  have l:(cx.take 8).find? (cr s a)=none:=by
   rw[find?_eq_none];intro x hx w;rw[oL,e x hx]at w
   grind
  rw[t,List.find?_append,l]
  by_cases z:km s a 1=true
  ·rw[ae z];have⟨p,q⟩:=(V 1 aC).1 z
   have o:dI s a (a+1)∈cx.drop 8:=by
    grind
   have:(cx.drop 8).find? (cr s a)=some (dI s a (a+1)):=by
    cases u:(cx.drop 8).find? (cr s a)with
    |none =>
     grind[find?_eq_none,oL,tF]
    |some x =>
     have M:=List.find?_some u;have A:=T x (List.mem_of_find?_eq_some u)
     grind[oL]
   grind
  ·rw[D z]
   have:(cx.drop 8).find? (cr s a)=none:=by
    rw[find?_eq_none];intro x hx w;rw[oL,T x hx]at w
    grind
   grind
def VJ{s:ai}{a B:Nat}{c:UInt8}{t:Tok}(k:s[a]?=some c)(h:gD s a c=(t,B))(m:t.ab=1\/t.ab=2\/t.ab=3)(hn:t.n<=2147483647):mW s a c=(t,B,0):=by
 have M:=(bR k).1;unfold gD at h;unfold mW
 by_cases F:eF c=true
 ·rw[ae F]at h |-;cases h;have e:oj s a=(number s (s.length+1) 0 a).2:=(Be s _ 0 a).symm
  grind[zz]
 ·rw[D F]at h |-
  by_cases q:small c=true
  ·rw[ae q]at h |-;cases h
   have C:∃r,jx s a=c::r\/jx s a=[]:=by
    cases R:jx s a with
    |nil=>simp
    |cons d r =>
     have⟨e,J,l⟩:=oX s fv (s.length+1) a aI aI
     have z:fv c=true:=by simp[fv,q]
     have u:a<gQ s a:=by
      grind[gQ]
     have N:jx s a=c::dI s (a+1) (gQ s a):=qc k u l
     grind
   have G:mh (jx s a)=words.contains (jx s a):=by
    unfold mh;rw[yh]
    have H:∀x∈cx,(match x with|d::_=>small d|[]=>true)=false:=by decide
    grind
   rw[G]
  ·rw[D q]at h |-;rw[LY k ze3]
   cases v:cx.find? (cr s a)with
   |none=>grind
   |some x =>
    rw[v]at h;cases h;simp only;have hx:=List.mem_of_find?_eq_some v
    have A:x≠[]:=by
     intro w;subst w;revert hx;decide
    grind
def UP{s:ai}{a b:Nat}{ts:List Tok}(h:Tz s a ts b):b=s.length->∀(f:Nat)(H:List Tok),s.length<f+a->pV s f a H=some (H++ts,0,0):=by
 induction h with
 |nil a =>
  intro v f H t
  cases f with
  |zero=>omega
  |succ f =>
   grind[pV]
 |blank k B h O =>
  intro v f H t
  cases f with
  |zero=>grind
  |succ f =>
   grind[pV]
 |tok k B r o l T z h O =>
  intro v f H t
  cases f with
  |zero=>grind
  |succ f =>
   rw[pV,k];simp only;rw[D ze3,D ze3,VJ k o l T]
   grind
abbrev rY(ts:List Tok):Prop:=∀t∈ts,AG t
def EF(t:T):Prop:=∃a:E,a.ok=true/\er t=a.tree
def Ir(l:List T):Prop:=∃m:List E,E.dF m=true/\bo l=E.aM m
def Sf(ts r:List Tok)(n:Nat):Prop:=∃j,ts=j++r/\n<=j.length
theorem Sf.nil(ts:List Tok):Sf ts ts 0:=⟨[],rfl,bg _⟩
theorem Sf.one(t:Tok)(ts:List Tok):Sf (t::ts) ts 1:=⟨[t],rfl,aQ _⟩
def Sf.trans{a b c:List Tok}{n m:Nat}(h:Sf a b n)(k:Sf b c m):Sf a c (n+m):=by
 grind[Sf]
theorem Sf.le{a b:List Tok}{n m:Nat}(h:Sf a b n)(k:m<=n):Sf a b m:=by
 grind[Sf]
theorem Sf.ok{a b:List Tok}{n:Nat}(h:Sf a b n)(k:rY a):rY b:=by
 obtain⟨p,rfl,h⟩:=h
 grind
theorem Sf.a6{e:Int}{s:ai}{ts r:List Tok}(q:s≠[])(h:a6 e s ts=.ok r):Sf ts r 1:=by
 grind[wY,one]
theorem Sf.aE{s:ai}{ts:List Tok}(q:s≠[])(h:aE ts 0=s):Sf ts ts.tail 1:=by
 have⟨u,M,_⟩:=uc q h
 grind[one]
theorem RQ{s:ai}(h:mh s=false):words.contains s=false:=by
 grind[mh,yh,l9,cx,List.mem_append_left]
theorem ZF{t:Tok}(h:AG t)(k:t.ab=2)(T:t.s.length<=12):bY t.s=true:=by
 have⟨M,v⟩:=h.name k;unfold bY
 grind[RQ]
theorem Sf.name{e:Int}{s:ai}{ts r:List Tok}(h:name e ts=.ok (s,r))(k:rY ts):Sf ts r 1/\bY s=true:=by
 grind[Gc,one,ZF,mem_cons_self]
def TW{s:ai}{k:Nat}(h:s∈levels.getD k []):fX s=true:=by
 unfold fX;rw[qQ];rw[List.getD_eq_getElem?_getD]at h
 cases m:levels[k]? with
 |none=>grind
 |some l =>
  rw[m]at h;exact⟨l,bB m,by grind⟩
theorem ko(k a:Int)(s:ai)(l:List T):bc (one k a s l)=aR l+1:=by rfl
def Ir.snoc{l:List T}{t:T}(h:Ir l)(k:EF t):Ir (l++[t]):=by
 have⟨m,M,w⟩:=h;have⟨a,v,N⟩:=k
 have c:∀m:List E,E.dF m=true->E.dF (m++[a])=true/\E.aM (m++[a])=E.aM m++[a.tree]:=by
  intro m
  induction m with
  |nil=>intro _;simp[E.dF,E.aM,v]
  |cons b m O =>
   grind[E.dF,E.aM,E.tree]
 grind[I6,bo,Ir]
def xU:uq->Nat
 |.loop _ _ out=>bc out
 |_=>0
def jok:uq->Prop
 |.loop _ _ out=>EF out
 |_=>True
def Vj(e:Int):∀f,(∀j ts t r,rY ts->jok j->rd e f j ts=.ok (t,r)->EF t/\∃n,Sf ts r n/\bc t<=n+xU j) /\
  (∀d o ts l r,rY ts->Ir o->rd.args e f d o ts=.ok (l,r)->Ir l/\∃n,Sf ts r n/\aR l+1<=n+aR o):=by
 intro f
 induction f with
 |zero=>exact⟨fun j ts t r _ _ h=>by simp[rd]at h,fun d o ts l r _ _ h=>by simp[rd.args]at h⟩
 |succ f u =>
  have⟨u,L⟩:=u;refine⟨fun j ts t r i G h=>?_,fun d o ts l r i G h=>?_⟩
  ·cases j with
   |expr d =>
    rw[rd]at h;split at h
    ·cases h
    ·exact u (.level 0 (d+1)) ts t r i trivial h
   |level k d =>
    rw[rd]at h;split at h
    ·exact u (.operand d) ts t r i trivial h
    ·split at h
     ·cases h
     ·rename_i out M hx;have⟨q,n,c,F⟩:=u (.level (k+1) d) ts out M i trivial hx;have⟨v,m,C,w⟩:=u (.loop k d out) M t r (c.ok i) q h;exact⟨v,n+m,c.trans C,by grind[bc,xU]⟩
   |loop k d out =>
    cases ts with
    |nil=>rw[rd]at h;cases h;exact⟨G,0,.nil _,by simp[bc,xU]⟩
    |cons z r0 =>
     rw[rd]at h;split at h
     ·rename_i T;split at h
      ·cases h
      ·rename_i b H hx;obtain⟨⟨b',A,q⟩,n,c,F⟩:=u (.level (k+1) d) r0 b H (fun t ht=>i t (ew _ ht)) trivial hx;have⟨o',Q,h5⟩:=G;have h6:=(Sf.one z r0).trans c;obtain⟨v,m,C,w⟩:=u (.loop k d (one 6 z.at_ z.s [out,b])) H t r (h6.ok i) ⟨.bin z.s o' b',by simp only[E.ok,TW T.2,Q,A];rfl,by rw[eS,bo,bo,bo,h5,q,E.tree]⟩ h;refine⟨v,_,h6.trans C,?_⟩
       grind[ko,aR,bc,xU]
     ·cases h;exact⟨G,0,.nil _,by simp[bc,xU]⟩
   |operand d =>
    cases ts with
    |nil =>
     grind[rd]
    |cons z r0 =>
     rw[rd]at h;split at h
     ·cases h
     ·have J:rY r0:=fun t ht=>i t (ew _ ht)
      have B:=Sf.one z r0;split at h
      ·split at h
       ·rename_i hu;split at h
        ·cases h
        ·rename_i a H hx;cases h;have⟨⟨R,A,q⟩,n,c,F⟩:=u (.operand (d+1)) r0 a r J trivial hx;refine⟨⟨.un z.s R,?_,by rw[eS,bo,bo,q,E.tree]⟩,_,B.trans c,?_⟩
         ·grind[E.ok]
         ·simp only[xU,ko,aR]at *;omega
       ·split at h
        ·split at h
         ·cases h
         ·rename_i a H hx;split at h
          ·cases h
          ·rename_i r2 V;cases h;have⟨q,n,c,F⟩:=u (.expr (d+1)) r0 t H J trivial hx;exact⟨q,_,(B.trans c).trans (Sf.a6 aC V),by grind[bc,xU]⟩
        ·cases h
      ·split at h
       ·rename_i hk;cases h;have⟨v,C,w⟩:=(i z mem_cons_self).num hk;exact⟨⟨.num z.n,by grind[E.ok],by rfl⟩,1,B,by simp only[xU,bc,aR];omega⟩
       ·split at h
        ·cases h
        ·rename_i s H W;have⟨v,C⟩:=Sf.name W i;split at h
         ·rename_i S;have w:=v.trans (Sf.aE aC S);split at h
          ·cases h
          ·rename_i a r2 hx;split at h
           ·cases h
           ·rename_i r3 V;cases h;have⟨⟨R,A,q⟩,n,c,F⟩:=u (.expr (d+1)) _ a r2 (w.ok i) trivial hx;refine⟨⟨.at_ s R,by grind[E.ok],by rw[eS,bo,bo,q,E.tree]⟩,_,(w.trans c).trans (Sf.a6 aC V),?_⟩;simp only[xU,ko,aR]at *;omega
         ·split at h
          ·rename_i S;have w:=v.trans (Sf.aE aC S);split at h
           ·cases h
           ·rename_i l r2 hx;cases h;have⟨⟨es,A,q⟩,n,c,F⟩:=L _ _ _ l r (w.ok i) ⟨[],rfl,rfl⟩ hx;refine⟨⟨.call s es,by grind[E.ok],by rw[eS,q,E.tree]⟩,_,w.trans c,?_⟩
            grind[ko,aR]
          ·cases h;exact⟨⟨.name s,by grind[E.ok],by rfl⟩,1,v,by grind[ko,aR]⟩
  ·rw[rd.args]at h;split at h
   ·rename_i T;cases h;exact⟨G,1,Sf.aE aC T,by omega⟩
   ·split at h
    ·cases h
    ·rename_i N hx
     have A:Sf ts N 0:=by
      split at hx
      ·cases hx;exact .nil _
      ·exact(Sf.a6 aC hx).le (bg _)
     split at h
     ·cases h
     ·rename_i a O hy;have⟨q,n,c,F⟩:=u (.expr d) N a O (A.ok i) trivial hy;have Q:=A.trans c;have⟨v,m,C,w⟩:=L _ (o++[a]) O l r (Q.ok i) (G.snoc q) h;refine⟨v,_,Q.trans C,?_⟩
      grind[xU,o7,aR]
section
variable{e:Int}{d:Nat}
theorem xL{ts r:List Tok}{t:T}(k:rY ts)(h:expr e d ts=.ok (t,r)):EF t/\Sf ts r (bc t):=by
 have⟨M,n,v,w⟩:=(Vj e _).1 (.expr d) ts t r k trivial h
 grind[xU,EF,Sf,bc]
def wL{a b:ai}{ts r:List Tok}{t:T}(ha:a≠[])(z:b≠[])(k:rY ts)(h:inner e d a b ts=.ok (t,r)):EF t/\Sf ts r (bc t+2):=by
 unfold inner at h;split at h
 ·cases h
 ·rename_i C M;have B:=Sf.a6 ha M;split at h
  ·cases h
  ·rename_i c s v;have⟨L,u⟩:=xL (B.ok k) v;split at h
   ·cases h
   ·rename_i E w;cases h;exact⟨L,((B.trans u).trans (Sf.a6 z w)).le aI⟩
theorem Bq{ts r:List Tok}{s:ai}{t:T}(k:rY ts)(h:l6 e d ts=.ok ((s,t),r)):bY s=true/\EF t/\Sf ts r (bc t+3):=by
 unfold l6 at h;split at h
 ·cases h
 ·rename_i z C M;have⟨B,L⟩:=Sf.name M k;split at h
  ·cases h
  ·rename_i b u v;cases h;have⟨w,J⟩:=wL aC aC (B.ok k) v
   grind[bY,EF,Sf,bc]
end
def SF(t:T):Prop:=∃a:S,a.ok=true/\er t=a.tree
def Iu(l:List T):Prop:=∃m:List S,S.dF m=true/\bo l=S.aM m
def BF(t:T):Prop:=∃l:List S,S.dF l=true/\er t=cy l
def Iu.snoc{l:List T}{t:T}(h:Iu l)(k:SF t):Iu (l++[t]):=by
 have⟨m,M,w⟩:=h;have⟨a,v,N⟩:=k
 have c:∀m:List S,S.dF m=true->S.dF (m++[a])=true/\S.aM (m++[a])=S.aM m++[a.tree]:=by
  intro m
  induction m with
  |nil=>intro _;simp[S.dF,S.aM,v]
  |cons b m O =>
   grind[S.dF,S.aM,S.tree]
 grind[I6,bo,Iu]
def RG{t:T}(h:EF t)(k:t.n.ab=3):∃(s:ai)(a:T),t.au=[a]/\t.n.s=s/\bY s=true/\EF a:=by
 have⟨a,M,w⟩:=h;have v:=congrArg (fun x=>x.n.ab) w;simp only[xI,k]at v
 cases a with
 |at_ s b =>
  simp only[E.ok,aU]at M
  have N:t.n.s=s:=by have:=congrArg (fun x=>x.n.s) w;simp only[xI]at this;exact this
  have S:bo t.au=[b.tree]:=by rw[<-Uo,w];rfl
  match V:t.au,S with
  |[x],S =>
   rw[bo,bo]at S
   injection S with h6
   exact⟨s,x,rfl,N,M.1,b,M.2,h6⟩
  |[],S=>grind[bo]
  |x::y::r,S=>grind[bo]
 |num n=>exact zeD
 |name n=>exact zeD
 |call s l=>exact zeD
 |un s a=>exact zeD
 |bin s a b=>exact zeD
theorem Ih{e:Int}{d:Nat}{ts r:List Tok}{t:T}(k:rY ts)(h:simple e d ts=.ok (t,r)):SF t/\Sf ts r (bc t):=by
 unfold simple at h;split at h
 ·grind
 ·rename_i F r0;split at h
  ·split at h
   ·cases h
   ·rename_i s a E M;cases h;have⟨C,⟨B,L,u⟩,J⟩:=Bq k M;exact⟨⟨.set s B,by grind[S.ok],by rw[eS,bo,bo,u,S.tree]⟩,J.le zfg⟩
  ·split at h
   ·cases h
   ·rename_i a E M;have⟨C,L⟩:=xL k M;split at h
    ·rename_i l;split at h
     ·cases h
     ·rename_i v z w;cases h;have⟨⟨i,u,J⟩,W⟩:=wL aC aC (L.ok k) w;have⟨s,x,V,G,j,N,Q,c⟩:=RG C l.1;have m:=fC a;rw[V]at m;simp only[aR]at m;rw[V];refine⟨⟨.put s N i,by grind[S.ok],?_⟩,(L.trans W).le ?_⟩
      ·rw[eS,G];grind[bo,S.tree]
      grind[ko,aR]
    ·split at h
     ·cases h
     ·rename_i z w;cases h;have⟨B,u,J⟩:=C;exact⟨⟨.do_ B,by grind[S.ok],by rw[eS,bo,bo,J,S.tree]⟩,(L.trans (Sf.a6 aC w)).le zfg⟩
def Vn(e:Int):∀f,(∀d ts t r,rY ts->rs e f (.block d) ts=.ok (t,r)->BF t/\Sf ts r (bc t))/\(∀d ts t r,rY ts->rs e f (.stmt d) ts=.ok (t,r)->SF t/\Sf ts r (bc t)) /\
  (∀d i ts l r,rY ts->Iu i->rs.body e f d i ts=.ok (l,r)->Iu l/\∃n,Sf ts r n/\aR l+1<=n+aR i):=by
 intro f
 induction f with
 |zero=>exact⟨fun d ts t r _ h=>by simp[rs]at h,fun d ts t r _ h=>by simp[rs]at h,fun d i ts l r _ _ h=>by simp[rs.body]at h⟩
 |succ f ih =>
  have⟨C,J,E⟩:=ih;refine⟨fun d ts t r j h=>?_,fun d ts t r j h=>?_,fun d i ts l r j O h=>?_⟩
  ·rw[rs]at h;split at h
   ·cases h
   ·split at h
    ·cases h
    ·rename_i V o;have A:=Sf.a6 aC o;split at h
     ·cases h
     ·rename_i l W B;cases h;have⟨⟨es,k,u⟩,n,z,Q⟩:=E _ [] V l r (A.ok j) ⟨[],rfl,rfl⟩ B;exact⟨⟨es,k,by rw[eS,u,cy]⟩,(A.trans z).le zfg⟩
  ·rw[rs]at h;split at h
   ·cases h
   ·simp only at h;split at h
    ·rename_i q;have w:=Sf.aE aC q;split at h
     ·cases h
     ·rename_i s a v o;cases h;have⟨A,⟨F,k,u⟩,z⟩:=Bq (w.ok j) o;exact⟨⟨.var s F,by grind[S.ok],by rw[eS,bo,bo,u,S.tree]⟩,(w.trans z).le zfg⟩
    ·split at h
     ·rename_i q
      have w:Sf ts ts.tail 1:=by
       rcases q with q|q
       ·exact Sf.aE aC q
       ·exact Sf.aE aC q
      split at h
      ·cases h
      ·rename_i c V o;have⟨⟨G,A,k⟩,u⟩:=wL aC aC (w.ok j) o;have z:=w.trans u;split at h
       ·cases h
       ·rename_i b W B;have⟨⟨M,Q,R⟩,k7⟩:=C _ _ b W (z.ok j) B;have L:=z.trans k7;split at h
        ·split at h
         ·rename_i H;have T:=L.trans (Sf.aE aC H);split at h
          ·cases h
          ·rename_i b2 r3 h3;cases h;have⟨⟨N,j5,j6⟩,j7⟩:=C _ _ b2 r (T.ok j) h3;refine⟨⟨.if2 G M N,by grind[S.ok],?_⟩,(T.trans j7).le zfg⟩
           grind[eS,bo,cy,er,one,place,S.tree]
         ·cases h;refine⟨⟨.if1 G M,by grind[S.ok],?_⟩,L.le zfg⟩;rw[eS,bo,bo,bo,k,R,S.tree,cy]
        ·cases h;refine⟨⟨.while_ G M,by grind[S.ok],?_⟩,L.le zfg⟩;rw[eS,bo,bo,bo,k,R,S.tree,cy]
     ·split at h
      ·rename_i q;have w:=Sf.aE aC q;split at h
       ·cases h
       ·rename_i a v o;have⟨⟨F,A,k⟩,u⟩:=xL (w.ok j) o;split at h
        ·cases h
        ·rename_i ts2 B;cases h;exact⟨⟨.ret F,by grind[S.ok],by rw[eS,bo,bo,k,S.tree]⟩,((w.trans u).trans (Sf.a6 aC B)).le zfg⟩
      grind[Ih]
  ·rw[rs.body]at h;split at h
   ·rename_i hc;cases h;exact⟨O,1,Sf.aE aC hc,by omega⟩
   ·split at h
    ·cases h
    ·rename_i a v o;have⟨A,k⟩:=J _ ts a v j o;have⟨u,m,z,Q⟩:=E _ (i++[a]) v l r (k.ok j) (O.snoc A) h;refine⟨u,_,k.trans z,?_⟩
     grind[o7,aR,bc]
def KZ{e:Int}{d:Nat}{ts r:List Tok}{t:T}(k:rY ts)(h:block e d ts=.ok (t,r)):BF t/\Sf ts r (bc t):=(Vn e _).1 _ ts t r k h
end Go.Im
namespace Go.Sp
open Go.Xp
def fb(x:ai)(l:List K):Prop:=∀j V:ai,∃B,B.map kf=l/\Tz (j++(x++V)) j.length B (j.length+x.length)
def jg(x:ai)(l:List K):Prop:=∀j V:ai,Sep V->∃B,B.map kf=l/\Tz (j++(x++V)) j.length B (j.length+x.length)
def fb.s{x:ai}{l:List K}(h:fb x l):jg x l:=fun j V _=>h j V
def fb.app{x y:ai}{l m:List K}(h:fb x l)(k:fb y m):fb (x++y) (l++m):=by
 intro j V;have⟨B,M,v⟩:=h j (y++V);have⟨e,w,N⟩:=k (j++x) V;exact zbD
def fb.apps{x y:ai}{l m:List K}(h:fb x l)(k:jg y m):jg (x++y) (l++m):=by
 intro j V A;have⟨B,M,v⟩:=h j (y++V);have⟨e,w,N⟩:=k (j++x) V A;exact zbD
def jg.EY{x y:ai}{l m:List K}(h:jg x l)(k:fb y m)(q:∀V,Sep (y++V)):fb (x++y) (l++m):=by
 intro j V;have⟨B,M,v⟩:=h j (y++V) (q V);have⟨e,w,N⟩:=k (j++x) V;exact zbD
theorem fb.nil:fb [] []:=fun j V=>⟨[],rfl,.nil _⟩
def yf{c:UInt8}{x:ai}(h:c∈CD):∀V,Sep (c::x++V):=fun V d F=>by grind
def tH{j x:ai}:(j++x).drop j.length=x:=drop_left
theorem Tz.one{s:ai}{a B:Nat}{c:UInt8}{t:Tok}(k:s[a]?=some c)(v:fk c=false)(r:cr s a [47,42]=false)(o:gD s a c=(t,B))(l:t.ab=1\/t.ab=2\/t.ab=3)(hn:t.n<=2147483647)(ha:a<B):Tz s a [t] B :=
 .tok k v r o l hn ha (.nil _)
def xW{c:UInt8}(h:fk c=true):fb [c] []:=by
 intro j V;have F:(j++([c]++V)).drop j.length=c::V:=tH;have⟨M,_,_⟩:=nU F;exact⟨[],rfl,.blank M h (.nil _)⟩
def nt{c:UInt8}(G:c∈[40,41,91,93,44,59,123,125]):fb [c] [kS [c]]:=by
 intro j V;have F:(j++([c]++V)).drop j.length=c::V:=tH;have⟨M,_,N⟩:=nU F;have⟨v,w,S⟩:=QI (Nat.le_of_lt N) F G;exact⟨[_],rfl,Tz.one M w S v ze6 ze6 ze6⟩
def Ag{w:ai}(G:w∈cx):jg w [kS w]:=by
 intro j V A;have F:(j++(w++V)).drop j.length=w++V:=tH
 have q:w≠[]:=by rintro rfl;revert G;decide
 have⟨c,r,R⟩:=List.exists_cons_of_ne_nil q;have d:=F;rw[R,cons_append]at d;have⟨M,_,N⟩:=nU d;rw[<-cons_append,<-R]at M N;have⟨v,z,S⟩:=RT (Nat.le_of_lt N) F R G A
 have:0<w.length:=by grind
 exact⟨[_],rfl,Tz.one M z S v ze6 ze6 aI⟩
def Ii{c:UInt8}(h:small c=true):fk c=false/\c≠47:=by
 simp only[small,aU]at h;have M:=oe h.1;refine⟨?_,fun s=>?_⟩
 ·grind[fk]
 simp_all
def OV{s r:ai}{a:Nat}{c:UInt8}(h:s.drop a=c::r)(k:c≠47):cr s a [47,42]=false:=by
 have⟨_,_,N⟩:=nU h
 grind[cr]
theorem F6{w:ai}(R:word w=true):jg w [if words.contains w then kS w else kN w]:=by
 intro j V A;have F:(j++(w++V)).drop j.length=w++V:=tH;simp only[word,aU,fa]at R
 match w,R,F with
 |[],R,_=>simp at R
 |c::r,R,F =>
  have⟨k,q⟩:=R;have d:=F;rw[cons_append]at d;have⟨M,_,N⟩:=nU d;have⟨v,S⟩:=Ii q;have o:=Sg (Nat.le_of_lt N) F rfl q k A.fv;refine⟨[_],?_,Tz.one M v (OV d S) o ?_ ze6 ze6⟩
  ·simp only[List.map_cons,List.map_nil,kf,kS,kN]
   grind
  grind
def kZ{w:ai}(R:bY w=true):jg w [kN w]:=by
 simp only[bY,aU,Bool.not_eq_true']at R
 grind[F6]
def OG{w:ai}(R:w∈words):jg w [kS w]:=by
 have M:∀w∈words,word w=true:=by decide
 grind[F6]
theorem JN{n:Nat}(hn:n<=2147483647):jg (gN n) [kI n]:=by
 intro j V A;have F:(j++(gN n++V)).drop j.length=gN n++V:=tH;have⟨M,w,v⟩:=IY n;have⟨c,r,R⟩:=List.exists_cons_of_ne_nil v;have d:=F;rw[R,cons_append]at d;have⟨N,_,S⟩:=nU d;rw[<-cons_append,<-R]at N S;have k:eF c=true:=M c ze3
 have E:fk c=false/\c≠47:=by
  simp only[eF,aU]at k;have M:=oe k.1;refine⟨?_,fun s=>?_⟩
  ·simp only[fk,Bool.or_eq_false_iff,beq_eq_false_iff_ne];omega
  simp_all
 have o:=U3 (Nat.le_of_lt S) F R hn A.eF
 have:0<(gN n).length:=by grind
 refine⟨[_],rfl,Tz.one N E.1 ?_ o ze6 ze3 aI⟩
 grind[cr]
def XF{s:ai}(h:fX s=true):s∈cx:=by
 have G:s∈levels.flatten:=by
  grind[fX,qQ,List.mem_flatten]
 have c:∀s∈levels.flatten,s∈cx:=by decide
 grind
def L2:fb [32] []:=xW aC
def jg.then{x:ai}{l:List K}(h:jg x l){c:UInt8}(G:c∈[40,41,91,93,44,59,123,125]):fb (x++[c]) (l++[kS [c]]) :=
 h.EY (nt G) (yf (by revert G;unfold CD;simp only[List.mem_cons,List.not_mem_nil,or_false];grind))
def jg.sp{x:ai}{l:List K}(h:jg x l):fb (x++[32]) l:=by
 have:=h.EY L2 (yf aC)
 grind
theorem jg.eq{x:ai}{l V:List K}(h:jg x l)(e:l=V):jg x V:=e ▸ h
theorem fb.eq{x:ai}{l V:List K}(h:fb x l)(e:l=V):fb x V:=e ▸ h
def Cn{lv k:Nat}{x:ai}{l:List K}(h:jg x l):jg (qU lv k x) (brk lv k l):=by
 unfold qU brk;split
 ·have:=((nt (c:=40) aC).apps h).then (c:=41) aC;exact this.s.eq ze6
 ·exact h
mutual
def pU:∀a:E,a.ok=true->jg a.bP a.tk
 |.num n,h=>by
  simp only[E.ok,aU]at h;have M:=oe h.1;have v:=oe h.2
  grind[JN,Int.toNat_of_nonneg,jg,E.bP,E.tk]
 |.name s,h=>by rw[E.bP,E.tk];exact kZ h
 |.at_ s a,h=>by
  simp only[E.ok,aU]at h;rw[E.bP,E.tk];exact((((kZ h.1).then (c:=91) aC).apps (pU a h.2)).then (c:=93) aC).s.eq ze6
 |.call s l,h=>by
  simp only[E.ok,aU]at h;rw[E.bP,E.tk];exact((((kZ h.1).then (c:=40) aC).apps (Zw l h.2)).then (c:=41) aC).s.eq ze6
 |.un s a,h=>by
  simp only[E.ok,aU,Bool.or_eq_true,beq_iff_eq]at h;rw[E.bP,E.tk]
  have q:s∈cx:=by rcases h.1 with(h|h)|h<;>(rw[h];decide)
  exact((Ag q).sp.apps (Cn (pU a h.2))).eq ze6
 |.bin s a b,h=>by
  simp only[E.ok,aU]at h;rw[E.bP,E.tk];exact((((Cn (pU a h.1.2)).sp.apps (Ag (XF h.1.1))).sp).apps (Cn (pU b h.2))).eq ze6
def Zw:∀l:List E,E.dF l=true->jg (cE (E.ei l)) (E.nP l)
 |[],_=>fb.nil.s
 |a::l,h=>by
  simp only[E.dF,aU]at h;rw[E.ei,E.nP,cE];exact Tf l h.2 _ _ (pU a h.1)
def Tf:∀l:List E,E.dF l=true->∀x m,jg x m->jg (x++(E.ei l).flatMap fun y=>44::32::y) (m++E.qM l)
 |[],_,x,m,hx=>by rw[E.ei,E.qM];grind
 |a::l,h,x,m,hx=>by
  simp only[E.dF,aU]at h;have M:=((hx.then (c:=44) aC).app L2).apps (pU a h.1);have v:=Tf l h.2 _ _ M;rw[E.ei,E.qM,flatMap_cons]
  grind
end
def jg.set{x:ai}{l:List K}(h:jg x l):fb (x++[32,61,32]) (l++[kS [61]]):=by
 have:=(h.sp.apps (Ag (w:=[61]) aC)).sp
 grind
def uH{w:ai}(R:w∈words):fb (w++[32]) [kS w]:=(OG R).sp
mutual
def Zx:∀s:S,s.ok=true->fb (s.bP E.bP) s.tk
 |.set s a,h=>by
  simp only[S.ok,aU]at h;rw[S.bP,S.tk];exact(((kZ h.1).set.apps (pU a h.2)).then (c:=59) aC).eq ze6
 |.put s a b,h=>by
  simp only[S.ok,aU]at h;rw[S.bP,S.tk];have M:=((((kZ h.1).then (c:=91) aC).apps (pU a h.2.1)).then (c:=93) aC).s.set;have v:=(M.apps (pU b h.2.2)).then (c:=59) aC
  grind
 |.if1 c b,h=>by
  simp only[S.ok,aU]at h;rw[S.bP,S.tk];have M:=((((uH (w:=[105,102]) aC).app (nt (c:=40) aC)).apps (pU c h.1)).then (c:=41) aC).s.sp;have v:=M.app (lexB b h.2)
  have e:[105,102,32,40]++c.bP++[41,32]++(S.ei E.bP [123,32] b++[125])=[105,102]++[32]++[40]++c.bP++[41]++[32]++(S.ei E.bP [123,32] b++[125]):=by simp
  rw[e];exact v.eq (by simp[fZ])
 |.if2 c b t,h=>by
  simp only[S.ok,aU]at h;rw[S.bP,S.tk];have M:=((((uH (w:=[105,102]) aC).app (nt (c:=40) aC)).apps (pU c h.1)).then (c:=41) aC).s.sp;have v:=M.app (lexB b h.2.1);have z:=((v.s.sp.apps (OG (w:=[101,108,115,101]) aC)).sp).app (lexB t h.2.2)
  have e:[105,102,32,40]++c.bP++[41,32]++(S.ei E.bP [123,32] b++[125])++[32,101,108,115,101,32]++(S.ei E.bP [123,32] t++[125])=[105,102]++[32]++[40]++c.bP++[41]++[32]++(S.ei E.bP [123,32] b++[125])++[32]++[101,108,115,101]++[32]++(S.ei E.bP [123,32] t++[125]):=by simp
  rw[e];exact z.eq (by simp[fZ,iv])
 |.while_ c b,h=>by
  simp only[S.ok,aU]at h;rw[S.bP,S.tk];have M:=((((uH (w:=[119,104,105,108,101]) aC).app (nt (c:=40) aC)).apps (pU c h.1)).then (c:=41) aC).s.sp;have v:=M.app (lexB b h.2)
  have e:[119,104,105,108,101,32,40]++c.bP++[41,32]++(S.ei E.bP [123,32] b++[125])=[119,104,105,108,101]++[32]++[40]++c.bP++[41]++[32]++(S.ei E.bP [123,32] b++[125]):=by simp
  rw[e];exact v.eq (by simp[gA])
 |.ret a,h=>by
  simp only[S.ok]at h;rw[S.bP,S.tk];have M:=((uH (w:=[114,101,116,117,114,110]) aC).apps (pU a h)).then (c:=59) aC;exact M.eq zfy
 |.do_ a,h=>by
  simp only[S.ok]at h;rw[S.bP,S.tk];exact(pU a h).then (c:=59) aC
 |.var s a,h=>by
  simp only[S.ok,aU]at h;rw[S.bP,S.tk];have M:=((((uH (w:=[118,97,114]) aC).apps (kZ h.1)).set).apps (pU a h.2)).then (c:=59) aC;exact M.eq zfy
def lexB:∀l:List S,S.dF l=true->fb (S.ei E.bP [123,32] l++[125]) (kS [123]::(S.nP l++[kS [125]]))
 |l,h=>by
  have t:fb [123,32] [kS [123]]:=by
   have:=(nt (c:=123) aC).s.sp
   grind
  exact((Tg l h _ _ t).s.then (c:=125) aC).eq ze6
def Tg:∀l:List S,S.dF l=true->∀H m,fb H m->fb (S.ei E.bP H l) (m++S.nP l)
 |[],_,H,m,h=>by rw[S.ei,S.nP,fV];exact h
 |a::l,k,H,m,h=>by
  simp only[S.dF,aU]at k;rw[S.ei,S.nP];have M:=(h.app (Zx a k.1)).s.sp;exact(Tg l k.2 _ _ M).eq ze6
end
def fb.all{x:ai}{l:List K}(h:fb x l):∃ts,ts.map kf=l/\Tz x 0 ts x.length:=by
 have⟨ts,M,v⟩:=h [] []
 grind
def JL{l:List S}(h:S.dF l=true):fb (ir E.bP l) (KY l):=lexB l h
end Go.Sp
namespace Go.Im
open Go.Xp Go.Sp
def NG(s:ai):List K:=[kS iU,kN s,kS [59]]
def Ix(a:Ar):List K:=[kS iU,kN a.name,kS [91],kI a.size,kS [93],kS [59]]
def vc:List ai->List K
 |[]=>[]
 |s::r=>kS [44]::kN s::vc r
def Gl:List ai->List K
 |[]=>[]
 |s::r=>kN s::vc r
def Jb(x:Fn × List S):List K:=kS jq::kN x.1.name::kS [40]::(Gl x.1.params++kS [41]::KY x.2)
def mG(x:Fn × List S):ai:=((((([102,117,110,99,32]++x.1.name)++[40])++cE x.1.params)++[41,32])++ir E.bP x.2)++[10]
def JM:fb [59,10] [kS [59]]:=(nt (c:=59) aC).app (xW (c:=10) aC)
def ZA{s:ai}(h:bY s=true):fb (g1 s) (NG s) :=
 ((uH (w:=iU) aC).apps (kZ h)).EY JM (yf (c:=59) (x:=[10]) aC)
def Zy{a:Ar}(h:nZ a=true):fb (a1 a) (Ix a):=by
 unfold nZ at h;simp only[aU,Bool.not_eq_true',decide_eq_false_iff_not]at h;have⟨⟨M,v⟩,z⟩:=h
 have m:pJ a.size=gN a.size.toNat:=by grind[pJ]
 have k:kI a.size=kI ((a.size.toNat:Nat):Int):=by grind
 have Q:=((uH (w:=iU) aC).apps (kZ M)).then (c:=91) aC;have t:=Q.apps (JN (n:=a.size.toNat) aI);have j:=t.EY ((nt (c:=93) aC).app JM) (yf (c:=93) (x:=[59,10]) aC);unfold a1 Ix;rw[m,k];exact j
def OH:∀(Q:List ai),dy Q=true->∀x m,jg x m->jg (x++Q.flatMap fun y=>44::32::y) (m++vc Q)
 |[],_,x,m,h=>by grind[vc]
 |s::r,A,x,m,h=>by
  unfold dy at A;rw[all_cons,aU]at A;have M:=(h.then (c:=44) aC).app L2;have v:=M.apps (kZ A.1);have w:=OH r A.2 _ _ v
  grind[vc]
def ZB{Q:List ai}(h:dy Q=true):jg (cE Q) (Gl Q):=by
 match Q,h with
 |[],_=>exact fb.nil.s
 |s::r,h =>
  unfold dy at h;rw[all_cons,aU]at h;exact OH r h.2 s [kN s] (kZ h.1)
def Zz{x:Fn × List S}(M:bY x.1.name=true)(v:dy x.1.params=true)(z:S.dF x.2=true):fb (mG x) (Jb x):=by
 have Q:=((uH (w:=jq) aC).apps (kZ M)).then (c:=40) aC;have t:=(Q.apps (ZB v)).EY ((nt (c:=41) aC).app L2) (yf (c:=41) (x:=[32]) aC);have j:=(t.app (JL z)).app (xW (c:=10) aC);refine fb.eq j ?_;simp[Jb]
def yL{S:Type}{f:S->ai}{k:S->List K}:∀(l:List S),(∀x∈l,fb (f x) (k x))->∀H m,fb H m->fb (eB f H l) (m++l.flatMap k)
 |[],_,H,m,h=>by grind[eB]
 |x::l,T,H,m,h=>by
  rw[eB,flatMap_cons,<-gS];exact yL l (fun y J=>T y (ew _ J)) _ _ (h.app (T x mem_cons_self))
def MX{inl:List ai->Nat->ai}:∀(ak:List Fn)(l:List T)(ls:List (List S))(H:ai),ls.length=l.length->(∀(i:Nat)t b,l[i]?=some t->ls[i]?=some b->n7 eh inl 0 t=ir E.bP b) ->
  eB (eg eh inl) H (ak.zip l)=eB mG H (ak.zip ls)
 |[],l,ls,H,_,_=>by rfl
 |f::r,[],[],H,_,_=>by rfl
 |f::r,t::l,b::ls,H,V,h=>by
  have v:=h 0 t b rfl rfl;rw[zip_cons_cons,zip_cons_cons,eB,eB,MX r l ls _ ze3 fun i c W M w=>h (i+1) c W ze3 ze3];simp only[eg,mG,v]
 |f::r,[],b::ls,H,V,_=>by simp at V
 |f::r,t::l,[],H,V,_=>by simp at V
section
variable{p q:RS}{ts r rest:List Tok}{u:Tok}{s:ai}
theorem qN(h:On p (u::r)):tok p 0=u:=by rw[On.tok h];rfl
theorem Aa(h:On p (u::r))(k:kf u=kS s):is p 0 s=true:=by
 grind[eW,qN,is]
theorem Lp(h:On p (u::r)){k:K}(l:kf u=k)(hn:k.1=3->k.2.2≠s):is p 0 s=false:=by
 grind[qN,kf,is]
def ui(h:On p (u::r))(k:kf u=kS s):want p s=p.next:=by unfold want;rw[ae h.code,ae (Aa h k)]
def xY(h:On p (u::r))(k:kf u=kN s)(T:bY s=true):bV p=p.next:=by
 have⟨M,v⟩:=qC k;have:=nu T;unfold bV;rw[ae h.code,qN h,ae M,D ze3]
def nx(h:On p (u::r)):On p.next r:=h.next.1
def uw(h:On p (u::r)):p.next.l=p.l/\p.next.e=p.e:=⟨h.next.2.1,h.next.2.2⟩
theorem abg(h:On p (u::r)):p.i<p.l.length:=by
 have:=congrArg List.length h.rest
 grind
theorem XI(h:On p []):¬p.i<p.l.length:=by
 have:=congrArg List.length h.rest
 grind
theorem JA{G f:Nat}{st:PS}(h:p.code≠0)(hg:1<=G):n9 G f p st=some (p,st):=by
 obtain⟨G,rfl⟩:∃W,G=W+1:=⟨G-1,by omega⟩
 grind[n9]
theorem yI{f:Nat}{H:List ai}(h:p.code≠0)(hg:1<=f):py f H p=some (H,p):=by
 obtain⟨f,rfl⟩:∃W,f=W+1:=⟨f-1,by omega⟩;rw[py,D (fun k=>h k.1),ib h]
end
section
variable{f:Nat}{p:RS}{st:PS}{ts rest:List Tok}
def aba{s:ai}(A:On p (ts++rest))(o:ts.map kf=NG s)(C:bY s=true) :
  ∃q,iW f p st=some (q,{ st with ax:=st.ax++[s] })/\cv p q (.ok rest):=by
 obtain⟨u,r,rfl,M,o⟩:=map_cons o;obtain⟨v,r,rfl,z,o⟩:=map_cons o;obtain⟨w,rfl,B⟩:=jz o;simp only[cons_append,nil_append]at A;have t:=nx A;have N:=nx t;have G:=nx N;refine⟨p.next.next.next,?_,G,by rfl,by rfl⟩;unfold iW;rw[ae (Aa A M),xY t z C,Lp N B aC,D ze6,ui N B,qN t,(qC z).2]
def aa8{a:Ar}(A:On p (ts++rest))(o:ts.map kf=Ix a)(F:bY a.name=true) :
  ∃q,iW f p st=some (q,{ st with aq:=st.aq++[a] })/\cv p q (.ok rest):=by
 obtain⟨u,r,rfl,Q,o⟩:=map_cons o;obtain⟨v,r,rfl,B,o⟩:=map_cons o;obtain⟨w,r,rfl,E,o⟩:=map_cons o;obtain⟨x,r,rfl,O,o⟩:=map_cons o;obtain⟨y,r,rfl,S,o⟩:=map_cons o;obtain⟨z,rfl,T⟩:=jz o;simp only[cons_append,nil_append]at A;have t:=nx A;have N:=nx t;have G:=nx N;have C:=nx G;have M:=nx C;have l:=nx M;refine⟨p.next.next.next.next.next.next,?_,l,by rfl,by rfl⟩;unfold iW;rw[ae (Aa A Q),xY t B F,ae ⟨N.code,Aa N E⟩,qN G,ae (QV O).1,ui C S,ui M T,qN t,(qC B).2,(QV O).2]
end
section
variable{rest:List Tok}{u:Tok}
theorem S9(m:kf u=kS [41]):∀(Q:List ai)(f:Nat)(H:List ai)(p:RS)(ts:List Tok),Q.length<f->H≠[]->dy Q=true->On p (ts++u::rest)->ts.map kf=vc Q ->
  ∃q,py f H p=some (H++Q,q)/\cv p q (.ok rest)
 |[],f,H,p,ts,E,C,_,A,o=>by
  obtain⟨f,rfl⟩:∃W,f=W+1:=⟨f-1,by omega⟩
  have:ts=[]:=by simp_all[vc]
  subst this;rw[nil_append]at A;refine⟨p.next,?_,nx A,uw A⟩;rw[py,D (by grind[Aa]),ui A m,fV]
 |s::Q,f,H,p,ts,E,C,T,A,o=>by
  obtain⟨f,rfl⟩:∃W,f=W+1:=⟨f-1,by omega⟩;rw[vc]at o;obtain⟨v,r,rfl,M,o⟩:=map_cons o;obtain⟨w,r,rfl,z,o⟩:=map_cons o;unfold dy at T;rw[all_cons,aU]at T;simp only[cons_append]at A;have t:=nx A;have O:=nx t
  have B:H.length≠0:=fun h=>C (jF h)
  rw[length_cons]at E
  have⟨q,F,N⟩:=S9 m Q f (H++[s]) p.next.next r aI ze6 T.2 O o
  refine⟨q,?_,N.1,by rw[N.2.1,(uw t).1,(uw A).1],by rw[N.2.2,(uw t).2,(uw A).2]⟩;rw[py,ae ⟨A.code,Lp A M aC⟩,D B,ui A M,qN t,(qC z).2,xY t z T.1,F];simp
theorem Zl(m:kf u=kS [41])(Q:List ai)(f:Nat)(p:RS)(ts:List Tok)(hf:Q.length<f)(hn:dy Q=true)(A:On p (ts++u::rest))(o:ts.map kf=Gl Q) :
  ∃q,py f [] p=some (Q,q)/\cv p q (.ok rest):=by
 obtain⟨f,rfl⟩:∃W,f=W+1:=⟨f-1,by omega⟩
 match Q,hn,o,hf with
 |[],_,o,_ =>
  have:ts=[]:=by simp_all[Gl]
  subst this;rw[nil_append]at A;refine⟨p.next,?_,nx A,uw A⟩;rw[py,D (by grind[Aa]),ui A m]
 |s::Q,hn,o,hf =>
  rw[Gl]at o;obtain⟨w,r,rfl,v,o⟩:=map_cons o;unfold dy at hn;rw[all_cons,aU]at hn;simp only[cons_append]at A;have O:=nx A;rw[length_cons]at hf
  have⟨q,z,N⟩:=S9 m Q f ([]++[s]) p.next r aI ze6 hn.2 O o
  refine⟨q,?_,N.1,by rw[N.2.1,(uw A).1],by rw[N.2.2,(uw A).2]⟩;rw[py,ae ⟨A.code,Lp A v (fun h=>by cases h)⟩,ae zfy,qN A,(qC v).2,xY A v hn.1,z];rfl
end
def fW(p:RS):Nat:=40*p.l.length+100
def Gm:∀Q:List ai,Q.length<=(vc Q).length
 |[]=>bg _
 |s::r=>by have:=Gm r;grind[vc]
theorem Va(Q:List ai):Q.length<=(Gl Q).length:=by
 cases Q with
 |nil=>simp
 |cons s r=>simp[Gm,length_cons,ai,K,Gl]
def On.len{p:RS}{ts:List Tok}(h:Go.Sp.On p ts):ts.length<=p.l.length:=by
 rw[<-h.rest,mr];omega
def Xs{f:Nat}{q:RS}{ts:List Tok}(m:Go.Sp.On q ts)(z:uu q.l)(hf:fW q<=f):∃t v,iS f (.block 1) q=some (t,v)/\ja q v t (block q.e 1 ts):=by
 have⟨t,v,M,w⟩:=(is_ (nJ ts)).block 1 ts q m z wy;have:=On.len m;exact⟨t,v,M f (by grind[fW,KI,nJ]),w⟩
def aa9{f:Nat}{p:RS}{st:PS}{ts rest:List Tok}{x:Fn × List S}(m:On p (ts++rest))(hs:uu p.l)(hf:fW p<=f)(c:ts.map kf=Jb x)(O:bY x.1.name=true)(Q:dy x.1.params=true)(R:S.dF x.2=true) :
  (gh x.2 1=true->∃q t,iW f p st=some (q,{ st with aM:=st.aM++[t],ak:=st.ak++[(x.1.name,x.1.params)] })/\er t=cy x.2/\cv p q (.ok rest)) /\
  (gh x.2 1=false->∃q F,iW f p st=some (q,F)/\q.code≠0):=by
 obtain⟨u,r,rfl,J,c⟩:=map_cons c;obtain⟨v,r,rfl,L,c⟩:=map_cons c;obtain⟨w,r,rfl,k3,c⟩:=map_cons c;obtain⟨A,r,rfl,k4,c⟩:=ej c;obtain⟨y,r,rfl,k5,c⟩:=map_cons c;simp only[cons_append,gS]at m;have C:=nx m;have M:=nx C;have N:=nx M
 have G:p.next.next.next.l=p.l:=by rfl
 have hA:x.1.params.length<=A.length:=by grind[Va,bC]
 have i:=On.len N;simp only[bf]at i;rw[G]at i
 have n:x.1.params.length<f:=by grind[fW]
 have⟨q,T,j⟩:=Zl k5 x.1.params f p.next.next.next A n Q N k4
 have o:q.l=p.l:=j.2.1.trans G;have⟨t,E,V,k⟩:=Xs (f:=f) j.1 ze3 zfs;have⟨r1,r2⟩:=E3 (e:=q.e) (d:=1) (rest:=rest) R c
 have H:iW f p st=some (E,{ st with aM:=st.aM++[t],ak:=st.ak++[(x.1.name,x.1.params)] }):=by
  unfold iW;rw[D (by rw[Lp m J aC];decide),ae (Aa m J),xY C L O,ui M k3,T];simp only;rw[ae j.1.code,V,qN C,(qC L).2]
 refine⟨fun b=>?_,fun b=>?_⟩
 ·have⟨t',W,z⟩:=r1 b;rw[z]at k;obtain⟨rfl,B⟩:=k;exact⟨E,t,H,W,B.1,B.2.1.trans o,B.2.2.trans (j.2.2.trans zfy)⟩
 ·have⟨pos,z⟩:=r2 b;rw[z]at k;exact⟨E,_,H,cv.err k⟩
theorem rj{G f:Nat}{p q:RS}{st N:PS}{u:Tok}{r:List Tok}(A:On p (u::r))(h:iW f p st=some (q,N)):n9 (G+1) f p st=n9 G f q N:=by
 rw[n9,ae ⟨A.code,abg A⟩,h]
section
variable{f:Nat}{rest:List Tok}
theorem Tc:∀(gs:List ai)(p:RS)(st:PS)(ts:List Tok),On p (ts++rest)->ts.map kf=gs.flatMap NG->dy gs=true ->
  ∃q,cv p q (.ok rest)/\∀G,n9 (G+gs.length) f p st=n9 G f q { st with ax:=st.ax++gs }
 |[],p,st,ts,C,o,_=>by
  have:ts=[]:=by simp_all
  subst this;exact⟨p,On.self C,fun G=>by simp⟩
 |s::gs,p,st,ts,C,o,T=>by
  rw[flatMap_cons]at o;obtain⟨A,B,rfl,M,v⟩:=ej o;unfold dy at T;rw[all_cons,aU]at T;rw[gS]at C;have⟨q,w,N⟩:=aba (f:=f) (st:=st) C M T.1;have⟨z,S,V⟩:=Tc gs q { st with ax:=st.ax++[s] } B N.1 v T.2;exact zcA
theorem Ta:∀(as:List Ar)(p:RS)(st:PS)(ts:List Tok),On p (ts++rest)->ts.map kf=as.flatMap Ix->as.all nZ=true ->
  ∃q,cv p q (.ok rest)/\∀G,n9 (G+as.length) f p st=n9 G f q { st with aq:=st.aq++as }
 |[],p,st,ts,C,o,_=>by
  have:ts=[]:=by simp_all
  subst this;exact⟨p,On.self C,fun G=>by simp⟩
 |s::m,p,st,ts,C,o,T=>by
  rw[flatMap_cons]at o;obtain⟨A,B,rfl,M,v⟩:=ej o;rw[all_cons,aU]at T;rw[gS]at C
  have O:bY s.name=true:=by simp_all[nZ,aU]
  have⟨q,w,N⟩:=aa8 (f:=f) (st:=st) C M O;have⟨z,S,V⟩:=Ta m q { st with aq:=st.aq++[s] } B N.1 v T.2;exact zcA
end
def YK(x:Fn × List S):Prop:=bY x.1.name=true/\dy x.1.params=true/\S.dF x.2=true
def Tb{f:Nat}:∀(xs:List (Fn × List S))(p:RS)(st:PS)(ts:List Tok),On p ts->uu p.l->fW p<=f->ts.map kf=xs.flatMap Jb->(∀x∈xs,YK x) ->
  ((xs.all fun x=>gh x.2 1)=true->∃q l,(∀G,xs.length<G->n9 G f p st=some (q,{ st with aM:=st.aM++l,ak:=st.ak++xs.map fun x=>(x.1.name,x.1.params) }))/\q.code=0/\bo l=xs.map fun x=>cy x.2) /\
  ((xs.all fun x=>gh x.2 1)=false->∃q b,(∀G,xs.length<G->n9 G f p st=some (q,b))/\q.code≠0)
 |[],p,st,ts,d,_,_,k,_=>by
  have:ts=[]:=by simp_all
  subst this;refine⟨fun _=>⟨p,[],fun G e=>?_,d.code,by rfl⟩,fun h=>by cases h⟩;obtain⟨G,rfl⟩:∃c,G=c+1:=⟨G-1,by omega⟩;rw[n9,D (fun E=>XI d E.2)];simp
 |x::xs,p,st,ts,d,J,F,k,hx=>by
  rw[flatMap_cons]at k;obtain⟨A,B,rfl,v,C⟩:=ej k;have⟨V,W,x3⟩:=hx x mem_cons_self;have⟨R,T⟩:=aa9 (st:=st) d J F v V W x3
  have j:∃u r,A++B=u::r:=by obtain⟨u,r,rfl,_,_⟩:=map_cons v;simp
  have⟨u,r,L⟩:=j;rw[L]at d
  cases i:gh x.2 1 with
  |false =>
   have⟨q,b,w,n⟩:=T i;refine⟨fun h=>ze3,fun _=>⟨q,b,fun G e=>?_,n⟩⟩;obtain⟨G,rfl⟩:∃c,G=c+1:=⟨G-1,by omega⟩;rw[rj d w,JA n ze3]
  |true =>
   have⟨q,t,w,n,z⟩:=R i;have H:q.l=p.l:=z.2.1;obtain⟨N,O⟩:=Tb (f:=f) xs q { st with aM:=st.aM++[t],ak:=st.ak++[(x.1.name,x.1.params)] } B z.1 ze3 zfs C (fun y M=>hx y (ew _ M));rw[all_cons,i,Bool.true_and];refine⟨fun h=>?_,fun h=>?_⟩
   ·have⟨o,l,Q,m,j5⟩:=N h;refine⟨o,t::l,fun G e=>?_,m,by grind[bo]⟩;obtain⟨G,rfl⟩:∃c,G=c+1:=⟨G-1,by omega⟩
    grind[rj,length_cons]
   ·have⟨o,b,Q,m⟩:=O h;refine⟨o,b,fun G e=>?_,m⟩;obtain⟨G,rfl⟩:∃c,G=c+1:=⟨G-1,by omega⟩
    grind[rj,length_cons]
def O6(G:List ai)(d:List Ar)(xs:List (Fn × List S))(R:dy G=true)(T:d.all nZ=true)(V:∀x∈xs,YK x) :
  ∃ts,Tz (eB mG (eB a1 (eB g1 [] G) d) xs) 0 ts (eB mG (eB a1 (eB g1 [] G) d) xs).length /\
  (uu ts->∀(e:Int)(g f:Nat),ts.length+1<=g->40*ts.length+100<=f ->
   ((xs.all fun x=>gh x.2 1)=true->∃q l,n9 g f ⟨ts,0,e,0,0⟩ .empty=some (q,⟨l,G,d,xs.map fun x=>(x.1.name,x.1.params)⟩)/\q.code=0/\bo l=xs.map fun x=>cy x.2) /\
   ((xs.all fun x=>gh x.2 1)=false->∃q st',n9 g f ⟨ts,0,e,0,0⟩ .empty=some (q,st')/\q.code≠0)):=by
 have N:=yL (f:=g1) (k:=NG) G (fun s m=>ZA (fa.1 R s m)) [] [] fb.nil;have O:=yL (f:=a1) (k:=Ix) d (fun s m=>Zy (fa.1 T s m)) _ _ N;have Q:=yL (f:=mG) (k:=Jb) xs (fun x hx=>by have⟨a,b,c⟩:=V x hx;exact Zz a b c) _ _ O;have⟨ts,v,w⟩:=Q.all;refine⟨ts,w,fun m e g f F E=>?_⟩;rw[nil_append]at v;obtain⟨A,C,rfl,M,k4⟩:=ej v;obtain⟨A,B,rfl,k5,k6⟩:=ej M;have j:On ⟨(A++B)++C,0,e,0,0⟩ (A++(B++C)):=⟨rfl,bg _,by simp,w.kinds⟩;obtain⟨q1,o,H⟩:=Tc (f:=f) G _ .empty A j k5 R;obtain⟨q2,t,J⟩:=Ta (f:=f) d q1 _ B o.1 k6 T;have i:q2.l=(A++B)++C:=(o.tr t).2.1;obtain⟨L,j6⟩:=Tb (f:=f) xs q2 { ({ PS.empty with ax:=PS.empty.ax++G }:PS)with aq:=PS.empty.aq++d } C t.1 (by rw[i];exact m) (by unfold fW;rw[i];exact E) k4 V
 have c1:G.length<=A.length:=by
  have:=congrArg List.length k5;rw[bC]at this;rw[this];clear this k5 o H t J L j6 i j m v w M N O Q E F R
  induction G with
  |nil=>simp
  |cons s G ih=>grind[NG]
 have c2:d.length<=B.length:=by
  have:=congrArg List.length k6;rw[bC]at this;rw[this];clear this k6 o H t J L j6 i j m v w M N O Q E F T
  induction d with
  |nil=>simp
  |cons s G ih=>grind[Ix]
 have c3:xs.length<=C.length:=by
  have:=congrArg List.length k4;rw[bC]at this;rw[this];clear this k4 o H t J L j6 i j m v w M N O Q E F V
  induction xs with
  |nil=>simp
  |cons s G ih=>grind[Jb]
 rw[bf,bf]at F;have n:∃z,xs.length<z/\g=z+d.length+G.length:=⟨g-d.length-G.length,by omega,by omega⟩;obtain⟨z,W,rfl⟩:=n;rw[H,J];refine⟨fun h=>?_,fun h=>?_⟩
 ·have⟨q,l,j7,j8,j9⟩:=L h;exact⟨q,l,j7 z W,j8,j9⟩
 grind
structure BJ(st:PS):Prop where
 ax:dy st.ax=true
 aq:st.aq.all nZ=true
 ak:∀x∈st.ak,bY x.1=true/\dy x.2=true
 aM:∀t∈st.aM,BF t
 len:st.ak.length=st.aM.length
def zx{a b:List ai}(h:dy a=true)(k:dy b=true):dy (a++b)=true:=by
 grind[dy]
def zy{s:ai}(h:bY s=true):dy [s]=true:=by
 grind[dy]
def Sf.len{a b:List Tok}{n:Nat}(h:Sf a b n):b.length+n<=a.length:=by
 obtain⟨p,rfl,h⟩:=h
 grind
def Jy:∀(f:Nat)(H:List ai)(p:RS)(ts:List Tok),On p ts->rY ts->ts.length+1<f->dy H=true ->
  ∃l q,py f H p=some (l,q)/\((∃r n,cv p q (.ok r)/\dy l=true/\Sf ts r n)\/q.code≠0)
 |0,H,p,ts,_,_,t,_=>by omega
 |f+1,H,p,ts,A,m,t,T=>by
  rw[py]
  by_cases k:p.code=0/\is p 0 [41]=false
  ·rw[ae k]
   have F:(∃r,cv p (if H.length=0 then p else want p [44]) (.ok r)/\Sf ts r 0)\/(if H.length=0 then p else want p [44]).code≠0:=by
    by_cases z:H.length=0
    ·rw[ae z];exact .inl ⟨ts,On.self A,.nil _⟩
    ·rw[D z]
     rcases nb A (s:=[44]) aC with⟨r,M,v⟩|⟨x,M,v⟩
     ·exact .inl ⟨r,v,(Sf.a6 aC M).le (bg _)⟩
     grind[cv.err]
   generalize(if H.length=0 then p else want p [44])=W at *
   rcases F with⟨r,M,v⟩|M
   ·rcases tW M.1 with⟨R,w,N⟩|⟨x,w,N⟩
    ·have⟨B,L⟩:=Sf.name w (v.ok m);have E:=(v.trans B).len;have⟨l,q,u,J⟩:=Jy f (H++[(tok W 0).s]) (bV W) R N.1 ((v.trans B).ok m) aI (zx T (zy L));refine⟨l,q,u,?_⟩
     rcases J with⟨o,n,V,b,G⟩|V
     ·exact .inl ⟨o,_,(M.tr N).tr V,b,(v.trans B).trans G⟩
     omega
    grind[yI,cv.err]
   ·rw[ON M];exact⟨_,_,yI M aI,.inr M⟩
  ·rw[D k]
   rcases nb A (s:=[41]) aC with⟨r,M,v⟩|⟨x,M,v⟩
   ·exact⟨H,_,rfl,.inl ⟨r,1,v,T,Sf.a6 aC M⟩⟩
   grind[cv.err]
def Xu{f:Nat}{p:RS}{st:PS}{u:Tok}{r0:List Tok}(N:On p (u::r0))(E:rY (u::r0))(hs:uu p.l)(hf:fW p<=f)(b:BJ st) :
  ∃q k,iW f p st=some (q,k)/\((∃r n,cv p q (.ok r)/\BJ k/\Sf (u::r0) r (n+1)/\aR k.aM<=n+1+aR st.aM)\/q.code≠0):=by
 have p1:=nx N;have i:=Sf.one u r0;unfold iW
 by_cases h1:is p 0 iU=true
 ·rw[ae h1]
  rcases tW p1 with⟨A,a1,c⟩|⟨x,a1,c⟩
  ·have⟨Q,R⟩:=Sf.name a1 (i.ok E);have J:=i.trans Q;have G:cv p (bV p.next) (.ok A):=(On.next N).tr c
   by_cases C:(bV p.next).code=0/\is (bV p.next) 0 [91]=true
   ·rw[ae C]
    have h3:aE A 0=[91]:=by
     have:=On.is c.1 0 (s:=[91]) aC
     grind
    have⟨v,h4,_⟩:=uc aC h3;have m:=J.trans (Sf.aE aC h3);have T:=c.1;rw[h4]at T
    have B:cv p (bV p.next).next (.ok A.tail):=G.tr (On.next T)
    have z:=nx T
    by_cases M:(tok (bV p.next).next 0).ab=1
    ·rw[ae M]
     cases hr:A.tail with
     |nil =>
      grind[On.tok]
     |cons w V =>
      rw[hr]at z B m;have p4:=nx z;have L:=m.trans (Sf.one w V);have H:=B.tr (On.next z);rw[qN z]at M;have hw:=(m.ok E w mem_cons_self).num M
      rcases nb p4 (s:=[93]) aC with⟨O,j,d⟩|⟨x,j,d⟩
      ·rcases nb d.1 (s:=[59]) aC with⟨r5,W,d2⟩|⟨x,W,d2⟩
       ·refine⟨_,_,rfl,.inl ⟨r5,0,(H.tr d).tr d2,⟨b.ax,?_,b.ak,b.aM,b.len⟩,((L.trans (Sf.a6 aC j)).trans (Sf.a6 aC W)).le aI,by simp⟩⟩;simp only;rw[List.all_append,b.aq,all_cons,List.all_nil,Bool.and_true,Bool.true_and];unfold nZ;rw[qN z,R]
        grind
       grind[cv.err]
      grind[ib,cv.err]
    ·rw[D M];exact⟨_,_,rfl,.inr (cv.err (On.ly z))⟩
   ·rw[D C]
    rcases nb c.1 (s:=[59]) aC with⟨O,j,d⟩|⟨x,j,d⟩
    ·exact⟨_,_,rfl,.inl ⟨O,0,G.tr d,⟨zx b.ax (zy R),b.aq,b.ak,b.aM,b.len⟩,(J.trans (Sf.a6 aC j)).le aI,by simp⟩⟩
    grind[cv.err]
  ·rw[D (fun h=>cv.err c h.1),ib (cv.err c)]
   grind[cv.err]
 ·rw[D h1]
  by_cases C:is p 0 jq=true
  ·rw[ae C]
   rcases tW p1 with⟨A,a1,c⟩|⟨x,a1,c⟩
   ·have⟨Q,R⟩:=Sf.name a1 (i.ok E);have J:=i.trans Q;have G:cv p (bV p.next) (.ok A):=(On.next N).tr c
    rcases nb c.1 (s:=[40]) aC with⟨r2,j,d⟩|⟨x,j,d⟩
    ·have m:=J.trans (Sf.a6 aC j);have B:=G.tr d;have hl:=On.len d.1;have AV:(want (bV p.next) [40]).l=p.l:=B.2.1;have⟨l,q,k1,k2⟩:=Jy f [] _ r2 d.1 (m.ok E) zfs rfl;rw[k1];simp only
     rcases k2 with⟨V,n,F,k4,k5⟩|F
     ·have H:=B.tr F;have hql:q.l=p.l:=H.2.1;rw[ae F.1.code];have⟨t,q',k6,o⟩:=Xs (f:=f) F.1 ze3 zfs;rw[k6];simp only;have L:=m.trans k5
      cases S:block q.e 1 V with
      |error x=>rw[S]at o;exact⟨_,_,rfl,.inr (cv.err o)⟩
      |ok y =>
       have⟨t',O⟩:=y;rw[S]at o;obtain⟨rfl,o⟩:=o;have⟨k8,k9⟩:=KZ (L.ok E) S;refine⟨_,_,rfl,.inl ⟨O,n+bc t+2,H.tr o,⟨b.ax,b.aq,?_,?_,?_⟩,(L.trans k9).le aI,?_⟩⟩
       ·intro x hx
        rcases vf hx with hx|hx
        ·exact b.ak x hx
        grind
       ·intro x hx
        rcases vf hx with hx|hx
        ·exact b.aM x hx
        grind
       ·simp only[bf,length_cons,length_nil];have:=b.len;omega
       ·simp only[o7,aR];omega
     ·rw[D F]
      grind
    ·rw[yI (cv.err d) zfs];simp only;rw[D (cv.err d)]
     grind[cv.err]
   ·rw[ib (cv.err c),yI (cv.err c) zfs];simp only;rw[D (cv.err c)]
    grind[cv.err]
  ·rw[D C];exact⟨_,_,rfl,.inr (cv.err (On.ly N))⟩
def Jz{f:Nat}:∀(G:Nat)(p:RS)(st:PS)(ts:List Tok),On p ts->rY ts->uu p.l->fW p<=f->BJ st->ts.length<G ->
  ∃q N,n9 G f p st=some (q,N)/\(q.code=0->BJ N/\aR N.aM<=ts.length+aR st.aM)
 |0,p,st,ts,_,_,_,_,_,t=>by omega
 |G+1,p,st,ts,A,k,z,s,E,t=>by
  cases ts with
  |nil =>
   rw[n9,D (fun m=>XI A m.2)]
   grind
  |cons u r0 =>
   have⟨q,N,M,w⟩:=Xu A k z s E;rw[rj A M];rw[length_cons]at t
   rcases w with⟨r,n,v,O,S,V⟩|v
   ·have T:=S.len;rw[length_cons]at T;have c:q.l=p.l:=v.2.1;obtain⟨C,F,B,L⟩:=Jz G q N r v.1 (S.ok k) ze3 (by unfold fW at s |-;rw[c];exact s) O aI
    grind
   grind[JA]
def pH(st:PS):List Fn:=st.ak.mapIdx fun i x=>⟨x.1,x.2,((aR (st.aM.take i):Nat):Int)⟩
def same(p:Src)(st:PS):Bool:=fL (fun x y=>x==y) p.ax st.ax&&(fL zj p.aq st.aq&&(fL rQ p.ak (pH st)&&fL kG p.ah (ey 0 st.aM)))
structure Reads(x:ai)(ts:List Tok)(c z:Int)(q:RS)(st:PS):Prop where
 lex:pV x (x.length+1) 0 []=some (ts,c,z)
 len:ts.length<=x.length
 read:n9 (ts.length+1) (40*ts.length+100) ⟨ts,0,(x.length:Int),0,0⟩ .empty=some (q,st)
 ok:q.code=0->BJ st/\aR st.aM<=ts.length
def reads(x:ai):∃ts c z q st,Reads x ts c z q st:=by
 obtain⟨ts,c,z,M,w,A,N⟩:=sc x (x.length+1) 0 [] (bg _) aI (fun t h=>by simp at h) .nil (fun t h=>by simp at h) (aQ _);have v:On ⟨ts,0,(x.length:Int),0,0⟩ ts:=⟨rfl,bg _,rfl,fun t o=>(w t o).kinds⟩;obtain⟨q,st,S,T⟩:=Jz (f:=40*ts.length+100) (ts.length+1) _ .empty ts v w A (aQ _) ⟨rfl,rfl,fun x h=>zff,fun x h=>zff,rfl⟩ aI;exact⟨ts,c,z,q,st,M,N,S,fun h=>by have⟨a,b⟩:=T h;exact⟨a,by simpa[PS.empty,aR]using b⟩⟩
structure Forms(l:List T)(ls:List (List S)):Prop where
 len:ls.length=l.length
 at_:∀(i:Nat)t b,l[i]?=some t->ls[i]?=some b->S.dF b=true/\er t=cy b
def Fy:∀(l:List T),(∀t∈l,BF t)->∃ls,Forms l ls
 |[],_=>⟨[],rfl,fun i t b h=>by simp at h⟩
 |t::l,h=>by
  have⟨b,M,w⟩:=h t mem_cons_self
  obtain⟨ls,v⟩:=Fy l fun u m=>h u (ew _ m)
  refine⟨b::ls,by simp[v.len],fun i c S B L=>?_⟩
  cases i with
  |zero=>grind
  |succ i=>exact v.at_ i c S ze3 ze3
def gE.mem{Q:Fn->T->Prop}:∀{ak:List Fn}{a:Nat}{l:List T},gE Q ak a l->(∀f∈ak,∃t∈l,Q f t)/\(∀t∈l,∃f∈ak,Q f t)
 |[],_,[],_=>⟨fun f h=>zff,fun f h=>zff⟩
 |f::r,a,t::l,h=>by
  rw[gE]at h;have⟨C,L⟩:=gE.mem h.2.2;refine⟨fun g B=>?_,fun u hu=>?_⟩
  ·rcases ln B with rfl|B
   ·exact⟨t,mem_cons_self,h.2.1⟩
   ·have⟨u,a,b⟩:=C g B;exact⟨u,ew _ a,b⟩
  ·rcases ln hu with rfl|hu
   ·exact⟨f,mem_cons_self,h.2.1⟩
   ·have⟨g,a,b⟩:=L u hu;exact⟨g,ew _ a,b⟩
 |[],_,t::l,h=>by cases h
 |f::r,_,[],h=>by cases h
def iq.Ez{p:Src}{l:List T}(h:iq p l):∃ls,Forms l ls:=by
 refine Fy l fun t o=>?_
 have⟨f,_,M⟩:=(gE.mem h.ak).2 t o;exact toB M.all M.ab
def iq.at_{p:Src}{l:List T}(h:iq p l):mc l:=by
 have:∀l:List T,(∀t∈l,ef t=true)->mc l:=by
  intro l
  induction l with
  |nil=>intro _;trivial
  |cons t l O=>grind[MA,mem_cons_self,ew,ef,mc]
 refine this l fun t o=>?_
 have⟨f,_,M⟩:=(gE.mem h.ak).2 t o;exact M.all
def iq.xz{p:Src}{l:List T}(h:iq p l):j3 p.ah p.ak 0 []=some (l,p.ah.length):=by
 rw[IG p.ak 0 [] l h.st h.ak h.at_,h.len];simp
def iq.k{p:Src}{l:List T}(h:iq p l):l.all eY=true:=by
 rw[fa];intro t o;have⟨f,_,M⟩:=(gE.mem h.ak).2 t o;exact Sq t M.all
theorem Nz{l:List T}{ls:List (List S)}(h:Forms l ls):bo l=ls.map cy:=by
 rw[td];apply List.ext_getElem?;intro i;rw[bO,bO];have V:=h.len
 cases M:l[i]? with
 |none =>
  grind
 |some t =>
  have u:=(bR M).1
  have v:ls[i]?=some (ls[i]'aI):=by simp
  rw[v];exact congrArg some (h.at_ i t _ M v).2
def zip_fst{S β:Type}:∀(a:List S)(b:List β),a.length=b.length->(a.zip b).map Prod.fst=a
 |[],[],_=>rfl
 |x::a,y::b,h=>by rw[zip_cons_cons,List.map_cons,zip_fst a b ze3]
 |[],y::b,h=>by simp at h
 |x::a,[],h=>by simp at h
def CW{S β:Type}:∀(a:List S)(b:List β),a.length=b.length->(a.zip b).map Prod.snd=b
 |[],[],_=>rfl
 |x::a,y::b,h=>by rw[zip_cons_cons,List.map_cons,CW a b ze3]
 |[],y::b,h=>by simp at h
 |x::a,[],h=>by simp at h
def yk(l:List T)(i:Nat):aR (l.take i)=aR ((bo l).take i):=by
 rw[td,<-List.map_take,<-td,wg]
def Yf{p:Src}{l:List T}{V:List T}{ls:List (List S)}(h:iq p l)(R:bo V=bo l):same p ⟨V,p.ax,p.aq,p.ak.map fun x=>(x.name,x.params)⟩=true:=by
 unfold same;simp only[aU];refine⟨tI (fun x=>by simp) _,tI (fun x=>by simp[zj]) _,?_,?_⟩
 ·have:pH ⟨V,p.ax,p.aq,p.ak.map fun x=>(x.name,x.params)⟩=p.ak:=by
   unfold pH;apply List.ext_getElem?;intro i;simp only[List.getElem?_mapIdx,bO]
   cases s:p.ak[i]? with
   |none=>rfl
   |some f =>
    have E:=gE.len h.ak;have t:=(bR s).1
    have o:l[i]?=some (l[i]'aI):=by simp
    have v:=(gE.at_ h.ak i f _ s o).1;rw[iX,yk,<-R,<-yk]at v;simp only[Option.map_some];rw[<-v]
  rw[this];simp[tI,fL,rQ,Src.ak]
 ·rw[dQ.all h.st h.len]
  grind[Ca]
section
variable{p:Src}{l:List T}{ls:List (List S)}
def XA(h:iq p l)(hf:Forms l ls):n2 eh gY p l=eB mG (eB a1 (eB g1 [] p.ax) p.aq) (p.ak.zip ls):=by
 unfold n2
 refine MX _ _ _ _ hf.len fun i t b M v=>?_
 have⟨w,N⟩:=hf.at_ i t b M v;rw[<-MI,N];exact vq b w 0
theorem L3(h:iq p l)(hf:Forms l ls){ts:List Tok}{c z:Int}{q:RS}{st:PS}(o:Reads (n2 eh gY p l) ts c z q st) :
  c=0/\((ls.all fun b=>gh b 1)=true->q.code=0/\aR st.aM<=800/\same p st=true)/\((ls.all fun b=>gh b 1)=false->q.code≠0):=by
 have hx:=XA h hf;have B:=gE.len h.ak;have H:=hf.len
 have s:∀x∈p.ak.zip ls,YK x:=by
  intro x hx;have⟨f,b⟩:=x;have⟨i,n⟩:=getElem?_of_mem hx;rw[List.getElem?_zip_eq_some]at n;have G:=(bR n.2).1
  have C:l[i]?=some (l[i]'aI):=by simp
  have j:=(gE.at_ h.ak i f _ n.1 C).2;exact⟨j.name,j.params,(hf.at_ i _ b C n.2).1⟩
 have⟨W,j,F⟩:=O6 p.ax p.aq (p.ak.zip ls) h.ax h.aq s;rw[<-hx]at j;have r:=UP j rfl ((n2 eh gY p l).length+1) [] aI;rw[nil_append,o.lex]at r;simp only[Option.some.injEq,Prod.mk.injEq]at r;obtain⟨rfl,rfl,rfl⟩:=r
 have m:uu ts:=by
  obtain⟨O,Q,z',e,u,J,V⟩:=sc (n2 eh gY p l) ((n2 eh gY p l).length+1) 0 [] (bg _) aI (fun t h=>by simp at h) .nil (fun t h=>by simp at h) (aQ _);rw[o.lex]at e
  grind
 have⟨v,w⟩:=F m ((n2 eh gY p l).length:Int) (ts.length+1) (40*ts.length+100) (aQ _) (aQ _)
 have k:((p.ak.zip ls).all fun x=>gh x.2 1)=ls.all fun b=>gh b 1:=by
  have:ls=(p.ak.zip ls).map Prod.snd:=(CW _ _ aI).symm
  grind
 rw[k]at v w;refine⟨rfl,fun d=>?_,fun d=>?_⟩
 ·have⟨M,L,e,u,J⟩:=v d;rw[o.read]at e;simp only[Option.some.injEq,Prod.mk.injEq]at e;obtain⟨rfl,rfl⟩:=e
  have R:((p.ak.zip ls).map fun x=>cy x.2)=ls.map cy:=by
   have:ls=(p.ak.zip ls).map Prod.snd:=(CW _ _ aI).symm
   conv=>rhs;rw[this]
   simp
  have E:((p.ak.zip ls).map fun x=>(x.1.name,x.1.params))=p.ak.map fun x=>(x.name,x.params):=by
   have:p.ak=(p.ak.zip ls).map Prod.fst:=(zip_fst _ _ aI).symm
   conv=>rhs;rw[this]
   simp
  have A:bo L=bo l:=by grind[Nz]
  refine⟨u,?_,?_⟩
  ·simp only;rw[<-wg,A,wg,h.len];exact h.few
  ·rw[E];exact Yf (ls:=ls) h A
 ·have⟨M,N,e,u⟩:=w d;rw[o.read]at e
  grind
end
def I5{S:Type}{p:S->S->Bool}{a b:List S}(h:fL p a b=true){x:S}(hx:x∈a):∃y∈b,p x y=true:=by
 have⟨i,t⟩:=getElem?_of_mem hx;have T:=yB h;have M:=(bR t).1
 have v:b[i]?=some (b[i]'aI):=by simp
 grind[bB,Fk]
def LS{p:Src}{l:List T}(hn:p.ah.length<=800)(w:j3 p.ah p.ak 0 []=some (l,p.ah.length)){st:PS}(c:BJ st)(A:same p st=true):iq p l:=by
 have⟨l',F,G,H,h4,h5⟩:=BZ _ _ _ _ _ w;rw[nil_append]at F;subst F;unfold same at A;simp only[aU]at A;have⟨W,s2,M,N⟩:=A
 have L:aR l=p.ah.length:=by omega
 have d:=dQ.all G L;rw[d]at N
 have j:l.length=st.aM.length:=by
  have a1:=gE.len H;have E:=yB M;unfold pH at E;rw[List.length_mapIdx]at E;have:=c.len;omega
 have R:=Vs j N
 have e:∀f∈p.ak,bY f.name=true/\dy f.params=true:=by
  intro f o;have⟨g,J,q⟩:=I5 M o;unfold pH at J;have⟨i,z⟩:=getElem?_of_mem J;rw[List.getElem?_mapIdx]at z
  cases hx:st.ak[i]? with
  |none=>grind
  |some x =>
   rw[hx]at z;cases z;simp only[rQ,aU,beq_iff_eq]at q;have⟨⟨C,m⟩,_⟩:=q;have⟨k3,k4⟩:=c.ak x (bB hx);rw[C,yA m];grind
 have k:∀t∈l,t.n.ab=14/\ef t=true:=by
  intro t B
  have r:er t∈bo l:=by grind[td,List.mem_map_of_mem]
  rw[R,td]at r;have⟨u,V,O⟩:=uY.1 r;have⟨b,C,m⟩:=c.aM u V;rw[O]at m
  have s:xl t:=by
   have:∀l:List T,mc l->t∈l->xl t:=by
    intro l
    induction l with
    |nil=>simp
    |cons v l ih =>
     grind[mc,xl]
   grind
  refine⟨?_,MB t (by rw[m];exact S.vr b C) s⟩;have:=congrArg (fun x=>x.n.ab) m;simp only[xI]at this;exact this
 refine⟨?_,?_,G,gE.mono H fun f t o B _=>⟨(e f o).1,(e f o).2,(k t B).1,(k t B).2⟩,L,hn⟩
 ·rw[yA W];exact c.ax
 ·rw[fa];intro a Q;have⟨b,w,q⟩:=I5 s2 Q;have r:=fa.1 c.aq b w;simp only[zj,aU,beq_iff_eq]at q
  grind[nZ]
section
variable{S:Type}
def cL(f:S->Nat):List S->Nat
 |[]=>0
 |x::l=>f x+cL f l
theorem rF(f:S->Nat)(a b:List S):cL f (a++b)=cL f a+cL f b:=by
 induction a with
 |nil=>simp[cL]
 |cons x a O=>grind[cL]
theorem Vy{f g:S->Nat}{l:List S}(h:∀x∈l,f x<=g x):cL f l<=cL g l:=by
 induction l with
 |nil=>simp[cL]
 |cons x l O =>
  grind[cL]
theorem rH{f:S->Nat}{l:List S}{x:S}(h:x∈l):f x<=cL f l:=by
 induction l with
 |nil=>cases h
 |cons y l O =>
  grind[cL]
theorem rG{f g:S->Nat}{k:Nat}{l:List S}(h:∀x∈l,f x<=k*g x):cL f l<=k*cL g l:=by
 induction l with
 |nil=>simp[cL]
 |cons x l O =>
  grind[mem_cons_self,ew,Nat.mul_add,cL]
theorem uf(f:S->Nat)(l:List S)(h:∀x∈l,1<=f x):l.length<=cL f l:=by
 induction l with
 |nil=>simp
 |cons x l O =>
  grind[cL]
end
def G4{S β:Type}(f:S->Nat)(g:β->Nat):∀(a:List S)(b:List β),cL (fun x:S × β=>f x.1+g x.2) (a.zip b)<=cL f a+cL g b
 |[],b=>by simp[cL]
 |x::a,[]=>by simp[cL]
 |x::a,y::b=>by
  have:=G4 f g a b
  grind[zip_cons_cons,cL]
theorem E6{S:Type}(f:S->ai):∀(l:List S)(H:ai),(eB f H l).length=H.length+cL (fun x=>(f x).length) l
 |[],H=>by rfl
 |x::l,H=>by rw[eB,E6 f l,bf,cL];omega
def sU(n:Nd):Nat:=n.s.length+60
mutual
def YJ:∀(t:T)(a:Nat),lE t=cL sU (jC a t)
 |.mk n l,a=>by rw[lE,jC,cL,y8 l (a+1),sU]
def y8:∀(l:List T)(a:Nat),iZ l=cL sU (ey a l)
 |[],a=>rfl
 |t::r,a=>by rw[iZ,ey,rF,YJ t a,y8 r (a+bc t)]
end
def wi(l:List T)(i:Nat):Nat:=match l[i]? with|some t=>lE t|none=>0
def abu(l:List T):wi l 0+wi l 1+wi l 2<=iZ l:=by
 match l with
 |[]=>simp[wi]
 |[a]=>simp[wi,iZ]
 |[a,b]=>simp[wi,iZ]
 |a::b::c::r=>grind[wi,iZ]
def Jf{l:List T}{f:T->ai}(h:∀t∈l,(f t).length<=lE t)(i:Nat):((l.map f).getD i []).length<=wi l i:=by
 grind[wi]
def Kk{l:List T}{t:T}(h:t∈l):bc t<=aR l:=by
 induction l with
 |nil=>cases h
 |cons a l O =>
  grind[bc,aR]
def Kh{f:T->ai}:∀{l:List T},(∀t∈l,(f t).length+4<=lE t)->lk (l.map f)<=iZ l
 |[],_=>bg _
 |t::l,h=>by
  have M:=h t mem_cons_self
  have v:=Kh (l:=l) fun y J=>h y (ew _ J)
  rw[List.map_cons,lk,iZ];omega
def Ym:∀(N:Nat)(t:T),bc t<=N->sA t->∀d,(lb eh gY d t).length+4<=lE t/\(n7 eh gY d t).length<=lE t:=by
 intro N
 induction N with
 |zero=>grind[iO]
 |succ N O =>
  intro t B V d;have A:=fC t;rw[rv]at V
  have k:∀a∈t.au,∀d,(lb eh gY d a).length+4<=lE a/\(n7 eh gY d a).length<=lE a:=fun a z d=>O a (by have:=Kk z;omega) (kM V.2 z) d
  have hx:=Jf (l:=t.au) (f:=eh) (fun a z=>by have:=wj (bc a) a (aQ _) (kM V.2 z);omega);have v:=Jf (l:=t.au) (f:=n7 eh gY d) (fun a z=>(k a z d).2);have w:=abu t.au;have R:=pF t;have W:=wj (bc t) t (aQ _) ((rv t).2 V);have o:=hx 0;have Q:=hx 1;have H:=v 1;have s:=v 2;constructor
  ·rw[Pp,IF];unfold zC
   grind[bf,length_cons,length_nil]
  ·rw[MG,Kd]
   have:=Kh (f:=lb eh gY (d+1)) (l:=t.au) fun a z=>(k a z (d+1)).1
   have e:∀l:List ai,(gY l d).length=3+lk l:=fun l=>by
    grind[bf,tE,length_cons,length_nil,gY,lk]
   grind
def wS(l:List ai):Nat:=cL (fun s=>s.length+1) l
def cM(p:Src):Nat:=wS p.ax+cL (fun a:Ar=>a.name.length+1) p.aq+cL (fun f:Fn=>f.name.length+wS f.params+1) p.ak+cL (fun n:Nd=>n.s.length+n.au.length+1) p.ah
structure jZ(p:Src):Prop where
 aq:∀a∈p.aq,-9223372036854775808<=a.size/\a.size<=9223372036854775807
 ah:∀n∈p.ah,-9223372036854775808<=n.n/\n.n<=9223372036854775807
mutual
def dW.num{ah:List Nd}(h:∀n∈ah,-9223372036854775808<=n.n/\n.n<=9223372036854775807):∀(t:T)(a:Nat),dW ah a t->sA t
 |.mk n l,a,q=>by
  rw[dW]at q;rw[sA];exact⟨h n (bB q.1),dQ.num h l _ q.2.2⟩
def dQ.num{ah:List Nd}(h:∀n∈ah,-9223372036854775808<=n.n/\n.n<=9223372036854775807):∀(l:List T)(a:Nat),dQ ah a l->rP l
 |[],a,_=>trivial
 |t::r,a,q=>by
  rw[dQ]at q;rw[rP];exact⟨dW.num h t a q.1,dQ.num h r _ q.2⟩
end
def R0(l:List ai):(l.map fun y=>y.length+2).sum=cL (fun s=>s.length+2) l:=by
 induction l with
 |nil=>rfl
 |cons s l O=>grind[cL]
def Hs(l:List T):iZ l=cL lE l:=by
 induction l with
 |nil=>rfl
 |cons t l O=>rw[iZ,cL,O]
def UJ{p:Src}{l:List T}(hn:jZ p)(q:dQ p.ah 0 l)(m:aR l=p.ah.length):(n2 eh gY p l).length<=100*cM p:=by
 have N:=dQ.num hn.ah l 0 q
 have e:cL (fun s=>(g1 s).length) p.ax<=100*wS p.ax:=rG fun s _=>by grind[bf,length_cons,length_nil,g1]
 have J:cL (fun a=>(a1 a).length) p.aq<=100*cL (fun a:Ar=>a.name.length+1) p.aq:=rG fun a z=>by
  have:=xT (hn.aq a z)
  grind[a1]
 have o:cL (fun x=>(eg eh gY x).length) (p.ak.zip l)<=cL (fun x:Fn × T=>(fun f:Fn=>100*(f.name.length+wS f.params+1)) x.1+lE x.2) (p.ak.zip l):=Vy fun x hx=>by
  have M:=(Ym (bc x.2) x.2 (aQ _) (kM N (List.of_mem_zip hx).2) 0).2;have v:=Ab x.1.params;rw[R0]at v
  have w:cL (fun s=>s.length+2) x.1.params<=2*wS x.1.params:=rG fun s _=>by omega
  simp only[eg,bf,length_cons,length_nil];omega
 have t:=G4 (fun f:Fn=>100*(f.name.length+wS f.params+1)) lE p.ak l
 have r:cL (fun f:Fn=>100*(f.name.length+wS f.params+1)) p.ak<=100*cL (fun f:Fn=>f.name.length+wS f.params+1) p.ak:=rG fun f _=>aQ _
 have Q:cL sU p.ah<=100*cL (fun n:Nd=>n.s.length+n.au.length+1) p.ah:=rG fun n _=>by grind[sU]
 have V:cL lE l=cL sU p.ah:=by rw[<-Hs,y8 l 0,<-dQ.all q m]
 unfold n2 cM
 grind[E6,length_nil,jy]
def Hi{p:Src}{l:List T}(q:dQ p.ah 0 l)(m:aR l=p.ah.length):∀t∈l,lE t<=100*cM p/\bc t<=cM p:=fun t o=>by
 have Q:cL sU p.ah<=100*cL (fun n:Nd=>n.s.length+n.au.length+1) p.ah:=rG fun n _=>by grind[sU]
 have V:cL lE l=cL sU p.ah:=by rw[<-Hs,y8 l 0,<-dQ.all q m]
 have z:=rH (f:=lE) o;have J:=Kk o
 have r:=uf (fun n:Nd=>n.s.length+n.au.length+1) p.ah fun n _=>by omega
 grind[cM]
theorem PG(l:List ai):l.length<=wS l:=uf _ l fun s _=>by omega
def PH{l:List ai}{s:ai}(h:s∈l):s.length+1<=wS l:=rH (f:=fun s:ai=>s.length+1) h
structure Small(p:Src)(n:Nat):Prop where
 ax:p.ax.length<=n/\∀s∈p.ax,s.length<=n
 aq:p.aq.length<=n/\∀a∈p.aq,a.name.length<=n
 ak:p.ak.length<=n/\∀f∈p.ak,f.name.length<=n/\f.params.length<=n/\∀s∈f.params,s.length<=n
 ah:p.ah.length<=n/\∀x∈p.ah,x.s.length<=n/\x.au.length<=n
def et(p:Src):Small p (cM p):=by
 have a1:=PG p.ax
 have M:=uf (fun a:Ar=>a.name.length+1) p.aq fun a _=>by omega
 have u:=uf (fun f:Fn=>f.name.length+wS f.params+1) p.ak fun a _=>by omega
 have N:=uf (fun n:Nd=>n.s.length+n.au.length+1) p.ah fun a _=>by omega
 unfold cM;refine⟨⟨by omega,fun s q=>?_⟩,⟨by omega,fun a z=>?_⟩,⟨by omega,fun f t=>?_⟩,⟨by omega,fun n T=>?_⟩⟩
 ·have:=PH q;omega
 ·grind[rH]
 ·have:=rH (f:=fun f:Fn=>f.name.length+wS f.params+1) t;refine⟨by omega,by grind[PG],fun s q=>by have:=PH q;omega⟩
 grind[rH]
structure zF(st:PS)(n:Nat):Prop where
 ax:st.ax.length<=n
 aq:st.aq.length<=n
 ak:st.ak.length<=n
 params:∀x∈st.ak,x.2.length<=n
def N9:∀(f:Nat)(H:List ai)(p:RS)(l:List ai)(q:RS),py f H p=some (l,q)->l.length<=H.length+f
 |0,_,_,_,_,h=>by cases h
 |f+1,H,p,l,q,h=>by
  rw[py]at h;split at h
  ·have:=N9 f _ _ l q h
   grind
  grind
theorem zF.up{st:PS}{n:Nat}(h:zF st n):zF st (n+1):=by
 have⟨a,b,c,d⟩:=h;exact zeR
def Zn{f n:Nat}{p q:RS}{st N:PS}(hf:f<=n)(h:iW f p st=some (q,N))(s:zF st n):zF N (n+1):=by
 have e:=s.up;have⟨a,b,c,d⟩:=s;unfold iW at h;split at h
 ·split at h
  ·split at h
   ·cases h;exact zeS
   grind
  ·cases h;exact zeS
 ·split at h
  ·cases G:py f [] (want (bV p.next) [40])with
   |none=>grind
   |some r =>
    have⟨l,C⟩:=r;rw[G]at h;simp only at h;have T:=N9 _ _ _ _ _ G;split at h
    ·split at h
     ·cases h
     ·cases h;refine⟨by grind,by grind,by grind,fun x hx=>?_⟩
      grind
    grind
  grind
def Oc{f:Nat}:∀(G n:Nat)(p q:RS)(st N:PS),f<=n->n9 G f p st=some (q,N)->zF st n->zF N (n+G)
 |0,n,p,q,st,N,_,h,_=>by cases h
 |G+1,n,p,q,st,N,t,h,s=>by
  rw[n9]at h;split at h
  ·cases R:iW f p st with
   |none=>grind
   |some r =>
    have⟨C,w⟩:=r;rw[R]at h;simp only at h;have:=Oc G (n+1) C q w N aI h (Zn t R s)
    grind
  ·cases h;have⟨a,b,c,d⟩:=s;exact zeR
mutual
def QD:∀(t:T)(a:Nat),∀n∈jC a t,n.au.length<=bc t
 |.mk m l,a,n,h=>by
  rw[jC]at h;rw[bc]
  rcases ln h with rfl|h
  ·grind[db,gm]
  ·have:=zR l (a+1) n h;omega
def zR:∀(l:List T)(a:Nat),∀n∈ey a l,n.au.length<=aR l
 |[],a,n,h=>by grind[ey]
 |t::r,a,n,h=>by
  rw[ey]at h;rw[aR]
  rcases vf h with h|h
  ·have:=QD t a n h;omega
  ·have:=zR r _ n h;omega
end
end Go.Im
namespace Go.Sp
open Go.Xp
structure EM(p:Src)(ls:List (List S)):Prop where
 len:ls.length=p.ak.length
 at_:∀(i:Nat)f l,p.ak[i]?=some f->ls[i]?=some l->0<=f.body/\S.dF l=true/\wt (cy l)<=1000000000/\∃t,sub p.ah (fN p.ah) f.body.toNat=some t/\er t=cy l
def U6(a:E)(k:a.ok=true):(a.bP).length+4<=wt a.tree:=(E.len a k).1
def T0{l:List S}(k:S.dF l=true)(b:wt (cy l)<=1000000000) :
  ∃ts t q f,Go.Sp.hE (ir E.bP l)=some ts/\(ir E.bP l).length<=1000000000/\ts.length<=1000000000/\1+f<=1099511627776/\mS f (.block 1) ⟨ts,0,(ir E.bP l).length,0,0⟩=some (t,q)/\q.l=ts/\((q.code=0/\q.i=ts.length/\gh l 1=true)\/(q.code≠0/\gh l 1=false)):=by
 have F:=s0 E.bP U6 k;generalize hx:ir E.bP l=x at *;have⟨ts,M,v⟩:=(JL k).all;rw[hx]at v;have B:=v.len;have w:On ⟨ts,0,x.length,0,0⟩ ts:=⟨rfl,bg _,rfl,v.kinds⟩;have r:rs (x.length:Int) (nJ ts) (.block 1) ts≠.error bs:=wy;have⟨t,q,N,T⟩:=(js (nJ ts)).block 1 ts _ w r;have Q:=E3 (e:=(x.length:Int)) (d:=1) (rest:=[]) k M;rw[fV]at Q
 change ja _ q t (block (x.length:Int) 1 ts)at T
 refine⟨ts,t,q,KF (nJ ts),v.all,by omega,by omega,by unfold KF nJ;omega,N _ (aQ _),?_⟩
 cases u:gh l 1 with
 |true =>
  have⟨c,_,V⟩:=Q.1 u;rw[V]at T;have⟨_,R,z,_⟩:=T;have z:q.l=ts:=z;refine⟨z,.inl ⟨R.code,?_,rfl⟩⟩;have s:=congrArg List.length R.rest;have W:=R.le;rw[mr]at s;rw[z]at s W;simp only[length_nil]at s;omega
 |false =>
  have⟨A,V⟩:=Q.2 u;rw[V]at T;exact⟨T.2.2.2.1,.inr ⟨cv.err T,rfl⟩⟩
end Go.Sp
namespace Go.Im
open Go.Xp Go.Sp
def LR(p:Src)(x:ai):Bool:=match pV x (x.length+1) 0 []with
 |none=>false
 |some (B,c,z)=>if c≠0 then false else match n9 (B.length+1) (40*B.length+100) ⟨B,0,(x.length:Int),0,0⟩ .empty with
  |none=>false
  |some (q,st)=>if q.code≠0 then false else if aR st.aM>800 then false else same p st
def fI(p:Src):Bool:=if p.ah.length>800 then false else match j3 p.ah p.ak 0 []with
 |none=>false
 |some (l,e)=>if e≠p.ah.length then false else if l.all eY=false then false else LR p (n2 eh gY p l)
section
variable{p:Src}
theorem Am{x:ai}{ts:List Tok}{c z:Int}{q:RS}{st:PS}(h:Reads x ts c z q st):LR p x=if c≠0 then false else if q.code≠0 then false else if aR st.aM>800 then false else same p st:=by
 unfold LR;rw[h.lex];simp only;rw[h.read]
theorem aam{l:List T}{ls:List (List S)}(h:iq p l)(hf:Forms l ls):fI p=ls.all fun b=>gh b 1:=by
 unfold fI;have A:=h.few;rw[D aI,h.xz];simp only;rw[D ze6,D (by rw[h.k];decide)];have⟨B,c,z,q,st,r⟩:=reads (n2 eh gY p l);have⟨M,v,w⟩:=L3 h hf r
 grind[Am]
theorem uB(h:fI p=true):∃l,iq p l:=by
 unfold fI at h
 by_cases A:p.ah.length>800
 ·grind
 rw[D A]at h
 cases v:j3 p.ah p.ak 0 []with
 |none=>grind
 |some y =>
  have⟨l,e⟩:=y;rw[v]at h;simp only at h
  by_cases R:e=p.ah.length
  ·subst R;rw[D ze6]at h
   by_cases k:l.all eY=false
   ·grind
   rw[D k]at h;have⟨B,c,z,q,st,r⟩:=reads (n2 eh gY p l);rw[Am r]at h;split at h
   ·cases h
   split at h
   ·cases h
   ·rename_i m;split at h
    ·cases h
    ·exact⟨l,LS aI v (r.ok aI).1 h⟩
  grind
def aal(h:oZ p=some false):fI p=false:=by
 cases s:fI p with
 |false=>rfl
 |true =>
  have⟨l,M⟩:=uB s;rw[M.oZ]at h;cases h
end
def dQ.ix{ah:List Nd}:∀(l:List T)(a i:Nat)(t:T),dQ ah a l->l[i]?=some t->dW ah (a+aR (l.take i)) t
 |[],a,i,t,_,h=>by simp at h
 |u::r,a,0,t,h,v=>by
  grind[dQ,dW,aR]
 |u::r,a,i+1,t,h,v=>by
  rw[dQ]at h;have:=dQ.ix r (a+bc u) i t h.2 zfq;rw[List.take_succ_cons,aR,<-nD];exact this
mutual
def P1:∀t:T,wt t<=lE t
 |.mk n l=>by have:=Ht l;rw[wt,lE];omega
def Ht:∀l:List T,gy l<=iZ l
 |[]=>aQ _
 |t::r=>by have:=P1 t;have:=Ht r;rw[gy,iZ];omega
end
def MJ{p:Src}{l:List T}{ls:List (List S)}(h:iq p l)(hf:Forms l ls)(e:cM p<=1048576):EM p ls:=by
 have d:=gE.len h.ak;refine⟨by rw[hf.len];omega,fun i f b M v=>?_⟩;have t:=(bR v).1;have E:=hf.len
 have o:l[i]?=some (l[i]'aI):=by simp
 have⟨w,N⟩:=hf.at_ i _ b o v;have⟨V,c⟩:=gE.at_ h.ak i f _ M o;have R:=dQ.ix l 0 i _ h.st o;rw[iX]at V R;have G:=bB o;have z:=Hi h.st h.len _ G;have j:=P1 (l[i]'aI);have W:=dW.le _ _ R;refine⟨by omega,w,by grind[TL],_,?_,N⟩;rw[V,dC];exact(ue _).1 _ _ R zfr
end Go.Im
namespace Go.Sp
open Go.Xp
def RS.left(p:RS):Nat:=p.l.length-p.i
def F4{k:Nat}{s:ai}(h:(levels.getD k []).contains s=true):s≠[]/\k<9/\s.length<=2:=by
 have l:k<9:=Nat.lt_of_not_le fun l=>by
  rw[List.getD_eq_getElem?_getD,List.getElem?_eq_none (show levels.length<=k from l)]at h;cases h
 have c:∀k:Fin 9,∀s∈levels.getD k.1 [],s≠[]/\s.length<=2:=by decide
 have⟨M,v⟩:=c ⟨k,l⟩ s (l9.1 h)
 grind
def mJ{p q:RS}(h:p.to q):q.left<=p.left/\q.left+(q.i-p.i)=p.left/\p.i<=q.i:=by
 obtain⟨M,-,v,w⟩:=h
 grind[RS.left]
theorem uM(p:RS)(d:Nat):(p.aX d).left=p.left:=by
 grind[RS.fail,RS.left,RS.aX]
def qf{p:RS}(h:p.i<p.l.length):p.next.left+1=p.left:=by
 grind[RS.left,RS.next]
def sF:J->Nat
 |.expr _=>13
 |.level k _=>12-k
 |.loop _ _ _=>1
 |.operand _=>2
 |.named _ _ _=>1
def OJ:∀(f:Nat),(∀j p,p.ok->(∀k d,j=.level k d->k<=9)->20*p.left+sF j<=f->∃t q,mE f j p=some (t,q))/\(∀d p,p.ok->20*p.left+14<=f->∃t q,mL f d p=some (t,q))/\(∀d H p,p.ok->20*p.left+1<=f->∃t q,qg f d H p=some (t,q))
 |0=>⟨fun j p _ m h=>by
   cases j with
   |level k d=>grind[sF]
   |_=>simp only[sF]at h;omega,fun d p _ h=>by omega,fun d H p _ h=>by omega⟩
 |f+1=>by
  have⟨N,w,v⟩:=OJ f;have⟨u,C,W⟩:=rO f
  have V:∀j:J,(∀k d,j=.level k d->False)->∀k d,j=.level k d->k<=9:=fun j h k d e=>(h k d e).elim
  refine⟨fun j p A m h=>?_,fun d p A h=>?_,fun d H p A h=>?_⟩
  ·cases j with
   |expr d =>
    rw[mE];exact N _ _ ((im A d).ok A) (fun k L e=>by grind) (by grind[uM,RS.left,RS.aX,sF])
   |level k d =>
    have S:=m k d rfl;rw[mE]
    by_cases O:k=9
    ·simp_all[ae,sF]
    ·rw[D O];obtain⟨t,q,e⟩:=N (.level (k+1) d) p A (fun B L e=>by grind) (by grind[RS.left,sF]);rw[e];have o:=u _ _ _ _ A e;exact N _ _ (o.ok A) (fun k L e=>by cases e) (by have:=mJ o;grind[RS.left,sF])
   |loop k d out =>
    rw[mE]
    by_cases l:p.code=0/\(levels.getD k []).contains (p.aE 0)=true
    ·rw[ae l];obtain⟨z,Q,-⟩:=F4 l.2;have M:=(dG (k:=0) rfl z).1;rw[Nat.add_zero]at M;rw[cq M];simp only;have T:=cU M;have n:=qf M
     obtain⟨t,q,e⟩:=N (.level (k+1) d) p.next (T.ok A) (fun B L e=>by grind) zft
     rw[e];have o:=u _ _ _ _ (T.ok A) e;exact N _ _ (o.ok (T.ok A)) (fun k L e=>by cases e) (by have:=mJ o;simp only[sF]at h |-;omega)
    simp_all[D]
   |operand d =>
    rw[mE];have F:=(im A d).ok A;have R:=uM p d;rw[<-R]at h;generalize p.aX d=p at *
    try simp only
    split
    ·split
     ·simp
     ·rename_i t o;have M:=(bR o).1;have T:=cU M;have n:=qf M;split
      ·simp
      ·split
       ·exact N _ _ ((eO F).ok F) (fun k L e=>by cases e) (by have:=mJ (eO F);simp only[sF]at h |-;omega)
       ·split
        ·obtain⟨t,q,e⟩:=N (.operand (d+1)) p.next (T.ok F) (fun k L e=>by cases e) zft
         grind
        ·split
         ·obtain⟨t,q,e⟩:=N (.expr (d+1)) p.next (T.ok F) (fun k L e=>by cases e) zft
          grind
         simp
    simp
   |named a s d =>
    rw[mE];split
    ·rename_i r;have M:=(dG r aC).1;rw[Nat.add_zero]at M;have T:=cU M;have n:=qf M
     obtain⟨t,q,e⟩:=N (.expr (d+1)) p.next (T.ok A) (fun k L e=>by cases e) zft
     grind
    ·split
     ·rename_i r;have M:=(dG r aC).1;rw[Nat.add_zero]at M;have T:=cU M;have n:=qf M
      have⟨t,q,e⟩:=w (d+1) p.next (T.ok A) aI
      simp_all
     simp
  ·rw[mL];split
   ·simp
   ·obtain⟨t,q,e⟩:=N (.expr d) p A (fun k L e=>by cases e) zft;rw[e];have o:=u _ _ _ _ A e;exact v _ _ _ (o.ok A) (by have:=mJ o;omega)
  ·rw[qg];split
   ·rename_i r;have M:=(dG r aC).1;rw[Nat.add_zero]at M;have T:=cU M;have n:=qf M
    obtain⟨t,q,e⟩:=N (.expr d) p.next (T.ok A) (fun k L e=>by cases e) zft
    rw[e];have o:=u _ _ _ _ (T.ok A) e;exact v _ _ _ (o.ok (T.ok A)) (by have:=mJ o;omega)
   simp
def vM{p:RS}(A:p.ok)(d:Nat):∃t q,mX d p=some (t,q):=by
 unfold mX;refine(OJ _).1 _ _ A (fun k J e=>by cases e) ?_
 grind[RS.left,sF,fe]
def rp{p:RS}{s:ai}(q:s≠[])(h:(p.a6 s).code=0):p.a6 s=p.next/\p.code=0/\p.i<p.l.length:=by
 unfold RS.a6 at h |-
 by_cases e:p.aE 0=s
 ·rw[ae e];have:=dG e q
  grind
 ·rw[D e]at h;exfalso
  grind[RS.fail]
def M6{f d:Nat}{a:Int}{p q:RS}{t:T}(A:p.ok)(M:p.i<p.l.length)(h:mS f (.cond a d) p=some (t,q))(k:q.code=0):p.i+1<=q.i:=by
 have:=(pK f).1 _ _ _ _ A (fun a J _=>M) h
 cases f with
 |zero=>simp[mS]at h
 |succ f =>
  rw[mS]at h;have V:=cU M;have G:=V.trans (bT (V.ok A) (s:=[40]) aC)
  have w:p.next.i=p.i+1:=rfl
  try simp only at h
  split at h
  ·cases h
  ·rename_i e W R;have B:=(bT (V.ok A) (s:=[40]) aC).trans (fT (G.ok A) R);have n:=B.trans (bT ((V.trans B).ok A) (s:=[41]) aC);split at h
   ·cases h
   ·rename_i b N v;have C:=n.trans ((pK f).1 _ _ _ _ ((V.trans n).ok A) (fun a J h=>by cases h) v);split at h
    ·rename_i r;have j:=C.trans (dY r.2 aC);split at h
     ·cases h
     ·rename_i u H Q;cases h;have:=(j.trans ((pK f).1 _ _ _ _ ((V.trans j).ok A) (fun a J h=>by cases h) Q)).2.2.2;omega
    ·cases h;have:=C.2.2.2;omega
def Ps{f d:Nat}{p q:RS}{t:T}(A:p.ok)(h:mS f (.stmt d) p=some (t,q))(k:q.code=0):p.i+1<=q.i:=by
 cases f with
 |zero=>simp[mS]at h
 |succ f =>
  rw[mS]at h;have F:=im A d;have H:=F.ok A;have B:=F.2.2.2;refine jy (Nat.add_le_add_right B 1) ?_;generalize p.aX d=W at *
  try simp only at h
  have last:∀(z:RS),W.to z->(z.a6 [59]).code=0->W.i+1<=(z.a6 [59]).i:=fun z m k=>by
   obtain⟨e,-,-⟩:=rp aC k;rw[e];have:=m.2.2.2
   grind[RS.next]
  split at h
  ·rename_i w;have V:=dY w aC;have O:=V.trans (eO (V.ok H));have u:=O.trans (bT (O.ok H) (s:=[61]) aC);split at h
   ·cases h
   ·rename_i e z R
    cases h;exact last _ (u.trans (fT (u.ok H) R)) k
  ·split at h
   ·rename_i w;refine M6 H ?_ h k
    rcases w with w|w
    ·exact(dG w aC).1
    ·exact(dG w aC).1
   ·split at h
    ·rename_i w;have V:=dY w aC;split at h
     ·cases h
     ·rename_i e z R
      cases h;exact last _ (V.trans (fT (V.ok H) R)) k
    ·split at h
     ·have O:=eO H;have u:=O.trans (bT (O.ok H) (s:=[61]) aC);split at h
      ·cases h
      ·rename_i e z R
       cases h;exact last _ (u.trans (fT (u.ok H) R)) k
     ·split at h
      ·cases h
      ·rename_i e z R;have hx:=fT H R;split at h
       ·rename_i w;have V:=hx.trans (dY w.2.2 aC);split at h
        ·rename_i a r v N l M
         cases h;exact last _ (V.trans (fT (V.ok H) M)) k
        ·cases h
       grind
def uN:∀(f:Nat)(j:J)(p q:RS)(t:T),(∀k d out,j=.loop k d out->out.n.ab=3->out.au≠[])->mE f j p=some (t,q)->t.n.ab=3->t.au≠[]
 |0,j,p,q,t,_,h,_=>by simp[mE]at h
 |f+1,j,p,q,t,l,h,v=>by
  cases j with
  |expr d=>rw[mE]at h;exact zc3
  |level k d =>
   rw[mE]at h;split at h
   ·exact zc3
   ·split at h
    ·cases h
    ·rename_i out u R;exact uN f _ _ _ _ (fun k d o e=>by cases e;exact uN f _ _ _ _ (fun k d o e=>by cases e) R) h v
  |loop k d out =>
   rw[mE]at h;split at h
   ·split at h
    ·cases h
    ·split at h
     ·cases h
     ·exact uN f _ _ _ _ (fun k d o e S=>by cases e;cases S) h v
   grind
  |operand d =>
   rw[mE]at h;generalize p.aX d=p at *
   try simp only at h
   split at h
   ·split at h
    ·cases h;cases v
    ·split at h
     ·cases h;cases v
     ·split at h
      ·exact zc3
      ·split at h
       ·split at h
        ·cases h
        ·cases h;cases v
       ·split at h
        ·split at h
         ·cases h
         ·rename_i a u R;cases h;exact uN f _ _ _ _ (fun k d o e=>by cases e) R v
        ·cases h;cases v
   ·cases h;cases v
  |named a s d =>
   rw[mE]at h;split at h
   ·split at h
    ·cases h
    ·cases h;simp[T.au,one]
   ·split at h
    ·split at h
     ·cases h
     ·cases h;cases v
    ·cases h;cases v
def OK:∀(f:Nat),(∀d p,p.ok->5*p.left+4<=f->∃t q,mS f (.block d) p=some (t,q))/\(∀d p,p.ok->5*p.left+2<=f->∃t q,mS f (.stmt d) p=some (t,q))/\(∀a d p,p.ok->p.i<p.l.length->5*p.left+1<=f->∃t q,mS f (.cond a d) p=some (t,q)) /\
  (∀d v p,p.ok->5*p.left+3<=f->∃t q,mB f d v p=some (t,q))
 |0=>⟨fun d p _ h=>by omega,fun d p _ h=>by omega,fun a d p _ _ h=>by omega,fun d v p _ h=>by omega⟩
 |f+1=>by
  have⟨G,R,S,H⟩:=OK f;refine⟨fun d p c h=>?_,fun d p c h=>?_,fun a d p c C h=>?_,fun d v p c h=>?_⟩
  ·rw[mS];have j:=(im c d).ok c;rw[<-uM p d]at h;generalize p.aX d=p at *
   try simp only
   have w:=bT j (s:=[123]) aC;obtain⟨t,q,e⟩:=H (d+1) [] (p.a6 [123]) (w.ok j) (by have:=mJ w;omega)
   simp_all
  ·rw[mS];have j:=(im c d).ok c;rw[<-uM p d]at h;generalize p.aX d=p at *
   try simp only
   split
   ·rename_i m;have u:=dY m aC;have n:=u.trans (eO (u.ok j));have A:=n.trans (bT (n.ok j) (s:=[61]) aC);have⟨t,q,e⟩:=vM (A.ok j) (d+1)
    grind
   ·split
    ·rename_i m;refine S _ _ _ j ?_ aI
     rcases m with m|m
     ·exact(dG m aC).1
     ·exact(dG m aC).1
    ·split
     ·rename_i m;have u:=dY m aC;have⟨t,q,e⟩:=vM (u.ok j) (d+1)
      grind
     ·split
      ·have n:=eO j;have A:=n.trans (bT (n.ok j) (s:=[61]) aC);have⟨t,q,e⟩:=vM (A.ok j) (d+1)
       grind
      ·have⟨t,q,e⟩:=vM j (d+1);rw[e];have hx:=fT j e;simp only;split
       ·rename_i m;have u:=hx.trans (dY m.2.2 aC);have⟨t2,N,Q⟩:=vM (u.ok j) (d+1);rw[Q];have W:=uN _ _ _ _ _ (fun k d o e=>by cases e) e m.1
        cases hk:t.au with
        |nil=>grind
        |cons a r=>simp
       simp
  ·rw[mS];have u:=cU C;have V:=qf C;have w:=u.trans (bT (u.ok c) (s:=[40]) aC);have⟨e,q,E⟩:=vM (w.ok c) (d+1);rw[E];simp only;have hx:=w.trans (fT (w.ok c) E);have z:=hx.trans (bT (hx.ok c) (s:=[41]) aC)
   have hq:(q.a6 [41]).left+1<=p.left:=by
    have a1:=mJ (bT (u.ok c) (s:=[40]) aC);have a2:=mJ (fT (w.ok c) E);have a3:=mJ (bT (hx.ok c) (s:=[41]) aC);omega
   have⟨b,N,J⟩:=G (d+1) (q.a6 [41]) (z.ok c) aI;rw[J];simp only;have B:=(pK f).1 _ _ _ _ (z.ok c) (fun a O h=>by cases h) J;split
   ·rename_i m;have F:=(z.trans B).trans (dY m.2 aC)
    obtain⟨b2,q3,T⟩:=G (d+1) N.next (F.ok c) (by
     have a1:=mJ B
     grind[RS.left,RS.next])
    grind
   simp
  ·rw[mB];split
   ·have⟨a,q,e⟩:=R d p c aI;rw[e];simp only;have M:=(pK f).1 _ _ _ _ c (fun a O h=>by cases h) e
    by_cases L:q.code=0
    ·have:=Ps c e L;refine H _ _ _ (M.ok c) ?_;have:=mJ M;omega
    ·cases f with
     |zero=>omega
     |succ f =>
      rw[mB,D (fun h=>L h.1)];simp
   simp
structure BM(x:Tok):Prop where
 at_:0<=x.at_/\x.at_<=6000
 n:0<=x.n/\x.n<=2147483647
structure SB(p:RS):Prop where
 tok:∀t∈p.l,BM t
 e:0<=p.e/\p.e<=6000
theorem SB.to{p q:RS}(h:SB p)(k:p.to q):SB q:=⟨by rw[k.1];exact h.tok,by rw[k.2.1];exact h.e⟩
def SB.at{p:RS}(h:SB p){i:Nat}{t:Tok}(o:p.l[i]?=some t):BM t:=h.tok t (bB o)
theorem SB.place{p:RS}(h:SB p):0<=p.place/\p.place<=6000:=by
 unfold RS.place;split
 ·rename_i t o;exact(h.at o).at_
 ·exact h.e
structure Z4(x:Nd):Prop where
 ab:0<=x.ab/\x.ab<=14
 at_:0<=x.at_/\x.at_<=6000
 n:0<=x.n/\x.n<=2147483647
 s:x.s.length<=12
mutual
def my:T->Prop
 |.mk n l=>Z4 n/\lC l
def lC:List T->Prop
 |[]=>True
 |t::r=>my t/\lC r
end
theorem my.n{t:T}(h:my t):Z4 t.n:=by cases t;grind[my,T.n]
theorem my.au{t:T}(h:my t):lC t.au:=by cases t;rw[my]at h;exact h.2
def BW:∀{a b:List T},lC a->lC b->lC (a++b)
 |[],b,_,h=>h
 |t::a,b,h,k=>by rw[cons_append,lC];rw[lC]at h;exact⟨h.1,BW h.2 k⟩
theorem wx{t:T}(h:my t):lC [t]:=by grind[lC]
def Qk{t u:T}(h:my t)(k:my u):lC [t,u]:=by grind[lC]
theorem CJ:∀(a b:List T),aR (a++b)=aR a+aR b
 |[],b=>by simp[aR]
 |t::a,b=>by rw[cons_append,aR,aR,CJ a b];omega
theorem ug(t:T):aR [t]=bc t:=by rfl
theorem G7(t u:T):aR [t,u]=bc t+bc u:=by rfl
theorem Yw(t u v:T):aR [t,u,v]=bc t+bc u+bc v:=by grind[aR,bc]
section
variable{k a:Int}{s:ai}{l:List T}
theorem jJ:bc (one k a s l)=aR l+1:=by rfl
theorem mU(m:0<=k/\k<=14)(ha:0<=a/\a<=6000)(q:s.length<=12)(V:lC l):my (one k a s l):=by
 unfold one;rw[my];exact⟨⟨m,ha,⟨Int.le_refl _,show(0:Int)<=2147483647 by decide⟩,q⟩,V⟩
end
theorem CH:my T.zero:=by
 unfold T.zero;rw[my,lC];exact⟨⟨⟨Int.le_refl _,show(0:Int)<=14 by decide⟩,⟨Int.le_refl _,show(0:Int)<=6000 by decide⟩,⟨Int.le_refl _,show(0:Int)<=2147483647 by decide⟩,bg _⟩,trivial⟩
theorem CK:bc T.zero=1:=by rfl
theorem oB(p:RS):p.name.1.length<=12:=by
 grind[RS.name]
def oK:J->Nat
 |.loop _ _ out=>bc out
 |_=>1
def jOk:J->Prop
 |.loop _ _ out=>my out
 |.named a s _=>(0<=a/\a<=6000)/\s.length<=12
 |_=>True
def Ti:∀(f:Nat),(∀j p t q,p.ok->SB p->jOk j->mE f j p=some (t,q)->my t/\bc t<=oK j+2*(q.i-p.i)) /\
  (∀d p l q,p.ok->SB p->mL f d p=some (l,q)->lC l/\aR l<=1+2*(q.i-p.i))/\(∀d w p l q,p.ok->SB p->lC w->qg f d w p=some (l,q)->lC l/\aR l<=aR w+2*(q.i-p.i))
 |0=>⟨fun j p t q _ _ _ h=>by simp[mE]at h,fun d p l q _ _ h=>by simp[mL]at h,fun d w p l q _ _ _ h=>by simp[qg]at h⟩
 |f+1=>by
  have⟨A,h2,h3⟩:=Ti f;have⟨z,t2,t3⟩:=rO f;refine⟨fun j p t q e v J h=>?_,fun d p l q e v h=>?_,fun d w p l q e v r h=>?_⟩
  ·cases j with
   |expr d =>
    rw[mE]at h;have Q:=im e d
    have hi:(p.aX d).i=p.i:=by unfold RS.aX RS.fail;grind
    have:=A (.level 0 d) _ _ _ (Q.ok e) (v.to Q) trivial h
    grind[oK]
   |level k d =>
    rw[mE]at h;split at h
    ·exact A (.operand (d+1)) _ _ _ e v trivial h
    ·split at h
     ·cases h
     ·rename_i out O o;have B:=z _ _ _ _ e o;have r:=A (.level (k+1) d) _ _ _ e v trivial o;have W:=A (.loop k d out) _ _ _ (B.ok e) (v.to B) r.1 h;have S:=(z _ _ _ _ (B.ok e) h).2.2.2;have M:=B.2.2.2
      grind[oK]
   |loop k d out =>
    rw[mE]at h;split at h
    ·rename_i V;split at h
     ·cases h
     ·rename_i R B;have N:=(bR B).1;have m:=cU (p:=p) N
      have L:R.s.length<=12:=by
       have H:=(F4 V.2).2.2;unfold RS.aE at H;rw[ae V.1,Nat.add_zero,B]at H;simp only[dS]at H;have h9:=(F4 V.2).1;unfold RS.aE at h9;rw[ae V.1,Nat.add_zero,B]at h9
       grind[dS]
      split at h
      ·cases h
      ·rename_i b O o;have c:=z _ _ _ _ (m.ok e) o;have r:=A (.level (k+1) d) _ _ _ (m.ok e) (v.to m) trivial o;have C:=m.trans c;have W:=A (.loop k d (one 6 R.at_ R.s [out,b])) _ _ _ (C.ok e) (v.to C) (mU aC (v.at B).at_ L (Qk J r.1)) h;have S:=(z _ _ _ _ (C.ok e) h).2.2.2;have M:=c.2.2.2;have G:=r.2;have h7:=W.2;simp only[oK,jJ,G7]at G h7 |-
       have H:p.next.i=p.i+1:=rfl
       grind
    ·cases h;exact⟨J,by grind[oK]⟩
   |operand d =>
    rw[mE]at h;have Q:=im e d
    have hi:(p.aX d).i=p.i:=by unfold RS.aX RS.fail;grind
    rw[<-hi];have u:=Q.ok e;have E:=v.to Q;generalize p.aX d=p at *
    try simp only at h
    simp only[oK];split at h
    ·split at h
     ·grind[CH,CK]
     ·rename_i R B;have N:=(bR B).1;have m:=cU (p:=p) N
      have H:p.next.i=p.i+1:=rfl
      have T:=E.at B;split at h
      ·cases h;refine⟨?_,by rw[bc,aR];omega⟩;rw[my,lC];exact⟨⟨⟨show(0:Int)<=1 by decide,show(1:Int)<=14 by decide⟩,T.at_,T.n,bg _⟩,trivial⟩
      ·split at h
       ·have F:=eO u;have r:=A (.named R.at_ p.name.1 d) _ _ _ (F.ok u) (E.to F) ⟨T.at_,oB p⟩ h;have S:=(z _ _ _ _ (F.ok u) h).2.2.2;have M:=F.2.2.2
        grind[oK]
       ·split at h
        ·rename_i L;split at h
         ·cases h
         ·rename_i a O o;have r:=A (.operand (d+1)) _ _ _ (m.ok u) (E.to m) trivial o;have M:=(z _ _ _ _ (m.ok u) o).2.2.2;have G:=r.2;simp only[oK]at G;cases h;refine⟨mU aC T.at_ ze3 (wx r.1),?_⟩;rw[jJ,ug];omega
        ·split at h
         ·split at h
          ·cases h
          ·rename_i a O o;have r:=A (.expr (d+1)) _ _ _ (m.ok u) (E.to m) trivial o;have c:=m.trans (z _ _ _ _ (m.ok u) o);have M:=(z _ _ _ _ (m.ok u) o).2.2.2;have G:=r.2;simp only[oK]at G;cases h;have h7:=(bT (c.ok u) (s:=[41]) aC).2.2.2
           grind
         grind[CH,CK]
    grind[CH,CK]
   |named a s d =>
    rw[mE]at h;simp only[oK];split at h
    ·rename_i L;have m:=dY L aC
     have H:p.next.i=p.i+1:=rfl
     split at h
     ·cases h
     ·rename_i a' O o;have r:=A (.expr (d+1)) _ _ _ (m.ok e) (v.to m) trivial o;have c:=m.trans (z _ _ _ _ (m.ok e) o);have M:=(z _ _ _ _ (m.ok e) o).2.2.2;have G:=r.2;simp only[oK]at G;cases h;have h7:=(bT (c.ok e) (s:=[93]) aC).2.2.2;refine⟨mU aC J.1 J.2 (wx r.1),?_⟩;rw[jJ,ug];omega
    ·split at h
     ·rename_i L;have m:=dY L aC
      have H:p.next.i=p.i+1:=rfl
      split at h
      ·cases h
      ·rename_i l O o;have r:=h2 _ _ _ _ (m.ok e) (v.to m) o;have M:=(t2 _ _ _ _ (m.ok e) o).2.2.2;have G:=r.2;cases h;refine⟨mU aC J.1 J.2 r.1,?_⟩;rw[jJ];omega
     ·cases h;refine⟨mU aC J.1 J.2 (by simp[lC]),?_⟩;simp[jJ,aR]
  ·rw[mL]at h;split at h
   ·cases h;simp[lC,aR,RS.i,RS.a6]
   ·split at h
    ·cases h
    ·rename_i a O o;have c:=z _ _ _ _ e o;have r:=A (.expr d) _ _ _ e v trivial o;have W:=h3 _ _ _ _ _ (c.ok e) (v.to c) (wx r.1) h;have S:=(t3 _ _ _ _ _ (c.ok e) h).2.2.2;have M:=c.2.2.2
     grind[oK,ug]
  ·rw[qg]at h;split at h
   ·rename_i L;have m:=dY L aC
    have H:p.next.i=p.i+1:=rfl
    split at h
    ·cases h
    ·rename_i a O o;have c:=m.trans (z _ _ _ _ (m.ok e) o);have h9:=(z _ _ _ _ (m.ok e) o).2.2.2;have r:=A (.expr d) _ _ _ (m.ok e) (v.to m) trivial o;have W:=h3 _ _ _ _ _ (c.ok e) (v.to c) (BW ‹lC w› (wx r.1)) h;have S:=(t3 _ _ _ _ _ (c.ok e) h).2.2.2
     grind[oK,CJ,ug]
   grind
def yN{d:Nat}{p q:RS}{t:T}(A:p.ok)(v:SB p)(h:mX d p=some (t,q)):my t/\bc t<=1+2*(q.i-p.i)/\p.i<=q.i:=by
 have:=(Ti _).1 (.expr d) _ _ _ A v trivial h;exact⟨this.1,this.2,(fT A h).2.2.2⟩
def M5{p:RS}{s:ai}(q:s≠[])(h:¬p.code=0):¬(p.a6 s).code=0:=fun e=>h (rp q e).2.1
def Tj:∀(f:Nat),(∀d p t q,p.ok->SB p->mS f (.block d) p=some (t,q)->my t/\bc t<=1+4*(q.i-p.i)/\p.i<=q.i) /\
  (∀d p t q,p.ok->SB p->mS f (.stmt d) p=some (t,q)->my t/\bc t<=2+4*(q.i-p.i)/\(q.code=0->bc t<=4*(q.i-p.i))/\p.i<=q.i) /\
  (∀a d p t q,p.ok->SB p->p.i<p.l.length->(0<=a/\a<=6000)->mS f (.cond a d) p=some (t,q)->my t/\bc t<=2+4*(q.i-p.i)/\(q.code=0->bc t<=4*(q.i-p.i))/\p.i<=q.i) /\
  (∀d E p l q,p.ok->SB p->lC E->mB f d E p=some (l,q)->lC l/\(aR l<=aR E+(if p.code=0 then 2 else 0)+4*(q.i-p.i))/\p.i<=q.i)
 |0=>⟨fun d p t q _ _ h=>by simp[mS]at h,fun d p t q _ _ h=>by simp[mS]at h,fun a d p t q _ _ _ _ h=>by simp[mS]at h,fun d E p l q _ _ _ h=>by simp[mB]at h⟩
 |f+1=>by
  have⟨h1,h2,h3,h4⟩:=Tj f;refine⟨fun d p t q o F h=>?_,fun d p t q o F h=>?_,fun a d p t q o F mo ha h=>?_,fun d E p l q o F hac h=>?_⟩
  ·rw[mS]at h;have S:=im o d
   have hi:(p.aX d).i=p.i:=by unfold RS.aX RS.fail;grind
   rw[<-hi];have c:=S.ok o;have k:=F.to S;generalize p.aX d=p at *
   try simp only at h
   have A:=bT c (s:=[123]) aC;split at h
   ·cases h
   ·rename_i l z j;have M:=h4 _ _ _ _ _ (A.ok c) (k.to A) (by simp[lC]) j;have C:=A.trans ((pK f).2 _ _ _ _ _ (A.ok c) j);cases h;have N:=(bT (C.ok c) (s:=[125]) aC).2.2.2;have h6:=A.2.2.2;refine⟨mU aC k.place (bg _) M.1,?_,by omega⟩;rw[jJ];have h7:=M.2.1;have h8:=M.2.2;rw[aR]at h7;split at h7
    ·rename_i G;have h9:=(rp aC G).1
     have Z8:(p.a6 [123]).i=p.i+1:=by rw[h9];rfl
     omega
    ·omega
  ·rw[mS]at h;have S:=im o d
   have hi:(p.aX d).i=p.i:=by unfold RS.aX RS.fail;grind
   rw[<-hi];have c:=S.ok o;have k:=F.to S;generalize p.aX d=p at *
   try simp only at h
   have L:=k.place
   have last:∀(z:RS),p.to z->z.i<=(z.a6 [59]).i/\((z.a6 [59]).code=0->(z.a6 [59]).i=z.i+1):=fun z hq=>⟨(bT (hq.ok c) aC).2.2.2,fun G=>by rw[(rp aC G).1];rfl⟩
   split at h
   ·rename_i w;have u:=dY w aC;have B:=u.trans (eO (u.ok c));have m:=B.trans (bT (B.ok c) (s:=[61]) aC);split at h
    ·cases h
    ·rename_i e z j;have hx:=yN (m.ok c) (k.to m) j;have H:=last _ (m.trans (fT (m.ok c) j));have N:=((eO (u.ok c)).trans (bT (B.ok c) (s:=[61]) aC)).2.2.2
     have h8:p.next.i=p.i+1:=rfl
     grind[mU,oB,wx,jJ,ug]
   ·split at h
    ·rename_i w;refine h3 _ _ _ _ _ c k ?_ L h
     rcases w with w|w
     ·exact(dG w aC).1
     ·exact(dG w aC).1
    ·split at h
     ·rename_i w;have u:=dY w aC;split at h
      ·cases h
      ·rename_i e z j;have hx:=yN (u.ok c) (k.to u) j;have H:=last _ (u.trans (fT (u.ok c) j))
       have h8:p.next.i=p.i+1:=rfl
       cases h;refine⟨mU aC L (bg _) (wx hx.1),?_,fun G=>?_,?_⟩
       ·grind[jJ,ug]
       ·grind[jJ,ug]
       omega
     ·split at h
      ·have B:=eO c;have m:=B.trans (bT (B.ok c) (s:=[61]) aC);split at h
       ·cases h
       ·rename_i e z j;have hx:=yN (m.ok c) (k.to m) j;have H:=last _ (m.trans (fT (m.ok c) j));have N:=m.2.2.2
        grind[mU,oB,wx,jJ,ug]
      ·split at h
       ·cases h
       ·rename_i e z j;have W:=fT c j;have hx:=yN c k j;split at h
        ·rename_i w;have hn0:=dY w.2.2 aC;have u:=W.trans hn0;split at h
         ·rename_i a r v p2 hk T;have hv:=yN (u.ok c) (k.to u) T;have H:=last _ (u.trans (fT (u.ok c) T))
          have h8:z.next.i=z.i+1:=rfl
          have hsa:my a:=by have:=hx.1.au;grind[lC]
          have hza:bc a+1<=bc e:=by
           cases e with
           |mk n l =>
            have hk:l=a::r:=hk
            grind[aR,bc]
          cases h;refine⟨mU aC L hx.1.n.s (Qk hsa hv.1),?_,fun G=>?_,?_⟩
          ·grind[jJ,G7]
          ·grind[jJ,G7]
          omega
         ·cases h
        ·have H:=last _ W;cases h;refine⟨mU aC L (bg _) (wx hx.1),?_,fun G=>?_,?_⟩
         ·grind[jJ,ug]
         ·grind[jJ,ug]
         omega
  ·rw[mS]at h;have u:=cU mo
   have h8:p.next.i=p.i+1:=rfl
   have A:=u.trans (bT (u.ok o) (s:=[40]) aC);have N:=(bT (u.ok o) (s:=[40]) aC).2.2.2
   have R:0<=p.ck/\p.ck<=14:=by grind[RS.ck]
   try simp only at h
   split at h
   ·cases h
   ·rename_i e z j;have hx:=yN (A.ok o) (F.to A) j;have J:=(A.trans (fT (A.ok o) j)).trans (bT ((A.trans (fT (A.ok o) j)).ok o) (s:=[41]) aC);have h6:=(bT ((A.trans (fT (A.ok o) j)).ok o) (s:=[41]) aC).2.2.2;split at h
    ·cases h
    ·rename_i b q2 O;have Du:=h1 _ _ _ _ (J.ok o) (F.to J) O;have C:=J.trans ((pK f).1 _ _ _ _ (J.ok o) (fun a d' h=>by cases h) O);split at h
     ·rename_i w;have V:=C.trans (dY w.2 aC)
      have h9:q2.next.i=q2.i+1:=rfl
      split at h
      ·cases h
      ·rename_i b2 q3 Q;have vF:=h1 _ _ _ _ (V.ok o) (F.to V) Q;cases h;refine⟨mU R ha (bg _) (by grind[lC]),?_,fun G=>?_,?_⟩
       ·grind[jJ,Yw]
       ·grind[jJ,Yw]
       omega
     ·cases h;refine⟨mU R ha (bg _) (Qk hx.1 Du.1),?_,fun G=>?_,?_⟩
      ·grind[jJ,G7]
      ·grind[jJ,G7]
      omega
  ·rw[mB]at h;split at h
   ·rename_i G;split at h
    ·cases h
    ·rename_i a p' j;have w:=h2 _ _ _ _ o F j;have C:=(pK f).1 _ _ _ _ o (fun a d' h=>by cases h) j;have M:=h4 _ _ _ _ _ (C.ok o) (F.to C) (BW hac (wx w.1)) h;have N:=M.2.1;have h6:=M.2.2;rw[CJ,ug]at N
     grind
   grind
open Go.Im
abbrev YD(n:Nd):Nat:=n.s.length+n.au.length+1
mutual
def SJ:∀(t:T)(a:Nat),my t->cL YD (jC a t)+1<=14*bc t
 |.mk n l,a,h=>by
  rw[my]at h;have M:=h.1.s;have v:=SH l (a+1) h.2;rw[jC,cL,bc]
  grind[db]
def SH:∀(l:List T)(a:Nat),lC l->cL YD (ey a l)+l.length<=14*aR l
 |[],a,h=>by simp[cL,YD,ey,aR]
 |t::r,a,h=>by
  rw[lC]at h;have M:=SJ t a h.1;have v:=SH r (a+bc t) h.2;rw[ey,rF,aR,length_cons];omega
end
mutual
def SI:∀(t:T)(a:Nat),my t->∀n∈jC a t,0<=n.n/\n.n<=2147483647
 |.mk n l,a,h,m,hm=>by
  rw[my]at h;rw[jC]at hm
  rcases ln hm with rfl|hm
  ·exact h.1.n
  ·exact SG l (a+1) h.2 m hm
def SG:∀(l:List T)(a:Nat),lC l->∀n∈ey a l,0<=n.n/\n.n<=2147483647
 |[],a,h,m,hm=>by grind[ey]
 |t::r,a,h,m,hm=>by
  rw[lC]at h;rw[ey]at hm
  rcases vf hm with hm|hm
  ·exact SI t a h.1 m hm
  ·exact SG r (a+bc t) h.2 m hm
end
structure PB(p:Src)(i:Nat):Prop where
 w:cM p<=100*i
 num:jZ p
def DO:Src:=⟨[],[],[],[]⟩
def PB.no:PB DO 0:=⟨aQ _,⟨(fun a h=>by simp[DO]at h),(fun a h=>by simp[DO]at h)⟩⟩
def PB.glob{p:Src}{i j:Nat}(h:PB p i)(s:ai)(q:s.length<=12)(L:i<j):PB ⟨p.ax++[s],p.aq,p.ak,p.ah⟩ j:=by
 refine⟨?_,h.num.aq,h.num.ah⟩;exact zeV
def PB.arr{p:Src}{i j:Nat}(h:PB p i)(a:Ar)(q:a.name.length<=12)(m:0<=a.size/\a.size<=2147483647)(L:i<j):PB ⟨p.ax,p.aq++[a],p.ak,p.ah⟩ j:=by
 refine⟨?_,fun x hx=>?_,h.num.ah⟩
 ·exact zeV
 ·rcases vf hx with hx|hx
  ·exact h.num.aq x hx
  grind
def Hl:∀(l:List ai),(∀s∈l,s.length<=12)->wS l<=13*l.length
 |[],_=>aQ _
 |s::l,h=>by
  have M:=h s ze6
  have v:=Hl l fun s q=>h s (by simp[q])
  unfold wS at *
  grind[cL]
def PB.fn{p:Src}{i j:Nat}(h:PB p i)(f:Fn)(t:T)(q:f.name.length<=12)(A:∀s∈f.params,s.length<=12)(o:my t)(k b:Nat)(l:f.params.length<=k)(B:bc t<=1+4*b)(L:i+1+k+b<=j):PB ⟨p.ax,p.aq,p.ak++[f],p.ah++jC p.ah.length t⟩ j:=by
 refine⟨?_,h.num.aq,fun x hx=>?_⟩
 ·have M:=h.w;have v:=SJ t p.ah.length o;have z:=Hl f.params A;unfold cM at *;simp only[rF,cL]at *
  grind
 ·rcases vf hx with hx|hx
  ·exact h.num.ah x hx
  ·have:=SI t _ o x hx;omega
def JU{p:Src}(h:jZ p)(i:Nat){x:Nd}(hx : -9223372036854775808<=x.n/\x.n<=9223372036854775807):jZ ⟨p.ax,p.aq,p.ak,p.ah.set i x⟩ :=
 ⟨h.aq,fun y J=>by rcases List.mem_or_eq_of_mem_set J with J|J;exact h.ah y J;grind⟩
def abj{p:Src}{i:Nat}{x:Nd}(h:p.ah[i]?=some x):x.s.length+x.au.length+1<=cM p:=by
 have:=rH (f:=fun n:Nd=>n.s.length+n.au.length+1) (bB h)
 grind[cM]
def Z0(p:Src)(f g:Fn)(r:List Fn)(h:p.ak=f::r)(hn:g.name=f.name)(A:g.params=f.params):cM ⟨p.ax,p.aq,g::r,p.ah⟩=cM p:=by
 unfold cM;simp only[h,cL,hn,A]
def ZZ(p:Src)(a:Ar):cM ⟨p.ax,p.aq++[a],p.ak,p.ah⟩=cM p+a.name.length+1:=by
 unfold cM;simp only[rF,cL];omega
def DP(s:ai):∀(f:Nat)(n:Int)(a:Nat),0<=n->0<=(number s f n a).1
 |0,n,a,h=>h
 |f+1,n,a,h=>by
  rw[number]
  cases k:s[a]? with
  |none=>exact h
  |some c =>
   simp only
   by_cases F:eF c=true
   ·rw[ae F];refine DP s f _ _ ?_
    grind[eF]
   grind
def OW{s:ai}{a:Nat}{c:UInt8}(k:s[a]?=some c)(hd:eF c=true)(n:Int):a<(number s (s.length+1) n a).2:=by
 grind[sW]
theorem Ph:∀x∈cx,1<=x.length:=by decide
section
variable{s:ai}{a:Nat}{c:UInt8}
theorem R4(k:s[a]?=some c)(l:¬(gD s a c).1.ab=0):a<(gD s a c).2:=by
 have M:=(bR k).1;unfold gD at l |-
 by_cases F:eF c=true
 ·simp_all[ae,OW]
 ·rw[D F]at l |-
  by_cases q:small c=true
  ·rw[ae q];show a<gQ s a;unfold gQ;rw[run,k];simp only;rw[ae (by grind[fv])]
   grind[oX]
  grind[Ph]
theorem VI(k:s[a]?=some c)(T:s.length<=6000)(hn:(gD s a c).1.n<=2147483647):BM (gD s a c).1:=by
 have M:=(bR k).1;unfold gD at hn |-
 by_cases F:eF c=true
 ·rw[ae F]at hn |-;exact⟨⟨by simp,by grind⟩,DP s _ 0 a (Int.le_refl _),hn⟩
 ·rw[D F]at hn |-
  by_cases q:small c=true
  ·rw[ae q]at hn |-;exact⟨⟨by simp,by grind⟩,Int.le_refl _,hn⟩
  ·rw[D q]at hn |-;split
   ·exact⟨⟨by simp,by grind⟩,Int.le_refl _,by simp⟩
   ·exact⟨⟨Int.le_refl _,by simp⟩,Int.le_refl _,by simp⟩
end
def tS{S:Type}{f:S->Nat}(h:∀x,1<=f x):∀l:List S,l.length<=cL f l
 |[]=>aQ _
 |x::l=>by have M:=h x;have v:=tS h l;grind[cL]
def Aq(p:Src):p.ax.length<=cM p/\p.aq.length<=cM p/\p.ak.length<=cM p/\p.ah.length<=cM p:=by
 have M:p.ax.length<=wS p.ax:=tS (fun s=>Nat.le_add_left 1 _) _;have v:=tS (f:=fun a:Ar=>a.name.length+1) (fun s=>Nat.le_add_left 1 _) p.aq;have w:=tS (f:=fun f:Fn=>f.name.length+wS f.params+1) (fun s=>Nat.le_add_left 1 _) p.ak;have N:=tS (f:=fun n:Nd=>n.s.length+n.au.length+1) (fun s=>Nat.le_add_left 1 _) p.ah;unfold cM;omega
def pM(p:RS):Int × RS:=match p.l[p.i]? with
 |some t=>if t.ab=1 then(t.n,p.next)else(0,p.fail 7 p.place)
 |none=>(0,p.fail 7 p.place)
def Kq{p:RS}(A:p.ok):p.to (pM p).2:=by
 grind[mV,cU,List.getElem?_eq_some_iff,RS.to,pM]
def RW{p:RS}(h:SB p):0<=(pM p).1/\(pM p).1<=2147483647:=by
 unfold pM
 cases o:p.l[p.i]? with
 |none=>simp
 |some t =>
  simp only;split
  ·exact(h.at o).n
  simp
end Go.Sp
namespace Go.Im
open Go.Xp Go.Sp
def C3{p:Src}{l:List T}(h:iq p l):∀a∈p.aq,0<=a.size/\a.size<=2147483647:=fun a z=>by
 have:=fa.1 h.aq a z;exact zc2
def lU:ai:=[103,101,116]
def lr:ai:=[112,117,116]
def cB:ai:=[115,105,122,101]
def eU:ai:=[109,97,105,110]
def jN(s:ai):Bool:=(s==lU ||s==lr) ||s==cB
def bM{S:Type}(f:S->Bool)(l:List S):Int:=match l.findIdx? f with|some i=>(i:Int)|none => -1
def bF(p:Src)(s:ai):Int:=bM (fun f:Fn=>f.name==s) p.ak
def mq(p:Src)(s:ai):Int:=bM (fun a:Ar=>a.name==s) p.aq
def fG(p:Src):List ai:=p.aq.map fun a:Ar=>a.name
def iL(p:Src):List ai:=p.ak.map fun f:Fn=>f.name
def du(p:Src):List ai:=(p.ax++fG p)++iL p
def lG(t:T):Nd:=match t.au with|k::_=>k.n|[]=>⟨0,0,0,[],[]⟩
def b9(t:T):Bool:=(t.n.ab==4&&t.n.s==cB)&&(t.au.length==1)
def mM(p:Src)(i:Nat):Nat:=match p.ak[i]? with|some f=>f.params.length|none=>0
def jr(p:Src)(s:ai):Int:=if s=lU then 0 else if s=lr\/s=cB then 1 else match p.ak.findIdx? (fun f:Fn=>f.name==s)with|some i=>(mM p i:Int)|none => -1
def ga(p:Src)(k:Nd)(ls:List ai):Bool:=(k.ab != 2 ||decide (mq p k.s<0)) ||ls.contains k.s
def dH(p:Src)(t:T)(ls:List ai):Int :=
 if b9 t=true then(if ga p (lG t) ls=true then 24 else 0)
 else if jr p t.n.s = -1 then 22 else if jr p t.n.s=(t.au.length:Int)then 0 else 23
def bG(p:Src)(t:T)(ls:List ai):Int :=
 if t.n.ab=13 then(if ls.contains t.n.s=true then 21 else if ls.length>=40 then 26 else 0)
 else if t.n.ab=2\/t.n.ab=7 then(if ls.contains t.n.s=false/\p.ax.contains t.n.s=false then 22 else 0)
 else if t.n.ab=3\/t.n.ab=8 then(if ls.contains t.n.s=true\/mq p t.n.s<0 then 24 else 0)
 else if t.n.ab=4 then dH p t ls
 else 0
structure CS where
 code:Int
 place:Int
 skip:Int
def dB(p:Src)(c:CS)(a:Nat)(t:T)(ls:List ai):CS :=
 if c.code≠0\/(a:Int)=c.skip then c
 else⟨bG p t ls,if bG p t ls≠0 then t.n.at_ else c.place,if b9 t=true then(if(lG t).ab≠2 then -1 else((a+1:Nat):Int))else c.skip⟩
mutual
def fq{u:Type}(f:u->Nat->T->List ai->u):T->Nat->u->List ai->u × List ai
 |.mk n l,a,s,G=>((dk f l (a+1) (f s a (.mk n l) G) G).1,if n.ab=13 then(dk f l (a+1) (f s a (.mk n l) G) G).2++[n.s]else(dk f l (a+1) (f s a (.mk n l) G) G).2)
def dk{u:Type}(f:u->Nat->T->List ai->u):List T->Nat->u->List ai->u × List ai
 |[],_,s,G=>(s,G)
 |t::r,a,s,G=>dk f r (a+bc t) (fq f t a s G).1 (fq f t a s G).2
end
theorem vz{u:Type}(f:u->Nat->T->List ai->u)(t:T)(a:Nat)(s:u)(ls:List ai) :
  fq f t a s ls=((dk f t.au (a+1) (f s a t ls) ls).1,if t.n.ab=13 then(dk f t.au (a+1) (f s a t ls) ls).2++[t.n.s]else(dk f t.au (a+1) (f s a t ls) ls).2):=by
 cases t;rfl
def oQ(l:List ai)(k:Nat):Bool:=match l[k]? with|some s=>(l.take k).contains s|none=>false
def va(l:List ai):Bool:=(List.range l.length).any (oQ l)
def gW(p:Src)(f:Fn)(t:T)(a:Nat):Int × Int :=
 if va f.params=true then(21,0)else((fq (dB p) t a ⟨0,0,-1⟩ f.params).1.code,(fq (dB p) t a ⟨0,0,-1⟩ f.params).1.place)
def kg(l:List ai)(k:Nat):Bool:=match l[k]? with|some s=>jN s ||(l.take k).contains s|none=>false
def eK(l:List ai):Bool:=(List.range l.length).any (kg l)
def eE(l:List Ar):Int:=l.foldl (fun n a=>n+a.size) 0
def iH(p:Src):Bool:=p.aq.any (fun a=>a.size==0) ||((((decide (p.ak.length>40) ||decide (p.ax.length>29)) ||decide (eE p.aq>8000))) ||p.ak.any fun f=>decide (f.params.length>40))
def nM(f:Fn):Bool:=f.name==eU&&f.params.length==0
def gI(p:Src):List Fn->List T->Nat->Int × Int
 |f::r,t::l,a=>if(gW p f t a).1≠0 then gW p f t a else gI p r l (a+bc t)
 |_,_,_=>(0,0)
def zg(p:Src)(l:List T):Int × Int :=
 if eK (du p)=true then(21,0)else if iH p=true then(26,0)else if p.ak.any nM=false then(25,0)else gI p p.ak l 0
def cw(p:Src):Bool:=fI p&&(match j3 p.ah p.ak 0 []with|some (l,_)=>decide ((zg p l).1=0)|none=>false)
structure SS where
 ls:List ai
 code:Int
 at_:Int
def SS.fail(c:SS)(k a:Int):SS:=if c.code=0 then⟨c.ls,k,a⟩else c
def ft(c:SS)(n:Nd)(k want:Nat):SS:=if k≠want then c.fail 23 n.at_ else c
def gC(p:Src)(c:SS)(t:T):SS × Bool :=
 if t.n.s=lU then(ft c t.n t.au.length 0,true)
 else if t.n.s=lr then(ft c t.n t.au.length 1,true)
 else if t.n.s=cB then(ft (if t.au.length=1/\ga p (lG t) c.ls=true then c.fail 24 t.n.at_ else c) t.n t.au.length 1,false)
 else match p.ak.findIdx? (fun f:Fn=>f.name==t.n.s)with
  |none=>(c.fail 22 t.n.at_,false)
  |some i=>(ft c t.n t.au.length (mM p i),true)
def kx(p:Src)(c:SS)(t:T):SS × Bool :=
 if t.n.ab=2\/t.n.ab=7 then(if c.ls.contains t.n.s=false/\p.ax.contains t.n.s=false then c.fail 22 t.n.at_ else c,true)
 else if t.n.ab=3\/t.n.ab=8 then(if c.ls.contains t.n.s=true\/mq p t.n.s<0 then c.fail 24 t.n.at_ else c,true)
 else if t.n.ab=4 then gC p c t
 else(c,true)
def mZ(c:SS)(n:Nd):SS :=
 if n.ab≠13 then c
 else if c.ls.contains n.s=true then⟨(c.fail 21 n.at_).ls++[n.s],(c.fail 21 n.at_).code,(c.fail 21 n.at_).at_⟩
 else if c.ls.length=40 then⟨(c.fail 26 n.at_).ls++[n.s],(c.fail 26 n.at_).code,(c.fail 26 n.at_).at_⟩
 else⟨c.ls++[n.s],c.code,c.at_⟩
mutual
def oC(p:Src):T->SS->SS
 |.mk n l,c=>mZ (if(kx p c (.mk n l)).2=true then jE p l (kx p c (.mk n l)).1 else(kx p c (.mk n l)).1) n
def jE(p:Src):List T->SS->SS
 |[],c=>c
 |t::r,c=>jE p r (oC p t c)
end
theorem vO(p:Src)(t:T)(c:SS):oC p t c=mZ (if(kx p c t).2=true then jE p t.au (kx p c t).1 else(kx p c t).1) t.n:=by cases t;rw[oC];rfl
mutual
def sG:T->Prop
 |.mk n l=>n.ab≠13/\lH l
def lH:List T->Prop
 |[]=>True
 |t::r=>sG t/\lH r
end
mutual
def fR:T->Prop
 |.mk n l=>(n.ab=13->lH l)/\(n.ab=2->l=[])/\eL l
def eL:List T->Prop
 |[]=>True
 |t::r=>fR t/\eL r
end
mutual
def ZG:∀t:T,sG (er t)↔sG t
 |.mk n l=>by rw[er,sG,sG,Gg l]
def Gg:∀l:List T,lH (bo l)↔lH l
 |[]=>by rw[bo]
 |t::r=>by rw[bo,lH,lH,ZG t,Gg r]
end
def Up{l:List T}:bo l=[]↔l=[]:=by
 cases l with
 |nil=>rw[bo]
 |cons t r=>rw[bo];simp
mutual
theorem TK:∀t:T,fR (er t)↔fR t
 |.mk n l=>by rw[er,fR,fR,Gg l,PR l,Up]
theorem PR:∀l:List T,eL (bo l)↔eL l
 |[]=>by rw[bo]
 |t::r=>by rw[bo,eL,eL,TK t,PR r]
end
mutual
def E.nv:∀a:E,sG a.tree
 |.num n=>by rw[E.tree,sG];exact⟨by simp,trivial⟩
 |.name s=>by rw[E.tree,sG];exact⟨by simp,trivial⟩
 |.at_ s a=>by rw[E.tree,sG,lH,lH];exact⟨by simp,E.nv a,trivial⟩
 |.call s l=>by rw[E.tree,sG];exact⟨by simp,E.nvs l⟩
 |.un s a=>by rw[E.tree,sG,lH,lH];exact⟨by simp,E.nv a,trivial⟩
 |.bin s a b=>by rw[E.tree,sG,lH,lH,lH];exact⟨by simp,E.nv a,E.nv b,trivial⟩
def E.nvs:∀l:List E,lH (E.aM l)
 |[]=>trivial
 |a::l=>by rw[E.aM,lH];exact⟨E.nv a,E.nvs l⟩
end
mutual
theorem E.wf:∀a:E,fR a.tree
 |.num n=>zdU
 |.name s=>zdU
 |.at_ s a=>zcL
 |.call s l=>by rw[E.tree,fR];exact⟨fun h=>absurd h ze6,fun h=>absurd h ze6,E.Ef l⟩
 |.un s a=>zcL
 |.bin s a b=>by rw[E.tree,fR,eL,eL,eL];exact⟨fun h=>absurd h ze6,fun h=>absurd h ze6,E.wf a,E.wf b,trivial⟩
theorem E.Ef:∀l:List E,eL (E.aM l)
 |[]=>trivial
 |a::l=>by rw[E.aM,eL];exact⟨E.wf a,E.Ef l⟩
end
mutual
theorem S.wf:∀a:S,fR a.tree
 |.set s a=>zdu
 |.put s a b=>zdu
 |.if1 c b=>zeh
 |.if2 c b d=>zeh
 |.while_ c b=>zeh
 |.ret a=>zdu
 |.do_ a=>zdu
 |.var s a=>by simp[eL,lH,E.nv,trivial,E.wf,fR,S.tree]
theorem S.Ef:∀l:List S,eL (S.aM l)
 |[]=>trivial
 |a::l=>by rw[S.aM,eL];exact⟨S.wf a,S.Ef l⟩
end
theorem YE(l:List S):fR (cy l):=by
 grind[S.Ef,fR,cy]
def SS.qd(c:SS)(k a:Int):(c.fail k a).ls=c.ls:=by grind[fail]
theorem xk(c:SS)(n:Nd)(k w:Nat):(ft c n k w).ls=c.ls:=by unfold ft;grind[SS.fail]
theorem vW(p:Src)(c:SS)(t:T):(kx p c t).1.ls=c.ls:=by
 unfold kx gC;split
 ·simp only;split;(· exact c.qd _ _);rfl
 split
 ·simp only;split;(· exact c.qd _ _);rfl
 split
 ·split
  ·grind[xk]
  split
  ·grind[xk]
  split
  ·simp only;rw[xk];split;(· exact c.qd _ _);rfl
  split
  ·exact c.qd _ _
  grind[xk]
 ·rfl
mutual
def ZE(p:Src):∀(t:T),sG t->∀c,(oC p t c).ls=c.ls
 |.mk n l,h,c=>by
  rw[sG]at h;rw[oC,mZ,ae h.1];split
  ·rw[Gd p l h.2,vW]
  grind[vW]
def Gd(p:Src):∀(l:List T),lH l->∀c,(jE p l c).ls=c.ls
 |[],_,c=>by rw[jE]
 |t::r,h,c=>by
  rw[lH]at h;rw[jE,Gd p r h.2,ZE p t h.1]
end
theorem SS.B9{c:SS}(h:c.code≠0)(k a:Int):c.fail k a=c:=by grind[fail]
theorem SS.tf(c:SS){k:Int}(l:k≠0)(a:Int):(c.fail k a).code≠0:=by
 grind[fail]
def Se{c:SS}(h:c.code≠0)(n:Nd)(k w:Nat):ft c n k w=c:=by grind[SS.B9,ft]
def Ve(p:Src){c:SS}(h:c.code≠0)(t:T):(kx p c t).1=c:=by
 unfold kx gC;simp only[SS.B9 h,Se h,ite_self]
 grind
theorem yW{c:SS}(h:c.code≠0)(n:Nd):(mZ c n).code≠0:=by
 unfold mZ
 grind[SS.B9]
mutual
theorem Tl(p:Src):∀(t:T)(c:SS),c.code≠0->(oC p t c).code≠0
 |.mk n l,c,h=>by
  rw[oC];refine yW ?_ n;rw[Ve p h];split
  ·exact vP p l c h
  ·exact h
theorem vP(p:Src):∀(l:List T)(c:SS),c.code≠0->(jE p l c).code≠0
 |[],c,h=>by grind[jE]
 |t::r,c,h=>by rw[jE];exact vP p r _ (Tl p t c h)
end
def RY(p:Src){c:CS}(h:c.code≠0)(a:Nat)(t:T)(ls:List ai):dB p c a t ls=c:=by grind[dB]
mutual
theorem Zb(p:Src):∀(t:T)(a:Nat)(c:CS)(ls:List ai),c.code≠0->(fq (dB p) t a c ls).1=c
 |.mk n l,a,c,ls,h=>by rw[fq,RY p h];exact vB p l _ c ls h
theorem vB(p:Src):∀(l:List T)(a:Nat)(c:CS)(ls:List ai),c.code≠0->(dk (dB p) l a c ls).1=c
 |[],a,c,ls,h=>by rw[dk]
 |t::r,a,c,ls,h=>by
  have M:=Zb p t a c ls h;rw[dk,M];exact vB p r _ c _ h
end
def AF(a:Nat)(r:CS × List ai)(q:SS):Prop:=(r.1.code=0/\q.code=0/\r.2=q.ls/\r.1.skip<(a:Int)/\q.ls.length<=40)\/(r.1.code≠0/\q.code≠0)
def RU(p:Src)(t:T)(hw1:t.n.ab=13->lH t.au)(N1:∀k∈t.au,k.n.ab=2->k.au=[])
  (ih:∀(a:Nat)(r:CS)(q:SS),r.code=0->q.code=0->r.skip<(a:Int)->q.ls.length<=40->AF (a+aR t.au) (dk (dB p) t.au a r q.ls) (jE p t.au q))
  (a:Nat)(r:CS)(q:SS)(hr:r.code=0)(W:q.code=0)(hs:r.skip<(a:Int))(H:q.ls.length<=40):AF (a+bc t) (fq (dB p) t a r q.ls) (oC p t q):=by
 have FM:¬(r.code≠0\/(a:Int)=r.skip):=by
  omega
 obtain⟨J,m⟩:∃J,dB p r a t q.ls=⟨bG p t q.ls,J,if b9 t=true then(if(lG t).ab≠2 then -1 else((a+1:Nat):Int))else r.skip⟩:=by
  unfold dB;simp_all
 have pf:=fC t
 have e:∀x:SS,bG p t q.ls≠0->x.code≠0->AF (a+bc t) (fq (dB p) t a r q.ls) x:=fun x M v=>by
  refine .inr ⟨?_,v⟩
  grind[vz,vB]
 have go:bG p t q.ls=0->b9 t=false->t.n.ab≠13->kx p q t=(q,true)->AF (a+bc t) (fq (dB p) t a r q.ls) (oC p t q):=fun M v N h4=>by
  have:=ih (a+1) ⟨0,J,r.skip⟩ q rfl W ze3 H;rw[vz,vO,h4,m,M,v,D N,mZ,ae N]
  grind
 by_cases j:t.n.ab=13
 ·have V:=hw1 j
  have G:b9 t=false:=by grind[b9]
  have b:kx p q t=(q,true):=by grind[kx]
  have l:(jE p t.au q).ls=q.ls:=Gd p t.au V q
  have E:bG p t q.ls=if q.ls.contains t.n.s=true then 21 else if q.ls.length>=40 then 26 else 0:=by
   unfold bG;omega
  rw[vO,b];simp only[if_true]
  by_cases o:q.ls.contains t.n.s=true
  ·refine e _ ze3 ?_;rw[mZ,D aI,l,ae o]
   grind[SS.tf]
  by_cases Ji:q.ls.length>=40
  ·refine e _ aI ?_;rw[mZ,D aI,l,D o,ae aI]
   grind[SS.tf]
  have L:bG p t q.ls=0:=by grind
  have:=ih (a+1) ⟨0,J,r.skip⟩ q rfl W ze3 H;rw[mZ,D aI,l,D o,D aI,vz,m,L,G,ae j];refine zdM ?_;rw[show a+bc t=a+1+aR t.au by omega]
  rcases this with⟨k1,k2,k3,k4,k5⟩|⟨k1,k2⟩
  ·refine .inl ⟨k1,k2,?_,k4,?_⟩
   ·grind
   grind
  ·exact .inr ⟨k1,k2⟩
 by_cases v:t.n.ab=2\/t.n.ab=7
 ·have G:b9 t=false:=by
   grind[b9]
  by_cases o:q.ls.contains t.n.s=false/\p.ax.contains t.n.s=false
  ·refine e _ (by grind[bG]) ?_
   have b:kx p q t=(q.fail 22 t.n.at_,true):=by grind[kx]
   rw[vO,b];refine yW ?_ t.n;simp[if_true,vP,SS.tf]
  simp_all[bG,D,ae,kx]
 by_cases N:t.n.ab=3\/t.n.ab=8
 ·have G:b9 t=false:=by
   grind[b9]
  by_cases o:q.ls.contains t.n.s=true\/mq p t.n.s<0
  ·refine e _ (by grind[bG]) ?_
   have b:kx p q t=(q.fail 24 t.n.at_,true):=by grind[kx]
   rw[vO,b];refine yW ?_ t.n;simp[if_true,vP,SS.tf]
  simp_all[bG,D,ae,kx]
 by_cases h4:t.n.ab=4
 ·have E:bG p t q.ls=dH p t q.ls:=by grind[bG]
  have b:kx p q t=gC p q t:=by grind[kx,gC]
  have u:∀x:SS × Bool,gC p q t=x->bG p t q.ls≠0->x.1.code≠0->AF (a+bc t) (fq (dB p) t a r q.ls) (oC p t q):=fun x hx M v=>by
   grind[vO,yW,vP]
  have abF:b9 t=((t.n.s==cB)&&(t.au.length==1)):=by unfold b9;grind
  have d:∀w:Nat,t.n.s≠cB->jr p t.n.s=(w:Int)->gC p q t=(ft q t.n t.au.length w,true)->AF (a+bc t) (fq (dB p) t a r q.ls) (oC p t q):=fun w e1 e2 e3=>by
   have G:b9 t=false:=by grind
   have O:dH p t q.ls=if(w:Int)=(t.au.length:Int)then 0 else 23:=by
    grind[dH]
   by_cases B:t.au.length=w
   ·simp_all[ae,ft,D]
   ·refine u _ e3 aI ?_;rw[ft,ae B]
    grind[SS.fail]
  by_cases hg:t.n.s=lU
  ·exact d 0 (by rw[hg];decide) (by grind[jr]) (by grind[gC])
  by_cases hp:t.n.s=lr
  ·exact d 1 (by rw[hp];decide) (by grind[jr]) (by grind[gC,ft,T.n,T.au])
  by_cases G:t.n.s=cB
  ·have z:gC p q t=(ft (if t.au.length=1/\ga p (lG t) q.ls=true then q.fail 24 t.n.at_ else q) t.n t.au.length 1,false):=by
    unfold gC
    grind
   by_cases B:t.au.length=1
   ·have FQ:b9 t=true:=by grind
    have O:dH p t q.ls=if ga p (lG t) q.ls=true then 24 else 0:=by grind[dH]
    by_cases hb:ga p (lG t) q.ls=true
    ·simp_all[ae,ft,D,SS.tf]
    ·have A:gC p q t=(q,false):=by simp_all[D,ft]
     rw[vO,b,A,mZ,ae j];refine zdM ?_
     have L:bG p t q.ls=0:=by grind
     obtain⟨k,S⟩:∃k,t.au=[k]:=by
      match H:t.au,B with
      |[k],_=>simp
     have Q:lG t=k.n:=by grind[lG]
     have R:k.n.ab=2:=by
      grind[ga,Bool.or_eq_false_iff]
     have C:k.au=[]:=N1 k ze3 R
     have hk1:bc k=1:=by rw[fC,C,aR]
     have F:∀c:CS,((a+1:Nat):Int)=c.skip->dB p c (a+1) k q.ls=c:=fun c o=>by grind[dB]
     rw[vz,m,L,FQ,D j,S,Q];simp only[if_true,dk];rw[vz,C];simp only[dk];rw[D aI,F _ rfl,D aI];refine .inl ⟨rfl,W,rfl,?_,H⟩
     grind[aR]
   ·have hs0:b9 t=false:=by grind
    refine u _ z ?_ ?_
    ·rw[E];unfold dH;rw[hs0,D aC]
     grind[jr]
    ·rw[D (fun h=>B h.1),ft,ae B]
     grind[SS.fail]
  have hnm:jr p t.n.s=match p.ak.findIdx? (fun f:Fn=>f.name==t.n.s)with|some i=>(mM p i:Int)|none => -1:=by
   unfold jr;grind
  have z:gC p q t=match p.ak.findIdx? (fun f:Fn=>f.name==t.n.s)with|none=>(q.fail 22 t.n.at_,false)|some i=>(ft q t.n t.au.length (mM p i),true):=by
   unfold gC
   grind
  cases hf:p.ak.findIdx? (fun f:Fn=>f.name==t.n.s)with
  |some i =>
   grind
  |none =>
   simp_all[SS.tf,dH,cB,Bool.false_and,D]
 simp_all[bG,D,b9,kx]
def Hq:∀{l:List T},eL l->∀k∈l,fR k
 |[],_,k,m=>by cases m
 |t::r,h,k,m=>by
  rw[eL]at h
  rcases ln m with rfl|m
  ·exact h.1
  ·exact Hq h.2 k m
mutual
def Yi(p:Src):∀(t:T),fR t->∀(a:Nat)(r:CS)(q:SS),r.code=0->q.code=0->r.skip<(a:Int)->q.ls.length<=40->AF (a+bc t) (fq (dB p) t a r q.ls) (oC p t q)
 |.mk n l,R=>by
  rw[fR]at R;refine RU p (.mk n l) R.1 (fun k o v=>?_) (Yh p l R.2.2);have:=Hq R.2.2 k o;have⟨m,j⟩:=k;rw[fR]at this;exact this.2.1 v
def Yh(p:Src):∀(l:List T),eL l->∀(a:Nat)(r:CS)(q:SS),r.code=0->q.code=0->r.skip<(a:Int)->q.ls.length<=40->AF (a+aR l) (dk (dB p) l a r q.ls) (jE p l q)
 |[],_,a,r,q,s,m,u,V=>by rw[dk,jE,aR];grind[AF]
 |t::l,R,a,r,q,s,m,u,V=>by
  rw[eL]at R;rw[dk,jE,aR]
  rcases Yi p t R.1 a r q s m u V with⟨B,L,v,J,W⟩|⟨B,L⟩
  ·rw[v];have:=Yh p l R.2 (a+bc t) _ _ B L J W
   grind
  ·exact .inr ⟨by grind[vB],vP p l _ L⟩
end
def iD(c k:Int):Int:=if c=0 then k else c
def nB(a:Ar):Bool:=decide (a.size<1) ||decide (a.size>8000)
def lK(p:Src):Bool:=match p.ak.findIdx? (fun f:Fn=>f.name==eU)with|none=>true|some i=>decide (mM p i>0)
def u3(p:Src):Bool:=(decide (p.ak.length>40) ||decide (p.ax.length>29)) ||decide (eE p.aq>8000)
def rC(p:Src)(c:Int):Int :=
 if p.aq.any nB=true then iD c 26
 else if lK p=true then iD (if(p.ak.any fun f=>decide (f.params.length>40))=true then iD (if u3 p=true then iD c 26 else c) 26 else(if u3 p=true then iD c 26 else c)) 25
 else if(p.ak.any fun f=>decide (f.params.length>40))=true then iD (if u3 p=true then iD c 26 else c) 26 else(if u3 p=true then iD c 26 else c)
def ry(f:Fn)(c:SS):SS:=⟨f.params,if va f.params=true then iD c.code 21 else c.code,if va f.params=true/\c.code=0 then 0 else c.at_⟩
def oo(p:Src):List Fn->List T->SS->SS
 |f::r,t::l,c=>oo p r l (if c.code=0 then oC p t (ry f c)else c)
 |_,_,c=>c
def MZ(p:Src)(l:List T):SS:=oo p p.ak l ⟨[],rC p (if eK (du p)=true then 21 else 0),0⟩
def yD(p:Src):∀(d:List Fn)(l:List T)(c:SS),c.code≠0->(oo p d l c).code≠0
 |f::r,t::l,c,h=>by rw[oo,D h];exact yD p r l c h
 |[],_,c,h=>by grind[oo]
 |f::r,[],c,h=>by grind[oo]
def WB(p:Src)(f:Fn)(t:T)(a:Nat)(c:SS)(R:fR t)(k:c.code=0)(A:f.params.length<=40):(gW p f t a).1=0↔(oC p t (ry f c)).code=0:=by
 unfold gW
 by_cases F:va f.params=true
 ·rw[ae F]
  have:(ry f c).code≠0:=by unfold ry;rw[ae F];unfold iD;grind
  grind[Tl]
 ·rw[D F]
  have m:(ry f c).code=0:=by grind[ry]
  have M:=Yi p t R a ⟨0,0,-1⟩ (ry f c) rfl m ze3 A;show(fq (dB p) t a ⟨0,0,-1⟩ (ry f c).ls).1.code=0↔_
  rcases M with⟨B,L,_⟩|⟨B,L⟩
  ·omega
  omega
theorem Jc(p:Src):∀(d:List Fn)(l:List T)(a:Nat)(c:SS),c.code=0->(∀t∈l,fR t)->(∀f∈d,f.params.length<=40)->((gI p d l a).1=0↔(oo p d l c).code=0)
 |f::r,t::l,a,c,k,R,A=>by
  have M:=WB p f t a c (R t mem_cons_self) k (A f mem_cons_self);rw[gI,oo,ae k]
  by_cases h:(gW p f t a).1=0
  ·rw[D aI];exact Jc p r l _ _ (M.1 h) (fun u m=>R u (ew _ m)) (fun g B=>A g (ew _ B))
  simp_all[ae,yD]
 |[],_,a,c,k,_,_=>by rw[gI,oo];(· omega);all_goals(intros;simp_all)
 |f::r,[],a,c,k,_,_=>by rw[gI,oo];(· omega);all_goals(intros;simp_all)
def cells_from(l:List Ar):∀n:Int,l.foldl (fun n a=>n+a.size) n=n+eE l:=by
 induction l with
 |nil=>grind[eE]
 |cons a l O =>
  grind[eE]
theorem K9(a:Ar)(l:List Ar):eE (a::l)=a.size+eE l:=by
 unfold eE;rw[List.foldl_cons,cells_from];grind[eE]
def Qp{l:List Ar}(h:∀a∈l,0<=a.size):0<=eE l/\∀a∈l,a.size<=eE l:=by
 induction l with
 |nil=>simp[eE,Ar.size]
 |cons b l O =>
  grind[ew,mem_cons_self,K9]
theorem HI{l:List ai}(h:eK l=false){i j:Nat}{s:ai}(hi:l[i]?=some s)(G:l[j]?=some s):i=j:=by
 have c:∀x y:Nat,x<y->l[x]?=some s->l[y]?=some s->False:=fun x y W M v=>by
  have J:=(bR v).1;unfold eK at h;rw[any_eq_false]at h;have:=h y (List.mem_range.2 J);unfold kg at this;rw[v]at this;simp only[Bool.or_eq_true,not_or]at this
  grind[l9,List.mem_take_iff_getElem,List.getElem?_eq_some_iff]
 grind
theorem Ah{p:Src}(h:eK (du p)=false):p.ak.any nM=true↔lK p=false:=by
 have k:∀(i:Nat)f,p.ak[i]?=some f->(du p)[(p.ax++fG p).length+i]?=some f.name:=fun i f s=>by
  unfold du;rw[lz aI,Nat.add_sub_cancel_left,iL,bO,s];rfl
 unfold lK
 cases s:p.ak.findIdx? (fun f:Fn=>f.name==eU)with
 |none =>
  grind[nM]
 |some i =>
  rw[List.findIdx?_eq_some_iff_getElem]at s;have⟨t,M,w⟩:=s
  have m:p.ak[i]?=some p.ak[i]:=by simp[t]
  simp only[mM,m];constructor
  ·intro v;have⟨f,N,S⟩:=qQ.1 v;have⟨j,G⟩:=getElem?_of_mem N;unfold nM at S
   grind[HI]
  ·intro v;simp only[gt_iff_lt,decide_eq_false_iff_not,Nat.not_lt,Nat.le_zero]at v;exact qQ.2 ⟨p.ak[i],List.getElem_mem t,by grind[nM]⟩
def Vu{p:Src}(ha:∀a∈p.aq,0<=a.size):(iH p=false/\lK p=false)↔rC p 0=0:=by
 have⟨n,k⟩:=Qp ha;have G:iD 0 26=26:=rfl
 have O:∀c,c≠0->iD c 25=c:=fun c h=>by grind[iD]
 have m:∀c,iD c 25≠0:=fun c=>by
  grind[iD]
 have w:∀c,iD c 26≠0:=fun c=>by
  grind[iD]
 unfold rC
 by_cases M:p.aq.any nB=true
 ·rw[ae M,G];refine⟨fun h=>?_,fun h=>by cases h⟩;have⟨a,v,z⟩:=qQ.1 M;have N:=h.1;unfold iH at N;simp only[Bool.or_eq_false_iff,decide_eq_false_iff_not]at N;have T:=List.any_eq_false.1 N.1 a v;have V:=k a v;have R:=ha a v;unfold nB at z
  grind
 rw[D M]
 have o:p.aq.any (fun a=>a.size==0)=false:=by
  rw[any_eq_false]
  grind[nB]
 have S:iH p=(u3 p ||p.ak.any fun f=>decide (f.params.length>40)):=by
  unfold iH u3;grind
 grind
def Wd{p:Src}{l:List T}(ha:∀a∈p.aq,0<=a.size)(R:∀t∈l,fR t):(zg p l).1=0↔(MZ p l).code=0:=by
 have ne:rC p 21≠0:=by
  simp[iD,D,ite_self,rC]
 unfold zg MZ
 by_cases M:eK (du p)=true
 ·simp_all[ae,yD]
 rw[D M,D M];have q:=Vu ha
 by_cases v:rC p 0=0
 ·have⟨w,N⟩:=q.2 v;rw[D ze3,D (by grind[Ah]),v]
  grind[Jc,iH,Bool.or_eq_false_iff,any_eq_false]
 ·refine⟨fun h=>?_,fun h=>absurd h (yD p _ _ _ v)⟩;exfalso;apply v;apply q.1
  by_cases w:iH p=true
  ·grind
  ·rw[D w]at h
   grind[Ah]
mutual
def kJ:T->List ai
 |.mk n l=>dJ l++(if n.ab=13 then[n.s]else[])
def dJ:List T->List ai
 |[]=>[]
 |t::r=>kJ t++dJ r
end
theorem R8(t:T):kJ t=dJ t.au++(if t.n.ab=13 then[t.n.s]else[]):=by cases t;rfl
mutual
def B6{u:Type}(f:u->Nat->T->List ai->u):∀(t:T)(a:Nat)(s:u)(ls:List ai),(fq f t a s ls).2=ls++kJ t
 |.mk n l,a,s,ls=>by
  rw[fq,kJ];simp only;rw[mf f l]
  grind
def mf{u:Type}(f:u->Nat->T->List ai->u):∀(l:List T)(a:Nat)(s:u)(ls:List ai),(dk f l a s ls).2=ls++dJ l
 |[],a,s,ls=>by simp[ai,dk,dJ]
 |t::r,a,s,ls=>by rw[dk,mf f r,B6 f t,dJ,gS]
end
mutual
def qF(p:Src):T->List ai->Prop
 |.mk n l,G=>bG p (.mk n l) G=0/\(b9 (.mk n l)=false->oE p l G)
def oE(p:Src):List T->List ai->Prop
 |[],_=>True
 |t::r,G=>qF p t G/\oE p r (G++kJ t)
end
mutual
def To(p:Src):∀(t:T),fR t->∀(a:Nat)(r:CS)(ls:List ai),r.code=0->r.skip<(a:Int)->(fq (dB p) t a r ls).1.code=0->qF p t ls/\(fq (dB p) t a r ls).1.skip<((a+bc t:Nat):Int)
 |.mk n l,R,a,r,ls,G,J,q=>by
  rw[fR]at R
  have B:¬(r.code≠0\/(a:Int)=r.skip):=by
   omega
  obtain⟨V,E⟩:∃V,dB p r a (.mk n l) ls=⟨bG p (.mk n l) ls,V,if b9 (.mk n l)=true then(if(lG (.mk n l)).ab≠2 then -1 else((a+1:Nat):Int))else r.skip⟩:=by
   unfold dB;simp_all
  rw[fq]at q |-;simp only at q |-;rw[E]at q |-
  have w:bG p (.mk n l) ls=0:=by
   grind[vB]
  rw[w]at q |-
  by_cases o:b9 (.mk n l)=true
  ·have z:l.length=1:=by
    unfold b9 at o;simp only[aU,beq_iff_eq]at o;exact o.2
   have N:n.ab=4/\n.s=cB:=by
    unfold b9 at o;simp only[aU,beq_iff_eq]at o;exact o.1
   have F:ga p (lG (.mk n l)) ls=false:=by
    have e:bG p (.mk n l) ls=dH p (.mk n l) ls:=by
     unfold bG;rw[D zfN,D zfN,D zfN,ae zfN]
    simp_all[dH,ae]
   have H:(lG (.mk n l)).ab=2:=by
    grind[ga,Bool.or_eq_false_iff]
   rw[ae o,D (by rw[H];decide)]at q |-
   match l,z,R with
   |[k],_,R =>
    have u:k.n.ab=2:=H;rw[eL]at R
    have A:k.au=[]:=by
     have:=R.2.2.1;have⟨m,j⟩:=k;rw[fR]at this;exact this.2.1 u
    have i:bc k=1:=by rw[fC,A,aR]
    refine⟨by grind[qF],?_⟩;simp only[dk];rw[vz,A];simp only[dk]
    have v:dB p ⟨0,V,((a+1:Nat):Int)⟩ (a+1) k ls=⟨0,V,((a+1:Nat):Int)⟩:=by simp[dB]
    rw[v,bc,aR,aR,i];simp
  ·have C:b9 (.mk n l)=false:=by grind
   rw[D o]at q |-;have h:=OX p l R.2.2 (a+1) ⟨0,V,r.skip⟩ ls rfl ze3 q;refine⟨by grind[qF],?_⟩;rw[bc,show a+(aR l+1)=a+1+aR l by omega];exact h.2
def OX(p:Src):∀(l:List T),eL l->∀(a:Nat)(r:CS)(ls:List ai),r.code=0->r.skip<(a:Int)->(dk (dB p) l a r ls).1.code=0->oE p l ls/\(dk (dB p) l a r ls).1.skip<((a+aR l:Nat):Int)
 |[],_,a,r,ls,s,q,k=>by rw[dk,aR];grind[oE]
 |t::l,R,a,r,ls,s,q,k=>by
  rw[eL]at R;rw[dk]at k |-
  have M:(fq (dB p) t a r ls).1.code=0:=by
   grind[vB]
  have⟨w,v⟩:=To p t R.1 a r ls s q M;have⟨N,S⟩:=OX p l R.2 _ _ _ M v k;rw[B6]at N;rw[oE,aR,<-nD]
  grind
end
mutual
def zT:T->Prop
 |.mk n l=>(n.ab≠1->n.n=0)/\nT l
def nT:List T->Prop
 |[]=>True
 |t::r=>zT t/\nT r
end
mutual
theorem YM:∀t:T,zT (er t)↔zT t
 |.mk n l=>by rw[er,zT,zT,TM l]
theorem TM:∀l:List T,nT (bo l)↔nT l
 |[]=>by rw[bo]
 |t::r=>by rw[bo,nT,nT,YM t,TM r]
end
mutual
theorem E.z:∀a:E,zT a.tree
 |.num n=>by rw[E.tree,zT];exact⟨fun h=>absurd rfl h,trivial⟩
 |.name s=>by rw[E.tree,zT];exact⟨fun _=>rfl,trivial⟩
 |.at_ s a=>zeT
 |.call s l=>by rw[E.tree,zT];exact⟨fun _=>rfl,E.zs l⟩
 |.un s a=>zeT
 |.bin s a b=>by rw[E.tree,zT,nT,nT,nT];exact⟨fun _=>rfl,E.z a,E.z b,trivial⟩
theorem E.zs:∀l:List E,nT (E.aM l)
 |[]=>trivial
 |a::l=>by rw[E.aM,nT];exact⟨E.z a,E.zs l⟩
end
mutual
theorem S.z:∀a:S,zT a.tree
 |.set s a=>zcP
 |.put s a b=>zcP
 |.if1 c b=>zer
 |.if2 c b d=>zer
 |.while_ c b=>zer
 |.ret a=>zcP
 |.do_ a=>zcP
 |.var s a=>zcP
theorem S.zs:∀l:List S,nT (S.aM l)
 |[]=>trivial
 |a::l=>by rw[S.aM,nT];exact⟨S.z a,S.zs l⟩
end
theorem Z1(l:List S):zT (cy l):=by grind[S.zs,zT,cy]
def CG{p:Src}{t:T}{ls:List ai}(R:fR t)(u:bG p t ls=0)(r:t.n.ab=4)(q:t.n.s=cB):∃k,t.au=[k]/\k.n.ab=2/\k.au=[]/\0<=mq p k.n.s/\ls.contains k.n.s=false/\b9 t=true:=by
 have e:bG p t ls=dH p t ls:=by
  grind[bG,dH]
 rw[e]at u
 have G:jr p t.n.s=1:=by rw[q];rfl
 by_cases V:t.au.length=1
 ·have o:b9 t=true:=by grind[b9]
  unfold dH at u;rw[ae o]at u
  have w:ga p (lG t) ls=false:=by
   grind
  have⟨n,l⟩:=t
  match l,V with
  |[k],_ =>
   have v:ga p k.n ls=false:=w;unfold ga at v;simp only[Bool.or_eq_false_iff,bne_eq_false_iff_eq,decide_eq_false_iff_not,Int.not_lt]at v;rw[fR,eL]at R;refine⟨k,rfl,v.1.1,?_,v.1.2,v.2,o⟩;have:=R.2.2.1;have⟨m,j⟩:=k;rw[fR]at this;exact this.2.1 v.1.1
 ·have o:b9 t=false:=by grind[b9]
  grind[dH]
section
variable(p:Src)(names:List ai)(name:ai)
end
def Forms.wf{l:List T}{ls:List (List S)}(h:Forms l ls){i:Nat}{t:T}(o:l[i]?=some t):fR t/\zT t:=by
 have u:=(bR o).1;have E:=h.len;have v:ls[i]?=some (ls[i]'aI):=cq _;have⟨_,w⟩:=h.at_ i t _ o v
 grind[TK,YE,YM,Z1]
def Ny(p:Src):∀(d:List Fn)(l:List T)(a:Nat),(gI p d l a).1=0->∀(i:Nat)f t,d[i]?=some f->l[i]?=some t->∃b,(gW p f t b).1=0
 |f::r,t::l,a,h,0,g,u,M,v=>by
  grind[gI]
 |f::r,t::l,a,h,i+1,g,u,M,v=>by
  rw[gI]at h
  by_cases k:(gW p f t a).1=0
  ·rw[D aI]at h;exact Ny p r l _ h i g u ze3 ze3
  grind
 |[],_,a,h,i,g,u,M,v=>by simp at M
 |f::r,[],a,h,i,g,u,M,v=>by simp at v
structure Good(p:Src)(l:List T):Prop where
 st:iq p l
 test:fI p=true
 names:eK (du p)=false
 len:p.ak.length=l.length
 at_:∀(i:Nat)f t,p.ak[i]?=some f->l[i]?=some t->qF p t f.params/\fR t/\zT t/\dW p.ah f.body.toNat t/\0<=f.body
def yH{p:Src}(h:cw p=true):∃l,Good p l:=by
 unfold cw at h;rw[aU]at h;have⟨s,h⟩:=h;have⟨l,T⟩:=uB s;rw[T.xz]at h;simp only[decide_eq_true_eq]at h;have⟨H,G⟩:=T.Ez
 have w:eK (du p)=false:=by
  grind[zg]
 have m:(gI p p.ak l 0).1=0:=by
  grind[zg]
 refine⟨l,T,s,w,gE.len T.ak,fun i f t M v=>?_⟩;have⟨b,k⟩:=Ny p _ _ _ m i f t M v;have⟨N,u⟩:=G.wf v;unfold gW at k
 have F:¬va f.params=true:=fun F=>by grind
 rw[D F]at k;have z:=(bR v).1;have⟨S,V⟩:=gE.at_ T.ak i f t M v;have R:=dQ.ix l 0 i _ T.st v;rw[iX]at S R;refine⟨(To p t N b ⟨0,0,-1⟩ f.params rfl ze3 k).1,N,u,?_,by omega⟩
 grind
theorem Fm{v:Type}(f:v->Nat->T->List ai->v)(t:T):∀(l:List T)(a:Nat)(s:v)(ls:List ai),dk f (l++[t]) a s ls=fq f t (a+aR l) (dk f l a s ls).1 (dk f l a s ls).2
 |[],a,s,ls=>by rfl
 |u::l,a,s,ls=>by rw[cons_append,dk,Fm f t l,dk,aR,nD]
def wG{u:Type}(f:u->Nat->T->List ai->u){l:List T}{k:Nat}{t:T}(h:l[k]?=some t)(a:Nat)(s:u)(ls:List ai) :
  dk f (l.take (k+1)) a s ls=fq f t (a+aR (l.take k)) (dk f (l.take k) a s ls).1 (dk f (l.take k) a s ls).2:=by
 grind[dc,Fm]
def oz:∀{l:List T}{n k:Nat}{t:T},l[k]?=some t->(bQ n l)[k]?=some (((n+aR (l.take k):Nat)):Int)
 |u::l,n,0,t,h=>by rfl
 |u::l,n,k+1,t,h=>by
  have:=oz (l:=l) (n:=n+bc u) (k:=k) (t:=t) ze3
  grind[bQ,aR]
 |[],n,k,t,h=>by simp at h
section
variable{l:List T}{k:Nat}{t:T}
theorem gZ(h:l[k]?=some t):aR (l.take k)+bc t<=aR l:=by
 have M:l.take (k+1)=l.take k++[t]:=by grind[dc]
 grind[o7,take_append_drop,aR,bc]
theorem R1(h:l[k]?=some t):aR (l.take (k+1))=aR (l.take k)+bc t:=by
 have M:l.take (k+1)=l.take k++[t]:=by grind[dc]
 rw[M,o7,aR,aR,Nat.add_zero]
end
def R9:∀(N:Nat)(t:T),bc t<=N->(kJ t).length<=bc t:=by
 intro N
 induction N with
 |zero=>grind[iO]
 |succ N O =>
  intro t h
  have c:∀l:List T,aR l<=N->(dJ l).length<=aR l:=by
   intro l
   induction l with
   |nil=>grind[dJ]
   |cons u l d =>
    intro h;rw[aR]at h;have:=O u aI;have:=d aI;rw[dJ,bf,aR];omega
  grind[fC,R8,bf]
def ni(l:List T):(dJ l).length<=aR l:=by
 induction l with
 |nil=>simp[dJ]
 |cons u l O =>
  have:=R9 _ u (aQ _);rw[dJ,bf,aR];omega
section
variable{S:Type}{f:S->Bool}{l:List S}
def oR{k:Nat}{x:S}(n:l[k]?=some x)(h:f x=true)(m:(l.take k).all (fun y=>!f y)=true):bM f l=(k:Int):=by
 have M:k<l.length:=by
  rcases Nat.lt_or_ge k l.length with N|N
  ·exact N
  ·rw[List.getElem?_eq_none N]at n;cases n
 have hx:l[k]=x:=by rw[cq M]at n;exact uX n
 have:l.findIdx? f=some k:=by
  rw[List.findIdx?_eq_some_iff_getElem];refine⟨M,by rw[hx];exact h,fun j G=>?_⟩;rw[fa]at m;have:=m l[j] zfa;exact zdQ
 unfold bM;rw[this]
def mg(k:l.all (fun y=>!f y)=true):bM f l = -1:=by
 have:l.findIdx? f=none:=by
  rw[List.findIdx?_eq_none_iff];intro x hx;rw[fa]at k;simpa using k x hx
 unfold bM;rw[this]
def nq{k:Nat}{x:S}(m:l[k]?=some x):(l.take (k+1)).all (fun y=>!f y)=((l.take k).all (fun y=>!f y)&&!f x):=by
 rw[dc,m,List.all_append];simp
end
def Dj{S:Type}(f:S->Bool)(l:List S):decide ((0:Int)<=bM f l)=l.any f:=by
 cases h:l.any f with
 |false =>
  rw[mg (by rw[any_eq_false]at h;rw[fa];intro x hx;simpa using h x hx)];rfl
 |true =>
  unfold bM
  cases v:l.findIdx? f with
  |some i=>simp
  |none =>
   rw[List.findIdx?_eq_none_iff]at v;rw[qQ]at h;have⟨x,hx,w⟩:=h;have:=v x hx;simp[w]at this
end Go.Im
namespace Go.Mn
open Go.Xp (ai)
inductive R where
 |num (n:Int)
 |loc (k:Nat)
 |glob (k:Nat)
 |at_ (k:Nat) (i:R)
 |size (n:Int)
 |get
 |put (a:R)
 |call (f:Nat) (l:List R)
 |un (o:ai) (a:R)
 |bin (o:ai) (a b:R)
 |and_ (a b:R)
 |or_ (a b:R)
 |setL (k:Nat) (a:R)
 |setG (k:Nat) (a:R)
 |putA (k:Nat) (i v:R)
 |if1 (c t:R)
 |if2 (c t e:R)
 |while_ (c b:R)
 |ret (a:R)
 |do_ (a:R)
 |block (l:List R)
structure M where
 inp:List Int
 out:List Int
 cN:List Int
 cells:List (List Int)
 a7:Nat
 fin:Int
 why:Int
 aX:Nat
 locs:List Int
 left:Bool
 b6:Int
def M.over(s:M):Bool:=s.fin != 0 ||s.left
def M.stop(s:M)(c w:Int):M:={ s with fin:=c,why:=w }
structure Op where
 un:ai->Int->Int
 bin:ai->Int->Int->Int × Int
 wr:Int->Int
 pl:Int->Int
def kh{S β:Type}(x:Option (S × M))(k:S->M->Option (β × M)):Option (β × M):=match x with
 |none=>none
 |some (v,s)=>k v s
def row(s:M)(k:Nat):List Int:=s.cells.getD k []
def vH(l:List Int)(n:Int):Bool:=decide (0<=n)&&decide (n<(l.length:Int))
def qJ(s:M)(k:Nat)(n:Int)(v:Int):M:={ s with cells:=s.cells.set k ((row s k).set n.toNat v) }
def M.enter(s:M)(args:List Int):M:={ s with aX:=s.aX+1,locs:=args++List.replicate 40 0,left:=false,b6:=0 }
def M.leave(s t:M):M:={ t with aX:=t.aX-1,locs:=s.locs,left:=s.left,b6:=s.b6 }
section
variable(O:Op)(F:Nat)(B:Nat->R)
mutual
def ev:Nat->R->M->Option (Int × M)
 |0,_,_=>none
 |g+1,r,s=>if F<=s.a7 then some (0,s.stop 3 0)else bZ g r { s with a7:=s.a7+1 }
def bZ:Nat->R->M->Option (Int × M)
 |0,_,_=>none
 |g+1,r,s=>match r with
  |.num n=>some (n,s)
  |.loc k=>some (s.locs.getD k 0,s)
  |.glob k=>some (s.cN.getD k 0,s)
  |.at_ k i=>kh (ev g i s) fun n s=>if s.over then some (0,s)else if vH (row s k) n then some ((row s k).getD n.toNat 0,s)else some (0,s.stop 2 6)
  |.size n=>some (n,s)
  |.get=>match s.inp with
   |[]=>some (-1,s)
   |a::r=>some (O.wr a,{ s with inp:=r })
  |.put a=>kh (ev g a s) fun n s=>if s.over then some (0,s)else some (0,{ s with out:=s.out++[O.pl n] })
  |.call f l=>kh (pd g l [] s) fun args s=>if s.over then some (0,s)else if 100<=s.aX then some (0,s.stop 5 0)else kh (ev g (B f) (s.enter args)) fun _ t=>some (t.b6,s.leave t)
  |.un o a=>kh (ev g a s) fun n s=>some (O.un o n,s)
  |.bin o a b=>kh (ev g a s) fun n s=>if s.over then some (0,s)else kh (ev g b s) fun m s=>if s.over then some (0,s)else if(O.bin o n m).2≠0 then some (0,s.stop 2 (O.bin o n m).2)else some ((O.bin o n m).1,s)
  |.and_ a b=>kh (ev g a s) fun n s=>if s.over then some (0,s)else if n=0 then some (0,s)else kh (ev g b s) fun m s=>if s.over then some (0,s)else some (if m=0 then 0 else 1,s)
  |.or_ a b=>kh (ev g a s) fun n s=>if s.over then some (0,s)else if n≠0 then some (1,s)else kh (ev g b s) fun m s=>if s.over then some (0,s)else some (if m=0 then 0 else 1,s)
  |.setL k a=>kh (ev g a s) fun n s=>if s.over then some (0,s)else some (0,{ s with locs:=s.locs.set k n })
  |.setG k a=>kh (ev g a s) fun n s=>if s.over then some (0,s)else some (0,{ s with cN:=s.cN.set k n })
  |.putA k i v=>kh (ev g i s) fun n s=>if s.over then some (0,s)else if vH (row s k) n then kh (ev g v s) fun m s=>if s.over then some (0,s)else some (0,qJ s k n m)else some (0,s.stop 2 6)
  |.if1 c t=>kh (ev g c s) fun n s=>if s.over then some (0,s)else if n≠0 then kh (ev g t s) fun _ s=>some (0,s)else some (0,s)
  |.if2 c t e=>kh (ev g c s) fun n s=>if s.over then some (0,s)else if n≠0 then kh (ev g t s) fun _ s=>some (0,s)else kh (ev g e s) fun _ s=>some (0,s)
  |.while_ c b=>kh (tK g c b s) fun _ s=>some (0,s)
  |.ret a=>kh (ev g a s) fun n s=>if s.over then some (0,s)else some (0,{ s with left:=true,b6:=n })
  |.do_ a=>kh (ev g a s) fun _ s=>some (0,s)
  |.block l=>kh (n8 g l s) fun _ s=>some (0,s)
def pd:Nat->List R->List Int->M->Option (List Int × M)
 |0,_,_,_=>none
 |g+1,l,H,s=>match l with
  |[]=>some (H,s)
  |r::l=>kh (ev g r s) fun n s=>if s.over then some (H++[n],s)else pd g l (H++[n]) s
def n8:Nat->List R->M->Option (Unit × M)
 |0,_,_=>none
 |g+1,l,s=>match l with
  |[]=>some ((),s)
  |r::l=>kh (ev g r s) fun _ s=>if s.over then some ((),s)else n8 g l s
def tK:Nat->R->R->M->Option (Unit × M)
 |0,_,_,_=>none
 |g+1,c,b,s=>kh (ev g c s) fun n s=>if s.over then some ((),s)else if n=0 then some ((),s)else kh (ev g b s) fun _ s=>if s.over then some ((),s)else tK g c b s
end
end
def cH{S β:Type}{x:Option (S × M)}{k:S->M->Option (β × M)}{y:β × M}(h:kh x k=some y):∃v s,x=some (v,s)/\k v s=some y:=by
 unfold kh at h
 grind
section
variable{O:Op}{F:Nat}{B:Nat->R}
end
section
variable{O:Op}{F:Nat}{B:Nat->R}
def eR{S β:Type}{x:Option (S × M)}{k:S->M->Option (β × M)}{P:M->Prop}{Q:M->Prop}(hx:∃v t,x=some (v,t)/\P t)(l:∀v t,P t->∃y u,k v t=some (y,u)/\Q u):∃y u,kh x k=some (y,u)/\Q u:=by
 obtain⟨v,t,rfl,h⟩:=hx;exact l v t h
theorem eH{S:Type}{c:Prop}[Decidable c]{a b:Option (S × M)}{Q:M->Prop}(ha:c->∃y u,a=some (y,u)/\Q u)(v:¬c->∃y u,b=some (y,u)/\Q u):∃y u,(if c then a else b)=some (y,u)/\Q u:=by
 split
 ·grind
 grind
structure VY(O:Op)(F:Nat)(B:Nat->R)(n:Nat):Prop where
 e:∀g r s,F<=s.a7+n->3*n+1<=g->∃v t,ev O F B g r s=some (v,t)/\s.a7<=t.a7/\(s.a7<t.a7/\s.a7<F\/t.over=true)
 a:∀g l acc s,F<=s.a7+n->3*n+2<=g->∃v t,pd O F B g l acc s=some (v,t)/\s.a7<=t.a7
 b:∀g l s,F<=s.a7+n->3*n+2<=g->∃v t,n8 O F B g l s=some (v,t)/\s.a7<=t.a7
 w:∀g c b s,F<=s.a7+n->3*n+2<=g->∃v t,tK O F B g c b s=some (v,t)/\s.a7<=t.a7
 g:∀g r s,F<=s.a7+n->3*n+3<=g->∃v t,bZ O F B g r s=some (v,t)/\s.a7<=t.a7
theorem He{n:Nat}(R:∀g r s,F<=s.a7+n->3*n+1<=g->∃v t,ev O F B g r s=some (v,t)/\s.a7<=t.a7/\(s.a7<t.a7/\s.a7<F\/t.over=true))
  (J:∀m,n=m+1->VY O F B m):VY O F B n:=by
 have L:∀g l H s,F<=s.a7+n->3*n+2<=g->∃v t,pd O F B g l H s=some (v,t)/\s.a7<=t.a7:=by
  intro g l H s z G;obtain⟨g,rfl⟩:∃W,g=W+1:=⟨g-1,by omega⟩
  cases l with
  |nil=>exact⟨H,s,by rw[pd],aQ _⟩
  |cons r l =>
   rw[pd]
   refine eR (R g r s z aI) fun v t q=>eH (fun h=>⟨_,_,rfl,q.1⟩) fun h=>?_
   rcases q.2 with Q|Q
   ·obtain⟨m,rfl⟩:∃m,n=m+1:=⟨n-1,by omega⟩;have⟨y,u,A,C⟩:=(J m rfl).a g l (H++[v]) t aI aI
    grind
   grind
 have S:∀g l s,F<=s.a7+n->3*n+2<=g->∃v t,n8 O F B g l s=some (v,t)/\s.a7<=t.a7:=by
  intro g l s z G;obtain⟨g,rfl⟩:∃W,g=W+1:=⟨g-1,by omega⟩
  cases l with
  |nil=>simp[n8,M.a7]
  |cons r l =>
   rw[n8]
   refine eR (R g r s z aI) fun v t q=>eH (fun h=>⟨_,_,rfl,q.1⟩) fun h=>?_
   rcases q.2 with Q|Q
   ·obtain⟨m,rfl⟩:∃m,n=m+1:=⟨n-1,by omega⟩;have⟨y,u,A,C⟩:=(J m rfl).b g l t aI aI
    grind
   grind
 have V:∀g c b s,F<=s.a7+n->3*n+2<=g->∃v t,tK O F B g c b s=some (v,t)/\s.a7<=t.a7:=by
  intro g c b s z G;obtain⟨g,rfl⟩:∃W,g=W+1:=⟨g-1,by omega⟩;rw[tK]
  refine eR (R g c s z aI) fun v t q=>eH (fun h=>⟨_,_,rfl,q.1⟩) fun h=>eH (fun _=>⟨_,_,rfl,q.1⟩) fun _=>?_
  rcases q.2 with Q|Q
  ·refine eR (P:=fun u=>t.a7<=u.a7) (by
    obtain⟨v,u,A,C,-⟩:=R g b t aI aI
    grind) fun v u T=>eH (fun h=>⟨_,_,rfl,by omega⟩) fun _=>?_
   obtain⟨m,rfl⟩:∃m,n=m+1:=⟨n-1,by omega⟩;have⟨y,x,A,C⟩:=(J m rfl).w g c b u aI aI
   grind
  grind
 refine⟨R,L,S,V,fun g r s z G=>?_⟩;obtain⟨g,rfl⟩:∃W,g=W+1:=⟨g-1,by omega⟩
 have E:∀r(t:M),s.a7<=t.a7->∃v u,ev O F B g r t=some (v,u)/\s.a7<=u.a7:=fun r t q=>by
  obtain⟨v,u,Q,A,-⟩:=R g r t aI aI
  grind
 have N:=fun r=>E r s (aQ _)
 cases r with
 |num n=>exact zdB
 |loc k=>exact zdB
 |glob k=>exact zdB
 |size n=>exact zdB
 |get =>
  rw[bZ]
  cases s.inp with
  |nil=>grind
  |cons a r=>grind
 |at_ k i =>
  rw[bZ]
  exact eR (N i) fun v t q=>eH (fun _=>⟨_,_,rfl,q⟩) fun _=>eH (fun _=>⟨_,_,rfl,q⟩) fun _=>⟨_,_,rfl,q⟩
 |put a =>
  rw[bZ]
  exact za7
 |call f l =>
  rw[bZ]
  refine eR (L g l [] s z aI) fun v t q=>eH (fun _=>⟨_,_,rfl,q⟩) fun _=>eH (fun _=>⟨_,_,rfl,q⟩) fun _=>?_
  exact eR (E (B f) (t.enter v) q) fun _ u T=>⟨_,_,rfl,T⟩
 |un o a =>
  rw[bZ]
  exact eR (N a) fun v t q=>⟨_,_,rfl,q⟩
 |bin o a b =>
  rw[bZ]
  refine eR (N a) fun v t q=>eH (fun _=>⟨_,_,rfl,q⟩) fun _=>?_
  exact eR (E b t q) fun v t q=>eH (fun _=>⟨_,_,rfl,q⟩) fun _=>eH (fun _=>⟨_,_,rfl,q⟩) fun _=>⟨_,_,rfl,q⟩
 |and_ a b =>
  rw[bZ]
  refine eR (N a) fun v t q=>eH (fun _=>⟨_,_,rfl,q⟩) fun _=>eH (fun _=>⟨_,_,rfl,q⟩) fun _=>?_
  exact zdo
 |or_ a b =>
  rw[bZ]
  refine eR (N a) fun v t q=>eH (fun _=>⟨_,_,rfl,q⟩) fun _=>eH (fun _=>⟨_,_,rfl,q⟩) fun _=>?_
  exact zdo
 |setL k a =>
  rw[bZ]
  exact za7
 |setG k a =>
  rw[bZ]
  exact za7
 |putA k i v =>
  rw[bZ]
  refine eR (N i) fun n t q=>eH (fun _=>⟨_,_,rfl,q⟩) fun _=>eH (fun _=>?_) fun _=>⟨_,_,rfl,q⟩
  exact eR (E v t q) fun v t q=>eH (fun _=>⟨_,_,rfl,q⟩) fun _=>⟨_,_,rfl,q⟩
 |if1 c b =>
  rw[bZ]
  refine eR (N c) fun v t q=>eH (fun _=>⟨_,_,rfl,q⟩) fun _=>eH (fun _=>?_) fun _=>⟨_,_,rfl,q⟩
  exact eR (E b t q) fun v t q=>⟨_,_,rfl,q⟩
 |if2 c b d =>
  rw[bZ]
  refine eR (N c) fun v t q=>eH (fun _=>⟨_,_,rfl,q⟩) fun _=>eH (fun _=>?_) fun _=>?_
  ·exact eR (E b t q) fun v t q=>⟨_,_,rfl,q⟩
  ·exact eR (E d t q) fun v t q=>⟨_,_,rfl,q⟩
 |while_ c b =>
  rw[bZ]
  exact eR (V g c b s z aI) fun v t q=>⟨_,_,rfl,q⟩
 |ret a =>
  rw[bZ]
  exact za7
 |do_ a =>
  rw[bZ]
  exact eR (N a) fun v t q=>⟨_,_,rfl,q⟩
 |block l =>
  rw[bZ]
  exact eR (S g l s z aI) fun v t q=>⟨_,_,rfl,q⟩
theorem D7(s:M){c w:Int}(h:c≠0):(s.stop c w).over=true:=by
 grind[M.over,M.stop]
theorem Yy:∀n,VY O F B n
 |0=>He (fun g r s q C=>by
   obtain⟨g,rfl⟩:∃W,g=W+1:=⟨g-1,by omega⟩;rw[ev,ae aI]
   exact⟨_,_,rfl,aQ _,.inr (D7 s aC)⟩) fun m h=>by omega
 |n+1=>He (fun g r s q C=>by
   obtain⟨g,rfl⟩:∃W,g=W+1:=⟨g-1,by omega⟩;rw[ev]
   by_cases h:F<=s.a7
   ·rw[ae h];exact⟨_,_,rfl,aQ _,.inr (D7 s aC)⟩
   ·rw[D h];have⟨v,t,M,w⟩:=(Yy n).g g r { s with a7:=s.a7+1 } ze3 aI
    grind) fun m h=>by
   have:m=n:=by omega
   subst this;exact Yy m
end
structure KN(F:Nat)(R:M->M->Prop):Prop where
 rfl:∀s,R s s
 trans:∀s t u,R s t->R t u->R s u
 stop:∀s c w,R s (s.stop c w)
 step:∀s,s.a7<F->R s { s with a7:=s.a7+1 }
 inp:∀(s:M)a r,s.inp=a::r->R s { s with inp:=r }
 out:∀(s:M)n,R s { s with out:=s.out++[n] }
 locs:∀(s:M)k n,R s { s with locs:=s.locs.set k n }
 cN:∀(s:M)k n,R s { s with cN:=s.cN.set k n }
 cells:∀(s:M)k n v,R s (qJ s k n v)
 ret:∀(s:M)n,R s { s with left:=true,b6:=n }
 call:∀(s:M)args t,R (s.enter args) t->R s (s.leave t)
section
variable{O:Op}{F:Nat}{B:Nat->R}{Rl:M->M->Prop}
def en{S β:Type}{x:Option (S × M)}{k:S->M->Option (β × M)}{s:M}{y:β}{u:M}(o:KN F Rl)(hx:∀v t,x=some (v,t)->Rl s t)(l:∀v t y u,k v t=some (y,u)->Rl t u)(h:kh x k=some (y,u)):Rl s u:=by
 have⟨v,t,N,w⟩:=cH h;exact o.trans _ _ _ (hx v t N) (l v t y u w)
theorem dX{S:Type}{c:Prop}[Decidable c]{a b:Option (S × M)}{s:M}{y:S}{u:M}(ha:a=some (y,u)->Rl s u)(v:b=some (y,u)->Rl s u)(h:(if c then a else b)=some (y,u)):Rl s u:=by
 grind
theorem bJ{S:Type}{v y:S}{s t u:M}(q:Rl s t)(h:some (v,t)=some (y,u)):Rl s u:=by grind
theorem vA(q:KN F Rl):∀g:Nat,(∀r s v t,ev O F B g r s=some (v,t)->Rl s t)/\(∀r s v t,bZ O F B g r s=some (v,t)->Rl s t)/\(∀l H s v t,pd O F B g l H s=some (v,t)->Rl s t)/\(∀l s v t,n8 O F B g l s=some (v,t)->Rl s t)/\(∀c b s v t,tK O F B g c b s=some (v,t)->Rl s t)
 |0=>⟨fun r s v t h=>(by grind[ev]),fun r s v t h=>(by grind[bZ]),fun l H s v t h=>(by grind[pd]),fun l s v t h=>(by grind[n8]),fun c b s v t h=>(by grind[tK])⟩
 |g+1=>by
  have⟨N,C,z,Q,T⟩:=vA q g;have R:=q.rfl;refine⟨fun r s v t h=>?_,fun r s v t h=>?_,fun l H s v t h=>?_,fun l s v t h=>?_,fun c b s v t h=>?_⟩
  ·rw[ev]at h;split at h
   ·exact bJ (q.stop _ _ _) h
   ·rename_i J;exact q.trans _ _ _ (q.step s aI) (C _ _ _ _ h)
  ·have S:=fun(t:M)c w=>q.stop t c w
   cases r with
   |num n=>simp_all[bZ,bJ]
   |loc k=>simp_all[bZ,bJ]
   |glob k=>simp_all[bZ,bJ]
   |size n=>simp_all[bZ,bJ]
   |get =>
    simp only[bZ]at h
    cases A:s.inp with
    |nil=>grind
    |cons a r=>rw[A]at h;exact bJ (q.inp s a r A) h
   |at_ k i=>simp only[bZ]at h;exact en q (N _ _) (fun v t y u=>dX (bJ (R _)) (dX (bJ (R _)) (bJ (S _ _ _)))) h
   |put a=>simp only[bZ]at h;exact en q (N _ _) (fun v t y u=>dX (bJ (R _)) (bJ (q.out _ _))) h
   |call f l =>
    simp only[bZ]at h;refine en q (z _ _ _) (fun v t y u=>dX (bJ (R _)) (dX (bJ (S _ _ _)) fun h=>?_)) h;have⟨w,x,E,L⟩:=cH h;cases L;exact q.call _ _ _ (N _ _ _ _ E)
   |un o a=>exact zep
   |bin o a b=>simp only[bZ]at h;exact en q (N _ _) (fun v t y u=>dX (bJ (R _)) (en q (N _ _) (fun v t y u=>dX (bJ (R _)) (dX (bJ (S _ _ _)) (bJ (R _)))))) h
   |and_ a b=>exact zbQ
   |or_ a b=>exact zbQ
   |setL k a=>simp only[bZ]at h;exact en q (N _ _) (fun v t y u=>dX (bJ (R _)) (bJ (q.locs _ _ _))) h
   |setG k a=>simp only[bZ]at h;exact en q (N _ _) (fun v t y u=>dX (bJ (R _)) (bJ (q.cN _ _ _))) h
   |putA k i v=>simp only[bZ]at h;exact en q (N _ _) (fun v t y u=>dX (bJ (R _)) (dX (en q (N _ _) (fun v t y u=>dX (bJ (R _)) (bJ (q.cells _ _ _ _)))) (bJ (S _ _ _)))) h
   |if1 c b=>simp only[bZ]at h;exact en q (N _ _) (fun v t y u=>dX (bJ (R _)) (dX (en q (N _ _) (fun v t y u=>bJ (R _))) (bJ (R _)))) h
   |if2 c b G=>simp only[bZ]at h;exact en q (N _ _) (fun v t y u=>dX (bJ (R _)) (dX (en q (N _ _) (fun v t y u=>bJ (R _))) (en q (N _ _) (fun v t y u=>bJ (R _))))) h
   |while_ c b=>simp only[bZ]at h;exact en q (T _ _ _) (fun v t y u=>bJ (R _)) h
   |ret a=>simp only[bZ]at h;exact en q (N _ _) (fun v t y u=>dX (bJ (R _)) (bJ (q.ret _ _))) h
   |do_ a=>exact zep
   |block l=>simp only[bZ]at h;exact en q (Q _ _) (fun v t y u=>bJ (R _)) h
  ·cases l with
   |nil=>simp_all[pd,bJ]
   |cons r l=>simp only[pd]at h;exact en q (N _ _) (fun v t y u=>dX (bJ (R _)) (z _ _ _ _ _)) h
  ·cases l with
   |nil=>simp_all[n8,bJ]
   |cons r l=>simp only[n8]at h;exact en q (N _ _) (fun v t y u=>dX (bJ (R _)) (Q _ _ _ _)) h
  ·simp only[tK]at h;exact en q (N _ _) (fun v t y u=>dX (bJ (R _)) (dX (bJ (R _)) (en q (N _ _) (fun v t y u=>dX (bJ (R _)) (T _ _ _ _ _))))) h
def Gro(F:Nat)(s t:M):Prop:=s.out <+: t.out/\(s.a7<=F->t.a7<=F)
def Z6(F:Nat):KN F (Gro F) where
 rfl s:=⟨prefix_refl _,id⟩
 trans s t u h k:=⟨h.1.trans k.1,fun x=>k.2 (h.2 x)⟩
 stop s c w:=⟨prefix_refl _,id⟩
 step s h:=⟨prefix_refl _,fun _=>h⟩
 inp s a r h:=⟨prefix_refl _,id⟩
 out s n:=⟨List.prefix_append _ _,id⟩
 locs s k n:=⟨prefix_refl _,id⟩
 cN s k n:=⟨prefix_refl _,id⟩
 cells s k n v:=⟨prefix_refl _,id⟩
 ret s n:=⟨prefix_refl _,id⟩
 call s args t h:=h
structure EV(s t:M):Prop where
 cN:t.cN.length=s.cN.length
 cells:t.cells.length=s.cells.length
 rows:∀k,(row t k).length=(row s k).length
 locs:t.locs.length=s.locs.length
 aX:t.aX=s.aX
theorem Vl(s:M)(k:Nat)(n v:Int)(j:Nat):(row (qJ s k n v) j).length=(row s j).length:=by
 grind[row,qJ]
def Tv(F:Nat):KN F EV where
 rfl s:=⟨Eq.refl _,Eq.refl _,fun _=>Eq.refl _,Eq.refl _,Eq.refl _⟩
 trans s t u h k:=⟨k.cN.trans h.cN,k.cells.trans h.cells,fun j=>(k.rows j).trans (h.rows j),k.locs.trans h.locs,k.aX.trans h.aX⟩
 stop s c w:=⟨Eq.refl _,Eq.refl _,fun _=>Eq.refl _,Eq.refl _,Eq.refl _⟩
 step s h:=⟨Eq.refl _,Eq.refl _,fun _=>Eq.refl _,Eq.refl _,Eq.refl _⟩
 inp s a r h:=⟨Eq.refl _,Eq.refl _,fun _=>Eq.refl _,Eq.refl _,Eq.refl _⟩
 out s n:=⟨Eq.refl _,Eq.refl _,fun _=>Eq.refl _,Eq.refl _,Eq.refl _⟩
 locs s k n:=⟨Eq.refl _,Eq.refl _,fun _=>Eq.refl _,length_set,Eq.refl _⟩
 cN s k n:=⟨length_set,Eq.refl _,fun _=>Eq.refl _,Eq.refl _,Eq.refl _⟩
 cells s k n v:=⟨Eq.refl _,length_set,Vl s k n v,Eq.refl _,Eq.refl _⟩
 ret s n:=⟨Eq.refl _,Eq.refl _,fun _=>Eq.refl _,Eq.refl _,Eq.refl _⟩
 call s args t h:=⟨h.cN,h.cells,h.rows,Eq.refl _,by show t.aX-1=s.aX;rw[h.aX];rfl⟩
def Rest{S β:Type}(k:S->M->Option (β × M)):Prop:=∀v t y u,t.fin=3->k v t=some (y,u)->u.fin=3/\u.a7=t.a7/\u.out=t.out
section
variable{S β:Type}(f:S->M->β)
theorem qi:Rest (fun v t=>some (f v t,t)):=fun v t y u h w=>by grind
theorem eZ(k:S->M->Option (β × M)):Rest (fun v t=>if t.over then some (f v t,t)else k v t):=fun v t y u h w=>by
 simp_all[M.over,ae]
end
end
section
variable{O:Op}{F F':Nat}{B:Nat->R}
end
structure Mo where
 g:Nat->Nat
 a:Nat->Nat
 f:Nat->Nat
structure Dm where
 g:Nat->Prop
 a:Nat->Prop
 f:Nat->Prop
section
variable{O:Op}{F:Nat}{B B':Nat->R}{μ:Mo}{ab8:Dm}
end
end Go.Mn
namespace Go.Im
open Go.Xp Go.Sp Go.Mn
def DF(l:List ai)(s:ai):Nat:=(bM (fun x=>x==s) l).toNat
def EJ(p:Src)(s:ai):Int:=match p.aq[(mq p s).toNat]? with|some a=>a.size|none=>0
def r0(r:List R)(k:Nat):R:=match r[k]? with|some x=>x|none=>.num 0
def uP(p:Src)(n:Nd)(l:List T)(ls:List ai)(r:List R):R :=
 if n.ab=1 then .num n.n
 else if n.ab=2 then(if ls.contains n.s=true then .loc (DF ls n.s)else .glob (DF p.ax n.s))
 else if n.ab=3 then .at_ (mq p n.s).toNat (r0 r 0)
 else if n.ab=4 then(if n.s=cB then .size (EJ p (lG (.mk n l)).s)else if n.s=lU then .get else if n.s=lr then .put (r0 r 0)else .call (bF p n.s).toNat r)
 else if n.ab=5 then .un n.s (r0 r 0)
 else if n.ab=6 then(if n.s=[38,38]then .and_ (r0 r 0) (r0 r 1)else if n.s=[124,124]then .or_ (r0 r 0) (r0 r 1)else .bin n.s (r0 r 0) (r0 r 1))
 else if n.ab=7 then(if ls.contains n.s=true then .setL (DF ls n.s) (r0 r 0)else .setG (DF p.ax n.s) (r0 r 0))
 else if n.ab=8 then .putA (mq p n.s).toNat (r0 r 0) (r0 r 1)
 else if n.ab=9 then(if l.length=3 then .if2 (r0 r 0) (r0 r 1) (r0 r 2)else .if1 (r0 r 0) (r0 r 1))
 else if n.ab=10 then .while_ (r0 r 0) (r0 r 1)
 else if n.ab=11 then .ret (r0 r 0)
 else if n.ab=12 then .do_ (r0 r 0)
 else if n.ab=13 then .setL ls.length (r0 r 0)
 else .block r
mutual
def sf(p:Src):T->List ai->R
 |.mk n l,G=>uP p n l G (fK p l G)
def fK(p:Src):List T->List ai->List R
 |[],_=>[]
 |t::r,G=>sf p t G::fK p r (G++kJ t)
end
def qY(p:Src)(l:List T)(f:Nat):R:=match p.ak[f]?,l[f]? with
 |some g,some t=>sf p t g.params
 |_,_=>.num 0
section
variable{p q:Src}{fr to:ai}
end
mutual
def U4:∀t:T,sG t->kJ t=[]
 |.mk n l,h=>by
  rw[sG]at h;rw[kJ,Aj l h.2,D h.1];rfl
def Aj:∀l:List T,lH l->dJ l=[]
 |[],_=>by rw[dJ]
 |t::r,h=>by
  rw[lH]at h;rw[dJ,U4 t h.1,Aj r h.2];rfl
end
mutual
def XY{p:Src}:∀(t:T)(ls:List ai),qF p t ls->fR t->ls.length<=40->(ls++kJ t).length<=40
 |.mk n l,ls,k,S,V=>by
  rw[qF]at k;rw[fR]at S;rw[kJ]
  by_cases e:n.ab=13
  ·rw[Aj l (S.1 e),ae e];have:=k.1;unfold bG at this;rw[ae (show(T.mk n l).n.ab=13 from e)]at this
   by_cases o:ls.contains n.s=true
   ·rw[ae (show ls.contains (T.mk n l).n.s=true from o)]at this;cases this
   ·rw[D (show ¬ls.contains (T.mk n l).n.s=true from o)]at this
    by_cases J:ls.length>=40
    ·rw[ae J]at this;cases this
    ·simp only[nil_append,bf,length_cons,length_nil];omega
  ·rw[D e,fV]
   cases m:b9 (.mk n l)with
   |false=>exact Cu l ls (k.2 m) S.2.2 V
   |true =>
    have w:=k.1;unfold bG dH at w;unfold b9 at m;simp only[aU,beq_iff_eq,show(T.mk n l).n=n from rfl,show(T.mk n l).au=l from rfl]at m
    match l,m.2,S with
    |[.mk R E],_,S =>
     rw[D (show ¬(T.mk n [.mk R E]).n.ab=13 from e),D (show ¬((T.mk n [.mk R E]).n.ab=2\/(T.mk n [.mk R E]).n.ab=7) by show ¬(n.ab=2\/n.ab=7);omega),D (show ¬((T.mk n [.mk R E]).n.ab=3\/(T.mk n [.mk R E]).n.ab=8) by show ¬(n.ab=3\/n.ab=8);omega),ae (show(T.mk n [.mk R E]).n.ab=4 from m.1.1),ae (show b9 (.mk n [.mk R E])=true by unfold b9;simp[T.n,T.au,m.1.1,m.1.2])]at w
     have v:ga p (lG (.mk n [.mk R E])) ls=false:=by
      cases v:ga p (lG (.mk n [.mk R E])) ls with
      |false=>rfl
      |true=>rw[v,ae rfl]at w;cases w
     unfold ga at v;simp only[Bool.or_eq_false_iff,bne_eq_false_iff_eq]at v;have q:R.ab=2:=v.1.1;have u:=S.2.2;rw[eL,fR]at u;have A:=u.1.2.1 q;subst A;rw[dJ,dJ,kJ,dJ,D aI];simpa using V
def Cu{p:Src}:∀(l:List T)(ls:List ai),oE p l ls->eL l->ls.length<=40->(ls++dJ l).length<=40
 |[],ls,_,_,V=>by rw[dJ,fV];exact V
 |t::r,ls,k,R,V=>by
  rw[oE]at k;rw[eL]at R;rw[dJ,<-gS];exact Cu r _ k.2 R.2 (XY t ls k.1 R.1 V)
end
def zQ{S:Type}{f:S->Bool}{l:List S}(h:0<=bM f l):(bM f l).toNat<l.length:=by
 unfold bM at h |-
 cases m:l.findIdx? f with
 |none=>rw[m]at h;simp at h
 |some i=>simpa using(List.findIdx?_eq_some_iff_getElem.1 m).1
def Zq{l:List ai}{s:ai}(h:l.contains s=true):DF l s<l.length:=by
 refine zQ ?_;unfold bM
 cases m:l.findIdx? (fun x=>x==s)with
 |none =>
  rw[List.findIdx?_eq_none_iff]at m;have:=m s zfb;simp at this
 |some i=>exact Int.natCast_nonneg i
def tZ(p:Src):∀(l:List T)(ls:List ai),(fK p l ls).length=l.length
 |[],ls=>by rw[fK];rfl
 |t::r,ls=>by rw[fK,length_cons,length_cons,tZ p r]
end Go.Im
namespace Go.Mn
open Go.Xp (ai bD)
def qn(n:Int):Prop := -2147483648<=n/\n<=2147483647
def nc(n:Int):qn (bD n):=by grind[qn,bD]
def oN(b:Bool):Int:=if b=true then 1 else 0
def KR(a b:Int):Int:=bD (bD a+bD b)
def EL(a b:Int):Int:=bD (bD a-bD b)
def LG(a b:Int):Int:=bD (bD a*bD b)
def yz(a b:Int):Int × Int:=if bD b=0 then(0,2)else if bD a = -2147483648/\bD b = -1 then(0,3)else((bD a).tdiv (bD b),0)
def EI(a b:Int):Int × Int:=if bD b=0 then(0,2)else((bD a).tmod (bD b),0)
def mN(n:Int):Nat:=(n%4294967296).toNat
def kd(n:Int):mN n<4294967296:=by grind[mN]
def O5(n:Int):((mN n:Nat):Int)=n%4294967296:=by grind[mN]
def xj(n:Int):Nat:=mN n%32
def oi(H:Nat)(a b:Int):Int:=match H with
 |1=>bD ((mN a &&& mN b:Nat):Int)
 |2=>bD ((mN a |||mN b:Nat):Int)
 |3=>bD ((mN a ^^^ mN b:Nat):Int)
 |4=>bD ((mN a*2^xj b:Nat):Int)
 |5=>(bD a).fdiv (2^xj b)
 |6=>bD ((mN a / 2^xj b:Nat):Int)
 |7=>bD ((mN a*2^xj b |||mN a / 2^(32-xj b):Nat):Int)
 |8=>bD ((mN a / 2^xj b |||mN a*2^(32-xj b):Nat):Int)
 |_=>0
def iR(H:Nat)(a b:Int):Bool:=match H with
 |1=>bD a==bD b
 |2=>bD a != bD b
 |3=>decide (bD a<bD b)
 |4=>decide (a%4294967296<b%4294967296)
 |5=>decide (bD b<bD a)
 |6=>decide (b%4294967296<a%4294967296)
 |7=>decide (bD a<=bD b)
 |8=>decide (a%4294967296<=b%4294967296)
 |9=>decide (bD b<=bD a)
 |10=>decide (b%4294967296<=a%4294967296)
 |_=>false
def Wj(a b:Int):qn (yz a b).1:=by
 have z:=nc a;have A:=nc b;unfold yz;generalize bD a=x at *;generalize bD b=y at *;unfold qn at *;split
 ·simp
 split
 ·simp
 ·rename_i M v;simp only;have w:(x.tdiv y).natAbs=x.natAbs / y.natAbs:=Int.natAbs_tdiv x y
  by_cases o:y=1
  ·grind
  ·by_cases n:y = -1
   ·grind
   ·have N:x.natAbs / y.natAbs<=x.natAbs / 2:=Nat.div_le_div_left aI aI;omega
def YC(o:ai)(a:Int):Int:=if o=[45]then EL 0 a else if o=[33]then oN (a==0)else oi 3 a (-1)
def ra(o:ai)(a b:Int):Int × Int :=
 if o=[47]then yz a b else if o=[37]then EI a b
 else if o=[43]then(KR a b,0)else if o=[45]then(EL a b,0)else if o=[42]then(LG a b,0)
 else if o=[61,61]then(oN (iR 1 a b),0)else if o=[33,61]then(oN (iR 2 a b),0)else if o=[60]then(oN (iR 3 a b),0)
 else if o=[62]then(oN (iR 5 a b),0)else if o=[60,61]then(oN (iR 7 a b),0)else if o=[62,61]then(oN (iR 9 a b),0)
 else if o=[38]then(oi 1 a b,0)else if o=[124]then(oi 2 a b,0)else if o=[94]then(oi 3 a b,0)else if o=[60,60]then(oi 4 a b,0)else if o=[62,62]then(oi 5 a b,0)
 else(0,0)
def qX:Op:=⟨YC,ra,bD,fun n=>n%4294967296%256⟩
section
variable{O:Op}{F:Nat}{B:Nat->R}
end
end Go.Mn
namespace Go.Im
open Go.Xp Go.Sp
def w9(n:Nd)(ls:List ai):Int:=if n.ab=13 then(ls.length:Int)else bM (fun x=>x==n.s) ls
def fU(s:List Int)(a:Nat)(t:T)(ls:List ai):List Int:=s.set a (w9 t.n ls)
mutual
def tw(own:List Int):Nat->T->List ai->Prop
 |a,.mk n l,G=>own[a]?=some (w9 n G)/\rX own (a+1) l G
def rX(own:List Int):Nat->List T->List ai->Prop
 |_,[],_=>True
 |a,t::r,G=>tw own a t G/\rX own (a+bc t) r (G++kJ t)
end
mutual
def tw.congr{o Q:List Int}:∀(t:T)(a:Nat)(ls:List ai),(∀j,a<=j->j<a+bc t->Q[j]?=o[j]?)->tw o a t ls->tw Q a t ls
 |.mk n l,a,ls,R,h=>by
  rw[tw]at h |-;rw[bc]at R;exact⟨by rw[R a (aQ _) aI];exact h.1,rX.congr l (a+1) ls (fun j M v=>R j aI aI) h.2⟩
def rX.congr{o Q:List Int}:∀(l:List T)(a:Nat)(ls:List ai),(∀j,a<=j->j<a+aR l->Q[j]?=o[j]?)->rX o a l ls->rX Q a l ls
 |[],a,ls,R,h=>by simp[rX]
 |t::r,a,ls,R,h=>by
  rw[rX]at h |-;rw[aR]at R;exact⟨tw.congr t a ls (fun j M v=>R j M aI) h.1,rX.congr r _ _ (fun j M v=>R j aI aI) h.2⟩
end
structure VX(o o':List Int)(a n:Nat):Prop where
 len:o'.length=o.length
 out:∀j,j<a\/a+n<=j->o'[j]?=o[j]?
mutual
def Nl:∀(t:T)(a:Nat)(s:List Int)(ls:List ai),a+bc t<=s.length->VX s (fq fU t a s ls).1 a (bc t)/\tw (fq fU t a s ls).1 a t ls
 |.mk n l,a,s,ls,V=>by
  rw[bc]at V;rw[fq];have e:fU s a (.mk n l) ls=s.set a (w9 n ls):=rfl;rw[e];have⟨⟨M,v⟩,w⟩:=I9 l (a+1) (s.set a (w9 n ls)) ls ze3;rw[length_set]at M;refine⟨⟨M,fun j G=>?_⟩,?_⟩
  ·grind[bc,List.getElem?_set_ne]
  ·rw[tw]
   grind
def I9:∀(l:List T)(a:Nat)(s:List Int)(ls:List ai),a+aR l<=s.length->VX s (dk fU l a s ls).1 a (aR l)/\rX (dk fU l a s ls).1 a l ls
 |[],a,s,ls,V=>by rw[dk,rX];exact⟨⟨rfl,fun _ _=>rfl⟩,trivial⟩
 |t::r,a,s,ls,V=>by
  rw[aR]at V;rw[dk,B6];have⟨⟨M,z⟩,v⟩:=Nl t a s ls aI;generalize(fq fU t a s ls).1=w at *;have⟨⟨N,S⟩,W⟩:=I9 r (a+bc t) w (ls++kJ t) aI;generalize(dk fU r (a+bc t) w (ls++kJ t)).1=u at *;refine⟨⟨N.trans M,fun j G=>?_⟩,?_⟩
  ·grind[aR]
  ·rw[rX];exact⟨v.congr t a ls (fun j R A=>S j aI),W⟩
end
def pX:List Go.Sp.Fn->List T->Nat->List Int->List Int
 |f::d,t::l,a,s=>pX d l (a+bc t) (fq fU t a s f.params).1
 |_,_,_,s=>s
def Cx:∀(d:List Go.Sp.Fn)(l:List T)(a:Nat)(s:List Int),a+aR l<=s.length->VX s (pX d l a s) a (aR l)/\∀(i:Nat)f t,d[i]?=some f->l[i]?=some t->tw (pX d l a s) (a+aR (l.take i)) t f.params
 |[],l,a,s,h=>by
  have e:pX [] l a s=s:=by rfl
  rw[e];exact⟨⟨rfl,fun _ _=>rfl⟩,fun i f t h=>by simp at h⟩
 |f::d,[],a,s,h=>⟨⟨rfl,fun _ _=>rfl⟩,fun i f t _ h=>by simp at h⟩
 |f::d,t::l,a,s,h=>by
  rw[aR]at h;rw[pX];have⟨⟨M,z⟩,v⟩:=Nl t a s f.params aI;generalize(fq fU t a s f.params).1=w at *;have⟨⟨N,S⟩,V⟩:=Cx d l (a+bc t) w aI;generalize pX d l (a+bc t) w=C at *;refine⟨⟨N.trans M,fun j G=>?_⟩,fun i g u B m=>?_⟩
  ·grind[aR]
  ·cases i with
   |zero =>
    cases B;cases m
    rw[List.take_zero,aR];exact v.congr t a f.params (fun j R A=>S j aI)
   |succ i =>
    grind[aR]
def rX.at_{own:List Int}:∀{l:List T}{a k:Nat}{t:T}{ls:List ai},rX own a l ls->l[k]?=some t->tw own (a+aR (l.take k)) t (ls++dJ (l.take k))
 |[],a,k,t,ls,_,h=>by simp at h
 |u::l,a,0,t,ls,h,m=>by
  rw[rX]at h;cases m;rw[List.take_zero,aR,dJ,fV];exact h.1
 |u::l,a,k+1,t,ls,h,m=>by
  rw[rX]at h;have:=rX.at_ h.2 (show l[k]?=some t by simpa using m);rw[List.take_succ_cons,aR,dJ,show a+(bc u+aR (l.take k))=a+bc u+aR (l.take k) by omega,<-gS];exact this
end Go.Im
