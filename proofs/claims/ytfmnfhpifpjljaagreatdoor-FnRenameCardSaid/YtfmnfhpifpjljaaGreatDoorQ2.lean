/- Part 2 of proofs that are told in their last texts. -/
import Derived.Test.YtfmnfhpifpjljaaGreatDoorQ1
open List (all_cons any_eq_false cons_append drop_left ext_getElem? find?_eq_none findIdx?_eq_none_iff flatMap_cons getElem?_of_mem length_cons length_nil mem_cons_self nil_append take_succ_cons zip_cons_cons)
set_option linter.unusedVariables false
set_option linter.unusedSimpArgs false
set_option linter.defProp false
set_option maxRecDepth 100000
namespace Go.Im
open Go.Xp Go.Sp
def g1(s:ab):ab:=([105,110,116,32]++s)++[59,10]
def a1(a:Ar):ab:=((([105,110,116,32]++a.name)++[91])++n5 a.size)++[93,59,10]
def cL(M:T->ab)(inl:List ab->Nat->ab)(x:Fn × T):ab:=((((([102,117,110,99,32]++x.1.name)++[40])++cE x.1.params)++[41,32])++ko M inl 0 x.2)++[10]
def dU{R:Type}(f:R->ab):ab->List R->ab
 |acc,[]=>acc
 |acc,x::l=>dU f (acc++f x) l
section
variable{R:Type}(f:R->ab)
theorem xz(l:List R)(x:R):∀T,dU f T (l++[x])=dU f T l++f x:=by
 induction l with
 |nil=>intro T;rfl
 |cons y l O=>intro T;simp only[cons_append,dU];exact O _
def Qr(l k:List R):∀T,dU f T (l++k)=dU f (dU f T l) k:=by
 induction l with
 |nil=>intro T;rfl
 |cons y l O=>intro T;simp only[cons_append,dU];exact O _
def Ca(l:List R):∀T,T.length<=(dU f T l).length:=by
 induction l with
 |nil=>intro T;exact aY _
 |cons y l O=>intro T;have:=O (T++f y);rw[dU];rw[br]at this;omega
def xA(l:List R)(k:Nat)(T:ab):(dU f T (l.take k)).length<=(dU f T l).length:=by
 have:dU f T l=dU f (dU f T (l.take k)) (l.drop k):=by rw[<-Qr,List.take_append_drop]
 rw[this];exact Ca f _ _
end
def lR(M:T->ab)(inl:List ab->Nat->ab)(p:Src)(aE:List T):ab:=dU (cL M inl) (dU a1 (dU g1 [] p.aq) p.aj) (p.av.zip aE)
end Go.Im
namespace Go.Im
def fG{R:Type}(p:R->R->Bool):List R->List R->Bool
 |[],[]=>true
 |a::r,b::s=>p a b&&fG p r s
 |_,_=>false
section
variable{R:Type}{p:R->R->Bool}
def yF:∀{a b:List R},fG p a b=true->a.length=b.length
 |[],[],_=>rfl
 |a::r,b::s,h=>by rw[fG,aI]at h;rw[length_cons,length_cons,yF h.2]
 |[],b::s,h=>by cases h
 |a::r,[],h=>by cases h
def so{a b:List R}(h:a.length≠b.length):fG p a b=false:=by
 cases W:fG p a b with
 |false=>rfl
 |true=>exact absurd (yF W) h
theorem E6:∀{a b:List R}{k:Nat}{x y:R},a[k]?=some x->b[k]?=some y->fG p a b=true->p x y=true
 |a::r,b::s,0,x,y,o,c,h=>by cases o;cases c;rw[fG,aI]at h;exact h.1
 |a::r,b::s,k+1,x,y,o,c,h=>by rw[fG,aI]at h;exact E6 zfp (by simpa using c) h.2
 |[],_,k,x,y,o,c,h=>by simp at o
 |a::r,[],k,x,y,o,c,h=>by simp at c
def sq{a b:List R}{k:Nat}{x y:R}(o:a[k]?=some x)(c:b[k]?=some y)(h:p x y=false):fG p a b=false:=by
 cases W:fG p a b with
 |false=>rfl
 |true=>have:=E6 o c W;rw[h]at this;cases this
def IQ:∀{a b:List R},a.length=b.length->(∀(k:Nat)x y,a[k]?=some x->b[k]?=some y->p x y=true)->fG p a b=true
 |[],[],_,_=>rfl
 |a::r,b::s,M,h=>by
  rw[fG,h 0 a b rfl rfl,IQ zfy fun k x y o c=>h (k+1) x y zfp (by simpa using c)];rfl
 |[],b::s,M,h=>by simp at M
 |a::r,[],M,h=>by simp at M
end
def tM{R:Type}(p:R->R->Bool)(a b:List R)(k:Nat):Prop:=∀j x y,j<k->a[j]?=some x->b[j]?=some y->p x y=true
section
variable{R:Type}{p:R->R->Bool}{a b:List R}
def ny{k:Nat}{x y:R}(o:a[k]?=some x)(c:b[k]?=some y)(h:tM p a b k)(W:p x y=true):tM p a b (k+1):=fun j u v Y G C=>by
 by_cases e:j=k
 ·subst e;rw[o]at G;rw[c]at C;cases G;cases C;exact W
 ·exact h j u v aH G C
def oj(M:a.length=b.length)(h:tM p a b a.length):fG p a b=true :=
 IQ M fun k x y o c=>h k x y (bY o).1 o c
end
def r6(a b:Go.Sp.Fn):Bool:=((a.name==b.name)&&fG (fun x y=>x==y) a.params b.params)&&(a.body==b.body)
def lh(a b:Go.Xp.Nd):Bool:=(((a.ai==b.ai)&&(a.n==b.n))&&(a.s==b.s))&&fG (fun x y=>x==y) a.aw b.aw
def zk(x y:Go.Xp.Ar):Bool:=(x.name==y.name)&&(x.size==y.size)
open Go.Xp Go.Sp
def Cd(l:List T):(bl l).length=l.length:=by grind[tf]
def xC(t:T):(er t).n=⟨t.n.ai,0,t.n.n,t.n.s,[]⟩:=by cases t;rfl
def Uu(t:T):(er t).aw=bl t.aw:=by cases t;rfl
mutual
theorem BH:∀t:T,aU (er t)=aU t
 |.mk n l=>by rw[er,aU,aU,wb l]
theorem wb:∀l:List T,aM (bl l)=aM l
 |[]=>by rw[bl]
 |t::r=>by rw[bl,aM,aM,BH t,wb r]
end
def Dv(m:Nat):∀(l:List T)(i:Nat),bR m i (bl l)=bR m i l
 |[],i=>by rw[bl]
 |t::r,i=>by rw[bl,bR,bR,Dv m r (i+1),xC]
def DV:∀(l:List T),(bl l).all (fun x=>im x.n.ai)=l.all (fun x=>im x.n.ai)
 |[]=>by rw[bl]
 |t::r=>by rw[bl,all_cons,all_cons,DV r,xC]
def Yk(n:Nd)(k:Nat)(l:Nat->Bool)(o:Bool)(h:0<=n.at_)(e:own ⟨n.ai,0,n.n,n.s,[]⟩ k l o=true):own n k l o=true:=by
 grind[own]
mutual
def Mp:∀t:T,dC (er t)=true->xi t->dC t=true
 |.mk n l,h,v=>by
  rw[er,dC,aI]at h;rw[xi]at v;rw[dC,aI];refine⟨Iv l h.1 v.2,?_⟩;have b:own ⟨n.ai,0,n.n,n.s,[]⟩ (bl l).length (fun m=>bR m 0 (bl l)) ((bl l).all fun x=>im x.n.ai)=true:=h.2;rw[Cd,DV]at b;simp only[Dv]at b;exact Yk n _ _ _ v.1 b
def Iv:∀l:List T,c9 (bl l)=true->mn l->c9 l=true
 |[],_,_=>rfl
 |t::r,h,v=>by
  rw[bl,c9,aI]at h;rw[mn]at v;rw[c9,aI];exact⟨Mp t h.1 v.1,Iv r h.2 v.2⟩
end
mutual
theorem Mm:∀t:T,dC t=true->xi t
 |.mk n l,h=>by
  rw[dC,aI]at h;rw[xi];refine⟨?_,Iu l h.1⟩;have b:own n l.length (fun m=>bR m 0 l) (l.all fun x=>im x.n.ai)=true:=h.2
  grind[own]
theorem Iu:∀l:List T,c9 l=true->mn l
 |[],_=>trivial
 |t::r,h=>by
  rw[c9,aI]at h;rw[mn];exact⟨Mm t h.1,Iu r h.2⟩
end
def l6(a:E):nQ a.tree.n.ai=true:=by cases a<;>rfl
mutual
def E.iw:∀a:E,a.ok=true->dC a.tree=true
 |.num n,h=>by
  simp only[E.ok,aI]at h
  grind[c9,cN,own,T.n,T.aw,dC,E.tree]
 |.name s,h=>by
  grind[E.ok,c9,cN,own,T.n,T.aw,dC,E.tree]
 |.at_ s a,h=>by
  simp only[E.ok,aI]at h;have c:=E.iw a h.2;have G:=l6 a
  exact zea
 |.call s l,h=>by
  simp only[E.ok,aI]at h;have⟨c,G⟩:=E.sF l h.2;rw[E.tree,dC,c];have:=G (E.aE l).length 0 aH;simp[cN,own,T.n,T.aw,h.1,this]
 |.un s a,h=>by
  simp only[E.ok,aI]at h;have c:=E.iw a h.2;have G:=l6 a
  exact zea
 |.bin s a b,h=>by
  simp only[E.ok,aI]at h;have c:=E.iw a h.1.2;have G:=l6 a;have C:=E.iw b h.2;have e:=l6 b
  exact zea
def E.sF:∀l:List E,E.cJ l=true->c9 (E.aE l)=true/\∀m i,i+(E.aE l).length<=m->bR m i (E.aE l)=true
 |[],_=>⟨rfl,fun m i _=>rfl⟩
 |a::l,h=>by
  simp only[E.cJ,aI]at h;have⟨b,G⟩:=E.sF l h.2;refine⟨by rw[E.aE,c9,E.iw a h.1,b];rfl,fun m i j=>?_⟩;rw[E.aE,length_cons]at j;rw[E.aE,bR,ak aH,l6 a,G m (i+1) aH];rfl
end
def Yt(a:S):im a.tree.n.ai=true:=by cases a<;>rfl
mutual
def S.iw:∀a:S,a.ok=true->dC a.tree=true
 |.set s a,h=>by
  simp only[S.ok,aI]at h;have d:=E.iw a h.2;have G:=l6 a
  exact zeb
 |.var s a,h=>by
  simp only[S.ok,aI]at h;have d:=E.iw a h.2;have G:=l6 a
  exact zeb
 |.ret a,h=>by
  exact zcC
 |.do_ a,h=>by
  exact zcC
 |.put s a b,h=>by
  simp only[S.ok,aI]at h;have d:=E.iw a h.2.1;have G:=l6 a;have C:=E.iw b h.2.2;have e:=l6 b
  exact zeb
 |.if1 c b,h=>by
  exact zb8
 |.if2 c b m,h=>by
  simp only[S.ok,aI]at h;have d:=E.iw c h.1;have G:=l6 c;have C:=S.vi b h.2.1;have e:=S.vi m h.2.2;rw[S.tree,dC,c9,c9,c9,c9,d,C,e];simp[cN,own,T.n,T.aw,bR];exact G
 |.while_ c b,h=>by
  exact zb8
def S.vi:∀l:List S,S.cJ l=true->dC (.mk ⟨14,0,0,[],[]⟩ (S.aE l))=true
 |l,h=>by
  have⟨o,b⟩:=S.sF l h;have G:cN (.mk ⟨14,0,0,[],[]⟩ (S.aE l))=own ⟨14,0,0,[],[]⟩ (S.aE l).length (fun m=>bR m 0 (S.aE l)) ((S.aE l).all fun x=>im x.n.ai):=rfl;rw[dC,o,G,b];simp[own]
def S.sF:∀l:List S,S.cJ l=true->c9 (S.aE l)=true/\(S.aE l).all (fun x=>im x.n.ai)=true
 |[],_=>⟨rfl,rfl⟩
 |a::l,h=>by
  simp only[S.cJ,aI]at h;have⟨o,b⟩:=S.sF l h.2;exact⟨by rw[S.aE,c9,S.iw a h.1,o];rfl,by rw[S.aE,all_cons,b,Yt a];rfl⟩
end
def Z7{n:Nd}{k:Nat}{l:Nat->Bool}{r:Bool}(h:own n k l r=true):eG n.ai k=true:=by
 have W:n.ai=1\/n.ai=2\/n.ai=3\/n.ai=4\/n.ai=5\/n.ai=6\/n.ai=7\/n.ai=8\/n.ai=9\/n.ai=10\/n.ai=11\/n.ai=12\/n.ai=13\/n.ai=14\/(n.ai<1\/14<n.ai):=by omega
 unfold own at h
 by_cases o:decide (n.at_<0)=true
 ·grind
 rw[ae o]at h
 by_cases q:(n.ai != 1&&n.n != 0)=true
 ·grind
 rw[ae q]at h;clear o q
 rcases W with N|N|N|N|N|N|N|N|N|N|N|N|N|N|N
 all_goals(first|(simp[N]at h;simp[eG,N];done)|(simp[N]at h;simp[eG,N];omega)|(simp[N]at h;simp[eG,N,h];done)|skip)
 ·exfalso
  have w:(n.ai==1)=false:=by grind
  have R:(n.ai==2)=false:=by grind
  grind
mutual
def Sy:∀t:T,dC t=true->iG t=true
 |.mk n l,h=>by
  rw[dC,aI]at h;rw[iG,Mq l h.1,Bool.and_true];exact Z7 h.2
def Mq:∀l:List T,c9 l=true->xS l=true
 |[],_=>rfl
 |t::r,h=>by
  rw[c9,aI]at h;rw[xS,Sy t h.1,Mq r h.2];rfl
end
def Ri(t:T)(z:Int):oZ (er t) z=oZ t z:=by unfold oZ;rw[xC]
def VQ(n:Nd)(l:List T)(x:List ab):wc ⟨n.ai,0,n.n,n.s,[]⟩ (bl l) x=wc n l x:=by
 unfold wc
 match l with
 |[]=>rw[bl]
 |[a]=>rw[bl,bl];simp[xC]
 |a::b::r=>rw[bl,bl];simp[xC,Ri]
mutual
theorem PC:∀t:T,eg (er t)=eg t
 |.mk n l=>by rw[er,eg,eg,CY l,VQ]
theorem CY:∀l:List T,jm (bl l)=jm l
 |[]=>by rw[bl]
 |t::r=>by rw[bl,jm,jm,PC t,CY r]
end
mutual
def YC(inl:List ab->Nat->ab):∀(t:T)(d:Nat),gY eg inl d (er t)=gY eg inl d t
 |.mk n l,d=>by
  have h:=PC (.mk n l);rw[er]at h |-;rw[gY,gY,h,Iy inl l d,Cd]
  have:(bl l).map eg=l.map eg:=by grind[Kj,CY]
  rw[this];rfl
def Iy(inl:List ab->Nat->ab):∀(l:List T)(d:Nat),kV eg inl d (bl l)=kV eg inl d l
 |[],d=>by rw[bl]
 |t::r,d=>by rw[bl,kV,kV,Mx inl t d,Iy inl r d]
def Mx(inl:List ab->Nat->ab):∀(t:T)(d:Nat),ko eg inl d (er t)=ko eg inl d t
 |.mk n l,d=>by rw[er,ko,ko,J9 inl l (d+1)]
def J9(inl:List ab->Nat->ab):∀(l:List T)(d:Nat),sC eg inl d (bl l)=sC eg inl d l
 |[],d=>by rw[bl]
 |t::r,d=>by rw[bl,sC,sC,YC inl t d,J9 inl r d]
end
theorem OC{s:ab}(h:eD s=true):tS s=(fk s:Int):=by
 grind[findIdx?_eq_none_iff,eD,mh,tS,fk]
def Jv{a:E}(h:a.ok=true)(k:Nat)(N:k<=9):oZ a.tree (k:Int)=decide (a.lv<k):=by
 have R:∀b:Bool,(false&&b)=decide (9<k):=fun b=>by grind
 cases a with
 |bin s x y =>
  simp only[E.ok,aI]at h;show(true&&decide (tS s<(k:Int)))=decide (fk s<k)
  simp_all[OC,Bool.true_and,decide_eq_decide]
 |num n=>exact R _
 |name n=>exact R _
 |at_ s a=>exact R _
 |call s l=>exact R _
 |un s a=>exact R _
def B5(lv k:Nat)(x:ab):vj (decide (lv<k)) x=re lv k x:=by
 simp[ab,vj,re]
def Wd{a:E}(h:a.ok=true):(a.tree.n.ai==6)=decide (a.lv<9):=by
 cases a with
 |bin s x y =>
  simp only[E.ok,aI]at h;have:=(sw h.1.1).1;show true=decide (fk s<9)
  grind
 |_=>rfl
mutual
def kC:∀a:E,a.ok=true->eg a.tree=a.bS
 |.num n,h=>by
  simp only[E.ok,aI,decide_eq_true_eq]at h;rw[E.tree,eg,E.bS];unfold wc n5
  grind
 |.name s,h=>by
  rfl
 |.at_ s a,h=>by
  simp only[E.ok,aI]at h;have c:=kC a h.2;rw[E.tree,eg,jm,jm,c,E.bS];simp[wc]
 |.call s l,h=>by
  simp only[E.ok,aI]at h;rw[E.tree,eg,Kk l h.2,E.bS];simp[wc]
 |.un s a,h=>by
  simp only[E.ok,aI]at h;have c:=kC a h.2;rw[E.tree,eg,jm,jm,c,E.bS,<-B5,<-Wd h.2];simp[wc]
 |.bin s a b,h=>by
  simp only[E.ok,aI]at h;have c:=kC a h.1.2;have G:=kC b h.2;have M:=(sw h.1.1).1;have w:=Jv h.1.2 (fk s) aH;have R:=Jv h.2 (fk s+1) aH;rw[E.tree,eg,jm,jm,jm,c,G,E.bS,<-B5,<-B5,<-w,<-R];unfold wc
  grind[OC]
def Kk:∀l:List E,E.cJ l=true->jm (E.aE l)=E.eh l
 |[],_=>rfl
 |a::l,h=>by
  simp only[E.cJ,aI]at h;rw[E.aE,jm,E.eh,kC a h.1,Kk l h.2]
end
def xy(x:E->ab):∀(l:List S)(T:ab),sJ T (l.map (S.bS x))=S.eh x T l
 |[],T=>by rfl
 |a::l,T=>by
  rw[S.eh,<-xy x l];simp[ab,sJ,S.bS]
mutual
def VD:∀(s:S),s.ok=true->∀d,gY eg ef d s.tree=s.bS E.bS
 |.set s a,h,d=>by
  exact zdM
 |.var s a,h,d=>by
  exact zdM
 |.ret a,h,d=>by
  exact zd2
 |.do_ a,h,d=>by
  exact zd2
 |.put s a b,h,d=>by
  simp only[S.ok,aI]at h;rw[S.tree,gY,List.map_cons,List.map_cons,kC a h.2.1,kC b h.2.2,S.bS];simp[sD]
 |.if1 c b,h,d=>by
  exact zcS
 |.if2 c b m,h,d=>by
  simp only[S.ok,aI]at h;have i:=vh b h.2.1 d;have O:=vh m h.2.2 d;rw[S.tree,gY,List.map_cons,kC c h.1,kV,kV,kV,kV,i,O,S.bS];simp[sD,fY]
 |.while_ c b,h,d=>by
  exact zcS
def vh:∀(l:List S),S.cJ l=true->∀d,ko eg ef d (.mk ⟨14,0,0,[],[]⟩ (S.aE l))=fY E.bS l
 |l,h,d=>by
  rw[ko,Ka l h (d+1),ef,xy];rfl
def Ka:∀(l:List S),S.cJ l=true->∀d,sC eg ef d (S.aE l)=l.map (S.bS E.bS)
 |[],_,d=>by rfl
 |a::l,h,d=>by
  simp only[S.cJ,aI]at h;rw[S.aE,sC,List.map_cons,VD a h.1,Ka l h.2]
end
def tL{R:Type}{p:R->R->Bool}(h:∀x,p x x=true):∀l:List R,fG p l l=true
 |[]=>rfl
 |a::l=>by rw[fG,h a,tL h l];rfl
def yE{R:Type}[BEq R][LawfulBEq R]:∀{a b:List R},fG (fun x y=>x==y) a b=true->a=b
 |[],[],_=>rfl
 |a::r,b::s,h=>by rw[fG,aI,beq_iff_eq]at h;rw[h.1,yE h.2]
 |[],b::s,h=>by cases h
 |a::r,[],h=>by cases h
def IU{R:Type}{p:R->R->Bool}:∀{a b:List R}{c d:List R},a.length=b.length->fG p (a++c) (b++d)=(fG p a b&&fG p c d)
 |[],[],c,d,_=>rfl
 |a::r,b::s,c,d,h=>by rw[cons_append,cons_append,fG,fG,IU zff,Bool.and_assoc]
 |[],b::s,_,_,h=>by simp at h
 |a::r,[],_,_,h=>by simp at h
def wN:∀(l:List T)(a:Nat),bx a (bl l)=bx a l
 |[],a=>by rw[bl]
 |t::r,a=>by rw[bl,bx,bx,BH,wN r]
mutual
theorem Uy:∀(t u:T)(a:Nat),er t=er u->fG lh (dW a t) (dW a u)=true
 |.mk n l,.mk m k,a,h=>by
  rw[er,er]at h
  injection h with h1 h2
  injection h1 with h3 h4 h5 h6 h7
  rw[dW,dW,fG,Cj l k (a+1) h2,Bool.and_true,<-wN l,<-wN k,h2];simp only[lh,h3,h5,h6];simp[tL]
theorem Cj:∀(l k:List T)(a:Nat),bl l=bl k->fG lh (bZ a l) (bZ a k)=true
 |[],[],a,_=>by rfl
 |t::r,u::s,a,h=>by
  rw[bl,bl]at h
  injection h with h1 h2
  have m:aU t=aU u:=by grind[BH]
  rw[bZ,bZ,IU (by grind[qu]),Uy t u a h1,<-m,Cj r s _ h2];rfl
 |[],u::s,a,h=>by grind[bl]
 |t::r,[],a,h=>by grind[bl]
end
mutual
def Vx:∀(t u:T)(a:Nat)(x y:List Nd),fG lh (dW a t++x) (dW a u++y)=true->er t=er u/\fG lh x y=true
 |.mk n l,.mk m k,a,x,y,h=>by
  rw[dW,dW,cons_append,cons_append,fG,aI]at h;have⟨o,b⟩:=h;simp only[lh,aI,beq_iff_eq]at o;have⟨⟨⟨G,C⟩,e⟩,q⟩:=o;have O:=congrArg List.length (yE q);rw[dw,dw]at O;have⟨S,d⟩:=CL l k (a+1) x y O b
  grind[er,fG,lh]
def CL:∀(l k:List T)(a:Nat)(x y:List Nd),l.length=k.length->fG lh (bZ a l++x) (bZ a k++y)=true->bl l=bl k/\fG lh x y=true
 |[],[],a,x,y,_,h=>by grind[bZ]
 |t::r,u::s,a,x,y,M,h=>by
  rw[bZ,bZ,dP,dP]at h;have⟨o,b⟩:=Vx t u a _ _ h
  have m:aU t=aU u:=by grind[BH]
  rw[<-m]at b;have⟨G,C⟩:=CL r s _ x y zff b
  grind[bl,fG,lh]
 |[],u::s,a,x,y,M,h=>by simp at M
 |t::r,[],a,x,y,M,h=>by simp at M
end
def Vw{l k:List T}(M:l.length=k.length)(h:fG lh (bZ 0 l) (bZ 0 k)=true):bl l=bl k:=by
 have:=CL l k 0 [] [] M zff
 grind
structure PS where
 aE:List T
 aq:List ab
 aj:List Ar
 av:List (ab × List ab)
def PS.empty:PS:=⟨[],[],[],[]⟩
def pH:Nat->List ab->RS->Option (List ab × RS)
 |0,_,_=>none
 |f+1,T,p =>
  if p.code=0/\is p 0 [41]=false then pH f (T++[(tok (if T.length=0 then p else want p [44]) 0).s]) (cv (if T.length=0 then p else want p [44]))
  else some (T,want p [41])
def iW(f:Nat)(p:RS)(st:PS):Option (RS × PS) :=
 if is p 0 ji=true then
  if(cv p.next).code=0/\is (cv p.next) 0 [91]=true then
   if(tok (cv p.next).next 0).ai=1 then
    some (want (want (cv p.next).next.next [93]) [59],{ st with aj:=st.aj++[⟨(tok p.next 0).s,(tok (cv p.next).next 0).n⟩] })
   else some (lN (cv p.next).next,st)
  else some (want (cv p.next) [59],{ st with aq:=st.aq++[(tok p.next 0).s] })
 else if is p 0 jv=true then
  match pH f [] (want (cv p.next) [40])with
  |none=>none
  |some (l,q) =>
   if q.code=0 then match iS f (.block 1) q with
    |none=>none
    |some (t,q)=>some (q,{ st with aE:=st.aE++[t],av:=st.av++[((tok p.next 0).s,l)] })
   else some (q,st)
 else some (lN p,st)
def n2:Nat->Nat->RS->PS->Option (RS × PS)
 |0,_,_,_=>none
 |g+1,f,p,st =>
  if p.code=0/\p.i<p.l.length then match iW f p st with
   |none=>none
   |some (p,st)=>n2 g f p st
  else some (p,st)
def N4:∀(f:Nat)(T:List ab)(p:RS)(l:List ab)(q:RS),p.ok->pH f T p=some (l,q)->p.to q
 |0,_,_,_,_,_,h=>by cases h
 |f+1,T,p,l,q,W,h=>by
  rw[pH]at h;split at h
  ·have o:p.to (if T.length=0 then p else want p [44]):=by grind[jV,dr]
   have b:=jz (o.ok W);have G:=N4 f _ _ l q ((o.trans b).ok W) h
   grind[RS.to]
  grind[dr]
def ZD{f:Nat}{p q:RS}{st Y:PS}(W:p.ok)(h:iW f p st=some (q,Y)):p.to q:=by
 unfold iW at h;split at h
 ·rename_i j;have o:=lj j;have b:=o.trans (jz (o.ok W));split at h
  ·rename_i i;have G:=b.trans (lj i.2);split at h
   ·rename_i N
    have R:(tok (cv p.next).next 0).ai≠0:=by omega
    have C:=G.trans (cY (by have:=sE R;exact this));have e:=C.trans (dr (C.ok W) [93])
    cases h;exact e.trans (dr (e.ok W) _)
   ·cases h;exact G.trans (xd (G.ok W))
  ·cases h;exact b.trans (dr (b.ok W) _)
 ·split at h
  ·rename_i j;have o:=lj j;have b:=o.trans (jz (o.ok W));have G:=b.trans (dr (b.ok W) [40])
   cases k:pH f [] (want (cv p.next) [40])with
   |none=>grind
   |some r =>
    have⟨l,v⟩:=r;rw[k]at h;simp only at h;have C:=G.trans (N4 _ _ _ _ _ (G.ok W) k);split at h
    ·cases i:iS f (.block 1) v with
     |none=>grind
     |some r =>
      have⟨t,E⟩:=r;rw[i]at h;cases h;exact C.trans ((En f).1 _ _ _ _ (C.ok W) i)
    grind
  grind[xd]
structure PS.le(a:PS)(n:Nat):Prop where
 aE:a.aE.length<=n
 aq:a.aq.length<=n
 aj:a.aj.length<=n
 av:a.av.length=a.aE.length
def ZB{f n:Nat}{p q:RS}{st Y:PS}(h:iW f p st=some (q,Y))(G:st.le n):Y.le (n+1):=by
 have⟨a,b,c,d⟩:=G;have R:st.le (n+1):=⟨by omega,by omega,by omega,d⟩;unfold iW at h;split at h
 ·split at h
  ·split at h
   ·cases h;exact⟨by grind,by grind,by grind,by omega⟩
   grind
  ·cases h;exact⟨by grind,by grind,by grind,by omega⟩
 ·split at h
  ·split at h
   ·cases h
   ·split at h
    ·split at h
     ·cases h
     ·cases h;exact⟨by grind,by grind,by grind,by grind⟩
    grind
  grind
end Go.Im
namespace Go.Sp
open Go.Xp
inductive Tz(s:ab):Nat->List Tok->Nat->Prop
 |nil (a:Nat):Tz s a [] a
 |blank {a b:Nat} {c:UInt8} {ts:List Tok} (hc:s[a]?=some c) (hb:fA c=true) (h:Tz s (a+1) ts b):Tz s a ts b
 |tok {a a' b:Nat} {c:UInt8} {t:Tok} {ts:List Tok} (hc:s[a]?=some c) (hb:fA c=false) (hr:cw s a [47,42]=false) (ht:gT s a c=(t,a')) (hk:t.ai=1\/t.ai=2\/t.ai=3) (hn:t.n<=2147483647) (ha:a<a') (h:Tz s a' ts b):Tz s a (t::ts) b
def Tz.app{s:ab}{a b c:Nat}{ts us:List Tok}(h:Tz s a ts b)(k:Tz s b us c):Tz s a (ts++us) c:=by
 induction h with
 |nil a=>exact k
 |blank W i h O=>exact .blank W i (O k)
 |tok W i w M N d v h O=>exact .tok W i w M N d v (O k)
def Tz.kinds{s:ab}{a b:Nat}{ts:List Tok}(h:Tz s a ts b):∀t∈ts,t.ai=1\/t.ai=2\/t.ai=3:=by
 induction h with
 |nil a=>simp
 |blank W i h O=>exact O
 |tok W i w M N c v h O =>
  grind
theorem Tz.len{s:ab}{a b:Nat}{ts:List Tok}(h:Tz s a ts b):a+ts.length<=b:=by
 induction h with
 |nil a=>simp
 |blank W i h O=>omega
 |tok W i w M N c v h O=>grind
theorem Pp(s:ab):∀(f Z a:Nat),a<=s.length->s.length<f+a->s.length<Z+a->skip s f a=skip s Z a:=by
 intro f
 induction f with
 |zero=>omega
 |succ f O =>
  intro Z a o b G;obtain⟨Z,rfl⟩:∃g,Z=g+1:=⟨Z-1,by omega⟩
  grind[List.getElem?_eq_some_iff,nD,sR,rW,cw,iC,skip]
def Tz.iv{s:ab}{a b:Nat}{ts:List Tok}(h:Tz s a ts b):∀(f:Nat)(T:List Tok),qZ s (f+ts.length) (skip s (s.length+1) a).1 T=qZ s f (skip s (s.length+1) b).1 (T++ts):=by
 induction h with
 |nil a=>simp
 |blank W i h O =>
  rename_i a b c ts;intro f T;have N:=(bY W).1;rw[<-O f T]
  have:skip s (s.length+1) a=skip s (s.length+1) (a+1):=by
   rw[skip,W];grind[Pp]
  rw[this]
 |tok W i w M Q d v h O =>
  rename_i a X b c t ts;intro f T
  have:skip s (s.length+1) a=(a,-1):=by
   grind[skip]
  rw[this,length_cons,<-mg,qZ,W]
  grind
def Tz.all{s:ab}{ts:List Tok}(h:Tz s 0 ts s.length):Go.Sp.iv s=some ts:=by
 have o:=h.len;have b:=h.iv (s.length+2-ts.length) [];unfold Go.Sp.iv;rw[show s.length+2-ts.length+ts.length=s.length+2 by omega]at b;rw[b]
 have G:skip s (s.length+1) s.length=(s.length,-1):=by rw[skip];simp
 rw[G];obtain⟨g,X⟩:∃g,s.length+2-ts.length=g+1:=⟨s.length+1-ts.length,by omega⟩
 grind[qZ]
theorem nU{s r:ab}{a:Nat}{c:UInt8}(h:s.drop a=c::r):s[a]?=some c/\s.drop (a+1)=r/\a<s.length:=by
 have o:s[a]?=some c:=by
  have:=List.getElem?_drop (xs:=s) (i:=a) (j:=0)
  grind
 grind[List.getElem?_eq_some_iff,List.tail_drop]
def Vt(s:ab)(p:UInt8->Bool):∀(w d:ab)(f a:Nat),s.drop a=w++d->(∀c∈w,p c=true)->run s p (f+w.length) a=run s p f (a+w.length):=by
 intro w
 induction w with
 |nil=>simp
 |cons c w O =>
  intro d f a h W;have⟨o,b,_⟩:=nU h;rw[length_cons,<-mg,run,o];simp only;rw[ak (W c (mem_cons_self)),O d f (a+1) b (fun c X=>W c (ec _ X))]
  grind
def RJ(s:ab)(p:UInt8->Bool)(d:ab)(f a:Nat)(h:s.drop a=d)(W:∀c,d.head?=some c->p c=false):run s p f a=a:=by
 cases f with
 |zero=>rfl
 |succ f =>
  rw[run]
  cases d with
  |nil =>
   simp_all
  |cons c r =>
   grind[nU]
def FU{s w c:ab}{a:Nat}(h:s.drop a=w++c)(ha:a<=s.length):a+w.length+c.length=s.length:=by
 grind[sa]
def Sm{s w d:ab}{a:Nat}{c:UInt8}{r:ab}(ha:a<=s.length)(h:s.drop a=w++d)(l:w=c::r)(G:small c=true)(n:∀c∈w,et c=true)(W:∀c,d.head?=some c->et c=false) :
  gT s a c=(⟨if words.contains w=true then 3 else 2,0,w,a⟩,a+w.length):=by
 have M:=FU h ha
 have e:ij s a=a+w.length:=by
  unfold ij;obtain⟨g,X⟩:∃g,s.length+1=g+w.length:=⟨s.length+1-w.length,by omega⟩;rw[X,Vt s et w d g a h n];refine RJ s et d g _ ?_ W;rw[<-List.drop_drop,h,drop_left]
 have T:eM c=false:=by
  simp only[small,eM,aI]at G |-
  grind
 unfold gT;rw[ae zff,ak G]
 grind[jB]
def fold(n:Int)(w:ab):Int:=w.foldl (fun n c=>if n<=2147483647 then n*10+((c.toNat:Int)-48)else n) n
def LC(s:ab):∀(w d:ab)(f:Nat)(n:Int)(a:Nat),s.drop a=w++d->(∀c∈w,eM c=true)->number s (f+w.length) n a=number s f (fold n w) (a+w.length):=by
 intro w
 induction w with
 |nil=>grind[fold]
 |cons c w O =>
  intro d f n a h W;have⟨o,b,_⟩:=nU h;rw[length_cons,<-mg,number,o];simp only;rw[ak (W c (mem_cons_self)),O d f _ (a+1) b (fun c X=>W c (ec _ X))]
  grind[number,fold]
def H6(s:ab)(d:ab)(f:Nat)(n:Int)(a:Nat)(h:s.drop a=d)(W:∀c,d.head?=some c->eM c=false):number s f n a=(n,a):=by
 cases f with
 |zero=>rfl
 |succ f =>
  rw[number]
  cases d with
  |nil =>
   simp_all
  |cons c r =>
   grind[nU]
def MR(k:Nat)(h:k<=9):eM (UInt8.ofNat (48+k))=true/\((UInt8.ofNat (48+k)).toNat:Int)=48+k:=by
 have:(UInt8.ofNat (48+k)).toNat=48+k:=by simp;omega
 grind[eM]
def IJ(n:Nat):(∀c∈hY n,eM c=true)/\(n<=2147483647->fold 0 (hY n)=n)/\hY n≠[]:=by
 induction n using Nat.strongRecOn with
 |_ n O =>
 unfold hY
 by_cases h:n<10
 ·rw[dif_pos h];have⟨o,b⟩:=MR n aH
  grind[fold]
 ·rw[dif_neg h];have⟨o,b,G⟩:=O (n / 10) aH;have⟨C,e⟩:=MR (n%10) aH
  grind[fold]
def U8{s d:ab}{n a:Nat}{c:UInt8}{r:ab}(ha:a<=s.length)(h:s.drop a=hY n++d)(l:hY n=c::r)(hn:n<=2147483647)(W:∀c,d.head?=some c->eM c=false) :
  gT s a c=(⟨1,n,[],a⟩,a+(hY n).length):=by
 have⟨o,b,G⟩:=IJ n;have M:=FU h ha;have T:eM c=true:=o c zff;obtain⟨g,X⟩:∃g,s.length+1=g+(hY n).length:=⟨s.length+1-(hY n).length,by omega⟩;unfold gT;rw[ak T,X,LC s (hY n) d g 0 a h o,b hn,H6 s d g _ _ (by rw[<-List.drop_drop,h,drop_left]) W]
def zh{s r t:ab}{a:Nat}(h:s.drop a=r)(ha:a<=s.length):cw s a t=t.isPrefixOf r:=by
 have M:a+r.length=s.length:=by grind
 unfold cw;rw[List.drop_take,h,Nat.add_sub_cancel_left]
 by_cases W:t <+: r
 ·obtain⟨z,rfl⟩:=W
  grind
 grind
def CJ:List UInt8:=[32,40,41,91,93,44,59,123,125,10]
def Sep(d:ab):Prop:=∀c,d.head?=some c->c∈CJ
theorem Sep.et{d:ab}(h:Sep d):∀c,d.head?=some c->et c=false:=by
 intro c W
 have:∀c∈CJ,Go.Sp.et c=false:=by decide
 exact this c (h c W)
theorem Sep.eM{d:ab}(h:Sep d):∀c,d.head?=some c->eM c=false:=by
 intro c W
 have:∀c∈CJ,Go.Sp.eM c=false:=by decide
 exact this c (h c W)
theorem Vj{x y z:ab}(h:x.length<=y.length):x.isPrefixOf (y++z)=x.isPrefixOf y:=by
 induction x generalizing y with
 |nil=>simp
 |cons a x O =>
  cases y with
  |nil=>simp at h
  |cons b y=>grind
def find_congr{R:Type}{p q:R->Bool}:∀{l:List R},(∀x∈l,p x=q x)->l.find? p=l.find? q
 |[],_=>rfl
 |a::l,h=>by rw[List.find?_cons,List.find?_cons,h a (mem_cons_self),find_congr (fun x hx=>h x (ec _ hx))]
def RW{s w d:ab}{a:Nat}{c:UInt8}{r:ab}(ha:a<=s.length)(h:s.drop a=w++d)(m:w=c::r)(j:w∈cy)(W:Sep d) :
  gT s a c=(⟨3,0,w,a⟩,a+w.length)/\fA c=false/\cw s a [47,42]=false:=by
 have T:∀w∈cy,∀c,w.head?=some c->eM c=false/\small c=false/\fA c=false:=by
  have:∀w∈cy,(match w.head? with|some c=>!eM c&&!small c&&!fA c|none=>true)=true:=by decide
  grind
 have⟨o,b,G⟩:=T w j c zff
 have J:∀w∈cy,w.length<=2/\1<=w.length:=by decide
 have S:∀w∈cy,cy.find? (fun x=>x.isPrefixOf w)=some w/\[47,42].isPrefixOf w=false:=by decide
 have N:∀w∈cy,∀c∈CJ,cy.find? (fun x=>x.isPrefixOf (w++[c]))=some w/\[47,42].isPrefixOf (w++[c])=false:=by decide
 have l:cy.find? (cw s a)=some w/\cw s a [47,42]=false:=by
  have z:∀x,cw s a x=x.isPrefixOf (w++d):=fun x=>zh h ha
  have R:cy.find? (cw s a)=cy.find? (fun x=>x.isPrefixOf (w++d)):=find_congr fun x _=>z x
  rw[R,z]
  cases d with
  |nil=>grind
  |cons M d =>
   have u:=W M rfl
   have q:∀x:ab,x.length<=2->x.isPrefixOf (w++M::d)=x.isPrefixOf (w++[M]):=fun x hx=>by
    rw[show w++M::d=(w++[M])++d by simp]
    grind[Vj,br]
   rw[find_congr fun x hx=>q x (J x hx).1,q _ aC]
   grind
 grind[gT,fA,cw]
def QN{s d:ab}{a:Nat}{c:UInt8}(ha:a<=s.length)(h:s.drop a=c::d)(j:c∈[40,41,91,93,44,59,123,125]) :
  gT s a c=(⟨3,0,[c],a⟩,a+1)/\fA c=false/\cw s a [47,42]=false:=by
 have T:∀c∈([40,41,91,93,44,59,123,125]:List UInt8),eM c=false/\small c=false/\fA c=false/\c≠47:=by decide
 have⟨o,b,G,C⟩:=T c j
 have w:∀x,cw s a x=x.isPrefixOf (c::d):=fun x=>zh h ha
 have S:cy.find? (cw s a)=cy.find? (fun x=>x.isPrefixOf (c::d)):=find_congr fun x _=>w x
 have R:∀d:ab,∀c∈([40,41,91,93,44,59,123,125]:List UInt8),cy.find? (fun x=>x.isPrefixOf (c::d))=some [c]:=by
  intro d c W;simp only[List.mem_cons,List.not_mem_nil,or_false]at W
  rcases W with rfl|rfl|rfl|rfl|rfl|rfl|rfl|rfl<;>rfl
 refine⟨?_,G,?_⟩
 ·unfold gT
  simp_all
 grind
end Go.Sp
namespace Go.Im
open Go.Xp Go.Sp
def oG:List ab:=[[105,110,116],[118,97,114],[102,117,110,99],[105,102],[101,108,115,101],[119,104,105,108,101],[114,101,116,117,114,110],[124,124],[38,38],[61,61],[33,61],[60,61],[62,61],[60,60],[62,62],[40],[41],[123],[125],[91],[93],[44],[59],[61],[60],[62],[43],[45],[42],[47],[37],[38],[124],[94],[33],[126]]
theorem uR:oG=words++cy:=by decide
def lf(s:ab):Bool:=oG.contains s
def mW:ab->Int->Int
 |[],n=>n
 |c::r,n=>if n<=2147483647 then mW r (10*n+((c.toNat:Int)-48))else n
def dQ(s:ab)(a b:Nat):ab:=(s.take b).drop a
def kA(s:ab)(a:Nat)(k:Nat):Bool:=decide (a+k<=s.length)&&(match s[a]? with|some c=>!(small c)|none=>false)&&lf (dQ s a (a+k))
def kz(s:ab)(a:Nat):ab:=if kA s a 2=true then dQ s a (a+2)else if kA s a 1=true then dQ s a (a+1)else[]
def oi(s:ab)(a:Nat):Nat:=run s eM (s.length+1) a
def uh:Tok:=⟨0,0,[],0⟩
def nj(s:ab)(a:Nat)(c:UInt8):Tok × Nat × Int :=
 if eM c=true then
  if mW (dQ s a (oi s a)) 0>2147483647 then(uh,a,3)else(⟨1,mW (dQ s a (oi s a)) 0,[],a⟩,oi s a,0)
 else if small c=true then(⟨if lf (jB s a)=true then 3 else 2,0,jB s a,a⟩,ij s a,0)
 else if kz s a=[]then(uh,a,2)
 else(⟨3,0,kz s a,a⟩,a+(kz s a).length,0)
def u5:ab->Option Nat
 |[]=>none
 |b::l=>if List.isPrefixOf [42,47] (b::l)then some 0 else match u5 l with|none=>none|some n=>some (n+1)
def qh(s:ab):Nat->Nat->List Tok->Option (List Tok × Int × Int)
 |0,_,_=>none
 |f+1,a,T=>match s[a]? with
  |none=>some (T,0,0)
  |some c =>
   if fA c=true then qh s f (a+1) T
   else if cw s a [47,42]=true then
    match u5 (s.drop (a+2))with
    |none=>some ([],4,a)
    |some n=>qh s f (a+(n+4)) T
   else if(nj s a c).2.2≠0 then some ([],(nj s a c).2.2,a)
   else qh s f (nj s a c).2.1 (T++[(nj s a c).1])
structure AF(t:Tok):Prop where
 num:t.ai=1->0<=t.n/\t.n<=2147483647/\t.s=[]
 name:t.ai=2->word t.s=true/\lf t.s=false
 aJ:t.ai=3->lf t.s=true
 kinds:t.ai=1\/t.ai=2\/t.ai=3
theorem tH{s:ab}{a b:Nat}(h:b<=s.length):(dQ s a b).length=b-a:=by
 grind[dQ]
def qp{s:ab}{a b:Nat}{c:UInt8}(h:s[a]?=some c)(i:a<b)(M:b<=s.length):dQ s a b=c::dQ s (a+1) b:=by
 unfold dQ;have N:=(bY h).1
 simp_all[List.getElem?_take,ak,List.getElem?_eq_some_iff,j3]
def CH(s:ab)(p:UInt8->Bool):∀(f a:Nat),a<=s.length->∀c∈dQ s a (run s p f a),p c=true:=by
 intro f
 induction f with
 |zero =>
  simp[ab,dQ,run]
 |succ f O =>
  intro a v c W;rw[Go.Sp.run]at W
  have X:∀x:ab,x=dQ s a a->c∈x->p c=true:=fun x hx j=>by
   grind[dQ,tH,ll]
  cases J:s[a]? with
  |none=>grind
  |some d =>
   rw[J]at W;simp only at W;have N:=(bY J).1
   by_cases Y:p d=true
   ·rw[ak Y]at W
    have w:a+1<=Go.Sp.run s p f (a+1)/\Go.Sp.run s p f (a+1)<=s.length:=by
     have:∀(f a:Nat),a<=s.length->a<=Go.Sp.run s p f a/\Go.Sp.run s p f a<=s.length:=by
      intro f
      induction f with
      |zero=>simp[run]
      |succ f O =>
       grind[run]
     grind
    rw[qp J aH w.2]at W
    grind
   grind
def JJ:∀(w:ab)(n:Int),0<=n->(∀c∈w,eM c=true)->0<=mW w n
 |[],n,h,_=>h
 |c::r,n,h,T=>by
  rw[mW];have W:=T c (mem_cons_self);simp only[eM,aI,decide_eq_true_eq]at W;split
  ·exact JJ r _ aH (fun c W=>T c (ec _ W))
  ·exact h
def QX{x:ab}(h:lf x=true):x≠[]:=by
 intro o;subst o;revert h;decide
def Ko{s:ab}{a:Nat}{c:UInt8}(W:s[a]?=some c)(o:(nj s a c).2.2=0):AF (nj s a c).1/\(nj s a c).1.at_=a/\a<(nj s a c).2.1/\(nj s a c).2.1<=s.length:=by
 have N:=(bY W).1;unfold nj at o |-
 by_cases T:eM c=true
 ·rw[ak T]at o |-
  by_cases d:mW (dQ s a (oi s a)) 0>2147483647
  ·grind
  ·rw[ae d];have⟨w,Y,q⟩:=lU s eM (s.length+1) a aH aH
   have R:a<oi s a:=by
    grind[oi]
   refine⟨⟨fun _=>⟨JJ _ _ aC (CH s eM _ a aH),by grind,rfl⟩,fun h=>by simp at h,fun h=>by simp at h,.inl rfl⟩,rfl,R,q⟩
 ·rw[ae T]at o |-
  by_cases G:small c=true
  ·rw[ak G];have⟨w,Y,q⟩:=lU s et (s.length+1) a aH aH
   have j:et c=true:=by simp[et,G]
   have R:a<ij s a:=by
    grind[ij]
   have l:word (jB s a)=true:=by
    have r:jB s a=c::dQ s (a+1) (ij s a):=qp W R q;have b:=CH s et (s.length+1) a aH;unfold word;have H:(jB s a).all et=true:=ea.2 b
    grind
   refine⟨⟨fun h=>?_,fun h=>⟨l,?_⟩,fun h=>?_,?_⟩,rfl,R,q⟩
   ·grind
   ·grind
   ·grind
   simp
  ·rw[ae G]at o |-
   by_cases X:kz s a=[]
   ·grind
   ·rw[ae X]
    have S:lf (kz s a)=true/\a+(kz s a).length<=s.length:=by
     unfold kz at X |-
     have z:∀k,kA s a k=true->lf (dQ s a (a+k))=true/\a+(dQ s a (a+k)).length<=s.length:=fun k h=>by
      simp_all[kA,aI,decide_eq_true_eq,tH]
     grind
    have M:=List.length_pos_iff.2 (QX S.1);exact⟨⟨fun h=>by simp at h,fun h=>by simp at h,fun _=>S.1,.inr (.inr rfl)⟩,rfl,by grind,S.2⟩
def Cq:∀{l:ab}{n:Nat},u5 l=some n->n+2<=l.length
 |[],n,h=>by cases h
 |b::l,n,h=>by
  rw[u5]at h;split at h
  ·grind
  ·cases J:u5 l with
   |none=>grind
   |some m=>rw[J]at h;cases h;have:=Cq J;grind
def su(s:ab):∀(f a:Nat)(T:List Tok),a<=s.length->s.length<f+a->(∀t∈T,AF t)->(T.Pairwise fun x y=>x.at_<y.at_)->(∀t∈T,t.at_<(a:Int))->T.length<=a ->
  ∃ts c z,qh s f a T=some (ts,c,z)/\(∀t∈ts,AF t)/\(ts.Pairwise fun x y=>x.at_<y.at_)/\ts.length<=s.length
 |0,a,T,o,b,_,_,_,_=>by omega
 |f+1,a,T,o,b,G,C,e,r=>by
  rw[qh]
  cases W:s[a]? with
  |none=>grind
  |some c =>
   simp only;have O:=(bY W).1;split
   ·exact su s f (a+1) T aH aH G C (fun t M=>by grind) aH
   ·split
    ·rename_i i;have N:=nD i;simp only[length_cons,length_nil]at N
     cases j:u5 (s.drop (a+2))with
     |none=>simp
     |some n =>
      have:=Cq j;rw[sa]at this;exact su s f (a+(n+4)) T aH aH G C (fun t M=>by grind) aH
    ·split
     ·simp
     ·rename_i q;have⟨R,Q,S,v⟩:=Ko W aH;refine su s f _ _ v aH (fun t M=>?_) ?_ (fun t M=>?_) zff
      ·grind
      ·grind
      grind
theorem zB(s:ab):∀(f:Nat)(n:Int)(a:Nat),a<=s.length->s.length<f+a->mW (dQ s a (number s f n a).2) n=(number s f n a).1
 |0,n,a,o,b=>by omega
 |f+1,n,a,o,b=>by
  have X:dQ s a a=[]:=ll (by simp[dQ]);rw[number]
  cases W:s[a]? with
  |none=>simp only;rw[X,mW]
  |some c =>
   simp only;have N:=(bY W).1
   by_cases T:eM c=true
   ·rw[ak T];have⟨w,R,q⟩:=sW s f (if n<=2147483647 then n*10+((c.toNat:Int)-48)else n) (a+1) aH aH;rw[qp W aH q,mW];have O:=zB s f (if n<=2147483647 then n*10+((c.toNat:Int)-48)else n) (a+1) aH aH
    by_cases e:n<=2147483647
    ·grind
    ·rw[ae e]at O |-;rw[ae e];rw[<-O]
     cases l:dQ s (a+1) (number s f n (a+1)).2 with
     |nil=>rw[mW]
     |cons d r=>grind[mW]
   grind[mW,dQ,eM,number]
def Bi(s:ab):∀(f:Nat)(n:Int)(a:Nat),(number s f n a).2=Go.Sp.run s eM f a
 |0,n,a=>rfl
 |f+1,n,a=>by
  rw[number,Go.Sp.run]
  cases W:s[a]? with
  |none=>rfl
  |some c =>
   simp only;split
   ·exact Bi s f _ (a+1)
   ·rfl
theorem oS{s x:ab}{a:Nat}:cw s a x=(decide (a+x.length<=s.length)&&(dQ s a (a+x.length)==x)):=rfl
def LU{s:ab}{a:Nat}{c:UInt8}(W:s[a]?=some c)(H:small c=false):kz s a=(match cy.find? (cw s a)with|some x=>x|none=>[]):=by
 have N:=(bY W).1
 have b:∀x∈cy,x.length=1\/x.length=2:=by decide
 have E:cy=cy.take 8++cy.drop 8:=(List.take_append_drop 8 cy).symm
 have u:∀x∈cy.take 8,x.length=2:=by decide
 have m:∀x∈cy.drop 8,x.length=1:=by decide
 have n:∀x∈words,∃d r,x=d::r/\small d=true:=by
  simp[ab,words,small]
 have j:∀k,1<=k->a+k<=s.length->dQ s a (a+k)=c::dQ s (a+1) (a+k):=fun k o b=>qp W aH b
 have R:∀k,1<=k->a+k<=s.length->(lf (dQ s a (a+k))=true↔dQ s a (a+k)∈cy):=fun k o b=>by
  unfold lf
  grind[uR,p6]
 have t:∀k,1<=k->(kA s a k=true↔a+k<=s.length/\dQ s a (a+k)∈cy):=fun k o=>by
  grind[kA]
 have Q:∀k,1<=k->k<=2->a+k<=s.length->dQ s a (a+k)∈cy->(dQ s a (a+k)).length=k:=fun k _ _ h _=>by grind[dQ]
 unfold kz
 by_cases e:kA s a 2=true
 ·rw[ak e];have⟨p,q⟩:=(t 2 aC).1 e
  have J:dQ s a (a+2)∈cy.take 8:=by
   grind
  rw[E,List.find?_append]
  have:(cy.take 8).find? (cw s a)=some (dQ s a (a+2)):=by
   cases l:(cy.take 8).find? (cw s a)with
   |none =>
    grind[find?_eq_none,oS,tH]
   |some x =>
    have o:=List.find?_some l;have G:=u x (List.mem_of_find?_eq_some l)
    grind[oS]
  grind
 ·rw[ae e]
  have v:(cy.take 8).find? (cw s a)=none:=by
   rw[find?_eq_none];intro x hx i;rw[oS,u x hx]at i
   grind
  rw[E,List.find?_append,v]
  by_cases Z:kA s a 1=true
  ·rw[ak Z];have⟨p,q⟩:=(t 1 aC).1 Z
   have J:dQ s a (a+1)∈cy.drop 8:=by
    grind
   have:(cy.drop 8).find? (cw s a)=some (dQ s a (a+1)):=by
    cases l:(cy.drop 8).find? (cw s a)with
    |none =>
     grind[find?_eq_none,oS,tH]
    |some x =>
     have o:=List.find?_some l;have G:=m x (List.mem_of_find?_eq_some l)
     grind[oS]
   grind
  ·rw[ae Z]
   have:(cy.drop 8).find? (cw s a)=none:=by
    rw[find?_eq_none];intro x hx i;rw[oS,m x hx]at i
    grind
   grind
def VT{s:ab}{a X:Nat}{c:UInt8}{t:Tok}(W:s[a]?=some c)(h:gT s a c=(t,X))(O:t.ai=1\/t.ai=2\/t.ai=3)(hn:t.n<=2147483647):nj s a c=(t,X,0):=by
 have N:=(bY W).1;unfold gT at h;unfold nj
 by_cases T:eM c=true
 ·rw[ak T]at h |-;cases h;have w:oi s a=(number s (s.length+1) 0 a).2:=(Bi s _ 0 a).symm
  grind[zB]
 ·rw[ae T]at h |-
  by_cases G:small c=true
  ·rw[ak G]at h |-;cases h
   have C:∃r,jB s a=c::r\/jB s a=[]:=by
    cases m:jB s a with
    |nil=>simp
    |cons d r =>
     have⟨w,S,q⟩:=lU s et (s.length+1) a aH aH
     have j:et c=true:=by simp[et,G]
     have R:a<ij s a:=by
      grind[ij]
     have v:jB s a=c::dQ s (a+1) (ij s a):=qp W R q
     grind
   have Q:lf (jB s a)=words.contains (jB s a):=by
    unfold lf;rw[uR]
    have u:∀x∈cy,(match x with|d::_=>small d|[]=>true)=false:=by decide
    grind
   rw[Q]
  ·rw[ae G]at h |-;rw[LU W zff]
   cases l:cy.find? (cw s a)with
   |none=>grind
   |some x =>
    rw[l]at h;cases h;simp only;have hx:=List.mem_of_find?_eq_some l
    have k:x≠[]:=by
     intro o;subst o;revert hx;decide
    grind
def UX{s:ab}{a b:Nat}{ts:List Tok}(h:Tz s a ts b):b=s.length->∀(f:Nat)(T:List Tok),s.length<f+a->qh s f a T=some (T++ts,0,0):=by
 induction h with
 |nil a =>
  intro i f T l
  cases f with
  |zero=>omega
  |succ f =>
   grind[qh]
 |blank W N h Q =>
  intro i f T l
  cases f with
  |zero=>grind
  |succ f =>
   grind[qh]
 |tok W N w M O c v h Q =>
  intro i f T l
  cases f with
  |zero=>grind
  |succ f =>
   rw[qh,W];simp only;rw[ae zff,ae zff,VT W M O c]
   grind
abbrev se(ts:List Tok):Prop:=∀t∈ts,AF t
def EF(t:T):Prop:=∃a:E,a.ok=true/\er t=a.tree
def Ik(l:List T):Prop:=∃e:List E,E.cJ e=true/\bl l=E.aE e
def Sf(ts r:List Tok)(n:Nat):Prop:=∃M,ts=M++r/\n<=M.length
theorem Sf.nil(ts:List Tok):Sf ts ts 0:=⟨[],rfl,bp _⟩
theorem Sf.one(t:Tok)(ts:List Tok):Sf (t::ts) ts 1:=⟨[t],rfl,aY _⟩
def Sf.trans{a b c:List Tok}{n m:Nat}(h:Sf a b n)(k:Sf b c m):Sf a c (n+m):=by
 grind[Sf]
theorem Sf.le{a b:List Tok}{n m:Nat}(h:Sf a b n)(k:m<=n):Sf a b m:=by
 grind[Sf]
theorem Sf.ok{a b:List Tok}{n:Nat}(h:Sf a b n)(k:se a):se b:=by
 obtain⟨p,rfl,h⟩:=h
 grind
theorem Sf.ba{e:Int}{s:ab}{ts r:List Tok}(G:s≠[])(h:ba e s ts=.ok r):Sf ts r 1:=by
 grind[w4,one]
theorem Sf.aJ{s:ab}{ts:List Tok}(G:s≠[])(h:aJ ts 0=s):Sf ts ts.tail 1:=by
 have⟨u,o,_⟩:=ue G h
 grind[one]
theorem RT{s:ab}(h:lf s=false):words.contains s=false:=by
 grind[lf,uR,p6,cy,List.mem_append_left]
theorem ZT{t:Tok}(h:AF t)(N:t.ai=2)(M:t.s.length<=12):bm t.s=true:=by
 have⟨o,b⟩:=h.name N;unfold bm
 grind[RT]
theorem Sf.name{e:Int}{s:ab}{ts r:List Tok}(h:name e ts=.ok (s,r))(A:se ts):Sf ts r 1/\bm s=true:=by
 grind[F8,one,ZT,mem_cons_self]
def Ub{s:ab}{k:Nat}(h:s∈levels.getD k []):eD s=true:=by
 unfold eD;rw[mh];rw[List.getD_eq_getElem?_getD]at h
 cases N:levels[k]? with
 |none=>grind
 |some l =>
  rw[N]at h;exact⟨l,bP N,by grind⟩
theorem kB(k a:Int)(s:ab)(l:List T):aU (one k a s l)=aM l+1:=by rfl
def Ik.snoc{l:List T}{t:T}(h:Ik l)(k:EF t):Ik (l++[t]):=by
 have⟨e,o,c⟩:=h;have⟨a,G,C⟩:=k
 have R:∀e:List E,E.cJ e=true->E.cJ (e++[a])=true/\E.aE (e++[a])=E.aE e++[a.tree]:=by
  intro e
  induction e with
  |nil=>intro _;simp[E.cJ,E.aE,G]
  |cons b e O =>
   grind[E.cJ,E.aE,E.tree]
 grind[IW,bl,Ik]
def xR:uq->Nat
 |.loop _ _ out=>aU out
 |_=>0
def jok:uq->Prop
 |.loop _ _ out=>EF out
 |_=>True
def Vl(e:Int):∀f,(∀j ts t r,se ts->jok j->rd e f j ts=.ok (t,r)->EF t/\∃n,Sf ts r n/\aU t<=n+xR j) /\
  (∀d o ts l r,se ts->Ik o->rd.args e f d o ts=.ok (l,r)->Ik l/\∃n,Sf ts r n/\aM l+1<=n+aM o):=by
 intro f
 induction f with
 |zero=>exact⟨fun j ts t r _ _ h=>by simp[rd]at h,fun d o ts l r _ _ h=>by simp[rd.args]at h⟩
 |succ f u =>
  have⟨u,M⟩:=u;refine⟨fun j ts t r i G h=>?_,fun d o ts l r i G h=>?_⟩
  ·cases j with
   |expr d =>
    rw[rd]at h;split at h
    ·cases h
    ·exact u (.level 0 (d+1)) ts t r i trivial h
   |level k d =>
    rw[rd]at h;split at h
    ·exact u (.operand d) ts t r i trivial h
    ·split at h
     ·cases h
     ·rename_i out N hx;have⟨q,n,c,F⟩:=u (.level (k+1) d) ts out N i trivial hx;have⟨v,m,C,w⟩:=u (.loop k d out) N t r (c.ok i) q h;exact⟨v,n+m,c.trans C,by grind[aU,xR]⟩
   |loop k d out =>
    cases ts with
    |nil=>rw[rd]at h;cases h;exact⟨G,0,.nil _,by simp[aU,xR]⟩
    |cons z r0 =>
     rw[rd]at h;split at h
     ·rename_i W;split at h
      ·cases h
      ·rename_i b H hx;obtain⟨⟨b',A,q⟩,n,c,F⟩:=u (.level (k+1) d) r0 b H (fun t Z=>i t (ec _ Z)) trivial hx;have⟨o',R,h5⟩:=G;have h6:=(Sf.one z r0).trans c;obtain⟨v,m,C,w⟩:=u (.loop k d (one 6 z.at_ z.s [out,b])) H t r (h6.ok i) ⟨.bin z.s o' b',by simp only[E.ok,Ub W.2,R,A];rfl,by rw[fa,bl,bl,bl,h5,q,E.tree]⟩ h;refine⟨v,_,h6.trans C,?_⟩
       grind[kB,aM,aU,xR]
     ·cases h;exact⟨G,0,.nil _,by simp[aU,xR]⟩
   |operand d =>
    cases ts with
    |nil =>
     grind[rd]
    |cons z r0 =>
     rw[rd]at h;split at h
     ·cases h
     ·have J:se r0:=fun t Z=>i t (ec _ Z)
      have B:=Sf.one z r0;split at h
      ·split at h
       ·rename_i hu;split at h
        ·cases h
        ·rename_i a H hx;cases h;have⟨⟨S,A,q⟩,n,c,F⟩:=u (.operand (d+1)) r0 a r J trivial hx;refine⟨⟨.un z.s S,?_,by rw[fa,bl,bl,q,E.tree]⟩,_,B.trans c,?_⟩
         ·grind[E.ok]
         ·simp only[xR,kB,aM]at *;omega
       ·split at h
        ·split at h
         ·cases h
         ·rename_i a H hx;split at h
          ·cases h
          ·rename_i r2 X;cases h;have⟨q,n,c,F⟩:=u (.expr (d+1)) r0 t H J trivial hx;exact⟨q,_,(B.trans c).trans (Sf.ba aC X),by grind[aU,xR]⟩
        ·cases h
      ·split at h
       ·rename_i hk;cases h;have⟨v,C,w⟩:=(i z mem_cons_self).num hk;exact⟨⟨.num z.n,by grind[E.ok],by rfl⟩,1,B,by simp only[xR,aU,aM];omega⟩
       ·split at h
        ·cases h
        ·rename_i s H Y;have⟨v,C⟩:=Sf.name Y i;split at h
         ·rename_i T;have w:=v.trans (Sf.aJ aC T);split at h
          ·cases h
          ·rename_i a r2 hx;split at h
           ·cases h
           ·rename_i r3 X;cases h;have⟨⟨S,A,q⟩,n,c,F⟩:=u (.expr (d+1)) _ a r2 (w.ok i) trivial hx;refine⟨⟨.at_ s S,by grind[E.ok],by rw[fa,bl,bl,q,E.tree]⟩,_,(w.trans c).trans (Sf.ba aC X),?_⟩;simp only[xR,kB,aM]at *;omega
         ·split at h
          ·rename_i T;have w:=v.trans (Sf.aJ aC T);split at h
           ·cases h
           ·rename_i l r2 hx;cases h;have⟨⟨es,A,q⟩,n,c,F⟩:=M _ _ _ l r (w.ok i) ⟨[],rfl,rfl⟩ hx;refine⟨⟨.call s es,by grind[E.ok],by rw[fa,q,E.tree]⟩,_,w.trans c,?_⟩
            grind[kB,aM]
          ·cases h;exact⟨⟨.name s,by grind[E.ok],by rfl⟩,1,v,by grind[kB,aM]⟩
  ·rw[rd.args]at h;split at h
   ·rename_i W;cases h;exact⟨G,1,Sf.aJ aC W,by omega⟩
   ·split at h
    ·cases h
    ·rename_i O hx
     have A:Sf ts O 0:=by
      split at hx
      ·cases hx;exact .nil _
      ·exact(Sf.ba aC hx).le (bp _)
     split at h
     ·cases h
     ·rename_i a Q hy;have⟨q,n,c,F⟩:=u (.expr d) O a Q (A.ok i) trivial hy;have R:=A.trans c;have⟨v,m,C,w⟩:=M _ (o++[a]) Q l r (R.ok i) (G.snoc q) h;refine⟨v,_,R.trans C,?_⟩
      grind[xR,pj,aM]
section
variable{e:Int}{d:Nat}
theorem xE{ts r:List Tok}{t:T}(A:se ts)(h:expr e d ts=.ok (t,r)):EF t/\Sf ts r (aU t):=by
 have⟨o,n,b,G⟩:=(Vl e _).1 (.expr d) ts t r A trivial h
 grind[xR,EF,Sf,aU]
def wJ{a b:ab}{ts r:List Tok}{t:T}(ha:a≠[])(i:b≠[])(A:se ts)(h:inner e d a b ts=.ok (t,r)):EF t/\Sf ts r (aU t+2):=by
 unfold inner at h;split at h
 ·cases h
 ·rename_i H o;have R:=Sf.ba ha o;split at h
  ·cases h
  ·rename_i k s c;have⟨O,S⟩:=xE (R.ok A) c;split at h
   ·cases h
   ·rename_i W G;cases h;exact⟨O,((R.trans S).trans (Sf.ba i G)).le aH⟩
theorem BA{ts r:List Tok}{s:ab}{t:T}(A:se ts)(h:mb e d ts=.ok ((s,t),r)):bm s=true/\EF t/\Sf ts r (aU t+3):=by
 unfold mb at h;split at h
 ·cases h
 ·rename_i q H o;have⟨R,O⟩:=Sf.name o A;split at h
  ·cases h
  ·rename_i k u b;cases h;have⟨S,v⟩:=wJ aC aC (R.ok A) b
   grind[bm,EF,Sf,aU]
end
def SF(t:T):Prop:=∃a:S,a.ok=true/\er t=a.tree
def Iq(l:List T):Prop:=∃e:List S,S.cJ e=true/\bl l=S.aE e
def BF(t:T):Prop:=∃l:List S,S.cJ l=true/\er t=cj l
def Iq.snoc{l:List T}{t:T}(h:Iq l)(k:SF t):Iq (l++[t]):=by
 have⟨e,o,c⟩:=h;have⟨a,G,C⟩:=k
 have R:∀e:List S,S.cJ e=true->S.cJ (e++[a])=true/\S.aE (e++[a])=S.aE e++[a.tree]:=by
  intro e
  induction e with
  |nil=>intro _;simp[S.cJ,S.aE,G]
  |cons b e O =>
   grind[S.cJ,S.aE,S.tree]
 grind[IW,bl,Iq]
def RC{t:T}(h:EF t)(N:t.n.ai=3):∃(s:ab)(a:T),t.aw=[a]/\t.n.s=s/\bm s=true/\EF a:=by
 have⟨a,o,c⟩:=h;have G:=congrArg (fun x=>x.n.ai) c;simp only[xC,N]at G
 cases a with
 |at_ s b =>
  simp only[E.ok,aI]at o
  have C:t.n.s=s:=by have:=congrArg (fun x=>x.n.s) c;simp only[xC]at this;exact this
  have e:bl t.aw=[b.tree]:=by rw[<-Uu,c];rfl
  match M:t.aw,e with
  |[x],e =>
   rw[bl,bl]at e
   injection e with h6
   exact⟨s,x,rfl,C,o.1,b,o.2,h6⟩
  |[],e=>grind[bl]
  |x::y::r,e=>grind[bl]
 |num n=>exact zeI
 |name n=>exact zeI
 |call s l=>exact zeI
 |un s a=>exact zeI
 |bin s a b=>exact zeI
theorem Ib{e:Int}{d:Nat}{ts r:List Tok}{t:T}(A:se ts)(h:simple e d ts=.ok (t,r)):SF t/\Sf ts r (aU t):=by
 unfold simple at h;split at h
 ·grind
 ·rename_i q r0;split at h
  ·split at h
   ·cases h
   ·rename_i s a H o;cases h;have⟨R,⟨W,O,X⟩,w⟩:=BA A o;exact⟨⟨.set s W,by grind[S.ok],by rw[fa,bl,bl,X,S.tree]⟩,w.le zfq⟩
  ·split at h
   ·cases h
   ·rename_i a H o;have⟨R,O⟩:=xE A o;split at h
    ·rename_i Y;split at h
     ·cases h
     ·rename_i v u b;cases h;have⟨⟨C,X,w⟩,i⟩:=wJ aC aC (O.ok A) b;have⟨s,x,N,B,l,n,j,z⟩:=RC R Y.1;have m:=eI a;rw[N]at m;simp only[aM]at m;rw[N];refine⟨⟨.put s n C,by grind[S.ok],?_⟩,(O.trans i).le ?_⟩
      ·rw[fa,B];grind[bl,S.tree]
      grind[kB,aM]
    ·split at h
     ·cases h
     ·rename_i u b;cases h;have⟨W,X,w⟩:=R;exact⟨⟨.do_ W,by grind[S.ok],by rw[fa,bl,bl,w,S.tree]⟩,(O.trans (Sf.ba aC b)).le zfq⟩
def Vr(e:Int):∀f,(∀d ts t r,se ts->rs e f (.block d) ts=.ok (t,r)->BF t/\Sf ts r (aU t))/\(∀d ts t r,se ts->rs e f (.stmt d) ts=.ok (t,r)->SF t/\Sf ts r (aU t)) /\
  (∀d i ts l r,se ts->Iq i->rs.body e f d i ts=.ok (l,r)->Iq l/\∃n,Sf ts r n/\aM l+1<=n+aM i):=by
 intro f
 induction f with
 |zero=>exact⟨fun d ts t r _ h=>by simp[rs]at h,fun d ts t r _ h=>by simp[rs]at h,fun d i ts l r _ _ h=>by simp[rs.body]at h⟩
 |succ f ih =>
  have⟨C,J,E⟩:=ih;refine⟨fun d ts t r j h=>?_,fun d ts t r j h=>?_,fun d i ts l r j Q h=>?_⟩
  ·rw[rs]at h;split at h
   ·cases h
   ·split at h
    ·cases h
    ·rename_i X o;have A:=Sf.ba aC o;split at h
     ·cases h
     ·rename_i l Y B;cases h;have⟨⟨es,k,u⟩,n,z,R⟩:=E _ [] X l r (A.ok j) ⟨[],rfl,rfl⟩ B;exact⟨⟨es,k,by rw[fa,u,cj]⟩,(A.trans z).le zfq⟩
  ·rw[rs]at h;split at h
   ·cases h
   ·simp only at h;split at h
    ·rename_i q;have w:=Sf.aJ aC q;split at h
     ·cases h
     ·rename_i s a v o;cases h;have⟨A,⟨F,k,u⟩,z⟩:=BA (w.ok j) o;exact⟨⟨.var s F,by grind[S.ok],by rw[fa,bl,bl,u,S.tree]⟩,(w.trans z).le zfq⟩
    ·split at h
     ·rename_i q
      have w:Sf ts ts.tail 1:=by
       rcases q with q|q
       ·exact Sf.aJ aC q
       ·exact Sf.aJ aC q
      split at h
      ·cases h
      ·rename_i c X o;have⟨⟨G,A,k⟩,u⟩:=wJ aC aC (w.ok j) o;have z:=w.trans u;split at h
       ·cases h
       ·rename_i b Y B;have⟨⟨N,R,T⟩,k7⟩:=C _ _ b Y (z.ok j) B;have M:=z.trans k7;split at h
        ·split at h
         ·rename_i H;have W:=M.trans (Sf.aJ aC H);split at h
          ·cases h
          ·rename_i Z r3 h3;cases h;have⟨⟨O,j5,j6⟩,j7⟩:=C _ _ Z r (W.ok j) h3;refine⟨⟨.if2 G N O,by grind[S.ok],?_⟩,(W.trans j7).le zfq⟩
           grind[fa,bl,cj,er,one,place,S.tree]
         ·cases h;refine⟨⟨.if1 G N,by grind[S.ok],?_⟩,M.le zfq⟩;rw[fa,bl,bl,bl,k,T,S.tree,cj]
        ·cases h;refine⟨⟨.while_ G N,by grind[S.ok],?_⟩,M.le zfq⟩;rw[fa,bl,bl,bl,k,T,S.tree,cj]
     ·split at h
      ·rename_i q;have w:=Sf.aJ aC q;split at h
       ·cases h
       ·rename_i a v o;have⟨⟨F,A,k⟩,u⟩:=xE (w.ok j) o;split at h
        ·cases h
        ·rename_i ts2 B;cases h;exact⟨⟨.ret F,by grind[S.ok],by rw[fa,bl,bl,k,S.tree]⟩,((w.trans u).trans (Sf.ba aC B)).le zfq⟩
      grind[Ib]
  ·rw[rs.body]at h;split at h
   ·rename_i hc;cases h;exact⟨Q,1,Sf.aJ aC hc,by omega⟩
   ·split at h
    ·cases h
    ·rename_i a v o;have⟨A,k⟩:=J _ ts a v j o;have⟨u,m,z,R⟩:=E _ (i++[a]) v l r (k.ok j) (Q.snoc A) h;refine⟨u,_,k.trans z,?_⟩
     grind[pj,aM,aU]
def KT{e:Int}{d:Nat}{ts r:List Tok}{t:T}(A:se ts)(h:block e d ts=.ok (t,r)):BF t/\Sf ts r (aU t):=(Vr e _).1 _ ts t r A h
end Go.Im
namespace Go.Sp
open Go.Xp
def ft(x:ab)(l:List K):Prop:=∀M c:ab,∃s,s.map kf=l/\Tz (M++(x++c)) M.length s (M.length+x.length)
def jn(x:ab)(l:List K):Prop:=∀M c:ab,Sep c->∃s,s.map kf=l/\Tz (M++(x++c)) M.length s (M.length+x.length)
def ft.s{x:ab}{l:List K}(h:ft x l):jn x l:=fun M c _=>h M c
def ft.app{x y:ab}{l m:List K}(h:ft x l)(k:ft y m):ft (x++y) (l++m):=by
 intro M c;have⟨s,o,b⟩:=h M (y++c);have⟨t,G,C⟩:=k (M++x) c;exact zbM
def ft.apps{x y:ab}{l m:List K}(h:ft x l)(k:jn y m):jn (x++y) (l++m):=by
 intro M c W;have⟨s,o,b⟩:=h M (y++c);have⟨t,G,C⟩:=k (M++x) c W;exact zbM
def jn.ES{x y:ab}{l m:List K}(h:jn x l)(k:ft y m)(G:∀c,Sep (y++c)):ft (x++y) (l++m):=by
 intro M c;have⟨s,o,b⟩:=h M (y++c) (G c);have⟨t,H,C⟩:=k (M++x) c;exact zbM
theorem ft.nil:ft [] []:=fun M c=>⟨[],rfl,.nil _⟩
def yc{c:UInt8}{x:ab}(h:c∈CJ):∀e,Sep (c::x++e):=fun e d T=>by grind
def tJ{M x:ab}:(M++x).drop M.length=x:=drop_left
theorem Tz.one{s:ab}{a W:Nat}{c:UInt8}{t:Tok}(X:s[a]?=some c)(i:fA c=false)(v:cw s a [47,42]=false)(M:gT s a c=(t,W))(N:t.ai=1\/t.ai=2\/t.ai=3)(hn:t.n<=2147483647)(ha:a<W):Tz s a [t] W :=
 .tok X i v M N hn ha (.nil _)
def xT{c:UInt8}(h:fA c=true):ft [c] []:=by
 intro M d;have T:(M++([c]++d)).drop M.length=c::d:=tJ;have⟨o,_,_⟩:=nU T;exact⟨[],rfl,.blank o h (.nil _)⟩
def nH{c:UInt8}(j:c∈[40,41,91,93,44,59,123,125]):ft [c] [kS [c]]:=by
 intro M d;have T:(M++([c]++d)).drop M.length=c::d:=tJ;have⟨o,_,C⟩:=nU T;have⟨b,G,e⟩:=QN (Nat.le_of_lt C) T j;exact⟨[_],rfl,Tz.one o G e b zfg zfg zfg⟩
def Ac{w:ab}(j:w∈cy):jn w [kS w]:=by
 intro M d W;have T:(M++(w++d)).drop M.length=w++d:=tJ
 have k:w≠[]:=by rintro rfl;revert j;decide
 have⟨c,r,l⟩:=List.exists_cons_of_ne_nil k;have O:=T;rw[l,cons_append]at O;have⟨o,_,C⟩:=nU O;rw[<-cons_append,<-l]at o C;have⟨b,G,e⟩:=RW (Nat.le_of_lt C) T l j W
 have:0<w.length:=by grind
 exact⟨[_],rfl,Tz.one o G e b zfg zfg aH⟩
def Ic{c:UInt8}(h:small c=true):fA c=false/\c≠47:=by
 simp only[small,aI]at h;have q:=q9 h.1;refine⟨?_,fun o=>?_⟩
 ·grind[fA]
 simp_all
def OS{s r:ab}{a:Nat}{c:UInt8}(h:s.drop a=c::r)(W:c≠47):cw s a [47,42]=false:=by
 have⟨_,_,C⟩:=nU h
 grind[cw]
theorem FZ{w:ab}(l:word w=true):jn w [if words.contains w then kS w else kN w]:=by
 intro M d W;have T:(M++(w++d)).drop M.length=w++d:=tJ;simp only[word,aI,ea]at l
 match w,l,T with
 |[],l,_=>simp at l
 |c::r,l,T =>
  have⟨n,G⟩:=l;have O:=T;rw[cons_append]at O;have⟨o,_,C⟩:=nU O;have⟨H,e⟩:=Ic G;have N:=Sm (Nat.le_of_lt C) T rfl G n W.et;refine⟨[_],?_,Tz.one o H (OS O e) N ?_ zfg zfg⟩
  ·simp only[List.map_cons,List.map_nil,kf,kS,kN]
   grind
  grind
def lE{w:ab}(l:bm w=true):jn w [kN w]:=by
 simp only[bm,aI,Bool.not_eq_true']at l
 grind[FZ]
def Oz{w:ab}(l:w∈words):jn w [kS w]:=by
 have o:∀w∈words,word w=true:=by decide
 grind[FZ]
theorem JA{n:Nat}(hn:n<=2147483647):jn (hY n) [kI n]:=by
 intro M d X;have T:(M++(hY n++d)).drop M.length=hY n++d:=tJ;have⟨o,b,G⟩:=IJ n;have⟨c,r,l⟩:=List.exists_cons_of_ne_nil G;have O:=T;rw[l,cons_append]at O;have⟨C,_,e⟩:=nU O;rw[<-cons_append,<-l]at C e;have W:eM c=true:=o c zff
 have s:fA c=false/\c≠47:=by
  simp only[eM,aI]at W;have o:=q9 W.1;refine⟨?_,fun q=>?_⟩
  ·simp only[fA,Bool.or_eq_false_iff,beq_eq_false_iff_ne];omega
  simp_all
 have N:=U8 (Nat.le_of_lt e) T l hn X.eM
 have:0<(hY n).length:=by grind
 refine⟨[_],rfl,Tz.one C s.1 ?_ N zfg zff aH⟩
 grind[cw]
def XS{s:ab}(h:eD s=true):s∈cy:=by
 have j:s∈levels.flatten:=by
  grind[eD,mh,List.mem_flatten]
 have R:∀s∈levels.flatten,s∈cy:=by decide
 grind
def LX:ft [32] []:=xT aC
def jn.then{x:ab}{l:List K}(h:jn x l){c:UInt8}(j:c∈[40,41,91,93,44,59,123,125]):ft (x++[c]) (l++[kS [c]]) :=
 h.ES (nH j) (yc (by revert j;unfold CJ;simp only[List.mem_cons,List.not_mem_nil,or_false];grind))
def jn.sp{x:ab}{l:List K}(h:jn x l):ft (x++[32]) l:=by
 have:=h.ES LX (yc aC)
 grind
theorem jn.eq{x:ab}{l T:List K}(h:jn x l)(e:l=T):jn x T:=e ▸ h
theorem ft.eq{x:ab}{l T:List K}(h:ft x l)(e:l=T):ft x T:=e ▸ h
def Cu{lv k:Nat}{x:ab}{l:List K}(h:jn x l):jn (re lv k x) (brk lv k l):=by
 unfold re brk;split
 ·have:=((nH (c:=40) aC).apps h).then (c:=41) aC;exact this.s.eq zfg
 ·exact h
mutual
def qg:∀a:E,a.ok=true->jn a.bS a.tk
 |.num n,h=>by
  simp only[E.ok,aI]at h;have o:=q9 h.1;have d:=q9 h.2
  grind[JA,Int.toNat_of_nonneg,jn,E.bS,E.tk]
 |.name s,h=>by rw[E.bS,E.tk];exact lE h
 |.at_ s a,h=>by
  simp only[E.ok,aI]at h;rw[E.bS,E.tk];exact((((lE h.1).then (c:=91) aC).apps (qg a h.2)).then (c:=93) aC).s.eq zfg
 |.call s l,h=>by
  simp only[E.ok,aI]at h;rw[E.bS,E.tk];exact((((lE h.1).then (c:=40) aC).apps (ZK l h.2)).then (c:=41) aC).s.eq zfg
 |.un s a,h=>by
  simp only[E.ok,aI,Bool.or_eq_true,beq_iff_eq]at h;rw[E.bS,E.tk]
  have G:s∈cy:=by rcases h.1 with(h|h)|h<;>(rw[h];decide)
  exact((Ac G).sp.apps (Cu (qg a h.2))).eq zfg
 |.bin s a b,h=>by
  simp only[E.ok,aI]at h;rw[E.bS,E.tk];exact((((Cu (qg a h.1.2)).sp.apps (Ac (XS h.1.1))).sp).apps (Cu (qg b h.2))).eq zfg
def ZK:∀l:List E,E.cJ l=true->jn (cE (E.eh l)) (E.nT l)
 |[],_=>ft.nil.s
 |a::l,h=>by
  simp only[E.cJ,aI]at h;rw[E.eh,E.nT,cE];exact Tt l h.2 _ _ (qg a h.1)
def Tt:∀l:List E,E.cJ l=true->∀x m,jn x m->jn (x++(E.eh l).flatMap fun y=>44::32::y) (m++E.qX l)
 |[],_,x,m,hx=>by rw[E.eh,E.qX];grind
 |a::l,h,x,m,hx=>by
  simp only[E.cJ,aI]at h;have o:=((hx.then (c:=44) aC).app LX).apps (qg a h.1);have b:=Tt l h.2 _ _ o;rw[E.eh,E.qX,flatMap_cons]
  grind
end
def jn.set{x:ab}{l:List K}(h:jn x l):ft (x++[32,61,32]) (l++[kS [61]]):=by
 have:=(h.sp.apps (Ac (w:=[61]) aC)).sp
 grind
def uE{w:ab}(l:w∈words):ft (w++[32]) [kS w]:=(Oz l).sp
mutual
def ZL:∀s:S,s.ok=true->ft (s.bS E.bS) s.tk
 |.set s a,h=>by
  simp only[S.ok,aI]at h;rw[S.bS,S.tk];exact(((lE h.1).set.apps (qg a h.2)).then (c:=59) aC).eq zfg
 |.put s a b,h=>by
  simp only[S.ok,aI]at h;rw[S.bS,S.tk];have o:=((((lE h.1).then (c:=91) aC).apps (qg a h.2.1)).then (c:=93) aC).s.set;have d:=(o.apps (qg b h.2.2)).then (c:=59) aC
  grind
 |.if1 c b,h=>by
  simp only[S.ok,aI]at h;rw[S.bS,S.tk];have o:=((((uE (w:=[105,102]) aC).app (nH (c:=40) aC)).apps (qg c h.1)).then (c:=41) aC).s.sp;have d:=o.app (lexB b h.2)
  have e:[105,102,32,40]++c.bS++[41,32]++(S.eh E.bS [123,32] b++[125])=[105,102]++[32]++[40]++c.bS++[41]++[32]++(S.eh E.bS [123,32] b++[125]):=by simp
  rw[e];exact d.eq (by simp[gy])
 |.if2 c b m,h=>by
  simp only[S.ok,aI]at h;rw[S.bS,S.tk];have o:=((((uE (w:=[105,102]) aC).app (nH (c:=40) aC)).apps (qg c h.1)).then (c:=41) aC).s.sp;have d:=o.app (lexB b h.2.1);have G:=((d.s.sp.apps (Oz (w:=[101,108,115,101]) aC)).sp).app (lexB m h.2.2)
  have e:[105,102,32,40]++c.bS++[41,32]++(S.eh E.bS [123,32] b++[125])++[32,101,108,115,101,32]++(S.eh E.bS [123,32] m++[125])=[105,102]++[32]++[40]++c.bS++[41]++[32]++(S.eh E.bS [123,32] b++[125])++[32]++[101,108,115,101]++[32]++(S.eh E.bS [123,32] m++[125]):=by simp
  rw[e];exact G.eq (by simp[gy,iH])
 |.while_ c b,h=>by
  simp only[S.ok,aI]at h;rw[S.bS,S.tk];have o:=((((uE (w:=[119,104,105,108,101]) aC).app (nH (c:=40) aC)).apps (qg c h.1)).then (c:=41) aC).s.sp;have d:=o.app (lexB b h.2)
  have e:[119,104,105,108,101,32,40]++c.bS++[41,32]++(S.eh E.bS [123,32] b++[125])=[119,104,105,108,101]++[32]++[40]++c.bS++[41]++[32]++(S.eh E.bS [123,32] b++[125]):=by simp
  rw[e];exact d.eq (by simp[gP])
 |.ret a,h=>by
  simp only[S.ok]at h;rw[S.bS,S.tk];have o:=((uE (w:=[114,101,116,117,114,110]) aC).apps (qg a h)).then (c:=59) aC;exact o.eq zfw
 |.do_ a,h=>by
  simp only[S.ok]at h;rw[S.bS,S.tk];exact(qg a h).then (c:=59) aC
 |.var s a,h=>by
  simp only[S.ok,aI]at h;rw[S.bS,S.tk];have o:=((((uE (w:=[118,97,114]) aC).apps (lE h.1)).set).apps (qg a h.2)).then (c:=59) aC;exact o.eq zfw
def lexB:∀l:List S,S.cJ l=true->ft (S.eh E.bS [123,32] l++[125]) (kS [123]::(S.nT l++[kS [125]]))
 |l,h=>by
  have o:ft [123,32] [kS [123]]:=by
   have:=(nH (c:=123) aC).s.sp
   grind
  exact((Tu l h _ _ o).s.then (c:=125) aC).eq zfg
def Tu:∀l:List S,S.cJ l=true->∀T m,ft T m->ft (S.eh E.bS T l) (m++S.nT l)
 |[],_,T,m,h=>by rw[S.eh,S.nT,eT];exact h
 |a::l,A,T,m,h=>by
  simp only[S.cJ,aI]at A;rw[S.eh,S.nT];have o:=(h.app (ZL a A.1)).s.sp;exact(Tu l A.2 _ _ o).eq zfg
end
def ft.all{x:ab}{l:List K}(h:ft x l):∃ts,ts.map kf=l/\Tz x 0 ts x.length:=by
 have⟨ts,o,b⟩:=h [] []
 grind
def Jy{l:List S}(h:S.cJ l=true):ft (fY E.bS l) (KS l):=lexB l h
end Go.Sp
namespace Go.Im
open Go.Xp Go.Sp
def Nr(s:ab):List K:=[kS ji,kN s,kS [59]]
def Ir(a:Ar):List K:=[kS ji,kN a.name,kS [91],kI a.size,kS [93],kS [59]]
def u6:List ab->List K
 |[]=>[]
 |s::r=>kS [44]::kN s::u6 r
def Gj:List ab->List K
 |[]=>[]
 |s::r=>kN s::u6 r
def I1(x:Fn × List S):List K:=kS jv::kN x.1.name::kS [40]::(Gj x.1.params++kS [41]::KS x.2)
def lC(x:Fn × List S):ab:=((((([102,117,110,99,32]++x.1.name)++[40])++cE x.1.params)++[41,32])++fY E.bS x.2)++[10]
def Jz:ft [59,10] [kS [59]]:=(nH (c:=59) aC).app (xT (c:=10) aC)
def ZO{s:ab}(h:bm s=true):ft (g1 s) (Nr s) :=
 ((uE (w:=ji) aC).apps (lE h)).ES Jz (yc (c:=59) (x:=[10]) aC)
def ZM{a:Ar}(h:kc a=true):ft (a1 a) (Ir a):=by
 unfold kc at h;simp only[aI,Bool.not_eq_true',decide_eq_false_iff_not]at h;have⟨⟨o,b⟩,G⟩:=h
 have m:n5 a.size=hY a.size.toNat:=by grind[n5]
 have N:kI a.size=kI ((a.size.toNat:Nat):Int):=by grind
 have z:=((uE (w:=ji) aC).apps (lE o)).then (c:=91) aC;have T:=z.apps (JA (n:=a.size.toNat) aH);have Z:=T.ES ((nH (c:=93) aC).app Jz) (yc (c:=93) (x:=[59,10]) aC);unfold a1 Ir;rw[m,N];exact Z
def OB:∀(e:List ab),dq e=true->∀x m,jn x m->jn (x++e.flatMap fun y=>44::32::y) (m++u6 e)
 |[],_,x,m,h=>by grind[u6]
 |s::r,W,x,m,h=>by
  unfold dq at W;rw[all_cons,aI]at W;have o:=(h.then (c:=44) aC).app LX;have b:=o.apps (lE W.1);have G:=OB r W.2 _ _ b
  grind[u6]
def ZP{e:List ab}(h:dq e=true):jn (cE e) (Gj e):=by
 match e,h with
 |[],_=>exact ft.nil.s
 |s::r,h =>
  unfold dq at h;rw[all_cons,aI]at h;exact OB r h.2 s [kN s] (lE h.1)
def ZN{x:Fn × List S}(o:bm x.1.name=true)(b:dq x.1.params=true)(G:S.cJ x.2=true):ft (lC x) (I1 x):=by
 have z:=((uE (w:=jv) aC).apps (lE o)).then (c:=40) aC;have T:=(z.apps (ZP b)).ES ((nH (c:=41) aC).app LX) (yc (c:=41) (x:=[32]) aC);have Z:=(T.app (Jy G)).app (xT (c:=10) aC);refine ft.eq Z ?_;simp[I1]
def yP{R:Type}{f:R->ab}{k:R->List K}:∀(l:List R),(∀x∈l,ft (f x) (k x))->∀T m,ft T m->ft (dU f T l) (m++l.flatMap k)
 |[],_,T,m,h=>by grind[dU]
 |x::l,M,T,m,h=>by
  rw[dU,flatMap_cons,<-dP];exact yP l (fun y B=>M y (ec _ B)) _ _ (h.app (M x mem_cons_self))
def ME{inl:List ab->Nat->ab}:∀(av:List Fn)(l:List T)(ls:List (List S))(W:ab),ls.length=l.length->(∀(i:Nat)t b,l[i]?=some t->ls[i]?=some b->ko eg inl 0 t=fY E.bS b) ->
  dU (cL eg inl) W (av.zip l)=dU lC W (av.zip ls)
 |[],l,ls,W,_,_=>by rfl
 |f::r,[],[],W,_,_=>by rfl
 |f::r,t::l,b::ls,W,M,h=>by
  have o:=h 0 t b rfl rfl;rw[zip_cons_cons,zip_cons_cons,dU,dU,ME r l ls _ zff fun i k A v c=>h (i+1) k A zff zff];simp only[cL,lC,o]
 |f::r,[],b::ls,W,M,_=>by simp at M
 |f::r,t::l,[],W,M,_=>by simp at M
section
variable{p q:RS}{ts r rest:List Tok}{u:Tok}{s:ab}
theorem qY(h:On p (u::r)):tok p 0=u:=by rw[On.tok h];rfl
theorem z8(h:On p (u::r))(N:kf u=kS s):is p 0 s=true:=by
 grind[fj,qY,is]
theorem Lj(h:On p (u::r)){k:K}(N:kf u=k)(hn:k.1=3->k.2.2≠s):is p 0 s=false:=by
 grind[qY,kf,is]
def uj(h:On p (u::r))(N:kf u=kS s):want p s=p.next:=by unfold want;rw[ak h.code,ak (z8 h N)]
def xW(h:On p (u::r))(N:kf u=kN s)(M:bm s=true):cv p=p.next:=by
 have⟨o,b⟩:=qL N;have:=fp M;unfold cv;rw[ak h.code,qY h,ak o,ae zff]
def nx(h:On p (u::r)):On p.next r:=h.next.1
def uv(h:On p (u::r)):p.next.l=p.l/\p.next.e=p.e:=⟨h.next.2.1,h.next.2.2⟩
theorem abk(h:On p (u::r)):p.i<p.l.length:=by
 have:=congrArg List.length h.rest
 grind
theorem XV(h:On p []):¬p.i<p.l.length:=by
 have:=congrArg List.length h.rest
 grind
theorem Jo{G f:Nat}{st:PS}(h:p.code≠0)(hg:1<=G):n2 G f p st=some (p,st):=by
 obtain⟨G,rfl⟩:∃Q,G=Q+1:=⟨G-1,by omega⟩
 grind[n2]
theorem yN{f:Nat}{T:List ab}(h:p.code≠0)(hg:1<=f):pH f T p=some (T,p):=by
 obtain⟨f,rfl⟩:∃Q,f=Q+1:=⟨f-1,by omega⟩;rw[pH,ae (fun W=>h W.1),iy h]
end
section
variable{f:Nat}{p:RS}{st:PS}{ts rest:List Tok}
def abc{s:ab}(W:On p (ts++rest))(M:ts.map kf=Nr s)(J:bm s=true) :
  ∃q,iW f p st=some (q,{ st with aq:=st.aq++[s] })/\cZ p q (.ok rest):=by
 obtain⟨u,r,rfl,o,M⟩:=map_cons M;obtain⟨v,r,rfl,b,M⟩:=map_cons M;obtain⟨w,rfl,G⟩:=jD M;simp only[cons_append,nil_append]at W;have H:=nx W;have T:=nx H;have t:=nx T;refine⟨p.next.next.next,?_,t,by rfl,by rfl⟩;unfold iW;rw[ak (z8 W o),xW H b J,Lj T G aC,ae zfg,uj T G,qY H,(qL b).2]
def aba{a:Ar}(W:On p (ts++rest))(M:ts.map kf=Ir a)(J:bm a.name=true) :
  ∃q,iW f p st=some (q,{ st with aj:=st.aj++[a] })/\cZ p q (.ok rest):=by
 obtain⟨u,r,rfl,o,M⟩:=map_cons M;obtain⟨v,r,rfl,b,M⟩:=map_cons M;obtain⟨w,r,rfl,G,M⟩:=map_cons M;obtain⟨x,r,rfl,C,M⟩:=map_cons M;obtain⟨y,r,rfl,e,M⟩:=map_cons M;obtain⟨z,rfl,n⟩:=jD M;simp only[cons_append,nil_append]at W;have H:=nx W;have T:=nx H;have t:=nx T;have Y:=nx t;have d:=nx Y;have m:=nx d;refine⟨p.next.next.next.next.next.next,?_,m,by rfl,by rfl⟩;unfold iW;rw[ak (z8 W o),xW H b J,ak ⟨T.code,z8 T G⟩,qY t,ak (QZ C).1,uj Y e,uj d n,qY H,(qL b).2,(QZ C).2]
end
section
variable{rest:List Tok}{u:Tok}
theorem Tl(N:kf u=kS [41]):∀(e:List ab)(f:Nat)(T:List ab)(p:RS)(ts:List Tok),e.length<f->T≠[]->dq e=true->On p (ts++u::rest)->ts.map kf=u6 e ->
  ∃q,pH f T p=some (T++e,q)/\cZ p q (.ok rest)
 |[],f,T,p,ts,l,A,_,W,M=>by
  obtain⟨f,rfl⟩:∃Q,f=Q+1:=⟨f-1,by omega⟩
  have:ts=[]:=by simp_all[u6]
  subst this;rw[nil_append]at W;refine⟨p.next,?_,nx W,uv W⟩;rw[pH,ae (by grind[z8]),uj W N,eT]
 |s::e,f,T,p,ts,l,A,c,W,M=>by
  obtain⟨f,rfl⟩:∃Q,f=Q+1:=⟨f-1,by omega⟩;rw[u6]at M;obtain⟨v,r,rfl,o,M⟩:=map_cons M;obtain⟨w,r,rfl,b,M⟩:=map_cons M;unfold dq at c;rw[all_cons,aI]at c;simp only[cons_append]at W;have H:=nx W;have X:=nx H
  have z:T.length≠0:=fun h=>A (ll h)
  rw[length_cons]at l
  have⟨q,G,C⟩:=Tl N e f (T++[s]) p.next.next r aH zfg c.2 X M
  refine⟨q,?_,C.1,by rw[C.2.1,(uv H).1,(uv W).1],by rw[C.2.2,(uv H).2,(uv W).2]⟩;rw[pH,ak ⟨W.code,Lj W o aC⟩,ae z,uj W o,qY H,(qL b).2,xW H b c.1,G];simp
theorem ZA(N:kf u=kS [41])(e:List ab)(f:Nat)(p:RS)(ts:List Tok)(hf:e.length<f)(hn:dq e=true)(W:On p (ts++u::rest))(M:ts.map kf=Gj e) :
  ∃q,pH f [] p=some (e,q)/\cZ p q (.ok rest):=by
 obtain⟨f,rfl⟩:∃Q,f=Q+1:=⟨f-1,by omega⟩
 match e,hn,M,hf with
 |[],_,M,_ =>
  have:ts=[]:=by simp_all[Gj]
  subst this;rw[nil_append]at W;refine⟨p.next,?_,nx W,uv W⟩;rw[pH,ae (by grind[z8]),uj W N]
 |s::e,hn,M,hf =>
  rw[Gj]at M;obtain⟨w,r,rfl,b,M⟩:=map_cons M;unfold dq at hn;rw[all_cons,aI]at hn;simp only[cons_append]at W;have T:=nx W;rw[length_cons]at hf
  have⟨q,G,C⟩:=Tl N e f ([]++[s]) p.next r aH zfg hn.2 T M
  refine⟨q,?_,C.1,by rw[C.2.1,(uv W).1],by rw[C.2.2,(uv W).2]⟩;rw[pH,ak ⟨W.code,Lj W b (fun h=>by cases h)⟩,ak zfw,qY W,(qL b).2,xW W b hn.1,G];rfl
end
def fW(p:RS):Nat:=40*p.l.length+100
def Gk:∀e:List ab,e.length<=(u6 e).length
 |[]=>bp _
 |s::r=>by have:=Gk r;grind[u6]
theorem Ve(e:List ab):e.length<=(Gj e).length:=by
 cases e with
 |nil=>simp
 |cons s r=>simp[Gk,length_cons,ab,K,Gj]
theorem On.len{p:RS}{ts:List Tok}(h:Go.Sp.On p ts):ts.length<=p.l.length:=by
 rw[<-h.rest,sa];omega
def XD{f:Nat}{q:RS}{ts:List Tok}(J:Go.Sp.On q ts)(G:ur q.l)(hf:fW q<=f):∃t M,iS f (.block 1) q=some (t,M)/\eZ q M t (block q.e 1 ts):=by
 have⟨t,M,o,b⟩:=(is_ (nO ts)).block 1 ts q J G wu;have:=On.len J;exact⟨t,M,o f (by grind[fW,KI,nO]),b⟩
def abb{f:Nat}{p:RS}{st:PS}{ts rest:List Tok}{x:Fn × List S}(m:On p (ts++rest))(hs:ur p.l)(hf:fW p<=f)(c:ts.map kf=I1 x)(Q:bm x.1.name=true)(R:dq x.1.params=true)(T:S.cJ x.2=true) :
  (fv x.2 1=true->∃q t,iW f p st=some (q,{ st with aE:=st.aE++[t],av:=st.av++[(x.1.name,x.1.params)] })/\er t=cj x.2/\cZ p q (.ok rest)) /\
  (fv x.2 1=false->∃q F,iW f p st=some (q,F)/\q.code≠0):=by
 obtain⟨u,r,rfl,J,c⟩:=map_cons c;obtain⟨v,r,rfl,M,c⟩:=map_cons c;obtain⟨w,r,rfl,Z,c⟩:=map_cons c;obtain⟨A,r,rfl,k4,c⟩:=ei c;obtain⟨y,r,rfl,k5,c⟩:=map_cons c;simp only[cons_append,dP]at m;have C:=nx m;have N:=nx C;have O:=nx N
 have G:p.next.next.next.l=p.l:=by rfl
 have hA:x.1.params.length<=A.length:=by grind[Ve,ct]
 have i:=On.len O;simp only[br]at i;rw[G]at i
 have n:x.1.params.length<f:=by grind[fW]
 have⟨q,W,j⟩:=ZA k5 x.1.params f p.next.next.next A n R O k4
 have o:q.l=p.l:=j.2.1.trans G;have⟨t,E,X,k⟩:=XD (f:=f) j.1 zff zfA;have⟨r1,r2⟩:=EY (e:=q.e) (d:=1) (rest:=rest) T c
 have H:iW f p st=some (E,{ st with aE:=st.aE++[t],av:=st.av++[(x.1.name,x.1.params)] }):=by
  unfold iW;rw[ae (by rw[Lj m J aC];decide),ak (z8 m J),xW C M Q,uj N Z,W];simp only;rw[ak j.1.code,X,qY C,(qL M).2]
 refine⟨fun b=>?_,fun b=>?_⟩
 ·have⟨t',Y,z⟩:=r1 b;rw[z]at k;obtain⟨rfl,B⟩:=k;exact⟨E,t,H,Y,B.1,B.2.1.trans o,B.2.2.trans (j.2.2.trans zfw)⟩
 ·have⟨pos,z⟩:=r2 b;rw[z]at k;exact⟨E,_,H,cZ.err k⟩
theorem rB{G f:Nat}{p q:RS}{st Y:PS}{u:Tok}{r:List Tok}(W:On p (u::r))(h:iW f p st=some (q,Y)):n2 (G+1) f p st=n2 G f q Y:=by
 rw[n2,ak ⟨W.code,abk W⟩,h]
section
variable{f:Nat}{rest:List Tok}
theorem To:∀(gs:List ab)(p:RS)(st:PS)(ts:List Tok),On p (ts++rest)->ts.map kf=gs.flatMap Nr->dq gs=true ->
  ∃q,cZ p q (.ok rest)/\∀G,n2 (G+gs.length) f p st=n2 G f q { st with aq:=st.aq++gs }
 |[],p,st,ts,W,M,_=>by
  have:ts=[]:=by simp_all
  subst this;exact⟨p,On.self W,fun G=>by simp⟩
 |s::gs,p,st,ts,W,M,c=>by
  rw[flatMap_cons]at M;obtain⟨A,B,rfl,o,b⟩:=ei M;unfold dq at c;rw[all_cons,aI]at c;rw[dP]at W;have⟨q,H,C⟩:=abc (f:=f) (st:=st) W o c.1;have⟨N,e,n⟩:=To gs q { st with aq:=st.aq++[s] } B C.1 b c.2;exact zcK
theorem Tm:∀(as:List Ar)(p:RS)(st:PS)(ts:List Tok),On p (ts++rest)->ts.map kf=as.flatMap Ir->as.all kc=true ->
  ∃q,cZ p q (.ok rest)/\∀G,n2 (G+as.length) f p st=n2 G f q { st with aj:=st.aj++as }
 |[],p,st,ts,W,M,_=>by
  have:ts=[]:=by simp_all
  subst this;exact⟨p,On.self W,fun G=>by simp⟩
 |s::t,p,st,ts,W,M,c=>by
  rw[flatMap_cons]at M;obtain⟨A,B,rfl,o,b⟩:=ei M;rw[all_cons,aI]at c;rw[dP]at W
  have z:bm s.name=true:=by simp_all[kc,aI]
  have⟨q,H,C⟩:=aba (f:=f) (st:=st) W o z;have⟨N,e,n⟩:=Tm t q { st with aj:=st.aj++[s] } B C.1 b c.2;exact zcK
end
def Y1(x:Fn × List S):Prop:=bm x.1.name=true/\dq x.1.params=true/\S.cJ x.2=true
def Tn{f:Nat}:∀(xs:List (Fn × List S))(p:RS)(st:PS)(ts:List Tok),On p ts->ur p.l->fW p<=f->ts.map kf=xs.flatMap I1->(∀x∈xs,Y1 x) ->
  ((xs.all fun x=>fv x.2 1)=true->∃q l,(∀G,xs.length<G->n2 G f p st=some (q,{ st with aE:=st.aE++l,av:=st.av++xs.map fun x=>(x.1.name,x.1.params) }))/\q.code=0/\bl l=xs.map fun x=>cj x.2) /\
  ((xs.all fun x=>fv x.2 1)=false->∃q b,(∀G,xs.length<G->n2 G f p st=some (q,b))/\q.code≠0)
 |[],p,st,ts,d,_,_,k,_=>by
  have:ts=[]:=by simp_all
  subst this;refine⟨fun _=>⟨p,[],fun G e=>?_,d.code,by rfl⟩,fun h=>by cases h⟩;obtain⟨G,rfl⟩:∃c,G=c+1:=⟨G-1,by omega⟩;rw[n2,ae (fun E=>XV d E.2)];simp
 |x::xs,p,st,ts,d,J,F,k,hx=>by
  rw[flatMap_cons]at k;obtain⟨A,B,rfl,v,C⟩:=ei k;have⟨X,Y,Z⟩:=hx x mem_cons_self;have⟨T,W⟩:=abb (st:=st) d J F v X Y Z
  have j:∃u r,A++B=u::r:=by obtain⟨u,r,rfl,_,_⟩:=map_cons v;simp
  have⟨u,r,M⟩:=j;rw[M]at d
  cases i:fv x.2 1 with
  |false =>
   have⟨q,b,w,n⟩:=W i;refine⟨fun h=>zff,fun _=>⟨q,b,fun G e=>?_,n⟩⟩;obtain⟨G,rfl⟩:∃c,G=c+1:=⟨G-1,by omega⟩;rw[rB d w,Jo n zff]
  |true =>
   have⟨q,t,w,n,z⟩:=T i;have H:q.l=p.l:=z.2.1;obtain⟨O,Q⟩:=Tn (f:=f) xs q { st with aE:=st.aE++[t],av:=st.av++[(x.1.name,x.1.params)] } B z.1 zff zfA C (fun y N=>hx y (ec _ N));rw[all_cons,i,Bool.true_and];refine⟨fun h=>?_,fun h=>?_⟩
   ·have⟨o,l,R,m,j5⟩:=O h;refine⟨o,t::l,fun G e=>?_,m,by grind[bl]⟩;obtain⟨G,rfl⟩:∃c,G=c+1:=⟨G-1,by omega⟩
    grind[rB,length_cons]
   ·have⟨o,b,R,m⟩:=Q h;refine⟨o,b,fun G e=>?_,m⟩;obtain⟨G,rfl⟩:∃c,G=c+1:=⟨G-1,by omega⟩
    grind[rB,length_cons]
def O3(G:List ab)(d:List Ar)(xs:List (Fn × List S))(T:dq G=true)(W:d.all kc=true)(X:∀x∈xs,Y1 x) :
  ∃ts,Tz (dU lC (dU a1 (dU g1 [] G) d) xs) 0 ts (dU lC (dU a1 (dU g1 [] G) d) xs).length /\
  (ur ts->∀(e:Int)(g f:Nat),ts.length+1<=g->40*ts.length+100<=f ->
   ((xs.all fun x=>fv x.2 1)=true->∃q l,n2 g f ⟨ts,0,e,0,0⟩ .empty=some (q,⟨l,G,d,xs.map fun x=>(x.1.name,x.1.params)⟩)/\q.code=0/\bl l=xs.map fun x=>cj x.2) /\
   ((xs.all fun x=>fv x.2 1)=false->∃q st',n2 g f ⟨ts,0,e,0,0⟩ .empty=some (q,st')/\q.code≠0)):=by
 have O:=yP (f:=g1) (k:=Nr) G (fun s m=>ZO (ea.1 T s m)) [] [] ft.nil;have Q:=yP (f:=a1) (k:=Ir) d (fun s m=>ZM (ea.1 W s m)) _ _ O;have R:=yP (f:=lC) (k:=I1) xs (fun x hx=>by have⟨a,b,c⟩:=X x hx;exact ZN a b c) _ _ Q;have⟨ts,v,w⟩:=R.all;refine⟨ts,w,fun m e g f F E=>?_⟩;rw[nil_append]at v;obtain⟨A,C,rfl,N,k4⟩:=ei v;obtain⟨A,B,rfl,k5,k6⟩:=ei N;have j:On ⟨(A++B)++C,0,e,0,0⟩ (A++(B++C)):=⟨rfl,bp _,by simp,w.kinds⟩;obtain⟨q1,o,H⟩:=To (f:=f) G _ .empty A j k5 T;obtain⟨q2,t,J⟩:=Tm (f:=f) d q1 _ B o.1 k6 W;have i:q2.l=(A++B)++C:=(o.tr t).2.1;obtain⟨M,Z⟩:=Tn (f:=f) xs q2 { ({ PS.empty with aq:=PS.empty.aq++G }:PS)with aj:=PS.empty.aj++d } C t.1 (by rw[i];exact m) (by unfold fW;rw[i];exact E) k4 X
 have c1:G.length<=A.length:=by
  have:=congrArg List.length k5;rw[ct]at this;rw[this];clear this k5 o H t J M Z i j m v w N O Q R E F T
  induction G with
  |nil=>simp
  |cons s G ih=>grind[Nr]
 have c2:d.length<=B.length:=by
  have:=congrArg List.length k6;rw[ct]at this;rw[this];clear this k6 o H t J M Z i j m v w N O Q R E F W
  induction d with
  |nil=>simp
  |cons s G ih=>grind[Ir]
 have c3:xs.length<=C.length:=by
  have:=congrArg List.length k4;rw[ct]at this;rw[this];clear this k4 o H t J M Z i j m v w N O Q R E F X
  induction xs with
  |nil=>simp
  |cons s G ih=>grind[I1]
 rw[br,br]at F;have n:∃z,xs.length<z/\g=z+d.length+G.length:=⟨g-d.length-G.length,by omega,by omega⟩;obtain⟨z,Y,rfl⟩:=n;rw[H,J];refine⟨fun h=>?_,fun h=>?_⟩
 ·have⟨q,l,j7,j8,j9⟩:=M h;exact⟨q,l,j7 z Y,j8,j9⟩
 grind
structure BQ(st:PS):Prop where
 aq:dq st.aq=true
 aj:st.aj.all kc=true
 av:∀x∈st.av,bm x.1=true/\dq x.2=true
 aE:∀t∈st.aE,BF t
 len:st.av.length=st.aE.length
def zz{a b:List ab}(h:dq a=true)(k:dq b=true):dq (a++b)=true:=by
 grind[dq]
def zA{s:ab}(h:bm s=true):dq [s]=true:=by
 grind[dq]
theorem Sf.len{a b:List Tok}{n:Nat}(h:Sf a b n):b.length+n<=a.length:=by
 obtain⟨p,rfl,h⟩:=h
 grind
def Jm:∀(f:Nat)(T:List ab)(p:RS)(ts:List Tok),On p ts->se ts->ts.length+1<f->dq T=true ->
  ∃l q,pH f T p=some (l,q)/\((∃r n,cZ p q (.ok r)/\dq l=true/\Sf ts r n)\/q.code≠0)
 |0,T,p,ts,_,_,m,_=>by omega
 |f+1,T,p,ts,W,A,m,e=>by
  rw[pH]
  by_cases X:p.code=0/\is p 0 [41]=false
  ·rw[ak X]
   have c:(∃r,cZ p (if T.length=0 then p else want p [44]) (.ok r)/\Sf ts r 0)\/(if T.length=0 then p else want p [44]).code≠0:=by
    by_cases v:T.length=0
    ·rw[ak v];exact .inl ⟨ts,On.self W,.nil _⟩
    ·rw[ae v]
     rcases nr W (s:=[44]) aC with⟨r,o,b⟩|⟨x,o,b⟩
     ·exact .inl ⟨r,b,(Sf.ba aC o).le (bp _)⟩
     grind[cZ.err]
   generalize(if T.length=0 then p else want p [44])=j at *
   rcases c with⟨r,o,b⟩|o
   ·rcases tU o.1 with⟨Y,G,C⟩|⟨x,G,C⟩
    ·have⟨R,O⟩:=Sf.name G (b.ok A);have d:=(b.trans R).len;have⟨l,q,S,w⟩:=Jm f (T++[(tok j 0).s]) (cv j) Y C.1 ((b.trans R).ok A) aH (zz e (zA O));refine⟨l,q,S,?_⟩
     rcases w with⟨k,n,i,N,B⟩|i
     ·exact .inl ⟨k,_,(o.tr C).tr i,N,(b.trans R).trans B⟩
     omega
    grind[yN,cZ.err]
   ·rw[OI o];exact⟨_,_,yN o aH,.inr o⟩
  ·rw[ae X]
   rcases nr W (s:=[41]) aC with⟨r,o,b⟩|⟨x,o,b⟩
   ·exact⟨T,_,rfl,.inl ⟨r,1,b,e,Sf.ba aC o⟩⟩
   grind[cZ.err]
def XF{f:Nat}{p:RS}{st:PS}{u:Tok}{r0:List Tok}(O:On p (u::r0))(E:se (u::r0))(hs:ur p.l)(hf:fW p<=f)(b:BQ st) :
  ∃q k,iW f p st=some (q,k)/\((∃r n,cZ p q (.ok r)/\BQ k/\Sf (u::r0) r (n+1)/\aM k.aE<=n+1+aM st.aE)\/q.code≠0):=by
 have p1:=nx O;have i:=Sf.one u r0;unfold iW
 by_cases h1:is p 0 ji=true
 ·rw[ak h1]
  rcases tU p1 with⟨A,a1,c⟩|⟨x,a1,c⟩
  ·have⟨R,S⟩:=Sf.name a1 (i.ok E);have J:=i.trans R;have G:cZ p (cv p.next) (.ok A):=(On.next O).tr c
   by_cases C:(cv p.next).code=0/\is (cv p.next) 0 [91]=true
   ·rw[ak C]
    have h3:aJ A 0=[91]:=by
     have:=On.is c.1 0 (s:=[91]) aC
     grind
    have⟨v,h4,_⟩:=ue aC h3;have m:=J.trans (Sf.aJ aC h3);have W:=c.1;rw[h4]at W
    have B:cZ p (cv p.next).next (.ok A.tail):=G.tr (On.next W)
    have z:=nx W
    by_cases N:(tok (cv p.next).next 0).ai=1
    ·rw[ak N]
     cases hr:A.tail with
     |nil =>
      grind[On.tok]
     |cons w X =>
      rw[hr]at z B m;have p4:=nx z;have M:=m.trans (Sf.one w X);have H:=B.tr (On.next z);rw[qY z]at N;have hw:=(m.ok E w mem_cons_self).num N
      rcases nr p4 (s:=[93]) aC with⟨Q,j,d⟩|⟨x,j,d⟩
      ·rcases nr d.1 (s:=[59]) aC with⟨r5,Y,Z⟩|⟨x,Y,Z⟩
       ·refine⟨_,_,rfl,.inl ⟨r5,0,(H.tr d).tr Z,⟨b.aq,?_,b.av,b.aE,b.len⟩,((M.trans (Sf.ba aC j)).trans (Sf.ba aC Y)).le aH,by simp⟩⟩;simp only;rw[List.all_append,b.aj,all_cons,List.all_nil,Bool.and_true,Bool.true_and];unfold kc;rw[qY z,S]
        grind
       grind[cZ.err]
      grind[iy,cZ.err]
    ·rw[ae N];exact⟨_,_,rfl,.inr (cZ.err (On.lN z))⟩
   ·rw[ae C]
    rcases nr c.1 (s:=[59]) aC with⟨Q,j,d⟩|⟨x,j,d⟩
    ·exact⟨_,_,rfl,.inl ⟨Q,0,G.tr d,⟨zz b.aq (zA S),b.aj,b.av,b.aE,b.len⟩,(J.trans (Sf.ba aC j)).le aH,by simp⟩⟩
    grind[cZ.err]
  ·rw[ae (fun h=>cZ.err c h.1),iy (cZ.err c)]
   grind[cZ.err]
 ·rw[ae h1]
  by_cases C:is p 0 jv=true
  ·rw[ak C]
   rcases tU p1 with⟨A,a1,c⟩|⟨x,a1,c⟩
   ·have⟨R,S⟩:=Sf.name a1 (i.ok E);have J:=i.trans R;have G:cZ p (cv p.next) (.ok A):=(On.next O).tr c
    rcases nr c.1 (s:=[40]) aC with⟨r2,j,d⟩|⟨x,j,d⟩
    ·have m:=J.trans (Sf.ba aC j);have B:=G.tr d;have hl:=On.len d.1;have Dr:(want (cv p.next) [40]).l=p.l:=B.2.1;have⟨l,q,k1,k2⟩:=Jm f [] _ r2 d.1 (m.ok E) zfA rfl;rw[k1];simp only
     rcases k2 with⟨X,n,F,k4,k5⟩|F
     ·have H:=B.tr F;have hql:q.l=p.l:=H.2.1;rw[ak F.1.code];have⟨t,q',k6,o⟩:=XD (f:=f) F.1 zff zfA;rw[k6];simp only;have M:=m.trans k5
      cases T:block q.e 1 X with
      |error x=>rw[T]at o;exact⟨_,_,rfl,.inr (cZ.err o)⟩
      |ok y =>
       have⟨t',Q⟩:=y;rw[T]at o;obtain⟨rfl,o⟩:=o;have⟨k8,k9⟩:=KT (M.ok E) T;refine⟨_,_,rfl,.inl ⟨Q,n+aU t+2,H.tr o,⟨b.aq,b.aj,?_,?_,?_⟩,(M.trans k9).le aH,?_⟩⟩
       ·intro x hx
        rcases oO hx with hx|hx
        ·exact b.av x hx
        grind
       ·intro x hx
        rcases oO hx with hx|hx
        ·exact b.aE x hx
        grind
       ·simp only[br,length_cons,length_nil];have:=b.len;omega
       ·simp only[pj,aM];omega
     ·rw[ae F]
      grind
    ·rw[yN (cZ.err d) zfA];simp only;rw[ae (cZ.err d)]
     grind[cZ.err]
   ·rw[iy (cZ.err c),yN (cZ.err c) zfA];simp only;rw[ae (cZ.err c)]
    grind[cZ.err]
  ·rw[ae C];exact⟨_,_,rfl,.inr (cZ.err (On.lN O))⟩
def Jn{f:Nat}:∀(G:Nat)(p:RS)(st:PS)(ts:List Tok),On p ts->se ts->ur p.l->fW p<=f->BQ st->ts.length<G ->
  ∃q Y,n2 G f p st=some (q,Y)/\(q.code=0->BQ Y/\aM Y.aE<=ts.length+aM st.aE)
 |0,p,st,ts,_,_,_,_,_,J=>by omega
 |G+1,p,st,ts,W,A,N,m,s,J=>by
  cases ts with
  |nil =>
   rw[n2,ae (fun X=>XV W X.2)]
   grind
  |cons u r0 =>
   have⟨q,Y,o,b⟩:=XF W A N m s;rw[rB W o];rw[length_cons]at J
   rcases b with⟨r,n,H,C,e,t⟩|H
   ·have M:=e.len;rw[length_cons]at M;have k:q.l=p.l:=H.2.1;obtain⟨Q,c,R,O⟩:=Jn G q Y r H.1 (e.ok A) zff (by unfold fW at m |-;rw[k];exact m) C aH
    grind
   grind[Jo]
def pR(st:PS):List Fn:=st.av.mapIdx fun i x=>⟨x.1,x.2,((aM (st.aE.take i):Nat):Int)⟩
def same(p:Src)(st:PS):Bool:=fG (fun x y=>x==y) p.aq st.aq&&(fG zk p.aj st.aj&&(fG r6 p.av (pR st)&&fG lh p.ah (bZ 0 st.aE)))
structure Reads(x:ab)(ts:List Tok)(c z:Int)(q:RS)(st:PS):Prop where
 lex:qh x (x.length+1) 0 []=some (ts,c,z)
 len:ts.length<=x.length
 read:n2 (ts.length+1) (40*ts.length+100) ⟨ts,0,(x.length:Int),0,0⟩ .empty=some (q,st)
 ok:q.code=0->BQ st/\aM st.aE<=ts.length
def reads(x:ab):∃ts c z q st,Reads x ts c z q st:=by
 obtain⟨ts,c,z,o,d,G,C⟩:=su x (x.length+1) 0 [] (bp _) aH (fun t h=>by simp at h) .nil (fun t h=>by simp at h) (aY _);have e:On ⟨ts,0,(x.length:Int),0,0⟩ ts:=⟨rfl,bp _,rfl,fun t M=>(d t M).kinds⟩;obtain⟨q,st,i,n⟩:=Jn (f:=40*ts.length+100) (ts.length+1) _ .empty ts e d G (aY _) ⟨rfl,rfl,fun x h=>zfn,fun x h=>zfn,rfl⟩ aH;exact⟨ts,c,z,q,st,o,C,i,fun h=>by have⟨a,b⟩:=n h;exact⟨a,by simpa[PS.empty,aM]using b⟩⟩
structure Forms(l:List T)(ls:List (List S)):Prop where
 len:ls.length=l.length
 at_:∀(i:Nat)t b,l[i]?=some t->ls[i]?=some b->S.cJ b=true/\er t=cj b
def Fg:∀(l:List T),(∀t∈l,BF t)->∃ls,Forms l ls
 |[],_=>⟨[],rfl,fun i t b h=>by simp at h⟩
 |t::l,h=>by
  have⟨b,o,c⟩:=h t mem_cons_self
  obtain⟨ls,G⟩:=Fg l fun u M=>h u (ec _ M)
  refine⟨b::ls,by simp[G.len],fun i k A R O=>?_⟩
  cases i with
  |zero=>grind
  |succ i=>exact G.at_ i k A zff zff
def en.mem{Q:Fn->T->Prop}:∀{av:List Fn}{a:Nat}{l:List T},en Q av a l->(∀f∈av,∃t∈l,Q f t)/\(∀t∈l,∃f∈av,Q f t)
 |[],_,[],_=>⟨fun f h=>zfn,fun f h=>zfn⟩
 |f::r,a,t::l,h=>by
  rw[en]at h;have⟨R,O⟩:=en.mem h.2.2;refine⟨fun g X=>?_,fun u hu=>?_⟩
  ·rcases iY X with rfl|X
   ·exact⟨t,mem_cons_self,h.2.1⟩
   ·have⟨u,a,b⟩:=R g X;exact⟨u,ec _ a,b⟩
  ·rcases iY hu with rfl|hu
   ·exact⟨f,mem_cons_self,h.2.1⟩
   ·have⟨g,a,b⟩:=O u hu;exact⟨g,ec _ a,b⟩
 |[],_,t::l,h=>by cases h
 |f::r,_,[],h=>by cases h
def eH.uy{p:Src}{l:List T}(h:eH p l):∃ls,Forms l ls:=by
 refine Fg l fun t M=>?_
 have⟨f,_,o⟩:=(en.mem h.av).2 t M;exact toB o.all o.ai
def eH.at_{p:Src}{l:List T}(h:eH p l):mn l:=by
 have:∀l:List T,(∀t∈l,dC t=true)->mn l:=by
  intro l
  induction l with
  |nil=>intro _;trivial
  |cons t l O=>grind[Mm,mem_cons_self,ec,dC,mn]
 refine this l fun t M=>?_
 have⟨f,_,o⟩:=(en.mem h.av).2 t M;exact o.all
def eH.si{p:Src}{l:List T}(h:eH p l):kG p.ah p.av 0 []=some (l,p.ah.length):=by
 rw[IA p.av 0 [] l h.st h.av h.at_,h.len];simp
def eH.k{p:Src}{l:List T}(h:eH p l):l.all iG=true:=by
 rw[ea];intro t M;have⟨f,_,o⟩:=(en.mem h.av).2 t M;exact Sy t o.all
theorem Nh{l:List T}{ls:List (List S)}(h:Forms l ls):bl l=ls.map cj:=by
 rw[tf];apply ext_getElem?;intro i;rw[dB,dB];have M:=h.len
 cases o:l[i]? with
 |none =>
  grind
 |some t =>
  have j:=(bY o).1
  have b:ls[i]?=some (ls[i]'aH):=by simp
  rw[b];exact congrArg some (h.at_ i t _ o b).2
def zip_fst{R β:Type}:∀(a:List R)(b:List β),a.length=b.length->(a.zip b).map Prod.fst=a
 |[],[],_=>rfl
 |x::a,y::b,h=>by rw[zip_cons_cons,List.map_cons,zip_fst a b zff]
 |[],y::b,h=>by simp at h
 |x::a,[],h=>by simp at h
def C5{R β:Type}:∀(a:List R)(b:List β),a.length=b.length->(a.zip b).map Prod.snd=b
 |[],[],_=>rfl
 |x::a,y::b,h=>by rw[zip_cons_cons,List.map_cons,C5 a b zff]
 |[],y::b,h=>by simp at h
 |x::a,[],h=>by simp at h
def yj(l:List T)(i:Nat):aM (l.take i)=aM ((bl l).take i):=by
 rw[tf,<-List.map_take,<-tf,wb]
def Yu{p:Src}{l:List T}{W:List T}{ls:List (List S)}(h:eH p l)(e:bl W=bl l):same p ⟨W,p.aq,p.aj,p.av.map fun x=>(x.name,x.params)⟩=true:=by
 unfold same;simp only[aI];refine⟨tL (fun x=>by simp) _,tL (fun x=>by simp[zk]) _,?_,?_⟩
 ·have:pR ⟨W,p.aq,p.aj,p.av.map fun x=>(x.name,x.params)⟩=p.av:=by
   unfold pR;apply ext_getElem?;intro i;simp only[List.getElem?_mapIdx,dB]
   cases m:p.av[i]? with
   |none=>rfl
   |some f =>
    have c:=en.len h.av;have k:=(bY m).1
    have M:l[i]?=some (l[i]'aH):=by simp
    have j:=(en.at_ h.av i f _ m M).1;rw[dJ,yj,<-e,<-yj]at j;simp only[Option.map_some];rw[<-j]
  rw[this];simp[tL,fG,r6,Src.av]
 ·rw[dn.all h.st h.len]
  grind[Cj]
section
variable{p:Src}{l:List T}{ls:List (List S)}
def XM(h:eH p l)(hf:Forms l ls):lR eg ef p l=dU lC (dU a1 (dU g1 [] p.aq) p.aj) (p.av.zip ls):=by
 unfold lR
 refine ME _ _ _ _ hf.len fun i t b o c=>?_
 have⟨G,C⟩:=hf.at_ i t b o c;rw[<-Mx,C];exact vh b G 0
theorem LY(h:eH p l)(hf:Forms l ls){ts:List Tok}{c z:Int}{q:RS}{st:PS}(v:Reads (lR eg ef p l) ts c z q st) :
  c=0/\((ls.all fun b=>fv b 1)=true->q.code=0/\aM st.aE<=800/\same p st=true)/\((ls.all fun b=>fv b 1)=false->q.code≠0):=by
 have hx:=XM h hf;have d:=en.len h.av;have u:=hf.len
 have W:∀x∈p.av.zip ls,Y1 x:=by
  intro x hx;have⟨f,b⟩:=x;have⟨i,k⟩:=getElem?_of_mem hx;rw[List.getElem?_zip_eq_some]at k;have E:=(bY k.2).1
  have M:l[i]?=some (l[i]'aH):=by simp
  have o:=(en.at_ h.av i f _ k.1 M).2;exact⟨o.name,o.params,(hf.at_ i _ b M k.2).1⟩
 have⟨H,o,s⟩:=O3 p.aq p.aj (p.av.zip ls) h.aq h.aj W;rw[<-hx]at o;have G:=UX o rfl ((lR eg ef p l).length+1) [] aH;rw[nil_append,v.lex]at G;simp only[Option.some.injEq,Prod.mk.injEq]at G;obtain⟨rfl,rfl,rfl⟩:=G
 have r:ur ts:=by
  obtain⟨A,J,Q,R,O,Y,F⟩:=su (lR eg ef p l) ((lR eg ef p l).length+1) 0 [] (bp _) aH (fun t h=>by simp at h) .nil (fun t h=>by simp at h) (aY _);rw[v.lex]at R
  grind
 have⟨C,e⟩:=s r ((lR eg ef p l).length:Int) (ts.length+1) (40*ts.length+100) (aY _) (aY _)
 have n:((p.av.zip ls).all fun x=>fv x.2 1)=ls.all fun b=>fv b 1:=by
  have:ls=(p.av.zip ls).map Prod.snd:=(C5 _ _ aH).symm
  grind
 rw[n]at C e;refine⟨rfl,fun j=>?_,fun j=>?_⟩
 ·have⟨N,Z,R,O,Y⟩:=C j;rw[v.read]at R;simp only[Option.some.injEq,Prod.mk.injEq]at R;obtain⟨rfl,rfl⟩:=R
  have B:((p.av.zip ls).map fun x=>cj x.2)=ls.map cj:=by
   have:ls=(p.av.zip ls).map Prod.snd:=(C5 _ _ aH).symm
   conv=>rhs;rw[this]
   simp
  have X:((p.av.zip ls).map fun x=>(x.1.name,x.1.params))=p.av.map fun x=>(x.name,x.params):=by
   have:p.av=(p.av.zip ls).map Prod.fst:=(zip_fst _ _ aH).symm
   conv=>rhs;rw[this]
   simp
  have m:bl Z=bl l:=by grind[Nh]
  refine⟨O,?_,?_⟩
  ·simp only;rw[<-wb,m,wb,h.len];exact h.few
  ·rw[X];exact Yu (ls:=ls) h m
 ·have⟨N,w,R,O⟩:=e j;rw[v.read]at R
  grind
end
def IV{R:Type}{p:R->R->Bool}{a b:List R}(h:fG p a b=true){x:R}(hx:x∈a):∃y∈b,p x y=true:=by
 have⟨i,j⟩:=getElem?_of_mem hx;have M:=yF h;have N:=(bY j).1
 have k:b[i]?=some (b[i]'aH):=by simp
 grind[bP,E6]
def LI{p:Src}{l:List T}(hn:p.ah.length<=800)(w:kG p.ah p.av 0 []=some (l,p.ah.length)){st:PS}(c:BQ st)(A:same p st=true):eH p l:=by
 have⟨l',F,G,H,h4,h5⟩:=B4 _ _ _ _ _ w;rw[nil_append]at F;subst F;unfold same at A;simp only[aI]at A;have⟨Y,Z,N,O⟩:=A
 have M:aM l=p.ah.length:=by omega
 have d:=dn.all G M;rw[d]at O
 have j:l.length=st.aE.length:=by
  have a1:=en.len H;have E:=yF N;unfold pR at E;rw[List.length_mapIdx]at E;have:=c.len;omega
 have W:=Vw j O
 have e:∀f∈p.av,bm f.name=true/\dq f.params=true:=by
  intro f o;have⟨g,J,q⟩:=IV N o;unfold pR at J;have⟨i,z⟩:=getElem?_of_mem J;rw[List.getElem?_mapIdx]at z
  cases hx:st.av[i]? with
  |none=>grind
  |some x =>
   rw[hx]at z;cases z;simp only[r6,aI,beq_iff_eq]at q;have⟨⟨C,m⟩,_⟩:=q;have⟨k3,k4⟩:=c.av x (bP hx);rw[C,yE m];grind
 have k:∀t∈l,t.n.ai=14/\dC t=true:=by
  intro t B
  have r:er t∈bl l:=by grind[tf,List.mem_map_of_mem]
  rw[W,tf]at r;have⟨u,X,Q⟩:=ra.1 r;have⟨b,C,m⟩:=c.aE u X;rw[Q]at m
  have s:xi t:=by
   have:∀l:List T,mn l->t∈l->xi t:=by
    intro l
    induction l with
    |nil=>simp
    |cons v l ih =>
     grind[mn,xi]
   grind
  refine⟨?_,Mp t (by rw[m];exact S.vi b C) s⟩;have:=congrArg (fun x=>x.n.ai) m;simp only[xC]at this;exact this
 refine⟨?_,?_,G,en.mono H fun f t o B _=>⟨(e f o).1,(e f o).2,(k t B).1,(k t B).2⟩,M,hn⟩
 ·rw[yE Y];exact c.aq
 ·rw[ea];intro a R;have⟨b,w,q⟩:=IV Z R;have r:=ea.1 c.aj b w;simp only[zk,aI,beq_iff_eq]at q
  grind[kc]
section
variable{R:Type}
def b9(f:R->Nat):List R->Nat
 |[]=>0
 |x::l=>f x+b9 f l
theorem qk(f:R->Nat)(a b:List R):b9 f (a++b)=b9 f a+b9 f b:=by
 induction a with
 |nil=>simp[b9]
 |cons x a O=>grind[b9]
theorem Kc{f g:R->Nat}{l:List R}(h:∀x∈l,f x<=g x):b9 f l<=b9 g l:=by
 induction l with
 |nil=>simp[b9]
 |cons x l O =>
  grind[b9]
theorem rP{f:R->Nat}{l:List R}{x:R}(h:x∈l):f x<=b9 f l:=by
 induction l with
 |nil=>cases h
 |cons y l O =>
  grind[b9]
theorem lI{f g:R->Nat}{k:Nat}{l:List R}(h:∀x∈l,f x<=k*g x):b9 f l<=k*b9 g l:=by
 induction l with
 |nil=>simp[b9]
 |cons x l O =>
  grind[mem_cons_self,ec,Nat.mul_add,b9]
theorem uf(f:R->Nat)(l:List R)(h:∀x∈l,1<=f x):l.length<=b9 f l:=by
 induction l with
 |nil=>simp
 |cons x l O =>
  grind[b9]
end
def Aq{R β:Type}(f:R->Nat)(g:β->Nat):∀(a:List R)(b:List β),b9 (fun x:R × β=>f x.1+g x.2) (a.zip b)<=b9 f a+b9 g b
 |[],b=>by simp[b9]
 |x::a,[]=>by simp[b9]
 |x::a,y::b=>by
  have:=Aq f g a b
  grind[zip_cons_cons,b9]
theorem zQ{R:Type}(f:R->ab):∀(l:List R)(T:ab),(dU f T l).length=T.length+b9 (fun x=>(f x).length) l
 |[],T=>by rfl
 |x::l,T=>by rw[dU,zQ f l,br,b9];omega
def pW(n:Nd):Nat:=n.s.length+60
mutual
def Y0:∀(t:T)(a:Nat),jc t=b9 pW (dW a t)
 |.mk n l,a=>by rw[jc,dW,b9,wh l (a+1),pW]
def wh:∀(l:List T)(a:Nat),gM l=b9 pW (bZ a l)
 |[],a=>rfl
 |t::r,a=>by rw[gM,bZ,qk,Y0 t a,wh r (a+aU t)]
end
def wi(l:List T)(i:Nat):Nat:=match l[i]? with|some t=>jc t|none=>0
def Sk(l:List T):wi l 0+wi l 1+wi l 2<=gM l:=by
 match l with
 |[]=>simp[wi]
 |[a]=>simp[wi,gM]
 |[a,b]=>simp[wi,gM]
 |a::b::c::r=>grind[wi,gM]
def vt{l:List T}{f:T->ab}(h:∀t∈l,(f t).length<=jc t)(i:Nat):((l.map f).getD i []).length<=wi l i:=by
 grind[wi]
def yZ{l:List T}{t:T}(h:t∈l):aU t<=aM l:=by
 induction l with
 |nil=>cases h
 |cons a l O =>
  grind[aU,aM]
def CR{f:T->ab}:∀{l:List T},(∀t∈l,(f t).length+4<=jc t)->kR (l.map f)<=gM l
 |[],_=>bp _
 |t::l,h=>by
  have o:=h t mem_cons_self
  have b:=CR (l:=l) fun y B=>h y (ec _ B)
  rw[List.map_cons,kR,gM];omega
def YE:∀(N:Nat)(t:T),aU t<=N->qi t->∀d,(gY eg ef d t).length+4<=jc t/\(ko eg ef d t).length<=jc t:=by
 intro N
 induction N with
 |zero=>grind[iD]
 |succ N Q =>
  intro t C c d;have w:=eI t;rw[mY]at c
  have O:∀a∈t.aw,∀d,(gY eg ef d a).length+4<=jc a/\(ko eg ef d a).length<=jc a:=fun a v d=>Q a (by have:=yZ v;omega) (gx c.2 v) d
  have hx:=vt (l:=t.aw) (f:=eg) (fun a v=>by have:=we (aU a) a (aY _) (gx c.2 v);omega);have i:=vt (l:=t.aw) (f:=ko eg ef d) (fun a v=>(O a v d).2);have G:=Sk t.aw;have o:=kZ t;have R:=we (aU t) t (aY _) ((mY t).2 c);have u:=hx 0;have z:=hx 1;have m:=i 1;have n:=i 2;constructor
  ·rw[G0,B3];unfold sD
   exact zcf
  ·rw[EX,CO]
   have:=CR (f:=gY eg ef (d+1)) (l:=t.aw) fun a v=>(O a v (d+1)).1
   have e:∀l:List ab,(ef l d).length=3+kR l:=fun l=>by
    grind[br,rp,length_cons,length_nil,ef,kR]
   grind
def wS(l:List ab):Nat:=b9 (fun s=>s.length+1) l
def cU(p:Src):Nat:=wS p.aq+b9 (fun a:Ar=>a.name.length+1) p.aj+b9 (fun f:Fn=>f.name.length+wS f.params+1) p.av+b9 (fun n:Nd=>n.s.length+n.aw.length+1) p.ah
structure kF(p:Src):Prop where
 aj:∀a∈p.aj,-9223372036854775808<=a.size/\a.size<=9223372036854775807
 ah:∀n∈p.ah,-9223372036854775808<=n.n/\n.n<=9223372036854775807
mutual
def dM.num{ah:List Nd}(h:∀n∈ah,-9223372036854775808<=n.n/\n.n<=9223372036854775807):∀(t:T)(a:Nat),dM ah a t->qi t
 |.mk n l,a,G=>by
  rw[dM]at G;rw[qi];exact⟨h n (bP G.1),dn.num h l _ G.2.2⟩
def dn.num{ah:List Nd}(h:∀n∈ah,-9223372036854775808<=n.n/\n.n<=9223372036854775807):∀(l:List T)(a:Nat),dn ah a l->pX l
 |[],a,_=>trivial
 |t::r,a,G=>by
  rw[dn]at G;rw[pX];exact⟨dM.num h t a G.1,dn.num h r _ G.2⟩
end
def G8(l:List ab):(l.map fun y=>y.length+2).sum=b9 (fun s=>s.length+2) l:=by
 induction l with
 |nil=>rfl
 |cons s l O=>grind[b9]
def Ay(l:List T):gM l=b9 jc l:=by
 induction l with
 |nil=>rfl
 |cons t l O=>rw[gM,b9,O]
def UP{p:Src}{l:List T}(hn:kF p)(G:dn p.ah 0 l)(m:aM l=p.ah.length):(lR eg ef p l).length<=100*cU p:=by
 have v:=dn.num hn.ah l 0 G
 have z:b9 (fun s=>(g1 s).length) p.aq<=100*wS p.aq:=lI fun s _=>by grind[br,length_cons,length_nil,g1]
 have R:b9 (fun a=>(a1 a).length) p.aj<=100*b9 (fun a:Ar=>a.name.length+1) p.aj:=lI fun a w=>by
  have:=ss (hn.aj a w)
  grind[a1]
 have q:b9 (fun x=>(cL eg ef x).length) (p.av.zip l)<=b9 (fun x:Fn × T=>(fun f:Fn=>100*(f.name.length+wS f.params+1)) x.1+jc x.2) (p.av.zip l):=Kc fun x hx=>by
  have r:=(YE (aU x.2) x.2 (aY _) (gx v (List.of_mem_zip hx).2) 0).2;have b:=rC x.1.params;rw[G8]at b
  have H:b9 (fun s=>s.length+2) x.1.params<=2*wS x.1.params:=lI fun s _=>by omega
  simp only[cL,br,length_cons,length_nil];omega
 have E:=Aq (fun f:Fn=>100*(f.name.length+wS f.params+1)) jc p.av l
 have k:b9 (fun f:Fn=>100*(f.name.length+wS f.params+1)) p.av<=100*b9 (fun f:Fn=>f.name.length+wS f.params+1) p.av:=lI fun f _=>aY _
 have Y:b9 pW p.ah<=100*b9 (fun n:Nd=>n.s.length+n.aw.length+1) p.ah:=lI fun n _=>by grind[pW]
 have o:b9 jc l=b9 pW p.ah:=by rw[<-Ay,wh l 0,<-dn.all G m]
 unfold lR cU
 grind[zQ,length_nil,jk]
def Au{p:Src}{l:List T}(G:dn p.ah 0 l)(m:aM l=p.ah.length):∀t∈l,jc t<=100*cU p/\aU t<=cU p:=fun t M=>by
 have Y:b9 pW p.ah<=100*b9 (fun n:Nd=>n.s.length+n.aw.length+1) p.ah:=lI fun n _=>by grind[pW]
 have o:b9 jc l=b9 pW p.ah:=by rw[<-Ay,wh l 0,<-dn.all G m]
 have Z:=rP (f:=jc) M;have H:=yZ M
 have X:=uf (fun n:Nd=>n.s.length+n.aw.length+1) p.ah fun n _=>by omega
 grind[cU]
theorem PI(l:List ab):l.length<=wS l:=uf _ l fun s _=>by omega
def PJ{l:List ab}{s:ab}(h:s∈l):s.length+1<=wS l:=rP (f:=fun s:ab=>s.length+1) h
structure Small(p:Src)(n:Nat):Prop where
 aq:p.aq.length<=n/\∀s∈p.aq,s.length<=n
 aj:p.aj.length<=n/\∀a∈p.aj,a.name.length<=n
 av:p.av.length<=n/\∀f∈p.av,f.name.length<=n/\f.params.length<=n/\∀s∈f.params,s.length<=n
 ah:p.ah.length<=n/\∀x∈p.ah,x.s.length<=n/\x.aw.length<=n
def gn(p:Src):Small p (cU p):=by
 have a1:=PI p.aq
 have F:=uf (fun a:Ar=>a.name.length+1) p.aj fun a _=>by omega
 have A:=uf (fun f:Fn=>f.name.length+wS f.params+1) p.av fun a _=>by omega
 have b:=uf (fun n:Nd=>n.s.length+n.aw.length+1) p.ah fun a _=>by omega
 unfold cU;refine⟨⟨by omega,fun s G=>?_⟩,⟨by omega,fun a v=>?_⟩,⟨by omega,fun f l=>?_⟩,⟨by omega,fun n c=>?_⟩⟩
 ·have:=PJ G;omega
 ·grind[rP]
 ·have:=rP (f:=fun f:Fn=>f.name.length+wS f.params+1) l;refine⟨by omega,by grind[PI],fun s G=>by have:=PJ G;omega⟩
 grind[rP]
structure zJ(st:PS)(n:Nat):Prop where
 aq:st.aq.length<=n
 aj:st.aj.length<=n
 av:st.av.length<=n
 params:∀x∈st.av,x.2.length<=n
def N1:∀(f:Nat)(T:List ab)(p:RS)(l:List ab)(q:RS),pH f T p=some (l,q)->l.length<=T.length+f
 |0,_,_,_,_,h=>by cases h
 |f+1,T,p,l,q,h=>by
  rw[pH]at h;split at h
  ·have:=N1 f _ _ l q h
   grind
  grind
def zJ.up{st:PS}{n:Nat}(h:zJ st n):zJ st (n+1):=by
 have⟨a,b,c,d⟩:=h;exact zeY
def ZC{f n:Nat}{p q:RS}{st Y:PS}(hf:f<=n)(h:iW f p st=some (q,Y))(G:zJ st n):zJ Y (n+1):=by
 have R:=G.up;have⟨a,b,c,d⟩:=G;unfold iW at h;split at h
 ·split at h
  ·split at h
   ·cases h;exact zeZ
   grind
  ·cases h;exact zeZ
 ·split at h
  ·cases j:pH f [] (want (cv p.next) [40])with
   |none=>grind
   |some r =>
    have⟨l,v⟩:=r;rw[j]at h;simp only at h;have M:=N1 _ _ _ _ _ j;split at h
    ·split at h
     ·cases h
     ·cases h;refine⟨by grind,by grind,by grind,fun x hx=>?_⟩
      grind
    grind
  grind
def N5{f:Nat}:∀(G n:Nat)(p q:RS)(st Y:PS),f<=n->n2 G f p st=some (q,Y)->zJ st n->zJ Y (n+G)
 |0,n,p,q,st,Y,_,h,_=>by cases h
 |G+1,n,p,q,st,Y,m,h,H=>by
  rw[n2]at h;split at h
  ·cases l:iW f p st with
   |none=>grind
   |some r =>
    have⟨v,B⟩:=r;rw[l]at h;simp only at h;have:=N5 G (n+1) v q B Y aH h (ZC m l H)
    grind
  ·cases h;have⟨a,b,c,d⟩:=H;exact zeY
mutual
def QI:∀(t:T)(a:Nat),∀n∈dW a t,n.aw.length<=aU t
 |.mk m l,a,n,h=>by
  rw[dW]at h;rw[aU]
  rcases iY h with rfl|h
  ·grind[dw,eP]
  ·have:=zW l (a+1) n h;omega
def zW:∀(l:List T)(a:Nat),∀n∈bZ a l,n.aw.length<=aM l
 |[],a,n,h=>by grind[bZ]
 |t::r,a,n,h=>by
  rw[bZ]at h;rw[aM]
  rcases oO h with h|h
  ·have:=QI t a n h;omega
  ·have:=zW r _ n h;omega
end
end Go.Im
namespace Go.Sp
open Go.Xp
structure EA(p:Src)(ls:List (List S)):Prop where
 len:ls.length=p.av.length
 at_:∀(i:Nat)f l,p.av[i]?=some f->ls[i]?=some l->0<=f.body/\S.cJ l=true/\wt (cj l)<=1000000000/\∃t,sub p.ah (fN p.ah) f.body.toNat=some t/\er t=cj l
def Vb(a:E)(A:a.ok=true):(a.bS).length+4<=wt a.tree:=(E.len a A).1
def Uf{l:List S}(A:S.cJ l=true)(s:wt (cj l)<=1000000000) :
  ∃ts t q f,Go.Sp.iv (fY E.bS l)=some ts/\(fY E.bS l).length<=1000000000/\ts.length<=1000000000/\1+f<=1099511627776/\mS f (.block 1) ⟨ts,0,(fY E.bS l).length,0,0⟩=some (t,q)/\q.l=ts/\((q.code=0/\q.i=ts.length/\fv l 1=true)\/(q.code≠0/\fv l 1=false)):=by
 have c:=s9 E.bS Vb A;generalize hx:fY E.bS l=x at *;have⟨ts,r,b⟩:=(Jy A).all;rw[hx]at b;have J:=b.len;have m:On ⟨ts,0,x.length,0,0⟩ ts:=⟨rfl,bp _,rfl,b.kinds⟩;have k:rs (x.length:Int) (nO ts) (.block 1) ts≠.error bO:=wu;have⟨t,q,C,j⟩:=(js (nO ts)).block 1 ts _ m k;have H:=EY (e:=(x.length:Int)) (d:=1) (rest:=[]) A r;rw[eT]at H
 change eZ _ q t (block (x.length:Int) 1 ts)at j
 refine⟨ts,t,q,KF (nO ts),b.all,by omega,by omega,by unfold KF nO;omega,C _ (aY _),?_⟩
 cases o:fv l 1 with
 |true =>
  have⟨u,_,n⟩:=H.1 o;rw[n]at j;have⟨_,O,T,_⟩:=j;have T:q.l=ts:=T;refine⟨T,.inl ⟨O.code,?_,rfl⟩⟩;have v:=congrArg List.length O.rest;have N:=O.le;rw[sa]at v;rw[T]at v N;simp only[length_nil]at v;omega
 |false =>
  have⟨G,n⟩:=H.2 o;rw[n]at j;exact⟨j.2.2.2.1,.inr ⟨cZ.err j,rfl⟩⟩
end Go.Sp
namespace Go.Im
open Go.Xp Go.Sp
def LH(p:Src)(x:ab):Bool:=match qh x (x.length+1) 0 []with
 |none=>false
 |some (s,c,z)=>if c≠0 then false else match n2 (s.length+1) (40*s.length+100) ⟨s,0,(x.length:Int),0,0⟩ .empty with
  |none=>false
  |some (q,st)=>if q.code≠0 then false else if aM st.aE>800 then false else same p st
def fI(p:Src):Bool:=if p.ah.length>800 then false else match kG p.ah p.av 0 []with
 |none=>false
 |some (l,e)=>if e≠p.ah.length then false else if l.all iG=false then false else LH p (lR eg ef p l)
section
variable{p:Src}
theorem Ai{x:ab}{ts:List Tok}{c z:Int}{q:RS}{st:PS}(h:Reads x ts c z q st):LH p x=if c≠0 then false else if q.code≠0 then false else if aM st.aE>800 then false else same p st:=by
 unfold LH;rw[h.lex];simp only;rw[h.read]
theorem QG{l:List T}{ls:List (List S)}(h:eH p l)(hf:Forms l ls):fI p=ls.all fun b=>fv b 1:=by
 unfold fI;have W:=h.few;rw[ae aH,h.si];simp only;rw[ae zfg,ae (by rw[h.k];decide)];have⟨s,c,z,q,st,v⟩:=reads (lR eg ef p l);have⟨o,d,G⟩:=LY h hf v
 grind[Ai]
theorem om(h:fI p=true):∃l,eH p l:=by
 unfold fI at h
 by_cases S:p.ah.length>800
 ·grind
 rw[ae S]at h
 cases i:kG p.ah p.av 0 []with
 |none=>grind
 |some y =>
  have⟨l,e⟩:=y;rw[i]at h;simp only at h
  by_cases j:e=p.ah.length
  ·subst j;rw[ae zfg]at h
   by_cases N:l.all iG=false
   ·grind
   rw[ae N]at h;have⟨s,c,z,q,st,v⟩:=reads (lR eg ef p l);rw[Ai v]at h;split at h
   ·cases h
   split at h
   ·cases h
   ·rename_i W;split at h
    ·cases h
    ·exact⟨l,LI aH i (v.ok aH).1 h⟩
  grind
def aar(h:pf p=some false):fI p=false:=by
 cases m:fI p with
 |false=>rfl
 |true =>
  have⟨l,o⟩:=om m;rw[o.pf]at h;cases h
end
def dn.ix{ah:List Nd}:∀(l:List T)(a i:Nat)(t:T),dn ah a l->l[i]?=some t->dM ah (a+aM (l.take i)) t
 |[],a,i,t,_,h=>by simp at h
 |u::r,a,0,t,h,j=>by
  grind[dn,dM,aM]
 |u::r,a,i+1,t,h,j=>by
  rw[dn]at h;have:=dn.ix r (a+aU u) i t h.2 (by simpa using j);rw[take_succ_cons,aM,<-mg];exact this
mutual
def P5:∀t:T,wt t<=jc t
 |.mk n l=>by have:=Hv l;rw[wt,jc];omega
def Hv:∀l:List T,gI l<=gM l
 |[]=>aY _
 |t::r=>by have:=P5 t;have:=Hv r;rw[gI,gM];omega
end
def My{p:Src}{l:List T}{ls:List (List S)}(h:eH p l)(hf:Forms l ls)(q:cU p<=1048576):EA p ls:=by
 have N:=en.len h.av;refine⟨by rw[hf.len];omega,fun i f b o c=>?_⟩;have m:=(bY c).1;have d:=hf.len
 have M:l[i]?=some (l[i]'aH):=by simp
 have⟨G,C⟩:=hf.at_ i _ b M c;have⟨e,n⟩:=en.at_ h.av i f _ o M;have O:=dn.ix l 0 i _ h.st M;rw[dJ]at e O;have j:=bP M;have X:=Au h.st h.len _ j;have k:=P5 (l[i]'aH);have W:=dM.le _ _ O;refine⟨by omega,G,by grind[TW],_,?_,C⟩;rw[e,ik];exact(wa _).1 _ _ O zfz
def MF{N:T->ab}{inl:List ab->Nat->ab}{g:List S->ab}:∀(av:List Fn)(l:List T)(ls:List (List S))(W:ab),ls.length=l.length->(∀(i:Nat)t b,l[i]?=some t->ls[i]?=some b->ko N inl 0 t=g b) ->
  dU (cL N inl) W (av.zip l)=dU (fun x:Fn × List S=>((((([102,117,110,99,32]++x.1.name)++[40])++cE x.1.params)++[41,32])++g x.2)++[10]) W (av.zip ls)
 |[],l,ls,W,_,_=>by rfl
 |f::r,[],[],W,_,_=>by rfl
 |f::r,t::l,b::ls,W,M,h=>by
  have o:=h 0 t b rfl rfl;rw[zip_cons_cons,zip_cons_cons,dU,dU,MF r l ls _ zff fun i k A q c=>h (i+1) k A zff zff];simp only[cL,o]
 |f::r,[],b::ls,W,M,_=>by simp at M
 |f::r,t::l,[],W,M,_=>by simp at M
def xv{p:Src}{l:List T}(h:eH p l):∀a∈p.aj,0<=a.size/\a.size<=2147483647:=fun a v=>by
 have:=ea.1 h.aj a v
 exact zeT
def eH.uniq{p:Src}{l W:List T}(h:eH p l)(e:eH p W):l=W:=by
 have o:=h.si;rw[e.si]at o;exact((Prod.mk.injEq _ _ _ _ ▸ sZ o).1).symm
def AP(n:Nd)(x:List ab):ab :=
 if n.ai=1 then n5 n.n
 else if n.ai=3 then((n.s++[91])++x.getD 0 [])++[93]
 else if n.ai=4 then((n.s++[40])++cE x)++[41]
 else if n.ai=5 then((40::n.s)++x.getD 0 [])++[41]
 else if n.ai=6 then(((((40::x.getD 0 [])++[32])++n.s)++[32])++x.getD 1 [])++[41]
 else n.s
mutual
def gw:T->ab
 |.mk n l=>AP n (lq l)
def lq:List T->List ab
 |[]=>[]
 |t::r=>gw t::lq r
end
def Nj(t:T):gw t=AP t.n (lq t.aw):=by cases t;rfl
theorem Cm(l:List T):lq l=l.map gw:=by
 induction l with
 |nil=>rfl
 |cons t l O=>grind[lq]
theorem vq:∀(N:Nat)(t:T),aU t<=N->qi t->(gw t).length+4<=jc t:=by
 intro N
 induction N with
 |zero=>grind[eI]
 |succ N O =>
  intro t C c;rw[eI]at C;rw[mY]at c
  have Q:∀a∈t.aw,(gw a).length+4<=jc a:=fun a v=>O a (by have:=yZ v;omega) (gx c.2 v)
  have w:((lq t.aw).map fun y=>y.length+2).sum<=gM t.aw:=by
   have:∀(l:List T),(∀a∈l,(gw a).length+4<=jc a)->((lq l).map fun y=>y.length+2).sum<=gM l:=by
    intro l
    induction l with
    |nil=>intro _;simp[lq]
    |cons a l z =>
     intro h;have o:=h a (mem_cons_self)
     have d:=z fun b i=>h b (ec _ i)
     rw[lq,gM,List.map_cons,List.sum_cons];omega
   grind
  have hx:=vt (l:=t.aw) (f:=gw) (fun a v=>by grind);have G:=Sk t.aw;have u:=hx 0;have A:=hx 1;rw[<-Cm]at u A;rw[Nj,kZ];unfold AP
  grind[ss,br,length_cons,length_nil,rC]
mutual
theorem Nk:∀t:T,gw (er t)=gw t
 |.mk n l=>by rw[er,gw,gw,Ck l];rfl
theorem Ck:∀l:List T,lq (bl l)=lq l
 |[]=>by rw[bl]
 |t::r=>by rw[bl,lq,lq,Nk t,Ck r]
end
mutual
def kr:∀a:E,a.ok=true->gw a.tree=a.full
 |.num n,h=>by
  simp only[E.ok,aI,decide_eq_true_eq]at h;rw[E.tree,gw,E.full];unfold AP n5
  grind
 |.name s,h=>by
  rfl
 |.at_ s a,h=>by
  exact zdA
 |.call s l,h=>by
  simp only[E.ok,aI]at h;rw[E.tree,gw,I5 l h.2,E.full];simp[AP]
 |.un s a,h=>by
  exact zdA
 |.bin s a b,h=>by
  simp only[E.ok,aI]at h;have c:=kr a h.1.2;have G:=kr b h.2;rw[E.tree,gw,lq,lq,lq,c,G,E.full];simp[AP]
def I5:∀l:List E,E.cJ l=true->lq (E.aE l)=E.rX l
 |[],_=>rfl
 |a::l,h=>by
  simp only[E.cJ,aI]at h;rw[E.aE,lq,E.rX,kr a h.1,I5 l h.2]
end
mutual
def VC(inl:List ab->Nat->ab):∀(t:T)(d:Nat),gY gw inl d (er t)=gY gw inl d t
 |.mk n l,d=>by
  have h:=Nk (.mk n l);rw[er]at h |-;rw[gY,gY,h,EW inl l d,Cd]
  have:(bl l).map gw=l.map gw:=by grind[Cm,Ck]
  rw[this];rfl
def EW(inl:List ab->Nat->ab):∀(l:List T)(d:Nat),kV gw inl d (bl l)=kV gw inl d l
 |[],d=>by rw[bl]
 |t::r,d=>by rw[bl,kV,kV,Iz inl t d,EW inl r d]
def Iz(inl:List ab->Nat->ab):∀(t:T)(d:Nat),ko gw inl d (er t)=ko gw inl d t
 |.mk n l,d=>by rw[er,ko,ko,GY inl l (d+1)]
def GY(inl:List ab->Nat->ab):∀(l:List T)(d:Nat),sC gw inl d (bl l)=sC gw inl d l
 |[],d=>by rw[bl]
 |t::r,d=>by rw[bl,sC,sC,VC inl t d,GY inl r d]
end
mutual
def R4:∀(s:S),s.ok=true->∀d,gY gw ef d s.tree=s.bS E.full
 |.set s a,h,d=>by
  exact zdN
 |.var s a,h,d=>by
  exact zdN
 |.ret a,h,d=>by
  exact zd3
 |.do_ a,h,d=>by
  exact zd3
 |.put s a b,h,d=>by
  simp only[S.ok,aI]at h;rw[S.tree,gY,List.map_cons,List.map_cons,kr a h.2.1,kr b h.2.2,S.bS];simp[sD]
 |.if1 c b,h,d=>by
  exact zcT
 |.if2 c b m,h,d=>by
  simp only[S.ok,aI]at h;have i:=tF b h.2.1 d;have O:=tF m h.2.2 d;rw[S.tree,gY,List.map_cons,kr c h.1,kV,kV,kV,kV,i,O,S.bS];simp[sD,fY]
 |.while_ c b,h,d=>by
  exact zcT
def tF:∀(l:List S),S.cJ l=true->∀d,ko gw ef d (.mk ⟨14,0,0,[],[]⟩ (S.aE l))=fY E.full l
 |l,h,d=>by
  rw[ko,GZ l h (d+1),ef,xy];rfl
def GZ:∀(l:List S),S.cJ l=true->∀d,sC gw ef d (S.aE l)=l.map (S.bS E.full)
 |[],_,d=>by rfl
 |a::l,h,d=>by
  simp only[S.cJ,aI]at h;rw[S.aE,sC,List.map_cons,R4 a h.1,GZ l h.2]
end
def VE:∀(N:Nat)(t:T),aU t<=N->qi t->∀d,(gY gw ef d t).length+4<=jc t/\(ko gw ef d t).length<=jc t:=by
 intro N
 induction N with
 |zero=>grind[iD]
 |succ N Q =>
  intro t C c d;have w:=eI t;rw[mY]at c
  have O:∀a∈t.aw,∀d,(gY gw ef d a).length+4<=jc a/\(ko gw ef d a).length<=jc a:=fun a v d=>Q a (by have:=yZ v;omega) (gx c.2 v) d
  have hx:=vt (l:=t.aw) (f:=gw) (fun a v=>by have:=vq (aU a) a (aY _) (gx c.2 v);omega);have i:=vt (l:=t.aw) (f:=ko gw ef d) (fun a v=>(O a v d).2);have G:=Sk t.aw;have o:=kZ t;have R:=vq (aU t) t (aY _) ((mY t).2 c);have u:=hx 0;have z:=hx 1;have m:=i 1;have n:=i 2;constructor
  ·rw[G0,B3];unfold sD
   exact zcf
  ·rw[EX,CO]
   have:=CR (f:=gY gw ef (d+1)) (l:=t.aw) fun a v=>(O a v (d+1)).1
   have e:∀l:List ab,(ef l d).length=3+kR l:=fun l=>by
    grind[br,rp,length_cons,length_nil,ef,kR]
   grind
def Q9{p:Src}{l:List T}(hn:kF p)(G:dn p.ah 0 l)(m:aM l=p.ah.length):(lR gw ef p l).length<=100*cU p:=by
 have v:=dn.num hn.ah l 0 G
 have z:b9 (fun s=>(g1 s).length) p.aq<=100*wS p.aq:=lI fun s _=>by grind[br,length_cons,length_nil,g1]
 have R:b9 (fun a=>(a1 a).length) p.aj<=100*b9 (fun a:Ar=>a.name.length+1) p.aj:=lI fun a w=>by
  have:=ss (hn.aj a w)
  grind[a1]
 have q:b9 (fun x=>(cL gw ef x).length) (p.av.zip l)<=b9 (fun x:Fn × T=>(fun f:Fn=>100*(f.name.length+wS f.params+1)) x.1+jc x.2) (p.av.zip l):=Kc fun x hx=>by
  have r:=(VE (aU x.2) x.2 (aY _) (gx v (List.of_mem_zip hx).2) 0).2;have b:=rC x.1.params;rw[G8]at b
  have H:b9 (fun s=>s.length+2) x.1.params<=2*wS x.1.params:=lI fun s _=>by omega
  simp only[cL,br,length_cons,length_nil];omega
 have E:=Aq (fun f:Fn=>100*(f.name.length+wS f.params+1)) jc p.av l
 have k:b9 (fun f:Fn=>100*(f.name.length+wS f.params+1)) p.av<=100*b9 (fun f:Fn=>f.name.length+wS f.params+1) p.av:=lI fun f _=>aY _
 have Y:b9 pW p.ah<=100*b9 (fun n:Nd=>n.s.length+n.aw.length+1) p.ah:=lI fun n _=>by grind[pW]
 have o:b9 jc l=b9 pW p.ah:=by rw[<-Ay,wh l 0,<-dn.all G m]
 unfold lR cU
 grind[zQ,length_nil,jk]
def nE(x:Fn × List S):ab:=((((([102,117,110,99,32]++x.1.name)++[40])++cE x.1.params)++[41,32])++fY E.full x.2)++[10]
def WH(p:Src)(ls:List (List S)):ab:=dU nE (dU a1 (dU g1 [] p.aq) p.aj) (p.av.zip ls)
def A9{p:Src}{l:List T}{ls:List (List S)}(hf:Forms l ls):lR gw ef p l=WH p ls:=by
 unfold lR
 refine MF (g:=fY E.full) _ _ _ _ hf.len fun i t b o c=>?_
 have⟨G,C⟩:=hf.at_ i t b o c;rw[<-Iz,C];exact tF b G 0
open Classical in
noncomputable def Bn(p:Src):ab:=if h:∃l ls,fI p=true/\eH p l/\Forms l ls then WH p h.choose_spec.choose else[]
def JR{p:Src}{l:List T}{ls:List (List S)}(hf:fI p=true)(h:eH p l)(j:Forms l ls):Bn p=WH p ls:=by
 have v:∃l ls,fI p=true/\eH p l/\Forms l ls:=⟨l,ls,hf,h,j⟩;unfold Bn;rw[dif_pos v];have⟨o,b,G⟩:=v.choose_spec.choose_spec;have e:=b.uniq h;rw[<-A9 G,e,A9 j]
theorem Yl{p:Src}(hf:fI p=false):Bn p=[]:=by
 grind[Bn]
def JQ{p:Src}(hn:kF p)(n:cU p<=1048576):(Bn p).length<=104857600:=by
 cases m:fI p with
 |false=>grind[Bn]
 |true =>
  have⟨l,M⟩:=om m;have⟨t,j⟩:=M.uy;rw[JR m M j,<-A9 j];have:=Q9 hn M.st M.len;omega
def jw:ab:=[103,101,116]
def jM:ab:=[112,117,116]
def dY:ab:=[115,105,122,101]
def iI:ab:=[109,97,105,110]
def dx(s:ab):Bool:=(s==jw ||s==jM) ||s==dY
def bN{R:Type}(f:R->Bool)(l:List R):Int:=match l.findIdx? f with|some i=>(i:Int)|none => -1
def iN(p:Src)(s:ab):Int:=bN (fun f:Fn=>f.name==s) p.av
def fo(p:Src)(s:ab):Int:=bN (fun a:Ar=>a.name==s) p.aj
def eE(p:Src):List ab:=p.aj.map fun a:Ar=>a.name
def ia(p:Src):List ab:=p.av.map fun f:Fn=>f.name
def bA(p:Src):List ab:=(p.aq++eE p)++ia p
def ke(t:T):Nd:=match t.aw with|k::_=>k.n|[]=>⟨0,0,0,[],[]⟩
def bU(t:T):Bool:=(t.n.ai==4&&t.n.s==dY)&&(t.aw.length==1)
def iq(p:Src)(i:Nat):Nat:=match p.av[i]? with|some f=>f.params.length|none=>0
def gD(p:Src)(s:ab):Int:=if s=jw then 0 else if s=jM\/s=dY then 1 else match p.av.findIdx? (fun f:Fn=>f.name==s)with|some i=>(iq p i:Int)|none => -1
def ew(p:Src)(k:Nd)(ls:List ab):Bool:=(k.ai != 2 ||decide (fo p k.s<0)) ||ls.contains k.s
def dv(p:Src)(t:T)(ls:List ab):Int :=
 if bU t=true then(if ew p (ke t) ls=true then 24 else 0)
 else if gD p t.n.s = -1 then 22 else if gD p t.n.s=(t.aw.length:Int)then 0 else 23
def bG(p:Src)(t:T)(ls:List ab):Int :=
 if t.n.ai=13 then(if ls.contains t.n.s=true then 21 else if ls.length>=40 then 26 else 0)
 else if t.n.ai=2\/t.n.ai=7 then(if ls.contains t.n.s=false/\p.aq.contains t.n.s=false then 22 else 0)
 else if t.n.ai=3\/t.n.ai=8 then(if ls.contains t.n.s=true\/fo p t.n.s<0 then 24 else 0)
 else if t.n.ai=4 then dv p t ls
 else 0
structure CS where
 code:Int
 place:Int
 skip:Int
def cz(p:Src)(c:CS)(a:Nat)(t:T)(ls:List ab):CS :=
 if c.code≠0\/(a:Int)=c.skip then c
 else⟨bG p t ls,if bG p t ls≠0 then t.n.at_ else c.place,if bU t=true then(if(ke t).ai≠2 then -1 else((a+1:Nat):Int))else c.skip⟩
mutual
def eo{m:Type}(f:m->Nat->T->List ab->m):T->Nat->m->List ab->m × List ab
 |.mk n l,a,s,t=>((c6 f l (a+1) (f s a (.mk n l) t) t).1,if n.ai=13 then(c6 f l (a+1) (f s a (.mk n l) t) t).2++[n.s]else(c6 f l (a+1) (f s a (.mk n l) t) t).2)
def c6{m:Type}(f:m->Nat->T->List ab->m):List T->Nat->m->List ab->m × List ab
 |[],_,s,u=>(s,u)
 |t::r,a,s,u=>c6 f r (a+aU t) (eo f t a s u).1 (eo f t a s u).2
end
theorem vl{m:Type}(f:m->Nat->T->List ab->m)(t:T)(a:Nat)(s:m)(ls:List ab) :
  eo f t a s ls=((c6 f t.aw (a+1) (f s a t ls) ls).1,if t.n.ai=13 then(c6 f t.aw (a+1) (f s a t ls) ls).2++[t.n.s]else(c6 f t.aw (a+1) (f s a t ls) ls).2):=by
 cases t;rfl
def oW(l:List ab)(k:Nat):Bool:=match l[k]? with|some s=>(l.take k).contains s|none=>false
def tK(l:List ab):Bool:=(List.range l.length).any (oW l)
def fy(p:Src)(f:Fn)(t:T)(a:Nat):Int × Int :=
 if tK f.params=true then(21,0)else((eo (cz p) t a ⟨0,0,-1⟩ f.params).1.code,(eo (cz p) t a ⟨0,0,-1⟩ f.params).1.place)
def lx(l:List ab)(k:Nat):Bool:=match l[k]? with|some s=>dx s ||(l.take k).contains s|none=>false
def ey(l:List ab):Bool:=(List.range l.length).any (lx l)
def ez(l:List Ar):Int:=l.foldl (fun n a=>n+a.size) 0
def fD(p:Src):Bool:=p.aj.any (fun a=>a.size==0) ||((((decide (p.av.length>40) ||decide (p.aq.length>29)) ||decide (ez p.aj>8000))) ||p.av.any fun f=>decide (f.params.length>40))
def kd(f:Fn):Bool:=f.name==iI&&f.params.length==0
def eU(p:Src):List Fn->List T->Nat->Int × Int
 |f::r,t::l,a=>if(fy p f t a).1≠0 then fy p f t a else eU p r l (a+aU t)
 |_,_,_=>(0,0)
def xj(p:Src)(l:List T):Int × Int :=
 if ey (bA p)=true then(21,0)else if fD p=true then(26,0)else if p.av.any kd=false then(25,0)else eU p p.av l 0
def eu(p:Src):Bool:=fI p&&(match kG p.ah p.av 0 []with|some (l,_)=>decide ((xj p l).1=0)|none=>false)
structure SS where
 ls:List ab
 code:Int
 at_:Int
def SS.fail(c:SS)(k a:Int):SS:=if c.code=0 then⟨c.ls,k,a⟩else c
def fK(c:SS)(n:Nd)(k want:Nat):SS:=if k≠want then c.fail 23 n.at_ else c
def gQ(p:Src)(c:SS)(t:T):SS × Bool :=
 if t.n.s=jw then(fK c t.n t.aw.length 0,true)
 else if t.n.s=jM then(fK c t.n t.aw.length 1,true)
 else if t.n.s=dY then(fK (if t.aw.length=1/\ew p (ke t) c.ls=true then c.fail 24 t.n.at_ else c) t.n t.aw.length 1,false)
 else match p.av.findIdx? (fun f:Fn=>f.name==t.n.s)with
  |none=>(c.fail 22 t.n.at_,false)
  |some i=>(fK c t.n t.aw.length (iq p i),true)
def kK(p:Src)(c:SS)(t:T):SS × Bool :=
 if t.n.ai=2\/t.n.ai=7 then(if c.ls.contains t.n.s=false/\p.aq.contains t.n.s=false then c.fail 22 t.n.at_ else c,true)
 else if t.n.ai=3\/t.n.ai=8 then(if c.ls.contains t.n.s=true\/fo p t.n.s<0 then c.fail 24 t.n.at_ else c,true)
 else if t.n.ai=4 then gQ p c t
 else(c,true)
def nk(c:SS)(n:Nd):SS :=
 if n.ai≠13 then c
 else if c.ls.contains n.s=true then⟨(c.fail 21 n.at_).ls++[n.s],(c.fail 21 n.at_).code,(c.fail 21 n.at_).at_⟩
 else if c.ls.length=40 then⟨(c.fail 26 n.at_).ls++[n.s],(c.fail 26 n.at_).code,(c.fail 26 n.at_).at_⟩
 else⟨c.ls++[n.s],c.code,c.at_⟩
mutual
def oz(p:Src):T->SS->SS
 |.mk n l,c=>nk (if(kK p c (.mk n l)).2=true then kJ p l (kK p c (.mk n l)).1 else(kK p c (.mk n l)).1) n
def kJ(p:Src):List T->SS->SS
 |[],c=>c
 |t::r,c=>kJ p r (oz p t c)
end
theorem vI(p:Src)(t:T)(c:SS):oz p t c=nk (if(kK p c t).2=true then kJ p t.aw (kK p c t).1 else(kK p c t).1) t.n:=by cases t;rw[oz];rfl
mutual
def qz:T->Prop
 |.mk n l=>n.ai≠13/\kh l
def kh:List T->Prop
 |[]=>True
 |t::r=>qz t/\kh r
end
mutual
def gh:T->Prop
 |.mk n l=>(n.ai=13->kh l)/\(n.ai=2->l=[])/\eK l
def eK:List T->Prop
 |[]=>True
 |t::r=>gh t/\eK r
end
mutual
def ZU:∀t:T,qz (er t)↔qz t
 |.mk n l=>by rw[er,qz,qz,Gd l]
def Gd:∀l:List T,kh (bl l)↔kh l
 |[]=>by rw[bl]
 |t::r=>by rw[bl,kh,kh,ZU t,Gd r]
end
def Uv{l:List T}:bl l=[]↔l=[]:=by
 cases l with
 |nil=>rw[bl]
 |cons t r=>rw[bl];simp
mutual
theorem TV:∀t:T,gh (er t)↔gh t
 |.mk n l=>by rw[er,gh,gh,Gd l,PV l,Uv]
theorem PV:∀l:List T,eK (bl l)↔eK l
 |[]=>by rw[bl]
 |t::r=>by rw[bl,eK,eK,TV t,PV r]
end
mutual
def E.nv:∀a:E,qz a.tree
 |.num n=>by rw[E.tree,qz];exact⟨by simp,trivial⟩
 |.name s=>by rw[E.tree,qz];exact⟨by simp,trivial⟩
 |.at_ s a=>by rw[E.tree,qz,kh,kh];exact⟨by simp,E.nv a,trivial⟩
 |.call s l=>by rw[E.tree,qz];exact⟨by simp,E.nvs l⟩
 |.un s a=>by rw[E.tree,qz,kh,kh];exact⟨by simp,E.nv a,trivial⟩
 |.bin s a b=>by rw[E.tree,qz,kh,kh,kh];exact⟨by simp,E.nv a,E.nv b,trivial⟩
def E.nvs:∀l:List E,kh (E.aE l)
 |[]=>trivial
 |a::l=>by rw[E.aE,kh];exact⟨E.nv a,E.nvs l⟩
end
mutual
theorem E.wf:∀a:E,gh a.tree
 |.num n=>zd7
 |.name s=>zd7
 |.at_ s a=>zcW
 |.call s l=>by rw[E.tree,gh];exact⟨fun h=>absurd h zfg,fun h=>absurd h zfg,E.D5 l⟩
 |.un s a=>zcW
 |.bin s a b=>by rw[E.tree,gh,eK,eK,eK];exact⟨fun h=>absurd h zfg,fun h=>absurd h zfg,E.wf a,E.wf b,trivial⟩
theorem E.D5:∀l:List E,eK (E.aE l)
 |[]=>trivial
 |a::l=>by rw[E.aE,eK];exact⟨E.wf a,E.D5 l⟩
end
mutual
theorem S.wf:∀a:S,gh a.tree
 |.set s a=>zdJ
 |.put s a b=>zdJ
 |.if1 c b=>zeu
 |.if2 c b d=>zeu
 |.while_ c b=>zeu
 |.ret a=>zdJ
 |.do_ a=>zdJ
 |.var s a=>by simp[eK,kh,E.nv,trivial,E.wf,gh,S.tree]
theorem S.D5:∀l:List S,eK (S.aE l)
 |[]=>trivial
 |a::l=>by rw[S.aE,eK];exact⟨S.wf a,S.D5 l⟩
end
theorem YW(l:List S):gh (cj l):=by
 grind[S.D5,gh,cj]
theorem SS.ry(c:SS)(k a:Int):(c.fail k a).ls=c.ls:=by grind[fail]
theorem xf(c:SS)(n:Nd)(k w:Nat):(fK c n k w).ls=c.ls:=by unfold fK;grind[SS.fail]
theorem vQ(p:Src)(c:SS)(t:T):(kK p c t).1.ls=c.ls:=by
 unfold kK gQ;split
 ·simp only;split;(· exact c.ry _ _);rfl
 split
 ·simp only;split;(· exact c.ry _ _);rfl
 split
 ·split
  ·grind[xf]
  split
  ·grind[xf]
  split
  ·simp only;rw[xf];split;(· exact c.ry _ _);rfl
  split
  ·exact c.ry _ _
  grind[xf]
 ·rfl
mutual
def ZS(p:Src):∀(t:T),qz t->∀c,(oz p t c).ls=c.ls
 |.mk n l,h,c=>by
  rw[qz]at h;rw[oz,nk,ak h.1];split
  ·rw[F9 p l h.2,vQ]
  grind[vQ]
def F9(p:Src):∀(l:List T),kh l->∀c,(kJ p l c).ls=c.ls
 |[],_,c=>by rw[kJ]
 |t::r,h,c=>by
  rw[kh]at h;rw[kJ,F9 p r h.2,ZS p t h.1]
end
theorem SS.Ci{c:SS}(h:c.code≠0)(k a:Int):c.fail k a=c:=by grind[fail]
theorem SS.tg(c:SS){k:Int}(N:k≠0)(a:Int):(c.fail k a).code≠0:=by
 grind[fail]
def Sj{c:SS}(h:c.code≠0)(n:Nd)(k w:Nat):fK c n k w=c:=by grind[SS.Ci,fK]
def Vi(p:Src){c:SS}(h:c.code≠0)(t:T):(kK p c t).1=c:=by
 unfold kK gQ;simp only[SS.Ci h,Sj h,ite_self]
 grind
theorem y7{c:SS}(h:c.code≠0)(n:Nd):(nk c n).code≠0:=by
 unfold nk
 grind[SS.Ci]
mutual
theorem TB(p:Src):∀(t:T)(c:SS),c.code≠0->(oz p t c).code≠0
 |.mk n l,c,h=>by
  rw[oz];refine y7 ?_ n;rw[Vi p h];split
  ·exact vJ p l c h
  ·exact h
theorem vJ(p:Src):∀(l:List T)(c:SS),c.code≠0->(kJ p l c).code≠0
 |[],c,h=>by grind[kJ]
 |t::r,c,h=>by rw[kJ];exact vJ p r _ (TB p t c h)
end
def R5(p:Src){c:CS}(h:c.code≠0)(a:Nat)(t:T)(ls:List ab):cz p c a t ls=c:=by grind[cz]
mutual
theorem Zo(p:Src):∀(t:T)(a:Nat)(c:CS)(ls:List ab),c.code≠0->(eo (cz p) t a c ls).1=c
 |.mk n l,a,c,ls,h=>by rw[eo,R5 p h];exact vn p l _ c ls h
theorem vn(p:Src):∀(l:List T)(a:Nat)(c:CS)(ls:List ab),c.code≠0->(c6 (cz p) l a c ls).1=c
 |[],a,c,ls,h=>by rw[c6]
 |t::r,a,c,ls,h=>by
  have o:=Zo p t a c ls h;rw[c6,o];exact vn p r _ c _ h
end
def AE(a:Nat)(r:CS × List ab)(q:SS):Prop:=(r.1.code=0/\q.code=0/\r.2=q.ls/\r.1.skip<(a:Int)/\q.ls.length<=40)\/(r.1.code≠0/\q.code≠0)
def RX(p:Src)(t:T)(hw1:t.n.ai=13->kh t.aw)(Xz:∀k∈t.aw,k.n.ai=2->k.aw=[])
  (ih:∀(a:Nat)(r:CS)(q:SS),r.code=0->q.code=0->r.skip<(a:Int)->q.ls.length<=40->AE (a+aM t.aw) (c6 (cz p) t.aw a r q.ls) (kJ p t.aw q))
  (a:Nat)(r:CS)(q:SS)(hr:r.code=0)(Y:q.code=0)(hs:r.skip<(a:Int))(H:q.ls.length<=40):AE (a+aU t) (eo (cz p) t a r q.ls) (oz p t q):=by
 have NN:¬(r.code≠0\/(a:Int)=r.skip):=by
  omega
 obtain⟨J,m⟩:∃J,cz p r a t q.ls=⟨bG p t q.ls,J,if bU t=true then(if(ke t).ai≠2 then -1 else((a+1:Nat):Int))else r.skip⟩:=by
  unfold cz;simp_all
 have sM:=eI t
 have e:∀x:SS,bG p t q.ls≠0->x.code≠0->AE (a+aU t) (eo (cz p) t a r q.ls) x:=fun x N v=>by
  refine .inr ⟨?_,v⟩
  grind[vl,vn]
 have go:bG p t q.ls=0->bU t=false->t.n.ai≠13->kK p q t=(q,true)->AE (a+aU t) (eo (cz p) t a r q.ls) (oz p t q):=fun N v O h4=>by
  have:=ih (a+1) ⟨0,J,r.skip⟩ q rfl Y zff H;rw[vl,vI,h4,m,N,v,ae O,nk,ak O]
  grind
 by_cases j:t.n.ai=13
 ·have X:=hw1 j
  have G:bU t=false:=by grind[bU]
  have b:kK p q t=(q,true):=by grind[kK]
  have l:(kJ p t.aw q).ls=q.ls:=F9 p t.aw X q
  have E:bG p t q.ls=if q.ls.contains t.n.s=true then 21 else if q.ls.length>=40 then 26 else 0:=by
   unfold bG;omega
  rw[vI,b];simp only[if_true]
  by_cases o:q.ls.contains t.n.s=true
  ·refine e _ zff ?_;rw[nk,ae aH,l,ak o]
   grind[SS.tg]
  by_cases SW:q.ls.length>=40
  ·refine e _ aH ?_;rw[nk,ae aH,l,ae o,ak aH]
   grind[SS.tg]
  have M:bG p t q.ls=0:=by grind
  have:=ih (a+1) ⟨0,J,r.skip⟩ q rfl Y zff H;rw[nk,ae aH,l,ae o,ae aH,vl,m,M,G,ak j];refine zbw ?_;rw[show a+aU t=a+1+aM t.aw by omega]
  rcases this with⟨k1,k2,k3,k4,k5⟩|⟨k1,k2⟩
  ·refine .inl ⟨k1,k2,?_,k4,?_⟩
   ·grind
   grind
  ·exact .inr ⟨k1,k2⟩
 by_cases v:t.n.ai=2\/t.n.ai=7
 ·have G:bU t=false:=by
   grind[bU]
  by_cases o:q.ls.contains t.n.s=false/\p.aq.contains t.n.s=false
  ·refine e _ (by grind[bG]) ?_
   have b:kK p q t=(q.fail 22 t.n.at_,true):=by grind[kK]
   rw[vI,b];refine y7 ?_ t.n;simp[if_true,vJ,SS.tg]
  simp_all[bG,ae,ak,kK]
 by_cases O:t.n.ai=3\/t.n.ai=8
 ·have G:bU t=false:=by
   grind[bU]
  by_cases o:q.ls.contains t.n.s=true\/fo p t.n.s<0
  ·refine e _ (by grind[bG]) ?_
   have b:kK p q t=(q.fail 24 t.n.at_,true):=by grind[kK]
   rw[vI,b];refine y7 ?_ t.n;simp[if_true,vJ,SS.tg]
  simp_all[bG,ae,ak,kK]
 by_cases h4:t.n.ai=4
 ·have E:bG p t q.ls=dv p t q.ls:=by grind[bG]
  have b:kK p q t=gQ p q t:=by grind[kK,gQ]
  have u:∀x:SS × Bool,gQ p q t=x->bG p t q.ls≠0->x.1.code≠0->AE (a+aU t) (eo (cz p) t a r q.ls) (oz p t q):=fun x hx N v=>by
   grind[vI,y7,vJ]
  have abK:bU t=((t.n.s==dY)&&(t.aw.length==1)):=by unfold bU;grind
  have d:∀w:Nat,t.n.s≠dY->gD p t.n.s=(w:Int)->gQ p q t=(fK q t.n t.aw.length w,true)->AE (a+aU t) (eo (cz p) t a r q.ls) (oz p t q):=fun w e1 e2 e3=>by
   have G:bU t=false:=by grind
   have Q:dv p t q.ls=if(w:Int)=(t.aw.length:Int)then 0 else 23:=by
    grind[dv]
   by_cases B:t.aw.length=w
   ·simp_all[ak,fK,ae]
   ·refine u _ e3 aH ?_;rw[fK,ak B]
    grind[SS.fail]
  by_cases hg:t.n.s=jw
  ·exact d 0 (by rw[hg];decide) (by grind[gD]) (by grind[gQ])
  by_cases hp:t.n.s=jM
  ·exact d 1 (by rw[hp];decide) (by grind[gD]) (by grind[gQ,fK,T.n,T.aw])
  by_cases G:t.n.s=dY
  ·have z:gQ p q t=(fK (if t.aw.length=1/\ew p (ke t) q.ls=true then q.fail 24 t.n.at_ else q) t.n t.aw.length 1,false):=by
    unfold gQ
    grind
   by_cases B:t.aw.length=1
   ·have Fu:bU t=true:=by grind
    have Q:dv p t q.ls=if ew p (ke t) q.ls=true then 24 else 0:=by grind[dv]
    by_cases hb:ew p (ke t) q.ls=true
    ·simp_all[ak,fK,ae,SS.tg]
    ·have A:gQ p q t=(q,false):=by simp_all[ae,fK]
     rw[vI,b,A,nk,ak j];refine zbw ?_
     have M:bG p t q.ls=0:=by grind
     obtain⟨k,W⟩:∃k,t.aw=[k]:=by
      match H:t.aw,B with
      |[k],_=>simp
     have R:ke t=k.n:=by grind[ke]
     have S:k.n.ai=2:=by
      grind[ew,Bool.or_eq_false_iff]
     have C:k.aw=[]:=Xz k zff S
     have hk1:aU k=1:=by rw[eI,C,aM]
     have F:∀c:CS,((a+1:Nat):Int)=c.skip->cz p c (a+1) k q.ls=c:=fun c o=>by grind[cz]
     rw[vl,m,M,Fu,ae j,W,R];simp only[if_true,c6];rw[vl,C];simp only[c6];rw[ae aH,F _ rfl,ae aH];refine .inl ⟨rfl,Y,rfl,?_,H⟩
     grind[aM]
   ·have Z:bU t=false:=by grind
    refine u _ z ?_ ?_
    ·rw[E];unfold dv;rw[Z,ae aC]
     grind[gD]
    ·rw[ae (fun h=>B h.1),fK,ak B]
     grind[SS.fail]
  have Ji:gD p t.n.s=match p.av.findIdx? (fun f:Fn=>f.name==t.n.s)with|some i=>(iq p i:Int)|none => -1:=by
   unfold gD;grind
  have z:gQ p q t=match p.av.findIdx? (fun f:Fn=>f.name==t.n.s)with|none=>(q.fail 22 t.n.at_,false)|some i=>(fK q t.n t.aw.length (iq p i),true):=by
   unfold gQ
   grind
  cases hf:p.av.findIdx? (fun f:Fn=>f.name==t.n.s)with
  |some i =>
   grind
  |none =>
   simp_all[SS.tg,dv,dY,Bool.false_and,ae]
 simp_all[bG,ae,bU,kK]
def Hu:∀{l:List T},eK l->∀k∈l,gh k
 |[],_,k,N=>by cases N
 |t::r,h,k,N=>by
  rw[eK]at h
  rcases iY N with rfl|N
  ·exact h.1
  ·exact Hu h.2 k N
mutual
def Yy(p:Src):∀(t:T),gh t->∀(a:Nat)(r:CS)(q:SS),r.code=0->q.code=0->r.skip<(a:Int)->q.ls.length<=40->AE (a+aU t) (eo (cz p) t a r q.ls) (oz p t q)
 |.mk n l,o=>by
  rw[gh]at o;refine RX p (.mk n l) o.1 (fun k N b=>?_) (Yx p l o.2.2);have:=Hu o.2.2 k N;have⟨m,j⟩:=k;rw[gh]at this;exact this.2.1 b
def Yx(p:Src):∀(l:List T),eK l->∀(a:Nat)(r:CS)(q:SS),r.code=0->q.code=0->r.skip<(a:Int)->q.ls.length<=40->AE (a+aM l) (c6 (cz p) l a r q.ls) (kJ p l q)
 |[],_,a,r,q,v,J,G,M=>by rw[c6,kJ,aM];grind[AE]
 |t::l,m,a,r,q,v,J,G,M=>by
  rw[eK]at m;rw[c6,kJ,aM]
  rcases Yy p t m.1 a r q v J G M with⟨R,O,S,w,d⟩|⟨R,O⟩
  ·rw[S];have:=Yx p l m.2 (a+aU t) _ _ R O w d
   grind
  ·exact .inr ⟨by grind[vn],vJ p l _ O⟩
end
def jr(c k:Int):Int:=if c=0 then k else c
def nJ(a:Ar):Bool:=decide (a.size<1) ||decide (a.size>8000)
def ly(p:Src):Bool:=match p.av.findIdx? (fun f:Fn=>f.name==iI)with|none=>true|some i=>decide (iq p i>0)
def uX(p:Src):Bool:=(decide (p.av.length>40) ||decide (p.aq.length>29)) ||decide (ez p.aj>8000)
def rN(p:Src)(c:Int):Int :=
 if p.aj.any nJ=true then jr c 26
 else if ly p=true then jr (if(p.av.any fun f=>decide (f.params.length>40))=true then jr (if uX p=true then jr c 26 else c) 26 else(if uX p=true then jr c 26 else c)) 25
 else if(p.av.any fun f=>decide (f.params.length>40))=true then jr (if uX p=true then jr c 26 else c) 26 else(if uX p=true then jr c 26 else c)
def rJ(f:Fn)(c:SS):SS:=⟨f.params,if tK f.params=true then jr c.code 21 else c.code,if tK f.params=true/\c.code=0 then 0 else c.at_⟩
def oo(p:Src):List Fn->List T->SS->SS
 |f::r,t::l,c=>oo p r l (if c.code=0 then oz p t (rJ f c)else c)
 |_,_,c=>c
def MI(p:Src)(l:List T):SS:=oo p p.av l ⟨[],rN p (if ey (bA p)=true then 21 else 0),0⟩
def yJ(p:Src):∀(v:List Fn)(l:List T)(c:SS),c.code≠0->(oo p v l c).code≠0
 |f::r,t::l,c,h=>by rw[oo,ae h];exact yJ p r l c h
 |[],_,c,h=>by grind[oo]
 |f::r,[],c,h=>by grind[oo]
def WE(p:Src)(f:Fn)(t:T)(a:Nat)(c:SS)(l:gh t)(Y:c.code=0)(X:f.params.length<=40):(fy p f t a).1=0↔(oz p t (rJ f c)).code=0:=by
 unfold fy
 by_cases W:tK f.params=true
 ·rw[ak W]
  have:(rJ f c).code≠0:=by unfold rJ;rw[ak W];unfold jr;grind
  grind[TB]
 ·rw[ae W]
  have J:(rJ f c).code=0:=by grind[rJ]
  have o:=Yy p t l a ⟨0,0,-1⟩ (rJ f c) rfl J zff X;show(eo (cz p) t a ⟨0,0,-1⟩ (rJ f c).ls).1.code=0↔_
  rcases o with⟨R,O,_⟩|⟨R,O⟩
  ·omega
  omega
theorem I4(p:Src):∀(v:List Fn)(l:List T)(a:Nat)(c:SS),c.code=0->(∀t∈l,gh t)->(∀f∈v,f.params.length<=40)->((eU p v l a).1=0↔(oo p v l c).code=0)
 |f::r,t::l,a,c,W,m,X=>by
  have o:=WE p f t a c (m t mem_cons_self) W (X f mem_cons_self);rw[eU,oo,ak W]
  by_cases h:(fy p f t a).1=0
  ·rw[ae aH];exact I4 p r l _ _ (o.1 h) (fun u M=>m u (ec _ M)) (fun g Y=>X g (ec _ Y))
  simp_all[ak,yJ]
 |[],_,a,c,W,_,_=>by rw[eU,oo];(· omega);all_goals(intros;simp_all)
 |f::r,[],a,c,W,_,_=>by rw[eU,oo];(· omega);all_goals(intros;simp_all)
def cells_from(l:List Ar):∀n:Int,l.foldl (fun n a=>n+a.size) n=n+ez l:=by
 induction l with
 |nil=>grind[ez]
 |cons a l O =>
  grind[ez]
theorem KX(a:Ar)(l:List Ar):ez (a::l)=a.size+ez l:=by
 unfold ez;rw[List.foldl_cons,cells_from];grind[ez]
def Qt{l:List Ar}(h:∀a∈l,0<=a.size):0<=ez l/\∀a∈l,a.size<=ez l:=by
 induction l with
 |nil=>simp[ez,Ar.size]
 |cons b l O =>
  grind[ec,mem_cons_self,KX]
theorem uW{l:List ab}(h:ey l=false){i j:Nat}{s:ab}(hi:l[i]?=some s)(Y:l[j]?=some s):i=j:=by
 have R:∀x y:Nat,x<y->l[x]?=some s->l[y]?=some s->False:=fun x y o q b=>by
  have B:=(bY b).1;unfold ey at h;rw[any_eq_false]at h;have:=h y (List.mem_range.2 B);unfold lx at this;rw[b]at this;simp only[Bool.or_eq_true,not_or]at this
  grind[p6,List.mem_take_iff_getElem,List.getElem?_eq_some_iff]
 grind
theorem Ad{p:Src}(h:ey (bA p)=false):p.av.any kd=true↔ly p=false:=by
 have A:∀(i:Nat)f,p.av[i]?=some f->(bA p)[(p.aq++eE p).length+i]?=some f.name:=fun i f l=>by
  unfold bA;rw[j0 aH,Nat.add_sub_cancel_left,ia,dB,l];rfl
 unfold ly
 cases l:p.av.findIdx? (fun f:Fn=>f.name==iI)with
 |none =>
  grind[kd]
 |some i =>
  rw[List.findIdx?_eq_some_iff_getElem]at l;have⟨k,o,b⟩:=l
  have H:p.av[i]?=some p.av[i]:=by simp[k]
  simp only[iq,H];constructor
  ·intro G;have⟨f,C,e⟩:=mh.1 G;have⟨j,Y⟩:=getElem?_of_mem C;unfold kd at e
   grind[uW]
  ·intro G;simp only[gt_iff_lt,decide_eq_false_iff_not,Nat.not_lt,Nat.le_zero]at G;exact mh.2 ⟨p.av[i],List.getElem_mem k,by grind[kd]⟩
def Vy{p:Src}(ha:∀a∈p.aj,0<=a.size):(fD p=false/\ly p=false)↔rN p 0=0:=by
 have⟨v,X⟩:=Qt ha;have W:jr 0 26=26:=rfl
 have E:∀c,c≠0->jr c 25=c:=fun c h=>by grind[jr]
 have Q:∀c,jr c 25≠0:=fun c=>by
  grind[jr]
 have q:∀c,jr c 26≠0:=fun c=>by
  grind[jr]
 unfold rN
 by_cases o:p.aj.any nJ=true
 ·rw[ak o,W];refine⟨fun h=>?_,fun h=>by cases h⟩;have⟨a,b,G⟩:=mh.1 o;have C:=h.1;unfold fD at C;simp only[Bool.or_eq_false_iff,decide_eq_false_iff_not]at C;have e:=List.any_eq_false.1 C.1 a b;have r:=X a b;have O:=ha a b;unfold nJ at G
  grind
 rw[ae o]
 have m:p.aj.any (fun a=>a.size==0)=false:=by
  rw[any_eq_false]
  grind[nJ]
 have n:fD p=(uX p ||p.av.any fun f=>decide (f.params.length>40)):=by
  unfold fD uX;grind
 grind
def Wg{p:Src}{l:List T}(ha:∀a∈p.aj,0<=a.size)(m:∀t∈l,gh t):(xj p l).1=0↔(MI p l).code=0:=by
 have ne:rN p 21≠0:=by
  simp[jr,ae,ite_self,rN]
 unfold xj MI
 by_cases o:ey (bA p)=true
 ·simp_all[ak,yJ]
 rw[ae o,ae o];have H:=Vy ha
 by_cases b:rN p 0=0
 ·have⟨G,C⟩:=H.2 b;rw[ae zff,ae (by grind[Ad]),b]
  grind[I4,fD,Bool.or_eq_false_iff,any_eq_false]
 ·refine⟨fun h=>?_,fun h=>absurd h (yJ p _ _ _ b)⟩;exfalso;apply b;apply H.1
  by_cases G:fD p=true
  ·grind
  ·rw[ae G]at h
   grind[Ad]
mutual
def bW:T->List ab
 |.mk n l=>bC l++(if n.ai=13 then[n.s]else[])
def bC:List T->List ab
 |[]=>[]
 |t::r=>bW t++bC r
end
theorem Sd(t:T):bW t=bC t.aw++(if t.n.ai=13 then[t.n.s]else[]):=by cases t;rfl
mutual
theorem vm{m:Type}(f:m->Nat->T->List ab->m):∀(t:T)(a:Nat)(s:m)(ls:List ab),(eo f t a s ls).2=ls++bW t
 |.mk n l,a,s,ls=>by
  rw[eo,bW];simp only;rw[mq f l]
  grind
theorem mq{m:Type}(f:m->Nat->T->List ab->m):∀(l:List T)(a:Nat)(s:m)(ls:List ab),(c6 f l a s ls).2=ls++bC l
 |[],a,s,ls=>by simp[ab,c6,bC]
 |t::r,a,s,ls=>by rw[c6,mq f r,vm f t,bC,dP]
end
mutual
def ri(p:Src):T->List ab->Prop
 |.mk n l,t=>bG p (.mk n l) t=0/\(bU (.mk n l)=false->pB p l t)
def pB(p:Src):List T->List ab->Prop
 |[],_=>True
 |t::r,u=>ri p t u/\pB p r (u++bW t)
end
mutual
def TD(p:Src):∀(t:T),gh t->∀(a:Nat)(r:CS)(ls:List ab),r.code=0->r.skip<(a:Int)->(eo (cz p) t a r ls).1.code=0->ri p t ls/\(eo (cz p) t a r ls).1.skip<((a+aU t:Nat):Int)
 |.mk n l,q,a,r,ls,F,G,W=>by
  rw[gh]at q
  have A:¬(r.code≠0\/(a:Int)=r.skip):=by
   omega
  obtain⟨u,w⟩:∃u,cz p r a (.mk n l) ls=⟨bG p (.mk n l) ls,u,if bU (.mk n l)=true then(if(ke (.mk n l)).ai≠2 then -1 else((a+1:Nat):Int))else r.skip⟩:=by
   unfold cz;simp_all
  rw[eo]at W |-;simp only at W |-;rw[w]at W |-
  have z:bG p (.mk n l) ls=0:=by
   grind[vn]
  rw[z]at W |-
  by_cases o:bU (.mk n l)=true
  ·have O:l.length=1:=by
    unfold bU at o;simp only[aI,beq_iff_eq]at o;exact o.2
   have E:n.ai=4/\n.s=dY:=by
    unfold bU at o;simp only[aI,beq_iff_eq]at o;exact o.1
   have B:ew p (ke (.mk n l)) ls=false:=by
    have e:bG p (.mk n l) ls=dv p (.mk n l) ls:=by
     unfold bG;rw[ae zfi,ae zfi,ae zfi,ak zfi]
    simp_all[dv,ak]
   have d:(ke (.mk n l)).ai=2:=by
    grind[ew,Bool.or_eq_false_iff]
   rw[ak o,ae (by rw[d];decide)]at W |-
   match l,O,q with
   |[k],_,q =>
    have M:k.n.ai=2:=d;rw[eK]at q
    have i:k.aw=[]:=by
     have:=q.2.2.1;have⟨m,j⟩:=k;rw[gh]at this;exact this.2.1 M
    have v:aU k=1:=by rw[eI,i,aM]
    refine⟨by grind[ri],?_⟩;simp only[c6];rw[vl,i];simp only[c6]
    have N:cz p ⟨0,u,((a+1:Nat):Int)⟩ (a+1) k ls=⟨0,u,((a+1:Nat):Int)⟩:=by simp[cz]
    rw[N,aU,aM,aM,v];simp
  ·have C:bU (.mk n l)=false:=by grind
   rw[ae o]at W |-;have h:=OU p l q.2.2 (a+1) ⟨0,u,r.skip⟩ ls rfl zff W;refine⟨by grind[ri],?_⟩;rw[aU,show a+(aM l+1)=a+1+aM l by omega];exact h.2
def OU(p:Src):∀(l:List T),eK l->∀(a:Nat)(r:CS)(ls:List ab),r.code=0->r.skip<(a:Int)->(c6 (cz p) l a r ls).1.code=0->pB p l ls/\(c6 (cz p) l a r ls).1.skip<((a+aM l:Nat):Int)
 |[],_,a,r,ls,v,G,W=>by rw[c6,aM];grind[pB]
 |t::l,m,a,r,ls,v,G,W=>by
  rw[eK]at m;rw[c6]at W |-
  have o:(eo (cz p) t a r ls).1.code=0:=by
   grind[vn]
  have⟨b,H⟩:=TD p t m.1 a r ls v G o;have⟨C,e⟩:=OU p l m.2 _ _ _ o H W;rw[vm]at C;rw[pB,aM,<-mg]
  grind
end
def ve(names:List ab)(s:ab):Int:=bN (fun x=>x==s) names
def rV(names:List ab)(n:Nd)(J:List ab):Nd :=
 if n.ai=13 then⟨n.ai,n.at_,ve names n.s+1,n.s,n.aw⟩
 else if(n.ai=2\/n.ai=7)/\J.contains n.s=true then⟨n.ai,n.at_,ve names n.s+1,n.s,n.aw⟩else n
mutual
def mG(names:List ab):T->List ab->T
 |.mk n l,J=>.mk (rV names n J) (jo names l J)
def jo(names:List ab):List T->List ab->List T
 |[],_=>[]
 |t::r,J=>mG names t J::jo names r (J++bW t)
end
mutual
def zT:T->Prop
 |.mk n l=>(n.ai≠1->n.n=0)/\mF l
def mF:List T->Prop
 |[]=>True
 |t::r=>zT t/\mF r
end
mutual
theorem Y3:∀t:T,zT (er t)↔zT t
 |.mk n l=>by rw[er,zT,zT,TX l]
theorem TX:∀l:List T,mF (bl l)↔mF l
 |[]=>by rw[bl]
 |t::r=>by rw[bl,mF,mF,Y3 t,TX r]
end
mutual
theorem E.z:∀a:E,zT a.tree
 |.num n=>by rw[E.tree,zT];exact⟨fun h=>absurd rfl h,trivial⟩
 |.name s=>by rw[E.tree,zT];exact⟨fun _=>rfl,trivial⟩
 |.at_ s a=>ze0
 |.call s l=>by rw[E.tree,zT];exact⟨fun _=>rfl,E.zs l⟩
 |.un s a=>ze0
 |.bin s a b=>by rw[E.tree,zT,mF,mF,mF];exact⟨fun _=>rfl,E.z a,E.z b,trivial⟩
theorem E.zs:∀l:List E,mF (E.aE l)
 |[]=>trivial
 |a::l=>by rw[E.aE,mF];exact⟨E.z a,E.zs l⟩
end
mutual
theorem S.z:∀a:S,zT a.tree
 |.set s a=>zc1
 |.put s a b=>zc1
 |.if1 c b=>zeA
 |.if2 c b d=>zeA
 |.while_ c b=>zeA
 |.ret a=>zc1
 |.do_ a=>zc1
 |.var s a=>zc1
theorem S.zs:∀l:List S,mF (S.aE l)
 |[]=>trivial
 |a::l=>by rw[S.aE,mF];exact⟨S.z a,S.zs l⟩
end
theorem aag(l:List S):zT (cj l):=by grind[S.zs,zT,cj]
def Iw{names:List ab}{s:ab}(h:s∈names):0<ve names s+1:=by
 grind[bN,findIdx?_eq_none_iff,ve]
def CM{p:Src}{t:T}{ls:List ab}(u:gh t)(o:bG p t ls=0)(N:t.n.ai=4)(G:t.n.s=dY):∃k,t.aw=[k]/\k.n.ai=2/\k.aw=[]/\0<=fo p k.n.s/\ls.contains k.n.s=false/\bU t=true:=by
 have e:bG p t ls=dv p t ls:=by
  grind[bG,dv]
 rw[e]at o
 have v:gD p t.n.s=1:=by rw[G];rfl
 by_cases M:t.aw.length=1
 ·have q:bU t=true:=by grind[bU]
  unfold dv at o;rw[ak q]at o
  have i:ew p (ke t) ls=false:=by
   grind
  have⟨n,l⟩:=t
  match l,M with
  |[k],_ =>
   have r:ew p k.n ls=false:=i;unfold ew at r;simp only[Bool.or_eq_false_iff,bne_eq_false_iff_eq,decide_eq_false_iff_not,Int.not_lt]at r;rw[gh,eK]at u;refine⟨k,rfl,r.1.1,?_,r.1.2,r.2,q⟩;have:=u.2.2.1;have⟨m,j⟩:=k;rw[gh]at this;exact this.2.1 r.1.1
 ·have q:bU t=false:=by grind[bU]
  grind[dv]
section
variable(p:Src)(names:List ab)(name:ab)
end
def Forms.wf{l:List T}{ls:List (List S)}(h:Forms l ls){i:Nat}{t:T}(M:l[i]?=some t):gh t/\zT t:=by
 have k:=(bY M).1;have c:=h.len;have j:ls[i]?=some (ls[i]'aH):=cK _;have⟨_,b⟩:=h.at_ i t _ M j
 grind[TV,YW,Y3,aag]
def Ng(p:Src):∀(v:List Fn)(l:List T)(a:Nat),(eU p v l a).1=0->∀(i:Nat)f t,v[i]?=some f->l[i]?=some t->∃b,(fy p f t b).1=0
 |f::r,t::l,a,h,0,g,u,o,c=>by
  grind[eU]
 |f::r,t::l,a,h,i+1,g,u,o,c=>by
  rw[eU]at h
  by_cases W:(fy p f t a).1=0
  ·rw[ae aH]at h;exact Ng p r l _ h i g u zff zff
  grind
 |[],_,a,h,i,g,u,o,c=>by simp at o
 |f::r,[],a,h,i,g,u,o,c=>by simp at c
structure Good(p:Src)(l:List T):Prop where
 st:eH p l
 test:fI p=true
 names:ey (bA p)=false
 len:p.av.length=l.length
 at_:∀(i:Nat)f t,p.av[i]?=some f->l[i]?=some t->ri p t f.params/\gh t/\zT t/\dM p.ah f.body.toNat t/\0<=f.body
def rA{p:Src}(h:eu p=true):∃l,Good p l:=by
 unfold eu at h;rw[aI]at h;have⟨m,h⟩:=h;have⟨l,M⟩:=om m;rw[M.si]at h;simp only[decide_eq_true_eq]at h;have⟨u,k⟩:=M.uy
 have j:ey (bA p)=false:=by
  grind[xj]
 have o:(eU p p.av l 0).1=0:=by
  grind[xj]
 refine⟨l,M,m,j,en.len M.av,fun i f t q c=>?_⟩;have⟨b,W⟩:=Ng p _ _ _ o i f t q c;have⟨X,Y⟩:=k.wf c;unfold fy at W
 have T:¬tK f.params=true:=fun T=>by grind
 rw[ae T]at W;have r:=(bY c).1;have⟨e,n⟩:=en.at_ M.av i f t q c;have O:=dn.ix l 0 i _ M.st c;rw[dJ]at e O;refine⟨(TD p t X b ⟨0,0,-1⟩ f.params rfl zff W).1,X,Y,?_,by omega⟩
 grind
def bd(fr to s:ab):ab:=if(s==fr)=true then to else s
def jS(fr:ab)(n:Nd)(ls:List ab):Bool:=(n.s==fr&&n.ai != 13)&&(n.ai==4 || !ls.contains fr)
def dK(fr to:ab)(n:Nd)(ls:List ab):Nd:=if jS fr n ls=true then⟨n.ai,n.at_,n.n,to,n.aw⟩else n
mutual
def di(fr to:ab):T->List ab->T
 |.mk n l,t=>.mk (dK fr to n t) (bE fr to l t)
def bE(fr to:ab):List T->List ab->List T
 |[],_=>[]
 |t::r,u=>di fr to t u::bE fr to r (u++bW t)
end
section
variable(fr to:ab)
mutual
def kX:∀(t:T)(ls:List ab),aU (di fr to t ls)=aU t
 |.mk n l,ls=>by rw[di,aU,aU,JX l ls]
def JX:∀(l:List T)(ls:List ab),aM (bE fr to l ls)=aM l
 |[],ls=>by rw[bE]
 |t::r,ls=>by rw[bE,aM,aM,kX t ls,JX r _]
end
def uN:∀(l:List T)(ls:List ab)(a:Nat),bx a (bE fr to l ls)=bx a l
 |[],ls,a=>by rw[bE]
 |t::r,ls,a=>by rw[bE,bx,bx,kX,uN r _]
def ye(s:List Nd)(a:Nat):List Nd:=match s[a]? with|some n=>s.set a ⟨n.ai,n.at_,n.n,to,n.aw⟩|none=>s
def jy(s:List Nd)(a:Nat)(t:T)(ls:List ab):List Nd:=if jS fr t.n ls=true then ye to s a else s
theorem RO(s:List Nd)(a:Nat):(ye to s a).length=s.length:=by grind[ye]
theorem RP(M c:List Nd)(n:Nd):ye to (M++n::c) M.length=M++⟨n.ai,n.at_,n.n,to,n.aw⟩::c:=by
 unfold ye;simp
theorem DU(s:List Nd)(a:Nat)(t:T)(ls:List ab):(jy fr to s a t ls).length=s.length:=by
 grind[RO,jy]
mutual
def Wt:∀(t:T)(a:Nat)(s:List Nd)(ls:List ab),(eo (jy fr to) t a s ls).1.length=s.length
 |.mk n l,a,s,ls=>by rw[eo];simp only;rw[Cf l,DU]
def Cf:∀(l:List T)(a:Nat)(s:List Nd)(ls:List ab),(c6 (jy fr to) l a s ls).1.length=s.length
 |[],a,s,ls=>by rw[c6]
 |t::r,a,s,ls=>by rw[c6,Cf r,Wt t]
end
mutual
def M1:∀(t:T)(a:Nat)(ls:List ab)(M c:List Nd),M.length=a->(eo (jy fr to) t a (M++(dW a t++c)) ls).1=M++(dW a (di fr to t ls)++c)
 |.mk n l,a,ls,M,c,W=>by
  rw[eo,di,dW,dW,uN];simp only
  have G:jy fr to (M++(⟨n.ai,n.at_,n.n,n.s,bx (a+1) l⟩::bZ (a+1) l++c)) a (.mk n l) ls=(M++[⟨(dK fr to n ls).ai,(dK fr to n ls).at_,(dK fr to n ls).n,(dK fr to n ls).s,bx (a+1) l⟩])++(bZ (a+1) l++c):=by
   unfold jy dK;show(if jS fr n ls=true then _ else _)=_
   by_cases h:jS fr n ls=true
   ·grind[RP]
   grind
  rw[G,I0 l (a+1) ls _ c (by simp[W])];simp
def I0:∀(l:List T)(a:Nat)(ls:List ab)(M c:List Nd),M.length=a->(c6 (jy fr to) l a (M++(bZ a l++c)) ls).1=M++(bZ a (bE fr to l ls)++c)
 |[],a,ls,M,c,W=>by rfl
 |t::r,a,ls,M,c,W=>by
  rw[c6,bE,bZ,bZ,dP,M1 t a ls M _ W,vm,<-dP,I0 r (a+aU t) _ (M++dW a (di fr to t ls)) c (by rw[br,qu,kX,W]),kX];simp
end
def cq:List Fn->List T->List T
 |f::v,t::l=>di fr to t f.params::cq v l
 |_,l=>l
theorem Gp(l:List T):cq fr to [] l=l:=by rfl
def JV:∀(i:Nat)(v:List Fn)(l:List T)(f:Fn)(t:T)(b:Nat),v[i]?=some f->l[i]?=some t ->
  ∃M c:List Nd,M.length=aM (l.take i)/\bZ b (cq fr to (v.take i) l)=M++(dW (b+aM (l.take i)) t++c)/\bZ b (cq fr to (v.take (i+1)) l)=M++(dW (b+aM (l.take i)) (di fr to t f.params)++c)
 |0,g::v,u::l,f,t,b,m,N=>by
  cases m;cases N
  refine⟨[],bZ (b+aU u) l,rfl,?_,?_⟩
  ·rfl
  ·rw[take_succ_cons,List.take_zero,List.take_zero,cq,Gp,bZ,aM,kX];rfl
 |i+1,g::v,u::l,f,t,b,m,N=>by
  have⟨M,c,o,d,G⟩:=JV i v l f t (b+aU u) zff zff;refine⟨dW b (di fr to u g.params)++M,c,?_,?_,?_⟩
  ·rw[br,qu,kX,o,take_succ_cons,aM]
  ·rw[take_succ_cons,cq,bZ,kX,d,take_succ_cons,aM,dP,mg]
  ·rw[take_succ_cons,cq,bZ,kX,G,take_succ_cons,aM,dP,mg]
 |0,[],_,f,t,b,m,N=>by simp at m
 |i+1,[],_,f,t,b,m,N=>by simp at m
 |0,g::v,[],f,t,b,m,N=>by simp at N
 |i+1,g::v,[],f,t,b,m,N=>by simp at N
theorem LJ{v:List Fn}{l:List T}{i:Nat}{f:Fn}{t:T}(hf:v[i]?=some f)(M:l[i]?=some t) :
  (eo (jy fr to) t (aM (l.take i)) (bZ 0 (cq fr to (v.take i) l)) f.params).1=bZ 0 (cq fr to (v.take (i+1)) l):=by
 have⟨N,c,o,b,G⟩:=JV fr to i v l f t 0 hf M
 simp_all[dJ,M1]
theorem tX:∀{v:List Fn}{l:List T}{i:Nat}{f:Fn}{t:T},v[i]?=some f->l[i]?=some t->(cq fr to v l)[i]?=some (di fr to t f.params)
 |g::v,u::l,0,f,t,m,M=>by grind[cq]
 |g::v,u::l,i+1,f,t,m,M=>by rw[cq,List.getElem?_cons_succ];exact tX zff zff
 |[],_,i,f,t,m,M=>by simp at m
 |g::v,[],i,f,t,m,M=>by simp at M
theorem tY:∀(v:List Fn)(l:List T),(cq fr to v l).length=l.length
 |[],l=>by rfl
 |f::v,[]=>rfl
 |f::v,t::l=>by rw[cq,length_cons,tY v l,length_cons]
def tZ:∀(v:List Fn)(l:List T)(i:Nat),aM ((cq fr to v l).take i)=aM (l.take i)
 |[],l,i=>by rfl
 |f::v,[],i=>rfl
 |f::v,t::l,0=>by simp
 |f::v,t::l,i+1=>by rw[cq,take_succ_cons,take_succ_cons,aM,aM,kX,tZ v l i]
theorem vR(v:List Fn)(l:List T):aM (cq fr to v l)=aM l:=by
 have:=tZ fr to v l l.length
 simp_all[dD,ln,tY,aY]
def RE{v:List Fn}{l:List T}{i:Nat}{f:Fn}{t:T}(hf:v[i]?=some f)(M:l[i]?=some t) :
  bZ 0 ((cq fr to v l).take (i+1))=bZ 0 ((cq fr to v l).take i)++dW (aM (l.take i)) (di fr to t f.params):=by
 rw[dd,tX fr to hf M,vo,tZ,dJ];show _++bZ _ [_]=_;rw[bZ,bZ,eT]
def BG(n:Nd):Nd:=if n.ai=2\/n.ai=7\/n.ai=13 then⟨n.ai,n.at_,0,if n.n=0 then bd fr to n.s else n.s,n.aw⟩
 else if n.ai=3\/n.ai=8\/n.ai=4 then⟨n.ai,n.at_,n.n,bd fr to n.s,n.aw⟩else n
mutual
def zF:T->T
 |.mk n l=>.mk (BG fr to n) (pD l)
def pD:List T->List T
 |[]=>[]
 |t::r=>zF t::pD r
end
theorem Kd(o:List ab)(n:Nd)(ls:List ab)(q:n.ai≠1->n.n=0)(l:∀s∈ls,s∈o)(j:n.ai=13->n.s∈o)(C:n.ai=3\/n.ai=8->ls.contains n.s=false)
  (Q:n.ai=2\/n.ai=3\/n.ai=4\/n.ai=7\/n.ai=8\/n.ai=13\/n.s≠fr):BG fr to (rV o n ls)=dK fr to n ls:=by
 have⟨k,at_,m,s,u⟩:=n;simp only at q j C Q;unfold dK jS;simp only
 by_cases W:k=13
 ·have:=q aH;subst this;have Y:=Iw (j W);unfold rV;rw[ak W];unfold BG
  grind
 by_cases B:k=2\/k=7
 ·have r:=q aH;subst r;unfold rV;rw[ae W]
  by_cases X:ls.contains s=true
  ·have Y:=Iw (l _ (p6.1 X));rw[ak ⟨B,X⟩];unfold BG
   grind
  ·have v:ls.contains s=false:=by grind
   rw[ae (fun h=>X h.2)];unfold BG bd
   grind
 have i:rV o ⟨k,at_,m,s,u⟩ ls=⟨k,at_,m,s,u⟩:=by grind[rV]
 rw[i];unfold BG bd
 grind
mutual
def ky:T->Prop
 |.mk n l=>(n.ai=2\/n.ai=3\/n.ai=4\/n.ai=7\/n.ai=8\/n.ai=13\/word n.s=false)/\eQ l
def eQ:List T->Prop
 |[]=>True
 |t::r=>ky t/\eQ r
end
mutual
def Px{p:Src}(o:List ab)(F:word fr=true):∀(t:T)(ls:List ab),gh t->zT t->ky t->ri p t ls->(∀s∈ls,s∈o)->(∀s∈bW t,s∈o)->zF fr to (mG o t ls)=di fr to t ls
 |.mk n l,ls,wf,w,H,A,q,v=>by
  have z:=wf;rw[gh]at wf;rw[zT]at w;rw[ky]at H;have E:=A;rw[ri]at A;rw[bW]at v
  have Q:n.ai=2\/n.ai=3\/n.ai=4\/n.ai=7\/n.ai=8\/n.ai=13\/n.s≠fr:=by
   grind
  have B:n.ai=3\/n.ai=8->ls.contains n.s=false:=fun h=>by
   have u:=A.1;unfold bG at u;rw[ae zfi,ae zfi,ak zfi]at u
   by_cases W:ls.contains n.s=true
   ·rw[ak (.inl W)]at u;cases u
   grind
  rw[mG,zF,di,Kd fr to o n ls w.1 q (fun h=>v _ zff) B Q]
  congr 1
  by_cases C:n.ai=4/\n.s=dY
  ·obtain⟨k,r,b,G,-,-,J⟩:=CM z A.1 C.1 C.2;have r:l=[k]:=r;subst r;have⟨m,j⟩:=k;have G:j=[]:=G;subst G;have b:m.ai=2:=b
   have i:m.ai≠1->m.n=0:=by grind[mF,zT]
   rw[jo,jo,pD,pD,bE,bE,mG,jo,zF,pD,di,bE,Kd fr to o m ls i q (fun h=>by omega) (fun h=>by omega) (.inl b)]
  ·have r:bU (.mk n l)=false:=by
    unfold bU;show((n.ai==4&&n.s==dY)&&_)=false
    grind
   exact Ke o F l ls wf.2.2 w.2 H.2 (A.2 r) q fun s h=>v s (List.mem_append_left _ h)
def Ke{p:Src}(o:List ab)(q:word fr=true):∀(l:List T)(ls:List ab),eK l->mF l->eQ l->pB p l ls->(∀s∈ls,s∈o)->(∀s∈bC l,s∈o)->pD fr to (jo o l ls)=bE fr to l ls
 |[],ls,_,_,_,_,_,_=>by rfl
 |t::r,ls,wf,n,G,A,m,j=>by
  rw[eK]at wf;rw[mF]at n;rw[eQ]at G;rw[pB]at A;rw[bC]at j
  have i:∀s∈bW t,s∈o:=fun s h=>j s (List.mem_append_left _ h)
  rw[jo,pD,bE,Px o q t ls wf.1 n.1 G.1 A.1 m i,Ke o q r _ wf.2 n.2 G.2 A.2 (fun s h=>by grind) fun s h=>j s (List.mem_append_right _ h)]
end
end
def zE(b:Int)(n:Nd):Nd:=⟨n.ai,n.at_,n.n,n.s,n.aw.map (·+b)⟩
def A5(b:Nat):∀(l:List T)(a:Nat),bx (a+b) l=(bx a l).map (·+(b:Int))
 |[],a=>rfl
 |t::l,a=>by
  rw[bx,bx,List.map_cons,<-A5 b l (a+aU t),show a+b+aU t=a+aU t+b by omega]
  congr 1
mutual
def Fe(b:Nat):∀(t:T)(a:Nat),dW (a+b) t=(dW a t).map (zE (b:Int))
 |.mk n l,a=>by
  rw[dW,dW,List.map_cons,show a+b+1=a+1+b by omega,Dh b l (a+1),A5 b l (a+1)];rfl
def Dh(b:Nat):∀(l:List T)(a:Nat),bZ (a+b) l=(bZ a l).map (zE (b:Int))
 |[],a=>by rfl
 |t::l,a=>by rw[bZ,bZ,gJ,Fe b t a,show a+b+aU t=a+aU t+b by omega,Dh b l (a+aU t)]
end
mutual
theorem TI:∀t:T,ky (er t)↔ky t
 |.mk n l=>by rw[er,ky,ky,Pj l]
theorem Pj:∀l:List T,eQ (bl l)↔eQ l
 |[]=>by rw[bl]
 |t::r=>by rw[bl,eQ,eQ,TI t,Pj r]
end
theorem DR{s:ab}(h:eD s=true):word s=false:=by
 have R:∀l∈levels,∀x∈l,word x=false:=by decide
 unfold eD at h;have⟨l,M,G⟩:=mh.1 h;exact R l M s (p6.1 G)
mutual
def E.sg:∀a:E,a.ok=true->ky a.tree
 |.num n,_=>by rw[E.tree,ky];exact⟨.inr (.inr (.inr (.inr (.inr (.inr rfl))))),trivial⟩
 |.name s,_=>by rw[E.tree,ky];exact⟨.inl rfl,trivial⟩
 |.at_ s a,h=>by rw[E.ok,aI]at h;rw[E.tree,ky,eQ,eQ];exact⟨.inr (.inl rfl),E.sg a h.2,trivial⟩
 |.call s l,h=>by rw[E.ok,aI]at h;rw[E.tree,ky];exact⟨.inr (.inr (.inl rfl)),E.rj l h.2⟩
 |.un s a,h=>by
  rw[E.ok,aI]at h;rw[E.tree,ky,eQ,eQ];refine⟨.inr (.inr (.inr (.inr (.inr (.inr ?_))))),E.sg a h.2,trivial⟩;have o:=h.1;simp only[Bool.or_eq_true,beq_iff_eq]at o
  rcases o with(o|o)|o<;>subst o<;>rfl
 |.bin s a b,h=>by
  rw[E.ok,aI,aI]at h;rw[E.tree,ky,eQ,eQ,eQ];exact⟨.inr (.inr (.inr (.inr (.inr (.inr (DR h.1.1)))))),E.sg a h.1.2,E.sg b h.2,trivial⟩
def E.rj:∀l:List E,E.cJ l=true->eQ (E.aE l)
 |[],_=>trivial
 |a::l,h=>by rw[E.cJ,aI]at h;rw[E.aE,eQ];exact⟨E.sg a h.1,E.rj l h.2⟩
end
mutual
def S.sg:∀a:S,a.ok=true->ky a.tree
 |.set s a,h=>by rw[S.ok,aI]at h;rw[S.tree,ky,eQ,eQ];simp_all[E.sg,trivial]
 |.put s a b,h=>by rw[S.ok,aI,aI]at h;rw[S.tree,ky,eQ,eQ,eQ];simp_all[E.sg,trivial]
 |.if1 c b,h=>zbz
 |.if2 c b d,h=>by rw[S.ok,aI,aI]at h;rw[S.tree,ky,eQ,eQ,eQ,eQ,ky,ky];exact⟨.inr (.inr (.inr (.inr (.inr (.inr rfl))))),E.sg c h.1,⟨.inr (.inr (.inr (.inr (.inr (.inr rfl))))),S.rj b h.2.1⟩,⟨.inr (.inr (.inr (.inr (.inr (.inr rfl))))),S.rj d h.2.2⟩,trivial⟩
 |.while_ c b,h=>zbz
 |.ret a,h=>zcD
 |.do_ a,h=>zcD
 |.var s a,h=>by rw[S.ok,aI]at h;rw[S.tree,ky,eQ,eQ];exact⟨.inr (.inr (.inr (.inr (.inr (.inl rfl))))),E.sg a h.2,trivial⟩
def S.rj:∀l:List S,S.cJ l=true->eQ (S.aE l)
 |[],_=>trivial
 |a::l,h=>by rw[S.cJ,aI]at h;rw[S.aE,eQ];exact⟨S.sg a h.1,S.rj l h.2⟩
end
theorem Yw(l:List S)(h:S.cJ l=true):ky (cj l):=by rw[cj,ky];exact⟨.inr (.inr (.inr (.inr (.inr (.inr rfl))))),S.rj l h⟩
def Good.sg{p:Src}{l:List T}(h:Good p l){i:Nat}{t:T}(M:l[i]?=some t):ky t:=by
 have⟨u,j⟩:=h.st.uy;have k:=(bY M).1;have c:=j.len;have⟨o,b⟩:=j.at_ i t _ M (cK aH)
 grind[TI,Yw]
def Good.words{p:Src}{l:List T}(h:Good p l){s:ab}(G:s∈bA p):word s=true:=by
 have R:∀s:ab,bm s=true->word s=true:=fun s h=>by
  simp_all[bm,aI]
 refine R s ?_;unfold bA eE ia at G
 rcases oO G with G|G
 ·rcases oO G with G|G
  ·exact ea.1 h.st.aq s G
  ·obtain⟨a,v,rfl⟩:=ra.1 G;have:=ea.1 h.st.aj a v
   simp_all[kc,aI]
 ·obtain⟨f,m,rfl⟩:=ra.1 G;have⟨t,_,J⟩:=(en.mem h.st.av).1 f m;exact J.name
def GJ{R:Type}(w:R->ab)(Q:R->ab->R)(T:∀a,Q a (w a)=a)(fr to:ab){xs:List R}(M:∀(i j:Nat)(a b:R),xs[i]?=some a->xs[j]?=some b->w a=fr->w b=fr->i=j) :
  (match xs.findIdx? (fun a=>w a==fr)with|some k=>(match xs[k]? with|some a=>xs.set k (Q a to)|none=>xs)|none=>xs)=xs.map fun a=>Q a (bd fr to (w a)):=by
 cases N:xs.findIdx? (fun a=>w a==fr)with
 |none =>
  rw[findIdx?_eq_none_iff]at N;simp only;refine(List.map_id xs).symm.trans (List.map_congr_left fun a v=>?_)
  grind[bd]
 |some k =>
  obtain⟨o,c,-⟩:=List.findIdx?_eq_some_iff_getElem.1 N;have X:xs[k]?=some xs[k]:=cK o;simp only[X]
  refine ext_getElem? fun j=>?_
  grind[bd]
def nz(a:Ar)(s:ab):Ar:=⟨s,a.size⟩
def lG(f:Fn)(s:ab):Fn:=⟨s,f.params,f.body⟩
def Good.arU{p:Src}{l:List T}(h:Good p l){fr:ab}:∀(i j:Nat)(a b:Ar),p.aj[i]?=some a->p.aj[j]?=some b->a.name=fr->b.name=fr->i=j:=fun i j a b o c w S=>by
 have R:∀(i:Nat)(a:Ar),p.aj[i]?=some a->a.name=fr->(bA p)[p.aq.length+i]?=some fr:=fun i a h e=>by
  have k:=(bY h).1;unfold bA eE
  grind
 have:=uW h.names (R i a o w) (R j b c S);omega
def Good.fnU{p:Src}{l:List T}(h:Good p l){fr:ab}:∀(i j:Nat)(a b:Fn),p.av[i]?=some a->p.av[j]?=some b->a.name=fr->b.name=fr->i=j:=fun i j a b o c w S=>by
 have R:∀(i:Nat)(a:Fn),p.av[i]?=some a->a.name=fr->(bA p)[p.aq.length+p.aj.length+i]?=some fr:=fun i a h e=>by
  have k:=(bY h).1;unfold bA eE ia
  grind
 have:=uW h.names (R i a o w) (R j b c S);omega
mutual
def Gs(fr to:ab):∀(t:T)(a:Nat)(ls:List ab),(dW a (di fr to t ls)).map (fun n=>n.aw)=(dW a t).map (fun n=>n.aw)
 |.mk n l,a,ls=>by
  rw[di,dW,dW,List.map_cons,List.map_cons,uN,Bp fr to l]
def Bp(fr to:ab):∀(l:List T)(a:Nat)(ls:List ab),(bZ a (bE fr to l ls)).map (fun n=>n.aw)=(bZ a l).map (fun n=>n.aw)
 |[],a,ls=>by rw[bE]
 |t::r,a,ls=>by rw[bE,bZ,bZ,gJ,gJ,Gs fr to t,kX,Bp fr to r]
end
def DN(fr to:ab):∀(v:List Fn)(l:List T)(a:Nat),(bZ a (cq fr to v l)).map (fun n=>n.aw)=(bZ a l).map (fun n=>n.aw)
 |[],l,a=>by rfl
 |f::v,[],a=>rfl
 |f::v,t::l,a=>by rw[cq,bZ,bZ,gJ,gJ,Gs,kX,DN fr to v l]
def de(fr to:ab)(p:Src)(l:List T):Src:=⟨p.aq.map (bd fr to),p.aj.map (fun a=>nz a (bd fr to a.name)),p.av.map (fun f=>lG f (bd fr to f.name)),bZ 0 (cq fr to p.av l)⟩
def mU(l:List (List ab))(s:ab):Bool:=l.any fun x=>x.contains s
def mT(p:Src)(l:List T):List (List ab):=List.zipWith (fun f t=>f.params++bW t) p.av l
def xU{p:Src}{l:List T}{i:Nat}{f:Fn}{t:T}(hf:p.av[i]?=some f)(M:l[i]?=some t):(mT p l)[i]?=some (f.params++bW t):=by
 grind[mT]
def Bc{p:Src}{l:List T}(h:p.av.length=l.length):(mT p l).length=p.av.length:=by simp[mT,h]
section
variable{l:List (List ab)}{k:Nat}{x:List ab}{s:ab}
theorem zy(h:l[k]?=some x):mU (l.take (k+1)) s=(mU (l.take k) s ||x.contains s):=by
 unfold mU
 grind[dd]
def wW(h:l[k]?=some x)(W:x.contains s=true):mU l s=true:=mh.2 ⟨x,bP h,W⟩
end
def wX:ab:=[109,97,105,110]
def fH:Src:=⟨[],[],[],[]⟩
def renameI(p:Src)(fr nw:ab):Src × Int :=
 if((eu p&&bm nw)&&!dx nw)=true then(match kG p.ah p.av 0 []with
  |some (l,_)=>if((!(bA p).contains fr) ||fr==wX)=true then(fH,2)else if(bA p).contains nw=true then(fH,3)else if mU (mT p l) nw=true then(fH,4)else(de fr nw p l,0)
  |none=>(fH,1))else(fH,1)
theorem yI{p:Src}{l:List T}(h:Good p l):p.ah=bZ 0 l:=dn.all h.st.st h.st.len
def Gr(fr nw:ab){p:Src}{l:List T}(h:Good p l):(de fr nw p l).ah.map (fun n=>n.aw)=p.ah.map (fun n=>n.aw):=by
 show(bZ 0 (cq fr nw p.av l)).map _=_;rw[DN,<-yI h]
theorem E8{m:Type}(f:m->Nat->T->List ab->m)(t:T):∀(l:List T)(a:Nat)(s:m)(ls:List ab),c6 f (l++[t]) a s ls=eo f t (a+aM l) (c6 f l a s ls).1 (c6 f l a s ls).2
 |[],a,s,ls=>by rfl
 |u::l,a,s,ls=>by rw[cons_append,c6,E8 f t l,c6,aM,mg]
def wC{m:Type}(f:m->Nat->T->List ab->m){l:List T}{k:Nat}{t:T}(h:l[k]?=some t)(a:Nat)(s:m)(ls:List ab) :
  c6 f (l.take (k+1)) a s ls=eo f t (a+aM (l.take k)) (c6 f (l.take k) a s ls).1 (c6 f (l.take k) a s ls).2:=by
 grind[dd,E8]
def qw:∀{l:List T}{n k:Nat}{t:T},l[k]?=some t->(bx n l)[k]?=some (((n+aM (l.take k):Nat)):Int)
 |u::l,n,0,t,h=>by rfl
 |u::l,n,k+1,t,h=>by
  have:=qw (l:=l) (n:=n+aU u) (k:=k) (t:=t) zff
  grind[bx,aM]
 |[],n,k,t,h=>by simp at h
section
variable{l:List T}{k:Nat}{t:T}
theorem mz(h:l[k]?=some t):aM (l.take k)+aU t<=aM l:=by
 have o:l.take (k+1)=l.take k++[t]:=by grind[dd]
 grind[pj,List.take_append_drop,aM,aU]
theorem R7(h:l[k]?=some t):aM (l.take (k+1))=aM (l.take k)+aU t:=by
 have o:l.take (k+1)=l.take k++[t]:=by grind[dd]
 rw[o,pj,aM,aM,Nat.add_zero]
end
def Ax:∀(N:Nat)(t:T),aU t<=N->(bW t).length<=aU t:=by
 intro N
 induction N with
 |zero=>grind[iD]
 |succ N O =>
  intro t h
  have R:∀l:List T,aM l<=N->(bC l).length<=aM l:=by
   intro l
   induction l with
   |nil=>grind[bC]
   |cons u l z =>
    intro h;rw[aM]at h;have:=O u aH;have:=z aH;rw[bC,br,aM];omega
  grind[eI,Sd,br]
theorem jJ(l:List T):(bC l).length<=aM l:=by
 induction l with
 |nil=>simp[bC]
 |cons u l O =>
  have:=Ax _ u (aY _);rw[bC,br,aM];omega
theorem zG{l:List T}{k:Nat}{t:T}(h:l[k]?=some t):bC (l.take (k+1))=bC (l.take k)++bW t:=by
 have o:l.take (k+1)=l.take k++[t]:=by grind[dd]
 have:∀a b:List T,bC (a++b)=bC a++bC b:=by
  intro a b
  induction a with
  |nil=>rfl
  |cons u a O=>simp[bC,O]
 grind[bC]
section
variable{R:Type}{f:R->Bool}{l:List R}
def oY{k:Nat}{x:R}(O:l[k]?=some x)(h:f x=true)(n:(l.take k).all (fun y=>!f y)=true):bN f l=(k:Int):=by
 have N:k<l.length:=by
  rcases Nat.lt_or_ge k l.length with o|o
  ·exact o
  ·rw[List.getElem?_eq_none o]at O;cases O
 have hx:l[k]=x:=by rw[cK N]at O;exact sZ O
 have:l.findIdx? f=some k:=by
  rw[List.findIdx?_eq_some_iff_getElem];refine⟨N,by rw[hx];exact h,fun j Y=>?_⟩;rw[ea]at n;have:=n l[j] zfo;exact zdk
 unfold bN;rw[this]
def mr(n:l.all (fun y=>!f y)=true):bN f l = -1:=by
 have:l.findIdx? f=none:=by
  rw[findIdx?_eq_none_iff];intro x hx;rw[ea]at n;simpa using n x hx
 unfold bN;rw[this]
def og{k:Nat}{x:R}(N:l[k]?=some x):(l.take (k+1)).all (fun y=>!f y)=((l.take k).all (fun y=>!f y)&&!f x):=by
 rw[dd,N,List.all_append];simp
end
def xG{R:Type}(f:R->Bool)(l:List R):decide ((0:Int)<=bN f l)=l.any f:=by
 cases h:l.any f with
 |false =>
  rw[mr (by rw[any_eq_false]at h;rw[ea];intro x hx;simpa using h x hx)];rfl
 |true =>
  unfold bN
  cases b:l.findIdx? f with
  |some i=>simp
  |none =>
   rw[findIdx?_eq_none_iff]at b;rw[mh]at h;have⟨x,hx,G⟩:=h;have:=b x hx;simp[G]at this
end Go.Im
namespace Go.Sp
open Go.Xp
def RS.left(p:RS):Nat:=p.l.length-p.i
def FX{k:Nat}{s:ab}(h:(levels.getD k []).contains s=true):s≠[]/\k<9/\s.length<=2:=by
 have N:k<9:=Nat.lt_of_not_le fun N=>by
  rw[List.getD_eq_getElem?_getD,List.getElem?_eq_none (show levels.length<=k from N)]at h;cases h
 have R:∀k:Fin 9,∀s∈levels.getD k.1 [],s≠[]/\s.length<=2:=by decide
 have⟨o,b⟩:=R ⟨k,N⟩ s (p6.1 h)
 grind
def mQ{p q:RS}(h:p.to q):q.left<=p.left/\q.left+(q.i-p.i)=p.left/\p.i<=q.i:=by
 obtain⟨o,-,b,G⟩:=h
 grind[RS.left]
theorem uJ(p:RS)(d:Nat):(p.a6 d).left=p.left:=by
 grind[RS.fail,RS.left,RS.a6]
def qx{p:RS}(h:p.i<p.l.length):p.next.left+1=p.left:=by
 grind[RS.left,RS.next]
def sN:J->Nat
 |.expr _=>13
 |.level k _=>12-k
 |.loop _ _ _=>1
 |.operand _=>2
 |.named _ _ _=>1
def OD:∀(f:Nat),(∀j p,p.ok->(∀k d,j=.level k d->k<=9)->20*p.left+sN j<=f->∃t q,mE f j p=some (t,q))/\(∀d p,p.ok->20*p.left+14<=f->∃t q,mL f d p=some (t,q))/\(∀d T p,p.ok->20*p.left+1<=f->∃t q,qy f d T p=some (t,q))
 |0=>⟨fun j p _ O h=>by
   cases j with
   |level k d=>grind[sN]
   |_=>simp only[sN]at h;omega,fun d p _ h=>by omega,fun d T p _ h=>by omega⟩
 |f+1=>by
  have⟨o,b,H⟩:=OD f;have⟨Z,n,r⟩:=rY f
  have i:∀j:J,(∀k d,j=.level k d->False)->∀k d,j=.level k d->k<=9:=fun j h k d e=>(h k d e).elim
  refine⟨fun j p W O h=>?_,fun d p W h=>?_,fun d T p W h=>?_⟩
  ·cases j with
   |expr d =>
    rw[mE];exact o _ _ ((iF W d).ok W) (fun k w e=>by grind) (by grind[uJ,RS.left,RS.a6,sN])
   |level k d =>
    have R:=O k d rfl;rw[mE]
    by_cases Q:k=9
    ·simp_all[ak,sN]
    ·rw[ae Q];obtain⟨t,q,e⟩:=o (.level (k+1) d) p W (fun l w e=>by grind) (by grind[RS.left,sN]);rw[e];have M:=Z _ _ _ _ W e;exact o _ _ (M.ok W) (fun k w e=>by cases e) (by have:=mQ M;grind[RS.left,sN])
   |loop k d out =>
    rw[mE]
    by_cases Y:p.code=0/\(levels.getD k []).contains (p.aJ 0)=true
    ·rw[ak Y];obtain⟨m,z,-⟩:=FX Y.2;have N:=(dH (k:=0) rfl m).1;rw[Nat.add_zero]at N;rw[cK N];simp only;have c:=cY N;have S:=qx N
     obtain⟨t,q,e⟩:=o (.level (k+1) d) p.next (c.ok W) (fun l w e=>by grind) zfB
     rw[e];have M:=Z _ _ _ _ (c.ok W) e;exact o _ _ (M.ok (c.ok W)) (fun k w e=>by cases e) (by have:=mQ M;simp only[sN]at h |-;omega)
    simp_all[ae]
   |operand d =>
    rw[mE];have X:=(iF W d).ok W;have u:=uJ p d;rw[<-u]at h;generalize p.a6 d=p at *
    try simp only
    split
    ·split
     ·simp
     ·rename_i t M;have N:=(bY M).1;have c:=cY N;have S:=qx N;split
      ·simp
      ·split
       ·exact o _ _ ((eV X).ok X) (fun k w e=>by cases e) (by have:=mQ (eV X);simp only[sN]at h |-;omega)
       ·split
        ·obtain⟨t,q,e⟩:=o (.operand (d+1)) p.next (c.ok X) (fun k w e=>by cases e) zfB
         grind
        ·split
         ·obtain⟨t,q,e⟩:=o (.expr (d+1)) p.next (c.ok X) (fun k w e=>by cases e) zfB
          grind
         simp
    simp
   |named a s d =>
    rw[mE];split
    ·rename_i G;have N:=(dH G aC).1;rw[Nat.add_zero]at N;have c:=cY N;have S:=qx N
     obtain⟨t,q,e⟩:=o (.expr (d+1)) p.next (c.ok W) (fun k w e=>by cases e) zfB
     grind
    ·split
     ·rename_i G;have N:=(dH G aC).1;rw[Nat.add_zero]at N;have c:=cY N;have S:=qx N
      have⟨t,q,e⟩:=b (d+1) p.next (c.ok W) aH
      simp_all
     simp
  ·rw[mL];split
   ·simp
   ·obtain⟨t,q,e⟩:=o (.expr d) p W (fun k w e=>by cases e) zfB;rw[e];have M:=Z _ _ _ _ W e;exact H _ _ _ (M.ok W) (by have:=mQ M;omega)
  ·rw[qy];split
   ·rename_i G;have N:=(dH G aC).1;rw[Nat.add_zero]at N;have c:=cY N;have S:=qx N
    obtain⟨t,q,e⟩:=o (.expr d) p.next (c.ok W) (fun k w e=>by cases e) zfB
    rw[e];have M:=Z _ _ _ _ (c.ok W) e;exact H _ _ _ (M.ok (c.ok W)) (by have:=mQ M;omega)
   simp
def vG{p:RS}(W:p.ok)(d:Nat):∃t q,mX d p=some (t,q):=by
 unfold mX;refine(OD _).1 _ _ W (fun k w e=>by cases e) ?_
 grind[RS.left,sN,fe]
def rF{p:RS}{s:ab}(G:s≠[])(h:(p.ba s).code=0):p.ba s=p.next/\p.code=0/\p.i<p.l.length:=by
 unfold RS.ba at h |-
 by_cases e:p.aJ 0=s
 ·rw[ak e];have:=dH e G
  grind
 ·rw[ae e]at h;exfalso
  grind[RS.fail]
def ML{f d:Nat}{a:Int}{p q:RS}{t:T}(W:p.ok)(N:p.i<p.l.length)(h:mS f (.cond a d) p=some (t,q))(X:q.code=0):p.i+1<=q.i:=by
 have:=(pU f).1 _ _ _ _ W (fun a w _=>N) h
 cases f with
 |zero=>simp[mS]at h
 |succ f =>
  rw[mS]at h;have c:=cY N;have o:=c.trans (b0 (c.ok W) (s:=[40]) aC)
  have u:p.next.i=p.i+1:=rfl
  try simp only at h
  split at h
  ·cases h
  ·rename_i e v n;have j:=(b0 (c.ok W) (s:=[40]) aC).trans (gk (o.ok W) n);have S:=j.trans (b0 ((c.trans j).ok W) (s:=[41]) aC);split at h
   ·cases h
   ·rename_i b Y m;have O:=S.trans ((pU f).1 _ _ _ _ ((c.trans S).ok W) (fun a w h=>by cases h) m);split at h
    ·rename_i G;have k:=O.trans (dZ G.2 aC);split at h
     ·cases h
     ·rename_i r z Q;cases h;have:=(k.trans ((pU f).1 _ _ _ _ ((c.trans k).ok W) (fun a w h=>by cases h) Q)).2.2.2;omega
    ·cases h;have:=O.2.2.2;omega
def Pt{f d:Nat}{p q:RS}{t:T}(Y:p.ok)(h:mS f (.stmt d) p=some (t,q))(W:q.code=0):p.i+1<=q.i:=by
 cases f with
 |zero=>simp[mS]at h
 |succ f =>
  rw[mS]at h;have X:=iF Y d;have G:=X.ok Y;have l:=X.2.2.2;refine jk (Nat.add_le_add_right l 1) ?_;generalize p.a6 d=k at *
  try simp only at h
  have last:∀(M:RS),k.to M->(M.ba [59]).code=0->k.i+1<=(M.ba [59]).i:=fun M J W=>by
   obtain⟨e,-,-⟩:=rF aC W;rw[e];have:=J.2.2.2
   grind[RS.next]
  split at h
  ·rename_i H;have c:=dZ H aC;have z:=c.trans (eV (c.ok G));have R:=z.trans (b0 (z.ok G) (s:=[61]) aC);split at h
   ·cases h
   ·rename_i e M j
    cases h;exact last _ (R.trans (gk (R.ok G) j)) W
  ·split at h
   ·rename_i H;refine ML G ?_ h W
    rcases H with H|H
    ·exact(dH H aC).1
    ·exact(dH H aC).1
   ·split at h
    ·rename_i H;have c:=dZ H aC;split at h
     ·cases h
     ·rename_i e M j
      cases h;exact last _ (c.trans (gk (c.ok G) j)) W
    ·split at h
     ·have z:=eV G;have R:=z.trans (b0 (z.ok G) (s:=[61]) aC);split at h
      ·cases h
      ·rename_i e M j
       cases h;exact last _ (R.trans (gk (R.ok G) j)) W
     ·split at h
      ·cases h
      ·rename_i e M j;have hx:=gk G j;split at h
       ·rename_i H;have c:=hx.trans (dZ H.2.2 aC);split at h
        ·rename_i a r v Z N o
         cases h;exact last _ (c.trans (gk (c.ok G) o)) W
        ·cases h
       grind
def uK:∀(f:Nat)(j:J)(p q:RS)(t:T),(∀k d out,j=.loop k d out->out.n.ai=3->out.aw≠[])->mE f j p=some (t,q)->t.n.ai=3->t.aw≠[]
 |0,j,p,q,t,_,h,_=>by simp[mE]at h
 |f+1,j,p,q,t,A,h,G=>by
  cases j with
  |expr d=>rw[mE]at h;exact zdg
  |level k d =>
   rw[mE]at h;split at h
   ·exact zdg
   ·split at h
    ·cases h
    ·rename_i out M i;exact uK f _ _ _ _ (fun k d o e=>by cases e;exact uK f _ _ _ _ (fun k d o e=>by cases e) i) h G
  |loop k d out =>
   rw[mE]at h;split at h
   ·split at h
    ·cases h
    ·split at h
     ·cases h
     ·exact uK f _ _ _ _ (fun k d o e r=>by cases e;cases r) h G
   grind
  |operand d =>
   rw[mE]at h;generalize p.a6 d=p at *
   try simp only at h
   split at h
   ·split at h
    ·cases h;cases G
    ·split at h
     ·cases h;cases G
     ·split at h
      ·exact zdg
      ·split at h
       ·split at h
        ·cases h
        ·cases h;cases G
       ·split at h
        ·split at h
         ·cases h
         ·rename_i a M i;cases h;exact uK f _ _ _ _ (fun k d o e=>by cases e) i G
        ·cases h;cases G
   ·cases h;cases G
  |named a s d =>
   rw[mE]at h;split at h
   ·split at h
    ·cases h
    ·cases h;simp[T.aw,one]
   ·split at h
    ·split at h
     ·cases h
     ·cases h;cases G
    ·cases h;cases G
def OE:∀(f:Nat),(∀d p,p.ok->5*p.left+4<=f->∃t q,mS f (.block d) p=some (t,q))/\(∀d p,p.ok->5*p.left+2<=f->∃t q,mS f (.stmt d) p=some (t,q))/\(∀a d p,p.ok->p.i<p.l.length->5*p.left+1<=f->∃t q,mS f (.cond a d) p=some (t,q)) /\
  (∀d v p,p.ok->5*p.left+3<=f->∃t q,mB f d v p=some (t,q))
 |0=>⟨fun d p _ h=>by omega,fun d p _ h=>by omega,fun a d p _ _ h=>by omega,fun d v p _ h=>by omega⟩
 |f+1=>by
  have⟨G,S,T,H⟩:=OE f;refine⟨fun d p c h=>?_,fun d p c h=>?_,fun a d p c C h=>?_,fun d v p c h=>?_⟩
  ·rw[mS];have j:=(iF c d).ok c;rw[<-uJ p d]at h;generalize p.a6 d=p at *
   try simp only
   have w:=b0 j (s:=[123]) aC;obtain⟨t,q,e⟩:=H (d+1) [] (p.ba [123]) (w.ok j) (by have:=mQ w;omega)
   simp_all
  ·rw[mS];have j:=(iF c d).ok c;rw[<-uJ p d]at h;generalize p.a6 d=p at *
   try simp only
   split
   ·rename_i m;have u:=dZ m aC;have n:=u.trans (eV (u.ok j));have A:=n.trans (b0 (n.ok j) (s:=[61]) aC);have⟨t,q,e⟩:=vG (A.ok j) (d+1)
    grind
   ·split
    ·rename_i m;refine T _ _ _ j ?_ aH
     rcases m with m|m
     ·exact(dH m aC).1
     ·exact(dH m aC).1
    ·split
     ·rename_i m;have u:=dZ m aC;have⟨t,q,e⟩:=vG (u.ok j) (d+1)
      grind
     ·split
      ·have n:=eV j;have A:=n.trans (b0 (n.ok j) (s:=[61]) aC);have⟨t,q,e⟩:=vG (A.ok j) (d+1)
       grind
      ·have⟨t,q,e⟩:=vG j (d+1);rw[e];have hx:=gk j e;simp only;split
       ·rename_i m;have u:=hx.trans (dZ m.2.2 aC);have⟨t2,O,R⟩:=vG (u.ok j) (d+1);rw[R];have Y:=uK _ _ _ _ _ (fun k d o e=>by cases e) e m.1
        cases hk:t.aw with
        |nil=>grind
        |cons a r=>simp
       simp
  ·rw[mS];have u:=cY C;have X:=qx C;have w:=u.trans (b0 (u.ok c) (s:=[40]) aC);have⟨e,q,E⟩:=vG (w.ok c) (d+1);rw[E];simp only;have hx:=w.trans (gk (w.ok c) E);have z:=hx.trans (b0 (hx.ok c) (s:=[41]) aC)
   have hq:(q.ba [41]).left+1<=p.left:=by
    have a1:=mQ (b0 (u.ok c) (s:=[40]) aC);have Z:=mQ (gk (w.ok c) E);have a3:=mQ (b0 (hx.ok c) (s:=[41]) aC);omega
   have⟨b,O,J⟩:=G (d+1) (q.ba [41]) (z.ok c) aH;rw[J];simp only;have B:=(pU f).1 _ _ _ _ (z.ok c) (fun a Q h=>by cases h) J;split
   ·rename_i m;have F:=(z.trans B).trans (dZ m.2 aC)
    obtain⟨b2,q3,W⟩:=G (d+1) O.next (F.ok c) (by
     have a1:=mQ B
     grind[RS.left,RS.next])
    grind
   simp
  ·rw[mB];split
   ·have⟨a,q,e⟩:=S d p c aH;rw[e];simp only;have N:=(pU f).1 _ _ _ _ c (fun a Q h=>by cases h) e
    by_cases M:q.code=0
    ·have:=Pt c e M;refine H _ _ _ (N.ok c) ?_;have:=mQ N;omega
    ·cases f with
     |zero=>omega
     |succ f =>
      rw[mB,ae (fun h=>M h.1)];simp
   simp
structure BU(x:Tok):Prop where
 at_:0<=x.at_/\x.at_<=6000
 n:0<=x.n/\x.n<=2147483647
structure SB(p:RS):Prop where
 tok:∀t∈p.l,BU t
 e:0<=p.e/\p.e<=6000
theorem SB.to{p q:RS}(h:SB p)(k:p.to q):SB q:=⟨by rw[k.1];exact h.tok,by rw[k.2.1];exact h.e⟩
def SB.at{p:RS}(h:SB p){i:Nat}{t:Tok}(M:p.l[i]?=some t):BU t:=h.tok t (bP M)
theorem SB.place{p:RS}(h:SB p):0<=p.place/\p.place<=6000:=by
 unfold RS.place;split
 ·rename_i t M;exact(h.at M).at_
 ·exact h.e
structure bdN(x:Nd):Prop where
 ai:0<=x.ai/\x.ai<=14
 at_:0<=x.at_/\x.at_<=6000
 n:0<=x.n/\x.n<=2147483647
 s:x.s.length<=12
mutual
def mK:T->Prop
 |.mk n l=>bdN n/\lO l
def lO:List T->Prop
 |[]=>True
 |t::r=>mK t/\lO r
end
theorem mK.n{t:T}(h:mK t):bdN t.n:=by cases t;grind[mK,T.n]
theorem mK.aw{t:T}(h:mK t):lO t.aw:=by cases t;rw[mK]at h;exact h.2
def B2:∀{a b:List T},lO a->lO b->lO (a++b)
 |[],b,_,h=>h
 |t::a,b,h,k=>by rw[cons_append,lO];rw[lO]at h;exact⟨h.1,B2 h.2 k⟩
theorem wq{t:T}(h:mK t):lO [t]:=by grind[lO]
def Qm{t u:T}(h:mK t)(k:mK u):lO [t,u]:=by grind[lO]
theorem CU:∀(a b:List T),aM (a++b)=aM a+aM b
 |[],b=>by simp[aM]
 |t::a,b=>by rw[cons_append,aM,aM,CU a b];omega
theorem ug(t:T):aM [t]=aU t:=by rfl
theorem Hc(t u:T):aM [t,u]=aU t+aU u:=by rfl
theorem YO(t u v:T):aM [t,u,v]=aU t+aU u+aU v:=by grind[aM,aU]
section
variable{k a:Int}{s:ab}{l:List T}
theorem jP:aU (one k a s l)=aM l+1:=by rfl
theorem nf(N:0<=k/\k<=14)(ha:0<=a/\a<=6000)(G:s.length<=12)(M:lO l):mK (one k a s l):=by
 unfold one;rw[mK];exact⟨⟨N,ha,⟨Int.le_refl _,show(0:Int)<=2147483647 by decide⟩,G⟩,M⟩
end
theorem CN:mK T.zero:=by
 unfold T.zero;rw[mK,lO];exact⟨⟨⟨Int.le_refl _,show(0:Int)<=14 by decide⟩,⟨Int.le_refl _,show(0:Int)<=6000 by decide⟩,⟨Int.le_refl _,show(0:Int)<=2147483647 by decide⟩,bp _⟩,trivial⟩
theorem CX:aU T.zero=1:=by rfl
theorem oy(p:RS):p.name.1.length<=12:=by
 grind[RS.name]
def oR:J->Nat
 |.loop _ _ out=>aU out
 |_=>1
def jOk:J->Prop
 |.loop _ _ out=>mK out
 |.named a s _=>(0<=a/\a<=6000)/\s.length<=12
 |_=>True
def Tx:∀(f:Nat),(∀j p t q,p.ok->SB p->jOk j->mE f j p=some (t,q)->mK t/\aU t<=oR j+2*(q.i-p.i)) /\
  (∀d p l q,p.ok->SB p->mL f d p=some (l,q)->lO l/\aM l<=1+2*(q.i-p.i))/\(∀d w p l q,p.ok->SB p->lO w->qy f d w p=some (l,q)->lO l/\aM l<=aM w+2*(q.i-p.i))
 |0=>⟨fun j p t q _ _ _ h=>by simp[mE]at h,fun d p l q _ _ h=>by simp[mL]at h,fun d w p l q _ _ _ h=>by simp[qy]at h⟩
 |f+1=>by
  have⟨A,h2,h3⟩:=Tx f;have⟨z,t2,t3⟩:=rY f;refine⟨fun j p t q e v J h=>?_,fun d p l q e v h=>?_,fun d w p l q e v r h=>?_⟩
  ·cases j with
   |expr d =>
    rw[mE]at h;have R:=iF e d
    have hi:(p.a6 d).i=p.i:=by unfold RS.a6 RS.fail;grind
    have:=A (.level 0 d) _ _ _ (R.ok e) (v.to R) trivial h
    grind[oR]
   |level k d =>
    rw[mE]at h;split at h
    ·exact A (.operand (d+1)) _ _ _ e v trivial h
    ·split at h
     ·cases h
     ·rename_i out Q o;have B:=z _ _ _ _ e o;have r:=A (.level (k+1) d) _ _ _ e v trivial o;have Y:=A (.loop k d out) _ _ _ (B.ok e) (v.to B) r.1 h;have T:=(z _ _ _ _ (B.ok e) h).2.2.2;have N:=B.2.2.2
      grind[oR]
   |loop k d out =>
    rw[mE]at h;split at h
    ·rename_i X;split at h
     ·cases h
     ·rename_i S B;have O:=(bY B).1;have m:=cY (p:=p) O
      have M:S.s.length<=12:=by
       have H:=(FX X.2).2.2;unfold RS.aJ at H;rw[ak X.1,Nat.add_zero,B]at H;simp only[dS]at H;have h9:=(FX X.2).1;unfold RS.aJ at h9;rw[ak X.1,Nat.add_zero,B]at h9
       grind[dS]
      split at h
      ·cases h
      ·rename_i b Q o;have c:=z _ _ _ _ (m.ok e) o;have r:=A (.level (k+1) d) _ _ _ (m.ok e) (v.to m) trivial o;have C:=m.trans c;have Y:=A (.loop k d (one 6 S.at_ S.s [out,b])) _ _ _ (C.ok e) (v.to C) (nf aC (v.at B).at_ M (Qm J r.1)) h;have T:=(z _ _ _ _ (C.ok e) h).2.2.2;have N:=c.2.2.2;have G:=r.2;have Z:=Y.2;simp only[oR,jP,Hc]at G Z |-
       have H:p.next.i=p.i+1:=rfl
       grind
    ·cases h;exact⟨J,by grind[oR]⟩
   |operand d =>
    rw[mE]at h;have R:=iF e d
    have hi:(p.a6 d).i=p.i:=by unfold RS.a6 RS.fail;grind
    rw[<-hi];have u:=R.ok e;have E:=v.to R;generalize p.a6 d=p at *
    try simp only at h
    simp only[oR];split at h
    ·split at h
     ·grind[CN,CX]
     ·rename_i S B;have O:=(bY B).1;have m:=cY (p:=p) O
      have H:p.next.i=p.i+1:=rfl
      have W:=E.at B;split at h
      ·cases h;refine⟨?_,by rw[aU,aM];omega⟩;rw[mK,lO];exact⟨⟨⟨show(0:Int)<=1 by decide,show(1:Int)<=14 by decide⟩,W.at_,W.n,bp _⟩,trivial⟩
      ·split at h
       ·have F:=eV u;have r:=A (.named S.at_ p.name.1 d) _ _ _ (F.ok u) (E.to F) ⟨W.at_,oy p⟩ h;have T:=(z _ _ _ _ (F.ok u) h).2.2.2;have N:=F.2.2.2
        grind[oR]
       ·split at h
        ·rename_i M;split at h
         ·cases h
         ·rename_i a Q o;have r:=A (.operand (d+1)) _ _ _ (m.ok u) (E.to m) trivial o;have N:=(z _ _ _ _ (m.ok u) o).2.2.2;have G:=r.2;simp only[oR]at G;cases h;refine⟨nf aC W.at_ zff (wq r.1),?_⟩;rw[jP,ug];omega
        ·split at h
         ·split at h
          ·cases h
          ·rename_i a Q o;have r:=A (.expr (d+1)) _ _ _ (m.ok u) (E.to m) trivial o;have c:=m.trans (z _ _ _ _ (m.ok u) o);have N:=(z _ _ _ _ (m.ok u) o).2.2.2;have G:=r.2;simp only[oR]at G;cases h;have Z:=(b0 (c.ok u) (s:=[41]) aC).2.2.2
           grind
         grind[CN,CX]
    grind[CN,CX]
   |named a s d =>
    rw[mE]at h;simp only[oR];split at h
    ·rename_i M;have m:=dZ M aC
     have H:p.next.i=p.i+1:=rfl
     split at h
     ·cases h
     ·rename_i a' Q o;have r:=A (.expr (d+1)) _ _ _ (m.ok e) (v.to m) trivial o;have c:=m.trans (z _ _ _ _ (m.ok e) o);have N:=(z _ _ _ _ (m.ok e) o).2.2.2;have G:=r.2;simp only[oR]at G;cases h;have Z:=(b0 (c.ok e) (s:=[93]) aC).2.2.2;refine⟨nf aC J.1 J.2 (wq r.1),?_⟩;rw[jP,ug];omega
    ·split at h
     ·rename_i M;have m:=dZ M aC
      have H:p.next.i=p.i+1:=rfl
      split at h
      ·cases h
      ·rename_i l Q o;have r:=h2 _ _ _ _ (m.ok e) (v.to m) o;have N:=(t2 _ _ _ _ (m.ok e) o).2.2.2;have G:=r.2;cases h;refine⟨nf aC J.1 J.2 r.1,?_⟩;rw[jP];omega
     ·cases h;refine⟨nf aC J.1 J.2 (by simp[lO]),?_⟩;simp[jP,aM]
  ·rw[mL]at h;split at h
   ·cases h;simp[lO,aM,RS.i,RS.ba]
   ·split at h
    ·cases h
    ·rename_i a Q o;have c:=z _ _ _ _ e o;have r:=A (.expr d) _ _ _ e v trivial o;have Y:=h3 _ _ _ _ _ (c.ok e) (v.to c) (wq r.1) h;have T:=(t3 _ _ _ _ _ (c.ok e) h).2.2.2;have N:=c.2.2.2
     grind[oR,ug]
  ·rw[qy]at h;split at h
   ·rename_i M;have m:=dZ M aC
    have H:p.next.i=p.i+1:=rfl
    split at h
    ·cases h
    ·rename_i a Q o;have c:=m.trans (z _ _ _ _ (m.ok e) o);have h9:=(z _ _ _ _ (m.ok e) o).2.2.2;have r:=A (.expr d) _ _ _ (m.ok e) (v.to m) trivial o;have Y:=h3 _ _ _ _ _ (c.ok e) (v.to c) (B2 ‹lO w› (wq r.1)) h;have T:=(t3 _ _ _ _ _ (c.ok e) h).2.2.2
     grind[oR,CU,ug]
   grind
def yQ{d:Nat}{p q:RS}{t:T}(W:p.ok)(j:SB p)(h:mX d p=some (t,q)):mK t/\aU t<=1+2*(q.i-p.i)/\p.i<=q.i:=by
 have:=(Tx _).1 (.expr d) _ _ _ W j trivial h;exact⟨this.1,this.2,(gk W h).2.2.2⟩
def MK{p:RS}{s:ab}(G:s≠[])(h:¬p.code=0):¬(p.ba s).code=0:=fun e=>h (rF G e).2.1
def TA:∀(f:Nat),(∀d p t q,p.ok->SB p->mS f (.block d) p=some (t,q)->mK t/\aU t<=1+4*(q.i-p.i)/\p.i<=q.i) /\
  (∀d p t q,p.ok->SB p->mS f (.stmt d) p=some (t,q)->mK t/\aU t<=2+4*(q.i-p.i)/\(q.code=0->aU t<=4*(q.i-p.i))/\p.i<=q.i) /\
  (∀a d p t q,p.ok->SB p->p.i<p.l.length->(0<=a/\a<=6000)->mS f (.cond a d) p=some (t,q)->mK t/\aU t<=2+4*(q.i-p.i)/\(q.code=0->aU t<=4*(q.i-p.i))/\p.i<=q.i) /\
  (∀d E p l q,p.ok->SB p->lO E->mB f d E p=some (l,q)->lO l/\(aM l<=aM E+(if p.code=0 then 2 else 0)+4*(q.i-p.i))/\p.i<=q.i)
 |0=>⟨fun d p t q _ _ h=>by simp[mS]at h,fun d p t q _ _ h=>by simp[mS]at h,fun a d p t q _ _ _ _ h=>by simp[mS]at h,fun d E p l q _ _ _ h=>by simp[mB]at h⟩
 |f+1=>by
  have⟨h1,h2,h3,h4⟩:=TA f;refine⟨fun d p t q o F h=>?_,fun d p t q o F h=>?_,fun a d p t q o F ps ha h=>?_,fun d E p l q o F hac h=>?_⟩
  ·rw[mS]at h;have T:=iF o d
   have hi:(p.a6 d).i=p.i:=by unfold RS.a6 RS.fail;grind
   rw[<-hi];have c:=T.ok o;have k:=F.to T;generalize p.a6 d=p at *
   try simp only at h
   have A:=b0 c (s:=[123]) aC;split at h
   ·cases h
   ·rename_i l z j;have N:=h4 _ _ _ _ _ (A.ok c) (k.to A) (by simp[lO]) j;have C:=A.trans ((pU f).2 _ _ _ _ _ (A.ok c) j);cases h;have O:=(b0 (C.ok c) (s:=[125]) aC).2.2.2;have h6:=A.2.2.2;refine⟨nf aC k.place (bp _) N.1,?_,by omega⟩;rw[jP];have h7:=N.2.1;have Z:=N.2.2;rw[aM]at h7;split at h7
    ·rename_i G;have h9:=(rF aC G).1
     have h10:(p.ba [123]).i=p.i+1:=by rw[h9];rfl
     omega
    ·omega
  ·rw[mS]at h;have T:=iF o d
   have hi:(p.a6 d).i=p.i:=by unfold RS.a6 RS.fail;grind
   rw[<-hi];have c:=T.ok o;have k:=F.to T;generalize p.a6 d=p at *
   try simp only at h
   have M:=k.place
   have last:∀(z:RS),p.to z->z.i<=(z.ba [59]).i/\((z.ba [59]).code=0->(z.ba [59]).i=z.i+1):=fun z hq=>⟨(b0 (hq.ok c) aC).2.2.2,fun G=>by rw[(rF aC G).1];rfl⟩
   split at h
   ·rename_i w;have u:=dZ w aC;have B:=u.trans (eV (u.ok c));have m:=B.trans (b0 (B.ok c) (s:=[61]) aC);split at h
    ·cases h
    ·rename_i e z j;have hx:=yQ (m.ok c) (k.to m) j;have H:=last _ (m.trans (gk (m.ok c) j));have O:=((eV (u.ok c)).trans (b0 (B.ok c) (s:=[61]) aC)).2.2.2
     have Z:p.next.i=p.i+1:=rfl
     grind[nf,oy,wq,jP,ug]
   ·split at h
    ·rename_i w;refine h3 _ _ _ _ _ c k ?_ M h
     rcases w with w|w
     ·exact(dH w aC).1
     ·exact(dH w aC).1
    ·split at h
     ·rename_i w;have u:=dZ w aC;split at h
      ·cases h
      ·rename_i e z j;have hx:=yQ (u.ok c) (k.to u) j;have H:=last _ (u.trans (gk (u.ok c) j))
       have Z:p.next.i=p.i+1:=rfl
       cases h;refine⟨nf aC M (bp _) (wq hx.1),?_,fun G=>?_,?_⟩
       ·grind[jP,ug]
       ·grind[jP,ug]
       omega
     ·split at h
      ·have B:=eV c;have m:=B.trans (b0 (B.ok c) (s:=[61]) aC);split at h
       ·cases h
       ·rename_i e z j;have hx:=yQ (m.ok c) (k.to m) j;have H:=last _ (m.trans (gk (m.ok c) j));have O:=m.2.2.2
        grind[nf,oy,wq,jP,ug]
      ·split at h
       ·cases h
       ·rename_i e z j;have Y:=gk c j;have hx:=yQ c k j;split at h
        ·rename_i w;have Xh:=dZ w.2.2 aC;have u:=Y.trans Xh;split at h
         ·rename_i a r v p2 hk W;have hv:=yQ (u.ok c) (k.to u) W;have H:=last _ (u.trans (gk (u.ok c) W))
          have Z:z.next.i=z.i+1:=rfl
          have hsa:mK a:=by have:=hx.1.aw;grind[lO]
          have hza:aU a+1<=aU e:=by
           cases e with
           |mk n l =>
            have hk:l=a::r:=hk
            grind[aM,aU]
          cases h;refine⟨nf aC M hx.1.n.s (Qm hsa hv.1),?_,fun G=>?_,?_⟩
          ·grind[jP,Hc]
          ·grind[jP,Hc]
          omega
         ·cases h
        ·have H:=last _ Y;cases h;refine⟨nf aC M (bp _) (wq hx.1),?_,fun G=>?_,?_⟩
         ·grind[jP,ug]
         ·grind[jP,ug]
         omega
  ·rw[mS]at h;have u:=cY ps
   have Z:p.next.i=p.i+1:=rfl
   have A:=u.trans (b0 (u.ok o) (s:=[40]) aC);have O:=(b0 (u.ok o) (s:=[40]) aC).2.2.2
   have S:0<=p.ck/\p.ck<=14:=by grind[RS.ck]
   try simp only at h
   split at h
   ·cases h
   ·rename_i e z j;have hx:=yQ (A.ok o) (F.to A) j;have J:=(A.trans (gk (A.ok o) j)).trans (b0 ((A.trans (gk (A.ok o) j)).ok o) (s:=[41]) aC);have h6:=(b0 ((A.trans (gk (A.ok o) j)).ok o) (s:=[41]) aC).2.2.2;split at h
    ·cases h
    ·rename_i b q2 Q;have Jb:=h1 _ _ _ _ (J.ok o) (F.to J) Q;have C:=J.trans ((pU f).1 _ _ _ _ (J.ok o) (fun a d' h=>by cases h) Q);split at h
     ·rename_i w;have X:=C.trans (dZ w.2 aC)
      have h9:q2.next.i=q2.i+1:=rfl
      split at h
      ·cases h
      ·rename_i b2 q3 R;have xM:=h1 _ _ _ _ (X.ok o) (F.to X) R;cases h;refine⟨nf S ha (bp _) (by grind[lO]),?_,fun G=>?_,?_⟩
       ·grind[jP,YO]
       ·grind[jP,YO]
       omega
     ·cases h;refine⟨nf S ha (bp _) (Qm hx.1 Jb.1),?_,fun G=>?_,?_⟩
      ·grind[jP,Hc]
      ·grind[jP,Hc]
      omega
  ·rw[mB]at h;split at h
   ·rename_i G;split at h
    ·cases h
    ·rename_i a p' j;have w:=h2 _ _ _ _ o F j;have C:=(pU f).1 _ _ _ _ o (fun a d' h=>by cases h) j;have N:=h4 _ _ _ _ _ (C.ok o) (F.to C) (B2 hac (wq w.1)) h;have O:=N.2.1;have h6:=N.2.2;rw[CU,ug]at O
     grind
   grind
open Go.Im
abbrev D3(n:Nd):Nat:=n.s.length+n.aw.length+1
mutual
def SJ:∀(t:T)(a:Nat),mK t->b9 D3 (dW a t)+1<=14*aU t
 |.mk n l,a,h=>by
  rw[mK]at h;have o:=h.1.s;have b:=SH l (a+1) h.2;rw[dW,b9,aU]
  grind[dw]
def SH:∀(l:List T)(a:Nat),lO l->b9 D3 (bZ a l)+l.length<=14*aM l
 |[],a,h=>by simp[b9,D3,bZ,aM]
 |t::r,a,h=>by
  rw[lO]at h;have o:=SJ t a h.1;have b:=SH r (a+aU t) h.2;rw[bZ,qk,aM,length_cons];omega
end
mutual
def SI:∀(t:T)(a:Nat),mK t->∀n∈dW a t,0<=n.n/\n.n<=2147483647
 |.mk n l,a,h,m,hm=>by
  rw[mK]at h;rw[dW]at hm
  rcases iY hm with rfl|hm
  ·exact h.1.n
  ·exact SG l (a+1) h.2 m hm
def SG:∀(l:List T)(a:Nat),lO l->∀n∈bZ a l,0<=n.n/\n.n<=2147483647
 |[],a,h,m,hm=>by grind[bZ]
 |t::r,a,h,m,hm=>by
  rw[lO]at h;rw[bZ]at hm
  rcases oO hm with hm|hm
  ·exact SI t a h.1 m hm
  ·exact SG r (a+aU t) h.2 m hm
end
structure PB(p:Src)(i:Nat):Prop where
 w:cU p<=56*i
 num:kF p
def Gc:Src:=⟨[],[],[],[]⟩
def PB.no:PB Gc 0:=⟨aY _,⟨(fun a h=>by simp[Gc]at h),(fun a h=>by simp[Gc]at h)⟩⟩
def PB.glob{p:Src}{i j:Nat}(h:PB p i)(s:ab)(G:s.length<=12)(S:i<j):PB ⟨p.aq++[s],p.aj,p.av,p.ah⟩ j:=by
 refine⟨?_,h.num.aj,h.num.ah⟩;exact ze6
def PB.arr{p:Src}{i j:Nat}(h:PB p i)(a:Ar)(G:a.name.length<=12)(m:0<=a.size/\a.size<=2147483647)(S:i<j):PB ⟨p.aq,p.aj++[a],p.av,p.ah⟩ j:=by
 refine⟨?_,fun x hx=>?_,h.num.ah⟩
 ·exact ze6
 ·rcases oO hx with hx|hx
  ·exact h.num.aj x hx
  grind
def Hq:∀(l:List ab),(∀s∈l,s.length<=12)->wS l<=13*l.length
 |[],_=>aY _
 |s::l,h=>by
  have o:=h s zfg
  have b:=Hq l fun s G=>h s (by simp[G])
  unfold wS at *
  grind[b9]
def PB.fn{p:Src}{i j:Nat}(h:PB p i)(f:Fn)(t:T)(H:f.name.length<=12)(W:∀s∈f.params,s.length<=12)(M:mK t)(k b:Nat)(N:f.params.length<=k)(l:aU t<=1+4*b)(S:i+1+k+b<=j):PB ⟨p.aq,p.aj,p.av++[f],p.ah++dW p.ah.length t⟩ j:=by
 refine⟨?_,h.num.aj,fun x hx=>?_⟩
 ·have o:=h.w;have c:=SJ t p.ah.length M;have G:=Hq f.params W;unfold cU at *;simp only[qk,b9]at *
  grind
 ·rcases oO hx with hx|hx
  ·exact h.num.ah x hx
  ·have:=SI t _ M x hx;omega
def JK{p:Src}(h:kF p)(i:Nat){x:Nd}(hx : -9223372036854775808<=x.n/\x.n<=9223372036854775807):kF ⟨p.aq,p.aj,p.av,p.ah.set i x⟩ :=
 ⟨h.aj,fun y B=>by rcases List.mem_or_eq_of_mem_set B with B|B;exact h.ah y B;grind⟩
def abn{p:Src}{i:Nat}{x:Nd}(h:p.ah[i]?=some x):x.s.length+x.aw.length+1<=cU p:=by
 have:=rP (f:=fun n:Nd=>n.s.length+n.aw.length+1) (bP h)
 grind[cU]
theorem aaf(p:Src)(f g:Fn)(r:List Fn)(h:p.av=f::r)(hn:g.name=f.name)(W:g.params=f.params):cU ⟨p.aq,p.aj,g::r,p.ah⟩=cU p:=by
 unfold cU;simp only[h,b9,hn,W]
theorem aae(p:Src)(a:Ar):cU ⟨p.aq,p.aj++[a],p.av,p.ah⟩=cU p+a.name.length+1:=by
 unfold cU;simp only[qk,b9];omega
def DD(s:ab):∀(f:Nat)(n:Int)(a:Nat),0<=n->0<=(number s f n a).1
 |0,n,a,h=>h
 |f+1,n,a,h=>by
  rw[number]
  cases W:s[a]? with
  |none=>exact h
  |some c =>
   simp only
   by_cases T:eM c=true
   ·rw[ak T];refine DD s f _ _ ?_
    grind[eM]
   grind
def OT{s:ab}{a:Nat}{c:UInt8}(W:s[a]?=some c)(hd:eM c=true)(n:Int):a<(number s (s.length+1) n a).2:=by
 grind[sW]
theorem Pl:∀x∈cy,1<=x.length:=by decide
section
variable{s:ab}{a:Nat}{c:UInt8}
theorem R9(W:s[a]?=some c)(N:¬(gT s a c).1.ai=0):a<(gT s a c).2:=by
 have O:=(bY W).1;unfold gT at N |-
 by_cases T:eM c=true
 ·simp_all[ak,OT]
 ·rw[ae T]at N |-
  by_cases G:small c=true
  ·rw[ak G];show a<ij s a;unfold ij;rw[run,W];simp only;rw[ak (by grind[et])]
   grind[lU]
  grind[Pl]
theorem VS(W:s[a]?=some c)(M:s.length<=6000)(hn:(gT s a c).1.n<=2147483647):BU (gT s a c).1:=by
 have N:=(bY W).1;unfold gT at hn |-
 by_cases T:eM c=true
 ·rw[ak T]at hn |-;exact⟨⟨by simp,by grind⟩,DD s _ 0 a (Int.le_refl _),hn⟩
 ·rw[ae T]at hn |-
  by_cases G:small c=true
  ·rw[ak G]at hn |-;exact⟨⟨by simp,by grind⟩,Int.le_refl _,hn⟩
  ·rw[ae G]at hn |-;split
   ·exact⟨⟨by simp,by grind⟩,Int.le_refl _,by simp⟩
   ·exact⟨⟨Int.le_refl _,by simp⟩,Int.le_refl _,by simp⟩
end
def tQ{R:Type}{f:R->Nat}(h:∀x,1<=f x):∀l:List R,l.length<=b9 f l
 |[]=>aY _
 |x::l=>by have o:=h x;have b:=tQ h l;grind[b9]
theorem Ao(p:Src):p.aq.length<=cU p/\p.aj.length<=cU p/\p.av.length<=cU p/\p.ah.length<=cU p:=by
 have o:p.aq.length<=wS p.aq:=tQ (fun s=>Nat.le_add_left 1 _) _;have b:=tQ (f:=fun a:Ar=>a.name.length+1) (fun s=>Nat.le_add_left 1 _) p.aj;have G:=tQ (f:=fun f:Fn=>f.name.length+wS f.params+1) (fun s=>Nat.le_add_left 1 _) p.av;have C:=tQ (f:=fun n:Nd=>n.s.length+n.aw.length+1) (fun s=>Nat.le_add_left 1 _) p.ah;unfold cU;omega
def pY(p:RS):Int × RS:=match p.l[p.i]? with
 |some t=>if t.ai=1 then(t.n,p.next)else(0,p.fail 7 p.place)
 |none=>(0,p.fail 7 p.place)
def Kn{p:RS}(W:p.ok):p.to (pY p).2:=by
 grind[ni,cY,List.getElem?_eq_some_iff,RS.to,pY]
def R0{p:RS}(h:SB p):0<=(pY p).1/\(pY p).1<=2147483647:=by
 unfold pY
 cases M:p.l[p.i]? with
 |none=>simp
 |some t =>
  simp only;split
  ·exact(h.at M).n
  simp
end Go.Sp
namespace Go.Mn
open Go.Xp (ab)
inductive R where
 |num (n:Int)
 |loc (k:Nat)
 |glob (k:Nat)
 |at_ (k:Nat) (i:R)
 |size (n:Int)
 |get
 |put (a:R)
 |call (f:Nat) (l:List R)
 |un (o:ab) (a:R)
 |bin (o:ab) (a b:R)
 |and_ (a b:R)
 |or_ (a b:R)
 |setL (k:Nat) (a:R)
 |setG (k:Nat) (a:R)
 |putA (k:Nat) (i v:R)
 |if1 (c t:R)
 |if2 (c t e:R)
 |while_ (c b:R)
 |ret (a:R)
 |do_ (a:R)
 |block (l:List R)
structure M where
 inp:List Int
 out:List Int
 cS:List Int
 cells:List (List Int)
 be:Nat
 fin:Int
 why:Int
 a6:Nat
 locs:List Int
 left:Bool
 q5:Int
def M.over(s:M):Bool:=s.fin != 0 ||s.left
def M.stop(s:M)(c w:Int):M:={ s with fin:=c,why:=w }
structure Op where
 un:ab->Int->Int
 bin:ab->Int->Int->Int × Int
 wr:Int->Int
 pl:Int->Int
def gA{R β:Type}(x:Option (R × M))(k:R->M->Option (β × M)):Option (β × M):=match x with
 |none=>none
 |some (v,s)=>k v s
def row(s:M)(k:Nat):List Int:=s.cells.getD k []
def vB(l:List Int)(n:Int):Bool:=decide (0<=n)&&decide (n<(l.length:Int))
def rM(s:M)(k:Nat)(n:Int)(v:Int):M:={ s with cells:=s.cells.set k ((row s k).set n.toNat v) }
def M.enter(s:M)(args:List Int):M:={ s with a6:=s.a6+1,locs:=args++List.replicate 40 0,left:=false,q5:=0 }
def M.leave(s t:M):M:={ t with a6:=t.a6-1,locs:=s.locs,left:=s.left,q5:=s.q5 }
section
variable(O:Op)(F:Nat)(B:Nat->R)
mutual
def ev:Nat->R->M->Option (Int × M)
 |0,_,_=>none
 |g+1,r,s=>if F<=s.be then some (0,s.stop 3 0)else cQ g r { s with be:=s.be+1 }
def cQ:Nat->R->M->Option (Int × M)
 |0,_,_=>none
 |g+1,r,s=>match r with
  |.num n=>some (n,s)
  |.loc k=>some (s.locs.getD k 0,s)
  |.glob k=>some (s.cS.getD k 0,s)
  |.at_ k i=>gA (ev g i s) fun n s=>if s.over then some (0,s)else if vB (row s k) n then some ((row s k).getD n.toNat 0,s)else some (0,s.stop 2 6)
  |.size n=>some (n,s)
  |.get=>match s.inp with
   |[]=>some (-1,s)
   |a::r=>some (O.wr a,{ s with inp:=r })
  |.put a=>gA (ev g a s) fun n s=>if s.over then some (0,s)else some (0,{ s with out:=s.out++[O.pl n] })
  |.call f l=>gA (rf g l [] s) fun args s=>if s.over then some (0,s)else if 100<=s.a6 then some (0,s.stop 5 0)else gA (ev g (B f) (s.enter args)) fun _ t=>some (t.q5,s.leave t)
  |.un o a=>gA (ev g a s) fun n s=>some (O.un o n,s)
  |.bin o a b=>gA (ev g a s) fun n s=>if s.over then some (0,s)else gA (ev g b s) fun m s=>if s.over then some (0,s)else if(O.bin o n m).2≠0 then some (0,s.stop 2 (O.bin o n m).2)else some ((O.bin o n m).1,s)
  |.and_ a b=>gA (ev g a s) fun n s=>if s.over then some (0,s)else if n=0 then some (0,s)else gA (ev g b s) fun m s=>if s.over then some (0,s)else some (if m=0 then 0 else 1,s)
  |.or_ a b=>gA (ev g a s) fun n s=>if s.over then some (0,s)else if n≠0 then some (1,s)else gA (ev g b s) fun m s=>if s.over then some (0,s)else some (if m=0 then 0 else 1,s)
  |.setL k a=>gA (ev g a s) fun n s=>if s.over then some (0,s)else some (0,{ s with locs:=s.locs.set k n })
  |.setG k a=>gA (ev g a s) fun n s=>if s.over then some (0,s)else some (0,{ s with cS:=s.cS.set k n })
  |.putA k i v=>gA (ev g i s) fun n s=>if s.over then some (0,s)else if vB (row s k) n then gA (ev g v s) fun m s=>if s.over then some (0,s)else some (0,rM s k n m)else some (0,s.stop 2 6)
  |.if1 c t=>gA (ev g c s) fun n s=>if s.over then some (0,s)else if n≠0 then gA (ev g t s) fun _ s=>some (0,s)else some (0,s)
  |.if2 c t e=>gA (ev g c s) fun n s=>if s.over then some (0,s)else if n≠0 then gA (ev g t s) fun _ s=>some (0,s)else gA (ev g e s) fun _ s=>some (0,s)
  |.while_ c b=>gA (tN g c b s) fun _ s=>some (0,s)
  |.ret a=>gA (ev g a s) fun n s=>if s.over then some (0,s)else some (0,{ s with left:=true,q5:=n })
  |.do_ a=>gA (ev g a s) fun _ s=>some (0,s)
  |.block l=>gA (qq g l s) fun _ s=>some (0,s)
def rf:Nat->List R->List Int->M->Option (List Int × M)
 |0,_,_,_=>none
 |g+1,l,T,s=>match l with
  |[]=>some (T,s)
  |r::l=>gA (ev g r s) fun n s=>if s.over then some (T++[n],s)else rf g l (T++[n]) s
def qq:Nat->List R->M->Option (Unit × M)
 |0,_,_=>none
 |g+1,l,s=>match l with
  |[]=>some ((),s)
  |r::l=>gA (ev g r s) fun _ s=>if s.over then some ((),s)else qq g l s
def tN:Nat->R->R->M->Option (Unit × M)
 |0,_,_,_=>none
 |g+1,c,b,s=>gA (ev g c s) fun n s=>if s.over then some ((),s)else if n=0 then some ((),s)else gA (ev g b s) fun _ s=>if s.over then some ((),s)else tN g c b s
end
end
def c8{R β:Type}{x:Option (R × M)}{k:R->M->Option (β × M)}{y:β × M}(h:gA x k=some y):∃v s,x=some (v,s)/\k v s=some y:=by
 unfold gA at h
 grind
section
variable{O:Op}{F:Nat}{B:Nat->R}
end
section
variable{O:Op}{F:Nat}{B:Nat->R}
def e9{R β:Type}{x:Option (R × M)}{k:R->M->Option (β × M)}{P:M->Prop}{Q:M->Prop}(hx:∃v t,x=some (v,t)/\P t)(N:∀v t,P t->∃y u,k v t=some (y,u)/\Q u):∃y u,gA x k=some (y,u)/\Q u:=by
 obtain⟨v,t,rfl,h⟩:=hx;exact N v t h
theorem eO{R:Type}{c:Prop}[Decidable c]{a b:Option (R × M)}{Q:M->Prop}(ha:c->∃y u,a=some (y,u)/\Q u)(i:¬c->∃y u,b=some (y,u)/\Q u):∃y u,(if c then a else b)=some (y,u)/\Q u:=by
 split
 ·grind
 grind
structure V6(O:Op)(F:Nat)(B:Nat->R)(n:Nat):Prop where
 e:∀g r s,F<=s.be+n->3*n+1<=g->∃v t,ev O F B g r s=some (v,t)/\s.be<=t.be/\(s.be<t.be/\s.be<F\/t.over=true)
 a:∀g l acc s,F<=s.be+n->3*n+2<=g->∃v t,rf O F B g l acc s=some (v,t)/\s.be<=t.be
 b:∀g l s,F<=s.be+n->3*n+2<=g->∃v t,qq O F B g l s=some (v,t)/\s.be<=t.be
 w:∀g c b s,F<=s.be+n->3*n+2<=g->∃v t,tN O F B g c b s=some (v,t)/\s.be<=t.be
 g:∀g r s,F<=s.be+n->3*n+3<=g->∃v t,cQ O F B g r s=some (v,t)/\s.be<=t.be
theorem Hl{n:Nat}(e:∀g r s,F<=s.be+n->3*n+1<=g->∃v t,ev O F B g r s=some (v,t)/\s.be<=t.be/\(s.be<t.be/\s.be<F\/t.over=true))
  (W:∀m,n=m+1->V6 O F B m):V6 O F B n:=by
 have A:∀g l T s,F<=s.be+n->3*n+2<=g->∃v t,rf O F B g l T s=some (v,t)/\s.be<=t.be:=by
  intro g l T s G X;obtain⟨g,rfl⟩:∃Q,g=Q+1:=⟨g-1,by omega⟩
  cases l with
  |nil=>exact⟨T,s,by rw[rf],aY _⟩
  |cons r l =>
   rw[rf]
   refine e9 (e g r s G aH) fun v t N=>eO (fun h=>⟨_,_,rfl,N.1⟩) fun h=>?_
   rcases N.2 with z|z
   ·obtain⟨m,rfl⟩:∃m,n=m+1:=⟨n-1,by omega⟩;have⟨y,u,d,H⟩:=(W m rfl).a g l (T++[v]) t aH aH
    grind
   grind
 have j:∀g l s,F<=s.be+n->3*n+2<=g->∃v t,qq O F B g l s=some (v,t)/\s.be<=t.be:=by
  intro g l s G X;obtain⟨g,rfl⟩:∃Q,g=Q+1:=⟨g-1,by omega⟩
  cases l with
  |nil=>simp[qq,M.be]
  |cons r l =>
   rw[qq]
   refine e9 (e g r s G aH) fun v t N=>eO (fun h=>⟨_,_,rfl,N.1⟩) fun h=>?_
   rcases N.2 with z|z
   ·obtain⟨m,rfl⟩:∃m,n=m+1:=⟨n-1,by omega⟩;have⟨y,u,d,H⟩:=(W m rfl).b g l t aH aH
    grind
   grind
 have C:∀g c b s,F<=s.be+n->3*n+2<=g->∃v t,tN O F B g c b s=some (v,t)/\s.be<=t.be:=by
  intro g c b s G X;obtain⟨g,rfl⟩:∃Q,g=Q+1:=⟨g-1,by omega⟩;rw[tN]
  refine e9 (e g c s G aH) fun v t N=>eO (fun h=>⟨_,_,rfl,N.1⟩) fun h=>eO (fun _=>⟨_,_,rfl,N.1⟩) fun _=>?_
  rcases N.2 with z|z
  ·refine e9 (P:=fun u=>t.be<=u.be) (by
    obtain⟨v,u,d,H,-⟩:=e g b t aH aH
    grind) fun v u R=>eO (fun h=>⟨_,_,rfl,by omega⟩) fun _=>?_
   obtain⟨m,rfl⟩:∃m,n=m+1:=⟨n-1,by omega⟩;have⟨y,x,d,H⟩:=(W m rfl).w g c b u aH aH
   grind
  grind
 refine⟨e,A,j,C,fun g r s G X=>?_⟩;obtain⟨g,rfl⟩:∃Q,g=Q+1:=⟨g-1,by omega⟩
 have E:∀r(t:M),s.be<=t.be->∃v u,ev O F B g r t=some (v,u)/\s.be<=u.be:=fun r t N=>by
  obtain⟨v,u,z,d,-⟩:=e g r t aH aH
  grind
 have q:=fun r=>E r s (aY _)
 cases r with
 |num n=>exact zdT
 |loc k=>exact zdT
 |glob k=>exact zdT
 |size n=>exact zdT
 |get =>
  rw[cQ]
  cases s.inp with
  |nil=>grind
  |cons a r=>grind
 |at_ k i =>
  rw[cQ]
  exact e9 (q i) fun v t N=>eO (fun _=>⟨_,_,rfl,N⟩) fun _=>eO (fun _=>⟨_,_,rfl,N⟩) fun _=>⟨_,_,rfl,N⟩
 |put a =>
  rw[cQ]
  exact za5
 |call f l =>
  rw[cQ]
  refine e9 (A g l [] s G aH) fun v t N=>eO (fun _=>⟨_,_,rfl,N⟩) fun _=>eO (fun _=>⟨_,_,rfl,N⟩) fun _=>?_
  exact e9 (E (B f) (t.enter v) N) fun _ u R=>⟨_,_,rfl,R⟩
 |un o a =>
  rw[cQ]
  exact e9 (q a) fun v t N=>⟨_,_,rfl,N⟩
 |bin o a b =>
  rw[cQ]
  refine e9 (q a) fun v t N=>eO (fun _=>⟨_,_,rfl,N⟩) fun _=>?_
  exact e9 (E b t N) fun v t N=>eO (fun _=>⟨_,_,rfl,N⟩) fun _=>eO (fun _=>⟨_,_,rfl,N⟩) fun _=>⟨_,_,rfl,N⟩
 |and_ a b =>
  rw[cQ]
  refine e9 (q a) fun v t N=>eO (fun _=>⟨_,_,rfl,N⟩) fun _=>eO (fun _=>⟨_,_,rfl,N⟩) fun _=>?_
  exact zdE
 |or_ a b =>
  rw[cQ]
  refine e9 (q a) fun v t N=>eO (fun _=>⟨_,_,rfl,N⟩) fun _=>eO (fun _=>⟨_,_,rfl,N⟩) fun _=>?_
  exact zdE
 |setL k a =>
  rw[cQ]
  exact za5
 |setG k a =>
  rw[cQ]
  exact za5
 |putA k i v =>
  rw[cQ]
  refine e9 (q i) fun n t N=>eO (fun _=>⟨_,_,rfl,N⟩) fun _=>eO (fun _=>?_) fun _=>⟨_,_,rfl,N⟩
  exact e9 (E v t N) fun v t N=>eO (fun _=>⟨_,_,rfl,N⟩) fun _=>⟨_,_,rfl,N⟩
 |if1 c b =>
  rw[cQ]
  refine e9 (q c) fun v t N=>eO (fun _=>⟨_,_,rfl,N⟩) fun _=>eO (fun _=>?_) fun _=>⟨_,_,rfl,N⟩
  exact e9 (E b t N) fun v t N=>⟨_,_,rfl,N⟩
 |if2 c b J =>
  rw[cQ]
  refine e9 (q c) fun v t N=>eO (fun _=>⟨_,_,rfl,N⟩) fun _=>eO (fun _=>?_) fun _=>?_
  ·exact e9 (E b t N) fun v t N=>⟨_,_,rfl,N⟩
  ·exact e9 (E J t N) fun v t N=>⟨_,_,rfl,N⟩
 |while_ c b =>
  rw[cQ]
  exact e9 (C g c b s G aH) fun v t N=>⟨_,_,rfl,N⟩
 |ret a =>
  rw[cQ]
  exact za5
 |do_ a =>
  rw[cQ]
  exact e9 (q a) fun v t N=>⟨_,_,rfl,N⟩
 |block l =>
  rw[cQ]
  exact e9 (j g l s G aH) fun v t N=>⟨_,_,rfl,N⟩
theorem DW(s:M){c w:Int}(h:c≠0):(s.stop c w).over=true:=by
 grind[M.over,M.stop]
theorem YR:∀n,V6 O F B n
 |0=>Hl (fun g r s G X=>by
   obtain⟨g,rfl⟩:∃Q,g=Q+1:=⟨g-1,by omega⟩;rw[ev,ak aH]
   exact⟨_,_,rfl,aY _,.inr (DW s aC)⟩) fun m h=>by omega
 |n+1=>Hl (fun g r s G X=>by
   obtain⟨g,rfl⟩:∃Q,g=Q+1:=⟨g-1,by omega⟩;rw[ev]
   by_cases h:F<=s.be
   ·rw[ak h];exact⟨_,_,rfl,aY _,.inr (DW s aC)⟩
   ·rw[ae h];have⟨v,t,o,b⟩:=(YR n).g g r { s with be:=s.be+1 } zff aH
    grind) fun m h=>by
   have:m=n:=by omega
   subst this;exact YR m
end
end Go.Mn
