/- Part 2 of proofs that are told in their last texts. -/
import Derived.Test.YtfmnfhpifpjljaaGreatDoorO1
open List (all_cons any_eq_false cons_append drop_left find?_eq_none flatMap_cons getD_eq_getElem?_getD getElem?_of_mem length_cons length_nil length_set mem_cons_self nil_append prefix_refl zip_cons_cons)
set_option linter.unusedVariables false
set_option linter.unusedSimpArgs false
set_option linter.defProp false
set_option maxRecDepth 100000
namespace Go.Im
open Go.Xp Go.Sp
def g1(s:ah):ah:=([105,110,116,32]++s)++[59,10]
def a1(a:Ar):ah:=((([105,110,116,32]++a.name)++[91])++po a.size)++[93,59,10]
def dM(M:T->ah)(inl:List ah->Nat->ah)(x:Fn × T):ah:=((((([102,117,110,99,32]++x.1.name)++[40])++cQ x.1.params)++[41,32])++nR M inl 0 x.2)++[10]
def eG{R:Type}(f:R->ah):ah->List R->ah
 |acc,[]=>acc
 |acc,x::l=>eG f (acc++f x) l
section
variable{R:Type}(f:R->ah)
theorem wG(l:List R)(x:R):∀T,eG f T (l++[x])=eG f T l++f x:=by
 induction l with
 |nil=>intro T;rfl
 |cons y l O=>intro T;simp only[cons_append,eG];exact O _
def NQ(l k:List R):∀T,eG f T (l++k)=eG f (eG f T l) k:=by
 induction l with
 |nil=>intro T;rfl
 |cons y l O=>intro T;simp only[cons_append,eG];exact O _
def AG(l:List R):∀T,T.length<=(eG f T l).length:=by
 induction l with
 |nil=>intro T;exact a8 _
 |cons y l O=>intro T;have:=O (T++f y);rw[eG];rw[bp]at this;omega
def wH(l:List R)(k:Nat)(T:ah):(eG f T (l.take k)).length<=(eG f T l).length:=by
 have:eG f T l=eG f (eG f T (l.take k)) (l.drop k):=by rw[<-NQ,List.take_append_drop]
 rw[this];exact AG f _ _
end
def nO(M:T->ah)(inl:List ah->Nat->ah)(p:Src)(aL:List T):ah:=eG (dM M inl) (eG a1 (eG g1 [] p.au) p.aq) (p.av.zip aL)
end Go.Im
namespace Go.Im
def fx{R:Type}(p:R->R->Bool):List R->List R->Bool
 |[],[]=>true
 |a::r,b::s=>p a b&&fx p r s
 |_,_=>false
section
variable{R:Type}{p:R->R->Bool}
def xC:∀{a b:List R},fx p a b=true->a.length=b.length
 |[],[],_=>rfl
 |a::r,b::s,h=>by rw[fx,aZ]at h;rw[length_cons,length_cons,xC h.2]
 |[],b::s,h=>by cases h
 |a::r,[],h=>by cases h
def rF{a b:List R}(h:a.length≠b.length):fx p a b=false:=by
 cases W:fx p a b with
 |false=>rfl
 |true=>exact absurd (xC W) h
theorem Dz:∀{a b:List R}{k:Nat}{x y:R},a[k]?=some x->b[k]?=some y->fx p a b=true->p x y=true
 |a::r,b::s,0,x,y,o,c,h=>by cases o;cases c;rw[fx,aZ]at h;exact h.1
 |a::r,b::s,k+1,x,y,o,c,h=>by rw[fx,aZ]at h;exact Dz zfk zft h.2
 |[],_,k,x,y,o,c,h=>by simp at o
 |a::r,[],k,x,y,o,c,h=>by simp at c
def rG{a b:List R}{k:Nat}{x y:R}(o:a[k]?=some x)(c:b[k]?=some y)(h:p x y=false):fx p a b=false:=by
 cases W:fx p a b with
 |false=>rfl
 |true=>have:=Dz o c W;rw[h]at this;cases this
def GR:∀{a b:List R},a.length=b.length->(∀(k:Nat)x y,a[k]?=some x->b[k]?=some y->p x y=true)->fx p a b=true
 |[],[],_,_=>rfl
 |a::r,b::s,M,h=>by
  rw[fx,h 0 a b rfl rfl,GR zfn fun k x y o c=>h (k+1) x y zfk zft];rfl
 |[],b::s,M,h=>by simp at M
 |a::r,[],M,h=>by simp at M
end
def s9{R:Type}(p:R->R->Bool)(a b:List R)(k:Nat):Prop:=∀j x y,j<k->a[j]?=some x->b[j]?=some y->p x y=true
section
variable{R:Type}{p:R->R->Bool}{a b:List R}
def mQ{k:Nat}{x y:R}(o:a[k]?=some x)(c:b[k]?=some y)(h:s9 p a b k)(W:p x y=true):s9 p a b (k+1):=fun j u v Y G C=>by
 by_cases e:j=k
 ·subst e;rw[o]at G;rw[c]at C;cases G;cases C;exact W
 ·exact h j u v aO G C
def oa(M:a.length=b.length)(h:s9 p a b a.length):fx p a b=true :=
 GR M fun k x y o c=>h k x y (b6 o).1 o c
end
def rl(a b:Go.Sp.Fn):Bool:=((a.name==b.name)&&fx (fun x y=>x==y) a.params b.params)&&(a.body==b.body)
def kM(a b:Go.Xp.Nd):Bool:=(((a.aj==b.aj)&&(a.n==b.n))&&(a.s==b.s))&&fx (fun x y=>x==y) a.aw b.aw
def yf(x y:Go.Xp.Ar):Bool:=(x.name==y.name)&&(x.size==y.size)
open Go.Xp Go.Sp
def G1(l:List T):(br l).length=l.length:=by grind[sC]
def wL(t:T):(er t).n=⟨t.n.aj,0,t.n.n,t.n.s,[]⟩:=by cases t;rfl
def RG(t:T):(er t).aw=br t.aw:=by cases t;rfl
mutual
theorem Ae:∀t:T,be (er t)=be t
 |.mk n l=>by rw[er,be,be,vt l]
theorem vt:∀l:List T,aP (br l)=aP l
 |[]=>by rw[br]
 |t::r=>by rw[br,aP,aP,Ae t,vt r]
end
def B7(m:Nat):∀(l:List T)(i:Nat),bX m i (br l)=bX m i l
 |[],i=>by rw[br]
 |t::r,i=>by rw[br,bX,bX,B7 m r (i+1),wL]
def Cw:∀(l:List T),(br l).all (fun x=>jt x.n.aj)=l.all (fun x=>jt x.n.aj)
 |[]=>by rw[br]
 |t::r=>by rw[br,all_cons,all_cons,Cw r,wL]
def U9(n:Nd)(k:Nat)(l:Nat->Bool)(o:Bool)(h:0<=n.at_)(e:own ⟨n.aj,0,n.n,n.s,[]⟩ k l o=true):own n k l o=true:=by
 grind[own]
mutual
def Ki:∀t:T,ed (er t)=true->wm t->ed t=true
 |.mk n l,h,v=>by
  rw[er,ed,aZ]at h;rw[wm]at v;rw[ed,aZ];refine⟨Gv l h.1 v.2,?_⟩;have b:own ⟨n.aj,0,n.n,n.s,[]⟩ (br l).length (fun m=>bX m 0 (br l)) ((br l).all fun x=>jt x.n.aj)=true:=h.2;rw[G1,Cw]at b;simp only[B7]at b;exact U9 n _ _ _ v.1 b
def Gv:∀l:List T,dA (br l)=true->l7 l->dA l=true
 |[],_,_=>rfl
 |t::r,h,v=>by
  rw[br,dA,aZ]at h;rw[l7]at v;rw[dA,aZ];exact⟨Ki t h.1 v.1,Gv r h.2 v.2⟩
end
mutual
theorem Di:∀t:T,ed t=true->wm t
 |.mk n l,h=>by
  rw[ed,aZ]at h;rw[wm];refine⟨?_,Gu l h.1⟩;have b:own n l.length (fun m=>bX m 0 l) (l.all fun x=>jt x.n.aj)=true:=h.2
  grind[own]
theorem Gu:∀l:List T,dA l=true->l7 l
 |[],_=>trivial
 |t::r,h=>by
  rw[dA,aZ]at h;rw[l7];exact⟨Di t h.1,Gu r h.2⟩
end
def lM(a:E):nA a.tree.n.aj=true:=by cases a<;>rfl
mutual
def E.iu:∀a:E,a.ok=true->ed a.tree=true
 |.num n,h=>by
  simp only[E.ok,aZ]at h
  grind[dA,cL,own,T.n,T.aw,ed,E.tree]
 |.name s,h=>by
  grind[E.ok,dA,cL,own,T.n,T.aw,ed,E.tree]
 |.at_ s a,h=>by
  simp only[E.ok,aZ]at h;have c:=E.iu a h.2;have G:=lM a
  exact zdY
 |.call s l,h=>by
  simp only[E.ok,aZ]at h;have⟨c,G⟩:=E.rR l h.2;rw[E.tree,ed,c];have:=G (E.aL l).length 0 aO;simp[cL,own,T.n,T.aw,h.1,this]
 |.un s a,h=>by
  simp only[E.ok,aZ]at h;have c:=E.iu a h.2;have G:=lM a
  exact zdY
 |.bin s a b,h=>by
  simp only[E.ok,aZ]at h;have c:=E.iu a h.1.2;have G:=lM a;have C:=E.iu b h.2;have e:=lM b
  exact zdY
def E.rR:∀l:List E,E.du l=true->dA (E.aL l)=true/\∀m i,i+(E.aL l).length<=m->bX m i (E.aL l)=true
 |[],_=>⟨rfl,fun m i _=>rfl⟩
 |a::l,h=>by
  simp only[E.du,aZ]at h;have⟨b,G⟩:=E.rR l h.2;refine⟨by rw[E.aL,dA,E.iu a h.1,b];rfl,fun m i j=>?_⟩;rw[E.aL,length_cons]at j;rw[E.aL,bX,ai aO,lM a,G m (i+1) aO];rfl
end
def Vg(a:S):jt a.tree.n.aj=true:=by cases a<;>rfl
mutual
def S.iu:∀a:S,a.ok=true->ed a.tree=true
 |.set s a,h=>by
  simp only[S.ok,aZ]at h;have d:=E.iu a h.2;have G:=lM a
  exact zdZ
 |.var s a,h=>by
  simp only[S.ok,aZ]at h;have d:=E.iu a h.2;have G:=lM a
  exact zdZ
 |.ret a,h=>by
  exact zcw
 |.do_ a,h=>by
  exact zcw
 |.put s a b,h=>by
  simp only[S.ok,aZ]at h;have d:=E.iu a h.2.1;have G:=lM a;have C:=E.iu b h.2.2;have e:=lM b
  exact zdZ
 |.if1 c b,h=>by
  exact zbZ
 |.if2 c b m,h=>by
  simp only[S.ok,aZ]at h;have d:=E.iu c h.1;have G:=lM c;have C:=S.uM b h.2.1;have e:=S.uM m h.2.2;rw[S.tree,ed,dA,dA,dA,dA,d,C,e];simp[cL,own,T.n,T.aw,bX];exact G
 |.while_ c b,h=>by
  exact zbZ
def S.uM:∀l:List S,S.du l=true->ed (.mk ⟨14,0,0,[],[]⟩ (S.aL l))=true
 |l,h=>by
  have⟨o,b⟩:=S.rR l h;have G:cL (.mk ⟨14,0,0,[],[]⟩ (S.aL l))=own ⟨14,0,0,[],[]⟩ (S.aL l).length (fun m=>bX m 0 (S.aL l)) ((S.aL l).all fun x=>jt x.n.aj):=rfl;rw[ed,o,G,b];simp[own]
def S.rR:∀l:List S,S.du l=true->dA (S.aL l)=true/\(S.aL l).all (fun x=>jt x.n.aj)=true
 |[],_=>⟨rfl,rfl⟩
 |a::l,h=>by
  simp only[S.du,aZ]at h;have⟨o,b⟩:=S.rR l h.2;exact⟨by rw[S.aL,dA,S.iu a h.1,o];rfl,by rw[S.aL,all_cons,b,Vg a];rfl⟩
end
def WW{n:Nd}{k:Nat}{l:Nat->Bool}{r:Bool}(h:own n k l r=true):eB n.aj k=true:=by
 have W:n.aj=1\/n.aj=2\/n.aj=3\/n.aj=4\/n.aj=5\/n.aj=6\/n.aj=7\/n.aj=8\/n.aj=9\/n.aj=10\/n.aj=11\/n.aj=12\/n.aj=13\/n.aj=14\/(n.aj<1\/14<n.aj):=by omega
 unfold own at h
 by_cases o:decide (n.at_<0)=true
 ·grind
 rw[ab o]at h
 by_cases q:(n.aj != 1&&n.n != 0)=true
 ·grind
 rw[ab q]at h;clear o q
 rcases W with N|N|N|N|N|N|N|N|N|N|N|N|N|N|N
 all_goals(first|(simp[N]at h;simp[eB,N];done)|(simp[N]at h;simp[eB,N];omega)|(simp[N]at h;simp[eB,N,h];done)|skip)
 ·exfalso
  have w:(n.aj==1)=false:=by grind
  have R:(n.aj==2)=false:=by grind
  grind
mutual
def PV:∀t:T,ed t=true->iL t=true
 |.mk n l,h=>by
  rw[ed,aZ]at h;rw[iL,Kj l h.1,Bool.and_true];exact WW h.2
def Kj:∀l:List T,dA l=true->w6 l=true
 |[],_=>rfl
 |t::r,h=>by
  rw[dA,aZ]at h;rw[w6,PV t h.1,Kj r h.2];rfl
end
def OV(t:T)(z:Int):oJ (er t) z=oJ t z:=by unfold oJ;rw[wL]
def S5(n:Nd)(l:List T)(x:List ah):vu ⟨n.aj,0,n.n,n.s,[]⟩ (br l) x=vu n l x:=by
 unfold vu
 match l with
 |[]=>rw[br]
 |[a]=>rw[br,br];simp[wL]
 |a::b::r=>rw[br,br];simp[wL,OV]
mutual
theorem MV:∀t:T,eh (er t)=eh t
 |.mk n l=>by rw[er,eh,eh,Bz l,S5]
theorem Bz:∀l:List T,jk (br l)=jk l
 |[]=>by rw[br]
 |t::r=>by rw[br,jk,jk,MV t,Bz r]
end
mutual
def Vn(inl:List ah->Nat->ah):∀(t:T)(d:Nat),lj eh inl d (er t)=lj eh inl d t
 |.mk n l,d=>by
  have h:=MV (.mk n l);rw[er]at h |-;rw[lj,lj,h,Gw inl l d,G1]
  have:(br l).map eh=l.map eh:=by grind[Ik,Bz]
  rw[this];rfl
def Gw(inl:List ah->Nat->ah):∀(l:List T)(d:Nat),p6 eh inl d (br l)=p6 eh inl d l
 |[],d=>by rw[br]
 |t::r,d=>by rw[br,p6,p6,Ko inl t d,Gw inl r d]
def Ko(inl:List ah->Nat->ah):∀(t:T)(d:Nat),nR eh inl d (er t)=nR eh inl d t
 |.mk n l,d=>by rw[er,nR,nR,H9 inl l (d+1)]
def H9(inl:List ah->Nat->ah):∀(l:List T)(d:Nat),xk eh inl d (br l)=xk eh inl d l
 |[],d=>by rw[br]
 |t::r,d=>by rw[br,xk,xk,Vn inl t d,H9 inl r d]
end
theorem L6{s:ah}(h:ga s=true):tj s=(ff s:Int):=by
 grind[List.findIdx?_eq_none_iff,ga,pz,tj,ff]
def HB{a:E}(h:a.ok=true)(k:Nat)(N:k<=9):oJ a.tree (k:Int)=decide (a.lv<k):=by
 have R:∀b:Bool,(false&&b)=decide (9<k):=fun b=>by grind
 cases a with
 |bin s x y =>
  simp only[E.ok,aZ]at h;show(true&&decide (tj s<(k:Int)))=decide (ff s<k)
  simp_all[L6,Bool.true_and,decide_eq_decide]
 |num n=>exact R _
 |name n=>exact R _
 |at_ s a=>exact R _
 |call s l=>exact R _
 |un s a=>exact R _
def AB(lv k:Nat)(x:ah):uN (decide (lv<k)) x=qx lv k x:=by
 simp[ah,uN,qx]
def Tu{a:E}(h:a.ok=true):(a.tree.n.aj==6)=decide (a.lv<9):=by
 cases a with
 |bin s x y =>
  simp only[E.ok,aZ]at h;have:=(rM h.1.1).1;show true=decide (ff s<9)
  grind
 |_=>rfl
mutual
def ky:∀a:E,a.ok=true->eh a.tree=a.bQ
 |.num n,h=>by
  simp only[E.ok,aZ,decide_eq_true_eq]at h;rw[E.tree,eh,E.bQ];unfold vu po
  grind
 |.name s,h=>by
  rfl
 |.at_ s a,h=>by
  simp only[E.ok,aZ]at h;have c:=ky a h.2;rw[E.tree,eh,jk,jk,c,E.bQ];simp[vu]
 |.call s l,h=>by
  simp only[E.ok,aZ]at h;rw[E.tree,eh,Il l h.2,E.bQ];simp[vu]
 |.un s a,h=>by
  simp only[E.ok,aZ]at h;have c:=ky a h.2;rw[E.tree,eh,jk,jk,c,E.bQ,<-AB,<-Tu h.2];simp[vu]
 |.bin s a b,h=>by
  simp only[E.ok,aZ]at h;have c:=ky a h.1.2;have G:=ky b h.2;have M:=(rM h.1.1).1;have w:=HB h.1.2 (ff s) aO;have R:=HB h.2 (ff s+1) aO;rw[E.tree,eh,jk,jk,jk,c,G,E.bQ,<-AB,<-AB,<-w,<-R];unfold vu
  grind[L6]
def Il:∀l:List E,E.du l=true->jk (E.aL l)=E.ei l
 |[],_=>rfl
 |a::l,h=>by
  simp only[E.du,aZ]at h;rw[E.aL,jk,E.ei,ky a h.1,Il l h.2]
end
def BO(x:E->ah):∀(l:List S)(T:ah),rV T (l.map (S.bQ x))=S.ei x T l
 |[],T=>by rfl
 |a::l,T=>by
  rw[S.ei,<-BO x l];simp[ah,rV,S.bQ]
mutual
def SW:∀(s:S),s.ok=true->∀d,lj eh ig d s.tree=s.bQ E.bQ
 |.set s a,h,d=>by
  exact zdE
 |.var s a,h,d=>by
  exact zdE
 |.ret a,h,d=>by
  exact zdO
 |.do_ a,h,d=>by
  exact zdO
 |.put s a b,h,d=>by
  simp only[S.ok,aZ]at h;rw[S.tree,lj,List.map_cons,List.map_cons,ky a h.2.1,ky b h.2.2,S.bQ];simp[yz]
 |.if1 c b,h,d=>by
  exact zcN
 |.if2 c b m,h,d=>by
  simp only[S.ok,aZ]at h;have i:=uL b h.2.1 d;have O:=uL m h.2.2 d;rw[S.tree,lj,List.map_cons,ky c h.1,p6,p6,p6,p6,i,O,S.bQ];simp[yz,iG]
 |.while_ c b,h,d=>by
  exact zcN
def uL:∀(l:List S),S.du l=true->∀d,nR eh ig d (.mk ⟨14,0,0,[],[]⟩ (S.aL l))=iG E.bQ l
 |l,h,d=>by
  rw[nR,Ib l h (d+1),ig,BO];rfl
def Ib:∀(l:List S),S.du l=true->∀d,xk eh ig d (S.aL l)=l.map (S.bQ E.bQ)
 |[],_,d=>by rfl
 |a::l,h,d=>by
  simp only[S.du,aZ]at h;rw[S.aL,xk,List.map_cons,SW a h.1,Ib l h.2]
end
def sZ{R:Type}{p:R->R->Bool}(h:∀x,p x x=true):∀l:List R,fx p l l=true
 |[]=>rfl
 |a::l=>by rw[fx,h a,sZ h l];rfl
def xB{R:Type}[BEq R][LawfulBEq R]:∀{a b:List R},fx (fun x y=>x==y) a b=true->a=b
 |[],[],_=>rfl
 |a::r,b::s,h=>by rw[fx,aZ,beq_iff_eq]at h;rw[h.1,xB h.2]
 |[],b::s,h=>by cases h
 |a::r,[],h=>by cases h
def GS{R:Type}{p:R->R->Bool}:∀{a b:List R}{c d:List R},a.length=b.length->fx p (a++c) (b++d)=(fx p a b&&fx p c d)
 |[],[],c,d,_=>rfl
 |a::r,b::s,c,d,h=>by rw[cons_append,cons_append,fx,fx,GS ze2,Bool.and_assoc]
 |[],b::s,_,_,h=>by simp at h
 |a::r,[],_,_,h=>by simp at h
def vP:∀(l:List T)(a:Nat),bm a (br l)=bm a l
 |[],a=>by rw[br]
 |t::r,a=>by rw[br,bm,bm,Ae,vP r]
mutual
theorem RN:∀(t u:T)(a:Nat),er t=er u->fx kM (fR a t) (fR a u)=true
 |.mk n l,.mk m k,a,h=>by
  rw[er,er]at h
  injection h with h1 h2
  injection h1 with h3 h4 h5 h6 h7
  rw[fR,fR,fx,AP l k (a+1) h2,Bool.and_true,<-vP l,<-vP k,h2];simp only[kM,h3,h5,h6];simp[sZ]
theorem AP:∀(l k:List T)(a:Nat),br l=br k->fx kM (cv a l) (cv a k)=true
 |[],[],a,_=>by rfl
 |t::r,u::s,a,h=>by
  rw[br,br]at h
  injection h with h1 h2
  have m:be t=be u:=by grind[Ae]
  rw[cv,cv,GS (by grind[RM]),RN t u a h1,<-m,AP r s _ h2];rfl
 |[],u::s,a,h=>by grind[br]
 |t::r,[],a,h=>by grind[br]
end
mutual
def SQ:∀(t u:T)(a:Nat)(x y:List Nd),fx kM (fR a t++x) (fR a u++y)=true->er t=er u/\fx kM x y=true
 |.mk n l,.mk m k,a,x,y,h=>by
  rw[fR,fR,cons_append,cons_append,fx,aZ]at h;have⟨o,b⟩:=h;simp only[kM,aZ,beq_iff_eq]at o;have⟨⟨⟨G,C⟩,e⟩,q⟩:=o;have O:=congrArg List.length (xB q);rw[cW,cW]at O;have⟨S,d⟩:=Bp l k (a+1) x y O b
  grind[er,fx,kM]
def Bp:∀(l k:List T)(a:Nat)(x y:List Nd),l.length=k.length->fx kM (cv a l++x) (cv a k++y)=true->br l=br k/\fx kM x y=true
 |[],[],a,x,y,_,h=>by grind[cv]
 |t::r,u::s,a,x,y,M,h=>by
  rw[cv,cv,gK,gK]at h;have⟨o,b⟩:=SQ t u a _ _ h
  have m:be t=be u:=by grind[Ae]
  rw[<-m]at b;have⟨G,C⟩:=Bp r s _ x y ze2 b
  grind[br,fx,kM]
 |[],u::s,a,x,y,M,h=>by simp at M
 |t::r,[],a,x,y,M,h=>by simp at M
end
def SP{l k:List T}(M:l.length=k.length)(h:fx kM (cv 0 l) (cv 0 k)=true):br l=br k:=by
 have:=Bp l k 0 [] [] M ze2
 grind
structure PS where
 aL:List T
 au:List ah
 aq:List Ar
 av:List (ah × List ah)
def PS.empty:PS:=⟨[],[],[],[]⟩
def o7:Nat->List ah->RS->Option (List ah × RS)
 |0,_,_=>none
 |f+1,T,p =>
  if p.code=0/\is p 0 [41]=false then o7 f (T++[(tok (if T.length=0 then p else want p [44]) 0).s]) (cm (if T.length=0 then p else want p [44]))
  else some (T,want p [41])
def iW(f:Nat)(p:RS)(st:PS):Option (RS × PS) :=
 if is p 0 jh=true then
  if(cm p.next).code=0/\is (cm p.next) 0 [91]=true then
   if(tok (cm p.next).next 0).aj=1 then
    some (want (want (cm p.next).next.next [93]) [59],{ st with aq:=st.aq++[⟨(tok p.next 0).s,(tok (cm p.next).next 0).n⟩] })
   else some (ly (cm p.next).next,st)
  else some (want (cm p.next) [59],{ st with au:=st.au++[(tok p.next 0).s] })
 else if is p 0 ju=true then
  match o7 f [] (want (cm p.next) [40])with
  |none=>none
  |some (l,q) =>
   if q.code=0 then match iS f (.block 1) q with
    |none=>none
    |some (t,q)=>some (q,{ st with aL:=st.aL++[t],av:=st.av++[((tok p.next 0).s,l)] })
   else some (q,st)
 else some (ly p,st)
def nT:Nat->Nat->RS->PS->Option (RS × PS)
 |0,_,_,_=>none
 |g+1,f,p,st =>
  if p.code=0/\p.i<p.l.length then match iW f p st with
   |none=>none
   |some (p,st)=>nT g f p st
  else some (p,st)
def LI:∀(f:Nat)(T:List ah)(p:RS)(l:List ah)(q:RS),p.ok->o7 f T p=some (l,q)->p.to q
 |0,_,_,_,_,_,h=>by cases h
 |f+1,T,p,l,q,W,h=>by
  rw[o7]at h;split at h
  ·have o:p.to (if T.length=0 then p else want p [44]):=by grind[jU,dc]
   have b:=jy (o.ok W);have G:=LI f _ _ l q ((o.trans b).ok W) h
   grind[RS.to]
  grind[dc]
def Wo{f:Nat}{p q:RS}{st Y:PS}(W:p.ok)(h:iW f p st=some (q,Y)):p.to q:=by
 unfold iW at h;split at h
 ·rename_i j;have o:=kO j;have b:=o.trans (jy (o.ok W));split at h
  ·rename_i i;have G:=b.trans (kO i.2);split at h
   ·rename_i N
    have R:(tok (cm p.next).next 0).aj≠0:=by omega
    have C:=G.trans (cR (by have:=rQ R;exact this));have e:=C.trans (dc (C.ok W) [93])
    cases h;exact e.trans (dc (e.ok W) _)
   ·cases h;exact G.trans (wg (G.ok W))
  ·cases h;exact b.trans (dc (b.ok W) _)
 ·split at h
  ·rename_i j;have o:=kO j;have b:=o.trans (jy (o.ok W));have G:=b.trans (dc (b.ok W) [40])
   cases k:o7 f [] (want (cm p.next) [40])with
   |none=>grind
   |some r =>
    have⟨l,v⟩:=r;rw[k]at h;simp only at h;have C:=G.trans (LI _ _ _ _ _ (G.ok W) k);split at h
    ·cases i:iS f (.block 1) v with
     |none=>grind
     |some r =>
      have⟨t,E⟩:=r;rw[i]at h;cases h;exact C.trans ((CV f).1 _ _ _ _ (C.ok W) i)
    grind
  grind[wg]
structure PS.le(a:PS)(n:Nat):Prop where
 aL:a.aL.length<=n
 au:a.au.length<=n
 aq:a.aq.length<=n
 av:a.av.length=a.aL.length
def Wm{f n:Nat}{p q:RS}{st Y:PS}(h:iW f p st=some (q,Y))(G:st.le n):Y.le (n+1):=by
 have⟨a,b,c,d⟩:=G;have R:st.le (n+1):=⟨by omega,by omega,by omega,d⟩;unfold iW at h;split at h
 ·split at h
  ·split at h
   ·cases h;exact⟨by grind,by grind,by grind,by omega⟩
   grind
  ·cases h;exact⟨by grind,by grind,by grind,by omega⟩
 ·split at h
  ·split at h
   ·cases h
   ·split at h
    ·split at h
     ·cases h
     ·cases h;exact⟨by grind,by grind,by grind,by grind⟩
    grind
  grind
end Go.Im
namespace Go.Sp
open Go.Xp
inductive Tz(s:ah):Nat->List Tok->Nat->Prop
 |nil (a:Nat):Tz s a [] a
 |blank {a b:Nat} {c:UInt8} {ts:List Tok} (hc:s[a]?=some c) (hb:fv c=true) (h:Tz s (a+1) ts b):Tz s a ts b
 |tok {a a' b:Nat} {c:UInt8} {t:Tok} {ts:List Tok} (hc:s[a]?=some c) (hb:fv c=false) (hr:ct s a [47,42]=false) (ht:gJ s a c=(t,a')) (hk:t.aj=1\/t.aj=2\/t.aj=3) (hn:t.n<=2147483647) (ha:a<a') (h:Tz s a' ts b):Tz s a (t::ts) b
def Tz.app{s:ah}{a b c:Nat}{ts us:List Tok}(h:Tz s a ts b)(k:Tz s b us c):Tz s a (ts++us) c:=by
 induction h with
 |nil a=>exact k
 |blank W i h O=>exact .blank W i (O k)
 |tok W i w M N d v h O=>exact .tok W i w M N d v (O k)
def Tz.kinds{s:ah}{a b:Nat}{ts:List Tok}(h:Tz s a ts b):∀t∈ts,t.aj=1\/t.aj=2\/t.aj=3:=by
 induction h with
 |nil a=>simp
 |blank W i h O=>exact O
 |tok W i w M N c v h O =>
  grind
theorem Tz.len{s:ah}{a b:Nat}{ts:List Tok}(h:Tz s a ts b):a+ts.length<=b:=by
 induction h with
 |nil a=>simp
 |blank W i h O=>omega
 |tok W i w M N c v h O=>grind
theorem ML(s:ah):∀(f Z a:Nat),a<=s.length->s.length<f+a->s.length<Z+a->skip s f a=skip s Z a:=by
 intro f
 induction f with
 |zero=>omega
 |succ f O =>
  intro Z a o b G;obtain⟨Z,rfl⟩:∃g,Z=g+1:=⟨Z-1,by omega⟩
  grind[List.getElem?_eq_some_iff,nc,sf,rf,ct,iD,skip]
def Tz.ir{s:ah}{a b:Nat}{ts:List Tok}(h:Tz s a ts b):∀(f:Nat)(T:List Tok),qp s (f+ts.length) (skip s (s.length+1) a).1 T=qp s f (skip s (s.length+1) b).1 (T++ts):=by
 induction h with
 |nil a=>simp
 |blank W i h O =>
  rename_i a b c ts;intro f T;have N:=(b6 W).1;rw[<-O f T]
  have:skip s (s.length+1) a=skip s (s.length+1) (a+1):=by
   rw[skip,W];grind[ML]
  rw[this]
 |tok W i w M Q d v h O =>
  rename_i a X b c t ts;intro f T
  have:skip s (s.length+1) a=(a,-1):=by
   grind[skip]
  rw[this,length_cons,<-kA,qp,W]
  grind
def Tz.all{s:ah}{ts:List Tok}(h:Tz s 0 ts s.length):Go.Sp.ir s=some ts:=by
 have o:=h.len;have b:=h.ir (s.length+2-ts.length) [];unfold Go.Sp.ir;rw[show s.length+2-ts.length+ts.length=s.length+2 by omega]at b;rw[b]
 have G:skip s (s.length+1) s.length=(s.length,-1):=by rw[skip];simp
 rw[G];obtain⟨g,X⟩:∃g,s.length+2-ts.length=g+1:=⟨s.length+1-ts.length,by omega⟩
 grind[qp]
theorem nH{s r:ah}{a:Nat}{c:UInt8}(h:s.drop a=c::r):s[a]?=some c/\s.drop (a+1)=r/\a<s.length:=by
 have o:s[a]?=some c:=by
  have:=List.getElem?_drop (xs:=s) (i:=a) (j:=0)
  grind
 grind[List.getElem?_eq_some_iff,List.tail_drop]
def SL(s:ah)(p:UInt8->Bool):∀(w d:ah)(f a:Nat),s.drop a=w++d->(∀c∈w,p c=true)->run s p (f+w.length) a=run s p f (a+w.length):=by
 intro w
 induction w with
 |nil=>simp
 |cons c w O =>
  intro d f a h W;have⟨o,b,_⟩:=nH h;rw[length_cons,<-kA,run,o];simp only;rw[ai (W c (mem_cons_self)),O d f (a+1) b (fun c X=>W c (eQ _ X))]
  grind
def Pg(s:ah)(p:UInt8->Bool)(d:ah)(f a:Nat)(h:s.drop a=d)(W:∀c,d.head?=some c->p c=false):run s p f a=a:=by
 cases f with
 |zero=>rfl
 |succ f =>
  rw[run]
  cases d with
  |nil =>
   simp_all
  |cons c r =>
   grind[nH]
def Ec{s w c:ah}{a:Nat}(h:s.drop a=w++c)(ha:a<=s.length):a+w.length+c.length=s.length:=by
 grind[qt]
def PM{s w d:ah}{a:Nat}{c:UInt8}{r:ah}(ha:a<=s.length)(h:s.drop a=w++d)(l:w=c::r)(G:small c=true)(n:∀c∈w,fD c=true)(W:∀c,d.head?=some c->fD c=false) :
  gJ s a c=(⟨if words.contains w=true then 3 else 2,0,w,a⟩,a+w.length):=by
 have M:=Ec h ha
 have e:hE s a=a+w.length:=by
  unfold hE;obtain⟨g,X⟩:∃g,s.length+1=g+w.length:=⟨s.length+1-w.length,by omega⟩;rw[X,SL s fD w d g a h n];refine Pg s fD d g _ ?_ W;rw[<-List.drop_drop,h,drop_left]
 have T:eM c=false:=by
  simp only[small,eM,aZ]at G |-
  grind
 unfold gJ;rw[ab ze2,ai G]
 grind[jB]
def fold(n:Int)(w:ah):Int:=w.foldl (fun n c=>if n<=2147483647 then n*10+((c.toNat:Int)-48)else n) n
def JB(s:ah):∀(w d:ah)(f:Nat)(n:Int)(a:Nat),s.drop a=w++d->(∀c∈w,eM c=true)->number s (f+w.length) n a=number s f (fold n w) (a+w.length):=by
 intro w
 induction w with
 |nil=>grind[fold]
 |cons c w O =>
  intro d f n a h W;have⟨o,b,_⟩:=nH h;rw[length_cons,<-kA,number,o];simp only;rw[ai (W c (mem_cons_self)),O d f _ (a+1) b (fun c X=>W c (eQ _ X))]
  grind[number,fold]
def F7(s:ah)(d:ah)(f:Nat)(n:Int)(a:Nat)(h:s.drop a=d)(W:∀c,d.head?=some c->eM c=false):number s f n a=(n,a):=by
 cases f with
 |zero=>rfl
 |succ f =>
  rw[number]
  cases d with
  |nil =>
   simp_all
  |cons c r =>
   grind[nH]
def KG(k:Nat)(h:k<=9):eM (UInt8.ofNat (48+k))=true/\((UInt8.ofNat (48+k)).toNat:Int)=48+k:=by
 have:(UInt8.ofNat (48+k)).toNat=48+k:=by simp;omega
 grind[eM]
def GJ(n:Nat):(∀c∈gW n,eM c=true)/\(n<=2147483647->fold 0 (gW n)=n)/\gW n≠[]:=by
 induction n using Nat.strongRecOn with
 |_ n O =>
 unfold gW
 by_cases h:n<10
 ·rw[dif_pos h];have⟨o,b⟩:=KG n aO
  grind[fold]
 ·rw[dif_neg h];have⟨o,b,G⟩:=O (n / 10) aO;have⟨C,e⟩:=KG (n%10) aO
  grind[fold]
def Sl{s d:ah}{n a:Nat}{c:UInt8}{r:ah}(ha:a<=s.length)(h:s.drop a=gW n++d)(l:gW n=c::r)(hn:n<=2147483647)(W:∀c,d.head?=some c->eM c=false) :
  gJ s a c=(⟨1,n,[],a⟩,a+(gW n).length):=by
 have⟨o,b,G⟩:=GJ n;have M:=Ec h ha;have T:eM c=true:=o c ze2;obtain⟨g,X⟩:∃g,s.length+1=g+(gW n).length:=⟨s.length+1-(gW n).length,by omega⟩;unfold gJ;rw[ai T,X,JB s (gW n) d g 0 a h o,b hn,F7 s d g _ _ (by rw[<-List.drop_drop,h,drop_left]) W]
def yc{s r t:ah}{a:Nat}(h:s.drop a=r)(ha:a<=s.length):ct s a t=t.isPrefixOf r:=by
 have M:a+r.length=s.length:=by grind
 unfold ct;rw[List.drop_take,h,Nat.add_sub_cancel_left]
 by_cases W:t <+: r
 ·obtain⟨z,rfl⟩:=W
  grind
 grind
def Bn:List UInt8:=[32,40,41,91,93,44,59,123,125,10]
def Sep(d:ah):Prop:=∀c,d.head?=some c->c∈Bn
theorem Sep.fD{d:ah}(h:Sep d):∀c,d.head?=some c->fD c=false:=by
 intro c W
 have:∀c∈Bn,Go.Sp.fD c=false:=by decide
 exact this c (h c W)
theorem Sep.eM{d:ah}(h:Sep d):∀c,d.head?=some c->eM c=false:=by
 intro c W
 have:∀c∈Bn,Go.Sp.eM c=false:=by decide
 exact this c (h c W)
theorem Sz{x y z:ah}(h:x.length<=y.length):x.isPrefixOf (y++z)=x.isPrefixOf y:=by
 induction x generalizing y with
 |nil=>simp
 |cons a x O =>
  cases y with
  |nil=>simp at h
  |cons b y=>grind
def find_congr{R:Type}{p q:R->Bool}:∀{l:List R},(∀x∈l,p x=q x)->l.find? p=l.find? q
 |[],_=>rfl
 |a::l,h=>by rw[List.find?_cons,List.find?_cons,h a (mem_cons_self),find_congr (fun x hx=>h x (eQ _ hx))]
def Pp{s w d:ah}{a:Nat}{c:UInt8}{r:ah}(ha:a<=s.length)(h:s.drop a=w++d)(m:w=c::r)(j:w∈cE)(W:Sep d) :
  gJ s a c=(⟨3,0,w,a⟩,a+w.length)/\fv c=false/\ct s a [47,42]=false:=by
 have T:∀w∈cE,∀c,w.head?=some c->eM c=false/\small c=false/\fv c=false:=by
  have:∀w∈cE,(match w.head? with|some c=>!eM c&&!small c&&!fv c|none=>true)=true:=by decide
  grind
 have⟨o,b,G⟩:=T w j c ze2
 have J:∀w∈cE,w.length<=2/\1<=w.length:=by decide
 have S:∀w∈cE,cE.find? (fun x=>x.isPrefixOf w)=some w/\[47,42].isPrefixOf w=false:=by decide
 have N:∀w∈cE,∀c∈Bn,cE.find? (fun x=>x.isPrefixOf (w++[c]))=some w/\[47,42].isPrefixOf (w++[c])=false:=by decide
 have l:cE.find? (ct s a)=some w/\ct s a [47,42]=false:=by
  have z:∀x,ct s a x=x.isPrefixOf (w++d):=fun x=>yc h ha
  have R:cE.find? (ct s a)=cE.find? (fun x=>x.isPrefixOf (w++d)):=find_congr fun x _=>z x
  rw[R,z]
  cases d with
  |nil=>grind
  |cons M d =>
   have u:=W M rfl
   have q:∀x:ah,x.length<=2->x.isPrefixOf (w++M::d)=x.isPrefixOf (w++[M]):=fun x hx=>by
    rw[show w++M::d=(w++[M])++d by simp]
    grind[Sz,bp]
   rw[find_congr fun x hx=>q x (J x hx).1,q _ aD]
   grind
 grind[gJ,fv,ct]
def Od{s d:ah}{a:Nat}{c:UInt8}(ha:a<=s.length)(h:s.drop a=c::d)(j:c∈[40,41,91,93,44,59,123,125]) :
  gJ s a c=(⟨3,0,[c],a⟩,a+1)/\fv c=false/\ct s a [47,42]=false:=by
 have T:∀c∈([40,41,91,93,44,59,123,125]:List UInt8),eM c=false/\small c=false/\fv c=false/\c≠47:=by decide
 have⟨o,b,G,C⟩:=T c j
 have w:∀x,ct s a x=x.isPrefixOf (c::d):=fun x=>yc h ha
 have S:cE.find? (ct s a)=cE.find? (fun x=>x.isPrefixOf (c::d)):=find_congr fun x _=>w x
 have R:∀d:ah,∀c∈([40,41,91,93,44,59,123,125]:List UInt8),cE.find? (fun x=>x.isPrefixOf (c::d))=some [c]:=by
  intro d c W;simp only[List.mem_cons,List.not_mem_nil,or_false]at W
  rcases W with rfl|rfl|rfl|rfl|rfl|rfl|rfl|rfl<;>rfl
 refine⟨?_,G,?_⟩
 ·unfold gJ
  simp_all
 grind
end Go.Sp
namespace Go.Im
open Go.Xp Go.Sp
def ox:List ah:=[[105,110,116],[118,97,114],[102,117,110,99],[105,102],[101,108,115,101],[119,104,105,108,101],[114,101,116,117,114,110],[124,124],[38,38],[61,61],[33,61],[60,61],[62,61],[60,60],[62,62],[40],[41],[123],[125],[91],[93],[44],[59],[61],[60],[62],[43],[45],[42],[47],[37],[38],[124],[94],[33],[126]]
theorem xh:ox=words++cE:=by decide
def mb(s:ah):Bool:=ox.contains s
def mA:ah->Int->Int
 |[],n=>n
 |c::r,n=>if n<=2147483647 then mA r (10*n+((c.toNat:Int)-48))else n
def dL(s:ah)(a b:Nat):ah:=(s.take b).drop a
def ku(s:ah)(a:Nat)(k:Nat):Bool:=decide (a+k<=s.length)&&(match s[a]? with|some c=>!(small c)|none=>false)&&mb (dL s a (a+k))
def kr(s:ah)(a:Nat):ah:=if ku s a 2=true then dL s a (a+2)else if ku s a 1=true then dL s a (a+1)else[]
def n9(s:ah)(a:Nat):Nat:=run s eM (s.length+1) a
def tC:Tok:=⟨0,0,[],0⟩
def mJ(s:ah)(a:Nat)(c:UInt8):Tok × Nat × Int :=
 if eM c=true then
  if mA (dL s a (n9 s a)) 0>2147483647 then(tC,a,3)else(⟨1,mA (dL s a (n9 s a)) 0,[],a⟩,n9 s a,0)
 else if small c=true then(⟨if mb (jB s a)=true then 3 else 2,0,jB s a,a⟩,hE s a,0)
 else if kr s a=[]then(tC,a,2)
 else(⟨3,0,kr s a,a⟩,a+(kr s a).length,0)
def uA:ah->Option Nat
 |[]=>none
 |b::l=>if List.isPrefixOf [42,47] (b::l)then some 0 else match uA l with|none=>none|some n=>some (n+1)
def pC(s:ah):Nat->Nat->List Tok->Option (List Tok × Int × Int)
 |0,_,_=>none
 |f+1,a,T=>match s[a]? with
  |none=>some (T,0,0)
  |some c =>
   if fv c=true then pC s f (a+1) T
   else if ct s a [47,42]=true then
    match uA (s.drop (a+2))with
    |none=>some ([],4,a)
    |some n=>pC s f (a+(n+4)) T
   else if(mJ s a c).2.2≠0 then some ([],(mJ s a c).2.2,a)
   else pC s f (mJ s a c).2.1 (T++[(mJ s a c).1])
structure zo(t:Tok):Prop where
 num:t.aj=1->0<=t.n/\t.n<=2147483647/\t.s=[]
 name:t.aj=2->word t.s=true/\mb t.s=false
 aJ:t.aj=3->mb t.s=true
 kinds:t.aj=1\/t.aj=2\/t.aj=3
theorem sW{s:ah}{a b:Nat}(h:b<=s.length):(dL s a b).length=b-a:=by
 grind[dL]
def pI{s:ah}{a b:Nat}{c:UInt8}(h:s[a]?=some c)(i:a<b)(M:b<=s.length):dL s a b=c::dL s (a+1) b:=by
 unfold dL;have N:=(b6 h).1
 simp_all[List.getElem?_take,ai,List.getElem?_eq_some_iff,lz]
def Bl(s:ah)(p:UInt8->Bool):∀(f a:Nat),a<=s.length->∀c∈dL s a (run s p f a),p c=true:=by
 intro f
 induction f with
 |zero =>
  simp[ah,dL,run]
 |succ f O =>
  intro a v c W;rw[Go.Sp.run]at W
  have X:∀x:ah,x=dL s a a->c∈x->p c=true:=fun x hx j=>by
   grind[dL,sW,kQ]
  cases J:s[a]? with
  |none=>grind
  |some d =>
   rw[J]at W;simp only at W;have N:=(b6 J).1
   by_cases Y:p d=true
   ·rw[ai Y]at W
    have w:a+1<=Go.Sp.run s p f (a+1)/\Go.Sp.run s p f (a+1)<=s.length:=by
     have:∀(f a:Nat),a<=s.length->a<=Go.Sp.run s p f a/\Go.Sp.run s p f a<=s.length:=by
      intro f
      induction f with
      |zero=>simp[run]
      |succ f O =>
       grind[run]
     grind
    rw[pI J aO w.2]at W
    grind
   grind
def HO:∀(w:ah)(n:Int),0<=n->(∀c∈w,eM c=true)->0<=mA w n
 |[],n,h,_=>h
 |c::r,n,h,T=>by
  rw[mA];have W:=T c (mem_cons_self);simp only[eM,aZ,decide_eq_true_eq]at W;split
  ·exact HO r _ aO (fun c W=>T c (eQ _ W))
  ·exact h
def Ow{x:ah}(h:mb x=true):x≠[]:=by
 intro o;subst o;revert h;decide
def Iq{s:ah}{a:Nat}{c:UInt8}(W:s[a]?=some c)(o:(mJ s a c).2.2=0):zo (mJ s a c).1/\(mJ s a c).1.at_=a/\a<(mJ s a c).2.1/\(mJ s a c).2.1<=s.length:=by
 have N:=(b6 W).1;unfold mJ at o |-
 by_cases T:eM c=true
 ·rw[ai T]at o |-
  by_cases d:mA (dL s a (n9 s a)) 0>2147483647
  ·grind
  ·rw[ab d];have⟨w,Y,q⟩:=oK s eM (s.length+1) a aO aO
   have R:a<n9 s a:=by
    grind[n9]
   refine⟨⟨fun _=>⟨HO _ _ aD (Bl s eM _ a aO),by grind,rfl⟩,fun h=>by simp at h,fun h=>by simp at h,.inl rfl⟩,rfl,R,q⟩
 ·rw[ab T]at o |-
  by_cases G:small c=true
  ·rw[ai G];have⟨w,Y,q⟩:=oK s fD (s.length+1) a aO aO
   have j:fD c=true:=by simp[fD,G]
   have R:a<hE s a:=by
    grind[hE]
   have l:word (jB s a)=true:=by
    have r:jB s a=c::dL s (a+1) (hE s a):=pI W R q;have b:=Bl s fD (s.length+1) a aO;unfold word;have H:(jB s a).all fD=true:=hY.2 b
    grind
   refine⟨⟨fun h=>?_,fun h=>⟨l,?_⟩,fun h=>?_,?_⟩,rfl,R,q⟩
   ·grind
   ·grind
   ·grind
   simp
  ·rw[ab G]at o |-
   by_cases X:kr s a=[]
   ·grind
   ·rw[ab X]
    have S:mb (kr s a)=true/\a+(kr s a).length<=s.length:=by
     unfold kr at X |-
     have z:∀k,ku s a k=true->mb (dL s a (a+k))=true/\a+(dL s a (a+k)).length<=s.length:=fun k h=>by
      simp_all[ku,aZ,decide_eq_true_eq,sW]
     grind
    have M:=List.length_pos_iff.2 (Ow S.1);exact⟨⟨fun h=>by simp at h,fun h=>by simp at h,fun _=>S.1,.inr (.inr rfl)⟩,rfl,by grind,S.2⟩
def AW:∀{l:ah}{n:Nat},uA l=some n->n+2<=l.length
 |[],n,h=>by cases h
 |b::l,n,h=>by
  rw[uA]at h;split at h
  ·grind
  ·cases J:uA l with
   |none=>grind
   |some m=>rw[J]at h;cases h;have:=AW J;grind
def rL(s:ah):∀(f a:Nat)(T:List Tok),a<=s.length->s.length<f+a->(∀t∈T,zo t)->(T.Pairwise fun x y=>x.at_<y.at_)->(∀t∈T,t.at_<(a:Int))->T.length<=a ->
  ∃ts c z,pC s f a T=some (ts,c,z)/\(∀t∈ts,zo t)/\(ts.Pairwise fun x y=>x.at_<y.at_)/\ts.length<=s.length
 |0,a,T,o,b,_,_,_,_=>by omega
 |f+1,a,T,o,b,G,C,e,r=>by
  rw[pC]
  cases W:s[a]? with
  |none=>grind
  |some c =>
   simp only;have O:=(b6 W).1;split
   ·exact rL s f (a+1) T aO aO G C (fun t M=>by grind) aO
   ·split
    ·rename_i i;have N:=nc i;simp only[length_cons,length_nil]at N
     cases j:uA (s.drop (a+2))with
     |none=>simp
     |some n =>
      have:=AW j;rw[qt]at this;exact rL s f (a+(n+4)) T aO aO G C (fun t M=>by grind) aO
    ·split
     ·simp
     ·rename_i q;have⟨R,Q,S,v⟩:=Iq W aO;refine rL s f _ _ v aO (fun t M=>?_) ?_ (fun t M=>?_) ze2
      ·grind
      ·grind
      grind
theorem yw(s:ah):∀(f:Nat)(n:Int)(a:Nat),a<=s.length->s.length<f+a->mA (dL s a (number s f n a).2) n=(number s f n a).1
 |0,n,a,o,b=>by omega
 |f+1,n,a,o,b=>by
  have X:dL s a a=[]:=kQ (by simp[dL]);rw[number]
  cases W:s[a]? with
  |none=>simp only;rw[X,mA]
  |some c =>
   simp only;have N:=(b6 W).1
   by_cases T:eM c=true
   ·rw[ai T];have⟨w,R,q⟩:=so s f (if n<=2147483647 then n*10+((c.toNat:Int)-48)else n) (a+1) aO aO;rw[pI W aO q,mA];have O:=yw s f (if n<=2147483647 then n*10+((c.toNat:Int)-48)else n) (a+1) aO aO
    by_cases e:n<=2147483647
    ·grind
    ·rw[ab e]at O |-;rw[ab e];rw[<-O]
     cases l:dL s (a+1) (number s f n (a+1)).2 with
     |nil=>rw[mA]
     |cons d r=>grind[mA]
   grind[mA,dL,eM,number]
def y3(s:ah):∀(f:Nat)(n:Int)(a:Nat),(number s f n a).2=Go.Sp.run s eM f a
 |0,n,a=>rfl
 |f+1,n,a=>by
  rw[number,Go.Sp.run]
  cases W:s[a]? with
  |none=>rfl
  |some c =>
   simp only;split
   ·exact y3 s f _ (a+1)
   ·rfl
theorem oE{s x:ah}{a:Nat}:ct s a x=(decide (a+x.length<=s.length)&&(dL s a (a+x.length)==x)):=rfl
def JM{s:ah}{a:Nat}{c:UInt8}(W:s[a]?=some c)(H:small c=false):kr s a=(match cE.find? (ct s a)with|some x=>x|none=>[]):=by
 have N:=(b6 W).1
 have b:∀x∈cE,x.length=1\/x.length=2:=by decide
 have E:cE=cE.take 8++cE.drop 8:=(List.take_append_drop 8 cE).symm
 have u:∀x∈cE.take 8,x.length=2:=by decide
 have m:∀x∈cE.drop 8,x.length=1:=by decide
 have n:∀x∈words,∃d r,x=d::r/\small d=true:=by
  simp[ah,words,small]
 have j:∀k,1<=k->a+k<=s.length->dL s a (a+k)=c::dL s (a+1) (a+k):=fun k o b=>pI W aO b
 have R:∀k,1<=k->a+k<=s.length->(mb (dL s a (a+k))=true↔dL s a (a+k)∈cE):=fun k o b=>by
  unfold mb
  grind[xh,rv]
 have t:∀k,1<=k->(ku s a k=true↔a+k<=s.length/\dL s a (a+k)∈cE):=fun k o=>by
  grind[ku]
 have Q:∀k,1<=k->k<=2->a+k<=s.length->dL s a (a+k)∈cE->(dL s a (a+k)).length=k:=fun k _ _ h _=>by grind[dL]
 unfold kr
 by_cases e:ku s a 2=true
 ·rw[ai e];have⟨p,q⟩:=(t 2 aD).1 e
  have J:dL s a (a+2)∈cE.take 8:=by
   grind
  rw[E,List.find?_append]
  have:(cE.take 8).find? (ct s a)=some (dL s a (a+2)):=by
   cases l:(cE.take 8).find? (ct s a)with
   |none =>
    grind[find?_eq_none,oE,sW]
   |some x =>
    have o:=List.find?_some l;have G:=u x (List.mem_of_find?_eq_some l)
    grind[oE]
  grind
 ·rw[ab e]
  have v:(cE.take 8).find? (ct s a)=none:=by
   rw[find?_eq_none];intro x hx i;rw[oE,u x hx]at i
   grind
  rw[E,List.find?_append,v]
  by_cases Z:ku s a 1=true
  ·rw[ai Z];have⟨p,q⟩:=(t 1 aD).1 Z
   have J:dL s a (a+1)∈cE.drop 8:=by
    grind
   have:(cE.drop 8).find? (ct s a)=some (dL s a (a+1)):=by
    cases l:(cE.drop 8).find? (ct s a)with
    |none =>
     grind[find?_eq_none,oE,sW]
    |some x =>
     have o:=List.find?_some l;have G:=m x (List.mem_of_find?_eq_some l)
     grind[oE]
   grind
  ·rw[ab Z]
   have:(cE.drop 8).find? (ct s a)=none:=by
    rw[find?_eq_none];intro x hx i;rw[oE,m x hx]at i
    grind
   grind
def S8{s:ah}{a X:Nat}{c:UInt8}{t:Tok}(W:s[a]?=some c)(h:gJ s a c=(t,X))(O:t.aj=1\/t.aj=2\/t.aj=3)(hn:t.n<=2147483647):mJ s a c=(t,X,0):=by
 have N:=(b6 W).1;unfold gJ at h;unfold mJ
 by_cases T:eM c=true
 ·rw[ai T]at h |-;cases h;have w:n9 s a=(number s (s.length+1) 0 a).2:=(y3 s _ 0 a).symm
  grind[yw]
 ·rw[ab T]at h |-
  by_cases G:small c=true
  ·rw[ai G]at h |-;cases h
   have C:∃r,jB s a=c::r\/jB s a=[]:=by
    cases m:jB s a with
    |nil=>simp
    |cons d r =>
     have⟨w,S,q⟩:=oK s fD (s.length+1) a aO aO
     have j:fD c=true:=by simp[fD,G]
     have R:a<hE s a:=by
      grind[hE]
     have v:jB s a=c::dL s (a+1) (hE s a):=pI W R q
     grind
   have Q:mb (jB s a)=words.contains (jB s a):=by
    unfold mb;rw[xh]
    have u:∀x∈cE,(match x with|d::_=>small d|[]=>true)=false:=by decide
    grind
   rw[Q]
  ·rw[ab G]at h |-;rw[JM W ze2]
   cases l:cE.find? (ct s a)with
   |none=>grind
   |some x =>
    rw[l]at h;cases h;simp only;have hx:=List.mem_of_find?_eq_some l
    have k:x≠[]:=by
     intro o;subst o;revert hx;decide
    grind
def Sa{s:ah}{a b:Nat}{ts:List Tok}(h:Tz s a ts b):b=s.length->∀(f:Nat)(T:List Tok),s.length<f+a->pC s f a T=some (T++ts,0,0):=by
 induction h with
 |nil a =>
  intro i f T l
  cases f with
  |zero=>omega
  |succ f =>
   grind[pC]
 |blank W N h Q =>
  intro i f T l
  cases f with
  |zero=>grind
  |succ f =>
   grind[pC]
 |tok W N w M O c v h Q =>
  intro i f T l
  cases f with
  |zero=>grind
  |succ f =>
   rw[pC,W];simp only;rw[ab ze2,ab ze2,S8 W M O c]
   grind
abbrev rB(ts:List Tok):Prop:=∀t∈ts,zo t
def EF(t:T):Prop:=∃a:E,a.ok=true/\er t=a.tree
def Gj(l:List T):Prop:=∃e:List E,E.du e=true/\br l=E.aL e
def Sf(ts r:List Tok)(n:Nat):Prop:=∃M,ts=M++r/\n<=M.length
theorem Sf.nil(ts:List Tok):Sf ts ts 0:=⟨[],rfl,bl _⟩
theorem Sf.one(t:Tok)(ts:List Tok):Sf (t::ts) ts 1:=⟨[t],rfl,a8 _⟩
def Sf.trans{a b c:List Tok}{n m:Nat}(h:Sf a b n)(k:Sf b c m):Sf a c (n+m):=by
 grind[Sf]
theorem Sf.le{a b:List Tok}{n m:Nat}(h:Sf a b n)(k:m<=n):Sf a b m:=by
 grind[Sf]
theorem Sf.ok{a b:List Tok}{n:Nat}(h:Sf a b n)(k:rB a):rB b:=by
 obtain⟨p,rfl,h⟩:=h
 grind
theorem Sf.ba{e:Int}{s:ah}{ts r:List Tok}(G:s≠[])(h:ba e s ts=.ok r):Sf ts r 1:=by
 grind[vW,one]
theorem Sf.aJ{s:ah}{ts:List Tok}(G:s≠[])(h:aJ ts 0=s):Sf ts ts.tail 1:=by
 have⟨u,o,_⟩:=tz G h
 grind[one]
theorem Pm{s:ah}(h:mb s=false):words.contains s=false:=by
 grind[mb,xh,rv,cE,List.mem_append_left]
theorem WH{t:Tok}(h:zo t)(N:t.aj=2)(M:t.s.length<=12):bZ t.s=true:=by
 have⟨o,b⟩:=h.name N;unfold bZ
 grind[Pm]
theorem Sf.name{e:Int}{s:ah}{ts r:List Tok}(h:name e ts=.ok (s,r))(A:rB ts):Sf ts r 1/\bZ s=true:=by
 grind[Eo,one,WH,mem_cons_self]
def Rn{s:ah}{k:Nat}(h:s∈levels.getD k []):ga s=true:=by
 unfold ga;rw[pz];rw[getD_eq_getElem?_getD]at h
 cases N:levels[k]? with
 |none=>grind
 |some l =>
  rw[N]at h;exact⟨l,bN N,by grind⟩
theorem kv(k a:Int)(s:ah)(l:List T):be (one k a s l)=aP l+1:=by rfl
def Gj.snoc{l:List T}{t:T}(h:Gj l)(k:EF t):Gj (l++[t]):=by
 have⟨e,o,c⟩:=h;have⟨a,G,C⟩:=k
 have R:∀e:List E,E.du e=true->E.du (e++[a])=true/\E.aL (e++[a])=E.aL e++[a.tree]:=by
  intro e
  induction e with
  |nil=>intro _;simp[E.du,E.aL,G]
  |cons b e O =>
   grind[E.du,E.aL,E.tree]
 grind[GZ,br,Gj]
def w4:tJ->Nat
 |.loop _ _ out=>be out
 |_=>0
def jok:tJ->Prop
 |.loop _ _ out=>EF out
 |_=>True
def SC(e:Int):∀f,(∀j ts t r,rB ts->jok j->rd e f j ts=.ok (t,r)->EF t/\∃n,Sf ts r n/\be t<=n+w4 j) /\
  (∀d o ts l r,rB ts->Gj o->rd.args e f d o ts=.ok (l,r)->Gj l/\∃n,Sf ts r n/\aP l+1<=n+aP o):=by
 intro f
 induction f with
 |zero=>exact⟨fun j ts t r _ _ h=>by simp[rd]at h,fun d o ts l r _ _ h=>by simp[rd.args]at h⟩
 |succ f u =>
  have⟨u,M⟩:=u;refine⟨fun j ts t r i G h=>?_,fun d o ts l r i G h=>?_⟩
  ·cases j with
   |expr d =>
    rw[rd]at h;split at h
    ·cases h
    ·exact u (.level 0 (d+1)) ts t r i trivial h
   |level k d =>
    rw[rd]at h;split at h
    ·exact u (.operand d) ts t r i trivial h
    ·split at h
     ·cases h
     ·rename_i out N hx;have⟨q,n,c,F⟩:=u (.level (k+1) d) ts out N i trivial hx;have⟨v,m,C,w⟩:=u (.loop k d out) N t r (c.ok i) q h;exact⟨v,n+m,c.trans C,by grind[be,w4]⟩
   |loop k d out =>
    cases ts with
    |nil=>rw[rd]at h;cases h;exact⟨G,0,.nil _,by simp[be,w4]⟩
    |cons z r0 =>
     rw[rd]at h;split at h
     ·rename_i W;split at h
      ·cases h
      ·rename_i b H hx;obtain⟨⟨b',A,q⟩,n,c,F⟩:=u (.level (k+1) d) r0 b H (fun t Z=>i t (eQ _ Z)) trivial hx;have⟨o',R,h5⟩:=G;have h6:=(Sf.one z r0).trans c;obtain⟨v,m,C,w⟩:=u (.loop k d (one 6 z.at_ z.s [out,b])) H t r (h6.ok i) ⟨.bin z.s o' b',by simp only[E.ok,Rn W.2,R,A];rfl,by rw[eY,br,br,br,h5,q,E.tree]⟩ h;refine⟨v,_,h6.trans C,?_⟩
       grind[kv,aP,be,w4]
     ·cases h;exact⟨G,0,.nil _,by simp[be,w4]⟩
   |operand d =>
    cases ts with
    |nil =>
     grind[rd]
    |cons z r0 =>
     rw[rd]at h;split at h
     ·cases h
     ·have J:rB r0:=fun t Z=>i t (eQ _ Z)
      have B:=Sf.one z r0;split at h
      ·split at h
       ·rename_i hu;split at h
        ·cases h
        ·rename_i a H hx;cases h;have⟨⟨S,A,q⟩,n,c,F⟩:=u (.operand (d+1)) r0 a r J trivial hx;refine⟨⟨.un z.s S,?_,by rw[eY,br,br,q,E.tree]⟩,_,B.trans c,?_⟩
         ·grind[E.ok]
         ·simp only[w4,kv,aP]at *;omega
       ·split at h
        ·split at h
         ·cases h
         ·rename_i a H hx;split at h
          ·cases h
          ·rename_i r2 X;cases h;have⟨q,n,c,F⟩:=u (.expr (d+1)) r0 t H J trivial hx;exact⟨q,_,(B.trans c).trans (Sf.ba aD X),by grind[be,w4]⟩
        ·cases h
      ·split at h
       ·rename_i hk;cases h;have⟨v,C,w⟩:=(i z mem_cons_self).num hk;exact⟨⟨.num z.n,by grind[E.ok],by rfl⟩,1,B,by simp only[w4,be,aP];omega⟩
       ·split at h
        ·cases h
        ·rename_i s H Y;have⟨v,C⟩:=Sf.name Y i;split at h
         ·rename_i T;have w:=v.trans (Sf.aJ aD T);split at h
          ·cases h
          ·rename_i a r2 hx;split at h
           ·cases h
           ·rename_i r3 X;cases h;have⟨⟨S,A,q⟩,n,c,F⟩:=u (.expr (d+1)) _ a r2 (w.ok i) trivial hx;refine⟨⟨.at_ s S,by grind[E.ok],by rw[eY,br,br,q,E.tree]⟩,_,(w.trans c).trans (Sf.ba aD X),?_⟩;simp only[w4,kv,aP]at *;omega
         ·split at h
          ·rename_i T;have w:=v.trans (Sf.aJ aD T);split at h
           ·cases h
           ·rename_i l r2 hx;cases h;have⟨⟨es,A,q⟩,n,c,F⟩:=M _ _ _ l r (w.ok i) ⟨[],rfl,rfl⟩ hx;refine⟨⟨.call s es,by grind[E.ok],by rw[eY,q,E.tree]⟩,_,w.trans c,?_⟩
            grind[kv,aP]
          ·cases h;exact⟨⟨.name s,by grind[E.ok],by rfl⟩,1,v,by grind[kv,aP]⟩
  ·rw[rd.args]at h;split at h
   ·rename_i W;cases h;exact⟨G,1,Sf.aJ aD W,by omega⟩
   ·split at h
    ·cases h
    ·rename_i O hx
     have A:Sf ts O 0:=by
      split at hx
      ·cases hx;exact .nil _
      ·exact(Sf.ba aD hx).le (bl _)
     split at h
     ·cases h
     ·rename_i a Q hy;have⟨q,n,c,F⟩:=u (.expr d) O a Q (A.ok i) trivial hy;have R:=A.trans c;have⟨v,m,C,w⟩:=M _ (o++[a]) Q l r (R.ok i) (G.snoc q) h;refine⟨v,_,R.trans C,?_⟩
      grind[w4,jE,aP]
section
variable{e:Int}{d:Nat}
theorem wN{ts r:List Tok}{t:T}(A:rB ts)(h:expr e d ts=.ok (t,r)):EF t/\Sf ts r (be t):=by
 have⟨o,n,b,G⟩:=(SC e _).1 (.expr d) ts t r A trivial h
 grind[w4,EF,Sf,be]
def vN{a b:ah}{ts r:List Tok}{t:T}(ha:a≠[])(i:b≠[])(A:rB ts)(h:inner e d a b ts=.ok (t,r)):EF t/\Sf ts r (be t+2):=by
 unfold inner at h;split at h
 ·cases h
 ·rename_i H o;have R:=Sf.ba ha o;split at h
  ·cases h
  ·rename_i k s c;have⟨O,S⟩:=wN (R.ok A) c;split at h
   ·cases h
   ·rename_i W G;cases h;exact⟨O,((R.trans S).trans (Sf.ba i G)).le aO⟩
theorem Aa{ts r:List Tok}{s:ah}{t:T}(A:rB ts)(h:lZ e d ts=.ok ((s,t),r)):bZ s=true/\EF t/\Sf ts r (be t+3):=by
 unfold lZ at h;split at h
 ·cases h
 ·rename_i q H o;have⟨R,O⟩:=Sf.name o A;split at h
  ·cases h
  ·rename_i k u b;cases h;have⟨S,v⟩:=vN aD aD (R.ok A) b
   grind[bZ,EF,Sf,be]
end
def SF(t:T):Prop:=∃a:S,a.ok=true/\er t=a.tree
def Gp(l:List T):Prop:=∃e:List S,S.du e=true/\br l=S.aL e
def BF(t:T):Prop:=∃l:List S,S.du l=true/\er t=cI l
def Gp.snoc{l:List T}{t:T}(h:Gp l)(k:SF t):Gp (l++[t]):=by
 have⟨e,o,c⟩:=h;have⟨a,G,C⟩:=k
 have R:∀e:List S,S.du e=true->S.du (e++[a])=true/\S.aL (e++[a])=S.aL e++[a.tree]:=by
  intro e
  induction e with
  |nil=>intro _;simp[S.du,S.aL,G]
  |cons b e O =>
   grind[S.du,S.aL,S.tree]
 grind[GZ,br,Gp]
def Pd{t:T}(h:EF t)(N:t.n.aj=3):∃(s:ah)(a:T),t.aw=[a]/\t.n.s=s/\bZ s=true/\EF a:=by
 have⟨a,o,c⟩:=h;have G:=congrArg (fun x=>x.n.aj) c;simp only[wL,N]at G
 cases a with
 |at_ s b =>
  simp only[E.ok,aZ]at o
  have C:t.n.s=s:=by have:=congrArg (fun x=>x.n.s) c;simp only[wL]at this;exact this
  have e:br t.aw=[b.tree]:=by rw[<-RG,c];rfl
  match M:t.aw,e with
  |[x],e =>
   rw[br,br]at e
   injection e with h6
   exact⟨s,x,rfl,C,o.1,b,o.2,h6⟩
  |[],e=>grind[br]
  |x::y::r,e=>grind[br]
 |num n=>exact zez
 |name n=>exact zez
 |call s l=>exact zez
 |un s a=>exact zez
 |bin s a b=>exact zez
theorem Gc{e:Int}{d:Nat}{ts r:List Tok}{t:T}(A:rB ts)(h:simple e d ts=.ok (t,r)):SF t/\Sf ts r (be t):=by
 unfold simple at h;split at h
 ·grind
 ·rename_i q r0;split at h
  ·split at h
   ·cases h
   ·rename_i s a H o;cases h;have⟨R,⟨W,O,X⟩,w⟩:=Aa A o;exact⟨⟨.set s W,by grind[S.ok],by rw[eY,br,br,X,S.tree]⟩,w.le zfc⟩
  ·split at h
   ·cases h
   ·rename_i a H o;have⟨R,O⟩:=wN A o;split at h
    ·rename_i Y;split at h
     ·cases h
     ·rename_i v u b;cases h;have⟨⟨C,X,w⟩,i⟩:=vN aD aD (O.ok A) b;have⟨s,x,N,B,l,n,j,z⟩:=Pd R Y.1;have m:=fa a;rw[N]at m;simp only[aP]at m;rw[N];refine⟨⟨.put s n C,by grind[S.ok],?_⟩,(O.trans i).le ?_⟩
      ·rw[eY,B];grind[br,S.tree]
      grind[kv,aP]
    ·split at h
     ·cases h
     ·rename_i u b;cases h;have⟨W,X,w⟩:=R;exact⟨⟨.do_ W,by grind[S.ok],by rw[eY,br,br,w,S.tree]⟩,(O.trans (Sf.ba aD b)).le zfc⟩
def SJ(e:Int):∀f,(∀d ts t r,rB ts->rs e f (.block d) ts=.ok (t,r)->BF t/\Sf ts r (be t))/\(∀d ts t r,rB ts->rs e f (.stmt d) ts=.ok (t,r)->SF t/\Sf ts r (be t)) /\
  (∀d i ts l r,rB ts->Gp i->rs.body e f d i ts=.ok (l,r)->Gp l/\∃n,Sf ts r n/\aP l+1<=n+aP i):=by
 intro f
 induction f with
 |zero=>exact⟨fun d ts t r _ h=>by simp[rs]at h,fun d ts t r _ h=>by simp[rs]at h,fun d i ts l r _ _ h=>by simp[rs.body]at h⟩
 |succ f ih =>
  have⟨C,J,E⟩:=ih;refine⟨fun d ts t r j h=>?_,fun d ts t r j h=>?_,fun d i ts l r j Q h=>?_⟩
  ·rw[rs]at h;split at h
   ·cases h
   ·split at h
    ·cases h
    ·rename_i X o;have A:=Sf.ba aD o;split at h
     ·cases h
     ·rename_i l Y B;cases h;have⟨⟨es,k,u⟩,n,z,R⟩:=E _ [] X l r (A.ok j) ⟨[],rfl,rfl⟩ B;exact⟨⟨es,k,by rw[eY,u,cI]⟩,(A.trans z).le zfc⟩
  ·rw[rs]at h;split at h
   ·cases h
   ·simp only at h;split at h
    ·rename_i q;have w:=Sf.aJ aD q;split at h
     ·cases h
     ·rename_i s a v o;cases h;have⟨A,⟨F,k,u⟩,z⟩:=Aa (w.ok j) o;exact⟨⟨.var s F,by grind[S.ok],by rw[eY,br,br,u,S.tree]⟩,(w.trans z).le zfc⟩
    ·split at h
     ·rename_i q
      have w:Sf ts ts.tail 1:=by
       rcases q with q|q
       ·exact Sf.aJ aD q
       ·exact Sf.aJ aD q
      split at h
      ·cases h
      ·rename_i c X o;have⟨⟨G,A,k⟩,u⟩:=vN aD aD (w.ok j) o;have z:=w.trans u;split at h
       ·cases h
       ·rename_i b Y B;have⟨⟨N,R,T⟩,k7⟩:=C _ _ b Y (z.ok j) B;have M:=z.trans k7;split at h
        ·split at h
         ·rename_i H;have W:=M.trans (Sf.aJ aD H);split at h
          ·cases h
          ·rename_i Z r3 h3;cases h;have⟨⟨O,j5,j6⟩,j7⟩:=C _ _ Z r (W.ok j) h3;refine⟨⟨.if2 G N O,by grind[S.ok],?_⟩,(W.trans j7).le zfc⟩
           grind[eY,br,cI,er,one,place,S.tree]
         ·cases h;refine⟨⟨.if1 G N,by grind[S.ok],?_⟩,M.le zfc⟩;rw[eY,br,br,br,k,T,S.tree,cI]
        ·cases h;refine⟨⟨.while_ G N,by grind[S.ok],?_⟩,M.le zfc⟩;rw[eY,br,br,br,k,T,S.tree,cI]
     ·split at h
      ·rename_i q;have w:=Sf.aJ aD q;split at h
       ·cases h
       ·rename_i a v o;have⟨⟨F,A,k⟩,u⟩:=wN (w.ok j) o;split at h
        ·cases h
        ·rename_i ts2 B;cases h;exact⟨⟨.ret F,by grind[S.ok],by rw[eY,br,br,k,S.tree]⟩,((w.trans u).trans (Sf.ba aD B)).le zfc⟩
      grind[Gc]
  ·rw[rs.body]at h;split at h
   ·rename_i hc;cases h;exact⟨Q,1,Sf.aJ aD hc,by omega⟩
   ·split at h
    ·cases h
    ·rename_i a v o;have⟨A,k⟩:=J _ ts a v j o;have⟨u,m,z,R⟩:=E _ (i++[a]) v l r (k.ok j) (Q.snoc A) h;refine⟨u,_,k.trans z,?_⟩
     grind[jE,aP,be]
def IY{e:Int}{d:Nat}{ts r:List Tok}{t:T}(A:rB ts)(h:block e d ts=.ok (t,r)):BF t/\Sf ts r (be t):=(SJ e _).1 _ ts t r A h
end Go.Im
namespace Go.Sp
open Go.Xp
def fo(x:ah)(l:List K):Prop:=∀M c:ah,∃s,s.map kf=l/\Tz (M++(x++c)) M.length s (M.length+x.length)
def jn(x:ah)(l:List K):Prop:=∀M c:ah,Sep c->∃s,s.map kf=l/\Tz (M++(x++c)) M.length s (M.length+x.length)
def fo.s{x:ah}{l:List K}(h:fo x l):jn x l:=fun M c _=>h M c
def fo.app{x y:ah}{l m:List K}(h:fo x l)(k:fo y m):fo (x++y) (l++m):=by
 intro M c;have⟨s,o,b⟩:=h M (y++c);have⟨t,G,C⟩:=k (M++x) c;exact zbB
def fo.apps{x y:ah}{l m:List K}(h:fo x l)(k:jn y m):jn (x++y) (l++m):=by
 intro M c W;have⟨s,o,b⟩:=h M (y++c);have⟨t,G,C⟩:=k (M++x) c W;exact zbB
def jn.Dk{x y:ah}{l m:List K}(h:jn x l)(k:fo y m)(G:∀c,Sep (y++c)):fo (x++y) (l++m):=by
 intro M c;have⟨s,o,b⟩:=h M (y++c) (G c);have⟨t,H,C⟩:=k (M++x) c;exact zbB
theorem fo.nil:fo [] []:=fun M c=>⟨[],rfl,.nil _⟩
def xg{c:UInt8}{x:ah}(h:c∈Bn):∀e,Sep (c::x++e):=fun e d T=>by grind
def sY{M x:ah}:(M++x).drop M.length=x:=drop_left
theorem Tz.one{s:ah}{a W:Nat}{c:UInt8}{t:Tok}(X:s[a]?=some c)(i:fv c=false)(v:ct s a [47,42]=false)(M:gJ s a c=(t,W))(N:t.aj=1\/t.aj=2\/t.aj=3)(hn:t.n<=2147483647)(ha:a<W):Tz s a [t] W :=
 .tok X i v M N hn ha (.nil _)
def w7{c:UInt8}(h:fv c=true):fo [c] []:=by
 intro M d;have T:(M++([c]++d)).drop M.length=c::d:=sY;have⟨o,_,_⟩:=nH T;exact⟨[],rfl,.blank o h (.nil _)⟩
def ni{c:UInt8}(j:c∈[40,41,91,93,44,59,123,125]):fo [c] [kS [c]]:=by
 intro M d;have T:(M++([c]++d)).drop M.length=c::d:=sY;have⟨o,_,C⟩:=nH T;have⟨b,G,e⟩:=Od (Nat.le_of_lt C) T j;exact⟨[_],rfl,Tz.one o G e b ze3 ze3 ze3⟩
def yW{w:ah}(j:w∈cE):jn w [kS w]:=by
 intro M d W;have T:(M++(w++d)).drop M.length=w++d:=sY
 have k:w≠[]:=by rintro rfl;revert j;decide
 have⟨c,r,l⟩:=List.exists_cons_of_ne_nil k;have O:=T;rw[l,cons_append]at O;have⟨o,_,C⟩:=nH O;rw[<-cons_append,<-l]at o C;have⟨b,G,e⟩:=Pp (Nat.le_of_lt C) T l j W
 have:0<w.length:=by grind
 exact⟨[_],rfl,Tz.one o G e b ze3 ze3 aO⟩
def Gd{c:UInt8}(h:small c=true):fv c=false/\c≠47:=by
 simp only[small,aZ]at h;have q:=qu h.1;refine⟨?_,fun o=>?_⟩
 ·grind[fv]
 simp_all
def Mg{s r:ah}{a:Nat}{c:UInt8}(h:s.drop a=c::r)(W:c≠47):ct s a [47,42]=false:=by
 have⟨_,_,C⟩:=nH h
 grind[ct]
theorem Ef{w:ah}(l:word w=true):jn w [if words.contains w then kS w else kN w]:=by
 intro M d W;have T:(M++(w++d)).drop M.length=w++d:=sY;simp only[word,aZ,hY]at l
 match w,l,T with
 |[],l,_=>simp at l
 |c::r,l,T =>
  have⟨n,G⟩:=l;have O:=T;rw[cons_append]at O;have⟨o,_,C⟩:=nH O;have⟨H,e⟩:=Gd G;have N:=PM (Nat.le_of_lt C) T rfl G n W.fD;refine⟨[_],?_,Tz.one o H (Mg O e) N ?_ ze3 ze3⟩
  ·simp only[List.map_cons,List.map_nil,kf,kS,kN]
   grind
  grind
def lb{w:ah}(l:bZ w=true):jn w [kN w]:=by
 simp only[bZ,aZ,Bool.not_eq_true']at l
 grind[Ef]
def L1{w:ah}(l:w∈words):jn w [kS w]:=by
 have o:∀w∈words,word w=true:=by decide
 grind[Ef]
theorem HG{n:Nat}(hn:n<=2147483647):jn (gW n) [kI n]:=by
 intro M d X;have T:(M++(gW n++d)).drop M.length=gW n++d:=sY;have⟨o,b,G⟩:=GJ n;have⟨c,r,l⟩:=List.exists_cons_of_ne_nil G;have O:=T;rw[l,cons_append]at O;have⟨C,_,e⟩:=nH O;rw[<-cons_append,<-l]at C e;have W:eM c=true:=o c ze2
 have s:fv c=false/\c≠47:=by
  simp only[eM,aZ]at W;have o:=qu W.1;refine⟨?_,fun q=>?_⟩
  ·simp only[fv,Bool.or_eq_false_iff,beq_eq_false_iff_ne];omega
  simp_all
 have N:=Sl (Nat.le_of_lt e) T l hn X.eM
 have:0<(gW n).length:=by grind
 refine⟨[_],rfl,Tz.one C s.1 ?_ N ze3 ze2 aO⟩
 grind[ct]
def UN{s:ah}(h:ga s=true):s∈cE:=by
 have j:s∈levels.flatten:=by
  grind[ga,pz,List.mem_flatten]
 have R:∀s∈levels.flatten,s∈cE:=by decide
 grind
def JP:fo [32] []:=w7 aD
def jn.then{x:ah}{l:List K}(h:jn x l){c:UInt8}(j:c∈[40,41,91,93,44,59,123,125]):fo (x++[c]) (l++[kS [c]]) :=
 h.Dk (ni j) (xg (by revert j;unfold Bn;simp only[List.mem_cons,List.not_mem_nil,or_false];grind))
def jn.sp{x:ah}{l:List K}(h:jn x l):fo (x++[32]) l:=by
 have:=h.Dk JP (xg aD)
 grind
theorem jn.eq{x:ah}{l T:List K}(h:jn x l)(e:l=T):jn x T:=e ▸ h
theorem fo.eq{x:ah}{l T:List K}(h:fo x l)(e:l=T):fo x T:=e ▸ h
def A1{lv k:Nat}{x:ah}{l:List K}(h:jn x l):jn (qx lv k x) (brk lv k l):=by
 unfold qx brk;split
 ·have:=((ni (c:=40) aD).apps h).then (c:=41) aD;exact this.s.eq ze3
 ·exact h
mutual
def pB:∀a:E,a.ok=true->jn a.bQ a.tk
 |.num n,h=>by
  simp only[E.ok,aZ]at h;have o:=qu h.1;have d:=qu h.2
  grind[HG,Int.toNat_of_nonneg,jn,E.bQ,E.tk]
 |.name s,h=>by rw[E.bQ,E.tk];exact lb h
 |.at_ s a,h=>by
  simp only[E.ok,aZ]at h;rw[E.bQ,E.tk];exact((((lb h.1).then (c:=91) aD).apps (pB a h.2)).then (c:=93) aD).s.eq ze3
 |.call s l,h=>by
  simp only[E.ok,aZ]at h;rw[E.bQ,E.tk];exact((((lb h.1).then (c:=40) aD).apps (Wv l h.2)).then (c:=41) aD).s.eq ze3
 |.un s a,h=>by
  simp only[E.ok,aZ,Bool.or_eq_true,beq_iff_eq]at h;rw[E.bQ,E.tk]
  have G:s∈cE:=by rcases h.1 with(h|h)|h<;>(rw[h];decide)
  exact((yW G).sp.apps (A1 (pB a h.2))).eq ze3
 |.bin s a b,h=>by
  simp only[E.ok,aZ]at h;rw[E.bQ,E.tk];exact((((A1 (pB a h.1.2)).sp.apps (yW (UN h.1.1))).sp).apps (A1 (pB b h.2))).eq ze3
def Wv:∀l:List E,E.du l=true->jn (cQ (E.ei l)) (E.nD l)
 |[],_=>fo.nil.s
 |a::l,h=>by
  simp only[E.du,aZ]at h;rw[E.ei,E.nD,cQ];exact QC l h.2 _ _ (pB a h.1)
def QC:∀l:List E,E.du l=true->∀x m,jn x m->jn (x++(E.ei l).flatMap fun y=>44::32::y) (m++E.qn l)
 |[],_,x,m,hx=>by rw[E.ei,E.qn];grind
 |a::l,h,x,m,hx=>by
  simp only[E.du,aZ]at h;have o:=((hx.then (c:=44) aD).app JP).apps (pB a h.1);have b:=QC l h.2 _ _ o;rw[E.ei,E.qn,flatMap_cons]
  grind
end
def jn.set{x:ah}{l:List K}(h:jn x l):fo (x++[32,61,32]) (l++[kS [61]]):=by
 have:=(h.sp.apps (yW (w:=[61]) aD)).sp
 grind
def tX{w:ah}(l:w∈words):fo (w++[32]) [kS w]:=(L1 l).sp
mutual
def Ww:∀s:S,s.ok=true->fo (s.bQ E.bQ) s.tk
 |.set s a,h=>by
  simp only[S.ok,aZ]at h;rw[S.bQ,S.tk];exact(((lb h.1).set.apps (pB a h.2)).then (c:=59) aD).eq ze3
 |.put s a b,h=>by
  simp only[S.ok,aZ]at h;rw[S.bQ,S.tk];have o:=((((lb h.1).then (c:=91) aD).apps (pB a h.2.1)).then (c:=93) aD).s.set;have d:=(o.apps (pB b h.2.2)).then (c:=59) aD
  grind
 |.if1 c b,h=>by
  simp only[S.ok,aZ]at h;rw[S.bQ,S.tk];have o:=((((tX (w:=[105,102]) aD).app (ni (c:=40) aD)).apps (pB c h.1)).then (c:=41) aD).s.sp;have d:=o.app (lexB b h.2)
  have e:[105,102,32,40]++c.bQ++[41,32]++(S.ei E.bQ [123,32] b++[125])=[105,102]++[32]++[40]++c.bQ++[41]++[32]++(S.ei E.bQ [123,32] b++[125]):=by simp
  rw[e];exact d.eq (by simp[gk])
 |.if2 c b m,h=>by
  simp only[S.ok,aZ]at h;rw[S.bQ,S.tk];have o:=((((tX (w:=[105,102]) aD).app (ni (c:=40) aD)).apps (pB c h.1)).then (c:=41) aD).s.sp;have d:=o.app (lexB b h.2.1);have G:=((d.s.sp.apps (L1 (w:=[101,108,115,101]) aD)).sp).app (lexB m h.2.2)
  have e:[105,102,32,40]++c.bQ++[41,32]++(S.ei E.bQ [123,32] b++[125])++[32,101,108,115,101,32]++(S.ei E.bQ [123,32] m++[125])=[105,102]++[32]++[40]++c.bQ++[41]++[32]++(S.ei E.bQ [123,32] b++[125])++[32]++[101,108,115,101]++[32]++(S.ei E.bQ [123,32] m++[125]):=by simp
  rw[e];exact G.eq (by simp[gk,iH])
 |.while_ c b,h=>by
  simp only[S.ok,aZ]at h;rw[S.bQ,S.tk];have o:=((((tX (w:=[119,104,105,108,101]) aD).app (ni (c:=40) aD)).apps (pB c h.1)).then (c:=41) aD).s.sp;have d:=o.app (lexB b h.2)
  have e:[119,104,105,108,101,32,40]++c.bQ++[41,32]++(S.ei E.bQ [123,32] b++[125])=[119,104,105,108,101]++[32]++[40]++c.bQ++[41]++[32]++(S.ei E.bQ [123,32] b++[125]):=by simp
  rw[e];exact d.eq (by simp[gD])
 |.ret a,h=>by
  simp only[S.ok]at h;rw[S.bQ,S.tk];have o:=((tX (w:=[114,101,116,117,114,110]) aD).apps (pB a h)).then (c:=59) aD;exact o.eq zfl
 |.do_ a,h=>by
  simp only[S.ok]at h;rw[S.bQ,S.tk];exact(pB a h).then (c:=59) aD
 |.var s a,h=>by
  simp only[S.ok,aZ]at h;rw[S.bQ,S.tk];have o:=((((tX (w:=[118,97,114]) aD).apps (lb h.1)).set).apps (pB a h.2)).then (c:=59) aD;exact o.eq zfl
def lexB:∀l:List S,S.du l=true->fo (S.ei E.bQ [123,32] l++[125]) (kS [123]::(S.nD l++[kS [125]]))
 |l,h=>by
  have o:fo [123,32] [kS [123]]:=by
   have:=(ni (c:=123) aD).s.sp
   grind
  exact((QD l h _ _ o).s.then (c:=125) aD).eq ze3
def QD:∀l:List S,S.du l=true->∀T m,fo T m->fo (S.ei E.bQ T l) (m++S.nD l)
 |[],_,T,m,h=>by rw[S.ei,S.nD,gL];exact h
 |a::l,A,T,m,h=>by
  simp only[S.du,aZ]at A;rw[S.ei,S.nD];have o:=(h.app (Ww a A.1)).s.sp;exact(QD l A.2 _ _ o).eq ze3
end
def fo.all{x:ah}{l:List K}(h:fo x l):∃ts,ts.map kf=l/\Tz x 0 ts x.length:=by
 have⟨ts,o,b⟩:=h [] []
 grind
def HE{l:List S}(h:S.du l=true):fo (iG E.bQ l) (IX l):=lexB l h
end Go.Sp
namespace Go.Im
open Go.Xp Go.Sp
def Lb(s:ah):List K:=[kS jh,kN s,kS [59]]
def Gq(a:Ar):List K:=[kS jh,kN a.name,kS [91],kI a.size,kS [93],kS [59]]
def uC:List ah->List K
 |[]=>[]
 |s::r=>kS [44]::kN s::uC r
def EB:List ah->List K
 |[]=>[]
 |s::r=>kN s::uC r
def G4(x:Fn × List S):List K:=kS ju::kN x.1.name::kS [40]::(EB x.1.params++kS [41]::IX x.2)
def kZ(x:Fn × List S):ah:=((((([102,117,110,99,32]++x.1.name)++[40])++cQ x.1.params)++[41,32])++iG E.bQ x.2)++[10]
def HF:fo [59,10] [kS [59]]:=(ni (c:=59) aD).app (w7 (c:=10) aD)
def Wz{s:ah}(h:bZ s=true):fo (g1 s) (Lb s) :=
 ((tX (w:=jh) aD).apps (lb h)).Dk HF (xg (c:=59) (x:=[10]) aD)
def Wx{a:Ar}(h:nM a=true):fo (a1 a) (Gq a):=by
 unfold nM at h;simp only[aZ,Bool.not_eq_true',decide_eq_false_iff_not]at h;have⟨⟨o,b⟩,G⟩:=h
 have m:po a.size=gW a.size.toNat:=by grind[po]
 have N:kI a.size=kI ((a.size.toNat:Nat):Int):=by grind
 have z:=((tX (w:=jh) aD).apps (lb o)).then (c:=91) aD;have T:=z.apps (HG (n:=a.size.toNat) aO);have Z:=T.Dk ((ni (c:=93) aD).app HF) (xg (c:=93) (x:=[59,10]) aD);unfold a1 Gq;rw[m,N];exact Z
def L2:∀(e:List ah),dm e=true->∀x m,jn x m->jn (x++e.flatMap fun y=>44::32::y) (m++uC e)
 |[],_,x,m,h=>by grind[uC]
 |s::r,W,x,m,h=>by
  unfold dm at W;rw[all_cons,aZ]at W;have o:=(h.then (c:=44) aD).app JP;have b:=o.apps (lb W.1);have G:=L2 r W.2 _ _ b
  grind[uC]
def WA{e:List ah}(h:dm e=true):jn (cQ e) (EB e):=by
 match e,h with
 |[],_=>exact fo.nil.s
 |s::r,h =>
  unfold dm at h;rw[all_cons,aZ]at h;exact L2 r h.2 s [kN s] (lb h.1)
def Wy{x:Fn × List S}(o:bZ x.1.name=true)(b:dm x.1.params=true)(G:S.du x.2=true):fo (kZ x) (G4 x):=by
 have z:=((tX (w:=ju) aD).apps (lb o)).then (c:=40) aD;have T:=(z.apps (WA b)).Dk ((ni (c:=41) aD).app JP) (xg (c:=41) (x:=[32]) aD);have Z:=(T.app (HE G)).app (w7 (c:=10) aD);refine fo.eq Z ?_;simp[G4]
def xL{R:Type}{f:R->ah}{k:R->List K}:∀(l:List R),(∀x∈l,fo (f x) (k x))->∀T m,fo T m->fo (eG f T l) (m++l.flatMap k)
 |[],_,T,m,h=>by grind[eG]
 |x::l,M,T,m,h=>by
  rw[eG,flatMap_cons,<-gK];exact xL l (fun y B=>M y (eQ _ B)) _ _ (h.app (M x mem_cons_self))
def Kv{inl:List ah->Nat->ah}:∀(av:List Fn)(l:List T)(ls:List (List S))(W:ah),ls.length=l.length->(∀(i:Nat)t b,l[i]?=some t->ls[i]?=some b->nR eh inl 0 t=iG E.bQ b) ->
  eG (dM eh inl) W (av.zip l)=eG kZ W (av.zip ls)
 |[],l,ls,W,_,_=>by rfl
 |f::r,[],[],W,_,_=>by rfl
 |f::r,t::l,b::ls,W,M,h=>by
  have o:=h 0 t b rfl rfl;rw[zip_cons_cons,zip_cons_cons,eG,eG,Kv r l ls _ ze2 fun i k A v c=>h (i+1) k A ze2 ze2];simp only[dM,kZ,o]
 |f::r,[],b::ls,W,M,_=>by simp at M
 |f::r,t::l,[],W,M,_=>by simp at M
section
variable{p q:RS}{ts r rest:List Tok}{u:Tok}{s:ah}
theorem qo(h:On p (u::r)):tok p 0=u:=by rw[On.tok h];rfl
theorem yT(h:On p (u::r))(N:kf u=kS s):is p 0 s=true:=by
 grind[fc,qo,is]
theorem Jf(h:On p (u::r)){k:K}(N:kf u=k)(hn:k.1=3->k.2.2≠s):is p 0 s=false:=by
 grind[qo,kf,is]
def tF(h:On p (u::r))(N:kf u=kS s):want p s=p.next:=by unfold want;rw[ai h.code,ai (yT h N)]
def w9(h:On p (u::r))(N:kf u=kN s)(M:bZ s=true):cm p=p.next:=by
 have⟨o,b⟩:=qd N;have:=nk M;unfold cm;rw[ai h.code,qo h,ai o,ab ze2]
def nx(h:On p (u::r)):On p.next r:=h.next.1
def tN(h:On p (u::r)):p.next.l=p.l/\p.next.e=p.e:=⟨h.next.2.1,h.next.2.2⟩
theorem Y3(h:On p (u::r)):p.i<p.l.length:=by
 have:=congrArg List.length h.rest
 grind
theorem UQ(h:On p []):¬p.i<p.l.length:=by
 have:=congrArg List.length h.rest
 grind
theorem Hv{G f:Nat}{st:PS}(h:p.code≠0)(hg:1<=G):nT G f p st=some (p,st):=by
 obtain⟨G,rfl⟩:∃Q,G=Q+1:=⟨G-1,by omega⟩
 grind[nT]
theorem xI{f:Nat}{T:List ah}(h:p.code≠0)(hg:1<=f):o7 f T p=some (T,p):=by
 obtain⟨f,rfl⟩:∃Q,f=Q+1:=⟨f-1,by omega⟩;rw[o7,ab (fun W=>h W.1),iv h]
end
section
variable{f:Nat}{p:RS}{st:PS}{ts rest:List Tok}
def YX{s:ah}(W:On p (ts++rest))(M:ts.map kf=Lb s)(J:bZ s=true) :
  ∃q,iW f p st=some (q,{ st with au:=st.au++[s] })/\cS p q (.ok rest):=by
 obtain⟨u,r,rfl,o,M⟩:=map_cons M;obtain⟨v,r,rfl,b,M⟩:=map_cons M;obtain⟨w,rfl,G⟩:=jD M;simp only[cons_append,nil_append]at W;have H:=nx W;have T:=nx H;have t:=nx T;refine⟨p.next.next.next,?_,t,by rfl,by rfl⟩;unfold iW;rw[ai (yT W o),w9 H b J,Jf T G aD,ab ze3,tF T G,qo H,(qd b).2]
def YV{a:Ar}(W:On p (ts++rest))(M:ts.map kf=Gq a)(J:bZ a.name=true) :
  ∃q,iW f p st=some (q,{ st with aq:=st.aq++[a] })/\cS p q (.ok rest):=by
 obtain⟨u,r,rfl,o,M⟩:=map_cons M;obtain⟨v,r,rfl,b,M⟩:=map_cons M;obtain⟨w,r,rfl,G,M⟩:=map_cons M;obtain⟨x,r,rfl,C,M⟩:=map_cons M;obtain⟨y,r,rfl,e,M⟩:=map_cons M;obtain⟨z,rfl,n⟩:=jD M;simp only[cons_append,nil_append]at W;have H:=nx W;have T:=nx H;have t:=nx T;have Y:=nx t;have d:=nx Y;have m:=nx d;refine⟨p.next.next.next.next.next.next,?_,m,by rfl,by rfl⟩;unfold iW;rw[ai (yT W o),w9 H b J,ai ⟨T.code,yT T G⟩,qo t,ai (Oy C).1,tF Y e,tF d n,qo H,(qd b).2,(Oy C).2]
end
section
variable{rest:List Tok}{u:Tok}
theorem Qw(N:kf u=kS [41]):∀(e:List ah)(f:Nat)(T:List ah)(p:RS)(ts:List Tok),e.length<f->T≠[]->dm e=true->On p (ts++u::rest)->ts.map kf=uC e ->
  ∃q,o7 f T p=some (T++e,q)/\cS p q (.ok rest)
 |[],f,T,p,ts,l,A,_,W,M=>by
  obtain⟨f,rfl⟩:∃Q,f=Q+1:=⟨f-1,by omega⟩
  have:ts=[]:=by simp_all[uC]
  subst this;rw[nil_append]at W;refine⟨p.next,?_,nx W,tN W⟩;rw[o7,ab (by grind[yT]),tF W N,gL]
 |s::e,f,T,p,ts,l,A,c,W,M=>by
  obtain⟨f,rfl⟩:∃Q,f=Q+1:=⟨f-1,by omega⟩;rw[uC]at M;obtain⟨v,r,rfl,o,M⟩:=map_cons M;obtain⟨w,r,rfl,b,M⟩:=map_cons M;unfold dm at c;rw[all_cons,aZ]at c;simp only[cons_append]at W;have H:=nx W;have X:=nx H
  have z:T.length≠0:=fun h=>A (kQ h)
  rw[length_cons]at l
  have⟨q,G,C⟩:=Qw N e f (T++[s]) p.next.next r aO ze3 c.2 X M
  refine⟨q,?_,C.1,by rw[C.2.1,(tN H).1,(tN W).1],by rw[C.2.2,(tN H).2,(tN W).2]⟩;rw[o7,ai ⟨W.code,Jf W o aD⟩,ab z,tF W o,qo H,(qd b).2,w9 H b c.1,G];simp
theorem Wl(N:kf u=kS [41])(e:List ah)(f:Nat)(p:RS)(ts:List Tok)(hf:e.length<f)(hn:dm e=true)(W:On p (ts++u::rest))(M:ts.map kf=EB e) :
  ∃q,o7 f [] p=some (e,q)/\cS p q (.ok rest):=by
 obtain⟨f,rfl⟩:∃Q,f=Q+1:=⟨f-1,by omega⟩
 match e,hn,M,hf with
 |[],_,M,_ =>
  have:ts=[]:=by simp_all[EB]
  subst this;rw[nil_append]at W;refine⟨p.next,?_,nx W,tN W⟩;rw[o7,ab (by grind[yT]),tF W N]
 |s::e,hn,M,hf =>
  rw[EB]at M;obtain⟨w,r,rfl,b,M⟩:=map_cons M;unfold dm at hn;rw[all_cons,aZ]at hn;simp only[cons_append]at W;have T:=nx W;rw[length_cons]at hf
  have⟨q,G,C⟩:=Qw N e f ([]++[s]) p.next r aO ze3 hn.2 T M
  refine⟨q,?_,C.1,by rw[C.2.1,(tN W).1],by rw[C.2.2,(tN W).2]⟩;rw[o7,ai ⟨W.code,Jf W b (fun h=>by cases h)⟩,ai zfl,qo W,(qd b).2,w9 W b hn.1,G];rfl
end
def fW(p:RS):Nat:=40*p.l.length+100
def EC:∀e:List ah,e.length<=(uC e).length
 |[]=>bl _
 |s::r=>by have:=EC r;grind[uC]
theorem St(e:List ah):e.length<=(EB e).length:=by
 cases e with
 |nil=>simp
 |cons s r=>simp[EC,length_cons,ah,K,EB]
theorem On.len{p:RS}{ts:List Tok}(h:Go.Sp.On p ts):ts.length<=p.l.length:=by
 rw[<-h.rest,qt];omega
def UC{f:Nat}{q:RS}{ts:List Tok}(J:Go.Sp.On q ts)(G:tL q.l)(hf:fW q<=f):∃t M,iS f (.block 1) q=some (t,M)/\eW q M t (block q.e 1 ts):=by
 have⟨t,M,o,b⟩:=(is_ (nw ts)).block 1 ts q J G vD;have:=On.len J;exact⟨t,M,o f (by grind[fW,KI,nw]),b⟩
def YW{f:Nat}{p:RS}{st:PS}{ts rest:List Tok}{x:Fn × List S}(m:On p (ts++rest))(hs:tL p.l)(hf:fW p<=f)(c:ts.map kf=G4 x)(Q:bZ x.1.name=true)(R:dm x.1.params=true)(T:S.du x.2=true) :
  (gm x.2 1=true->∃q t,iW f p st=some (q,{ st with aL:=st.aL++[t],av:=st.av++[(x.1.name,x.1.params)] })/\er t=cI x.2/\cS p q (.ok rest)) /\
  (gm x.2 1=false->∃q F,iW f p st=some (q,F)/\q.code≠0):=by
 obtain⟨u,r,rfl,J,c⟩:=map_cons c;obtain⟨v,r,rfl,M,c⟩:=map_cons c;obtain⟨w,r,rfl,Z,c⟩:=map_cons c;obtain⟨A,r,rfl,k4,c⟩:=ej c;obtain⟨y,r,rfl,k5,c⟩:=map_cons c;simp only[cons_append,gK]at m;have C:=nx m;have N:=nx C;have O:=nx N
 have G:p.next.next.next.l=p.l:=by rfl
 have hA:x.1.params.length<=A.length:=by grind[St,bS]
 have i:=On.len O;simp only[bp]at i;rw[G]at i
 have n:x.1.params.length<f:=by grind[fW]
 have⟨q,W,j⟩:=Wl k5 x.1.params f p.next.next.next A n R O k4
 have o:q.l=p.l:=j.2.1.trans G;have⟨t,E,X,k⟩:=UC (f:=f) j.1 ze2 zfo;have⟨r1,r2⟩:=Dr (e:=q.e) (d:=1) (rest:=rest) T c
 have H:iW f p st=some (E,{ st with aL:=st.aL++[t],av:=st.av++[(x.1.name,x.1.params)] }):=by
  unfold iW;rw[ab (by rw[Jf m J aD];decide),ai (yT m J),w9 C M Q,tF N Z,W];simp only;rw[ai j.1.code,X,qo C,(qd M).2]
 refine⟨fun b=>?_,fun b=>?_⟩
 ·have⟨t',Y,z⟩:=r1 b;rw[z]at k;obtain⟨rfl,B⟩:=k;exact⟨E,t,H,Y,B.1,B.2.1.trans o,B.2.2.trans (j.2.2.trans zfl)⟩
 ·have⟨pos,z⟩:=r2 b;rw[z]at k;exact⟨E,_,H,cS.err k⟩
theorem qI{G f:Nat}{p q:RS}{st Y:PS}{u:Tok}{r:List Tok}(W:On p (u::r))(h:iW f p st=some (q,Y)):nT (G+1) f p st=nT G f q Y:=by
 rw[nT,ai ⟨W.code,Y3 W⟩,h]
section
variable{f:Nat}{rest:List Tok}
theorem Qz:∀(gs:List ah)(p:RS)(st:PS)(ts:List Tok),On p (ts++rest)->ts.map kf=gs.flatMap Lb->dm gs=true ->
  ∃q,cS p q (.ok rest)/\∀G,nT (G+gs.length) f p st=nT G f q { st with au:=st.au++gs }
 |[],p,st,ts,W,M,_=>by
  have:ts=[]:=by simp_all
  subst this;exact⟨p,On.self W,fun G=>by simp⟩
 |s::gs,p,st,ts,W,M,c=>by
  rw[flatMap_cons]at M;obtain⟨A,B,rfl,o,b⟩:=ej M;unfold dm at c;rw[all_cons,aZ]at c;rw[gK]at W;have⟨q,H,C⟩:=YX (f:=f) (st:=st) W o c.1;have⟨N,e,n⟩:=Qz gs q { st with au:=st.au++[s] } B C.1 b c.2;exact zcG
theorem Qx:∀(as:List Ar)(p:RS)(st:PS)(ts:List Tok),On p (ts++rest)->ts.map kf=as.flatMap Gq->as.all nM=true ->
  ∃q,cS p q (.ok rest)/\∀G,nT (G+as.length) f p st=nT G f q { st with aq:=st.aq++as }
 |[],p,st,ts,W,M,_=>by
  have:ts=[]:=by simp_all
  subst this;exact⟨p,On.self W,fun G=>by simp⟩
 |s::t,p,st,ts,W,M,c=>by
  rw[flatMap_cons]at M;obtain⟨A,B,rfl,o,b⟩:=ej M;rw[all_cons,aZ]at c;rw[gK]at W
  have z:bZ s.name=true:=by simp_all[nM,aZ]
  have⟨q,H,C⟩:=YV (f:=f) (st:=st) W o z;have⟨N,e,n⟩:=Qx t q { st with aq:=st.aq++[s] } B C.1 b c.2;exact zcG
end
def VK(x:Fn × List S):Prop:=bZ x.1.name=true/\dm x.1.params=true/\S.du x.2=true
def Qy{f:Nat}:∀(xs:List (Fn × List S))(p:RS)(st:PS)(ts:List Tok),On p ts->tL p.l->fW p<=f->ts.map kf=xs.flatMap G4->(∀x∈xs,VK x) ->
  ((xs.all fun x=>gm x.2 1)=true->∃q l,(∀G,xs.length<G->nT G f p st=some (q,{ st with aL:=st.aL++l,av:=st.av++xs.map fun x=>(x.1.name,x.1.params) }))/\q.code=0/\br l=xs.map fun x=>cI x.2) /\
  ((xs.all fun x=>gm x.2 1)=false->∃q b,(∀G,xs.length<G->nT G f p st=some (q,b))/\q.code≠0)
 |[],p,st,ts,d,_,_,k,_=>by
  have:ts=[]:=by simp_all
  subst this;refine⟨fun _=>⟨p,[],fun G e=>?_,d.code,by rfl⟩,fun h=>by cases h⟩;obtain⟨G,rfl⟩:∃c,G=c+1:=⟨G-1,by omega⟩;rw[nT,ab (fun E=>UQ d E.2)];simp
 |x::xs,p,st,ts,d,J,F,k,hx=>by
  rw[flatMap_cons]at k;obtain⟨A,B,rfl,v,C⟩:=ej k;have⟨X,Y,Z⟩:=hx x mem_cons_self;have⟨T,W⟩:=YW (st:=st) d J F v X Y Z
  have j:∃u r,A++B=u::r:=by obtain⟨u,r,rfl,_,_⟩:=map_cons v;simp
  have⟨u,r,M⟩:=j;rw[M]at d
  cases i:gm x.2 1 with
  |false =>
   have⟨q,b,w,n⟩:=W i;refine⟨fun h=>ze2,fun _=>⟨q,b,fun G e=>?_,n⟩⟩;obtain⟨G,rfl⟩:∃c,G=c+1:=⟨G-1,by omega⟩;rw[qI d w,Hv n ze2]
  |true =>
   have⟨q,t,w,n,z⟩:=T i;have H:q.l=p.l:=z.2.1;obtain⟨O,Q⟩:=Qy (f:=f) xs q { st with aL:=st.aL++[t],av:=st.av++[(x.1.name,x.1.params)] } B z.1 ze2 zfo C (fun y N=>hx y (eQ _ N));rw[all_cons,i,Bool.true_and];refine⟨fun h=>?_,fun h=>?_⟩
   ·have⟨o,l,R,m,j5⟩:=O h;refine⟨o,t::l,fun G e=>?_,m,by grind[br]⟩;obtain⟨G,rfl⟩:∃c,G=c+1:=⟨G-1,by omega⟩
    grind[qI,length_cons]
   ·have⟨o,b,R,m⟩:=Q h;refine⟨o,b,fun G e=>?_,m⟩;obtain⟨G,rfl⟩:∃c,G=c+1:=⟨G-1,by omega⟩
    grind[qI,length_cons]
def Mv(G:List ah)(d:List Ar)(xs:List (Fn × List S))(T:dm G=true)(W:d.all nM=true)(X:∀x∈xs,VK x) :
  ∃ts,Tz (eG kZ (eG a1 (eG g1 [] G) d) xs) 0 ts (eG kZ (eG a1 (eG g1 [] G) d) xs).length /\
  (tL ts->∀(e:Int)(g f:Nat),ts.length+1<=g->40*ts.length+100<=f ->
   ((xs.all fun x=>gm x.2 1)=true->∃q l,nT g f ⟨ts,0,e,0,0⟩ .empty=some (q,⟨l,G,d,xs.map fun x=>(x.1.name,x.1.params)⟩)/\q.code=0/\br l=xs.map fun x=>cI x.2) /\
   ((xs.all fun x=>gm x.2 1)=false->∃q st',nT g f ⟨ts,0,e,0,0⟩ .empty=some (q,st')/\q.code≠0)):=by
 have O:=xL (f:=g1) (k:=Lb) G (fun s m=>Wz (hY.1 T s m)) [] [] fo.nil;have Q:=xL (f:=a1) (k:=Gq) d (fun s m=>Wx (hY.1 W s m)) _ _ O;have R:=xL (f:=kZ) (k:=G4) xs (fun x hx=>by have⟨a,b,c⟩:=X x hx;exact Wy a b c) _ _ Q;have⟨ts,v,w⟩:=R.all;refine⟨ts,w,fun m e g f F E=>?_⟩;rw[nil_append]at v;obtain⟨A,C,rfl,N,k4⟩:=ej v;obtain⟨A,B,rfl,k5,k6⟩:=ej N;have j:On ⟨(A++B)++C,0,e,0,0⟩ (A++(B++C)):=⟨rfl,bl _,by simp,w.kinds⟩;obtain⟨q1,o,H⟩:=Qz (f:=f) G _ .empty A j k5 T;obtain⟨q2,t,J⟩:=Qx (f:=f) d q1 _ B o.1 k6 W;have i:q2.l=(A++B)++C:=(o.tr t).2.1;obtain⟨M,Z⟩:=Qy (f:=f) xs q2 { ({ PS.empty with au:=PS.empty.au++G }:PS)with aq:=PS.empty.aq++d } C t.1 (by rw[i];exact m) (by unfold fW;rw[i];exact E) k4 X
 have c1:G.length<=A.length:=by
  have:=congrArg List.length k5;rw[bS]at this;rw[this];clear this k5 o H t J M Z i j m v w N O Q R E F T
  induction G with
  |nil=>simp
  |cons s G ih=>grind[Lb]
 have c2:d.length<=B.length:=by
  have:=congrArg List.length k6;rw[bS]at this;rw[this];clear this k6 o H t J M Z i j m v w N O Q R E F W
  induction d with
  |nil=>simp
  |cons s G ih=>grind[Gq]
 have c3:xs.length<=C.length:=by
  have:=congrArg List.length k4;rw[bS]at this;rw[this];clear this k4 o H t J M Z i j m v w N O Q R E F X
  induction xs with
  |nil=>simp
  |cons s G ih=>grind[G4]
 rw[bp,bp]at F;have n:∃z,xs.length<z/\g=z+d.length+G.length:=⟨g-d.length-G.length,by omega,by omega⟩;obtain⟨z,Y,rfl⟩:=n;rw[H,J];refine⟨fun h=>?_,fun h=>?_⟩
 ·have⟨q,l,j7,j8,j9⟩:=M h;exact⟨q,l,j7 z Y,j8,j9⟩
 grind
structure Ao(st:PS):Prop where
 au:dm st.au=true
 aq:st.aq.all nM=true
 av:∀x∈st.av,bZ x.1=true/\dm x.2=true
 aL:∀t∈st.aL,BF t
 len:st.av.length=st.aL.length
def yt{a b:List ah}(h:dm a=true)(k:dm b=true):dm (a++b)=true:=by
 grind[dm]
def yu{s:ah}(h:bZ s=true):dm [s]=true:=by
 grind[dm]
theorem Sf.len{a b:List Tok}{n:Nat}(h:Sf a b n):b.length+n<=a.length:=by
 obtain⟨p,rfl,h⟩:=h
 grind
def Ht:∀(f:Nat)(T:List ah)(p:RS)(ts:List Tok),On p ts->rB ts->ts.length+1<f->dm T=true ->
  ∃l q,o7 f T p=some (l,q)/\((∃r n,cS p q (.ok r)/\dm l=true/\Sf ts r n)\/q.code≠0)
 |0,T,p,ts,_,_,m,_=>by omega
 |f+1,T,p,ts,W,A,m,e=>by
  rw[o7]
  by_cases X:p.code=0/\is p 0 [41]=false
  ·rw[ai X]
   have c:(∃r,cS p (if T.length=0 then p else want p [44]) (.ok r)/\Sf ts r 0)\/(if T.length=0 then p else want p [44]).code≠0:=by
    by_cases v:T.length=0
    ·rw[ai v];exact .inl ⟨ts,On.self W,.nil _⟩
    ·rw[ab v]
     rcases mM W (s:=[44]) aD with⟨r,o,b⟩|⟨x,o,b⟩
     ·exact .inl ⟨r,b,(Sf.ba aD o).le (bl _)⟩
     grind[cS.err]
   generalize(if T.length=0 then p else want p [44])=j at *
   rcases c with⟨r,o,b⟩|o
   ·rcases tl o.1 with⟨Y,G,C⟩|⟨x,G,C⟩
    ·have⟨R,O⟩:=Sf.name G (b.ok A);have d:=(b.trans R).len;have⟨l,q,S,w⟩:=Ht f (T++[(tok j 0).s]) (cm j) Y C.1 ((b.trans R).ok A) aO (yt e (yu O));refine⟨l,q,S,?_⟩
     rcases w with⟨k,n,i,N,B⟩|i
     ·exact .inl ⟨k,_,(o.tr C).tr i,N,(b.trans R).trans B⟩
     omega
    grind[xI,cS.err]
   ·rw[Ma o];exact⟨_,_,xI o aO,.inr o⟩
  ·rw[ab X]
   rcases mM W (s:=[41]) aD with⟨r,o,b⟩|⟨x,o,b⟩
   ·exact⟨T,_,rfl,.inl ⟨r,1,b,e,Sf.ba aD o⟩⟩
   grind[cS.err]
def UE{f:Nat}{p:RS}{st:PS}{u:Tok}{r0:List Tok}(O:On p (u::r0))(E:rB (u::r0))(hs:tL p.l)(hf:fW p<=f)(b:Ao st) :
  ∃q k,iW f p st=some (q,k)/\((∃r n,cS p q (.ok r)/\Ao k/\Sf (u::r0) r (n+1)/\aP k.aL<=n+1+aP st.aL)\/q.code≠0):=by
 have p1:=nx O;have i:=Sf.one u r0;unfold iW
 by_cases h1:is p 0 jh=true
 ·rw[ai h1]
  rcases tl p1 with⟨A,a1,c⟩|⟨x,a1,c⟩
  ·have⟨R,S⟩:=Sf.name a1 (i.ok E);have J:=i.trans R;have G:cS p (cm p.next) (.ok A):=(On.next O).tr c
   by_cases C:(cm p.next).code=0/\is (cm p.next) 0 [91]=true
   ·rw[ai C]
    have h3:aJ A 0=[91]:=by
     have:=On.is c.1 0 (s:=[91]) aD
     grind
    have⟨v,h4,_⟩:=tz aD h3;have m:=J.trans (Sf.aJ aD h3);have W:=c.1;rw[h4]at W
    have B:cS p (cm p.next).next (.ok A.tail):=G.tr (On.next W)
    have z:=nx W
    by_cases N:(tok (cm p.next).next 0).aj=1
    ·rw[ai N]
     cases hr:A.tail with
     |nil =>
      grind[On.tok]
     |cons w X =>
      rw[hr]at z B m;have p4:=nx z;have M:=m.trans (Sf.one w X);have H:=B.tr (On.next z);rw[qo z]at N;have hw:=(m.ok E w mem_cons_self).num N
      rcases mM p4 (s:=[93]) aD with⟨Q,j,d⟩|⟨x,j,d⟩
      ·rcases mM d.1 (s:=[59]) aD with⟨r5,Y,Z⟩|⟨x,Y,Z⟩
       ·refine⟨_,_,rfl,.inl ⟨r5,0,(H.tr d).tr Z,⟨b.au,?_,b.av,b.aL,b.len⟩,((M.trans (Sf.ba aD j)).trans (Sf.ba aD Y)).le aO,by simp⟩⟩;simp only;rw[List.all_append,b.aq,all_cons,List.all_nil,Bool.and_true,Bool.true_and];unfold nM;rw[qo z,S]
        grind
       grind[cS.err]
      grind[iv,cS.err]
    ·rw[ab N];exact⟨_,_,rfl,.inr (cS.err (On.ly z))⟩
   ·rw[ab C]
    rcases mM c.1 (s:=[59]) aD with⟨Q,j,d⟩|⟨x,j,d⟩
    ·exact⟨_,_,rfl,.inl ⟨Q,0,G.tr d,⟨yt b.au (yu S),b.aq,b.av,b.aL,b.len⟩,(J.trans (Sf.ba aD j)).le aO,by simp⟩⟩
    grind[cS.err]
  ·rw[ab (fun h=>cS.err c h.1),iv (cS.err c)]
   grind[cS.err]
 ·rw[ab h1]
  by_cases C:is p 0 ju=true
  ·rw[ai C]
   rcases tl p1 with⟨A,a1,c⟩|⟨x,a1,c⟩
   ·have⟨R,S⟩:=Sf.name a1 (i.ok E);have J:=i.trans R;have G:cS p (cm p.next) (.ok A):=(On.next O).tr c
    rcases mM c.1 (s:=[40]) aD with⟨r2,j,d⟩|⟨x,j,d⟩
    ·have m:=J.trans (Sf.ba aD j);have B:=G.tr d;have hl:=On.len d.1;have zA:(want (cm p.next) [40]).l=p.l:=B.2.1;have⟨l,q,k1,k2⟩:=Ht f [] _ r2 d.1 (m.ok E) zfo rfl;rw[k1];simp only
     rcases k2 with⟨X,n,F,k4,k5⟩|F
     ·have H:=B.tr F;have XF:q.l=p.l:=H.2.1;rw[ai F.1.code];have⟨t,q',k6,o⟩:=UC (f:=f) F.1 ze2 zfo;rw[k6];simp only;have M:=m.trans k5
      cases T:block q.e 1 X with
      |error x=>rw[T]at o;exact⟨_,_,rfl,.inr (cS.err o)⟩
      |ok y =>
       have⟨t',Q⟩:=y;rw[T]at o;obtain⟨rfl,o⟩:=o;have⟨k8,k9⟩:=IY (M.ok E) T;refine⟨_,_,rfl,.inl ⟨Q,n+be t+2,H.tr o,⟨b.au,b.aq,?_,?_,?_⟩,(M.trans k9).le aO,?_⟩⟩
       ·intro x hx
        rcases pG hx with hx|hx
        ·exact b.av x hx
        grind
       ·intro x hx
        rcases pG hx with hx|hx
        ·exact b.aL x hx
        grind
       ·simp only[bp,length_cons,length_nil];have:=b.len;omega
       ·simp only[jE,aP];omega
     ·rw[ab F]
      grind
    ·rw[xI (cS.err d) zfo];simp only;rw[ab (cS.err d)]
     grind[cS.err]
   ·rw[iv (cS.err c),xI (cS.err c) zfo];simp only;rw[ab (cS.err c)]
    grind[cS.err]
  ·rw[ab C];exact⟨_,_,rfl,.inr (cS.err (On.ly O))⟩
def Hu{f:Nat}:∀(G:Nat)(p:RS)(st:PS)(ts:List Tok),On p ts->rB ts->tL p.l->fW p<=f->Ao st->ts.length<G ->
  ∃q Y,nT G f p st=some (q,Y)/\(q.code=0->Ao Y/\aP Y.aL<=ts.length+aP st.aL)
 |0,p,st,ts,_,_,_,_,_,J=>by omega
 |G+1,p,st,ts,W,A,N,m,s,J=>by
  cases ts with
  |nil =>
   rw[nT,ab (fun X=>UQ W X.2)]
   grind
  |cons u r0 =>
   have⟨q,Y,o,b⟩:=UE W A N m s;rw[qI W o];rw[length_cons]at J
   rcases b with⟨r,n,H,C,e,t⟩|H
   ·have M:=e.len;rw[length_cons]at M;have k:q.l=p.l:=H.2.1;obtain⟨Q,c,R,O⟩:=Hu G q Y r H.1 (e.ok A) ze2 (by unfold fW at m |-;rw[k];exact m) C aO
    grind
   grind[Hv]
def pn(st:PS):List Fn:=st.av.mapIdx fun i x=>⟨x.1,x.2,((aP (st.aL.take i):Nat):Int)⟩
def same(p:Src)(st:PS):Bool:=fx (fun x y=>x==y) p.au st.au&&(fx yf p.aq st.aq&&(fx rl p.av (pn st)&&fx kM p.ae (cv 0 st.aL)))
structure Reads(x:ah)(ts:List Tok)(c z:Int)(q:RS)(st:PS):Prop where
 lex:pC x (x.length+1) 0 []=some (ts,c,z)
 len:ts.length<=x.length
 read:nT (ts.length+1) (40*ts.length+100) ⟨ts,0,(x.length:Int),0,0⟩ .empty=some (q,st)
 ok:q.code=0->Ao st/\aP st.aL<=ts.length
def reads(x:ah):∃ts c z q st,Reads x ts c z q st:=by
 obtain⟨ts,c,z,o,d,G,C⟩:=rL x (x.length+1) 0 [] (bl _) aO (fun t h=>by simp at h) .nil (fun t h=>by simp at h) (a8 _);have e:On ⟨ts,0,(x.length:Int),0,0⟩ ts:=⟨rfl,bl _,rfl,fun t M=>(d t M).kinds⟩;obtain⟨q,st,i,n⟩:=Hu (f:=40*ts.length+100) (ts.length+1) _ .empty ts e d G (a8 _) ⟨rfl,rfl,fun x h=>zfa,fun x h=>zfa,rfl⟩ aO;exact⟨ts,c,z,q,st,o,C,i,fun h=>by have⟨a,b⟩:=n h;exact⟨a,by simpa[PS.empty,aP]using b⟩⟩
structure Forms(l:List T)(ls:List (List S)):Prop where
 len:ls.length=l.length
 at_:∀(i:Nat)t b,l[i]?=some t->ls[i]?=some b->S.du b=true/\er t=cI b
def DI:∀(l:List T),(∀t∈l,BF t)->∃ls,Forms l ls
 |[],_=>⟨[],rfl,fun i t b h=>by simp at h⟩
 |t::l,h=>by
  have⟨b,o,c⟩:=h t mem_cons_self
  obtain⟨ls,G⟩:=DI l fun u M=>h u (eQ _ M)
  refine⟨b::ls,by simp[G.len],fun i k A R O=>?_⟩
  cases i with
  |zero=>grind
  |succ i=>exact G.at_ i k A ze2 ze2
def eo.mem{Q:Fn->T->Prop}:∀{av:List Fn}{a:Nat}{l:List T},eo Q av a l->(∀f∈av,∃t∈l,Q f t)/\(∀t∈l,∃f∈av,Q f t)
 |[],_,[],_=>⟨fun f h=>zfa,fun f h=>zfa⟩
 |f::r,a,t::l,h=>by
  rw[eo]at h;have⟨R,O⟩:=eo.mem h.2.2;refine⟨fun g X=>?_,fun u hu=>?_⟩
  ·rcases lp X with rfl|X
   ·exact⟨t,mem_cons_self,h.2.1⟩
   ·have⟨u,a,b⟩:=R g X;exact⟨u,eQ _ a,b⟩
  ·rcases lp hu with rfl|hu
   ·exact⟨f,mem_cons_self,h.2.1⟩
   ·have⟨g,a,b⟩:=O u hu;exact⟨g,eQ _ a,b⟩
 |[],_,t::l,h=>by cases h
 |f::r,_,[],h=>by cases h
def cD.CT{p:Src}{l:List T}(h:cD p l):∃ls,Forms l ls:=by
 refine DI l fun t M=>?_
 have⟨f,_,o⟩:=(eo.mem h.av).2 t M;exact toB o.all o.aj
def cD.at_{p:Src}{l:List T}(h:cD p l):l7 l:=by
 have:∀l:List T,(∀t∈l,ed t=true)->l7 l:=by
  intro l
  induction l with
  |nil=>intro _;trivial
  |cons t l O=>grind[Di,mem_cons_self,eQ,ed,l7]
 refine this l fun t M=>?_
 have⟨f,_,o⟩:=(eo.mem h.av).2 t M;exact o.all
def cD.r8{p:Src}{l:List T}(h:cD p l):kB p.ae p.av 0 []=some (l,p.ae.length):=by
 rw[Gy p.av 0 [] l h.st h.av h.at_,h.len];simp
def cD.k{p:Src}{l:List T}(h:cD p l):l.all iL=true:=by
 rw[hY];intro t M;have⟨f,_,o⟩:=(eo.mem h.av).2 t M;exact PV t o.all
theorem KY{l:List T}{ls:List (List S)}(h:Forms l ls):br l=ls.map cI:=by
 rw[sC];apply List.ext_getElem?;intro i;rw[dR,dR];have M:=h.len
 cases o:l[i]? with
 |none =>
  grind
 |some t =>
  have j:=(b6 o).1
  have b:ls[i]?=some (ls[i]'aO):=by simp
  rw[b];exact congrArg some (h.at_ i t _ o b).2
def zip_fst{R β:Type}:∀(a:List R)(b:List β),a.length=b.length->(a.zip b).map Prod.fst=a
 |[],[],_=>rfl
 |x::a,y::b,h=>by rw[zip_cons_cons,List.map_cons,zip_fst a b ze2]
 |[],y::b,h=>by simp at h
 |x::a,[],h=>by simp at h
def BH{R β:Type}:∀(a:List R)(b:List β),a.length=b.length->(a.zip b).map Prod.snd=b
 |[],[],_=>rfl
 |x::a,y::b,h=>by rw[zip_cons_cons,List.map_cons,BH a b ze2]
 |[],y::b,h=>by simp at h
 |x::a,[],h=>by simp at h
def xm(l:List T)(i:Nat):aP (l.take i)=aP ((br l).take i):=by
 rw[sC,<-List.map_take,<-sC,vt]
def Vh{p:Src}{l:List T}{W:List T}{ls:List (List S)}(h:cD p l)(e:br W=br l):same p ⟨W,p.au,p.aq,p.av.map fun x=>(x.name,x.params)⟩=true:=by
 unfold same;simp only[aZ];refine⟨sZ (fun x=>by simp) _,sZ (fun x=>by simp[yf]) _,?_,?_⟩
 ·have:pn ⟨W,p.au,p.aq,p.av.map fun x=>(x.name,x.params)⟩=p.av:=by
   unfold pn;apply List.ext_getElem?;intro i;simp only[List.getElem?_mapIdx,dR]
   cases m:p.av[i]? with
   |none=>rfl
   |some f =>
    have c:=eo.len h.av;have k:=(b6 m).1
    have M:l[i]?=some (l[i]'aO):=by simp
    have j:=(eo.at_ h.av i f _ m M).1;rw[dy,xm,<-e,<-xm]at j;simp only[Option.map_some];rw[<-j]
  rw[this];simp[sZ,fx,rl,Src.av]
 ·rw[cJ.all h.st h.len]
  grind[AP]
section
variable{p:Src}{l:List T}{ls:List (List S)}
def UJ(h:cD p l)(hf:Forms l ls):nO eh ig p l=eG kZ (eG a1 (eG g1 [] p.au) p.aq) (p.av.zip ls):=by
 unfold nO
 refine Kv _ _ _ _ hf.len fun i t b o c=>?_
 have⟨G,C⟩:=hf.at_ i t b o c;rw[<-Ko,C];exact uL b G 0
theorem JQ(h:cD p l)(hf:Forms l ls){ts:List Tok}{c z:Int}{q:RS}{st:PS}(v:Reads (nO eh ig p l) ts c z q st) :
  c=0/\((ls.all fun b=>gm b 1)=true->q.code=0/\aP st.aL<=800/\same p st=true)/\((ls.all fun b=>gm b 1)=false->q.code≠0):=by
 have hx:=UJ h hf;have d:=eo.len h.av;have u:=hf.len
 have W:∀x∈p.av.zip ls,VK x:=by
  intro x hx;have⟨f,b⟩:=x;have⟨i,k⟩:=getElem?_of_mem hx;rw[List.getElem?_zip_eq_some]at k;have E:=(b6 k.2).1
  have M:l[i]?=some (l[i]'aO):=by simp
  have o:=(eo.at_ h.av i f _ k.1 M).2;exact⟨o.name,o.params,(hf.at_ i _ b M k.2).1⟩
 have⟨H,o,s⟩:=Mv p.au p.aq (p.av.zip ls) h.au h.aq W;rw[<-hx]at o;have G:=Sa o rfl ((nO eh ig p l).length+1) [] aO;rw[nil_append,v.lex]at G;simp only[Option.some.injEq,Prod.mk.injEq]at G;obtain⟨rfl,rfl,rfl⟩:=G
 have r:tL ts:=by
  obtain⟨A,J,Q,R,O,Y,F⟩:=rL (nO eh ig p l) ((nO eh ig p l).length+1) 0 [] (bl _) aO (fun t h=>by simp at h) .nil (fun t h=>by simp at h) (a8 _);rw[v.lex]at R
  grind
 have⟨C,e⟩:=s r ((nO eh ig p l).length:Int) (ts.length+1) (40*ts.length+100) (a8 _) (a8 _)
 have n:((p.av.zip ls).all fun x=>gm x.2 1)=ls.all fun b=>gm b 1:=by
  have:ls=(p.av.zip ls).map Prod.snd:=(BH _ _ aO).symm
  grind
 rw[n]at C e;refine⟨rfl,fun j=>?_,fun j=>?_⟩
 ·have⟨N,Z,R,O,Y⟩:=C j;rw[v.read]at R;simp only[Option.some.injEq,Prod.mk.injEq]at R;obtain⟨rfl,rfl⟩:=R
  have B:((p.av.zip ls).map fun x=>cI x.2)=ls.map cI:=by
   have:ls=(p.av.zip ls).map Prod.snd:=(BH _ _ aO).symm
   conv=>rhs;rw[this]
   simp
  have X:((p.av.zip ls).map fun x=>(x.1.name,x.1.params))=p.av.map fun x=>(x.name,x.params):=by
   have:p.av=(p.av.zip ls).map Prod.fst:=(zip_fst _ _ aO).symm
   conv=>rhs;rw[this]
   simp
  have m:br Z=br l:=by grind[KY]
  refine⟨O,?_,?_⟩
  ·simp only;rw[<-vt,m,vt,h.len];exact h.few
  ·rw[X];exact Vh (ls:=ls) h m
 ·have⟨N,w,R,O⟩:=e j;rw[v.read]at R
  grind
end
def GX{R:Type}{p:R->R->Bool}{a b:List R}(h:fx p a b=true){x:R}(hx:x∈a):∃y∈b,p x y=true:=by
 have⟨i,j⟩:=getElem?_of_mem hx;have M:=xC h;have N:=(b6 j).1
 have k:b[i]?=some (b[i]'aO):=by simp
 grind[bN,Dz]
def JG{p:Src}{l:List T}(hn:p.ae.length<=800)(w:kB p.ae p.av 0 []=some (l,p.ae.length)){st:PS}(c:Ao st)(A:same p st=true):cD p l:=by
 have⟨l',F,G,H,h4,h5⟩:=AA _ _ _ _ _ w;rw[nil_append]at F;subst F;unfold same at A;simp only[aZ]at A;have⟨Y,Z,N,O⟩:=A
 have M:aP l=p.ae.length:=by omega
 have d:=cJ.all G M;rw[d]at O
 have j:l.length=st.aL.length:=by
  have a1:=eo.len H;have E:=xC N;unfold pn at E;rw[List.length_mapIdx]at E;have:=c.len;omega
 have W:=SP j O
 have e:∀f∈p.av,bZ f.name=true/\dm f.params=true:=by
  intro f o;have⟨g,J,q⟩:=GX N o;unfold pn at J;have⟨i,z⟩:=getElem?_of_mem J;rw[List.getElem?_mapIdx]at z
  cases hx:st.av[i]? with
  |none=>grind
  |some x =>
   rw[hx]at z;cases z;simp only[rl,aZ,beq_iff_eq]at q;have⟨⟨C,m⟩,_⟩:=q;have⟨k3,k4⟩:=c.av x (bN hx);rw[C,xB m];grind
 have k:∀t∈l,t.n.aj=14/\ed t=true:=by
  intro t B
  have r:er t∈br l:=by grind[sC,List.mem_map_of_mem]
  rw[W,sC]at r;have⟨u,X,Q⟩:=x9.1 r;have⟨b,C,m⟩:=c.aL u X;rw[Q]at m
  have s:wm t:=by
   have:∀l:List T,l7 l->t∈l->wm t:=by
    intro l
    induction l with
    |nil=>simp
    |cons v l ih =>
     grind[l7,wm]
   grind
  refine⟨?_,Ki t (by rw[m];exact S.uM b C) s⟩;have:=congrArg (fun x=>x.n.aj) m;simp only[wL]at this;exact this
 refine⟨?_,?_,G,eo.mono H fun f t o B _=>⟨(e f o).1,(e f o).2,(k t B).1,(k t B).2⟩,M,hn⟩
 ·rw[xB Y];exact c.au
 ·rw[hY];intro a R;have⟨b,w,q⟩:=GX Z R;have r:=hY.1 c.aq b w;simp only[yf,aZ,beq_iff_eq]at q
  grind[nM]
section
variable{R:Type}
def cj(f:R->Nat):List R->Nat
 |[]=>0
 |x::l=>f x+cj f l
theorem mh(f:R->Nat)(a b:List R):cj f (a++b)=cj f a+cj f b:=by
 induction a with
 |nil=>simp[cj]
 |cons x a O=>grind[cj]
theorem SY{f g:R->Nat}{l:List R}(h:∀x∈l,f x<=g x):cj f l<=cj g l:=by
 induction l with
 |nil=>simp[cj]
 |cons x l O =>
  grind[cj]
theorem qY{f:R->Nat}{l:List R}{x:R}(h:x∈l):f x<=cj f l:=by
 induction l with
 |nil=>cases h
 |cons y l O =>
  grind[cj]
theorem qX{f g:R->Nat}{k:Nat}{l:List R}(h:∀x∈l,f x<=k*g x):cj f l<=k*cj g l:=by
 induction l with
 |nil=>simp[cj]
 |cons x l O =>
  grind[mem_cons_self,eQ,Nat.mul_add,cj]
theorem tA(f:R->Nat)(l:List R)(h:∀x∈l,1<=f x):l.length<=cj f l:=by
 induction l with
 |nil=>simp
 |cons x l O =>
  grind[cj]
end
def E6{R β:Type}(f:R->Nat)(g:β->Nat):∀(a:List R)(b:List β),cj (fun x:R × β=>f x.1+g x.2) (a.zip b)<=cj f a+cj g b
 |[],b=>by simp[cj]
 |x::a,[]=>by simp[cj]
 |x::a,y::b=>by
  have:=E6 f g a b
  grind[zip_cons_cons,cj]
theorem Dt{R:Type}(f:R->ah):∀(l:List R)(T:ah),(eG f T l).length=T.length+cj (fun x=>(f x).length) l
 |[],T=>by rfl
 |x::l,T=>by rw[eG,Dt f l,bp,cj];omega
def sn(n:Nd):Nat:=n.s.length+60
mutual
def VJ:∀(t:T)(a:Nat),lB t=cj sn (fR a t)
 |.mk n l,a=>by rw[lB,fR,cj,x8 l (a+1),sn]
def x8:∀(l:List T)(a:Nat),jj l=cj sn (cv a l)
 |[],a=>rfl
 |t::r,a=>by rw[jj,cv,mh,VJ t a,x8 r (a+be t)]
end
def wi(l:List T)(i:Nat):Nat:=match l[i]? with|some t=>lB t|none=>0
def Zg(l:List T):wi l 0+wi l 1+wi l 2<=jj l:=by
 match l with
 |[]=>simp[wi]
 |[a]=>simp[wi,jj]
 |[a,b]=>simp[wi,jj]
 |a::b::c::r=>grind[wi,jj]
def Hb{l:List T}{f:T->ah}(h:∀t∈l,(f t).length<=lB t)(i:Nat):((l.map f).getD i []).length<=wi l i:=by
 grind[wi]
def Ii{l:List T}{t:T}(h:t∈l):be t<=aP l:=by
 induction l with
 |nil=>cases h
 |cons a l O =>
  grind[be,aP]
def Ig{f:T->ah}:∀{l:List T},(∀t∈l,(f t).length+4<=lB t)->lk (l.map f)<=jj l
 |[],_=>bl _
 |t::l,h=>by
  have o:=h t mem_cons_self
  have b:=Ig (l:=l) fun y B=>h y (eQ _ B)
  rw[List.map_cons,lk,jj];omega
def Vo:∀(N:Nat)(t:T),be t<=N->rY t->∀d,(lj eh ig d t).length+4<=lB t/\(nR eh ig d t).length<=lB t:=by
 intro N
 induction N with
 |zero=>grind[jT]
 |succ N Q =>
  intro t C c d;have w:=fa t;rw[qP]at c
  have O:∀a∈t.aw,∀d,(lj eh ig d a).length+4<=lB a/\(nR eh ig d a).length<=lB a:=fun a v d=>Q a (by have:=Ii v;omega) (kT c.2 v) d
  have hx:=Hb (l:=t.aw) (f:=eh) (fun a v=>by have:=vw (be a) a (a8 _) (kT c.2 v);omega);have i:=Hb (l:=t.aw) (f:=nR eh ig d) (fun a v=>(O a v d).2);have G:=Zg t.aw;have o:=pj t;have R:=vw (be t) t (a8 _) ((qP t).2 c);have u:=hx 0;have z:=hx 1;have m:=i 1;have n:=i 2;constructor
  ·rw[MO,Gx];unfold yz
   exact zcC
  ·rw[Kn,Ia]
   have:=Ig (f:=lj eh ig (d+1)) (l:=t.aw) fun a v=>(O a v (d+1)).1
   have e:∀l:List ah,(ig l d).length=3+lk l:=fun l=>by
    grind[bp,sV,length_cons,length_nil,ig,lk]
   grind
def wS(l:List ah):Nat:=cj (fun s=>s.length+1) l
def cH(p:Src):Nat:=wS p.au+cj (fun a:Ar=>a.name.length+1) p.aq+cj (fun f:Fn=>f.name.length+wS f.params+1) p.av+cj (fun n:Nd=>n.s.length+n.aw.length+1) p.ae
structure iN(p:Src):Prop where
 aq:∀a∈p.aq,-9223372036854775808<=a.size/\a.size<=9223372036854775807
 ae:∀n∈p.ae,-9223372036854775808<=n.n/\n.n<=9223372036854775807
mutual
def dr.num{ae:List Nd}(h:∀n∈ae,-9223372036854775808<=n.n/\n.n<=9223372036854775807):∀(t:T)(a:Nat),dr ae a t->rY t
 |.mk n l,a,G=>by
  rw[dr]at G;rw[rY];exact⟨h n (bN G.1),cJ.num h l _ G.2.2⟩
def cJ.num{ae:List Nd}(h:∀n∈ae,-9223372036854775808<=n.n/\n.n<=9223372036854775807):∀(l:List T)(a:Nat),cJ ae a l->ri l
 |[],a,_=>trivial
 |t::r,a,G=>by
  rw[cJ]at G;rw[ri];exact⟨dr.num h t a G.1,cJ.num h r _ G.2⟩
end
def Px(l:List ah):(l.map fun y=>y.length+2).sum=cj (fun s=>s.length+2) l:=by
 induction l with
 |nil=>rfl
 |cons s l O=>grind[cj]
def Fq(l:List T):jj l=cj lB l:=by
 induction l with
 |nil=>rfl
 |cons t l O=>rw[jj,cj,O]
def R1{p:Src}{l:List T}(hn:iN p)(G:cJ p.ae 0 l)(m:aP l=p.ae.length):(nO eh ig p l).length<=100*cH p:=by
 have v:=cJ.num hn.ae l 0 G
 have z:cj (fun s=>(g1 s).length) p.au<=100*wS p.au:=qX fun s _=>by grind[bp,length_cons,length_nil,g1]
 have R:cj (fun a=>(a1 a).length) p.aq<=100*cj (fun a:Ar=>a.name.length+1) p.aq:=qX fun a w=>by
  have:=wY (hn.aq a w)
  grind[a1]
 have q:cj (fun x=>(dM eh ig x).length) (p.av.zip l)<=cj (fun x:Fn × T=>(fun f:Fn=>100*(f.name.length+wS f.params+1)) x.1+lB x.2) (p.av.zip l):=SY fun x hx=>by
  have r:=(Vo (be x.2) x.2 (a8 _) (kT v (List.of_mem_zip hx).2) 0).2;have b:=yU x.1.params;rw[Px]at b
  have H:cj (fun s=>s.length+2) x.1.params<=2*wS x.1.params:=qX fun s _=>by omega
  simp only[dM,bp,length_cons,length_nil];omega
 have E:=E6 (fun f:Fn=>100*(f.name.length+wS f.params+1)) lB p.av l
 have k:cj (fun f:Fn=>100*(f.name.length+wS f.params+1)) p.av<=100*cj (fun f:Fn=>f.name.length+wS f.params+1) p.av:=qX fun f _=>a8 _
 have Y:cj sn p.ae<=100*cj (fun n:Nd=>n.s.length+n.aw.length+1) p.ae:=qX fun n _=>by grind[sn]
 have o:cj lB l=cj sn p.ae:=by rw[<-Fq,x8 l 0,<-cJ.all G m]
 unfold nO cH
 grind[Dt,length_nil,jC]
def Fh{p:Src}{l:List T}(G:cJ p.ae 0 l)(m:aP l=p.ae.length):∀t∈l,lB t<=100*cH p/\be t<=cH p:=fun t M=>by
 have Y:cj sn p.ae<=100*cj (fun n:Nd=>n.s.length+n.aw.length+1) p.ae:=qX fun n _=>by grind[sn]
 have o:cj lB l=cj sn p.ae:=by rw[<-Fq,x8 l 0,<-cJ.all G m]
 have Z:=qY (f:=lB) M;have H:=Ii M
 have X:=tA (fun n:Nd=>n.s.length+n.aw.length+1) p.ae fun n _=>by omega
 grind[cH]
theorem M3(l:List ah):l.length<=wS l:=tA _ l fun s _=>by omega
def M4{l:List ah}{s:ah}(h:s∈l):s.length+1<=wS l:=qY (f:=fun s:ah=>s.length+1) h
structure Small(p:Src)(n:Nat):Prop where
 au:p.au.length<=n/\∀s∈p.au,s.length<=n
 aq:p.aq.length<=n/\∀a∈p.aq,a.name.length<=n
 av:p.av.length<=n/\∀f∈p.av,f.name.length<=n/\f.params.length<=n/\∀s∈f.params,s.length<=n
 ae:p.ae.length<=n/\∀x∈p.ae,x.s.length<=n/\x.aw.length<=n
def gg(p:Src):Small p (cH p):=by
 have a1:=M3 p.au
 have F:=tA (fun a:Ar=>a.name.length+1) p.aq fun a _=>by omega
 have A:=tA (fun f:Fn=>f.name.length+wS f.params+1) p.av fun a _=>by omega
 have b:=tA (fun n:Nd=>n.s.length+n.aw.length+1) p.ae fun a _=>by omega
 unfold cH;refine⟨⟨by omega,fun s G=>?_⟩,⟨by omega,fun a v=>?_⟩,⟨by omega,fun f l=>?_⟩,⟨by omega,fun n c=>?_⟩⟩
 ·have:=M4 G;omega
 ·grind[qY]
 ·have:=qY (f:=fun f:Fn=>f.name.length+wS f.params+1) l;refine⟨by omega,by grind[M3],fun s G=>by have:=M4 G;omega⟩
 grind[qY]
structure yB(st:PS)(n:Nat):Prop where
 au:st.au.length<=n
 aq:st.aq.length<=n
 av:st.av.length<=n
 params:∀x∈st.av,x.2.length<=n
def LH:∀(f:Nat)(T:List ah)(p:RS)(l:List ah)(q:RS),o7 f T p=some (l,q)->l.length<=T.length+f
 |0,_,_,_,_,h=>by cases h
 |f+1,T,p,l,q,h=>by
  rw[o7]at h;split at h
  ·have:=LH f _ _ l q h
   grind
  grind
def yB.up{st:PS}{n:Nat}(h:yB st n):yB st (n+1):=by
 have⟨a,b,c,d⟩:=h;exact zeN
def Wn{f n:Nat}{p q:RS}{st Y:PS}(hf:f<=n)(h:iW f p st=some (q,Y))(G:yB st n):yB Y (n+1):=by
 have R:=G.up;have⟨a,b,c,d⟩:=G;unfold iW at h;split at h
 ·split at h
  ·split at h
   ·cases h;exact zeO
   grind
  ·cases h;exact zeO
 ·split at h
  ·cases j:o7 f [] (want (cm p.next) [40])with
   |none=>grind
   |some r =>
    have⟨l,v⟩:=r;rw[j]at h;simp only at h;have M:=LH _ _ _ _ _ j;split at h
    ·split at h
     ·cases h
     ·cases h;refine⟨by grind,by grind,by grind,fun x hx=>?_⟩
      grind
    grind
  grind
def LJ{f:Nat}:∀(G n:Nat)(p q:RS)(st Y:PS),f<=n->nT G f p st=some (q,Y)->yB st n->yB Y (n+G)
 |0,n,p,q,st,Y,_,h,_=>by cases h
 |G+1,n,p,q,st,Y,m,h,H=>by
  rw[nT]at h;split at h
  ·cases l:iW f p st with
   |none=>grind
   |some r =>
    have⟨v,B⟩:=r;rw[l]at h;simp only at h;have:=LJ G (n+1) v q B Y aO h (Wn m l H)
    grind
  ·cases h;have⟨a,b,c,d⟩:=H;exact zeN
mutual
def N7:∀(t:T)(a:Nat),∀n∈fR a t,n.aw.length<=be t
 |.mk m l,a,n,h=>by
  rw[fR]at h;rw[be]
  rcases lp h with rfl|h
  ·grind[cW,dU]
  ·have:=yM l (a+1) n h;omega
def yM:∀(l:List T)(a:Nat),∀n∈cv a l,n.aw.length<=aP l
 |[],a,n,h=>by grind[cv]
 |t::r,a,n,h=>by
  rw[cv]at h;rw[aP]
  rcases pG h with h|h
  ·have:=N7 t a n h;omega
  ·have:=yM r _ n h;omega
end
end Go.Im
namespace Go.Sp
open Go.Xp
structure C6(p:Src)(ls:List (List S)):Prop where
 len:ls.length=p.av.length
 at_:∀(i:Nat)f l,p.av[i]?=some f->ls[i]?=some l->0<=f.body/\S.du l=true/\wt (cI l)<=1000000000/\∃t,sub p.ae (fN p.ae) f.body.toNat=some t/\er t=cI l
def Sr(a:E)(A:a.ok=true):(a.bQ).length+4<=wt a.tree:=(E.len a A).1
def Rr{l:List S}(A:S.du l=true)(s:wt (cI l)<=1000000000) :
  ∃ts t q f,Go.Sp.ir (iG E.bQ l)=some ts/\(iG E.bQ l).length<=1000000000/\ts.length<=1000000000/\1+f<=1099511627776/\mS f (.block 1) ⟨ts,0,(iG E.bQ l).length,0,0⟩=some (t,q)/\q.l=ts/\((q.code=0/\q.i=ts.length/\gm l 1=true)\/(q.code≠0/\gm l 1=false)):=by
 have c:=sA E.bQ Sr A;generalize hx:iG E.bQ l=x at *;have⟨ts,r,b⟩:=(HE A).all;rw[hx]at b;have J:=b.len;have m:On ⟨ts,0,x.length,0,0⟩ ts:=⟨rfl,bl _,rfl,b.kinds⟩;have k:rs (x.length:Int) (nw ts) (.block 1) ts≠.error bJ:=vD;have⟨t,q,C,j⟩:=(js (nw ts)).block 1 ts _ m k;have H:=Dr (e:=(x.length:Int)) (d:=1) (rest:=[]) A r;rw[gL]at H
 change eW _ q t (block (x.length:Int) 1 ts)at j
 refine⟨ts,t,q,KF (nw ts),b.all,by omega,by omega,by unfold KF nw;omega,C _ (a8 _),?_⟩
 cases o:gm l 1 with
 |true =>
  have⟨u,_,n⟩:=H.1 o;rw[n]at j;have⟨_,O,T,_⟩:=j;have T:q.l=ts:=T;refine⟨T,.inl ⟨O.code,?_,rfl⟩⟩;have v:=congrArg List.length O.rest;have N:=O.le;rw[qt]at v;rw[T]at v N;simp only[length_nil]at v;omega
 |false =>
  have⟨G,n⟩:=H.2 o;rw[n]at j;exact⟨j.2.2.2.1,.inr ⟨cS.err j,rfl⟩⟩
end Go.Sp
namespace Go.Im
open Go.Xp Go.Sp
def JF(p:Src)(x:ah):Bool:=match pC x (x.length+1) 0 []with
 |none=>false
 |some (s,c,z)=>if c≠0 then false else match nT (s.length+1) (40*s.length+100) ⟨s,0,(x.length:Int),0,0⟩ .empty with
  |none=>false
  |some (q,st)=>if q.code≠0 then false else if aP st.aL>800 then false else same p st
def fI(p:Src):Bool:=if p.ae.length>800 then false else match kB p.ae p.av 0 []with
 |none=>false
 |some (l,e)=>if e≠p.ae.length then false else if l.all iL=false then false else JF p (nO eh ig p l)
section
variable{p:Src}
theorem y7{x:ah}{ts:List Tok}{c z:Int}{q:RS}{st:PS}(h:Reads x ts c z q st):JF p x=if c≠0 then false else if q.code≠0 then false else if aP st.aL>800 then false else same p st:=by
 unfold JF;rw[h.lex];simp only;rw[h.read]
theorem Ye{l:List T}{ls:List (List S)}(h:cD p l)(hf:Forms l ls):fI p=ls.all fun b=>gm b 1:=by
 unfold fI;have W:=h.few;rw[ab aO,h.r8];simp only;rw[ab ze3,ab (by rw[h.k];decide)];have⟨s,c,z,q,st,v⟩:=reads (nO eh ig p l);have⟨o,d,G⟩:=JQ h hf v
 grind[y7]
theorem jH(h:fI p=true):∃l,cD p l:=by
 unfold fI at h
 by_cases S:p.ae.length>800
 ·grind
 rw[ab S]at h
 cases i:kB p.ae p.av 0 []with
 |none=>grind
 |some y =>
  have⟨l,e⟩:=y;rw[i]at h;simp only at h
  by_cases j:e=p.ae.length
  ·subst j;rw[ab ze3]at h
   by_cases N:l.all iL=false
   ·grind
   rw[ab N]at h;have⟨s,c,z,q,st,v⟩:=reads (nO eh ig p l);rw[y7 v]at h;split at h
   ·cases h
   split at h
   ·cases h
   ·rename_i W;split at h
    ·cases h
    ·exact⟨l,JG aO i (v.ok aO).1 h⟩
  grind
def Yd(h:oM p=some false):fI p=false:=by
 cases m:fI p with
 |false=>rfl
 |true =>
  have⟨l,o⟩:=jH m;rw[o.oM]at h;cases h
end
def cJ.ix{ae:List Nd}:∀(l:List T)(a i:Nat)(t:T),cJ ae a l->l[i]?=some t->dr ae (a+aP (l.take i)) t
 |[],a,i,t,_,h=>by simp at h
 |u::r,a,0,t,h,j=>by
  grind[cJ,dr,aP]
 |u::r,a,i+1,t,h,j=>by
  rw[cJ]at h;have:=cJ.ix r (a+be u) i t h.2 (by simpa using j);rw[List.take_succ_cons,aP,<-kA];exact this
mutual
def Nq:∀t:T,wt t<=lB t
 |.mk n l=>by have:=Fs l;rw[wt,lB];omega
def Fs:∀l:List T,gz l<=jj l
 |[]=>a8 _
 |t::r=>by have:=Nq t;have:=Fs r;rw[gz,jj];omega
end
def Kp{p:Src}{l:List T}{ls:List (List S)}(h:cD p l)(hf:Forms l ls)(q:cH p<=1048576):C6 p ls:=by
 have N:=eo.len h.av;refine⟨by rw[hf.len];omega,fun i f b o c=>?_⟩;have m:=(b6 c).1;have d:=hf.len
 have M:l[i]?=some (l[i]'aO):=by simp
 have⟨G,C⟩:=hf.at_ i _ b M c;have⟨e,n⟩:=eo.at_ h.av i f _ o M;have O:=cJ.ix l 0 i _ h.st M;rw[dy]at e O;have j:=bN M;have X:=Fh h.st h.len _ j;have k:=Nq (l[i]'aO);have W:=dr.le _ _ O;refine⟨by omega,G,by grind[Q4],_,?_,C⟩;rw[e,eV];exact(vr _).1 _ _ O zfm
end Go.Im
namespace Go.Mn
open Go.Xp (ah)
inductive R where
 |num (n:Int)
 |loc (k:Nat)
 |glob (k:Nat)
 |at_ (k:Nat) (i:R)
 |size (n:Int)
 |get
 |put (a:R)
 |call (f:Nat) (l:List R)
 |un (o:ah) (a:R)
 |bin (o:ah) (a b:R)
 |and_ (a b:R)
 |or_ (a b:R)
 |setL (k:Nat) (a:R)
 |setG (k:Nat) (a:R)
 |putA (k:Nat) (i v:R)
 |if1 (c t:R)
 |if2 (c t e:R)
 |while_ (c b:R)
 |ret (a:R)
 |do_ (a:R)
 |block (l:List R)
structure M where
 inp:List Int
 out:List Int
 b7:List Int
 cells:List (List Int)
 bd:Nat
 fin:Int
 why:Int
 aW:Nat
 locs:List Int
 left:Bool
 jV:Int
def M.over(s:M):Bool:=s.fin != 0 ||s.left
def M.stop(s:M)(c w:Int):M:={ s with fin:=c,why:=w }
structure Op where
 un:ah->Int->Int
 bin:ah->Int->Int->Int × Int
 wr:Int->Int
 pl:Int->Int
def fT{W β:Type}(x:Option (W × M))(k:W->M->Option (β × M)):Option (β × M):=match x with
 |none=>none
 |some (v,s)=>k v s
def row(s:M)(k:Nat):List Int:=s.cells.getD k []
def uX(l:List Int)(n:Int):Bool:=decide (0<=n)&&decide (n<(l.length:Int))
def qk(s:M)(k:Nat)(n:Int)(v:Int):M:={ s with cells:=s.cells.set k ((row s k).set n.toNat v) }
def M.enter(s:M)(args:List Int):M:={ s with aW:=s.aW+1,locs:=args++List.replicate 40 0,left:=false,jV:=0 }
def M.leave(s t:M):M:={ t with aW:=t.aW-1,locs:=s.locs,left:=s.left,jV:=s.jV }
section
variable(O:Op)(F:Nat)(B:Nat->R)
mutual
def ev:Nat->R->M->Option (Int × M)
 |0,_,_=>none
 |g+1,r,s=>if F<=s.bd then some (0,s.stop 3 0)else bY g r { s with bd:=s.bd+1 }
def bY:Nat->R->M->Option (Int × M)
 |0,_,_=>none
 |g+1,r,s=>match r with
  |.num n=>some (n,s)
  |.loc k=>some (s.locs.getD k 0,s)
  |.glob k=>some (s.b7.getD k 0,s)
  |.at_ k i=>fT (ev g i s) fun n s=>if s.over then some (0,s)else if uX (row s k) n then some ((row s k).getD n.toNat 0,s)else some (0,s.stop 2 6)
  |.size n=>some (n,s)
  |.get=>match s.inp with
   |[]=>some (-1,s)
   |a::r=>some (O.wr a,{ s with inp:=r })
  |.put a=>fT (ev g a s) fun n s=>if s.over then some (0,s)else some (0,{ s with out:=s.out++[O.pl n] })
  |.call f l=>fT (nS g l [] s) fun args s=>if s.over then some (0,s)else if 100<=s.aW then some (0,s.stop 5 0)else fT (ev g (B f) (s.enter args)) fun _ t=>some (t.jV,s.leave t)
  |.un o a=>fT (ev g a s) fun n s=>some (O.un o n,s)
  |.bin o a b=>fT (ev g a s) fun n s=>if s.over then some (0,s)else fT (ev g b s) fun m s=>if s.over then some (0,s)else if(O.bin o n m).2≠0 then some (0,s.stop 2 (O.bin o n m).2)else some ((O.bin o n m).1,s)
  |.and_ a b=>fT (ev g a s) fun n s=>if s.over then some (0,s)else if n=0 then some (0,s)else fT (ev g b s) fun m s=>if s.over then some (0,s)else some (if m=0 then 0 else 1,s)
  |.or_ a b=>fT (ev g a s) fun n s=>if s.over then some (0,s)else if n≠0 then some (1,s)else fT (ev g b s) fun m s=>if s.over then some (0,s)else some (if m=0 then 0 else 1,s)
  |.setL k a=>fT (ev g a s) fun n s=>if s.over then some (0,s)else some (0,{ s with locs:=s.locs.set k n })
  |.setG k a=>fT (ev g a s) fun n s=>if s.over then some (0,s)else some (0,{ s with b7:=s.b7.set k n })
  |.putA k i v=>fT (ev g i s) fun n s=>if s.over then some (0,s)else if uX (row s k) n then fT (ev g v s) fun m s=>if s.over then some (0,s)else some (0,qk s k n m)else some (0,s.stop 2 6)
  |.if1 c t=>fT (ev g c s) fun n s=>if s.over then some (0,s)else if n≠0 then fT (ev g t s) fun _ s=>some (0,s)else some (0,s)
  |.if2 c t e=>fT (ev g c s) fun n s=>if s.over then some (0,s)else if n≠0 then fT (ev g t s) fun _ s=>some (0,s)else fT (ev g e s) fun _ s=>some (0,s)
  |.while_ c b=>fT (pJ g c b s) fun _ s=>some (0,s)
  |.ret a=>fT (ev g a s) fun n s=>if s.over then some (0,s)else some (0,{ s with left:=true,jV:=n })
  |.do_ a=>fT (ev g a s) fun _ s=>some (0,s)
  |.block l=>fT (mT g l s) fun _ s=>some (0,s)
def nS:Nat->List R->List Int->M->Option (List Int × M)
 |0,_,_,_=>none
 |g+1,l,H,s=>match l with
  |[]=>some (H,s)
  |r::l=>fT (ev g r s) fun n s=>if s.over then some (H++[n],s)else nS g l (H++[n]) s
def mT:Nat->List R->M->Option (Unit × M)
 |0,_,_=>none
 |g+1,l,s=>match l with
  |[]=>some ((),s)
  |r::l=>fT (ev g r s) fun _ s=>if s.over then some ((),s)else mT g l s
def pJ:Nat->R->R->M->Option (Unit × M)
 |0,_,_,_=>none
 |g+1,c,b,s=>fT (ev g c s) fun n s=>if s.over then some ((),s)else if n=0 then some ((),s)else fT (ev g b s) fun _ s=>if s.over then some ((),s)else pJ g c b s
end
end
def cV{W β:Type}{x:Option (W × M)}{k:W->M->Option (β × M)}{y:β × M}(h:fT x k=some y):∃v s,x=some (v,s)/\k v s=some y:=by
 unfold fT at h
 grind
section
variable{O:Op}{F:Nat}{B:Nat->R}
def eX{W β:Type}{x:Option (W × M)}{k:W->M->Option (β × M)}{P:M->Prop}{Q:M->Prop}(hx:∃v t,x=some (v,t)/\P t)(l:∀v t,P t->∃y u,k v t=some (y,u)/\Q u):∃y u,fT x k=some (y,u)/\Q u:=by
 obtain⟨v,t,rfl,h⟩:=hx;exact l v t h
theorem eO{W:Type}{c:Prop}[Decidable c]{a b:Option (W × M)}{Q:M->Prop}(ha:c->∃y u,a=some (y,u)/\Q u)(v:¬c->∃y u,b=some (y,u)/\Q u):∃y u,(if c then a else b)=some (y,u)/\Q u:=by
 split
 ·grind
 grind
structure Tm(O:Op)(F:Nat)(B:Nat->R)(n:Nat):Prop where
 e:∀g r s,F<=s.bd+n->3*n+1<=g->∃v t,ev O F B g r s=some (v,t)/\s.bd<=t.bd/\(s.bd<t.bd/\s.bd<F\/t.over=true)
 a:∀g l acc s,F<=s.bd+n->3*n+2<=g->∃v t,nS O F B g l acc s=some (v,t)/\s.bd<=t.bd
 b:∀g l s,F<=s.bd+n->3*n+2<=g->∃v t,mT O F B g l s=some (v,t)/\s.bd<=t.bd
 w:∀g c b s,F<=s.bd+n->3*n+2<=g->∃v t,pJ O F B g c b s=some (v,t)/\s.bd<=t.bd
 g:∀g r s,F<=s.bd+n->3*n+3<=g->∃v t,bY O F B g r s=some (v,t)/\s.bd<=t.bd
theorem Fe{n:Nat}(T:∀g r s,F<=s.bd+n->3*n+1<=g->∃v t,ev O F B g r s=some (v,t)/\s.bd<=t.bd/\(s.bd<t.bd/\s.bd<F\/t.over=true))
  (J:∀m,n=m+1->Tm O F B m):Tm O F B n:=by
 have N:∀g l H s,F<=s.bd+n->3*n+2<=g->∃v t,nS O F B g l H s=some (v,t)/\s.bd<=t.bd:=by
  intro g l H s z G;obtain⟨g,rfl⟩:∃Z,g=Z+1:=⟨g-1,by omega⟩
  cases l with
  |nil=>exact⟨H,s,by rw[nS],a8 _⟩
  |cons r l =>
   rw[nS]
   refine eX (T g r s z aO) fun v t q=>eO (fun h=>⟨_,_,rfl,q.1⟩) fun h=>?_
   rcases q.2 with R|R
   ·obtain⟨m,rfl⟩:∃m,n=m+1:=⟨n-1,by omega⟩;have⟨y,u,A,C⟩:=(J m rfl).a g l (H++[v]) t aO aO
    grind
   grind
 have S:∀g l s,F<=s.bd+n->3*n+2<=g->∃v t,mT O F B g l s=some (v,t)/\s.bd<=t.bd:=by
  intro g l s z G;obtain⟨g,rfl⟩:∃Z,g=Z+1:=⟨g-1,by omega⟩
  cases l with
  |nil=>simp[mT,M.bd]
  |cons r l =>
   rw[mT]
   refine eX (T g r s z aO) fun v t q=>eO (fun h=>⟨_,_,rfl,q.1⟩) fun h=>?_
   rcases q.2 with R|R
   ·obtain⟨m,rfl⟩:∃m,n=m+1:=⟨n-1,by omega⟩;have⟨y,u,A,C⟩:=(J m rfl).b g l t aO aO
    grind
   grind
 have X:∀g c b s,F<=s.bd+n->3*n+2<=g->∃v t,pJ O F B g c b s=some (v,t)/\s.bd<=t.bd:=by
  intro g c b s z G;obtain⟨g,rfl⟩:∃Z,g=Z+1:=⟨g-1,by omega⟩;rw[pJ]
  refine eX (T g c s z aO) fun v t q=>eO (fun h=>⟨_,_,rfl,q.1⟩) fun h=>eO (fun _=>⟨_,_,rfl,q.1⟩) fun _=>?_
  rcases q.2 with R|R
  ·refine eX (P:=fun u=>t.bd<=u.bd) (by
    obtain⟨v,u,A,C,-⟩:=T g b t aO aO
    grind) fun v u W=>eO (fun h=>⟨_,_,rfl,by omega⟩) fun _=>?_
   obtain⟨m,rfl⟩:∃m,n=m+1:=⟨n-1,by omega⟩;have⟨y,x,A,C⟩:=(J m rfl).w g c b u aO aO
   grind
  grind
 refine⟨T,N,S,X,fun g r s z G=>?_⟩;obtain⟨g,rfl⟩:∃Z,g=Z+1:=⟨g-1,by omega⟩
 have E:∀r(t:M),s.bd<=t.bd->∃v u,ev O F B g r t=some (v,u)/\s.bd<=u.bd:=fun r t q=>by
  obtain⟨v,u,R,A,-⟩:=T g r t aO aO
  grind
 have Q:=fun r=>E r s (a8 _)
 cases r with
 |num n=>exact zdH
 |loc k=>exact zdH
 |glob k=>exact zdH
 |size n=>exact zdH
 |get =>
  rw[bY]
  cases s.inp with
  |nil=>grind
  |cons a r=>grind
 |at_ k i =>
  rw[bY]
  exact eX (Q i) fun v t q=>eO (fun _=>⟨_,_,rfl,q⟩) fun _=>eO (fun _=>⟨_,_,rfl,q⟩) fun _=>⟨_,_,rfl,q⟩
 |put a =>
  rw[bY]
  exact za5
 |call f l =>
  rw[bY]
  refine eX (N g l [] s z aO) fun v t q=>eO (fun _=>⟨_,_,rfl,q⟩) fun _=>eO (fun _=>⟨_,_,rfl,q⟩) fun _=>?_
  exact eX (E (B f) (t.enter v) q) fun _ u W=>⟨_,_,rfl,W⟩
 |un o a =>
  rw[bY]
  exact eX (Q a) fun v t q=>⟨_,_,rfl,q⟩
 |bin o a b =>
  rw[bY]
  refine eX (Q a) fun v t q=>eO (fun _=>⟨_,_,rfl,q⟩) fun _=>?_
  exact eX (E b t q) fun v t q=>eO (fun _=>⟨_,_,rfl,q⟩) fun _=>eO (fun _=>⟨_,_,rfl,q⟩) fun _=>⟨_,_,rfl,q⟩
 |and_ a b =>
  rw[bY]
  refine eX (Q a) fun v t q=>eO (fun _=>⟨_,_,rfl,q⟩) fun _=>eO (fun _=>⟨_,_,rfl,q⟩) fun _=>?_
  exact zdu
 |or_ a b =>
  rw[bY]
  refine eX (Q a) fun v t q=>eO (fun _=>⟨_,_,rfl,q⟩) fun _=>eO (fun _=>⟨_,_,rfl,q⟩) fun _=>?_
  exact zdu
 |setL k a =>
  rw[bY]
  exact za5
 |setG k a =>
  rw[bY]
  exact za5
 |putA k i v =>
  rw[bY]
  refine eX (Q i) fun n t q=>eO (fun _=>⟨_,_,rfl,q⟩) fun _=>eO (fun _=>?_) fun _=>⟨_,_,rfl,q⟩
  exact eX (E v t q) fun v t q=>eO (fun _=>⟨_,_,rfl,q⟩) fun _=>⟨_,_,rfl,q⟩
 |if1 c b =>
  rw[bY]
  refine eX (Q c) fun v t q=>eO (fun _=>⟨_,_,rfl,q⟩) fun _=>eO (fun _=>?_) fun _=>⟨_,_,rfl,q⟩
  exact eX (E b t q) fun v t q=>⟨_,_,rfl,q⟩
 |if2 c b Y =>
  rw[bY]
  refine eX (Q c) fun v t q=>eO (fun _=>⟨_,_,rfl,q⟩) fun _=>eO (fun _=>?_) fun _=>?_
  ·exact eX (E b t q) fun v t q=>⟨_,_,rfl,q⟩
  ·exact eX (E Y t q) fun v t q=>⟨_,_,rfl,q⟩
 |while_ c b =>
  rw[bY]
  exact eX (X g c b s z aO) fun v t q=>⟨_,_,rfl,q⟩
 |ret a =>
  rw[bY]
  exact za5
 |do_ a =>
  rw[bY]
  exact eX (Q a) fun v t q=>⟨_,_,rfl,q⟩
 |block l =>
  rw[bY]
  exact eX (S g l s z aO) fun v t q=>⟨_,_,rfl,q⟩
theorem Cx(s:M){c w:Int}(h:c≠0):(s.stop c w).over=true:=by
 grind[M.over,M.stop]
theorem VA:∀n,Tm O F B n
 |0=>Fe (fun g r s q C=>by
   obtain⟨g,rfl⟩:∃Z,g=Z+1:=⟨g-1,by omega⟩;rw[ev,ai aO]
   exact⟨_,_,rfl,a8 _,.inr (Cx s aD)⟩) fun m h=>by omega
 |n+1=>Fe (fun g r s q C=>by
   obtain⟨g,rfl⟩:∃Z,g=Z+1:=⟨g-1,by omega⟩;rw[ev]
   by_cases h:F<=s.bd
   ·rw[ai h];exact⟨_,_,rfl,a8 _,.inr (Cx s aD)⟩
   ·rw[ab h];have⟨v,t,Q,w⟩:=(VA n).g g r { s with bd:=s.bd+1 } ze2 aO
    grind) fun m h=>by
   have:m=n:=by omega
   subst this;exact VA m
end
structure IM(F:Nat)(R:M->M->Prop):Prop where
 rfl:∀s,R s s
 trans:∀s t u,R s t->R t u->R s u
 stop:∀s c w,R s (s.stop c w)
 step:∀s,s.bd<F->R s { s with bd:=s.bd+1 }
 inp:∀(s:M)a r,s.inp=a::r->R s { s with inp:=r }
 out:∀(s:M)n,R s { s with out:=s.out++[n] }
 locs:∀(s:M)k n,R s { s with locs:=s.locs.set k n }
 b7:∀(s:M)k n,R s { s with b7:=s.b7.set k n }
 cells:∀(s:M)k n v,R s (qk s k n v)
 ret:∀(s:M)n,R s { s with left:=true,jV:=n }
 call:∀(s:M)args t,R (s.enter args) t->R s (s.leave t)
section
variable{O:Op}{F:Nat}{B:Nat->R}{Rl:M->M->Prop}
def en{W β:Type}{x:Option (W × M)}{k:W->M->Option (β × M)}{s:M}{y:β}{u:M}(o:IM F Rl)(hx:∀v t,x=some (v,t)->Rl s t)(l:∀v t y u,k v t=some (y,u)->Rl t u)(h:fT x k=some (y,u)):Rl s u:=by
 have⟨v,t,Q,w⟩:=cV h;exact o.trans _ _ _ (hx v t Q) (l v t y u w)
theorem dT{W:Type}{c:Prop}[Decidable c]{a b:Option (W × M)}{s:M}{y:W}{u:M}(ha:a=some (y,u)->Rl s u)(v:b=some (y,u)->Rl s u)(h:(if c then a else b)=some (y,u)):Rl s u:=by
 grind
theorem bK{W:Type}{v y:W}{s t u:M}(q:Rl s t)(h:some (v,t)=some (y,u)):Rl s u:=by grind
theorem xD(q:IM F Rl):∀g:Nat,(∀r s v t,ev O F B g r s=some (v,t)->Rl s t)/\(∀r s v t,bY O F B g r s=some (v,t)->Rl s t)/\(∀l H s v t,nS O F B g l H s=some (v,t)->Rl s t)/\(∀l s v t,mT O F B g l s=some (v,t)->Rl s t)/\(∀c b s v t,pJ O F B g c b s=some (v,t)->Rl s t)
 |0=>⟨fun r s v t h=>(by grind[ev]),fun r s v t h=>(by grind[bY]),fun l H s v t h=>(by grind[nS]),fun l s v t h=>(by grind[mT]),fun c b s v t h=>(by grind[pJ])⟩
 |g+1=>by
  have⟨Q,C,z,R,W⟩:=xD q g;have T:=q.rfl;refine⟨fun r s v t h=>?_,fun r s v t h=>?_,fun l H s v t h=>?_,fun l s v t h=>?_,fun c b s v t h=>?_⟩
  ·rw[ev]at h;split at h
   ·exact bK (q.stop _ _ _) h
   ·rename_i J;exact q.trans _ _ _ (q.step s aO) (C _ _ _ _ h)
  ·have S:=fun(t:M)c w=>q.stop t c w
   cases r with
   |num n=>simp_all[bY,bK]
   |loc k=>simp_all[bY,bK]
   |glob k=>simp_all[bY,bK]
   |size n=>simp_all[bY,bK]
   |get =>
    simp only[bY]at h
    cases A:s.inp with
    |nil=>grind
    |cons a r=>rw[A]at h;exact bK (q.inp s a r A) h
   |at_ k i=>simp only[bY]at h;exact en q (Q _ _) (fun v t y u=>dT (bK (T _)) (dT (bK (T _)) (bK (S _ _ _)))) h
   |put a=>simp only[bY]at h;exact en q (Q _ _) (fun v t y u=>dT (bK (T _)) (bK (q.out _ _))) h
   |call f l =>
    simp only[bY]at h;refine en q (z _ _ _) (fun v t y u=>dT (bK (T _)) (dT (bK (S _ _ _)) fun h=>?_)) h;have⟨w,x,E,N⟩:=cV h;cases N;exact q.call _ _ _ (Q _ _ _ _ E)
   |un o a=>exact zem
   |bin o a b=>simp only[bY]at h;exact en q (Q _ _) (fun v t y u=>dT (bK (T _)) (en q (Q _ _) (fun v t y u=>dT (bK (T _)) (dT (bK (S _ _ _)) (bK (T _)))))) h
   |and_ a b=>exact zbT
   |or_ a b=>exact zbT
   |setL k a=>simp only[bY]at h;exact en q (Q _ _) (fun v t y u=>dT (bK (T _)) (bK (q.locs _ _ _))) h
   |setG k a=>simp only[bY]at h;exact en q (Q _ _) (fun v t y u=>dT (bK (T _)) (bK (q.b7 _ _ _))) h
   |putA k i v=>simp only[bY]at h;exact en q (Q _ _) (fun v t y u=>dT (bK (T _)) (dT (en q (Q _ _) (fun v t y u=>dT (bK (T _)) (bK (q.cells _ _ _ _)))) (bK (S _ _ _)))) h
   |if1 c b=>simp only[bY]at h;exact en q (Q _ _) (fun v t y u=>dT (bK (T _)) (dT (en q (Q _ _) (fun v t y u=>bK (T _))) (bK (T _)))) h
   |if2 c b G=>simp only[bY]at h;exact en q (Q _ _) (fun v t y u=>dT (bK (T _)) (dT (en q (Q _ _) (fun v t y u=>bK (T _))) (en q (Q _ _) (fun v t y u=>bK (T _))))) h
   |while_ c b=>simp only[bY]at h;exact en q (W _ _ _) (fun v t y u=>bK (T _)) h
   |ret a=>simp only[bY]at h;exact en q (Q _ _) (fun v t y u=>dT (bK (T _)) (bK (q.ret _ _))) h
   |do_ a=>exact zem
   |block l=>simp only[bY]at h;exact en q (R _ _) (fun v t y u=>bK (T _)) h
  ·cases l with
   |nil=>simp_all[nS,bK]
   |cons r l=>simp only[nS]at h;exact en q (Q _ _) (fun v t y u=>dT (bK (T _)) (z _ _ _ _ _)) h
  ·cases l with
   |nil=>simp_all[mT,bK]
   |cons r l=>simp only[mT]at h;exact en q (Q _ _) (fun v t y u=>dT (bK (T _)) (R _ _ _ _)) h
  ·simp only[pJ]at h;exact en q (Q _ _) (fun v t y u=>dT (bK (T _)) (dT (bK (T _)) (en q (Q _ _) (fun v t y u=>dT (bK (T _)) (W _ _ _ _ _))))) h
def Zk(F:Nat)(s t:M):Prop:=s.out <+: t.out/\(s.bd<=F->t.bd<=F)
def ZM(F:Nat):IM F (Zk F) where
 rfl s:=⟨prefix_refl _,id⟩
 trans s t u h k:=⟨h.1.trans k.1,fun x=>k.2 (h.2 x)⟩
 stop s c w:=⟨prefix_refl _,id⟩
 step s h:=⟨prefix_refl _,fun _=>h⟩
 inp s a r h:=⟨prefix_refl _,id⟩
 out s n:=⟨List.prefix_append _ _,id⟩
 locs s k n:=⟨prefix_refl _,id⟩
 b7 s k n:=⟨prefix_refl _,id⟩
 cells s k n v:=⟨prefix_refl _,id⟩
 ret s n:=⟨prefix_refl _,id⟩
 call s args t h:=h
structure Df(s t:M):Prop where
 b7:t.b7.length=s.b7.length
 cells:t.cells.length=s.cells.length
 rows:∀k,(row t k).length=(row s k).length
 locs:t.locs.length=s.locs.length
 aW:t.aW=s.aW
theorem SG(s:M)(k:Nat)(n v:Int)(j:Nat):(row (qk s k n v) j).length=(row s j).length:=by
 grind[row,qk]
def QR(F:Nat):IM F Df where
 rfl s:=⟨Eq.refl _,Eq.refl _,fun _=>Eq.refl _,Eq.refl _,Eq.refl _⟩
 trans s t u h k:=⟨k.b7.trans h.b7,k.cells.trans h.cells,fun j=>(k.rows j).trans (h.rows j),k.locs.trans h.locs,k.aW.trans h.aW⟩
 stop s c w:=⟨Eq.refl _,Eq.refl _,fun _=>Eq.refl _,Eq.refl _,Eq.refl _⟩
 step s h:=⟨Eq.refl _,Eq.refl _,fun _=>Eq.refl _,Eq.refl _,Eq.refl _⟩
 inp s a r h:=⟨Eq.refl _,Eq.refl _,fun _=>Eq.refl _,Eq.refl _,Eq.refl _⟩
 out s n:=⟨Eq.refl _,Eq.refl _,fun _=>Eq.refl _,Eq.refl _,Eq.refl _⟩
 locs s k n:=⟨Eq.refl _,Eq.refl _,fun _=>Eq.refl _,length_set,Eq.refl _⟩
 b7 s k n:=⟨length_set,Eq.refl _,fun _=>Eq.refl _,Eq.refl _,Eq.refl _⟩
 cells s k n v:=⟨Eq.refl _,length_set,SG s k n v,Eq.refl _,Eq.refl _⟩
 ret s n:=⟨Eq.refl _,Eq.refl _,fun _=>Eq.refl _,Eq.refl _,Eq.refl _⟩
 call s args t h:=⟨h.b7,h.cells,h.rows,Eq.refl _,by show t.aW-1=s.aW;rw[h.aW];rfl⟩
end
end Go.Mn
namespace Go.Im
open Go.Xp Go.Sp
def wE{p:Src}{l:List T}(h:cD p l):∀a∈p.aq,0<=a.size/\a.size<=2147483647:=fun a v=>by
 have:=hY.1 h.aq a v
 exact zeJ
def cD.uniq{p:Src}{l W:List T}(h:cD p l)(e:cD p W):l=W:=by
 have o:=h.r8;rw[e.r8]at o;exact((Prod.mk.injEq _ _ _ _ ▸ su o).1).symm
def lP:ah:=[103,101,116]
def lR:ah:=[112,117,116]
def ef:ah:=[115,105,122,101]
def lQ:ah:=[109,97,105,110]
def iO(s:ah):Bool:=(s==lP ||s==lR) ||s==ef
def bL{R:Type}(f:R->Bool)(l:List R):Int:=match l.findIdx? f with|some i=>(i:Int)|none => -1
def jd(p:Src)(s:ah):Int:=bL (fun f:Fn=>f.name==s) p.av
def fi(p:Src)(s:ah):Int:=bL (fun a:Ar=>a.name==s) p.aq
def dE(p:Src):List ah:=p.aq.map fun a:Ar=>a.name
def ez(p:Src):List ah:=p.av.map fun f:Fn=>f.name
def bO(p:Src):List ah:=(p.au++dE p)++ez p
def la(t:T):Nd:=match t.aw with|k::_=>k.n|[]=>⟨0,0,0,[],[]⟩
def b8(t:T):Bool:=(t.n.aj==4&&t.n.s==ef)&&(t.aw.length==1)
def lg(p:Src)(i:Nat):Nat:=match p.av[i]? with|some f=>f.params.length|none=>0
def jv(p:Src)(s:ah):Int:=if s=lP then 0 else if s=lR\/s=ef then 1 else match p.av.findIdx? (fun f:Fn=>f.name==s)with|some i=>(lg p i:Int)|none => -1
def gO(p:Src)(k:Nd)(ls:List ah):Bool:=(k.aj != 2 ||decide (fi p k.s<0)) ||ls.contains k.s
def dw(p:Src)(t:T)(ls:List ah):Int :=
 if b8 t=true then(if gO p (la t) ls=true then 24 else 0)
 else if jv p t.n.s = -1 then 22 else if jv p t.n.s=(t.aw.length:Int)then 0 else 23
def bG(p:Src)(t:T)(ls:List ah):Int :=
 if t.n.aj=13 then(if ls.contains t.n.s=true then 21 else if ls.length>=40 then 26 else 0)
 else if t.n.aj=2\/t.n.aj=7 then(if ls.contains t.n.s=false/\p.au.contains t.n.s=false then 22 else 0)
 else if t.n.aj=3\/t.n.aj=8 then(if ls.contains t.n.s=true\/fi p t.n.s<0 then 24 else 0)
 else if t.n.aj=4 then dw p t ls
 else 0
structure CS where
 code:Int
 place:Int
 skip:Int
def dn(p:Src)(c:CS)(a:Nat)(t:T)(ls:List ah):CS :=
 if c.code≠0\/(a:Int)=c.skip then c
 else⟨bG p t ls,if bG p t ls≠0 then t.n.at_ else c.place,if b8 t=true then(if(la t).aj≠2 then -1 else((a+1:Nat):Int))else c.skip⟩
mutual
def fy{m:Type}(f:m->Nat->T->List ah->m):T->Nat->m->List ah->m × List ah
 |.mk n l,a,s,t=>((dh f l (a+1) (f s a (.mk n l) t) t).1,if n.aj=13 then(dh f l (a+1) (f s a (.mk n l) t) t).2++[n.s]else(dh f l (a+1) (f s a (.mk n l) t) t).2)
def dh{m:Type}(f:m->Nat->T->List ah->m):List T->Nat->m->List ah->m × List ah
 |[],_,s,u=>(s,u)
 |t::r,a,s,u=>dh f r (a+be t) (fy f t a s u).1 (fy f t a s u).2
end
theorem uQ{m:Type}(f:m->Nat->T->List ah->m)(t:T)(a:Nat)(s:m)(ls:List ah) :
  fy f t a s ls=((dh f t.aw (a+1) (f s a t ls) ls).1,if t.n.aj=13 then(dh f t.aw (a+1) (f s a t ls) ls).2++[t.n.s]else(dh f t.aw (a+1) (f s a t ls) ls).2):=by
 cases t;rfl
def oI(l:List ah)(k:Nat):Bool:=match l[k]? with|some s=>(l.take k).contains s|none=>false
def uy(l:List ah):Bool:=(List.range l.length).any (oI l)
def ib(p:Src)(f:Fn)(t:T)(a:Nat):Int × Int :=
 if uy f.params=true then(21,0)else((fy (dn p) t a ⟨0,0,-1⟩ f.params).1.code,(fy (dn p) t a ⟨0,0,-1⟩ f.params).1.place)
def mu(l:List ah)(k:Nat):Bool:=match l[k]? with|some s=>iO s ||(l.take k).contains s|none=>false
def gh(l:List ah):Bool:=(List.range l.length).any (mu l)
def eK(l:List Ar):Int:=l.foldl (fun n a=>n+a.size) 0
def gS(p:Src):Bool:=p.aq.any (fun a=>a.size==0) ||((((decide (p.av.length>40) ||decide (p.au.length>29)) ||decide (eK p.aq>8000))) ||p.av.any fun f=>decide (f.params.length>40))
def nB(f:Fn):Bool:=f.name==lQ&&f.params.length==0
def ic(p:Src):List Fn->List T->Nat->Int × Int
 |f::r,t::l,a=>if(ib p f t a).1≠0 then ib p f t a else ic p r l (a+be t)
 |_,_,_=>(0,0)
def wI(p:Src)(l:List T):Int × Int :=
 if gh (bO p)=true then(21,0)else if gS p=true then(26,0)else if p.av.any nB=false then(25,0)else ic p p.av l 0
def fk(p:Src):Bool:=fI p&&(match kB p.ae p.av 0 []with|some (l,_)=>decide ((wI p l).1=0)|none=>false)
structure SS where
 ls:List ah
 code:Int
 at_:Int
def SS.fail(c:SS)(k a:Int):SS:=if c.code=0 then⟨c.ls,k,a⟩else c
def fA(c:SS)(n:Nd)(k want:Nat):SS:=if k≠want then c.fail 23 n.at_ else c
def gI(p:Src)(c:SS)(t:T):SS × Bool :=
 if t.n.s=lP then(fA c t.n t.aw.length 0,true)
 else if t.n.s=lR then(fA c t.n t.aw.length 1,true)
 else if t.n.s=ef then(fA (if t.aw.length=1/\gO p (la t) c.ls=true then c.fail 24 t.n.at_ else c) t.n t.aw.length 1,false)
 else match p.av.findIdx? (fun f:Fn=>f.name==t.n.s)with
  |none=>(c.fail 22 t.n.at_,false)
  |some i=>(fA c t.n t.aw.length (lg p i),true)
def kD(p:Src)(c:SS)(t:T):SS × Bool :=
 if t.n.aj=2\/t.n.aj=7 then(if c.ls.contains t.n.s=false/\p.au.contains t.n.s=false then c.fail 22 t.n.at_ else c,true)
 else if t.n.aj=3\/t.n.aj=8 then(if c.ls.contains t.n.s=true\/fi p t.n.s<0 then c.fail 24 t.n.at_ else c,true)
 else if t.n.aj=4 then gI p c t
 else(c,true)
def mK(c:SS)(n:Nd):SS :=
 if n.aj≠13 then c
 else if c.ls.contains n.s=true then⟨(c.fail 21 n.at_).ls++[n.s],(c.fail 21 n.at_).code,(c.fail 21 n.at_).at_⟩
 else if c.ls.length=40 then⟨(c.fail 26 n.at_).ls++[n.s],(c.fail 26 n.at_).code,(c.fail 26 n.at_).at_⟩
 else⟨c.ls++[n.s],c.code,c.at_⟩
mutual
def om(p:Src):T->SS->SS
 |.mk n l,c=>mK (if(kD p c (.mk n l)).2=true then kC p l (kD p c (.mk n l)).1 else(kD p c (.mk n l)).1) n
def kC(p:Src):List T->SS->SS
 |[],c=>c
 |t::r,c=>kC p r (om p t c)
end
theorem vb(p:Src)(t:T)(c:SS):om p t c=mK (if(kD p c t).2=true then kC p t.aw (kD p c t).1 else(kD p c t).1) t.n:=by cases t;rw[om];rfl
mutual
def sb:T->Prop
 |.mk n l=>n.aj≠13/\lE l
def lE:List T->Prop
 |[]=>True
 |t::r=>sb t/\lE r
end
mutual
def fS:T->Prop
 |.mk n l=>(n.aj=13->lE l)/\(n.aj=2->l=[])/\eH l
def eH:List T->Prop
 |[]=>True
 |t::r=>fS t/\eH r
end
mutual
def WI:∀t:T,sb (er t)↔sb t
 |.mk n l=>by rw[er,sb,sb,Ew l]
def Ew:∀l:List T,lE (br l)↔lE l
 |[]=>by rw[br]
 |t::r=>by rw[br,lE,lE,WI t,Ew r]
end
def RH{l:List T}:br l=[]↔l=[]:=by
 cases l with
 |nil=>rw[br]
 |cons t r=>rw[br];simp
mutual
theorem Q3:∀t:T,fS (er t)↔fS t
 |.mk n l=>by rw[er,fS,fS,Ew l,Ng l,RH]
theorem Ng:∀l:List T,eH (br l)↔eH l
 |[]=>by rw[br]
 |t::r=>by rw[br,eH,eH,Q3 t,Ng r]
end
mutual
def E.nv:∀a:E,sb a.tree
 |.num n=>by rw[E.tree,sb];exact⟨by simp,trivial⟩
 |.name s=>by rw[E.tree,sb];exact⟨by simp,trivial⟩
 |.at_ s a=>by rw[E.tree,sb,lE,lE];exact⟨by simp,E.nv a,trivial⟩
 |.call s l=>by rw[E.tree,sb];exact⟨by simp,E.X1 l⟩
 |.un s a=>by rw[E.tree,sb,lE,lE];exact⟨by simp,E.nv a,trivial⟩
 |.bin s a b=>by rw[E.tree,sb,lE,lE,lE];exact⟨by simp,E.nv a,E.nv b,trivial⟩
def E.X1:∀l:List E,lE (E.aL l)
 |[]=>trivial
 |a::l=>by rw[E.aL,lE];exact⟨E.nv a,E.X1 l⟩
end
mutual
theorem E.wf:∀a:E,fS a.tree
 |.num n=>zdS
 |.name s=>zdS
 |.at_ s a=>zcR
 |.call s l=>by rw[E.tree,fS];exact⟨fun h=>absurd h ze3,fun h=>absurd h ze3,E.CE l⟩
 |.un s a=>zcR
 |.bin s a b=>by rw[E.tree,fS,eH,eH,eH];exact⟨fun h=>absurd h ze3,fun h=>absurd h ze3,E.wf a,E.wf b,trivial⟩
theorem E.CE:∀l:List E,eH (E.aL l)
 |[]=>trivial
 |a::l=>by rw[E.aL,eH];exact⟨E.wf a,E.CE l⟩
end
mutual
theorem S.wf:∀a:S,fS a.tree
 |.set s a=>zdB
 |.put s a b=>zdB
 |.if1 c b=>zei
 |.if2 c b d=>zei
 |.while_ c b=>zei
 |.ret a=>zdB
 |.do_ a=>zdB
 |.var s a=>by simp[eH,lE,E.nv,trivial,E.wf,fS,S.tree]
theorem S.CE:∀l:List S,eH (S.aL l)
 |[]=>trivial
 |a::l=>by rw[S.aL,eH];exact⟨S.wf a,S.CE l⟩
end
theorem VF(l:List S):fS (cI l):=by
 grind[S.CE,fS,cI]
theorem SS.qF(c:SS)(k a:Int):(c.fail k a).ls=c.ls:=by grind[fail]
theorem wj(c:SS)(n:Nd)(k w:Nat):(fA c n k w).ls=c.ls:=by unfold fA;grind[SS.fail]
theorem vi(p:Src)(c:SS)(t:T):(kD p c t).1.ls=c.ls:=by
 unfold kD gI;split
 ·simp only;split;(· exact c.qF _ _);rfl
 split
 ·simp only;split;(· exact c.qF _ _);rfl
 split
 ·split
  ·grind[wj]
  split
  ·grind[wj]
  split
  ·simp only;rw[wj];split;(· exact c.qF _ _);rfl
  split
  ·exact c.qF _ _
  grind[wj]
 ·rfl
mutual
def WE(p:Src):∀(t:T),sb t->∀c,(om p t c).ls=c.ls
 |.mk n l,h,c=>by
  rw[sb]at h;rw[om,mK,ai h.1];split
  ·rw[Ep p l h.2,vi]
  grind[vi]
def Ep(p:Src):∀(l:List T),lE l->∀c,(kC p l c).ls=c.ls
 |[],_,c=>by rw[kC]
 |t::r,h,c=>by
  rw[lE]at h;rw[kC,Ep p r h.2,WE p t h.1]
end
theorem SS.AN{c:SS}(h:c.code≠0)(k a:Int):c.fail k a=c:=by grind[fail]
theorem SS.sD(c:SS){k:Int}(N:k≠0)(a:Int):(c.fail k a).code≠0:=by
 grind[fail]
def PK{c:SS}(h:c.code≠0)(n:Nd)(k w:Nat):fA c n k w=c:=by grind[SS.AN,fA]
def Sy(p:Src){c:SS}(h:c.code≠0)(t:T):(kD p c t).1=c:=by
 unfold kD gI;simp only[SS.AN h,PK h,ite_self]
 grind
theorem xW{c:SS}(h:c.code≠0)(n:Nd):(mK c n).code≠0:=by
 unfold mK
 grind[SS.AN]
mutual
theorem QH(p:Src):∀(t:T)(c:SS),c.code≠0->(om p t c).code≠0
 |.mk n l,c,h=>by
  rw[om];refine xW ?_ n;rw[Sy p h];split
  ·exact vc p l c h
  ·exact h
theorem vc(p:Src):∀(l:List T)(c:SS),c.code≠0->(kC p l c).code≠0
 |[],c,h=>by grind[kC]
 |t::r,c,h=>by rw[kC];exact vc p r _ (QH p t c h)
end
def Pv(p:Src){c:CS}(h:c.code≠0)(a:Nat)(t:T)(ls:List ah):dn p c a t ls=c:=by grind[dn]
mutual
theorem V8(p:Src):∀(t:T)(a:Nat)(c:CS)(ls:List ah),c.code≠0->(fy (dn p) t a c ls).1=c
 |.mk n l,a,c,ls,h=>by rw[fy,Pv p h];exact uS p l _ c ls h
theorem uS(p:Src):∀(l:List T)(a:Nat)(c:CS)(ls:List ah),c.code≠0->(dh (dn p) l a c ls).1=c
 |[],a,c,ls,h=>by rw[dh]
 |t::r,a,c,ls,h=>by
  have o:=V8 p t a c ls h;rw[dh,o];exact uS p r _ c _ h
end
def zn(a:Nat)(r:CS × List ah)(q:SS):Prop:=(r.1.code=0/\q.code=0/\r.2=q.ls/\r.1.skip<(a:Int)/\q.ls.length<=40)\/(r.1.code≠0/\q.code≠0)
def Pq(p:Src)(t:T)(XN:t.n.aj=13->lE t.aw)(Uy:∀k∈t.aw,k.n.aj=2->k.aw=[])
  (ih:∀(a:Nat)(r:CS)(q:SS),r.code=0->q.code=0->r.skip<(a:Int)->q.ls.length<=40->zn (a+aP t.aw) (dh (dn p) t.aw a r q.ls) (kC p t.aw q))
  (a:Nat)(r:CS)(q:SS)(hr:r.code=0)(Y:q.code=0)(hs:r.skip<(a:Int))(H:q.ls.length<=40):zn (a+be t) (fy (dn p) t a r q.ls) (om p t q):=by
 have Hm:¬(r.code≠0\/(a:Int)=r.skip):=by
  omega
 obtain⟨J,m⟩:∃J,dn p r a t q.ls=⟨bG p t q.ls,J,if b8 t=true then(if(la t).aj≠2 then -1 else((a+1:Nat):Int))else r.skip⟩:=by
  unfold dn;simp_all
 have rI:=fa t
 have e:∀x:SS,bG p t q.ls≠0->x.code≠0->zn (a+be t) (fy (dn p) t a r q.ls) x:=fun x N v=>by
  refine .inr ⟨?_,v⟩
  grind[uQ,uS]
 have go:bG p t q.ls=0->b8 t=false->t.n.aj≠13->kD p q t=(q,true)->zn (a+be t) (fy (dn p) t a r q.ls) (om p t q):=fun N v O h4=>by
  have:=ih (a+1) ⟨0,J,r.skip⟩ q rfl Y ze2 H;rw[uQ,vb,h4,m,N,v,ab O,mK,ai O]
  grind
 by_cases j:t.n.aj=13
 ·have X:=XN j
  have G:b8 t=false:=by grind[b8]
  have b:kD p q t=(q,true):=by grind[kD]
  have l:(kC p t.aw q).ls=q.ls:=Ep p t.aw X q
  have E:bG p t q.ls=if q.ls.contains t.n.s=true then 21 else if q.ls.length>=40 then 26 else 0:=by
   unfold bG;omega
  rw[vb,b];simp only[if_true]
  by_cases o:q.ls.contains t.n.s=true
  ·refine e _ ze2 ?_;rw[mK,ab aO,l,ai o]
   grind[SS.sD]
  by_cases Qe:q.ls.length>=40
  ·refine e _ aO ?_;rw[mK,ab aO,l,ab o,ai aO]
   grind[SS.sD]
  have M:bG p t q.ls=0:=by grind
  have:=ih (a+1) ⟨0,J,r.skip⟩ q rfl Y ze2 H;rw[mK,ab aO,l,ab o,ab aO,uQ,m,M,G,ai j];refine zbJ ?_;rw[show a+be t=a+1+aP t.aw by omega]
  rcases this with⟨k1,k2,k3,k4,k5⟩|⟨k1,k2⟩
  ·refine .inl ⟨k1,k2,?_,k4,?_⟩
   ·grind
   grind
  ·exact .inr ⟨k1,k2⟩
 by_cases v:t.n.aj=2\/t.n.aj=7
 ·have G:b8 t=false:=by
   grind[b8]
  by_cases o:q.ls.contains t.n.s=false/\p.au.contains t.n.s=false
  ·refine e _ (by grind[bG]) ?_
   have b:kD p q t=(q.fail 22 t.n.at_,true):=by grind[kD]
   rw[vb,b];refine xW ?_ t.n;simp[if_true,vc,SS.sD]
  simp_all[bG,ab,ai,kD]
 by_cases O:t.n.aj=3\/t.n.aj=8
 ·have G:b8 t=false:=by
   grind[b8]
  by_cases o:q.ls.contains t.n.s=true\/fi p t.n.s<0
  ·refine e _ (by grind[bG]) ?_
   have b:kD p q t=(q.fail 24 t.n.at_,true):=by grind[kD]
   rw[vb,b];refine xW ?_ t.n;simp[if_true,vc,SS.sD]
  simp_all[bG,ab,ai,kD]
 by_cases h4:t.n.aj=4
 ·have E:bG p t q.ls=dw p t q.ls:=by grind[bG]
  have b:kD p q t=gI p q t:=by grind[kD,gI]
  have u:∀x:SS × Bool,gI p q t=x->bG p t q.ls≠0->x.1.code≠0->zn (a+be t) (fy (dn p) t a r q.ls) (om p t q):=fun x hx N v=>by
   grind[vb,xW,vc]
  have aam:b8 t=((t.n.s==ef)&&(t.aw.length==1)):=by unfold b8;grind
  have d:∀w:Nat,t.n.s≠ef->jv p t.n.s=(w:Int)->gI p q t=(fA q t.n t.aw.length w,true)->zn (a+be t) (fy (dn p) t a r q.ls) (om p t q):=fun w e1 e2 e3=>by
   have G:b8 t=false:=by grind
   have Q:dw p t q.ls=if(w:Int)=(t.aw.length:Int)then 0 else 23:=by
    grind[dw]
   by_cases B:t.aw.length=w
   ·simp_all[ai,fA,ab]
   ·refine u _ e3 aO ?_;rw[fA,ai B]
    grind[SS.fail]
  by_cases hg:t.n.s=lP
  ·exact d 0 (by rw[hg];decide) (by grind[jv]) (by grind[gI])
  by_cases hp:t.n.s=lR
  ·exact d 1 (by rw[hp];decide) (by grind[jv]) (by grind[gI,fA,T.n,T.aw])
  by_cases G:t.n.s=ef
  ·have z:gI p q t=(fA (if t.aw.length=1/\gO p (la t) q.ls=true then q.fail 24 t.n.at_ else q) t.n t.aw.length 1,false):=by
    unfold gI
    grind
   by_cases B:t.aw.length=1
   ·have Lx:b8 t=true:=by grind
    have Q:dw p t q.ls=if gO p (la t) q.ls=true then 24 else 0:=by grind[dw]
    by_cases hb:gO p (la t) q.ls=true
    ·simp_all[ai,fA,ab,SS.sD]
    ·have A:gI p q t=(q,false):=by simp_all[ab,fA]
     rw[vb,b,A,mK,ai j];refine zbJ ?_
     have M:bG p t q.ls=0:=by grind
     obtain⟨k,W⟩:∃k,t.aw=[k]:=by
      match H:t.aw,B with
      |[k],_=>simp
     have R:la t=k.n:=by grind[la]
     have S:k.n.aj=2:=by
      grind[gO,Bool.or_eq_false_iff]
     have C:k.aw=[]:=Uy k ze2 S
     have hk1:be k=1:=by rw[fa,C,aP]
     have F:∀c:CS,((a+1:Nat):Int)=c.skip->dn p c (a+1) k q.ls=c:=fun c o=>by grind[dn]
     rw[uQ,m,M,Lx,ab j,W,R];simp only[if_true,dh];rw[uQ,C];simp only[dh];rw[ab aO,F _ rfl,ab aO];refine .inl ⟨rfl,Y,rfl,?_,H⟩
     grind[aP]
   ·have Z:b8 t=false:=by grind
    refine u _ z ?_ ?_
    ·rw[E];unfold dw;rw[Z,ab aD]
     grind[jv]
    ·rw[ab (fun h=>B h.1),fA,ai B]
     grind[SS.fail]
  have XD:jv p t.n.s=match p.av.findIdx? (fun f:Fn=>f.name==t.n.s)with|some i=>(lg p i:Int)|none => -1:=by
   unfold jv;grind
  have z:gI p q t=match p.av.findIdx? (fun f:Fn=>f.name==t.n.s)with|none=>(q.fail 22 t.n.at_,false)|some i=>(fA q t.n t.aw.length (lg p i),true):=by
   unfold gI
   grind
  cases hf:p.av.findIdx? (fun f:Fn=>f.name==t.n.s)with
  |some i =>
   grind
  |none =>
   simp_all[SS.sD,dw,ef,Bool.false_and,ab]
 simp_all[bG,ab,b8,kD]
def Fp:∀{l:List T},eH l->∀k∈l,fS k
 |[],_,k,N=>by cases N
 |t::r,h,k,N=>by
  rw[eH]at h
  rcases lp N with rfl|N
  ·exact h.1
  ·exact Fp h.2 k N
mutual
def Vk(p:Src):∀(t:T),fS t->∀(a:Nat)(r:CS)(q:SS),r.code=0->q.code=0->r.skip<(a:Int)->q.ls.length<=40->zn (a+be t) (fy (dn p) t a r q.ls) (om p t q)
 |.mk n l,o=>by
  rw[fS]at o;refine Pq p (.mk n l) o.1 (fun k N b=>?_) (Vj p l o.2.2);have:=Fp o.2.2 k N;have⟨m,j⟩:=k;rw[fS]at this;exact this.2.1 b
def Vj(p:Src):∀(l:List T),eH l->∀(a:Nat)(r:CS)(q:SS),r.code=0->q.code=0->r.skip<(a:Int)->q.ls.length<=40->zn (a+aP l) (dh (dn p) l a r q.ls) (kC p l q)
 |[],_,a,r,q,v,J,G,M=>by rw[dh,kC,aP];grind[zn]
 |t::l,m,a,r,q,v,J,G,M=>by
  rw[eH]at m;rw[dh,kC,aP]
  rcases Vk p t m.1 a r q v J G M with⟨R,O,S,w,d⟩|⟨R,O⟩
  ·rw[S];have:=Vj p l m.2 (a+be t) _ _ R O w d
   grind
  ·exact .inr ⟨by grind[uS],vc p l _ O⟩
end
def jq(c k:Int):Int:=if c=0 then k else c
def nt(a:Ar):Bool:=decide (a.size<1) ||decide (a.size>8000)
def kX(p:Src):Bool:=match p.av.findIdx? (fun f:Fn=>f.name==lQ)with|none=>true|some i=>decide (lg p i>0)
def ur(p:Src):Bool:=(decide (p.av.length>40) ||decide (p.au.length>29)) ||decide (eK p.aq>8000)
def qV(p:Src)(c:Int):Int :=
 if p.aq.any nt=true then jq c 26
 else if kX p=true then jq (if(p.av.any fun f=>decide (f.params.length>40))=true then jq (if ur p=true then jq c 26 else c) 26 else(if ur p=true then jq c 26 else c)) 25
 else if(p.av.any fun f=>decide (f.params.length>40))=true then jq (if ur p=true then jq c 26 else c) 26 else(if ur p=true then jq c 26 else c)
def qQ(f:Fn)(c:SS):SS:=⟨f.params,if uy f.params=true then jq c.code 21 else c.code,if uy f.params=true/\c.code=0 then 0 else c.at_⟩
def od(p:Src):List Fn->List T->SS->SS
 |f::r,t::l,c=>od p r l (if c.code=0 then om p t (qQ f c)else c)
 |_,_,c=>c
def Kx(p:Src)(l:List T):SS:=od p p.av l ⟨[],qV p (if gh (bO p)=true then 21 else 0),0⟩
def xF(p:Src):∀(v:List Fn)(l:List T)(c:SS),c.code≠0->(od p v l c).code≠0
 |f::r,t::l,c,h=>by rw[od,ab h];exact xF p r l c h
 |[],_,c,h=>by grind[od]
 |f::r,[],c,h=>by grind[od]
def TS(p:Src)(f:Fn)(t:T)(a:Nat)(c:SS)(l:fS t)(Y:c.code=0)(X:f.params.length<=40):(ib p f t a).1=0↔(om p t (qQ f c)).code=0:=by
 unfold ib
 by_cases W:uy f.params=true
 ·rw[ai W]
  have:(qQ f c).code≠0:=by unfold qQ;rw[ai W];unfold jq;grind
  grind[QH]
 ·rw[ab W]
  have J:(qQ f c).code=0:=by grind[qQ]
  have o:=Vk p t l a ⟨0,0,-1⟩ (qQ f c) rfl J ze2 X;show(fy (dn p) t a ⟨0,0,-1⟩ (qQ f c).ls).1.code=0↔_
  rcases o with⟨R,O,_⟩|⟨R,O⟩
  ·omega
  omega
theorem G7(p:Src):∀(v:List Fn)(l:List T)(a:Nat)(c:SS),c.code=0->(∀t∈l,fS t)->(∀f∈v,f.params.length<=40)->((ic p v l a).1=0↔(od p v l c).code=0)
 |f::r,t::l,a,c,W,m,X=>by
  have o:=TS p f t a c (m t mem_cons_self) W (X f mem_cons_self);rw[ic,od,ai W]
  by_cases h:(ib p f t a).1=0
  ·rw[ab aO];exact G7 p r l _ _ (o.1 h) (fun u M=>m u (eQ _ M)) (fun g Y=>X g (eQ _ Y))
  simp_all[ai,xF]
 |[],_,a,c,W,_,_=>by rw[ic,od];(· omega);all_goals(intros;simp_all)
 |f::r,[],a,c,W,_,_=>by rw[ic,od];(· omega);all_goals(intros;simp_all)
def cells_from(l:List Ar):∀n:Int,l.foldl (fun n a=>n+a.size) n=n+eK l:=by
 induction l with
 |nil=>grind[eK]
 |cons a l O =>
  grind[eK]
theorem I3(a:Ar)(l:List Ar):eK (a::l)=a.size+eK l:=by
 unfold eK;rw[List.foldl_cons,cells_from];grind[eK]
def NS{l:List Ar}(h:∀a∈l,0<=a.size):0<=eK l/\∀a∈l,a.size<=eK l:=by
 induction l with
 |nil=>simp[eK,Ar.size]
 |cons b l O =>
  grind[eQ,mem_cons_self,I3]
theorem FG{l:List ah}(h:gh l=false){i j:Nat}{s:ah}(hi:l[i]?=some s)(Y:l[j]?=some s):i=j:=by
 have R:∀x y:Nat,x<y->l[x]?=some s->l[y]?=some s->False:=fun x y o q b=>by
  have B:=(b6 b).1;unfold gh at h;rw[any_eq_false]at h;have:=h y (List.mem_range.2 B);unfold mu at this;rw[b]at this;simp only[Bool.or_eq_true,not_or]at this
  grind[rv,List.mem_take_iff_getElem,List.getElem?_eq_some_iff]
 grind
theorem yX{p:Src}(h:gh (bO p)=false):p.av.any nB=true↔kX p=false:=by
 have A:∀(i:Nat)f,p.av[i]?=some f->(bO p)[(p.au++dE p).length+i]?=some f.name:=fun i f l=>by
  unfold bO;rw[hO aO,Nat.add_sub_cancel_left,ez,dR,l];rfl
 unfold kX
 cases l:p.av.findIdx? (fun f:Fn=>f.name==lQ)with
 |none =>
  grind[nB]
 |some i =>
  rw[List.findIdx?_eq_some_iff_getElem]at l;have⟨k,o,b⟩:=l
  have H:p.av[i]?=some p.av[i]:=by simp[k]
  simp only[lg,H];constructor
  ·intro G;have⟨f,C,e⟩:=pz.1 G;have⟨j,Y⟩:=getElem?_of_mem C;unfold nB at e
   grind[FG]
  ·intro G;simp only[gt_iff_lt,decide_eq_false_iff_not,Nat.not_lt,Nat.le_zero]at G;exact pz.2 ⟨p.av[i],List.getElem_mem k,by grind[nB]⟩
def SR{p:Src}(ha:∀a∈p.aq,0<=a.size):(gS p=false/\kX p=false)↔qV p 0=0:=by
 have⟨v,X⟩:=NS ha;have W:jq 0 26=26:=rfl
 have E:∀c,c≠0->jq c 25=c:=fun c h=>by grind[jq]
 have Q:∀c,jq c 25≠0:=fun c=>by
  grind[jq]
 have q:∀c,jq c 26≠0:=fun c=>by
  grind[jq]
 unfold qV
 by_cases o:p.aq.any nt=true
 ·rw[ai o,W];refine⟨fun h=>?_,fun h=>by cases h⟩;have⟨a,b,G⟩:=pz.1 o;have C:=h.1;unfold gS at C;simp only[Bool.or_eq_false_iff,decide_eq_false_iff_not]at C;have e:=List.any_eq_false.1 C.1 a b;have r:=X a b;have O:=ha a b;unfold nt at G
  grind
 rw[ab o]
 have m:p.aq.any (fun a=>a.size==0)=false:=by
  rw[any_eq_false]
  grind[nt]
 have n:gS p=(ur p ||p.av.any fun f=>decide (f.params.length>40)):=by
  unfold gS ur;grind
 grind
def Tx{p:Src}{l:List T}(ha:∀a∈p.aq,0<=a.size)(m:∀t∈l,fS t):(wI p l).1=0↔(Kx p l).code=0:=by
 have ne:qV p 21≠0:=by
  simp[jq,ab,ite_self,qV]
 unfold wI Kx
 by_cases o:gh (bO p)=true
 ·simp_all[ai,xF]
 rw[ab o,ab o];have H:=SR ha
 by_cases b:qV p 0=0
 ·have⟨G,C⟩:=H.2 b;rw[ab ze2,ab (by grind[yX]),b]
  grind[G7,gS,Bool.or_eq_false_iff,any_eq_false]
 ·refine⟨fun h=>?_,fun h=>absurd h (xF p _ _ _ b)⟩;exfalso;apply b;apply H.1
  by_cases G:gS p=true
  ·grind
  ·rw[ab G]at h
   grind[yX]
mutual
def l6:T->List ah
 |.mk n l=>dF l++(if n.aj=13 then[n.s]else[])
def dF:List T->List ah
 |[]=>[]
 |t::r=>l6 t++dF r
end
theorem PF(t:T):l6 t=dF t.aw++(if t.n.aj=13 then[t.n.s]else[]):=by cases t;rfl
mutual
theorem uR{m:Type}(f:m->Nat->T->List ah->m):∀(t:T)(a:Nat)(s:m)(ls:List ah),(fy f t a s ls).2=ls++l6 t
 |.mk n l,a,s,ls=>by
  rw[fy,l6];simp only;rw[oc f l]
  grind
theorem oc{m:Type}(f:m->Nat->T->List ah->m):∀(l:List T)(a:Nat)(s:m)(ls:List ah),(dh f l a s ls).2=ls++dF l
 |[],a,s,ls=>by simp[ah,dh,dF]
 |t::r,a,s,ls=>by rw[dh,oc f r,uR f t,dF,gK]
end
mutual
def qz(p:Src):T->List ah->Prop
 |.mk n l,t=>bG p (.mk n l) t=0/\(b8 (.mk n l)=false->oU p l t)
def oU(p:Src):List T->List ah->Prop
 |[],_=>True
 |t::r,u=>qz p t u/\oU p r (u++l6 t)
end
mutual
def QK(p:Src):∀(t:T),fS t->∀(a:Nat)(r:CS)(ls:List ah),r.code=0->r.skip<(a:Int)->(fy (dn p) t a r ls).1.code=0->qz p t ls/\(fy (dn p) t a r ls).1.skip<((a+be t:Nat):Int)
 |.mk n l,q,a,r,ls,F,G,W=>by
  rw[fS]at q
  have A:¬(r.code≠0\/(a:Int)=r.skip):=by
   omega
  obtain⟨u,w⟩:∃u,dn p r a (.mk n l) ls=⟨bG p (.mk n l) ls,u,if b8 (.mk n l)=true then(if(la (.mk n l)).aj≠2 then -1 else((a+1:Nat):Int))else r.skip⟩:=by
   unfold dn;simp_all
  rw[fy]at W |-;simp only at W |-;rw[w]at W |-
  have z:bG p (.mk n l) ls=0:=by
   grind[uS]
  rw[z]at W |-
  by_cases o:b8 (.mk n l)=true
  ·have O:l.length=1:=by
    unfold b8 at o;simp only[aZ,beq_iff_eq]at o;exact o.2
   have E:n.aj=4/\n.s=ef:=by
    unfold b8 at o;simp only[aZ,beq_iff_eq]at o;exact o.1
   have B:gO p (la (.mk n l)) ls=false:=by
    have e:bG p (.mk n l) ls=dw p (.mk n l) ls:=by
     unfold bG;rw[ab ze5,ab ze5,ab ze5,ai ze5]
    simp_all[dw,ai]
   have d:(la (.mk n l)).aj=2:=by
    grind[gO,Bool.or_eq_false_iff]
   rw[ai o,ab (by rw[d];decide)]at W |-
   match l,O,q with
   |[k],_,q =>
    have M:k.n.aj=2:=d;rw[eH]at q
    have i:k.aw=[]:=by
     have:=q.2.2.1;have⟨m,j⟩:=k;rw[fS]at this;exact this.2.1 M
    have v:be k=1:=by rw[fa,i,aP]
    refine⟨by grind[qz],?_⟩;simp only[dh];rw[uQ,i];simp only[dh]
    have N:dn p ⟨0,u,((a+1:Nat):Int)⟩ (a+1) k ls=⟨0,u,((a+1:Nat):Int)⟩:=by simp[dn]
    rw[N,be,aP,aP,v];simp
  ·have C:b8 (.mk n l)=false:=by grind
   rw[ab o]at W |-;have h:=Mm p l q.2.2 (a+1) ⟨0,u,r.skip⟩ ls rfl ze2 W;refine⟨by grind[qz],?_⟩;rw[be,show a+(aP l+1)=a+1+aP l by omega];exact h.2
def Mm(p:Src):∀(l:List T),eH l->∀(a:Nat)(r:CS)(ls:List ah),r.code=0->r.skip<(a:Int)->(dh (dn p) l a r ls).1.code=0->oU p l ls/\(dh (dn p) l a r ls).1.skip<((a+aP l:Nat):Int)
 |[],_,a,r,ls,v,G,W=>by rw[dh,aP];grind[oU]
 |t::l,m,a,r,ls,v,G,W=>by
  rw[eH]at m;rw[dh]at W |-
  have o:(fy (dn p) t a r ls).1.code=0:=by
   grind[uS]
  have⟨b,H⟩:=QK p t m.1 a r ls v G o;have⟨C,e⟩:=Mm p l m.2 _ _ _ o H W;rw[uR]at C;rw[oU,aP,<-kA]
  grind
end
mutual
def zT:T->Prop
 |.mk n l=>(n.aj≠1->n.n=0)/\nG l
def nG:List T->Prop
 |[]=>True
 |t::r=>zT t/\nG r
end
mutual
theorem VM:∀t:T,zT (er t)↔zT t
 |.mk n l=>by rw[er,zT,zT,Q5 l]
theorem Q5:∀l:List T,nG (br l)↔nG l
 |[]=>by rw[br]
 |t::r=>by rw[br,nG,nG,VM t,Q5 r]
end
mutual
theorem E.z:∀a:E,zT a.tree
 |.num n=>by rw[E.tree,zT];exact⟨fun h=>absurd rfl h,trivial⟩
 |.name s=>by rw[E.tree,zT];exact⟨fun _=>rfl,trivial⟩
 |.at_ s a=>zeP
 |.call s l=>by rw[E.tree,zT];exact⟨fun _=>rfl,E.zs l⟩
 |.un s a=>zeP
 |.bin s a b=>by rw[E.tree,zT,nG,nG,nG];exact⟨fun _=>rfl,E.z a,E.z b,trivial⟩
theorem E.zs:∀l:List E,nG (E.aL l)
 |[]=>trivial
 |a::l=>by rw[E.aL,nG];exact⟨E.z a,E.zs l⟩
end
mutual
theorem S.z:∀a:S,zT a.tree
 |.set s a=>zcU
 |.put s a b=>zcU
 |.if1 c b=>zep
 |.if2 c b d=>zep
 |.while_ c b=>zep
 |.ret a=>zcU
 |.do_ a=>zcU
 |.var s a=>zcU
theorem S.zs:∀l:List S,nG (S.aL l)
 |[]=>trivial
 |a::l=>by rw[S.aL,nG];exact⟨S.z a,S.zs l⟩
end
theorem W4(l:List S):zT (cI l):=by grind[S.zs,zT,cI]
def Bq{p:Src}{t:T}{ls:List ah}(u:fS t)(o:bG p t ls=0)(N:t.n.aj=4)(G:t.n.s=ef):∃k,t.aw=[k]/\k.n.aj=2/\k.aw=[]/\0<=fi p k.n.s/\ls.contains k.n.s=false/\b8 t=true:=by
 have e:bG p t ls=dw p t ls:=by
  grind[bG,dw]
 rw[e]at o
 have v:jv p t.n.s=1:=by rw[G];rfl
 by_cases M:t.aw.length=1
 ·have q:b8 t=true:=by grind[b8]
  unfold dw at o;rw[ai q]at o
  have i:gO p (la t) ls=false:=by
   grind
  have⟨n,l⟩:=t
  match l,M with
  |[k],_ =>
   have r:gO p k.n ls=false:=i;unfold gO at r;simp only[Bool.or_eq_false_iff,bne_eq_false_iff_eq,decide_eq_false_iff_not,Int.not_lt]at r;rw[fS,eH]at u;refine⟨k,rfl,r.1.1,?_,r.1.2,r.2,q⟩;have:=u.2.2.1;have⟨m,j⟩:=k;rw[fS]at this;exact this.2.1 r.1.1
 ·have q:b8 t=false:=by grind[b8]
  grind[dw]
def Forms.wf{l:List T}{ls:List (List S)}(h:Forms l ls){i:Nat}{t:T}(M:l[i]?=some t):fS t/\zT t:=by
 have k:=(b6 M).1;have c:=h.len;have j:ls[i]?=some (ls[i]'aO):=cY _;have⟨_,b⟩:=h.at_ i t _ M j
 grind[Q3,VF,VM,W4]
def KX(p:Src):∀(v:List Fn)(l:List T)(a:Nat),(ic p v l a).1=0->∀(i:Nat)f t,v[i]?=some f->l[i]?=some t->∃b,(ib p f t b).1=0
 |f::r,t::l,a,h,0,g,u,o,c=>by
  grind[ic]
 |f::r,t::l,a,h,i+1,g,u,o,c=>by
  rw[ic]at h
  by_cases W:(ib p f t a).1=0
  ·rw[ab aO]at h;exact KX p r l _ h i g u ze2 ze2
  grind
 |[],_,a,h,i,g,u,o,c=>by simp at o
 |f::r,[],a,h,i,g,u,o,c=>by simp at c
structure Good(p:Src)(l:List T):Prop where
 st:cD p l
 test:fI p=true
 names:gh (bO p)=false
 len:p.av.length=l.length
 at_:∀(i:Nat)f t,p.av[i]?=some f->l[i]?=some t->qz p t f.params/\fS t/\zT t/\dr p.ae f.body.toNat t/\0<=f.body
def sE{p:Src}(h:fk p=true):∃l,Good p l:=by
 unfold fk at h;rw[aZ]at h;have⟨m,h⟩:=h;have⟨l,M⟩:=jH m;rw[M.r8]at h;simp only[decide_eq_true_eq]at h;have⟨u,k⟩:=M.CT
 have j:gh (bO p)=false:=by
  grind[wI]
 have o:(ic p p.av l 0).1=0:=by
  grind[wI]
 refine⟨l,M,m,j,eo.len M.av,fun i f t q c=>?_⟩;have⟨b,W⟩:=KX p _ _ _ o i f t q c;have⟨X,Y⟩:=k.wf c;unfold ib at W
 have T:¬uy f.params=true:=fun T=>by grind
 rw[ab T]at W;have r:=(b6 c).1;have⟨e,n⟩:=eo.at_ M.av i f t q c;have O:=cJ.ix l 0 i _ M.st c;rw[dy]at e O;refine⟨(QK p t X b ⟨0,0,-1⟩ f.params rfl ze2 W).1,X,Y,?_,by omega⟩
 grind
def MG(b:Int)(n:Nd):Nd:=⟨n.aj,n.at_,n.n,n.s,n.aw.map (·+b)⟩
def zK(b:Nat):∀(l:List T)(a:Nat),bm (a+b) l=(bm a l).map (·+(b:Int))
 |[],a=>rfl
 |t::l,a=>by
  rw[bm,bm,List.map_cons,<-zK b l (a+be t),show a+b+be t=a+be t+b by omega]
  congr 1
mutual
def N8(b:Nat):∀(t:T)(a:Nat),fR (a+b) t=(fR a t).map (MG (b:Int))
 |.mk n l,a=>by
  rw[fR,fR,List.map_cons,show a+b+1=a+1+b by omega,tQ b l (a+1),zK b l (a+1)];rfl
def tQ(b:Nat):∀(l:List T)(a:Nat),cv (a+b) l=(cv a l).map (MG (b:Int))
 |[],a=>by rfl
 |t::l,a=>by rw[cv,cv,jK,N8 b t a,show a+b+be t=a+be t+b by omega,tQ b l (a+be t)]
end
def kL:Src:=⟨[],[],[],[]⟩
open Go.Mn
def wz(l:List ah)(s:ah):Nat:=(bL (fun x=>x==s) l).toNat
def ss(p:Src)(s:ah):Int:=match p.aq[(fi p s).toNat]? with|some a=>a.size|none=>0
def r0(r:List R)(k:Nat):R:=match r[k]? with|some x=>x|none=>.num 0
def qj(p:Src)(n:Nd)(l:List T)(ls:List ah)(r:List R):R :=
 if n.aj=1 then .num n.n
 else if n.aj=2 then(if ls.contains n.s=true then .loc (wz ls n.s)else .glob (wz p.au n.s))
 else if n.aj=3 then .at_ (fi p n.s).toNat (r0 r 0)
 else if n.aj=4 then(if n.s=ef then .size (ss p (la (.mk n l)).s)else if n.s=lP then .get else if n.s=lR then .put (r0 r 0)else .call (jd p n.s).toNat r)
 else if n.aj=5 then .un n.s (r0 r 0)
 else if n.aj=6 then(if n.s=[38,38]then .and_ (r0 r 0) (r0 r 1)else if n.s=[124,124]then .or_ (r0 r 0) (r0 r 1)else .bin n.s (r0 r 0) (r0 r 1))
 else if n.aj=7 then(if ls.contains n.s=true then .setL (wz ls n.s) (r0 r 0)else .setG (wz p.au n.s) (r0 r 0))
 else if n.aj=8 then .putA (fi p n.s).toNat (r0 r 0) (r0 r 1)
 else if n.aj=9 then(if l.length=3 then .if2 (r0 r 0) (r0 r 1) (r0 r 2)else .if1 (r0 r 0) (r0 r 1))
 else if n.aj=10 then .while_ (r0 r 0) (r0 r 1)
 else if n.aj=11 then .ret (r0 r 0)
 else if n.aj=12 then .do_ (r0 r 0)
 else if n.aj=13 then .setL ls.length (r0 r 0)
 else .block r
mutual
def sc(p:Src):T->List ah->R
 |.mk n l,G=>qj p n l G (gY p l G)
def gY(p:Src):List T->List ah->List R
 |[],_=>[]
 |t::r,G=>sc p t G::gY p r (G++l6 t)
end
def mF(p:Src)(l:List T)(f:Nat):R:=match p.av[f]?,l[f]? with
 |some g,some t=>sc p t g.params
 |_,_=>.num 0
end Go.Im
namespace Go.Mn
structure Mo where
 g:Nat->Nat
 a:Nat->Nat
 f:Nat->Nat
mutual
def R.mp(μ:Mo):R->R
 |.num n=>.num n
 |.loc k=>.loc k
 |.glob k=>.glob (μ.g k)
 |.at_ k i=>.at_ (μ.a k) (i.mp μ)
 |.size n=>.size n
 |.get=>.get
 |.put a=>.put (a.mp μ)
 |.call f l=>.call (μ.f f) (R.wA μ l)
 |.un o a=>.un o (a.mp μ)
 |.bin o a b=>.bin o (a.mp μ) (b.mp μ)
 |.and_ a b=>.and_ (a.mp μ) (b.mp μ)
 |.or_ a b=>.or_ (a.mp μ) (b.mp μ)
 |.setL k a=>.setL k (a.mp μ)
 |.setG k a=>.setG (μ.g k) (a.mp μ)
 |.putA k i v=>.putA (μ.a k) (i.mp μ) (v.mp μ)
 |.if1 c t=>.if1 (c.mp μ) (t.mp μ)
 |.if2 c t e=>.if2 (c.mp μ) (t.mp μ) (e.mp μ)
 |.while_ c b=>.while_ (c.mp μ) (b.mp μ)
 |.ret a=>.ret (a.mp μ)
 |.do_ a=>.do_ (a.mp μ)
 |.block l=>.block (R.wA μ l)
def R.wA(μ:Mo):List R->List R
 |[]=>[]
 |r::l=>r.mp μ::R.wA μ l
end
structure Dm where
 g:Nat->Prop
 a:Nat->Prop
 f:Nat->Prop
mutual
def R.cl(aaU:Dm):R->Prop
 |.num n=>True
 |.loc k=>True
 |.glob k=>aaU.g k
 |.at_ k i=>aaU.a k/\i.cl aaU
 |.size n=>True
 |.get=>True
 |.put a=>a.cl aaU
 |.call f l=>aaU.f f/\R.cls aaU l
 |.un o a=>a.cl aaU
 |.bin o a b=>a.cl aaU/\b.cl aaU
 |.and_ a b=>a.cl aaU/\b.cl aaU
 |.or_ a b=>a.cl aaU/\b.cl aaU
 |.setL k a=>a.cl aaU
 |.setG k a=>aaU.g k/\a.cl aaU
 |.putA k i v=>aaU.a k/\i.cl aaU/\v.cl aaU
 |.if1 c t=>c.cl aaU/\t.cl aaU
 |.if2 c t e=>c.cl aaU/\t.cl aaU/\e.cl aaU
 |.while_ c b=>c.cl aaU/\b.cl aaU
 |.ret a=>a.cl aaU
 |.do_ a=>a.cl aaU
 |.block l=>R.cls aaU l
def R.cls(aaU:Dm):List R->Prop
 |[]=>True
 |r::l=>r.cl aaU/\R.cls aaU l
end
structure Em(μ:Mo)(aaU:Dm)(B B':Nat->R):Prop where
 g:∀i j,aaU.g i->aaU.g j->μ.g i=μ.g j->i=j
 a:∀i j,aaU.a i->aaU.a j->μ.a i=μ.a j->i=j
 f:∀i,aaU.f i->B' (μ.f i)=(B i).mp μ/\(B i).cl aaU
structure Li(μ:Mo)(aaU:Dm)(s t:M):Prop where
 inp:s.inp=t.inp
 out:s.out=t.out
 bd:s.bd=t.bd
 fin:s.fin=t.fin
 why:s.why=t.why
 aW:s.aW=t.aW
 locs:s.locs=t.locs
 left:s.left=t.left
 jV:s.jV=t.jV
 b7:∀k,aaU.g k->t.b7[μ.g k]?=s.b7[k]?
 cells:∀k,aaU.a k->t.cells[μ.a k]?=s.cells[k]?
section
variable{O:Op}{F:Nat}{B B':Nat->R}{μ:Mo}{aaU:Dm}
theorem Li.over{s t:M}(h:Li μ aaU s t):s.over=t.over:=by unfold M.over;rw[h.fin,h.left]
theorem Li.stop{s t:M}(h:Li μ aaU s t)(c w:Int):Li μ aaU (s.stop c w) (t.stop c w):=⟨h.inp,h.out,h.bd,rfl,rfl,h.aW,h.locs,h.left,h.jV,h.b7,h.cells⟩
theorem Li.row{s t:M}(h:Li μ aaU s t){k:Nat}(l:aaU.a k):row t (μ.a k)=row s k:=by
 unfold Mn.row;rw[getD_eq_getElem?_getD,getD_eq_getElem?_getD,h.cells k l]
def Ct{W:Type}{l m:List W}{f:Nat->Nat}{P:Nat->Prop}(h:∀k,P k->m[f k]?=l[k]?)(hi:∀i j,P i->P j->f i=f j->i=j){k:Nat}(n:P k)(x:W):∀j,P j->(m.set (f k) x)[f j]?=(l.set k x)[j]?:=by
 intro j G;rw[eR,eR]
 by_cases e:k=j
 ·subst e;rw[ai rfl,ai rfl];have:=h k n
  by_cases X:k<l.length
  ·rw[ai X]
   have:m[f k]?.isSome=true:=by rw[this,cY X];rfl
   rw[ai (by simpa using this)]
  ·rw[ab X];rw[List.getElem?_eq_none_iff.2 (show l.length<=k by omega)]at this;have v:=nQ this;rw[ab aO]
 ·rw[ab (fun u=>e (hi k j n G u)),ab e];exact h j G
def Sm(μ:Mo)(aaU:Dm){W:Type}(x Q:Option (W × M)):Prop:=(x=none/\Q=none)\/∃v t b,x=some (v,t)/\Q=some (v,b)/\Li μ aaU t b
def bT{W:Type}(v:W){s t:M}(h:Li μ aaU s t):Sm μ aaU (some (v,s)) (some (v,t)):=.inr ⟨v,s,t,rfl,rfl,h⟩
def eZ{W β:Type}{x Q:Option (W × M)}{k k':W->M->Option (β × M)}(hx:Sm μ aaU x Q)(l:∀v t b,Li μ aaU t b->Sm μ aaU (k v t) (k' v b)):Sm μ aaU (fT x k) (fT Q k'):=by
 rcases hx with⟨rfl,rfl⟩|⟨v,t,b,rfl,rfl,h⟩
 ·exact .inl ⟨rfl,rfl⟩
 ·exact l v t b h
def gH{X:Type}{s t:M}(h:Li μ aaU s t){a b C W:Option (X × M)}(ha:Sm μ aaU a C)(v:Sm μ aaU b W):Sm μ aaU (if s.over then a else b) (if t.over then C else W):=by
 rw[h.over];split
 ·exact ha
 ·exact v
def pd{X:Type}{c:Prop}[Decidable c]{a b C W:Option (X × M)}(ha:Sm μ aaU a C)(v:Sm μ aaU b W):Sm μ aaU (if c then a else b) (if c then C else W):=by
 split
 ·exact ha
 ·exact v
def P0(H:Em μ aaU B B'):∀g:Nat,(∀r s t,r.cl aaU->Li μ aaU s t->Sm μ aaU (ev O F B g r s) (ev O F B' g (r.mp μ) t))/\(∀r s t,r.cl aaU->Li μ aaU s t->Sm μ aaU (bY O F B g r s) (bY O F B' g (r.mp μ) t))/\(∀l J s t,R.cls aaU l->Li μ aaU s t->Sm μ aaU (nS O F B g l J s) (nS O F B' g (R.wA μ l) J t))/\(∀l s t,R.cls aaU l->Li μ aaU s t->Sm μ aaU (mT O F B g l s) (mT O F B' g (R.wA μ l) t))/\(∀c b s t,c.cl aaU->b.cl aaU->Li μ aaU s t->Sm μ aaU (pJ O F B g c b s) (pJ O F B' g (c.mp μ) (b.mp μ) t))
 |0=>⟨fun r s t _ _=>.inl ⟨by simp only[ev],by simp only[ev]⟩,fun r s t _ _=>.inl ⟨by simp only[bY],by simp only[bY]⟩,fun l J s t _ _=>.inl ⟨by simp only[nS],by simp only[nS]⟩,fun l s t _ _=>.inl ⟨by simp only[mT],by simp only[mT]⟩,fun c b s t _ _ _=>.inl ⟨by simp only[pJ],by simp only[pJ]⟩⟩
 |g+1=>by
  have⟨Q,N,E,S,W⟩:=P0 H g;refine⟨fun r s t z h=>?_,fun r s t z h=>?_,fun l J s t z h=>?_,fun l s t z h=>?_,fun c b s t z G h=>?_⟩
  ·rw[ev,ev,h.bd];exact pd (bT _ (h.stop _ _)) (N _ _ _ z ⟨h.inp,h.out,by show t.bd+1=t.bd+1;rfl,h.fin,h.why,h.aW,h.locs,h.left,h.jV,h.b7,h.cells⟩)
  ·cases r with
   |num n=>refine zdn ?_;exact bT _ h
   |loc k=>simp only[R.mp,bY,h.locs];exact bT _ h
   |glob k =>
    rw[R.cl]at z;simp only[R.mp,bY,getD_eq_getElem?_getD,h.b7 k z];exact bT _ h
   |size n=>refine zdn ?_;exact bT _ h
   |get =>
    refine zdn ?_;rw[h.inp]
    cases t.inp with
    |nil=>exact bT _ h
    |cons a r=>exact bT _ ⟨rfl,h.out,h.bd,h.fin,h.why,h.aW,h.locs,h.left,h.jV,h.b7,h.cells⟩
   |at_ k i =>
    rw[R.cl]at z;refine zdn ?_
    refine eZ (Q _ _ _ z.2 h) fun n u C q=>gH q (bT _ q) ?_
    rw[q.row z.1];exact pd (bT _ q) (bT _ (q.stop _ _))
   |put a =>
    rw[R.cl]at z;refine zdn ?_
    exact eZ (Q _ _ _ z h) fun n u C q=>gH q (bT _ q) (bT _ ⟨q.inp,by show u.out++_=C.out++_;rw[q.out],q.bd,q.fin,q.why,q.aW,q.locs,q.left,q.jV,q.b7,q.cells⟩)
   |call f l =>
    rw[R.cl]at z;refine zdn ?_
    refine eZ (E _ _ _ _ z.2 h) fun args u C q=>gH q (bT _ q) ?_
    rw[q.aW,(H.f f z.1).1];refine pd (bT _ (q.stop _ _)) ?_
    refine eZ (Q _ _ _ (H.f f z.1).2 ⟨q.inp,q.out,q.bd,q.fin,q.why,by show u.aW+1=C.aW+1;rw[q.aW],rfl,rfl,rfl,q.b7,q.cells⟩) fun _ w A T=>?_
    rw[T.jV];exact bT _ ⟨T.inp,T.out,T.bd,T.fin,T.why,by show w.aW-1=A.aW-1;rw[T.aW],q.locs,q.left,q.jV,T.b7,T.cells⟩
   |un o a =>
    rw[R.cl]at z;refine zdn ?_
    exact eZ (Q _ _ _ z h) fun n u C q=>bT _ q
   |bin o a b =>
    rw[R.cl]at z;refine zdn ?_
    exact eZ (Q _ _ _ z.1 h) fun n u C q=>gH q (bT _ q) (eZ (Q _ _ _ z.2 q) fun m w A T=>gH T (bT _ T) (pd (bT _ (T.stop _ _)) (bT _ T)))
   |and_ a b =>
    rw[R.cl]at z;refine zdn ?_
    exact zch
   |or_ a b =>
    rw[R.cl]at z;refine zdn ?_
    exact zch
   |setL k a =>
    rw[R.cl]at z;refine zdn ?_
    exact eZ (Q _ _ _ z h) fun n u C q=>gH q (bT _ q) (bT _ ⟨q.inp,q.out,q.bd,q.fin,q.why,q.aW,by show u.locs.set k n=C.locs.set k n;rw[q.locs],q.left,q.jV,q.b7,q.cells⟩)
   |setG k a =>
    rw[R.cl]at z;refine zdn ?_
    exact eZ (Q _ _ _ z.2 h) fun n u C q=>gH q (bT _ q) (bT _ ⟨q.inp,q.out,q.bd,q.fin,q.why,q.aW,q.locs,q.left,q.jV,Ct q.b7 H.g z.1 n,q.cells⟩)
   |putA k i v =>
    rw[R.cl]at z;refine zdn ?_
    refine eZ (Q _ _ _ z.2.1 h) fun n u C q=>gH q (bT _ q) ?_
    rw[q.row z.1];refine pd (eZ (Q _ _ _ z.2.2 q) fun m w A T=>gH T (bT _ T) ?_) (bT _ (q.stop _ _));unfold qk;rw[T.row z.1];exact bT _ ⟨T.inp,T.out,T.bd,T.fin,T.why,T.aW,T.locs,T.left,T.jV,T.b7,Ct T.cells H.a z.1 _⟩
   |if1 c b =>
    rw[R.cl]at z;refine zdn ?_
    exact eZ (Q _ _ _ z.1 h) fun n u C q=>gH q (bT _ q) (pd (eZ (Q _ _ _ z.2 q) fun m w A T=>bT _ T) (bT _ q))
   |if2 c b X =>
    rw[R.cl]at z;refine zdn ?_
    exact eZ (Q _ _ _ z.1 h) fun n u C q=>gH q (bT _ q) (pd (eZ (Q _ _ _ z.2.1 q) fun m w A T=>bT _ T) (eZ (Q _ _ _ z.2.2 q) fun m w A T=>bT _ T))
   |while_ c b =>
    rw[R.cl]at z;refine zdn ?_
    exact eZ (W _ _ _ _ z.1 z.2 h) fun _ u C q=>bT _ q
   |ret a =>
    rw[R.cl]at z;refine zdn ?_
    exact eZ (Q _ _ _ z h) fun n u C q=>gH q (bT _ q) (bT _ ⟨q.inp,q.out,q.bd,q.fin,q.why,q.aW,q.locs,rfl,rfl,q.b7,q.cells⟩)
   |do_ a =>
    rw[R.cl]at z;refine zdn ?_
    exact eZ (Q _ _ _ z h) fun n u C q=>bT _ q
   |block l =>
    rw[R.cl]at z;refine zdn ?_
    exact eZ (S _ _ _ z h) fun _ u C q=>bT _ q
  ·cases l with
   |nil=>simp only[R.wA,nS];exact bT _ h
   |cons r l =>
    rw[R.cls]at z;simp only[R.wA,nS]
    exact eZ (Q _ _ _ z.1 h) fun n u C q=>gH q (bT _ q) (E _ _ _ _ z.2 q)
  ·cases l with
   |nil=>simp only[R.wA,mT];exact bT _ h
   |cons r l =>
    rw[R.cls]at z;simp only[R.wA,mT]
    exact eZ (Q _ _ _ z.1 h) fun n u C q=>gH q (bT _ q) (S _ _ _ z.2 q)
  ·simp only[pJ]
   exact eZ (Q _ _ _ z h) fun n u C q=>gH q (bT _ q) (pd (bT _ q) (eZ (Q _ _ _ G q) fun m w A T=>gH T (bT _ T) (W _ _ _ _ z G T)))
end
end Go.Mn
namespace Go.Im
open Go.Xp Go.Sp Go.Mn
mutual
def Sn:∀t:T,sb t->l6 t=[]
 |.mk n l,h=>by
  rw[sb]at h;rw[l6,yZ l h.2,ab h.1];rfl
def yZ:∀l:List T,lE l->dF l=[]
 |[],_=>by rfl
 |t::r,h=>by
  rw[lE]at h;rw[dF,Sn t h.1,yZ r h.2];rfl
end
mutual
def Ml{p:Src}:∀(t:T)(ls:List ah),qz p t ls->fS t->ls.length<=40->(ls++l6 t).length<=40
 |.mk n l,ls,k,X,Y=>by
  rw[qz]at k;rw[fS]at X;rw[l6]
  by_cases e:n.aj=13
  ·rw[yZ l (X.1 e),ai e];have:=k.1;unfold bG at this;rw[ai (show(T.mk n l).n.aj=13 from e)]at this
   grind
  ·rw[ab e,gL]
   cases m:b8 (.mk n l)with
   |false=>exact Bb l ls (k.2 m) X.2.2 Y
   |true =>
    have s:=k.1;unfold bG dw at s;unfold b8 at m;simp only[aZ,beq_iff_eq,show(T.mk n l).n=n from rfl,show(T.mk n l).aw=l from rfl]at m
    match l,m.2,X with
    |[.mk W E],_,X =>
     rw[ab (show ¬(T.mk n [.mk W E]).n.aj=13 from e),ab (show ¬((T.mk n [.mk W E]).n.aj=2\/(T.mk n [.mk W E]).n.aj=7) by grind[T.n]),ab (show ¬((T.mk n [.mk W E]).n.aj=3\/(T.mk n [.mk W E]).n.aj=8) by grind[T.n]),ai (show(T.mk n [.mk W E]).n.aj=4 from m.1.1),ai (show b8 (.mk n [.mk W E])=true by grind[T.n,T.aw,b8])]at s
     have v:gO p (la (.mk n [.mk W E])) ls=false:=by
      grind
     unfold gO at v;simp only[Bool.or_eq_false_iff,bne_eq_false_iff_eq]at v;have o:W.aj=2:=v.1.1;have u:=X.2.2;rw[eH,fS]at u;have A:=u.1.2.1 o;subst A;rw[dF,dF,l6,dF,ab aO]
     grind
def Bb{p:Src}:∀(l:List T)(ls:List ah),oU p l ls->eH l->ls.length<=40->(ls++dF l).length<=40
 |[],ls,_,_,X=>by grind[dF]
 |t::r,ls,k,W,X=>by
  rw[oU]at k;rw[eH]at W;rw[dF,<-gK];exact Bb r _ k.2 W.2 (Ml t ls k.1 W.1 X)
end
end Go.Im
namespace Go.Mn
open Go.Xp (ah)
structure BK where
 g:Nat
 a:Nat
 f:Nat
 pc:Nat->Nat
mutual
def R.fit(aaT:BK):R->Prop
 |.num n=>True
 |.loc k=>k<40
 |.glob k=>k<aaT.g
 |.at_ k i=>k<aaT.a/\i.fit aaT
 |.size n=>True
 |.get=>True
 |.put a=>a.fit aaT
 |.call f l=>(f<aaT.f/\l.length=aaT.pc f)/\R.fits aaT l
 |.un o a=>a.fit aaT
 |.bin o a b=>a.fit aaT/\b.fit aaT
 |.and_ a b=>a.fit aaT/\b.fit aaT
 |.or_ a b=>a.fit aaT/\b.fit aaT
 |.setL k a=>k<40/\a.fit aaT
 |.setG k a=>k<aaT.g/\a.fit aaT
 |.putA k i v=>k<aaT.a/\i.fit aaT/\v.fit aaT
 |.if1 c t=>c.fit aaT/\t.fit aaT
 |.if2 c t e=>c.fit aaT/\t.fit aaT/\e.fit aaT
 |.while_ c b=>c.fit aaT/\b.fit aaT
 |.ret a=>a.fit aaT
 |.do_ a=>a.fit aaT
 |.block l=>R.fits aaT l
def R.fits(aaT:BK):List R->Prop
 |[]=>True
 |r::l=>r.fit aaT/\R.fits aaT l
end
theorem G5{aaT:BK}:∀{l:List R}{k:Nat}{r:R},R.fits aaT l->l[k]?=some r->r.fit aaT
 |[],k,r,_,h=>by simp at h
 |a::l,0,r,s,h=>by grind[R.fits]
 |a::l,k+1,r,s,h=>by rw[R.fits]at s;exact G5 s.2 ze8
open Go.Xp (bH)
def pV(n:Int):Prop := -2147483648<=n/\n<=2147483647
def mN(n:Int):pV (bH n):=by grind[pV,bH]
def oG(b:Bool):Int:=if b=true then 1 else 0
def IQ(a b:Int):Int:=bH (bH a+bH b)
def C4(a b:Int):Int:=bH (bH a-bH b)
def Jv(a b:Int):Int:=bH (bH a*bH b)
def xA(a b:Int):Int × Int:=if bH b=0 then(0,2)else if bH a = -2147483648/\bH b = -1 then(0,3)else((bH a).tdiv (bH b),0)
def CZ(a b:Int):Int × Int:=if bH b=0 then(0,2)else((bH a).tmod (bH b),0)
def mD(n:Int):Nat:=(n%4294967296).toNat
def kh(n:Int):mD n<4294967296:=by grind[mD]
def Mu(n:Int):((mD n:Nat):Int)=n%4294967296:=by grind[mD]
def wh(n:Int):Nat:=mD n%32
def n8(H:Nat)(a b:Int):Int:=match H with
 |1=>bH ((mD a &&& mD b:Nat):Int)
 |2=>bH ((mD a |||mD b:Nat):Int)
 |3=>bH ((mD a ^^^ mD b:Nat):Int)
 |4=>bH ((mD a*2^wh b:Nat):Int)
 |5=>(bH a).fdiv (2^wh b)
 |6=>bH ((mD a / 2^wh b:Nat):Int)
 |7=>bH ((mD a*2^wh b |||mD a / 2^(32-wh b):Nat):Int)
 |8=>bH ((mD a / 2^wh b |||mD a*2^(32-wh b):Nat):Int)
 |_=>0
def jc(H:Nat)(a b:Int):Bool:=match H with
 |1=>bH a==bH b
 |2=>bH a != bH b
 |3=>decide (bH a<bH b)
 |4=>decide (a%4294967296<b%4294967296)
 |5=>decide (bH b<bH a)
 |6=>decide (b%4294967296<a%4294967296)
 |7=>decide (bH a<=bH b)
 |8=>decide (a%4294967296<=b%4294967296)
 |9=>decide (bH b<=bH a)
 |10=>decide (b%4294967296<=a%4294967296)
 |_=>false
def TC(a b:Int):pV (xA a b).1:=by
 have z:=mN a;have A:=mN b;unfold xA;generalize bH a=x at *;generalize bH b=y at *;unfold pV at *;split
 ·simp
 split
 ·simp
 ·rename_i O v;simp only;have w:(x.tdiv y).natAbs=x.natAbs / y.natAbs:=Int.natAbs_tdiv x y
  by_cases o:y=1
  ·grind
  ·by_cases n:y = -1
   ·grind
   ·have Q:x.natAbs / y.natAbs<=x.natAbs / 2:=Nat.div_le_div_left aO aO;omega
def VD(o:ah)(a:Int):Int:=if o=[45]then C4 0 a else if o=[33]then oG (a==0)else n8 3 a (-1)
def qB(o:ah)(a b:Int):Int × Int :=
 if o=[47]then xA a b else if o=[37]then CZ a b
 else if o=[43]then(IQ a b,0)else if o=[45]then(C4 a b,0)else if o=[42]then(Jv a b,0)
 else if o=[61,61]then(oG (jc 1 a b),0)else if o=[33,61]then(oG (jc 2 a b),0)else if o=[60]then(oG (jc 3 a b),0)
 else if o=[62]then(oG (jc 5 a b),0)else if o=[60,61]then(oG (jc 7 a b),0)else if o=[62,61]then(oG (jc 9 a b),0)
 else if o=[38]then(n8 1 a b,0)else if o=[124]then(n8 2 a b,0)else if o=[94]then(n8 3 a b,0)else if o=[60,60]then(n8 4 a b,0)else if o=[62,62]then(n8 5 a b,0)
 else(0,0)
def oP:Op:=⟨VD,qB,bH,fun n=>n%4294967296%256⟩
end Go.Mn
namespace Go.Im
open Go.Xp Go.Sp Go.Mn
def rX(p:Src):BK:=⟨p.au.length,p.aq.length,p.av.length,lg p⟩
def qG{W:Type}{f:W->Bool}{l:List W}(h:0<=bL f l):(bL f l).toNat<l.length:=by
 grind[List.findIdx?_eq_some_iff_getElem,bL]
def zD{l:List ah}{s:ah}(h:l.contains s=true):wz l s<l.length:=by
 refine qG ?_
 grind[bL]
def qU(p:Src):∀(l:List T)(ls:List ah),(gY p l ls).length=l.length
 |[],ls=>by rfl
 |t::r,ls=>by rw[gY,length_cons,length_cons,qU p r]
def Vc{aaT:BK}{r:List R}(h:R.fits aaT r)(k:Nat):(r0 r k).fit aaT:=by
 grind[G5,R.fit,r0]
def SI{p:Src}{n:Nd}{l:List T}{ls:List ah}{r:List R}(k:bG p (.mk n l) ls=0)(d:ls.length<=40)(u:n.aj=4/\n.s=ef\/R.fits (rX p) r)(E:r.length=l.length):(qj p n l ls r).fit (rX p):=by
 by_cases c:n.aj=4/\n.s=ef
 ·grind[R.fit,rX,qj]
 ·have u:R.fits (rX p) r:=u.resolve_left c;have F:=Vc u;unfold bG at k;simp only[show(T.mk n l).n=n from rfl]at k;unfold qj
  by_cases O:n.aj=1
  ·rw[ai O,R.fit];trivial
  rw[ab O]
  by_cases w:n.aj=2
  ·rw[ai w];rw[ab (show ¬n.aj=13 by omega),ai (.inl w)]at k
   by_cases m:ls.contains n.s=true
   ·rw[ai m,R.fit];have:=zD m;omega
   ·rw[ab m,R.fit];refine zD ?_
    grind
  rw[ab w]
  by_cases z:n.aj=3
  ·rw[ai z];rw[ab (show ¬n.aj=13 by omega),ab (show ¬(n.aj=2\/n.aj=7) by omega),ai (.inl z)]at k;rw[R.fit];refine⟨qG ?_,F 0⟩
   simp_all[fi,ai,not_or]
  rw[ab z]
  by_cases Q:n.aj=4
  ·rw[ai Q];rw[ab (show ¬n.aj=13 by omega),ab (show ¬(n.aj=2\/n.aj=7) by omega),ab (show ¬(n.aj=3\/n.aj=8) by omega),ai Q]at k
   by_cases G:n.s=ef
   ·grind
   rw[ab G]
   by_cases B:n.s=lP
   ·rw[ai B,R.fit];trivial
   rw[ab B]
   by_cases C:n.s=lR
   ·rw[ai C,R.fit];exact F 0
   rw[ab C];unfold dw b8 at k;simp only[show(T.mk n l).n=n from rfl,show(T.mk n l).aw=l from rfl]at k;rw[ab (by simp[G])]at k
   have S:jv p n.s ≠ -1:=fun e=>by omega
   have o:jv p n.s=(l.length:Int):=by
    omega
   unfold jv at S o;rw[ab B,ab (by rintro(h|h);exact C h;exact G h)]at S o
   cases q:p.av.findIdx? (fun f:Fn=>f.name==n.s)with
   |none=>grind
   |some i =>
    rw[q]at o
    have b:jd p n.s=(i:Int):=by unfold jd bL;rw[q]
    rw[b,eV,R.fit];exact⟨⟨(List.findIdx?_eq_some_iff_getElem.1 q).1,by rw[E];show l.length=lg p i;grind⟩,u⟩
  rw[ab Q]
  by_cases Y:n.aj=5
  ·rw[ai Y,R.fit];exact F 0
  rw[ab Y]
  by_cases Z:n.aj=6
  ·rw[ai Z]
   by_cases H:n.s=[38,38]
   ·rw[ai H,R.fit];grind
   rw[ab H]
   by_cases J:n.s=[124,124]
   ·rw[ai J,R.fit];grind
   ·rw[ab J,R.fit];grind
  rw[ab Z]
  by_cases X:n.aj=7
  ·rw[ai X];rw[ab (show ¬n.aj=13 by omega),ai (.inr X)]at k
   by_cases m:ls.contains n.s=true
   ·rw[ai m,R.fit];have:=zD m;grind
   ·rw[ab m,R.fit];refine⟨zD ?_,F 0⟩
    grind
  rw[ab X]
  by_cases A:n.aj=8
  ·rw[ai A];rw[ab (show ¬n.aj=13 by omega),ab (show ¬(n.aj=2\/n.aj=7) by omega),ai (.inr A)]at k;rw[R.fit];refine⟨qG ?_,F 0,F 1⟩
   simp_all[fi,ai,not_or]
  rw[ab A]
  by_cases N:n.aj=9
  ·rw[ai N]
   grind[R.fit,rX,r0]
  rw[ab N]
  by_cases W:n.aj=10
  ·rw[ai W,R.fit];grind
  rw[ab W]
  by_cases v:n.aj=11
  ·rw[ai v,R.fit];exact F 0
  rw[ab v]
  by_cases t:n.aj=12
  ·rw[ai t,R.fit];exact F 0
  rw[ab t]
  by_cases j:n.aj=13
  ·rw[ai j]
   grind[R.fit]
  ·rw[ab j,R.fit];exact u
mutual
def MD{p:Src}:∀(t:T)(ls:List ah),qz p t ls->fS t->ls.length<=40->(sc p t ls).fit (rX p)
 |.mk n l,ls,k,W,X=>by
  rw[qz]at k;rw[fS]at W;rw[sc]
  cases m:b8 (.mk n l)with
  |false=>exact SI k.1 X (.inr (H2 l ls (k.2 m) W.2.2 X)) (qU p l ls)
  |true =>
   unfold b8 at m;simp only[aZ,beq_iff_eq,show(T.mk n l).n=n from rfl]at m
   grind[R.fit,rX,qj,gY]
def H2{p:Src}:∀(l:List T)(ls:List ah),oU p l ls->eH l->ls.length<=40->R.fits (rX p) (gY p l ls)
 |[],ls,_,_,_=>by rw[gY,R.fits];trivial
 |t::r,ls,k,W,X=>by
  rw[oU]at k;rw[eH]at W;rw[gY,R.fits];exact⟨MD t ls k.1 W.1 X,H2 r _ k.2 W.2 (Ml t ls k.1 W.1 X)⟩
end
end Go.Im
namespace Go.Im
open Go.Xp Go.Sp
def v8(n:Nd)(ls:List ah):Int:=if n.aj=13 then(ls.length:Int)else bL (fun x=>x==n.s) ls
def fZ(s:List Int)(a:Nat)(t:T)(ls:List ah):List Int:=s.set a (v8 t.n ls)
mutual
def sO(own:List Int):Nat->T->List ah->Prop
 |a,.mk n l,t=>own[a]?=some (v8 n t)/\rz own (a+1) l t
def rz(own:List Int):Nat->List T->List ah->Prop
 |_,[],_=>True
 |a,t::r,u=>sO own a t u/\rz own (a+be t) r (u++l6 t)
end
mutual
def sO.congr{o Y:List Int}:∀(t:T)(a:Nat)(ls:List ah),(∀j,a<=j->j<a+be t->Y[j]?=o[j]?)->sO o a t ls->sO Y a t ls
 |.mk n l,a,ls,e,h=>by
  rw[sO]at h |-;rw[be]at e;exact⟨by rw[e a (a8 _) aO];exact h.1,rz.congr l (a+1) ls (fun j q b=>e j aO aO) h.2⟩
def rz.congr{o Y:List Int}:∀(l:List T)(a:Nat)(ls:List ah),(∀j,a<=j->j<a+aP l->Y[j]?=o[j]?)->rz o a l ls->rz Y a l ls
 |[],a,ls,e,h=>by simp[rz]
 |t::r,a,ls,e,h=>by
  rw[rz]at h |-;rw[aP]at e;exact⟨sO.congr t a ls (fun j q b=>e j q aO) h.1,rz.congr r _ _ (fun j q b=>e j aO aO) h.2⟩
end
structure Tk(o o':List Int)(a n:Nat):Prop where
 len:o'.length=o.length
 out:∀j,j<a\/a+n<=j->o'[j]?=o[j]?
mutual
def KN:∀(t:T)(a:Nat)(s:List Int)(ls:List ah),a+be t<=s.length->Tk s (fy fZ t a s ls).1 a (be t)/\sO (fy fZ t a s ls).1 a t ls
 |.mk n l,a,s,ls,M=>by
  rw[be]at M;rw[fy];have e:fZ s a (.mk n l) ls=s.set a (v8 n ls):=rfl;rw[e];have⟨⟨o,b⟩,G⟩:=G3 l (a+1) (s.set a (v8 n ls)) ls ze2;rw[length_set]at o;refine⟨⟨o,fun j Y=>?_⟩,?_⟩
  ·grind[be,List.getElem?_set_ne]
  ·rw[sO]
   grind
def G3:∀(l:List T)(a:Nat)(s:List Int)(ls:List ah),a+aP l<=s.length->Tk s (dh fZ l a s ls).1 a (aP l)/\rz (dh fZ l a s ls).1 a l ls
 |[],a,s,ls,M=>by rw[dh,rz];exact⟨⟨rfl,fun _ _=>rfl⟩,trivial⟩
 |t::r,a,s,ls,M=>by
  rw[aP]at M;rw[dh,uR];have⟨⟨o,b⟩,G⟩:=KN t a s ls aO;generalize(fy fZ t a s ls).1=B at *;have⟨⟨C,e⟩,n⟩:=G3 r (a+be t) B (ls++l6 t) aO;generalize(dh fZ r (a+be t) B (ls++l6 t)).1=z at *;refine⟨⟨C.trans o,fun j Y=>?_⟩,?_⟩
  ·grind[aP]
  ·rw[rz];exact⟨G.congr t a ls (fun j O S=>e j aO),n⟩
end
def pD:List Go.Sp.Fn->List T->Nat->List Int->List Int
 |f::v,t::l,a,s=>pD v l (a+be t) (fy fZ t a s f.params).1
 |_,_,_,s=>s
def Bf:∀(v:List Go.Sp.Fn)(l:List T)(a:Nat)(s:List Int),a+aP l<=s.length->Tk s (pD v l a s) a (aP l)/\∀(i:Nat)f t,v[i]?=some f->l[i]?=some t->sO (pD v l a s) (a+aP (l.take i)) t f.params
 |[],l,a,s,h=>by
  have e:pD [] l a s=s:=by rfl
  rw[e];exact⟨⟨rfl,fun _ _=>rfl⟩,fun i f t h=>by simp at h⟩
 |f::v,[],a,s,h=>⟨⟨rfl,fun _ _=>rfl⟩,fun i f t _ h=>by simp at h⟩
 |f::v,t::l,a,s,h=>by
  rw[aP]at h;rw[pD];have⟨⟨o,b⟩,G⟩:=KN t a s f.params aO;generalize(fy fZ t a s f.params).1=B at *;have⟨⟨C,k⟩,n⟩:=Bf v l (a+be t) B aO;generalize pD v l (a+be t) B=z at *;refine⟨⟨C.trans o,fun j Y=>?_⟩,fun i g u X M=>?_⟩
  ·grind[aP]
  ·cases i with
   |zero =>
    cases X;cases M
    rw[List.take_zero,aP];exact G.congr t a f.params (fun j O S=>k j aO)
   |succ i =>
    grind[aP]
def rz.at_{own:List Int}:∀{l:List T}{a k:Nat}{t:T}{ls:List ah},rz own a l ls->l[k]?=some t->sO own (a+aP (l.take k)) t (ls++dF (l.take k))
 |[],a,k,t,ls,_,h=>by simp at h
 |u::l,a,0,t,ls,h,N=>by
  rw[rz]at h;cases N;rw[List.take_zero,aP,dF,gL];exact h.1
 |u::l,a,k+1,t,ls,h,N=>by
  rw[rz]at h;have:=rz.at_ h.2 (show l[k]?=some t by simpa using N);rw[List.take_succ_cons,aP,dF,show a+(be u+aP (l.take k))=a+be u+aP (l.take k) by omega,<-gK];exact this
open Go.Mn
def Vw(n:Nd):Prop:=(n.aj=1->0<=n.n/\n.n<=2147483647)/\(n.aj=5->n.s=[45]\/n.s=[33]\/n.s=[126])/\(n.aj=6->ga n.s=true)
theorem px{n:Nd}(O:n.aj≠1)(v:n.aj≠5)(w:n.aj≠6):Vw n:=⟨fun h=>absurd h O,fun h=>absurd h v,fun h=>absurd h w⟩
mutual
def kV:T->Prop
 |.mk n l=>Vw n/\fw l
def fw:List T->Prop
 |[]=>True
 |t::r=>kV t/\fw r
end
mutual
theorem QU:∀t:T,kV (er t)↔kV t
 |.mk n l=>by rw[er,kV,kV,MS l];rfl
theorem MS:∀l:List T,fw (br l)↔fw l
 |[]=>by rw[br]
 |t::r=>by rw[br,fw,fw,QU t,MS r]
end
mutual
theorem E.sx:∀a:E,a.ok=true->kV a.tree
 |.num n,h=>by
  rw[E.ok,aZ,decide_eq_true_eq,decide_eq_true_eq]at h;rw[E.tree,kV];exact⟨⟨fun _=>h,fun h=>absurd h ze3,fun h=>absurd h ze3⟩,trivial⟩
 |.name s,_=>by rw[E.tree,kV];exact⟨px ze3 ze3 ze3,trivial⟩
 |.at_ s a,h=>by rw[E.ok,aZ]at h;rw[E.tree,kV,fw,fw];exact zeq
 |.call s l,h=>by rw[E.ok,aZ]at h;rw[E.tree,kV];exact⟨px ze3 ze3 ze3,E.Cz l h.2⟩
 |.un s a,h=>by
  rw[E.ok,aZ]at h;rw[E.tree,kV,fw,fw];refine⟨⟨fun h=>absurd h ze3,fun _=>?_,fun h=>absurd h ze3⟩,E.sx a h.2,trivial⟩;have O:=h.1;simp only[Bool.or_eq_true,beq_iff_eq]at O
  rcases O with(O|O)|O
  ·exact .inl O
  ·exact .inr (.inl O)
  ·exact .inr (.inr O)
 |.bin s a b,h=>by
  rw[E.ok,aZ,aZ]at h;rw[E.tree,kV,fw,fw,fw];exact⟨⟨fun h=>absurd h ze3,fun h=>absurd h ze3,fun _=>h.1.1⟩,E.sx a h.1.2,E.sx b h.2,trivial⟩
theorem E.Cz:∀l:List E,E.du l=true->fw (E.aL l)
 |[],_=>trivial
 |a::l,h=>by rw[E.du,aZ]at h;rw[E.aL,fw];exact⟨E.sx a h.1,E.Cz l h.2⟩
end
mutual
theorem S.sx:∀a:S,a.ok=true->kV a.tree
 |.set s a,h=>by rw[S.ok,aZ]at h;exact zdd
 |.put s a b,h=>by rw[S.ok,aZ,aZ]at h;rw[S.tree,kV,fw,fw,fw];simp_all[px,E.sx,trivial]
 |.if1 c b,h=>zdG
 |.if2 c b d,h=>by rw[S.ok,aZ,aZ]at h;rw[S.tree,kV,fw,fw,fw,fw,kV,kV];simp_all[px,E.sx,S.Cz,trivial]
 |.while_ c b,h=>zdG
 |.ret a,h=>by rw[S.ok]at h;exact zdd
 |.do_ a,h=>by rw[S.ok]at h;exact zdd
 |.var s a,h=>by rw[S.ok,aZ]at h;rw[S.tree,kV,fw,fw];exact zeq
theorem S.Cz:∀l:List S,S.du l=true->fw (S.aL l)
 |[],_=>trivial
 |a::l,h=>by rw[S.du,aZ]at h;rw[S.aL,fw];exact⟨S.sx a h.1,S.Cz l h.2⟩
end
theorem Vx(l:List S)(h:S.du l=true):kV (cI l):=by grind[px,S.Cz,kV,cI]
def Good.sx{p:Src}{l:List T}(h:Good p l){i:Nat}{t:T}(o:l[i]?=some t):kV t:=by
 have⟨H,G⟩:=h.st.CT;have u:=(b6 o).1;have E:=G.len;have⟨O,v⟩:=G.at_ i t _ o (cY aO)
 grind[QU,Vx]
def Ih:∀{l:List T}{k:Nat}{t:T},fw l->l[k]?=some t->kV t
 |[],k,t,h,m=>by simp at m
 |a::l,0,t,h,m=>by grind[fw]
 |a::l,k+1,t,h,m=>by rw[fw]at h;exact Ih (l:=l) h.2 m
end Go.Im
namespace Go.Mn
structure eW where
 fin:Int
 why:Int
 n:Int
 out:List Int
 bd:Nat
 b7:List Int
def rZ(t:M):eW:=if t.fin=0 then⟨1,0,t.jV,t.out,t.bd,t.b7⟩else⟨t.fin,t.why,0,t.out,t.bd,t.b7⟩
def Dl:eW:=⟨4,0,0,[],0,[]⟩
section
variable{O:Op}{F:Nat}{B:Nat->R}
def JI(O:Op)(F:Nat)(B:Nat->R)(r:R)(s:M):M:=match ev O F B (3*F+1) r s with
 |some (_,t)=>t
 |none=>s
def xS(r:R)(s:M):∃v,ev O F B (3*F+1) r s=some (v,JI O F B r s):=by
 obtain⟨v,t,h,_⟩:=(VA (O:=O) (F:=F) (B:=B) F).e (3*F+1) r s aO (a8 _);exact⟨v,by unfold JI;rw[h]⟩
end
def Dq(k:Nat)(s t:M):Prop:=t.out.length+s.bd<=s.out.length+t.bd+k
theorem Dq.mono{a b:Nat}{s t:M}(h:Dq a s t)(v:a<=b):Dq b s t:=by grind[Dq]
def Dq.of{s t:M}(Q:t.out=s.out)(v:t.bd=s.bd):Dq 0 s t:=by grind[Dq]
section
variable{O:Op}{F:Nat}{B:Nat->R}
theorem ft{W β:Type}{a b c:Nat}{x:Option (W × M)}{k:W->M->Option (β × M)}{s:M}{y:β}{u:M}(l:a+b<=c)(hx:∀v t,x=some (v,t)->Dq a s t)(m:∀v t y u,k v t=some (y,u)->Dq b t u)(h:fT x k=some (y,u)):Dq c s u:=by
 have⟨v,t,Q,w⟩:=cV h
 grind[Dq]
theorem eN{W:Type}{c:Prop}[Decidable c]{k:Nat}{a b:Option (W × M)}{s:M}{y:W}{u:M}(ha:a=some (y,u)->Dq k s u)(v:b=some (y,u)->Dq k s u)(h:(if c then a else b)=some (y,u)):Dq k s u:=by
 grind
theorem GM{W:Type}{k:Nat}{v y:W}{s t u:M}(Q:t.out=s.out)(w:t.bd=s.bd)(h:some (v,t)=some (y,u)):Dq k s u:=by grind[Dq]
theorem PZ:∀g:Nat,(∀r s v t,ev O F B g r s=some (v,t)->Dq 0 s t)/\(∀r s v t,bY O F B g r s=some (v,t)->Dq 1 s t)/\(∀l H s v t,nS O F B g l H s=some (v,t)->Dq 0 s t)/\(∀l s v t,mT O F B g l s=some (v,t)->Dq 0 s t)/\(∀c b s v t,pJ O F B g c b s=some (v,t)->Dq 0 s t)
 |0=>⟨fun r s v t h=>(by grind[ev]),fun r s v t h=>(by grind[bY]),fun l H s v t h=>(by grind[nS]),fun l s v t h=>(by grind[mT]),fun c b s v t h=>(by grind[pJ])⟩
 |g+1=>by
  have⟨Q,E,z,R,W⟩:=PZ g
  have Z:∀{m:Type}{v y:m}{t u:M},some (v,t)=some (y,u)->Dq 0 t u:=fun h=>GM rfl rfl h
  have S:∀{m:Type}{v y:m}{t u:M}(c w:Int),some (v,t.stop c w)=some (y,u)->Dq 0 t u:=fun{_ _ _ t _}c w h=>GM (t:=t.stop c w) rfl rfl h
  refine⟨fun r s v t h=>?_,fun r s v t h=>?_,fun l H s v t h=>?_,fun l s v t h=>?_,fun c b s v t h=>?_⟩
  ·grind[ev,Dq]
  ·cases r with
   |num n=>grind[bY,Dq]
   |loc k=>grind[bY,Dq]
   |glob k=>grind[bY,Dq]
   |size n=>grind[bY,Dq]
   |get =>
    simp only[bY]at h
    grind[Dq]
   |at_ k i=>simp only[bY]at h;exact ft (a:=0) (b:=0) aO (Q _ _) (fun v t y u=>eN Z (eN Z (S _ _))) h
   |put a =>
    simp only[bY]at h;refine ft (a:=0) (b:=1) aO (Q _ _) (fun v t y u=>eN (fun h=>(Z h).mono aO) fun h=>?_) h
    grind[Dq]
   |call f l =>
    simp only[bY]at h;refine ft (a:=0) (b:=0) aO (z _ _ _) (fun v t y u=>eN Z (eN (S _ _) fun h=>?_)) h;have⟨w,x,C,N⟩:=cV h;cases N;have j:Dq 0 (t.enter v) x:=Q _ _ _ _ C;exact j
   |un o a=>exact zdP
   |bin o a b=>simp only[bY]at h;exact ft (a:=0) (b:=0) aO (Q _ _) (fun v t y u=>eN Z (ft (a:=0) (b:=0) aO (Q _ _) (fun v t y u=>eN Z (eN (S _ _) Z)))) h
   |and_ a b=>exact zb4
   |or_ a b=>exact zb4
   |setL k a=>exact zbn
   |setG k a=>exact zbn
   |putA k i v=>simp only[bY]at h;exact ft (a:=0) (b:=0) aO (Q _ _) (fun v t y u=>eN Z (eN (ft (a:=0) (b:=0) aO (Q _ _) (fun v t y u=>eN Z (fun h=>by cases h;exact Dq.of rfl rfl))) (S _ _))) h
   |if1 c b=>simp only[bY]at h;exact ft (a:=0) (b:=0) aO (Q _ _) (fun v t y u=>eN Z (eN (ft (a:=0) (b:=0) aO (Q _ _) (fun v t y u=>Z)) Z)) h
   |if2 c b A=>simp only[bY]at h;exact ft (a:=0) (b:=0) aO (Q _ _) (fun v t y u=>eN Z (eN (ft (a:=0) (b:=0) aO (Q _ _) (fun v t y u=>Z)) (ft (a:=0) (b:=0) aO (Q _ _) (fun v t y u=>Z)))) h
   |while_ c b=>simp only[bY]at h;exact ft (a:=0) (b:=0) aO (W _ _ _) (fun v t y u=>Z) h
   |ret a=>exact zbn
   |do_ a=>exact zdP
   |block l=>simp only[bY]at h;exact ft (a:=0) (b:=0) aO (R _ _) (fun v t y u=>Z) h
  ·cases l with
   |nil=>grind[nS]
   |cons r l=>simp only[nS]at h;exact ft (a:=0) (b:=0) aO (Q _ _) (fun v t y u=>eN Z (z _ _ _ _ _)) h
  ·cases l with
   |nil=>grind[mT]
   |cons r l=>simp only[mT]at h;exact ft (a:=0) (b:=0) aO (Q _ _) (fun v t y u=>eN Z (R _ _ _ _)) h
  ·simp only[pJ]at h;exact ft (a:=0) (b:=0) aO (Q _ _) (fun v t y u=>eN Z (eN Z (ft (a:=0) (b:=0) aO (Q _ _) (fun v t y u=>eN Z (W _ _ _ _ _))))) h
end
end Go.Mn
namespace Go.Im
open Go.Xp Go.Sp Go.Mn
def pe(p:Src)(S:List Int):M:=⟨S,[],List.replicate p.au.length 0,p.aq.map fun a=>List.replicate a.size.toNat 0,0,0,0,1,List.replicate 40 0,false,0⟩
def kE(A:Int):Nat:=(min (max A 0) 20000).toNat
def sj(p:Src)(l:List T)(S:List Int)(F:Nat):M:=JI oP F (mF p l) (mF p l (jd p lQ).toNat) (pe p S)
def lT(p:Src)(S:List Int)(A:Int):eW:=if fk p=true then(match kB p.ae p.av 0 []with|some (l,_)=>rZ (sj p l S (kE A))|none=>Dl)else Dl
def si{p:Src}{l:List T}(h:Good p l)(hg:fk p=true)(S:List Int)(A:Int):lT p S A=rZ (sj p l S (kE A)):=by
 unfold lT;rw[ai hg,h.st.r8]
structure nu(p:Src)(F:Nat)(s:M):Prop where
 b7:s.b7.length=p.au.length
 cells:s.cells.length=p.aq.length
 rows:∀(k:Nat)a,p.aq[k]?=some a->((row s k).length:Int)=a.size
 locs:40<=s.locs.length
 bd:s.bd<=F
 out:s.out.length<=s.bd
def nu.QR{p:Src}{F:Nat}{s t:M}(h:nu p F s)(q:Df s t)(Q:t.bd<=F)(v:Dq 0 s t):nu p F t :=
 ⟨q.b7.trans h.b7,q.cells.trans h.cells,fun k a z=>by rw[q.rows];exact h.rows k a z,by rw[q.locs];exact h.locs,Q,by have:=h.out;grind[Dq]⟩
theorem nu.ev{p:Src}{O:Op}{F:Nat}{B:Nat->R}{g:Nat}{r:R}{s t:M}{v:Int}(h:nu p F s)(T:ev O F B g r s=some (v,t)):nu p F t :=
 h.QR ((xD (Go.Mn.QR F) g).1 r s v t T) (((xD (ZM F) g).1 r s v t T).2 h.bd) ((PZ g).1 r s v t T)
theorem nu.next{p:Src}{F:Nat}{s:M}(h:nu p F s)(W:¬F<=s.bd):nu p F { s with bd:=s.bd+1 } :=
 ⟨h.b7,h.cells,h.rows,h.locs,by grind,by have:=h.out;grind⟩
theorem Df.ev{O:Op}{F:Nat}{B:Nat->R}{g:Nat}{r:R}{s t:M}{v:Int}(T:ev O F B g r s=some (v,t)):Df s t:=(xD (Go.Mn.QR F) g).1 r s v t T
end Go.Im
namespace Go.Sp
open Go.Xp
def RS.left(p:RS):Nat:=p.l.length-p.i
def Ed{k:Nat}{s:ah}(h:(levels.getD k []).contains s=true):s≠[]/\k<9/\s.length<=2:=by
 have N:k<9:=Nat.lt_of_not_le fun N=>by
  rw[getD_eq_getElem?_getD,List.getElem?_eq_none (show levels.length<=k from N)]at h;cases h
 have R:∀k:Fin 9,∀s∈levels.getD k.1 [],s≠[]/\s.length<=2:=by decide
 have⟨o,b⟩:=R ⟨k,N⟩ s (rv.1 h)
 grind
def mz{p q:RS}(h:p.to q):q.left<=p.left/\q.left+(q.i-p.i)=p.left/\p.i<=q.i:=by
 obtain⟨o,-,b,G⟩:=h
 grind[RS.left]
theorem uc(p:RS)(d:Nat):(p.aW d).left=p.left:=by
 grind[RS.fail,RS.left,RS.aW]
def pL{p:RS}(h:p.i<p.l.length):p.next.left+1=p.left:=by
 grind[RS.left,RS.next]
def sa:J->Nat
 |.expr _=>13
 |.level k _=>12-k
 |.loop _ _ _=>1
 |.operand _=>2
 |.named _ _ _=>1
def L7:∀(f:Nat),(∀j p,p.ok->(∀k d,j=.level k d->k<=9)->20*p.left+sa j<=f->∃t q,mE f j p=some (t,q))/\(∀d p,p.ok->20*p.left+14<=f->∃t q,mL f d p=some (t,q))/\(∀d T p,p.ok->20*p.left+1<=f->∃t q,pM f d T p=some (t,q))
 |0=>⟨fun j p _ O h=>by
   cases j with
   |level k d=>grind[sa]
   |_=>simp only[sa]at h;omega,fun d p _ h=>by omega,fun d T p _ h=>by omega⟩
 |f+1=>by
  have⟨o,b,H⟩:=L7 f;have⟨Z,n,r⟩:=rh f
  have i:∀j:J,(∀k d,j=.level k d->False)->∀k d,j=.level k d->k<=9:=fun j h k d e=>(h k d e).elim
  refine⟨fun j p W O h=>?_,fun d p W h=>?_,fun d T p W h=>?_⟩
  ·cases j with
   |expr d =>
    rw[mE];exact o _ _ ((iF W d).ok W) (fun k w e=>by grind) (by grind[uc,RS.left,RS.aW,sa])
   |level k d =>
    have R:=O k d rfl;rw[mE]
    by_cases Q:k=9
    ·simp_all[ai,sa]
    ·rw[ab Q];obtain⟨t,q,e⟩:=o (.level (k+1) d) p W (fun l w e=>by grind) (by grind[RS.left,sa]);rw[e];have M:=Z _ _ _ _ W e;exact o _ _ (M.ok W) (fun k w e=>by cases e) (by have:=mz M;grind[RS.left,sa])
   |loop k d out =>
    rw[mE]
    by_cases Y:p.code=0/\(levels.getD k []).contains (p.aJ 0)=true
    ·rw[ai Y];obtain⟨m,z,-⟩:=Ed Y.2;have N:=(dv (k:=0) rfl m).1;rw[Nat.add_zero]at N;rw[cY N];simp only;have c:=cR N;have S:=pL N
     obtain⟨t,q,e⟩:=o (.level (k+1) d) p.next (c.ok W) (fun l w e=>by grind) zfp
     rw[e];have M:=Z _ _ _ _ (c.ok W) e;exact o _ _ (M.ok (c.ok W)) (fun k w e=>by cases e) (by have:=mz M;simp only[sa]at h |-;omega)
    simp_all[ab]
   |operand d =>
    rw[mE];have X:=(iF W d).ok W;have u:=uc p d;rw[<-u]at h;generalize p.aW d=p at *
    try simp only
    split
    ·split
     ·simp
     ·rename_i t M;have N:=(b6 M).1;have c:=cR N;have S:=pL N;split
      ·simp
      ·split
       ·exact o _ _ ((eU X).ok X) (fun k w e=>by cases e) (by have:=mz (eU X);simp only[sa]at h |-;omega)
       ·split
        ·obtain⟨t,q,e⟩:=o (.operand (d+1)) p.next (c.ok X) (fun k w e=>by cases e) zfp
         grind
        ·split
         ·obtain⟨t,q,e⟩:=o (.expr (d+1)) p.next (c.ok X) (fun k w e=>by cases e) zfp
          grind
         simp
    simp
   |named a s d =>
    rw[mE];split
    ·rename_i G;have N:=(dv G aD).1;rw[Nat.add_zero]at N;have c:=cR N;have S:=pL N
     obtain⟨t,q,e⟩:=o (.expr (d+1)) p.next (c.ok W) (fun k w e=>by cases e) zfp
     grind
    ·split
     ·rename_i G;have N:=(dv G aD).1;rw[Nat.add_zero]at N;have c:=cR N;have S:=pL N
      have⟨t,q,e⟩:=b (d+1) p.next (c.ok W) aO
      simp_all
     simp
  ·rw[mL];split
   ·simp
   ·obtain⟨t,q,e⟩:=o (.expr d) p W (fun k w e=>by cases e) zfp;rw[e];have M:=Z _ _ _ _ W e;exact H _ _ _ (M.ok W) (by have:=mz M;omega)
  ·rw[pM];split
   ·rename_i G;have N:=(dv G aD).1;rw[Nat.add_zero]at N;have c:=cR N;have S:=pL N
    obtain⟨t,q,e⟩:=o (.expr d) p.next (c.ok W) (fun k w e=>by cases e) zfp
    rw[e];have M:=Z _ _ _ _ (c.ok W) e;exact H _ _ _ (M.ok (c.ok W)) (by have:=mz M;omega)
   simp
def u0{p:RS}(W:p.ok)(d:Nat):∃t q,mX d p=some (t,q):=by
 unfold mX;refine(L7 _).1 _ _ W (fun k w e=>by cases e) ?_
 grind[RS.left,sa,fe]
def qM{p:RS}{s:ah}(G:s≠[])(h:(p.ba s).code=0):p.ba s=p.next/\p.code=0/\p.i<p.l.length:=by
 unfold RS.ba at h |-
 by_cases e:p.aJ 0=s
 ·rw[ai e];have:=dv e G
  grind
 ·rw[ab e]at h;exfalso
  grind[RS.fail]
def Kz{f d:Nat}{a:Int}{p q:RS}{t:T}(W:p.ok)(N:p.i<p.l.length)(h:mS f (.cond a d) p=some (t,q))(X:q.code=0):p.i+1<=q.i:=by
 have:=(pr f).1 _ _ _ _ W (fun a w _=>N) h
 cases f with
 |zero=>simp[mS]at h
 |succ f =>
  rw[mS]at h;have c:=cR N;have o:=c.trans (bU (c.ok W) (s:=[40]) aD)
  have u:p.next.i=p.i+1:=rfl
  try simp only at h
  split at h
  ·cases h
  ·rename_i e v n;have j:=(bU (c.ok W) (s:=[40]) aD).trans (fY (o.ok W) n);have S:=j.trans (bU ((c.trans j).ok W) (s:=[41]) aD);split at h
   ·cases h
   ·rename_i b Y m;have O:=S.trans ((pr f).1 _ _ _ _ ((c.trans S).ok W) (fun a w h=>by cases h) m);split at h
    ·rename_i G;have k:=O.trans (dW G.2 aD);split at h
     ·cases h
     ·rename_i r z Q;cases h;have:=(k.trans ((pr f).1 _ _ _ _ ((c.trans k).ok W) (fun a w h=>by cases h) Q)).2.2.2;omega
    ·cases h;have:=O.2.2.2;omega
def MQ{f d:Nat}{p q:RS}{t:T}(Y:p.ok)(h:mS f (.stmt d) p=some (t,q))(W:q.code=0):p.i+1<=q.i:=by
 cases f with
 |zero=>simp[mS]at h
 |succ f =>
  rw[mS]at h;have X:=iF Y d;have G:=X.ok Y;have l:=X.2.2.2;refine jC (Nat.add_le_add_right l 1) ?_;generalize p.aW d=k at *
  try simp only at h
  have last:∀(M:RS),k.to M->(M.ba [59]).code=0->k.i+1<=(M.ba [59]).i:=fun M J W=>by
   obtain⟨e,-,-⟩:=qM aD W;rw[e];have:=J.2.2.2
   grind[RS.next]
  split at h
  ·rename_i H;have c:=dW H aD;have z:=c.trans (eU (c.ok G));have R:=z.trans (bU (z.ok G) (s:=[61]) aD);split at h
   ·cases h
   ·rename_i e M j
    cases h;exact last _ (R.trans (fY (R.ok G) j)) W
  ·split at h
   ·rename_i H;refine Kz G ?_ h W
    rcases H with H|H
    ·exact(dv H aD).1
    ·exact(dv H aD).1
   ·split at h
    ·rename_i H;have c:=dW H aD;split at h
     ·cases h
     ·rename_i e M j
      cases h;exact last _ (c.trans (fY (c.ok G) j)) W
    ·split at h
     ·have z:=eU G;have R:=z.trans (bU (z.ok G) (s:=[61]) aD);split at h
      ·cases h
      ·rename_i e M j
       cases h;exact last _ (R.trans (fY (R.ok G) j)) W
     ·split at h
      ·cases h
      ·rename_i e M j;have hx:=fY G j;split at h
       ·rename_i H;have c:=hx.trans (dW H.2.2 aD);split at h
        ·rename_i a r v Z N o
         cases h;exact last _ (c.trans (fY (c.ok G) o)) W
        ·cases h
       grind
def ud:∀(f:Nat)(j:J)(p q:RS)(t:T),(∀k d out,j=.loop k d out->out.n.aj=3->out.aw≠[])->mE f j p=some (t,q)->t.n.aj=3->t.aw≠[]
 |0,j,p,q,t,_,h,_=>by simp[mE]at h
 |f+1,j,p,q,t,A,h,G=>by
  cases j with
  |expr d=>rw[mE]at h;exact zc9
  |level k d =>
   rw[mE]at h;split at h
   ·exact zc9
   ·split at h
    ·cases h
    ·rename_i out M i;exact ud f _ _ _ _ (fun k d o e=>by cases e;exact ud f _ _ _ _ (fun k d o e=>by cases e) i) h G
  |loop k d out =>
   rw[mE]at h;split at h
   ·split at h
    ·cases h
    ·split at h
     ·cases h
     ·exact ud f _ _ _ _ (fun k d o e r=>by cases e;cases r) h G
   grind
  |operand d =>
   rw[mE]at h;generalize p.aW d=p at *
   try simp only at h
   split at h
   ·split at h
    ·cases h;cases G
    ·split at h
     ·cases h;cases G
     ·split at h
      ·exact zc9
      ·split at h
       ·split at h
        ·cases h
        ·cases h;cases G
       ·split at h
        ·split at h
         ·cases h
         ·rename_i a M i;cases h;exact ud f _ _ _ _ (fun k d o e=>by cases e) i G
        ·cases h;cases G
   ·cases h;cases G
  |named a s d =>
   rw[mE]at h;split at h
   ·split at h
    ·cases h
    ·cases h;simp[T.aw,one]
   ·split at h
    ·split at h
     ·cases h
     ·cases h;cases G
    ·cases h;cases G
def L8:∀(f:Nat),(∀d p,p.ok->5*p.left+4<=f->∃t q,mS f (.block d) p=some (t,q))/\(∀d p,p.ok->5*p.left+2<=f->∃t q,mS f (.stmt d) p=some (t,q))/\(∀a d p,p.ok->p.i<p.l.length->5*p.left+1<=f->∃t q,mS f (.cond a d) p=some (t,q)) /\
  (∀d v p,p.ok->5*p.left+3<=f->∃t q,mB f d v p=some (t,q))
 |0=>⟨fun d p _ h=>by omega,fun d p _ h=>by omega,fun a d p _ _ h=>by omega,fun d v p _ h=>by omega⟩
 |f+1=>by
  have⟨G,S,T,H⟩:=L8 f;refine⟨fun d p c h=>?_,fun d p c h=>?_,fun a d p c C h=>?_,fun d v p c h=>?_⟩
  ·rw[mS];have j:=(iF c d).ok c;rw[<-uc p d]at h;generalize p.aW d=p at *
   try simp only
   have w:=bU j (s:=[123]) aD;obtain⟨t,q,e⟩:=H (d+1) [] (p.ba [123]) (w.ok j) (by have:=mz w;omega)
   simp_all
  ·rw[mS];have j:=(iF c d).ok c;rw[<-uc p d]at h;generalize p.aW d=p at *
   try simp only
   split
   ·rename_i m;have u:=dW m aD;have n:=u.trans (eU (u.ok j));have A:=n.trans (bU (n.ok j) (s:=[61]) aD);have⟨t,q,e⟩:=u0 (A.ok j) (d+1)
    grind
   ·split
    ·rename_i m;refine T _ _ _ j ?_ aO
     rcases m with m|m
     ·exact(dv m aD).1
     ·exact(dv m aD).1
    ·split
     ·rename_i m;have u:=dW m aD;have⟨t,q,e⟩:=u0 (u.ok j) (d+1)
      grind
     ·split
      ·have n:=eU j;have A:=n.trans (bU (n.ok j) (s:=[61]) aD);have⟨t,q,e⟩:=u0 (A.ok j) (d+1)
       grind
      ·have⟨t,q,e⟩:=u0 j (d+1);rw[e];have hx:=fY j e;simp only;split
       ·rename_i m;have u:=hx.trans (dW m.2.2 aD);have⟨t2,O,R⟩:=u0 (u.ok j) (d+1);rw[R];have Y:=ud _ _ _ _ _ (fun k d o e=>by cases e) e m.1
        cases hk:t.aw with
        |nil=>grind
        |cons a r=>simp
       simp
  ·rw[mS];have u:=cR C;have X:=pL C;have w:=u.trans (bU (u.ok c) (s:=[40]) aD);have⟨e,q,E⟩:=u0 (w.ok c) (d+1);rw[E];simp only;have hx:=w.trans (fY (w.ok c) E);have z:=hx.trans (bU (hx.ok c) (s:=[41]) aD)
   have hq:(q.ba [41]).left+1<=p.left:=by
    have a1:=mz (bU (u.ok c) (s:=[40]) aD);have Z:=mz (fY (w.ok c) E);have a3:=mz (bU (hx.ok c) (s:=[41]) aD);omega
   have⟨b,O,J⟩:=G (d+1) (q.ba [41]) (z.ok c) aO;rw[J];simp only;have B:=(pr f).1 _ _ _ _ (z.ok c) (fun a Q h=>by cases h) J;split
   ·rename_i m;have F:=(z.trans B).trans (dW m.2 aD)
    obtain⟨b2,q3,W⟩:=G (d+1) O.next (F.ok c) (by
     have a1:=mz B
     grind[RS.left,RS.next])
    grind
   simp
  ·rw[mB];split
   ·have⟨a,q,e⟩:=S d p c aO;rw[e];simp only;have N:=(pr f).1 _ _ _ _ c (fun a Q h=>by cases h) e
    by_cases M:q.code=0
    ·have:=MQ c e M;refine H _ _ _ (N.ok c) ?_;have:=mz N;omega
    ·cases f with
     |zero=>omega
     |succ f =>
      rw[mB,ab (fun h=>M h.1)];simp
   simp
end Go.Sp
