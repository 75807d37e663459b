/- Part 10 of proofs that are told in their last texts. -/
import Derived.Test.YtfmnfhpifpjljaaGreatDoorZ9
open List (length_replicate take_succ_cons take_zero)
set_option linter.unusedVariables false
set_option linter.unusedSimpArgs false
set_option linter.defProp false
set_option maxRecDepth 100000
set_option maxHeartbeats 8000000
namespace Go
def zaw{A B:Prop}(h:B)(s:PLift B->A:=by intro hQ;refine GW.seq ?_;refine GW.region ?_;refine GL.wA rfl rfl ?_;refine zaf ?_;exact hQ.1):A:=s ⟨h⟩
def zdi{A B:Prop}(h:B)(s:PLift B->A:=by intro hQ;refine Z ?_;refine I [] N ?_;refine I [] t ?_;refine I [] S ?_;refine GL.q (YG.neB (by kernel_rfl) rfl rfl) ?_;refine Z ?_;exact hQ.1):A:=s ⟨h⟩
end Go
namespace Go.Im
open Go.Xp Go.Sp Go.Mn
def DY:∀(d:List Go.Sp.Fn)(l:List T)(k:Nat)(f:Go.Sp.Fn)(t:T)(a:Nat)(s:List Int),d[k]?=some f->l[k]?=some t->pX (d.take (k+1)) (l.take (k+1)) a s=(fq fU t (a+aR (l.take k)) (pX (d.take k) (l.take k) a s) f.params).1
 |[],l,k,f,t,a,s,h,_=>by simp at h
 |g::d,[],k,f,t,a,s,_,h=>by simp at h
 |g::d,u::l,0,f,t,a,s,M,v=>by
  cases M;cases v
  rw[take_succ_cons,take_succ_cons,take_zero,take_zero,pX,take_zero,take_zero,aR];rfl
 |g::d,u::l,k+1,f,t,a,s,M,v=>by
  rw[take_succ_cons,take_succ_cons,pX,DY d l k f t _ _ zfc zfq,take_succ_cons,take_succ_cons,pX,aR,nD]
def LN(p:Src)(l:List T):List Int:=pX p.ak l 0 (List.replicate p.ah.length 0)
def U8{p:Src}{l:List T}(h:Good p l):∀(i:Nat)f t,p.ak[i]?=some f->l[i]?=some t->tw (LN p l) f.body.toNat t f.params:=fun i f t s o=>by
 have v:=(h.st.ak.at_ i f t s o).1;have V:=h.st.len;have:=(Cx p.ak l 0 (List.replicate p.ah.length 0) (by rw[length_replicate];omega)).2 i f t s o;rw[v,dC];exact this
def Pq{p:Src}{l:List T}(h:Good p l)(Q:List Int)(F:Nat):nG p F ((⟨Q,[],List.replicate p.ax.length 0,p.aq.map fun a=>List.replicate a.size.toNat 0,0,0,0,0,[],false,0⟩:M).enter []):=by
 refine⟨length_replicate,bC _,fun k a z=>?_,aQ _,bg _,aQ _⟩;have:=fa.1 h.st.aq a (bB z);unfold nZ at this;simp only[aU,Bool.not_eq_true',decide_eq_false_iff_not]at this;unfold row M.enter;rw[List.getD_eq_getElem?_getD,bO,z];show((List.replicate a.size.toNat (0:Int)).length:Int)=a.size;rw[length_replicate];omega
end Go.Im
namespace Go.Xg
open Go.RowKit Go.Xw Go.Proofs Tryz Go.Im Go.Mn
open GV (U)
open Go.Xp (T aR)
open Go.Sp (Src)
attribute [local irreducible] GW GL GO YG GC GA bh bn
def An(n:Nat):List.replicate n (gB [ii 0])=cm (List.replicate n 0):=by
 unfold cm;rw[List.map_replicate];rfl
def Eo(p:Src)(R:cM p<=1048576){l:List T}(hg:Go.Im.Good p l)(r:cw p=true) :
  GC prog 103 [.agg (aD p)] [] fun g J=>∃a c,g=.v (.slice a p.ah.length c)/\J=[.vech 3 1 (cm (LN p l)) (.slice a p.ah.length c)]:=by
 have⟨⟨a1,N⟩,⟨H,G⟩,⟨L,B⟩,⟨O,q⟩⟩:=et p;have d:(p.ah.map aP).length=p.ah.length:=bC _;have F:(p.ak.map aH).length=p.ak.length:=bC _;have E:=hg.len;have C:=hg.st.len
 have e:∀k,(pX (p.ak.take k) (l.take k) 0 (List.replicate p.ah.length 0)).length=p.ah.length:=fun k=>by
  have Q:=Go.Xp.rS l k;have:=(Cx (p.ak.take k) (l.take k) 0 (List.replicate p.ah.length 0) (by rw[length_replicate];omega)).1.len;rw[this,length_replicate]
 refine dT func103 ntmps103 ?_;refine zaw ?_;refine GL.XN (n:=(p.ah.map aP).length) rfl ⟨by omega,by omega⟩ ?_;intro m W;rw[d,An];refine zaJ ?_;refine GW.range (p.ak.map aH).length (fun k w A=>w=[U,.box (aD p) 0,U,.loc 1 0,U,U,U,U,U,U,.sl 3 (p.ak.map aH),y4 ((p.ak.map aH).length:Int),y4 (k:Nat),U,U,U,U,U,U,U,U]/\A=[.vech 3 1 (cm (pX (p.ak.take k) (l.take k) 0 (List.replicate p.ah.length 0))) (.slice m p.ah.length W),.box 29 [.v (.slice m p.ah.length W)]]) ?_ X ?_ ?_ ?_
 ·exact jw
 ·rintro k _ _⟨rfl,rfl⟩;exact dN
 ·rintro k _ _ M⟨rfl,rfl⟩;rw[F]at M;have s:p.ak[k]?=some p.ak[k]:=cq M;have o:l[k]?=some (l[k]'X):=cq X;have t:=hg.fn s o;have z:=(hg.st.ak.at_ k _ _ s o).1;rw[DY p.ak l k _ _ 0 _ s o];have V:=Ul p m W 29 k _ _ (pX (p.ak.take k) (l.take k) 0 (List.replicate p.ah.length 0)) X (fun n h=>by have:=(q n h).2;omega) s (by have:=(B _ (bB s)).2.1;omega) t.body t.st (by have:=t.sz;omega) (e k)
  have b:(p.ak[k]).body.toNat=0+aR (l.take k):=by rw[z,dC]
  rw[b]at V;unfold G9 at V;refine Z ?_;refine I [1,0] V ?_;exact za0
 ·rintro _ _⟨rfl,rfl⟩;rw[F,dx,E,dx];refine bl ?_;refine zcS ?_;refine SN [0] [_] rfl c8 rfl rfl aN (fun j x hx=>?_) ⟨m,W,rfl,rfl⟩
  cases j with
  |zero=>cases hx;exact⟨rfl,fun i u=>by cases u;rfl⟩
  |succ j=>simp at hx
def Yd(r:ja):am:=[y4 r.fin,y4 r.why,y4 r.n,ints r.out,y4 (r.a7:Nat),ints r.cN]
def mR(p:Src)(own:List Int)(F:Nat)(H:MH)(s:M)(r:ja):ap:=[.box 64 [strs p.ax,.sl 2 (p.aq.map bb),.sl 3 (p.ak.map aH),.sl 5 (p.ah.map aP),ints own,ints s.inp,y4 (F:Nat),
 y4 r.fin,y4 r.why,y4 r.n,.vec 1 r.out.length,y4 (r.a7:Nat),.v (.slice H.ag r.cN.length H.cg),.v (.slice H.ac s.cells.length H.cc),y4 (s.aX:Nat)],.vec 3 1 0 (cm r.out),.vec 3 1 (cm own).length (cm own),.vech 3 1 (cm r.cN) (.slice H.ag r.cN.length H.cg),qv H s,r6 H s]
def Y8(p:Src)(Q:List Int)(F:Nat)(c w:Int):GF prog 102 [.loc 0 0,y4 c,y4 w] [.box 64 [strs p.ax,.sl 2 (p.aq.map bb),.sl 3 (p.ak.map aH),.sl 5 (p.ah.map aP),.v y6,ints Q,y4 (F:Nat),y4 0,y4 0,y4 0,.v y6,y4 0,.v y6,.v y6,y4 0]] (y4 0)
  [.box 64 [strs p.ax,.sl 2 (p.aq.map bb),.sl 3 (p.ak.map aH),.sl 5 (p.ah.map aP),.v y6,ints Q,y4 (F:Nat),y4 c,y4 w,y4 0,.v y6,y4 0,.v y6,.v y6,y4 0]]:=by
 refine aj func102 ntmps102 ?_;exact aw
def E9(A:Int):(if(20000:Int)<(if A<0 then 0 else A)then 20000 else(if A<0 then 0 else A))=((lR A:Nat):Int):=by
 unfold lR;omega
def Rs(p:Src)(R:cM p<=1048576)(hn:jZ p)(c:cw p=false)(Q:List Int)(A:Int):GF prog 37 [.agg (aD p),ints Q,y4 A] [] (.loc 0 0)
  [.box 64 [strs p.ax,.sl 2 (p.aq.map bb),.sl 3 (p.ak.map aH),.sl 5 (p.ah.map aP),.v y6,ints Q,y4 (lR A:Nat),y4 4,y4 0,y4 0,.v y6,y4 0,.v y6,.v y6,y4 0]]:=by
 have t:=Ce p R hn;rw[c]at t;have V:=Y8 p Q (lR A) 4 0;have s:=E9 A;refine dT func37 ntmps37 ?_;refine zaw ?_;refine GL.q (YG.max rfl rfl) ?_;refine bm ?_;refine GL.q (YG.min rfl rfl) ?_;rw[s];refine zaf ?_;refine I [] t ?_;refine I [0] V ?_;refine iY ?_;exact kD (n:=1) rfl c8 rfl (bg _) rfl rfl ⟨rfl,rfl⟩
def iK(p:Src):List (List Int):=p.aq.map fun a=>List.replicate a.size.toNat 0
def Hx{S β c:Type}(f:S->β->c)(l:List S)(m:List β)(a:S)(b:β)(h:l.length=m.length):List.zipWith f (l++[a]) (m++[b])=List.zipWith f l m++[f a b]:=by
 rw[List.zipWith_append h];rfl
def TX(l:List (List Int))(m:List (Nat × Nat)):∀x∈List.zipWith uy l m,x.JD:=fun x hx=>by
 have⟨i,t⟩:=List.getElem?_of_mem hx;rw[List.getElem?_zipWith]at t
 cases M:l[i]? with
 |none=>rw[M]at t;cases t
 |some a =>
  cases v:m[i]? with
  |none=>rw[M,v]at t;cases t
  |some b =>
   rw[M,v]at t;cases t;intro r s g B;obtain⟨y,_,rfl⟩:=uY.1 s;rw[Ay B];exact⟨_,rfl⟩
def OL(p:Src)(hw:cM p<=1048576)(hn:jZ p)(Q:cw p=true){l:List T}(hg:Go.Im.Good p l)(d:List Int)(e:Int):GC prog 37 [.agg (aD p),ints d,y4 e] [] fun g Δ=>g=.loc 0 0/\∃(H:MH)(s:M),Δ=mR p (LN p l) (lR e) H s (xb (oU p l d (lR e))):=by
 have⟨⟨a1,a2⟩,⟨b1,b2⟩,⟨c1,c2⟩,⟨d1,d2⟩⟩:=et p;have hG:=Ce p hw hn;rw[Q]at hG;have A:=E9 e
 have hF:lR e<=20000:=by unfold lR;omega
 generalize hFe:lR e=F at *;have hNL:=Eo p hw hg Q;have Lm:=U8 hg;generalize hOe:LN p l=own at *;have FK:(p.ax.map fun s=>[GV.v (sv s)]).length=p.ax.length:=bC _;have V:(p.aq.map bb).length=p.aq.length:=bC _;have L:=tM p eU X;have e1:bM (fun x:Go.Sp.Fn=>x.name==eU) p.ak=bF p eU:=rfl;rw[e1]at L;have⟨i,f,t,C,w,W9⟩:=Dr Q hg;rw[C]at L;have hrb:qY p l i=sf p t f.params:=Gv w.gf w.gt;refine dT func37 ntmps37 ?_;refine zaw ?_;refine GL.q (YG.max rfl rfl) ?_;refine bm ?_;refine GL.q (YG.min rfl rfl) ?_;rw[A];refine zaf ?_;refine I [] hG ?_;refine GL.wk (Wk.Ge (i:=0) (o:=10) 3 1 rfl rfl) ?_;refine ct ?_;refine bx [] hNL ?_;rintro _ _⟨ao,co,rfl,rfl⟩;refine zao ?_;refine GL.wk (Wk.pL (i:=0) (o:=4) (j:=2) rfl rfl rfl rfl) ?_;refine ct ?_;refine GL.XN (n:=(p.ax.map fun s=>[GV.v (sv s)]).length) rfl ⟨by omega,by omega⟩ ?_;intro ag cg;rw[FK,An];refine zaJ ?_;refine GW.wk (Wk.jO 29 1) ?_;simp only[List.cons_append,List.nil_append]
 refine GW.range (p.aq.map bb).length (fun k fr Γ=>∃(E:Option Addr)(G:Nat)(r:List (Nat × Nat)),r.length=k/\fr=U::U::U::.box (aD p) 0::U::U::U::.loc 0 0::zU 30 (.sl 2 (p.aq.map bb)::y4 ((p.aq.map bb).length:Int)::y4 (k:Nat)::zU 34 []) /\
  Γ=.box 64 [strs p.ax,.sl 2 (p.aq.map bb),.sl 3 (p.ak.map aH),.sl 5 (p.ah.map aP),ints own,ints d,y4 (F:Nat),y4 0,y4 0,y4 0,.vec 1 0,y4 0,.v (.slice ag p.ax.length cg),.v (.slice E k G),y4 0]::.vec 3 1 0 []::.vec 3 1 (cm own).length (cm own)::.vech 3 1 (cm (List.replicate p.ax.length 0)) (.slice ag p.ax.length cg) ::
   .vech 29 1 (List.zipWith uF ((iK p).take k) r) (.slice E k G)::List.zipWith uy ((iK p).take k) r) ?_ X ?_ ?_ ?_
 ·exact⟨_,_,Wk.aW az,none,0,[],rfl,rfl,rfl⟩
 ·rintro k _ _⟨E,G,r,-,rfl,rfl⟩;exact dN
 ·rintro k _ _ hk⟨E,G,r,z,rfl,rfl⟩;rw[V]at hk;have AR:p.aq[k]?=some p.aq[k]:=cq hk;have pf:=BS hg AR;have hra:=vX AR;obtain⟨m,hm⟩:∃m:Nat,(p.aq[k]).size=(m:Int):=⟨(p.aq[k]).size.toNat,by omega⟩;unfold bb at hra;rw[hm]at hra pf
  have NQ:(iK p).take (k+1)=(iK p).take k++[List.replicate m 0]:=by
   rw[dc]
   congr 1
   unfold iK;rw[bO,AR,Option.map_some,hm,dC];rfl
  have A:((iK p).take k).length=r.length:=by
   rw[kr,z];unfold iK;rw[bC];omega
  have hz1:=fun b c=>Hx uF ((iK p).take k) r (List.replicate m 0) (b,c) A
  have hz2:=fun b c=>Hx uy ((iK p).take k) r (List.replicate m 0) (b,c) A
  have hzl:(List.zipWith uF ((iK p).take k) r).length=k:=by rw[uW,A,Nat.min_self];exact z
  generalize List.zipWith uF ((iK p).take k) r=R at *;generalize List.zipWith uy ((iK p).take k) r=ab7 at *
  have vF:m<=2147483647:=by omega
  refine CP ?_;refine GL.XS rfl rfl rfl rfl rfl rfl rfl ?_;refine zaf ?_;refine aS (aK 0 7 (.a 7 (.a 8 (.a 9 (.q 10 (.q 11 (.a 12 .nil))))))) ?_;refine av ?_;refine OA rfl rfl ?_;refine GL.abh (n:=m) rfl ⟨by omega,by omega⟩ ?_;intro b c;rw[An];refine zcp ?_;refine zar ?_;refine OA rfl rfl (GL.mx 4 (news:=[[.v (.slice (some ⟨b,0,none⟩) m c)]]) rfl rfl rfl aO rfl rfl (by refine⟨?_,?_⟩;(· show _+1<=_;omega);(· show(_+1)*_<=_;omega)) ?_);intro ac2 cc2;refine zaX ?_;refine⟨rfl,rfl,_,_,Wk.aW az,ac2,cc2,r++[(b,c)],by simp[z],rfl,?_⟩;rw[NQ,hz1,hz2];unfold uF uy FI;simp only[length_replicate,hzl];rfl
 ·rintro _ _⟨E,G,r,z,rfl,rfl⟩;rw[V]at z |-;have NQ:(iK p).take p.aq.length=iK p:=kK (by unfold iK;rw[bC];exact aQ _);rw[NQ];have aaM:(iK p).length=p.aq.length:=bC _;refine bl ?_;refine GW.wk ((Wk.pack [.box 64 [strs p.ax,.sl 2 (p.aq.map bb),.sl 3 (p.ak.map aH),.sl 5 (p.ah.map aP),ints own,ints d,y4 (F:Nat),y4 0,y4 0,y4 0,.vec 1 0,y4 0,.v (.slice ag p.ax.length cg),.v (.slice E p.aq.length G),y4 0],.vec 3 1 0 [],.vec 3 1 (cm own).length (cm own),.vech 3 1 (cm (List.replicate p.ax.length 0)) (.slice ag p.ax.length cg),.vech 29 1 (List.zipWith uF (iK p) r) (.slice E p.aq.length G)] (List.zipWith uy (iK p) r) rfl (bg _) (TX _ _) rfl).trans (Wk.aW (de:=U::U::U::.box (aD p) 0::U::U::U::.loc 0 0::zU 67 []) az)) ?_;refine GW.wk (Wk.jO 3 1) ?_;simp only[List.cons_append,List.nil_append]
  let H:MH:=⟨ag,cg,E,G,r⟩
  have W:MW p l own F H:=⟨hw,Q,hg,Lm,hF,z⟩
  let J:M:=⟨d,[],List.replicate p.ax.length 0,iK p,0,0,0,0,[],false,0⟩
  have⟨v,N⟩:=J7 (O:=qX) (F:=F) (B:=qY p l) (qY p l i) (qL p d)
  have QO:Gz qX F (qY p l) (qY p l i) (qL p d)=oU p l d F:=by unfold oU;rw[C,dC]
  rw[QO]at N;have W6:nG p F (qL p d):=Pq hg d F;have hmt:=W6.ev N;have Jv:=EV.ev N;generalize oU p l d F=u at *
  have hdo:=fun al cl=>aaj W (3*F+1) f.body.toNat t f.params (qL p d) v u (SK W w.gf w.gt).1 W6 rfl (by rw[<-hrb];exact N) al cl
  have hC:Az p own F H i [] J (J.leave u) u.b6:=IL w.gf w.body (by show 0<100;omega) (bg _) Jv.aX hdo;have hC:=hC none 0;have hgz:J.cN.length=p.ax.length:=length_replicate;have WT:J.cells.length=p.aq.length:=aaM;have S:=AL p own F H (J.leave u) 1 0;unfold mC at hC
  have hbx:dD p own F H J=.box 64 [strs p.ax,.sl 2 (p.aq.map bb),.sl 3 (p.ak.map aH),.sl 5 (p.ah.map aP),ints own,ints d,y4 (F:Nat),y4 0,y4 0,y4 0,.vec 1 0,y4 0,.v (.slice ag p.ax.length cg),.v (.slice E p.aq.length G),y4 0]:=by
   unfold dD;rw[hgz,WT];rfl
  have hgo:qV H J=.vech 3 1 (cm (List.replicate p.ax.length 0)) (.slice ag p.ax.length cg):=by
   unfold qV;rw[hgz]
  have WR:qv H J=.vech 29 1 (List.zipWith uF (iK p) r) (.slice E p.aq.length G):=by
   unfold qv;rw[WT]
  rw[hbx,hgo,WR]at hC;unfold dD at hC S
  cases hfin:(u.fin==0)with
  |true =>
   have hr:xb u=⟨1,0,u.b6,u.out,u.a7,u.cN⟩:=by unfold xb;rw[ae (by simpa using hfin)]
   rw[hr];refine Z ?_;refine I [] L ?_;refine Ee [0,1,3,4,5,6] hC ?_;rintro _ _⟨rfl,o,rfl⟩;refine zao ?_;refine I [0,1] S ?_;exact zdp
  |false =>
   have hr:xb u=⟨u.fin,u.why,0,u.out,u.a7,u.cN⟩:=by unfold xb;rw[D (by simpa using hfin)]
   rw[hr];refine Z ?_;refine I [] L ?_;refine Ee [0,1,3,4,5,6] hC ?_;rintro _ _⟨rfl,o,rfl⟩;refine zao ?_;exact zdp
def VT(p:Src)(R:cM p<=1048576)(hn:jZ p)(Q:List Int)(A:Int):GF prog 9 [.agg (aD p),ints Q,y4 A] [] (.agg (Yd (sQ p Q A))) []:=by
 cases c:cw p with
 |false =>
  have t:=Rs p R hn c Q A
  have e:sQ p Q A=Qj:=by unfold sQ;rw[D (by rw[c];decide)]
  rw[e];refine dT func9 ntmps9 ?_;refine zaw ?_;refine I [] t ?_;exact zeE
 |true =>
  have⟨l,B⟩:=yH c;have t:=OL p R hn c B Q A;rw[A8 B c];generalize xb (oU p l Q (lR A))=r at *;refine dT func9 ntmps9 ?_;refine zaw ?_;refine bx [] t ?_;rintro _ _⟨rfl,H,s,rfl⟩;unfold mR;refine zao ?_;have L:(cm r.out).length=r.out.length:=bC _;refine GW.wk (Wk.xe (i:=0) (o:=3) (j:=2) rfl rfl rfl rfl L) ?_;refine GW.wk (Wk.pL (i:=0) (o:=5) (j:=4) rfl rfl rfl rfl) ?_;exact fo
end Go.Xg
set_option maxHeartbeats 4000000
namespace Go.Xg
open Go.RowKit Go.Xw Go.Proofs Tryz Go.Im
open GV (U)
open Go.Sp (Src)
attribute [local irreducible] GW GL GO YG GC GA bh bn
section
variable(p:Src)
def FA(R:cM p<=1048576)(c:cw p=true){i:Nat}(hi:i<p.ak.length) :
  GF prog 89 [.agg (aD p),y4 (i:Nat)] [] (ints (br p (i:Int))) []:=by
 have⟨H,l,f,t,S,h⟩:=vE (ri c hi)
 have:H=i:=by omega
 subst this;rw[oq (ri c hi) h];exact DK p R c h
def FB(x:Int):(br p x).length<=p.ak.length:=(fy (p:=p) (fn:=x)).len
def Dn(R:cM p<=1048576)(a b:Int):GF prog 160 [ints (br p a),y4 b] [] (.v (.bool ((br p a).contains b))) []:=by
 have⟨⟨a1,M⟩,⟨H,s⟩,⟨G,B⟩,⟨E,k⟩⟩:=et p;have:=FB p a;exact wV (br p a) b X
def Oy(R:cM p<=1048576)(c:cw p=true){a b:Nat}(ha:a<p.ak.length)(w:b<p.ak.length) :
  GF prog 335 [.agg (aD p),y4 (a:Nat),y4 (b:Nat)] [] (.v (.bool (od (br p) (a:Int) (b:Int)))) []:=by
 have e:=FA p R c ha;have d:=FA p R c w;have i:=Dn p R (a:Int) (b:Int);have j:=Dn p R (b:Int) (a:Int);unfold od;generalize br p (a:Int)=B at *;generalize br p (b:Int)=A at *
 cases S:((a:Int)==(b:Int))with
 |true =>
  rw[Bool.true_or];refine aj func335 ntmps335 ?_;exact aw
 |false =>
  rw[Bool.false_or]
  cases M:B.contains (b:Int)with
  |false =>
   rw[M]at i;rw[Bool.false_and];refine aj func335 ntmps335 ?_;refine I [] e ?_;refine I [] i ?_;exact aw
  |true =>
   rw[M]at i;rw[Bool.true_and];generalize A.contains (a:Int)=z at *;refine aj func335 ntmps335 ?_;refine I [] e ?_;refine I [] i ?_;refine I [] d ?_;refine I [] j ?_;exact aw
def Ox(E:cM p<=1048576)(l:cw p=true){f:Nat}(hf:f<p.ak.length)(b6:List Int)(N:b6.length<=1048576) :
  GF prog 285 [.agg (aD p),y4 (f:Nat),ints b6] [] (.v (.bool (oS (br p) b6 (f:Int)))) []:=by
 have⟨⟨a1,R⟩,⟨S,T⟩,⟨V,W⟩,⟨d1,d2⟩⟩:=et p;have G:=FA p E l hf;have H:=FB p (f:Int);have t:∀y∈br p (f:Int),0<=y/\y<(p.ak.length:Int):=(fy (p:=p) (fn:=(f:Int))).rng
 have u:∀b:Nat,b<p.ak.length->GF prog 335 [.agg (aD p),y4 (f:Nat),y4 (b:Nat)] [] (.v (.bool (od (br p) (f:Int) (b:Int)))) []:=fun b J=>Oy p E l hf J
 have B:∀y:Int,GF prog 160 [ints b6,y4 y] [] (.v (.bool (b6.contains y))) []:=fun y=>wV b6 y X
 have w:=B (f:Int);unfold oS;generalize hL:br p (f:Int)=L at *
 have n:(L.map fun i=>[y4 i]).length=L.length:=by simp
 refine aj func285 ntmps285 ?_;refine I [] G ?_;refine GW.range (L.map fun i=>[y4 i]).length (fun k F Q=>F=[U,y4 (f:Nat),ints b6,.loc 0 0,U,U,U,U,U,U,U,ints L,y4 ((L.map fun i=>[GV.v (ii i)]).length:Int),y4 (k:Nat),U,U,U,U,U,U,U,U,U,U,U,U,U,U,U,U,U,U,U]/\Q=[.box 28 (aD p)]/\(L.take k).all (fun g=>b6.contains g ||od (br p) (f:Int) g)=true) ?_ X ?_ ?_ ?_
 ·exact kz
 ·exact iI
 ·rintro k _ _ m⟨rfl,rfl,q⟩;rw[n]at m;obtain⟨y,e⟩:∃y,L[k]?=some y:=⟨L[k],by simp[m]⟩;have hr:=ep e
  have c:(L.take (k+1)).all (fun g=>b6.contains g ||od (br p) (f:Int) g)=(b6.contains y ||od (br p) (f:Int) y):=by
   rw[dc,e,List.all_append,q,Bool.true_and];simp
  have C:=bB e;have O:=t y C;obtain⟨j,M⟩:∃j:Nat,y=(j:Int):=⟨y.toNat,by omega⟩;subst M;have o:=u j X;have d:=B (j:Int)
  cases r:b6.contains (j:Int)with
  |true =>
   rw[r]at d c;refine Z ?_;refine I [] d ?_;exact⟨rfl,rfl,_,_,Wk.aW az,rfl,rfl,by rw[c];rfl⟩
  |false =>
   rw[r]at d c
   cases s:od (br p) (f:Int) (j:Int)with
   |true =>
    rw[s]at o c;refine Z ?_;refine I [] d ?_;refine I [] o ?_;exact⟨rfl,rfl,_,_,Wk.aW az,rfl,rfl,by rw[c];rfl⟩
   |false =>
    rw[s]at o
    have A:L.all (fun g=>b6.contains g ||od (br p) (f:Int) g)=false:=by
     rw[List.all_eq_false];exact⟨(j:Int),C,by rw[r,s];decide⟩
    rw[A,Bool.false_and];refine Z ?_;refine I [] d ?_;refine I [] o ?_;exact aw
 ·rintro _ _⟨rfl,rfl,q⟩;rw[n,dx]at q;rw[q,Bool.true_and];generalize b6.contains (f:Int)=z at *;refine Z ?_;exact zbI
def HH(hw:cM p<=1048576) :
  GF prog 215 [.agg (aD p)] [] (ints (ED p)) []:=by
 have⟨⟨a1,V⟩,⟨b1,b2⟩,⟨c1,W⟩,⟨d1,d2⟩⟩:=et p
 have b:(p.ak.map aH).length=p.ak.length:=by simp
 have E:=yG p hw;unfold ED
 cases m:cw p with
 |false =>
  rw[m]at E;rw[D aN];refine aj func215 ntmps215 ?_;refine zac ?_;refine I [] E ?_;exact aw
 |true =>
  rw[m]at E;rw[ae rfl];have Q:=pS (lT p) (n:=p.ak.length) (fun a=>(fy (p:=p) (fn:=a)).nodup) (fun a=>(fy (p:=p) (fn:=a)).rng);refine aj func215 ntmps215 ?_;refine nR ?_;refine GL.sw (t:=5) rfl rfl rfl rfl ?_;intro G H;refine zaJ ?_;refine I [] E ?_;refine GW.range (p.ak.map aH).length (fun k J T=>∃a c n S,J=U::.loc 0 0::U::.v (.slice a n c)::U::U::U::U::U::U::U::.sl 3 (p.ak.map aH)::y4 ((p.ak.map aH).length:Int)::y4 (k:Nat)::zU 18 []/\T=[.box 28 (aD p),.vech 3 1 S (.slice a n c)]/\S.length=n/\S=bK (dL (br p) p.ak.length k)) ?_ X ?_ ?_ ?_
  ·exact⟨_,_,Wk.aW az,G,H,0,[],rfl,rfl,rfl,rfl⟩
  ·rintro k _ _⟨a,c,n,S,rfl,rfl,_⟩;exact dN
  ·rintro k _ _ hk⟨a,c,n,S,rfl,rfl,e,d⟩;rw[b]at hk;have W3:=Q k X;obtain⟨f,-,hf,O,R,u⟩:=sb (lT p) (n:=p.ak.length) (fun a=>(fy (p:=p) (fn:=a)).nodup) (fun a=>(fy (p:=p) (fn:=a)).rng) (b6:=dL (br p) p.ak.length k) X;have s:dL (br p) p.ak.length (k+1)=dL (br p) p.ak.length k++[(f:Int)]:=u
   have M:∀j:Nat,j<p.ak.length->GF prog 285 [.agg (aD p),y4 (j:Nat),.sl 1 S] [] (.v (.bool (oS (br p) (dL (br p) p.ak.length k) (j:Int)))) []:=fun j F=>by
    rw[d];exact Ox p hw m F _ X
   have r:bK (dL (br p) p.ak.length (k+1))=S++[[y4 (f:Int)]]:=by rw[s,d];simp[bK]
   have S4:n<=1048576:=by rw[<-e,d,fj];omega
   rw[r];clear d u s r;generalize dL (br p) p.ak.length k=o at *;refine Z ?_;refine GW.range (p.ak.map aH).length (fun j J T=>j<=f/\J=U::.loc 0 0::U::.v (.slice a n c)::U::U::U::U::U::U::U::.sl 3 (p.ak.map aH)::y4 ((p.ak.map aH).length:Int)::y4 (k:Nat)::U::U::.sl 3 (p.ak.map aH)::y4 ((p.ak.map aH).length:Int)::y4 (j:Nat)::zU 13 []/\T=[.box 28 (aD p),.vech 3 1 S (.slice a n c)]) ?_ X ?_ ?_ ?_
   ·exact⟨_,_,Wk.aW az,bg _,rfl,rfl⟩
   ·rintro j _ _⟨_,rfl,rfl⟩;exact dN
   ·rintro j _ _ F⟨q,rfl,rfl⟩;rw[b]at F;have z:=M j F
    by_cases he:j=f
    ·subst he;rw[O]at z;refine Z ?_;refine GL.borrow z (fun B K β w l N L=>lQ (A:=[_]) (C:=[]) N L rfl rfl rfl) ?_;refine zaf ?_;refine zau ?_;intro V W;refine ct ?_;refine zbk ?_;exact⟨rfl,rfl,_,_,Wk.aW az,V,W,_,_,rfl,rfl,by simp[e],rfl⟩
    ·rw[R j X]at z;refine Z ?_;refine GL.borrow z (fun B K β w l N L=>lQ (A:=[_]) (C:=[]) N L rfl rfl rfl) ?_;refine zaf ?_;exact⟨rfl,rfl,_,_,Wk.aW az,by omega,rfl,rfl⟩
   ·rintro _ _⟨q,rfl,rfl⟩;rw[b]at q;omega
  ·rintro _ _⟨a,c,n,S,rfl,rfl,e,d⟩;rw[b]at d;subst d;refine zeA ?_;refine GW.wk (Wk.uR (t:=2) (i:=1) rfl rfl rfl) ?_;exact aw
end
end Go.Xg
namespace Go.Im
open Go.Xp Go.Sp
def BO(a b:Int):eu a b<=1000000000:=by grind[eu]
def Cd:∀(l:List Int)(v:Int),v<=1000000000->l.foldl eu v<=1000000000
 |[],v,h=>h
 |y::l,v,h=>by rw[List.foldl_cons];exact Cd l _ (BO _ _)
def Su{p:Src}{ay:Bool}{V:Int->Int}:∀t:T,cR p ay V t<=1000000000
 |.mk n l=>by
  have:=Bh (ay:=ay) n;rw[cR];unfold sT;split
  ·omega
  ·split
   ·omega
   ·split
    ·grind[eu]
    ·split
     ·exact BO _ _
     ·exact Cd _ _ ze4
def Qz{p:Src}{l:List T}{ay:Bool}(f:Int):ji p l ay f<=1000000000:=by
 unfold ji;rw[Vf];split
 ·omega
 ·split
  ·exact Su _
  ·omega
def U1(p:Src)(ay:Bool)(V:Int->Int)(n:Nd)(ks:List Int):sT p ay V n ks =
  if(n.ab==4&&n.s==cB)=true then((eo ay n:Nat):Int)else if(n.ab==10)=true then -1 else if(n.ab==9)=true then eu (eu (eo ay n:Nat) (ks.headD 0)) (pW (ks.getD 1 0) (ks.getD 2 0))
  else if(n.ab==4&&decide ((0:Int)<=bF p n.s))=true then eu (ks.foldl eu (eo ay n:Nat)) (V (bF p n.s))else ks.foldl eu (eo ay n:Nat):=by
 unfold sT;simp
def MR{p:Src}{ay:Bool}{V:Int->Int}:∀{l:List T}{k:Nat}{t:T},l[k]?=some t->(kA p ay V l)[k]?=some (cR p ay V t)
 |[],k,t,h=>by simp at h
 |a::l,0,t,h=>by grind[kA,cR]
 |a::l,k+1,t,h=>by rw[kA];exact MR (l:=l) h
def kC(p:Src)(l:List T)(ay:Bool)(b6:List Int):List Int:=(List.range p.ak.length).map fun i=>qG p l ay b6 ((i:Nat):Int)
section
variable{p:Src}{l:List T}{ay:Bool}{b6:List Int}
theorem tC:(kC p l ay b6).length=p.ak.length:=by grind[kC]
theorem sZ{i:Nat}(h:i<p.ak.length):(kC p l ay b6)[i]?=some (qG p l ay b6 (i:Int)):=by
 grind[kC,qG]
def RA(g:Int) : -1<=qG p l ay b6 g/\qG p l ay b6 g<=1000000000:=by
 unfold qG;split
 ·simp[zL,Qz]
 ·omega
theorem Qh{i:Nat}(h:i<p.ak.length):(kC p l ay b6).set i (ji p l ay (i:Int))=kC p l ay (b6++[(i:Int)]):=by
 apply List.ext_getElem?;intro j;rw[ik,tC]
 by_cases G:j<p.ak.length
 ·rw[sZ G,sZ G]
  grind[qG]
 grind[kC]
theorem My{i:Nat}(h:(i:Int)∈br p (i:Int)):kC p l ay (b6++[(i:Int)])=kC p l ay b6:=by
 unfold kC;apply List.map_congr_left;intro j _;unfold qG
 by_cases G:(j:Int)∈b6
 ·grind
 simp_all[D,List.mem_append,List.mem_singleton,zM]
end
theorem Mx{p:Src}{l:List T}{ay:Bool}:kC p l ay []=List.replicate p.ak.length (-1):=by
 simp[List.eq_replicate_iff,uY,qG,D,kC,Src.ak]
def A7{F:Int->List Int}(o:EW F){n:Nat}(hn:∀a,(F a).Nodup)(r:∀a,∀y∈F a,0<=y/\y<(n:Int)):∀m k,k<=m->m<=n->(dL F n m).take k=dL F n k
 |0,k,h,_=>by grind[dL]
 |m+1,k,h,G=>by
  have T:=pS o hn r m ze4
  by_cases l:k=m+1
  ·grind[pS]
  ·obtain⟨f,-,-,-,-,R⟩:=sb o hn r (b6:=dL F n m) ze4;rw[dL,R,List.take_append_of_le_length ze4];exact A7 o hn r m k ze4 ze4
def zw{F:Int->List Int}(o:EW F){n:Nat}(hn:∀a,(F a).Nodup)(r:∀a,∀y∈F a,0<=y/\y<(n:Int)):∀m,m<=n->(dL F n m).Nodup/\∀x∈dL F n m,0<=x/\x<(n:Int)
 |0,_=>⟨List.Pairwise.nil,fun x hx=>by cases hx⟩
 |m+1,G=>by
  have T:=pS o hn r m ze4;obtain⟨f,-,s,l,-,R⟩:=sb o hn r (b6:=dL F n m) ze4;have⟨M,v⟩:=zw o hn r m ze4
  grind[List.nodup_append,List.mem_singleton,xN,dL]
def Qg{p:Src}{l:List T}{ay:Bool}{i:Nat}(hi:i<p.ak.length):(kC p l ay (dL (br p) p.ak.length p.ak.length))[i]?=some (ji p l ay (i:Int)):=by
 have V:=fun a=>(fy (p:=p) (fn:=a)).nodup
 have r:=fun a=>(fy (p:=p) (fn:=a)).rng
 have o:=lT p;have⟨M,v⟩:=zw o V r _ (aQ _);have W:=pS o V r _ (aQ _);rw[sZ hi];unfold qG;rw[ae ?_]
 refine Classical.byContradiction fun R=>?_
 have:=x8 (n:=p.ak.length) (l:=(i:Int)::dL (br p) p.ak.length p.ak.length) (List.nodup_cons.2 ⟨R,M⟩) fun y J=>by
  grind
 grind
def ML{p:Src}{ay:Bool}{fn:Int}(h:cw p=false):gF p ay fn = -1:=sL (by unfold gX;rw[h];rfl)
end Go.Im
namespace Go.Xg
open Go.RowKit Go.Xw Go.Proofs Tryz Go.Im
open GV (U)
open Go.Xp (Nd T bc gm)
open Go.Sp (Src)
attribute [local irreducible] GW GL GO YG GC GA bh bn
def tR(a b:Int)(ha : -1<=a/\a<=1000000000)(A : -1<=b/\b<=1000000000):GF prog 287 [y4 a,y4 b] [] (y4 (eu a b)) []:=by
 have e:eu a b=if decide (a<0)=true then -1 else if decide (b<0)=true then -1 else if decide ((1000000000:Int)<a+b)=true then -1 else a+b:=by
  grind[eu]
 rw[e];clear e
 cases M:decide (a<0)
 all_goals cases w:decide (b<0)
 all_goals cases z:decide ((1000000000:Int)<a+b)
 all_goals
  refine aj func287 ntmps287 ?_;exact aw
def F0(a b:Int):GF prog 288 [y4 a,y4 b] [] (y4 (pW a b)) []:=by
 have e:pW a b=if decide (a<0)=true then -1 else if decide (b<0)=true then -1 else if decide (b<a)=true then a else b:=by
  grind[pW]
 rw[e];clear e
 cases M:decide (a<0)
 all_goals cases w:decide (b<0)
 all_goals cases z:decide (b<a)
 all_goals
  refine aj func288 ntmps288 ?_;exact aw
def Q7(t:T)(ay:Bool):GF prog 286 [.agg (cT t),.v (.bool ay)] [] (y4 ((eo ay t.n:Nat):Int)) []:=by
 have e:eo ay t.n=if(!ay ||(t.n.ab==4&&t.n.s==[112,117,116]))=true then 1 else 0:=rfl
 rw[e];clear e;cases ay
 all_goals cases M:(t.n.ab==4)
 all_goals cases w:(t.n.s==[112,117,116])
 all_goals
  refine aj func286 ntmps286 ?_;exact aw
def Oz(p:Src)(ay:Bool)(out:List Int)(V:Int->Int)(hV:∀(i:Nat)x,out[i]?=some x->V (i:Int)=x)(FJ:p.ak.length<=1048576)(hol:out.length=p.ak.length)(xR:∀x∈out,-1<=x/\x<=1000000000):∀(N:Nat)(t:T),bc t<=N->bc t<=1099511627776->eY t=true ->
  GF prog 216 [.agg (aD p),.agg (cT t),ints out,.v (.bool ay)] [] (y4 (cR p ay V t)) []:=by
 intro N
 induction N with
 |zero=>intro t h;exact zel
 |succ N ih =>
 intro t hN hb hk
 cases t with
 |mk n l =>
 rw[Go.Xp.bc]at hN hb;rw[eY,aU]at hk;rw[cR,U1];have J:=Q7 (.mk n l) ay;have M:=vK p n.s X;have F:=zS p n.s;have xQ:=gm l;have C:(bj l).length=l.length:=bq l;have Lm:=Bh (ay:=ay) n
 have E:∀x∈l,eY x=true:=by grind[oy,fa]
 have W0:n.ab=9->l.length=2\/l.length=3:=fun h=>by
  have:=hk.1;simp[c7,h]at this;omega
 have e1:bM (fun x:Go.Sp.Fn=>x.name==n.s) p.ak=bF p n.s:=rfl;rw[e1]at M;have e2:(T.mk n l).n=n:=rfl;rw[e2]at J
 have d:∀t,-1<=cR p ay V t/\cR p ay V t<=1000000000:=fun t=>⟨St t,Su t⟩
 have B:=fun{k:Nat}{t:T}(h:l[k]?=some t)=>MR (p:=p) (ay:=ay) (V:=V) h
 have Q:=yw p ay V l;have e3:cB=[115,105,122,101]:=rfl;rw[e3];obtain⟨o,ho⟩:∃o:Int,((eo ay n:Nat):Int)=o:=⟨_,rfl⟩;rw[ho]at J |-
 have j : -1<=o/\o<=1000000000:=by omega
 cases g1:(n.ab==4)
 all_goals cases g2:(n.s==[115,105,122,101])
 case true.true =>
  refine aj func216 ntmps216 ?_;refine I [] J ?_;exact aw
 all_goals cases g3:(n.ab==10)
 case true.false.true|false.true.true|false.false.true =>
  refine aj func216 ntmps216 ?_;refine I [] J ?_;exact aw
 all_goals cases g4:(n.ab==9)
 case true.false.false.true|false.true.false.true|false.false.false.true =>
  have h9:=W0 (by simpa using g4);obtain⟨b,m⟩:∃u,l[0]?=some u:=⟨l[0]'X,cq _⟩;obtain⟨c,w⟩:∃u,l[1]?=some u:=⟨l[1]'X,cq _⟩;have FP:=dp m;have zq:=dp w;have i0:=ih b (by have:=gZ m;omega) (by have:=gZ m;omega) (E b (bB m));have i1:=ih c (by have:=gZ w;omega) (by have:=gZ w;omega) (E c (bB w))
  have a0:(kA p ay V l).headD 0=cR p ay V b:=by have:=B m;cases hc:kA p ay V l with|nil=>rw[hc]at this;cases this|cons x r=>rw[hc]at this;cases this;rfl
  have a1:(kA p ay V l).getD 1 0=cR p ay V c:=by rw[List.getD_eq_getElem?_getD,B w];rfl
  have L:=tR o (cR p ay V b) j (d b);have O:=BN o (cR p ay V b);have R:=BO o (cR p ay V b);simp only[Bool.false_and,Bool.and_false,Bool.false_eq_true,if_false,if_true];rw[a0,a1]
  cases S:(((bj l).length:Int)==3)with
  |false =>
   have AV:l.length=2:=by rw[C]at S;simp at S;omega
   have a2:(kA p ay V l).getD 2 0=0:=by rw[List.getD_eq_getElem?_getD,List.getElem?_eq_none X];rfl
   rw[a2];have hM:=F0 (cR p ay V c) 0;have H:=tR (eu o (cR p ay V b)) (pW (cR p ay V c) 0) ⟨O,R⟩ (by unfold pW;have:=d c;split<;>(try split)<;>omega);generalize eu o (cR p ay V b)=x0 at *;generalize pW (cR p ay V c) 0=x1 at *;generalize eu x0 x1=x2 at *;generalize cR p ay V b=y0 at *;generalize cR p ay V c=y1 at *;refine aj func216 ntmps216 ?_;refine I [] J ?_;exact zaT
  |true =>
   have hl3:l.length=3:=by rw[C]at S;simp at S;omega
   obtain⟨G,A⟩:∃u,l[2]?=some u:=⟨l[2]'X,cq _⟩;have NV:=dp A;have i2:=ih G (by have:=gZ A;omega) (by have:=gZ A;omega) (E G (bB A))
   have a2:(kA p ay V l).getD 2 0=cR p ay V G:=by rw[List.getD_eq_getElem?_getD,B A];rfl
   rw[a2];have hM:=F0 (cR p ay V c) (cR p ay V G);have H:=tR (eu o (cR p ay V b)) (pW (cR p ay V c) (cR p ay V G)) ⟨O,R⟩ (by unfold pW;have:=d c;have:=d G;split<;>(try split)<;>omega);generalize eu o (cR p ay V b)=x0 at *;generalize pW (cR p ay V c) (cR p ay V G)=x1 at *;generalize eu x0 x1=x2 at *;generalize cR p ay V b=y0 at *;generalize cR p ay V c=y1 at *;generalize cR p ay V G=y2 at *;refine aj func216 ntmps216 ?_;refine I [] J ?_;refine za4 ?_;refine aJ [] i2 ?_;refine Z ?_;exact zaT
 all_goals
  simp only[Bool.false_and,Bool.and_false,Bool.true_and,Bool.false_eq_true,if_false]
  have e:∀k,-1<=((kA p ay V l).take k).foldl eu o/\((kA p ay V l).take k).foldl eu o<=1000000000:=fun k=>⟨Cc _ o j.1,Cd _ o j.2⟩
  refine aj func216 ntmps216 ?_;refine I [] J ?_;refine GW.range (bj l).length (fun k fr Γ=>fr=U::U::ints out::.v (.bool ay)::.loc 0 0::.loc 1 0::U::U::U::y4 (((kA p ay V l).take k).foldl eu o)::zU 61 (.sl 6 (bj l)::y4 ((bj l).length:Int)::y4 (k:Nat)::zU 31 [])/\Γ=[.box 28 (aD p),.box 89 (cT (.mk n l))]) ?_ X ?_ ?_ ?_
  ·exact jw
  ·rintro k _ _⟨rfl,rfl⟩;exact dN
  ·rintro k _ _ F⟨rfl,rfl⟩;rw[C]at F;obtain⟨u,W⟩:∃u,l[k]?=some u:=⟨l[k],by simp[F]⟩;have hr:=dp W;have pf:=gZ W;have hi:=ih u X X (E u (bB W));have L:=tR (((kA p ay V l).take k).foldl eu o) (cR p ay V u) (e k) (d u)
   have AW:((kA p ay V l).take (k+1)).foldl eu o=eu (((kA p ay V l).take k).foldl eu o) (cR p ay V u):=by
    rw[dc,B W,List.foldl_append];rfl
   rw[AW];generalize((kA p ay V l).take k).foldl eu o=s at *;generalize eu s (cR p ay V u)=s' at *;generalize cR p ay V u=y at *;refine Z ?_;refine I [] hi ?_;refine I [] L ?_;exact⟨rfl,rfl,_,_,(Wk.cut (n:=2) (bg _) rfl).trans (Wk.aW az),rfl,rfl⟩
  ·rintro _ _⟨rfl,rfl⟩;rw[C,<-Q,dx];have hs:=e (kA p ay V l).length;rw[dx]at hs;generalize(kA p ay V l).foldl eu o=s at *;refine bl ?_
   cases g6:decide ((0:Int)<=bF p n.s)
   ·try rw[D aN]
    generalize bF p n.s=z at *;refine zcn ?_;exact aw
   ·first
    |(generalize bF p n.s=z at *;refine Z ?_;refine I [] M ?_;refine cb ?_;exact⟨rfl,rfl⟩)
    |(rw[ae rfl];have h0:=oe g6;obtain⟨i,hi⟩:∃i:Nat,bF p n.s=(i:Int):=⟨(bF p n.s).toNat,by omega⟩;rw[hi]at M F g6 |-;have Dx:i<out.length:=X;obtain⟨x,hx⟩:∃x,out[i]?=some x:=⟨out[i],by simp[Dx]⟩;have Ju:=ep hx;rw[hV i x hx];have L:=tR s x hs (xR x (bB hx));generalize eu s x=s' at *;refine Z ?_;refine I [] M ?_;refine I [] L ?_;refine cb ?_;exact⟨rfl,rfl⟩)
def Cj:∀(l:List Int)(k:Nat)(x:Int),dw (bK l) k 0 (y4 x)=bK (l.set k x)
 |[],k,x=>rfl
 |y::l,0,x=>rfl
 |y::l,k+1,x=>by
  have:=Cj l k x;unfold bK at this |-
  grind[dw]
def MK{B:Bs}{K:Fz}{β:Bt}{w:World}{fr:am}{l:List Value}{A C:ap}{Q t j F:Operand}{S:List am}{h z:Value}{R ts:am}(N:Inv B K β (A++(.vech 3 1 S h::C)) w)(T:FR K β fr l)(M:a8 fr Q=.agg R)(G:a8 fr t=.agg ts)(hx:a8 fr j=.v h)(J:a8 fr F=.v z)(H:pg R=true)(o:pg ts=true) :
  ∃W,nY W w/\mb W (fun _=>.no) w/\bA W (fun _=>.no) ([Q,t,j,F].map (ev l)) [.agg R,.agg ts,.sl 1 S,.v z]:=by
 have⟨W,m,L,s,O⟩:=N.view (i:=A.length) (E:=3) (k:=1) (rows:=S) (x:=h) ze6;have b:=T.ev Q;rw[M]at b;have V:=T.ev t;rw[G]at V;refine⟨W,L,s,?_⟩;show bA W _ [ev l Q,ev l t,ev l j,ev l F] _;rw[T.eT hx,T.eT J];exact .cons (FC m (kR H) b) (.cons (FC m (kR o) V) (.cons O (.cons (.v _) .nil)))
section
variable(p:Src)
theorem Q6(hw:cM p<=1048576)(ay:Bool)(s:cw p=true){l:List T}(hg:Go.Im.Good p l) :
  GF prog 164 [.agg (aD p),.v (.bool ay)] [] (ints (kC p l ay (dL (br p) p.ak.length p.ak.length))) []:=by
 have⟨⟨a1,a2⟩,⟨b1,b2⟩,⟨c1,c2⟩,⟨d1,d2⟩⟩:=et p
 have hn:=fun a=>(fy (p:=p) (fn:=a)).nodup
 have hr:=fun a=>(fy (p:=p) (fn:=a)).rng
 have ht:=lT p;have hlen:=hg.len
 have O:(p.ak.map aH).length=p.ak.length:=by simp
 have hL:=HH p hw
 have he:ED p=dL (br p) p.ak.length p.ak.length:=by grind[ED]
 have xQ:=pS ht hn hr p.ak.length (aQ _)
 have NY:=fun k hk=>A7 ht hn hr p.ak.length k hk (aQ _)
 rw[he]at hL
 have E:((dL (br p) p.ak.length p.ak.length).map fun i=>[y4 i]).length=p.ak.length:=by grind
 have hz:(List.replicate p.ak.length (gB [ii 0]))=bK (List.replicate p.ak.length 0):=by simp[bK,gB]
 refine aj func164 ntmps164 ?_;refine GL.XN rfl ⟨by omega,by omega⟩ ?_;intro a c;refine ct ?_;rw[O];simp only[hz];refine Z ?_;refine GW.range p.ak.length (fun k L Γ=>L=U::.v (.bool ay)::.loc 0 0::U::U::.v (.slice a p.ak.length c)::U::U::U::U::U::U::U::U::y4 (p.ak.length:Int)::y4 (k:Nat)::zU 36 []/\Γ=[.box 28 (aD p),.vech 3 1 (bK (List.replicate k (-1)++List.replicate (p.ak.length-k) 0)) (.slice a p.ak.length c)]) ?_ X ?_ ?_ ?_
 ·exact jw
 ·rintro k _ _⟨rfl,rfl⟩;exact dN
 ·rintro k _ _ F⟨rfl,rfl⟩
  have hS:(bK (List.replicate k (-1)++List.replicate (p.ak.length-k) 0)).length=p.ak.length:=by grind[bK]
  have Ju:(bK (List.replicate k (-1)++List.replicate (p.ak.length-k) 0))[k]?=some [y4 0]:=by
   grind[bK]
  have u:dw (bK (List.replicate k (-1)++List.replicate (p.ak.length-k) 0)) k 0 (y4 (-1))=bK (List.replicate (k+1) (-1)++List.replicate (p.ak.length-(k+1)) 0):=by
   rw[Cj];congr 1;apply List.ext_getElem?
   grind
  generalize bK (List.replicate k (-1)++List.replicate (p.ak.length-k) 0)=S at *;refine Z ?_;refine wq ?_;refine Z ?_;rw[u];exact za0
 ·rintro _ _⟨rfl,rfl⟩;refine bl ?_
  have e0:List.replicate p.ak.length (-1:Int)++List.replicate (p.ak.length-p.ak.length) 0=kC p l ay []:=by grind[Mx]
  rw[e0];refine Z ?_;refine I [] hL ?_;refine GW.range ((dL (br p) p.ak.length p.ak.length).map fun i=>[y4 i]).length (fun k L Γ=>L=[U,.v (.bool ay),.loc 0 0,U,U,.v (.slice a p.ak.length c),U,U,U,U,U,U,U,U,U,U,U,U,U,U,U,U,U,ints (dL (br p) p.ak.length p.ak.length),y4 (((dL (br p) p.ak.length p.ak.length).map fun i=>[GV.v (ii i)]).length:Int),y4 (k:Nat),U,U,U,U,U,U,U,U,U,U,U,U,U,U,U,U,U,U,U,U,U,U,U,U,U,U]/\Γ=[.box 28 (aD p),.vech 3 1 (bK (kC p l ay (dL (br p) p.ak.length k))) (.slice a p.ak.length c)]) ?_ X ?_ ?_ ?_
  ·exact jw
  ·rintro k _ _⟨rfl,rfl⟩;exact dN
  ·rintro k _ _ F⟨rfl,rfl⟩;rw[E]at F;obtain⟨f,-,N,R,-,FT⟩:=sb ht hn hr (b6:=dL (br p) p.ak.length k) ze3;have u:dL (br p) p.ak.length (k+1)=dL (br p) p.ak.length k++[(f:Int)]:=FT
   have hxf:(dL (br p) p.ak.length p.ak.length)[k]?=some (f:Int):=by
    grind[dc,List.append_cancel_left]
   have Xh:=ep hxf;obtain⟨fn,Q⟩:∃fn,p.ak[f]?=some fn:=⟨p.ak[f],by simp[N]⟩;obtain⟨t,J⟩:∃t,l[f]?=some t:=⟨l[f]'X,cq _⟩;have h:=hg.fn Q J;have m:=DK p hw s h;have V:=oq (ri s N) h;rw[<-V]at m;have d:=wV (br p (f:Int)) (f:Int) (by have:=(fy (p:=p) (fn:=(f:Int))).len;omega);rw[u]
   have hSl:(bK (kC p l ay (dL (br p) p.ak.length k))).length=p.ak.length:=by rw[fj];exact tC
   cases M:(br p (f:Int)).contains (f:Int)with
   |true =>
    rw[M]at d;rw[My (l9.1 M)];generalize br p (f:Int)=ff at *;refine Z ?_;refine I [] m ?_;refine I [] d ?_;exact za0
   |false =>
    rw[M]at d
    have FO:(f:Int) ∉ br p (f:Int):=fun hm=>by grind
    have r:=O3 (ay:=ay) s hg h R FO;have H:=Qh (p:=p) (l:=l) (ay:=ay) (b6:=dL (br p) p.ak.length k) N
    have G:(p.ak.map aH)[f]?=some (aH fn):=by grind
    have pf:=h.sz;have e:=Bw p (fun n h=>by grind) _ _ t ((ue _).1 t _ h.st (aQ _))
    have o:=Oz p ay (kC p l ay (dL (br p) p.ak.length k)) (qG p l ay (dL (br p) p.ak.length k)) (fun i x hx=>by
     grind[List.getElem?_eq_some_iff,tC,sZ,uX]) X tC (fun x hx=>by
     have⟨i,hi⟩:=List.getElem?_of_mem hx
     have W:i<p.ak.length:=by grind[List.getElem?_eq_some_iff,tC]
     rw[sZ W]at hi;cases hi;exact RA _) _ t (aQ _) X (vJ hg J)
    rw[r]at o
    have hrS:(bK (kC p l ay (dL (br p) p.ak.length k)))[f]?=some [y4 (qG p l ay (dL (br p) p.ak.length k) (f:Int))]:=by
     unfold bK;grind[bO,sZ]
    have j:=Cj (kC p l ay (dL (br p) p.ak.length k)) f (ji p l ay (f:Int));rw[H]at j;rw[<-j];have e3:ints (kC p l ay (dL (br p) p.ak.length k))=.sl 1 (bK (kC p l ay (dL (br p) p.ak.length k))):=rfl;rw[e3]at o;obtain⟨b,z⟩:∃b:Nat,fn.body=(b:Int):=⟨fn.body.toNat,by have:=h.body;omega⟩;rw[z,dC]at e;unfold aH at G;rw[z]at G;generalize bK (kC p l ay (dL (br p) p.ak.length k))=S at *;generalize br p (f:Int)=ff at *;generalize ji p l ay (f:Int)=cc at *;refine Z ?_;refine I [] m ?_;refine I [] d ?_;refine aS (aK 0 10 (.q 11 (.q 12 (.a 10 (.a 13 (.q 14 (.a 15 .nil))))))) ?_;refine av ?_;refine aJ [] e ?_;refine OA rfl rfl (GL.borrow o (fun B K β w l hI hF=>MK (A:=[_]) (C:=[]) hI hF rfl rfl rfl rfl rfl rfl) ?_);refine zcp ?_;refine OA rfl rfl (GL.xw rfl rfl rfl hrS rfl rfl rfl rfl ?_);refine zaX ?_;exact za0
  ·rintro _ _⟨rfl,rfl⟩;rw[E];refine zeA ?_;refine GW.wk (Wk.uR (t:=4) (i:=1) rfl rfl rfl) ?_;exact aw
def UI(fn:Int)(g:Bool)(hg:GF prog 38 [.agg (aD p)] [] (.v (.bool g)) []) :
  GF prog 87 [.agg (aD p),y4 fn] [] (.v (.bool ((g&&decide ((0:Int)<=fn))&&decide (fn<((p.ak.map aH).length:Int))))) []:=by
 cases g<;>cases M:decide ((0:Int)<=fn)
 all_goals
  refine aj func87 ntmps87 ?_;refine I [] hg ?_;exact aw
def Md(R:cM p<=1048576)(hn:jZ p)(fn:Int):GF prog 93 [.agg (aD p),y4 fn] [] (y4 (gF p false fn)) []:=by
 have G:=UI p fn (cw p) (yG p R)
 have e:((cw p&&decide ((0:Int)<=fn))&&decide (fn<((p.ak.map aH).length:Int)))=gX p fn:=by unfold gX;rw[bC]
 rw[e]at G
 cases M:gX p fn with
 |false =>
  rw[M]at G;rw[sL M];refine aj func93 ntmps93 ?_;exact zeU
 |true =>
  rw[M]at G
  have d:cw p=true:=by unfold gX at M;simp only[aU]at M;exact M.1.1
  obtain⟨i,l,f,t,rfl,h⟩:=vE M;have u:=(bR h.gf).1;have j:=Q6 p R false d h.good;have r:=ep (Qg (p:=p) (l:=l) (ay:=false) u);rw[rM M h.good];generalize kC p l false (dL (br p) p.ak.length p.ak.length)=A at *;generalize ji p l false (i:Int)=c at *;refine aj func93 ntmps93 ?_;refine I [] G ?_;refine I [] j ?_;exact aw
def TR(R:cM p<=1048576)(hn:jZ p):GF prog 28 [.agg (aD p)] [] (y4 (dR p)) []:=by
 have⟨⟨a1,M⟩,⟨H,s⟩,⟨G,B⟩,⟨E,k⟩⟩:=et p;have t:=yG p R;have S:=vK p [109,97,105,110] X;have e:bM (fun x:Go.Sp.Fn=>x.name==[109,97,105,110]) p.ak=bF p eU:=rfl;rw[e]at S;have d:=Md p R hn (bF p eU);unfold dR
 cases c:cw p with
 |false =>
  rw[c]at t;rw[ML c];refine aj func28 ntmps28 ?_;refine I [] t ?_;exact aw
 |true =>
  rw[c]at t;generalize gF p false (bF p eU)=r at *;generalize bF p eU=m at *;refine aj func28 ntmps28 ?_;refine I [] t ?_;exact zcm
end
end Go.Xg
namespace Go.Xg
open Go.RowKit Go.Xw Go.Proofs
def YG.neB{P:Program}{fr:am}{Γ:ap}{x y:Operand}{t c:TypeId}{a b:Bool}(o:P.underlying t=some .bool)(hx:a8 fr x=.v (.bool a))(J:a8 fr y=.v (.bool b)):YG P (.binOp .neq t x y c) fr Γ (.v (.bool (!(a==b)))) :=
 YG.v2 hx J fun l w h k=>fun d r u i=>by
  have e:(Op.equal t (.bool a) (.bool b)).run P w=.ok (a==b) w:=run_equalIn_bool w 9999 t a b o;simp[execOp,eqGuard,h,k,binOp,e]
end Go.Xg
namespace Go.Im
open Go.Xp Go.Sp Go.Mn
def C5(p:Src) : -1<=dR p:=K4 p false _
def K5{p:Src}(h:0<=dR p):cw p=true:=by
 cases M:gX p (bF p eU)with
 |true=>exact Go.Xg.NM M
 |false =>
  have:=sL (ay:=false) M;unfold dR at h;omega
def U7{p:Src}(h:dR p<0):qH p = -1:=by
 have:=C5 p;unfold qH;rw[ae (by simp only[beq_iff_eq];omega)]
def K6{p:Src}(h:0<=dR p)(Q:List Int) :
  ((sQ p Q 20000).a7:Int)<=dR p/\((sQ p Q 20000).fin=3->20000<dR p)/\((sQ p Q 20000).out.length:Int)<=qH p:=by
 have B:=K5 h;have⟨l,T⟩:=yH B;have⟨a,b,c⟩:=MM B T h Q (lR 20000);rw[A8 T B];generalize oU p l Q (lR 20000)=t at *;unfold xb;split
 ·refine⟨a,?_,c⟩;intro h;exact absurd h (by show ¬(1:Int)=3;decide)
 ·exact⟨a,b,c⟩
end Go.Im
namespace Go.Xg
open Go.RowKit Go.Xw Go.Proofs Tryz Go.Sp Go.Im
attribute [local irreducible] GW GL GO YG GC GA bh bn
def Mj(code:ai):GF prog 7 [.sl 1 (cX code)] [] (.v (.bool true)) []:=by
 have B:=xA code
 rcases Nat.lt_or_ge 1048576 code.length with O|V
 ·have F:decide ((1048576:Int)<((cX code).length:Int))=true:=decide_eq_true X;refine aj func7 ntmps7 ?_;exact aw
 ·have F:decide ((1048576:Int)<((cX code).length:Int))=false:=decide_eq_false X;refine aj func7 ntmps7 ?_;refine bx [] (Hy code X) ?_;rintro _ _⟨rfl,p,R,T,rfl⟩;refine bI ?_;have N:=BG p R T;have t:=TR p R T;have S:=KO p R T;have j:=VU p R T;have V:=C5 p
  have J:(dR p != dR p)=false:=by simp
  rcases(by omega:dR p<0\/0<=dR p)with w|w
  ·have k:=U7 w;rw[k]at j
   have M:(dR p != -1)=false:=by simp only[bne_eq_false_iff_eq];omega
   rw[M]at S
   have z:(false != decide ((0:Int)<=dR p))=false:=by rw[decide_eq_false X];rfl
   have A:decide (dR p<0)=true:=decide_eq_true w;refine zdi ?_;refine I [] j ?_;exact aw
  ·have⟨a,b,c⟩:=K6 w [3,1]
   have M:(dR p != -1)=true:=by simp only[bne_iff_ne];omega
   rw[M]at S
   have z:(true != decide ((0:Int)<=dR p))=false:=by rw[decide_eq_true w];rfl
   have A:decide (dR p<0)=false:=decide_eq_false X;have s:=VT p R T [3,1] 20000;generalize sQ p [3,1] 20000=r at *;unfold Yd ints at s;have Q:decide (((r.a7:Nat):Int)<=dR p)=true:=decide_eq_true a;have W:decide (((cm r.out).length:Int)<=qH p)=true:=decide_eq_true (by rw[show(cm r.out).length=r.out.length from bC _];exact c);refine zdi ?_;refine zac ?_;refine jS [] s ?_
   rcases(by omega:20000<dR p\/dR p<=20000)with d|d
   ·have e:decide ((20000:Int)<dR p)=true:=decide_eq_true d;exact zbh
   ·have e:decide ((20000:Int)<dR p)=false:=decide_eq_false X
    have C:(r.fin != 3)=true:=by simp only[bne_iff_ne];intro h;have:=b h;omega
    exact zbh
end Go.Xg
namespace Go.Xg
open Go.RowKit Go.Xw Go.Proofs Go.WideShapes Go.Deep
def YB(c:UInt8):Value:=.int .u8 (c.toNat:Int)
def Uv(c:UInt8):flat (YB c):=fun a n d e=>by cases e
def wf_u8{z:Int}(h:(Lit.int .u8 z).wf=true):∃c:UInt8,z=((c.toNat:Nat):Int):=by
 simp only[Lit.wf,aU,decide_eq_true_eq]at h
 have M:IntKind.min .u8=0:=by decide
 have v:IntKind.max .u8=255:=by decide
 rw[M,v]at h;refine⟨UInt8.ofNat z.toNat,?_⟩
 have w:z.toNat<256:=by omega
 have N:(UInt8.ofNat z.toNat).toNat=z.toNat:=by simp[Nat.mod_eq_of_lt w]
 rw[N];omega
section
variable{H:Type}{enc:TypeId × Value->H}{P:Program}{W:World}
def OY{t e:TypeId}{n:Nat}{v:Value}{y:DataW H × List MemPlace}(r:P.underlying t=some (.slice e))(d:P.underlying e=some (.int .u8))(k:P.cellsOf e=1)(h:DataW.trod enc P W 0 (fun _=>true) true n t [v]=some y) :
  ∃l:ai,P8 W v (l.map YB)/\l.length<=9223372036854775807:=by
 rcases open_slice1 r k h with⟨R,_⟩|⟨a,len,F,m,O,V,ab8,C,R,_,T,L,G,_,hx⟩
 ·injection R with hv;subst hv
  exact⟨[],⟨none,0,rfl,.inl rfl⟩,bg _⟩
 ·injection R with hv _;subst hv
  simp only[if_true]at G
  obtain⟨l,M,w⟩:=zm (n:=len) (Q:=fun i(c:UInt8)=>W.cell? (a.add i)=some (YB c)) (fun i u=>by
   have⟨J,B⟩:=hx i X;have⟨z,q,_,A⟩:=DataW.trod_int d B
   injection q with q _
   rw[q]at J;obtain⟨c,rfl⟩:=wf_u8 A
   exact⟨c,J⟩)
  refine⟨l,⟨some a,F,by rw[bC,M],?_⟩,by rw[M];exact max_le (jy T L)⟩
  by_cases N:len=0
  ·have:l=[]:=jF X;subst this;exact .inl rfl
  ·refine .inr ⟨a.block,a.off,?_,by rw[bC,M];exact T,fun i x u=>?_⟩
   ·have S:l[0]?=some (l[0]'X):=cq _;have:=Qe (w 0 _ S);obtain⟨b,o,s⟩:=a;simp only at this;rw[this]
   ·rw[bO]at u
    cases E:l[i]? with
    |none=>rw[E]at u;cases u
    |some c =>
     rw[E]at u;cases u;exact⟨Qo (w i c E),Uv c⟩
def OZ(β:Bt){t e:TypeId}{v:Value}{d:DataW H}{Q:List MemPlace}{r:Reach}{i:Nat}(o:P.underlying t=some (.slice e))(R:P.underlying e=some (.int .u8))(k:P.cellsOf e=1)(T:Value.okWide P W r i t v)(h:DataW.Trod enc P W 0 (fun _=>true) true t v d Q) :
  ∃l:ai,Rel (KW W) β v (.sl 1 (cX l))/\l.length<=9223372036854775807:=by
 obtain⟨u,len,E,rfl⟩:=okWide_slice o T;have⟨A,s⟩:=h;have⟨l,M,w⟩:=OY o R k s;refine⟨l,?_,w⟩;have:=Pc M β;rw[List.map_map]at this;exact this
end
end Go.Xg
