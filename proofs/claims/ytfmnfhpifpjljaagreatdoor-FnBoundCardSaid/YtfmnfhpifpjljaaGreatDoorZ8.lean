/- Part 8 of proofs that are told in their last texts. -/
import Derived.Test.YtfmnfhpifpjljaaGreatDoorZ7
import Derived.Test.YtfmnfhpifpjljaaGreatDoorZ3
import Derived.Lib.OwnBridge
import Derived.Lib.AppendIntMem
open List (all_cons cons_append ext_getElem? foldl_cons getElem?_of_mem getElem?_zipWith length_cons length_nil length_set length_singleton mem_append mem_append_left mem_append_right mem_singleton nil_append not_mem_nil set_cons_zero zipWith_cons_cons)
set_option linter.unusedVariables false
set_option linter.unusedSimpArgs false
set_option linter.defProp false
set_option maxRecDepth 100000
set_option maxHeartbeats 2000000
namespace Go
def zaW{A:Prop}(s:A:=by exact GW.LK (fn:=f98) rfl rfl (by simp) rfl rfl rfl rfl (fun _ _ h=>by repeat (first|exact h|refine kX ?_|refine kW ?_))):A:=s
end Go
namespace Go.Xg
open Go.RowKit Go.Xw Go.Proofs Tryz Go.Im
open Go.Xp (Tok T bc aR ey)
open Go.Sp (Src)
attribute [local irreducible] GW GL GO YG GC GA bh bn
def Sh:Wr 126 127 eh gY :=
 ⟨fun a M v w=>VH _ a (aQ _) M v w,fun l d M v w=>QR l d M v,fun l d s h=>QS h⟩
section
variable(p:Src)
def EO(h:p.ah.length>800):GF prog 64 [.agg (aD p)] [] (.v (.bool false)) []:=by
 have G:(p.ah.map aP).length=p.ah.length:=by simp
 have F:decide ((800:Int)<((p.ah.map aP).length:Int))=true:=by rw[G];simpa using by omega
 refine aj func64 ntmps64 ?_;exact aw
def BH(h:p.ah.length<=800)(k:∀n∈p.ah,n.au.length<=1099511627776)(hf:p.ak.length<=1099511627776)(w:j3 p.ah p.ak 0 []=none):GF prog 64 [.agg (aD p)] [] (.v (.bool false)) []:=by
 have G:(p.ah.map aP).length=p.ah.length:=by simp
 have F:decide ((800:Int)<((p.ah.map aP).length:Int))=false:=by rw[G];simpa using by omega
 have d:=wz p X k hf;rw[w]at d;unfold BX at d;refine aj func64 ntmps64 ?_;refine I [] d ?_;exact aw
def HB(l:List T)(e:Nat)(h:p.ah.length<=800)(k:∀n∈p.ah,n.au.length<=1099511627776)(hf:p.ak.length<=1099511627776)(w:j3 p.ah p.ak 0 []=some (l,e))(R:e≠p.ah.length):GF prog 64 [.agg (aD p)] [] (.v (.bool false)) []:=by
 have G:(p.ah.map aP).length=p.ah.length:=by simp
 have F:decide ((800:Int)<((p.ah.map aP).length:Int))=false:=by rw[G];simpa using by omega
 have d:=wz p X k hf;rw[w]at d;unfold BX at d;simp only at d;rw[show((e:Int)==(p.ah.length:Int))=false by simp only[beq_eq_false_iff_ne,ne_eq];omega]at d;refine aj func64 ntmps64 ?_;refine I [] d ?_;exact aw
def EN(l:List T)(h:p.ah.length<=800)(k:∀n∈p.ah,n.au.length<=1099511627776)(hf:p.ak.length<=1099511627776)(z:j3 p.ah p.ak 0 []=some (l,p.ah.length))(V:l.length<=1099511627776)(q:∀t∈l,bc t<=1099511627776)(hn:l.all eY=false):GF prog 64 [.agg (aD p)] [] (.v (.bool false)) []:=by
 have G:(p.ah.map aP).length=p.ah.length:=by simp
 have F:decide ((800:Int)<((p.ah.map aP).length:Int))=false:=by rw[G];simpa using by omega
 have d:=wz p X k hf;rw[z]at d;unfold BX at d;simp only at d;rw[show((p.ah.length:Int)==(p.ah.length:Int))=true by simp]at d;have w:=vg l V q;rw[hn]at w;refine aj func64 ntmps64 ?_;refine I [] d ?_;exact zbI
end
def Pd(st:PS)(h:st.ak.length=st.aM.length):oc st.ak st.aM st.aM.length=(pH st).map aH:=by
 unfold oc pH;apply ext_getElem?;intro i;rw[bO,List.getElem?_mapIdx,List.getElem?_mapIdx]
 cases hx:st.ak[i]? with
 |none=>rfl
 |some x =>
  have t:=(bR hx).1;simp only[Option.map_some];rw[ae X];rfl
def Tw(st:PS):Src:=⟨st.ax,st.aq,pH st,ey 0 st.aM⟩
def X8{q:Go.Sp.RS}{st:PS}(k:q.code=0)(z:¬aR st.aM>800)(h:st.ak.length=st.aM.length):J1 q st=.tup [.agg (aD (Tw st)),y4 0,y4 0]:=by
 unfold J1;rw[ae k,D z,Pd st h];rfl
section
variable(p:Src)(l:List T)(x:ai)(ts:List Tok)
def HC(c z:Int)(h:p.ah.length<=800)(d:GF prog 74 [.agg (aD p)] [] (.tup [.sl 1 (df l),.v (.bool true)]) [])
  (w:GF prog 122 [.sl 1 (df l),.v (.func (.func 123) #[] #[])] [] (.v (.bool false)) [])
  (m:GF prog 125 [.agg (aD p),.sl 1 (df l),.v (jV 126),.v (jV 127)] [] (.v (sv x)) [])
  (u:GF prog 128 [.v (sv x)] [] (.tup [hE ts,y4 c,y4 z]) [])(k:(c != 0)=true) :
  GF prog 64 [.agg (aD p)] [] (.v (.bool false)) []:=by
 have G:(p.ah.map aP).length=p.ah.length:=by simp
 have F:decide ((800:Int)<((p.ah.map aP).length:Int))=false:=by rw[G];simpa using by omega
 refine aj func64 ntmps64 ?_;refine I [] d ?_;refine I [] w ?_;refine I [] m ?_;refine I [] u ?_;exact aw
def zb(c k a:Int)(h:p.ah.length<=800)(d:GF prog 74 [.agg (aD p)] [] (.tup [.sl 1 (df l),.v (.bool true)]) [])
  (w:GF prog 122 [.sl 1 (df l),.v (.func (.func 123) #[] #[])] [] (.v (.bool false)) [])
  (m:GF prog 125 [.agg (aD p),.sl 1 (df l),.v (jV 126),.v (jV 127)] [] (.v (sv x)) [])
  (u:GF prog 128 [.v (sv x)] [] (.tup [hE ts,y4 0,y4 c]) [])
  (o:GF prog 129 [hE ts,y4 (x.length:Int)] [] (.tup [.agg [.sl 1 [],.sl 2 [],.sl 3 [],.sl 5 []],y4 k,y4 a]) [])(n:(k==0)=false) :
  GF prog 64 [.agg (aD p)] [] (.v (.bool false)) []:=by
 have G:(p.ah.map aP).length=p.ah.length:=by simp
 have F:decide ((800:Int)<((p.ah.map aP).length:Int))=false:=by rw[G];simpa using by omega
 refine aj func64 ntmps64 ?_;refine zaQ ?_;exact aw
end
section
variable(p r:Src)(l:List T)(x:ai)(ts:List Tok)(c:Int)
def KE(h:p.ah.length<=800)(d:GF prog 74 [.agg (aD p)] [] (.tup [.sl 1 (df l),.v (.bool true)]) [])
  (w:GF prog 122 [.sl 1 (df l),.v (.func (.func 123) #[] #[])] [] (.v (.bool false)) [])
  (m:GF prog 125 [.agg (aD p),.sl 1 (df l),.v (jV 126),.v (jV 127)] [] (.v (sv x)) [])
  (u:GF prog 128 [.v (sv x)] [] (.tup [hE ts,y4 0,y4 c]) [])
   (hg:GF prog 130 [strs p.ax,strs r.ax] [] (.v (.bool false)) [])
  (o:GF prog 129 [hE ts,y4 (x.length:Int)] [] (.tup [.agg (aD r),y4 0,y4 0]) []) :
  GF prog 64 [.agg (aD p)] [] (.v (.bool false)) []:=by
 have G:(p.ah.map aP).length=p.ah.length:=by simp
 have F:decide ((800:Int)<((p.ah.map aP).length:Int))=false:=by rw[G];simpa using by omega
 refine aj func64 ntmps64 ?_;refine zaQ ?_;refine I [] hg ?_;exact aw
def KG(h:p.ah.length<=800)(d:GF prog 74 [.agg (aD p)] [] (.tup [.sl 1 (df l),.v (.bool true)]) [])
  (w:GF prog 122 [.sl 1 (df l),.v (.func (.func 123) #[] #[])] [] (.v (.bool false)) [])
  (m:GF prog 125 [.agg (aD p),.sl 1 (df l),.v (jV 126),.v (jV 127)] [] (.v (sv x)) [])
  (u:GF prog 128 [.v (sv x)] [] (.tup [hE ts,y4 0,y4 c]) [])
   (hg:GF prog 130 [strs p.ax,strs r.ax] [] (.v (.bool true)) [])
  (ha:GF prog 131 [(.sl 2 (p.aq.map fun s=>bb s)),(.sl 2 (r.aq.map fun s=>bb s))] [] (.v (.bool false)) [])
  (o:GF prog 129 [hE ts,y4 (x.length:Int)] [] (.tup [.agg (aD r),y4 0,y4 0]) []) :
  GF prog 64 [.agg (aD p)] [] (.v (.bool false)) []:=by
 have G:(p.ah.map aP).length=p.ah.length:=by simp
 have F:decide ((800:Int)<((p.ah.map aP).length:Int))=false:=by rw[G];simpa using by omega
 refine aj func64 ntmps64 ?_;refine zaQ ?_;refine I [] hg ?_;refine I [] ha ?_;exact aw
def KH(h:p.ah.length<=800)(d:GF prog 74 [.agg (aD p)] [] (.tup [.sl 1 (df l),.v (.bool true)]) [])
  (w:GF prog 122 [.sl 1 (df l),.v (.func (.func 123) #[] #[])] [] (.v (.bool false)) [])
  (m:GF prog 125 [.agg (aD p),.sl 1 (df l),.v (jV 126),.v (jV 127)] [] (.v (sv x)) [])
  (u:GF prog 128 [.v (sv x)] [] (.tup [hE ts,y4 0,y4 c]) [])
   (hg:GF prog 130 [strs p.ax,strs r.ax] [] (.v (.bool true)) [])
  (ha:GF prog 131 [(.sl 2 (p.aq.map fun s=>bb s)),(.sl 2 (r.aq.map fun s=>bb s))] [] (.v (.bool true)) [])
  (hf:GF prog 132 [.sl 3 (p.ak.map aH),.sl 3 (r.ak.map aH),.v (.func (.func 133) #[] #[])] [] (.v (.bool false)) [])
  (o:GF prog 129 [hE ts,y4 (x.length:Int)] [] (.tup [.agg (aD r),y4 0,y4 0]) []) :
  GF prog 64 [.agg (aD p)] [] (.v (.bool false)) []:=by
 have G:(p.ah.map aP).length=p.ah.length:=by simp
 have F:decide ((800:Int)<((p.ah.map aP).length:Int))=false:=by rw[G];simpa using by omega
 refine aj func64 ntmps64 ?_;refine zaQ ?_;refine I [] hg ?_;refine I [] ha ?_;refine I [] hf ?_;exact aw
def KJ(b:Bool)(h:p.ah.length<=800)(d:GF prog 74 [.agg (aD p)] [] (.tup [.sl 1 (df l),.v (.bool true)]) [])
  (w:GF prog 122 [.sl 1 (df l),.v (.func (.func 123) #[] #[])] [] (.v (.bool false)) [])
  (m:GF prog 125 [.agg (aD p),.sl 1 (df l),.v (jV 126),.v (jV 127)] [] (.v (sv x)) [])
  (u:GF prog 128 [.v (sv x)] [] (.tup [hE ts,y4 0,y4 c]) [])
   (hg:GF prog 130 [strs p.ax,strs r.ax] [] (.v (.bool true)) [])
  (ha:GF prog 131 [(.sl 2 (p.aq.map fun s=>bb s)),(.sl 2 (r.aq.map fun s=>bb s))] [] (.v (.bool true)) [])
  (hf:GF prog 132 [.sl 3 (p.ak.map aH),.sl 3 (r.ak.map aH),.v (.func (.func 133) #[] #[])] [] (.v (.bool true)) [])
  (hn:GF prog 134 [.sl 5 (p.ah.map aP),.sl 5 (r.ah.map aP),.v (.func (.func 135) #[] #[])] [] (.v (.bool b)) [])
  (o:GF prog 129 [hE ts,y4 (x.length:Int)] [] (.tup [.agg (aD r),y4 0,y4 0]) []) :
  GF prog 64 [.agg (aD p)] [] (.v (.bool b)) []:=by
 have G:(p.ah.map aP).length=p.ah.length:=by simp
 have F:decide ((800:Int)<((p.ah.map aP).length:Int))=false:=by rw[G];simpa using by omega
 refine aj func64 ntmps64 ?_;refine zaQ ?_;refine I [] hg ?_;refine I [] ha ?_;refine I [] hf ?_;refine I [] hn ?_;exact aw
def EP(H t z R:Bool)(h:p.ah.length<=800)(d:GF prog 74 [.agg (aD p)] [] (.tup [.sl 1 (df l),.v (.bool true)]) [])
  (w:GF prog 122 [.sl 1 (df l),.v (.func (.func 123) #[] #[])] [] (.v (.bool false)) [])
  (m:GF prog 125 [.agg (aD p),.sl 1 (df l),.v (jV 126),.v (jV 127)] [] (.v (sv x)) [])
  (u:GF prog 128 [.v (sv x)] [] (.tup [hE ts,y4 0,y4 c]) [])
  (hg:GF prog 130 [strs p.ax,strs r.ax] [] (.v (.bool H)) [])
  (ha:GF prog 131 [(.sl 2 (p.aq.map fun s=>bb s)),(.sl 2 (r.aq.map fun s=>bb s))] [] (.v (.bool t)) [])
  (hf:GF prog 132 [.sl 3 (p.ak.map aH),.sl 3 (r.ak.map aH),.v (.func (.func 133) #[] #[])] [] (.v (.bool z)) [])
  (hn:GF prog 134 [.sl 5 (p.ah.map aP),.sl 5 (r.ah.map aP),.v (.func (.func 135) #[] #[])] [] (.v (.bool R)) [])
  (o:GF prog 129 [hE ts,y4 (x.length:Int)] [] (.tup [.agg (aD r),y4 0,y4 0]) []) :
  GF prog 64 [.agg (aD p)] [] (.v (.bool (H&&(t&&(z&&R))))) []:=by
 cases H with
 |false=>exact KE p r l x ts c h d w m u hg o
 |true =>
  cases t with
  |false=>exact KG p r l x ts c h d w m u hg ha o
  |true =>
   cases z with
   |false=>exact KH p r l x ts c h d w m u hg ha hf o
   |true=>exact KJ p r l x ts c R h d w m u hg ha hf hn o
end
end Go.Xg
set_option maxHeartbeats 1000000
namespace Go.Xg
open Go.RowKit Go.Xw Go.Proofs Tryz Go.Im
open Go.Xp (aR ey)
open Go.Sp (Src)
attribute [local irreducible] GW GL GO YG GC GA bh bn
def Nx{st:PS}{f:Go.Sp.Fn}(h:f∈pH st):∃x∈st.ak,f.params=x.2:=by
 unfold pH at h;have⟨i,t⟩:=getElem?_of_mem h;rw[List.getElem?_mapIdx]at t
 cases hx:st.ak[i]? with
 |none=>rw[hx]at t;cases t
 |some x=>rw[hx]at t;cases t;exact⟨x,bB hx,rfl⟩
def Mm(p:Src)(hw:cM p<=1048576)(hn:jZ p):GF prog 64 [.agg (aD p)] [] (.v (.bool (fI p))) []:=by
 have⟨⟨s1,s2⟩,⟨s3,s4⟩,⟨s5,T⟩,⟨s7,s8⟩⟩:=et p
 have b:∀n∈p.ah,n.au.length<=1099511627776:=fun n h=>by have:=(s8 n h).2;omega
 have j:=wz p X b X;unfold fI
 by_cases J:p.ah.length>800
 ·rw[ae J];exact EO p J
 rw[D J]
 cases s:j3 p.ah p.ak 0 []with
 |none=>exact BH p X b X s
 |some y =>
  have⟨l,e⟩:=y;simp only
  by_cases w:e≠p.ah.length
  ·rw[ae w];exact HB p l e X b X s w
  rw[D w]
  have w:e=p.ah.length:=by simpa using w
  subst w;have⟨l',O,H,V,h4,h5⟩:=BZ _ _ _ _ _ s;rw[nil_append]at O;subst O
  have S:aR l=p.ah.length:=by omega
  have Q:=UJ hn H S;have i:=Hi H S;have xQ:=gE.len V;have C:=dQ.num hn.ah l 0 H
  by_cases r:l.all eY=false
  ·rw[ae r];exact EN p l X b X s X (fun t o=>by have:=(i t o).2;omega) r
  rw[D r]
  have r:l.all eY=true:=by simpa using r
  have⟨A,c,z,q,st,m⟩:=reads (n2 eh gY p l);rw[Am m];rw[s]at j;unfold BX at j;simp only at j;rw[show((p.ah.length:Int)==(p.ah.length:Int))=true by simp]at j;have B:=vg l X (fun t o=>by have:=(i t o).2;omega);rw[r]at B;have F:=Q9 126 127 eh gY Sh p l X X X X X hn.aq (fun f h=>by have:=(T f h).2.1;omega)
   (fun t o=>⟨fa.1 r t o,kM C o,by have:=(i t o).1;omega,by have:=(i t o).2;omega⟩)
  have G:=Rm _ _ A c z X m.lex;have R:=m.len;have k:=Ib A (((n2 eh gY p l).length:Nat):Int) q st X X (fun h=>by have:=(m.ok h).2;omega) m.read;have N:=Oc _ _ _ _ _ _ (aQ _) m.read ⟨bg _,bg _,bg _,fun x h=>by cases h⟩;have L:=m.ok;clear m s;generalize hxg:n2 eh gY p l=x at *
  by_cases u:c≠0
  ·rw[ae u];exact HC p l x A c z X j B F G (by simpa using u)
  rw[D u]
  have u:c=0:=by simpa using u
  subst u
  by_cases d:q.code≠0
  ·rw[ae d];unfold J1 at k;rw[D d]at k;exact zb p l x A z q.code q.at_ X j B F G k (by simpa using d)
  rw[D d]
  have d:q.code=0:=by simpa using d
  have⟨M,N5⟩:=L d
  by_cases E:aR st.aM>800
  ·rw[ae E];unfold J1 at k;rw[ae d,ae E]at k;exact zb p l x A z 10 0 X j B F G k aN
  rw[D E];rw[X8 d E M.len]at k;have⟨m1,m2,m3,m4⟩:=N
  have hfl:(ey 0 st.aM).length<=800:=by rw[Go.Xp.tg];omega
  unfold same;refine EP p (Tw st) l x A z _ _ _ _ X j B F G ?_ ?_ ?_ ?_ k
  ·exact Is _ _ X (by show st.ax.length<=_;omega)
  ·exact TS _ _ X (by show st.aq.length<=_;omega)
  ·refine Hz p.ak (pH st) X ?_ (fun f h=>by have:=(T f h).2.1;omega) (fun f h=>?_)
   ·unfold pH;rw[List.length_mapIdx];omega
   ·have⟨y,hy,W⟩:=Nx h;rw[W];have:=m4 y hy;omega
  ·exact HA p.ah (ey 0 st.aM) X X b (fun n h=>by have:=zR st.aM 0 n h;omega)
def Hr(n lo hi:Int):GF prog 156 [y4 n,y4 lo,y4 hi] [] (.v (.bool (decide (lo<=n)&&decide (n<=hi)))) []:=by
 cases h:decide (lo<=n)
 all_goals
  refine aj func156 ntmps156 ?_;exact aw
end Go.Xg
set_option maxHeartbeats 2000000
namespace Go.Im
open Go.Xp Go.Sp
def Ba(p:Src):(du p).length=p.ax.length+p.aq.length+p.ak.length:=by simp[du,fG,iL];omega
end Go.Im
namespace Go.Xg
open Go.RowKit Go.Xw Go.Proofs Tryz Go.Im
open GV (U)
open Go.Sp (Src)
attribute [local irreducible] GW GL GO YG GC GA bh bn
def w7:∀l:List ai,ny (bX l)=true
 |[]=>rfl
 |s::l=>by
  have:=w7 l;unfold bX at this |-;rw[List.map_cons,ny,this];rfl
def pY(l:List ai):(bX l).length=l.length:=by simp[bX]
def KT(p:Src)(S:cM p<=1048576):GC prog 47 [.agg (aD p)] [] fun g J=>∃a c,g=.v (.slice a (du p).length c)/\J=[.vech 9 1 (bX (du p)) (.slice a (du p).length c)]:=by
 have⟨⟨a1,M⟩,⟨H,t⟩,⟨G,B⟩,⟨E,q⟩⟩:=et p
 have N:(p.ax.map fun s=>[GV.v (sv s)]).length=p.ax.length:=by simp
 have o:ny (p.ax.map fun s=>[GV.v (sv s)])=true:=w7 p.ax;refine dT func47 ntmps47 ?_;refine GW.wk (Wk.jO 9 1) ?_;simp only[nil_append];refine Z ?_;refine GL.yu 0 rfl rfl rfl rfl o (by refine⟨?_,?_⟩;(· rw[N];omega);(· rw[N];omega)) ?_;intro a c;rw[N];refine zcg ?_;refine GW.range (p.aq.map bb).length (fun k w W=>∃a c R n,w=U::.loc 1 0::U::.v (.slice a n c)::U::U::U::U::U::U::U::U::.sl 2 (p.aq.map bb)::y4 ((p.aq.map bb).length:Int)::y4 (k:Nat)::zU 23 []/\W=[.vech 9 1 R (.slice a n c),.box 28 (aD p)]/\R.length=n/\R=bX (p.ax++(fG p).take k)) ?_ zfd ?_ ?_ ?_
 ·exact⟨_,_,Wk.aW az,_,_,_,_,rfl,rfl,N,by simp[bX]⟩
 ·rintro k _ _⟨a,c,R,n,rfl,rfl,_⟩;exact dN
 ·rintro k _ _ l⟨a,c,R,n,rfl,rfl,C,m⟩
  have l:k<p.aq.length:=by simpa using l
  have hx:p.aq[k]?=some p.aq[k]:=by simp[l]
  have r:=vX hx
  have j:bX (p.ax++(fG p).take (k+1))=R++[[.v (sv p.aq[k].name)]]:=by
   have:(fG p)[k]?=some p.aq[k].name:=by rw[fG,bO,hx];rfl
   rw[dc,this,m];simp[bX]
  have z:n<=4194304:=by
   rw[<-C,m,pY,bf,kr];omega
  clear m;unfold bb at r;generalize p.aq[k]=x at *;exact zbl
 ·rintro _ _⟨a,c,R,n,rfl,rfl,C,m⟩;rw[bC,show p.aq.length=(fG p).length by simp[fG],dx]at m;refine zeA ?_;refine GW.range (p.ak.map aH).length (fun k w W=>∃a c R n,w=U::.loc 1 0::U::.v (.slice a n c)::zU 21 [.sl 3 (p.ak.map aH),y4 ((p.ak.map aH).length:Int),y4 (k:Nat),U,U,U,U,U,U,U,U,U,U]/\W=[.vech 9 1 R (.slice a n c),.box 28 (aD p)]/\R.length=n/\R=bX ((p.ax++fG p)++(iL p).take k)) ?_ zfd ?_ ?_ ?_
  ·exact⟨_,_,Wk.aW az,_,_,_,_,rfl,rfl,C,by rw[m];simp⟩
  ·rintro k _ _⟨a,c,R,n,rfl,rfl,_⟩;exact dN
  ·rintro k _ _ l⟨a,c,R,n,rfl,rfl,C,m⟩
   have l:k<p.ak.length:=by simpa using l
   have hx:p.ak[k]?=some p.ak[k]:=by simp[l]
   have r:=yc hx
   have j:bX ((p.ax++fG p)++(iL p).take (k+1))=R++[[.v (sv p.ak[k].name)]]:=by
    have:(iL p)[k]?=some p.ak[k].name:=by rw[iL,bO,hx];rfl
    rw[dc,this,m];simp[bX]
   have z:n<=4194304:=by
    rw[<-C,m,pY,bf,bf,kr,fG,bC];omega
   clear m;unfold aH at r;generalize p.ak[k]=x at *;exact zbl
  ·rintro _ _⟨a,c,R,n,rfl,rfl,C,m⟩;rw[bC,show p.ak.length=(iL p).length by simp[iL],dx]at m
   have d:n=(du p).length:=by rw[<-C,m,pY];rfl
   subst d;refine bl ?_;refine zcS ?_;exact kD (n:=1) rfl c8 rfl (bg _) rfl rfl ⟨a,c,rfl,by rw[m];rfl⟩
end Go.Xg
set_option maxHeartbeats 4000000
namespace Go.Im
open Go.Xp Go.Sp
def xu(l:List ai)(k:Nat):Int:=if(List.range k).any (kg l)=true then 21 else 0
def Rw(l:List ai)(k:Nat):xu l (k+1)=if kg l k=true then iD (xu l k) 21 else xu l k:=by
 unfold xu;rw[List.range_succ,List.any_append]
 cases h:(List.range k).any (kg l)with
 |true=>simp[iD]
 |false=>simp[iD]
def UZ(l:List ai):xu l l.length=if eK l=true then 21 else 0:=rfl
def gX(p:Src)(fn:Int):Bool:=(cw p&&decide ((0:Int)<=fn))&&decide (fn<(p.ak.length:Int))
end Go.Im
namespace Go.Xg
open Go.RowKit Go.Xw Go.Proofs Tryz Go.Im
open GV (U)
open Go.Sp (Src)
attribute [local irreducible] GW GL GO YG GC GA bh bn
def Ly(p:Src)(hw:cM p<=1048576) :
  GF prog 147 [.loc 0 0] [.box 155 (cC p y6 ⟨[],0,0⟩)] (.tup []) [.box 155 (cC p y6 ⟨[],(if eK (du p)=true then 21 else 0),0⟩)]:=by
 have⟨⟨a1,O⟩,⟨Q,T⟩,⟨W,c2⟩,⟨d1,d2⟩⟩:=et p
 have l:(p.ax.map fun s=>[GV.v (sv s)]).length=p.ax.length:=by simp
 have z:ny (p.ax.map fun s=>[GV.v (sv s)])=true:=w7 p.ax;have M:=Ba p;rw[<-UZ]
 have r:=fun k=>B8 p y6 (xu (du p) k) 21
 rw[show(0:Int)=xu (du p) 0 from rfl];unfold cC at r |-;refine aj func147 ntmps147 ?_;refine nR ?_;refine Z ?_;refine nR ?_;refine Z ?_;refine GL.YW rfl rfl rfl rfl z (by refine⟨?_,?_⟩;(· rw[l];omega);(· rw[l];omega)) ?_;rw[l];refine bm ?_;simp only[iX];refine Z ?_;refine GW.range (p.aq.map bb).length (fun k q A=>∃R n,q=.loc 0 0::U::.vec 1 0::.vec 2 n::zU 18 (.sl 2 (p.aq.map bb)::y4 ((p.aq.map bb).length:Int)::y4 (k:Nat)::zU 45 [])/\A=[.box 155 [strs p.ax,.sl 2 (p.aq.map bb),.sl 3 (p.ak.map aH),.sl 5 (p.ah.map aP),.v y6,y4 (xu (du p) 0),y4 0],.vec 9 1 0 [],.vec 9 1 0 R]/\R.length=n/\R=bX (p.ax++(fG p).take k)) ?_ zfd ?_ ?_ ?_
 ·exact⟨_,_,Wk.aW az,_,_,rfl,rfl,l,by simp[bX,chunk]⟩
 ·rintro k _ _⟨R,n,rfl,rfl,_⟩;exact dN
 ·rintro k _ _ j⟨R,n,rfl,rfl,c,d⟩
  have j:k<p.aq.length:=by simpa using j
  have hx:p.aq[k]?=some p.aq[k]:=by simp[j]
  have F:=vX hx
  have b:bX (p.ax++(fG p).take (k+1))=R++[[.v (sv p.aq[k].name)]]:=by
   have:(fG p)[k]?=some p.aq[k].name:=by rw[fG,bO,hx];rfl
   rw[dc,this,d];simp[bX]
  have w:n<=4194304:=by
   rw[<-c,d,pY,bf,kr];omega
  have L:n+1<=9223372036854775807/\(n+1)*16<=140737488355328:=by omega
  clear d;unfold bb at F;generalize p.aq[k]=x at *;exact zb8
 ·rintro _ _⟨R,n,rfl,rfl,c,d⟩;rw[bC,show p.aq.length=(fG p).length by simp[fG],dx]at d;refine zeA ?_;refine GW.range (p.ak.map aH).length (fun k q A=>∃R n,q=.loc 0 0::U::.vec 1 0::.vec 2 n::zU 34 (.sl 3 (p.ak.map aH)::y4 ((p.ak.map aH).length:Int)::y4 (k:Nat)::zU 29 [])/\A=[.box 155 [strs p.ax,.sl 2 (p.aq.map bb),.sl 3 (p.ak.map aH),.sl 5 (p.ah.map aP),.v y6,y4 (xu (du p) 0),y4 0],.vec 9 1 0 [],.vec 9 1 0 R]/\R.length=n/\R=bX ((p.ax++fG p)++(iL p).take k)) ?_ zfd ?_ ?_ ?_
  ·exact⟨_,_,Wk.aW az,_,_,rfl,rfl,c,by rw[d];simp⟩
  ·rintro k _ _⟨R,n,rfl,rfl,_⟩;exact dN
  ·rintro k _ _ j⟨R,n,rfl,rfl,c,d⟩
   have j:k<p.ak.length:=by simpa using j
   have hx:p.ak[k]?=some p.ak[k]:=by simp[j]
   have F:=yc hx
   have b:bX ((p.ax++fG p)++(iL p).take (k+1))=R++[[.v (sv p.ak[k].name)]]:=by
    have:(iL p)[k]?=some p.ak[k].name:=by rw[iL,bO,hx];rfl
    rw[dc,this,d];simp[bX]
   have w:n<=4194304:=by
    rw[<-c,d,pY,bf,bf,kr,fG,bC];omega
   have L:n+1<=9223372036854775807/\(n+1)*16<=140737488355328:=by omega
   clear d;unfold aH at F;generalize p.ak[k]=x at *;exact zb8
  ·rintro _ _⟨R,n,rfl,rfl,c,d⟩;rw[bC,show p.ak.length=(iL p).length by simp[iL],dx]at d;have d:R=bX (du p):=d
   have m:R.length=(du p).length:=by rw[d,pY]
   have E:n=R.length:=c.symm;subst E;refine bl ?_;refine GW.wk (Wk.ky (t:=3) rfl rfl rfl rfl) ?_;refine GW.wk (Wk.cut (n:=2) (ed rfl) rfl) ?_;refine GW.Fl (de:=.loc 0 0::U::.vec 1 0::.sl 1 R::zU 66 []) (bE:=[.box 155 [strs p.ax,.sl 2 (p.aq.map bb),.sl 3 (p.ak.map aH),.sl 5 (p.ah.map aP),.v y6,y4 (xu (du p) 0),y4 0],.vec 9 1 0 []]) az rfl ?_;refine Z ?_;refine GW.range R.length (fun k q A=>∃S n B,q=.loc 0 0::U::.vec 1 n::zU 47 (.sl 1 R::y4 (R.length:Int)::y4 (k:Nat)::zU 17 [])/\A=[.box 155 [strs p.ax,.sl 2 (p.aq.map bb),.sl 3 (p.ak.map aH),.sl 5 (p.ah.map aP),.v y6,y4 (xu (du p) k),y4 0],.vec 9 1 B S]/\S.length=n/\S=bX ((du p).take k)) ?_ X ?_ ?_ ?_
   ·exact⟨_,_,Wk.aW az,_,_,_,rfl,rfl,rfl,by simp[bX]⟩
   ·rintro k _ _⟨S,n,B,rfl,rfl,_⟩;exact dN
   ·rintro k _ _ j⟨S,n,B,rfl,rfl,e,u⟩;rw[m]at j;obtain⟨x,hx⟩:∃x,(du p)[k]?=some x:=⟨(du p)[k],by simp[j]⟩
    have N:R[k]?=some [.v (sv x)]:=by rw[d,bX,bO,hx];rfl
    have b:bX ((du p).take (k+1))=S++[[.v (sv x)]]:=by rw[dc,hx,u];simp[bX]
    have w:n<=8388608:=by rw[<-e,u,pY,kr];omega
    have L:n+1<=9223372036854775807/\(n+1)*16<=140737488355328:=by omega
    have o:kg (du p) k=(jN x ||((du p).take k).contains x):=by unfold kg;rw[hx]
    have i:=Lz x
    have C:GF prog 58 [.sl 1 S,.v (sv x)] [] (.v (.bool (((du p).take k).contains x))) []:=by
     rw[u];exact kv ((du p).take k) x zfw
    have J:=r k;rw[Rw];clear u d m;generalize xu (du p) k=cd at *;generalize kg (du p) k=V at *
    cases G:jN x with
    |true =>
     rw[G]at i o;subst o;rw[ae ze6];refine Z ?_;refine I [] i ?_;refine I [0] J ?_;exact zbT
    |false =>
     rw[G]at i o
     cases H:((du p).take k).contains x with
     |true =>
      rw[H]at C o;subst o;rw[ae ze6];refine zee ?_;refine I [0] J ?_;exact zbT
     |false =>
      rw[H]at C o;subst o;rw[D ze6];refine zee ?_;exact zbT
   ·rintro _ _⟨S,n,B,rfl,rfl,e,u⟩;rw[m];exact ia
def UH(p:Src)(c z:Int)(h:GF prog 80 [.agg (aD p)] [] (.tup [y4 c,y4 z]) []):GF prog 38 [.agg (aD p)] [] (.v (.bool (c==0))) []:=by
 refine aj func38 ntmps38 ?_;exact zbg
open Go.Xp (T bc aR)
def Kj{l:List T}{t:T}(h:t∈l):bc t<=aR l:=by
 have⟨k,m⟩:=getElem?_of_mem h;have:=gZ m;omega
def FD{p:Src}(h:fI p=false):cw p=false:=by unfold cw;rw[h];rfl
def Dp{p:Src}{l:List T}(h:fI p=true)(V:iq p l):cw p=((zg p l).1==0):=by
 unfold cw;rw[h,V.xz];simp only[Bool.true_and];rfl
section
variable(p:Src)
def Ce(V:cM p<=1048576)(hn:jZ p):GF prog 44 [.agg (aD p)] [] (.v (.bool (cw p))) []:=by
 have⟨⟨a1,N⟩,⟨H,u⟩,⟨G,B⟩,⟨F,m⟩⟩:=et p;have S:=Mm p V hn
 cases s:fI p with
 |false =>
  rw[s]at S;have:=NK p _ _ (Mh p S);rw[FD s];exact this
 |true =>
  rw[s]at S;have⟨l,T⟩:=uB s;have E:=gE.len T.ak;have c:=Ba p;have k:=C3 T
  have o:=Kx p l (du p) X E X S (KT p V) (Pz p X X fun a z=>⟨(k a z).1,by have:=(k a z).2;omega⟩) fun i f t M w=>by
   have⟨e,_⟩:=gE.at_ T.ak i f t M w;have R:=dQ.ix l 0 i _ T.st w;rw[iX]at e R
   have A:f.body.toNat=aR (l.take i):=by rw[e,dC]
   have q:=Kj (bB w);have:=T.len;have:=Nw p i f t X (fun n h=>by have:=(m n h).2;omega) X X X M (by have:=(B f (bB M)).2.1;omega) X (by rw[A];exact R) X;rw[A]at this;exact this
  rw[Dp s T];exact NK p _ _ o
def P5(V:cM p<=1048576):∃c z,GF prog 80 [.agg (aD p)] [] (.tup [y4 c,y4 z]) []/\(c==0)=cw p:=by
 have⟨⟨a1,N⟩,⟨H,J⟩,⟨L,B⟩,⟨O,r⟩⟩:=et p;have S:=Ml p V
 cases s:fI p with
 |false =>
  rw[s]at S;exact⟨_,_,Mg p S,by rw[FD s];rfl⟩
 |true =>
  rw[s]at S;have⟨l,T⟩:=uB s;have E:=gE.len T.ak;have m:=C3 T
  have W:∀a∈p.aq,0<=a.size/\a.size<=2147483648:=fun a A=>⟨(m a A).1,by have:=(m a A).2;omega⟩
  have⟨Q,G⟩:=T.Ez
  have b:=fun k=>FZ p y6 k X W fun h=>Em p y6 k X X W h
  have d:=T.len
  have C:=Kw p l _ _ E X X X (fun f h=>by have:=(B f h).2.1;omega) (fun t o=>by have:=Kj o;omega) S (Ly p V) (b _) fun i f t M w=>by
   have⟨j,_⟩:=gE.at_ T.ak i f t M w;have R:=dQ.ix l 0 i _ T.st w;rw[iX]at j R;rw[j];exact Bw p (fun n h=>by have:=(r n h).2;omega) _ _ t ((ue _).1 t _ R (aQ _))
  have q:=Wd (p:=p) (l:=l) (fun a A=>(m a A).1) (fun t o=>by have⟨i,F⟩:=getElem?_of_mem o;exact(G.wf F).1)
  have e:((MZ p l).code==0)=cw p:=by
   rw[Dp s T]
   by_cases u:(zg p l).1=0
   ·rw[u,q.1 u]
   ·have M:(MZ p l).code≠0:=fun e=>u (q.2 e)
    rw[show((zg p l).1==0)=false by simpa using u,show((MZ p l).code==0)=false by simpa using M]
  exact⟨_,_,C,e⟩
def yG(R:cM p<=1048576):GF prog 38 [.agg (aD p)] [] (.v (.bool (cw p))) []:=by
 have⟨c,z,h,e⟩:=P5 p R;rw[<-e];exact UH p c z h
def QL(fn:Int)(R:cM p<=1048576)(hn:jZ p):GF prog 83 [.agg (aD p),y4 fn] [] (.v (.bool (gX p fn))) []:=by
 have⟨⟨a1,M⟩,⟨H,s⟩,⟨G,B⟩,⟨E,k⟩⟩:=et p;have h:=UD p fn _ _ X (Ce p R hn) (Hr fn 0 _)
 have e:gX p fn=((decide ((0:Int)<=fn)&&decide (fn<=(((p.ak.map aH).length:Int)-1)))&&cw p):=by
  unfold gX;rw[show decide (fn<=(((p.ak.map aH).length:Int)-1))=decide (fn<(p.ak.length:Int)) by rw[bC];apply decide_eq_decide.2;omega]
  cases cw p<;>cases decide ((0:Int)<=fn)<;>cases decide (fn<(p.ak.length:Int))<;>rfl
 rw[e];exact h
def Ys(k:∀n∈p.ah,n.au.length<=1000000000000)(f:Go.Sp.Fn)(t:T)(w:0<=f.body)(E:dW p.ah f.body.toNat t):GF prog 120 [.agg (aD p),y4 f.body] [] (.agg (cT t)) []:=by
 have:=Bw p k _ _ t ((ue _).1 t _ E (aQ _))
 rwa[Int.toNat_of_nonneg w]at this
end
end Go.Xg
namespace Go.Im
open Go.Xp Go.Sp
def Good.xz{p:Src}{l:List T}(h:Good p l):j3 p.ah p.ak 0 []=some (l,p.ah.length):=h.st.xz
structure eQ(p:Src)(l:List T)(i:Nat)(f:Go.Sp.Fn)(t:T):Prop where
 good:Good p l
 gf:p.ak[i]?=some f
 gt:l[i]?=some t
 ok:qF p t f.params
 wf:fR t
 z:zT t
 st:dW p.ah f.body.toNat t
 body:0<=f.body
 sz:bc t<=800
def Good.fn{p:Src}{l:List T}(h:Good p l){i:Nat}{f:Go.Sp.Fn}{t:T}(e:p.ak[i]?=some f)(J:l[i]?=some t):eQ p l i f t:=by
 have⟨a1,M,s,N,m⟩:=h.at_ _ _ _ e J;refine⟨h,e,J,a1,M,s,N,m,?_⟩;have:=h.st.few;have:=N.le;omega
def vE{p:Src}{fn:Int}(h:gX p fn=true):∃(i:Nat)(l:List T)(f:Go.Sp.Fn)(t:T),fn=(i:Int)/\eQ p l i f t:=by
 unfold gX at h;simp only[aU,decide_eq_true_eq]at h;have⟨⟨O,v⟩,w⟩:=h;have⟨l,V⟩:=yH O;have E:=V.len
 have u:fn.toNat<p.ak.length:=by omega
 have e:p.ak[fn.toNat]?=some p.ak[fn.toNat]:=cq _;have J:l[fn.toNat]?=some (l[fn.toNat]'ze4):=cq _;have⟨a1,M,s,N,m⟩:=V.at_ _ _ _ e J;refine⟨fn.toNat,l,_,_,by omega,V,e,J,a1,M,s,N,m,?_⟩;have:=V.st.few;have:=N.le;omega
end Go.Im
namespace Go.Xg
open Go.RowKit Go.Xw Go.Proofs Go.Im
open Go.Xp (T bc)
open Go.Sp (Src)
attribute [local irreducible] GW GL GO YG GC GA bh bn
def NM{p:Src}{fn:Int}(h:gX p fn=true):cw p=true:=by
 unfold gX at h;simp only[aU,decide_eq_true_eq]at h;exact h.1.1
def Gj:∀l:List Int,ny (l.map fun i=>[y4 i])=true
 |[]=>rfl
 |a::l=>by
  have:=Gj l;rw[List.map_cons,ny,this];rfl
end Go.Xg
namespace Go.Xg
open Go.RowKit Go.Xw Go.Proofs Tryz Go.Im
open GV (U)
open Go.Xp (Nd T bc aR gm jC ey tg bQ wO yC)
def Bp:∀(ab7 A J:ap),ab7.length<=J.length->fB (A++ab7) (List.range' A.length ab7.length) J=A++J
 |[],A,J,h=>by
  show fB (A++[]) [] J=_;rw[fB,fV]
 |x::ab7,A,[],h=>by simp at h
 |x::ab7,A,y::J,h=>by
  rw[length_cons,List.range'_succ,fB]
  have e:oset (A++x::ab7) A.length y=(A++[y])++ab7:=by rw[Al];simp
  have:=Bp ab7 (A++[y]) J zfb;rw[bf,length_singleton]at this;rw[e,this];simp
section
variable{P:Program}{m:Nat}{Q:dU}{fr:am}{Γ:ap}{ops:Array Oper}{rest:List Oper}{d:Option Tmp}{op:Op}{ty:TypeId}{pos:String}{af:Array Edge}
def GL.T8{f:FuncId}[hf:eI P f](A ab7:ap){args:List Operand}{C:Array TypeId}{gs:am}{R:GV->ap->Prop}(k:GC P f gs ab7 R)(G:Γ=A++ab7)(u:∀x∈ab7,x.uG=true)(s:∀r,Go.Xg.mP r gs=gs)(ha:ku (args.map (a8 fr)) gs)
  (h:∀g J,R g J->ab7.length<=J.length/\(∀x∈J,x.uG=true)/\(∀r,eJ r g=g)/\GL P m ops Q rest (bN fr d g) (A++J)) :
  GL P m ops Q (⟨d,.call ⟨.value (.func f),args.toArray,C⟩,ty,pos,af,none⟩::rest) fr Γ:=by
 subst G
 refine GL.K8 (List.range' A.length ab7.length) k (by rw[s];exact ha) (Ia _ _ _ (by simp only[bf];omega)) ?_ fun g J t=>?_
 ·have:=Bo (cS (List.range' A.length ab7.length) (A++ab7).length) ab7 A [] u;rw[fV]at this;exact this
 have⟨M,v,w,N⟩:=h g J t;refine⟨by rw[List.length_range'];exact M,?_⟩;rw[UR v,Bp _ _ _ M,w];exact N
end
def dm(bd:List Nd)(h:Value)(ns:List Value):ap:=.vech 82 5 (List.zipWith eN bd ns) h::List.zipWith iP bd ns
structure o9(bd:List Nd)(h:Value)(ns:List Value):Prop where
 head:∃a c,h=.slice a bd.length c
 len:ns.length=bd.length
 kid:∀(i:Nat)x y,bd[i]?=some x->ns[i]?=some y->Hd x.au.length y
section
variable{bd:List Nd}{h:Value}{ns:List Value}
def w5:∀x∈dm bd h ns,x.uG=true:=fun x hx=>by
 rcases ln hx with rfl|hx
 ·rfl
 ·exact Hv (fun _ _=>rfl) x hx
def sV(H:o9 bd h ns):(dm bd h ns).length=bd.length+1:=by
 unfold dm;rw[length_cons,uW,H.len,Nat.min_self]
end
def eM(x:Nd)(ks:List Int):Nd:=⟨x.ab,x.at_,x.n,x.s,ks⟩
def o9.snoc{bd:List Nd}{h:Value}{ns:List Value}(H:o9 bd h ns)(x:Nd){a b:Option Addr}{c d:Nat}:o9 (bd++[x]) (.slice a (bd.length+1) c) (ns++[.slice b x.au.length d]):=by
 refine⟨⟨a,c,by simp⟩,by simp[H.len],fun i y v M w=>?_⟩;have T:=H.len
 rcases Nat.lt_or_ge i bd.length with t|t
 ·rw[l7 t]at M;rw[l7 X]at w;exact H.kid i y v M w
 ·rw[lz t]at M;rw[lz X,T]at w
  cases l:i-bd.length with
  |zero =>
   rw[l]at M w
   cases M;cases w
   exact⟨_,_,rfl⟩
  |succ k=>rw[l]at M;simp at M
def H8{bd:List Nd}{ns:List Value}(T:ns.length=bd.length)(x:Nd)(y h:Value):dm (bd++[x]) h (ns++[y])=.vech 82 5 (List.zipWith eN bd ns++[eN x y]) h::(List.zipWith iP bd ns++[iP x y]):=by
 unfold dm;rw[List.zipWith_append T.symm,List.zipWith_append T.symm];rfl
def o9.put{bd:List Nd}{h:Value}{ns:List Value}(H:o9 bd h ns){i:Nat}{x:Nd}(hx:bd[i]?=some x)(ks:List Int){b:Option Addr}{d n:Nat}(hn:n=ks.length):o9 (bd.set i (eM x ks)) h (ns.set i (.slice b n d)):=by
 subst hn;have⟨a,c,e⟩:=H.head;refine⟨⟨a,c,by rw[e,length_set]⟩,by simp[H.len],fun j y v M w=>?_⟩;rw[ik]at M w
 by_cases L:i=j
 ·rw[ae L]at M w;split at M
  ·cases M;split at w
   ·cases w;exact⟨_,_,rfl⟩
   ·cases w
  ·cases M
 ·rw[D L]at M w;exact H.kid j y v M w
def ye:∀{bd:List Nd}{ns:List Value}{i:Nat}{x:Nd}(ks:List Int)(y:Value),ns.length=bd.length->bd[i]?=some x->dw (List.zipWith eN bd ns) i 4 (.v y)=List.zipWith eN (bd.set i (eM x ks)) (ns.set i y)
 |[],ns,i,x,ks,y,T,h=>by simp at h
 |n::bd,[],i,x,ks,y,T,h=>by simp at T
 |n::bd,v::ns,0,x,ks,y,T,h=>by cases h;rfl
 |n::bd,v::ns,i+1,x,ks,y,T,h=>by
  have:=ye (bd:=bd) (ns:=ns) (i:=i) (x:=x) ks y zfk zfb;rw[zipWith_cons_cons,dw,this];rfl
def x9:∀{bd:List Nd}{ns:List Value}{i:Nat}{x:Nd}(ks:List Int)(y:Value),ns.length=bd.length->bd[i]?=some x->oset (List.zipWith iP bd ns) i (.vech 3 1 (bK ks) y)=List.zipWith iP (bd.set i (eM x ks)) (ns.set i y)
 |[],ns,i,x,ks,y,T,h=>by simp at h
 |n::bd,[],i,x,ks,y,T,h=>by simp at T
 |n::bd,v::ns,0,x,ks,y,T,h=>by cases h;rfl
 |n::bd,v::ns,i+1,x,ks,y,T,h=>by
  have:=x9 (bd:=bd) (ns:=ns) (i:=i) (x:=x) ks y zfk zfb;rw[zipWith_cons_cons,oset,this];rfl
def kb(bd:List Nd)(n:Nd)(l:List T)(k:Nat):List Nd:=bd++eM n (bQ (bd.length+1) (l.take k))::ey (bd.length+1) (l.take k)
section
variable{bd:List Nd}{n:Nd}{l:List T}
def F9{k:Nat}:(kb bd n l k).length=bd.length+1+aR (l.take k):=by
 unfold kb;rw[bf,length_cons,tg];omega
def UT{k:Nat}:(kb bd n l k)[bd.length]?=some (eM n (bQ (bd.length+1) (l.take k))):=by
 unfold kb;rw[lz (aQ _),sY];rfl
def OM{k:Nat}{u:T}(h:l[k]?=some u) :
  (kb bd n l k).set bd.length (eM (eM n (bQ (bd.length+1) (l.take k))) (bQ (bd.length+1) (l.take k)++[(((kb bd n l k).length:Nat):Int)]))++jC (kb bd n l k).length u=kb bd n l (k+1):=by
 have R:l.take (k+1)=l.take k++[u]:=by rw[dc,h];rfl
 rw[F9];unfold kb;rw[List.set_append_right _ _ (aQ _),sY,set_cons_zero,R,wO,yC];simp only[bQ,ey,fV,eM,gS,cons_append]
def Ru:kb bd n l l.length=bd++jC bd.length (.mk n l):=by
 unfold kb eM;rw[dx,jC]
end
attribute [local irreducible] GW GL GO YG GC GA bh bn
def Q3:∀(N:Nat)(t:T),bc t<=N->∀(bd:List Nd)(h:Value)(ns:List Value),o9 bd h ns->bd.length+bc t<=8388608 ->
  GC prog 61 [.v h,.agg (cT t)] (dm bd h ns) fun g Δ=>∃j e,o9 (bd++jC bd.length t) j e/\g=.v j/\Δ=dm (bd++jC bd.length t) j e:=by
 intro N
 induction N with
 |zero=>intro t h;exact zel
 |succ N ih =>
 intro t hN bd h ns H hb
 cases t with
 |mk n l =>
 rw[Go.Xp.bc]at hN hb;have xQ:=gm l;have B:(bj l).length=l.length:=bq l;have hml:=sV H;have FN:=H.len;obtain⟨a0,c0,rfl⟩:=H.head
 have hRl:(List.zipWith eN bd ns).length=bd.length:=by rw[uW];omega
 have hOl:(List.zipWith iP bd ns).length=bd.length:=by rw[uW];omega
 have hOk:∀q,qW q (List.zipWith iP bd ns)=true:=fun q=>JW (Hv (fun _ _=>rfl))
 have hsn:=fun(y h:Value)=>H8 FN (eM n []) y h
 have hHs:=fun(a:Option Addr)(c:Nat)=>H.snoc (eM n []) (a:=a) (c:=c) (b:=none) (d:=0)
 refine dT func61 ntmps61 ?_;rw[hml];unfold dm;generalize List.zipWith eN bd ns=R at *;generalize List.zipWith iP bd ns=O at *;refine GW.seq ?_;refine GW.region ?_;refine GL.wA rfl rfl ?_;refine bm ?_;refine CP ?_;refine GL.abk rfl rfl rfl rfl rfl rfl ?_;refine bm ?_
 have hq:∀x:Ob,(x::O).length=O.length+1:=fun x=>rfl
 simp only[hq,cons_append]
 have w:∀x y:Ob,(x::(O++[y]))[O.length+1]?=some y:=fun x y=>V5 (x::O) [] y
 have NX:∀x y z:Ob,oset (x::(O++[y])) (O.length+1) z=x::(O++[z]):=fun x y z=>Al (x::O) [] y z
 refine Z ?_;refine GL.st rfl (w _ _) rfl rfl rfl rfl ?_;refine rV sX (NX _ _ _) ?_;refine Z ?_;refine GL.q (YG.Rc rfl (w _ _) rfl rfl) ?_;refine bm ?_;refine GL.ij 0 rfl rfl rfl rfl rfl rfl rfl rfl hRl ke ?_;intro a1 c1;refine zaJ ?_;refine GW.range (bj l).length (fun k fr Γ=>∃j e,fr=.v j::U::U::.box (cT (.mk n l)) 0::U::y4 (bd.length:Nat)::zU 13 (.sl 6 (bj l)::y4 ((bj l).length:Int)::y4 (k:Nat)::zU 21 [])/\o9 (kb bd n l k) j e/\Γ=dm (kb bd n l k) j e) ?_ X ?_ ?_ ?_
 ·have e0:kb bd n l 0=bd++[eM n []]:=by unfold kb;rw[List.take_zero];rfl
  rw[e0];refine⟨_,_,((Wk.Ug (A:=_::O) rfl (by rw[length_cons,hOl];exact aQ _) (fun q=>by simp only[qW,hOk];rfl)).trans (Wk.jO 3 1)).trans (Wk.aW az),_,ns++[.slice none 0 0],rfl,hHs a1 c1,?_⟩;rw[hsn];rfl
 ·rintro k _ _⟨j,e,rfl,_,rfl⟩;exact dN
 ·rintro k _ _ G⟨j,e,rfl,o,rfl⟩;rw[B]at G;obtain⟨u,hu⟩:∃u,l[k]?=some u:=⟨l[k],by simp[G]⟩;have hr:=dp hu;have pf:=gZ hu;have hMl:=F9 (bd:=bd) (n:=n) (l:=l) (k:=k);have i:=UT (bd:=bd) (n:=n) (l:=l) (k:=k);have hMn:=OM (bd:=bd) (n:=n) hu;rw[<-hMn];obtain⟨a2,c2,rfl⟩:=o.head;have r:=o.len;obtain⟨y,hy⟩:∃y,e[bd.length]?=some y:=⟨e[bd.length]'X,cq _⟩;obtain⟨a3,c3,rfl⟩:=o.kid _ _ _ i hy
  have S:=fun(a:Option Addr)(c:Nat)=>o.put i (bQ (bd.length+1) (l.take k)++[(((kb bd n l k).length:Nat):Int)]) (b:=a) (d:=c) (n:=(bQ (bd.length+1) (l.take k)).length+1) ze6
  have NW:=fun(y:Value)=>ye (bQ (bd.length+1) (l.take k)++[(((kb bd n l k).length:Nat):Int)]) y r i
  have L:=fun(y:Value)=>x9 (bQ (bd.length+1) (l.take k)++[(((kb bd n l k).length:Nat):Int)]) y r i
  have V:(List.zipWith eN (kb bd n l k) e)[bd.length]?=some (eN (eM n (bQ (bd.length+1) (l.take k))) (.slice a3 (bQ (bd.length+1) (l.take k)).length c3)):=by rw[getElem?_zipWith,i,hy];rfl
  have E:(List.zipWith iP (kb bd n l k) e)[bd.length]?=some (.vech 3 1 (bK (bQ (bd.length+1) (l.take k))) (.slice a3 (bQ (bd.length+1) (l.take k)).length c3)):=by rw[getElem?_zipWith,i,hy];rfl
  have S2:bd.length<(List.zipWith eN (kb bd n l k) e).length:=by rw[uW];omega
  have xq:(bK (bQ (bd.length+1) (l.take k))).length=(bQ (bd.length+1) (l.take k)).length:=by simp[bK]
  have W1:bK (bQ (bd.length+1) (l.take k)++[(((kb bd n l k).length:Nat):Int)])=bK (bQ (bd.length+1) (l.take k))++[[y4 ((kb bd n l k).length:Nat)]]:=by simp[bK]
  have NT:(bQ (bd.length+1) (l.take k)).length<=8388608:=by
   rw[Go.Xp.db,kr];omega
  rw[W1]at L
  have C:=fun(h:Value)(Tm:List Value)H2=>ih u X ((kb bd n l k).set bd.length (eM (eM n (bQ (bd.length+1) (l.take k))) (bQ (bd.length+1) (l.take k)++[(((kb bd n l k).length:Nat):Int)]))) h Tm H2 (by rw[length_set];omega)
  rw[length_set]at C;unfold dm;generalize S1:bQ (bd.length+1) (l.take k)=W at *;generalize hM:kb bd n l k=M at *;generalize hM2:M.set bd.length (eM (eM n W) (W++[((M.length:Nat):Int)]))=M2 at *
  have s:∀x:Ob,(x::List.zipWith iP M e)[bd.length+1]?=some (.vech 3 1 (bK W) (.slice a3 W.length c3)):=fun x=>E
  generalize List.zipWith iP M e=O2 at *;generalize List.zipWith eN M e=R2 at *;unfold eN eM at V;refine CP ?_;refine GL.XS rfl rfl rfl rfl rfl rfl rfl ?_;refine zaf ?_;refine GL.ij (bd.length+1) rfl rfl rfl rfl rfl rfl rfl (s _) xq ke ?_;intro a4 c4;refine rV sX (by simp only[oset];rw[L]) ?_;refine Z ?_;refine wq ?_;simp only[iX];rw[NW];have H2:=S a4 c4;have AV:=sV H2;refine Z ?_;refine GL.T8 [] (dm M2 (.slice a2 M.length c2) (e.set bd.length (.slice a4 (W.length+1) c4))) (C _ _ H2) rfl w5 (fun _=>rfl) (pO) ?_;rintro _ _⟨h5,ns5,H5,rfl,rfl⟩;have F:=sV H5;rw[bf]at F;refine⟨by rw[AV,F];omega,w5,fun _=>rfl,?_⟩;rw[nil_append];refine zaf ?_;exact⟨rfl,rfl,_,_,Wk.aW az,h5,ns5,rfl,H5,rfl⟩
 ·rintro _ _⟨j,e,rfl,o,rfl⟩;rw[B]at o |-;rw[Ru]at o |-;have J:=sV o;refine bl ?_;unfold dm;refine zcS ?_;refine kD (n:=(dm (bd++jC bd.length (.mk n l)) j e).length) rfl c8 rfl (by rw[J,bf];omega) ?_ rfl ?_
  ·show sH _ (List.take _ (dm _ _ _))=true;rw[dx];exact JW w5
  ·show ∃h2 Tm,_/\_/\List.take _ (dm _ _ _)=_;rw[dx];exact⟨j,e,o,rfl,rfl⟩
end Go.Xg
set_option maxHeartbeats 2000000
namespace Go.Xg
open Go.RowKit Go.Xw Go.Proofs Go.Im
open Go.Sp (Src)
def PF(l:List Value)(i:Nat):Value:=(l[i]?).getD undef
def Qf{K:Fz}{β:Bt}{v a b c d:Value}(h:Rel K β v (.agg [.v a,.v b,.v c,.v d])):v=.agg #[a,b,c,d]:=by
 cases h with
 |agg e J T h =>
  match e,T with
  |[x,y,z,u],_ =>
   rw[Rel.eP (h 0 x _ rfl rfl),Rel.eP (h 1 y _ rfl rfl),Rel.eP (h 2 z _ rfl rfl),Rel.eP (h 3 u _ rfl rfl)]
section
variable{B:Bs}{K:Fz}{β:Bt}{w:World}{l:List Value}{fr:am}{A C ab7:ap}{p:Src}{hg ha hf hn:Value}{fs ns:List Value}
def Nh(p:Src):∀g∈aD p,g.pc=true:=fun g hg=>by
 simp only[aD,List.mem_cons,not_mem_nil,or_false]at hg
 rcases hg with rfl|rfl|rfl|rfl<;>rfl
end
end Go.Xg
namespace Go.Xg
open Go.RowKit Go.Xw Go.Proofs
open Go.Xp (Nd)
def Pb{K e:Fz}{β fS:Bt}{vs:List Value}{gs:am}(h:bA K β vs gs)(hg:∀g∈gs,∃x,g=.v x):bA e fS vs gs :=
 ⟨h.1,fun i v g M z=>by
  obtain⟨x,rfl⟩:=hg g (bB z)
  rw[Rel.eP (h.2 i v _ M z)];exact .v _⟩
def Ob.JD:Ob->Prop
 |.vech _ _ e _=>∀r∈e,∀g∈r,∃x,g=GV.v x
 |_=>False
def MF:Ob->Bk
 |.vech _ _ e x=>.gr x e.length
 |_=>.no
def jh(N:ap):Bt:=fun i=>match N[i]? with
 |some x=>MF x
 |none=>.no
structure Pk(N:ap)(h:Nat->Option Obj):Prop where
 plain:∀x∈N,x.JD
 dis:∀i j b,(jh N i).has b->(jh N j).has b->i=j
 dom:∀b,(h b).isSome=true↔∃i,(jh N i).has b
 own:∀w:World,(∀b o,h b=some o->w.heap[b]?=some o)->∀(i:Nat)E k rows x,N[i]?=some (.vech E k rows x)->fM k rows/\∃xs,gT w 0 E k x rows.length xs/\bA (fun _ _=>none) (fun _=>.no) xs rows.flatten
abbrev blob(N:ap):Ob:=.blob (Pk N)
def vo{N:ap}{i:Nat}{x:Ob}(h:N[i]?=some x):jh N i=MF x:=by grind[jh]
theorem AJ{N:ap}{i:Nat}(h:N.length<=i):jh N i=.no:=by grind[jh]
def Gk{w w':World}{base e k:Nat}{v:Value}{n:Nat}{xs:List Value}(h:gT w base e k v n xs)(q:∀b o,v.ownBlock=some b->w.heap[b]?=some o->w'.heap[b]?=some o):gT w' base e k v n xs:=by
 have⟨M,z⟩:=h;refine⟨M,?_⟩
 rcases z with z|⟨g,E,cur,rfl,A,C,r⟩
 ·grind
 ·exact .inr ⟨g,E,cur,rfl,A,q g _ rfl C,r⟩
def Pk.ob{N:ap}{h:Nat->Option Obj}{K:Fz}{β:Bt}{w:World}{i j:Nat}{x:Ob}(C:Pk N h)(O:∀b o,h b=some o->w.heap[b]?=some o/\∀j,K b j=none)(hx:N[j]?=some x)(L:β i=jh N j):gM K β w i x:=by
 have A:=C.plain x (bB hx)
 cases x with
 |vech E k e v =>
  obtain⟨M,u,F,G⟩:=C.own w (fun b o z=>(O b o z).1) j E k e v hx;refine⟨u,by rw[L,vo hx];rfl,F,Pb G (fun g H=>?_),M,fun b z o=>?_⟩
  ·have⟨r,s,c⟩:=List.mem_flatten.1 H;exact A r s g c
  ·have:(h b).isSome=true:=(C.dom b).2 ⟨j,by rw[vo hx];exact z⟩
   grind[Option.isSome_iff_exists]
 |_=>exact A.elim
def J0{K:Fz}{β:Bt}{w:World}{N:ap}(s:Nat)(q:∀x∈N,x.JD)(t:∀(j:Nat)x,N[j]?=some x->gM K β w (s+j) x)(hd:∀i j b,(β i).has b->(β j).has b->i=j) :
  ∃h:Nat->Option Obj,(∀b o,h b=some o->w.heap[b]?=some o/\∀j,K b j=none)/\Pk N h/\∀b,(h b).isSome=true->∃j,j<N.length/\(β (s+j)).has b:=by
 classical
 have V:∀j,j<N.length->β (s+j)=jh N j:=fun j c=>by
  have hx:N[j]?=some N[j]:=cq c;have n:=q _ (bB hx);have u:=t j _ hx;rw[vo hx];generalize N[j]=x at *
  cases x with
  |vech E k e v=>have⟨H,J,_⟩:=u;exact J
  |_=>exact n.elim
 have l:∀j b,(jh N j).has b->j<N.length:=fun j b d=>by
  rcases Nat.lt_or_ge j N.length with h|h
  ·exact h
  ·rw[AJ h]at d;exact d.elim
 have T:∀j b,(jh N j).has b->b<w.heap.size:=fun j b d=>by
  have c:=l j b d;exact(t j _ (cq c)).lt ze3
 refine⟨fun b=>if ∃j,(jh N j).has b then w.heap[b]? else none,fun b o d=>?_,⟨q,fun i j b W c=>?_,fun b=>?_,fun w' G i E k e x hx=>?_⟩,fun b d=>?_⟩
 ·simp only at d;split at d
  ·rename_i c;refine⟨d,fun o=>?_⟩;have⟨j,c⟩:=c;have A:=l j b c;have hx:N[j]?=some N[j]:=cq A;have n:=q _ (bB hx);have u:=t j _ hx;rw[vo hx]at c;generalize N[j]=x at *
   cases x with
   |vech E k e v=>have⟨H,_,_,_,_,R⟩:=u;exact R b c o
   |_=>exact n.elim
  grind
 ·grind
 ·constructor
  ·grind
  ·rintro⟨j,c⟩;rw[ae ⟨j,c⟩]
   grind
 ·have n:=q _ (bB hx);have⟨H,J,L,M,O,_⟩:=t i _ hx;refine⟨O,H,Gk L fun b o d z=>G b o ?_,Pb M fun g S=>?_⟩
  ·show(if ∃j,(jh N j).has b then w.heap[b]? else none)=some o;rw[ae ⟨i,by grind[Bk.has,jh]⟩];exact z
  ·have⟨r,C,F⟩:=List.mem_flatten.1 S;exact n r C g F
 grind
section
variable{B:Bs}{K:Fz}{β:Bt}{Γ:ap}{w:World}
theorem Inv.unpack{i:Nat}{N:ap}(O:Inv B K β Γ w)(H:Γ[i]?=some (blob N)) :
  ∃fS,dO β fS/\(∀j,j<N.length->fS (Γ.length+j)=jh N j)/\(∀j b,(fS j).has b->∃q,(β q).has b)/\Inv B K fS (oset Γ i .gone++N) w:=by
 have⟨h,e,W,A⟩:=O.ob i _ H;have u:=(bR H).1
 have E:∀b,(β i).has b↔(h b).isSome=true:=fun b=>by grind[Bk.has]
 have L:(oset Γ i .gone).length=Γ.length:=by grind[bS]
 have t:∀j,j<Γ.length->(if j<Γ.length then(if j=i then Bk.no else β j)else jh N (j-Γ.length))=if j=i then Bk.no else β j:=fun j G=>ae G
 have r:∀j,Γ.length<=j->(if j<Γ.length then(if j=i then Bk.no else β j)else jh N (j-Γ.length))=jh N (j-Γ.length):=fun j G=>D X
 have V:dO β (fun j=>if j<Γ.length then(if j=i then Bk.no else β j)else jh N (j-Γ.length)):=fun j=>by
  rcases Nat.lt_or_ge j Γ.length with G|G
  ·simp only[t j G]
   by_cases R:j=i
   ·grind[kU]
   simp_all[D,kU.refl]
  ·rw[O.out j G];trivial
 have z:∀j b,(jh N j).has b->(β i).has b:=fun j b v=>(E b).2 ((A.dom b).2 ⟨j,v⟩)
 have o:∀j b,((fun j=>if j<Γ.length then(if j=i then Bk.no else β j)else jh N (j-Γ.length)) j).has b->(j<Γ.length/\j≠i/\(β j).has b)\/(Γ.length<=j/\(jh N (j-Γ.length)).has b):=fun j b v=>by
  grind[Bk.has,jh]
 have n:∀j b,((fun j=>if j<Γ.length then(if j=i then Bk.no else β j)else jh N (j-Γ.length)) j).has b->∃q,(β q).has b:=fun j b v=>by
  grind
 generalize T:(fun j=>if j<Γ.length then(if j=i then Bk.no else β j)else jh N (j-Γ.length))=fS at *;refine⟨fS,V,fun j G=>?_,n,O.ext,O.kle,O.ble.trans V,O.loc,O.fz,fun j x G=>?_,fun j G=>?_,fun a c b F l=>?_,fun j b G=>?_,O.kn,O.tab.step (S:=gn) (Ext.refl w) (fun _ h=>h.elim) (cY.refl K) (fun j b G=>.inl (n j b G))⟩
 ·grind
 ·rcases Nat.lt_or_ge j Γ.length with d|d
  ·rw[l7 X,bS,ik]at G
   by_cases R:i=j
   ·grind[gM]
   ·rw[D R]at G;exact(O.ob j x G).ext (S:=gn) (Ext.refl w) (fun _ _ h=>h) (cY.refl K) V ze3 (fun _ _ _ h=>h)
  ·rw[lz X,L]at G;exact A.ob W G ze3
 ·grind[AJ]
 ·rcases o a b F with⟨a1,M,s⟩|⟨a1,M⟩<;>rcases o c b l with⟨J,C,k⟩|⟨J,C⟩
  ·exact O.dis a c b s k
  ·exact absurd (O.dis a i b s (z _ b C)) M
  ·exact absurd (O.dis c i b k (z _ b M)) C
  ·have:=A.dis _ _ b M C;omega
 ·have⟨q,n⟩:=n j b G;exact O.own q b n
end
section
variable{P:Program}{m:Nat}{fr:am}{Γ:ap}
def Wk.unpack(i:Nat){N:ap}(G:Γ[i]?=some (blob N)):Wk m fr Γ fr (oset Γ i .gone++N):=fun B K β w l d R S=>by
 have⟨E,M,_,_,O⟩:=R.unpack G;exact⟨K,E,O,S.mono (cY.refl K) M⟩
theorem Wk.pack(A N:ap)(c:Γ=A++N)(s:m<=A.length)(L:∀x∈N,x.JD)(e:sH A.length A=true):Wk m fr Γ (u9 A.length fr) (A++[blob N]):=fun B K β w l d O V=>by
 have o:∀(j:Nat)x,N[j]?=some x->Γ[A.length+j]?=some x:=fun j x G=>by grind
 obtain⟨h,r,u,F⟩:=J0 (K:=K) (β:=β) (w:=w) A.length L (fun j x G=>O.ob _ x (o j x G)) O.dis
 have T:Γ.take A.length=A:=by grind
 have k:=O.cut (n:=A.length) X ze3;rw[T]at k;have E:dv (below A.length) β A.length=.no:=qj (q9 (aQ _));have H:dO (dv (below A.length) β) (e9 (dv (below A.length) β) A.length (.set fun b=>(h b).isSome=true)):=gK zfu
 have R:∀b,(h b).isSome=true->∀i,¬(dv (below A.length) β i).has b:=fun b W i t=>by
  have⟨j,_,G⟩:=F b W
  by_cases C:i<A.length
  ·rw[rA (vl C)]at t;have:=O.dis i _ b t G;omega
  ·rw[qj (q9 X)]at t;cases t
 refine⟨K,e9 (dv (below A.length) β) A.length (.set fun b=>(h b).isSome=true),?_,(V.res).mono (cY.refl K) H⟩;refine⟨k.ext,k.kle,k.ble.trans H,k.loc,k.fz,fun i z t=>?_,fun i t=>?_,fun i J b t G=>?_,fun i b t=>?_,k.kn,⟨k.tab.le,k.tab.pow,k.tab.spc,fun i b t=>?_⟩⟩
 ·by_cases q:i<A.length
  ·rw[l7 X]at t;exact(k.ob i z t).ext (S:=gn) (Ext.refl w) (fun _ _ h=>h) (cY.refl K) H (b0 X) (fun _ _ _ h=>h)
  grind[gM,e9,dv,below]
 ·grind[bf,length_singleton,b0,qj,q9]
 ·by_cases M:i=A.length<;>by_cases v:J=A.length
  ·omega
  ·subst M;rw[bH]at t;rw[b0 v]at G;exact absurd G (R b t J)
  ·subst v;rw[bH]at G;rw[b0 M]at t;exact absurd t (R b G i)
  ·rw[b0 M]at t;rw[b0 v]at G;exact k.dis i J b t G
 ·rcases kO t with M|M
  ·have⟨j,_,G⟩:=F b M;exact O.own _ b G
  ·exact k.own i b M
 ·rcases kO t with M|M
  ·have⟨j,_,G⟩:=F b M;exact O.tab.free _ b G
  ·exact k.tab.free i b M
end
def GC.blob{P:Program}{f:FuncId}{gs:am}{N:ap}{R:GV->ap->Prop}(hc:GC P f gs N R)(hR:∀g F,R g F->(∀x∈F,x.JD)/\∃x,g=.v x) :
  GC P f gs [Go.Xg.blob N] fun g F=>∃V,R g V/\F=[Go.Xg.blob V]:=fun B K β w vs hB l hF=>by
 have⟨h,e,hh,O⟩:=l.ob 0 _ rfl
 have L:∀b,(β 0).has b↔(h b).isSome=true:=fun b=>by grind[Bk.has]
 have W:∀j b,(jh N j).has b->(β 0).has b:=fun j b n=>(L b).2 ((O.dom b).2 ⟨j,n⟩)
 have M:dO β (fun j=>jh N j)->bA K (jh N) vs gs:=fun n=>hF.mono (cY.refl K) n
 have FO:∀i,0<i->β i=.no:=fun i c=>l.out i c
 have H:dO β (jh N):=fun j=>by
  grind[kU,jh]
 have J:Inv (cur K (jh N) N w) K (jh N) N w :=
  ⟨Ext.refl w,cY.refl K,dO.refl _,fun i c=>AJ c,l.fz,fun i x hx=>O.ob hh hx rfl,fun i c=>AJ c,O.dis,fun i b n=>.inl ⟨i,n⟩,fun _ _ _ h=>.inl h,l.tab.step (S:=gn) (Ext.refl w) (fun _ h=>h.elim) (cY.refl K) (fun j b q=>.inl ⟨0,W j b q⟩)⟩
 refine(hc _ K (jh N) w vs rfl J (M H)).mono ?_;rintro v w'⟨G,A,g,s,d,hr,t⟩;obtain⟨T,x,rfl⟩:=hR g s t;obtain⟨C,hh',hp',SY⟩:=J0 (K:=G) (β:=A) (w:=w') 0 T (fun j x q=>by rw[iX];exact d.ob j x q) d.dis
 have u:∀b,(C b).isSome=true->∃j,(A j).has b:=fun b n=>by grind
 have k:∀b,blocks (jh N) b->(β 0).has b:=fun b ⟨j,q⟩=>W j b q
 refine⟨G,fun i=>if i=0 then .set (fun b=>(C b).isSome=true)else .no,.v x,[Go.Xg.blob s],?_,hr.pc rfl,s,t,rfl⟩
 have E:∀i b,((fun i=>if i=0 then Bk.set (fun b=>(C b).isSome=true)else .no) i).has b->i=0/\(C b).isSome=true:=fun i b n=>by
  simp only at n;split at n
  ·rename_i c;exact⟨c,n⟩
  ·exact n.elim
 refine⟨l.ext.step d.ext (fun j q=>(l.own 0 j (k j q)).symm),l.kle.trans d.kle,fun i=>?_,l.loc,d.fz,fun i z c=>?_,fun i c=>?_,fun i j b c q=>?_,fun i b c=>?_,fun b o g hg=>?_,d.tab.step (S:=gn) (Ext.refl w') (fun _ h=>h.elim) (cY.refl G) (fun i b c=>.inl (u b (E i b c).2))⟩
 ·have:=l.ble i
  rcases Nat.eq_zero_or_pos i with c|c
  ·subst c;rw[e]at this;generalize B.β0 0=y at this
   cases y with
   |no=>trivial
   |set S=>trivial
   |fix b=>cases this
   |gr a b=>grind[kU]
  grind
 ·grind[gM]
 ·grind
 ·rw[(E i b c).1,(E j b q).1]
 ·have⟨j,q⟩:=u b (E i b c).2
  rcases d.own j b q with r|r
  ·exact l.own 0 b (k b r)
  ·exact .inr (jy l.ext.size r)
 ·rcases d.kn b o g hg with r|r|r
  ·exact l.kn b o g r
  ·exact .inr (l.own 0 b (k b r))
  ·exact .inr (.inr (jy l.ext.size r))
def Bc{bd:List Nd}{h:Value}{ns:List Value}:∀x∈dm bd h ns,x.JD:=fun x hx=>by
 rcases ln hx with rfl|hx
 ·intro r u g C;have⟨i,t⟩:=getElem?_of_mem u;rw[getElem?_zipWith]at t;split at t
  ·cases t;unfold eN at C;simp only[List.mem_cons,not_mem_nil,or_false]at C
   grind
  grind
 ·have⟨i,t⟩:=getElem?_of_mem hx;rw[getElem?_zipWith]at t;split at t
  ·cases t;intro r u g C;obtain⟨s,_,rfl⟩:=uY.1 u
   grind
  grind
def Inv.uS{B:Bs}{K:Fz}{β:Bt}{Γ A:ap}{w:World}{bd:List Nd}{h:Value}{ns:List Value}(F:Inv B K β Γ w)(H:o9 bd h ns)(c:Γ=A++dm bd h ns)(G:B.m<=A.length)(V:sH A.length A=true) :
  ∃e,cY K e/\Rel e (fun _=>.no) h (.sl 5 (bd.map aP))/\Inv B e (dv (below A.length) β) A w:=by
 have W:=H.len
 have d:∀i,i<bd.length->bd[i]?=some (bd.getD i ⟨0,0,0,[],[]⟩)/\ns[i]?=some (PF ns i):=fun i b=>by
  grind[PF]
 have z:Γ[A.length]?=some (.vech 82 5 (List.zipWith eN bd ns) h):=by rw[c,lz (aQ _),sY];rfl
 have C:∀i,i<bd.length->Γ[A.length+1+i]?=some (.vech 3 1 (bK (bd.getD i ⟨0,0,0,[],[]⟩).au) (PF ns i)):=fun i b=>by
  rw[c,lz X,show A.length+1+i-A.length=i+1 by omega];unfold dm;rw[List.getElem?_cons_succ,P3 (d i b).1 (d i b).2];rfl
 obtain⟨T,l,u,M,J,r,l2,r2,R⟩:=F.RO (jf:=A.length) (N:=bd.length) (o:=4) (E:=3) (k':=1) (raw:=fun i=>eN (bd.getD i ⟨0,0,0,[],[]⟩) (PF ns i)) (fin:=fun i=>aP (bd.getD i ⟨0,0,0,[],[]⟩)) (ks:=fun i=>bK (bd.getD i ⟨0,0,0,[],[]⟩).au) (hd:=fun i=>PF ns i) (jp:=fun i=>A.length+1+i)
  z ⟨by grind,fun i b=>P3 (d i b).1 (d i b).2⟩ (fun i b=>⟨rfl,rfl⟩) C (fun i b=>by omega) (fun i j _ _ h=>by omega)
 have v:u=bd.map aP:=by
  apply ext_getElem?
  grind
 rw[v]at r;have⟨t,O,S,L⟩:=J.rR r
 have k:(oset l A.length (.vec 82 5 (bd.map aP).length (bd.map aP))).take A.length=A:=by
  apply ext_getElem?;intro q;rw[List.getElem?_take];split
  ·rw[bS,ik,D X,R q X (fun i _=>by omega),c,l7 X]
  grind
 have s:=L.cut (n:=A.length) G ze3;rw[k]at s;exact⟨t,M.trans O,S.pc rfl,s⟩
def Wk.uS{m:Nat}{fr:am}{Γ:ap}(A:ap){bd:List Nd}{h:Value}{ns:List Value}{i o:Nat}{T:TypeId}{cs:am}(H:o9 bd h ns)(J:Γ=A++dm bd h ns)(L:m<=A.length)(j:sH A.length A=true)(hi:A[i]?=some (.box T cs))(k:cs[o]?=some (.v h)) :
  Wk m fr Γ (u9 A.length fr) (oset A i (.box T (bU cs o (.sl 5 (bd.map aP))))):=fun B K β w l n O S=>by
 have⟨e,V,r,G⟩:=O.uS H J X j;have⟨b,d,M,z,C,N⟩:=G.ob i _ hi;exact⟨e,_,G.swap ⟨b,d,M,z,bA.bU (r.pc rfl) C k,N⟩,(S.res).mono V (dO.refl _)⟩
def Ob.tP:Ob->Bool
 |.vech _ _ _ _=>true
 |.blob _=>true
 |.box _ J=>pg J
 |_=>false
def Inv.Tr{B:Bs}{K:Fz}{β:Bt}{Γ:ap}{w:World}(h:Inv B K β Γ w){be:List Nat}(c:∀j,j<B.m->be[j]?=some j){N:ap}(W:N.length=be.length)(hn:be.Nodup)
  (hx:∀(j:Nat)x,N[j]?=some x->x.tP=true/\∀i,be[j]?=some i->Γ[i]?=some x):Inv B K (iN β be) N w:=by
 have A:∀i b,(iN β be i).has b->∃q,be[i]?=some q/\(β q).has b:=fun i b t=>by
  grind[iN,Bk.has]
 refine⟨h.ext,h.kle,fun i=>?_,h.loc,h.fz,fun i x t=>?_,fun i t=>?_,fun i j b t G=>?_,fun i b t=>?_,h.kn,h.tab.step (S:=gn) (Ext.refl w) (fun _ h=>h.elim) (cY.refl K) (fun i H z=>?_)⟩
 ·rcases Nat.lt_or_ge i B.m with t|t
  ·have:iN β be i=β i:=by grind[iN]
   rw[this];exact h.ble i
  ·rw[h.loc i t];trivial
 ·have⟨M,z⟩:=hx i x t;have R:=(bR t).1;have u:be[i]?=some (be[i]'X):=cq _
  have L:iN β be i=β (be[i]'X):=by grind[iN]
  cases x with
  |vech E k n v =>
   have⟨F,e,J,l,s,C⟩:=h.ob _ _ (z _ u);exact⟨F,L.trans e,J,l.pg s.flat,s,C⟩
  |blob p =>
   have⟨g,e,J,l⟩:=h.ob _ _ (z _ u)
   grind[gM,iN]
  |box E T =>
   have⟨b,d,e,J,l,s⟩:=h.ob _ _ (z _ u);exact⟨b,d,L.trans e,J,l.pg (kR M),s⟩
  |_=>cases M
 ·grind[iN]
 ·have⟨q,M,z⟩:=A i b t;have⟨r,V,O⟩:=A j b G;have:=h.dis q r b z O
  grind[List.getElem?_eq_some_iff,List.getElem_inj]
 ·have⟨q,M,z⟩:=A i b t;exact h.own q b z
 grind
def Je{P:Program}{fn:Func}{R:GV->ap->Prop}{fr:am}{Γ:ap}{e:Exit}{t u s:Tmp}{T:TypeId}{k:Nat}[hT:Ty P T true k]{i:Nat}{E:TypeId}{cs:am}{y z:Value}(n:Nat)(hr:fn.results=#[.cell t T,.tmp u,.tmp s])(S:e=.normal\/e=.ret)(hg:cJ fr t=.loc i 0)(H:Γ[i]?=some (.box E cs))(hk:cs.length=k)(V:pg cs=true)(r:cJ fr u=.v y)(A:cJ fr s=.v z)
  (ha:∀x∈Γ.drop n,x.tP=true)(h:R (.tup [.agg cs,.v y,.v z]) (Γ.drop n)):tN P fn 0 R e fr Γ :=
 ⟨S,fun B K β w l hB L q=>by
  have⟨b,vs,h1,h2,N,h4⟩:=L.ob i _ H
  have G:nth l t=.pointer (some ⟨b,0,none⟩):=by
   have:=q.nth t;rw[hg]at this;generalize nth l t=v at this
   cases this with
   |loc _ _ b' O=>grind
  have W:l.toArray.getD t undef=.pointer (some ⟨b,0,none⟩):=by rw[jI,G]
  have F:=mQ (P:=P) (w:=w) (t:=T) (b:=b) (o:=0) (vs:=vs) (k:=k) X (fun j v C=>by
   grind[World.cell?])
  have d:l[t]?.getD undef=.pointer (some ⟨b,0,none⟩):=by simp_all
  have J:bA K (iN β ((List.range (Γ.length-n)).map (·+n))) vs cs:=N.pg (kR V);have hu:nth l u=y:=Rel.eP (by rw[<-r];exact q.nth u);have hs:nth l s=z:=Rel.eP (by rw[<-A];exact q.nth s);have c:(Γ.drop n).length=((List.range (Γ.length-n)).map (·+n)).length/\((List.range (Γ.length-n)).map (·+n)).Nodup /\
   ∀(j:Nat)x,(Γ.drop n)[j]?=some x->x.tP=true/\∀i,((List.range (Γ.length-n)).map (·+n))[j]?=some i->Γ[i]?=some x:=by
   refine⟨by simp,?_,fun j x C=>⟨ha x (bB C),fun i hi=>?_⟩⟩
   ·grind[List.nodup_range]
   grind
  refine⟨.tuple #[.agg vs.toArray,y,z],K,iN β ((List.range (Γ.length-n)).map (·+n)),.tup [.agg cs,.v y,.v z],Γ.drop n,?_,L.Tr (fun j C=>by omega) c.1 c.2.1 c.2.2,?_,h⟩
  ·rw[<-hu,<-hs,<-jI l u,<-jI l s];simp[results,hr,d,asAddr,F]
  ·have M:bA K (iN β ((List.range (Γ.length-n)).map (·+n))) [.agg vs.toArray,y,z] [.agg cs,.v y,.v z]:=.cons (.agg vs cs J.1 J.2) (.cons (.v _) (.cons (.v _) .nil))
   exact .tup [.agg vs.toArray,y,z] _ M.1 M.2⟩
def Wk.LJ{m:Nat}{fr:am}{Γ:ap}(G:m<=Γ.length)(e:sH Γ.length Γ=true):Wk m fr Γ (u9 Γ.length fr) (Γ++[blob (dm [] y6 [])]) :=
 (Wk.jO 82 5).trans (Wk.pack Γ (dm [] y6 []) rfl G Bc e)
theorem o9.nil:o9 [] y6 []:=⟨⟨none,0,rfl⟩,rfl,fun i x y h=>by simp at h⟩
def Gn(Γ:ap):List Nat->ap->Prop
 |[],[]=>True
 |i::r,x::u=>(Γ[i]?=some x/\x.tP=true)/\Gn Γ r u
 |_,_=>False
def zA{Γ:ap}:∀{be:List Nat}{J:ap},Gn Γ be J->J.length=be.length/\∀(j:Nat)x,J[j]?=some x->x.tP=true/\∀i,be[j]?=some i->Γ[i]?=some x
 |[],[],_=>⟨rfl,fun j x h=>by simp at h⟩
 |i::r,x::u,h=>by
  have⟨M,v⟩:=zA h.2;refine⟨by simp[M],fun j y G=>?_⟩
  cases j with
  |zero=>cases G;exact⟨h.1.2,fun H t=>by cases t;exact h.1.1⟩
  |succ j=>grind
 |[],_::_,h=>h.elim
 |_::_,[],h=>h.elim
def SO{P:Program}{fn:Func}{m:Nat}{R:GV->ap->Prop}{fr:am}{Γ:ap}{e:Exit}{t:Tmp}{T:TypeId}{k:Nat}[hT:Ty P T true k]{i:Nat}{E:TypeId}{cs:am}(be:List Nat)(r:ap)(N:fn.results=#[.cell t T])(H:e=.normal\/e=.ret)(hg:cJ fr t=.loc i 0)(q:Γ[i]?=some (.box E cs))(hk:cs.length=k)(L:pg cs=true)
  (O:be.Nodup)(hm:be.take m=List.range m)(hx:Gn Γ be r)(h:R (.agg cs) r):tN P fn m R e fr Γ :=
 ⟨H,fun B K β w l C u F=>by
  have⟨b,vs,h1,h2,A,h4⟩:=u.ob i _ q
  have n:nth l t=.pointer (some ⟨b,0,none⟩):=by
   have:=F.nth t;rw[hg]at this;generalize nth l t=v at this
   cases this with
   |loc _ _ W G=>grind
  have M:l.toArray.getD t undef=.pointer (some ⟨b,0,none⟩):=by rw[jI,n]
  have d:=mQ (P:=P) (w:=w) (t:=T) (b:=b) (o:=0) (vs:=vs) (k:=k) X (fun j v z=>by
   grind[World.cell?])
  have c:l[t]?.getD undef=.pointer (some ⟨b,0,none⟩):=by simp_all
  have s:bA K (iN β be) vs cs:=A.pg (kR L);have⟨S,V⟩:=zA hx;refine⟨.agg vs.toArray,K,iN β be,.agg cs,r,?_,u.Tr (fun j z=>?_) S O V,.agg vs cs s.1 s.2,h⟩
  ·simp[results,N,c,asAddr,d]
  ·rw[C]at z
   have J:(be.take m)[j]?=some j:=by grind
   grind⟩
def Ct(n:Nat)(r:am):Bool:=match r with
 |[.v (.string b)]=>Nat.ble b.data.size n
 |_=>false
def VF{n m:Nat}{rows:List am}(h:rows.all (Ct n)=true)(G:m<rows.length):∃s:ai,rows[m]?=some [.v (sv s)]/\s.length<=n:=by
 have hx:rows[m]?=some rows[m]:=cq G;have M:=fa.1 h rows[m] (bB hx);rw[hx];generalize rows[m]=r at *;unfold Ct at M;split at M
 ·rename_i b;refine⟨b.data.toList,?_,by simp_all⟩;rfl
 grind
section
variable{P:Program}{m:Nat}{Q:dU}{fr:am}{Γ:ap}{ops:Array Oper}{rest:List Oper}{ty:TypeId}{pos:String}{af:Array Edge}
def xp{g:GV}:∀{fr:am}{t:Nat},jc fr t=true->cJ (bU fr t g) t=g
 |[],t,h=>by cases h
 |x::fr,0,h=>rfl
 |x::fr,t+1,h=>xp (fr:=fr) (t:=t) h
def GL.yR{x y:Operand}{E k:Tmp}{t e r:TypeId}[L:lN P t e 1][S:Ty P r false 1]{C:TypeId}{l:String}{z:Array Edge}(n:Nat){q:Nat}{rows:List am}{H:IntKind}(hx:a8 fr x=.sl 1 rows)(J:a8 fr y=.v (.int H q))(F:rows.all (Ct n)=true)(u:q<rows.length)(A:jc fr E=true)
  (h:∀s:ai,s.length<=n->GL P m ops Q rest (bN (bN fr (some E) (.box [.v (sv s)] 0)) (some k) (.v (sv s))) Γ) :
  GL P m ops Q (⟨some E,.indexAddr t x y,ty,pos,af,none⟩::⟨some k,.load r (.tmp E),C,l,z,none⟩::rest) fr Γ:=by
 have⟨s,G,T⟩:=VF F u;refine GL.q (YG.ig hx J G) ?_;refine GL.q (YG.XB (cs:=[.v (sv s)]) (o:=0) ?_ rfl) (h s T);exact xp A
end
def YG.iT{P:Program}{fr:am}{Γ:ap}{x y:Operand}{t e:TypeId}{k:Nat}[z:lN P t e k](i:Nat){v:Value}{A:IntKind}{j E n:Nat}{rows:List am}(hx:a8 fr x=.v v)(J:a8 fr y=.v (.int A j))(G:Γ[i]?=some (.vech E k rows v))(hn:rows.length=n)(H:j<n):YG P (.indexAddr t x y) fr Γ (.vp i n k j 0):=by
 subst hn;exact YG.ba i hx J G H
def YG.Td{P:Program}{fr:am}{Γ:ap}{x y:Operand}{t e:TypeId}{k:Nat}[C:lN P t e k](i j:Nat){v:Value}{A:IntKind}{z:Int}{E n:Nat}{rows:List am}(hx:a8 fr x=.v v)(J:a8 fr y=.v (.int A z))(o:z=(j:Int))(G:Γ[i]?=some (.vech E k rows v))(hn:rows.length=n)(H:j<n):YG P (.indexAddr t x y) fr Γ (.vp i n k j 0):=by
 subst o;exact YG.iT i hx J G hn H
end Go.Xg
set_option maxHeartbeats 4000000
namespace Go.Xg
open Go.RowKit Go.Xw Go.Proofs Tryz Go.Sp Go.Im
open Go.Xp (Ar iU)
attribute [local irreducible] GW GL GO YG GC GA bh bn
def VS(p:RS)(gl:List ai)(w:List Ar)(hf hn:Value)(g:GV)(J:ap):Prop :=
 ∃q Q l E L,p.to q/\Hd Q.length E/\Hd l.length L/\(q.code=0->p.i<q.i/\∀d r,PB ⟨gl,w,d,r⟩ p.i->PB ⟨Q,l,d,r⟩ q.i) /\
  g=.agg [.v E,.v L,.v hf,.v hn]/\J=[b7 q,.vech 9 1 (bX Q) E,.vech 79 2 (l.map bb) L]
def A9{p:RS}{s:ai}(q:s≠[])(h:(p.a6 s).code=0):p.i<(p.a6 s).i:=by
 rw[(rp q h).1];exact Nat.lt_succ_self _
def Q2(p:RS)(r:p.ok)(hb:SB p)(gl:List ai)(d:List Ar)(hg ha hf hn:Value)(Hg:Hd gl.length hg)(Ha:Hd d.length ha){nf nn:Nat}(Hf:Hd nf hf)(Hn:Hd nn hn)(FK:gl.length<=1000000)(Jj:d.length<=1000000) :
  GC prog 169 [.loc 0 0,.agg [.v hg,.v ha,.v hf,.v hn]] [b7 p,.vech 9 1 (bX gl) hg,.vech 79 2 (d.map bb) ha] (VS p gl d hf hn):=by
 obtain⟨ag,cg,rfl⟩:=Hg;obtain⟨aa,ca,rfl⟩:=Ha;obtain⟨af,cf,rfl⟩:=Hf;obtain⟨an,cn,rfl⟩:=Hn;have abE:(bX gl).length=gl.length:=bC _;have m:(d.map bb).length=d.length:=bC _;have N:=cZ p iU r aN;have t1:=bT r (s:=iU) aN;have o1:=t1.ok r;have i1:(p.a6 iU).code=0->p.i<(p.a6 iU).i:=A9 aN;generalize p.a6 iU=H at *;have C:=oA H o1;have J:=t1.trans (eO o1);have G:=J.ok r;have nl:=oB H
 have ne:¬H.code=0->¬H.name.2.code=0:=fun h=>by rw[Ai h];exact h
 have le:=(eO o1).2.2.2;generalize H.name=nm at *;have⟨s,b⟩:=nm;simp only at C J G nl ne le;have O:=dq b 0 G aN
 by_cases V:b.aE 0=[91]
 ·have W:(b.aE 0==[91])=true:=by rw[V];rfl
  have o:=dG V aN;have hz2:=o.2;have o:=o.1;rw[Nat.add_zero]at o;have xr:=G.2;have t3:=J.trans (cU o);have o3:=t3.ok r;have R:=hb.to t3
  have li:b.next.i=b.i+1:=rfl
  have ls:b.next.l=b.l:=rfl
  have lc:b.next.code=b.code:=rfl
  have Q:GF prog 172 [.loc 0 0] [b7 b.next] (y4 b.next.place) [b7 b.next]:=jX _ o3;have w:=t3.trans (Kq o3);have B:=w.ok r;have M:=RW R;have u:=(Kq o3).2.2.2
  have j:∀(z:Int)(q:RS),pM b.next=(z,q)->GF prog 223 [.loc 0 0,.v (sv [93])] [b7 q] (.tup []) [b7 (q.a6 [93])]/\GF prog 223 [.loc 0 0,.v (sv [59])] [b7 (q.a6 [93])] (.tup []) [b7 ((q.a6 [93]).a6 [59])] /\
    ∀a c n,n=d.length->VS p gl d (.slice af nf cf) (.slice an nn cn) (.agg [.v (.slice ag gl.length cg),.v (.slice a (n+1) c),.v (.slice af nf cf),.v (.slice an nn cn)]) [b7 ((q.a6 [93]).a6 [59]),.vech 9 1 (bX gl) (.slice ag gl.length cg),.vech 79 2 (d.map bb++[[.v (sv s),y4 z]]) (.slice a (n+1) c)]:=fun z q e=>by
   rw[e]at w B M u;simp only at w B M u;have t5:=w.trans (bT B (s:=[93]) aN);have o5:=t5.ok r;have t6:=t5.trans (bT o5 (s:=[59]) aN);refine⟨cZ _ _ B aN,cZ _ _ o5 aN,?_⟩;rintro a c n rfl;refine⟨_,gl,d++[⟨s,z⟩],_,_,t6,⟨_,_,rfl⟩,⟨a,c,by simp⟩,fun S=>?_,rfl,by rw[kL];rfl⟩;have a1:=A9 aN S;have a2:=(bT B (s:=[93]) aN).2.2.2;have a3:=(bT o5 (s:=[59]) aN).2.2.2
   have k:p.i<((q.a6 [93]).a6 [59]).i:=by have:=t1.2.2.2;omega
   exact⟨k,fun fs bd h=>h.arr ⟨s,z⟩ nl M k⟩
  clear w B M u
  cases A:b.l[b.i+1]? with
  |none =>
   have NS:=nE A
   have hd:decide (((b.i+1:Nat):Int)<((b.l.map dd).length:Int))=false:=by simp;omega
   have e:pM b.next=(0,b.next.fail 7 b.next.place):=by unfold pM;rw[show b.next.l[b.next.i]?=none from A]
   exact zaz
  |some t =>
   have abN:=(bR A).1
   have hd:decide (((b.i+1:Nat):Int)<((b.l.map dd).length:Int))=true:=by simp;omega
   have hr:=kT A
   by_cases L:t.ab=1
   ·have T:(t.ab==1)=true:=by simpa using L
    have e:pM b.next=(t.n,b.next.next):=by unfold pM;rw[show b.next.l[b.next.i]?=some t from A];simp only;rw[ae L]
    have⟨E,F,j⟩:=j _ _ e;refine aj func169 ntmps169 ?_;refine I [0] N ?_;refine I [0] C ?_;refine I [0] O ?_;refine aS (aK 0 24 .nil) ?_;refine bp ?_;refine aS (aK 0 12 .nil) ?_;refine bp ?_;refine I [0] E ?_;refine GL.ij 2 rfl rfl rfl rfl rfl rfl rfl rfl aO ke ?_;intro a c;refine zaJ ?_;refine I [0] F ?_;refine fJ ?_;exact j _ _ _ m
   ·have T:(t.ab==1)=false:=by simpa using L
    have e:pM b.next=(0,b.next.fail 7 b.next.place):=by unfold pM;rw[show b.next.l[b.next.i]?=some t from A];simp only;rw[D L]
    exact zaz
 ·have W:(b.aE 0==[91])=false:=by
   cases h:(b.aE 0==[91])with
   |false=>rfl
   |true=>exact absurd (eq_of_beq h) V
  have Q:=cZ b [59] G aN;have w:=J.trans (bT G (s:=[59]) aN);refine aj func169 ntmps169 ?_;refine I [0] N ?_;refine I [0] C ?_;refine I [0] O ?_;refine zau ?_;intro a c;refine zaJ ?_;refine I [0] Q ?_;refine fJ ?_;refine⟨_,gl++[s],d,_,_,w,⟨a,c,by simp[bX]⟩,⟨_,_,rfl⟩,fun S=>?_,rfl,by unfold bX;rw[kL];rfl⟩;have a1:=A9 aN S;have a2:=J.2.2.2
  have k:p.i<(b.a6 [59]).i:=by omega
  exact⟨k,fun fs bd h=>h.glob s nl k⟩
open GV (U)
open Go.Xp (Nd T bc jC jq)
def FnR(p:RS)(ak:List Go.Sp.Fn)(bd:List Nd)(hg ha:Value)(g:GV)(J:ap):Prop :=
 ∃q H V T l n,p.to q/\Hd H.length T/\o9 V l n/\(q.code=0->p.i<q.i/\∀gl w,PB ⟨gl,w,ak,bd⟩ p.i->PB ⟨gl,w,H,V⟩ q.i) /\
  g=.agg [.v hg,.v ha,.v T,.v l]/\J=[b7 q,.vech 53 3 (H.map aH) T,blob (dm V l n)]
def UG(p:RS)(Q:p.ok)(hb:SB p)(h6:p.l.length<=6000)(ak:List Go.Sp.Fn)(bd:List Nd)(hg ha hf hn:Value)(ns:List Value){ng na:Nat}(Hg:Hd ng hg)(Ha:Hd na ha)(Hf:Hd ak.length hf)(Hn:o9 bd hn ns)(hfl:ak.length<=1000000)(FN:bd.length<=1000000) :
  GC prog 170 [.loc 0 0,.agg [.v hg,.v ha,.v hf,.v hn]] [b7 p,.vech 53 3 (ak.map aH) hf,blob (dm bd hn ns)] (FnR p ak bd hg ha):=by
 obtain⟨ag,cg,rfl⟩:=Hg;obtain⟨aa,ca,rfl⟩:=Ha;obtain⟨M,N,rfl⟩:=Hf;have aaP:(ak.map aH).length=ak.length:=bC _
 have aaJ:=fun(t:T)(h:bc t<=1000000)=>GC.blob (Q3 (bc t) t (aQ _) bd hn ns Hn X) (fun g Δ hR=>by
  obtain⟨h',ns',-,rfl,rfl⟩:=hR
  exact⟨Bc,_,rfl⟩)
 obtain⟨⟨an,O,rfl⟩,Hn2,Hn3⟩:=id Hn;have m1:=cZ p jq Q aN;have t1:=bT Q (s:=jq) aN;have o1:=t1.ok Q;have i1:(p.a6 jq).code=0->p.i<(p.a6 jq).i:=A9 aN;generalize p.a6 jq=e at *;have m2:=oA e o1;have t2:=t1.trans (eO o1);have o2:=t2.ok Q;have nl:=oB e
 have ne:¬e.code=0->¬e.name.2.code=0:=fun h=>by rw[Ai h];exact h
 have le2:=(eO o1).2.2.2;generalize e.name=nm at *;have⟨s,p2⟩:=nm;simp only at m2 t2 o2 nl ne le2;have m3:=cZ p2 [40] o2 aN;have t3:=t2.trans (bT o2 (s:=[40]) aN);have z:=t3.ok Q
 have G:¬e.code=0->¬(p2.a6 [40]).code=0:=fun h=>M5 aN (ne h)
 have le3:=(bT o2 (s:=[40]) aN).2.2.2;generalize p2.a6 [40]=k at *;have m4:=dq k 0 z aN;refine aj func170 ntmps170 ?_;refine I [0] m1 ?_;refine GW.join (fun fr Γ=>fr=.loc 0 0::U::U::.loc 3 0::.loc 4 0::.loc 5 0::zU 59 []/\Γ=[b7 p2,.vech 53 3 (ak.map aH) (.slice M ak.length N),blob (dm bd (.slice an bd.length O) ns),.box 28 [.v (.slice ag ng cg),.v (.slice aa na ca),.v (.slice M ak.length N),.v (.slice an bd.length O)],.box 28 [.v y6,.v y6,.v y6,.v y6],.box 53 [.v (sv s),.v y6,y4 (bd.length:Nat)]]) ?_ ?_
 ·refine aS (.q 0 (aK 2 3 (.f 1 (.q 5 (.a 6 (.a 7 .nil))) 6 (.a 1 (.q 5 (.a 7 .nil)))))) ?_;refine av ?_;refine GO.fork ?_ ?_
  ·refine aJ [0] m2 ?_;exact iV
  ·refine OA rfl rfl (GL.alloc rfl ?_);refine zcp ?_;refine aJ [0] m2 ?_;exact iV
 rintro _ _⟨rfl,rfl⟩;refine Z ?_;refine I [0] m3 ?_;refine GL.wk (Wk.jO 9 1) ?_;simp only[cons_append,nil_append];refine I [0] m4 ?_
 refine GW.join (fun fr Γ=>∃q b a c,fr=.loc 0 0::U::U::.loc 3 0::.loc 4 0::.loc 5 0::zU 59 []/\Γ=[b7 q,.vech 53 3 (ak.map aH) (.slice M ak.length N),blob (dm bd (.slice an bd.length O) ns),.box 28 [.v (.slice ag ng cg),.v (.slice aa na ca),.v (.slice M ak.length N),.v (.slice an bd.length O)],.box 28 [.v y6,.v y6,.v y6,.v y6],.box 53 [.v (sv s),.v (.slice a b.length c),y4 (bd.length:Nat)],.vech 9 1 (bX b) (.slice a b.length c)] /\
  k.to q/\b.length+k.i<=q.i+1/\(∀s∈b,s.length<=12)/\(¬e.code=0->¬q.code=0)) ?_ ?_
 ·by_cases hs:k.aE 0=[41]
  ·have hs':(!(k.aE 0==[41]))=false:=by rw[hs];rfl
   refine Z ?_;exact⟨_,_,Wk.aW az,k,[],none,0,rfl,rfl,jR z,by simp,fun s h=>zff,G⟩
  ·have hs':(!(k.aE 0==[41]))=true:=by simpa using hs
   have m5:=oA k z;have H:=eO z;have R:=H.ok z;have nl5:=oB k
   have ne5:¬e.code=0->¬k.name.2.code=0:=fun h=>by rw[Ai (G h)];exact G h
   generalize k.name=nm at *;have⟨s5,p5⟩:=nm;simp only at m5 H R nl5 ne5;refine Z ?_;have W3:([]:List am).length=0:=rfl;refine zbF ?_;refine aJ [0] m5 ?_;refine zar ?_;refine OA rfl rfl (GL.mx 6 (news:=[[.v (sv s5)]]) rfl rfl rfl aO rfl rfl (by refine⟨?_,?_⟩;(· show _+1<=_;omega);(· show(_+1)*_<=_;omega)) ?_);intro a c;refine zaX ?_
   refine GW.loop (fun x:Nat=>6000-x) (fun x fr Γ=>∃q b a c,fr=.loc 0 0::U::U::.loc 3 0::.loc 4 0::.loc 5 0::zU 59 []/\Γ=[b7 q,.vech 53 3 (ak.map aH) (.slice M ak.length N),blob (dm bd (.slice an bd.length O) ns),.box 28 [.v (.slice ag ng cg),.v (.slice aa na ca),.v (.slice M ak.length N),.v (.slice an bd.length O)],.box 28 [.v y6,.v y6,.v y6,.v y6],.box 53 [.v (sv s),.v (.slice a b.length c),y4 (bd.length:Nat)],.vech 9 1 (bX b) (.slice a b.length c)] /\
    k.to q/\b.length+k.i<=q.i+1/\(∀s∈b,s.length<=12)/\(¬e.code=0->¬q.code=0)/\x=q.i) p5.i ?_ ?_
   ·exact⟨_,_,(Wk.cut (n:=7) (ed rfl) rfl).trans (Wk.aW az),p5,[s5],a,c,rfl,rfl,H,by have:=H.2.2.2;simp only[length_cons,length_nil];omega,fun s h=>by rw[mem_singleton]at h;subst h;exact nl5,ne5,rfl⟩
   ·rintro _ _ _⟨q,b,a,c,rfl,rfl,L,A,u,w,rfl⟩;have S:=L.ok z;have m6:=dq q 0 S aN
    have hql:q.l.length<=6000:=by rw[L.1,t3.1];exact h6
    have oq1:=S.1;have DD:(bX b).length=b.length:=bC _
    by_cases B:q.aE 0=[44]
    ·have C:(q.aE 0==[44])=true:=by rw[B];rfl
     have m:=dG B aN;have F:=m.2;have m:=m.1;rw[Nat.add_zero]at m;have tn:=cU m;have on:=tn.ok S
     have m7:GF prog 224 [.loc 0 0] [b7 q.next] (.v (sv q.next.name.1)) [b7 q.next.name.2]:=oA q.next on
     have t7:=L.trans (tn.trans (eO on))
     have nl7:=oB q.next
     have le7:=(eO on).2.2.2
     have hni:q.next.i=q.i+1:=rfl
     have Dx:=(t7.ok z).1
     have xQ:q.next.name.2.l.length<=6000:=by rw[t7.1,t3.1];exact h6
     have E:e.code=0:=by
      cases Int.decEq e.code 0 with
      |isTrue h=>exact h
      |isFalse h=>exact absurd F (w h)
     generalize q.next.name=nm at *
     have⟨s7,p7⟩:=nm;simp only at m7 t7 nl7 le7 Dx xQ;refine Z ?_;refine I [0] m6 ?_;refine zbF ?_;refine aJ [0] m7 ?_;refine zar ?_;refine OA rfl rfl (GL.mx 6 (news:=[[.v (sv s7)]]) rfl rfl rfl aO rfl rfl (by refine⟨?_,?_⟩;(· show _+1<=_;omega);(· show(_+1)*_<=_;omega)) ?_);intro a2 c2;refine zaX ?_
     exact⟨p7.i,⟨_,_,(Wk.cut (n:=7) (ed rfl) rfl).trans (Wk.aW az),p7,b++[s7],a2,c2,rfl,by simp[bX],t7,by rw[bf,length_singleton];omega,fun s h=>by
      rcases vf h with h|h
      ·exact u s h
      ·rw[mem_singleton]at h;subst h;exact nl7,fun h=>absurd E h,rfl⟩,by omega⟩
    ·have C:(q.aE 0==[44])=false:=by
      cases h:(q.aE 0==[44])with
      |false=>rfl
      |true=>exact absurd (eq_of_beq h) B
     refine Z ?_;refine I [0] m6 ?_;refine jA ?_;exact⟨_,_,Wk.aW az,q,b,a,c,rfl,rfl,L,A,u,w⟩
 ·rintro _ _⟨q,b,a,c,rfl,rfl,L,A,u,w⟩;have S:=L.ok z;have m5:=cZ q [41] S aN;have H:=L.trans (bT S (s:=[41]) aN);have R:=H.ok z;have J:=t3.trans H;have sb5:=hb.to J
  have mk:(q.a6 [41]).code=0->q.code=0/\(q.a6 [41]).i=q.i+1:=fun h=>by
   obtain⟨h1,h2,-⟩:=rp aN h;exact⟨h2,by rw[h1];rfl⟩
  generalize q.a6 [41]=r at *
  have hr6:r.l.length<=6000:=by rw[J.1];exact h6
  have⟨t,v,hS⟩:=(OK (5*r.left+4)).1 1 r R (aQ _)
  have Jq:r.left<=6000:=by unfold RS.left;omega
  have m6:=(sds (5*r.left+4)).block 1 r t v R X hS;have t6:=((pK (5*r.left+4)).1 _ _ _ _ R (fun a d' h=>by cases h) hS);have⟨bt,bz,bi⟩:=(Tj (5*r.left+4)).1 1 r t v R sb5 hS;have tv:=J.trans t6;have ov:=tv.ok Q
  have hv6:v.l.length<=6000:=by rw[tv.1];exact h6
  have hvi:=ov.1;have hL:=aaJ t X
  have W:v.code=0->r.code=0:=fun h=>by
   cases Int.decEq r.code 0 with
   |isTrue h=>exact h
   |isFalse hr =>
    have:=F7 hr (g:=5*r.left+4) (d:=1) X;rw[this]at hS;cases hS;exact h
  by_cases B:v.code=0
  ·have C:(v.code==0)=true:=by simpa using B
   refine Z ?_;refine I [0] m5 ?_;refine I [0] m6 ?_;refine bx [2] hL ?_;rintro _ _⟨_,⟨hn',ns',V,rfl,rfl⟩,rfl⟩;obtain⟨⟨an2,cn2,rfl⟩,-,-⟩:=id V;refine bI ?_;refine GL.wk (Wk.pL (i:=5) (o:=1) (j:=6) rfl rfl rfl rfl) ?_;refine zaJ ?_;refine zau ?_;intro a3 c3;refine zaJ ?_;refine fJ ?_;have hr:=W B;have⟨F,Ju⟩:=mk hr
   have E:e.code=0:=by
    cases Int.decEq e.code 0 with
    |isTrue h=>exact h
    |isFalse h=>exact absurd F (w h)
   have hi:=i1 E
   have FL:p.i<v.i:=by omega
   refine⟨v,ak++[⟨s,b,bd.length⟩],bd++jC bd.length t,_,_,ns',tv,⟨a3,c3,by rw[aaP];simp⟩,V,fun _=>⟨FL,fun gl ars h=>h.fn ⟨s,b,bd.length⟩ t nl u bt b.length (v.i-r.i) (aQ _) bz X⟩,rfl,by rw[kL];rfl⟩
  ·have C:(v.code==0)=false:=by simpa using B
   refine Z ?_;refine I [0] m5 ?_;refine I [0] m6 ?_;refine fJ ?_;exact⟨v,ak,bd,_,_,ns,tv,⟨_,_,rfl⟩,Hn,fun h=>absurd h B,rfl,rfl⟩
def qK(p:Src)(hg ha hf hn:Value)(ns:List Value):ap :=
 [.vech 9 1 (bX p.ax) hg,.vech 79 2 (p.aq.map bb) ha,.vech 53 3 (p.ak.map aH) hf,blob (dm p.ah hn ns)]
structure so(p:Src)(hg ha hf hn:Value)(ns:List Value):Prop where
 g:Hd p.ax.length hg
 a:Hd p.aq.length ha
 f:Hd p.ak.length hf
 n:o9 p.ah hn ns
def Kb:so DO y6 y6 y6 y6 []:=⟨⟨none,0,rfl⟩,⟨none,0,rfl⟩,⟨none,0,rfl⟩,o9.nil⟩
def Qb(g:GV)(J:ap):Prop:=∃p B A s T w c z,so p B A s T w/\cM p<=600000/\jZ p/\g=.tup [.agg [.v B,.v A,.v s,.v T],y4 c,y4 z]/\J=qK p B A s T w
def Vb(c z:Int):Qb (.tup [.agg [.v y6,.v y6,.v y6,.v y6],y4 c,y4 z]) (qK DO y6 y6 y6 y6 []) :=
 ⟨DO,_,_,_,_,[],c,z,Kb,bg _,PB.no.num,rfl,rfl⟩
def GX{p:Src}{hg ha hf hn:Value}{ns:List Value}:∀x∈qK p hg ha hf hn ns,x.tP=true:=fun x hx=>by
 unfold qK at hx;simp only[List.mem_cons,not_mem_nil,or_false]at hx
 rcases hx with rfl|rfl|rfl|rfl<;>rfl
def GW.LK{P:Program}{fn:Func}{Q:dU}{t u s:Tmp}{T:TypeId}[A:Ty P T true 4]{i:Nat}{E:TypeId}{c z:Int}{fr:am}{Γ:ap}(r:fn.results=#[.cell t T,.tmp u,.tmp s])(hg:cJ (u9 (Γ.length+3) fr) t=.loc i 0)(hi:i<Γ.length)(G:Γ[i]?=some (.box E [.v y6,.v y6,.v y6,.v y6]))(W:cJ (u9 (Γ.length+3) fr) u=y4 c)(q:cJ (u9 (Γ.length+3) fr) s=y4 z)
  (e:sH (Γ.length+3) Γ=true)(H:∀fr Γ,tN P fn 0 Qb .ret fr Γ->Q .ret fr Γ):GW P 0 .ret Q fr Γ:=by
 refine GW.wk (Wk.jO 9 1) ?_;refine GW.wk (Wk.jO 79 2) ?_;refine GW.wk (Wk.jO 53 3) ?_;simp only[gS,cons_append,nil_append]
 have V:(Γ++[Ob.vech 9 1 [] y6,.vech 79 2 [] y6,.vech 53 3 [] y6]).length=Γ.length+3:=by simp
 refine GW.wk (Wk.LJ (bg _) (by rw[V];show qW (below _) (Γ++_)=true;rw[JV,show qW (below (Γ.length+3)) Γ=true from e];rfl)) ?_;rw[V];refine GW.ret ?_;refine H _ _ ?_;refine Je (k:=4) Γ.length r (.inr rfl) hg (by rw[gS,l7 hi];exact G) rfl rfl W q ?_ ?_
 ·rw[gS,List.drop_left];exact GX (p:=DO)
 ·rw[gS,List.drop_left];exact Vb c z
def BK(s:ai)(hs:s.length<=1000000000000):GC prog 98 [.v (sv s)] [] Qb:=by
 refine aj func98 ntmps98 ?_;refine bx [] (YR s hs) ?_;rintro _ _⟨rfl,l,c,z,rfl,hL⟩;refine bI ?_
 by_cases e:c=0
 ·subst e;have⟨hs6,hl6,W⟩:=hL rfl;have F:(l.map dd).length=l.length:=bC _;refine Z ?_
  refine GW.A2 (fun Q Γ=>∃q p hg ha hf hn ns,Q=U::U::.loc 0 0::U::U::U::U::U::.loc 1 0::.loc 2 0::zU 67 []/\Γ=.box 28 [.v y6,.v y6,.v y6,.v y6]::b7 q::.box 28 [.v hg,.v ha,.v hf,.v hn]::qK p hg ha hf hn ns /\
   so p hg ha hf hn ns/\RS.to ⟨l,0,s.length,0,0⟩ q/\(q.code=0->PB p q.i)) ?_ ?_
  ·refine GW.loop (fun x:Nat=>x) (fun x Q Γ=>∃q p hg ha hf hn ns,Q=U::U::.loc 0 0::U::U::Go.Xg.hE l::U::U::.loc 1 0::.loc 2 0::zU 67 []/\Γ=.box 28 [.v y6,.v y6,.v y6,.v y6]::b7 q::.box 28 [.v hg,.v ha,.v hf,.v hn]::qK p hg ha hf hn ns /\
    so p hg ha hf hn ns/\RS.to ⟨l,0,s.length,0,0⟩ q/\(q.code=0->PB p q.i)/\x=if q.code=0 then 6001-q.i else 0) 6001 ?_ ?_
   ·exact⟨_,_,((((Wk.jO 9 1).trans (Wk.jO 79 2)).trans (Wk.jO 53 3)).trans (Wk.LJ (bg _) rfl)).trans (Wk.aW az),⟨l,0,s.length,0,0⟩,DO,_,_,_,_,[],rfl,rfl,Kb,jR ⟨bg _,by show l.length<=_;omega⟩,fun _=>PB.no,rfl⟩
   ·rintro x _ _⟨q,p,hg,ha,hf,hn,ns,rfl,rfl,M,m,b,hx⟩;have o0:RS.ok ⟨l,0,s.length,0,0⟩:=⟨bg _,by show l.length<=_;omega⟩;have B:=m.ok o0;have sb0:SB ⟨l,0,s.length,0,0⟩:=⟨W,by show(0:Int)<=(s.length:Int)/\(s.length:Int)<=6000;omega⟩;have J:=sb0.to m;have G:q.l=l:=m.1
    have hqi:q.i<=l.length:=by have:=B.1;rw[G]at this;exact this
    unfold qK;have⟨r,n,o,t⟩:=M;obtain⟨ag,cg,rfl⟩:=id r;obtain⟨aa,ca,rfl⟩:=id n;obtain⟨af,cf,rfl⟩:=id o;obtain⟨⟨an,cn,rfl⟩,N,O⟩:=id t
    by_cases e:q.code=0
    ·have u:(q.code==0)=true:=by simpa using e
     rw[ae e]at hx
     by_cases hi:q.i<l.length
     ·have hd:decide ((q.i:Int)<((l.map dd).length:Int))=true:=by rw[F];simpa using hi
      have m1:=dq q 0 B aN;have b:=b e;have hw:=b.w
      have d:p.ax.length<=1000000/\p.aq.length<=1000000/\p.ak.length<=1000000/\p.ah.length<=1000000:=by
       have:=Aq p;omega
      by_cases h1:q.aE 0=iU
      ·have S:(q.aE 0==[105,110,116])=true:=by rw[h1];rfl
       refine Z ?_;refine I [1] m1 ?_;refine bx [1,3,4] (Q2 q B J p.ax p.aq _ _ _ _ r n o t.head d.1 d.2.1) ?_;rintro _ _⟨A,R,C,_,_,L,⟨ag2,cg2,rfl⟩,⟨V1,Wa,rfl⟩,j,rfl,rfl⟩;refine bI ?_;refine zbk ?_;refine⟨if A.code=0 then 6001-A.i else 0,⟨_,_,Wk.aW az,A,⟨R,C,p.ak,p.ah⟩,_,_,_,_,ns,rfl,rfl,⟨⟨_,_,rfl⟩,⟨_,_,rfl⟩,o,t⟩,m.trans L,fun h=>(j h).2 _ _ b,rfl⟩,?_⟩;split
       ·rename_i h;have:=(j h).1;omega
       ·omega
      ·have S:(q.aE 0==[105,110,116])=false:=by
        cases h:(q.aE 0==[105,110,116])with
        |false=>rfl
        |true=>exact absurd (eq_of_beq h) h1
       by_cases h2:q.aE 0=jq
       ·have T:(q.aE 0==[102,117,110,99])=true:=by rw[h2];rfl
        refine Z ?_;refine I [1] m1 ?_;refine bx [1,5,6] (UG q B J (by rw[G];exact hl6) p.ak p.ah _ _ _ _ ns r n o t d.2.2.1 d.2.2.2) ?_;rintro _ _⟨A,E,H,_,_,Tm,L,⟨af2,cf2,rfl⟩,⟨⟨an2,cn2,rfl⟩,N2,N3⟩,j,rfl,rfl⟩;refine bI ?_;refine zbk ?_;refine⟨if A.code=0 then 6001-A.i else 0,⟨_,_,Wk.aW az,A,⟨p.ax,p.aq,E,H⟩,_,_,_,_,Tm,rfl,rfl,⟨r,n,⟨_,_,rfl⟩,⟨⟨_,_,rfl⟩,N2,N3⟩⟩,m.trans L,fun h=>(j h).2 _ _ b,rfl⟩,?_⟩;split
        ·rename_i h;have:=(j h).1;omega
        ·omega
       ·have T:(q.aE 0==[102,117,110,99])=false:=by
         cases h:(q.aE 0==[102,117,110,99])with
         |false=>rfl
         |true=>exact absurd (eq_of_beq h) h2
        have m2:=jX q B;have m3:=j4 q 7 q.place;have L:=mV B 7 q.place
        have h7:¬(q.fail 7 q.place).code=0:=by
         unfold RS.fail;rw[ae e];show ¬(7:Int)=0;omega
        generalize q.fail 7 q.place=A at *;refine Z ?_;refine I [1] m1 ?_;refine I [1] m2 ?_;refine I [1] m3 ?_;refine jA ?_;refine Z ?_;refine⟨0,⟨_,_,Wk.aW az,A,p,_,_,_,_,ns,rfl,rfl,⟨r,n,o,t⟩,m.trans L,fun h=>absurd h h7,by rw[D h7]⟩,by omega⟩
     ·have hd:decide ((q.i:Int)<((l.map dd).length:Int))=false:=by rw[F];simpa using by omega
      exact zdv
    ·have u:(q.code==0)=false:=by simpa using e
     exact zdv
  ·rintro _ _⟨q,p,hg,ha,hf,hn,ns,rfl,rfl,M,m,b⟩;have B:=m.ok ⟨bg _,by show l.length<=_;omega⟩
   have hqi:q.i<=l.length:=by have:=B.1;rw[m.1]at this;exact this
   unfold qK
   by_cases e:q.code=0
   ·have u:(q.code != 0)=false:=by simpa using e
    have b:=b e;have hw:=b.w;have⟨r,n,o,t⟩:=M;obtain⟨ag,cg,rfl⟩:=id r;obtain⟨aa,ca,rfl⟩:=id n;obtain⟨af,cf,rfl⟩:=id o;obtain⟨⟨an,cn,rfl⟩,N,O⟩:=id t
    by_cases h8:p.ah.length<=800
    ·have V:decide ((800:Int)<(p.ah.length:Int))=false:=decide_eq_false X;refine zcS ?_;refine Je (k:=4) 3 rfl c8 rfl rfl rfl rfl rfl rfl (fun x hx=>GX (p:=p) (hg:=.slice ag p.ax.length cg) (ha:=.slice aa p.aq.length ca) (hf:=.slice af p.ak.length cf) (hn:=.slice an p.ah.length cn) (ns:=ns) x hx) ?_;exact⟨p,_,_,_,_,ns,0,0,⟨r,n,o,t⟩,by omega,b.num,rfl,rfl⟩
    ·have V:decide ((800:Int)<(p.ah.length:Int))=true:=decide_eq_true X;refine Z ?_;exact zaW
   ·have u:(q.code != 0)=true:=by simpa using e
    refine Z ?_;refine aS (aK 0 9 (.a 9 (.q 10 (.q 11 .nil)))) ?_;refine bp ?_;exact zaW
 ·have u:(c != 0)=true:=by simpa using e
  refine Z ?_;exact zaW
attribute [local irreducible] pQ um ql
def Ol(code:ai)(T:code.length<=1099511627776)(c:c9)(k:c.i<=code.length) :
  GC prog 99 [.loc 0 0] [eA code c] fun g L=>∃(s:ai)(o:c9),o.i<=code.length/\s.length<=1000000000/\g=.v (sv s)/\L=[eA code o]:=by
 have M:=wU code T 2 c X k;have H:=yU code 2 c;have t:=EK (code:=code) 2 k;have J:zB 2=25800:=rfl;have l:zB 3=155400:=rfl;have E:xK 2=49:=rfl;rw[J]at H;generalize we code 2 c=a at *;have⟨F,G⟩:=a;simp only at M H t;have A:=JF code T 2 G X t;have w:=mF code 2 G;have u:=qx (code:=code) 2 t;rw[E]at w;generalize iC code 2 G=a at *;have⟨N,B⟩:=a;simp only at A w u;have C:=wU code T 3 B X u;have z:=yU code 3 B;have j:=EK (code:=code) 3 u;rw[l]at z;generalize we code 3 B=a at *;have⟨R,e⟩:=a;simp only at C z j;refine aj func99 ntmps99 ?_;refine zed ?_;refine I [0] A ?_;refine I [0] C ?_;refine cb ?_;exact⟨_,e,j,by simp only[bf,length_cons,length_nil];omega,rfl,rfl⟩
def Ej:GC prog 97 [] [] fun g J=>J=[]/\∃rows,g=.sl 1 rows/\rows.length=14/\rows.all (Ct 1000)=true:=by
 refine aj func97 ntmps97 ?_;refine zac ?_;refine cb ?_;exact⟨rfl,_,rfl,by decide +kernel,by decide +kernel⟩
def aae(code:ai)(g:GV)(J:ap):Prop:=∃(c:c9)(p:Src)(B z s T:Value)(w:List Value),c.i<=code.length/\so p B z s T w/\cM p<=600000/\jZ p/\g=.agg [.v B,.v z,.v s,.v T]/\J=eA code c::qK p B z s T w
def HS(code:ai)(B:code.length<=1099511627776)(c:c9)(hc:c.i<=code.length) :
  GC prog 32 [.loc 0 0] [eA code c] (aae code):=by
 have⟨k,c1,h1,i1,r1⟩:=mz B hc 14 X;have⟨j,t,h2,H,r2⟩:=oM B i1 3 X;have h3:=Ol code B t H;refine aj func32 ntmps32 ?_;refine bx [] Ej ?_;rintro _ _⟨rfl,L,rfl,l,C⟩;refine zao ?_;rw[l];refine I [0] h1 ?_;refine GL.yR 1000 rfl rfl C (by rw[l];omega) rfl ?_;intro s hs;refine bm ?_;refine bx [] (BK s X) ?_;rintro _ _⟨p,_,_,_,_,J,z1,z2,⟨⟨T,cg,rfl⟩,⟨R,V,rfl⟩,⟨S,W,rfl⟩,⟨⟨an,cn,rfl⟩,O,Q⟩⟩,hw,e,rfl,rfl⟩;refine bI ?_;unfold qK;refine Z ?_;refine I [0] h2 ?_
 by_cases G:j=0
 ·have A:(j==0)=true:=by simpa using G
  refine Z ?_;refine bx [0] h3 ?_;rintro _ _⟨s2,F,i3,zr,rfl,rfl⟩;refine zao ?_;refine bx [] (BK s2 X) ?_;rintro _ _⟨d,_,_,_,_,m,z3,z4,⟨⟨q,w,rfl⟩,⟨n,u,rfl⟩,⟨o,v,rfl⟩,⟨⟨r,z,rfl⟩,M,N⟩⟩,E,b,rfl,rfl⟩;refine bI ?_;unfold qK;refine zcS ?_;refine SO [0,7,8,9,10] (eA code F::qK d (.slice q d.ax.length w) (.slice n d.aq.length u) (.slice o d.ak.length v) (.slice r d.ah.length z) m) rfl c8 rfl rfl rfl rfl aN rfl ⟨⟨rfl,rfl⟩,⟨rfl,rfl⟩,⟨rfl,rfl⟩,⟨rfl,rfl⟩,⟨rfl,rfl⟩,trivial⟩ ?_;exact⟨F,d,_,_,_,_,m,i3,⟨⟨_,_,rfl⟩,⟨_,_,rfl⟩,⟨_,_,rfl⟩,⟨⟨_,_,rfl⟩,M,N⟩⟩,E,b,rfl,rfl⟩
 ·have A:(j==0)=false:=by simpa using G
  refine zcS ?_;refine SO [0,2,3,4,5] (eA code t::qK p (.slice T p.ax.length cg) (.slice R p.aq.length V) (.slice S p.ak.length W) (.slice an p.ah.length cn) J) rfl c8 rfl rfl rfl rfl aN rfl ⟨⟨rfl,rfl⟩,⟨rfl,rfl⟩,⟨rfl,rfl⟩,⟨rfl,rfl⟩,⟨rfl,rfl⟩,trivial⟩ ?_;exact⟨t,p,_,_,_,_,J,H,⟨⟨_,_,rfl⟩,⟨_,_,rfl⟩,⟨_,_,rfl⟩,⟨⟨_,_,rfl⟩,O,Q⟩⟩,hw,e,rfl,rfl⟩
end Go.Xg
namespace Go.Sp
open Go.Xp Go.Im
def G3{S:Type}(f:S->Nat):∀(l:List S)(i:Nat)(x y:S),l[i]?=some x->cL f (l.set i y)+f x=cL f l+f y
 |[],i,x,y,h=>by simp at h
 |z::l,0,x,y,h=>by cases h;rw[set_cons_zero,cL,cL];omega
 |z::l,i+1,x,y,h=>by have:=G3 f l i x y zfb;rw[List.set_cons_succ,cL,cL];omega
def TJ(p:Src)(i:Nat)(x y:Nd)(h:p.ah[i]?=some x):cM ⟨p.ax,p.aq,p.ak,p.ah.set i y⟩+(x.s.length+x.au.length+1)=cM p+(y.s.length+y.au.length+1):=by
 have:=G3 (fun n:Nd=>n.s.length+n.au.length+1) p.ah i x y h;unfold cM;simp only at *;omega
end Go.Sp
namespace Go.Xg
open Go.RowKit Go.Xw Go.Proofs Tryz Go.Sp Go.Im
open GV (U)
open Go.Xp (Nd)
def Gw{o:Nat}{g:GV}{x M:Nd}(hg:∀y,bU (eN x y) o g=eN M y):∀{bd:List Nd}{ns:List Value}{i:Nat},ns.length=bd.length->bd[i]?=some x->dw (List.zipWith eN bd ns) i o g=List.zipWith eN (bd.set i M) ns
 |[],ns,i,T,h=>by simp at h
 |n::bd,[],i,T,h=>by simp at T
 |n::bd,v::ns,0,T,h=>by
  cases h;rw[zipWith_cons_cons,set_cons_zero,zipWith_cons_cons,dw,hg]
 |n::bd,v::ns,i+1,T,h=>by
  have:=Gw hg (bd:=bd) (ns:=ns) (i:=i) zfk zfb;rw[zipWith_cons_cons,dw,this];rfl
def Hw{x M:Nd}(k:M.au=x.au):∀{bd:List Nd}{ns:List Value}{i:Nat},bd[i]?=some x->List.zipWith iP (bd.set i M) ns=List.zipWith iP bd ns
 |[],ns,i,h=>by simp at h
 |n::bd,[],i,h=>by cases i<;>simp
 |n::bd,v::ns,0,h=>by
  cases h;rw[set_cons_zero,zipWith_cons_cons,zipWith_cons_cons];unfold iP;rw[k]
 |n::bd,v::ns,i+1,h=>by
  have:=Hw k (bd:=bd) (ns:=ns) (i:=i) zfb;rw[List.set_cons_succ,zipWith_cons_cons,this];rfl
def o9.same{bd:List Nd}{h:Value}{ns:List Value}(H:o9 bd h ns){i:Nat}{x N:Nd}(hx:bd[i]?=some x)(k:N.au=x.au):o9 (bd.set i N) h ns:=by
 have⟨a,c,e⟩:=H.head;refine⟨⟨a,c,by rw[e,length_set]⟩,by rw[length_set];exact H.len,fun j y v M w=>?_⟩;rw[ik]at M
 by_cases L:i=j
 ·rw[ae L]at M;split at M
  ·cases M;subst L;rw[k];exact H.kid i x v hx w
  ·cases M
 ·rw[D L]at M;exact H.kid j y v M w
abbrev qt(code:ai)(c:c9)(p:Src)(hg ha hf hn:Value)(ns:List Value):ap :=
 [eA code c,.box 28 [.v y6,.v y6,.v y6,.v y6],.vech 9 1 (bX p.ax) hg,.vech 79 2 (p.aq.map bb) ha,.vech 53 3 (p.ak.map aH) hf,.gone,.box 28 [.v hg,.v ha,.v hf,.v hn]]++dm p.ah hn ns
def Wk.J8{m:Nat}{fr:am}{code:ai}{c:c9}{p:Src}{hg ha hf hn:Value}{ns:List Value}(k:so p hg ha hf hn ns)(G:m<=7) :
  Wk m fr (qt code c p hg ha hf hn ns) (u9 7 fr) [eA code c,.box 28 [.v y6,.v y6,.v y6,.v y6],.vec 9 1 (bX p.ax).length (bX p.ax),.vec 79 2 (p.aq.map bb).length (p.aq.map bb),.vec 53 3 (p.ak.map aH).length (p.ak.map aH),.gone,.box 28 (aD p)]:=by
 refine(Wk.pL (i:=6) (o:=0) (j:=2) (x:=hg) rfl rfl rfl rfl).trans ?_;refine(Wk.pL (i:=6) (o:=1) (j:=3) (x:=ha) rfl rfl rfl rfl).trans ?_;refine(Wk.pL (i:=6) (o:=2) (j:=4) (x:=hf) rfl rfl rfl rfl).trans ?_;exact Wk.uS (i:=6) (o:=3) [eA code c,.box 28 [.v y6,.v y6,.v y6,.v y6],.vec 9 1 (bX p.ax).length (bX p.ax),.vec 79 2 (p.aq.map bb).length (p.aq.map bb),.vec 53 3 (p.ak.map aH).length (p.ak.map aH),.gone,.box 28 [.sl 1 (bX p.ax),.sl 2 (p.aq.map bb),.sl 3 (p.ak.map aH),.v hn]] k.n rfl G rfl rfl rfl
def BL(code:ai)(g:GV)(J:ap):Prop:=∃(c:c9)(p:Src),c.i<=code.length/\cM p<=1048576/\jZ p/\g=.agg (aD p)/\J=[eA code c]
def gU(code:ai)(k i j:Nat)(fr:am)(Γ:ap):Prop:=∃(c:c9)(p:Src)(B z s T:Value)(w:List Value),fr=.loc 0 0::U::.loc 1 0::.loc 6 0::y4 (k:Nat)::y4 (i:Nat)::zU 97 []/\Γ=qt code c p B z s T w /\
 c.i<=code.length/\so p B z s T w/\cM p<=600000+10*j/\jZ p/\i<p.ah.length
theorem gU.next{code:ai}{k i j:Nat}{fr:am}{Γ:ap}(h:gU code k i j fr Γ):gU code k i (j+1) fr Γ:=by
 have⟨c,p,B,z,s,T,A,M,v,w,N,V,S⟩:=h;exact⟨c,p,B,z,s,T,A,M,v,w,N,by omega,S⟩
def gU.go{code:ai}{k i j:Nat}{P:am->ap->Prop}(h:∀(c:c9)(p:Src)(R:Option Addr)(q:Nat)(n:Option Addr)(t:Nat)(d:Option Addr)(l:Nat)(an:Option Addr)(s:Nat)(ns:List Value),c.i<=code.length->so p (.slice R p.ax.length q) (.slice n p.aq.length t) (.slice d p.ak.length l) (.slice an p.ah.length s) ns->cM p<=600000+10*j->jZ p->i<p.ah.length->P (.loc 0 0::U::.loc 1 0::.loc 6 0::y4 (k:Nat)::y4 (i:Nat)::zU 97 []) (qt code c p (.slice R p.ax.length q) (.slice n p.aq.length t) (.slice d p.ak.length l) (.slice an p.ah.length s) ns)):∀fr Γ,gU code k i j fr Γ->P fr Γ:=by
 rintro _ _⟨c,p,_,_,_,_,ns,rfl,rfl,z,⟨⟨R,q,rfl⟩,⟨n,t,rfl⟩,⟨d,l,rfl⟩,⟨⟨an,s,rfl⟩,J,r⟩⟩,T,S,u⟩;exact h c p R q n t d l an s ns z ⟨⟨_,_,rfl⟩,⟨_,_,rfl⟩,⟨_,_,rfl⟩,⟨⟨_,_,rfl⟩,J,r⟩⟩ T S u
def gU.put{code:ai}{k i j:Nat}{c:c9}{p:Src}{hg ha hf hn:Value}{ns:List Value}{x:Nd}(y:Nd){o:Nat}{g:GV}(hx:p.ah[i]?=some x)(m:y.au=x.au)(r:y.s.length<=x.s.length+9)(J : -9223372036854775808<=y.n/\y.n<=9223372036854775807)(q:∀v,bU (eN x v) o g=eN y v)(z:c.i<=code.length)(l:so p hg ha hf hn ns)(R:cM p<=600000+10*j)(S:jZ p)(hi:i<p.ah.length) :
  gU code k i (j+1) (.loc 0 0::U::.loc 1 0::.loc 6 0::y4 (k:Nat)::y4 (i:Nat)::zU 97 []) ([eA code c,.box 28 [.v y6,.v y6,.v y6,.v y6],.vech 9 1 (bX p.ax) hg,.vech 79 2 (p.aq.map bb) ha,.vech 53 3 (p.ak.map aH) hf,.gone,.box 28 [.v hg,.v ha,.v hf,.v hn],.vech 82 5 (dw (List.zipWith eN p.ah ns) i o g) hn]++List.zipWith iP p.ah ns):=by
 refine⟨c,⟨p.ax,p.aq,p.ak,p.ah.set i y⟩,hg,ha,hf,hn,ns,rfl,?_,z,⟨l.g,l.a,l.f,l.n.same hx m⟩,?_,JU S i J,by rw[length_set];exact hi⟩
 ·unfold qt dm;simp only;rw[<-Gw q l.n.len hx,Hw m hx];rfl
 ·have:=TJ p i x y hx;rw[m]at this;omega
def vk{bd:List Nd}{h:Value}{ns:List Value}(H:o9 bd h ns){i:Nat}(hi:i<bd.length):∃x y,bd[i]?=some x/\ns[i]?=some y/\(List.zipWith eN bd ns)[i]?=some [y4 x.ab,y4 x.at_,y4 x.n,.v (sv x.s),.v y]/\(List.zipWith eN bd ns).length=bd.length:=by
 have hx:bd[i]?=some bd[i]:=cq _;have J:ns[i]?=some (ns[i]'(by rw[H.len];exact hi)):=cq _;exact⟨_,_,hx,J,by rw[getElem?_zipWith,hx,J];rfl,by rw[uW,H.len,Nat.min_self]⟩
attribute [local irreducible] GW GL GO YG GC GA bh bn pQ um ql
def Q1(code:ai)(W:code.length<=1099511627776)(c:c9)(hc:c.i<=code.length) :
  GC prog 71 [.loc 0 0] [eA code c] (BL code):=by
 refine aj func71 ntmps71 ?_;refine bx [0] (HS code W c hc) ?_;rintro _ _⟨c1,p,_,_,_,_,C,i1,⟨⟨Q,S,rfl⟩,⟨O,R,rfl⟩,⟨L,M,rfl⟩,⟨⟨an,T,rfl⟩,N2,N3⟩⟩,F,e,rfl,rfl⟩;unfold qK;refine zao ?_;have u:so p (.slice Q p.ax.length S) (.slice O p.aq.length R) (.slice L p.ak.length M) (.slice an p.ah.length T) C:=⟨⟨_,_,rfl⟩,⟨_,_,rfl⟩,⟨_,_,rfl⟩,⟨⟨_,_,rfl⟩,N2,N3⟩⟩;have⟨k,c2,g1,i2,r1⟩:=mz W i1 14 X;refine GL.wk (Wk.unpack 5 rfl) ?_;simp only[oset,cons_append,nil_append];unfold dm;refine jS [0] g1 ?_;simp only[fV]
 by_cases h0:p.ah.length=0
 ·have Z7:(((p.ah.map aP).length:Int)==0)=true:=by rw[bC,h0];rfl
  refine GL.wk (de:=.loc 0 0::U::.loc 1 0::.loc 6 0::U::U::U::U::U::y4 (k:Nat)::zU 93 []) (bE:=[eA code c2,.box 28 [.v y6,.v y6,.v y6,.v y6],.vec 9 1 (bX p.ax).length (bX p.ax),.vec 79 2 (p.aq.map bb).length (p.aq.map bb),.vec 53 3 (p.ak.map aH).length (p.ak.map aH),.gone,.box 28 (aD p)]) ?_ ?_
  ·refine Wk.trans (Wk.J8 (code:=code) (c:=c2) u ?_) ?_
   ·exact ed rfl
   ·exact Wk.aW az
  refine Z ?_;refine fJ ?_;exact⟨c2,p,i2,by omega,e,rfl,rfl⟩
 ·have Z7:((p.ah.length:Int)==0)=false:=by simp only[beq_eq_false_iff_ne];omega
  have⟨i,c3,g2,i3,r2⟩:=mz W i2 (p.ah.length:Int) X
  have o:i<p.ah.length:=by omega
  have F:cM p<=600000+10*0:=F;refine Z ?_;refine jS [0] g2 ?_;simp only[fV];refine Z ?_;refine GW.join (gU code k i 1) ?_ ?_
  ·by_cases H:(k:Int)=0
   ·have B:((k:Int)==0)=true:=by rw[H];rfl
    have⟨x,y,hx,hy,A,j⟩:=vk u.n o;have⟨z,c4,J,E,r3⟩:=oM W i3 16 X;refine zbf ?_;refine OA rfl rfl (GL.xw rfl rfl j A rfl rfl rfl rfl ?_);refine GL.nil (bl (dP.mk ze0 ?_))
    refine jY di ec ?_;refine bp ?_;exact⟨_,_,Wk.aW az,gU.put { x with ab:=z } hx rfl (Nat.le_add_right _ _) (e.ah x (bB hx)) (fun _=>rfl) E u F e o⟩
   ·have B:((k:Int)==0)=false:=by simpa using H
    refine Z ?_;exact⟨_,_,Wk.aW az,gU.next ⟨c3,p,_,_,_,_,C,rfl,rfl,i3,u,F,e,o⟩⟩
  refine gU.go fun c p Q S O R L M an T C G u F e o=>?_
  refine zbd ?_;refine GW.join (gU code k i 2) ?_ ?_
  ·by_cases H:(k:Int)=1
   ·have B:((k:Int)==1)=true:=by rw[H];rfl
    have⟨x,y,hx,hy,A,j⟩:=vk u.n o;have⟨z,c4,J,E,r3⟩:=oM W G 6 X;obtain⟨q,rfl⟩:∃q:Nat,z=(q:Int):=⟨z.toNat,by omega⟩;have hr:=oF (l:=[[],[88],[119,104,105,108,101],[111,107],[43],[45]]) (m:=q) (by show q<6;omega);have hp:=k0 (l:=[[],[88],[119,104,105,108,101],[111,107],[43],[45]]) (n:=5) aN (q:Int);generalize lZ [[],[88],[119,104,105,108,101],[111,107],[43],[45]] (q:Int)=sg at *;refine Z ?_;refine aS (aK 0 3 (.q 4 (.f 3 (.a 5 (aK 6 4 (.a 10 .nil))) 5 (.a 3 (aK 6 4 (.a 10 .nil)))))) ?_;refine av ?_;refine GO.fork ?_ ?_
    ·refine zar ?_;refine ml [0] J ?_;simp only[fV];refine zaF ?_;refine OA rfl rfl (GL.xw rfl rfl j A rfl rfl rfl rfl ?_);refine GL.nil (bl (dP.mk ze0 ?_))
     exact zbG
    ·refine ml [0] J ?_;simp only[fV];refine av ?_;refine zar ?_;refine OQ rfl (YG.iT 7 rfl rfl rfl j o) ?_;refine lx ?_;refine av ?_;refine OA rfl rfl (GL.xw rfl rfl j A rfl rfl rfl rfl ?_);refine GL.nil (bl (dP.mk ze0 ?_))
     exact zbG
   ·have B:((k:Int)==1)=false:=by simpa using H
    exact zay
  refine gU.go fun c p Q S O R L M an T C G u F e o=>?_
  refine zbd ?_;refine GW.join (gU code k i 3) ?_ ?_
  ·by_cases H:(k:Int)=2
   ·have B:((k:Int)==2)=true:=by rw[H];rfl
    have⟨x,y,hx,hy,A,j⟩:=vk u.n o;have⟨z,c4,J,E,r3⟩:=EH W G;refine zbf ?_;refine OA rfl rfl (GL.xw rfl rfl j A rfl rfl rfl rfl ?_);refine GL.nil (bl (dP.mk ze0 ?_))
    refine jY di ec ?_;refine bp ?_;exact⟨_,_,Wk.aW az,gU.put { x with n:=z } hx rfl (Nat.le_add_right _ _) r3 (fun _=>rfl) E u F e o⟩
   ·have B:((k:Int)==2)=false:=by simpa using H
    exact zay
  refine gU.go fun c p Q S O R L M an T C G u F e o=>?_
  refine zbd ?_;refine GW.join (gU code k i 4) ?_ ?_
  ·by_cases H:(k:Int)=3
   ·have B:((k:Int)==3)=true:=by rw[H];rfl
    have⟨x,y,hx,hy,A,j⟩:=vk u.n o;obtain⟨a3,d3,rfl⟩:=u.n.kid i x y hx hy
    have FN:p.ah.length<=1000000:=by have:=(Aq p).2.2.2;omega
    have abK:x.au.length<=1000000:=by have:=abj hx;omega
    have xq:(bK x.au).length=x.au.length:=by simp[bK]
    have aaR:(List.zipWith iP p.ah C)[i]?=some (.vech 3 1 (bK x.au) (.slice a3 x.au.length d3)):=by rw[getElem?_zipWith,hx,hy];rfl
    have NW:=fun(y:Value)=>ye (x.au++[((p.ah.length:Int)-1)]) y u.n.len hx
    have sE:=fun(y:Value)=>x9 (x.au++[((p.ah.length:Int)-1)]) y u.n.len hx
    have W1:bK (x.au++[((p.ah.length:Int)-1)])=bK x.au++[[y4 ((p.ah.length:Int)-1)]]:=by simp[bK]
    rw[W1]at sE
    have aa1:=fun(a:Option Addr)(c:Nat)=>u.n.put hx (x.au++[((p.ah.length:Int)-1)]) (b:=a) (d:=c) (n:=(bK x.au).length+1) (by simp[bK])
    have Zi:∀x0 x1 x2 x3 x4 x5 x6 x7:Ob,(x0::x1::x2::x3::x4::x5::x6::x7::List.zipWith iP p.ah C)[i+8]?=some (.vech 3 1 (bK x.au) (.slice a3 x.au.length d3)):=fun _ _ _ _ _ _ _ _=>aaR
    refine Z ?_;refine aS (aK 0 13 (.a 13 (.a 14 (.q 15 (.q 16 (.a 17 .nil)))))) ?_;refine zaF ?_;refine OA rfl rfl (GL.XM rfl rfl rfl rfl (GL.nil (bl (dP.mk ze1 ?_))))
    refine jY di ec ?_;refine av ?_;refine OA rfl rfl (GL.mx (i+8) (news:=[[y4 ((p.ah.length:Int)-1)]]) rfl rfl (Zi _ _ _ _ _ _ _ _) rfl rfl rfl ⟨by show _+1<=_;omega,by show(_+1)*_<=_;omega⟩ ?_);intro a4 c4;refine GL.nil (bl (dP.mk ze1 ?_))
    refine jY di (by simp only[oset];rw[sE]) ?_;refine zaF ?_;refine OA rfl rfl (GL.xw rfl rfl j A rfl rfl rfl rfl ?_);refine GL.nil (bl (dP.mk ze0 ?_))
    refine jY di ec ?_;refine bp ?_;rw[NW];refine⟨_,_,Wk.aW az,c,⟨p.ax,p.aq,p.ak,p.ah.set i (eM x (x.au++[((p.ah.length:Int)-1)]))⟩,_,_,_,_,_,rfl,rfl,G,⟨u.g,u.a,u.f,aa1 _ _⟩,?_,JU e i ?_,by rw[length_set];exact o⟩
    ·have:=TJ p i x (eM x (x.au++[((p.ah.length:Int)-1)])) hx;unfold eM at *;simp only[bf,length_cons,length_nil]at *;omega
    ·exact e.ah x (bB hx)
   ·have B:((k:Int)==3)=false:=by simpa using H
    exact zay
  refine gU.go fun c p Q S O R L M an T C G u F e o=>?_
  refine zbd ?_;refine GW.join (gU code k i 5) ?_ ?_
  ·by_cases H:(k:Int)=4
   ·have B:((k:Int)==4)=true:=by rw[H];rfl
    have⟨x,y,hx,hy,A,j⟩:=vk u.n o;have⟨z,c4,J,E,r3⟩:=EH W G;refine zbf ?_;refine OA rfl rfl (GL.xw rfl rfl j A rfl rfl rfl rfl ?_);refine GL.nil (bl (dP.mk ze0 ?_))
    refine jY di ec ?_;refine bp ?_;exact⟨_,_,Wk.aW az,gU.put { x with at_:=z } hx rfl (Nat.le_add_right _ _) (e.ah x (bB hx)) (fun _=>rfl) E u F e o⟩
   ·have B:((k:Int)==4)=false:=by simpa using H
    exact zay
  refine gU.go fun c p Q S O R L M an T C G u F e o=>?_
  unfold qt dm;simp only[cons_append,nil_append];refine GW.seq ?_;refine GW.seq ?_;refine GW.join (fun fr Γ=>∃(b:Bool)(c:c9)(p:Src)(hg V hf hn:Value)(C:List Value),fr=.loc 0 0::U::.loc 1 0::.loc 6 0::y4 (k:Nat)::y4 (i:Nat)::zU 79 (.v (.bool b)::zU 17 [])/\Γ=qt code c p hg V hf hn C/\c.i<=code.length/\so p hg V hf hn C/\cM p<=600000+10*5/\jZ p/\i<p.ah.length/\(b=true->0<p.ak.length)) ?_ ?_
  ·by_cases H:(k:Int)=5
   ·have B:((k:Int)==5)=true:=by rw[H];rfl
    refine Z ?_;exact⟨_,_,Wk.aW az,decide ((0:Int)<(p.ak.length:Int)),c,p,_,_,_,_,C,rfl,rfl,G,u,F,e,o,fun h=>by have:=oe h;omega⟩
   ·have B:((k:Int)==5)=false:=by simpa using H
    refine Z ?_;exact⟨_,_,Wk.aW az,false,c,p,_,_,_,_,C,rfl,rfl,G,u,F,e,o,fun h=>by cases h⟩
  rintro _ _⟨b,c,p,_,_,_,_,C,rfl,rfl,G,⟨⟨Q,S,rfl⟩,⟨O,R,rfl⟩,⟨L,M,rfl⟩,⟨⟨an,T,rfl⟩,N2,N3⟩⟩,F,e,o,Jq⟩;have u:so p (.slice Q p.ax.length S) (.slice O p.aq.length R) (.slice L p.ak.length M) (.slice an p.ah.length T) C:=⟨⟨_,_,rfl⟩,⟨_,_,rfl⟩,⟨_,_,rfl⟩,⟨⟨_,_,rfl⟩,N2,N3⟩⟩;refine zbd ?_;refine GW.join (gU code k i 6) ?_ ?_
  ·cases b with
   |true =>
    have Jq:=Jq rfl
    obtain⟨f,r,N⟩:∃f r,p.ak=f::r:=by
     cases hq:p.ak with
     |nil=>rw[hq]at Jq;exact absurd Jq (Nat.lt_irrefl 0)
     |cons f r=>exact⟨f,r,rfl⟩
    have⟨z,c4,J,E,r3⟩:=EH W G
    have A:(p.ak.map aH)[0]?=some [.v (sv f.name),strs f.params,y4 f.body]:=by rw[N];rfl
    have Dy:0<(p.ak.map aH).length:=by rw[N];exact Nat.succ_pos _
    refine Z ?_;refine aS (aK 0 3 (.a 3 (.q 4 (.q 5 (.a 6 .nil))))) ?_;refine av ?_;refine ml [0] J ?_;simp only[fV];refine av ?_;refine OA rfl rfl (GL.xw rfl rfl rfl A rfl rfl rfl rfl ?_);refine GL.nil (bl (dP.mk (by repeat (first|exact dr.n|(apply dr.w;(· decide +kernel))|(apply dr.y;(· first|(apply YQ.t;(· exact rfl);(· exact rfl);(· (first|exact YG.Td 4 0 rfl rfl rfl rfl (eb _ _ _ _) Dy|(first|exact gw|(apply K.idx;first|exact YG.idxV rfl rfl rfl aO X|exact YG.ba 0 rfl rfl rfl aV|exact YG.ba 1 rfl rfl rfl aV|exact YG.ba 2 rfl rfl rfl aV|exact YG.ba 3 rfl rfl rfl aV|exact YG.ba 4 rfl rfl rfl aV|exact YG.ba 5 rfl rfl rfl aV|exact YG.ba 6 rfl rfl rfl aV)|exact gx|exact YG.gq 1 rfl rfl aO aO|exact YG.mv|exact YG.lB|(apply K.bin;first|exact YG.go rfl|exact YG.j0 rfl rfl X|exact YG.jj rfl rfl|exact YG.jt rfl rfl|exact YG.nI rfl rfl|exact YG.nO rfl rfl|exact YG.cat rfl rfl X|exact YG.cat rfl rfl ze7|exact YG.da rfl rfl X|exact YG.add rfl rfl X|exact YG.sub rfl rfl X|exact YG.mul rfl rfl X|exact YG.lj rfl rfl X|exact YG.quo rfl rfl X|exact YG.rem rfl rfl X|exact YG.iy rfl rfl)|exact fP|exact fO|exact gP|exact fp|exact fD|(apply K.idx;first|exact YG.ig rfl rfl aY|exact YG.cz rfl rfl aY rfl|exact YG.cz rfl rfl aY X|exact YG.jM rfl rfl X)|exact YG.ext rfl rfl|exact YG.go rfl|(apply K.oI;first|exact YG.lh rfl rfl rfl X|exact YG.lg rfl rfl X|exact YG.lf rfl rfl X|exact YG.gL 1 rfl rfl rfl aO)|exact YG.jn rfl rfl aY|exact YG.idxSC rfl rfl aY rfl|exact fF|exact YG.build rfl|exact YG.neg rfl X|exact YG.jk rfl rfl|exact YG.mD rfl zfl|exact YG.str rfl aO))))|(apply YQ.t;(· exact rfl);(· apply pR;(· exact rfl);(· first|exact rfl|assumption));(· (first|exact YG.Td 4 0 rfl rfl rfl rfl (eb _ _ _ _) Dy|(first|exact gw|(apply K.idx;first|exact YG.idxV rfl rfl rfl aO X|exact YG.ba 0 rfl rfl rfl aV|exact YG.ba 1 rfl rfl rfl aV|exact YG.ba 2 rfl rfl rfl aV|exact YG.ba 3 rfl rfl rfl aV|exact YG.ba 4 rfl rfl rfl aV|exact YG.ba 5 rfl rfl rfl aV|exact YG.ba 6 rfl rfl rfl aV)|exact gx|exact YG.gq 1 rfl rfl aO aO|exact YG.mv|exact YG.lB|(apply K.bin;first|exact YG.go rfl|exact YG.j0 rfl rfl X|exact YG.jj rfl rfl|exact YG.jt rfl rfl|exact YG.nI rfl rfl|exact YG.nO rfl rfl|exact YG.cat rfl rfl X|exact YG.cat rfl rfl ze7|exact YG.da rfl rfl X|exact YG.add rfl rfl X|exact YG.sub rfl rfl X|exact YG.mul rfl rfl X|exact YG.lj rfl rfl X|exact YG.quo rfl rfl X|exact YG.rem rfl rfl X|exact YG.iy rfl rfl)|exact fP|exact fO|exact gP|exact fp|exact fD|(apply K.idx;first|exact YG.ig rfl rfl aY|exact YG.cz rfl rfl aY rfl|exact YG.cz rfl rfl aY X|exact YG.jM rfl rfl X)|exact YG.ext rfl rfl|exact YG.go rfl|(apply K.oI;first|exact YG.lh rfl rfl rfl X|exact YG.lg rfl rfl X|exact YG.lf rfl rfl X|exact YG.gL 1 rfl rfl rfl aO)|exact YG.jn rfl rfl aY|exact YG.idxSC rfl rfl aY rfl|exact fF|exact YG.build rfl|exact YG.neg rfl X|exact YG.jk rfl rfl|exact YG.mD rfl zfl|exact YG.str rfl aO))))|(apply YQ.f;(· exact rfl);(· apply qA;(· exact rfl);(· first|exact rfl|assumption))))))) ?_))
    refine jY di ec ?_;refine bp ?_;refine⟨_,_,Wk.aW az,c4,⟨p.ax,p.aq,({ name:=f.name,params:=f.params,body:=z }:Go.Sp.Fn)::r,p.ah⟩,_,_,.slice L p.ak.length M,_,C,rfl,?_,E,⟨u.g,u.a,?_,u.n⟩,?_,⟨e.aq,e.ah⟩,o⟩
    ·unfold qt dm;simp only;rw[N];rfl
    ·exact⟨_,_,by rw[N];rfl⟩
    ·have:=Z0 p f ({ name:=f.name,params:=f.params,body:=z }:Go.Sp.Fn) r N rfl rfl;omega
   |false =>
    exact zay
  refine gU.go fun c p Q S O R L M an T C G u F e o=>?_
  refine zbd ?_;refine GW.join (gU code k i 7) ?_ ?_
  ·by_cases H:(k:Int)=6
   ·have B:((k:Int)==6)=true:=by rw[H];rfl
    have⟨z,c4,J,E,r3⟩:=EH W G
    have Jj:p.aq.length<=1000000:=by have:=(Aq p).2.1;omega
    have j:(p.aq.map bb).length=p.aq.length:=bC _;refine Z ?_;refine aS (aK 0 3 (.a 3 (.q 4 (.a 5 (.a 6 (.q 7 (.a 8 .nil))))))) ?_;refine av ?_;refine ml [0] J ?_;simp only[fV];refine av ?_;refine zar ?_;refine OA rfl rfl (GL.mx 3 (news:=[[.v (sv [122,122]),y4 z]]) rfl rfl rfl j rfl rfl ⟨by show _+1<=_;omega,by show(_+1)*_<=_;omega⟩ ?_);intro a5 c5;refine zaX ?_;refine⟨_,_,Wk.aW az,c4,⟨p.ax,p.aq++[⟨[122,122],z⟩],p.ak,p.ah⟩,_,.slice a5 (p.aq.length+1) c5,_,_,C,rfl,?_,E,⟨u.g,⟨a5,c5,?_⟩,u.f,u.n⟩,?_,⟨fun a V=>?_,e.ah⟩,o⟩
    ·unfold qt dm;simp only;rw[kL];rfl
    ·simp
    ·rw[ZZ];simp only[length_cons,length_nil];omega
    ·rcases vf V with V|V
     ·exact e.aq a V
     ·rw[mem_singleton]at V;subst V;exact r3
   ·have B:((k:Int)==6)=false:=by simpa using H
    exact zay
  refine gU.go fun c p Q S O R L M an T C G u F e o=>?_
  refine GW.wk (de:=.loc 0 0::U::.loc 1 0::.loc 6 0::zU 99 []) (bE:=[eA code c,.box 28 [.v y6,.v y6,.v y6,.v y6],.vec 9 1 (bX p.ax).length (bX p.ax),.vec 79 2 (p.aq.map bb).length (p.aq.map bb),.vec 53 3 (p.ak.map aH).length (p.ak.map aH),.gone,.box 28 (aD p)]) ?_ ?_
  ·refine Wk.trans (Wk.J8 (code:=code) (c:=c) u ?_) ?_
   ·exact ed rfl
   ·exact Wk.aW az
  refine Z ?_;refine fJ ?_;exact⟨c,p,G,by omega,e,rfl,rfl⟩
end Go.Xg
namespace Go.Xg
open Go.RowKit Go.Xw Go.Proofs Tryz Go.Sp Go.Im
open GV (U)
def Vc{K:Fz}{β:Bt}{v a b c d x y:Value}(h:Rel K β v (.tup [.agg [.v a,.v b,.v c,.v d],.v x,.v y])):v=.tuple #[.agg #[a,b,c,d],x,y]:=by
 cases h with
 |tup e J T h =>
  match e,T with
  |[l,v1,v2],_ =>
   have s:=Qf (h 0 _ _ rfl rfl);have M:=(h 1 _ _ rfl rfl).eP;have w:=(h 2 _ _ rfl rfl).eP;subst s;subst M;subst w;rfl
def Vd{K:Fz}(β:Bt){hg ha hf hn x y:Value}{p:Src}(e:bA K (fun _=>Bk.no) [hg,ha,hf,hn] (aD p)):Rel K β (.tuple #[.agg #[hg,ha,hf,hn],x,y]) (.tup [.agg (aD p),.v x,.v y]):=by
 have J:bA K β [hg,ha,hf,hn] (aD p):=bA.pg e (Nh p);have k:bA K β [.agg #[hg,ha,hf,hn],x,y] [.agg (aD p),.v x,.v y]:=.cons (.agg [hg,ha,hf,hn] _ J.1 J.2) (.cons (.v _) (.cons (.v _) .nil));exact .tup [.agg #[hg,ha,hf,hn],x,y] _ k.1 k.2
def vh(s:ai)(O:s.length<=1000000000000):GC prog 98 [.v (sv s)] [] fun g Δ=>Δ=[]/\∃p c z,cM p<=600000/\jZ p/\g=.tup [.agg (aD p),y4 c,y4 z]:=fun B K β w vs m L J =>
 (BK s O B K β w vs m L J).mono fun v w' ⟨K',fS,g,bE,j,M,p,C,t,u,F,ns,c,z,H,R,d,l,o⟩=>by
  subst l;subst o;have⟨β2,b1,_,_,S⟩:=j.unpack (i:=3) (N:=dm p.ah F ns) rfl;have⟨K1,k1,q1,T⟩:=S.rR (i:=0) (E:=9) (k:=1) (rows:=bX p.ax) (x:=C) rfl;have⟨K2,k2,q2,V⟩:=T.rR (i:=1) (E:=79) (k:=2) (rows:=p.aq.map bb) (x:=t) rfl;have⟨K3,G,q3,W⟩:=V.rR (i:=2) (E:=53) (k:=3) (rows:=p.ak.map aH) (x:=u) rfl;obtain⟨r,q,q4,i5⟩:=W.uS (A:=[.vec 9 1 (bX p.ax).length (bX p.ax),.vec 79 2 (p.aq.map bb).length (p.aq.map bb),.vec 53 3 (p.ak.map aH).length (p.ak.map aH),.gone]) H.n rfl (by rw[m];exact bg _) rfl;have Q:=Vc M;subst Q;have b:=dO.refl (fun _=>Bk.no);refine⟨r,_,.tup [.agg (aD p),y4 c,y4 z],[],i5.cut (n:=0) (by rw[m];exact aQ _) rfl,?_,rfl,p,c,z,R,d,rfl⟩;have e:bA r (fun _=>Bk.no) [C,t,u,F] (aD p):=.cons ((q1.pc (fS:=fun _=>Bk.no) rfl).mono (k2.trans (G.trans q)) b) (.cons ((q2.pc (fS:=fun _=>Bk.no) rfl).mono (G.trans q) b) (.cons ((q3.pc (fS:=fun _=>Bk.no) rfl).mono q b) (.cons q4 .nil)));exact Vd _ e
def VZ(code:ai)(g:GV)(J:ap):Prop:=∃(s:ai)(c:c9),c.i<=code.length/\s.length<=1000/\g=.v (sv s)/\J=[eA code c]
attribute [local irreducible] GW GL GO YG GC GA bh bn pQ um ql
section
variable(code:ai)
def Ov(T:code.length<=1099511627776)(c:c9)(l:c.i<=code.length) :
  GC prog 101 [.loc 0 0] [eA code c] (VZ code):=by
 have⟨k,G,M,t,W⟩:=mz T l 25 X;refine aj func101 ntmps101 ?_;refine zac ?_;refine zed ?_;refine GL.yR 1000 rfl rfl zfB (by show k<25;omega) rfl ?_;intro s q;exact zcO
def Ow(T:code.length<=1099511627776)(c:c9)(l:c.i<=code.length) :
  GC prog 237 [.loc 0 0] [eA code c] (VZ code):=by
 have⟨k,G,M,t,W⟩:=mz T l 8 X;refine aj func237 ntmps237 ?_;refine zac ?_;refine zed ?_;refine GL.yR 1000 rfl rfl zfB (by show k<8;omega) rfl ?_;intro s q;exact zcO
def zu(T:code.length<=1099511627776)(c:c9)(m:c.i<=code.length) :
  GC prog 34 [.loc 0 0] [eA code c] (BL code):=by
 obtain⟨k,G,M,t,-⟩:=oM T m 3 X
 by_cases l:0<k
 ·have A:decide ((0:Int)<k)=true:=by simpa using l
  refine aj func34 ntmps34 ?_;refine zed ?_;refine bx [0] (Q1 code T G t) ?_;rintro _ _⟨B,p,u,R,V,rfl,rfl⟩;exact zcE
 ·have A:decide ((0:Int)<k)=false:=by simpa using l
  refine aj func34 ntmps34 ?_;refine zed ?_;refine bx [0] (Ov code T G t) ?_;rintro _ _⟨s,B,u,q,rfl,rfl⟩;exact zbY
def HX(T:code.length<=1099511627776)(c:c9)(m:c.i<=code.length) :
  GC prog 178 [.loc 0 0] [eA code c] (BL code):=by
 obtain⟨k,G,M,t,-⟩:=oM T m 2 X
 by_cases l:k=0
 ·have A:(k==0)=true:=by simpa using l
  refine aj func178 ntmps178 ?_;refine zed ?_;refine bx [0] (zu code T G t) ?_;rintro _ _⟨B,p,u,R,V,rfl,rfl⟩;exact zcE
 ·have A:(k==0)=false:=by simpa using l
  refine aj func178 ntmps178 ?_;refine zed ?_;refine bx [0] (Ow code T G t) ?_;rintro _ _⟨s,B,u,q,rfl,rfl⟩;exact zbY
end
def nN:List ai:=[[97],[98],[100],[101],[109,97,105,110]]
def HY(code:ai)(j:code.length<=1099511627776)(c:c9)(b:c.i<=code.length) :
  GC prog 107 [.loc 0 0] [eA code c] (BL code):=by
 obtain⟨k,z,A,E,-⟩:=oM j b 3 X
 by_cases B:k=0
 ·have r:(k==0)=true:=by simpa using B
  refine aj func107 ntmps107 ?_;refine I [0] A ?_;refine bx [0] (HX code j z E) ?_;rintro _ _⟨o,p,w,C,s,rfl,rfl⟩;refine zao ?_;refine fJ ?_;exact⟨o,p,w,C,s,rfl,rfl⟩
 ·have r:(k==0)=false:=by simpa using B
  refine aj func107 ntmps107 ?_;refine I [0] A ?_;refine zac ?_;refine GW.range 5 (fun k d e=>∃out c,d=.loc 0 0::U::.loc 1 0::.v (sv out)::strs nN::zU 12 (strs nN::y4 ((5:Nat):Int)::y4 (k:Nat)::zU 32 [])/\e=[eA code c,.box 28 [.v y6,.v y6,.v y6,.v y6]]/\c.i<=code.length/\out.length<=100*k) ?_ X ?_ ?_ ?_
  ·exact⟨_,_,Wk.aW az,[],z,rfl,rfl,E,bg _⟩
  ·rintro k _ _⟨out,c,rfl,rfl,_,_⟩;exact dN
  ·rintro k _ _ J⟨out,c,rfl,rfl,b,t⟩;have R:=oF (l:=nN) (m:=k) (by show k<5;omega);have Q:=k0 (l:=nN) (n:=4) aN (k:Int);generalize lZ nN (k:Int)=S at *;have⟨n,o,G,w,V⟩:=mz j b 3 X;refine Z ?_;refine I [0] G ?_;refine GW.A2 (fun d e=>∃out c,d=.loc 0 0::U::.loc 1 0::.v (sv out)::strs nN::zU 12 (strs nN::y4 ((5:Nat):Int)::y4 (k:Nat)::zU 32 [])/\e=[eA code c,.box 28 [.v y6,.v y6,.v y6,.v y6]]/\c.i<=code.length/\out.length<=100*k+90) ?_ ?_
   ·refine GW.loop (fun x:Nat=>x) (fun x d e=>∃out c,d=.loc 0 0::U::.loc 1 0::.v (sv out)::strs nN::U::U::y4 (x:Nat)::U::U::U::U::U::U::U::U::U::strs nN::y4 ((5:Nat):Int)::y4 (k:Nat)::zU 32 []/\e=[eA code c,.box 28 [.v y6,.v y6,.v y6,.v y6]]/\c.i<=code.length/\out.length+10*x<=100*k+90) n ?_ ?_
    ·exact⟨_,_,Wk.aW az,_,o,rfl,rfl,w,by simp only[bf,length_cons,length_nil];omega⟩
    ·rintro x _ _⟨out,c,rfl,rfl,b,t⟩
     cases x with
     |zero =>
      refine dZ ?_;exact⟨_,_,Wk.aW az,out,c,rfl,rfl,b,by omega⟩
     |succ x =>
      have N:decide ((0:Int)<((x+1:Nat):Int))=true:=decide_eq_true X
      have u:(((x+1:Nat):Int)-1)=(x:Int):=by omega
      have⟨q,F,H,O,W⟩:=mz j b 5 X;have M:=oF (l:=nN) (m:=q) (by show q<5;omega);have L:=k0 (l:=nN) (n:=4) aN (q:Int);generalize lZ nN (q:Int)=T at *;refine Z ?_;refine I [0] H ?_;rw[u];exact⟨x,⟨_,_,Wk.aW az,_,F,rfl,rfl,O,by simp only[bf,length_cons,length_nil];omega⟩,by omega⟩
   ·rintro _ _⟨out,c,rfl,rfl,b,t⟩;refine Z ?_;exact⟨rfl,rfl,_,_,Wk.aW az,_,c,rfl,rfl,b,by simp only[bf,length_cons,length_nil];omega⟩
  ·rintro _ _⟨out,c,rfl,rfl,b,t⟩;refine zeA ?_;refine bx [] (vh out X) ?_;rintro _ _⟨rfl,p,z1,z2,C,s,rfl⟩;refine zao ?_;refine fJ ?_;exact⟨c,p,b,by omega,s,rfl,rfl⟩
def HZ(code:ai)(V:code.length<=1099511627776)(c:c9)(m:c.i<=code.length) :
  GC prog 42 [.loc 0 0] [eA code c] (BL code):=by
 obtain⟨k,G,M,t,-⟩:=oM V m 4 X
 by_cases l:k=0
 ·have A:(k==0)=true:=by simpa using l
  refine aj func42 ntmps42 ?_;refine zed ?_;refine bx [0] (HY code V G t) ?_;rintro _ _⟨B,p,u,S,T,rfl,rfl⟩;exact zeY
 ·have A:(k==0)=false:=by simpa using l
  by_cases e:k=1
  ·have R:(k==1)=true:=by simpa using e
   have⟨q,B,v,u,W⟩:=mz V t 3 X;refine aj func42 ntmps42 ?_;refine zed ?_;refine zac ?_;refine I [0] v ?_;refine GL.yR 1000 rfl rfl zfB (by show q<3;omega) rfl ?_;intro s r;refine bm ?_;refine bx [] (vh s X) ?_;rintro _ _⟨rfl,p,b,d,S,T,rfl⟩;refine zao ?_;refine fJ ?_;exact⟨B,p,u,by omega,T,rfl,rfl⟩
  ·have R:(k==1)=false:=by simpa using e
   refine aj func42 ntmps42 ?_;refine zed ?_;refine bx [0] (zu code V G t) ?_;rintro _ _⟨B,p,u,S,T,rfl,rfl⟩;exact zeY
end Go.Xg
namespace Go.Xg
open Go.RowKit Go.Xw Go.Proofs Go.Sp Go.Im
def DrR(g:GV)(J:ap):Prop:=J=[]/\∃p:Src,cM p<=1048576/\jZ p/\g=.agg (aD p)
attribute [local irreducible] GW GL GO YG GC GA bh bn pQ um ql
open Tryz
open GV (U)
def vS{n:Nat}{s:ai}(h:s.length<=n):Ct n [.v (sv s)]=true:=by
 unfold Ct sv;exact Nat.ble_eq_true_of_le zfb
def Jh:∀(fr:am)(t:Nat)(g:GV),cJ fr t=g->jc fr t=true->bU fr t g=fr
 |[],t,g,h,u=>by cases u
 |x::fr,0,g,h,u=>by have h:x=g:=h;subst h;rfl
 |x::fr,t+1,g,h,u=>by show x::bU fr t g=x::fr;rw[Jh fr t g h u]
theorem GL.bP{P:Program}{m:Nat}{u:Array Oper}{Q:dU}{rest:List Oper}{fr:am}{Γ:ap}(t n:Nat){s:ai}(hg:cJ fr t=.v (sv s))(hi:jc fr t=true)(T:s.length<=n)(h:∀s:ai,s.length<=n->GL P m u Q rest (bU fr t (.v (sv s))) Γ):GL P m u Q rest fr Γ:=by
 have:=h s T;rw[Jh fr t _ hg hi]at this;exact this
section
variable(code:ai)
def rl(T:code.length<=1099511627776)(c:c9)(l:c.i<=code.length) :
  GC prog 161 [.loc 0 0] [eA code c] fun g J=>∃(s:ai)(o:c9),o.i<=code.length/\s.length<=10/\g=.v (sv s)/\J=[eA code o]:=by
 have⟨k,G,M,t,W⟩:=mz T l 6 X;refine aj func161 ntmps161 ?_;refine zac ?_;refine zed ?_;refine GL.yR 10 rfl rfl zfB (by show k<6;omega) rfl ?_;intro s q;exact zcO
def A6(b:code.length<=1099511627776)(c:c9)(d:c.i<=code.length) :
  GC prog 162 [.loc 0 0] [eA code c] (VZ code):=by
 have⟨k,e,w,j,V⟩:=mz b d 4 X;refine aj func162 ntmps162 ?_;refine I [0] w ?_;refine GW.loop (fun n:Nat=>n) (fun n u G=>∃out c,u=.loc 0 0::U::U::.v (sv out)::y4 (n:Nat)::zU 34 []/\G=[eA code c]/\c.i<=code.length/\n<=3/\out.length+100*n<=300) k ?_ ?_
 ·exact⟨_,_,Wk.aW az,[],e,rfl,rfl,j,by omega,by show 0+100*k<=300;omega⟩
 ·rintro n _ _⟨out,c,rfl,rfl,d,R,S⟩
  cases n with
  |zero =>
   refine zbk ?_;refine cb ?_;exact⟨out,c,d,by omega,rfl,rfl⟩
  |succ n =>
   have Q:decide ((0:Int)<((n+1:Nat):Int))=true:=decide_eq_true X
   have t:((n+1:Nat):Int)-1=(n:Int):=by omega
   refine Z ?_;refine bx [0] (rl code b c d) ?_;rintro _ _⟨s1,e,j,H,rfl,rfl⟩;refine zao ?_;refine bx [0] (rl code b e j) ?_;rintro _ _⟨s2,l,A,J,rfl,rfl⟩;refine zao ?_;refine bx [0] (rl code b l A) ?_;rintro _ _⟨s3,m,B,L,rfl,rfl⟩;refine zao ?_;refine bx [0] (rl code b m B) ?_;rintro _ _⟨s4,o,C,M,rfl,rfl⟩;refine zao ?_;refine bx [0] (rl code b o C) ?_;rintro _ _⟨s5,O,E,N,rfl,rfl⟩;refine zao ?_;refine zac ?_;have⟨q,r,z,F,W⟩:=mz b E 5 X;refine I [0] z ?_;refine GL.yR 100 rfl rfl (rows:=[[.v (sv _)],[.v (sv _)],[.v (sv _)],[.v (sv _)],[.v (sv _)]]) ?_ (by show q<5;omega) rfl ?_
   ·rw[all_cons,all_cons,all_cons,all_cons,all_cons,vS ze7,vS ze7,vS ze7,vS ze7,vS ze7];rfl
   intro s T;refine zaf ?_;rw[t];exact⟨n,⟨_,_,Wk.aW az,out++s,r,rfl,rfl,F,by omega,by rw[bf];omega⟩,by omega⟩
def H0(T:code.length<=1099511627776)(c:c9)(m:c.i<=code.length) :
  GC prog 91 [.loc 0 0] [eA code c] (BL code):=by
 obtain⟨k,G,M,t,-⟩:=oM T m 3 X
 by_cases l:k=0
 ·have A:(k==0)=true:=by simpa using l
  refine aj func91 ntmps91 ?_;refine zed ?_;refine bx [0] (HZ code T G t) ?_;rintro _ _⟨B,p,u,R,V,rfl,rfl⟩;exact zcE
 ·have A:(k==0)=false:=by simpa using l
  refine aj func91 ntmps91 ?_;refine zed ?_;refine bx [0] (rl code T G t) ?_;rintro _ _⟨w,B,u,J,rfl,rfl⟩;refine zao ?_;refine bx [0] (A6 code T B u) ?_;rintro _ _⟨C,e,j,v,rfl,rfl⟩;refine zao ?_;simp only[List.append_eq];refine Z ?_;refine bx [0] (A6 code T e j) ?_;rintro _ _⟨S,H,q,z,rfl,rfl⟩;refine zao ?_;refine GL.bP 25 5000 rfl rfl ze7 ?_;intro s r;refine bm ?_;refine bx [] (vh s X) ?_;rintro _ _⟨rfl,p,W,b,R,V,rfl⟩;refine zao ?_;refine fJ ?_;exact⟨H,p,q,by omega,V,rfl,rfl⟩
def Hy(T:code.length<=1099511627776):GC prog 26 [.sl 1 (cX code)] [] DrR:=by
 refine aj func26 ntmps26 ?_;refine bx [] (QX code T) ?_;rintro _ _⟨h,rfl,rfl⟩;refine zao ?_;refine bx [1] (H0 code T ⟨0,h⟩ (bg _)) ?_;rintro _ _⟨G,p,t,R,V,rfl,rfl⟩;refine zao ?_;refine fJ ?_;exact⟨rfl,p,R,V,rfl⟩
end
end Go.Xg
namespace Go.Im
open Go.Xp Go.Sp
def XD(x y:Int):Bool:=decide (x<=y)
structure Cpt(d:Array Int)(m:Nat):Prop where
 rise:iJ (Go.Lib.compactUpTo d m)
 le:∀x∈Go.Lib.compactUpTo d m,0<m/\x<=d[m-1]!
 mem:∀x,x∈Go.Lib.compactUpTo d m↔∃i,i<m/\d[i]! = x
 len:(Go.Lib.compactUpTo d m).length<=m
def Uf{d:Array Int}{n:Nat}(q:∀i,i+1<n->d[i]! <= d[i+1]!):∀m,m<=n->Cpt d m:=by
 intro m
 induction m with
 |zero=>intro _;exact⟨List.Pairwise.nil,fun x hx=>(by cases hx),fun x=>(by simp[Go.Lib.compactUpTo]),aQ _⟩
 |succ m O =>
  intro G;have⟨N,v,w,Q⟩:=O ze4;have e:=Go.Lib.compactUpTo_succ d m
  by_cases k:Go.Lib.keeps d m=true
  ·rw[ae k]at e
   have M:∀x∈Go.Lib.compactUpTo d m,x<d[m]! := fun x hx=>by
    grind[Go.Lib.keeps]
   refine⟨?_,fun x hx=>?_,fun x=>?_,?_⟩
   ·grind[iJ,Lib.compactUpTo]
   ·grind
   ·grind
   grind
  ·rw[D k,fV]at e
   have o:0<m:=by
    grind[Nat.eq_zero_or_pos,Go.Lib.keeps]
   have S:d[m]! = d[m-1]! := by
    simp_all[Go.Lib.keeps,decide_eq_true_eq,not_or,Decidable.not_not]
   refine⟨by grind,fun x hx=>?_,fun x=>?_,by grind⟩
   ·grind
   grind
def gO(l:List Int):List Int:=l.mergeSort XD
def D4(l:List Int):(gO l).Perm l:=List.mergeSort_perm l XD
def nA(l:List Int):(gO l).length=l.length:=(D4 l).length_eq
theorem ud{l:List Int}{x:Int}:x∈gO l↔x∈l:=(D4 l).mem_iff
def Ij(l:List Int):(gO l).Pairwise (·<=·):=by
 grind[List.pairwise_mergeSort,XD,gO]
def Wh(l:List Int):Go.Lib.compact (gO l)=pC l/\(Go.Lib.compact (gO l)).length<=(gO l).length:=by
 have q:=Ij l
 have B:∀i,i<(gO l).length->∃x,(gO l)[i]?=some x/\(gO l).toArray[i]! = x:=fun i t=>⟨(gO l)[i],cq _,by grind⟩
 have h:=Uf (d:=(gO l).toArray) (n:=(gO l).length) (fun i t=>by
  grind[List.pairwise_iff_getElem]) _ (aQ _)
 refine⟨Bj h.rise (sB l) fun x=>?_,h.len⟩;unfold Go.Lib.compact;rw[h.mem,oW];constructor
 ·rintro⟨i,t,hx⟩;have⟨y,J,R⟩:=B i t;rw[R]at hx;subst hx;exact ud.1 (bB J)
 ·intro hx;have⟨i,t⟩:=getElem?_of_mem (ud.2 hx)
  grind
def Ua(p:Src)(s:List Int)(a:Nat)(t:T)(ls:List ai):(gH p s a t ls).length<=s.length+1:=by
 unfold gH;rw[bf];have:=B3 p t.n;omega
end Go.Im
namespace Go.Xg
open Go.RowKit Go.Xw Go.Proofs Tryz Go.Im
section
variable{P:Program}{m:Nat}{fr:am}{Γ:ap}
def Wk.keep{n j E k:Nat}{rows:List am}{x:Value}(hm:m<=n)(W:n<=j)(V:sH n (Γ.take n)=true)(e:(Γ.take n).length=n)(M:Γ[j]?=some (.vech E k rows x)) :
  Wk m fr Γ (u9 n fr) (Γ.take n++[.vech E k rows x]):=fun B K s w l hB A R=>by
 have h:=A.cut (n:=n) X V;have⟨xs,o1,o2,O,Q,o5⟩:=A.ob j _ M
 have q:∀b,(Bk.gr x rows.length).has b->(s j).has b:=fun b G=>by rw[o1];exact G
 have C:dv (below n) s n=.no:=qj (q9 (aQ n));have o:dO (dv (below n) s) (e9 (dv (below n) s) n (.gr x rows.length)):=gK (by rw[C];trivial)
 have F:∀b,(s j).has b->∀i,¬(dv (below n) s i).has b:=fun b G i c=>by
  by_cases H:i<n
  ·rw[rA (vl H)]at c;have:=A.dis i j b c G;omega
  ·rw[qj (q9 X)]at c;cases c
 refine⟨K,e9 (dv (below n) s) n (.gr x rows.length),?_,(R.res).mono (cY.refl K) o⟩;refine⟨h.ext,h.kle,h.ble.trans o,h.loc,h.fz,fun i z c=>?_,fun i c=>?_,fun i N b c u=>?_,fun i b c=>?_,h.kn,⟨h.tab.le,h.tab.pow,h.tab.spc,fun i b c=>?_⟩⟩
 ·by_cases T:i<n
  ·rw[l7 X]at c;exact(h.ob i z c).ext (S:=gn) (Ext.refl w) (fun _ _ h=>h) (cY.refl K) o (b0 X) (fun _ _ _ h=>h)
  ·have:i=n:=by have:=(bR c).1;rw[bf,e,length_singleton]at this;omega
   subst this;rw[lz X,e,sY]at c;cases c;refine⟨xs,bH,o2,⟨O.1,fun a v g d t=>(O.2 a v g d t).pc ?_⟩,Q,o5⟩;have⟨r,J,L⟩:=List.mem_flatten.1 (bB t);exact(Q r J).2 g L
 ·rw[bf,e,length_singleton]at c;rw[b0 X];exact qj (q9 X)
 ·by_cases d:i=n<;>by_cases t:N=n
  ·omega
  ·subst d;rw[bH]at c;rw[b0 t]at u;exact absurd u (F b (q b c) N)
  ·subst t;rw[bH]at u;rw[b0 d]at c;exact absurd c (F b (q b u) i)
  ·rw[b0 d]at c;rw[b0 t]at u;exact h.dis i N b c u
 ·rcases kO c with d|d
  ·exact A.own j b (q b d)
  ·exact h.own i b d
 ·rcases kO c with d|d
  ·exact A.tab.free j b (q b d)
  ·exact h.tab.free i b d
end
def Inv.renew{B:Bs}{K:Fz}{β:Bt}{Γ:ap}{w w':World}{i E k:Nat}{rows rows':List am}{x:Value}{xs:List Value}(h:Inv B K β Γ w)(hi:Γ[i]?=some (.vech E k rows x))(T:rows'.length=rows.length)
  (l:gT w' 0 E k x rows'.length xs)(r:bA K β xs rows'.flatten)(c:fM k rows')(hx:Ext (fun b=>x.ownBlock=some b) w w'):Inv B K β (oset Γ i (.vech E k rows' x)) w':=by
 have⟨n,M,z,A,N,S⟩:=h.ob i _ hi
 have d:∀b,x.ownBlock=some b->(β i).has b:=fun b v=>by rw[M];exact v
 rw[bS];refine⟨h.ext.step hx (fun j G=>(h.own i j (d j G)).symm),h.kle,h.ble,h.loc,h.fz.ext hx (fun b o g C R=>by rw[S b R o]at C;cases C),fun j y G=>?_,fun j G=>h.out j (by simpa using G),h.dis,h.own,h.kn,h.tab.step hx (fun j G=>⟨i,d j G⟩) (cY.refl K) (fun i s h=>.inl ⟨i,h⟩)⟩;rw[ik]at G;split at G
 ·rename_i L;split at G
  ·cases G;subst L
   exact⟨xs,by rw[T];exact M,l,r,c,S⟩
  ·cases G
 ·rename_i L;exact(h.ob j y G).ext hx (fun b v R=>L (h.dis i j b (d b R) v)) (cY.refl K) (dO.refl β) rfl (fun _ _ _ h=>h)
section
variable(l:List Int)
def DE:(bK l).flatten=l.map fun i=>y4 i:=by
 unfold bK
 induction l with
 |nil=>rfl
 |cons a l O=>rw[List.map_cons,List.flatten_cons,O];rfl
def fj:(bK l).length=l.length:=by simp[bK]
def JC:fM 1 (bK l):=fun r s=>by
 obtain⟨i,_,rfl⟩:=uY.1 s;exact⟨rfl,fun g B=>by rw[Ay B];rfl⟩
end
def D0{K:Fz}{β:Bt}(l:List Int):bA K β (l.map (Value.int .i64)) ((bK l).flatten):=by
 rw[DE];refine⟨by simp,fun i v g M w=>?_⟩;rw[bO]at M w
 cases T:l[i]? with
 |none=>rw[T]at M;cases M
 |some z=>rw[T]at M w;cases M;cases w;exact .v _
def xv{K:Fz}{β:Bt}{xs:List Value}{l:List Int}(h:bA K β xs ((bK l).flatten)):xs=l.map (Value.int .i64):=by
 rw[DE]at h;apply ext_getElem?;intro i;rw[bO]
 cases T:l[i]? with
 |none =>
  have:=h.1;rw[bC]at this;have w:=nE T;rw[List.getElem?_eq_none X];rfl
 |some z =>
  obtain⟨v,V,r⟩:=h.at (i:=i) (g:=y4 z) (by rw[bO,T];rfl);rw[V,Rel.eP r];rfl
def Ja{w:World}{g q:Nat}{d:Array Int}{os:Array Obj}:Ext (fun b=>b=g) w (Go.Sort.grow (Go.Sort.putRow (Value.int .i64) (Go.Sort.ahead w q) g 0 d) os):=by
 refine⟨rfl,rfl,rfl,by simp[Go.Sort.grow,Go.Sort.putRow,Go.Sort.mapBlock,Go.Sort.ahead],fun k l T=>?_⟩;simp only[Go.Sort.grow,Go.Sort.putRow,Go.Sort.mapBlock,Go.Sort.ahead];rw[Array.getElem?_append_left (by simpa using l),Array.getElem?_modify,D X]
def Tp{K:Fz}{β:Bt}{vs:List Value}{x:Value}(h:bA K β vs [.v x]):vs=[x]:=by
 match vs,h.1 with
 |[v],_=>rw[Rel.eP h.nQ.1]
def Mw(zs:List Int)(E:TypeId)(a:Option Addr)(c:Nat)(hz:zs.length<=1099511627776) :
  GF prog 158 [.v (.slice a zs.length c)] [.vech E 1 (bK zs) (.slice a zs.length c)] (.tup []) [.vech E 1 (bK (gO zs)) (.slice a zs.length c)]:=fun B K C w vs hm r H=>by
 obtain rfl:=Tp H;have⟨xs,T,o,G,V,W⟩:=r.ob 0 _ rfl;have u:=xv G;subst u;rw[fj]at o
 by_cases A:(Value.slice a zs.length c)=.slice none 0 0
 ·injection A with e1 e2 e3
  have z:zs=[]:=jF e2;subst z;subst e1;refine nH.qh (Calls.mono (slices_Sort_int_none none c w) ?_);rintro e S⟨s,rfl⟩;exact⟨_,s,K,C,.tup [],_,r,.tup [] [] rfl (fun i v g h=>by simp at h),rfl,by rw[show gO []=[] by simp[gO]]⟩
 ·have⟨g,F,Q,M,t,O,N,R,J⟩:=Go.Lib.holds_of_ownsRow o A
  injection Q with e1 e2 e3
  subst e1;subst e3;refine nH.qh (Calls.mono (slices_Sort_int g 0 c zs w J t X) ?_);rintro e S⟨s,n,os,rfl⟩;have j:=Go.Lib.ownsRow_putRow (q:=n) (k:=zs.length) (ys:=gO zs) o (nA zs) (aQ _);rw[kK (by rw[nA];exact aQ _)]at j;have l:=Go.Lib.ownsRow_grow j 0 os;refine⟨_,s,K,C,.tup [],_,r.renew (i:=0) rfl (rows':=bK (gO zs)) (xs:=(gO zs).map (Value.int .i64)) (by rw[fj,fj,nA]) ?_ (D0 _) (JC _) ?_,.tup [] [] rfl (fun i v g h=>by simp at h),rfl,rfl⟩
  ·rw[fj,nA];exact l
  ·exact(Ja (w:=w) (g:=g) (q:=n) (d:=(gO zs).toArray) (os:=os)).mono fun b _ L=>by rw[L];rfl
def RX{K:Fz}{β:Bt}{g n c k:Nat}{rows:List am}(h:Rel K β (.slice (some ⟨g,0,none⟩) n c) (.sl k rows))(q:rows≠[]) :
  ∀(i:Nat)r,rows[i]?=some r->r.length=k/\∀(j:Nat)gg,r[j]?=some gg->K g (0+i*k+j)=some gg:=by
 generalize T:Value.slice (some ⟨g,0,none⟩) n c=v at h
 cases h with
 |sl0 a c k=>exact absurd rfl q
 |sl b o c k rows h l =>
  injection T with e1 e2 e3
  injection e1 with e1
  injection e1 with e1 e4
  subst e1;subst e4;exact h
def Mi(zs:List Int)(E:TypeId)(a:Option Addr)(c:Nat)(hz:zs.length<=1099511627776)(SX:(Go.Lib.compact zs).length<=zs.length) :
  GC prog 212 [.v (.slice a zs.length c)] [.vech E 1 (bK zs) (.slice a zs.length c)] fun g Δ=>g=ints (Go.Lib.compact zs)/\∃fz S,Δ=[.vec E 1 fz S]:=fun B K Q w vs hm C W=>by
 obtain rfl:=Tp W;have⟨xs,h1,A,V,h4,h5⟩:=C.ob 0 _ rfl;have M:=xv V;subst M;rw[fj]at A
 by_cases s:zs=[]
 ·subst s;refine nH.qh (Calls.mono (slices_Compact_int_empty a c w) ?_);rintro e w'⟨H,rfl⟩;exact⟨_,H,K,Q,ints [],_,C.wm (i:=0) rfl,.sl0 a c 1,rfl,_,_,rfl⟩
 ·have J:(Value.slice a zs.length c)≠.slice none 0 0:=fun J=>by
   injection J with e1 e2 e3
   exact s (jF e2)
  have⟨g,T,hv,NO,hgw,L,zp,hzl,hH⟩:=Go.Lib.holds_of_ownsRow A J
  injection hv with e1 e2 e3
  subst e1;subst e3;refine nH.qh (Calls.mono (slices_Compact_int g 0 c zs w hH X L) ?_);rintro e w'⟨H,q,rfl⟩;generalize WT:Go.Lib.compact zs=t at *;generalize z:t++List.replicate (zs.length-t.length) (0:Int)=ys at *
  have l:ys.length=zs.length:=by rw[<-z,bf,List.length_replicate];omega
  have o:=Go.Lib.ownsRow_putRow (q:=q) (k:=zs.length) (ys:=ys) A l (aQ _);rw[kK X]at o;have F:=C.renew (i:=0) rfl (rows':=bK ys) (xs:=ys.map (Value.int .i64)) (w':=Go.Sort.putRow (Value.int .i64) (Go.Sort.ahead w q) g 0 ys.toArray) (by rw[fj,fj,l]) (by rw[fj,l];exact o) (D0 _) (JC _)
   (by
    have:=(Ja (w:=w) (g:=g) (q:=q) (d:=ys.toArray) (os:=#[]));rw[Go.Sort.grow_empty]at this
    exact this.mono fun b _ hb=>by rw[hb];rfl)
  have⟨R,hK,O,G⟩:=F.rR (i:=0) rfl;refine⟨_,H,R,Q,ints t,_,G,?_,rfl,_,_,rfl⟩
  have u:zs.length=(bK ys).length:=by rw[fj,l]
  rw[u]at O;have j:=RX O (fun e=>s (jF (by rw[u,e];rfl)))
  have n:t.length=(t.map fun i=>[y4 i]).length:=by simp
  rw[n];refine .sl g 0 c 1 _ (fun i r h=>?_) (by rw[<-n];omega);refine j i r ?_;have N:=(bR h).1;rw[bC]at N;rw[<-z];unfold bK;rw[kL,l7 (by rw[bC];exact N)];exact h
open Go.Xp (Nd T)
open Go.Sp (Src)
attribute [local irreducible] GW GL GO YG GC GA bh bn
def VB(p:Src)(a:Nat)(n:Nd)(l:List T)(ls:List ai)(s:List Int)(A:TypeId)(i:Option Addr)(j:Nat)(O:Option Addr)(L:Nat)(hn:p.ah[a]?=some n)(m:p.ak.length<=1099511627776)(C:s.length<=1048576000) :
  GC prog 211 [y4 (a:Nat),.v (.slice O ls.length L),.box (aD p) 0,.loc 0 0] [.box A [.v (.slice i s.length j)],.vech 3 1 (bK s) (.slice i s.length j),.vech 9 1 (bX ls) (.slice O ls.length L)] fun g J=>g=.tup []/\∃t u,
   J=[.box A [.v (.slice t (gH p s a (.mk n l) ls).length u)],.vech 3 1 (bK (gH p s a (.mk n l) ls)) (.slice t (gH p s a (.mk n l) ls).length u),.vech 9 1 (bX ls) (.slice O ls.length L)]:=by
 have r:=b8 hn;have d:=fj s;have k:=tM p n.s m;have B:bM (fun x:Go.Sp.Fn=>x.name==n.s) p.ak=bF p n.s:=rfl;rw[B]at k;have e:gH p s a (.mk n l) ls=s++(if n.ab=4/\0<=bF p n.s then[bF p n.s]else[]):=rfl;rw[e];unfold aP at r;generalize bF p n.s=z at *
 cases M:(n.ab==4)with
 |false =>
  rw[D (fun h=>by rw[h.1]at M;cases M),fV];exact zcl
 |true =>
  cases w:decide ((0:Int)<=z)with
  |false =>
   rw[D (fun h=>by have:=of_decide_eq_false w;exact this h.2),fV];exact zcl
  |true =>
   rw[ae ⟨by simpa using M,by simpa using w⟩];refine aj func211 ntmps211 ?_;refine za4 ?_;refine aJ [] k ?_;refine Z ?_;refine zau ?_;intro N R;refine zaJ ?_;refine dz ?_;exact⟨rfl,N,R,by simp[bK]⟩
open GV (U)
open Go.Xp (bc aR db)
def G8(p:Src):GV:=.fn (.func 211) [] [.box (aD p) 0,.loc 0 0]
def TC(p:Src):GV:=.fn (.func 115) [] [.loc 2 0,.loc 3 0,.box (aD p) 0,.loc 4 0]
def Tq(A:TypeId)(s:List Int)(i:Option Addr)(j:Nat):ap:=[.box A [.v (.slice i s.length j)],.vech 3 1 (bK s) (.slice i s.length j)]
def DU(p:Src)(A H k R:TypeId)(s:List Int)(ls:List ai)(O:Option Addr)(L:Nat)(i:Option Addr)(j:Nat):ap :=
 [.box A [.v (.slice i s.length j)],.vech 3 1 (bK s) (.slice i s.length j),.box H [G8 p],.box k [.v (.slice O ls.length L)],.box R [TC p],.vech 9 1 (bX ls) (.slice O ls.length L)]
def Sa(p:Src)(G J L M:TypeId)(hp:p.ah.length<=1048576)(S:∀n∈p.ah,n.au.length<=1099511627776)(R:p.ak.length<=1099511627776):∀(N:Nat)(t:T),bc t<=N->∀(a:Nat)(s:List Int)(ls:List ai)(w:Option Addr)(z:Nat)(d:Option Addr)(j:Nat),dW p.ah a t->ls.length+bc t<=8388608->s.length+bc t<=8388608 ->
  GC prog 115 [y4 (a:Nat),.loc 2 0,.loc 3 0,.box (aD p) 0,.loc 4 0] (DU p G J L M s ls w z d j) fun g Δ=>g=.tup []/\∃b c e m,Δ=DU p G J L M (fq (gH p) t a s ls).1 (fq (gH p) t a s ls).2 b c e m:=by
 intro N
 induction N with
 |zero=>intro t h;exact zel
 |succ N ih =>
 intro t hN a s ls w z d j A W hss
 cases t with
 |mk n l =>
 rw[Go.Xp.bc]at hN W hss;have aa5:=A;rw[dW]at A;have⟨hn,hk,DD⟩:=A;rw[fq];have hr:=b8 hn;have NT:=S n (bB hn);have ht:=VB p a n l ls s G d j w z hn R X;have abZ:((gH p) s a (.mk n l) ls).length<=s.length+1:=Ua _ _ _ _ _;generalize FQ:(gH p) s a (.mk n l) ls=r at *
 have o:n.au.length=l.length:=by rw[hk,db]
 unfold aP at hr;unfold DU G8 TC;refine aj func115 ntmps115 ?_;refine GL.oO [0,1,5] ht rfl rfl rfl (by repeat (first|exact trivial|refine⟨rfl,?_⟩)) ?_;rintro _ _⟨rfl,d,j,rfl⟩;refine zao ?_;refine GW.range (n.au.map fun i=>[y4 i]).length (fun k fr Γ=>∃b c e m,fr=[y4 (a:Nat),.loc 2 0,.loc 3 0,.box (aD p) 0,.loc 4 0,U,U,U,U,U,U,U,U,U,U,U,U,ints n.au,y4 ((n.au.map fun i=>[GV.v (ii i)]).length:Int),y4 (k:Nat),U,U,U,U,U,U,U,U,U,U,U,U,U,U,U,U,U,U,U,U,U,U,U]/\Γ=DU p G J L M (dk (gH p) (l.take k) (a+1) r ls).1 (dk (gH p) (l.take k) (a+1) r ls).2 b c e m) ?_ zfd ?_ ?_ ?_
 ·exact⟨_,_,Wk.aW az,w,z,d,j,rfl,rfl⟩
 ·rintro k _ _⟨w,z,d,j,rfl,rfl⟩;exact dN
 ·rintro k _ _ E⟨w,z,d,j,rfl,rfl⟩;rw[bC,o]at E;obtain⟨u,H⟩:∃u,l[k]?=some u:=⟨l[k],by simp[E]⟩;have B:=oz (n:=a+1) H;rw[<-hk]at B;have Ju:=ep B;have pf:=gZ H;have Xi:dW p.ah (a+1+aR (l.take k)) u:=dQ.ix l (a+1) k u DD H
  have C:(dk (gH p) (l.take k) (a+1) r ls).2.length<=ls.length+aR (l.take k):=by
   exact zcZ
  have V:(dk (gH p) (l.take k) (a+1) r ls).1.length<=r.length+aR (l.take k):=by
   rw[Fo,bf];have:=E8 p (l.take k);omega
  rw[wG _ H];generalize(dk (gH p) (l.take k) (a+1) r ls).1=s2 at *;generalize(dk (gH p) (l.take k) (a+1) r ls).2=q at *;have F:=ih u X (a+1+aR (l.take k)) s2 q w z d j Xi X X;unfold DU G8 TC at F |-;refine Z ?_;refine GL.oO [0,1,2,3,4,5] F rfl rfl rfl (by repeat (first|exact trivial|refine⟨rfl,?_⟩)) ?_;rintro _ _⟨rfl,b,c,e,m,rfl⟩;refine zao ?_;exact⟨rfl,rfl,_,_,Wk.aW az,b,c,e,m,rfl,rfl⟩
 ·rintro _ _⟨w,z,d,j,rfl,rfl⟩;rw[bC,o,dx]
  have C:(dk (gH p) l (a+1) r ls).2.length<=ls.length+aR l:=by
   exact zev
  generalize(dk (gH p) l (a+1) r ls).1=s2 at *;generalize(dk (gH p) l (a+1) r ls).2=q at *;have Dy:(bX q).length=q.length:=rE q;unfold DU G8 TC;refine bl ?_
  cases F:(n.ab==13)with
  |false =>
   rw[D (by simpa using F)];refine Z ?_;refine dz ?_;exact⟨rfl,w,z,d,j,rfl⟩
  |true =>
   rw[ae (by simpa using F)];refine zbm ?_;refine OA rfl rfl (GL.mx 5 (news:=[[.v (sv n.s)]]) rfl rfl rfl aO rfl rfl (by refine⟨?_,?_⟩;(· show _+1<=_;omega);(· show(_+1)*_<=_;omega)) ?_);intro O Q;refine zem ?_;exact⟨rfl,O,Q,d,j,by simp[bX]⟩
def Uj(p:Src)(B:TypeId)(i:Nat)(f:Go.Sp.Fn)(t:T)(s:List Int)(j:Option Addr)(k:Nat)(G:p.ah.length<=1048576)(C:∀n∈p.ah,n.au.length<=1099511627776)(m:p.ak.length<=1099511627776)
  (hf:p.ak[i]?=some f)(z:f.params.length<=1048576)(N:0<=f.body)(E:dW p.ah f.body.toNat t)(H:bc t<=1048576)(q:s.length+bc t<=8388608) :
  GC prog 53 [.agg (aD p),y4 (i:Nat),G8 p] (Tq B s j k) fun g J=>g=.tup []/\∃u w,J=Tq B (fq (gH p) t f.body.toNat s f.params).1 u w:=by
 have r:(p.ak.map aH)[i]?=some (aH f):=by rw[bO,hf];rfl
 have A:(f.params.map fun s=>[GV.v (sv s)]).length=f.params.length:=by simp
 have l:=w8 f.params;obtain⟨b,V⟩:∃b:Nat,f.body=(b:Int):=⟨f.body.toNat,by omega⟩;rw[V,dC]at E |-;unfold aH at r;rw[V]at r;unfold G8 Tq;refine dT func53 ntmps53 ?_;refine za1 ?_;refine GL.yu 4 rfl rfl rfl rfl l (by refine⟨?_,?_⟩;(· rw[A];omega);(· rw[A];omega)) ?_;intro O L;rw[A];refine zcg ?_;refine GW.Fl (de:=U::y4 (i:Nat)::U::.box (aD p) 0::U::.loc 3 0::.loc 5 0::.loc 6 0::zU 16 []) (bE:=[.box B [.v (.slice j s.length k)],.vech 3 1 (bK s) (.slice j s.length k),.gone,.box _ [.fn (.func 211) [] [.box (aD p) 0,.loc 0 0]],.vech 9 1 (bX f.params) (.slice O f.params.length L),.box _ [.v (.slice O f.params.length L)],.box _ [.fn (.func 115) [] [.loc 3 0,.loc 5 0,.box (aD p) 0,.loc 6 0]]]) az rfl ?_;refine zdJ ?_;have W:=Sa p B;refine OA rfl rfl (GL.oO [0,1,3,5,6,4] (W _ _ _ G C m _ t (aQ _) b s f.params O L j k E X q) rfl rfl rfl (by repeat (first|exact trivial|refine⟨rfl,?_⟩)) ?_);rintro _ _⟨rfl,M,F,u,w,rfl⟩;refine⟨by simp[DU],?_⟩;unfold DU;refine zem ?_;exact⟨rfl,u,w,rfl⟩
end Go.Xg
namespace Go.Im
open Go.Xp Go.Sp
def jU(p:Src)(l:List T)(x:Int):List Int:=match l[x.toNat]? with|some t=>cQ p t|none=>[]
def vu(p:Src)(l:List T)(x:Int):∀y∈jU p l x,0<=y/\y<(p.ak.length:Int):=by
 intro y J;unfold jU at J;split at J
 ·exact nV p _ y J
 ·simp at J
structure Trail(p:Src)(L:List Int):Prop where
 nodup:L.Nodup
 rng:∀y∈L,0<=y/\y<(p.ak.length:Int)
def Trail.len{p:Src}{L:List Int}(h:Trail p L):L.length<=p.ak.length:=x8 h.nodup h.rng
theorem Trail.add{p:Src}{L ks:List Int}(h:Trail p L)(k:∀y∈ks,0<=y/\y<(p.ak.length:Int)):Trail p (da L ks) :=
 ⟨sI h.nodup,fun y J=>by
  rcases jL.1 J with M|M
  ·exact h.rng y M
  ·exact k y M⟩
def kV(p:Src)(l:List T)(L:List Int):List Int:=mA (jU p l) (p.ak.length+1) 0 L
section
variable{cs:Int->List Int}{f i:Nat}{L:List Int}
def EZ{x:Int}(h:L[i]?=some x):mA cs (f+1) i L=mA cs f (i+1) (da L (cs x)):=by rw[mA,h]
def E0(h:L.length<=i):mA cs f i L=L:=by
 cases f with
 |zero=>rfl
 |succ f=>rw[mA,List.getElem?_eq_none h]
end
def yv{p:Src}{l:List T}:∀(f i:Nat)(L:List Int),Trail p L->Trail p (mA (jU p l) f i L)
 |0,i,L,h=>h
 |f+1,i,L,h=>by
  rw[mA];split
  ·exact h
  ·exact yv f (i+1) _ (h.add (vu p l _))
def br(p:Src)(fn:Int):List Int:=if gX p fn=true then(match j3 p.ah p.ak 0 []with|some (l,_)=>kV p l (jU p l fn)|none=>[])else[]
def oq{p:Src}{l:List T}{i:Nat}{f:Go.Sp.Fn}{t:T}(M:gX p (i:Int)=true)(h:eQ p l i f t):br p (i:Int)=kV p l (cQ p t):=by
 unfold br;rw[ae M,h.good.xz];simp only;unfold jU;rw[dC,h.gt]
def zV{p:Src}{fn:Int}(h:gX p fn=false):br p fn=[]:=by grind[br]
def fy{p:Src}{fn:Int}:Trail p (br p fn):=by
 cases M:gX p fn with
 |false=>rw[zV M];exact⟨List.Pairwise.nil,by simp⟩
 |true =>
  obtain⟨i,l,f,t,rfl,h⟩:=vE M;rw[oq M h];exact yv _ _ _ ⟨tY (oP p t),nV p t⟩
def qw(p:Src)(a b:Int):Bool:=(br p a).contains b
def GY(l:List Int)(x:Int):(gO l).contains x=l.contains x:=by
 simp[gO]
def IW(p:Src)(l:List T)(x:Int):Trail p (jU p l x):=by
 refine⟨?_,vu p l x⟩;unfold jU;split
 ·exact tY (oP p _)
 ·exact List.Pairwise.nil
def lT(p:Src):EW (br p):=by
 intro a b v c k
 have z:gX p a=true:=by
  cases h:gX p a with
  |true=>rfl
  |false=>rw[zV h]at v;cases v
 have w:gX p b=true:=by
  cases h:gX p b with
  |true=>rfl
  |false=>rw[zV h]at k;cases k
 obtain⟨i,l,f,t,rfl,h⟩:=vE z
 have S:∀x,gX p x=true->br p x=kV p l (jU p l x):=by
  intro x hx;unfold br;rw[ae hx,h.good.xz]
 rw[S _ z]at v |-;rw[S _ w]at k;have R:=IW p l (i:Int);have s:=sJ (jU p l) p.ak.length (vu p l) (p.ak.length+1) 0 (jU p l (i:Int)) R.nodup R.rng ze4 (fun j x G=>by omega);exact rZ (jU p l) (fun x=>x∈kV p l (jU p l (i:Int))) (fun x hx y J=>s x hx y J) _ 0 (jU p l b) (fun x hx=>s b v x hx) c k
def ED(p:Src):List Int:=if cw p=true then dL (br p) p.ak.length p.ak.length else[]
def eo(ay:Bool)(n:Nd):Nat:=if(!ay ||(n.ab==4&&n.s==lr))=true then 1 else 0
def eu(a b:Int):Int:=if a<0\/b<0\/1000000000<a+b then -1 else a+b
def pW(a b:Int):Int:=if a<0\/b<0 then -1 else if b<a then a else b
def ek(n:Nat):Nat:=min n 1000000001
def mw(v:Int)(w:Nat):Prop:=w<=1000000001/\v=if 1000000000<w then -1 else(w:Int)
def rz{v d:Int}{w w':Nat}(h:mw v w)(k:mw d w'):mw (eu v d) (ek (w+w')):=by
 grind[mw,eu,ek]
def Gr{v d:Int}{w w':Nat}(h:mw v w)(k:mw d w'):mw (pW v d) (max w w'):=by
 grind[mw,pW]
def Pa:mw 0 0:=⟨by omega,rfl⟩
def RI(ay:Bool)(n:Nd):mw (eo ay n:Nat) (eo ay n):=by
 grind[mw,eo]
section
variable(p:Src)(ay:Bool)
def sT(V:Int->Int)(n:Nd)(ks:List Int):Int :=
 if n.ab=4/\n.s=cB then(eo ay n:Nat)
 else if n.ab=10 then -1
 else if n.ab=9 then eu (eu (eo ay n:Nat) (ks.headD 0)) (pW (ks.getD 1 0) (ks.getD 2 0))
 else if n.ab=4/\0<=bF p n.s then eu (ks.foldl eu (eo ay n:Nat)) (V (bF p n.s))else ks.foldl eu (eo ay n:Nat)
mutual
def cR(V:Int->Int):T->Int
 |.mk n l=>sT p ay V n (kA V l)
def kA(V:Int->Int):List T->List Int
 |[]=>[]
 |t::r=>cR V t::kA V r
end
def sS(W:Int->Nat)(n:Nd)(ks:List Nat):Nat :=
 if n.ab=4/\n.s=cB then eo ay n
 else if n.ab=9 then ek (eo ay n+ks.headD 0+ks.tail.foldl max 0)
 else if n.ab=4/\0<=bF p n.s then ek (ks.foldl (fun m k=>ek (m+k)) (eo ay n)+W (bF p n.s))else ks.foldl (fun m k=>ek (m+k)) (eo ay n)
mutual
def cP(W:Int->Nat):T->Nat
 |.mk n l=>sS p ay W n (fx W l)
def fx(W:Int->Nat):List T->List Nat
 |[]=>[]
 |t::r=>cP W t::fx W r
end
end
mutual
def uj:T->Bool
 |.mk n l=>n.ab==10 ||p9 l
def p9:List T->Bool
 |[]=>false
 |t::r=>uj t ||p9 r
end
def Kv:List Int->List Nat->Prop
 |[],[]=>True
 |v::d,w::r=>mw v w/\Kv d r
 |_,_=>False
def C1:∀{vs:List Int}{r:List Nat}{v:Int}{w:Nat},mw v w->Kv vs r->mw (vs.foldl eu v) (r.foldl (fun m k=>ek (m+k)) w)
 |[],[],v,w,h,_=>h
 |x::vs,y::r,v,w,h,k=>by
  rw[foldl_cons,foldl_cons];exact C1 (rz h k.1) k.2
 |[],_::_,v,w,h,k=>k.elim
 |_::_,[],v,w,h,k=>k.elim
def yw(p:Src)(ay:Bool)(V:Int->Int):∀l:List T,(kA p ay V l).length=l.length
 |[]=>by rfl
 |t::r=>by rw[kA,length_cons,length_cons,yw p ay V r]
def IK(p:Src)(ay:Bool)(W:Int->Nat):∀l:List T,(fx p ay W l).length=l.length
 |[]=>by rfl
 |t::r=>by rw[fx,length_cons,length_cons,IK p ay W r]
section
variable{p:Src}{ay:Bool}
theorem Ry{V:Int->Int}{W:Int->Nat}{n:Nd}{vs:List Int}{t:List Nat}(h:Kv vs t)(S:n.ab≠10)(i:n.ab=9->vs.length=2\/vs.length=3)(l:n.ab=4/\0<=bF p n.s->mw (V (bF p n.s)) (W (bF p n.s))):mw (sT p ay V n vs) (sS p ay W n t):=by
 have k:=RI ay n;have u:=C1 k h;unfold sT sS
 by_cases M:n.ab=4/\n.s=cB
 ·grind
 rw[D M,D M,D S]
 by_cases v:n.ab=9
 ·rw[ae v,ae v];have T:=i v
  match vs,t,h with
  |[a,b],[c,d],h =>
   have e:=rz (rz k h.1) (Gr h.2.1 Pa)
   have J:ek (ek (eo ay n+c)+max d 0)=ek (eo ay n+c+max 0 d):=by grind[ek]
   simp_all
  |[a,b,x],[c,d,y],h =>
   have e:=rz (rz k h.1) (Gr h.2.1 h.2.2.1)
   have J:ek (ek (eo ay n+c)+max d y)=ek (eo ay n+c+max (max 0 d) y):=by grind[ek]
   grind
  |[a,b],[c],h=>exact h.2.elim
  |[a,b],c::d::e::r,h=>exact h.2.2.elim
  |[a,b,x],[c],h=>exact h.2.elim
  |[a,b,x],[c,d],h=>exact h.2.2.elim
  |[a,b,x],c::d::e::f::r,h=>exact h.2.2.2.elim
  |[],_,h=>simp at T
  |[_],_,h=>simp at T
  |_::_::_::_::_,_,h=>simp at T
 rw[D v,D v]
 by_cases w:n.ab=4/\0<=bF p n.s
 ·simp_all[ae,rz]
 grind
mutual
def Ff{V:Int->Int}{W:Int->Nat}:∀t:T,eY t=true->uj t=false->(∀g∈jb p t,mw (V g) (W g))->mw (cR p ay V t) (cP p ay W t)
 |.mk n l,m,R,k=>by
  rw[uj,Bool.or_eq_false_iff]at R;rw[jb]at k;rw[eY,aU]at m;rw[cR,cP]
  refine Ry (De l m.2 R.2 fun g B=>k g (mem_append_right _ B)) ze3 (fun h=>?_) fun h=>k _ (mem_append_left _ (by grind[pb]))
  rw[yw];have:=m.1;simp[c7,h]at this;omega
def De{V:Int->Int}{W:Int->Nat}:∀l:List T,qB l=true->p9 l=false->(∀g∈eC p l,mw (V g) (W g))->Kv (kA p ay V l) (fx p ay W l)
 |[],_,_,_=>by rw[kA,fx];trivial
 |t::r,m,R,k=>by
  rw[p9,Bool.or_eq_false_iff]at R;rw[eC]at k;rw[qB,aU]at m;rw[kA,fx];exact⟨Ff t m.1 R.1 fun g B=>k g (mem_append_left _ B),De r m.2 R.2 fun g B=>k g (mem_append_right _ B)⟩
end
end
def Fx:∀{l:List Int}{v:Int},(v<0\/∃x∈l,x<0)->l.foldl eu v<0
 |[],v,h=>by
  grind
 |y::l,v,h=>by
  rw[foldl_cons];refine Fx ?_
  grind[eu]
def EX{a b:Int}(h:a<0\/b<0):eu a b<0:=by grind[eu]
section
variable{p:Src}{ay:Bool}
mutual
def sO{V H:Int->Int}:∀t:T,(∀g∈jb p t,V g=H g)->cR p ay V t=cR p ay H t
 |.mk n l,h=>by
  rw[jb]at h;rw[cR,cR,zi l fun g B=>h g (mem_append_right _ B)];unfold sT
  simp_all[mem_append_left,pb,ae,List.mem_singleton_self,if_false]
def zi{V H:Int->Int}:∀l:List T,(∀g∈eC p l,V g=H g)->kA p ay V l=kA p ay H l
 |[],_=>by rfl
 |t::r,h=>by
  rw[eC]at h;rw[kA,kA,sO t fun g B=>h g (mem_append_left _ B),zi r fun g B=>h g (mem_append_right _ B)]
end
mutual
def Fe{V:Int->Int}(u:bF p cB<0):∀(t:T)(ls:List ai),fR t->eY t=true->qF p t ls->(uj t=true\/∃g∈jb p t,V g<0)->cR p ay V t<0
 |.mk n l,ls,wf,q,r,h=>by
  have E:=wf;rw[fR]at wf;rw[eY,aU]at q;rw[qF]at r;rw[uj,jb]at h;rw[cR];unfold sT
  by_cases M:n.ab=4/\n.s=cB
  ·exfalso;obtain⟨k,e,J,o,-,-,-⟩:=CG E r.1 M.1 M.2;have e:l=[k]:=e;subst e;have⟨m,j⟩:=k;have o:j=[]:=o;subst o;have J:m.ab=2:=J
   rcases h with h|⟨g,B,-⟩
   ·grind[p9,uj]
   simp_all[mem_append,eC,jb,pb,D]
  rw[D M]
  by_cases S:n.ab=10
  ·omega
  rw[D S]
  have z:b9 (.mk n l)=false:=by
   unfold b9;show((n.ab==4&&n.s==cB)&&_)=false
   grind
  have w:(p9 l=true\/∃g∈eC p l,V g<0)->∃v∈kA p ay V l,v<0:=fun h=>Dd u l ls wf.2.2 q.2 (r.2 z) h
  have C:(∃v∈kA p ay V l,v<0)\/(n.ab=4/\0<=bF p n.s/\V (bF p n.s)<0):=by
   rcases h with h|⟨g,B,d⟩
   ·grind
   ·rcases vf B with B|B
    ·simp_all[pb,ae,mem_singleton,D]
    ·exact .inl (w (.inr ⟨g,B,d⟩))
  by_cases i:n.ab=9
  ·rw[ae i]
   have W:l.length=2\/l.length=3:=by
    have:=q.1;simp[c7,i]at this;omega
   rw[<-yw p ay V l]at W
   rcases C with⟨v,d,A⟩|h
   ·generalize kA p ay V l=F at *
    match F,W with
    |[a,b],_ =>
     grind[eu,eo,pW]
    |[a,b,c],_ =>
     simp only[List.mem_cons,not_mem_nil,or_false]at d
     grind[eu,eo,pW]
    |[],W=>simp at W
    |[_],W=>simp at W
    |_::_::_::_::_,W=>simp at W
   ·omega
  rw[D i]
  rcases C with d|⟨H,L,N⟩
  ·have G:=Fx (v:=(eo ay n:Nat)) (.inr d);split
   ·simp_all[EX]
   omega
  simp_all[ae,EX]
def Dd{V:Int->Int}(s:bF p cB<0):∀(l:List T)(ls:List ai),eL l->qB l=true->oE p l ls->(p9 l=true\/∃g∈eC p l,V g<0)->∃v∈kA p ay V l,v<0
 |[],ls,_,_,_,h=>by
  grind[p9,eC]
 |t::r,ls,wf,k,m,h=>by
  rw[eL]at wf;rw[qB,aU]at k;rw[oE]at m;rw[p9,eC,Bool.or_eq_true]at h;rw[kA]
  have c:(uj t=true\/∃g∈jb p t,V g<0)\/(p9 r=true\/∃g∈eC p r,V g<0):=by
   grind
  rcases c with h|h
  ·exact⟨_,List.mem_cons_self,Fe s t ls wf.1 k.1 m.1 h⟩
  ·have⟨v,M,w⟩:=Dd s r _ wf.2 k.2 m.2 h
   grind
end
end
def Good.XV{p:Src}{l:List T}(h:Good p l):bF p cB<0:=by
 unfold bF bM
 cases n:p.ak.findIdx? (fun f=>f.name==cB)with
 |none=>decide
 |some k =>
  exfalso;obtain⟨M,w,-⟩:=List.findIdx?_eq_some_iff_getElem.1 n
  have w:p.ak[k].name=cB:=by grind
  have t:(du p)[p.ax.length+p.aq.length+k]?=some cB:=by
   unfold du fG iL
   grind
  have v:=h.names;unfold eK at v;have m:=(bR t).1;have:=List.any_eq_false.1 v _ (List.mem_range.2 m);apply this;unfold kg;rw[t];rfl
section
variable(p:Src)(l:List T)(ay:Bool)
def Vf:Nat->Int->Int
 |0,_ => -1
 |N+1,f=>if(br p f).contains f=true then -1 else match l[f.toNat]? with|some t=>cR p ay (Vf N) t|none => -1
def Wf:Nat->Int->Nat
 |0,_=>0
 |N+1,f=>match l[f.toNat]? with|some t=>cP p ay (Wf N) t|none=>0
def ji(f:Int):Int:=Vf p l ay (p.ak.length+1) f
end
section
variable{p:Src}{l:List T}{ay:Bool}
theorem iu{i:Nat}{f:Go.Sp.Fn}{t:T}(c:cw p=true)(h:eQ p l i f t){g:Int}(hg:g∈jb p t):g∈br p (i:Int):=by
 have u:=(bR h.gf).1
 have M:gX p (i:Int)=true:=by grind[gX]
 rw[oq M h];exact vn _ _ _ _ _ (oW.2 hg)
theorem ot{f g:Int}(hg:g∈br p f)(hn:g ∉ br p g):(br p g).length<(br p f).length:=by
 have M:(g::br p g).Nodup:=List.nodup_cons.2 ⟨hn,fy.nodup⟩
 have:=yV M (b:=br p f) fun x hx=>by
  rcases ln hx with rfl|hx
  ·exact hg
  ·exact lT p f g hg x hx
 grind
theorem mH(hg:Good p l){f x:Int}(h:x∈br p f):∃(i:Nat)(fn:Go.Sp.Fn)(t:T),x=(i:Int)/\eQ p l i fn t:=by
 have⟨M,v⟩:=fy.rng x h
 have u:x.toNat<p.ak.length:=by omega
 have E:=hg.len;exact⟨x.toNat,_,_,by omega,hg.fn (cq u) (cq (show x.toNat<l.length by omega))⟩
theorem KQ{N:Nat}{f:Int}(h:f∈br p f):Vf p l ay N f = -1:=by
 cases N with
 |zero=>rfl
 |succ N=>grind[Vf]
def AH{N i:Nat}{f:Go.Sp.Fn}{t:T}(h:eQ p l i f t)(hn:(i:Int) ∉ br p (i:Int)):Vf p l ay (N+1) (i:Int)=cR p ay (Vf p l ay N) t:=by
 rw[Vf,D (fun h=>hn (l9.1 h)),dC,h.gt]
theorem Iv(c:cw p=true)(hg:Good p l):∀(N i:Nat)(f:Go.Sp.Fn)(t:T),eQ p l i f t->(br p (i:Int)).length<N->Vf p l ay N (i:Int)=Vf p l ay (N+1) (i:Int)
 |0,i,f,t,h,z=>by omega
 |N+1,i,f,t,h,z=>by
  by_cases w:(i:Int)∈br p (i:Int)
  ·grind[Vf]
  rw[AH h w,AH h w]
  refine sO t fun g u=>?_
  have d:=iu c h u
  by_cases S:g∈br p g
  ·grind[KQ]
  ·have M:=ot d S;obtain⟨j,B,b,rfl,L⟩:=mH hg d;exact Iv c hg N j B b L ze4
theorem zM{f:Int}(h:f∈br p f):ji p l ay f = -1:=KQ h
theorem Db(c:cw p=true)(hg:Good p l){i:Nat}{f:Go.Sp.Fn}{t:T}(h:eQ p l i f t)(hn:(i:Int) ∉ br p (i:Int)):ji p l ay (i:Int)=cR p ay (ji p l ay) t:=by
 have V:=(fy (p:=p) (fn:=(i:Int))).len;unfold ji;rw[AH h hn]
 refine sO t fun g u=>?_
 have d:=iu c h u
 by_cases S:g∈br p g
 ·grind[KQ]
 ·have M:=ot d S
  grind[mH,Iv]
def q6(p:Src)(l:List T)(f:Int):Prop:=∀k:Int,(k=f\/k∈br p f)->k ∉ br p k/\∀t,l[k.toNat]?=some t->uj t=false
def q6.down{f g:Int}(h:q6 p l f)(hg:g∈br p f):q6 p l g:=fun k m=>h k (.inr (by
 rcases m with rfl|m
 ·exact hg
 ·exact lT p f g hg k m))
def vJ(hg:Good p l){i:Nat}{t:T}(o:l[i]?=some t):eY t=true:=fa.1 hg.st.k t (bB o)
def Kg(c:cw p=true)(hg:Good p l):∀(N i:Nat)(f:Go.Sp.Fn)(t:T),eQ p l i f t->q6 p l (i:Int)->(br p (i:Int)).length<N->mw (Vf p l ay N (i:Int)) (Wf p l ay N (i:Int))
 |0,i,f,t,h,q,z=>by omega
 |N+1,i,f,t,h,q,z=>by
  have⟨M,v⟩:=q _ (.inl rfl);rw[AH h M,Wf,dC,h.gt]
  refine Ff t (vJ hg h.gt) (v t (by rw[dC];exact h.gt)) fun g u=>?_
  have d:=iu c h u;have O:=ot d (q g (.inr d)).1;obtain⟨j,B,b,rfl,L⟩:=mH hg d;exact Kg c hg N j B b L (q.down d) ze4
theorem Lg(c:cw p=true)(hg:Good p l){i:Nat}{f:Go.Sp.Fn}{t:T}(h:eQ p l i f t){x:Int}(hx:x∈br p (i:Int)):∃g∈jb p t,x=g\/x∈br p g:=by
 have v:=(bR h.gf).1
 have M:gX p (i:Int)=true:=by grind[gX]
 rw[oq M h]at hx;refine rZ (jU p l) (fun x=>∃g∈jb p t,x=g\/x∈br p g) (fun x ⟨g,u,hx⟩y J=>⟨g,u,.inr ?_⟩) _ 0 _ (fun x hx=>⟨x,oW.1 hx,.inl rfl⟩) x hx;have d:=iu c h u
 have Q:∀z:Int,(∃(i:Nat)(fn:Go.Sp.Fn)(t:T),z=(i:Int)/\eQ p l i fn t)->∀y∈jU p l z,y∈br p z:=by
  rintro _⟨j,B,b,rfl,L⟩y J;unfold jU at J;rw[dC,L.gt]at J;exact iu c L (oW.1 J)
 rcases hx with rfl|hx
 ·grind[mH]
 ·exact lT p g x hx y (Q x (mH hg hx) y J)
theorem Kf(c:cw p=true)(hg:Good p l):∀(N i:Nat)(f:Go.Sp.Fn)(t:T),eQ p l i f t->(br p (i:Int)).length<N->¬q6 p l (i:Int)->ji p l ay (i:Int)<0
 |0,i,f,t,h,z,q=>by omega
 |N+1,i,f,t,h,z,q=>by
  by_cases w:(i:Int)∈br p (i:Int)
  ·grind[zM]
  rw[Db c hg h w];refine Fe hg.XV t f.params h.wf (vJ hg h.gt) h.ok ?_
  by_cases V:uj t=true
  ·grind
  right
  refine Classical.byContradiction fun R=>q fun k m=>?_
  rcases m with rfl|m
  ·refine⟨w,fun b B=>?_⟩;rw[dC,h.gt]at B
   grind
  ·have⟨g,u,n⟩:=Lg c hg h m;have d:=iu c h u
   have e:¬ji p l ay g<0:=fun h=>R ⟨g,u,h⟩
   by_cases S:g∈br p g
   ·grind[zM]
   have M:=ot d S;obtain⟨j,C,b,rfl,L⟩:=mH hg d
   have E:q6 p l (j:Int):=Classical.byContradiction fun E=>e (Kf c hg N j C b L ze4 E)
   exact E k n
end
end Go.Im
namespace Go.Xg
open Go.RowKit Go.Xw Go.Proofs Tryz Go.Im
open GV (U)
open Go.Xp (T)
open Go.Sp (Src)
attribute [local irreducible] GW GL GO YG GC GA bh bn
def IM(p:Src)(R:cM p<=1048576){l:List T}{i:Nat}{f:Go.Sp.Fn}{t:T}(h:eQ p l i f t) :
  GF prog 157 [.agg (aD p),y4 (i:Nat)] [] (ints (cQ p t)) []:=by
 have⟨⟨a1,M⟩,⟨H,u⟩,⟨G,B⟩,⟨E,m⟩⟩:=et p;have z:=h.sz;have s:=M3 p _ t (aQ _)
 have V:=fun j k=>Uj p 29 i f t [] j k X (fun n b=>by have:=(m n b).2;omega) X h.gf (by have:=(B f (bB h.gf)).2.1;omega) h.body h.st X (by show 0+_<=_;omega)
 rw[SA,nil_append]at V;have⟨e,J⟩:=Wh (jb p t)
 have W:=fun a c=>Mw (jb p t) 3 a c X
 have w:=fun a c=>Mi (gO (jb p t)) 3 a c (by rw[nA];omega) J
 rw[e]at w;rw[nA]at w;unfold G8 Tq at V;unfold cQ;generalize pC (jb p t)=A at *;generalize gO (jb p t)=C at *;refine dT func157 ntmps157 ?_;refine GW.wk (Wk.jO 3 1) ?_;simp only[nil_append];refine jB ?_;refine GL.wk (Wk.freeze (i:=1) rfl rfl rfl (bg _)) ?_;refine zaf ?_;refine bx [2,0] (V none 0) ?_;rintro _ _⟨rfl,j,k,rfl⟩;refine zao ?_;refine I [0] (W j k) ?_;refine bx [0] (w j k) ?_;rintro _ _⟨rfl,d,S,rfl⟩;refine bI ?_;exact aB
def Da(p:Src)(hw:cM p<=1048576){l:List T}(hg:Go.Im.Good p l)(e:List Int)(hL:Trail p e) :
  GF prog 84 [.agg (aD p),ints e] [] (ints (gO (kV p l e))) []:=by
 have⟨⟨a1,a2⟩,⟨b1,b2⟩,⟨c1,c2⟩,⟨d1,d2⟩⟩:=et p;have hlen:=hg.len;have W3:=hL.len
 have r:(e.map fun i=>[y4 i]).length=e.length:=by simp
 have J:=Gj e;obtain⟨N,hN⟩:∃N,p.ak.length=N:=⟨_,rfl⟩;refine dT func84 ntmps84 ?_;refine GW.wk (Wk.jO 3 1) ?_;simp only[nil_append];refine Z ?_;refine GL.yu 0 rfl rfl rfl rfl J (by refine⟨?_,?_⟩;(· rw[r];omega);(· rw[r];omega)) ?_;intro ad cp;rw[r];refine zcg ?_;refine GW.loop (fun s:Nat × List Int=>N-s.1) (fun s R Γ=>∃a c n S,R=U::U::.loc 1 0::U::U::.v (.slice a n c)::y4 (s.1:Nat)::zU 33 []/\Γ=[.vech 3 1 S (.slice a n c),.box 28 (aD p)]/\S.length=n/\S=bK s.2/\Trail p s.2/\s.1<=s.2.length/\mA (jU p l) (N+1-s.1) s.1 s.2=kV p l e) (0,e) ?_ ?_
 ·exact⟨_,_,Wk.aW az,ad,cp,_,_,rfl,rfl,r,rfl,hL,bg _,by rw[<-hN];rfl⟩
 rintro⟨i,L⟩_ _⟨a,c,n,S,rfl,rfl,b,d,z,hi,O⟩;simp only at d z hi O;have xQ:=z.len
 have G:n=L.length:=by rw[<-b,d,fj]
 by_cases mo:i<L.length
 ·have hd:decide ((i:Int)<(n:Int))=true:=decide_eq_true X;obtain⟨x,hx⟩:∃x,L[i]?=some x:=⟨L[i],by simp[mo]⟩
  have Xh:S[i]?=some [y4 x]:=by rw[d];unfold bK;rw[bO,hx];rfl
  have hxr:=z.rng x (bB hx);obtain⟨j,hj⟩:∃j:Nat,x=(j:Int):=⟨x.toNat,by omega⟩;subst hj
  have WZ:j<p.ak.length:=by omega
  obtain⟨f,hf⟩:∃f,p.ak[j]?=some f:=⟨p.ak[j],by simp[WZ]⟩;obtain⟨t,ht⟩:∃t,l[j]?=some t:=⟨l[j]'X,cq _⟩;have hC:=IM p hw (hg.fn hf ht)
  have AU:jU p l (j:Int)=cQ p t:=by unfold jU;rw[dC,ht]
  have AW:mA (jU p l) (N+1-(i+1)) (i+1) (da L (cQ p t))=kV p l e:=by
   rw[<-O,show N+1-i=(N+1-(i+1))+1 by omega,EZ hx,AU]
  have F:=nV p t;have xq:=zf p t
  have E:((cQ p t).map fun i=>[y4 i]).length=(cQ p t).length:=by simp
  have S2:i+1<=(da L (cQ p t)).length:=by
   have⟨m,hm⟩:=wv (cQ p t) L;rw[hm,bf];omega
  generalize cQ p t=ks at *;refine Z ?_;refine aS (aK 0 5 (.q 7 (.a 5 (.q 6 .nil)))) ?_;refine av ?_;refine aJ [] hC ?_;refine Z ?_;refine GW.range (ks.map fun i=>[y4 i]).length (fun k R Γ=>∃a c n S,R=[U,U,.loc 1 0,U,U,.v (.slice a n c),y4 (i:Nat),U,U,U,U,U,U,U,U,U,U,U,U,U,U,U,ints ks,y4 ((ks.map fun i=>[GV.v (ii i)]).length:Int),y4 (k:Nat),U,U,U,U,U,U,U,U,U,U,U,U,U,U,U]/\Γ=[.vech 3 1 S (.slice a n c),.box 28 (aD p)]/\S.length=n/\S=bK (da L (ks.take k))) ?_ X ?_ ?_ ?_
  ·exact⟨_,_,Wk.aW az,a,c,n,S,rfl,rfl,b,d⟩
  ·rintro k _ _⟨a,c,n,S,rfl,rfl,_⟩;exact dN
  ·rintro k _ _ hk⟨a,c,n,S,rfl,rfl,b,d⟩;rw[E]at hk;obtain⟨y,Q⟩:∃y,ks[k]?=some y:=⟨ks[k],by simp[hk]⟩
   have hry:(ks.map fun i=>[y4 i])[k]?=some [y4 y]:=by rw[bO,Q];rfl
   have WN:=z.add (ks:=ks.take k) fun y Q=>F y (List.mem_of_mem_take Q)
   have hWl:=WN.len
   have o:GF prog 153 [.sl 1 S,y4 y] [] (.v (.bool ((da L (ks.take k)).contains y))) []:=by
    rw[d];exact za (da L (ks.take k)) y X
   have H:=C0 L ks k y Q
   have S4:n<=1048576:=by rw[<-b,d,fj];omega
   rw[H]
   cases M:(da L (ks.take k)).contains y with
   |true =>
    rw[M]at o;rw[ae rfl];refine Z ?_;refine GL.borrow o (fun B K β w l W V=>ic (A:=[]) (C:=[_]) W V rfl rfl) ?_;refine zaf ?_;exact⟨rfl,rfl,_,_,Wk.aW az,a,c,n,S,rfl,rfl,b,d⟩
   |false =>
    rw[M]at o;rw[D aN]
    have W7:bK (da L (ks.take k)++[y])=S++[[y4 y]]:=by rw[d];simp[bK]
    rw[W7];clear d;refine Z ?_;refine GL.borrow o (fun B K β w l W V=>ic (A:=[]) (C:=[_]) W V rfl rfl) ?_;refine zaf ?_;refine GL.ij 0 rfl rfl rfl rfl rfl rfl rfl rfl aO ke ?_;intro a2 c2;refine zaJ ?_;exact⟨rfl,rfl,_,_,Wk.aW az,a2,c2,_,_,rfl,rfl,by simp[b],rfl⟩
  ·rintro _ _⟨a,c,n,S,rfl,rfl,b,d⟩;rw[E,dx]at d;refine jm (bl ?_);refine Z ?_;exact⟨(i+1,da L ks),⟨_,_,Wk.aW az,a,c,n,S,rfl,rfl,b,d,z.add F,S2,AW⟩,by show N-(i+1)<N-i;omega⟩
 ·have hd:decide ((i:Int)<(n:Int))=false:=decide_eq_false X;have M:=E0 (cs:=jU p l) (f:=N+1-i) (i:=i) (L:=L) X;rw[M]at O;rw[<-O];have u:=Mw L 3 a c X;rw[<-G,<-d]at u
  have DD:(bK (gO L)).length=n:=by rw[fj,nA,G]
  refine zbk ?_;refine I [0] u ?_;refine GW.wk (Wk.uR (t:=4) (i:=0) rfl rfl rfl) ?_;exact aw
end Go.Xg
