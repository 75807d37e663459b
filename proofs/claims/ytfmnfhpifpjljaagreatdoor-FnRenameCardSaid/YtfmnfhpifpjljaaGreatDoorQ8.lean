/- Part 8 of proofs that are told in their last texts. -/
import Derived.Test.YtfmnfhpifpjljaaGreatDoorQ7
import Derived.Test.YtfmnfhpifpjljaaGreatDoorQ6
open List (cons_append ext_getElem? getElem?_cons_succ getElem?_eq_none getElem?_zipWith length_cons length_nil nil_append set_cons_zero set_set take_succ_cons take_zero zipWith_cons_cons)
set_option linter.unusedVariables false
set_option linter.unusedSimpArgs false
set_option linter.defProp false
set_option maxRecDepth 100000
set_option maxHeartbeats 2000000
namespace Go
def zab{A B:Prop}(h:B)(s:PLift B->A:=by intro hQ;refine GW.seq ?_;refine GW.region ?_;refine GL.k0 rfl rfl ?_;refine bb ?_;exact hQ.1):A:=s ⟨h⟩
def zao{A:Prop}(s:A:=by exact GW.fH (fn:=f14) rfl rfl (by simp) rfl rfl (fun _ _ h=>by repeat (first|exact h|refine gV ?_|refine gU ?_))):A:=s
end Go
namespace Go.Xg
open Go.RowKit Go.Xw Go.Proofs Tryz Go.Im
open Go.Xp (Tok T aU aM bZ)
open Go.Sp (Src)
attribute [local irreducible] GW GL GO YG GC GA bo bq
def Sn:Wr 126 127 eg ef :=
 ⟨fun a o b G=>VR _ a (aY _) o b G,fun l d o b G=>FD l d o b,fun l d s h=>FE h⟩
section
variable(p:Src)
theorem ED(h:p.ah.length>800):GF prog 64 [.agg (aB p)] [] (.v (.bool false)) []:=by
 have j:(p.ah.map aN).length=p.ah.length:=by simp
 have T:decide ((800:Int)<((p.ah.map aN).length:Int))=true:=by grind
 refine au func64 ntmps64 ?_;exact ay
theorem BO(h:p.ah.length<=800)(O:∀n∈p.ah,n.aw.length<=1099511627776)(hf:p.av.length<=1099511627776)(i:kG p.ah p.av 0 []=none):GF prog 64 [.agg (aB p)] [] (.v (.bool false)) []:=by
 have j:(p.ah.map aN).length=p.ah.length:=by simp
 have T:decide ((800:Int)<((p.ah.map aN).length:Int))=false:=by grind
 have N:=tG p V O hf;rw[i]at N;unfold zO at N;refine au func64 ntmps64 ?_;refine D [] N ?_;exact ay
theorem HB(l:List T)(e:Nat)(h:p.ah.length<=800)(O:∀n∈p.ah,n.aw.length<=1099511627776)(hf:p.av.length<=1099511627776)(i:kG p.ah p.av 0 []=some (l,e))(j:e≠p.ah.length):GF prog 64 [.agg (aB p)] [] (.v (.bool false)) []:=by
 have k:(p.ah.map aN).length=p.ah.length:=by simp
 have W:decide ((800:Int)<((p.ah.map aN).length:Int))=false:=by grind
 have N:=tG p V O hf;rw[i]at N;unfold zO at N;simp only at N;rw[show((e:Int)==(p.ah.length:Int))=false by grind]at N;refine au func64 ntmps64 ?_;refine D [] N ?_;exact ay
theorem EC(l:List T)(h:p.ah.length<=800)(O:∀n∈p.ah,n.aw.length<=1099511627776)(hf:p.av.length<=1099511627776)(i:kG p.ah p.av 0 []=some (l,p.ah.length))(M:l.length<=1099511627776)(G:∀t∈l,aU t<=1099511627776)(hn:l.all iG=false):GF prog 64 [.agg (aB p)] [] (.v (.bool false)) []:=by
 have j:(p.ah.map aN).length=p.ah.length:=by simp
 have W:decide ((800:Int)<((p.ah.map aN).length:Int))=false:=by grind
 have N:=tG p V O hf;rw[i]at N;unfold zO at N;simp only at N;rw[show((p.ah.length:Int)==(p.ah.length:Int))=true by simp]at N;have Q:=u7 l M G;rw[hn]at Q;refine au func64 ntmps64 ?_;refine zaG ?_;exact ay
end
def Pb(st:PS)(h:st.av.length=st.aE.length):n8 st.av st.aE st.aE.length=(pR st).map aD:=by
 unfold n8 pR;apply ext_getElem?;intro i;rw[dB,List.getElem?_mapIdx,List.getElem?_mapIdx]
 cases hx:st.av[i]? with
 |none=>rfl
 |some x =>
  have j:=(bY hx).1;simp only[Option.map_some];rw[ak V];rfl
def Ew(st:PS):Src:=⟨st.aq,st.aj,pR st,bZ 0 st.aE⟩
def Ym{q:Go.Sp.RS}{st:PS}(W:q.code=0)(S:¬aM st.aE>800)(h:st.av.length=st.aE.length):JT q st=.tup [.agg (aB (Ew st)),y4 0,y4 0]:=by
 unfold JT;rw[ak W,ae S,Pb st h];rfl
section
variable(p:Src)(l:List T)(x:ab)(ts:List Tok)
theorem HC(c z:Int)(h:p.ah.length<=800)(N:GF prog 74 [.agg (aB p)] [] (.tup [.sl 1 (cW l),.v (.bool true)]) [])
  (Q:GF prog 122 [.sl 1 (cW l),.v (.func (.func 123) #[] #[])] [] (.v (.bool false)) [])
  (q:GF prog 125 [.agg (aB p),.sl 1 (cW l),.v (jH 126),.v (jH 127)] [] (.v (sv x)) [])
  (o:GF prog 128 [.v (sv x)] [] (.tup [iv ts,y4 c,y4 z]) [])(W:(c != 0)=true) :
  GF prog 64 [.agg (aB p)] [] (.v (.bool false)) []:=by
 have j:(p.ah.map aN).length=p.ah.length:=by simp
 have X:decide ((800:Int)<((p.ah.map aN).length:Int))=false:=by grind
 refine au func64 ntmps64 ?_;refine zaG ?_;refine D [] q ?_;exact zcH
theorem ze(c k a:Int)(h:p.ah.length<=800)(N:GF prog 74 [.agg (aB p)] [] (.tup [.sl 1 (cW l),.v (.bool true)]) [])
  (Q:GF prog 122 [.sl 1 (cW l),.v (.func (.func 123) #[] #[])] [] (.v (.bool false)) [])
  (q:GF prog 125 [.agg (aB p),.sl 1 (cW l),.v (jH 126),.v (jH 127)] [] (.v (sv x)) [])
  (o:GF prog 128 [.v (sv x)] [] (.tup [iv ts,y4 0,y4 c]) [])
  (R:GF prog 129 [iv ts,y4 (x.length:Int)] [] (.tup [.agg [.sl 1 [],.sl 2 [],.sl 3 [],.sl 5 []],y4 k,y4 a]) [])(O:(k==0)=false) :
  GF prog 64 [.agg (aB p)] [] (.v (.bool false)) []:=by
 have j:(p.ah.map aN).length=p.ah.length:=by simp
 have W:decide ((800:Int)<((p.ah.map aN).length:Int))=false:=by grind
 refine au func64 ntmps64 ?_;refine zaG ?_;refine D [] q ?_;refine D [] o ?_;refine D [] R ?_;exact ay
end
section
variable(p r:Src)(l:List T)(x:ab)(ts:List Tok)(c:Int)
theorem KC(h:p.ah.length<=800)(N:GF prog 74 [.agg (aB p)] [] (.tup [.sl 1 (cW l),.v (.bool true)]) [])
  (Q:GF prog 122 [.sl 1 (cW l),.v (.func (.func 123) #[] #[])] [] (.v (.bool false)) [])
  (q:GF prog 125 [.agg (aB p),.sl 1 (cW l),.v (jH 126),.v (jH 127)] [] (.v (sv x)) [])
  (o:GF prog 128 [.v (sv x)] [] (.tup [iv ts,y4 0,y4 c]) [])
   (hg:GF prog 130 [strs p.aq,strs r.aq] [] (.v (.bool false)) [])
  (R:GF prog 129 [iv ts,y4 (x.length:Int)] [] (.tup [.agg (aB r),y4 0,y4 0]) []) :
  GF prog 64 [.agg (aB p)] [] (.v (.bool false)) []:=by
 have j:(p.ah.map aN).length=p.ah.length:=by simp
 have W:decide ((800:Int)<((p.ah.map aN).length:Int))=false:=by grind
 refine au func64 ntmps64 ?_;refine zby ?_;exact ay
theorem KD(h:p.ah.length<=800)(N:GF prog 74 [.agg (aB p)] [] (.tup [.sl 1 (cW l),.v (.bool true)]) [])
  (Q:GF prog 122 [.sl 1 (cW l),.v (.func (.func 123) #[] #[])] [] (.v (.bool false)) [])
  (q:GF prog 125 [.agg (aB p),.sl 1 (cW l),.v (jH 126),.v (jH 127)] [] (.v (sv x)) [])
  (o:GF prog 128 [.v (sv x)] [] (.tup [iv ts,y4 0,y4 c]) [])
   (hg:GF prog 130 [strs p.aq,strs r.aq] [] (.v (.bool true)) [])
  (ha:GF prog 131 [(.sl 2 (p.aj.map fun s=>aW s)),(.sl 2 (r.aj.map fun s=>aW s))] [] (.v (.bool false)) [])
  (R:GF prog 129 [iv ts,y4 (x.length:Int)] [] (.tup [.agg (aB r),y4 0,y4 0]) []) :
  GF prog 64 [.agg (aB p)] [] (.v (.bool false)) []:=by
 have j:(p.ah.map aN).length=p.ah.length:=by simp
 have W:decide ((800:Int)<((p.ah.map aN).length:Int))=false:=by grind
 refine au func64 ntmps64 ?_;refine zby ?_;refine D [] ha ?_;exact ay
theorem KE(h:p.ah.length<=800)(N:GF prog 74 [.agg (aB p)] [] (.tup [.sl 1 (cW l),.v (.bool true)]) [])
  (Q:GF prog 122 [.sl 1 (cW l),.v (.func (.func 123) #[] #[])] [] (.v (.bool false)) [])
  (q:GF prog 125 [.agg (aB p),.sl 1 (cW l),.v (jH 126),.v (jH 127)] [] (.v (sv x)) [])
  (o:GF prog 128 [.v (sv x)] [] (.tup [iv ts,y4 0,y4 c]) [])
   (hg:GF prog 130 [strs p.aq,strs r.aq] [] (.v (.bool true)) [])
  (ha:GF prog 131 [(.sl 2 (p.aj.map fun s=>aW s)),(.sl 2 (r.aj.map fun s=>aW s))] [] (.v (.bool true)) [])
  (hf:GF prog 132 [.sl 3 (p.av.map aD),.sl 3 (r.av.map aD),.v (.func (.func 133) #[] #[])] [] (.v (.bool false)) [])
  (R:GF prog 129 [iv ts,y4 (x.length:Int)] [] (.tup [.agg (aB r),y4 0,y4 0]) []) :
  GF prog 64 [.agg (aB p)] [] (.v (.bool false)) []:=by
 have j:(p.ah.map aN).length=p.ah.length:=by simp
 have W:decide ((800:Int)<((p.ah.map aN).length:Int))=false:=by grind
 refine au func64 ntmps64 ?_;refine zby ?_;refine D [] ha ?_;refine D [] hf ?_;exact ay
theorem KG(b:Bool)(h:p.ah.length<=800)(N:GF prog 74 [.agg (aB p)] [] (.tup [.sl 1 (cW l),.v (.bool true)]) [])
  (Q:GF prog 122 [.sl 1 (cW l),.v (.func (.func 123) #[] #[])] [] (.v (.bool false)) [])
  (q:GF prog 125 [.agg (aB p),.sl 1 (cW l),.v (jH 126),.v (jH 127)] [] (.v (sv x)) [])
  (o:GF prog 128 [.v (sv x)] [] (.tup [iv ts,y4 0,y4 c]) [])
   (hg:GF prog 130 [strs p.aq,strs r.aq] [] (.v (.bool true)) [])
  (ha:GF prog 131 [(.sl 2 (p.aj.map fun s=>aW s)),(.sl 2 (r.aj.map fun s=>aW s))] [] (.v (.bool true)) [])
  (hf:GF prog 132 [.sl 3 (p.av.map aD),.sl 3 (r.av.map aD),.v (.func (.func 133) #[] #[])] [] (.v (.bool true)) [])
  (hn:GF prog 134 [.sl 5 (p.ah.map aN),.sl 5 (r.ah.map aN),.v (.func (.func 135) #[] #[])] [] (.v (.bool b)) [])
  (R:GF prog 129 [iv ts,y4 (x.length:Int)] [] (.tup [.agg (aB r),y4 0,y4 0]) []) :
  GF prog 64 [.agg (aB p)] [] (.v (.bool b)) []:=by
 have j:(p.ah.map aN).length=p.ah.length:=by simp
 have W:decide ((800:Int)<((p.ah.map aN).length:Int))=false:=by grind
 refine au func64 ntmps64 ?_;refine zby ?_;refine D [] ha ?_;refine D [] hf ?_;refine D [] hn ?_;exact ay
def EE(m n w A:Bool)(h:p.ah.length<=800)(N:GF prog 74 [.agg (aB p)] [] (.tup [.sl 1 (cW l),.v (.bool true)]) [])
  (Q:GF prog 122 [.sl 1 (cW l),.v (.func (.func 123) #[] #[])] [] (.v (.bool false)) [])
  (q:GF prog 125 [.agg (aB p),.sl 1 (cW l),.v (jH 126),.v (jH 127)] [] (.v (sv x)) [])
  (o:GF prog 128 [.v (sv x)] [] (.tup [iv ts,y4 0,y4 c]) [])
  (hg:GF prog 130 [strs p.aq,strs r.aq] [] (.v (.bool m)) [])
  (ha:GF prog 131 [(.sl 2 (p.aj.map fun s=>aW s)),(.sl 2 (r.aj.map fun s=>aW s))] [] (.v (.bool n)) [])
  (hf:GF prog 132 [.sl 3 (p.av.map aD),.sl 3 (r.av.map aD),.v (.func (.func 133) #[] #[])] [] (.v (.bool w)) [])
  (hn:GF prog 134 [.sl 5 (p.ah.map aN),.sl 5 (r.ah.map aN),.v (.func (.func 135) #[] #[])] [] (.v (.bool A)) [])
  (R:GF prog 129 [iv ts,y4 (x.length:Int)] [] (.tup [.agg (aB r),y4 0,y4 0]) []) :
  GF prog 64 [.agg (aB p)] [] (.v (.bool (m&&(n&&(w&&A))))) []:=by
 cases m with
 |false=>exact KC p r l x ts c h N Q q o hg R
 |true =>
  cases n with
  |false=>exact KD p r l x ts c h N Q q o hg ha R
  |true =>
   cases w with
   |false=>exact KE p r l x ts c h N Q q o hg ha hf R
   |true=>exact KG p r l x ts c A h N Q q o hg ha hf hn R
end
end Go.Xg
set_option maxHeartbeats 1000000
namespace Go.Xg
open Go.RowKit Go.Xw Go.Proofs Tryz Go.Im
open Go.Xp (aM bZ)
open Go.Sp (Src)
attribute [local irreducible] GW GL GO YG GC GA bo bq
theorem Nf{st:PS}{f:Go.Sp.Fn}(h:f∈pR st):∃x∈st.av,f.params=x.2:=by
 unfold pR at h
 grind
def uo(p:Src)(hw:cU p<=1048576)(hn:kF p):GF prog 64 [.agg (aB p)] [] (.v (.bool (fI p))) []:=by
 have⟨⟨s1,s2⟩,⟨s3,s4⟩,⟨s5,s6⟩,⟨s7,s8⟩⟩:=gn p
 have o:∀n∈p.ah,n.aw.length<=1099511627776:=fun n h=>by grind
 have b:=tG p V o V;unfold fI
 by_cases T:p.ah.length>800
 ·simp_all[ak,ED]
 rw[ae T]
 cases E:kG p.ah p.av 0 []with
 |none=>grind[BO]
 |some y =>
  have⟨l,e⟩:=y;simp only
  by_cases F:e≠p.ah.length
  ·grind[HB]
  rw[ae F]
  have F:e=p.ah.length:=by omega
  subst F;have⟨l',N,C,S,h4,h5⟩:=B4 _ _ _ _ _ E;rw[nil_append]at N;subst N
  have R:aM l=p.ah.length:=by omega
  have O:=UP hn C R;have Y:=Au C R;have X:=en.len S;have r:=dn.num hn.ah l 0 C
  by_cases B:l.all iG=false
  ·grind[EC]
  rw[ae B]
  have B:l.all iG=true:=by grind
  have⟨k,c,z,q,st,i⟩:=reads (lR eg ef p l);rw[Ai i];rw[E]at b;unfold zO at b;simp only at b;rw[show((p.ah.length:Int)==(p.ah.length:Int))=true by simp]at b;have m:=u7 l V (fun t M=>by grind);rw[B]at m;have u:=FN 126 127 eg ef Sn p l V V V V V hn.aj (fun f h=>by grind)
   (fun t M=>⟨ea.1 B t M,gx r M,by grind,by grind⟩)
  have w:=Rk _ _ k c z V i.lex;have Q:=i.len;have d:=H8 k (((lR eg ef p l).length:Nat):Int) q st V V (fun h=>by have:=(i.ok h).2;omega) i.read;have J:=N5 _ _ _ _ _ _ (aY _) i.read ⟨bp _,bp _,bp _,fun x h=>by cases h⟩;have G:=i.ok;clear i E;generalize Z:lR eg ef p l=x at *
  by_cases A:c≠0
  ·rw[ak A];exact HC p l x k c z V b m u w zff
  rw[ae A]
  have A:c=0:=by omega
  subst A
  by_cases j:q.code≠0
  ·rw[ak j];unfold JT at d;rw[ae j]at d;exact ze p l x k z q.code q.at_ V b m u w d zff
  rw[ae j]
  have j:q.code=0:=by omega
  have⟨H,NW⟩:=G j
  by_cases s:aM st.aE>800
  ·rw[ak s];unfold JT at d;rw[ak j,ak s]at d;exact ze p l x k z 10 0 V b m u w d aR
  rw[ae s];rw[Ym j s H.len]at d;have⟨m1,m2,m3,m4⟩:=J
  have W:(bZ 0 st.aE).length<=800:=by rw[Go.Xp.kp];omega
  unfold same;refine EE p (Ew st) l x k z _ _ _ _ V b m u w ?_ ?_ ?_ ?_ d
  ·exact Io _ _ V (by grind[Ew])
  ·exact T7 _ _ V (by grind[Ew])
  ·refine Hz p.av (pR st) V ?_ (fun f h=>by grind) (fun f h=>?_)
   ·grind[pR]
   grind[Nf]
  ·exact HA p.ah (bZ 0 st.aE) V V o (fun n h=>by have:=zW st.aE 0 n h;omega)
def Sl(n lo hi:Int):GF prog 156 [y4 n,y4 lo,y4 hi] [] (.v (.bool (decide (lo<=n)&&decide (n<=hi)))) []:=by
 cases h:decide (lo<=n)
 all_goals
  refine au func156 ntmps156 ?_;exact ay
end Go.Xg
set_option maxHeartbeats 2000000
namespace Go.Im
open Go.Xp Go.Sp
def sU(p:Src):(bA p).length=p.aq.length+p.aj.length+p.av.length:=by simp[bA,eE,ia];omega
end Go.Im
namespace Go.Xg
open Go.RowKit Go.Xw Go.Proofs Tryz Go.Im
open GV (U)
open Go.Sp (Src)
attribute [local irreducible] GW GL GO YG GC GA bo bq
def w8:∀l:List ab,lg (bs l)=true
 |[]=>rfl
 |s::l=>by
  have:=w8 l;unfold bs at this |-;rw[List.map_cons,lg,this];rfl
theorem oH(l:List ab):(bs l).length=l.length:=by simp[bs]
def wo(p:Src)(z:cU p<=1048576):GC prog 47 [.agg (aB p)] [] fun g o=>∃a c,g=.v (.slice a (bA p).length c)/\o=[.vech 9 1 (bs (bA p)) (.slice a (bA p).length c)]:=by
 have⟨⟨a1,G⟩,⟨q,r⟩,⟨t,M⟩,⟨E,W⟩⟩:=gn p
 have Q:(p.aq.map fun s=>[GV.v (sv s)]).length=p.aq.length:=by simp
 have F:lg (p.aq.map fun s=>[GV.v (sv s)])=true:=w8 p.aq;refine dc func47 ntmps47 ?_;refine GW.wk (Wk.gz 9 1) ?_;simp only[nil_append];refine I ?_;refine GL.oQ 0 rfl rfl rfl rfl F (by refine⟨?_,?_⟩;(· rw[Q];omega);(· rw[Q];omega)) ?_;intro a c;rw[Q];refine zdX ?_;refine GW.range (p.aj.map aW).length (fun k J u=>∃a c R n,J=U::.loc 1 0::U::.v (.slice a n c)::U::U::U::U::U::U::U::U::.sl 2 (p.aj.map aW)::y4 ((p.aj.map aW).length:Int)::y4 (k:Nat)::zU 23 []/\u=[.vech 9 1 R (.slice a n c),.box 28 (aB p)]/\R.length=n/\R=bs (p.aq++(eE p).take k)) ?_ (by rw[ct];omega) ?_ ?_ ?_
 ·exact⟨_,_,Wk.aZ az,_,_,_,_,rfl,rfl,Q,by simp[bs]⟩
 ·rintro k _ _⟨a,c,R,n,rfl,rfl,_⟩;exact dO
 ·rintro k _ _ N⟨a,c,R,n,rfl,rfl,O,i⟩
  have N:k<p.aj.length:=by simpa using N
  have hx:p.aj[k]?=some p.aj[k]:=by simp[N]
  have w:=vT hx
  have l:bs (p.aq++(eE p).take (k+1))=R++[[.v (sv p.aj[k].name)]]:=by
   have:(eE p)[k]?=some p.aj[k].name:=by rw[eE,dB,hx];rfl
   rw[dd,this,i];simp[bs]
  have j:n<=4194304:=by
   rw[<-O,i,oH,br,mf];omega
  clear i;unfold aW at w;generalize p.aj[k]=x at *;exact zbd
 ·rintro _ _⟨a,c,R,n,rfl,rfl,O,i⟩;rw[ct,show p.aj.length=(eE p).length by simp[eE],dD]at i;refine bh ?_;refine I ?_;refine GW.range (p.av.map aD).length (fun k J u=>∃a c R n,J=U::.loc 1 0::U::.v (.slice a n c)::zU 21 [.sl 3 (p.av.map aD),y4 ((p.av.map aD).length:Int),y4 (k:Nat),U,U,U,U,U,U,U,U,U,U]/\u=[.vech 9 1 R (.slice a n c),.box 28 (aB p)]/\R.length=n/\R=bs ((p.aq++eE p)++(ia p).take k)) ?_ (by rw[ct];omega) ?_ ?_ ?_
  ·exact⟨_,_,Wk.aZ az,_,_,_,_,rfl,rfl,O,by rw[i];simp⟩
  ·rintro k _ _⟨a,c,R,n,rfl,rfl,_⟩;exact dO
  ·rintro k _ _ N⟨a,c,R,n,rfl,rfl,O,i⟩
   have N:k<p.av.length:=by simpa using N
   have hx:p.av[k]?=some p.av[k]:=by simp[N]
   have w:=x9 hx
   have l:bs ((p.aq++eE p)++(ia p).take (k+1))=R++[[.v (sv p.av[k].name)]]:=by
    have:(ia p)[k]?=some p.av[k].name:=by rw[ia,dB,hx];rfl
    rw[dd,this,i];simp[bs]
   have j:n<=4194304:=by
    rw[<-O,i,oH,br,br,mf,eE,ct];omega
   clear i;unfold aD at w;generalize p.av[k]=x at *;exact zbd
  ·rintro _ _⟨a,c,R,n,rfl,rfl,O,i⟩;rw[ct,show p.av.length=(ia p).length by simp[ia],dD]at i
   have m:n=(bA p).length:=by rw[<-O,i,oH];rfl
   subst m;refine bh ?_;refine zd1 ?_;exact qc (n:=1) rfl ir rfl (bp _) rfl rfl ⟨a,c,rfl,by rw[i];rfl⟩
end Go.Xg
set_option maxHeartbeats 4000000
namespace Go.Im
open Go.Xp Go.Sp
def xq(l:List ab)(k:Nat):Int:=if(List.range k).any (lx l)=true then 21 else 0
def Rw(l:List ab)(k:Nat):xq l (k+1)=if lx l k=true then jr (xq l k) 21 else xq l k:=by
 grind[xq,lx,jr]
def U4(l:List ab):xq l l.length=if ey l=true then 21 else 0:=rfl
mutual
def Hh(o:List ab):∀(t:T)(J:List ab),aU (mG o t J)=aU t
 |.mk n l,J=>by rw[mG,aU,aU,He o l]
def He(o:List ab):∀(l:List T)(J:List ab),aM (jo o l J)=aM l
 |[],J=>by rw[jo]
 |t::r,J=>by rw[jo,aM,aM,Hh o t,He o r]
end
def Good.si{p:Src}{l:List T}(h:Good p l):kG p.ah p.av 0 []=some (l,p.ah.length):=h.st.si
structure u9(p:Src)(l:List T)(i:Nat)(f:Go.Sp.Fn)(t:T):Prop where
 good:Good p l
 gf:p.av[i]?=some f
 gt:l[i]?=some t
 ok:ri p t f.params
 wf:gh t
 z:zT t
 st:dM p.ah f.body.toNat t
 body:0<=f.body
 sz:aU t<=800
def Good.fn{p:Src}{l:List T}(h:Good p l){i:Nat}{f:Go.Sp.Fn}{t:T}(w:p.av[i]?=some f)(R:l[i]?=some t):u9 p l i f t:=by
 have⟨a1,F,A,b,r⟩:=h.at_ _ _ _ w R;refine⟨h,w,R,a1,F,A,b,r,?_⟩;have:=h.st.few;have:=b.le;omega
def gX(s:List ab)(_:Nat)(t:T)(_:List ab):List ab:=s++(if t.n.ai=13 then[t.n.s]else[])
def UT(s:List ab)(a:Nat)(t:T)(ls:List ab):(gX s a t ls).length<=s.length+1:=by unfold gX;rw[br];split<;>simp
mutual
def Ba:T->List ab
 |.mk n l=>(if n.ai=13 then[n.s]else[])++ox l
def ox:List T->List ab
 |[]=>[]
 |t::r=>Ba t++ox r
end
mutual
theorem MZ:∀(t:T)(a:Nat)(s ls:List ab),(eo gX t a s ls).1=s++Ba t
 |.mk n l,a,s,ls=>by
  rw[eo,Ba];simp only;rw[Ce l];unfold gX;show s++_++_=_;rw[dP];rfl
theorem Ce:∀(l:List T)(a:Nat)(s ls:List ab),(c6 gX l a s ls).1=s++ox l
 |[],a,s,ls=>by rw[c6,ox,eT]
 |t::r,a,s,ls=>by rw[c6,Ce r,MZ t,ox,dP]
end
mutual
def ZV:∀t:T,qz t->Ba t=[]
 |.mk n l,h=>by rw[qz]at h;rw[Ba,Ge l h.2,ae h.1];rfl
def Ge:∀l:List T,kh l->ox l=[]
 |[],_=>by rw[ox]
 |t::r,h=>by rw[kh]at h;rw[ox,ZV t h.1,Ge r h.2];rfl
end
mutual
def U9:∀t:T,qz t->bW t=[]
 |.mk n l,h=>by rw[qz]at h;rw[bW,Ag l h.2,ae h.1];rfl
def Ag:∀l:List T,kh l->bC l=[]
 |[],_=>by rw[bC]
 |t::r,h=>by rw[kh]at h;rw[bC,U9 t h.1,Ag r h.2];rfl
end
mutual
def Jt:∀t:T,gh t->Ba t=bW t
 |.mk n l,h=>by
  rw[gh]at h;rw[Ba,bW]
  by_cases N:n.ai=13
  ·rw[Ge l (h.1 N),Ag l (h.1 N),ak N];rfl
  ·rw[ae N,FT l h.2.2];simp
def FT:∀l:List T,eK l->ox l=bC l
 |[],_=>by rw[ox,bC]
 |t::r,h=>by rw[eK]at h;rw[ox,bC,Jt t h.1,FT r h.2]
end
theorem Rc:∀(l:List T),(ox l).length<=aM l:=by
 have R:∀(N:Nat)(t:T),aU t<=N->(Ba t).length<=aU t:=by
  intro N
  induction N with
  |zero=>intro t h;exact zd6
  |succ N O =>
   intro t h
   have Q:∀l:List T,aM l<=N->(ox l).length<=aM l:=by
    intro l
    induction l with
    |nil=>intro _;simp[ox]
    |cons u l z =>
     intro h;rw[aM]at h;have:=O u zfh;have:=z zfh;rw[ox,br,aM];omega
   cases t with
   |mk n l =>
    rw[aU]at h |-;have:=Q l zfh;rw[Ba,br];split<;>simp<;>omega
 intro l
 induction l with
 |nil=>simp[ox]
 |cons u l O =>
  have:=R _ u (aY _);rw[ox,br,aM];omega
def u9.vars{p:Src}{l:List T}{i:Nat}{f:Go.Sp.Fn}{t:T}(h:u9 p l i f t):(bW t).length<=800:=by
 have:=Ax _ t (aY _);have:=h.sz;omega
end Go.Im
namespace Go.Xg
open Go.RowKit Go.Xw Go.Proofs Tryz Go.Im
open GV (U)
open Go.Sp (Src)
attribute [local irreducible] GW GL GO YG GC GA bo bq
def Lq(p:Src)(hw:cU p<=1048576) :
  GF prog 147 [.loc 0 0] [.box 155 (cC p y6 ⟨[],0,0⟩)] (.tup []) [.box 155 (cC p y6 ⟨[],(if ey (bA p)=true then 21 else 0),0⟩)]:=by
 have⟨⟨a1,Q⟩,⟨T,W⟩,⟨Y,Z⟩,⟨d1,d2⟩⟩:=gn p
 have r:(p.aq.map fun s=>[GV.v (sv s)]).length=p.aq.length:=by simp
 have w:lg (p.aq.map fun s=>[GV.v (sv s)])=true:=w8 p.aq;have N:=sU p;rw[<-U4]
 have q:=fun k=>Ch p y6 (xq (bA p) k) 21
 rw[show(0:Int)=xq (bA p) 0 from rfl];unfold cC at q |-;refine au func147 ntmps147 ?_;refine pO ?_;refine I ?_;refine pO ?_;refine I ?_;refine GL.yx rfl rfl rfl rfl w V ?_;rw[r];refine bb ?_;simp only[dJ];refine I ?_;refine GW.range (p.aj.map aW).length (fun k o z=>∃R n,o=.loc 0 0::U::.vec 1 0::.vec 2 n::zU 18 (.sl 2 (p.aj.map aW)::y4 ((p.aj.map aW).length:Int)::y4 (k:Nat)::zU 45 [])/\z=[.box 155 [strs p.aq,.sl 2 (p.aj.map aW),.sl 3 (p.av.map aD),.sl 5 (p.ah.map aN),.v y6,y4 (xq (bA p) 0),y4 0],.vec 9 1 0 [],.vec 9 1 0 R]/\R.length=n/\R=bs (p.aq++(eE p).take k)) ?_ zff ?_ ?_ ?_
 ·exact⟨_,_,Wk.aZ az,_,_,rfl,rfl,r,by simp[bs,chunk]⟩
 ·rintro k _ _⟨R,n,rfl,rfl,_⟩;exact dO
 ·rintro k _ _ j⟨R,n,rfl,rfl,c,d⟩
  have j:k<p.aj.length:=by grind
  have hx:p.aj[k]?=some p.aj[k]:=by simp[j]
  have F:=vT hx
  have b:bs (p.aq++(eE p).take (k+1))=R++[[.v (sv p.aj[k].name)]]:=by
   have:(eE p)[k]?=some p.aj[k].name:=by grind[eE]
   rw[dd,this,d];simp[bs]
  have u:n<=4194304:=by
   grind[oH,br,mf]
  have M:n+1<=9223372036854775807/\(n+1)*16<=140737488355328:=by omega
  clear d;unfold aW at F;generalize p.aj[k]=x at *;exact zcl
 ·rintro _ _⟨R,n,rfl,rfl,c,d⟩;rw[ct,show p.aj.length=(eE p).length by simp[eE],dD]at d;refine bh ?_;refine I ?_;refine GW.range (p.av.map aD).length (fun k o z=>∃R n,o=.loc 0 0::U::.vec 1 0::.vec 2 n::zU 34 (.sl 3 (p.av.map aD)::y4 ((p.av.map aD).length:Int)::y4 (k:Nat)::zU 29 [])/\z=[.box 155 [strs p.aq,.sl 2 (p.aj.map aW),.sl 3 (p.av.map aD),.sl 5 (p.ah.map aN),.v y6,y4 (xq (bA p) 0),y4 0],.vec 9 1 0 [],.vec 9 1 0 R]/\R.length=n/\R=bs ((p.aq++eE p)++(ia p).take k)) ?_ zff ?_ ?_ ?_
  ·exact⟨_,_,Wk.aZ az,_,_,rfl,rfl,c,by grind⟩
  ·rintro k _ _⟨R,n,rfl,rfl,_⟩;exact dO
  ·rintro k _ _ j⟨R,n,rfl,rfl,c,d⟩
   have j:k<p.av.length:=by grind
   have hx:p.av[k]?=some p.av[k]:=by simp[j]
   have F:=x9 hx
   have b:bs ((p.aq++eE p)++(ia p).take (k+1))=R++[[.v (sv p.av[k].name)]]:=by
    have:(ia p)[k]?=some p.av[k].name:=by grind[ia]
    rw[dd,this,d];simp[bs]
   have u:n<=4194304:=by
    grind[oH,br,mf,eE,ct]
   have M:n+1<=9223372036854775807/\(n+1)*16<=140737488355328:=by omega
   clear d;unfold aD at F;generalize p.av[k]=x at *;exact zcl
  ·rintro _ _⟨R,n,rfl,rfl,c,d⟩;rw[ct,show p.av.length=(ia p).length by simp[ia],dD]at d;have d:R=bs (bA p):=d
   have l:R.length=(bA p).length:=by rw[d,oH]
   have E:n=R.length:=c.symm;subst E;refine bh ?_;refine GW.wk (Wk.jx (t:=3) rfl rfl rfl rfl) ?_;refine GW.wk (Wk.cut (n:=2) (ek rfl) rfl) ?_;refine GW.Df (dh:=.loc 0 0::U::.vec 1 0::.sl 1 R::zU 66 []) (bM:=[.box 155 [strs p.aq,.sl 2 (p.aj.map aW),.sl 3 (p.av.map aD),.sl 5 (p.ah.map aN),.v y6,y4 (xq (bA p) 0),y4 0],.vec 9 1 0 []]) az rfl ?_;refine I ?_;refine GW.range R.length (fun k o z=>∃S n A,o=.loc 0 0::U::.vec 1 n::zU 47 (.sl 1 R::y4 (R.length:Int)::y4 (k:Nat)::zU 17 [])/\z=[.box 155 [strs p.aq,.sl 2 (p.aj.map aW),.sl 3 (p.av.map aD),.sl 5 (p.ah.map aN),.v y6,y4 (xq (bA p) k),y4 0],.vec 9 1 A S]/\S.length=n/\S=bs ((bA p).take k)) ?_ V ?_ ?_ ?_
   ·exact⟨_,_,Wk.aZ az,_,_,_,rfl,rfl,rfl,by rfl⟩
   ·rintro k _ _⟨S,n,A,rfl,rfl,_⟩;exact⟨rfl,rfl,rfl⟩
   ·rintro k _ _ j⟨S,n,A,rfl,rfl,e,C⟩;rw[l]at j;obtain⟨x,hx⟩:∃x,(bA p)[k]?=some x:=⟨(bA p)[k],by simp[j]⟩
    have O:R[k]?=some [.v (sv x)]:=by grind[bs,dB]
    have b:bs ((bA p).take (k+1))=S++[[.v (sv x)]]:=by rw[dd,hx,C];simp[bs]
    have u:n<=8388608:=by grind[oH,mf]
    have M:n+1<=9223372036854775807/\(n+1)*16<=140737488355328:=by omega
    have m:lx (bA p) k=(dx x ||((bA p).take k).contains x):=by grind[lx]
    have i:=wU x
    have B:GF prog 58 [.sl 1 S,.v (sv x)] [] (.v (.bool (((bA p).take k).contains x))) []:=by
     rw[C];exact iR ((bA p).take k) x zff
    have J:=q k;rw[Rw];clear C d l;generalize xq (bA p) k=cd at *;generalize lx (bA p) k=X at *
    cases G:dx x with
    |true =>
     rw[G]at i m;subst m;rw[ak zfg];refine I ?_;refine D [] i ?_;refine D [0] J ?_;exact zcw
    |false =>
     rw[G]at i m
     cases H:((bA p).take k).contains x with
     |true =>
      rw[H]at B m;subst m;rw[ak zfg];refine zen ?_;refine D [0] J ?_;exact zcw
     |false =>
      rw[H]at B m;subst m;rw[ae zfg];refine zen ?_;exact zcw
   ·rintro _ _⟨S,n,A,rfl,rfl,e,C⟩;rw[l];exact oL
def UN(p:Src)(c z:Int)(h:GF prog 80 [.agg (aB p)] [] (.tup [y4 c,y4 z]) []):GF prog 38 [.agg (aB p)] [] (.v (.bool (c==0))) []:=by
 refine au func38 ntmps38 ?_;exact zcJ
open Go.Xp (T aU aM)
def CV{l:List T}{t:T}(h:t∈l):aU t<=aM l:=by
 have⟨k,N⟩:=List.getElem?_of_mem h;have:=mz N;omega
def zY{p:Src}(h:fI p=false):eu p=false:=by unfold eu;rw[h];rfl
def xL{p:Src}{l:List T}(h:fI p=true)(M:eH p l):eu p=((xj p l).1==0):=by
 unfold eu;rw[h,M.si];simp only[Bool.true_and];rfl
section
variable(p:Src)
def yM(q:cU p<=1048576)(hn:kF p):GF prog 44 [.agg (aB p)] [] (.v (.bool (eu p))) []:=by
 have⟨⟨a1,F⟩,⟨r,s⟩,⟨u,R⟩,⟨E,W⟩⟩:=gn p;have O:=uo p q hn
 cases m:fI p with
 |false =>
  rw[m]at O;have:=Nw p _ _ (C7 p O);rw[zY m];exact this
 |true =>
  rw[m]at O;have⟨l,M⟩:=om m;have c:=en.len M.av;have k:=sU p;have N:=xv M
  have X:=AA p l (bA p) V c V O (wo p q) (D1 p V V fun a z=>⟨(N a z).1,by have:=(N a z).2;omega⟩) fun i f t o b=>by
   have⟨w,_⟩:=en.at_ M.av i f t o b;have Q:=dn.ix l 0 i _ M.st b;rw[dJ]at w Q
   have j:f.body.toNat=aM (l.take i):=by rw[w,ik]
   have A:=CV (bP b);exact zbQ
  rw[xL m M];exact Nw p _ _ X
def P8(s:cU p<=1048576):∃c z,GF prog 80 [.agg (aB p)] [] (.tup [y4 c,y4 z]) []/\(c==0)=eu p:=by
 have⟨⟨a1,F⟩,⟨B,C⟩,⟨E,S⟩,⟨H,W⟩⟩:=gn p;have O:=Ma p s
 cases m:fI p with
 |false =>
  rw[m]at O;exact⟨_,_,L8 p O,by rw[zY m];rfl⟩
 |true =>
  rw[m]at O;have⟨l,M⟩:=om m;have d:=en.len M.av;have N:=xv M
  have q:∀a∈p.aj,0<=a.size/\a.size<=2147483648:=fun a w=>⟨(N a w).1,by have:=(N a w).2;omega⟩
  have⟨J,u⟩:=M.uy
  have T:=fun k=>FM p y6 k V q fun h=>Ef p y6 k V V q h
  have Y:=M.len
  have X:=Ku p l _ _ d V V V (fun f h=>by have:=(S f h).2.1;omega) (fun t Q=>by have:=CV Q;omega) O (Lq p s) (T _) fun i f t r b=>by
   have⟨A,_⟩:=en.at_ M.av i f t r b;have R:=dn.ix l 0 i _ M.st b;rw[dJ]at A R;rw[A];exact Ez p (fun n h=>by have:=(W n h).2;omega) _ _ t ((wa _).1 t _ R (aY _))
  have G:=Wg (p:=p) (l:=l) (fun a w=>(N a w).1) (fun t Q=>by have⟨i,j⟩:=List.getElem?_of_mem Q;exact(u.wf j).1)
  have e:((MI p l).code==0)=eu p:=by
   rw[xL m M]
   by_cases o:(xj p l).1=0
   ·rw[o,G.1 o]
   ·have r:(MI p l).code≠0:=fun e=>o (G.2 e)
    rw[show((xj p l).1==0)=false by simpa using o,show((MI p l).code==0)=false by simpa using r]
  exact⟨_,_,X,e⟩
def I9(l:cU p<=1048576):GF prog 38 [.agg (aB p)] [] (.v (.bool (eu p))) []:=by
 have⟨c,z,h,e⟩:=P8 p l;rw[<-e];exact UN p c z h
def Pu(N:∀n∈p.ah,n.aw.length<=1000000000000)(f:Go.Sp.Fn)(t:T)(i:0<=f.body)(r:dM p.ah f.body.toNat t):GF prog 120 [.agg (aB p),y4 f.body] [] (.agg (cT t)) []:=by
 have:=Ez p N _ _ t ((wa _).1 t _ r (aY _))
 rwa[Int.toNat_of_nonneg i]at this
def zv(i:Nat)(f:Go.Sp.Fn)(t:T)(N:∀n∈p.ah,n.aw.length<=1000000000000)(hf:p.av[i]?=some f)(W:f.params.length<=1048576)(j:0<=f.body)(r:dM p.ah f.body.toNat t)(z:aU t<=1048576) :
  GC prog 59 [.agg (aB p),y4 (i:Nat)] [] fun g k=>∃S c,g=.v (.slice S (f.params++bW t).length c)/\k=[.vech 9 1 (bs (f.params++bW t)) (.slice S (f.params++bW t).length c)]:=by
 have w:(p.av.map aD)[i]?=some (aD f):=by rw[dB,hf];rfl
 have Q:(f.params.map fun s=>[GV.v (sv s)]).length=f.params.length:=by simp
 have F:=mu f.params;have R:=Pu p N f t j r
 have Z:=fun S c=>Oj _ t (aY _) f.params S c V
 unfold aD at w;refine au func59 ntmps59 ?_;refine aV (.q 1 (.q 2 (aL 4 3 (.a 0 (.a 3 (.a 7 (.a 8 (.q 9 .nil)))))))) ?_;refine ax ?_;refine qC ?_;refine ax ?_;refine OA rfl rfl (GL.yx rfl rfl rfl rfl F (by refine⟨?_,?_⟩;(· rw[Q];omega);(· rw[Q];omega)) ?_);rw[Q];refine GL.wH (t:=14) rfl rfl rfl (by simp[chunk]) ?_;intro S c;simp only[dJ];refine cD ?_;refine ax ?_;refine aP [] R ?_;refine OA rfl rfl ?_;refine b6 [2] (Z S c) ?_;rintro _ _⟨u,Y,rfl,rfl⟩;refine⟨by simp,?_⟩;refine zdy ?_;refine nq ?_;refine Zs 2 rfl ir rfl ?_ ?_
 ·intro x hx;rw[List.mem_singleton.1 hx];rfl
 ·exact⟨_,_,rfl,rfl⟩
def Om(i:Nat)(f:Go.Sp.Fn)(t:T)(O:∀n∈p.ah,n.aw.length<=1000000000000)(hf:p.av[i]?=some f)(S:f.params.length<=1048576)(j:0<=f.body)(r:dM p.ah f.body.toNat t)(w:aU t<=1048576) :
  GF prog 63 [.agg (aB p),y4 (i:Nat)] [] (.agg (cT (mG (f.params++bW t) t f.params))) []:=by
 have z:(p.av.map aD)[i]?=some (aD f):=by rw[dB,hf];rfl
 have Q:=Pu p O f t j r;have s:=zv p i f t O hf S j r w;have F:=Ax _ t (aY _);have N:=Ol (f.params++bW t) (by rw[br];omega) _ t (aY _) f.params V;unfold aD at z;generalize f.params++bW t=o at *;generalize mG o t f.params=A at *;refine au func63 ntmps63 ?_;refine aV (.q 0 (.q 1 (aL 3 13 (.f 2 (.f 16 (.f 17 (aL 18 3 (.a 21 (.a 22 (.q 23 .nil)))) 21 (.a 17 (aL 18 3 (.a 22 (.q 23 .nil))))) 21 (.a 16 (.a 17 (aL 18 3 (.a 22 (.q 23 .nil)))))) 21 (.a 2 (.a 16 (.a 17 (aL 18 3 (.a 22 (.q 23 .nil)))))))))) ?_;refine ax ?_;refine GO.fork ?_ ?_
 ·refine OA rfl rfl ?_;refine b6 [] s ?_;rintro _ _⟨W,c,rfl,rfl⟩;refine⟨by simp,?_⟩;refine GL.wk (Wk.Bw (t:=10) (i:=2) rfl rfl rfl) ?_;refine cD ?_;refine ax ?_;refine GO.fork ?_ ?_
  ·refine aP [] Q ?_;refine GO.fork ?_ ?_
   ·exact zeP
   ·refine ax ?_;exact zeP
  ·refine ax ?_;refine aP [] Q ?_;exact zeP
 ·refine zc2 ?_;refine b6 [] s ?_;rintro _ _⟨W,c,rfl,rfl⟩;refine⟨by simp,?_⟩;refine GL.wk (Wk.Bw (t:=10) (i:=3) rfl rfl rfl) ?_;refine cD ?_;refine ax ?_;refine aP [] Q ?_;exact zeP
def Ui(r:cU p<=1048576){l:List T}{i:Nat}{f:Go.Sp.Fn}{t:T}(h:u9 p l i f t) :
  GF prog 63 [.agg (aB p),y4 (i:Nat)] [] (.agg (cT (mG (f.params++bW t) t f.params))) []:=by
 have⟨⟨a1,F⟩,⟨m,o⟩,⟨q,M⟩,⟨E,W⟩⟩:=gn p;exact Om p i f t (fun n c=>by have:=(W n c).2;omega) h.gf (by have:=(M f (bP h.gf)).2.1;omega) h.body h.st (by have:=h.sz;omega)
end
open Go.Xp (Nd)
def VL(p:Src)(a:Nat)(n:Nd)(l:List T)(ls:List ab)(s:List ab)(j:TypeId)(H:Option Addr)(Z:Nat)(S:Option Addr)(c:Nat)(hn:p.ah[a]?=some n)(G:s.length<=1048576000) :
  GC prog 183 [y4 (a:Nat),.v (.slice S ls.length c),.box (aB p) 0,.loc 0 0] [.box j [.v (.slice H s.length Z)],.vech 9 1 (bs s) (.slice H s.length Z),.vech 9 1 (bs ls) (.slice S ls.length c)] fun g k=>g=.tup []/\∃X b,
   k=[.box j [.v (.slice X (gX s a (.mk n l) ls).length b)],.vech 9 1 (bs (gX s a (.mk n l) ls)) (.slice X (gX s a (.mk n l) ls).length b),.vech 9 1 (bs ls) (.slice S ls.length c)]:=by
 have w:=cr hn;have J:=pg s;have e:gX s a (.mk n l) ls=s++(if n.ai=13 then[n.s]else[]):=rfl;rw[e];unfold aN at w;refine dc func183 ntmps183 ?_
 cases o:(n.ai==13)with
 |false =>
  rw[ae zfp,eT];refine I ?_;refine cm ?_;exact⟨rfl,H,Z,rfl⟩
 |true =>
  rw[ak zfp];refine zbs ?_;refine OA rfl rfl (GL.ml 1 (news:=[[.v (sv n.s)]]) rfl rfl rfl aQ rfl rfl (by refine⟨?_,?_⟩;(· show _+1<=_;omega);(· show(_+1)*_<=_;omega)) ?_);intro N A;refine zaO ?_;exact⟨rfl,N,A,by simp[bs]⟩
open Go.Xp (dw)
def Hi(p:Src):GV:=.fn (.func 183) [] [.box (aB p) 0,.loc 0 0]
def TO(p:Src):GV:=.fn (.func 115) [] [.loc 2 0,.loc 3 0,.box (aB p) 0,.loc 4 0]
def TE(j:TypeId)(s:List ab)(H:Option Addr)(Z:Nat):ap:=[.box j [.v (.slice H s.length Z)],.vech 9 1 (bs s) (.slice H s.length Z)]
def DJ(p:Src)(j k X z:TypeId)(s:List ab)(ls:List ab)(S:Option Addr)(c:Nat)(H:Option Addr)(Z:Nat):ap :=
 [.box j [.v (.slice H s.length Z)],.vech 9 1 (bs s) (.slice H s.length Z),.box k [Hi p],.box X [.v (.slice S ls.length c)],.box z [TO p],.vech 9 1 (bs ls) (.slice S ls.length c)]
def Sg(p:Src)(F H J M:TypeId)(hp:p.ah.length<=1048576)(R:∀n∈p.ah,n.aw.length<=1099511627776):∀(N:Nat)(t:T),aU t<=N->∀(a:Nat)(s:List ab)(ls:List ab)(w:Option Addr)(z:Nat)(o:Option Addr)(q:Nat),dM p.ah a t->ls.length+aU t<=8388608->s.length+aU t<=8388608 ->
  GC prog 115 [y4 (a:Nat),.loc 2 0,.loc 3 0,.box (aB p) 0,.loc 4 0] (DJ p F H J M s ls w z o q) fun g Δ=>g=.tup []/\∃b c d e,Δ=DJ p F H J M (eo gX t a s ls).1 (eo gX t a s ls).2 b c d e:=by
 intro N
 induction N with
 |zero=>intro t h;exact zd6
 |succ N ih =>
 intro t hN a s ls w z o q A W Z
 cases t with
 |mk n l =>
 rw[Go.Xp.aU]at hN W Z;have Fw:=A;rw[dM]at A;have⟨X,hk,Y⟩:=A;rw[eo];have hr:=cr X;have Ta:=R n (bP X);have ht:=VL p a n l ls s F o q w z X V;have acd:(gX s a (.mk n l) ls).length<=s.length+1:=UT _ _ _ _;generalize Fu:gX s a (.mk n l) ls=r at *
 have j:n.aw.length=l.length:=by rw[hk,dw]
 unfold aN at hr;unfold DJ Hi TO;refine au func115 ntmps115 ?_;refine GL.oV [0,1,5] ht rfl rfl rfl (by repeat (first|exact trivial|refine⟨rfl,?_⟩)) ?_;rintro _ _⟨rfl,o,q,rfl⟩;refine zas ?_;refine GW.range (n.aw.map fun i=>[GV.v (ii i)]).length (fun k fr Γ=>∃b c d e,fr=[y4 (a:Nat),.loc 2 0,.loc 3 0,.box (aB p) 0,.loc 4 0,U,U,U,U,U,U,U,U,U,U,U,U,ints n.aw,y4 ((n.aw.map fun i=>[GV.v (ii i)]).length:Int),y4 (k:Nat),U,U,U,U,U,U,U,U,U,U,U,U,U,U,U,U,U,U,U,U,U,U,U]/\Γ=DJ p F H J M (c6 gX (l.take k) (a+1) r ls).1 (c6 gX (l.take k) (a+1) r ls).2 b c d e) ?_ zff ?_ ?_ ?_
 ·exact⟨_,_,Wk.aZ az,w,z,o,q,rfl,rfl⟩
 ·rintro k _ _⟨w,z,o,q,rfl,rfl⟩;exact dO
 ·rintro k _ _ E⟨w,z,o,q,rfl,rfl⟩;rw[ct,j]at E;obtain⟨u,G⟩:∃u,l[k]?=some u:=⟨l[k],by simp[E]⟩;have B:=qw (n:=a+1) G;rw[<-hk]at B;have Th:=ic B;have sM:=mz G;have hsu:dM p.ah (a+1+aM (l.take k)) u:=dn.ix l (a+1) k u Y G
  have C:(c6 gX (l.take k) (a+1) r ls).2.length<=ls.length+aM (l.take k):=by
   exact zeU
  have S:(c6 gX (l.take k) (a+1) r ls).1.length<=r.length+aM (l.take k):=by
   grind[Ce,br,Rc]
  rw[wC _ G];generalize(c6 gX (l.take k) (a+1) r ls).1=s2 at *;generalize(c6 gX (l.take k) (a+1) r ls).2=m at *;have hv:=ih u V (a+1+aM (l.take k)) s2 m w z o q hsu V V;unfold DJ Hi TO at hv |-;refine I ?_;refine GL.oV [0,1,2,3,4,5] hv rfl rfl rfl (by repeat (first|exact trivial|refine⟨rfl,?_⟩)) ?_;rintro _ _⟨rfl,b,c,d,e,rfl⟩;refine zas ?_;exact⟨rfl,rfl,_,_,Wk.aZ az,b,c,d,e,rfl,rfl⟩
 ·rintro _ _⟨w,z,o,q,rfl,rfl⟩;rw[ct,j,dD]
  have C:(c6 gX l (a+1) r ls).2.length<=ls.length+aM l:=by
   exact zeU
  generalize(c6 gX l (a+1) r ls).1=s2 at *;generalize(c6 gX l (a+1) r ls).2=m at *;have AV:(bs m).length=m.length:=pg m;unfold DJ Hi TO;refine bh ?_
  cases hv:(n.ai==13)with
  |false =>
   exact zel
  |true =>
   rw[ak zff];refine zbs ?_;refine OA rfl rfl (GL.ml 5 (news:=[[.v (sv n.s)]]) rfl rfl rfl aQ rfl rfl (by refine⟨?_,?_⟩;(· show _+1<=_;omega);(· show(_+1)*_<=_;omega)) ?_);intro O Q;refine zaO ?_;exact⟨rfl,O,Q,o,q,by simp[bs]⟩
def Uq(p:Src)(j:TypeId)(i:Nat)(f:Go.Sp.Fn)(t:T)(s:List ab)(H:Option Addr)(Z:Nat)(l:p.ah.length<=1048576)(e:∀n∈p.ah,n.aw.length<=1099511627776)
  (hf:p.av[i]?=some f)(W:f.params.length<=1048576)(A:0<=f.body)(r:dM p.ah f.body.toNat t)(z:aU t<=1048576)(G:s.length+aU t<=8388608) :
  GC prog 53 [.agg (aB p),y4 (i:Nat),Hi p] (TE j s H Z) fun g q=>g=.tup []/\∃X c,q=TE j (eo gX t f.body.toNat s f.params).1 X c:=by
 have w:(p.av.map aD)[i]?=some (aD f):=by grind
 have k:(f.params.map fun s=>[GV.v (sv s)]).length=f.params.length:=by simp
 have F:=mu f.params;obtain⟨b,m⟩:∃b:Nat,f.body=(b:Int):=⟨f.body.toNat,by omega⟩;rw[m,ik]at r |-;unfold aD at w;rw[m]at w;unfold Hi TE;refine dc func53 ntmps53 ?_;refine zal ?_;refine GL.oQ 4 rfl rfl rfl rfl F V ?_;intro S d;rw[k];refine zdX ?_;refine GW.Df (dh:=U::y4 (i:Nat)::U::.box (aB p) 0::U::.loc 3 0::.loc 5 0::.loc 6 0::zU 16 []) (bM:=[.box j [.v (.slice H s.length Z)],.vech 9 1 (bs s) (.slice H s.length Z),.gone,.box _ [.fn (.func 183) [] [.box (aB p) 0,.loc 0 0]],.vech 9 1 (bs f.params) (.slice S f.params.length d),.box _ [.v (.slice S f.params.length d)],.box _ [.fn (.func 115) [] [.loc 3 0,.loc 5 0,.box (aB p) 0,.loc 6 0]]]) az rfl ?_;refine zeq ?_;have o:=Sg p j;refine OA rfl rfl (GL.oV [0,1,3,5,6,4] (o _ _ _ l e _ t (aY _) b s f.params S d H Z r V G) rfl rfl rfl (by repeat (first|exact trivial|refine⟨rfl,?_⟩)) ?_);rintro _ _⟨rfl,u,Y,X,c,rfl⟩;refine⟨by simp[DJ],?_⟩;unfold DJ;refine zaO ?_;simp
def Lv(p:Src)(r:cU p<=1048576){l:List T}{i:Nat}{f:Go.Sp.Fn}{t:T}(h:u9 p l i f t) :
  GC prog 110 [.agg (aB p),y4 (i:Nat)] [] fun g k=>∃W d,g=.v (.slice W (f.params++bW t).length d)/\k=[.vech 9 1 (bs (f.params++bW t)) (.slice W (f.params++bW t).length d)]:=by
 have⟨⟨a1,G⟩,⟨m,o⟩,⟨q,M⟩,⟨E,X⟩⟩:=gn p
 have w:(p.av.map aD)[i]?=some (aD f):=by rw[dB,h.gf];rfl
 have c:(f.params.map fun s=>[GV.v (sv s)]).length=f.params.length:=by simp
 have S:f.params.length<=1048576:=by have:=(M f (bP h.gf)).2.1;omega
 have F:=mu f.params;have z:=h.sz
 have j:=fun H Z=>Uq p 23 i f t f.params H Z V (fun n e=>by have:=(X n e).2;omega) h.gf S h.body h.st V V
 rw[MZ,Jt t h.wf]at j;unfold Hi TE at j;unfold aD at w;refine dc func110 ntmps110 ?_;refine GW.wk (Wk.gz 9 1) ?_;simp only[nil_append];refine I ?_;refine GL.oQ 0 rfl rfl rfl rfl F (by refine⟨?_,?_⟩;(· rw[c];omega);(· rw[c];omega)) ?_;intro W d;rw[c];refine bb ?_;refine zbx ?_;refine jF ?_;refine GL.wk (Wk.freeze (i:=1) rfl rfl rfl (bp _)) ?_;refine zad ?_;refine b6 [2,0] (j W d) ?_;rintro _ _⟨rfl,H,Z,rfl⟩;refine zas ?_;refine nq ?_;exact qc (n:=1) rfl ir rfl (ek rfl) rfl rfl ⟨H,Z,rfl,rfl⟩
end Go.Xg
namespace Go.Im
open Go.Xp Go.Sp
theorem lU(s:ab)(p:UInt8->Bool):∀(f a:Nat),a<=s.length->s.length<f+a->(run s p f a=s.length↔(s.drop a).all p=true)
 |0,a,o,b=>by omega
 |f+1,a,o,b=>by
  rw[run]
  cases X:s[a]? with
  |none =>
   grind
  |some c =>
   have⟨N,Y⟩:=bY X;rw[j3 N,Y,List.all_cons];show(if p c=true then run s p f (a+1)else a)=s.length↔_
   by_cases W:p c=true
   ·rw[ak W,W,Bool.true_and];exact lU s p f (a+1) zfh zfh
   grind
def PY{s:ab}(h:word s=true):lf s=words.contains s:=by
 have G:cy.contains s=false:=by
  cases W:cy.contains s with
  |false=>rfl
  |true =>
   have R:∀x∈cy,word x=false:=by decide
   grind
 unfold lf;rw[uR]
 grind
def H2(p:Src)(s:ab):(bA p).contains s=((p.aq.contains s ||decide ((0:Int)<=fo p s)) ||decide ((0:Int)<=iN p s)):=by
 unfold fo iN;rw[xG,xG]
 have e:∀a b:List ab,(a++b).contains s=(a.contains s ||b.contains s):=fun a b=>by
  simp
 have J:∀{R:Type}(w:R->ab)(X:List R),(X.map w).contains s=X.any fun x=>w x==s:=fun w X=>by
  grind
 unfold bA eE ia
 grind
end Go.Im
namespace Go.Xg
open Go.RowKit Go.Xw Go.Proofs Tryz Go.Im
open GV (U)
open Go.Xp (T Ar)
open Go.Sp (Src small et word bm words)
attribute [local irreducible] GW GL GO YG GC GA bo bq
def QW(s:ab)(G:s.length<=1099511627776):GF prog 108 [.v (sv s)] [] (.v (.bool (word s&&!words.contains s))) []:=by
 have B:=wK s;have i:=LO 181 et Be s 0 G (bp _);have e:=lU s et (s.length+1) 0 (bp _) V;rw[List.drop_zero]at e;generalize z:Go.Sp.run s et (s.length+1) 0=r at *
 cases s with
 |nil =>
  rw[show(word []&&!words.contains ([]:ab))=false from rfl];refine au func108 ntmps108 ?_;refine bB ?_
  grind[bD]
 |cons c s =>
  have k:(!((c::s:ab)==([]:ab)))=true:=rfl;have u:(c::s:ab)[0]?=some c:=rfl;have q:=wV c
  have t:(((r:Nat):Int)==(((c::s:ab).length:Nat):Int))=(c::s:ab).all et:=by
   grind
  have l:word (c::s)=(small c&&(c::s:ab).all et):=by grind[word,small,et]
  have Q:=@PY (c::s);rw[l]at Q |-;generalize(c::s:ab).all et=o at *;generalize w:(c::s:ab)=X at *;generalize words.contains X=A at *;generalize lf X=sg at *
  cases W:small c with
  |false =>
   rw[W]at q;refine au func108 ntmps108 ?_;refine D [] q ?_;refine bB ?_
   grind[bD]
  |true =>
   rw[W]at q Q
   cases o with
   |false =>
    refine au func108 ntmps108 ?_;refine D [] q ?_;refine D [] i ?_;exact ay
   |true =>
    have Q:=Q rfl;subst Q;refine au func108 ntmps108 ?_;refine D [] q ?_;refine D [] i ?_;refine D [] B ?_;exact ay
def EK(s:ab)(G:s.length<=1099511627776):GF prog 45 [.v (sv s)] [] (.v (.bool (bm s))) []:=by
 have C:=QW s G
 have T:decide (((s.length:Nat):Int)<=12)=decide (s.length<=12):=by grind
 have e:bm s=((word s&&!words.contains s)&&decide (s.length<=12)):=by grind[bm]
 rw[e];generalize(word s&&!words.contains s)=b at *;generalize decide (s.length<=12)=d at *
 cases b with
 |false =>
  refine au func45 ntmps45 ?_;refine D [] C ?_;refine bB ?_
  grind[bD]
 |true =>
  refine au func45 ntmps45 ?_;refine D [] C ?_;refine bB ?_
  grind[bD]
def N8(p:Src)(R:cU p<=1048576){l:List T}(h:Go.Im.Good p l)(s:ab) :
  GF prog 49 [.agg (aB p),.v (sv s)] [] (.v (.bool (mU (mT p l) s))) []:=by
 have⟨⟨a1,X⟩,⟨Y,Z⟩,⟨c1,H⟩,⟨d1,d2⟩⟩:=gn p
 have i:(p.av.map aD).length=p.av.length:=by simp
 have j:=h.len;refine dc func49 ntmps49 ?_;refine zab ?_;refine I ?_;refine GW.range (p.av.map aD).length (fun k N S=>N=[U,.v (sv s),.box (aB p) 0,U,U,U,U,.sl 3 (p.av.map aD),y4 ((p.av.map aD).length:Int),y4 (k:Nat),U,U,U,U,U,U,U,U]/\S=[]/\mU ((mT p l).take k) s=false) ?_ V ?_ ?_ ?_
 ·exact lk
 ·exact jA
 ·rintro k _ _ E⟨rfl,rfl,b⟩;rw[i]at E;obtain⟨f,q⟩:∃f,p.av[k]?=some f:=⟨p.av[k],by simp[E]⟩;obtain⟨t,F⟩:∃t,l[k]?=some t:=⟨l[k]'V,cK _⟩;have z:=h.fn q F;have u:=Lv p R z;have d:=xU q F;have r:=zy (s:=s) d
  have hit:=fun e=>wW (s:=s) d e
  have Q:=z.vars;have O:=(H f (bP q)).2.1;have c:=iL (f.params++bW t) s zff
  have M:∀x:List ab,strs x=.sl 1 (bs x):=fun _=>rfl
  rw[M]at c;generalize f.params++bW t=L at *
  cases e:L.contains s with
  |true =>
   rw[e]at c;rw[hit e];refine I ?_;refine b6 [] u ?_;rintro _ _⟨G,J,rfl,rfl⟩;refine zas ?_;refine GL.borrow c (fun B K W w l o m=>fm (A:=[]) (C:=[]) o m rfl rfl) ?_;exact zc6
  |false =>
   rw[e]at c r;refine I ?_;refine b6 [] u ?_;rintro _ _⟨G,J,rfl,rfl⟩;refine zas ?_;refine GL.borrow c (fun B K W w l o m=>fm (A:=[]) (C:=[]) o m rfl rfl) ?_;refine zad ?_;exact⟨rfl,rfl,_,_,(Wk.cut (n:=0) (aY _) rfl).trans (Wk.aZ az),rfl,rfl,by grind⟩
 ·rintro _ _⟨rfl,rfl,b⟩;rw[i,<-Bc j,dD]at b;rw[b];refine bh ?_;exact aK
def Dy(s fr nw:ab):GF prog 60 [.v (sv s),.v (sv fr),.v (sv nw)] [] (.v (sv (bd fr nw s))) []:=by
 unfold bd
 cases h:(s==fr)with
 |true =>
  rw[ak rfl];refine au func60 ntmps60 ?_;exact ay
 |false =>
  rw[ae aR];refine au func60 ntmps60 ?_;exact ay
def A8(p:Src)(l:cU p<=1048576)(s:ab):GF prog 57 [.agg (aB p),.v (sv s)] [] (.v (.bool ((bA p).contains s))) []:=by
 have⟨⟨a1,F⟩,⟨n,r⟩,⟨t,M⟩,⟨E,W⟩⟩:=gn p;have o:=iR p.aq s V;have m:=wT p s V;have O:=Cr p s V;rw[H2];unfold fo iN;generalize bN (fun x:Ar=>x.name==s) p.aj=C at *;generalize bN (fun x:Go.Sp.Fn=>x.name==s) p.av=S at *
 cases q:p.aq.contains s with
 |true =>
  rw[q]at o;refine au func57 ntmps57 ?_;exact zcH
 |false =>
  rw[q]at o
  cases b:decide ((0:Int)<=C)with
  |true =>
   refine au func57 ntmps57 ?_;refine D [] o ?_;refine D [] m ?_;exact ay
  |false =>
   refine au func57 ntmps57 ?_;refine D [] o ?_;refine D [] m ?_;exact ze2
open Go.Xp (Nd)
def xh{R S:Type}{f:R->Value->S}{l:List R}{G:List Value}{k:Nat}{x:R}(h:l[k]?=some x)(M:G.length=k)(y:Value):List.zipWith f (l.take (k+1)) (G++[y])=List.zipWith f (l.take k) G++[f x y]:=by
 have i:=(bY h).1;rw[dd,h,show(some x).toList=[x]from rfl,List.zipWith_append zff];rfl
def Jc{R:Type}{n:R->Nat}{l:List R}{G:List Value}{k:Nat}{x:R}{y:Value}(h:l[k]?=some x)(M:G.length=k)(W:∀(i:Nat)a b,l[i]?=some a->G[i]?=some b->Hd (n a) b)(B:Hd (n x) y):∀(i:Nat)a b,l[i]?=some a->(G++[y])[i]?=some b->Hd (n a) b:=fun i a b o c=>by
 grind
def JO:∀l:List Ar,lg (l.map aW)=true
 |[]=>rfl
 |a::l=>by
  have:=JO l;rw[List.map_cons,lg,this];rfl
def Gh:∀l:List Int,lg (l.map fun i=>[GV.v (ii i)])=true
 |[]=>rfl
 |a::l=>by
  have:=Gh l;rw[List.map_cons,lg,this];rfl
def E2(p:Src)(hw:cU p<=1048576) :
  GC prog 50 [.agg (aB p)] [] fun g Δ=>∃hg ha hf hn j ns,Qi p hg ha hf hn j ns/\g=.agg [.v hg,.v ha,.v hf,.v hn]/\Δ=qV p hg ha hf hn j ns:=by
 have⟨⟨a1,a2⟩,⟨b1,b2⟩,⟨W,c2⟩,⟨d1,d2⟩⟩:=gn p
 have NJ:(p.aq.map fun s=>[GV.v (sv s)]).length=p.aq.length:=by simp
 have J:(p.aj.map aW).length=p.aj.length:=by simp
 have zq:(p.av.map aD).length=p.av.length:=by simp
 have Ji:(p.ah.map aN).length=p.ah.length:=by simp
 have hg1:=mu p.aq;have H:=JO p.aj;refine dc func50 ntmps50 ?_;refine GW.wk (Wk.gz 9 1) ?_;refine GW.wk (Wk.gz 79 2) ?_;simp only[nil_append,cons_append];refine zab ?_;refine I ?_
 have hgs:bs p.aq=p.aq.map fun s=>[GV.v (sv s)]:=rfl
 refine GW.join (fun fr Γ=>∃t u o r,fr=U::.box (aB p) 0::.loc 2 0::.loc 3 0::zU 48 []/\Γ=[.vech 9 1 (bs p.aq) (.slice t p.aq.length u),.vech 79 2 (p.aj.map aW) (.slice o p.aj.length r),.box 28 [.v y6,.v y6,.v y6,.v y6],.box 28 [.v (.slice t p.aq.length u),.v (.slice o p.aj.length r),.v y6,.v y6]]) ?_ ?_
 ·refine aV (.q 0 (.q 1 (.q 3 (.q 4 (.f 2 (.f 5 (.q 6 (.a 7 (.a 8 .nil))) 7 (.a 5 (.q 6 (.a 8 .nil)))) 7 (.a 2 (.a 5 (.q 6 (.a 8 .nil))))))))) ?_;refine ax ?_;refine GO.fork ?_ ?_
  ·refine OA rfl rfl ?_;refine GL.oQ 0 rfl rfl rfl rfl hg1 V ?_;intro t u;rw[NJ];refine cD ?_;refine zbx ?_;refine ax ?_;refine GO.fork ?_ ?_
   ·exact zaz
   ·refine ax ?_;exact zaz
  ·refine zc2 ?_;refine GL.oQ 0 rfl rfl rfl rfl hg1 V ?_;intro t u;rw[NJ];refine cD ?_;refine zbx ?_;refine ax ?_;exact zaz
 rintro _ _⟨t,u,o,r,rfl,rfl⟩;generalize hG0:Ob.vech 9 1 (bs p.aq) (.slice t p.aq.length u)=T at *;generalize SX:Ob.vech 79 2 (p.aj.map aW) (.slice o p.aj.length r)=S at *;refine GW.wk (Wk.gz 53 3) ?_;simp only[nil_append,cons_append]
 have hGk:∀q,Ob.ok q T=true:=fun q=>by rw[<-hG0];rfl
 have hAk:∀q,Ob.ok q S=true:=fun q=>by rw[<-SX];rfl
 refine I ?_
 refine GW.range (p.av.map aD).length (fun k fr Γ=>∃B C j,fr=U::.box (aB p) 0::.loc 2 0::.loc 3 0::zU 12 (.sl 3 (p.av.map aD)::y4 ((p.av.map aD).length:Int)::y4 (k:Nat)::zU 33 [])/\j.length=k/\(∀(i:Nat)x y,p.av[i]?=some x->j[i]?=some y->Hd x.params.length y) /\
  Γ=T::S::.box 28 [.v y6,.v y6,.v y6,.v y6]::.box 28 [.v (.slice t p.aq.length u),.v (.slice o p.aj.length r),.v (.slice B k C),.v y6]::.vech 53 3 (List.zipWith kD (p.av.take k) j) (.slice B k C)::List.zipWith nK (p.av.take k) j) ?_ V ?_ ?_ ?_
 ·exact zdR
 ·rintro k _ _⟨B,C,j,rfl,_,_,rfl⟩;exact dO
 ·rintro k _ _ hk⟨B,C,j,rfl,l,M,rfl⟩;rw[zq]at hk;obtain⟨f,hf⟩:∃f,p.av[k]?=some f:=⟨p.av[k],by simp[hk]⟩
  have hr:(p.av.map aD)[k]?=some (aD f):=by grind
  have vz:=(c2 f (bP hf)).2.1
  have N:(f.params.map fun s=>[GV.v (sv s)]).length=f.params.length:=by simp
  have z:=mu f.params
  have Q:=fun y=>xh (f:=kD) hf l y
  have O:=fun y=>xh (f:=nK) hf l y
  have w:=fun(a:Option Addr)(c:Nat)=>Jc (n:=fun x:Go.Sp.Fn=>x.params.length) hf l M (y:=.slice a f.params.length c) ⟨a,c,rfl⟩
  have G:∀q,kW q (List.zipWith nK (p.av.take k) j)=true:=fun q=>qA (jC (fun _ _=>rfl))
  have F:(List.zipWith kD (p.av.take k) j).length=k:=by grind
  generalize List.zipWith kD (p.av.take k) j=R at *;generalize List.zipWith nK (p.av.take k) j=X at *;unfold aD at hr;refine GW.wk (Wk.gz 9 1) ?_;simp only[cons_append];refine nY ?_;refine zce ?_
  have hq:∀(a b c d e k:Ob),(a::b::c::d::e::(X++[k])).length=X.length+6:=fun a b c d e k=>by simp
  refine zcx ?_;intro a1 W;rw[N];refine zbx ?_;refine zbE ?_;refine bb ?_;refine GL.kx 4 rfl rfl rfl rfl rfl rfl rfl rfl F np ?_;intro a2 c2;refine zb0 ?_;refine⟨rfl,rfl,_,_,(Wk.yB (A:=T::S::_::_::_::(X++[_])) zfI (bp _) (fun q=>by simp only[kW,rI,hGk,hAk,G];rfl)).trans (Wk.aZ az),a2,c2,j++[.slice a1 f.params.length W],rfl,by simp[l],w a1 W,?_⟩;rw[Q,O];rfl
 ·rintro _ _⟨B,C,j,rfl,l,M,rfl⟩;rw[zq]at l |-;rw[dD];refine bh ?_
  have hFk:∀q,kW q (List.zipWith nK p.av j)=true:=fun q=>qA (jC (fun _ _=>rfl))
  have hFH:∀x∈List.zipWith nK p.av j,x.mP=true:=jC (fun _ _=>rfl);have hFe:List.zipWith nK p.av j=List.zipWith nK p.av j:=rfl;refine GW.wk (Wk.gz 82 5) ?_;simp only[cons_append];generalize hFV:Ob.vech 53 3 (List.zipWith kD p.av j) (.slice B p.av.length C)=FV at *
  have hVk:∀q,Ob.ok q FV=true:=fun q=>by rw[<-hFV];rfl
  generalize WV:List.zipWith nK p.av j=FO at *;refine I ?_
  refine GW.range (p.ah.map aN).length (fun k fr Γ=>∃an E ns,fr=U::.box (aB p) 0::.loc 2 0::.loc 3 0::zU 30 (.sl 5 (p.ah.map aN)::y4 ((p.ah.map aN).length:Int)::y4 (k:Nat)::zU 15 [])/\ns.length=k/\(∀(i:Nat)x y,p.ah[i]?=some x->ns[i]?=some y->Hd x.aw.length y) /\
   Γ=T::S::.box 28 [.v y6,.v y6,.v y6,.v y6]::.box 28 [.v (.slice t p.aq.length u),.v (.slice o p.aj.length r),.v (.slice B p.av.length C),.v (.slice an k E)]::FV::(FO++.vech 82 5 (List.zipWith bV (p.ah.take k) ns) (.slice an k E)::List.zipWith cB (p.ah.take k) ns)) ?_ V ?_ ?_ ?_
  ·exact zdR
  ·rintro k _ _⟨an,E,ns,rfl,_,_,rfl⟩;exact dO
  ·rintro k _ _ hk⟨an,E,ns,rfl,m,w,rfl⟩;rw[Ji]at hk;obtain⟨f,hf⟩:∃f,p.ah[k]?=some f:=⟨p.ah[k],by simp[hk]⟩
   have hr:(p.ah.map aN)[k]?=some (aN f):=by grind
   have vz:=(d2 f (bP hf)).2
   have N:(f.aw.map fun i=>[GV.v (ii i)]).length=f.aw.length:=by simp
   have z:=Gh f.aw
   have Q:=fun y=>xh (f:=bV) hf m y
   have O:=fun y=>xh (f:=cB) hf m y
   have Xi:=fun(a:Option Addr)(c:Nat)=>Jc (n:=fun x:Nd=>x.aw.length) hf m w (y:=.slice a f.aw.length c) ⟨a,c,rfl⟩
   have G:∀q,kW q (List.zipWith cB (p.ah.take k) ns)=true:=fun q=>qA (jC (fun _ _=>rfl))
   have F:(List.zipWith bV (p.ah.take k) ns).length=k:=by grind
   generalize List.zipWith bV (p.ah.take k) ns=R at *;generalize List.zipWith cB (p.ah.take k) ns=NO at *;unfold aN at hr;generalize hX:FO++Ob.vech 82 5 R (.slice an k E)::NO=X;refine GW.wk (Wk.gz 3 1) ?_;simp only[cons_append];refine nY ?_;refine zce ?_
   have hq:∀(a b c d e k:Ob),(a::b::c::d::e::(X++[k])).length=X.length+6:=fun a b c d e k=>by simp
   refine zcx ?_;intro a1 W;rw[N];refine zbx ?_;refine zbE ?_;refine bb ?_;subst hX;simp only[dP,cons_append];refine GL.kx (FO.length+5) rfl rfl rfl rfl rfl rfl rfl (o5e _ _ _ _ _ _ _ _) F np ?_;intro a2 c2;refine oc nL (o5f _ _ _ _ _ _ _ _ _) ?_;refine I ?_;refine⟨rfl,rfl,_,_,(Wk.yB (A:=T::S::_::_::FV::(FO++_::(NO++[_]))) zfI (bp _) (fun q=>by simp only[kW,rI,hGk,hAk,G,hVk,hFk];rfl)).trans (Wk.aZ az),a2,c2,ns++[.slice a1 f.aw.length W],rfl,by simp[m],Xi a1 W,?_⟩;rw[Q,O];rfl
  ·rintro _ _⟨an,E,ns,rfl,m,w,rfl⟩;rw[Ji]at m |-;rw[dD];refine bh ?_;refine zd1 ?_;refine Zu (X:=[T,S]) (Y:=[_,_]) (Z:=FV::(FO++_::List.zipWith cB p.ah ns)) rfl zfg rfl rfl rfl rfl rfl ?_ ?_ ?_
   ·grind[Ob.mP]
   ·intro x hx
    rcases iY hx with rfl|hx
    ·rw[<-hFV];rfl
    rcases oO hx with hx|hx
    ·grind
    rcases iY hx with rfl|hx
    ·rfl
    ·exact zcN
   ·refine⟨_,_,_,_,j,ns,⟨⟨t,u,rfl⟩,⟨o,r,rfl⟩,⟨B,C,rfl⟩,⟨an,E,rfl⟩,l,m,M,w⟩,rfl,?_⟩;unfold qV
    grind
end Go.Xg
namespace Go.Xg
open Go.RowKit Go.Xw Go.Proofs Tryz Go.Im
open GV (U)
open Go.Xp (Nd T aU aM eP dW bZ kp bx wM vo)
theorem Bz:∀(X A k:ap),X.length<=k.length->fB (A++X) (List.range' A.length X.length) k=A++k
 |[],A,k,h=>by
  simp[fB]
 |x::X,A,[],h=>by simp at h
 |x::X,A,y::k,h=>by
  rw[length_cons,List.range'_succ,fB]
  have e:oset (A++x::X) A.length y=(A++[y])++X:=by rw[oC];simp
  have:=Bz X (A++[y]) k zff
  grind
section
variable{P:Program}{m:Nat}{Q:dN}{fr:am}{Γ:ap}{ops:Array Oper}{rest:List Oper}{d:Option Tmp}{op:Op}{ty:TypeId}{pos:String}{af:Array Edge}
theorem GL.IF{f:FuncId}[hf:fX P f](A X:ap){args:List Operand}{T:Array TypeId}{gs:am}{R:GV->ap->Prop}(W:GC P f gs X R)(o:Γ=A++X)(q:∀x∈X,x.mP=true)(s:∀r,Go.Xg.cq r gs=gs)(ha:mi (args.map (bf fr)) gs)
  (h:∀g k,R g k->X.length<=k.length/\(∀x∈k,x.mP=true)/\(∀r,b8 r g=g)/\GL P m ops Q rest (bX fr d g) (A++k)) :
  GL P m ops Q (⟨d,.call ⟨.value (.func f),args.toArray,T⟩,ty,pos,af,none⟩::rest) fr Γ:=by
 subst o
 refine GL.KV (List.range' A.length X.length) W (by rw[s];exact ha) (H7 _ _ _ zfg) ?_ fun g k v=>?_
 ·have:=Bx (cX (List.range' A.length X.length) (A++X).length) X A [] q
  grind
 grind[List.length_range',JC,Bz]
end
def db(bg:List Nd)(h:Value)(ns:List Value):ap:=.vech 82 5 (List.zipWith bV bg ns) h::List.zipWith cB bg ns
structure pn(bg:List Nd)(h:Value)(ns:List Value):Prop where
 head:∃a c,h=.slice a bg.length c
 len:ns.length=bg.length
 kid:∀(i:Nat)x y,bg[i]?=some x->ns[i]?=some y->Hd x.aw.length y
section
variable{bg:List Nd}{h:Value}{ns:List Value}
def qN:∀x∈db bg h ns,x.mP=true:=fun x hx=>by
 rcases iY hx with rfl|hx
 ·rfl
 ·exact zcN
def qO(H:pn bg h ns):(db bg h ns).length=bg.length+1:=by
 unfold db;rw[length_cons,sY,H.len,Nat.min_self]
end
def eB(x:Nd)(ks:List Int):Nd:=⟨x.ai,x.at_,x.n,x.s,ks⟩
def pn.snoc{bg:List Nd}{h:Value}{ns:List Value}(H:pn bg h ns)(x:Nd){a b:Option Addr}{c d:Nat}:pn (bg++[x]) (.slice a (bg.length+1) c) (ns++[.slice b x.aw.length d]):=by
 refine⟨⟨a,c,by simp⟩,by simp[H.len],fun i y v o e=>?_⟩;have M:=H.len
 rcases Nat.lt_or_ge i bg.length with j|j
 ·rw[j1 j]at o;rw[j1 V]at e;exact H.kid i y v o e
 grind[Hd]
def H4{bg:List Nd}{ns:List Value}(M:ns.length=bg.length)(x:Nd)(y h:Value):db (bg++[x]) h (ns++[y])=.vech 82 5 (List.zipWith bV bg ns++[bV x y]) h::(List.zipWith cB bg ns++[cB x y]):=by
 unfold db
 simp_all[List.zipWith_append]
def pn.put{bg:List Nd}{h:Value}{ns:List Value}(H:pn bg h ns){i:Nat}{x:Nd}(hx:bg[i]?=some x)(ks:List Int){b:Option Addr}{d n:Nat}(hn:n=ks.length):pn (bg.set i (eB x ks)) h (ns.set i (.slice b n d)):=by
 subst hn;have⟨a,c,e⟩:=H.head;refine⟨⟨a,c,by grind⟩,by simp[H.len],fun j y v o k=>?_⟩;rw[eY]at o k
 by_cases S:i=j
 ·rw[ak S]at o k;split at o
  ·cases o;split at k
   ·cases k;exact⟨_,_,rfl⟩
   grind
  grind
 ·rw[ae S]at o k;exact H.kid j y v o k
def yb:∀{bg:List Nd}{ns:List Value}{i:Nat}{x:Nd}(ks:List Int)(y:Value),ns.length=bg.length->bg[i]?=some x->df (List.zipWith bV bg ns) i 4 (.v y)=List.zipWith bV (bg.set i (eB x ks)) (ns.set i y)
 |[],ns,i,x,ks,y,M,h=>by simp at h
 |n::bg,[],i,x,ks,y,M,h=>by simp at M
 |n::bg,v::ns,0,x,ks,y,M,h=>by cases h;rfl
 |n::bg,v::ns,i+1,x,ks,y,M,h=>by
  have:=yb (bg:=bg) (ns:=ns) (i:=i) (x:=x) ks y zff zff;rw[zipWith_cons_cons,df,this];rfl
def xY:∀{bg:List Nd}{ns:List Value}{i:Nat}{x:Nd}(ks:List Int)(y:Value),ns.length=bg.length->bg[i]?=some x->oset (List.zipWith cB bg ns) i (.vech 3 1 (fZ ks) y)=List.zipWith cB (bg.set i (eB x ks)) (ns.set i y)
 |[],ns,i,x,ks,y,M,h=>by simp at h
 |n::bg,[],i,x,ks,y,M,h=>by simp at M
 |n::bg,v::ns,0,x,ks,y,M,h=>by rfl
 |n::bg,v::ns,i+1,x,ks,y,M,h=>by
  have:=xY (bg:=bg) (ns:=ns) (i:=i) (x:=x) ks y zff zff;rw[zipWith_cons_cons,oset,this];rfl
def kH(bg:List Nd)(n:Nd)(l:List T)(k:Nat):List Nd:=bg++eB n (bx (bg.length+1) (l.take k))::bZ (bg.length+1) (l.take k)
section
variable{bg:List Nd}{n:Nd}{l:List T}
theorem F5{k:Nat}:(kH bg n l k).length=bg.length+1+aM (l.take k):=by
 grind[br,length_cons,kp,kH,aM]
def UZ{k:Nat}:(kH bg n l k)[bg.length]?=some (eB n (bx (bg.length+1) (l.take k))):=by
 simp[kH,eB,bx]
theorem OH{k:Nat}{u:T}(h:l[k]?=some u) :
  (kH bg n l k).set bg.length (eB (eB n (bx (bg.length+1) (l.take k))) (bx (bg.length+1) (l.take k)++[(((kH bg n l k).length:Nat):Int)]))++dW (kH bg n l k).length u=kH bg n l (k+1):=by
 have e:l.take (k+1)=l.take k++[u]:=by grind[dd]
 rw[F5];unfold kH;rw[List.set_append_right _ _ (aY _),r9,set_cons_zero,e,wM,vo];simp only[bx,bZ,eT,eB,dP,cons_append]
def Rs:kH bg n l l.length=bg++dW bg.length (.mk n l):=by
 simp[eB,dD,kH,dW]
end
attribute [local irreducible] GW GL GO YG GC GA bo bq
def FL:∀(N:Nat)(t:T),aU t<=N->∀(bg:List Nd)(h:Value)(ns:List Value),pn bg h ns->bg.length+aU t<=8388608 ->
  GC prog 61 [.v h,.agg (cT t)] (db bg h ns) fun g Δ=>∃i e,pn (bg++dW bg.length t) i e/\g=.v i/\Δ=db (bg++dW bg.length t) i e:=by
 intro N
 induction N with
 |zero=>intro t h;exact zd6
 |succ N ih =>
 intro t hN bg h ns H hb
 cases t with
 |mk n l =>
 rw[Go.Xp.aU]at hN hb;have NL:=eP l;have B:(bj l).length=l.length:=bH l;have hml:=qO H;have Jh:=H.len;obtain⟨a0,c0,rfl⟩:=H.head
 have hRl:(List.zipWith bV bg ns).length=bg.length:=by grind
 have hOl:(List.zipWith cB bg ns).length=bg.length:=by grind
 have hOk:∀q,kW q (List.zipWith cB bg ns)=true:=fun q=>qA (jC (fun _ _=>rfl))
 have hsn:=fun(y h:Value)=>H4 Jh (eB n []) y h
 have hHs:=fun(a:Option Addr)(c:Nat)=>H.snoc (eB n []) (a:=a) (c:=c) (b:=none) (d:=0)
 refine dc func61 ntmps61 ?_;rw[hml];unfold db;generalize List.zipWith bV bg ns=R at *;generalize List.zipWith cB bg ns=O at *;refine zab ?_;refine nY ?_;refine zce ?_
 have hq:∀x:Ob,(x::O).length=O.length+1:=fun x=>rfl
 simp only[hq,cons_append]
 have w:∀x y:Ob,(x::(O++[y]))[O.length+1]?=some y:=fun x y=>Ms (x::O) [] y
 have NT:∀x y z:Ob,oset (x::(O++[y])) (O.length+1) z=x::(O++[z]):=fun x y z=>oC (x::O) [] y z
 refine I ?_;refine GL.st rfl (w _ _) rfl rfl rfl rfl ?_;refine oc nL (NT _ _ _) ?_;refine I ?_;refine GL.q (YG.Ab rfl (w _ _) rfl rfl) ?_;refine bb ?_;refine GL.kx 0 rfl rfl rfl rfl rfl rfl rfl rfl hRl np ?_;intro a1 c1;refine zb0 ?_;refine GW.range (bj l).length (fun k fr Γ=>∃i e,fr=.v i::U::U::.box (cT (.mk n l)) 0::U::y4 (bg.length:Nat)::zU 13 (.sl 6 (bj l)::y4 ((bj l).length:Int)::y4 (k:Nat)::zU 21 [])/\pn (kH bg n l k) i e/\Γ=db (kH bg n l k) i e) ?_ V ?_ ?_ ?_
 ·have e0:kH bg n l 0=bg++[eB n []]:=by rfl
  rw[e0];refine⟨_,_,((Wk.yB (A:=_::O) rfl zff (fun q=>by simp only[kW,hOk];rfl)).trans (Wk.gz 3 1)).trans (Wk.aZ az),_,ns++[.slice none 0 0],rfl,hHs a1 c1,?_⟩;rw[hsn];rfl
 ·rintro k _ _⟨i,e,rfl,_,rfl⟩;exact dO
 ·rintro k _ _ F⟨i,e,rfl,o,rfl⟩;rw[B]at F;obtain⟨u,hu⟩:∃u,l[k]?=some u:=⟨l[k],by simp[F]⟩;have hr:=dG hu;have sM:=mz hu;have WY:=F5 (bg:=bg) (n:=n) (l:=l) (k:=k);have j:=UZ (bg:=bg) (n:=n) (l:=l) (k:=k);have hMn:=OH (bg:=bg) (n:=n) hu;rw[<-hMn];obtain⟨a2,c2,rfl⟩:=o.head;have r:=o.len;obtain⟨y,hy⟩:∃y,e[bg.length]?=some y:=⟨e[bg.length]'V,cK _⟩;obtain⟨Z,c3,rfl⟩:=o.kid _ _ _ j hy
  have J:=fun(a:Option Addr)(c:Nat)=>o.put j (bx (bg.length+1) (l.take k)++[(((kH bg n l k).length:Nat):Int)]) (b:=a) (d:=c) (n:=(bx (bg.length+1) (l.take k)).length+1) zfg
  have NS:=fun(y:Value)=>yb (bx (bg.length+1) (l.take k)++[(((kH bg n l k).length:Nat):Int)]) y r j
  have G:=fun(y:Value)=>xY (bx (bg.length+1) (l.take k)++[(((kH bg n l k).length:Nat):Int)]) y r j
  have S:(List.zipWith bV (kH bg n l k) e)[bg.length]?=some (bV (eB n (bx (bg.length+1) (l.take k))) (.slice Z (bx (bg.length+1) (l.take k)).length c3)):=by grind[eB]
  have E:(List.zipWith cB (kH bg n l k) e)[bg.length]?=some (.vech 3 1 (fZ (bx (bg.length+1) (l.take k))) (.slice Z (bx (bg.length+1) (l.take k)).length c3)):=by rw[getElem?_zipWith,j,hy];rfl
  have Xd:bg.length<(List.zipWith bV (kH bg n l k) e).length:=by grind
  have zr:(fZ (bx (bg.length+1) (l.take k))).length=(bx (bg.length+1) (l.take k)).length:=by simp[fZ]
  have S9:fZ (bx (bg.length+1) (l.take k)++[(((kH bg n l k).length:Nat):Int)])=fZ (bx (bg.length+1) (l.take k))++[[y4 ((kH bg n l k).length:Nat)]]:=by simp[fZ]
  have Ta:(bx (bg.length+1) (l.take k)).length<=8388608:=by
   grind[Go.Xp.dw]
  rw[S9]at G
  have C:=fun(h:Value)(X:List Value)Y=>ih u V ((kH bg n l k).set bg.length (eB (eB n (bx (bg.length+1) (l.take k))) (bx (bg.length+1) (l.take k)++[(((kH bg n l k).length:Nat):Int)]))) h X Y zff
  rw[List.length_set]at C;unfold db;generalize hks:bx (bg.length+1) (l.take k)=W at *;generalize hM:kH bg n l k=M at *;generalize hM2:M.set bg.length (eB (eB n W) (W++[((M.length:Nat):Int)]))=M2 at *
  have s:∀x:Ob,(x::List.zipWith cB M e)[bg.length+1]?=some (.vech 3 1 (fZ W) (.slice Z W.length c3)):=fun x=>E
  generalize List.zipWith cB M e=O2 at *;generalize List.zipWith bV M e=R2 at *;unfold bV eB at S;refine zaY ?_;refine zad ?_;refine GL.kx (bg.length+1) rfl rfl rfl rfl rfl rfl rfl (s _) zr np ?_;intro a4 c4;refine oc nL (by simp only[oset];rw[G]) ?_;refine I ?_;refine pP ?_;simp only[dJ];rw[NS];have Y:=J a4 c4;have Dr:=qO Y;refine I ?_;refine GL.IF [] (db M2 (.slice a2 M.length c2) (e.set bg.length (.slice a4 (W.length+1) c4))) (C _ _ Y) rfl qN (fun _=>rfl) (n9) ?_;rintro _ _⟨h5,ns5,H5,rfl,rfl⟩;have hl5:=qO H5;rw[br]at hl5;refine⟨by omega,qN,fun _=>rfl,?_⟩;rw[nil_append];refine zad ?_;exact⟨rfl,rfl,_,_,Wk.aZ az,h5,ns5,rfl,H5,rfl⟩
 ·rintro _ _⟨i,e,rfl,o,rfl⟩;rw[B]at o |-;rw[Rs]at o |-;have QS:=qO o;refine bh ?_;unfold db;refine zd1 ?_;refine qc (n:=(db (bg++dW bg.length (.mk n l)) i e).length) rfl zfg rfl zff ?_ rfl ?_
  ·show sO _ (List.take _ (db _ _ _))=true;rw[dD];exact qA qN
  ·show ∃h2 X,_/\_/\List.take _ (db _ _ _)=_;rw[dD];exact⟨i,e,o,rfl,rfl⟩
end Go.Xg
namespace Go.Im
open Go.Xp Go.Sp
theorem Pw(fr nw:ab){l:List T}{k:Nat}{u:T}(h:l[k]?=some u):pD fr nw (l.take (k+1))=pD fr nw (l.take k)++[zF fr nw u]:=by
 have R:∀a b:List T,pD fr nw (a++b)=pD fr nw a++pD fr nw b:=by
  intro a b
  induction a with
  |nil=>rfl
  |cons t a O=>grind[pD]
 grind[dd,pD,zF]
end Go.Im
namespace Go.Xg
open Go.RowKit Go.Xw Go.Proofs Tryz Go.Im
open GV (U)
open Go.Xp (T aU eP)
attribute [local irreducible] GW GL GO YG GC GA bo bq
def Ou(e nw:Go.Xp.ab):∀(N:Nat)(t:T),aU t<=N->aU t<=8388608 ->
  GF prog 62 [.agg (cT t),.v (sv e),.v (sv nw)] [] (.agg (cT (zF e nw t))) []:=by
 intro N
 induction N with
 |zero=>intro t h;exact zd6
 |succ N R =>
 intro t H B
 cases t with
 |mk n l =>
 rw[Go.Xp.aU]at H B;have M:=eP l;have r:(bj l).length=l.length:=bH l;have w:=Dy n.s e nw;rw[zF];obtain⟨m,b⟩:∃m,BG e nw n=m:=⟨_,rfl⟩;rw[b]
 have O:m.ai=n.ai/\m.at_=n.at_/\m.aw=n.aw:=by
  grind[BG]
 unfold BG at b;refine dc func62 ntmps62 ?_;refine y9 ?_;refine GW.join (fun A E=>A=U::.v (sv e)::.v (sv nw)::.loc 0 0::U::U::.loc 1 0::.loc 2 0::zU 56 []/\E=[.box 89 (cT (.mk n l)),.box 89 zT,.box 89 [y4 m.ai,y4 m.at_,y4 m.n,.v (sv m.s),ints m.aw,.v y6]]) ?_ ?_
 ·cases Y:(n.ai==2)with
  |true =>
   rw[ak (.inl zff)]at b
   cases G:(n.n==0)with
   |true =>
    exact ze5
   |false =>
    exact zcR
  |false =>
  cases q7:(n.ai==7)with
  |true =>
   rw[ak (.inr (.inl zff))]at b
   cases G:(n.n==0)with
   |true =>
    exact ze5
   |false =>
    exact zcR
  |false =>
  cases S:(n.ai==13)with
  |true =>
   rw[ak (.inr (.inr zff))]at b
   cases G:(n.n==0)with
   |true =>
    exact ze5
   |false =>
    exact zcR
  |false =>
  rw[ae zff]at b
  cases Z:(n.ai==3)with
  |true =>
   rw[ak (.inl zff)]at b;exact zbo
  |false =>
  cases q8:(n.ai==8)with
  |true =>
   rw[ak (.inr (.inl zff))]at b;exact zbo
  |false =>
  cases q4:(n.ai==4)with
  |true =>
   rw[ak (.inr (.inr zff))]at b;exact zbo
  |false =>
   exact zcR
 ·rintro _ _⟨rfl,rfl⟩;refine GW.wk (Wk.tV (i:=2) (o:=5) 89 6 rfl rfl) ?_;refine zcm ?_;refine I ?_
  refine GW.range (bj l).length (fun k A E=>∃c,A=U::.v (sv e)::.v (sv nw)::.loc 0 0::U::U::.loc 1 0::.loc 2 0::zU 39 (.sl 6 (bj l)::y4 ((bj l).length:Int)::y4 (k:Nat)::zU 14 []) /\
   E=[.box 89 (cT (.mk n l)),.box 89 zT,.box 89 [y4 m.ai,y4 m.at_,y4 m.n,.v (sv m.s),ints m.aw,.vec 3 k],.vec 89 6 0 c] /\
   c.length=k/\c=bj (pD e nw (l.take k))) ?_ V ?_ ?_ ?_
  ·exact⟨_,_,Wk.aZ az,[],rfl,rfl,rfl,by rfl⟩
  ·rintro k _ _⟨_,rfl,rfl,_⟩;exact dO
  ·rintro k _ _ z⟨c,rfl,rfl,j,d⟩;rw[r]at z;obtain⟨u,F⟩:∃u,l[k]?=some u:=⟨l[k],by simp[z]⟩;have X:=dG F;have Q:=mz F;have J:=R u V V
   have C:bj (pD e nw (l.take (k+1)))=c++[cT (zF e nw u)]:=by
    grind[Pw,sn,ru]
   rw[C];clear d;generalize zF e nw u=W at *;refine I ?_;refine zdu ?_;refine aP [] J ?_;refine zcM ?_;exact⟨rfl,rfl,_,_,(Wk.cut (n:=4) (ek rfl) rfl).trans (Wk.aZ az),_,rfl,rfl,by rw[br,j];rfl,rfl⟩
  ·rintro _ _⟨c,rfl,rfl,j,d⟩;rw[r,dD]at d;rw[r]at j |-;refine bh (GW.wk (Wk.pd (i:=2) (o:=5) rfl rfl rfl rfl j) ?_);simp only[bJ,oset];refine GW.Df (dh:=U::.v (sv e)::.v (sv nw)::.loc 0 0::U::U::.loc 1 0::.loc 2 0::zU 56 []) (bM:=[.box 89 (cT (.mk n l)),.box 89 zT,.box 89 [y4 m.ai,y4 m.at_,y4 m.n,.v (sv m.s),ints m.aw,.sl 6 c],.vec 89 6 l.length c]) az rfl ?_;subst d;exact kT
end Go.Xg
namespace Go.Im
open Go.Xp Go.Sp
def kM(b:Int)(l:List Int)(k:Nat):List Int:=(l.take k).map (·+b)++l.drop k
def XI(b:Int)(l:List Int)(k:Nat):(kM b l k).length=l.length:=by grind[kM]
section
variable{b:Int}{l:List Int}{k:Nat}{x:Int}
theorem ZH(h:l[k]?=some x):(kM b l k)[k]?=some x:=by
 grind[kM]
theorem UJ(h:l[k]?=some x):kM b l (k+1)=(kM b l k).set k (x+b):=by
 have i:=(bY h).1
 have X:l[k]=x:=by grind
 unfold kM;exact zcs
end
def UK(b:Int)(l:List Int):kM b l 0=l:=by simp[kM]
def XH(b:Int)(l:List Int):kM b l l.length=l.map (·+b):=by simp[kM]
def Du:∀(l:List T)(a:Nat),∀z∈bx a l,0<=z/\z<=((a+aM l:Nat):Int)
 |[],a,z,h=>by cases h
 |t::l,a,z,h=>by
  rw[bx]at h;rw[aM]
  rcases iY h with rfl|h
  ·omega
  ·have:=Du l (a+aU t) z h;omega
mutual
def SK:∀(t:T)(a:Nat),∀n∈dW a t,∀z∈n.aw,0<=z/\z<=((a+aU t:Nat):Int)
 |.mk n l,a,m,h,z,o=>by
  rw[dW]at h;rw[aU]
  rcases iY h with rfl|h
  ·have:=Du l (a+1) z o;omega
  ·have:=Nb l (a+1) m h z o;omega
def Nb:∀(l:List T)(a:Nat),∀n∈bZ a l,∀z∈n.aw,0<=z/\z<=((a+aM l:Nat):Int)
 |[],a,m,h,z,o=>by grind[bZ]
 |t::l,a,m,h,z,o=>by
  rw[bZ]at h;rw[aM]
  rcases oO h with h|h
  ·have:=SK t a m h z o;omega
  ·have:=Nb l (a+aU t) m h z o;omega
end
mutual
def SL:∀(t:T)(a:Nat),∀n∈dW a t,n.aw.length<=aU t
 |.mk n l,a,m,h=>by
  rw[dW]at h;rw[aU]
  rcases iY h with rfl|h
  ·grind[dw,eP]
  ·have:=Nc l (a+1) m h;omega
def Nc:∀(l:List T)(a:Nat),∀n∈bZ a l,n.aw.length<=aM l
 |[],a,m,h=>by grind[bZ]
 |t::l,a,m,h=>by
  rw[bZ]at h;rw[aM]
  rcases oO h with h|h
  ·have:=SL t a m h;omega
  ·have:=Nc l (a+aU t) m h;omega
end
end Go.Im
namespace Go.Xg
open Go.RowKit Go.Xw Go.Proofs Go.Im
open Go.Xp (T aU aM bZ dW)
section
variable{P:Program}{m:Nat}{Q:dN}{fr:am}{Γ:ap}{ops:Array Oper}{rest:List Oper}{d:Option Tmp}{op:Op}{ty:TypeId}{pos:String}{af:Array Edge}
theorem AM{k:Nat}:∀{rows:List am},gE k rows->∀{i:Nat}{r:am},rows[i]?=some r->(rows.flatten.drop (i*k)).take k=r
 |[],N,i,r,v=>by simp at v
 |a::rows,N,0,r,v=>by
  cases v;have w:a.length=k:=(N a (List.mem_cons_self)).1
  grind
 |a::rows,N,i+1,r,v=>by
  have w:a.length=k:=(N a (List.mem_cons_self)).1;rw[List.flatten_cons,Nat.succ_mul,Nat.add_comm,<-List.drop_drop]
  have:(a++rows.flatten).drop k=rows.flatten:=by grind
  rw[this];exact AM (fun r h=>N r (ec _ h)) zff
theorem YG.abf{x:Operand}{t:TypeId}{k:Nat}[hT:Ty P t true k]{i n idx E:Nat}{rows:List am}{v:Value}{r:am}(hx:bf fr x=.vp i n k idx 0)(q:Γ[i]?=some (.vech E k rows v))(hn:rows.length=n)(A:rows[idx]?=some r)(T:0<k):YG P (.load t x) fr Γ (.agg r):=fun B K β w l N M=>by
 have h:=M.ev x;rw[hx]at h;generalize X:ev l x=u at h
 cases h with
 |vp _ _ _ _ _ _ h =>
  have⟨Z,m,F,h2,G⟩:=h;have⟨C,s,H,J,z,_⟩:=N.ob i _ q;rw[F]at s;cases s;obtain⟨b,O,rfl⟩:=G hn;have W:r.length=k:=(z r (bP A)).1;have e:=(J.drop (idx*k)).take k;rw[AM z A]at e
  have o:C≠[]:=by
   grind
  have⟨Y,c,S,_,_,hc⟩:=H.cells.2 o;subst S;cases O;refine⟨.agg ((C.drop (idx*k)).take k).toArray,R.XQ X V (fun j v hj=>?_),.agg _ _ e.1 e.2⟩
  grind[fS]
def Dp:∀(fr:am)(t:Nat)(a b:GV),bJ (bJ fr t a) t b=bJ fr t b
 |[],t,a,b=>rfl
 |x::fr,0,a,b=>rfl
 |x::fr,t+1,a,b=>by simp only[bJ,Dp fr t a b]
def Dj:∀(fr:am)(t:Nat)(g:GV),il fr t=true->bD (bJ fr t g) t=g
 |[],t,g,h=>by cases h
 |x::fr,0,g,h=>rfl
 |x::fr,t+1,g,h=>Dj fr t g h
theorem FC:∀(fr:am)(t u:Nat)(g:GV),il (bJ fr t g) u=il fr u
 |[],t,u,g=>rfl
 |x::fr,0,0,g=>rfl
 |x::fr,0,u+1,g=>rfl
 |x::fr,t+1,0,g=>rfl
 |x::fr,t+1,u+1,g=>FC fr t u g
theorem GL.KO{s x:Operand}{t e k l:Nat}[u:nu P t e k l]{i fz:Nat}{O:Tmp}{news:List am}(hx:bf fr x=.sl k news)(G:bf fr s=.vec i 0)(o:Γ[i]?=some (.vec e k fz []))(r:lg news=true)(q:il fr O=true)
  (j:0+news.length<=9223372036854775807/\(0+news.length)*l<=140737488355328)
  (h:GL P m ops Q rest (bX fr (some O) (.sl k news)) (oset Γ i (.vec e k news.length news))) :
  GL P m ops Q (⟨some O,.call ⟨.builtin .append,#[s,x],#[t,t]⟩,ty,pos,af,none⟩::rest) fr Γ:=by
 refine GL.yx hx G o rfl r j ?_;have v:=(bY o).1;refine GL.wk (Wk.jx (t:=O) (i:=i) (n:=0+news.length) (E:=e) (k:=k) (fz:=fz) (rows:=[]++news) (Dj fr O _ q) (by show il (bJ fr O _) O=true;grind[FC]) ?_ zfg) ?_
 ·simp_all[bI,eY,ak]
 ·show GL P m ops Q rest (bJ (bJ fr O _) O _) _;rw[Dp,bI,bI,set_set,nil_append,dJ,<-bI];exact h
theorem Wk.Wi{A:ap}{x:Ob}{n:Nat}(o:Γ=A++[x])(hn:A.length=n)(j:m<=n)(ha:sO n A=true):Wk m fr Γ (u3 n fr) A:=by
 subst o;subst hn;have h:=Wk.cut (m:=m) (fr:=fr) (Γ:=A++[x]) (n:=A.length) j (by simp[ha])
 grind
end
theorem Tw(a b c d e f g h x:Ob)(W:ap):(a::b::c::d::e::f::g::h::(W++[x]))[W.length+8]?=some x:=by
 simp
theorem XX(a b c d e f g h x y:Ob)(W:ap):oset (a::b::c::d::e::f::g::h::(W++[x])) (W.length+8) y=a::b::c::d::e::f::g::h::(W++[y]):=by
 simp[oC,oset]
def XW(a b c d e f g h x k:Ob){W:ap}{j:Nat}(N:W[j]?=some k):(a::b::c::d::e::f::g::h::(W++[x]))[j+8]?=some k:=by
 have i:=(bY N).1
 simp_all[j1]
def JB(a b c d e f g h x y:Ob){W:ap}{j:Nat}(Y:j<W.length):oset (a::b::c::d::e::f::g::h::(W++[x])) (j+8) y=a::b::c::d::e::f::g::h::(oset W j y++[x]):=by
 simp_all[bI,List.set_append_left]
def FG:∀(l:List Int)(k:Nat)(x:Int),df (fZ l) k 0 (y4 x)=fZ (l.set k x)
 |[],k,x=>rfl
 |y::l,0,x=>rfl
 |y::l,k+1,x=>by
  have:=FG l k x;unfold fZ at this |-
  grind[df]
open Tryz
open GV (U)
open Go.Xp (kp qu)
open Go.Sp (Src bm word)
attribute [local irreducible] GW GL GO YG GC GA bo bq
def Mh(p:Src)(hw:cU p<=1048576){l:List T}(H:Go.Im.Good p l)(r nw:Go.Xp.ab)(hwd:(bA p).contains r=true->word r=true)
  (hG:GF prog 38 [.agg (aB p)] [] (.v (.bool true)) [])(hN:GF prog 55 [.v (sv nw)] [] (.v (.bool true)) [])(hR:GF prog 56 [.v (sv nw)] [] (.v (.bool false)) []) :
  GC prog 15 [.agg (aB p),.v (sv r),.v (sv nw)] [] fun g Δ =>
   Δ=[]/\if((!(bA p).contains r) ||r==wX)=true then g=.tup [.agg (aB fH),y4 2]else if(bA p).contains nw=true then g=.tup [.agg (aB fH),y4 3]else if mU (mT p l) nw=true then g=.tup [.agg (aB fH),y4 4]else g=.tup [.agg (aB (de r nw p l)),y4 0]:=by
 have⟨⟨a1,a2⟩,⟨b1,b2⟩,⟨c1,c2⟩,⟨d1,d2⟩⟩:=gn p;have SZ:=A8 p hw r;have S0:=A8 p hw nw
 have zq:(p.av.map aD).length=p.av.length:=by simp
 have hlen:=H.len;have AW:(r==wX)=(r==[109,97,105,110]):=rfl;rw[AW];generalize(bA p).contains r=c1' at *;generalize(bA p).contains nw=c2' at *;refine dc func15 ntmps15 ?_;refine zab ?_;refine I ?_;refine D [] hG ?_;refine D [] hN ?_;refine D [] hR ?_;refine ig [] SZ ?_
 cases c1' with
 |false =>
  simp only[Bool.not_false,Bool.true_or,if_true];refine I ?_;exact zdi
 |true =>
 cases h2:(r==[109,97,105,110])with
 |true =>
  simp only[Bool.not_true,Bool.false_or,if_true];refine I ?_;exact zdi
 |false =>
 simp only[Bool.not_true,Bool.or_self,Bool.false_eq_true,if_false];refine I ?_;refine ig [] S0 ?_
 cases c2' with
 |true =>
  simp only[if_true];refine I ?_;exact zdi
 |false =>
 refine zbw ?_;refine I ?_
 have hb0:∀(k:Nat)(X:am)(Y:ap),k<=k:=fun _ _ _=>aY _
 refine GW.range (p.av.map aD).length (fun k X Y=>X=U::.v (sv r)::.v (sv nw)::.box (aB p) 0::U::U::.loc 0 0::zU 41 (.sl 3 (p.av.map aD)::y4 ((p.av.map aD).length:Int)::y4 (k:Nat)::zU 115 [])/\Y=[.box 28 [.v y6,.v y6,.v y6,.v y6]]/\mU ((mT p l).take k) nw=false) ?_ V ?_ ?_ ?_
 ·exact lk
 ·exact jA
 ·rintro k _ _ hk⟨rfl,rfl,Lf⟩;rw[zq]at hk;obtain⟨f,hf⟩:∃f,p.av[k]?=some f:=⟨p.av[k],by simp[hk]⟩;obtain⟨t,ht⟩:∃t,l[k]?=some t:=⟨l[k]'V,cK _⟩;have hg:=H.fn hf ht;have hL:=zv p k f t (fun n hn=>by grind) hf zff hg.body hg.st (by have:=hg.sz;omega);have G:=xU hf ht;have Xi:=zy (s:=nw) G
  have hit:=fun hc=>wW (s:=nw) G hc
  have hvl:=hg.vars;have vz:=(c2 f (bP hf)).2.1;have hC:=iR (f.params++bW t) nw zff
  have e3:∀x:List Go.Xp.ab,strs x=.sl 1 (bs x):=fun _=>rfl
  rw[e3]at hC;generalize f.params++bW t=L at *
  cases hc:L.contains nw with
  |true =>
   rw[hc]at hC;rw[hit hc];simp only[if_true];refine I ?_;refine b6 [] hL ?_;rintro _ _⟨ad,cp,rfl,rfl⟩;refine zas ?_;refine GL.borrow hC (fun B K β w l hI hF=>fm (A:=[_]) (C:=[]) hI hF rfl rfl) ?_;refine zad ?_;exact zdi
  |false =>
   rw[hc]at hC Xi;refine I ?_;refine b6 [] hL ?_;rintro _ _⟨ad,cp,rfl,rfl⟩;refine zas ?_;refine GL.borrow hC (fun B K β w l hI hF=>fm (A:=[_]) (C:=[]) hI hF rfl rfl) ?_;refine zad ?_;exact⟨rfl,rfl,_,_,(Wk.cut (n:=1) (ek rfl) rfl).trans (Wk.aZ az),rfl,rfl,by grind⟩
 ·rintro _ _⟨rfl,rfl,Lf⟩;rw[zq,<-Bc hlen,dD]at Lf;rw[Lf];refine zbw ?_;refine bh ?_;have hS:=Dy
  have NJ:(p.aq.map fun s=>[GV.v (sv s)]).length=p.aq.length:=by simp
  have ham:(p.aj.map aW).length=p.aj.length:=by simp
  refine I ?_;refine GW.wk (Wk.tV (i:=1) (o:=0) 9 1 rfl rfl) ?_;refine zcm ?_;refine GW.wk (Wk.tV (i:=1) (o:=1) 79 2 rfl rfl) ?_;refine zcm ?_;refine GW.wk (Wk.tV (i:=1) (o:=2) 53 3 rfl rfl) ?_;refine zcm ?_;refine GW.wk (Wk.tV (i:=1) (o:=3) 82 5 rfl rfl) ?_;refine zcm ?_;generalize SY:Ob.box 28 [.v y6,.v y6,.v y6,.v y6]=B6
  have E:∀q,Ob.ok q B6=true:=fun q=>by rw[<-SY];rfl
  refine GW.range (p.aq.map fun s=>[GV.v (sv s)]).length (fun k X Y=>X=[U,.v (sv r),.v (sv nw),.box (aB p) 0,U,U,.loc 0 0,U,U,.loc 1 0,U,U,U,U,U,U,U,U,U,U,U,U,U,U,U,U,U,U,U,U,U,U,U,U,U,U,U,U,U,U,U,U,U,U,U,U,U,U,U,U,U,U,U,U,U,U,U,U,U,U,U,U,.sl 1 (p.aq.map fun s=>[GV.v (sv s)]),y4 ((p.aq.map fun s=>[GV.v (sv s)]).length:Int),y4 (k:Nat),U,U,U,U,U,U,U,U,U,U,U,U,U,U,U,U,U,U,U,U,U,U,U,U,U,U,U,U,U,U,U,U,U,U,U,U,U,U,U,U,U,U,U,U,U,U,U,U,U,U,U,U,U,U,U,U,U,U,U,U,U,U,U,U,U,U,U,U,U,U,U,U,U,U,U,U,U,U,U,U,U,U,U,U,U,U,U,U,U,U,U,U,U,U,U,U,U,U,U,U,U] /\
   Y=[B6,.box 28 [.vec 2 k,.vec 3 0,.vec 4 0,.vec 5 0],.vec 9 1 0 ((p.aq.take k).map fun s=>[GV.v (sv (bd r nw s))]),.vec 79 2 0 [],.vec 53 3 0 [],.vec 82 5 0 []]) ?_ V ?_ ?_ ?_
  ·exact fV
  ·rintro k _ _⟨rfl,rfl⟩;exact dO
  ·rintro k _ _ hk⟨rfl,rfl⟩;rw[NJ]at hk;obtain⟨x,hx⟩:∃x,p.aq[k]?=some x:=⟨p.aq[k],by simp[hk]⟩
   have hr:(p.aq.map fun s=>[GV.v (sv s)])[k]?=some [GV.v (sv x)]:=by grind
   have NP:((p.aq.take (k+1)).map fun s=>[GV.v (sv (bd r nw s))])=((p.aq.take k).map fun s=>[GV.v (sv (bd r nw s))])++[[GV.v (sv (bd r nw x))]]:=by grind[dd,gJ]
   have xo:((p.aq.take k).map fun s=>[GV.v (sv (bd r nw s))]).length=k:=by grind
   have Q:=hS x r nw;rw[NP];generalize((p.aq.take k).map fun s=>[GV.v (sv (bd r nw s))])=R at *;generalize bd r nw x=y at *;refine I ?_;refine zdu ?_;refine aP [] Q ?_;refine zcM ?_;exact zaT
  ·rintro _ _⟨rfl,rfl⟩;refine bh ?_;rw[NJ];rw[ln (aY _)];generalize hVG:Ob.vec 9 1 0 (p.aq.map fun s=>[GV.v (sv (bd r nw s))])=VG
   have F:∀q,Ob.ok q VG=true:=fun q=>by rw[<-hVG];rfl
   refine I ?_
   refine GW.range (p.aj.map aW).length (fun k X Y=>X=U::.v (sv r)::.v (sv nw)::.box (aB p) 0::U::U::.loc 0 0::U::U::.loc 1 0::zU 69 (.sl 2 (p.aj.map aW)::y4 ((p.aj.map aW).length:Int)::y4 (k:Nat)::zU 84 []) /\
    Y=[B6,.box 28 [.vec 2 p.aq.length,.vec 3 k,.vec 4 0,.vec 5 0],VG,.vec 79 2 0 ((p.aj.take k).map fun a=>aW (nz a (bd r nw a.name))),.vec 53 3 0 [],.vec 82 5 0 []]) ?_ V ?_ ?_ ?_
   ·exact fV
   ·rintro k _ _⟨rfl,rfl⟩;exact dO
   ·rintro k _ _ hk⟨rfl,rfl⟩;rw[ham]at hk;obtain⟨x,hx⟩:∃x,p.aj[k]?=some x:=⟨p.aj[k],by simp[hk]⟩
    have hr:(p.aj.map aW)[k]?=some (aW x):=by grind
    have NP:((p.aj.take (k+1)).map fun a=>aW (nz a (bd r nw a.name)))=((p.aj.take k).map fun a=>aW (nz a (bd r nw a.name)))++[[GV.v (sv (bd r nw x.name)),y4 x.size]]:=by rw[dd,hx,gJ];rfl
    have xo:((p.aj.take k).map fun a=>aW (nz a (bd r nw a.name))).length=k:=by grind
    have Q:=hS x.name r nw;rw[NP];generalize((p.aj.take k).map fun a=>aW (nz a (bd r nw a.name)))=R at *;generalize bd r nw x.name=y at *;unfold aW at hr;refine I ?_;refine aV (aL 0 6 (.q 7 (.q 8 (.a 6 (.q 9 (.a 10 (.a 11 (.q 12 (.a 13 .nil))))))))) ?_;refine ax ?_;refine aP [] Q ?_;refine zcM ?_;exact⟨rfl,rfl,_,_,(Wk.cut (n:=6) (ek rfl) (by simp only[take_succ_cons,take_zero,kW,E,F];rfl)).trans (Wk.aZ az),rfl,rfl⟩
   ·rintro _ _⟨rfl,rfl⟩;refine bh ?_;rw[ham];rw[ln (aY _)];generalize hVA:Ob.vec 79 2 0 (p.aj.map fun a=>aW (nz a (bd r nw a.name)))=VA
    have O:∀q,Ob.ok q VA=true:=fun q=>by rw[<-hVA];rfl
    refine I ?_
    have Fw:∀k,(bZ 0 ((Go.Im.cq r nw p.av l).take k)).length=aM (l.take k):=fun k=>by rw[kp,tZ]
    have acg:=H.st.len;have aaT:=H.st.few
    refine GW.range (p.av.map aD).length (fun k X Y=>X=U::.v (sv r)::.v (sv nw)::.box (aB p) 0::U::U::.loc 0 0::U::U::.loc 1 0::zU 90 (.sl 3 (p.av.map aD)::y4 ((p.av.map aD).length:Int)::y4 (k:Nat)::zU 63 []) /\
     Y=[B6,.box 28 [.vec 2 p.aq.length,.vec 3 p.aj.length,.vec 4 k,.vec 5 (aM (l.take k))],VG,VA,.vec 53 3 0 ((p.av.take k).map fun f=>aD (lG f (bd r nw f.name))),.vec 82 5 0 ((bZ 0 ((Go.Im.cq r nw p.av l).take k)).map aN)]) ?_ V ?_ ?_ ?_
    ·exact fV
    ·rintro k _ _⟨rfl,rfl⟩;exact dO
    ·rintro k _ _ hk⟨rfl,rfl⟩;rw[zq]at hk;obtain⟨f,hf⟩:∃f,p.av[k]?=some f:=⟨p.av[k],by simp[hk]⟩;obtain⟨t,ht⟩:∃t,l[k]?=some t:=⟨l[k]'V,cK _⟩;have hg:=H.fn hf ht
     have hr:(p.av.map aD)[k]?=some (aD f):=by grind
     unfold aD at hr
     have NP:((p.av.take (k+1)).map fun f=>aD (lG f (bd r nw f.name)))=((p.av.take k).map fun f=>aD (lG f (bd r nw f.name)))++[[GV.v (sv (bd r nw f.name)),strs f.params,y4 f.body]]:=by rw[dd,hf,gJ];rfl
     have xo:((p.av.take k).map fun f=>aD (lG f (bd r nw f.name))).length=k:=by grind
     have Q:=hS f.name r nw;have hBd:=Ui p hw hg;have hwf:word r=true:=hwd rfl;have Xr:=Px r nw (f.params++bW t) hwf t f.params hg.wf hg.z (H.sg ht) hg.ok (fun s h=>List.mem_append_left _ h) (fun s h=>List.mem_append_right _ h);have W0:=Ou r nw _ (mG (f.params++bW t) t f.params) (aY _) (by rw[Hh];have:=hg.sz;omega);rw[Xr]at W0;have Xs:aU (di r nw t f.params)=aU t:=kX r nw t f.params;have W3:=(en.at_ H.st.av k f t hf ht).1;have hly:=RE r nw hf ht;have XC:aM (l.take (k+1))=aM (l.take k)+aU t:=Go.Xp.r7 ht
     have hle:aM (l.take k)+aU t<=p.ah.length:=by grind[Go.Xp.pL]
     have WW:=FL _ (di r nw t f.params) (aY _) [] y6 [] ⟨⟨none,0,rfl⟩,rfl,fun i x y h=>by simp at h⟩ zff;rw[NP,hly,XC,show aM (l.take k)=0+aM (l.take k) by omega,Fe (aM (l.take k)) _ 0,dJ];rw[nil_append,length_nil]at WW;generalize di r nw t f.params=t' at *;have aaO:=Fw k;generalize(bZ 0 ((Go.Im.cq r nw p.av l).take k))=N0 at *;generalize((p.av.take k).map fun f=>aD (lG f (bd r nw f.name)))=R at *;refine I ?_;refine D [] hBd ?_;refine D [] W0 ?_;refine GL.wk (Wk.gz 82 5) ?_;refine zbc ?_;refine GL.IF [B6,_,VG,VA,_,_,_] (db [] y6 []) WW rfl qN (fun _=>rfl) (n9) ?_;rintro _ _⟨h5,u,H5,rfl,rfl⟩;refine⟨by simp[db],qN,fun _=>rfl,?_⟩;refine bb ?_;have abU:=qO H5
     have WY:(dW 0 t').length=aU t:=by rw[qu,Xs]
     have WX:=SK t' 0;have hMk:=SL t' 0;rw[Xs]at WX hMk;rw[dJ]at WX;have htz:=hg.sz;generalize dW 0 t'=M at *;generalize aM (l.take k)=b at *;generalize aU t=st at *;generalize f.body=fb at *;have abY:=H5.len;obtain⟨a5,c5,rfl⟩:=H5.head;have Zx:=H5.kid;clear WW W0 Xr H5 hBd;unfold db;refine zbc ?_;have hN0:N0.length=b:=aaO
     have Xh:(N0.map aN).length=b:=by grind
     refine I ?_
     refine GW.range M.length (fun j X Y=>∃S,X=U::.v (sv r)::.v (sv nw)::.box (aB p) 0::U::U::.loc 0 0::U::U::.loc 1 0::U::U::U::U::y4 (k:Nat)::.loc 6 0::U::y4 (b:Nat)::zU 82 (.sl 3 (p.av.map aD)::y4 ((p.av.map aD).length:Int)::y4 (k:Nat)::zU 14 (.v (.slice a5 M.length c5)::y4 (M.length:Int)::y4 (j:Nat)::zU 46 []))/\S.length=j/\(∀q,kW q S=true) /\
      Y=B6::.box 28 [.vec 2 p.aq.length,.vec 3 p.aj.length,.vec 4 k,.vec 5 (b+j)]::VG::VA::.vec 53 3 0 R::.vec 82 5 0 (N0.map aN++((M.take j).map (zE (b:Int))).map aN)::.box 53 [.v (sv f.name),strs f.params,y4 fb]::.vech 82 5 (List.zipWith bV M u) (.slice a5 M.length c5)::(S++List.zipWith cB (M.drop j) (u.drop j))) ?_ V ?_ ?_ ?_
     ·exact⟨_,_,Wk.aZ az,[],rfl,rfl,fun _=>rfl,by simp;rfl⟩
     ·rintro j _ _⟨S,rfl,_,_,rfl⟩;exact dO
     ·rintro j _ _ hj⟨S,rfl,hSl,WZ,rfl⟩;obtain⟨x,hx⟩:∃x,M[j]?=some x:=⟨M[j],by simp[hj]⟩;obtain⟨y,hy⟩:∃y,u[j]?=some y:=⟨u[j]'V,cK _⟩;obtain⟨a3,c3,rfl⟩:=Zx _ _ _ hx hy;have hxm:=bP hx
      have hzd:List.zipWith cB (M.drop j) (u.drop j)=cB x (.slice a3 x.aw.length c3)::List.zipWith cB (M.drop (j+1)) (u.drop (j+1)):=by
       grind[cK,sZ,j3,zipWith_cons_cons]
      have hnn:N0.map aN++((M.take (j+1)).map (zE (b:Int))).map aN=(N0.map aN++((M.take j).map (zE (b:Int))).map aN)++[aN (zE (b:Int) x)]:=by grind[dd,gJ,dP]
      have Jh:(N0.map aN++((M.take j).map (zE (b:Int))).map aN).length=b+j:=by grind
      have Xo:(List.zipWith bV M u)[j]?=some [y4 x.ai,y4 x.at_,y4 x.n,.v (sv x.s),.v (.slice a3 x.aw.length c3)]:=by rw[getElem?_zipWith,hx,hy];rfl
      have aca:(List.zipWith bV M u).length=M.length:=by grind
      have hjl:j<(List.zipWith bV M u).length:=by omega
      have hxb:=WX x hxm;have hxk:=hMk x hxm;rw[hzd]
      have hWk:(S++cB x (.slice a3 x.aw.length c3)::List.zipWith cB (M.drop (j+1)) (u.drop (j+1)))[j]?=some (.vech 3 1 (fZ x.aw) (.slice a3 x.aw.length c3)):=by
       grind[cB]
      have hWs:∀z,oset (S++cB x (.slice a3 x.aw.length c3)::List.zipWith cB (M.drop (j+1)) (u.drop (j+1))) j z=(S++[z])++List.zipWith cB (M.drop (j+1)) (u.drop (j+1)):=fun z=>by
       grind[oC]
      have hZk:∀q,kW q (List.zipWith cB (M.drop (j+1)) (u.drop (j+1)))=true:=fun q=>qA (jC (fun _ _=>rfl))
      have aby:(S++cB x (.slice a3 x.aw.length c3)::List.zipWith cB (M.drop (j+1)) (u.drop (j+1))).length=S.length+1+(List.zipWith cB (M.drop (j+1)) (u.drop (j+1))).length:=by grind
      generalize hZe:List.zipWith cB (M.drop (j+1)) (u.drop (j+1))=Z at *;generalize(S++cB x (.slice a3 x.aw.length c3)::Z)=W at *;have hjW:=(bY hWk).1;have hEN:aN (zE (b:Int) x)=[y4 x.ai,y4 x.at_,y4 x.n,.v (sv x.s),.sl 1 (fZ (x.aw.map (·+(b:Int))))]:=rfl;rw[hnn,hEN];generalize N0.map aN++((M.take j).map (zE (b:Int))).map aN=NR at *;generalize List.zipWith bV M u=RR at *;generalize hks:x.aw=N at *;refine I ?_;refine GL.q (YG.a8 7 rfl rfl rfl hjl) ?_;refine bb ?_;refine GL.q (YG.abf rfl rfl rfl Xo aR) ?_;refine bb ?_;refine zce ?_
      have hq:∀a b c d e f g h:Ob,(a::b::c::d::e::f::g::h::W).length=W.length+8:=fun a b c d e f g h=>rfl
      simp only[hq,cons_append];refine I ?_;refine GL.q (YG.vE rfl (Tw _ _ _ _ _ _ _ _ _ _) rfl) ?_;refine zad ?_
      have hW2:∀y:Ob,(oset W j y)[j]?=some y:=fun y=>by grind
      have hW3:∀y z:Ob,oset (oset W j y) j z=oset W j z:=fun y z=>by grind[bI,set_set]
      have hWl:∀y:Ob,(oset W j y).length=W.length:=fun y=>by grind
      have G:∀(a b c d e f g h x y:Ob),(a::b::c::d::e::f::g::h::(oset W j y++[x]))[W.length+8]?=some x:=fun a b c d e f g h x y=>by
       grind[Tw]
      have J:∀(a b c d e f g h x y:Ob),(a::b::c::d::e::f::g::h::(oset W j y++[x]))[j+8]?=some y:=fun a b c d e f g h x y=>XW a b c d e f g h x y (hW2 y)
      generalize hB9:Ob.box 28 [.vec 2 p.aq.length,.vec 3 p.aj.length,.vec 4 k,.vec 5 (b+j)]=B9;generalize hVF:Ob.vec 53 3 0 R=VF;generalize Ny:Ob.vec 82 5 0 NR=VN;generalize hBf:Ob.box 53 [.v (sv f.name),strs f.params,y4 fb]=Bf;generalize hBD:Ob.vech 82 5 RR (.slice a5 M.length c5)=BD
      refine GW.range N.length (fun m X Y=>X=U::.v (sv r)::.v (sv nw)::.box (aB p) 0::U::U::.loc 0 0::U::U::.loc 1 0::U::U::U::U::y4 (k:Nat)::.loc 6 0::U::y4 (b:Nat)::U::.loc (W.length+8) 0::zU 80 (.sl 3 (p.av.map aD)::y4 ((p.av.map aD).length:Int)::y4 (k:Nat)::zU 14 (.v (.slice a5 M.length c5)::y4 (M.length:Int)::y4 (j:Nat)::U::U::U::U::.v (.slice a3 N.length c3)::y4 (N.length:Int)::y4 (m:Nat)::zU 39 [])) /\
       Y=B6::B9::VG::VA::VF::VN::Bf::BD::(oset W j (.vech 3 1 (fZ (kM (b:Int) N m)) (.slice a3 N.length c3))++[.box 82 [y4 x.ai,y4 x.at_,y4 x.n,.v (sv x.s),.v (.slice a3 N.length c3)]])) ?_ V ?_ ?_ ?_
      ·exact⟨_,_,Wk.aZ az,rfl,by rw[UK,uL hWk]⟩
      ·rintro m _ _⟨rfl,rfl⟩;exact dO
      ·rintro m _ _ hm⟨rfl,rfl⟩;obtain⟨z,hz⟩:∃z,N[m]?=some z:=⟨N[m],by simp[hm]⟩;have hzb:=hxb z (bP hz);have S9:=ZH (b:=(b:Int)) hz;have vy:=UJ (b:=(b:Int)) hz;have zr:=XI (b:Int) N m;have hse:=FG (kM (b:Int) N m) m (z+(b:Int));rw[vy];generalize kM (b:Int) N m=L at *
       have Ft:(fZ L)[m]?=some [y4 z]:=by grind[fZ]
       have Dr:(fZ L).length=L.length:=by simp[fZ]
       have QS:m<(fZ L).length:=by omega
       rw[<-hse];generalize hLe:fZ L=LR at *;refine I ?_;refine aV (aL 0 11 (.a 11 .nil)) ?_;refine ax ?_;refine OQ rfl (YG.vE rfl (G _ _ _ _ _ _ _ _ _ _) rfl) ?_;refine jj ?_;refine ax ?_;refine OQ rfl (YG.vE rfl (G _ _ _ _ _ _ _ _ _ _) rfl) ?_;refine zev ?_;refine OQ rfl (YG.XP rfl (J _ _ _ _ _ _ _ _ _ _) rfl Ft rfl) ?_;refine zev ?_;refine OA rfl rfl ?_;refine GL.xr rfl (J _ _ _ _ _ _ _ _ _ _) rfl Ft rfl rfl rfl rfl ?_
       have Xf:m<(df LR m 0 (y4 (z+(b:Int)))).length:=by grind[dR]
       rw[JB _ _ _ _ _ _ _ _ _ _ zff,hW3];refine GL.nil (bh (dL.mk (by repeat (first|exact dj.n|(apply dj.w;(· decide +kernel))|(apply dj.y;(· first|(apply YQ.t;(· exact rfl);(· exact rfl);(· (first|exact YG.vE rfl (G _ _ _ _ _ _ _ _ _ _) rfl|exact YG.a8 (j+8) rfl rfl (J _ _ _ _ _ _ _ _ _ _) Xf|(first|exact fP|(apply K.idx;first|exact YG.idxV rfl rfl rfl aQ V|exact YG.a8 0 rfl rfl rfl aS|exact YG.a8 1 rfl rfl rfl aS|exact YG.a8 2 rfl rfl rfl aS|exact YG.a8 3 rfl rfl rfl aS|exact YG.a8 4 rfl rfl rfl aS|exact YG.a8 5 rfl rfl rfl aS|exact YG.a8 6 rfl rfl rfl aS)|exact fR|exact YG.fO 1 rfl rfl aQ aQ|exact YG.mv|exact YG.lp|(apply K.bin;first|exact YG.go rfl|exact YG.jK rfl rfl V|exact YG.iM rfl rfl|exact YG.iO rfl rfl|exact YG.mM rfl rfl|exact YG.mV rfl rfl|exact YG.cat rfl rfl V|exact YG.cat rfl rfl zfm|exact YG.jR rfl rfl V|exact YG.add rfl rfl V|exact YG.sub rfl rfl V|exact YG.mul rfl rfl V|exact YG.kQ rfl rfl V|exact YG.quo rfl rfl V|exact YG.rem rfl rfl V|exact YG.ib rfl rfl)|exact fF|exact fE|exact gH|exact eR|exact ff|(apply K.idx;first|exact YG.gR rfl rfl aX|exact YG.cx rfl rfl aX rfl|exact YG.cx rfl rfl aX V|exact YG.ju rfl rfl V)|exact YG.ext rfl rfl|exact YG.go rfl|(apply K.nS;first|exact YG.kP rfl rfl rfl V|exact YG.kO rfl rfl V|exact YG.kL rfl rfl V|exact YG.gb 1 rfl rfl rfl aQ)|exact YG.iQ rfl rfl aX|exact YG.idxSC rfl rfl aX rfl|exact fg|exact YG.build rfl|exact YG.neg rfl V|exact YG.iP rfl rfl|exact YG.lZ rfl zfj|exact YG.str rfl aQ))))|(apply YQ.t;(· exact rfl);(· apply pz;(· exact rfl);(· first|exact rfl|assumption));(· (first|exact YG.vE rfl (G _ _ _ _ _ _ _ _ _ _) rfl|exact YG.a8 (j+8) rfl rfl (J _ _ _ _ _ _ _ _ _ _) Xf|(first|exact fP|(apply K.idx;first|exact YG.idxV rfl rfl rfl aQ V|exact YG.a8 0 rfl rfl rfl aS|exact YG.a8 1 rfl rfl rfl aS|exact YG.a8 2 rfl rfl rfl aS|exact YG.a8 3 rfl rfl rfl aS|exact YG.a8 4 rfl rfl rfl aS|exact YG.a8 5 rfl rfl rfl aS|exact YG.a8 6 rfl rfl rfl aS)|exact fR|exact YG.fO 1 rfl rfl aQ aQ|exact YG.mv|exact YG.lp|(apply K.bin;first|exact YG.go rfl|exact YG.jK rfl rfl V|exact YG.iM rfl rfl|exact YG.iO rfl rfl|exact YG.mM rfl rfl|exact YG.mV rfl rfl|exact YG.cat rfl rfl V|exact YG.cat rfl rfl zfm|exact YG.jR rfl rfl V|exact YG.add rfl rfl V|exact YG.sub rfl rfl V|exact YG.mul rfl rfl V|exact YG.kQ rfl rfl V|exact YG.quo rfl rfl V|exact YG.rem rfl rfl V|exact YG.ib rfl rfl)|exact fF|exact fE|exact gH|exact eR|exact ff|(apply K.idx;first|exact YG.gR rfl rfl aX|exact YG.cx rfl rfl aX rfl|exact YG.cx rfl rfl aX V|exact YG.ju rfl rfl V)|exact YG.ext rfl rfl|exact YG.go rfl|(apply K.nS;first|exact YG.kP rfl rfl rfl V|exact YG.kO rfl rfl V|exact YG.kL rfl rfl V|exact YG.gb 1 rfl rfl rfl aQ)|exact YG.iQ rfl rfl aX|exact YG.idxSC rfl rfl aX rfl|exact fg|exact YG.build rfl|exact YG.neg rfl V|exact YG.iP rfl rfl|exact YG.lZ rfl zfj|exact YG.str rfl aQ))))|(apply YQ.f;(· exact rfl);(· apply qb;(· exact rfl);(· first|exact rfl|assumption))))))) ?_))
       refine jj ?_;refine bn ?_;exact zaT
      ·rintro _ _⟨rfl,rfl⟩;rw[XH];refine bh ?_;subst hB9 hVF Ny hBf hBD
       have Xq:∀(a b c d e f g h x y z:Ob),oset (a::b::c::d::e::f::g::h::(oset W j y++[x])) (W.length+8) z=a::b::c::d::e::f::g::h::(oset W j y++[z]):=fun a b c d e f g h x y z=>by
        grind[XX]
       refine GW.wk (Wk.o9 (i:=W.length+8) (o:=4) (j:=j+8) (G _ _ _ _ _ _ _ _ _ _) rfl ?_ (J _ _ _ _ _ _ _ _ _ _)) ?_
       ·grind[Nat.eq_of_beq_eq_true]
       rw[JB _ _ _ _ _ _ _ _ _ _ zff,hW3,Xq,hWs];simp only[bJ]
       have hSZ:∀(a b c d e f g h:Ob)(k:Ob),(a::b::c::d::e::f::g::h::((S++[k])++Z)).length=W.length+8:=fun a b c d e f g h k=>by grind
       have aaQ:∀(a b c d e f g h x y:Ob),(a::b::c::d::e::f::g::h::((S++[y])++Z++[x]))[W.length+8]?=some x:=fun a b c d e f g h x y=>by
        grind
       refine I ?_;refine GL.q (YG.Ab rfl (aaQ _ _ _ _ _ _ _ _ _ _) rfl rfl) ?_;refine bb ?_;refine zbD ?_;refine⟨rfl,rfl,_,_,(Wk.Wi (A:=_::_::_::_::_::_::_::_::((S++[Ob.vec 3 1 (fZ (N.map (·+(b:Int)))).length (fZ (N.map (·+(b:Int))))])++Z)) rfl (hSZ _ _ _ _ _ _ _ _ _) (bp _) ?_).trans (Wk.aZ az),S++[Ob.vec 3 1 (fZ (N.map (·+(b:Int)))).length (fZ (N.map (·+(b:Int))))],rfl,by grind,fun q=>by rw[rI,WZ];rfl,?_⟩
       ·simp only[kW,rI,E,F,O,WZ,hZk,Bool.and_true,Bool.true_and];rfl
       ·rfl
     ·rintro _ _⟨S,rfl,hSl,WZ,rfl⟩;rw[ln (aY _),List.drop_of_length_le (aY _)];refine bh ?_;refine GW.wk ((Wk.cut (n:=7) (bp _) (by simp only[take_succ_cons,take_zero,kW,E,F,O];rfl)).trans (Wk.aZ (dh:=U::.v (sv r)::.v (sv nw)::.box (aB p) 0::U::U::.loc 0 0::U::U::.loc 1 0::U::U::U::U::y4 (k:Nat)::.loc 6 0::U::y4 (b:Nat)::zU 82 (.sl 3 (p.av.map aD)::y4 ((p.av.map aD).length:Int)::y4 (k:Nat)::zU 63 [])) az)) ?_;simp only[take_succ_cons,take_zero];have Xj:=mu f.params
      have Tf:(f.params.map fun s=>[GV.v (sv s)]).length=f.params.length:=by simp
      have vz:=(c2 f (bP hf)).2.1;generalize Ny:Ob.vec 82 5 0 (N0.map aN++(M.map (zE (b:Int))).map aN)=VN
      have W1:∀q,Ob.ok q VN=true:=fun q=>by rw[<-Ny];rfl
      generalize bd r nw f.name=y at *;refine aV (aL 0 6 (.q 8 (.q 9 (.q 11 (.f 6 (.a 7 (.a 10 (.q 12 (.a 13 (.a 14 (.q 15 (.a 16 .nil))))))) 7 (.a 6 (.a 10 (.q 12 (.a 13 (.a 14 (.q 15 (.a 16 .nil)))))))))))) ?_;refine ax ?_;refine GO.fork ?_ ?_
      ·refine aP [] Q ?_;refine qC ?_;refine ax ?_;exact zaN
      ·refine qC ?_;refine ax ?_;refine aP [] Q ?_;exact zaN
    ·rintro _ _⟨rfl,rfl⟩;rw[zq];rw[ln (show l.length<=p.av.length by omega),ln (aY _),ln (show(Go.Im.cq r nw p.av l).length<=p.av.length by rw[tY];omega)];subst hVG;subst hVA;subst SY
     have e2:((p.aj.map fun a=>aW (nz a (bd r nw a.name)))).length=p.aj.length:=by simp
     have e1:(p.aq.map fun s=>[GV.v (sv (bd r nw s))]).length=p.aq.length:=by simp
     have e3:(p.av.map fun f=>aD (lG f (bd r nw f.name))).length=p.av.length:=by simp
     have e4:((bZ 0 (Go.Im.cq r nw p.av l)).map aN).length=aM l:=by rw[ct,kp,vR]
     have eS:aB (de r nw p l)=[.sl 1 (p.aq.map fun s=>[GV.v (sv (bd r nw s))]),.sl 2 (p.aj.map fun a=>aW (nz a (bd r nw a.name))),.sl 3 (p.av.map fun f=>aD (lG f (bd r nw f.name))),.sl 5 ((bZ 0 (Go.Im.cq r nw p.av l)).map aN)]:=by
      unfold aB de strs;simp
     rw[eS];generalize(p.aq.map fun s=>[GV.v (sv (bd r nw s))])=X1 at *;generalize(p.aj.map fun a=>aW (nz a (bd r nw a.name)))=X2 at *;generalize(p.av.map fun f=>aD (lG f (bd r nw f.name)))=X3 at *;generalize((bZ 0 (Go.Im.cq r nw p.av l)).map aN)=X4 at *;refine bh (GW.wk (Wk.pd (i:=1) (o:=0) rfl rfl rfl rfl e1) ?_);simp only[bJ,oset];refine(GW.wk (Wk.pd (i:=1) (o:=1) rfl rfl rfl rfl e2) ?_);simp only[bJ,oset];refine(GW.wk (Wk.pd (i:=1) (o:=2) rfl rfl rfl rfl e3) ?_);simp only[bJ,oset];refine(GW.wk (Wk.pd (i:=1) (o:=3) rfl rfl rfl rfl e4) ?_);simp only[bJ,oset];refine I ?_;exact zeK
theorem Mi(p:Src)(l:cU p<=1048576)(s nw:Go.Xp.ab)(M:nw.length<=1048576)(h:((eu p&&bm nw)&&!dx nw)=false) :
  GF prog 15 [.agg (aB p),.v (sv s),.v (sv nw)] [] (.tup [.agg (aB fH),y4 1]) []:=by
 have H:=I9 p l;have C:=eJ nw V;have i:=wU nw;generalize eu p=m at *;generalize bm nw=n at *;generalize dx nw=w at *
 cases m with
 |false =>
  refine dc func15 ntmps15 ?_;refine zab ?_;refine I ?_;refine D [] H ?_;exact zdi
 |true =>
  cases n with
  |false =>
   refine dc func15 ntmps15 ?_;refine zab ?_;refine I ?_;refine D [] H ?_;refine D [] C ?_;exact zdi
  |true =>
   cases w with
   |false=>cases h
   |true =>
    refine dc func15 ntmps15 ?_;refine zab ?_;refine I ?_;refine D [] H ?_;refine D [] C ?_;refine D [] i ?_;exact zdi
def Mj(p:Src)(m:cU p<=1048576)(s nw:Go.Xp.ab)(M:nw.length<=1048576) :
  GF prog 15 [.agg (aB p),.v (sv s),.v (sv nw)] [] (.tup [.agg (aB (renameI p s nw).1),.v (ii (renameI p s nw).2)]) []:=by
 have H:=I9 p m;have C:=eJ nw V;have i:=wU nw
 cases j:((eu p&&bm nw)&&!dx nw)with
 |false =>
  have e:renameI p s nw=(fH,1):=by grind[renameI,fH]
  grind[Mi]
 |true =>
  have O:=j;rw[aI,aI,Bool.not_eq_true']at O;have⟨⟨R,Q⟩,S⟩:=O;have⟨l,Z⟩:=rA R;rw[R]at H;rw[Q]at C;rw[S]at i
  refine(Mh p m Z s nw (fun h=>Z.words (p6.1 h)) H C i).mono fun g k h=>?_
  have⟨o,h⟩:=h;refine⟨?_,o⟩;unfold renameI;rw[j,ak rfl,Z.si]
  grind
open Go.Xp (Nd)
def Pf{s:List Nd}{ns:List Value}{a:Nat}{x:Nd}{h:Value}(nw:Go.Xp.ab)(o:s[a]?=some x)(b:ns[a]?=some h):df (List.zipWith bV s ns) a 3 (.v (sv nw))=List.zipWith bV (ye nw s a) ns:=by
 have w:(List.zipWith bV s ns)[a]?=some (bV x h):=by rw[getElem?_zipWith,o,b]
 have i:=(bY o).1;unfold ye;rw[o]
 refine ext_getElem? fun q=>?_
 rw[yW w,getElem?_zipWith,getElem?_zipWith,eY]
 by_cases J:q=a
 ·subst J;rw[ak rfl,ak rfl,ak i,b];rfl
 ·rw[ae J,ae (fun e=>J e.symm)]
def VO(p:Src)(fr nw:Go.Xp.ab)(g1 Q J G:Value)(ns:List Value)(a:Nat)(n:Nd)(l:List T)(ls:List Go.Xp.ab)(s:List Nd)(j:TypeId)(S:Option Addr)(c:Nat)(hn:p.ah[a]?=some n)(r:ls.length<=1099511627776)(Y:s.length=p.ah.length)(k:ns.length=p.ah.length) :
  GF prog 54 [y4 (a:Nat),.v (.slice S ls.length c),.box (aB p) 0,.box [.v (sv fr)] 0,.box [.v (sv nw)] 0,.loc 0 0] [.box j [.v g1,.v Q,.v J,.v G],.vech 82 5 (List.zipWith bV s ns) G,.vech 9 1 (bs ls) (.slice S ls.length c)] (.tup [])
   [.box j [.v g1,.v Q,.v J,.v G],.vech 82 5 (List.zipWith bV (jy fr nw s a (.mk n l) ls) ns) G,.vech 9 1 (bs ls) (.slice S ls.length c)]:=by
 have N:=cr hn;have z:=(bY hn).1;have q:=iL ls fr r
 have u:∀x:List Go.Xp.ab,strs x=.sl 1 (bs x):=fun _=>rfl
 rw[u]at q;obtain⟨x,hx⟩:∃x,s[a]?=some x:=⟨s[a]'V,cK _⟩;obtain⟨h,W⟩:∃h,ns[a]?=some h:=⟨ns[a]'V,cK _⟩
 have R:(List.zipWith bV s ns)[a]?=some (bV x h):=by rw[getElem?_zipWith,hx,W]
 have M:a<(List.zipWith bV s ns).length:=by rw[sY];omega
 have E:=Pf nw hx W;unfold bV at R
 have e:jy fr nw s a (.mk n l) ls=if jS fr n ls=true then ye nw s a else s:=rfl
 rw[e];unfold aN at N;have t:(n.ai != 13)=!(n.ai==13):=rfl
 cases o:(n.s==fr)with
 |false =>
  have m:jS fr n ls=false:=by unfold jS;rw[o];rfl
  exact zdS
 |true =>
  cases b:(n.ai != 13)with
  |false =>
   have m:jS fr n ls=false:=by unfold jS;rw[o,b];rfl
   exact zdS
  |true =>
   cases H:(n.ai==4)with
   |true =>
    have m:jS fr n ls=true:=by unfold jS;rw[o,b,H];rfl
    rw[m,ak rfl,<-E];refine dc func54 ntmps54 ?_;refine zaY ?_;refine zad ?_;refine pP ?_;exact dF
   |false =>
    cases F:ls.contains fr with
    |true =>
     rw[F]at q
     have m:jS fr n ls=false:=by unfold jS;rw[o,b,H,F];rfl
     rw[m,ae aR];refine dc func54 ntmps54 ?_;refine zaY ?_;refine zad ?_;refine GL.borrow q (fun B K X w l i O=>fm (A:=[_,_]) (C:=[]) i O rfl rfl) ?_;refine bb ?_;exact dF
    |false =>
     rw[F]at q
     have m:jS fr n ls=true:=by unfold jS;rw[o,b,H,F];rfl
     rw[m,ak rfl,<-E];refine dc func54 ntmps54 ?_;refine zaY ?_;refine zad ?_;refine GL.borrow q (fun B K X w l i O=>fm (A:=[_,_]) (C:=[]) i O rfl rfl) ?_;refine zad ?_;refine pP ?_;exact dF
open Go.Xp (dw)
def Km(p:Src)(s nw:Go.Xp.ab)(g1 O F G:Value)(ns:List Value):GV:=.fn (.func 54) [] [.box (aB p) 0,.box [.v (sv s)] 0,.box [.v (sv nw)] 0,.loc 0 0]
def TQ(p:Src):GV:=.fn (.func 115) [] [.loc 2 0,.loc 3 0,.box (aB p) 0,.loc 4 0]
def DL(p:Src)(t nw:Go.Xp.ab)(g1 O F G:Value)(ns:List Value)(j k X z:TypeId)(s:List Nd)(ls:List ab)(S:Option Addr)(c:Nat):ap :=
 [.box j [.v g1,.v O,.v F,.v G],.vech 82 5 (List.zipWith bV (s) ns) G,.box k [Km p t nw g1 O F G ns],.box X [.v (.slice S ls.length c)],.box z [TQ p],.vech 9 1 (bs ls) (.slice S ls.length c)]
def Si(p:Src)(b nw:Go.Xp.ab)(g1 C E F:Value)(ns:List Value)(B H J M:TypeId)(hp:p.ah.length<=1048576)(R:∀n∈p.ah,n.aw.length<=1099511627776)(X:ns.length=p.ah.length):∀(N:Nat)(t:T),aU t<=N->∀(a:Nat)(s:List Nd)(ls:List ab)(o:Option Addr)(q:Nat),dM p.ah a t->ls.length+aU t<=8388608->s.length=p.ah.length ->
  GC prog 115 [y4 (a:Nat),.loc 2 0,.loc 3 0,.box (aB p) 0,.loc 4 0] (DL p b nw g1 C E F ns B H J M s ls o q) fun g Δ=>g=.tup []/\∃c d,Δ=DL p b nw g1 C E F ns B H J M (eo (jy b nw) t a s ls).1 (eo (jy b nw) t a s ls).2 c d:=by
 intro N
 induction N with
 |zero=>intro t h;exact zd6
 |succ N ih =>
 intro t hN a s ls o q r S hs
 cases t with
 |mk n l =>
 rw[Go.Xp.aU]at hN S;have Fw:=r;rw[dM]at r;have⟨W,hk,Y⟩:=r;rw[eo];have hr:=cr W;have Ta:=R n (bP W);have ht:=VO p b nw g1 C E F ns a n l ls s B o q W V hs X;have Tc:=DU b nw s a (.mk n l) ls;generalize Fu:(jy b nw) s a (.mk n l) ls=m at *
 have e:n.aw.length=l.length:=by rw[hk,dw]
 unfold aN at hr;unfold DL Km TQ;refine au func115 ntmps115 ?_;refine GL.oV [0,1,5] ht rfl rfl rfl (by repeat (first|exact trivial|refine⟨rfl,?_⟩)) ?_;rintro _ _⟨rfl,rfl⟩;refine zas ?_;refine GW.range (n.aw.map fun i=>[GV.v (ii i)]).length (fun k fr Γ=>∃c d,fr=[y4 (a:Nat),.loc 2 0,.loc 3 0,.box (aB p) 0,.loc 4 0,U,U,U,U,U,U,U,U,U,U,U,U,ints n.aw,y4 ((n.aw.map fun i=>[GV.v (ii i)]).length:Int),y4 (k:Nat),U,U,U,U,U,U,U,U,U,U,U,U,U,U,U,U,U,U,U,U,U,U,U]/\Γ=DL p b nw g1 C E F ns B H J M (c6 (jy b nw) (l.take k) (a+1) m ls).1 (c6 (jy b nw) (l.take k) (a+1) m ls).2 c d) ?_ zff ?_ ?_ ?_
 ·exact⟨_,_,Wk.aZ az,o,q,rfl,rfl⟩
 ·rintro k _ _⟨o,q,rfl,rfl⟩;exact dO
 ·rintro k _ _ A⟨o,q,rfl,rfl⟩;rw[ct,e]at A;obtain⟨u,G⟩:∃u,l[k]?=some u:=⟨l[k],by simp[A]⟩;have w:=qw (n:=a+1) G;rw[<-hk]at w;have Th:=ic w;have sM:=mz G;have Z:dM p.ah (a+1+aM (l.take k)) u:=dn.ix l (a+1) k u Y G
  have z:(c6 (jy b nw) (l.take k) (a+1) m ls).2.length<=ls.length+aM (l.take k):=by
   exact zeU
  have hm1:=Cf b nw (l.take k) (a+1) m ls;rw[wC _ G];generalize(c6 (jy b nw) (l.take k) (a+1) m ls).1=s2 at *;generalize(c6 (jy b nw) (l.take k) (a+1) m ls).2=j at *;have hv:=ih u V (a+1+aM (l.take k)) s2 j o q Z V V;unfold DL Km TQ at hv |-;refine I ?_;refine GL.oV [0,1,2,3,4,5] hv rfl rfl rfl (by repeat (first|exact trivial|refine⟨rfl,?_⟩)) ?_;rintro _ _⟨rfl,c,d,rfl⟩;refine zas ?_;exact⟨rfl,rfl,_,_,Wk.aZ az,c,d,rfl,rfl⟩
 ·rintro _ _⟨o,q,rfl,rfl⟩;rw[ct,e,dD]
  have z:(c6 (jy b nw) l (a+1) m ls).2.length<=ls.length+aM l:=by
   exact zeU
  generalize(c6 (jy b nw) l (a+1) m ls).1=s2 at *;generalize(c6 (jy b nw) l (a+1) m ls).2=j at *;have AV:(bs j).length=j.length:=pg j;unfold DL Km TQ;refine bh ?_
  cases hv:(n.ai==13)with
  |false =>
   exact zel
  |true =>
   rw[ak zff];refine zbs ?_;refine OA rfl rfl (GL.ml 5 (news:=[[.v (sv n.s)]]) rfl rfl rfl aQ rfl rfl (by refine⟨?_,?_⟩;(· show _+1<=_;omega);(· show(_+1)*_<=_;omega)) ?_);intro O Q;refine zaO ?_;exact⟨rfl,O,Q,by simp[bs]⟩
def Us(p:Src)(u nw:Go.Xp.ab)(g1 O F G:Value)(ns:List Value)(j:TypeId)(i:Nat)(f:Go.Sp.Fn)(t:T)(s:List Nd)(X:p.ah.length<=1048576)(e:∀n∈p.ah,n.aw.length<=1099511627776)(k:ns.length=p.ah.length)
  (hf:p.av[i]?=some f)(W:f.params.length<=1048576)(o:0<=f.body)(r:dM p.ah f.body.toNat t)(A:aU t<=1048576)(J:s.length=p.ah.length) :
  GF prog 53 [.agg (aB p),y4 (i:Nat),Km p u nw g1 O F G ns] [.box j [.v g1,.v O,.v F,.v G],.vech 82 5 (List.zipWith bV (s) ns) G] (.tup []) [.box j [.v g1,.v O,.v F,.v G],.vech 82 5 (List.zipWith bV ((eo (jy u nw) t f.body.toNat s f.params).1) ns) G]:=by
 have w:(p.av.map aD)[i]?=some (aD f):=by grind
 have d:(f.params.map fun s=>[GV.v (sv s)]).length=f.params.length:=by simp
 have H:=mu f.params;obtain⟨b,m⟩:∃b:Nat,f.body=(b:Int):=⟨f.body.toNat,by omega⟩;rw[m,ik]at r |-;unfold aD at w;rw[m]at w;unfold Km;refine dc func53 ntmps53 ?_;refine zal ?_;refine GL.oQ 4 rfl rfl rfl rfl H V ?_;intro S c;rw[d];refine zdX ?_;refine GW.Df (dh:=U::y4 (i:Nat)::U::.box (aB p) 0::U::.loc 3 0::.loc 5 0::.loc 6 0::zU 16 []) (bM:=[.box j [.v g1,.v O,.v F,.v G],.vech 82 5 (List.zipWith bV (s) ns) G,.gone,.box _ [.fn (.func 54) [] [.box (aB p) 0,.box [.v (sv u)] 0,.box [.v (sv nw)] 0,.loc 0 0]],.vech 9 1 (bs f.params) (.slice S f.params.length c),.box _ [.v (.slice S f.params.length c)],.box _ [.fn (.func 115) [] [.loc 3 0,.loc 5 0,.box (aB p) 0,.loc 6 0]]]) az rfl ?_;refine zeq ?_;have l:=Si p u nw g1 O F G ns j;refine OA rfl rfl (GL.oV [0,1,3,5,6,4] (l _ _ _ X e k _ t (aY _) b s f.params S c r V J) rfl rfl rfl (by repeat (first|exact trivial|refine⟨rfl,?_⟩)) ?_);rintro _ _⟨rfl,z,Y,rfl⟩;refine⟨by simp[DL],?_⟩;unfold DL;refine zaO ?_;simp
def wm(q:Src)(c:Int)(g:GV)(k:ap):Prop:=∃X w l d z o,Qi q X w l d z o/\g=.tup [.agg [.v X,.v w,.v l,.v d],y4 c]/\k=qV q X w l d z o
def VB(c:Int):wm fH c (.tup [.agg [.v y6,.v y6,.v y6,.v y6],y4 c]) [.vech 9 1 [] y6,.vech 79 2 [] y6,.vech 53 3 [] y6,.vech 82 5 [] y6] :=
 ⟨_,_,_,_,[],[],⟨⟨none,0,rfl⟩,⟨none,0,rfl⟩,⟨none,0,rfl⟩,⟨none,0,rfl⟩,rfl,rfl,(fun i x y h=>by simp[fH]at h),fun i x y h=>by simp[fH]at h⟩,rfl,rfl⟩
def Rv:∀x∈[Ob.vech 9 1 [] y6,.vech 79 2 [] y6,.vech 53 3 [] y6,.vech 82 5 [] y6],x.mP=true:=fun x hx=>by
 simp only[List.mem_cons,List.not_mem_nil,or_false]at hx
 rcases hx with rfl|rfl|rfl|rfl<;>rfl
theorem GW.fH{P:Program}{fn:Func}{Q:dN}{t u:Tmp}{T:TypeId}[n:Ty P T true 4]{i:Nat}{E:TypeId}{c:Int}{fr:am}{Γ:ap}(w:fn.results=#[.cell t T,.tmp u])(hg:bD fr t=.loc i 0)(hi:i<Γ.length)(o:Γ[i]?=some (.box E [.v y6,.v y6,.v y6,.v y6]))(z:bD fr u=y4 c)
  (J:∀fr Γ,qv P fn 0 (wm Go.Im.fH c) .ret fr Γ->Q .ret fr Γ):GW P 0 .ret Q fr Γ:=by
 refine GW.wk (Wk.gz 9 1) ?_;refine GW.wk (Wk.gz 79 2) ?_;refine GW.wk (Wk.gz 53 3) ?_;refine GW.wk (Wk.gz 82 5) ?_;simp only[dP,cons_append,nil_append];refine GW.ret ?_;refine J _ _ ?_;exact Nt [] Γ _ w (.inr rfl) hg (by rw[j1 hi];exact o) rfl rfl z rfl (fun x h=>by cases h) Rv (VB c)
theorem Qg(p:Src)(l:cU p<=1048576)(hn:kF p)(s nw:Go.Xp.ab)(M:nw.length<=1048576)(h:((eu p&&bm nw)&&!dx nw)=false) :
  GC prog 14 [.agg (aB p),.v (sv s),.v (sv nw)] [] (wm fH 1):=by
 have H:=yM p l hn;have C:=EK nw V;have i:=xQ nw;generalize eu p=m at *;generalize bm nw=n at *;generalize dx nw=w at *
 cases m with
 |false =>
  refine dc func14 ntmps14 ?_;refine zbh ?_;refine D [] H ?_;exact zao
 |true =>
  cases n with
  |false =>
   refine dc func14 ntmps14 ?_;refine zbh ?_;refine D [] H ?_;refine D [] C ?_;exact zao
  |true =>
   cases w with
   |false=>cases h
   |true =>
    refine dc func14 ntmps14 ?_;refine zbh ?_;refine D [] H ?_;refine D [] C ?_;refine D [] i ?_;exact zao
end Go.Xg
namespace Go.Im
open Go.Xp Go.Sp
def gK(fr nw:ab)(l:List ab)(k:Nat):List ab:=(l.take k).map (bd fr nw)++l.drop k
def WM(fr nw:ab)(l:List ab)(k:Nat):(gK fr nw l k).length=l.length:=by grind[gK]
section
variable{fr nw:ab}{l:List ab}{k:Nat}{x:ab}
theorem Zr(h:l[k]?=some x):(gK fr nw l k)[k]?=some x:=by
 grind[gK]
theorem UD(h:l[k]?=some x):gK fr nw l (k+1)=(gK fr nw l k).set k (bd fr nw x):=by
 have i:=(bY h).1
 have X:l[k]=x:=by grind
 unfold gK;exact zcs
end
def RQ{R:Type}{l:List R}{k:Nat}{x:R}(h:l[k]?=some x):l.set k x=l:=by
 refine ext_getElem? fun j=>?_
 grind
end Go.Im
namespace Go.Xg
open Go.RowKit Go.Xw Go.Proofs Tryz Go.Im
open GV (U)
open Go.Xp (Nd T Ar aM bZ kp)
open Go.Sp (Src bm)
attribute [local irreducible] GW GL GO YG GC GA bo bq
def G5:∀(l:List Go.Xp.ab)(k:Nat)(x:Go.Xp.ab),df (bs l) k 0 (.v (sv x))=bs (l.set k x)
 |[],k,x=>rfl
 |y::l,0,x=>rfl
 |y::l,k+1,x=>by
  have:=G5 l k x;unfold bs at this |-
  grind[df]
def Dd:∀(l:List Ar)(k:Nat)(a:Ar)(x:Go.Xp.ab),l[k]?=some a->df (l.map aW) k 0 (.v (sv x))=(l.set k (nz a x)).map aW
 |[],k,a,x,h=>by simp at h
 |y::l,0,a,x,h=>by cases h;rfl
 |y::l,k+1,a,x,h=>by
  have:=Dd l k a x zff
  grind[df,aW,sv,nz]
def D0:∀(l:List Go.Sp.Fn)(w:List Value)(k:Nat)(a:Go.Sp.Fn)(x:Go.Xp.ab),l[k]?=some a->df (List.zipWith kD l w) k 0 (.v (sv x))=List.zipWith kD (l.set k (lG a x)) w
 |[],w,k,a,x,h=>by simp at h
 |y::l,[],k,a,x,h=>by cases k<;>simp[df]
 |y::l,f::w,0,a,x,h=>by cases h;rfl
 |y::l,f::w,k+1,a,x,h=>by
  have:=D0 l w k a x zff;rw[zipWith_cons_cons,df,this];rfl
theorem L6{l m:List Go.Sp.Fn}{v:List Value}(h:l.map (fun f=>f.params)=m.map (fun f=>f.params)):List.zipWith nK l v=List.zipWith nK m v:=by
 have R:∀l:List Go.Sp.Fn,List.zipWith nK l v=List.zipWith (fun e h=>Ob.vech 9 1 (bs e) h) (l.map fun f=>f.params) v:=fun l=>by rw[List.zipWith_map_left];rfl
 grind
theorem Sr{l m:List Nd}{v:List Value}(h:l.map (fun f=>f.aw)=m.map (fun f=>f.aw)):List.zipWith cB l v=List.zipWith cB m v:=by
 have R:∀l:List Nd,List.zipWith cB l v=List.zipWith (fun e h=>Ob.vech 3 1 (fZ e) h) (l.map fun f=>f.aw) v:=fun l=>by rw[List.zipWith_map_left];rfl
 grind
def Qf(p:Src)(hw:cU p<=1048576){l:List T}(s:Go.Im.Good p l)(j nw:Go.Xp.ab)(NK:j.length<=1048576)(hl:nw.length<=1048576)
  (hG:GF prog 44 [.agg (aB p)] [] (.v (.bool true)) [])(hN:GF prog 45 [.v (sv nw)] [] (.v (.bool true)) [])(hR:GF prog 46 [.v (sv nw)] [] (.v (.bool false)) []) :
  GC prog 14 [.agg (aB p),.v (sv j),.v (sv nw)] [] fun g Δ =>
   if((!(bA p).contains j) ||j==wX)=true then wm fH 2 g Δ else if(bA p).contains nw=true then wm fH 3 g Δ else if mU (mT p l) nw=true then wm fH 4 g Δ else wm (de j nw p l) 0 g Δ:=by
 have⟨⟨a1,a2⟩,⟨b1,b2⟩,⟨c1,c2⟩,⟨d1,d2⟩⟩:=gn p;have hA:=wo p hw;have Jh:=sU p;have SZ:=iL (bA p) j V;have S0:=iL (bA p) nw V;have hLc:=N8 p hw s nw;have hCp:=E2 p hw;have hAr:=sf p j V;have hFn:=AN p j V
 have e3:∀x:List Go.Xp.ab,strs x=.sl 1 (bs x):=fun _=>rfl
 rw[e3]at SZ S0;generalize Ji:bA p=NM at *;generalize mU (mT p l) nw=b4 at *;have AW:(j==wX)=(j==[109,97,105,110]):=rfl;rw[AW];refine dc func14 ntmps14 ?_;refine zbh ?_;refine D [] hG ?_;refine D [] hN ?_;refine D [] hR ?_;refine b6 [] hA ?_;rintro _ _⟨an,cn,rfl,rfl⟩;refine zas ?_;refine GL.borrow SZ (fun B K β w l hI hF=>fm (A:=[_]) (C:=[]) hI hF rfl rfl) ?_;refine bb ?_
 cases h1:NM.contains j with
 |false =>
  simp only[Bool.not_false,Bool.true_or,if_true];refine I ?_;exact zao
 |true =>
 cases h2:(j==[109,97,105,110])with
 |true =>
  simp only[Bool.not_true,Bool.false_or,if_true];refine I ?_;exact zao
 |false =>
 simp only[Bool.not_true,Bool.or_self,Bool.false_eq_true,if_false];refine I ?_;refine GL.borrow S0 (fun B K β w l hI hF=>fm (A:=[_]) (C:=[]) hI hF rfl rfl) ?_;refine bb ?_
 cases h3:NM.contains nw with
 |true =>
  simp only[if_true];refine I ?_;exact zao
 |false =>
 refine zbw ?_;refine I ?_;refine ig [] hLc ?_
 cases b4 with
 |true =>
  simp only[if_true];refine I ?_;exact zao
 |false =>
 refine zbw ?_;refine I ?_;refine b6 [] hCp ?_;rintro _ _⟨hg,ha,hf,hn,u,ns,H,rfl,rfl⟩;rw[JC (R3 p hg ha hf hn u ns)];refine ch ?_;have⟨hHg,hHa,hHf,hHn,hfl,abX,hfh,hnh⟩:=id H;obtain⟨g0,g1,rfl⟩:=hHg;obtain⟨m,o,rfl⟩:=hHa;obtain⟨Q,cL,rfl⟩:=hHf;obtain⟨M,N,rfl⟩:=hHn;unfold qV;refine zce ?_
 have hNR:(List.zipWith bV p.ah ns).length=p.ah.length:=by grind
 have hAm:(p.aj.map aW).length=p.aj.length:=by simp
 have hFm:(List.zipWith kD p.av u).length=p.av.length:=by grind
 have zq:(p.av.map aD).length=p.av.length:=by simp
 generalize WV:List.zipWith nK p.av u=E;generalize hNO:List.zipWith cB p.ah ns=O;generalize hW:E++Ob.vech 82 5 (List.zipWith bV p.ah ns) (.slice M p.ah.length N)::O=W
 have hq:∀(a b c d e:Ob),(a::b::c::d::e::W).length=W.length+5:=fun a b c d e=>by simp
 simp only[hq,cons_append,dP,nil_append];generalize hBX:Ob.box 28 [.v (.slice g0 p.aq.length g1),.v (.slice m p.aj.length o),.v (.slice Q p.av.length cL),.v (.slice M p.ah.length N)]=BX
 have X:∀(a b c d e:Ob),(a::b::c::d::e::(W++[BX]))[W.length+5]?=some (.box 28 [.v (.slice g0 p.aq.length g1),.v (.slice m p.aj.length o),.v (.slice Q p.av.length cL),.v (.slice M p.ah.length N)]):=fun a b c d e=>by grind
 refine zbW ?_
 refine GW.range p.aq.length (fun k fr Γ=>fr=U::U::U::.box (aB p) 0::.box [.v (sv j)] 0::.box [.v (sv nw)] 0::.loc 0 0::U::U::.loc (W.length+5) 0::zU 43 (.v (.slice g0 p.aq.length g1)::y4 (p.aq.length:Int)::y4 (k:Nat)::zU 47 []) /\
  Γ=.box 28 [.v y6,.v y6,.v y6,.v y6]::.vech 9 1 (bs NM) (.slice an NM.length cn)::.vech 9 1 (bs (gK j nw p.aq k)) (.slice g0 p.aq.length g1)::.vech 79 2 (p.aj.map aW) (.slice m p.aj.length o)::.vech 53 3 (List.zipWith kD p.av u) (.slice Q p.av.length cL)::(W++[BX])) ?_ V ?_ ?_ ?_
 ·exact⟨_,_,Wk.aZ az,rfl,by simp[gK]⟩
 ·rintro k _ _⟨rfl,rfl⟩;exact dO
 ·rintro k _ _ hk⟨rfl,rfl⟩;obtain⟨x,hx⟩:∃x,p.aq[k]?=some x:=⟨p.aq[k],by simp[hk]⟩;have hgx:=Zr (fr:=j) (nw:=nw) hx;have hgn:=UD (fr:=j) (nw:=nw) hx;have abJ:=WM j nw p.aq k;rw[hgn];generalize gK j nw p.aq k=L at *
  have hr:(bs L)[k]?=some [.v (sv x)]:=by grind
  have xo:(bs L).length=L.length:=oH L
  have Xd:k<(bs L).length:=by omega
  have r:=G5 L k nw;generalize hSe:bs L=S at *
  cases hxe:(x==j)with
  |true =>
   have e1:bd j nw x=nw:=by grind[bd]
   rw[e1,<-r];refine zbW ?_;refine pP ?_;exact ze4
  |false =>
   have e1:bd j nw x=x:=by grind[bd]
   rw[e1,RQ hgx];refine I ?_;exact⟨rfl,rfl,_,_,Wk.aZ az,rfl,by rw[hSe]⟩
 ·rintro _ _⟨rfl,rfl⟩
  have hgf:gK j nw p.aq p.aq.length=p.aq.map (bd j nw):=by simp[gK]
  rw[hgf];refine bh ?_;generalize SY:Ob.box 28 [.v y6,.v y6,.v y6,.v y6]=B6;generalize abE:Ob.vech 9 1 (bs NM) (.slice an NM.length cn)=F;generalize hG1:Ob.vech 9 1 (bs (p.aq.map (bd j nw))) (.slice g0 p.aq.length g1)=G1;have G:=GJ (fun a:Ar=>a.name) nz (fun a=>rfl) j nw (xs:=p.aj) s.arU;have J:=GJ (fun f:Go.Sp.Fn=>f.name) lG (fun a=>rfl) j nw (xs:=p.av) s.fnU
  have hqA:(de j nw p l).aj=p.aj.map fun a=>nz a (bd j nw a.name):=rfl
  generalize p.aj.map (fun a=>nz a (bd j nw a.name))=qa at *
  have hqF:(de j nw p l).av=p.av.map fun f=>lG f (bd j nw f.name):=rfl
  generalize p.av.map (fun f=>lG f (bd j nw f.name))=qf at *;unfold bN at hAr hFn
  have ab8:qa.length=p.aj.length:=by
   grind
  have ab9:qf.length=p.av.length:=by
   grind
  refine I ?_;refine ig [] hAr ?_;simp only[eT];refine I ?_;refine GW.join (fun fr Γ=>fr=U::U::U::.box (aB p) 0::.box [.v (sv j)] 0::.box [.v (sv nw)] 0::.loc 0 0::U::U::.loc (W.length+5) 0::zU 93 []/\Γ=B6::F::G1::.vech 79 2 (qa.map aW) (.slice m p.aj.length o)::.vech 53 3 (List.zipWith kD p.av u) (.slice Q p.av.length cL)::(W++[BX])) ?_ ?_
  ·cases hz:p.aj.findIdx? (fun a=>a.name==j)with
   |none =>
    rw[hz]at G;simp only at G;subst G;simp only;exact fq
   |some k =>
    obtain⟨hk,-,-⟩:=List.findIdx?_eq_some_iff_getElem.1 hz;have R:p.aj[k]?=some p.aj[k]:=cK hk;rw[hz]at G;simp only[R]at G;have r:=Dd p.aj k _ nw R;rw[G]at r
    have hr:(p.aj.map aW)[k]?=some (aW p.aj[k]):=by grind
    have Xd:k<(p.aj.map aW).length:=by omega
    have hd:decide ((0:Int)<=((k:Nat):Int))=true:=by simp
    rw[<-r];generalize p.aj.map aW=S at *;unfold aW at hr;simp only;refine zbW ?_;refine pP ?_;exact fq
  rintro _ _⟨rfl,rfl⟩;refine I ?_;refine ig [] hFn ?_;simp only[eT];refine I ?_;refine GW.join (fun fr Γ=>fr=U::U::U::.box (aB p) 0::.box [.v (sv j)] 0::.box [.v (sv nw)] 0::.loc 0 0::U::U::.loc (W.length+5) 0::zU 93 []/\Γ=B6::F::G1::.vech 79 2 (qa.map aW) (.slice m p.aj.length o)::.vech 53 3 (List.zipWith kD qf u) (.slice Q p.av.length cL)::(W++[BX])) ?_ ?_
  ·cases hz:p.av.findIdx? (fun a=>a.name==j)with
   |none =>
    rw[hz]at J;simp only at J;subst J;simp only;exact fq
   |some k =>
    obtain⟨hk,-,-⟩:=List.findIdx?_eq_some_iff_getElem.1 hz;have R:p.av[k]?=some p.av[k]:=cK hk;obtain⟨y,Y⟩:∃y,u[k]?=some y:=⟨u[k]'V,cK _⟩;rw[hz]at J;simp only[R]at J;have r:=D0 p.av u k _ nw R;rw[J]at r
    have hr:(List.zipWith kD p.av u)[k]?=some (kD p.av[k] y):=by grind
    have Xd:k<(List.zipWith kD p.av u).length:=by omega
    have hd:decide ((0:Int)<=((k:Nat):Int))=true:=by simp
    rw[<-r];generalize List.zipWith kD p.av u=S at *;unfold kD at hr;simp only;refine zbW ?_;refine pP ?_;exact fq
  rintro _ _⟨rfl,rfl⟩;generalize hA1:Ob.vech 79 2 (qa.map aW) (.slice m p.aj.length o)=A1;generalize hF1:Ob.vech 53 3 (List.zipWith kD qf u) (.slice Q p.av.length cL)=F1
  have hqq:W.length+5=E.length+O.length+6:=by grind
  subst hW;simp only[dP,cons_append];clear X;generalize(E++Ob.vech 82 5 (List.zipWith bV p.ah ns) (.slice M p.ah.length N)::O).length+5=q at *;subst hBX
  have Fw:bZ 0 (Go.Im.cq j nw (p.av.take 0) l)=p.ah:=by grind[Gp,yI]
  have aa7:∀k,(bZ 0 (Go.Im.cq j nw (p.av.take k) l)).length=p.ah.length:=fun k=>by grind[kp,vR]
  have hlen:=s.len;have aaT:=s.st.few
  have hbq:∀(a b c d e x y:Ob),(a::b::c::d::e::(E++x::(O++[y])))[q]?=some y:=fun a b c d e x y=>by
   have:=Ms (a::b::c::d::e::(E++x::O)) [] y
   simp_all
  have hsq:∀(a b c d e x y z:Ob),fB (a::b::c::d::e::(E++x::(O++[y]))) [q,E.length+5] [y,z]=a::b::c::d::e::(E++z::(O++[y])):=fun a b c d e x y z=>by
   grind[uL,eT,o5f,fB]
  rw[<-Fw];refine I ?_
  refine GW.range (p.av.map aD).length (fun k fr Γ=>fr=U::U::U::.box (aB p) 0::.box [.v (sv j)] 0::.box [.v (sv nw)] 0::.loc 0 0::U::U::.loc q 0::zU 82 [.sl 3 (p.av.map aD),y4 ((p.av.map aD).length:Int),y4 (k:Nat),U,U,U,U,U,U,U,U] /\
   Γ=B6::F::G1::A1::F1::(E++.vech 82 5 (List.zipWith bV (bZ 0 (Go.Im.cq j nw (p.av.take k) l)) ns) (.slice M p.ah.length N)::(O++[.box 28 [.v (.slice g0 p.aq.length g1),.v (.slice m p.aj.length o),.v (.slice Q p.av.length cL),.v (.slice M p.ah.length N)]]))) ?_ V ?_ ?_ ?_
  ·exact⟨_,_,Wk.aZ az,rfl,by grind⟩
  ·rintro k _ _⟨rfl,rfl⟩;exact dO
  ·rintro k _ _ hk⟨rfl,rfl⟩;rw[zq]at hk;obtain⟨f,Y⟩:∃f,p.av[k]?=some f:=⟨p.av[k],by simp[hk]⟩;obtain⟨t,Fx⟩:∃t,l[k]?=some t:=⟨l[k]'V,cK _⟩;have Z:=s.fn Y Fx;have W3:=(en.at_ s.st.av k f t Y Fx).1;have hE:=Us p j nw (.slice g0 p.aq.length g1) (.slice m p.aj.length o) (.slice Q p.av.length cL) (.slice M p.ah.length N) ns 28 k f t (bZ 0 (Go.Im.cq j nw (p.av.take k) l)) V (fun n hn=>by grind) V Y zff Z.body Z.st (by have:=Z.sz;omega) (aa7 k);rw[show f.body.toNat=aM (l.take k) by omega,LJ j nw Y Fx]at hE;generalize bZ 0 (Go.Im.cq j nw (p.av.take k) l)=S1 at *;generalize bZ 0 (Go.Im.cq j nw (p.av.take (k+1)) l)=S2 at *;refine I ?_;refine GL.SA [q,E.length+5] hE (n9) (by simp[jZ];omega) ⟨hbq _ _ _ _ _ _ _,o5e _ _ _ _ _ _ _ _,trivial⟩ rfl ?_;refine oc nL (hsq _ _ _ _ _ _ _ _) ?_;exact ze4
  ·rintro _ _⟨rfl,rfl⟩;rw[zq,dD];refine bh ?_;subst SY;refine I ?_;refine GL.q (YG.Ab rfl (hbq _ _ _ _ _ _ _) rfl rfl) ?_;refine zad ?_;have hqk:=Gr j nw s;have hqn:(de j nw p l).ah=bZ 0 (Go.Im.cq j nw p.av l):=rfl;have hqg:(de j nw p l).aq=p.aq.map (bd j nw):=rfl
   have hfp:qf.map (fun f=>f.params)=p.av.map (fun f=>f.params):=by
    rw[<-hqF];show(p.av.map _).map _=_;rw[List.map_map];rfl
   refine GW.wk ((Wk.yB (A:=.box 28 [.v (.slice g0 p.aq.length g1),.v (.slice m p.aj.length o),.v (.slice Q p.av.length cL),.v (.slice M p.ah.length N)]::F::G1::A1::F1::(E++.vech 82 5 (List.zipWith bV (bZ 0 (Go.Im.cq j nw p.av l)) ns) (.slice M p.ah.length N)::O)) (by simp only[cons_append,dP];rfl) (bp _) (fun q=>by
    have e1:Ob.ok q F=true:=by grind[Ob.ok]
    have e2:Ob.ok q G1=true:=by rw[<-hG1];rfl
    have e4:Ob.ok q A1=true:=by rw[<-hA1];rfl
    have e5:Ob.ok q F1=true:=by rw[<-hF1];rfl
    have e6:kW q E=true:=by rw[<-WV];exact qA (jC (fun _ _=>rfl))
    have e7:kW q O=true:=by rw[<-hNO];exact qA (jC (fun _ _=>rfl))
    simp only[kW,rI,e1,e2,e4,e5,e6,e7];rfl)).trans (Wk.aZ (dh:=U::U::U::U::U::U::.loc 0 0::y4 0::zU 95 []) az)) ?_
   refine nq ?_;refine Nt [] [_,F] (G1::A1::F1::(E++.vech 82 5 (List.zipWith bV (bZ 0 (Go.Im.cq j nw p.av l)) ns) (.slice M p.ah.length N)::O)) rfl zfg rfl rfl rfl rfl rfl rfl (fun x h=>by cases h) ?_ ?_
   ·intro x hx
    rcases iY hx with rfl|hx
    ·rw[<-hG1];rfl
    rcases iY hx with rfl|hx
    ·rw[<-hA1];rfl
    rcases iY hx with rfl|hx
    ·rw[<-hF1];rfl
    rcases oO hx with hx|hx
    ·rw[<-WV]at hx;exact zcN
    rcases iY hx with rfl|hx
    ·rfl
    ·rw[<-hNO]at hx;exact zcN
   ·refine⟨.slice g0 p.aq.length g1,.slice m p.aj.length o,.slice Q p.av.length cL,.slice M p.ah.length N,u,ns,⟨⟨g0,g1,by grind⟩,⟨m,o,by grind⟩,⟨Q,cL,by grind⟩,⟨M,N,by grind[kp,vR]⟩,by grind,by grind[kp,vR],fun i x y h1 h2=>?_,fun i x y h1 h2=>?_⟩,rfl,?_⟩
    ·rw[hqF]at h1
     have h3:(qf.map fun f=>f.params)[i]?=some x.params:=by grind
     grind
    ·have h3:((de j nw p l).ah.map fun f=>f.aw)[i]?=some x.aw:=by grind
     grind
    ·unfold qV
     grind[L6,Sr]
def EM(p:Src)(m:cU p<=1048576)(hn:kF p)(s nw:Go.Xp.ab)(S:s.length<=1048576)(M:nw.length<=1048576) :
  GC prog 14 [.agg (aB p),.v (sv s),.v (sv nw)] [] (wm (renameI p s nw).1 (renameI p s nw).2):=by
 have H:=yM p m hn;have C:=EK nw V;have i:=xQ nw
 cases j:((eu p&&bm nw)&&!dx nw)with
 |false =>
  have e:renameI p s nw=(fH,1):=by grind[renameI,fH]
  grind[Qg]
 |true =>
  have O:=j;rw[aI,aI,Bool.not_eq_true']at O;have⟨⟨R,Q⟩,T⟩:=O;have⟨l,Z⟩:=rA R;rw[R]at H;rw[Q]at C;rw[T]at i
  refine(Qf p m Z s nw S M H C i).mono fun g k h=>?_
  unfold renameI;rw[j,ak rfl,Z.si]
  grind
end Go.Xg
set_option maxHeartbeats 2000000
namespace Go.Xg
open Go.RowKit Go.Xw Go.Proofs Go.Im
open Go.Xp (Nd)
open Go.Sp (Src)
def I2(p:Src)(i:Nat):Go.Sp.Fn:=(p.av[i]?).getD ⟨[],[],0⟩
def JG(p:Src)(i:Nat):Nd:=(p.ah[i]?).getD ⟨0,0,0,[],[]⟩
def ui(l:List Value)(i:Nat):Value:=(l[i]?).getD undef
def YA{B:Bs}{K:Fz}{β:Bt}{w:World}{Γ:ap}{s:Nat}{p:Src}{hg ha hf hn:Value}{fs ns:List Value}(H:Qi p hg ha hf hn fs ns)(G:∀(i:Nat)x,(qV p hg ha hf hn fs ns)[i]?=some x->Γ[s+i]?=some x)(hI:Inv B K β Γ w) :
  ∃t bM,dm K t/\Inv B t β bM w/\bF t (fun _=>.no) [hg,ha,hf,hn] (aB p)/\∀q,q<s\/s+(qV p hg ha hf hn fs ns).length<=q->bM[q]?=Γ[q]?:=by
 have⟨_,_,_,_,hfl,Jh,_,_⟩:=H
 have d:(List.zipWith nK p.av fs).length=p.av.length:=by rw[sY];omega
 have M:(List.zipWith cB p.ah ns).length=p.ah.length:=by rw[sY];omega
 have n:(qV p hg ha hf hn fs ns).length=4+p.av.length+p.ah.length:=by simp[qV,d,M];omega
 have k:∀i,i<p.av.length->p.av[i]?=some (I2 p i)/\fs[i]?=some (ui fs i):=fun i c=>by
  unfold I2 ui;rw[cK c,cK (show i<fs.length by omega)];exact zah
 have m:∀i,i<p.ah.length->p.ah[i]?=some (JG p i)/\ns[i]?=some (ui ns i):=fun i c=>by
  unfold JG ui;rw[cK c,cK (show i<ns.length by omega)];exact zah
 have Z:Γ[s+0]?=some (.vech 9 1 (bs p.aq) hg):=G 0 _ rfl;have g1:Γ[s+1]?=some (.vech 79 2 (p.aj.map aW) ha):=G 1 _ rfl;have g2:Γ[s+2]?=some (.vech 53 3 (List.zipWith kD p.av fs) hf):=G 2 _ rfl
 have gF:∀i,i<p.av.length->Γ[s+(3+i)]?=some (.vech 9 1 (bs (I2 p i).params) (ui fs i)):=fun i c=>G _ _ <|by
  unfold qV;rw[show 3+i=i+1+1+1 by omega,getElem?_cons_succ,getElem?_cons_succ,getElem?_cons_succ,j1 V,wj (k i c).1 (k i c).2];rfl
 have g3:Γ[s+(3+p.av.length)]?=some (.vech 82 5 (List.zipWith bV p.ah ns) hn):=G _ _ <|by
  unfold qV;rw[show 3+p.av.length=p.av.length+1+1+1 by omega,getElem?_cons_succ,getElem?_cons_succ,getElem?_cons_succ,j0 V,d,r9];rfl
 have gN:∀i,i<p.ah.length->Γ[s+(4+p.av.length+i)]?=some (.vech 3 1 (fZ (JG p i).aw) (ui ns i)):=fun i c=>G _ _ <|by
  unfold qV;rw[show 4+p.av.length+i=(p.av.length+(i+1))+1+1+1 by omega,getElem?_cons_succ,getElem?_cons_succ,getElem?_cons_succ,j0 V,d,Nat.add_sub_cancel_left,getElem?_cons_succ,wj (m i c).1 (m i c).2];rfl
 obtain⟨t,Γ1,S,k1,i1,cL,l1,r1,r⟩:=hI.Am (jf:=s+2) (N:=p.av.length) (o:=1) (E:=9) (k':=1) (raw:=fun i=>kD (I2 p i) (ui fs i)) (fin:=fun i=>aD (I2 p i)) (ks:=fun i=>bs (I2 p i).params) (hd:=fun i=>ui fs i) (jp:=fun i=>s+(3+i)) g2
  ⟨by rw[sY];omega,fun i c=>wj (k i c).1 (k i c).2⟩ (fun i c=>⟨rfl,rfl⟩) gF (fun i c=>by omega) (fun i j _ _ h=>by omega)
 obtain⟨K2,e,T,k2,i2,lC,l2,r2,v⟩:=i1.Am (jf:=s+(3+p.av.length)) (N:=p.ah.length) (o:=4) (E:=3) (k':=1) (raw:=fun i=>bV (JG p i) (ui ns i)) (fin:=fun i=>aN (JG p i)) (ks:=fun i=>fZ (JG p i).aw) (hd:=fun i=>ui ns i) (jp:=fun i=>s+(4+p.av.length+i))
  (by rw[r _ V fun i c=>by omega];exact g3) ⟨by rw[sY];omega,fun i c=>wj (m i c).1 (m i c).2⟩ (fun i c=>⟨rfl,rfl⟩) (fun i c=>by rw[r _ V fun j hj=>by omega];exact gN i c) (fun i c=>by omega) (fun i j _ _ h=>by omega)
 have W:S=p.av.map aD:=by
  apply ext_getElem?;intro i
  by_cases c:i<p.av.length
  ·rw[r1 i c,dB,(k i c).1];rfl
  ·exact zeS
 have Y:T=p.ah.map aN:=by
  apply ext_getElem?;intro i
  by_cases c:i<p.ah.length
  ·rw[r2 i c,dB,(m i c).1];rfl
  ·exact zeS
 rw[W]at cL;rw[Y]at lC
 have z:e[s+2]?=some (.vech 53 3 (p.av.map aD) hf):=by rw[v _ V fun i c=>by omega];exact cL
 have F:e[s+0]?=some (.vech 9 1 (bs p.aq) hg):=by rw[v _ V fun i c=>by omega,r _ V fun i c=>by omega];exact Z
 have J:e[s+1]?=some (.vech 79 2 (p.aj.map aW) ha):=by rw[v _ V fun i c=>by omega,r _ V fun i c=>by omega];exact g1
 have⟨K3,k3,q0,i3⟩:=i2.pb F;obtain⟨K4,Q,q1,i4⟩:=i3.pb (i:=s+1) (by rw[bI,eY,ae V];exact J);obtain⟨K5,O,q2,i5⟩:=i4.pb (i:=s+2) (by rw[bI,bI,eY,ae V,eY,ae V];exact z);obtain⟨R,u,q3,i6⟩:=i5.pb (i:=s+(3+p.av.length)) (by rw[bI,bI,bI,eY,ae V,eY,ae V,eY,ae V];exact lC);have b:dV β β:=dV.refl β;refine⟨R,_,k1.trans (k2.trans (k3.trans (Q.trans (O.trans u)))),i6,.cons ((q0.mono (Q.trans (O.trans u)) b).pc rfl) (.cons ((q1.mono (O.trans u) b).pc rfl) (.cons ((q2.mono u b).pc rfl) (.cons (q3.pc rfl) .nil))),fun q hq=>?_⟩;rw[n]at hq;rw[bI,bI,bI,bI,eY,ae V,eY,ae V,eY,ae V,eY,ae V,v q V fun i c=>by omega,r q V fun i c=>by omega]
def EP{K:Fz}{β:Bt}{v a b c d:Value}(h:Rel K β v (.agg [.v a,.v b,.v c,.v d])):v=.agg #[a,b,c,d]:=by
 cases h with
 |agg m O M h =>
  match m,M with
  |[x,y,z,u],_ =>
   rw[Rel.eW (h 0 x _ rfl rfl),Rel.eW (h 1 y _ rfl rfl),Rel.eW (h 2 z _ rfl rfl),Rel.eW (h 3 u _ rfl rfl)]
section
variable{B:Bs}{K:Fz}{β:Bt}{w:World}{l:List Value}{fr:am}{A C X:ap}{p:Src}{hg ha hf hn:Value}{fs ns:List Value}
def De(p:Src):∀g∈aB p,g.pc=true:=fun g hg=>by
 simp only[aB,List.mem_cons,List.not_mem_nil,or_false]at hg
 rcases hg with rfl|rfl|rfl|rfl<;>rfl
end
end Go.Xg
namespace Go.Xg
open Go.RowKit Go.Xw
def qD(a:Int):Int:=IntKind.i64.wrap a
def p9(a b:Int):Int:=IntKind.i64.wrap (((a%18446744073709551616).toNat &&& (b%18446744073709551616).toNat:Nat):Int)
def uk(a b:Int):Int:=IntKind.i64.wrap (((a%18446744073709551616).toNat ^^^ (b%18446744073709551616).toNat:Nat):Int)
def VX(a:Int) : -9223372036854775808<=qD a/\qD a<=9223372036854775807:=by
 unfold qD;rw[IntKind.wrap_i64];omega
def zL(a b:Int)(i:0<=b/\b<=9223372036854775807):0<=p9 a b/\p9 a b<=b:=by
 unfold p9
 have o:(b%18446744073709551616).toNat=b.toNat:=by rw[Int.emod_eq_of_lt i.1 V]
 have c:(a%18446744073709551616).toNat &&& (b%18446744073709551616).toNat<=b.toNat:=by rw[o];exact Nat.and_le_right
 rw[IntKind.wrap_i64];omega
def We(a b:Int):(BitVec.ofInt 64 a &&& BitVec.ofInt 64 b).toNat=(a%18446744073709551616).toNat &&& (b%18446744073709551616).toNat:=by rw[BitVec.toNat_and,BitVec.toNat_ofInt,BitVec.toNat_ofInt];rfl
def Wf(a b:Int):(BitVec.ofInt 64 a ^^^ BitVec.ofInt 64 b).toNat=(a%18446744073709551616).toNat ^^^ (b%18446744073709551616).toNat:=by rw[BitVec.toNat_xor,BitVec.toNat_ofInt,BitVec.toNat_ofInt];rfl
section
variable{P:Program}{fr:am}{Γ:ap}{x y:Operand}{t t':TypeId}{a b:Int}
def YG.V9(hx:bf fr x=y4 a)(B:bf fr y=y4 b):YG P (.binOp .add t x y t') fr Γ (y4 (qD (a+b))) :=
 YG.v2 hx B fun l w h k d n G m=>by simp[execOp,eqGuard,h,k,binOp,Op.intArith,qD]
def YG.X5(hx:bf fr x=y4 a)(B:bf fr y=y4 b):YG P (.binOp .mul t x y t') fr Γ (y4 (qD (a*b))) :=
 YG.v2 hx B fun l w h k d n G m=>by simp[execOp,eqGuard,h,k,binOp,Op.intArith,qD]
def YG.KN(hx:bf fr x=y4 a)(B:bf fr y=y4 b):YG P (.binOp .and t x y t') fr Γ (y4 (p9 a b)) :=
 YG.v2 hx B fun l w h k d o G m=>by
  simp[execOp,eqGuard,h,k,binOp,Op.intBits,p9,IntKind.bits];exact congrArg (fun n:Nat=>IntKind.i64.wrap (n:Int)) (We a b)
def YG.Y2(hx:bf fr x=y4 a)(B:bf fr y=y4 b):YG P (.binOp .xor t x y t') fr Γ (y4 (uk a b)) :=
 YG.v2 hx B fun l w h k d o G m=>by
  simp[execOp,eqGuard,h,k,binOp,Op.intBits,uk,IntKind.bits];exact congrArg (fun n:Nat=>IntKind.i64.wrap (n:Int)) (Wf a b)
def YG.GK{z:IntKind}{n:Nat}(hx:bf fr x=y4 a)(B:bf fr y=.v (.int z (n:Int))):YG P (.binOp .shr t x y t') fr Γ (y4 (a.fdiv (2^min n 64))) :=
 YG.v2 hx B fun l w h k d o G m=>by
  have:¬((n:Int)<0):=by omega
  simp[execOp,eqGuard,h,k,binOp,Op.shift,this,IntKind.bits]
end
end Go.Xg
set_option maxHeartbeats 4000000
namespace Go.Xg
open Go.RowKit Go.Xw Go.Proofs Tryz
open GV (U)
structure dk where
 i:Nat
 h:Int
abbrev u0(code:ab)(c:dk):am:=[.sl 1 (dy code),y4 (c.i:Nat),y4 c.h]
def wG(c:dk):Int:=qD (qD (c.h*6364136223846793005)+1442695040888963407)
def Cv(h:Int):Int:=p9 (uk (h.fdiv (2^min 33 64)) (h.fdiv (2^min 45 64))) 255
def la(code:ab)(c:dk):Int × dk:=match code[c.i]? with
 |some b=>(p9 (Cv (wG c)+((b.toNat:Nat):Int)) 255,⟨c.i+1,wG c⟩)
 |none=>(Cv (wG c),⟨c.i,wG c⟩)
def bK(code:ab)(n:Int)(c:dk):Int × dk :=
 if n<=0 then(0,c)else if n<=256 then((la code c).1%n,(la code c).2)else
  let a:=la code c
  let b:=la code a.2
  let d:=la code b.2
  let e:=la code d.2
  ((a.1*16777216+b.1*65536+d.1*256+e.1)%n,e.2)
def F6(h:Int):0<=Cv h/\Cv h<=255:=zL _ _ ⟨by omega,by omega⟩
def ux(code:ab)(c:dk):0<=(la code c).1/\(la code c).1<=255:=by
 unfold la;split
 ·simp[zL]
 ·exact F6 _
def B8{code:ab}{c:dk}(h:c.i<=code.length):(la code c).2.i<=code.length:=by
 grind[la]
theorem fT{code:ab}{c:dk}(n:Int)(h:c.i<=code.length):(bK code n c).2.i<=code.length:=by
 unfold bK
 grind[la]
def eL(code:ab){n:Int}(c:dk)(h:0<n):0<=(bK code n c).1/\(bK code n c).1<n:=by
 unfold bK;rw[ae V];split
 ·exact⟨Int.emod_nonneg _ V,Int.emod_lt_of_pos _ h⟩
 ·exact⟨Int.emod_nonneg _ V,Int.emod_lt_of_pos _ h⟩
def ID{s:ab}{i:Nat}{b:UInt8}(h:s[i]?=some b):(dy s)[i]?=some [.v (.int .u8 (b.toNat:Nat))]:=by grind
def xw(s:ab):(dy s).length=s.length:=by simp
attribute [local irreducible] GW GL GO YG GC GA bo bq p9 uk qD
def uF(code:ab)(c:dk)(M:code.length<=1099511627776)(W:c.i<=code.length) :
  GF prog 100 [.loc 0 0] [.box 115 (u0 code c)] (.v (ii (la code c).1)) [.box 115 (u0 code (la code c).2)]:=by
 have l:=F6 (wG c);have N:=xw code;unfold la
 cases j:code[c.i]? with
 |some b =>
  have O:=(bY j).1;have z:=ID j;have k:b.toNat<256:=b.toNat_lt
  have T:decide ((c.i:Int)<((dy code).length:Int))=true:=by grind
  simp only;unfold u0;simp only;unfold Cv wG at *;refine au func100 ntmps100 ?_;refine zdd ?_;refine OP rfl (fun u=>YG.GK (n:=33) rfl rfl) ?_;refine jj ?_;refine ax ?_;refine OP rfl (fun u=>YG.GK (n:=45) rfl rfl) ?_;refine jj ?_;refine OP rfl (fun u=>YG.Y2 rfl rfl) ?_;refine jj ?_;refine OP rfl (fun u=>YG.KN rfl rfl) ?_;refine jj ?_;refine bn ?_;refine zaP ?_;refine aV (aL 0 15 .nil) ?_;refine ax ?_;refine OP rfl (fun u=>YG.KN rfl rfl) ?_;refine jj ?_;exact zbv
 |none =>
  have w:=oP j
  have T:decide ((c.i:Int)<((dy code).length:Int))=false:=by grind
  simp only;unfold u0;simp only;unfold Cv wG at *;refine au func100 ntmps100 ?_;refine zdd ?_;refine OP rfl (fun u=>YG.GK (n:=33) rfl rfl) ?_;refine jj ?_;refine ax ?_;refine OP rfl (fun u=>YG.GK (n:=45) rfl rfl) ?_;refine jj ?_;refine OP rfl (fun u=>YG.Y2 rfl rfl) ?_;refine jj ?_;refine OP rfl (fun u=>YG.KN rfl rfl) ?_;refine jj ?_;refine bn ?_;refine aV (aL 0 10 .nil) ?_;exact zbv
def gB(code:ab)(n:Int)(c:dk)(M:code.length<=1099511627776)(W:c.i<=code.length) :
  GF prog 33 [.loc 0 0,y4 n] [.box 115 (u0 code c)] (.v (ii (bK code n c).1)) [.box 115 (u0 code (bK code n c).2)]:=by
 unfold bK;have o:=uF code c M W;have k:=ux code c;have H:=B8 W;generalize la code c=a at *;have⟨x,q⟩:=a;simp only at o k H |-
 by_cases s:n<=0
 ·have T:decide (n<=(0:Int))=true:=by grind
  rw[ak s];refine au func33 ntmps33 ?_;exact ay
 ·have T:decide (n<=(0:Int))=false:=by grind
  rw[ae s]
  by_cases e:n<=256
  ·have j:decide (n<=(256:Int))=true:=by grind
   rw[ak e];refine au func33 ntmps33 ?_;refine D [0] o ?_;exact ay
  ·have j:decide (n<=(256:Int))=false:=by grind
   rw[ae e];have b:=uF code q M H;have S:=ux code q;have R:=B8 H;generalize la code q=a at *;have⟨y,N⟩:=a;simp only at b S R |-;have G:=uF code N M R;have l:=ux code N;have d:=B8 R;generalize la code N=a at *;have⟨z,A⟩:=a;simp only at G l d |-;have C:=uF code A M d;have O:=ux code A;generalize la code A=a at *;have⟨w,J⟩:=a;simp only at C O |-;refine au func33 ntmps33 ?_;refine D [0] o ?_;refine D [0] b ?_;refine D [0] G ?_;refine D [0] C ?_;exact ay
def Q1(code:ab)(M:code.length<=1099511627776) :
  GC prog 31 [.sl 1 (dy code)] [] fun g l=>∃h,g=.loc 0 0/\l=[.box 115 (u0 code ⟨0,h⟩)]:=by
 have O:=xw code;refine au func31 ntmps31 ?_;refine GW.loop (fun x:Nat=>code.length-x) (fun i fr Γ=>∃h:Int,fr=.sl 1 (dy code)::U::U::y4 h::y4 (i:Nat)::zU 27 []/\Γ=[]/\i<=code.length/\0<=h/\h<=4398046511104) 0 ?_ ?_
 ·exact⟨_,_,Wk.aZ az,_,rfl,rfl,bp _,by omega,by omega⟩
 ·rintro i _ _⟨h,rfl,rfl,m,r,s⟩
  rcases Nat.lt_or_ge i code.length with N|w
  ·have T:decide ((i:Int)<((dy code).length:Int))=true:=by grind
   by_cases C:i<4000
   ·have o:decide ((i:Int)<(4000:Int))=true:=by grind
    have z:=ID (cK N);generalize code[i]=b at *;have k:b.toNat<256:=b.toNat_lt;refine I ?_;refine GL.q (YG.KN rfl rfl) ?_;refine zad ?_
    have j:=fun a=>zL a 1073741823 ⟨by omega,by omega⟩
    exact⟨i+1,⟨_,_,Wk.aZ az,_,rfl,rfl,N,(j _).1,by grind⟩,by omega⟩
   ·have o:decide ((i:Int)<(4000:Int))=false:=by grind
    exact zc7
  ·have T:decide ((i:Int)<((dy code).length:Int))=false:=by grind
   exact zc7
def xZ(code:ab)(c:dk):Int × dk :=
 let k:=bK code 11 c
 if k.1<4 then((bK code 24 k.2).1-4,(bK code 24 k.2).2)
 else if k.1=4 then(2147483646+(bK code 3 k.2).1,(bK code 3 k.2).2)
 else if k.1=5 then(-2147483649+(bK code 3 k.2).1,(bK code 3 k.2).2)
 else if k.1=6 then(9223372036854775807-(bK code 2 k.2).1,(bK code 2 k.2).2)
 else if k.1=7 then(-9223372036854775807-(bK code 2 k.2).1,(bK code 2 k.2).2)
 else if k.1=8 then(qD (1*2^(bK code 40 k.2).1.toNat),(bK code 40 k.2).2)
 else if k.1=9 then
  let a:=bK code 1000000 k.2
  let b:=bK code 1000000 a.2
  (a.1*b.1,b.2)
 else bK code 2000000 k.2
def Yp{code:ab}{c:dk}(h:c.i<=code.length):(xZ code c).2.i<=code.length:=by
 unfold xZ
 grind[fT]
def RD(code:ab)(c:dk) : -9223372036854775808<=(xZ code c).1/\(xZ code c).1<=9223372036854775807:=by
 unfold xZ
 have o:=fun n(h:(0:Int)<n)=>eL code (bK code 11 c).2 h
 simp only;split
 ·grind
 split
 ·grind
 split
 ·grind
 split
 ·grind
 split
 ·grind
 split
 ·exact VX _
 split
 ·have b:=o 1000000 V;have G:=eL code (bK code 1000000 (bK code 11 c).2).2 (n:=1000000) V;have C:=Int.mul_nonneg b.1 G.1;have e:=Int.mul_le_mul (Int.le_of_lt b.2) (Int.le_of_lt G.2) G.1 V;omega
 grind
section
variable{P:Program}{fr:am}{Γ:ap}{x y:Operand}{t t':TypeId}{a:Int}
def YG.abu{z:IntKind}{n:Nat}(hx:bf fr x=y4 a)(B:bf fr y=.v (.int z (n:Int)))(hn:n<=63):YG P (.binOp .shl t x y t') fr Γ (y4 (qD (a*2^n))) :=
 YG.v2 hx B fun l w h k d q H m=>by
  have o:¬((n:Int)<0):=by omega
  have b:min n 64=n:=by omega
  have G:n<64:=by omega
  simp[execOp,eqGuard,h,k,binOp,Op.shift,o,b,G,IntKind.bits,qD]
end
def Q2(code:ab)(c:dk)(O:code.length<=1099511627776)(W:c.i<=code.length) :
  GF prog 36 [.loc 0 0] [.box 115 (u0 code c)] (.v (ii (xZ code c).1)) [.box 115 (u0 code (xZ code c).2)]:=by
 unfold xZ;have o:=gB code 11 c O W;have l:=eL code c (n:=11) V;have H:=fT (code:=code) 11 W;generalize bK code 11 c=a at *;have⟨k,r⟩:=a;simp only at o l H |-
 have b:=fun n=>gB code n r O H
 have R:=fun n(h:(0:Int)<n)=>eL code r h
 have S:=fun n=>fT (code:=code) n H
 by_cases Q:k<4
 ·have T:decide (k<(4:Int))=true:=by grind
  rw[ak Q];have G:=b 24;have e:=R 24 V;exact zaD
 ·have T:decide (k<(4:Int))=false:=by grind
  rw[ae Q];obtain⟨m,rfl⟩:∃m:Nat,k=(m:Int):=⟨k.toNat,by omega⟩
  have j:m=4\/m=5\/m=6\/m=7\/m=8\/m=9\/m=10:=by omega
  rcases j with rfl|rfl|rfl|rfl|rfl|rfl|rfl
  ·have G:=b 3;have e:=R 3 V;rw[ak aR];exact zaD
  ·have G:=b 3;have e:=R 3 V;rw[ae aR,ak aR];exact zaD
  ·have G:=b 2;have e:=R 2 V;rw[ae aR,ae aR,ak aR];exact zaD
  ·have G:=b 2;have e:=R 2 V;rw[ae aR,ae aR,ae aR,ak aR];exact zaD
  ·have G:=b 40;have e:=R 40 V;rw[ae aR,ae aR,ae aR,ae aR,ak aR];generalize bK code 40 r=a at *;have⟨s,M⟩:=a;simp only at G e |-;obtain⟨n,rfl⟩:∃n:Nat,s=(n:Int):=⟨s.toNat,by omega⟩;rw[ik];refine au func36 ntmps36 ?_;refine D [0] o ?_;refine D [0] G ?_;refine GL.q (YG.abu rfl rfl V) ?_;exact zc6
  ·have G:=b 1000000;have e:=R 1000000 V;have d:=S 1000000;rw[ae aR,ae aR,ae aR,ae aR,ae aR,ak aR];generalize bK code 1000000 r=a at *;have⟨u,M⟩:=a;simp only at G e d |-;have C:=gB code 1000000 M O d;have N:=eL code M (n:=1000000) V;generalize bK code 1000000 M=a at *;have⟨v,w⟩:=a;simp only at C N |-;have z:=Int.mul_nonneg e.1 N.1;have A:=Int.mul_le_mul (Int.le_of_lt e.2) (Int.le_of_lt N.2) N.1 V;refine au func36 ntmps36 ?_;refine D [0] o ?_;refine D [0] G ?_;refine D [0] C ?_;exact ay
  ·have G:=b 2000000;rw[ae aR,ae aR,ae aR,ae aR,ae aR,ae aR];exact zaD
end Go.Xg
namespace Go.Xg
open Go.RowKit Go.Xw Go.Proofs
open Go.Xp (levels)
def Bb:List ab:=[[120],[121],[103],[49],[48],[55],[103,101,116,40,41],[115,105,122,101,40,97,41]]
def lL(l:List ab)(k:Int):ab:=l.getD k.toNat []
def abq{l:List ab}{k:Int}(h:0<=k/\k<(l.length:Int)):(bs l)[k.toNat]?=some [.v (sv (lL l k))]:=by
 grind[bs,sv,lL]
theorem mw{l:List ab}{n:Nat}(h:∀s∈l,s.length<=n)(k:Int):(lL l k).length<=n:=by
 grind[lL]
def jG(code:ab):Nat->dk->ab × dk
 |0,c=>(lL Bb (bK code 8 (bK code 9 c).2).1,(bK code 8 (bK code 9 c).2).2)
 |d+1,c =>
  let k:=bK code 9 c
  if k.1<3 then(lL Bb (bK code 8 k.2).1,(bK code 8 k.2).2)
  else if k.1=3 then([97,91]++(jG code d k.2).1++[32,38,32,51,93],(jG code d k.2).2)
  else if k.1=4 then
   let j:=bK code 3 k.2
   (lL [[45],[33],[126]] j.1++[40]++(jG code d j.2).1++[41],(jG code d j.2).2)
  else if k.1=5 then([97,91]++(jG code d k.2).1++[93],(jG code d k.2).2)
  else
   let j:=bK code 9 k.2
   let a:=jG code d j.2
   let cy:=levels.getD j.1.toNat []
   let o:=bK code (cy.length:Int) a.2
   let b:=jG code d o.2
   ([40]++a.1++[32]++lL cy o.1++[32]++b.1++[41],b.2)
theorem GM(k:Int):∀s∈levels.getD k.toNat [],s.length<=2:=fun s G=>by
 rw[List.getD_eq_getElem?_getD]at G
 cases N:levels[k.toNat]? with
 |none=>grind
 |some l =>
  rw[N]at G
  have h:∀l∈levels,∀s∈l,s.length<=2:=by decide
  grind
def xk:Nat->Nat
 |0=>7
 |d+1=>2*xk d+7
def Zp:∀d,7<=xk d
 |0=>aY _
 |d+1=>by simp[xk]
def mN(code:ab):∀(d:Nat)(c:dk),(jG code d c).1.length<=xk d
 |0,c=>by rw[jG,xk];exact mw aR _
 |d+1,c=>by
  have O:=mN code d;have Q:=Zp d;rw[jG,xk];simp only;split
  ·have:=mw (l:=Bb) (n:=7) aR (bK code 8 (bK code 9 c).2).1
   grind
  split
  ·grind[bK]
  split
  ·have o:=O (bK code 3 (bK code 9 c).2).2;have b:=mw (l:=[[45],[33],[126]]) (n:=1) aR (bK code 3 (bK code 9 c).2).1
   grind
  grind[br,length_cons,length_nil,mw,GM]
theorem yH{code:ab}:∀(d:Nat){c:dk},c.i<=code.length->(jG code d c).2.i<=code.length
 |0,c,h=>by rw[jG];grind[fT]
 |d+1,c,h=>by
  have O:=fun{c:dk}=>yH (code:=code) d (c:=c)
  have o:=fT (code:=code) 9 h;rw[jG]
  grind[fT]
def pe(code:ab)(d:Nat)(sub:dk->ab × dk)(out:ab)(c:dk):ab × dk :=
 let k:=bK code 8 c
 if k.1=0/\0<d then
  let e:=jG code 1 k.2
  let a:=sub e.2
  let b:=sub a.2
  (out++[105,102,32,40]++e.1++[41,32,123,32]++a.1++[32,125,32,101,108,115,101,32,123,32]++b.1++[32,125,32],b.2)
 else if k.1=1/\0<d then
  let a:=sub k.2
  (out++[121,32,61,32,51,59,32,119,104,105,108,101,32,40,121,32,62,32,48,41,32,123,32]++a.1++[32,121,32,61,32,121,32,45,32,49,59,32,125,32],a.2)
 else if k.1=2 then
  let e:=jG code 1 k.2
  let f:=jG code 2 e.2
  (out++[97,91]++e.1++[32,38,32,51,93,32,61,32]++f.1++[59,32],f.2)
 else if k.1=3 then
  let e:=jG code 2 k.2
  (out++[112,117,116,40]++e.1++[41,59,32],e.2)
 else if k.1=4 then
  let e:=jG code 1 k.2
  (out++[103,32,61,32,103,32,43,32]++e.1++[59,32],e.2)
 else
  let x:=bK code 2 k.2
  let e:=jG code 2 x.2
  (out++lL [[120],[121]] x.1++[32,61,32]++e.1++[59,32],e.2)
def kY(g:ab->dk->ab × dk):Nat->ab->dk->ab × dk
 |0,out,c=>(out,c)
 |n+1,out,c=>kY g n (g out c).1 (g out c).2
def v8(code:ab):Nat->dk->ab × dk
 |0,c=>kY (pe code 0 fun c=>([],c)) (bK code 4 c).1.toNat [] (bK code 4 c).2
 |d+1,c=>kY (pe code (d+1) (v8 code d)) (bK code 4 c).1.toNat [] (bK code 4 c).2
section
variable{code:ab}{d:Nat}{sub:dk->ab × dk}
theorem yg{B:Nat}(G:∀c,(sub c).1.length<=B)(out:ab)(c:dk):(pe code d sub out c).1.length<=out.length+2*B+200:=by
 have o:=fun c=>mN code 1 c
 have b:=fun c=>mN code 2 c
 simp only[xk]at o b;unfold pe;simp only;generalize bK code 8 c=k;split
 ·exact zcf
 split
 ·exact zcf
 split
 ·exact zcf
 split
 ·grind
 split
 ·exact zcf
 grind[lL]
theorem CP(G:∀c:dk,c.i<=code.length->(sub c).2.i<=code.length){out:ab}{c:dk}(W:c.i<=code.length):(pe code d sub out c).2.i<=code.length:=by
 have o:=fT (code:=code) 8 W;unfold pe
 grind[yH,fT]
end
def xc{g:ab->dk->ab × dk}{B:Nat}(hg:∀out c,(g out c).1.length<=out.length+B):∀(n:Nat)(out:ab)(c:dk),(kY g n out c).1.length<=out.length+n*B
 |0,out,c=>by simp[ab,kY]
 |n+1,out,c=>by
  have o:=xc hg n (g out c).1 (g out c).2
  grind[kY]
def Ap{code:ab}{g:ab->dk->ab × dk}(hg:∀out c,c.i<=code.length->(g out c).2.i<=code.length):∀(n:Nat)(out:ab)(c:dk),c.i<=code.length->(kY g n out c).2.i<=code.length
 |0,out,c,h=>by grind[kY]
 |n+1,out,c,h=>by rw[kY];exact Ap hg n _ _ (hg out c h)
def yf:Nat->Nat
 |0=>600
 |d+1=>6*yf d+600
def yY(code:ab):∀(d:Nat)(c:dk),(v8 code d c).1.length<=yf d
 |0,c=>by
  rw[v8,yf];have h:=eL code c (n:=4) V;have b:=xc (B:=200) (fun out c=>yg (code:=code) (d:=0) (sub:=fun c=>([],c)) (B:=0) (fun c=>aY _) out c) (bK code 4 c).1.toNat [] (bK code 4 c).2
  grind
 |d+1,c=>by
  rw[v8,yf];have h:=eL code c (n:=4) V;have b:=xc (B:=2*yf d+200) (fun out c=>by have:=yg (code:=code) (d:=d+1) (yY code d) out c;omega) (bK code 4 c).1.toNat [] (bK code 4 c).2;have G:(bK code 4 c).1.toNat*(2*yf d+200)<=3*(2*yf d+200):=s0 _ V
  grind
def Ex{code:ab}:∀(d:Nat){c:dk},c.i<=code.length->(v8 code d c).2.i<=code.length
 |0,c,h=>by rw[v8];simp_all[Ap,CP,fT]
 |d+1,c,h=>by rw[v8];exact Ap (fun out c W=>CP (fun c h=>Ex d h) W) _ _ _ (fT _ h)
open Tryz
open GV (U)
abbrev fi(code:ab)(c:dk):Ob:=.box 115 (u0 code c)
def Wv{d:Nat}(h:d<=3):xk d<=105:=by
 have:d=0\/d=1\/d=2\/d=3:=by omega
 grind[xk]
def oD{l:List ab}{m:Nat}(h:m<l.length):(bs l)[m]?=some [.v (sv (lL l (m:Int)))]:=by
 grind[bs,sv,lL]
def Lu{m:Nat}(h:m<9):(levels.map fun l=>[strs l])[m]?=some [strs (levels.getD m [])]:=by
 have:m<levels.length:=h
 grind
def Oy:∀m,m<9->0<(levels.getD m []).length:=by decide
def qo{code:ab}(M:code.length<=1099511627776){c:dk}(W:c.i<=code.length)(n:Int)(hn:0<n):∃(z:Int)(J:dk),GF prog 33 [.loc 0 0,y4 n] [fi code c] (y4 z) [fi code J]/\J.i<=code.length/\0<=z/\z<n:=⟨_,_,gB code n c M W,fT n W,eL code c hn⟩
def Et{code:ab}(M:code.length<=1099511627776){c:dk}(W:c.i<=code.length):∃(z:Int)(J:dk),GF prog 36 [.loc 0 0] [fi code c] (y4 z) [fi code J]/\J.i<=code.length /\ -9223372036854775808<=z/\z<=9223372036854775807:=⟨_,_,Q2 code c M W,Yp W,RD code c⟩
def nV{code:ab}(M:code.length<=1099511627776){c:dk}(W:c.i<=code.length)(n:Int)(hn:0<n):∃(z:Nat)(J:dk),GF prog 33 [.loc 0 0,y4 n] [fi code c] (y4 (z:Nat)) [fi code J]/\J.i<=code.length/\0<=(z:Int)/\(z:Int)<n:=by
 have⟨z,J,h,i,r⟩:=qo M W n hn;obtain⟨z,rfl⟩:∃q:Nat,z=(q:Int):=⟨z.toNat,by omega⟩;exact⟨z,J,h,i,r⟩
attribute [local irreducible] GW GL GO YG GC GA bo bq p9 uk qD
def Js(code:ab)(B:code.length<=1099511627776):∀(d:Nat)(c:dk),d<=3->c.i<=code.length ->
  GF prog 174 [.loc 0 0,y4 (d:Nat)] [fi code c] (.v (sv (jG code d c).1)) [fi code (jG code d c).2]:=by
 intro d
 induction d with
 |zero =>
  intro c hd A;rw[jG];have w:=gB code 9 c B A;have t:=fT (code:=code) 9 A;generalize bK code 9 c=a at *;have⟨k,b⟩:=a;simp only at w t |-;exact zaE
 |succ d ih =>
  intro c hd A
  have hdd:(((d+1:Nat):Int)==0)=false:=by rfl
  have hB:=Wv (d:=d) V
  have u:∀c:dk,c.i<=code.length->GF prog 174 [.loc 0 0,y4 (((d+1:Nat):Int)-1)] [fi code c] (.v (sv (jG code d c).1)) [fi code (jG code d c).2]:=fun c A=>by
   rw[show(((d+1:Nat):Int)-1)=(d:Int) by omega];exact ih c V A
  clear ih;rw[jG];have w:=gB code 9 c B A;have r1:=eL code c (n:=9) V;have t:=fT (code:=code) 9 A;generalize bK code 9 c=a at *;have⟨k,b⟩:=a;simp only at w r1 t |-
  by_cases Z:k<3
  ·have S:decide (k<(3:Int))=true:=by grind
   rw[ak Z];exact zaE
  ·have S:decide (k<(3:Int))=false:=by grind
   rw[ae Z]
   by_cases F:k=3
   ·subst F;exact zbl
   ·have abM:(k==3)=false:=by grind
    rw[ae F]
    by_cases G:k=4
    ·subst G;rw[ak rfl];have e:=gB code 3 b B t;have C:=eL code b (n:=3) V;have E:=fT (code:=code) 3 t;generalize bK code 3 b=a at *;have⟨j,r⟩:=a;simp only at e C E |-;obtain⟨m,rfl⟩:∃m:Nat,j=(m:Int):=⟨j.toNat,by omega⟩;have T:=oD (l:=[[45],[33],[126]]) (m:=m) zff;have hp:=mw (l:=[[45],[33],[126]]) (n:=1) aR (m:Int);generalize lL [[45],[33],[126]] (m:Int)=sg at *;have z:=u r E;have O:=mN code d r;generalize jG code d r=a at *;have⟨s,M⟩:=a;simp only at z O |-;refine au func174 ntmps174 ?_;refine D [0] w ?_;refine aV (.q 1 (aL 6 3 (.f 0 (.a 2 (aL 3 3 (.a 9 (aL 10 3 .nil)))) 2 (.f 0 (aL 3 3 (.a 9 (aL 10 3 .nil))) 9 (.a 0 (aL 3 3 (aL 10 3 .nil))))))) ?_;refine ax ?_;refine GO.fork ?_ ?_
     ·refine zap ?_;refine aP [0] e ?_;refine aP [0] z ?_;exact aK
     ·refine aP [0] e ?_;refine GO.fork ?_ ?_
      ·refine zap ?_;refine aP [0] z ?_;exact aK
      ·refine aP [0] z ?_;refine zap ?_;exact aK
    ·have abN:(k==4)=false:=by grind
     rw[ae G]
     by_cases H:k=5
     ·subst H;exact zbl
     ·have abO:(k==5)=false:=by grind
      rw[ae H];have e:=gB code 9 b B t;have C:=eL code b (n:=9) V;have E:=fT (code:=code) 9 t;generalize bK code 9 b=a at *;have⟨j,r⟩:=a;simp only at e C E |-;obtain⟨m,rfl⟩:∃m:Nat,j=(m:Int):=⟨j.toNat,by omega⟩;rw[ik];have T:=Lu (m:=m) V;have hn:=Oy m V;have J:=GM (m:Int);rw[ik]at J;generalize levels.getD m []=rj at *;have z:=u r E;have O:=mN code d r;have X:=yH (code:=code) d E;generalize jG code d r=a at *;have⟨s,M⟩:=a;simp only at z O X |-;have R:=gB code (rj.length:Int) M B X;have r4:=eL code M (n:=(rj.length:Int)) V;have i4:=fT (code:=code) (rj.length:Int) X;generalize bK code (rj.length:Int) M=a at *;have⟨o,Q⟩:=a;simp only at R r4 i4 |-;obtain⟨q,rfl⟩:∃q:Nat,o=(q:Int):=⟨o.toNat,by omega⟩;have hr4:=oD (l:=rj) (m:=q) V;have hp:=mw J (q:Int);generalize lL rj (q:Int)=sg at *;have W:(rj.map fun s=>[GV.v (sv s)]).length=rj.length:=ct _;rw[<-W]at R;have Y:=u Q i4;have b5:=mN code d Q;generalize jG code d Q=a at *;have⟨s2,c5⟩:=a;simp only at Y b5 |-;refine au func174 ntmps174 ?_;refine D [0] w ?_;refine D [] jX ?_;refine D [0] e ?_;refine aV (aL 0 3 (aL 6 4 (aL 15 3 (.a 3 (.q 4 (.q 5 (.a 10 (aL 11 4 (.a 18 (aL 19 3 .nil)))))))))) ?_;refine ax ?_;refine aP [0] z ?_;refine aP [0] R ?_;refine aP [0] Y ?_;exact aK
def A7(code:ab)(S:code.length<=1099511627776)(d:Nat)(hd:d<=3)(sub:dk->ab × dk)
  (hs:0<d->∀c:dk,c.i<=code.length->GF prog 173 [.loc 0 0,y4 ((d:Int)-1)] [fi code c] (.v (sv (sub c).1)) [fi code (sub c).2])
  (R:∀c,(sub c).1.length<=1000000)(hi:∀c:dk,c.i<=code.length->(sub c).2.i<=code.length)(c:dk)(J:c.i<=code.length) :
  GF prog 173 [.loc 0 0,y4 (d:Nat)] [fi code c] (.v (sv (kY (pe code d sub) (bK code 4 c).1.toNat [] (bK code 4 c).2).1)) [fi code (kY (pe code d sub) (bK code 4 c).1.toNat [] (bK code 4 c).2).2]:=by
 have h1:=gB code 4 c S J;have r1:=eL code c (n:=4) V;have i1:=fT (code:=code) 4 J;generalize bK code 4 c=a at *;have⟨n0,c1⟩:=a;simp only at h1 r1 i1 |-;obtain⟨n,rfl⟩:∃n:Nat,n0=(n:Int):=⟨n0.toNat,by omega⟩;rw[ik];have H:=Js code S
 have w:=fun c=>mN code 1 c
 have z:=fun c=>mN code 2 c
 have he1:xk 1=21:=rfl;have xN:xk 2=49:=rfl;rw[he1]at w;rw[xN]at z
 have Q:=fun out c=>yg (code:=code) (d:=d) R out c
 have O:=fun(out:ab)(c:dk)(h:c.i<=code.length)=>CP (code:=code) (d:=d) hi (out:=out) h
 generalize hr:kY (pe code d sub) n [] c1=r;refine au func173 ntmps173 ?_;refine D [0] h1 ?_;refine GW.loop (fun x:Nat=>x) (fun x fr Γ=>∃out c,fr=.loc 0 0::y4 (d:Nat)::U::U::U::.v (sv out)::y4 (x:Nat)::zU 88 []/\Γ=[fi code c]/\x<=3/\c.i<=code.length/\out.length+x*2000200<=8000000/\kY (pe code d sub) x out c=r) n ?_ ?_
 ·exact⟨_,_,Wk.aZ az,_,_,rfl,rfl,by omega,i1,by grind,hr⟩
 ·rintro x _ _⟨out,c,rfl,rfl,hx,J,aa0,h⟩
  cases x with
  |zero =>
   rw[kY]at h;subst h;exact zc4
  |succ x =>
   rw[kY]at h;have XA:decide ((0:Int)<((x+1:Nat):Int))=true:=decide_eq_true V
   have t:(((x+1:Nat):Int)-1)=(x:Int):=by omega
   have Dr:=Q out c;have hi2:=O out c J
   have b:∀y,pe code d sub out c=y->kY (pe code d sub) x y.1 y.2=r/\y.2.i<=code.length/\y.1.length+x*2000200<=8000000:=by
    grind
   clear h Dr hi2 Q O;unfold pe at b;have G:=gB code 8 c S J;have r3:=eL code c (n:=8) V;have B:=fT (code:=code) 8 J;generalize bK code 8 c=a at *;have⟨k,s⟩:=a;simp only at G r3 B b;obtain⟨m,rfl⟩:∃m:Nat,k=(m:Int):=⟨k.toNat,by omega⟩
   by_cases X:(m:Int)=0/\0<d
   ·have⟨e,j,o⟩:=b _ (ak X);have⟨hm,E⟩:=X
    obtain rfl:m=0:=by omega
    have Z:decide ((0:Int)<(d:Int))=true:=by grind
    have g1:=H 1 s V B;have N:=w s;have M:=yH (code:=code) 1 B;generalize jG code 1 s=a at *;have⟨s1,A⟩:=a;simp only at e j o g1 N M;have u:=hs E A M;have C:=R A;have j2:=hi A M;generalize sub A=a at *;have⟨T,F⟩:=a;simp only at e j o u C j2;have g3:=hs E F j2;have b3:=R F;generalize sub F=a at *;have⟨s3,c5⟩:=a;simp only at e j o g3 b3;refine I ?_;refine D [0] G ?_;refine D [0] g1 ?_;refine D [0] u ?_;refine D [0] g3 ?_;exact zam
   have b:=fun y h=>b y ((ae X).trans h)
   by_cases Y:(m:Int)=1/\0<d
   ·have⟨e,j,o⟩:=b _ (ak Y);have⟨hm,E⟩:=Y
    obtain rfl:m=1:=by omega
    have Z:decide ((0:Int)<(d:Int))=true:=by grind
    have u:=hs E s B;have C:=R s;generalize sub s=a at *;exact zcV
   have b:=fun y h=>b y ((ae Y).trans h)
   by_cases hC:(m:Int)=2
   ·have⟨e,j,o⟩:=b _ (ak hC)
    obtain rfl:m=2:=by omega
    have g1:=H 1 s V B;have N:=w s;have M:=yH (code:=code) 1 B;generalize jG code 1 s=a at *;have⟨s1,A⟩:=a;simp only at e j o g1 N M;have u:=H 2 A V M;have C:=z A;generalize jG code 2 A=a at *;have⟨T,F⟩:=a;simp only at e j o u C;refine I ?_;refine D [0] G ?_;refine D [0] g1 ?_;refine D [0] u ?_;exact zam
   have b:=fun y h=>b y ((ae hC).trans h)
   by_cases hD:(m:Int)=3
   ·have⟨e,j,o⟩:=b _ (ak hD)
    obtain rfl:m=3:=by omega
    have u:=H 2 s V B;have C:=z s;generalize jG code 2 s=a at *;exact zcV
   have b:=fun y h=>b y ((ae hD).trans h)
   by_cases hF:(m:Int)=4
   ·have⟨e,j,o⟩:=b _ (ak hF)
    obtain rfl:m=4:=by omega
    have g1:=H 1 s V B;have N:=w s;generalize jG code 1 s=a at *;have⟨s1,A⟩:=a;simp only at e j o g1 N;refine I ?_;refine D [0] G ?_;refine D [0] g1 ?_;exact zam
   have⟨e,j,o⟩:=b _ (ae hF);have W:=gB code 2 s S B;have r4:=eL code s (n:=2) V;have i4:=fT (code:=code) 2 B;generalize bK code 2 s=a at *;have⟨q,A⟩:=a;simp only at e j o W r4 i4;obtain⟨q,rfl⟩:∃q':Nat,q=(q':Int):=⟨q.toNat,by omega⟩;have Xo:=oD (l:=[[120],[121]]) (m:=q) zff;have hp:=mw (l:=[[120],[121]]) (n:=1) aR (q:Int);generalize lL [[120],[121]] (q:Int)=sg at *;have u:=H 2 A V i4;have C:=z A;generalize jG code 2 A=a at *;have⟨T,F⟩:=a;simp only at e j o u C
   have hm:(m=0/\d=0)\/(m=1/\d=0)\/m=5\/m=6\/m=7:=by omega
   rcases hm with⟨rfl,rfl⟩|⟨rfl,rfl⟩|rfl|rfl|rfl
   all_goals
    refine I ?_;refine D [0] G ?_;refine aV (.q 0 (.q 2 (.q 8 (.f 1 (.a 3 (aL 4 4 (.a 9 (aL 10 3 .nil)))) 3 (.f 1 (aL 4 4 (.a 9 (aL 10 3 .nil))) 9 (.a 1 (aL 4 4 (aL 10 3 .nil)))))))) ?_;refine ax ?_;refine GO.fork ?_ ?_
    ·refine zap ?_;refine aP [0] W ?_;refine aP [0] u ?_;refine I ?_;exact zam
    ·refine aP [0] W ?_;refine GO.fork ?_ ?_
     ·refine zap ?_;refine aP [0] u ?_;refine I ?_;exact zam
     ·refine aP [0] u ?_;refine cM ?_;refine bn ?_;exact zam
def YB{d:Nat}(h:d<=3):yf d<=1000000:=by
 have:d=0\/d=1\/d=2\/d=3:=by omega
 grind[yf]
def wR(code:ab)(M:code.length<=1099511627776):∀(d:Nat)(c:dk),d<=3->c.i<=code.length ->
  GF prog 173 [.loc 0 0,y4 (d:Nat)] [fi code c] (.v (sv (v8 code d c).1)) [fi code (v8 code d c).2]
 |0,c,T,W=>by
  rw[v8];exact A7 code M 0 T _ (fun h=>absurd h (Nat.lt_irrefl 0)) (fun c=>bp _) (fun c h=>h) c W
 |d+1,c,T,W=>by
  rw[v8];refine A7 code M (d+1) T _ (fun h c W=>?_) (fun c=>jk (yY code d c) (YB V)) (fun c h=>Ex d h) c W;rw[show(((d+1:Nat):Int)-1)=(d:Int) by omega];exact wR code M d c V W
end Go.Xg
namespace Go.Xg
open Go.RowKit Go.Xw Go.Proofs Tryz Go.Sp
open GV (U)
open Go.Xp (Tok)
attribute [local irreducible] GW GL GO YG GC GA bo bq
def Y7(s:ab)(hs:s.length<=1000000000000) :
  GC prog 167 [.v (sv s)] [] fun g Δ=>Δ=[]/\∃l c z,g=.tup [Go.Xg.iv l,y4 c,y4 z]/\(c=0->s.length<=6000/\l.length<=6000/\∀t∈l,BU t):=by
 rcases Nat.lt_or_ge 6000 s.length with q|q
 ·have N:decide ((6000:Int)<(s.length:Int))=true:=by grind
  refine au func167 ntmps167 ?_;refine mD ?_;exact⟨.tup [Go.Xg.iv [],y4 1,y4 0],fJ,rfl,[],1,0,rfl,fun h=>by omega⟩
 ·have N:decide ((6000:Int)<(s.length:Int))=false:=by grind
  have F:=BB s 0 V (bp _);have G:=tt s (s.length+1) 0 (bp _);generalize hS:skip s (s.length+1) 0=R at *;have⟨T,z0⟩:=R;simp only at F G;refine au func167 ntmps167 ?_;refine pO ?_;refine I ?_;refine D [] F ?_;refine GW.A3 (fun J Q=>∃(a:Nat)(z:Int)(n:Nat)(b:List am)(d:List Tok),J=.v (sv s)::U::U::U::U::.vec 0 n::y4 (a:Nat)::y4 z::zU 47 []/\Q=[.vec 205 4 0 b]/\b.length=n/\b=d.map dp/\d.length<=6000/\∀t∈d,BU t) ?_ ?_
  ·refine GW.loop (fun x:Nat=>s.length-x) (fun a J Q=>∃(z:Int)(n:Nat)(b:List am)(d:List Tok),J=.v (sv s)::U::U::U::U::.vec 0 n::y4 (a:Nat)::y4 z::zU 47 []/\Q=[.vec 205 4 0 b]/\b.length=n/\b=d.map dp/\d.length<=a/\a<=s.length/\∀t∈d,BU t) T ?_ ?_
   ·exact⟨_,_,Wk.aZ az,z0,0,[],[],rfl,rfl,rfl,rfl,bp _,G.2,fun t h=>by cases h⟩
   ·rintro a _ _⟨z,n,b,d,rfl,rfl,C,i,E,ha,H⟩
    cases A:s[a]? with
    |none =>
     have Y:s.length<=a:=oP A
     have X:decide ((a:Int)<(s.length:Int))=false:=by grind
     exact zd8
    |some c =>
     have ps:a<s.length:=(bY A).1
     have X:decide ((a:Int)<(s.length:Int))=true:=by grind
     by_cases hz:z<0
     ·have w:decide (z<(0:Int))=true:=by grind
      have r:=Hk A;have o:=R9 A;have m:=VS A q;have e:=FK s a c V A;generalize gT s a c=tk at *;have⟨t,nx⟩:=tk;simp only at r o m e
      by_cases Z:t.ai=0
      ·have O:(t.ai==0)=true:=by grind
       refine zcv ?_;refine mD ?_;exact⟨.tup [Go.Xg.iv [],y4 2,y4 (a:Nat)],fJ,rfl,[],2,_,rfl,fun h=>by omega⟩
      ·have O:(t.ai==0)=false:=by grind
       have o:=o Z
       by_cases B:t.n<=2147483647
       ·have M:decide ((2147483647:Int)<t.n)=false:=by grind
        have m:=m B;have j:=BB s nx V r.2;have k:=tt s (s.length+1) nx r.2
        have hn2:n<=6000:=by grind
        generalize skip s (s.length+1) nx=S at *;have⟨W,z2⟩:=S;simp only at j k;refine zcv ?_;refine zbD ?_;refine D [] j ?_
        exact⟨W,⟨_,_,(Wk.cut (n:=1) (ek rfl) rfl).trans (Wk.aZ az),z2,n+1,b++[dp t],d++[t],rfl,rfl,by simp[C],by grind,by grind,k.2,fun u hu=>by
         grind⟩,by omega⟩
       ·have M:decide ((2147483647:Int)<t.n)=true:=by grind
        refine zcv ?_;refine mD ?_;exact⟨.tup [Go.Xg.iv [],y4 3,y4 (a:Nat)],fJ,rfl,[],3,_,rfl,fun h=>by omega⟩
     ·have w:decide (z<(0:Int))=false:=by grind
      exact zd8
  ·rintro _ _⟨a,z,n,b,d,rfl,rfl,C,i,E,H⟩
   by_cases hz:0<=z
   ·have w:decide ((0:Int)<=z)=true:=by grind
    refine I ?_;refine mD ?_;exact⟨.tup [Go.Xg.iv [],y4 4,y4 z],fJ,rfl,[],4,_,rfl,fun h=>by omega⟩
   ·have w:decide ((0:Int)<=z)=false:=by grind
    subst i;refine I ?_;refine GW.wk (Wk.jx (t:=2) rfl rfl rfl C) ?_;refine C0 ?_;exact⟨rfl,d,0,0,rfl,fun _=>⟨q,E,H⟩⟩
end Go.Xg
