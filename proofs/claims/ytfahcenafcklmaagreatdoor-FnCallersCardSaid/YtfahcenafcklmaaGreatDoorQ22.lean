/- Part 22 of proofs that are told in their last texts. -/
import Derived.Test.YtfahcenafcklmaaGreatDoorQ13
import Derived.Test.YtfahcenafcklmaaGreatDoorQ10
import Derived.Test.YtfahcenafcklmaaGreatDoorQ8
import Derived.Test.YtfahcenafcklmaaGreatDoorQ11
import Derived.Test.YtfahcenafcklmaaGreatDoorQ6
open List (nil_append)
set_option linter.unusedVariables false
set_option linter.unusedSimpArgs false
set_option maxRecDepth 100000
set_option maxHeartbeats 4000000
namespace Go.Xg
open Go.RowKit Go.Xw Go.Proofs Tryz Go.Sp Go.Im
attribute [local irreducible] GW GL GO YG GC GA aU aW pE sI qJ
theorem H3 (code:ae) (hl:code.length<=1099511627776):GC prog 16 [.sl 1 (bN code)] [] ZE:=by
 refine ai func16 ntmps16 ?_;refine bA [] (DN code hl) ?_;rintro _ _ ⟨h,rfl,rfl⟩;refine zas ?_;refine bA [1] (yg code hl ⟨0,h⟩ (aS _)) ?_;rintro _ _ ⟨c1,p,i1,hw,hn,rfl,rfl⟩;exact za5
end Go.Xg
namespace Go.Im
open Go.Xp Go.Sp
def fk (p:Src) (fn:Int):List Int:=if eG p fn=true then (match jX p.nodes p.fns 0 [] with | some (l,_)=>mQ p l fn | none=>[]) else []
theorem QK {p:Src} {fn:Int} (h:eG p fn=false):fk p fn=[]:=by unfold fk;rw [h];rfl
theorem Ec {p:Src} {l:List T} {i:Nat} {f:Go.Sp.Fn} {t:T} (hh:eG p (i:Int)=true) (h:kM p l i f t):fk p (i:Int)=bS p t:=by
 unfold fk;rw [ah hh,h.good.AB];simp only;unfold mQ;rw [iK,h.gt]
def kL (f:Nat->Bool) (k:Nat):List Int:=((List.range k).filter f).map fun i=>((i:Nat):Int)
theorem Am (f:Nat->Bool) (k:Nat):kL f (k+1)=if f k=true then kL f k++[((k:Nat):Int)] else kL f k:=by
 unfold kL;rw [List.range_succ,List.filter_append,l9];show _++List.map _ (List.filter f [k])=_;rw [List.filter_cons];split <;> simp
theorem vz (f:Nat->Bool) (k:Nat):(kL f k).length<=k:=by
 unfold kL;rw [bM];have:=List.length_filter_le f (List.range k);rw [List.length_range] at this;exact this
def ej (p:Src) (fn:Int):List Int:=if eG p fn=true then kL (fun k=>(fk p (k:Int)).contains fn) p.fns.length else []
def qt (p:Src):List Int:=if de p=true then kL (fun k=>dX p (k:Int) (k:Int)) p.fns.length else []
theorem IV {p:Src} {fn:Int} (hw:b7 p<=1048576):(ej p fn).length<=1048576:=by
 obtain ⟨⟨a1,a2⟩,⟨b1,b2⟩,⟨c1,c2⟩,⟨d1,d2⟩⟩:=dU p;unfold ej;split
 ·have:=vz (fun k=>(fk p (k:Int)).contains fn) p.fns.length;omega
 ·simp
theorem Mf {p:Src} (hw:b7 p<=1048576):(qt p).length<=1048576:=by
 obtain ⟨⟨a1,a2⟩,⟨b1,b2⟩,⟨c1,c2⟩,⟨d1,d2⟩⟩:=dU p;unfold qt;split
 ·have:=vz (fun k=>dX p (k:Int) (k:Int)) p.fns.length;omega
 ·simp
end Go.Im
namespace Go.Xg
open Go.RowKit Go.Xw Go.Proofs Tryz Go.Im
open GV (U)
open Go.Xp (T)
open Go.Sp (Src)
attribute [local irreducible] GW GL GO YG GC GA aU aW
theorem BA {S:List (List GV)} {o:List Int} {x:Int} (h:S=be o):S++[[.v (ii x)]]=be (o++[x]):=by rw [h];simp [be]
theorem AX {p:Src} {l:List T} {k:Nat} {f:Go.Sp.Fn} {t:T} (gy:de p=true) (hg:Go.Im.Good p l) (hf:p.fns[k]?=some f) (ht:l[k]?=some t):fk p (k:Int)=bS p t :=
 Ec (ry gy (bB hf).1) (hg.fn hf ht)
theorem Qg (p:Src) (hw:b7 p<=1048576) (hn:ma p) (fn:Int) :
  GC prog 17 [.agg (aq p),.v (ii fn)] [] fun g Δ=>∃ a c,g=.v (.slice a (ej p fn).length c)/\Δ=[.vech 3 1 (be (ej p fn)) (.slice a (ej p fn).length c)]:=by
 obtain ⟨⟨a1,a2⟩,⟨b1,b2⟩,⟨c1,c2⟩,⟨d1,d2⟩⟩:=dU p
 have mT:(p.fns.map aw).length=p.fns.length:=by simp
 have hH:=zO p fn hw hn;unfold ej
 cases hh:eG p fn with
 | false =>
  rw [hh] at hH;rw [ab aD];refine dh func17 ntmps17 ?_;refine GW.wk (Wk.gK 3 1) ?_;exact zci
 | true =>
  rw [hh] at hH;rw [ah rfl];have gy:=sQ hh;obtain ⟨l,hg⟩:=yK gy;have hlen:=hg.len;refine dh func17 ntmps17 ?_;refine GW.wk (Wk.gK 3 1) ?_;refine zd9 ?_;refine V [] hH ?_;refine GW.range (p.fns.map aw).length (fun k fr Γ=>∃ a c n S,fr=[U,.v (ii fn),.loc 1 0,U,U,.v (.slice a n c),U,U,U,U,U,U,.sl 3 (p.fns.map aw),.v (ii ((p.fns.map aw).length:Int)),.v (ii (k:Nat)),U,U,U,U,U,U,U,U,U,U,U,U,U]/\Γ=[.vech 3 1 S (.slice a n c),.box 28 (aq p)]/\S.length=n/\S=be (kL (fun k=>(fk p (k:Int)).contains fn) k)) ?_ X ?_ ?_ ?_
  ·exact ⟨_,_,Wk.aH ao,none,0,0,[],rfl,rfl,rfl,rfl⟩
  ·rintro k _ _ ⟨a,c,n,S,rfl,rfl,_⟩;exact dr
  ·rintro k _ _ au ⟨a,c,n,S,rfl,rfl,fG,hS⟩;rw [mT] at au;obtain ⟨f,hf⟩:∃ f,p.fns[k]?=some f:=⟨p.fns[k],by simp [au]⟩;obtain ⟨t,ht⟩:∃ t,l[k]?=some t:=⟨l[k]'X,bV _⟩;have hC:=yB p hw (hg.fn hf ht);have eh:=uY p t;have Eo:=rS (bS p t) fn X;have R9:=AX gy hg hf ht;have kU:=Am (fun k=>(fk p (k:Int)).contains fn) k;have cH:=vz (fun k=>(fk p (k:Int)).contains fn) k
   have uh:n<=1048576:=by rw [<-fG,hS,eK];omega
   simp only [R9] at kU;rw [kU];generalize kL (fun k=>(fk p (k:Int)).contains fn) k=o at *;generalize bS p t=ks at *
   cases hb:ks.contains fn with
   | true =>
    rw [hb] at Eo;rw [ah rfl];have ug:=BA (x:=(k:Int)) hS;refine zce ?_;refine V [] Eo ?_;exact zc3
   | false =>
    rw [hb] at Eo;rw [ab aD];refine zce ?_;refine V [] Eo ?_;exact zdl
  ·rintro _ _ ⟨a,c,n,S,rfl,rfl,fG,hS⟩;rw [mT] at hS
   have cS:n=(kL (fun k=>(fk p (k:Int)).contains fn) p.fns.length).length:=by rw [<-fG,hS,eK]
   generalize kL (fun k=>(fk p (k:Int)).contains fn) p.fns.length=o at *;exact za1
theorem Qf (p:Src) (hw:b7 p<=1048576) (fn:Int) :
  GF prog 18 [.agg (aq p),.v (ii fn)] [] (ints (ej p fn)) []:=by
 obtain ⟨⟨a1,a2⟩,⟨b1,b2⟩,⟨c1,c2⟩,⟨d1,d2⟩⟩:=dU p
 have mT:(p.fns.map aw).length=p.fns.length:=by simp
 have hG:=yI p hw;unfold ej
 cases hh:eG p fn with
 | false =>
  rw [ab aD];unfold eG at hh
  cases q3:de p with
  | false =>
   rw [q3] at hG;exact zcp
  | true =>
   rw [q3] at hG hh
   by_cases q1:0<=fn
   ·have r1:decide (fn < 0)=false:=by simpa using q1
    have r2:decide (((p.fns.map aw).length:Int)<=fn)=true:=by
     rw [mT];simp [q1] at hh;simpa using hh
    exact zcp
   ·have r1:decide (fn < 0)=true:=by simpa using q1
    exact zcp
 | true =>
  rw [ah rfl];have gy:=sQ hh;rw [gy] at hG;obtain ⟨i,l,f,t,rfl,h⟩:=mK hh;have hg:=h.good;have hlen:=hg.len;have hi:=(bB h.gf).1;have r1:decide ((i:Int) < 0)=false:=decide_eq_false X;have r2:decide (((p.fns.map aw).length:Int)<=(i:Int))=false:=decide_eq_false (by rw [mT];omega);refine ai func18 ntmps18 ?_;refine lL ?_;refine D ?_;refine V [] hG ?_;refine GW.range (p.fns.map aw).length (fun k fr Γ=>∃ n S,fr=[U,.v (ii (i:Nat)),.loc 0 0,U,U,.vec 1 n,U,U,U,U,U,U,U,U,U,U,U,U,U,U,U,U,U,U,.sl 3 (p.fns.map aw),.v (ii ((p.fns.map aw).length:Int)),.v (ii (k:Nat)),U,U,U,U,U,U,U,U,U,U,U,U,U]/\Γ=[.box 28 (aq p),.vec 3 1 0 S]/\S.length=n/\S=be (kL (fun k=>(fk p (k:Int)).contains (i:Int)) k)) ?_ X ?_ ?_ ?_
  ·exact ⟨_,_,Wk.aH ao,0,[],rfl,rfl,rfl,rfl⟩
  ·rintro k _ _ ⟨n,S,rfl,rfl,_⟩;exact dr
  ·rintro k _ _ au ⟨n,S,rfl,rfl,fG,hS⟩;rw [mT] at au;obtain ⟨f,hf⟩:∃ f,p.fns[k]?=some f:=⟨p.fns[k],by simp [au]⟩;obtain ⟨t,ht⟩:∃ t,l[k]?=some t:=⟨l[k]'X,bV _⟩;have hC:=zt p hw gy (hg.fn hf ht);have eh:=uY p t;have Eo:=Ab (bS p t) (i:Int) X;have R9:=AX gy hg hf ht;have kU:=Am (fun k=>(fk p (k:Int)).contains (i:Int)) k;have cH:=vz (fun k=>(fk p (k:Int)).contains (i:Int)) k
   have uh:n<=1048576:=by rw [<-fG,hS,eK];omega
   have hb8:n+1<=9223372036854775807/\(n+1) * 8<=140737488355328:=by omega
   simp only [R9] at kU;rw [kU];generalize kL (fun k=>(fk p (k:Int)).contains (i:Int)) k=o at *;generalize bS p t=ks at *
   cases hb:ks.contains (i:Int) with
   | true =>
    rw [hb] at Eo;rw [ah rfl];have ug:=BA (x:=(k:Int)) hS;refine D ?_;refine bA [] hC ?_;rintro _ _ ⟨a2,c2,rfl,rfl⟩;refine zf4 ?_;refine zby ?_;exact ⟨rfl,rfl,_,_,(Wk.cut (n:=2) (aS _) rfl).trans (Wk.aH ao),_,_,rfl,rfl,by simp [fG],ug⟩
   | false =>
    rw [hb] at Eo;rw [ab aD];refine D ?_;refine bA [] hC ?_;rintro _ _ ⟨a2,c2,rfl,rfl⟩;refine zf4 ?_;exact ⟨rfl,rfl,_,_,(Wk.cut (n:=2) (aS _) rfl).trans (Wk.aH ao),n,S,rfl,rfl,fG,hS⟩
  ·rintro _ _ ⟨n,S,rfl,rfl,fG,hS⟩;rw [mT] at hS;generalize kL (fun k=>(fk p (k:Int)).contains (i:Int)) p.fns.length=o at *;subst fG;refine zcC ?_;refine GW.wk (Wk.jY (t:=4) rfl rfl rfl rfl) ?_;refine bY ?_;exact ⟨by rw [hS];rfl,rfl⟩
theorem Sq (p:Src) (hw:b7 p<=1048576) (gy:de p=true) {l:List T} {i:Nat} {f:Go.Sp.Fn} {t:T} (h:kM p l i f t) :
  GF prog 59 [.agg (aq p),.v (ii (i:Nat))] [] (.v (.bool (dX p (i:Int) (i:Int)))) []:=by
 obtain ⟨⟨a1,a2⟩,⟨b1,b2⟩,⟨c1,c2⟩,⟨d1,d2⟩⟩:=dU p;have hi:=(bB h.gf).1;have hC:=yB p hw h;have hT:=G0 p hw h.good (bS p t) (sd p t);have hWl:=(B7 (p:=p) (l:=l) (p.fns.length+1) 0 _ (sd p t)).len
 have hH:GF prog 52 [ints (iT (qw p l (bS p t))),.v (ii (i:Nat))] [] (.v (.bool (dX p (i:Int) (i:Int)))) []:=by
  have:=rS (iT (qw p l (bS p t))) (i:Int) (by rw [pQ];unfold qw;omega);exact zfU
 generalize iT (qw p l (bS p t))=L at *;generalize bS p t=ks at *;generalize dX p (i:Int) (i:Int)=b at *;refine ai func59 ntmps59 ?_;exact zb7
theorem Uq (p:Src) (hw:b7 p<=1048576) (hn:ma p) :
  GC prog 22 [.agg (aq p)] [] fun g Δ=>∃ a c,g=.v (.slice a (qt p).length c)/\Δ=[.vech 3 1 (be (qt p)) (.slice a (qt p).length c)]:=by
 obtain ⟨⟨a1,a2⟩,⟨b1,b2⟩,⟨c1,c2⟩,⟨d1,d2⟩⟩:=dU p
 have mT:(p.fns.map aw).length=p.fns.length:=by simp
 have hG:=yJ p hw hn;unfold qt
 cases gy:de p with
 | false =>
  rw [gy] at hG;rw [ab aD];refine dh func22 ntmps22 ?_;refine GW.wk (Wk.gK 3 1) ?_;exact zaw
 | true =>
  rw [gy] at hG;rw [ah rfl];obtain ⟨l,hg⟩:=yK gy;have hlen:=hg.len;refine dh func22 ntmps22 ?_;refine GW.wk (Wk.gK 3 1) ?_;refine zd9 ?_;refine V [] hG ?_;refine GW.range (p.fns.map aw).length (fun k fr Γ=>∃ a c n S,fr=[U,.loc 1 0,U,.v (.slice a n c),U,U,U,U,U,.sl 3 (p.fns.map aw),.v (ii ((p.fns.map aw).length:Int)),.v (ii (k:Nat)),U,U,U,U,U,U,U,U,U,U,U]/\Γ=[.vech 3 1 S (.slice a n c),.box 28 (aq p)]/\S.length=n/\S=be (kL (fun k=>dX p (k:Int) (k:Int)) k)) ?_ X ?_ ?_ ?_
  ·exact ⟨_,_,Wk.aH ao,none,0,0,[],rfl,rfl,rfl,rfl⟩
  ·rintro k _ _ ⟨a,c,n,S,rfl,rfl,_⟩;exact dr
  ·rintro k _ _ au ⟨a,c,n,S,rfl,rfl,fG,hS⟩;rw [mT] at au;obtain ⟨f,hf⟩:∃ f,p.fns[k]?=some f:=⟨p.fns[k],by simp [au]⟩;obtain ⟨t,ht⟩:∃ t,l[k]?=some t:=⟨l[k]'X,bV _⟩;have hC:=Sq p hw gy (hg.fn hf ht);have kU:=Am (fun k=>dX p (k:Int) (k:Int)) k;have cH:=vz (fun k=>dX p (k:Int) (k:Int)) k
   have uh:n<=1048576:=by rw [<-fG,hS,eK];omega
   rw [kU];generalize kL (fun k=>dX p (k:Int) (k:Int)) k=o at *
   cases hb:dX p (k:Int) (k:Int) with
   | true =>
    rw [hb] at hC;rw [ah rfl];have ug:=BA (x:=(k:Int)) hS;refine zce ?_;exact zc3
   | false =>
    rw [hb] at hC;rw [ab aD];refine zce ?_;exact zdl
  ·rintro _ _ ⟨a,c,n,S,rfl,rfl,fG,hS⟩;rw [mT] at hS
   have cS:n=(kL (fun k=>dX p (k:Int) (k:Int)) p.fns.length).length:=by rw [<-fG,hS,eK]
   generalize kL (fun k=>dX p (k:Int) (k:Int)) p.fns.length=o at *;exact za1
end Go.Xg
namespace Go.Im
open Go.Xp Go.Sp
theorem OY {p:Src} {fn x:Int} (h:x∈fk p fn):x∈cZ p fn:=by
 unfold fk at h;unfold cZ
 by_cases hh:eG p fn=true
 ·rw [ah hh] at h |-
  cases hb:jX p.nodes p.fns 0 [] with
  | none=>rw [hb] at h;simp at h
  | some q =>
   obtain ⟨l,n⟩:=q;rw [hb] at h;exact Mu (mQ p l) _ 0 _ x h
 ·rw [ab hh] at h;simp at h
theorem H7 {p:Src} {fn x:Int} (hx:x∈ej p fn):(fk p x).contains fn=true/\dX p x fn=true:=by
 unfold ej at hx;split at hx
 ·unfold kL at hx;rw [vb] at hx;obtain ⟨k,hk,rfl⟩:=hx;have hc:(fk p (k:Int)).contains fn=true:=(List.mem_filter.1 hk).2;exact ⟨hc,ea.2 (OY (ea.1 hc))⟩
 ·simp at hx
theorem Ig {p:Src} {fn:Int} (h:(qt p).contains fn=true):dX p fn fn=true/\0 < (ej p fn).length:=by
 have hm:=ea.1 h;unfold qt at hm
 by_cases hg:de p=true
 ·rw [ah hg] at hm;unfold kL at hm;rw [vb] at hm;obtain ⟨k,hk,rfl⟩:=hm;obtain ⟨qV,sT⟩:=List.mem_filter.1 hk;have qV:=List.mem_range.1 qV;refine ⟨sT,?_⟩;have py:((k:Nat):Int)∈cZ p (k:Int):=ea.1 sT;unfold cZ at py;rw [ah (ry hg qV)] at py
  cases hb:jX p.nodes p.fns 0 [] with
  | none=>rw [hb] at py;simp at py
  | some q =>
   obtain ⟨l,n⟩:=q;rw [hb] at py;have key:=AV (mQ p l) (fun x=>(0<=x/\x < (p.fns.length:Int))/\∃ j:Nat,j < p.fns.length/\x∈mQ p l (j:Int)) (fun x hx y hy=>⟨yD p l x y hy,x.toNat,by omega,by rw [Int.toNat_of_nonneg hx.1.1];exact hy⟩) _ 0 (mQ p l (k:Int)) (fun x hx=>⟨yD p l _ x hx,k,qV,hx⟩) _ py;obtain ⟨-,j,hj,hjm⟩:=key
   have hcj:fk p (j:Int)=mQ p l (j:Int):=by unfold fk;rw [ah (ry hg hj),hb]
   have:((j:Nat):Int)∈ej p (k:Int):=by
    unfold ej;rw [ah (ry hg qV)];unfold kL;exact vb.2 ⟨j,List.mem_filter.2 ⟨List.mem_range.2 hj,by rw [hcj];exact ea.2 hjm⟩,rfl⟩
   exact List.length_pos_of_mem this
 ·rw [ab hg] at hm;simp at hm
end Go.Im
namespace Go.Im
open Go.Sp
theorem OK {p:Src} (hw:b7 p<=1048576) (fn:Int):(fk p fn).length<=1048576:=by
 have:=(sF p).2.2.1;unfold fk;split
 ·split
  ·rename_i l n h;have:=(MF p l fn).len;omega
  ·exact aS _
 ·exact aS _
end Go.Im
namespace Go.Xg
open Go.RowKit Go.Xw Go.Proofs Tryz Go.Sp Go.Im
open GV (U)
attribute [local irreducible] GW GL GO YG GC GA aU aW
theorem XZ (p:Src) (hw:b7 p<=1048576) (hn:ma p) (fn:Int):GF prog 20 [.agg (aq p),.v (ii fn)] [] (ints (fk p fn)) []:=by
 have hH:=zO p fn hw hn
 cases hh:eG p fn with
 | false =>
  rw [hh] at hH;rw [QK hh];refine ai func20 ntmps20 ?_;refine V [] hH ?_;refine ZB ?_;exact ⟨ints [],jw,rfl,rfl⟩
 | true =>
  rw [hh] at hH;obtain ⟨i,l,f,t,rfl,hf⟩:=mK hh;rw [Ec hh hf];have hC:=yB p hw hf;refine ai func20 ntmps20 ?_;refine V [] hH ?_;exact zfx
theorem LD (code:ae):GF prog 4 [.sl 1 (bN code)] [] (.v (.bool true)) []:=by
 have kO:=vf code
 rcases Nat.lt_or_ge 1048576 code.length with au | kP
 ·have hd:decide ((1048576:Int) < ((bN code).length:Int))=true:=decide_eq_true X;refine ai func4 ntmps4 ?_;exact al
 ·have hd:decide ((1048576:Int) < ((bN code).length:Int))=false:=decide_eq_false X;refine ai func4 ntmps4 ?_;refine bA [] (H3 code X) ?_;rintro _ _ ⟨rfl,p,fn,hw,hn,hz,rfl⟩;refine bF ?_;have hI:=GC.Iu (Qg p hw hn fn);have hG:=Qf p hw fn;have hRo:=GC.Iu (Uq p hw hn);have Bh:=@IV p fn hw;have r6:=@Mf p hw;have hmc:(be (ej p fn)).length=(ej p fn).length:=bM _
  have cj:(((be (ej p fn)).length:Int) != ((be (ej p fn)).length:Int))=false:=by simp
  refine D ?_;refine V [] hI ?_;refine V [] hG ?_;refine GW.range (be (ej p fn)).length (fun k fr Γ=>fr=[U,U,U,.loc 0 0,.v (ii fn),.sl 1 (be (ej p fn)),U,U,U,U,U,U,U,U,U,U,U,U,U,U,U,U,U,U,U,U,.sl 1 (be (ej p fn)),.v (ii ((be (ej p fn)).length:Int)),.v (ii (k:Nat)),U,U,U,U,U,U,U,U,U,U,U,U,U,U,U,U,U,U,U,U,U,U,U,U,U,U,U,U,U,U,U,U,U]/\Γ=[.box 28 (aq p)]) ?_ X ?_ ?_ ?_
  ·exact jo
  ·rintro k _ _ ⟨rfl,rfl⟩;exact dr
  ·rintro k _ _ hk ⟨rfl,rfl⟩;rw [hmc] at hk;obtain ⟨x,hx⟩:∃ x,(ej p fn)[k]?=some x:=⟨(ej p fn)[k],bV hk⟩
   have hr:(be (ej p fn))[k]?=some [.v (ii x)]:=by unfold be;rw [bp,hx];rfl
   obtain ⟨u1,u2⟩:=H7 (bo hx);have hC:=XZ p hw hn x;have hH:=DA (fk p x) fn (by have:=OK hw x;omega);rw [u1] at hH;have hM:=B1 p hw hn x fn;rw [u2] at hM;refine zce ?_;refine V [] hH ?_;refine V [] hM ?_;exact zbm
  ·rintro _ _ ⟨rfl,rfl⟩;refine bc ?_;have hH:=DA (qt p) fn X
   cases hb:(qt p).contains fn with
   | false =>
    rw [hb] at hH;refine D ?_;refine V [] hRo ?_;refine V [] hH ?_;exact al
   | true =>
    rw [hb] at hH;obtain ⟨u1,u2⟩:=Ig hb;have hM:=B1 p hw hn fn fn;rw [u1] at hM;have DB:decide ((0:Int) < ((be (ej p fn)).length:Int))=true:=decide_eq_true X;refine D ?_;refine V [] hRo ?_;refine V [] hH ?_;refine V [] hM ?_;exact zeH
end Go.Xg
