/- Part 9 of proofs that are told in their last texts. -/
import Derived.Test.YtcoplmnahnipiaaGreatDoorZ8
set_option linter.unusedVariables false
set_option linter.unusedSimpArgs false
set_option maxRecDepth 100000
set_option maxHeartbeats 4000000
namespace Go.Im
open Go.Xp Go.Sp
def gS (f:Nat->Bool) (k:Nat):List Int:=((List.range k).filter f).map fun i=>((i:Nat):Int)
theorem rD (f:Nat->Bool) (k:Nat):gS f (k+1)=if f k=true then gS f k++[((k:Nat):Int)] else gS f k:=by
 unfold gS;rw [List.range_succ,List.filter_append,List.map_append];show _++List.map _ (List.filter f [k])=_;rw [List.filter_cons];split <;> simp
theorem oP (f:Nat->Bool) (k:Nat):(gS f k).length<=k:=by
 unfold gS;rw [List.length_map];have:=List.length_filter_le f (List.range k);rw [List.length_range] at this;exact this
def lA (p:Src) (fn:Int):List Int:=if mJ p fn=true then gS (fun k=>(iT p (k:Int)).contains fn) p.fns.length else []
def nu (p:Src):List Int:=if gP p=true then gS (fun k=>fA p (k:Int) (k:Int)) p.fns.length else []
theorem DU {p:Src} {fn:Int} (hw:dN p<=1048576):(lA p fn).length<=1048576:=by
 obtain ⟨⟨a1,a2⟩,⟨b1,b2⟩,⟨c1,c2⟩,⟨d1,d2⟩⟩:=eJ p;unfold lA;split
 ·have:=oP (fun k=>(iT p (k:Int)).contains fn) p.fns.length;omega
 ·simp
theorem GX {p:Src} (hw:dN p<=1048576):(nu p).length<=1048576:=by
 obtain ⟨⟨a1,a2⟩,⟨b1,b2⟩,⟨c1,c2⟩,⟨d1,d2⟩⟩:=eJ p;unfold nu;split
 ·have:=oP (fun k=>fA p (k:Int) (k:Int)) p.fns.length;omega
 ·simp
end Go.Im
namespace Go.Xg
open Go.RowKit Go.Xw Go.Proofs
open Go.Xp (Nd T Ar aO az cx)
open Go.Sp (Src)
open Go.Im
attribute [local irreducible] GW GL GO YG GC GA aW aZ
theorem th {S:List (List GV)} {o:List Int} {x:Int} (h:S=bp o):S++[[.v (ii x)]]=bp (o++[x]):=by rw [h];simp [bp]
theorem wF {p:Src} {l:List T} {k:Nat} {f:Go.Sp.Fn} {t:T} (ml:gP p=true) (hg:Go.Im.Good p l) (hf:p.fns[k]?=some f) (ht:l[k]?=some t):iT p (k:Int)=bq p t :=
 I4 (BB ml (List.getElem?_eq_some_iff.1 hf).1) (hg.fn hf ht)
theorem Kn (p:Src) (hw:dN p<=1048576) (hn:ra p) (fn:Int) :
  GC Tryz.prog 18 [.agg (av p),.v (ii fn)] [] fun g Δ=>∃ a c,g=.v (.slice a (lA p fn).length c)/\Δ=[.vech 3 1 (bp (lA p fn)) (.slice a (lA p fn).length c)]:=by
 obtain ⟨⟨a1,a2⟩,⟨b1,b2⟩,⟨c1,c2⟩,⟨d1,d2⟩⟩:=eJ p
 have oI:(p.fns.map au).length=p.fns.length:=by simp
 have hH:=OH p fn hw hn;unfold lA
 cases hh:mJ p fn with
 | false =>
  rw [hh] at hH;rw [if_neg (by decide)];refine da Tryz.func18 Tryz.ntmps18 ?_;refine GW.wk (Wk.mP 3 1) ?_;simp only [List.nil_append];refine ae ?_;refine ab [] (hH) ?_
  (repeat (first | refine GW.ret ?_ | refine cr ?_ | refine cn ?_ | refine aK ?_ | refine bS ?_))
  exact o7 (n:=1) rfl (by first | exact .inr rfl | exact .inl rfl) rfl (Nat.le_of_ble_eq_true rfl) rfl rfl ⟨none,0,rfl,rfl⟩
 | true =>
  rw [hh] at hH;rw [if_pos rfl];have ml:=CE hh;obtain ⟨l,hg⟩:=xS ml;have hlen:=hg.len;refine da Tryz.func18 Tryz.ntmps18 ?_;refine GW.wk (Wk.mP 3 1) ?_;simp only [List.nil_append];refine ae ?_;refine ab [] (hH) ?_;refine GW.range (p.fns.map au).length (fun k fr Γ=>∃ a c n S,fr=[.U,.v (ii fn),.loc 1 0,.U,.U,.v (.slice a n c),.U,.U,.U,.U,.U,.U,.sl 3 (p.fns.map au),.v (ii ((p.fns.map au).length:Int)),.v (ii (k:Nat)),.U,.U,.U,.U,.U,.U,.U,.U,.U,.U,.U,.U,.U]/\Γ=[.vech 3 1 S (.slice a n c),.box 34 (av p)]/\S.length=n/\S=bp (gS (fun k=>(iT p (k:Int)).contains fn) k)) ?_ ah ?_ ?_ ?_
  ·exact ⟨_,_,Wk.ax ao,none,0,0,[],rfl,rfl,rfl,rfl⟩
  ·rintro k _ _ ⟨a,c,n,S,rfl,rfl,_⟩;exact ⟨rfl,rfl,rfl⟩
  ·rintro k _ _ ar ⟨a,c,n,S,rfl,rfl,eO,hS⟩;rw [oI] at ar;obtain ⟨f,hf⟩:∃ f,p.fns[k]?=some f:=⟨p.fns[k],by simp [ar]⟩;obtain ⟨t,ht⟩:∃ t,l[k]?=some t:=⟨l[k]'ah,List.getElem?_eq_getElem _⟩;have hC:=Bj p hw (hg.fn hf ht);have eW:=qu p t;have Ac:=tH (bq p t) fn ah;have Mb:=wF ml hg hf ht;have jW:=rD (fun k=>(iT p (k:Int)).contains fn) k;have cE:=oP (fun k=>(iT p (k:Int)).contains fn) k
   have qL:n<=1048576:=by rw [<-eO,hS,c8];omega
   simp only [Mb] at jW;rw [jW];generalize gS (fun k=>(iT p (k:Int)).contains fn) k=o at *;generalize bq p t=ks at *
   cases hb:ks.contains fn with
   | true =>
    rw [hb] at Ac;rw [if_pos rfl];have oJ:=th (x:=(k:Int)) hS;refine ae ?_;refine ab [] (hC) ?_;refine ab [] (Ac) ?_;refine GL.jA 0 rfl rfl rfl rfl rfl rfl rfl rfl (by first | rfl | assumption) ⟨⟨by omega,by omega⟩,by decide⟩ ?_;intro a2 c2;refine bK ?_;refine ae ?_;exact ⟨rfl,rfl,_,_,Wk.ax ao,a2,c2,_,_,rfl,rfl,by simp [eO],oJ⟩
   | false =>
    rw [hb] at Ac;rw [if_neg (by decide)];refine ae ?_;refine ab [] (hC) ?_;refine ab [] (Ac) ?_;exact ⟨rfl,rfl,_,_,Wk.ax ao,a,c,n,S,rfl,rfl,eO,hS⟩
  ·rintro _ _ ⟨a,c,n,S,rfl,rfl,eO,hS⟩;rw [oI] at hS
   have bT:n=(gS (fun k=>(iT p (k:Int)).contains fn) p.fns.length).length:=by rw [<-eO,hS,c8]
   generalize gS (fun k=>(iT p (k:Int)).contains fn) p.fns.length=o at *;subst bT;subst hS;refine aK ?_;refine ae ?_
   (repeat (first | refine GW.ret ?_ | refine cr ?_ | refine cn ?_ | refine aK ?_ | refine bS ?_))
   exact o7 (n:=1) rfl (by first | exact .inr rfl | exact .inl rfl) rfl (Nat.le_of_ble_eq_true rfl) rfl rfl ⟨a,c,rfl,rfl⟩
theorem Km (p:Src) (hw:dN p<=1048576) (fn:Int) :
  GF Tryz.prog 17 [.agg (av p),.v (ii fn)] [] (ints (lA p fn)) []:=by
 obtain ⟨⟨a1,a2⟩,⟨b1,b2⟩,⟨c1,c2⟩,⟨d1,d2⟩⟩:=eJ p
 have oI:(p.fns.map au).length=p.fns.length:=by simp
 have hG:=Bz p hw;unfold lA
 cases hh:mJ p fn with
 | false =>
  rw [if_neg (by decide)];unfold mJ at hh
  cases q3:gP p with
  | false =>
   rw [q3] at hG;refine aj Tryz.func17 Tryz.ntmps17 ?_;refine bE ?_;refine ae ?_;refine ab [] (hG) ?_;exact aq
  | true =>
   rw [q3] at hG hh
   by_cases q1:0<=fn
   ·have r1:decide (fn < 0)=false:=by simpa using q1
    have r2:decide (((p.fns.map au).length:Int)<=fn)=true:=by
     rw [oI];simp [q1] at hh;simpa using hh
    refine aj Tryz.func17 Tryz.ntmps17 ?_;refine bE ?_;refine ae ?_;refine ab [] (hG) ?_;exact aq
   ·have r1:decide (fn < 0)=true:=by simpa using q1
    refine aj Tryz.func17 Tryz.ntmps17 ?_;refine bE ?_;refine ae ?_;refine ab [] (hG) ?_;exact aq
 | true =>
  rw [if_pos rfl];have ml:=CE hh;rw [ml] at hG;obtain ⟨i,l,f,t,rfl,h⟩:=RL hh;have hg:=h.good;have hlen:=hg.len;have hi:=(List.getElem?_eq_some_iff.1 h.gf).1;have r1:decide ((i:Int) < 0)=false:=decide_eq_false ah;have r2:decide (((p.fns.map au).length:Int)<=(i:Int))=false:=decide_eq_false (by rw [oI];omega);refine aj Tryz.func17 Tryz.ntmps17 ?_;refine lY ?_;refine ae ?_;refine ab [] (hG) ?_;refine GW.range (p.fns.map au).length (fun k fr Γ=>∃ n S,fr=[.U,.v (ii (i:Nat)),.loc 0 0,.U,.U,.vec 1 n,.U,.U,.U,.U,.U,.U,.U,.U,.U,.U,.U,.U,.U,.U,.U,.U,.U,.U,.sl 3 (p.fns.map au),.v (ii ((p.fns.map au).length:Int)),.v (ii (k:Nat)),.U,.U,.U,.U,.U,.U,.U,.U,.U,.U,.U,.U,.U]/\Γ=[.box 34 (av p),.vec 3 1 0 S]/\S.length=n/\S=bp (gS (fun k=>(iT p (k:Int)).contains (i:Int)) k)) ?_ ah ?_ ?_ ?_
  ·exact ⟨_,_,Wk.ax ao,0,[],rfl,rfl,rfl,rfl⟩
  ·rintro k _ _ ⟨n,S,rfl,rfl,_⟩;exact ⟨rfl,rfl,rfl⟩
  ·rintro k _ _ ar ⟨n,S,rfl,rfl,eO,hS⟩;rw [oI] at ar;obtain ⟨f,hf⟩:∃ f,p.fns[k]?=some f:=⟨p.fns[k],by simp [ar]⟩;obtain ⟨t,ht⟩:∃ t,l[k]?=some t:=⟨l[k]'ah,List.getElem?_eq_getElem _⟩;have hC:=u7 p hw ml (hg.fn hf ht);have eW:=qu p t;have Ac:=zy (bq p t) (i:Int) ah;have Mb:=wF ml hg hf ht;have jW:=rD (fun k=>(iT p (k:Int)).contains (i:Int)) k;have cE:=oP (fun k=>(iT p (k:Int)).contains (i:Int)) k
   have qL:n<=1048576:=by rw [<-eO,hS,c8];omega
   have Zb:n+1<=9223372036854775807/\(n+1) * 8<=140737488355328:=by omega
   simp only [Mb] at jW;rw [jW];generalize gS (fun k=>(iT p (k:Int)).contains (i:Int)) k=o at *;generalize bq p t=ks at *
   cases hb:ks.contains (i:Int) with
   | true =>
    rw [hb] at Ac;rw [if_pos rfl];have oJ:=th (x:=(k:Int)) hS;refine ae ?_;refine bO [] (hC) ?_;rintro _ _ ⟨a2,c2,rfl,rfl⟩;refine ct ?_;refine GL.wk (Wk.oo (t:=31) (i:=2) rfl rfl rfl) ?_;refine bK ?_;refine ae ?_;refine ab [] (Ac) ?_;refine dY ?_;refine ae ?_;exact ⟨rfl,rfl,_,_,(Wk.cut (n:=2) (Nat.zero_le _) rfl).trans (Wk.ax ao),_,_,rfl,rfl,by simp [eO],oJ⟩
   | false =>
    rw [hb] at Ac;rw [if_neg (by decide)];refine ae ?_;refine bO [] (hC) ?_;rintro _ _ ⟨a2,c2,rfl,rfl⟩;refine ct ?_;refine GL.wk (Wk.oo (t:=31) (i:=2) rfl rfl rfl) ?_;refine bK ?_;refine ae ?_;refine ab [] (Ac) ?_;exact ⟨rfl,rfl,_,_,(Wk.cut (n:=2) (Nat.zero_le _) rfl).trans (Wk.ax ao),n,S,rfl,rfl,eO,hS⟩
  ·rintro _ _ ⟨n,S,rfl,rfl,eO,hS⟩;rw [oI] at hS;generalize gS (fun k=>(iT p (k:Int)).contains (i:Int)) p.fns.length=o at *;subst eO;refine aK ?_;refine ae ?_;refine GW.wk (Wk.iv (t:=4) rfl rfl rfl rfl) ?_;refine bI ?_;exact ⟨by rw [hS];rfl,rfl⟩
end Go.Xg
