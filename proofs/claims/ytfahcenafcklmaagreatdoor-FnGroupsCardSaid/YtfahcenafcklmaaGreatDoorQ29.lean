/- Part 29 of proofs that are told in their last texts. -/
import Derived.Test.YtfahcenafcklmaaGreatDoorQ8
import Derived.Test.YtfahcenafcklmaaGreatDoorQ11
import Derived.Test.YtfahcenafcklmaaGreatDoorQ9
import Derived.Test.YtfahcenafcklmaaGreatDoorQ14
import Derived.Test.YtfahcenafcklmaaGreatDoorQ6
open List (cons_append getElem?_cons_succ length_cons length_nil map_nil mem_singleton set_cons_succ)
set_option linter.unusedVariables false
set_option linter.unusedSimpArgs false
set_option maxRecDepth 100000
set_option maxHeartbeats 4000000
namespace Go
theorem zbM {A B:Prop} (h:B) (s:PLift B->A:=by intro hQ;refine GW.seq ?_;refine GW.region ?_;refine GL.IU rfl rfl ?_;exact hQ.1):A:=s ⟨h⟩
end Go
namespace Go.Xg
open Go.RowKit Go.Xw Go.Proofs Tryz Go.Sp Go.Im
def DrR (g:GV) (Δ:List Ob):Prop:=Δ=[]/\∃ p:Src,b7 p<=1048576/\ma p/\g=.agg (aq p)
attribute [local irreducible] GW GL GO YG GC GA aU aW pE sI qJ
theorem Iy (code:ae) (hl:code.length<=1099511627776):GC prog 23 [.sl 1 (bN code)] [] DrR:=by
 refine ai func23 ntmps23 ?_;refine bA [] (DN code hl) ?_;rintro _ _ ⟨h,rfl,rfl⟩;refine zas ?_;refine bA [1] (yg code hl ⟨0,h⟩ (aS _)) ?_;rintro _ _ ⟨c1,p,i1,hw,hn,rfl,rfl⟩;refine zas ?_;refine gY ?_;exact ⟨rfl,p,hw,hn,rfl⟩
end Go.Xg
namespace Go.Xg
open Go.RowKit Go.Xw Go.Proofs Tryz Go.Im
open GV (U)
open Go.Xp (T)
open Go.Sp (Src)
attribute [local irreducible] GW GL GO YG GC GA aU aW
theorem SM (p:Src) (hw:b7 p<=1048576) (gy:de p=true) {l:List T} {i0:Nat} {f0:Go.Sp.Fn} {t0:T} (h0:kM p l i0 f0 t0) :
  GF prog 115 [.agg (aq p),.v (ii (i0:Nat))] [] (ints (qw p l (bS p t0))) []:=by
 obtain ⟨⟨a1,a2⟩,⟨b1,b2⟩,⟨c1,c2⟩,⟨d1,d2⟩⟩:=dU p;have hlen:=h0.good.len;have hg:=h0.good;have hL:=sd p t0;have wT:=hL.len;have hC0:=zt p hw gy h0;generalize bS p t0=L0 at *;obtain ⟨N,hN⟩:∃ N,p.fns.length=N:=⟨_,rfl⟩;have Bj:=eK L0;refine ai func115 ntmps115 ?_;refine bA [] hC0 ?_;rintro _ _ ⟨ad,cp,rfl,rfl⟩;refine zas ?_;refine GW.loop (fun s:Nat × List Int=>N - s.1) (fun s fr Γ=>∃ a c n S,fr=[U,U,.loc 0 0,U,U,.v (.slice a n c),.v (ii (s.1:Nat)),U,U,U,U,U,U,U,U,U,U,U,U,U,U,U,U,U,U,U,U,U,U,U,U,U,U,U,U,U,U,U,U]/\Γ=[.box 28 (aq p),.vech 3 1 S (.slice a n c)]/\S.length=n/\S=be s.2/\Trail p s.2/\s.1<=s.2.length/\oM (mQ p l) (N+1 - s.1) s.1 s.2=qw p l L0) (0,L0) ?_ ?_
 ·exact ⟨_,_,Wk.aH ao,ad,cp,_,_,rfl,rfl,Bj,rfl,hL,aS _,by rw [<-hN];rfl⟩
 rintro ⟨i,L⟩ _ _ ⟨a,c,n,S,rfl,rfl,fG,hS,hW,hi,he⟩;simp only at hS hW hi he;have nS:=hW.len
 have uj:n=L.length:=by rw [<-fG,hS,eK]
 by_cases au:i < L.length
 ·have hd:decide ((i:Int) < (n:Int))=true:=decide_eq_true X;obtain ⟨x,hx⟩:∃ x,L[i]?=some x:=⟨L[i],by simp [au]⟩
  have hrx:S[i]?=some [.v (ii x)]:=by rw [hS];unfold be;rw [bp,hx];rfl
  have vr:=hW.rng x (bo hx);obtain ⟨j,hj⟩:∃ j:Nat,x=(j:Int):=⟨x.toNat,by omega⟩;subst hj
  have qd:j < p.fns.length:=by omega
  obtain ⟨f,hf⟩:∃ f,p.fns[j]?=some f:=⟨p.fns[j],by simp [qd]⟩;obtain ⟨t,ht⟩:∃ t,l[j]?=some t:=⟨l[j]'X,bV _⟩;have hC:=zt p hw gy (hg.fn hf ht)
  have jL:mQ p l (j:Int)=bS p t:=by unfold mQ;rw [iK,ht]
  have kU:oM (mQ p l) (N+1 - (i+1)) (i+1) (addN L (bS p t))=qw p l L0:=by
   exact zf3
  have wR:=qp p t;have eh:=uY p t
  have R4:((bS p t).map fun i=>[GV.v (ii i)]).length=(bS p t).length:=by simp
  have C1:i+1<=(addN L (bS p t)).length:=by
   obtain ⟨m,hm⟩:=zw (bS p t) L;rw [hm,aL];omega
  generalize bS p t=ks at *;refine D ?_;refine aM (ax 0 5 (.q 7 (.a 5 (.q 6 .nil)))) ?_;refine aj ?_;refine OA rfl rfl ?_;refine bA [] hC ?_;rintro _ _ ⟨a2,c2,rfl,rfl⟩;refine ⟨by simp,?_⟩;refine GL.wk (Wk.tS (t:=23) (i:=2) rfl rfl rfl) ?_;refine zaL ?_;refine GW.range (ks.map fun i=>[GV.v (ii i)]).length (fun k fr Γ=>∃ a c n S B,fr=[U,U,.loc 0 0,U,U,.v (.slice a n c),.v (ii (i:Nat)),U,U,U,U,U,U,U,U,U,U,U,U,U,U,U,U,ints ks,.v (ii ((ks.map fun i=>[GV.v (ii i)]).length:Int)),.v (ii (k:Nat)),U,U,U,U,U,U,U,U,U,U,U,U,U]/\Γ=[.box 28 (aq p),.vech 3 1 S (.slice a n c),B]/\S.length=n/\S=be (addN L (ks.take k))) ?_ X ?_ ?_ ?_
  ·exact ⟨_,_,Wk.aH ao,a,c,n,S,_,rfl,rfl,fG,hS⟩
  ·rintro k _ _ ⟨a,c,n,S,B,rfl,rfl,_⟩;exact dr
  ·rintro k _ _ hk ⟨a,c,n,S,B,rfl,rfl,fG,hS⟩;rw [R4] at hk;obtain ⟨y,hy⟩:∃ y,ks[k]?=some y:=⟨ks[k],by simp [hk]⟩
   have hry:(ks.map fun i=>[GV.v (ii i)])[k]?=some [.v (ii y)]:=by rw [bp,hy];rfl
   have hWk:=hW.add (ks:=ks.take k) fun y hy=>wR y (List.mem_of_mem_take hy)
   have hWl:=hWk.len
   have En:GF prog 55 [.sl 1 S,.v (ii y)] [] (.v (.bool ((addN L (ks.take k)).contains y))) []:=by
    rw [hS];exact Ab (addN L (ks.take k)) y X
   have U9:=GP L ks k y hy
   have uh:n<=1048576:=by rw [<-fG,hS,eK];omega
   rw [U9]
   cases hb:(addN L (ks.take k)).contains y with
   | true =>
    rw [hb] at En;rw [ah rfl];refine D ?_;refine GL.borrow En (fun B K β w l hI hF=>fx (A:=[_]) (C:=[_]) hI hF rfl rfl) ?_;refine zaN ?_;exact ⟨rfl,rfl,_,_,Wk.aH ao,a,c,n,S,B,rfl,rfl,fG,hS⟩
   | false =>
    rw [hb] at En;rw [ab aD]
    have ug:be (addN L (ks.take k)++[y])=S++[[.v (ii y)]]:=by rw [hS];simp [be]
    rw [ug];clear hS;refine D ?_;refine GL.borrow En (fun B K β w l hI hF=>fx (A:=[_]) (C:=[_]) hI hF rfl rfl) ?_;refine zaN ?_;refine zai ?_;intro a2 c2;refine zaq ?_;exact ⟨rfl,rfl,_,_,Wk.aH ao,a2,c2,_,_,B,rfl,rfl,by simp [fG],rfl⟩
  ·rintro _ _ ⟨a,c,n,S,B,rfl,rfl,fG,hS⟩;rw [R4,c7] at hS;refine jl (bc ?_);refine D ?_;exact ⟨(i+1,addN L ks),⟨_,_,(Wk.cut (n:=2) (aS _) rfl).trans (Wk.aH ao),a,c,n,S,rfl,rfl,fG,hS,hW.add wR,C1,kU⟩,by show N - (i+1) < N - i;omega⟩
 ·have hd:decide ((i:Int) < (n:Int))=false:=decide_eq_false X;have hb:=IP (cs:=mQ p l) (f:=N+1 - i) (i:=i) (L:=L) X;rw [hb] at he;rw [<-he];subst hS;refine zbG ?_;refine GW.wk (Wk.tS (t:=4) (i:=1) rfl rfl rfl) ?_;exact al
theorem RA (p:Src) (hw:b7 p<=1048576) (gy:de p=true) {i:Nat} (hi:i < p.fns.length) :
  GF prog 115 [.agg (aq p),.v (ii (i:Nat))] [] (ints (cZ p (i:Int))) []:=by
 obtain ⟨i',l,f,t,he,h⟩:=mK (ry gy hi)
 have:i'=i:=by omega
 subst this;rw [xF (ry gy hi) h];exact SM p hw gy h
theorem UT (p:Src) (x:Int):(cZ p x).length<=p.fns.length:=(G8 (p:=p) (fn:=x)).len
theorem G7 (p:Src) (hw:b7 p<=1048576) (a b:Int):GF prog 55 [ints (cZ p a),.v (ii b)] [] (.v (.bool ((cZ p a).contains b))) []:=by
 obtain ⟨⟨a1,a2⟩,⟨b1,b2⟩,⟨c1,c2⟩,⟨d1,d2⟩⟩:=dU p;have:=UT p a;exact Ab (cZ p a) b X
theorem SN (p:Src) (hw:b7 p<=1048576) (gy:de p=true) {a b:Nat} (ha:a < p.fns.length) (hb:b < p.fns.length) :
  GF prog 61 [.agg (aq p),.v (ii (a:Nat)),.v (ii (b:Nat))] [] (.v (.bool (gP (cZ p) (a:Int) (b:Int)))) []:=by
 have hA:=RA p hw gy ha;have hB:=RA p hw gy hb;have WT:=G7 p hw (a:Int) (b:Int);have hHb:=G7 p hw (b:Int) (a:Int);unfold gP;generalize cZ p (a:Int)=La at *;generalize cZ p (b:Int)=Lb at *
 cases he:((a:Int)==(b:Int)) with
 | true =>
  rw [Bool.true_or];refine ai func61 ntmps61 ?_;exact al
 | false =>
  rw [Bool.false_or]
  cases I:La.contains (b:Int) with
  | false =>
   rw [I] at WT;rw [Bool.false_and];refine ai func61 ntmps61 ?_;refine V [] hA ?_;refine V [] WT ?_;exact al
  | true =>
   rw [I] at WT;rw [Bool.true_and];generalize Lb.contains (a:Int)=z at *;refine ai func61 ntmps61 ?_;refine V [] hA ?_;refine V [] WT ?_;refine V [] hB ?_;refine V [] hHb ?_;exact al
end Go.Xg
namespace Go.Im
open Go.Xp Go.Sp
theorem sO (p:Src):Wt (cZ p):=by
 intro a b hb c hc
 have ha:eG p a=true:=by
  cases h:eG p a with
  | true=>rfl
  | false=>rw [zJ h] at hb;cases hb
 have bG:eG p b=true:=by
  cases h:eG p b with
  | true=>rfl
  | false=>rw [zJ h] at hc;cases hc
 obtain ⟨i,l,f,t,rfl,h⟩:=mK ha
 have hF:∀ x,eG p x=true->cZ p x=qw p l (mQ p l x):=by
  intro x hx;unfold cZ;rw [ah hx,h.good.AB]
 rw [hF _ ha] at hb |-;rw [hF _ bG] at hc;have hw:=MF p l (i:Int);have Bh:=D8 (mQ p l) p.fns.length (yD p l) (p.fns.length+1) 0 (mQ p l (i:Int)) hw.nodup hw.rng zgb (fun j x hj=>by omega);exact AV (mQ p l) (fun x=>x∈qw p l (mQ p l (i:Int))) (fun x hx y hy=>Bh x hx y hy) _ 0 (mQ p l b) (fun x hx=>Bh b hb x hx) c hc
def cI (p:Src):List (List Int):=if de p=true then ft (cZ p) p.fns.length else []
theorem OO {p:Src} {a b:Int} (h:a≠b):(dX p a b&&dX p b a)=gP (cZ p) a b:=by
 unfold gP dX;rw [show (a==b)=false from by simpa using h,Bool.false_or]
theorem Jy:∀ (gs:List (List Int)) (i:Nat) (g:List Int) (x:Int),gs[i]?=some g->(gs.set i (g++[x])).flatten.length=gs.flatten.length+1
 | [],i,g,x,h=>by simp at h
 | a::r,0,g,x,h=>by
  cases h;simp only [List.set_cons_zero,List.flatten_cons,aL,length_cons,length_nil];omega
 | a::r,i+1,g,x,h=>by
  have:=Jy r i g x zgc;simp only [set_cons_succ,List.flatten_cons,aL];omega
theorem JD (F:Int->List Int):∀ n,(ft F n).flatten.length=n
 | 0=>rfl
 | n+1=>by
  have ih:=JD F n;rw [ft];unfold nK
  cases hg:xG F (ft F n) (n:Int) with
  | none=>simp only [List.flatten_append,aL,ih];rfl
  | some i =>
   unfold xG at hg;obtain ⟨hi,-⟩:=List.findIdx?_eq_some_iff_getElem.1 hg;have e:(ft F n)[i]?=some (ft F n)[i]:=bV hi;simp only;rw [e,Option.getD_some,Jy _ _ _ _ e,ih]
theorem PK {l:List Int} {x:Int} (h:l.Nodup) (hx:x ∉ l):(l++[x]).Nodup :=
 List.pairwise_append.2 ⟨h,List.pairwise_singleton _ _,fun a ha b hb e=>by rw [mem_singleton] at hb;subst hb;subst e;exact hx ha⟩
theorem Bb (F:Int->List Int):∀ n,∀ l∈ft F n,l.Nodup/\∀ x∈l,x < (n:Int)
 | 0=>by simp [ft]
 | n+1=>by
  have ih:=Bb F n;intro l hl;rw [ft] at hl;unfold nK at hl;split at hl
  ·rename_i i hi
   rcases List.mem_or_eq_of_mem_set hl with h | h
   ·exact zeI
   ·subst h
    cases hg:(ft F n)[i]? with
    | none=>refine ⟨by simp,fun x hx=>?_⟩;simp at hx;omega
    | some g =>
     obtain ⟨a,b⟩:=ih g (bo hg);rw [Option.getD_some];refine ⟨PK a fun h=>by have:=b _ h;omega,fun x hx=>?_⟩
     rcases mo hx with h | h
     ·have:=b x h;omega
     ·rw [mem_singleton] at h;omega
  ·rcases mo hl with h | h
   ·exact zeI
   ·rw [mem_singleton] at h;subst h;refine ⟨by simp,fun x hx=>?_⟩;simp at hx;omega
theorem MY {F:Int->List Int} (ht:Wt F) {n j i:Nat} {l:List Int} {f:Int} (hj:(ft F n)[j]?=some l) (hi:l[i]?=some f):f ∉ ((ft F n).take j).flatten++l.take i:=by
 have hv:=we ht n;have ki:f∈l:=bo hi;intro h
 rcases mo h with h | h
 ·rw [List.mem_flatten] at h;obtain ⟨m,hm,mT⟩:=h;obtain ⟨k,hk⟩:=List.getElem?_of_mem hm;have eh:=(bB hk).1;rw [gE] at eh;rw [List.getElem?_take_of_lt zgb] at hk;have I:=(hv.mem m (bo hk) f mT).2.2;have G:=(hv.mem l (bo hj) f ki).2.2;have:=hv.heads k j m l hk hj (Mg ht I (Fe G));omega
 ·obtain ⟨hn,-⟩:=Bb F n l (bo hj);have ue:=(bB hi).1
  have e:l=l.take i++f::l.drop (i+1):=by
   have I:=List.take_append_drop i l;rw [n5 ue,(bB hi).2] at I;exact I.symm
  rw [e] at hn;exact (List.pairwise_append.1 hn).2.2 f h f zf8 rfl
theorem RL {p:Src} {j i:Nat} {l:List Int} {f:Int} (hj:(cI p)[j]?=some l) (hi:l[i+1]?=some f):dX p (l.headD 0) f=true/\dX p f (l.headD 0)=true:=by
 unfold cI at hj
 by_cases hg:de p=true
 ·rw [ah hg] at hj;have hv:=we (sO p) p.fns.length;have hs:=(hv.mem l (bo hj) f (bo hi)).2.2
  rcases pB.1 hs with h | h
  ·exfalso;have uk:=MY (sO p) hj hi;refine uk (List.mem_append.2 (.inr ?_))
   cases l with
   | nil=>simp at hi
   | cons a r =>
    have:a=f:=h;rw [List.take_succ_cons,this];simp
  ·exact ⟨ea.2 h.1,ea.2 h.2⟩
 ·rw [ab hg] at hj;simp at hj
theorem O1 {p:Src} {j i:Nat} {l:List Int} {f:Int} (hj:(cI p)[j]?=some l) (hi:l[i]?=some f):(((cI p).take j).flatten++l.take i).contains f=false:=by
 unfold cI at hj |-
 by_cases hg:de p=true
 ·rw [ah hg] at hj |-
  cases hc:(((ft (cZ p) p.fns.length).take j).flatten++l.take i).contains f with
  | false=>rfl
  | true=>exact absurd (ea.1 hc) (MY (sO p) hj hi)
 ·rw [ab hg] at hj;simp at hj
theorem Ej {p:Src} (hg:de p=true):(cI p).flatten.length=p.fns.length:=by
 unfold cI;rw [ah hg];exact JD _ _
theorem G9 {p:Src} (hg:de p=false):cI p=[]:=by unfold cI;rw [ab (by rw [hg];decide)]
end Go.Im
namespace Go.Xg
open Go.RowKit Go.Xw Go.Proofs Tryz Go.Sp Go.Im
open Go.Xp (aB)
theorem GS {B:Bs} {K:Fz} {β:Bt} {Γ:List Ob} {w:World} {fr:List GV} {l:List Value} {x y:Operand} {E k i:Nat} {rows:List (List GV)} {h z:Value} (hI:Inv B K β Γ w) (hF:FR K β fr l) (bH:Γ[i]?=some (.vech E k rows h)) (hx:bq fr x=.v h) (hy:bq fr y=.v z) :
  ∃ K1,oI K1 w/\kY K1 (fun _=>.no) w/\bC K1 (fun _=>.no) ([x,y].map (ev l)) [.sl k rows,.v z]:=by
 obtain ⟨K1,hk,I,G,h3⟩:=hI.view bH;exact zcO
attribute [local irreducible] GW GL GO YG GC GA aU aW
theorem Ue (p:Src) (hw:b7 p<=1048576) (hn:ma p):∃ c z,GF prog 26 [.agg (aq p)] [] (.tup [.v (ii c),.v (ii z)]) []/\(c==0)=de p:=by
 obtain ⟨⟨a1,a2⟩,⟨b1,b2⟩,⟨c1,c2⟩,⟨d1,d2⟩⟩:=dU p;have hF:=GJ p hw hn
 cases hf:fI p with
 | false =>
  rw [hf] at hF;exact ⟨_,_,GH p hF,by rw [Dw hf];rfl⟩
 | true =>
  rw [hf] at hF;obtain ⟨l,hl⟩:=sM hf;have hlen:=ij.len hl.fns;have uj:=Af p;have lx:=AR hl
  have hc:=D3 p l (dL p) X hlen X hF (D6 p hw) (HY p X X fun a ha=>⟨(lx a ha).1,by have:=(lx a ha).2;omega⟩) fun i f t I G=>by
   obtain ⟨e1,_⟩:=ij.at_ hl.fns i f t I G;have h7:=ey.ix l 0 i _ hl.st G;rw [dJ] at e1 h7
   have hb:f.body.toNat=aB (l.take i):=by rw [e1,iK]
   exact zbw
  exact ⟨_,_,hc,(Ba hf hl).symm⟩
end Go.Xg
namespace Go.Xg
open Go.RowKit Go.Xw Go.Proofs Go.Im
def gC (gs:List (List Int)):List (List GV):=gs.map fun g=>[.sl 1 (be g)]
theorem Inv.WA {B:Bs} {K:Fz} {β:Bt} {w:World} {Γ:List Ob} {jf base:Nat} {T E:TypeId} {h:Value} {rows:List (List GV)} {gs:List (List Int)} {hd:Nat->Value} (hI:Inv B K β Γ w)
  (R3:Γ[jf]?=some (.vech T 1 rows h)) (hlen:rows.length=gs.length) (bD:∀ i,i < gs.length->rows[i]?=some [.v (hd i)])
  (iQ:∀ i (g:List Int),gs[i]?=some g->Γ[base+i]?=some (.vech E 1 (be g) (hd i))) (au:jf < base) :
  ∃ K1 Γ1,df K K1/\Inv B K1 β Γ1 w/\Γ1[jf]?=some (.vech T 1 (gC gs) h):=by
 obtain ⟨K',aZ,rows',a1,a2,a3,a4,a5,-⟩:=hI.KP (T:=T) (k:=1) (o:=0) (E:=E) (k':=1) (jf:=jf) (N:=gs.length) (h:=h) (raw:=fun i=>[.v (hd i)]) (fin:=fun i=>[.sl 1 (be (gs[i]?.getD []))]) (ks:=fun i=>be (gs[i]?.getD [])) (hd:=hd) (jp:=fun i=>base+i) R3 ⟨hlen,bD⟩
  (fun i hi=>⟨rfl,rfl⟩) (fun i hi=>by
   have hg:gs[i]?=some gs[i]:=bV hi;have:=iQ i _ hg;rw [this]
   simp only [hg,Option.getD_some]) (fun i hi=>by omega) (fun i i' _ _ h=>by omega)
 have he:rows'=gC gs:=by
  refine List.ext_getElem? fun i=>?_
  unfold gC;rw [bp]
  by_cases hi:i < gs.length
  ·rw [a5 i hi,bV hi];rfl
  ·rw [List.getElem?_eq_none X,List.getElem?_eq_none X];rfl
 subst he;exact ⟨K',aZ,a1,a2,a3⟩
theorem Inv.deep {B:Bs} {K:Fz} {β:Bt} {w:World} {Γ:List Ob} {jf base:Nat} {T E:TypeId} {h:Value} {rows:List (List GV)} {gs:List (List Int)} {hd:Nat->Value} (hI:Inv B K β Γ w)
  (R3:Γ[jf]?=some (.vech T 1 rows h)) (hlen:rows.length=gs.length) (bD:∀ i,i < gs.length->rows[i]?=some [.v (hd i)])
  (iQ:∀ i (g:List Int),gs[i]?=some g->Γ[base+i]?=some (.vech E 1 (be g) (hd i))) (au:jf < base) :
  ∃ K1,df K K1/\oI K1 w/\kY K1 (fun _=>.no) w/\Rel K1 (fun _=>.no) h (.sl 1 (gC gs)):=by
 obtain ⟨K',aZ,a1,a2,a3⟩:=hI.WA R3 hlen bD iQ au;obtain ⟨K1,b1,b2,b3,b4⟩:=a2.view a3;exact ⟨K1,a1.trans b1,b2,b3,b4⟩
open Tryz
open GV (U)
open Go.Sp (Src)
attribute [local irreducible] GW GL GO YG GC GA aU aW
theorem I1 (p:Src) (hw:b7 p<=1048576) (gy:de p=true) {a:Nat} (ha:a < p.fns.length) (z:Int) :
  GF prog 58 [.agg (aq p),.v (ii (a:Nat)),.v (ii z)] [] (.v (.bool (dX p (a:Int) z))) []:=by
 obtain ⟨i',l,f,t,he,h⟩:=mK (ry gy ha)
 have:i'=a:=by omega
 subst this;exact ME p hw gy h z
theorem RJ (p:Src) (hw:b7 p<=1048576) (gy:de p=true) {a k:Nat} (ha:a < p.fns.length) (hk:k < p.fns.length) (r:List Int) :
  GF prog 114 [.sl 1 (be ((a:Int)::r)),.box (aq p) 0,.box [.v (ii (k:Nat))] 0] [] (.v (.bool (dX p (a:Int) (k:Int)&&dX p (k:Int) (a:Int)))) []:=by
 have hA:=I1 p hw gy ha (k:Int);have hB:=I1 p hw gy hk (a:Int);have hr:(be ((a:Int)::r))[0]?=some [.v (ii (a:Int))]:=rfl
 have Na:0 < (be ((a:Int)::r)).length:=by simp [be]
 generalize be ((a:Int)::r)=R at *
 cases I:dX p (a:Int) (k:Int) with
 | false =>
  rw [I] at hA;rw [Bool.false_and];refine ai func114 ntmps114 ?_;refine zfG ?_;exact ay
 | true =>
  rw [I] at hA;rw [Bool.true_and];generalize dX p (k:Int) (a:Int)=z at *;refine ai func114 ntmps114 ?_;refine zfG ?_;refine bZ [] hB ?_;exact ay
theorem IG {p8:FuncId} [aO prog p8] (pr:List Int->Bool) (c1 c2:List GV) (ls:List (List Int)) (hn:ls.length<=1099511627776) (hc:∀ l∈ls,GF prog p8 [.sl 1 (be l),.box c1 0,.box c2 0] [] (.v (.bool (pr l))) []) :
  GF prog 70 [.sl 1 (gC ls),.fn (.func p8) [] [.box c1 0,.box c2 0]] [] (.v (ii (du pr ls))) []:=by
 have dS:(gC ls).length=ls.length:=by simp [gC]
 refine ai func70 ntmps70 ?_;refine GW.range (gC ls).length (fun k fr Γ=>fr=[.sl 1 (gC ls),.fn (.func p8) [] [.box c1 0,.box c2 0],U,U,U,U,U,.v (ii ((gC ls).length:Int)),.v (ii (k:Nat)),U,U,U,U,U,U,U,U,U,U]/\Γ=[]/\(ls.take k).all (fun y=>!pr y)=true) ?_ X ?_ ?_ ?_
 ·exact lN
 ·exact jn
 ·rintro k _ _ au ⟨rfl,rfl,bj⟩;rw [dS] at au;obtain ⟨x,dE⟩:∃ x,ls[k]?=some x:=⟨ls[k],by simp [au]⟩
  have hr:(gC ls)[k]?=some [.sl 1 (be x)]:=by unfold gC;rw [bp,dE];rfl
  have h:=hc x (bo dE);have cl:=od (f:=pr) dE
  have hit:=fun h0=>nQ (f:=pr) dE h0 bj
  generalize be x=aeJ at *
  cases hb:pr x with
  | true =>
   exact zcA
  | false =>
   exact zdc
 ·rintro _ _ ⟨rfl,rfl,bj⟩;exact zbk
end Go.Xg
namespace Go.Xg
open Go.RowKit Go.Xw Go.Proofs Tryz Go.Im
open GV (U)
def jT (gs:List (List Int)) (hs:List Value):List Ob:=List.zipWith (fun g h=>Ob.vech 3 1 (be g) h) gs hs
def nu (hs:List Value):List (List GV):=hs.map fun h=>[.v h]
def tG (gs:List (List Int)) (h:Value) (hs:List Value):List Ob:=.vech 36 1 (nu hs) h::jT gs hs
structure xu (gs:List (List Int)) (h:Value) (hs:List Value):Prop where
 head:∃ a c,h=.slice a gs.length c
 len:hs.length=gs.length
 kid:∀ (i:Nat) g x,gs[i]?=some g->hs[i]?=some x->∃ a c,x=.slice a g.length c
theorem Sv {gs:List (List Int)} {hs:List Value} (h:hs.length=gs.length):(jT gs hs).length=gs.length:=by simp [jT,h]
theorem Ct (hs:List Value):(nu hs).length=hs.length:=by simp [nu]
theorem xL {gs:List (List Int)} {hs:List Value} {i:Nat} {g:List Int} {h:Value} (hg:gs[i]?=some g) (hh:hs[i]?=some h):(jT gs hs)[i]?=some (.vech 3 1 (be g) h):=by
 unfold jT;rw [List.getElem?_zipWith,hg,hh]
theorem Su {gs:List (List Int)} {hs:List Value}:∀ x∈jT gs hs,x.vP=true:=fun x hx=>by
 unfold jT at hx;obtain ⟨i,hi⟩:=List.mem_iff_getElem?.1 hx;rw [List.getElem?_zipWith] at hi;split at hi
 ·cases hi;rfl
 ·cases hi
theorem Co {gs:List (List Int)} {h:Value} {hs:List Value}:∀ x∈tG gs h hs,x.vP=true:=fun x hx=>by
 rcases fh hx with rfl | hx
 ·rfl
 ·exact Su x hx
theorem HI (A:List Ob) (x y:Ob):oset (A++[x]) A.length y=A++[y]:=by
 induction A with
 | nil=>rfl
 | cons a A ih=>simp only [cons_append,length_cons,oset,ih]
theorem zZ:∀ {gs:List (List Int)} {hs:List Value} (g:List Int) (h:Value),hs.length=gs.length->jT gs hs++[.vech 3 1 (be g) h]=jT (gs++[g]) (hs++[h])
 | [],[],g,h,_=>rfl
 | x::gs,y::hs,g,h,hl=>by
  have:=zZ (gs:=gs) (hs:=hs) g h zge;unfold jT at this |-;simp only [cons_append,List.zipWith_cons_cons,this]
 | [],y::hs,g,h,hl=>by simp at hl
 | x::gs,[],g,h,hl=>by simp at hl
theorem BD:∀ (gs:List (List Int)) (hs:List Value) (i:Nat) (g:List Int) (h:Value),oset (jT gs hs) i (.vech 3 1 (be g) h)=jT (gs.set i g) (hs.set i h)
 | [],hs,i,g,h=>by simp [jT,oset]
 | x::gs,[],i,g,h=>by simp [jT,oset]
 | x::gs,y::hs,0,g,h=>rfl
 | x::gs,y::hs,i+1,g,h=>by
  have:=BD gs hs i g h;unfold jT at this |-;simp only [List.zipWith_cons_cons,set_cons_succ,oset,this]
theorem FV:∀ (hs:List Value) (i:Nat) (h:Value),iw (nu hs) i 0 (.v h)=nu (hs.set i h)
 | [],i,h=>rfl
 | y::hs,0,h=>rfl
 | y::hs,i+1,h=>by
  have:=FV hs i h;unfold nu at this |-;simp only [List.map_cons,set_cons_succ,iw,this]
theorem xu.snoc {gs:List (List Int)} {h:Value} {hs:List Value} (H:xu gs h hs) (g:List Int) {a b:Option Addr} {c d:Nat}:xu (gs++[g]) (.slice a (gs.length+1) c) (hs++[.slice b g.length d]):=by
 refine ⟨⟨a,c,by simp⟩,by simp [H.len],fun i g' x I G=>?_⟩;have hl:=H.len
 rcases Nat.lt_or_ge i gs.length with hi | hi
 ·rw [gm hi] at I;rw [gm X] at G;exact H.kid i g' x I G
 ·rw [gR hi] at I;rw [gR X] at G;rw [hl] at G
  cases hk:i - gs.length with
  | zero =>
   rw [hk] at I G
   cases I;cases G
   exact zaJ
  | succ k=>rw [hk] at I;simp at I
theorem xu.set {gs:List (List Int)} {h:Value} {hs:List Value} (H:xu gs h hs) {i:Nat} (g:List Int) {b:Option Addr} {d n:Nat} (hn:n=g.length):xu (gs.set i g) h (hs.set i (.slice b n d)):=by
 subst hn;obtain ⟨a,c,e⟩:=H.head;refine ⟨⟨a,c,by rw [e];simp⟩,by simp [H.len],fun j g' x I G=>?_⟩;rw [fb] at I G
 by_cases fy:i=j
 ·rw [ah fy] at I G;split at I
  ·cases I;split at G
   ·cases G;exact zaJ
   ·cases G
  ·cases I
 ·rw [ab fy] at I G;exact H.kid j g' x I G
theorem zM (F:Int->List Int):∀ k,(ft F k).length<=k
 | 0=>by simp [ft]
 | k+1=>by
  have:=zM F k;rw [ft];unfold nK;split
  ·rw [List.length_set];omega
  ·rw [aL];exact zeA
theorem Dx {F:Int->List Int}:∀ (k:Nat),∀ g∈ft F k,g.length<=k
 | 0,g,h=>by simp [ft] at h
 | k+1,g,h=>by
  have ih:=Dx (F:=F) k;rw [ft] at h;unfold nK at h;split at h
  ·rename_i i _
   rcases List.mem_or_eq_of_mem_set h with h | rfl
   ·have:=ih g h;omega
   ·cases hg:(ft F k)[i]? with
    | none=>simp
    | some l =>
     have:=ih l (bo hg);simp only [Option.getD_some,aL,length_cons,length_nil];omega
  ·rcases mo h with h | h
   ·have:=ih g h;omega
   ·rw [mem_singleton] at h;subst h;simp
theorem abQ {K K1:Fz} {β:Bt} {v:Value} {f:Fn} {cap:List GV} (hk:df K K1) (hp:∀ g∈cap,g.pc=true) (h:Rel K β v (.fn f [] cap)):Rel K1 (fun _=>.no) v (.fn f [] cap):=by
 cases h with
 | fn f xs ys first cap hl lH h h' =>
  exact .fn f xs ys [] cap hl lH (fun i v g _ hg=>by simp at hg) (fun i v g I G=>((h' i v g I G).mono hk (eg.refl β)).pc (hp g (bo G)))
theorem U0 {B:Bs} {K:Fz} {β:Bt} {w:World} {gs:List (List Int)} {h:Value} {hs:List Value} {A C:List Ob} (H:xu gs h hs) (hI:Inv B K β (A++(tG gs h hs++C)) w) :
  ∃ K1,df K K1/\oI K1 w/\kY K1 (fun _=>.no) w/\Rel K1 (fun _=>.no) h (.sl 1 (gC gs)):=by
 have hl:=H.len;have eh:=Sv hl;refine hI.deep (jf:=A.length) (base:=A.length+1) (T:=36) (E:=3) (rows:=nu hs) (hd:=fun i=>hs[i]?.getD (.slice none 0 0)) ?_ (by simp [nu,hl]) (fun i hi=>?_) (fun i g hg=>?_) X
 ·rw [gR (aI _),tZ];rfl
 ·have:hs[i]?=some hs[i]:=bV X;simp [nu,this]
 ·have hi:=(bB hg).1;have:hs[i]?=some hs[i]:=bV X;rw [gR X,show A.length+1+i - A.length=i+1 by omega];unfold tG;rw [cons_append,getElem?_cons_succ,gm X];simp only [this,Option.getD_some];exact xL hg this
theorem GC.Tn {f:FuncId} {args:List GV} {aeK:List (List Int)} (h:GC prog f args [] fun g Δ=>∃ h hs,xu aeK h hs/\g=.v h/\Δ=tG aeK h hs):GF prog f args [] (.sl 1 (gC aeK)) []:=fun B K β w vs hm hI hF =>
 (h B K β w vs hm hI hF).mono fun v w' ⟨K',b9,g,aZ,bE,hr,x,hs,H,hg,bH⟩=>by
  subst hg;subst bH;have hl:=H.len
  obtain ⟨K1,Γ1,k1,i1,j1⟩:=bE.WA (jf:=0) (base:=1) (T:=36) (E:=3) (rows:=nu hs) (gs:=aeK) (h:=x) (hd:=fun i=>hs[i]?.getD (.slice none 0 0)) rfl (by simp [nu,hl]) (fun i hi=>by
   have:hs[i]?=some hs[i]:=bV X
   simp [nu,this]) (fun i g hg=>by
   have hi:=(bB hg).1;have:hs[i]?=some hs[i]:=bV X;rw [Nat.add_comm];unfold tG;simp only [getElem?_cons_succ,this,Option.getD_some]
   exact xL hg this) X
  obtain ⟨K2,k2,r2,i2⟩:=i1.sr j1;have hv:=Rel.eJ hr;refine ⟨K2,_,.sl 1 (gC aeK),[],i2.cut (n:=0) zhe rfl,?_,rfl,rfl⟩;rw [hv];exact r2.pc rfl
open Go.Sp (Src)
attribute [local irreducible] GW GL GO YG GC GA aU aW
theorem UZ (p:Src) (hw:b7 p<=1048576) (gy:de p=true) :
  GC prog 60 [.agg (aq p)] [] fun g Δ=>∃ h hs,xu (ft (cZ p) p.fns.length) h hs/\g=.v h/\Δ=tG (ft (cZ p) p.fns.length) h hs:=by
 obtain ⟨⟨a1,a2⟩,⟨b1,b2⟩,⟨c1,c2⟩,⟨d1,d2⟩⟩:=dU p
 have mT:(p.fns.map aw).length=p.fns.length:=by simp
 refine dh func60 ntmps60 ?_;refine zbM ?_;refine zaN ?_;refine GW.wk (Wk.gK 36 1) ?_;simp only [List.nil_append];refine GW.range (p.fns.map aw).length (fun k fr Γ=>∃ h hs,fr=[U,.box (aq p) 0,U,.v h,U,U,U,.sl 3 (p.fns.map aw),.v (ii ((p.fns.map aw).length:Int)),.v (ii (k:Nat)),U,U,U,U,U,U,U,U,U,U,U,U,U,U,U,U,U,U,U,U,U,U,U,U]/\xu (ft (cZ p) k) h hs/\Γ=tG (ft (cZ p) k) h hs) ?_ X ?_ ?_ ?_
 ·exact ⟨_,_,Wk.aH ao,.slice none 0 0,[],rfl,⟨⟨none,0,rfl⟩,rfl,fun i g x h=>by simp [ft] at h⟩,rfl⟩
 ·rintro k _ _ ⟨h,hs,rfl,_,rfl⟩;exact dr
 ·rintro k _ _ hk ⟨h,hs,rfl,H,rfl⟩;rw [mT] at hk;have Ex:ft (cZ p) (k+1)=nK (cZ p) (ft (cZ p) k) (k:Int):=rfl;have RX:=we (sO p) k;have kQ:=zM (cZ p) k;have hgk:=Dx (F:=cZ p) k;rw [Ex];clear Ex;generalize ft (cZ p) k=gs at *
  have hIx:GF prog 70 [.sl 1 (gC gs),.fn (.func 114) [] [.box (aq p) 0,.box [.v (ii (k:Nat))] 0]] [] (.v (ii (du (fun g=>gP (cZ p) (g.headD 0) (k:Int)) gs))) []:=by
   refine IG _ _ _ gs X fun g hg=>?_
   obtain ⟨a,r,rfl⟩:∃ a r,g=a::r:=List.exists_cons_of_ne_nil (RX.ne g hg);obtain ⟨r1,r2,-⟩:=RX.mem _ hg a zf8;obtain ⟨j,rfl⟩:∃ j:Nat,a=(j:Int):=⟨a.toNat,by omega⟩;have:=RJ p hw gy (a:=j) (k:=k) X hk r;rw [OO X] at this;exact this
  refine Gw ?_;refine GL.aaU rfl rfl rfl rfl rfl rfl rfl ?_;refine zaN ?_;refine GL.borrow hIx (fun B K β w l hI hF=>?_) ?_
  ·obtain ⟨K1,qV,I,G,h3⟩:=U0 (A:=[]) (C:=[]) H (by rw [dN];exact hI);refine ⟨K1,I,G,?_⟩;have hr:=hF.ev (.tmp 13);show bC K1 _ [ev l (.tmp 12),ev l (.tmp 13)] _;rw [hF.lq (x:=.tmp 12) (a:=h) rfl];exact .cons h3 (.cons (abQ qV (cap:=[.box (aq p) 0,.box [.v (ii (k:Int))] 0]) (by intro g hg;simp only [List.mem_cons,List.not_mem_nil,or_false] at hg;rcases hg with rfl | rfl <;> rfl) hr) .nil)
  refine ct ?_;unfold nK xG du
  cases hz:gs.findIdx? (fun g=>gP (cZ p) (g.headD 0) (k:Int)) with
  | none =>
   obtain ⟨a0,c0,e0⟩:=H.head;have hl:=H.len
   have r6:(nu hs).length=gs.length:=by rw [Ct,hl]
   simp only;refine D ?_;refine lL ?_
   have oV:(Ob.vech 36 1 (nu hs) h::(jT gs hs++[.vec 3 1 0 (chunk 1 1 [.v (ii (k:Nat))])]))[(jT gs hs).length+1]?=some (.vec 3 1 0 (chunk 1 1 [.v (ii (k:Nat))])):=by simp
   refine GL.tK (t:=19) rfl rfl oV rfl ?_;intro a1 c1;refine ub rfl (HI (Ob.vech 36 1 (nu hs) h::jT gs hs) _ _) ?_;refine ct ?_;refine GL.fO 0 rfl rfl rfl rfl rfl rfl rfl rfl r6 jm ?_;intro a2 c2;refine zaq ?_;refine ⟨rfl,rfl,_,_,Wk.aH ao,_,hs++[.slice a1 1 c1],rfl,H.snoc [(k:Int)],?_⟩;unfold tG;rw [<-zZ _ _ hl];show _=_;simp only [nu,l9,List.map_cons,map_nil];rfl
  | some i =>
   obtain ⟨a0,c0,e0⟩:=H.head;have hl:=H.len
   have r6:(nu hs).length=gs.length:=by rw [Ct,hl]
   obtain ⟨hi,-,-⟩:=List.findIdx?_eq_some_iff_getElem.1 hz;have O8:gs[i]?=some gs[i]:=bV hi;have yO:hs[i]?=some (hs[i]'X):=bV _;obtain ⟨a1,c1,e1⟩:=H.kid i _ _ O8 yO;have hgb:=hgk _ (bo O8);generalize gs[i]=g at *;generalize hs[i]'X=x at *;subst e1
   have sV:(nu hs)[i]?=some [.v (.slice a1 g.length c1)]:=by simp [nu,yO]
   have C1:i < (nu hs).length:=by omega
   have iQ:(Ob.vech 36 1 (nu hs) h::jT gs hs)[i+1]?=some (.vech 3 1 (be g) (.slice a1 g.length c1)):=by rw [getElem?_cons_succ];exact xL O8 yO
   have O9:(be g).length=g.length:=by simp [be]
   simp only;rw [O8,Option.getD_some];refine D ?_;refine aM (ax 0 7 (.a 7 (.a 8 (.q 9 (.a 10 .nil))))) ?_;refine zcg ?_;refine OA rfl rfl (GL.nF (i+1) (news:=[[.v (ii (k:Nat))]]) rfl rfl iQ O9 rfl rfl ⟨by show g.length+1<=_;omega,by show (g.length+1) * _<=_;omega⟩ ?_);intro a2 c2;refine zdi ?_;refine OA rfl rfl (GL.Dg rfl rfl rfl sV rfl rfl rfl rfl ?_);refine zaL ?_;refine ⟨rfl,rfl,_,_,Wk.aH ao,h,hs.set i (.slice a2 (g.length+1) c2),rfl,H.set (g++[(k:Int)]) zf8,?_⟩;unfold tG;rw [<-BD,<-FV,show be (g++[(k:Int)])=be g++[[.v (ii (k:Nat))]] by simp [be]];rfl
 ·rintro _ _ ⟨h,hs,rfl,H,rfl⟩;rw [mT] at H;rw [mT];refine zcC ?_;refine gL ?_;refine u0 0 rfl cB rfl Co ⟨h,hs,H,rfl,rfl⟩
theorem Uj (p:Src) (hw:b7 p<=1048576) (hn:ma p) :
  GC prog 24 [.agg (aq p)] [] fun g Δ=>∃ h hs,xu (cI p) h hs/\g=.v h/\Δ=tG (cI p) h hs:=by
 have hG:=yJ p hw hn;unfold cI
 cases gy:de p with
 | false =>
  rw [gy] at hG;rw [ab aD];refine dh func24 ntmps24 ?_;refine GW.wk (Wk.gK 36 1) ?_;simp only [List.nil_append];refine D ?_;refine V [] hG ?_;refine gL ?_;exact la (n:=1) rfl cB rfl (c6 rfl) rfl rfl ⟨.slice none 0 0,[],⟨⟨none,0,rfl⟩,rfl,fun i g x h=>by simp at h⟩,rfl,rfl⟩
 | true =>
  rw [gy] at hG;rw [ah rfl];have hA:=UZ p hw gy;generalize ft (cZ p) p.fns.length=aeK at *;refine dh func24 ntmps24 ?_;refine zbM ?_;refine zaN ?_;refine V [] hG ?_;refine bA [] hA ?_;rintro _ _ ⟨h,hs,H,rfl,rfl⟩;rw [NI Co];refine zas ?_;refine gL ?_;exact u0 0 rfl cB rfl Co ⟨h,hs,H,rfl,rfl⟩
end Go.Xg
namespace Go.Im
open Go.Xp Go.Sp
def mZ (gs:List (List Int)) (x:Int) (pr:List Int->Bool) (j:Nat):List (List Int):=match gs.findIdx? pr with
 | some i=>if i < j then gs.set i ((gs[i]?.getD [])++[x]) else gs
 | none=>gs
def oH (gs:List (List Int)) (pr:List Int->Bool) (j:Nat):Bool:=match gs.findIdx? pr with
 | some i=>decide (i < j)
 | none=>false
theorem Kl (gs:List (List Int)) (x:Int) (pr:List Int->Bool) (j:Nat):(mZ gs x pr j).length=gs.length:=by
 unfold mZ;split
 ·split
  ·rw [List.length_set]
  ·rfl
 ·rfl
theorem VJ {gs:List (List Int)} {x:Int} {pr:List Int->Bool} {j:Nat} (h:oH gs pr j=true):mZ gs x pr (j+1)=mZ gs x pr j/\oH gs pr (j+1)=true:=by
 unfold oH at h |-;unfold mZ;split at h
 ·rename_i i hi;have h:=n8 h;rw [ah h,ah (show i < j+1 by omega)];exact ⟨rfl,by simp;omega⟩
 ·cases h
theorem Hy {gs:List (List Int)} {x:Int} {pr:List Int->Bool} {j:Nat} {g:List Int} (h:oH gs pr j=false) (hg:gs[j]?=some g) (hp:pr g=true) :
  mZ gs x pr j=gs/\mZ gs x pr (j+1)=gs.set j (g++[x])/\oH gs pr (j+1)=true:=by
 have au:=(bB hg).1
 cases hz:gs.findIdx? pr with
 | none =>
  rw [List.findIdx?_eq_none_iff] at hz;rw [hz g (bo hg)] at hp;cases hp
 | some i =>
  unfold oH at h |-;unfold mZ;rw [hz] at h |-;simp only at h |-;have h:=of_decide_eq_false h
  have fy:i=j:=by
   obtain ⟨I,G,h3⟩:=List.findIdx?_eq_some_iff_getElem.1 hz
   refine Classical.byContradiction fun cj=>?_
   have:=h3 j zgb
   have hgj:gs[j]=g:=by rw [bV au] at hg;exact xY hg
   rw [hgj,hp] at this;exact this rfl
  subst fy;rw [ab h,ah (Nat.lt_succ_self _),hg];exact ⟨rfl,rfl,by simp⟩
theorem Km {gs:List (List Int)} {x:Int} {pr:List Int->Bool} {j:Nat} {g:List Int} (h:oH gs pr j=false) (hg:gs[j]?=some g) (hp:pr g=false) :
  mZ gs x pr j=gs/\mZ gs x pr (j+1)=gs/\oH gs pr (j+1)=false:=by
 have au:=(bB hg).1
 cases hz:gs.findIdx? pr with
 | none=>unfold oH mZ;rw [hz];exact ⟨rfl,rfl,rfl⟩
 | some i =>
  unfold oH at h |-;unfold mZ;rw [hz] at h |-;simp only at h |-;have h:=of_decide_eq_false h
  have fy:i≠j:=by
   intro e;subst e;obtain ⟨I,G,h3⟩:=List.findIdx?_eq_some_iff_getElem.1 hz
   have hgj:gs[i]=g:=by rw [bV au] at hg;exact xY hg
   rw [hgj,hp] at G;cases G
  rw [ab h,ab zgb];exact ⟨rfl,rfl,by simp;omega⟩
theorem VI (F:Int->List Int) (gs:List (List Int)) (x:Int) :
  (oH gs (fun g=>gP F (g.headD 0) x) gs.length=true->nK F gs x=mZ gs x (fun g=>gP F (g.headD 0) x) gs.length) /\
  (oH gs (fun g=>gP F (g.headD 0) x) gs.length=false->nK F gs x=mZ gs x (fun g=>gP F (g.headD 0) x) gs.length++[[x]]):=by
 unfold nK xG oH mZ
 cases hz:gs.findIdx? (fun g=>gP F (g.headD 0) x) with
 | none=>exact ⟨fun h=>zgg,fun _=>rfl⟩
 | some i =>
  obtain ⟨I,-,-⟩:=List.findIdx?_eq_some_iff_getElem.1 hz;refine ⟨fun _=>by simp only;rw [ah I],fun h=>?_⟩;simp only at h;exact absurd I (of_decide_eq_false h)
end Go.Im
namespace Go.Xg
open Go.RowKit Go.Xw Go.Proofs Tryz Go.Im
open GV (U)
open Go.Sp (Src)
attribute [local irreducible] GW GL GO YG GC GA aU aW
theorem Uk (p:Src) (hw:b7 p<=1048576) :
  GC prog 25 [.agg (aq p)] [] fun g Δ=>∃ h hs,xu (cI p) h hs/\g=.v h/\Δ=tG (cI p) h hs:=by
 obtain ⟨⟨a1,a2⟩,⟨b1,b2⟩,⟨c1,c2⟩,⟨d1,d2⟩⟩:=dU p
 have mT:(p.fns.map aw).length=p.fns.length:=by simp
 have hG:=yI p hw;unfold cI
 cases gy:de p with
 | false =>
  rw [gy] at hG;rw [ab aD];refine dh func25 ntmps25 ?_;refine zbM ?_;refine zaN ?_;refine lL ?_;refine GL.tK (t:=7) rfl rfl rfl rfl ?_;intro ZN Z1;refine zaq ?_;refine V [] hG ?_;refine gL ?_;exact la (n:=1) rfl cB rfl (c6 rfl) rfl rfl ⟨_,[],⟨⟨ZN,Z1,rfl⟩,rfl,fun i g x h=>by simp at h⟩,rfl,rfl⟩
 | true =>
  rw [gy] at hG;rw [ah rfl];refine dh func25 ntmps25 ?_;refine zbM ?_;refine zaN ?_;refine lL ?_;refine GL.tK (t:=7) rfl rfl rfl rfl ?_;intro ZN Z1;refine zaq ?_;refine V [] hG ?_;refine GW.range (p.fns.map aw).length (fun k fr Γ=>∃ h hs,fr=[U,.box (aq p) 0,U,.v h,U,U,U,U,U,U,U,U,U,.sl 3 (p.fns.map aw),.v (ii ((p.fns.map aw).length:Int)),.v (ii (k:Nat)),U,U,U,U,U,U,U,U,U,U,U,U,U,U,U,U,U,U,U,U,U,U,U,U,U,U,U,U,U,U,U,U,U,U,U,U,U,U,U,U]/\xu (ft (cZ p) k) h hs/\Γ=tG (ft (cZ p) k) h hs) ?_ X ?_ ?_ ?_
  ·exact ⟨_,_,Wk.aH ao,_,[],rfl,⟨⟨ZN,Z1,rfl⟩,rfl,fun i g x h=>by simp [ft] at h⟩,rfl⟩
  ·rintro k _ _ ⟨h,hs,rfl,_,rfl⟩;exact dr
  ·rintro k _ _ hk ⟨h0,vq,rfl,H0,rfl⟩;rw [mT] at hk;have Ex:ft (cZ p) (k+1)=nK (cZ p) (ft (cZ p) k) (k:Int):=rfl;have RX:=we (sO p) k;have kQ:=zM (cZ p) k;have hgk:=Dx (F:=cZ p) k;rw [Ex];clear Ex;generalize ft (cZ p) k=gs at *
   have AH:∀ (a:Int) (r:List Int),a::r∈gs->GF prog 61 [.agg (aq p),.v (ii a),.v (ii (k:Nat))] [] (.v (.bool (gP (cZ p) a (k:Int)))) []:=fun a r hr=>by
    obtain ⟨r1,r2,-⟩:=RX.mem _ hr a zf8;obtain ⟨j,rfl⟩:∃ j:Nat,a=(j:Int):=⟨a.toNat,by omega⟩;exact SN p hw gy X hk
   obtain ⟨hY,hN⟩:=VI (cZ p) gs (k:Int)
   have nA:∀ g:List Int,(fun g:List Int=>gP (cZ p) (g.headD 0) (k:Int)) g=gP (cZ p) (g.headD 0) (k:Int):=fun _=>rfl
   generalize hpr:(fun g:List Int=>gP (cZ p) (g.headD 0) (k:Int))=pr at *;obtain ⟨a0,c0,rfl⟩:=H0.head;unfold tG;refine D ?_;refine GW.range gs.length (fun j fr Γ=>∃ h hs b,oH gs pr j=b/\fr=[U,.box (aq p) 0,U,.v h,.v (ii (k:Nat)),.v (.bool b),U,U,U,U,U,U,U,.sl 3 (p.fns.map aw),.v (ii ((p.fns.map aw).length:Int)),.v (ii (k:Nat)),U,U,U,.v (ii (gs.length:Int)),.v (ii (j:Nat)),U,U,U,U,U,U,U,U,U,U,U,U,U,U,U,U,U,U,U,U,U,U,U,U,U,U,U,U,U,U,U,U,U,U,U]/\xu (mZ gs (k:Int) pr j) h hs/\Γ=tG (mZ gs (k:Int) pr j) h hs) ?_ X ?_ ?_ ?_
   ·have e1:mZ gs (k:Int) pr 0=gs:=by unfold mZ;split <;> simp
    have e2:oH gs pr 0=false:=by unfold oH;split <;> simp
    exact ⟨_,_,Wk.aH ao,_,vq,false,e2,rfl,by rw [e1];exact H0,by rw [e1];rfl⟩
   ·rintro j _ _ ⟨h,hs,b,_,rfl,_,rfl⟩;exact dr
   ·rintro j _ _ hj ⟨h,hs,b,Bv,rfl,H,rfl⟩;have dS:=Kl gs (k:Int) pr j;obtain ⟨g,hg⟩:∃ g,gs[j]?=some g:=⟨gs[j],bV hj⟩
    cases b with
    | true =>
     obtain ⟨e1,e2⟩:=VJ (x:=(k:Int)) Bv;rw [e1];generalize mZ gs (k:Int) pr j=M at *;unfold tG;refine D ?_;refine aM (ax 0 11 (.a 11 (.q 12 .nil))) ?_;refine bm ?_;exact ⟨rfl,rfl,_,_,Wk.aH ao,h,hs,true,e2,rfl,H,rfl⟩
    | false =>
     obtain ⟨x,r,rfl⟩:∃ a r,g=a::r:=List.exists_cons_of_ne_nil (RX.ne g (bo hg));have hS:=AH x r (bo hg)
     have hpx:pr (x::r)=gP (cZ p) x (k:Int):=by rw [<-hpr];rfl
     have hgb:=hgk _ (bo hg)
     have hem:mZ gs (k:Int) pr j=gs:=by
      cases hp:pr (x::r) with
      | true=>exact (Hy Bv hg hp).1
      | false=>exact (Km Bv hg hp).1
     rw [hem] at H |-;have hl:=H.len;obtain ⟨a1,c1,rfl⟩:=H.head;have hhj:hs[j]?=some (hs[j]'X):=bV _;obtain ⟨a2,c2,e2⟩:=H.kid j _ _ hg hhj;generalize hs[j]'X=y at *;subst e2
     have sV:(nu hs)[j]?=some [.v (.slice a2 (x::r).length c2)]:=by simp [nu,hhj]
     have C1:j < (nu hs).length:=by rw [Ct];omega
     have iQ:(Ob.vech 36 1 (nu hs) (.slice a1 gs.length c1)::jT gs hs)[j+1]?=some (.vech 3 1 (be (x::r)) (.slice a2 (x::r).length c2)):=by rw [getElem?_cons_succ];exact xL hg hhj
     have xI:((Ob.vech 36 1 (nu hs) (.slice a1 gs.length c1)::jT gs hs)++[])[j+1]?=some (.vech 3 1 (be (x::r)) (.slice a2 (x::r).length c2)):=by rw [dN];exact iQ
     have O9:(be (x::r)).length=(x::r).length:=by simp [be]
     have vm:0 < (be (x::r)).length:=by rw [O9];simp
     have sU:(be (x::r))[0]?=some [.v (ii x)]:=rfl;unfold tG
     have hH2:=fun (a3:Option Addr) (c3:Nat)=>H.set (i:=j) ((x::r)++[(k:Int)]) (b:=a3) (d:=c3) (n:=(x::r).length+1) zf8
     have rH:=fun (y:Value)=>BD gs hs j ((x::r)++[(k:Int)]) y
     have hiS:be ((x::r)++[(k:Int)])=be (x::r)++[[.v (ii (k:Nat))]]:=by simp [be]
     rw [hiS] at rH
     have aed:(x::r).length<=1048576:=by omega
     generalize hp:gP (cZ p) x (k:Int)=b at *;generalize be (x::r)=S at *;generalize hLn:(x::r).length=L at *;refine D ?_;refine aM (ax 0 11 (.a 11 (.q 12 .nil))) ?_;refine aj ?_;refine ZJ rfl rfl zgw (YG.aP (j+1) rfl rfl iQ vm) ?_;refine l7 ?_;refine ZJ rfl rfl zgw (YG.SO rfl iQ rfl sU rfl) ?_;refine l7 ?_;refine aj ?_;refine Qs rfl rfl rfl zgw (GL.Wz [] (hS) vY rfl nj rfl (GL.nil (bc (dW.mk (by repeat (first | exact di.n | (apply di.w;(· decide +kernel)) | (apply di.y;(· first | (apply YQ.t;(· exact rfl);(· exact rfl);(· (first | exact YG.aP (j+1) rfl rfl xI vm | exact YG.SO rfl xI rfl sU rfl | (first | exact fU | (apply K.idx;first | exact YG.idxV rfl rfl rfl az X | exact YG.aP 0 rfl rfl rfl aE | exact YG.aP 1 rfl rfl rfl aE | exact YG.aP 2 rfl rfl rfl aE | exact YG.aP 3 rfl rfl rfl aE | exact YG.aP 4 rfl rfl rfl aE | exact YG.aP 5 rfl rfl rfl aE | exact YG.aP 6 rfl rfl rfl aE) | exact fX | exact YG.fT 1 rfl rfl az az | exact YG.mv | exact YG.mG | (apply K.bin;first | exact YG.go rfl | exact YG.kG rfl rfl X | exact YG.jt rfl rfl | exact YG.ju rfl rfl | exact YG.oO rfl rfl | exact YG.oY rfl rfl | exact YG.cat rfl rfl X | exact YG.cat rfl rfl zgl | exact YG.addN rfl rfl X | exact YG.add rfl rfl X | exact YG.sub rfl rfl X | exact YG.mul rfl rfl X | exact YG.ml rfl rfl X | exact YG.quo rfl rfl X | exact YG.rem rfl rfl X | exact YG.iH rfl rfl) | exact fK | exact fJ | exact gQ | exact fa | exact fp | (apply K.idx;first | exact YG.hO rfl rfl aJ | exact YG.cq rfl rfl aJ rfl | exact YG.cq rfl rfl aJ X | exact YG.kJ rfl rfl X) | exact YG.ext rfl rfl | exact YG.go rfl | (apply K.qm;first | exact YG.mj rfl rfl rfl X | exact YG.mi rfl rfl X | exact YG.mh rfl rfl X | exact YG.gz 1 rfl rfl rfl az) | exact YG.jC rfl rfl aJ | exact YG.idxSC rfl rfl aJ rfl | exact fq | exact YG.build rfl | exact YG.neg rfl X | exact YG.jz rfl rfl | exact YG.nO rfl zgh | exact YG.str rfl az)))) | (apply YQ.t;(· exact rfl);(· apply rN;(· exact rfl);(· first | exact rfl | assumption));(· (first | exact YG.aP (j+1) rfl rfl xI vm | exact YG.SO rfl xI rfl sU rfl | (first | exact fU | (apply K.idx;first | exact YG.idxV rfl rfl rfl az X | exact YG.aP 0 rfl rfl rfl aE | exact YG.aP 1 rfl rfl rfl aE | exact YG.aP 2 rfl rfl rfl aE | exact YG.aP 3 rfl rfl rfl aE | exact YG.aP 4 rfl rfl rfl aE | exact YG.aP 5 rfl rfl rfl aE | exact YG.aP 6 rfl rfl rfl aE) | exact fX | exact YG.fT 1 rfl rfl az az | exact YG.mv | exact YG.mG | (apply K.bin;first | exact YG.go rfl | exact YG.kG rfl rfl X | exact YG.jt rfl rfl | exact YG.ju rfl rfl | exact YG.oO rfl rfl | exact YG.oY rfl rfl | exact YG.cat rfl rfl X | exact YG.cat rfl rfl zgl | exact YG.addN rfl rfl X | exact YG.add rfl rfl X | exact YG.sub rfl rfl X | exact YG.mul rfl rfl X | exact YG.ml rfl rfl X | exact YG.quo rfl rfl X | exact YG.rem rfl rfl X | exact YG.iH rfl rfl) | exact fK | exact fJ | exact gQ | exact fa | exact fp | (apply K.idx;first | exact YG.hO rfl rfl aJ | exact YG.cq rfl rfl aJ rfl | exact YG.cq rfl rfl aJ X | exact YG.kJ rfl rfl X) | exact YG.ext rfl rfl | exact YG.go rfl | (apply K.qm;first | exact YG.mj rfl rfl rfl X | exact YG.mi rfl rfl X | exact YG.mh rfl rfl X | exact YG.gz 1 rfl rfl rfl az) | exact YG.jC rfl rfl aJ | exact YG.idxSC rfl rfl aJ rfl | exact fq | exact YG.build rfl | exact YG.neg rfl X | exact YG.jz rfl rfl | exact YG.nO rfl zgh | exact YG.str rfl az)))) | (apply YQ.f;(· exact rfl);(· apply sy;(· exact rfl);(· first | exact rfl | assumption))))))) ?_))));refine lF dv ew ?_
     rw [dN];refine aj ?_
     cases b with
     | true =>
      obtain ⟨-,e4,e5⟩:=Hy (x:=(k:Int)) Bv hg hpx;rw [e4];refine D ?_;refine GL.fO (j+1) rfl rfl rfl rfl rfl rfl rfl iQ O9 jm ?_;intro a3 c3;refine zaq ?_;refine GL.Dg rfl rfl rfl sV rfl rfl rfl rfl ?_;refine zaq ?_;refine ⟨rfl,rfl,_,_,Wk.aH ao,_,hs.set j (.slice a3 (L+1) c3),true,e5,rfl,hH2 a3 c3,?_⟩;rw [<-rH,<-FV]
     | false =>
      obtain ⟨-,e4,e5⟩:=Km (x:=(k:Int)) Bv hg hpx;rw [e4];refine D ?_;exact ⟨rfl,rfl,_,_,Wk.aH ao,_,hs,false,e5,rfl,H,rfl⟩
   ·rintro _ _ ⟨h,hs,b,Bv,rfl,H,rfl⟩;have dS:=Kl gs (k:Int) pr gs.length
    cases b with
    | true =>
     rw [hY Bv];generalize mZ gs (k:Int) pr gs.length=M at *;unfold tG;refine zcC ?_;exact ⟨rfl,rfl,_,_,Wk.aH ao,h,hs,rfl,H,rfl⟩
    | false =>
     rw [hN Bv];generalize mZ gs (k:Int) pr gs.length=M at *;have hl:=H.len;obtain ⟨a1,c1,rfl⟩:=H.head
     have r6:(nu hs).length=M.length:=by rw [Ct,hl]
     have hH2:=fun (a2:Option Addr) (c2:Nat) (a3:Option Addr) (c3:Nat)=>H.snoc [(k:Int)] (a:=a2) (c:=c2) (b:=a3) (d:=c3)
     have oV:(Ob.vech 36 1 (nu hs) (.slice a1 M.length c1)::(jT M hs++[.vec 3 1 0 (chunk 1 1 [.v (ii (k:Nat))])]))[(jT M hs).length+1]?=some (.vec 3 1 0 (chunk 1 1 [.v (ii (k:Nat))])):=by simp
     have rH:=fun (y:Value)=>zZ (gs:=M) (hs:=hs) [(k:Int)] y hl
     unfold tG;refine zcC ?_;refine lL ?_;refine GL.tK (t:=51) rfl rfl oV rfl ?_;intro a2 c2;refine ub rfl (HI (Ob.vech 36 1 (nu hs) (.slice a1 M.length c1)::jT M hs) _ _) ?_;refine ct ?_;refine GL.fO 0 rfl rfl rfl rfl rfl rfl rfl rfl r6 jm ?_;intro a3 c3;refine zaq ?_;refine ⟨rfl,rfl,_,_,Wk.aH ao,_,hs++[.slice a2 1 c2],rfl,hH2 a3 c3 a2 c2,?_⟩;rw [<-rH];simp only [nu,l9,List.map_cons,map_nil];rfl
  ·rintro _ _ ⟨h,hs,rfl,H,rfl⟩;rw [mT] at H;rw [mT];refine bc ?_;unfold tG;refine zdO ?_;exact u0 0 rfl cB rfl Co ⟨h,hs,H,rfl,rfl⟩
theorem Ui (p:Src) (hw:b7 p<=1048576) :
  GF prog 25 [.agg (aq p)] [] (.sl 1 (gC (cI p))) []:=GC.Tn (Uk p hw)
end Go.Xg
namespace Go.Xg
open Go.RowKit Go.Xw Go.Proofs Tryz Go.Sp Go.Im
open GV (U)
theorem O3 {p:Src} {j:Nat} {l:List Int} (h:(cI p)[j]?=some l):l.length<=p.fns.length:=by
 unfold cI at h;split at h
 ·obtain ⟨a,b⟩:=Bb (cZ p) p.fns.length l (bo h);have hv:=(we (sO p) p.fns.length).mem l (bo h)
  exact BJ a fun x hx=>⟨(hv x hx).1,b x hx⟩
 ·simp at h
theorem LR {p:Src}:(cI p).length<=p.fns.length:=by
 unfold cI;split
 ·exact zM _ _
 ·exact aS _
theorem TB {gs:List (List Int)} {j:Nat} {l:List Int} (h:gs[j]?=some l):(gs.take (j+1)).flatten=(gs.take j).flatten++l:=by
 rw [dk,h];simp
theorem Ys:∀ (gs:List (List Int)) (j:Nat),(gs.take j).flatten.length<=gs.flatten.length:=fun gs j=>by
 have:=List.take_append_drop j gs
 have G:gs.flatten=(gs.take j).flatten++(gs.drop j).flatten:=by rw [<-List.flatten_append,this]
 rw [G,aL];omega
attribute [local irreducible] GW GL GO YG GC GA aU aW
theorem Om (code:ae):GF prog 5 [.sl 1 (bN code)] [] (.v (.bool true)) []:=by
 have kO:=vf code
 rcases Nat.lt_or_ge 1048576 code.length with au | kP
 ·have hd:decide ((1048576:Int) < ((bN code).length:Int))=true:=decide_eq_true X;refine ai func5 ntmps5 ?_;exact al
 ·have hd:decide ((1048576:Int) < ((bN code).length:Int))=false:=decide_eq_false X;refine ai func5 ntmps5 ?_;refine bA [] (Iy code X) ?_;rintro _ _ ⟨rfl,p,hw,hn,rfl⟩;refine bF ?_;have hI:=GC.Tn (Uj p hw hn);have hG:=Ui p hw;obtain ⟨c,z,hC,WX⟩:=Ue p hw hn;have ab0:=sF p;have W6:(p.fns.map aw).length=p.fns.length:=bM _;have Hk:(gC (cI p)).length=(cI p).length:=bM _;have kQ:=@LR p
  have aeb:(cI p).flatten.length<=p.fns.length:=by
   cases gy:de p with
   | true=>rw [Ej gy];exact aI _
   | false=>rw [G9 gy];exact aS _
  have cj:(((gC (cI p)).length:Int) != ((gC (cI p)).length:Int))=false:=by simp
  refine D ?_;refine V [] hI ?_;refine V [] hG ?_;refine GL.S3 rfl rfl rfl rfl ?_;refine GL.tK (t:=25) rfl rfl rfl rfl ?_;intro a0 d0;refine zaq ?_;refine GW.range (gC (cI p)).length (fun k fr Γ=>∃ a d,fr=[U,U,U,.loc 0 0,.sl 1 (gC (cI p)),.v (.slice a ((cI p).take k).flatten.length d),U,U,U,U,U,U,U,U,U,U,U,U,U,U,U,U,U,U,U,U,.sl 1 (gC (cI p)),.v (ii ((gC (cI p)).length:Int)),.v (ii (k:Nat)),U,U,U,U,U,U,U,U,U,U,U,U,U,U,U,U,U,U,U,U,U,U,U,U,U,U,U,U,U,U,U,U,U,U,U,U,U,U,U,U,U,U,U,U,U,U,U,U,U,U,U,U,U,U,U,U,U,U,U,U,U,U,U,U,U]/\Γ=[.box 28 (aq p),.vech 3 1 (be ((cI p).take k).flatten) (.slice a ((cI p).take k).flatten.length d)]) ?_ X ?_ ?_ ?_
  ·exact ⟨_,_,Wk.aH ao,a0,d0,rfl,rfl⟩
  ·rintro k _ _ ⟨a,d,rfl,rfl⟩;exact dr
  ·rintro k _ _ hk ⟨a,d,rfl,rfl⟩;rw [Hk] at hk;obtain ⟨l,hl⟩:∃ x,(cI p)[k]?=some x:=⟨(cI p)[k],bV hk⟩
   have hr:(gC (cI p))[k]?=some [.sl 1 (be l)]:=by unfold gC;rw [bp,hl];rfl
   have nS:=O3 hl;have dS:(be l).length=l.length:=bM _;have htf:=TB hl;have hkf:=Ys (cI p) k;rw [htf];generalize hS:((cI p).take k).flatten=S at *;refine D ?_;refine GW.range (be l).length (fun i fr Γ=>∃ a d,fr=[U,U,U,.loc 0 0,.sl 1 (gC (cI p)),.v (.slice a (S++l.take i).length d),U,ints l,U,U,U,U,U,U,U,U,U,U,U,U,U,U,U,U,U,U,.sl 1 (gC (cI p)),.v (ii ((gC (cI p)).length:Int)),.v (ii (k:Nat)),U,U,U,ints l,.v (ii ((be l).length:Int)),.v (ii (i:Nat)),U,U,U,U,U,U,U,U,U,U,U,U,U,U,U,U,U,U,U,U,U,U,U,U,U,U,U,U,U,U,U,U,U,U,U,U,U,U,U,U,U,U,U,U,U,U,U,U,U,U,U,U,U,U,U,U,U,U,U]/\Γ=[.box 28 (aq p),.vech 3 1 (be (S++l.take i)) (.slice a (S++l.take i).length d)]) ?_ X ?_ ?_ ?_
   ·have e0:S++l.take 0=S:=by rw [List.take_zero,dN]
    rw [e0];exact ⟨_,_,Wk.aH ao,a,d,rfl,rfl⟩
   ·rintro i _ _ ⟨a,d,rfl,rfl⟩;exact dr
   ·rintro i _ _ hi ⟨a,d,rfl,rfl⟩;rw [dS] at hi;obtain ⟨f,hf⟩:∃ x,l[i]?=some x:=⟨l[i],bV hi⟩
    have eR:(be l)[i]?=some [.v (ii f)]:=by unfold be;rw [bp,hf];rfl
    have Pb:=O1 hl hf;rw [hS] at Pb
    have nB:(S++l.take i).length<=2097152:=by rw [aL,gE];omega
    have hH:=DA (S++l.take i) f X;rw [Pb] at hH
    have b6:S++l.take (i+1)=S++l.take i++[f]:=by rw [dk,hf,eF];rfl
    rw [b6];have U8:(be (S++l.take i)).length=(S++l.take i).length:=bM _
    have hia:be (S++l.take i++[f])=be (S++l.take i)++[[.v (ii f)]]:=by simp [be]
    have hlen:(S++l.take i++[f]).length=(be (S++l.take i)).length+1:=by rw [U8];exact aL
    cases i with
    | zero =>
     refine zeM ?_;refine OA rfl rfl (GL.borrow hH (fun B K β w l hI hF=>GS (i:=1) hI hF rfl rfl rfl) ?_);refine zaL ?_;exact zdg
    | succ i =>
     have wQ:decide ((0:Int) < ((i+1:Nat):Int))=true:=decide_eq_true X;obtain ⟨m1,m2⟩:=RL hl hf
     obtain ⟨l0,lr,vn⟩:∃ l0 lr,l=l0::lr:=by
      cases hq:l with
      | nil=>rw [hq] at hf;simp at hf
      | cons a b=>exact ⟨a,b,rfl⟩
     have wT:l.headD 0=l0:=by rw [vn];rfl
     rw [wT] at m1 m2
     have sU:(be l)[0]?=some [.v (ii l0)]:=by rw [vn];rfl
     have hM1:=B1 p hw hn l0 f;have hM2:=B1 p hw hn f l0;rw [m1] at hM1;rw [m2] at hM2;refine zeM ?_;refine OA rfl rfl (GL.borrow hH (fun B K β w l hI hF=>GS (i:=1) hI hF rfl rfl rfl) ?_);refine zdi ?_;refine bZ [] hM1 ?_;refine bZ [] hM2 ?_;refine D ?_;exact zdg
   ·rintro _ _ ⟨a,d,rfl,rfl⟩;rw [dS,c7];refine jl ?_;refine bc ?_;exact ⟨rfl,rfl,_,_,Wk.aH ao,a,d,rfl,rfl⟩
  ·rintro _ _ ⟨a,d,rfl,rfl⟩;refine bc ?_;rw [Hk,c7]
   cases gy:de p with
   | false =>
    rw [gy] at WX
    have dP:(c != 0)=true:=by unfold bne;rw [WX];rfl
    have DB:(((gC (cI p)).length:Int)==0)=true:=by rw [Hk,G9 gy];rfl
    refine zce ?_;exact al
   | true =>
    rw [gy] at WX
    have dP:(c != 0)=false:=by unfold bne;rw [WX];rfl
    have DB:(((cI p).flatten.length:Int)==((p.fns.map aw).length:Int))=true:=by rw [W6,Ej gy];simp
    refine zce ?_;refine bY ?_;exact ⟨by show GV.v (.bool (_==_))=_;rw [DB],rfl⟩
end Go.Xg
