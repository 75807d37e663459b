/- Part 9 of proofs that are told in their last texts. -/
import Derived.Test.YtcoplmnahnipiaaGreatDoorY8
import Derived.Test.YtcoplmnahnipiaaGreatDoorY7
open List (getElem?_map length_append mem_of_getElem? mem_singleton nil_append take_length)
set_option linter.unusedVariables false
set_option linter.unusedSimpArgs false
set_option maxRecDepth 100000
set_option maxHeartbeats 4000000
namespace Go.Im
open Go.Xp Go.Sp
def pZ (p:Src) (l:List T) (x:Int):List Int:=match l[x.toNat]? with | some t=>aX p t | none=>[]
theorem RN (p:Src) (l:List T) (x:Int):∀ y∈pZ p l x,0<=y/\y < (p.fns.length:Int):=by
 intro y hy;unfold pZ at hy;split at hy
 ·exact jg p _ y hy
 ·simp at hy
structure Trail (p:Src) (L:List Int):Prop where
 nodup:L.Nodup
 rng:∀ y∈L,0<=y/\y < (p.fns.length:Int)
theorem Trail.len {p:Src} {L:List Int} (h:Trail p L):L.length<=p.fns.length:=Ny h.nodup h.rng
theorem Trail.add {p:Src} {L ks:List Int} (h:Trail p L) (hk:∀ y∈ks,0<=y/\y < (p.fns.length:Int)):Trail p (dk L ks) :=
 ⟨Bd h.nodup,fun y hy=>by
  rcases EC.1 hy with h1 | h1
  ·exact h.rng y h1
  ·exact hk y h1⟩
def ja (p:Src) (l:List T) (L:List Int):List Int:=uQ (pZ p l) (p.fns.length+1) 0 L
theorem EE {cs:Int->List Int} {f i:Nat} {L:List Int} {x:Int} (h:L[i]?=some x):uQ cs (f+1) i L=uQ cs f (i+1) (dk L (cs x)):=by rw [uQ,h]
theorem EG {cs:Int->List Int} {f i:Nat} {L:List Int} (h:L.length<=i):uQ cs f i L=L:=by
 cases f with
 | zero=>rfl
 | succ f=>rw [uQ,List.getElem?_eq_none h]
theorem rX {p:Src} {l:List T}:∀ (f i:Nat) (L:List Int),Trail p L->Trail p (uQ (pZ p l) f i L)
 | 0,i,L,h=>h
 | f+1,i,L,h=>by
  rw [uQ];split
  ·exact h
  ·exact rX f (i+1) _ (h.add (RN p l _))
end Go.Im
namespace Go.Xg
open Go.RowKit Go.Xw Go.Proofs
open Go.Xp (Nd T Ar aK ay)
open Go.Sp (Src)
open Go.Im
attribute [local irreducible] GW GL GO YG GC GA aS aW
theorem PF (l:List Int):lN (l.map fun i=>[GV.v (ii i)])=true:=by
 induction l with
 | nil=>rfl
 | cons s l ih=>rw [List.map_cons,lN,ih];rfl
theorem uV (p:Src) (hw:cM p<=1048576) {l:List T} {i:Nat} {f:Go.Sp.Fn} {t:T} (h:o9 p l i f t) :
  GF Tryz.prog 46 [.agg (ar p),.v (ii (i:Nat))] [] (ints (aX p t)) []:=by
 obtain ⟨⟨a1,a2⟩,⟨b1,b2⟩,⟨c1,c2⟩,⟨d1,d2⟩⟩:=cW p;have cI:=h.sz;have vc:=LO p _ t (Nat.le_refl _)
 have hE:=fun eb ec=>RO p 40 i f t [] eb ec ae (fun n hn=>by have:=(d2 n hn).2;omega) ae h.gf (by have:=(c2 f (mem_of_getElem? h.gf)).2.1;omega) h.body h.st ae (by show 0+_<=_;omega)
 rw [Qy,nil_append] at hE;obtain ⟨e1,e2⟩:=Td (nX p t)
 have hS:=fun a c=>Lt (nX p t) 3 a c ae
 have hC:=fun a c=>Li (fv (nX p t)) 3 a c (by rw [lO];omega) e2
 rw [e1] at hC;rw [lO] at hC;unfold GS Rh at hE;unfold aX;generalize og (nX p t)=rr at *;generalize fv (nX p t)=ss at *;refine db Tryz.func46 Tryz.ntmps46 ?_;refine GW.wk (Wk.mU 3 1) ?_;simp only [nil_append];refine iM ?_;refine GL.wk (Wk.freeze (i:=1) rfl rfl rfl (Nat.zero_le _)) ?_;refine bT ?_;refine ab ?_;refine bJ [2,0] (hE none 0) ?_;rintro _ _ ⟨rfl,eb,ec,rfl⟩;refine cj ?_;refine ab ?_;refine U [0] (hS eb ec) ?_;refine bJ [0] (hC eb ec) ?_;rintro _ _ ⟨rfl,fz,S,rfl⟩;refine cj ?_;exact av
theorem Di (p:Src) (hw:cM p<=1048576) {l:List T} (hg:Go.Im.Good p l) (L0:List Int) (hL:Trail p L0) :
  GF Tryz.prog 69 [.agg (ar p),ints L0] [] (ints (fv (ja p l L0))) []:=by
 obtain ⟨⟨a1,a2⟩,⟨b1,b2⟩,⟨c1,c2⟩,⟨d1,d2⟩⟩:=cW p;have hlen:=hg.len;have ve:=hL.len
 have cB:(L0.map fun i=>[GV.v (ii i)]).length=L0.length:=by simp
 have gM:=PF L0;obtain ⟨N,hN⟩:∃ N,p.fns.length=N:=⟨_,rfl⟩;refine db Tryz.func69 Tryz.ntmps69 ?_;refine GW.wk (Wk.mU 3 1) ?_;simp only [nil_append];refine ab ?_;refine GL.Eh 0 rfl rfl rfl rfl gM (by refine ⟨?_,?_⟩;(· rw [cB];omega);(· rw [cB];omega)) ?_;intro ad cp;rw [cB];refine bT ?_;simp only [nil_append,List.length_nil,Nat.zero_add];refine ab ?_;refine GW.loop (fun s:Nat × List Int=>N - s.1) (fun s fr Γ=>∃ a c n S,fr=[.aaF,.aaF,.loc 1 0,.aaF,.aaF,.v (.slice a n c),.v (ii (s.1:Nat)),.aaF,.aaF,.aaF,.aaF,.aaF,.aaF,.aaF,.aaF,.aaF,.aaF,.aaF,.aaF,.aaF,.aaF,.aaF,.aaF,.aaF,.aaF,.aaF,.aaF,.aaF,.aaF,.aaF,.aaF,.aaF,.aaF,.aaF,.aaF,.aaF,.aaF,.aaF,.aaF,.aaF]/\Γ=[.vech 3 1 S (.slice a n c),.box 34 (ar p)]/\S.length=n/\S=bm s.2/\Trail p s.2/\s.1<=s.2.length/\uQ (pZ p l) (N+1 - s.1) s.1 s.2=ja p l L0) (0,L0) ?_ ?_
 ·exact ⟨_,_,Wk.aw al,ad,cp,_,_,rfl,rfl,cB,rfl,hL,Nat.zero_le _,by rw [<-hN];rfl⟩
 rintro ⟨i,L⟩ _ _ ⟨a,c,n,S,rfl,rfl,eO,hS,hW,hi,he⟩;simp only at hS hW hi he;have pB:=hW.len
 have ri:n=L.length:=by rw [<-eO,hS,da]
 by_cases aq:i < L.length
 ·have hd:decide ((i:Int) < (n:Int))=true:=decide_eq_true ae;obtain ⟨x,hx⟩:∃ x,L[i]?=some x:=⟨L[i],by simp [aq]⟩
  have ZQ:S[i]?=some [.v (ii x)]:=by rw [hS];unfold bm;rw [getElem?_map,hx];rfl
  have rl:=hW.rng x (mem_of_getElem? hx);obtain ⟨j,hj⟩:∃ j:Nat,x=(j:Int):=⟨x.toNat,by omega⟩;subst hj
  have sM:j < p.fns.length:=by omega
  obtain ⟨f,hf⟩:∃ f,p.fns[j]?=some f:=⟨p.fns[j],by simp [sM]⟩;obtain ⟨t,ht⟩:∃ t,l[j]?=some t:=⟨l[j]'ae,List.getElem?_eq_getElem _⟩;have hC:=uV p hw (hg.fn hf ht)
  have eV:pZ p l (j:Int)=aX p t:=by unfold pZ;rw [Int.toNat_natCast,ht]
  have iY:uQ (pZ p l) (N+1 - (i+1)) (i+1) (dk L (aX p t))=ja p l L0:=by
   rw [<-he,show N+1 - i=(N+1 - (i+1))+1 by omega,EE hx,eV]
  have pA:=jg p t;have eH:=kx p t
  have xM:((aX p t).map fun i=>[GV.v (ii i)]).length=(aX p t).length:=by simp
  have sN:i+1<=(dk L (aX p t)).length:=by
   obtain ⟨m,hm⟩:=zY (aX p t) L;rw [hm,length_append];omega
  generalize aX p t=ks at *;refine ab ?_;refine GW.draw (.q 0 (.q 1 (.q 2 (.q 3 (.q 4 (.q 7 (.a 5 (.q 6 .nil)))))))) (by kernel_rfl) (by kernel_rfl) ?_;refine aj ?_;refine az [] (hC) ?_;refine ab ?_;refine GW.range (ks.map fun i=>[GV.v (ii i)]).length (fun k fr Γ=>∃ a c n S,fr=[.aaF,.aaF,.loc 1 0,.aaF,.aaF,.v (.slice a n c),.v (ii (i:Nat)),.aaF,.aaF,.aaF,.aaF,.aaF,.aaF,.aaF,.aaF,.aaF,.aaF,.aaF,.aaF,.aaF,.aaF,.aaF,ints ks,.v (ii ((ks.map fun i=>[GV.v (ii i)]).length:Int)),.v (ii (k:Nat)),.aaF,.aaF,.aaF,.aaF,.aaF,.aaF,.aaF,.aaF,.aaF,.aaF,.aaF,.aaF,.aaF,.aaF,.aaF]/\Γ=[.vech 3 1 S (.slice a n c),.box 34 (ar p)]/\S.length=n/\S=bm (dk L (ks.take k))) ?_ ae ?_ ?_ ?_
  ·exact ⟨_,_,Wk.aw al,a,c,n,S,rfl,rfl,eO,hS⟩
  ·rintro k _ _ ⟨a,c,n,S,rfl,rfl,_⟩;exact ⟨rfl,rfl,rfl⟩
  ·rintro k _ _ hk ⟨a,c,n,S,rfl,rfl,eO,hS⟩;rw [xM] at hk;obtain ⟨y,hy⟩:∃ y,ks[k]?=some y:=⟨ks[k],by simp [hk]⟩
   have Uh:(ks.map fun i=>[GV.v (ii i)])[k]?=some [.v (ii y)]:=by rw [getElem?_map,hy];rfl
   have TI:=hW.add (ks:=ks.take k) fun y hy=>pA y (List.mem_of_mem_take hy)
   have MC:=TI.len
   have Bp:GF Tryz.prog 56 [.sl 1 S,.v (ii y)] [] (.v (.bool ((dk L (ks.take k)).contains y))) []:=by
    rw [hS];exact qJ (dk L (ks.take k)) y ae
   have O8:=Dc L ks k y hy
   have rf:n<=1048576:=by rw [<-eO,hS,da];omega
   rw [O8]
   cases hb:(dk L (ks.take k)).contains y with
   | true =>
    rw [hb] at Bp;rw [if_pos rfl];refine ab ?_;refine GL.borrow Bp (fun B K β w l hI hF=>gC (A:=[]) (C:=[_]) hI hF rfl rfl) ?_;refine bT ?_;refine ab ?_;exact ⟨rfl,rfl,_,_,Wk.aw al,a,c,n,S,rfl,rfl,eO,hS⟩
   | false =>
    rw [hb] at Bp;rw [if_neg (by decide)]
    have oQ:bm (dk L (ks.take k)++[y])=S++[[.v (ii y)]]:=by rw [hS];simp [bm]
    rw [oQ];clear hS;refine ab ?_;refine GL.borrow Bp (fun B K β w l hI hF=>gC (A:=[]) (C:=[_]) hI hF rfl rfl) ?_;refine bT ?_;refine ab ?_;refine GL.jG 0 rfl rfl rfl rfl rfl rfl rfl rfl (by first | rfl | assumption) ⟨⟨by omega,by omega⟩,by decide⟩ ?_;intro a2 c2;refine bI ?_;refine ab ?_;exact ⟨rfl,rfl,_,_,Wk.aw al,a2,c2,_,_,rfl,rfl,by simp [eO],rfl⟩
  ·rintro _ _ ⟨a,c,n,S,rfl,rfl,eO,hS⟩;rw [xM,take_length] at hS;refine bQ (aD ?_);refine ab ?_;exact ⟨(i+1,dk L ks),⟨_,_,Wk.aw al,a,c,n,S,rfl,rfl,eO,hS,hW.add pA,sN,iY⟩,by show N - (i+1) < N - i;omega⟩
 ·have hd:decide ((i:Int) < (n:Int))=false:=decide_eq_false ae;have hb:=EG (cs:=pZ p l) (f:=N+1 - i) (i:=i) (L:=L) ae;rw [hb] at he;rw [<-he];have WU:=Lt L 3 a c ae;rw [<-ri,<-hS] at WU
  have qb:(bm (fv L)).length=n:=by rw [da,lO,ri]
  refine ab ?_;refine aU ?_;refine ab ?_;refine U [0] (WU) ?_;refine GW.wk (Wk.nB (t:=4) (i:=0) rfl rfl rfl) ?_;exact ao
end Go.Xg
namespace Go.Im
open Go.Xp Go.Sp
theorem xo {l:List Int} {k:Nat} {x n:Int} (h:l[k]?=some x) (hc:(l.take k).contains n=false) (hx:(x==n)=false):(l.take (k+1)).contains n=false:=by
 rw [List.take_add_one,h];simp only [List.contains_eq_mem,decide_eq_false_iff_not,List.mem_append,not_or] at *;refine ⟨hc,?_⟩;simp only [Option.toList_some,mem_singleton];intro e;subst e;simp at hx
theorem EM {l:List Int} {k:Nat} {x n:Int} (h:l[k]?=some x) (hx:(x==n)=true):l.contains n=true:=by
 have:x=n:=by simpa using hx
 subst this;exact List.contains_iff_mem.2 (mem_of_getElem? h)
theorem Sv {l:List Int} {n:Int} (h:l.contains n=true):gZ l n=l:=by unfold gZ;rw [if_pos h]
theorem wU:∀ (ks l:List Int),(ks.foldl gZ l).length<=l.length+ks.length
 | [],l=>by simp
 | k::r,l=>by
  have:=wU r (gZ l k);have:=PI (l:=l) (n:=k);rw [List.foldl_cons,List.length_cons];omega
end Go.Im
namespace Go.Xg
open Go.RowKit Go.Xw Go.Proofs
open Go.Xp (Nd T Ar aK ay b7)
open Go.Sp (Src)
open Go.Im
attribute [local irreducible] GW GL GO YG GC GA aS aW
theorem Pr (l:List Int) (n:Int) (a:Option Addr) (c:Nat) (hl:l.length<=8388608) :
  GC Tryz.prog 134 [.v (.slice a l.length c),.v (ii n)] [.vech 3 1 (bm l) (.slice a l.length c)] fun g Δ =>
   (l.contains n=true/\g=.v (.slice a l.length c)/\Δ=[.vech 3 1 (bm l) (.slice a l.length c)]) \/
   (l.contains n=false/\∃ a' c',g=.v (.slice a' (gZ l n).length c')/\Δ=[.vech 3 1 (bm l) (.slice a l.length c),.vech 3 1 (bm (gZ l n)) (.slice a' (gZ l n).length c')]):=by
 have pB:=da l;refine ai Tryz.func134 Tryz.ntmps134 ?_;refine ma ?_;refine GL.wc (t:=9) rfl rfl rfl rfl ?_;intro a1 c1;refine bI ?_;refine ab ?_;refine GW.range l.length (fun k fr Γ=>∃ a1 c1 m dn S,fr=[.v (.slice a l.length c),.v (ii n),.aaF,.aaF,.aaF,.v (.slice a1 m c1),.v (.bool dn),.aaF,.aaF,.aaF,.v (.slice a l.length c),.v (ii (l.length:Int)),.v (ii (k:Nat)),.aaF,.aaF,.aaF,.aaF,.aaF,.aaF,.aaF,.aaF,.aaF,.aaF,.aaF,.aaF,.aaF,.aaF,.aaF,.aaF,.aaF,.aaF,.aaF,.aaF,.aaF,.aaF,.aaF,.aaF,.aaF,.aaF,.aaF,.aaF,.aaF,.aaF]/\Γ=[.vech 3 1 (bm l) (.slice a l.length c),.vech 3 1 S (.slice a1 m c1)]/\S.length=m/\S=bm (iQ l n k).1/\dn=(iQ l n k).2/\(l.take k).contains n=false) ?_ ae ?_ ?_ ?_
 ·exact ⟨_,_,Wk.aw al,a1,c1,0,false,[],rfl,rfl,rfl,rfl,rfl,rfl⟩
 ·rintro k _ _ ⟨a1,c1,m,dn,S,rfl,rfl,_⟩;exact ⟨rfl,rfl,rfl⟩
 ·rintro k _ _ aq ⟨a1,c1,m,dn,S,rfl,rfl,zt,hS,Iz,hc⟩;obtain ⟨x,hx⟩:∃ x,l[k]?=some x:=⟨l[k],by simp [aq]⟩
  have hr:(bm l)[k]?=some [.v (ii x)]:=by unfold bm;rw [getElem?_map,hx];rfl
  have eH:k < (bm l).length:=by omega
  have hm:m<=8388609:=by
   have:=(Gm l n k).1;rw [<-zt,hS,da];omega
  have iY:=DV (n:=n) hx
  cases h1:(x==n) with
  | true =>
   refine ab ?_
   (repeat (first | refine GW.ret ?_ | refine cr ?_ | refine cn ?_ | refine aD ?_ | refine bQ ?_))
   exact po (n:=1) rfl (by first | exact .inr rfl | exact .inl rfl) rfl (Nat.le_of_ble_eq_true rfl) rfl rfl (.inl ⟨EM hx h1,rfl,rfl⟩)
  | false =>
   have gH:=xo hx hc h1
   cases dn with
   | true =>
    have e:iQ l n (k+1)=((iQ l n k).1++[x],true):=by rw [iY];unfold nR;rw [<-Iz];rfl
    have oQ:bm (iQ l n (k+1)).1=S++[[.v (ii x)]]:=by rw [e,hS];simp [bm]
    clear hS;refine ab ?_;refine GL.jG 1 rfl rfl rfl rfl rfl rfl rfl rfl (by first | rfl | assumption) ⟨⟨by omega,by omega⟩,by decide⟩ ?_;intro a2 c2;refine bI ?_;refine ab ?_;exact ⟨rfl,rfl,_,_,Wk.aw al,a2,c2,_,true,_,rfl,rfl,by simp [zt],oQ.symm,by rw [e],gH⟩
   | false =>
    cases h3:decide (n < x) with
    | true =>
     have e:iQ l n (k+1)=((iQ l n k).1++[n]++[x],true):=by rw [iY];unfold nR;rw [<-Iz,h3];rfl
     have oQ:bm (iQ l n (k+1)).1=(S++[[.v (ii n)]])++[[.v (ii x)]]:=by rw [e,hS];simp [bm]
     have hSl:(S++[[GV.v (ii n)]]).length=m+1:=by rw [length_append,zt];rfl
     clear hS;refine ab ?_;refine GL.jG 1 rfl rfl rfl rfl rfl rfl rfl rfl (by first | rfl | assumption) ⟨⟨by omega,by omega⟩,by decide⟩ ?_;intro a2 c2;refine bI ?_;refine ab ?_;refine GL.jG 1 rfl rfl rfl rfl rfl rfl rfl rfl (by first | rfl | assumption) ⟨⟨by omega,by omega⟩,by decide⟩ ?_;intro a3 c3;refine bI ?_;refine ab ?_;exact ⟨rfl,rfl,_,_,Wk.aw al,a3,c3,_,true,_,rfl,rfl,by simp [zt],oQ.symm,by rw [e],gH⟩
    | false =>
     have e:iQ l n (k+1)=((iQ l n k).1++[x],false):=by rw [iY];unfold nR;rw [<-Iz,h3];rfl
     have oQ:bm (iQ l n (k+1)).1=S++[[.v (ii x)]]:=by rw [e,hS];simp [bm]
     clear hS;refine ab ?_;refine GL.jG 1 rfl rfl rfl rfl rfl rfl rfl rfl (by first | rfl | assumption) ⟨⟨by omega,by omega⟩,by decide⟩ ?_;intro a2 c2;refine bI ?_;refine ab ?_;exact ⟨rfl,rfl,_,_,Wk.aw al,a2,c2,_,false,_,rfl,rfl,by simp [zt],oQ.symm,by rw [e],gH⟩
 ·rintro _ _ ⟨a1,c1,m,dn,S,rfl,rfl,zt,hS,Iz,hc⟩;rw [take_length] at hc;have oA:=PJ l n hc
  have hm:m<=8388609:=by
   have:=(Gm l n l.length).1;rw [<-zt,hS,da];omega
  refine aD ?_
  cases dn with
  | true =>
   rw [if_pos Iz.symm] at oA
   have e:m=(gZ l n).length:=by rw [<-zt,hS,da,oA]
   subst e;rw [oA] at hS;subst hS;refine ab ?_
   (repeat (first | refine GW.ret ?_ | refine cr ?_ | refine cn ?_ | refine aD ?_ | refine bQ ?_))
   exact po (n:=2) rfl (by first | exact .inr rfl | exact .inl rfl) rfl (Nat.le_of_ble_eq_true rfl) rfl rfl (.inr ⟨hc,a1,c1,rfl,rfl⟩)
  | false =>
   rw [if_neg (by rw [<-Iz];decide)] at oA
   have oQ:bm (gZ l n)=S++[[.v (ii n)]]:=by rw [<-oA,hS];simp [bm]
   have e:(gZ l n).length=m+1:=by rw [<-da,oQ,length_append,zt];rfl
   rw [oQ,e];clear hS;subst zt;refine ab ?_;refine GL.jG 1 rfl rfl rfl rfl rfl rfl rfl rfl (by first | rfl | assumption) ⟨⟨by omega,by omega⟩,by decide⟩ ?_;intro a2 c2;refine bI ?_;refine ab ?_
   (repeat (first | refine GW.ret ?_ | refine cr ?_ | refine cn ?_ | refine aD ?_ | refine bQ ?_))
   exact po (n:=2) rfl (by first | exact .inr rfl | exact .inl rfl) rfl (Nat.le_of_ble_eq_true rfl) rfl rfl (.inr ⟨hc,a2,c2,rfl,rfl⟩)
end Go.Xg
namespace Go.Im
open Go.Xp Go.Sp
def lh (l ks:List Int):List Int:=ks.foldl gZ l
theorem KJ (l a b:List Int):lh l (a++b)=lh (lh l a) b:=List.foldl_append
theorem KK (l ks:List Int):(lh l ks).length<=l.length+ks.length:=wU ks l
theorem LL (p:Src) {l:List T} {k:Nat} {u:T} (h:l[k]?=some u) (o:List Int) (n:Nd):lh o (tQ p n++gL p (l.take (k+1)))=lh (lh o (tQ p n++gL p (l.take k))) (nX p u):=by
 rw [LM p h,<-List.append_assoc,KJ]
end Go.Im
namespace Go.Xg
open Go.RowKit Go.Xw Go.Proofs
open Go.Xp (Nd T Ar aK ay b7)
open Go.Sp (Src)
open Go.Im
attribute [local irreducible] GW GL GO YG GC GA aS aW
def S4 (l r:List Int) (a:Option Addr) (c:Nat) (g:GV) (Δ:List Ob):Prop :=
 (r=l/\g=.v (.slice a l.length c)/\Δ=[.vech 3 1 (bm l) (.slice a l.length c)]) \/
 (∃ a' c',g=.v (.slice a' r.length c')/\Δ=[.vech 3 1 (bm l) (.slice a l.length c),.vech 3 1 (bm r) (.slice a' r.length c')])
theorem Nf (l:List Int) (n:Int) (a:Option Addr) (c:Nat) (hl:l.length<=8388608) :
  GC Tryz.prog 134 [.v (.slice a l.length c),.v (ii n)] [.vech 3 1 (bm l) (.slice a l.length c)] (S4 l (gZ l n) a c):=by
 refine (Pr l n a c hl).mono fun g Δ h=>?_
 rcases h with ⟨h1,h2,h3⟩ | ⟨h1,a',c',h2,h3⟩
 ·exact .inl ⟨Sv h1,h2,h3⟩
 ·exact .inr ⟨a',c',h2,h3⟩
theorem Kn (p:Src) (fG:p.fns.length<=1099511627776):∀ (N:Nat) (t:T),aK t<=N->∀ (l:List Int) (a:Option Addr) (c:Nat),l.length+aK t<=8388608 ->
  GC Tryz.prog 98 [.v (.slice a l.length c),.agg (ar p),.agg (cT t)] [.vech 3 1 (bm l) (.slice a l.length c)] (S4 l (lh l (nX p t)) a c):=by
 intro N
 induction N with
 | zero=>intro t h;have:=jU t;omega
 | succ N ih =>
 intro t hN l a c lX
 cases t with
 | mk n ks =>
 rw [Go.Xp.aK] at hN lX;have pB:=b7 ks;have eP:(aL ks).length=ks.length:=aM ks;have hF:=CF p n.s fG;have e0:cH (fun x:Go.Sp.Fn=>x.name==n.s) p.fns=nt p n.s:=rfl;rw [e0] at hF;have hP:=Nf l (nt p n.s) a c ae
 have gH:tQ p n=if n.kind=4/\0<=nt p n.s then [nt p n.s] else []:=rfl
 rw [nX];generalize nt p n.s=z at *;refine ai Tryz.func98 Tryz.ntmps98 ?_;refine U [] (hF) ?_
 refine GL.V3 (fun fr Γ=>∃ h L,fr=[.v h,.aaF,.aaF,.aaF,.loc 1 0,.loc 2 0,.aaF,.aaF,.aaF,.aaF,.aaF,.aaF,.aaF,.aaF,.aaF,.aaF,.aaF,.aaF,.aaF,.aaF,.aaF,.aaF,.aaF,.aaF,.aaF,.aaF,.aaF,.aaF,.aaF,.aaF,.aaF,.aaF,.aaF,.aaF,.aaF,.aaF,.aaF,.aaF,.aaF]/\L=lh l (tQ p n) /\
  ((L=l/\h=.slice a l.length c/\Γ=[.vech 3 1 (bm l) (.slice a l.length c),.box 34 (ar p),.box 94 (cT (.mk n ks))]) \/
   (∃ a' c',h=.slice a' L.length c'/\Γ=[.vech 3 1 (bm l) (.slice a l.length c),.box 34 (ar p),.box 94 (cT (.mk n ks)),.vech 3 1 (bm L) (.slice a' L.length c')]))) ?_ ?_
 ·cases q4:(n.kind==4) with
  | false =>
   rw [if_neg (fun h=>by rw [h.1] at q4;cases q4)] at gH;refine ab ?_;exact ⟨_,_,Wk.aw al,_,l,rfl,by rw [gH];rfl,.inl ⟨rfl,rfl,rfl⟩⟩
  | true =>
   cases q5:decide ((0:Int)<=z) with
   | false =>
    rw [if_neg (fun h=>by have:=of_decide_eq_false q5;exact this h.2)] at gH;refine ab ?_;exact ⟨_,_,Wk.aw al,_,l,rfl,by rw [gH];rfl,.inl ⟨rfl,rfl,rfl⟩⟩
   | true =>
    rw [if_pos ⟨by simpa using q4,by simpa using q5⟩] at gH;refine ab ?_;refine bJ [0] (hP) ?_;rintro _ _ (⟨h1,rfl,rfl⟩ | ⟨a',c',rfl,rfl⟩)
    ·refine cj ?_;refine ab ?_;exact ⟨_,_,Wk.aw al,_,l,rfl,by rw [gH];exact h1.symm,.inl ⟨rfl,rfl,rfl⟩⟩
    ·refine cj ?_;refine ab ?_;exact ⟨_,_,Wk.aw al,_,gZ l z,rfl,by rw [gH];rfl,.inr ⟨a',c',rfl,rfl⟩⟩
 ·rintro _ _ ⟨h,L0,rfl,Zh,Iy⟩;have aah:=Cu p n
  rcases Iy with ⟨e1,rfl,rfl⟩ | ⟨a0,c0,rfl,rfl⟩
  all_goals
   refine ab ?_
   refine GW.range (aL ks).length (fun k fr Γ=>∃ h L,fr=[.v h,.aaF,.aaF,.aaF,.loc 1 0,.loc 2 0,.aaF,.aaF,.aaF,.aaF,.aaF,.aaF,.aaF,.aaF,.aaF,.aaF,.aaF,.aaF,.aaF,.aaF,.aaF,.aaF,.aaF,.aaF,.aaF,.aaF,.aaF,.sl 6 (aL ks),.v (ii ((aL ks).length:Int)),.v (ii (k:Nat)),.aaF,.aaF,.aaF,.aaF,.aaF,.aaF,.aaF,.aaF,.aaF]/\L=lh l (tQ p n++gL p (ks.take k)) /\
    ((L=l/\h=.slice a l.length c/\Γ=[.vech 3 1 (bm l) (.slice a l.length c),.box 34 (ar p),.box 94 (cT (.mk n ks))]) \/
     (∃ a' c',h=.slice a' L.length c'/\Γ=[.vech 3 1 (bm l) (.slice a l.length c),.box 34 (ar p),.box 94 (cT (.mk n ks)),.vech 3 1 (bm L) (.slice a' L.length c')]))) ?_ ae ?_ ?_ ?_
   ·exact ⟨_,_,Wk.aw al,_,L0,rfl,by rw [List.take_zero,gL,List.append_nil];exact Zh,by first | exact .inl ⟨e1,rfl,rfl⟩ | exact .inr ⟨_,_,rfl,rfl⟩⟩
   ·rintro k _ _ ⟨h,L,rfl,_,Iy⟩;exact ⟨rfl,rfl,rfl⟩
   ·rintro k _ _ aq ⟨h,L,rfl,hL,Iy⟩;rw [eP] at aq;obtain ⟨u,hu⟩:∃ u,ks[k]?=some u:=⟨ks[k],by simp [aq]⟩;have hr:=cJ hu;have cI:=tC hu
    have hLl:L.length<=l.length+1+ay (ks.take k):=by
     have:=KK l (tQ p n++gL p (ks.take k));have:=EL p (ks.take k);rw [length_append] at *;rw [hL];omega
    have iY:=LL p hu l n;rw [<-hL] at iY;rw [iY]
    rcases Iy with ⟨e2,rfl,rfl⟩ | ⟨a',c',rfl,rfl⟩
    ·subst e2;have hi:=ih u ae L a c ae;generalize lh L (nX p u)=L2 at *;refine ab ?_;refine bJ [0] (hi) ?_;rintro _ _ (⟨h1,rfl,rfl⟩ | ⟨a2,c2,rfl,rfl⟩)
     ·refine cj ?_;refine ab ?_;exact ⟨rfl,rfl,_,_,(Wk.cut (n:=3) (Nat.le_of_ble_eq_true rfl) rfl).trans (Wk.aw al),_,L2,rfl,rfl,.inl ⟨h1,rfl,rfl⟩⟩
     ·refine cj ?_;refine ab ?_;exact ⟨rfl,rfl,_,_,(Wk.keep (n:=3) (j:=4) (Nat.le_of_ble_eq_true rfl) (by decide) rfl rfl rfl).trans (Wk.aw al),_,L2,rfl,rfl,.inr ⟨a2,c2,rfl,rfl⟩⟩
    ·have hi:=ih u ae L a' c' ae;generalize lh L (nX p u)=L2 at *;refine ab ?_;refine bJ [3] (hi) ?_;rintro _ _ (⟨rfl,rfl,rfl⟩ | ⟨a2,c2,rfl,rfl⟩)
     ·refine cj ?_;refine ab ?_;exact ⟨rfl,rfl,_,_,(Wk.cut (n:=4) (Nat.le_of_ble_eq_true rfl) rfl).trans (Wk.aw al),_,_,rfl,rfl,.inr ⟨a',c',rfl,rfl⟩⟩
     ·refine cj ?_;refine ab ?_;exact ⟨rfl,rfl,_,_,(Wk.keep (n:=3) (j:=5) (Nat.le_of_ble_eq_true rfl) (by decide) rfl rfl rfl).trans (Wk.aw al),_,L2,rfl,rfl,.inr ⟨a2,c2,rfl,rfl⟩⟩
   ·rintro _ _ ⟨h,L,rfl,hL,Iy⟩;rw [eP,take_length] at hL;rw [<-hL];refine aD ?_
    rcases Iy with ⟨e2,rfl,rfl⟩ | ⟨a',c',rfl,rfl⟩
    ·refine ab ?_
     (repeat (first | refine GW.ret ?_ | refine cr ?_ | refine cn ?_ | refine aD ?_ | refine bQ ?_))
     exact po (n:=1) rfl (by first | exact .inr rfl | exact .inl rfl) rfl (Nat.le_of_ble_eq_true rfl) rfl rfl (.inl ⟨e2,rfl,rfl⟩)
    ·refine GW.wk (Wk.keep (n:=1) (j:=3) (Nat.le_refl _) (by decide) rfl rfl rfl) ?_;refine GW.L4 (bU:=[.v (.slice a' L.length c'),.aaF,.aaF,.aaF,.aaF,.aaF,.aaF,.aaF,.aaF,.aaF,.aaF,.aaF,.aaF,.aaF,.aaF,.aaF,.aaF,.aaF,.aaF,.aaF,.aaF,.aaF,.aaF,.aaF,.aaF,.aaF,.aaF,.aaF,.aaF,.aaF,.aaF,.aaF,.aaF,.aaF,.aaF,.aaF,.aaF,.aaF,.aaF]) (aH:=[.vech 3 1 (bm l) (.slice a l.length c),.vech 3 1 (bm L) (.slice a' L.length c')]) al rfl ?_;refine ab ?_
     (repeat (first | refine GW.ret ?_ | refine cr ?_ | refine cn ?_ | refine aD ?_ | refine bQ ?_))
     exact po (n:=2) rfl (by first | exact .inr rfl | exact .inl rfl) rfl (Nat.le_of_ble_eq_true rfl) rfl rfl (.inr ⟨a',c',rfl,rfl⟩)
end Go.Xg
namespace Go.Im
open Go.Xp Go.Sp
def iR (p:Src) (fn:Int):List Int:=if gY p fn=true then (match gW p.nodes p.fns 0 [] with | some (l,_)=>pZ p l fn | none=>[]) else []
theorem JM {p:Src} {l:List T} {i:Nat} {f:Go.Sp.Fn} {t:T} (hh:gY p (i:Int)=true) (h:o9 p l i f t):iR p (i:Int)=aX p t:=by
 unfold iR;rw [if_pos hh,h.good.zj];simp only;unfold pZ;rw [Int.toNat_natCast,h.gt]
theorem KL (ks:List Int):lh [] ks=og ks:=rfl
theorem yN {p:Src} {i:Nat} (hg:eo p=true) (hi:i < p.fns.length):gY p (i:Int)=true:=by
 unfold gY;rw [hg,decide_eq_true (show (0:Int)<=(i:Int) by omega),decide_eq_true (show (i:Int) < (p.fns.length:Int) by omega)];rfl
end Go.Im
namespace Go.Xg
open Go.RowKit Go.Xw Go.Proofs
open Go.Xp (Nd T Ar aK ay b7)
open Go.Sp (Src)
open Go.Im
attribute [local irreducible] GW GL GO YG GC GA aS aW
theorem rL (p:Src) (hw:cM p<=1048576) {l:List T} {i:Nat} {f:Go.Sp.Fn} {t:T} (hg:eo p=true) (h:o9 p l i f t) :
  GC Tryz.prog 40 [.agg (ar p),.v (ii (i:Nat))] [] fun g Δ=>∃ a c,g=.v (.slice a (aX p t).length c)/\Δ=[.vech 3 1 (bm (aX p t)) (.slice a (aX p t).length c)]:=by
 obtain ⟨⟨a1,a2⟩,⟨b1,b2⟩,⟨c1,c2⟩,⟨d1,d2⟩⟩:=cW p;have hG:=u9 p hw;rw [hg] at hG
 have iU:(p.fns.map au).length=p.fns.length:=by simp
 have hi:=(List.getElem?_eq_some_iff.1 h.gf).1
 have hr:(p.fns.map au)[i]?=some (au f):=by rw [getElem?_map,h.gf];rfl
 have q2:decide ((i:Int) < 0)=false:=decide_eq_false ae;have q3:decide (((p.fns.map au).length:Int)<=(i:Int))=false:=decide_eq_false (by rw [iU];omega);have hS:=Vd p (fun n hn=>by have:=(d2 n hn).2;omega) f t h.body h.st
 have hC:=fun a c=>Kn p ae _ t (Nat.le_refl _) [] a c (by have:=h.sz;show 0+_<=_;omega)
 rw [KL] at hC;unfold aX;unfold au at hr;generalize og (nX p t)=rr at *;refine ai Tryz.func40 Tryz.ntmps40 ?_;refine U [] (hG) ?_;refine GW.draw (.q 1 (.q 2 (.q 3 (.q 4 (.q 5 (.q 6 (.q 7 (.q 8 (.f 0 (.a 9 (.a 10 (.q 11 .nil))) 9 (.a 0 (.a 10 (.q 11 .nil)))))))))))) (by kernel_rfl) (by kernel_rfl) ?_;refine aj ?_;refine GO.fork ?_ ?_
 ·refine OA rfl rfl (GL.Ra rfl rfl rfl rfl ?_);refine GL.wc (t:=19) rfl rfl rfl rfl ?_;intro a1 c1;refine dD ?_;refine aj ?_;refine az [] (hS) ?_;refine OA rfl rfl ?_;refine bJ [1] (hC a1 c1) ?_;rintro _ _ (⟨h1,rfl,rfl⟩ | ⟨a',c',rfl,rfl⟩)
  ·refine ⟨by simp,?_⟩;refine dD ?_;subst h1;refine aj ?_;refine ab ?_
   (repeat (first | refine GW.ret ?_ | refine cr ?_ | refine cn ?_ | refine aD ?_ | refine bQ ?_))
   refine rQ 1 rfl (by first | exact .inr rfl | exact .inl rfl) rfl ?_ ?_
   ·intro x hx;rw [List.mem_singleton.1 hx];rfl
   ·exact ⟨_,_,rfl,rfl⟩
  ·refine ⟨by simp,?_⟩;refine dD ?_;refine aj ?_;refine ab ?_
   (repeat (first | refine GW.ret ?_ | refine cr ?_ | refine cn ?_ | refine aD ?_ | refine bQ ?_))
   refine rQ 2 rfl (by first | exact .inr rfl | exact .inl rfl) rfl ?_ ?_
   ·intro x hx;rw [List.mem_singleton.1 hx];rfl
   ·exact ⟨_,_,rfl,rfl⟩
 ·refine az [] (hS) ?_;refine OA rfl rfl (GL.Ra rfl rfl rfl rfl ?_);refine GL.wc (t:=19) rfl rfl rfl rfl ?_;intro a1 c1;refine dD ?_;refine aj ?_;refine OA rfl rfl ?_;refine bJ [1] (hC a1 c1) ?_;rintro _ _ (⟨h1,rfl,rfl⟩ | ⟨a',c',rfl,rfl⟩)
  ·refine ⟨by simp,?_⟩;refine dD ?_;subst h1;refine aj ?_;refine ab ?_
   (repeat (first | refine GW.ret ?_ | refine cr ?_ | refine cn ?_ | refine aD ?_ | refine bQ ?_))
   refine rQ 1 rfl (by first | exact .inr rfl | exact .inl rfl) rfl ?_ ?_
   ·intro x hx;rw [List.mem_singleton.1 hx];rfl
   ·exact ⟨_,_,rfl,rfl⟩
  ·refine ⟨by simp,?_⟩;refine dD ?_;refine aj ?_;refine ab ?_
   (repeat (first | refine GW.ret ?_ | refine cr ?_ | refine cn ?_ | refine aD ?_ | refine bQ ?_))
   refine rQ 2 rfl (by first | exact .inr rfl | exact .inl rfl) rfl ?_ ?_
   ·intro x hx;rw [List.mem_singleton.1 hx];rfl
   ·exact ⟨_,_,rfl,rfl⟩
end Go.Xg
namespace Go.Xg
open Go.RowKit Go.Xw Go.Proofs
open Go.Xp (Nd T Ar aK ay b7)
open Go.Sp (Src)
open Go.Im
attribute [local irreducible] GW GL GO YG GC GA aS aW
theorem kJ (p:Src) (t:T):Trail p (aX p t):=⟨yi (qi p t),jg p t⟩
theorem DK (p:Src) (hw:cM p<=1048576) (lz:eo p=true) {l:List T} {i0:Nat} {f0:Go.Sp.Fn} {t0:T} (h0:o9 p l i0 f0 t0) :
  GF Tryz.prog 52 [.agg (ar p),.v (ii (i0:Nat))] [] (ints (ja p l (aX p t0))) []:=by
 obtain ⟨⟨a1,a2⟩,⟨b1,b2⟩,⟨c1,c2⟩,⟨d1,d2⟩⟩:=cW p;have hlen:=h0.good.len;have hg:=h0.good;have hL:=kJ p t0;have ve:=hL.len;have Za:=rL p hw lz h0;generalize aX p t0=L0 at *;obtain ⟨N,hN⟩:∃ N,p.fns.length=N:=⟨_,rfl⟩;have ML:=da L0;refine ai Tryz.func52 Tryz.ntmps52 ?_;refine bJ [] (Za) ?_;rintro _ _ ⟨ad,cp,rfl,rfl⟩;refine cj ?_;refine ab ?_;refine GW.loop (fun s:Nat × List Int=>N - s.1) (fun s fr Γ=>∃ a c n S,fr=[.aaF,.aaF,.loc 0 0,.aaF,.aaF,.v (.slice a n c),.v (ii (s.1:Nat)),.aaF,.aaF,.aaF,.aaF,.aaF,.aaF,.aaF,.aaF,.aaF,.aaF,.aaF,.aaF,.aaF,.aaF,.aaF,.aaF,.aaF,.aaF,.aaF,.aaF,.aaF,.aaF,.aaF,.aaF,.aaF,.aaF,.aaF,.aaF,.aaF,.aaF,.aaF,.aaF]/\Γ=[.box 34 (ar p),.vech 3 1 S (.slice a n c)]/\S.length=n/\S=bm s.2/\Trail p s.2/\s.1<=s.2.length/\uQ (pZ p l) (N+1 - s.1) s.1 s.2=ja p l L0) (0,L0) ?_ ?_
 ·exact ⟨_,_,Wk.aw al,ad,cp,_,_,rfl,rfl,ML,rfl,hL,Nat.zero_le _,by rw [<-hN];rfl⟩
 rintro ⟨i,L⟩ _ _ ⟨a,c,n,S,rfl,rfl,eO,hS,hW,hi,he⟩;simp only at hS hW hi he;have pB:=hW.len
 have ri:n=L.length:=by rw [<-eO,hS,da]
 by_cases aq:i < L.length
 ·have hd:decide ((i:Int) < (n:Int))=true:=decide_eq_true ae;obtain ⟨x,hx⟩:∃ x,L[i]?=some x:=⟨L[i],by simp [aq]⟩
  have ZQ:S[i]?=some [.v (ii x)]:=by rw [hS];unfold bm;rw [getElem?_map,hx];rfl
  have rl:=hW.rng x (mem_of_getElem? hx);obtain ⟨j,hj⟩:∃ j:Nat,x=(j:Int):=⟨x.toNat,by omega⟩;subst hj
  have sM:j < p.fns.length:=by omega
  obtain ⟨f,hf⟩:∃ f,p.fns[j]?=some f:=⟨p.fns[j],by simp [sM]⟩;obtain ⟨t,ht⟩:∃ t,l[j]?=some t:=⟨l[j]'ae,List.getElem?_eq_getElem _⟩;have hC:=rL p hw lz (hg.fn hf ht)
  have eV:pZ p l (j:Int)=aX p t:=by unfold pZ;rw [Int.toNat_natCast,ht]
  have iY:uQ (pZ p l) (N+1 - (i+1)) (i+1) (dk L (aX p t))=ja p l L0:=by
   rw [<-he,show N+1 - i=(N+1 - (i+1))+1 by omega,EE hx,eV]
  have pA:=jg p t;have eH:=kx p t
  have xM:((aX p t).map fun i=>[GV.v (ii i)]).length=(aX p t).length:=by simp
  have sN:i+1<=(dk L (aX p t)).length:=by
   obtain ⟨m,hm⟩:=zY (aX p t) L;rw [hm,length_append];omega
  generalize aX p t=ks at *;refine ab ?_;refine GW.draw (.q 0 (.q 1 (.q 2 (.q 3 (.q 4 (.q 7 (.a 5 (.q 6 .nil)))))))) (by kernel_rfl) (by kernel_rfl) ?_;refine aj ?_;refine OA rfl rfl ?_;refine bJ [] (hC) ?_;rintro _ _ ⟨a2,c2,rfl,rfl⟩;refine ⟨by simp,?_⟩;refine GL.wk (Wk.nB (t:=23) (i:=2) rfl rfl rfl) ?_;refine dD ?_;refine aj ?_;refine ab ?_;refine GW.range (ks.map fun i=>[GV.v (ii i)]).length (fun k fr Γ=>∃ a c n S B,fr=[.aaF,.aaF,.loc 0 0,.aaF,.aaF,.v (.slice a n c),.v (ii (i:Nat)),.aaF,.aaF,.aaF,.aaF,.aaF,.aaF,.aaF,.aaF,.aaF,.aaF,.aaF,.aaF,.aaF,.aaF,.aaF,.aaF,ints ks,.v (ii ((ks.map fun i=>[GV.v (ii i)]).length:Int)),.v (ii (k:Nat)),.aaF,.aaF,.aaF,.aaF,.aaF,.aaF,.aaF,.aaF,.aaF,.aaF,.aaF,.aaF,.aaF]/\Γ=[.box 34 (ar p),.vech 3 1 S (.slice a n c),B]/\S.length=n/\S=bm (dk L (ks.take k))) ?_ ae ?_ ?_ ?_
  ·exact ⟨_,_,Wk.aw al,a,c,n,S,_,rfl,rfl,eO,hS⟩
  ·rintro k _ _ ⟨a,c,n,S,B,rfl,rfl,_⟩;exact ⟨rfl,rfl,rfl⟩
  ·rintro k _ _ hk ⟨a,c,n,S,B,rfl,rfl,eO,hS⟩;rw [xM] at hk;obtain ⟨y,hy⟩:∃ y,ks[k]?=some y:=⟨ks[k],by simp [hk]⟩
   have Uh:(ks.map fun i=>[GV.v (ii i)])[k]?=some [.v (ii y)]:=by rw [getElem?_map,hy];rfl
   have TI:=hW.add (ks:=ks.take k) fun y hy=>pA y (List.mem_of_mem_take hy)
   have MC:=TI.len
   have Bp:GF Tryz.prog 51 [.sl 1 S,.v (ii y)] [] (.v (.bool ((dk L (ks.take k)).contains y))) []:=by
    rw [hS];exact wu (dk L (ks.take k)) y ae
   have O8:=Dc L ks k y hy
   have rf:n<=1048576:=by rw [<-eO,hS,da];omega
   rw [O8]
   cases hb:(dk L (ks.take k)).contains y with
   | true =>
    rw [hb] at Bp;rw [if_pos rfl];refine ab ?_;refine GL.borrow Bp (fun B K β w l hI hF=>gC (A:=[_]) (C:=[_]) hI hF rfl rfl) ?_;refine bT ?_;refine ab ?_;exact ⟨rfl,rfl,_,_,Wk.aw al,a,c,n,S,B,rfl,rfl,eO,hS⟩
   | false =>
    rw [hb] at Bp;rw [if_neg (by decide)]
    have oQ:bm (dk L (ks.take k)++[y])=S++[[.v (ii y)]]:=by rw [hS];simp [bm]
    rw [oQ];clear hS;refine ab ?_;refine GL.borrow Bp (fun B K β w l hI hF=>gC (A:=[_]) (C:=[_]) hI hF rfl rfl) ?_;refine bT ?_;refine ab ?_;refine GL.jG 1 rfl rfl rfl rfl rfl rfl rfl rfl (by first | rfl | assumption) ⟨⟨by omega,by omega⟩,by decide⟩ ?_;intro a2 c2;refine bI ?_;refine ab ?_;exact ⟨rfl,rfl,_,_,Wk.aw al,a2,c2,_,_,B,rfl,rfl,by simp [eO],rfl⟩
  ·rintro _ _ ⟨a,c,n,S,B,rfl,rfl,eO,hS⟩;rw [xM,take_length] at hS;refine bQ (aD ?_);refine ab ?_;exact ⟨(i+1,dk L ks),⟨_,_,(Wk.cut (n:=2) (Nat.zero_le _) rfl).trans (Wk.aw al),a,c,n,S,rfl,rfl,eO,hS,hW.add pA,sN,iY⟩,by show N - (i+1) < N - i;omega⟩
 ·have hd:decide ((i:Int) < (n:Int))=false:=decide_eq_false ae;have hb:=EG (cs:=pZ p l) (f:=N+1 - i) (i:=i) (L:=L) ae;rw [hb] at he;rw [<-he];subst hS;refine ab ?_;refine aU ?_;refine ab ?_;refine GW.wk (Wk.nB (t:=4) (i:=1) rfl rfl rfl) ?_;exact ao
end Go.Xg
namespace Go.Im
open Go.Xp Go.Sp
def v7 (p:Src) (fn:Int):List Int:=if gY p fn=true then (match gW p.nodes p.fns 0 [] with | some (l,_)=>ja p l (pZ p l fn) | none=>[]) else []
theorem q9 {p:Src} {l:List T} {i:Nat} {f:Go.Sp.Fn} {t:T} (hh:gY p (i:Int)=true) (h:o9 p l i f t):v7 p (i:Int)=ja p l (aX p t):=by
 unfold v7;rw [if_pos hh,h.good.zj];simp only;unfold pZ;rw [Int.toNat_natCast,h.gt]
theorem Fg {p:Src} {fn:Int} (h:gY p fn=false):v7 p fn=[]:=by unfold v7;rw [h];rfl
theorem Mk {p:Src} {fn:Int}:Trail p (v7 p fn):=by
 cases hh:gY p fn with
 | false=>rw [Fg hh];exact ⟨List.Pairwise.nil,by simp⟩
 | true =>
  obtain ⟨i,l,f,t,rfl,h⟩:=yM hh;rw [q9 hh h];exact rX _ _ _ ⟨yi (qi p t),jg p t⟩
def ct (p:Src) (a b:Int):Bool:=(v7 p a).contains b
theorem JO {p:Src} {a b:Int} (h:¬ (0<=b/\b < (p.fns.length:Int))):ct p a b=false:=by
 unfold ct
 cases hc:(v7 p a).contains b with
 | false=>rfl
 | true=>exact absurd (Mk.rng b (List.contains_iff_mem.1 hc)) h
theorem xn {p:Src} {a b:Int} (h:gY p a=false):ct p a b=false:=by unfold ct;rw [Fg h];rfl
theorem yn (l:List Int) (x:Int):(fv l).contains x=l.contains x:=by
 cases h:l.contains x with
 | true=>exact List.contains_iff_mem.2 (wL.2 (List.contains_iff_mem.1 h))
 | false =>
  cases h2:(fv l).contains x with
  | false=>rfl
  | true=>rw [List.contains_iff_mem.2 (wL.1 (List.contains_iff_mem.1 h2))] at h;cases h
end Go.Im
namespace Go.Xg
open Go.RowKit Go.Xw Go.Proofs
open Go.Xp (Nd T Ar aK ay b7)
open Go.Sp (Src)
open Go.Im
attribute [local irreducible] GW GL GO YG GC GA aS aW
theorem RH (p:Src) (hw:cM p<=1048576) (lz:eo p=true) {l:List T} {i:Nat} {f:Go.Sp.Fn} {t:T} (h:o9 p l i f t) (z2:Int) :
  GF Tryz.prog 54 [.agg (ar p),.v (ii (i:Nat)),.v (ii z2)] [] (.v (.bool (ct p (i:Int) z2))) []:=by
 obtain ⟨⟨a1,a2⟩,⟨b1,b2⟩,⟨c1,c2⟩,⟨d1,d2⟩⟩:=cW p;have hi:=(List.getElem?_eq_some_iff.1 h.gf).1;have hC:=uV p hw h;have hT:=Di p hw h.good (aX p t) (kJ p t);have MC:=(rX (p:=p) (l:=l) (p.fns.length+1) 0 _ (kJ p t)).len
 have hH:GF Tryz.prog 56 [ints (fv (ja p l (aX p t))),.v (ii z2)] [] (.v (.bool (ct p (i:Int) z2))) []:=by
  have:=qJ (fv (ja p l (aX p t))) z2 (by rw [lO];unfold ja;omega);rw [yn] at this;unfold ct;rw [q9 (yN lz hi) h];exact this
 generalize fv (ja p l (aX p t))=L at *;generalize aX p t=ks at *;generalize ct p (i:Int) z2=b at *;refine ai Tryz.func54 Tryz.ntmps54 ?_;refine GW.draw (.q 0 (.q 1 (.q 2 (.q 5 (.a 3 (.a 4 (.a 6 (.q 7 .nil)))))))) (by kernel_rfl) (by kernel_rfl) ?_;refine aj ?_;refine az [] (hC) ?_;refine az [] (hT) ?_;refine az [] (hH) ?_;exact av
theorem Rv (p:Src) (hw:cM p<=1048576) (hn:kU p) (a b:Int) :
  GF Tryz.prog 16 [.agg (ar p),.v (ii a),.v (ii b)] [] (.v (.bool (ct p a b))) []:=by
 obtain ⟨⟨a1,a2⟩,⟨b1,b2⟩,⟨c1,c2⟩,⟨d1,d2⟩⟩:=cW p
 have iV:(p.fns.map au).length=p.fns.length:=by simp
 have hG:=yK p hw hn
 have hW:=fun x=>G5 x 0 (((p.fns.map au).length:Int) - 1)
 have hA:=hW a;have hB:=hW b
 cases q1:(decide ((0:Int)<=a)&&decide (a<=((p.fns.map au).length:Int) - 1)) with
 | false =>
  rw [q1] at hA
  have hh:gY p a=false:=by
   unfold gY;rw [iV] at q1
   cases hc:((eo p&&decide ((0:Int)<=a))&&decide (a < (p.fns.length:Int))) with
   | false=>rfl
   | true =>
    simp only [Bool.and_eq_true,decide_eq_true_eq] at hc;rw [decide_eq_true hc.1.2,decide_eq_true (show a<=(p.fns.length:Int) - 1 by omega)] at q1;cases q1
  rw [xn hh];refine ai Tryz.func16 Tryz.ntmps16 ?_;refine U [] (hA) ?_;exact ao
 | true =>
  rw [q1] at hA;rw [iV] at q1;simp only [Bool.and_eq_true,decide_eq_true_eq] at q1
  cases q2:(decide ((0:Int)<=b)&&decide (b<=((p.fns.map au).length:Int) - 1)) with
  | false =>
   rw [q2] at hB;rw [iV] at q2;rw [JO (by rintro ⟨h1,h2⟩;rw [decide_eq_true h1,decide_eq_true (show b<=(p.fns.length:Int) - 1 by omega)] at q2;cases q2)];refine ai Tryz.func16 Tryz.ntmps16 ?_;refine U [] (hA) ?_;refine U [] (hB) ?_;exact ao
  | true =>
   rw [q2] at hB
   cases q3:eo p with
   | false =>
    rw [q3] at hG;rw [xn (by unfold gY;rw [q3];rfl)];refine ai Tryz.func16 Tryz.ntmps16 ?_;refine U [] (hA) ?_;refine U [] (hB) ?_;refine U [] (hG) ?_;exact ao
   | true =>
    rw [q3] at hG
    have hh:gY p a=true:=by unfold gY;rw [q3,decide_eq_true q1.1,decide_eq_true (show a < (p.fns.length:Int) by omega)];rfl
    obtain ⟨i,l,f,t,rfl,h⟩:=yM hh;have hC:=RH p hw q3 h b;generalize ct p (i:Int) b=z at *;refine ai Tryz.func16 Tryz.ntmps16 ?_;refine U [] (hA) ?_;refine U [] (hB) ?_;refine U [] (hG) ?_;refine U [] (hC) ?_;exact ao
theorem Ru (p:Src) (hw:cM p<=1048576) (hn:kU p) (a b:Int) :
  GF Tryz.prog 15 [.agg (ar p),.v (ii a),.v (ii b)] [] (.v (.bool (ct p a b))) []:=by
 obtain ⟨⟨a1,a2⟩,⟨b1,b2⟩,⟨c1,c2⟩,⟨d1,d2⟩⟩:=cW p
 have iV:(p.fns.map au).length=p.fns.length:=by simp
 have hG:=u9 p hw
 cases hh:gY p a with
 | false =>
  rw [xn hh];unfold gY at hh
  cases q3:eo p with
  | false =>
   rw [q3] at hG;refine ai Tryz.func15 Tryz.ntmps15 ?_;refine U [] (hG) ?_;exact ao
  | true =>
   rw [q3] at hG hh
   by_cases q1:0<=a
   ·have r1:decide (a < 0)=false:=by simpa using q1
    have r2:decide (((p.fns.map au).length:Int)<=a)=true:=by
     rw [iV];simp [q1] at hh;simpa using hh
    refine ai Tryz.func15 Tryz.ntmps15 ?_;refine U [] (hG) ?_;exact ao
   ·have r1:decide (a < 0)=true:=by simpa using q1
    refine ai Tryz.func15 Tryz.ntmps15 ?_;refine U [] (hG) ?_;exact ao
 | true =>
  have q3:=xD hh;rw [q3] at hG;obtain ⟨i,l,f,t,rfl,h⟩:=yM hh;have hi:=(List.getElem?_eq_some_iff.1 h.gf).1;have r1:decide ((i:Int) < 0)=false:=decide_eq_false ae;have r2:decide (((p.fns.map au).length:Int)<=(i:Int))=false:=decide_eq_false (by rw [iV];omega);have hF:=DK p hw q3 h;have MC:=(rX (p:=p) (l:=l) (p.fns.length+1) 0 _ (kJ p t)).len
  have hH:GF Tryz.prog 51 [ints (ja p l (aX p t)),.v (ii b)] [] (.v (.bool (ct p (i:Int) b))) []:=by
   have:=wu (ja p l (aX p t)) b (by unfold ja;omega);unfold ct;rw [q9 hh h];exact this
  generalize ja p l (aX p t)=L at *;generalize ct p (i:Int) b=z at *;refine ai Tryz.func15 Tryz.ntmps15 ?_;refine U [] (hG) ?_;refine U [] (hF) ?_;refine U [] (hH) ?_;exact ao
end Go.Xg
