/- Part 40 of proofs that are told in their last texts. -/
import Derived.Test.YtcoplmnahnipiaaGreatDoorY8
import Derived.Test.YtcoplmnahnipiaaGreatDoorY7
open List (getElem?_map length_append mem_of_getElem? mem_singleton nil_append take_length)
set_option linter.unusedVariables false
set_option linter.unusedSimpArgs false
set_option maxRecDepth 100000
set_option maxHeartbeats 4000000
namespace Go.Im
open Go.Xp Go.Sp
structure Trail (p:Src) (L:List Int):Prop where
 nodup:L.Nodup
 rng:∀ y∈L,0<=y/\y < (p.fns.length:Int)
theorem Trail.len {p:Src} {L:List Int} (h:Trail p L):L.length<=p.fns.length:=Ny h.nodup h.rng
end Go.Im
namespace Go.Xg
open Go.RowKit Go.Xw Go.Proofs
open Go.Xp (Nd T Ar aK ay)
open Go.Sp (Src)
open Go.Im
attribute [local irreducible] GW GL GO YG GC GA aS aW
theorem uV (p:Src) (hw:cM p<=1048576) {l:List T} {i:Nat} {f:Go.Sp.Fn} {t:T} (h:o9 p l i f t) :
  GF Tryz.prog 46 [.agg (ar p),.v (ii (i:Nat))] [] (ints (aX p t)) []:=by
 obtain ⟨⟨a1,a2⟩,⟨b1,b2⟩,⟨c1,c2⟩,⟨d1,d2⟩⟩:=cW p;have cI:=h.sz;have vc:=LO p _ t (Nat.le_refl _)
 have hE:=fun eb ec=>RO p 40 i f t [] eb ec ae (fun n hn=>by have:=(d2 n hn).2;omega) ae h.gf (by have:=(c2 f (mem_of_getElem? h.gf)).2.1;omega) h.body h.st ae (by show 0+_<=_;omega)
 rw [Qy,nil_append] at hE;obtain ⟨e1,e2⟩:=Td (nX p t)
 have hS:=fun a c=>Lt (nX p t) 3 a c ae
 have hC:=fun a c=>Li (fv (nX p t)) 3 a c (by rw [lO];omega) e2
 rw [e1] at hC;rw [lO] at hC;unfold GS Rh at hE;unfold aX;generalize og (nX p t)=rr at *;generalize fv (nX p t)=ss at *;refine db Tryz.func46 Tryz.ntmps46 ?_;refine GW.wk (Wk.mU 3 1) ?_;simp only [nil_append];refine iM ?_;refine GL.wk (Wk.freeze (i:=1) rfl rfl rfl (Nat.zero_le _)) ?_;refine bT ?_;refine ab ?_;refine bJ [2,0] (hE none 0) ?_;rintro _ _ ⟨rfl,eb,ec,rfl⟩;refine cj ?_;refine ab ?_;refine U [0] (hS eb ec) ?_;refine bJ [0] (hC eb ec) ?_;rintro _ _ ⟨rfl,fz,S,rfl⟩;refine cj ?_;exact av
end Go.Xg
namespace Go.Im
open Go.Xp Go.Sp
theorem xo {l:List Int} {k:Nat} {x n:Int} (h:l[k]?=some x) (hc:(l.take k).contains n=false) (hx:(x==n)=false):(l.take (k+1)).contains n=false:=by
 rw [List.take_add_one,h];simp only [List.contains_eq_mem,decide_eq_false_iff_not,List.mem_append,not_or] at *;refine ⟨hc,?_⟩;simp only [Option.toList_some,mem_singleton];intro e;subst e;simp at hx
theorem EM {l:List Int} {k:Nat} {x n:Int} (h:l[k]?=some x) (hx:(x==n)=true):l.contains n=true:=by
 have:x=n:=by simpa using hx
 subst this;exact List.contains_iff_mem.2 (mem_of_getElem? h)
theorem Sv {l:List Int} {n:Int} (h:l.contains n=true):gZ l n=l:=by unfold gZ;rw [if_pos h]
theorem wU:∀ (ks l:List Int),(ks.foldl gZ l).length<=l.length+ks.length
 | [],l=>by simp
 | k::r,l=>by
  have:=wU r (gZ l k);have:=PI (l:=l) (n:=k);rw [List.foldl_cons,List.length_cons];omega
end Go.Im
namespace Go.Xg
open Go.RowKit Go.Xw Go.Proofs
open Go.Xp (Nd T Ar aK ay b7)
open Go.Sp (Src)
open Go.Im
attribute [local irreducible] GW GL GO YG GC GA aS aW
theorem Pr (l:List Int) (n:Int) (a:Option Addr) (c:Nat) (hl:l.length<=8388608) :
  GC Tryz.prog 134 [.v (.slice a l.length c),.v (ii n)] [.vech 3 1 (bm l) (.slice a l.length c)] fun g Δ =>
   (l.contains n=true/\g=.v (.slice a l.length c)/\Δ=[.vech 3 1 (bm l) (.slice a l.length c)]) \/
   (l.contains n=false/\∃ a' c',g=.v (.slice a' (gZ l n).length c')/\Δ=[.vech 3 1 (bm l) (.slice a l.length c),.vech 3 1 (bm (gZ l n)) (.slice a' (gZ l n).length c')]):=by
 have pB:=da l;refine ai Tryz.func134 Tryz.ntmps134 ?_;refine ma ?_;refine GL.wc (t:=9) rfl rfl rfl rfl ?_;intro a1 c1;refine bI ?_;refine ab ?_;refine GW.range l.length (fun k fr Γ=>∃ a1 c1 m dn S,fr=[.v (.slice a l.length c),.v (ii n),.aaF,.aaF,.aaF,.v (.slice a1 m c1),.v (.bool dn),.aaF,.aaF,.aaF,.v (.slice a l.length c),.v (ii (l.length:Int)),.v (ii (k:Nat)),.aaF,.aaF,.aaF,.aaF,.aaF,.aaF,.aaF,.aaF,.aaF,.aaF,.aaF,.aaF,.aaF,.aaF,.aaF,.aaF,.aaF,.aaF,.aaF,.aaF,.aaF,.aaF,.aaF,.aaF,.aaF,.aaF,.aaF,.aaF,.aaF,.aaF]/\Γ=[.vech 3 1 (bm l) (.slice a l.length c),.vech 3 1 S (.slice a1 m c1)]/\S.length=m/\S=bm (iQ l n k).1/\dn=(iQ l n k).2/\(l.take k).contains n=false) ?_ ae ?_ ?_ ?_
 ·exact ⟨_,_,Wk.aw al,a1,c1,0,false,[],rfl,rfl,rfl,rfl,rfl,rfl⟩
 ·rintro k _ _ ⟨a1,c1,m,dn,S,rfl,rfl,_⟩;exact ⟨rfl,rfl,rfl⟩
 ·rintro k _ _ aq ⟨a1,c1,m,dn,S,rfl,rfl,zt,hS,Iz,hc⟩;obtain ⟨x,hx⟩:∃ x,l[k]?=some x:=⟨l[k],by simp [aq]⟩
  have hr:(bm l)[k]?=some [.v (ii x)]:=by unfold bm;rw [getElem?_map,hx];rfl
  have eH:k < (bm l).length:=by omega
  have hm:m<=8388609:=by
   have:=(Gm l n k).1;rw [<-zt,hS,da];omega
  have iY:=DV (n:=n) hx
  cases h1:(x==n) with
  | true =>
   refine ab ?_
   (repeat (first | refine GW.ret ?_ | refine cr ?_ | refine cn ?_ | refine aD ?_ | refine bQ ?_))
   exact po (n:=1) rfl (by first | exact .inr rfl | exact .inl rfl) rfl (Nat.le_of_ble_eq_true rfl) rfl rfl (.inl ⟨EM hx h1,rfl,rfl⟩)
  | false =>
   have gH:=xo hx hc h1
   cases dn with
   | true =>
    have e:iQ l n (k+1)=((iQ l n k).1++[x],true):=by rw [iY];unfold nR;rw [<-Iz];rfl
    have oQ:bm (iQ l n (k+1)).1=S++[[.v (ii x)]]:=by rw [e,hS];simp [bm]
    clear hS;refine ab ?_;refine GL.jG 1 rfl rfl rfl rfl rfl rfl rfl rfl (by first | rfl | assumption) ⟨⟨by omega,by omega⟩,by decide⟩ ?_;intro a2 c2;refine bI ?_;refine ab ?_;exact ⟨rfl,rfl,_,_,Wk.aw al,a2,c2,_,true,_,rfl,rfl,by simp [zt],oQ.symm,by rw [e],gH⟩
   | false =>
    cases h3:decide (n < x) with
    | true =>
     have e:iQ l n (k+1)=((iQ l n k).1++[n]++[x],true):=by rw [iY];unfold nR;rw [<-Iz,h3];rfl
     have oQ:bm (iQ l n (k+1)).1=(S++[[.v (ii n)]])++[[.v (ii x)]]:=by rw [e,hS];simp [bm]
     have hSl:(S++[[GV.v (ii n)]]).length=m+1:=by rw [length_append,zt];rfl
     clear hS;refine ab ?_;refine GL.jG 1 rfl rfl rfl rfl rfl rfl rfl rfl (by first | rfl | assumption) ⟨⟨by omega,by omega⟩,by decide⟩ ?_;intro a2 c2;refine bI ?_;refine ab ?_;refine GL.jG 1 rfl rfl rfl rfl rfl rfl rfl rfl (by first | rfl | assumption) ⟨⟨by omega,by omega⟩,by decide⟩ ?_;intro a3 c3;refine bI ?_;refine ab ?_;exact ⟨rfl,rfl,_,_,Wk.aw al,a3,c3,_,true,_,rfl,rfl,by simp [zt],oQ.symm,by rw [e],gH⟩
    | false =>
     have e:iQ l n (k+1)=((iQ l n k).1++[x],false):=by rw [iY];unfold nR;rw [<-Iz,h3];rfl
     have oQ:bm (iQ l n (k+1)).1=S++[[.v (ii x)]]:=by rw [e,hS];simp [bm]
     clear hS;refine ab ?_;refine GL.jG 1 rfl rfl rfl rfl rfl rfl rfl rfl (by first | rfl | assumption) ⟨⟨by omega,by omega⟩,by decide⟩ ?_;intro a2 c2;refine bI ?_;refine ab ?_;exact ⟨rfl,rfl,_,_,Wk.aw al,a2,c2,_,false,_,rfl,rfl,by simp [zt],oQ.symm,by rw [e],gH⟩
 ·rintro _ _ ⟨a1,c1,m,dn,S,rfl,rfl,zt,hS,Iz,hc⟩;rw [take_length] at hc;have oA:=PJ l n hc
  have hm:m<=8388609:=by
   have:=(Gm l n l.length).1;rw [<-zt,hS,da];omega
  refine aD ?_
  cases dn with
  | true =>
   rw [if_pos Iz.symm] at oA
   have e:m=(gZ l n).length:=by rw [<-zt,hS,da,oA]
   subst e;rw [oA] at hS;subst hS;refine ab ?_
   (repeat (first | refine GW.ret ?_ | refine cr ?_ | refine cn ?_ | refine aD ?_ | refine bQ ?_))
   exact po (n:=2) rfl (by first | exact .inr rfl | exact .inl rfl) rfl (Nat.le_of_ble_eq_true rfl) rfl rfl (.inr ⟨hc,a1,c1,rfl,rfl⟩)
  | false =>
   rw [if_neg (by rw [<-Iz];decide)] at oA
   have oQ:bm (gZ l n)=S++[[.v (ii n)]]:=by rw [<-oA,hS];simp [bm]
   have e:(gZ l n).length=m+1:=by rw [<-da,oQ,length_append,zt];rfl
   rw [oQ,e];clear hS;subst zt;refine ab ?_;refine GL.jG 1 rfl rfl rfl rfl rfl rfl rfl rfl (by first | rfl | assumption) ⟨⟨by omega,by omega⟩,by decide⟩ ?_;intro a2 c2;refine bI ?_;refine ab ?_
   (repeat (first | refine GW.ret ?_ | refine cr ?_ | refine cn ?_ | refine aD ?_ | refine bQ ?_))
   exact po (n:=2) rfl (by first | exact .inr rfl | exact .inl rfl) rfl (Nat.le_of_ble_eq_true rfl) rfl rfl (.inr ⟨hc,a2,c2,rfl,rfl⟩)
end Go.Xg
namespace Go.Im
open Go.Xp Go.Sp
def lh (l ks:List Int):List Int:=ks.foldl gZ l
theorem KJ (l a b:List Int):lh l (a++b)=lh (lh l a) b:=List.foldl_append
theorem KK (l ks:List Int):(lh l ks).length<=l.length+ks.length:=wU ks l
theorem LL (p:Src) {l:List T} {k:Nat} {u:T} (h:l[k]?=some u) (o:List Int) (n:Nd):lh o (tQ p n++gL p (l.take (k+1)))=lh (lh o (tQ p n++gL p (l.take k))) (nX p u):=by
 rw [LM p h,<-List.append_assoc,KJ]
end Go.Im
namespace Go.Xg
open Go.RowKit Go.Xw Go.Proofs
open Go.Xp (Nd T Ar aK ay b7)
open Go.Sp (Src)
open Go.Im
attribute [local irreducible] GW GL GO YG GC GA aS aW
def S4 (l r:List Int) (a:Option Addr) (c:Nat) (g:GV) (Δ:List Ob):Prop :=
 (r=l/\g=.v (.slice a l.length c)/\Δ=[.vech 3 1 (bm l) (.slice a l.length c)]) \/
 (∃ a' c',g=.v (.slice a' r.length c')/\Δ=[.vech 3 1 (bm l) (.slice a l.length c),.vech 3 1 (bm r) (.slice a' r.length c')])
theorem Nf (l:List Int) (n:Int) (a:Option Addr) (c:Nat) (hl:l.length<=8388608) :
  GC Tryz.prog 134 [.v (.slice a l.length c),.v (ii n)] [.vech 3 1 (bm l) (.slice a l.length c)] (S4 l (gZ l n) a c):=by
 refine (Pr l n a c hl).mono fun g Δ h=>?_
 rcases h with ⟨h1,h2,h3⟩ | ⟨h1,a',c',h2,h3⟩
 ·exact .inl ⟨Sv h1,h2,h3⟩
 ·exact .inr ⟨a',c',h2,h3⟩
theorem Kn (p:Src) (fG:p.fns.length<=1099511627776):∀ (N:Nat) (t:T),aK t<=N->∀ (l:List Int) (a:Option Addr) (c:Nat),l.length+aK t<=8388608 ->
  GC Tryz.prog 98 [.v (.slice a l.length c),.agg (ar p),.agg (cT t)] [.vech 3 1 (bm l) (.slice a l.length c)] (S4 l (lh l (nX p t)) a c):=by
 intro N
 induction N with
 | zero=>intro t h;have:=jU t;omega
 | succ N ih =>
 intro t hN l a c lX
 cases t with
 | mk n ks =>
 rw [Go.Xp.aK] at hN lX;have pB:=b7 ks;have eP:(aL ks).length=ks.length:=aM ks;have hF:=CF p n.s fG;have e0:cH (fun x:Go.Sp.Fn=>x.name==n.s) p.fns=nt p n.s:=rfl;rw [e0] at hF;have hP:=Nf l (nt p n.s) a c ae
 have gH:tQ p n=if n.kind=4/\0<=nt p n.s then [nt p n.s] else []:=rfl
 rw [nX];generalize nt p n.s=z at *;refine ai Tryz.func98 Tryz.ntmps98 ?_;refine U [] (hF) ?_
 refine GL.V3 (fun fr Γ=>∃ h L,fr=[.v h,.aaF,.aaF,.aaF,.loc 1 0,.loc 2 0,.aaF,.aaF,.aaF,.aaF,.aaF,.aaF,.aaF,.aaF,.aaF,.aaF,.aaF,.aaF,.aaF,.aaF,.aaF,.aaF,.aaF,.aaF,.aaF,.aaF,.aaF,.aaF,.aaF,.aaF,.aaF,.aaF,.aaF,.aaF,.aaF,.aaF,.aaF,.aaF,.aaF]/\L=lh l (tQ p n) /\
  ((L=l/\h=.slice a l.length c/\Γ=[.vech 3 1 (bm l) (.slice a l.length c),.box 34 (ar p),.box 94 (cT (.mk n ks))]) \/
   (∃ a' c',h=.slice a' L.length c'/\Γ=[.vech 3 1 (bm l) (.slice a l.length c),.box 34 (ar p),.box 94 (cT (.mk n ks)),.vech 3 1 (bm L) (.slice a' L.length c')]))) ?_ ?_
 ·cases q4:(n.kind==4) with
  | false =>
   rw [if_neg (fun h=>by rw [h.1] at q4;cases q4)] at gH;refine ab ?_;exact ⟨_,_,Wk.aw al,_,l,rfl,by rw [gH];rfl,.inl ⟨rfl,rfl,rfl⟩⟩
  | true =>
   cases q5:decide ((0:Int)<=z) with
   | false =>
    rw [if_neg (fun h=>by have:=of_decide_eq_false q5;exact this h.2)] at gH;refine ab ?_;exact ⟨_,_,Wk.aw al,_,l,rfl,by rw [gH];rfl,.inl ⟨rfl,rfl,rfl⟩⟩
   | true =>
    rw [if_pos ⟨by simpa using q4,by simpa using q5⟩] at gH;refine ab ?_;refine bJ [0] (hP) ?_;rintro _ _ (⟨h1,rfl,rfl⟩ | ⟨a',c',rfl,rfl⟩)
    ·refine cj ?_;refine ab ?_;exact ⟨_,_,Wk.aw al,_,l,rfl,by rw [gH];exact h1.symm,.inl ⟨rfl,rfl,rfl⟩⟩
    ·refine cj ?_;refine ab ?_;exact ⟨_,_,Wk.aw al,_,gZ l z,rfl,by rw [gH];rfl,.inr ⟨a',c',rfl,rfl⟩⟩
 ·rintro _ _ ⟨h,L0,rfl,Zh,Iy⟩;have aah:=Cu p n
  rcases Iy with ⟨e1,rfl,rfl⟩ | ⟨a0,c0,rfl,rfl⟩
  all_goals
   refine ab ?_
   refine GW.range (aL ks).length (fun k fr Γ=>∃ h L,fr=[.v h,.aaF,.aaF,.aaF,.loc 1 0,.loc 2 0,.aaF,.aaF,.aaF,.aaF,.aaF,.aaF,.aaF,.aaF,.aaF,.aaF,.aaF,.aaF,.aaF,.aaF,.aaF,.aaF,.aaF,.aaF,.aaF,.aaF,.aaF,.sl 6 (aL ks),.v (ii ((aL ks).length:Int)),.v (ii (k:Nat)),.aaF,.aaF,.aaF,.aaF,.aaF,.aaF,.aaF,.aaF,.aaF]/\L=lh l (tQ p n++gL p (ks.take k)) /\
    ((L=l/\h=.slice a l.length c/\Γ=[.vech 3 1 (bm l) (.slice a l.length c),.box 34 (ar p),.box 94 (cT (.mk n ks))]) \/
     (∃ a' c',h=.slice a' L.length c'/\Γ=[.vech 3 1 (bm l) (.slice a l.length c),.box 34 (ar p),.box 94 (cT (.mk n ks)),.vech 3 1 (bm L) (.slice a' L.length c')]))) ?_ ae ?_ ?_ ?_
   ·exact ⟨_,_,Wk.aw al,_,L0,rfl,by rw [List.take_zero,gL,List.append_nil];exact Zh,by first | exact .inl ⟨e1,rfl,rfl⟩ | exact .inr ⟨_,_,rfl,rfl⟩⟩
   ·rintro k _ _ ⟨h,L,rfl,_,Iy⟩;exact ⟨rfl,rfl,rfl⟩
   ·rintro k _ _ aq ⟨h,L,rfl,hL,Iy⟩;rw [eP] at aq;obtain ⟨u,hu⟩:∃ u,ks[k]?=some u:=⟨ks[k],by simp [aq]⟩;have hr:=cJ hu;have cI:=tC hu
    have hLl:L.length<=l.length+1+ay (ks.take k):=by
     have:=KK l (tQ p n++gL p (ks.take k));have:=EL p (ks.take k);rw [length_append] at *;rw [hL];omega
    have iY:=LL p hu l n;rw [<-hL] at iY;rw [iY]
    rcases Iy with ⟨e2,rfl,rfl⟩ | ⟨a',c',rfl,rfl⟩
    ·subst e2;have hi:=ih u ae L a c ae;generalize lh L (nX p u)=L2 at *;refine ab ?_;refine bJ [0] (hi) ?_;rintro _ _ (⟨h1,rfl,rfl⟩ | ⟨a2,c2,rfl,rfl⟩)
     ·refine cj ?_;refine ab ?_;exact ⟨rfl,rfl,_,_,(Wk.cut (n:=3) (Nat.le_of_ble_eq_true rfl) rfl).trans (Wk.aw al),_,L2,rfl,rfl,.inl ⟨h1,rfl,rfl⟩⟩
     ·refine cj ?_;refine ab ?_;exact ⟨rfl,rfl,_,_,(Wk.keep (n:=3) (j:=4) (Nat.le_of_ble_eq_true rfl) (by decide) rfl rfl rfl).trans (Wk.aw al),_,L2,rfl,rfl,.inr ⟨a2,c2,rfl,rfl⟩⟩
    ·have hi:=ih u ae L a' c' ae;generalize lh L (nX p u)=L2 at *;refine ab ?_;refine bJ [3] (hi) ?_;rintro _ _ (⟨rfl,rfl,rfl⟩ | ⟨a2,c2,rfl,rfl⟩)
     ·refine cj ?_;refine ab ?_;exact ⟨rfl,rfl,_,_,(Wk.cut (n:=4) (Nat.le_of_ble_eq_true rfl) rfl).trans (Wk.aw al),_,_,rfl,rfl,.inr ⟨a',c',rfl,rfl⟩⟩
     ·refine cj ?_;refine ab ?_;exact ⟨rfl,rfl,_,_,(Wk.keep (n:=3) (j:=5) (Nat.le_of_ble_eq_true rfl) (by decide) rfl rfl rfl).trans (Wk.aw al),_,L2,rfl,rfl,.inr ⟨a2,c2,rfl,rfl⟩⟩
   ·rintro _ _ ⟨h,L,rfl,hL,Iy⟩;rw [eP,take_length] at hL;rw [<-hL];refine aD ?_
    rcases Iy with ⟨e2,rfl,rfl⟩ | ⟨a',c',rfl,rfl⟩
    ·refine ab ?_
     (repeat (first | refine GW.ret ?_ | refine cr ?_ | refine cn ?_ | refine aD ?_ | refine bQ ?_))
     exact po (n:=1) rfl (by first | exact .inr rfl | exact .inl rfl) rfl (Nat.le_of_ble_eq_true rfl) rfl rfl (.inl ⟨e2,rfl,rfl⟩)
    ·refine GW.wk (Wk.keep (n:=1) (j:=3) (Nat.le_refl _) (by decide) rfl rfl rfl) ?_;refine GW.L4 (bU:=[.v (.slice a' L.length c'),.aaF,.aaF,.aaF,.aaF,.aaF,.aaF,.aaF,.aaF,.aaF,.aaF,.aaF,.aaF,.aaF,.aaF,.aaF,.aaF,.aaF,.aaF,.aaF,.aaF,.aaF,.aaF,.aaF,.aaF,.aaF,.aaF,.aaF,.aaF,.aaF,.aaF,.aaF,.aaF,.aaF,.aaF,.aaF,.aaF,.aaF,.aaF]) (aH:=[.vech 3 1 (bm l) (.slice a l.length c),.vech 3 1 (bm L) (.slice a' L.length c')]) al rfl ?_;refine ab ?_
     (repeat (first | refine GW.ret ?_ | refine cr ?_ | refine cn ?_ | refine aD ?_ | refine bQ ?_))
     exact po (n:=2) rfl (by first | exact .inr rfl | exact .inl rfl) rfl (Nat.le_of_ble_eq_true rfl) rfl rfl (.inr ⟨a',c',rfl,rfl⟩)
end Go.Xg
namespace Go.Im
open Go.Xp Go.Sp
theorem KL (ks:List Int):lh [] ks=og ks:=rfl
end Go.Im
namespace Go.Xg
open Go.RowKit Go.Xw Go.Proofs
open Go.Xp (Nd T Ar aK ay b7)
open Go.Sp (Src)
open Go.Im
attribute [local irreducible] GW GL GO YG GC GA aS aW
theorem rL (p:Src) (hw:cM p<=1048576) {l:List T} {i:Nat} {f:Go.Sp.Fn} {t:T} (hg:eo p=true) (h:o9 p l i f t) :
  GC Tryz.prog 40 [.agg (ar p),.v (ii (i:Nat))] [] fun g Δ=>∃ a c,g=.v (.slice a (aX p t).length c)/\Δ=[.vech 3 1 (bm (aX p t)) (.slice a (aX p t).length c)]:=by
 obtain ⟨⟨a1,a2⟩,⟨b1,b2⟩,⟨c1,c2⟩,⟨d1,d2⟩⟩:=cW p;have hG:=u9 p hw;rw [hg] at hG
 have iU:(p.fns.map au).length=p.fns.length:=by simp
 have hi:=(List.getElem?_eq_some_iff.1 h.gf).1
 have hr:(p.fns.map au)[i]?=some (au f):=by rw [getElem?_map,h.gf];rfl
 have q2:decide ((i:Int) < 0)=false:=decide_eq_false ae;have q3:decide (((p.fns.map au).length:Int)<=(i:Int))=false:=decide_eq_false (by rw [iU];omega);have hS:=Vd p (fun n hn=>by have:=(d2 n hn).2;omega) f t h.body h.st
 have hC:=fun a c=>Kn p ae _ t (Nat.le_refl _) [] a c (by have:=h.sz;show 0+_<=_;omega)
 rw [KL] at hC;unfold aX;unfold au at hr;generalize og (nX p t)=rr at *;refine ai Tryz.func40 Tryz.ntmps40 ?_;refine U [] (hG) ?_;refine GW.draw (.q 1 (.q 2 (.q 3 (.q 4 (.q 5 (.q 6 (.q 7 (.q 8 (.f 0 (.a 9 (.a 10 (.q 11 .nil))) 9 (.a 0 (.a 10 (.q 11 .nil)))))))))))) (by kernel_rfl) (by kernel_rfl) ?_;refine aj ?_;refine GO.fork ?_ ?_
 ·refine OA rfl rfl (GL.Ra rfl rfl rfl rfl ?_);refine GL.wc (t:=19) rfl rfl rfl rfl ?_;intro a1 c1;refine dD ?_;refine aj ?_;refine az [] (hS) ?_;refine OA rfl rfl ?_;refine bJ [1] (hC a1 c1) ?_;rintro _ _ (⟨h1,rfl,rfl⟩ | ⟨a',c',rfl,rfl⟩)
  ·refine ⟨by simp,?_⟩;refine dD ?_;subst h1;refine aj ?_;refine ab ?_
   (repeat (first | refine GW.ret ?_ | refine cr ?_ | refine cn ?_ | refine aD ?_ | refine bQ ?_))
   refine rQ 1 rfl (by first | exact .inr rfl | exact .inl rfl) rfl ?_ ?_
   ·intro x hx;rw [List.mem_singleton.1 hx];rfl
   ·exact ⟨_,_,rfl,rfl⟩
  ·refine ⟨by simp,?_⟩;refine dD ?_;refine aj ?_;refine ab ?_
   (repeat (first | refine GW.ret ?_ | refine cr ?_ | refine cn ?_ | refine aD ?_ | refine bQ ?_))
   refine rQ 2 rfl (by first | exact .inr rfl | exact .inl rfl) rfl ?_ ?_
   ·intro x hx;rw [List.mem_singleton.1 hx];rfl
   ·exact ⟨_,_,rfl,rfl⟩
 ·refine az [] (hS) ?_;refine OA rfl rfl (GL.Ra rfl rfl rfl rfl ?_);refine GL.wc (t:=19) rfl rfl rfl rfl ?_;intro a1 c1;refine dD ?_;refine aj ?_;refine OA rfl rfl ?_;refine bJ [1] (hC a1 c1) ?_;rintro _ _ (⟨h1,rfl,rfl⟩ | ⟨a',c',rfl,rfl⟩)
  ·refine ⟨by simp,?_⟩;refine dD ?_;subst h1;refine aj ?_;refine ab ?_
   (repeat (first | refine GW.ret ?_ | refine cr ?_ | refine cn ?_ | refine aD ?_ | refine bQ ?_))
   refine rQ 1 rfl (by first | exact .inr rfl | exact .inl rfl) rfl ?_ ?_
   ·intro x hx;rw [List.mem_singleton.1 hx];rfl
   ·exact ⟨_,_,rfl,rfl⟩
  ·refine ⟨by simp,?_⟩;refine dD ?_;refine aj ?_;refine ab ?_
   (repeat (first | refine GW.ret ?_ | refine cr ?_ | refine cn ?_ | refine aD ?_ | refine bQ ?_))
   refine rQ 2 rfl (by first | exact .inr rfl | exact .inl rfl) rfl ?_ ?_
   ·intro x hx;rw [List.mem_singleton.1 hx];rfl
   ·exact ⟨_,_,rfl,rfl⟩
end Go.Xg
namespace Go.Xg
open Go.RowKit Go.Xw Go.Proofs
open Go.Xp (Nd T Ar aK ay b7)
open Go.Sp (Src)
open Go.Im
attribute [local irreducible] GW GL GO YG GC GA aS aW
end Go.Xg
namespace Go.Im
open Go.Xp Go.Sp
end Go.Im
namespace Go.Xg
open Go.RowKit Go.Xw Go.Proofs
open Go.Xp (Nd T Ar aK ay b7)
open Go.Sp (Src)
open Go.Im
attribute [local irreducible] GW GL GO YG GC GA aS aW
end Go.Xg
