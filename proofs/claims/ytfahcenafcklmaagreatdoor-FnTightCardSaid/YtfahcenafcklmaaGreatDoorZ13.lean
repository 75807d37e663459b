/- Part 13 of proofs that are told in their last texts. -/
import Derived.Test.YtfahcenafcklmaaGreatDoorZ12
import Derived.Test.YtfahcenafcklmaaGreatDoorZ11
import Derived.Test.YtfahcenafcklmaaGreatDoorZ3
import Derived.Test.YtfahcenafcklmaaGreatDoorZ10
import Derived.Test.YtfahcenafcklmaaGreatDoorZ5
open List (all_cons all_eq_false all_nil length_cons length_nil)
set_option linter.unusedVariables false
set_option linter.unusedSimpArgs false
set_option maxRecDepth 100000
set_option maxHeartbeats 1000000
namespace Go.Xg
open Go.RowKit Go.Xw Go.Proofs Tryz Go.Sp
open GV (U)
open Go.Xp (T)
attribute [local irreducible] GW GL GO YG GC GA bu bs
theorem Vp (a:Int) (s:ae) (ks:List Int) (l:List T) (hs:s.length<=1099511627776) (hl:l.length<=1099511627776) (ha:decide (a < 0)=false):GF prog 251 [.agg (cT (.mk ⟨5,a,0,s,ks⟩ l))] [] (.v (.bool (cd (.mk ⟨5,a,0,s,ks⟩ l)))) []:=by
 have how:cd (.mk ⟨5,a,0,s,ks⟩ l)=((s==[45] || s==[33] || s==[126])&&(((l.length:Int)==1)&&bB 1 0 l)):=by unfold cd own;rw [ad zeJ];rfl
 rw [how];refine fD func251 ntmps251 ?_
 cases D:(s==[45]) with
 | true =>
  cases h4:((l.length:Int)==1) with
  | false =>
   have Lh:(((bb l).length:Int)==1)=false:=by rw [<-bc l] at h4;exact h4
   exact av
  | true =>
   have Lh:(((bb l).length:Int)==1)=true:=by rw [<-bc l] at h4;exact h4
   exact zbs
 | false =>
  cases I:(s==[33]) with
  | true =>
   cases h4:((l.length:Int)==1) with
   | false =>
    have Lh:(((bb l).length:Int)==1)=false:=by rw [<-bc l] at h4;exact h4
    exact av
   | true =>
    have Lh:(((bb l).length:Int)==1)=true:=by rw [<-bc l] at h4;exact h4
    exact zbs
  | false =>
   cases h3:(s==[126]) with
   | false =>
    exact av
   | true =>
    cases h4:((l.length:Int)==1) with
    | false =>
     have Lh:(((bb l).length:Int)==1)=false:=by rw [<-bc l] at h4;exact h4
     exact av
    | true =>
     have Lh:(((bb l).length:Int)==1)=true:=by rw [<-bc l] at h4;exact h4
     exact zbs
theorem Vt (a:Int) (s:ae) (ks:List Int) (l:List T) (hs:s.length<=1099511627776) (hl:l.length<=1099511627776) (ha:decide (a < 0)=false):GF prog 251 [.agg (cT (.mk ⟨9,a,0,s,ks⟩ l))] [] (.v (.bool (cd (.mk ⟨9,a,0,s,ks⟩ l)))) []:=by
 have how:cd (.mk ⟨9,a,0,s,ks⟩ l)=((s==[])&&((((l.length:Int)==2) || ((l.length:Int)==3))&&bB 1 0 l)):=by unfold cd own;rw [ad zeJ];rfl
 rw [how];refine fD func251 ntmps251 ?_
 cases h0:(s==[]) with
 | false =>
  exact av
 | true =>
  cases D:((l.length:Int)==2) with
  | true =>
   have cY:(((bb l).length:Int)==2)=true:=by rw [<-bc l] at D;exact D
   exact zd5
  | false =>
   have cY:(((bb l).length:Int)==2)=false:=by rw [<-bc l] at D;exact D
   cases I:((l.length:Int)==3) with
   | true =>
    have qt:(((bb l).length:Int)==3)=true:=by rw [<-bc l] at I;exact I
    exact zd5
   | false =>
    have qt:(((bb l).length:Int)==3)=false:=by rw [<-bc l] at I;exact I
    exact av
theorem Ue (a:Int) (s:ae) (ks:List Int) (l:List T) (hs:s.length<=1099511627776) (hl:l.length<=1099511627776) (ha:decide (a < 0)=false):GF prog 251 [.agg (cT (.mk ⟨14,a,0,s,ks⟩ l))] [] (.v (.bool (cd (.mk ⟨14,a,0,s,ks⟩ l)))) []:=by
 have how:cd (.mk ⟨14,a,0,s,ks⟩ l)=((l.all fun x=>fZ x.n.kind)&&(s==[])):=by unfold cd own;rw [ad zeJ];rfl
 rw [how];refine aj func251 ntmps251 ?_;refine GW.range (bb l).length (fun k fr Γ=>∃ n,fr=[U,.loc 0 0,U,.loc 1 0,U,U,U,U,U,U,U,U,U,U,U,U,U,U,U,U,U,U,U,U,U,U,U,U,U,U,U,U,U,U,U,U,U,U,U,U,U,U,U,U,U,U,U,U,U,U,U,U,U,U,U,U,U,U,U,U,U,U,U,U,U,U,U,U,U,U,U,U,U,U,U,U,U,U,U,U,U,U,U,U,U,U,U,U,U,U,U,U,U,U,U,U,U,U,U,U,U,U,U,U,U,U,U,U,U,U,U,U,U,U,U,U,U,U,U,U,U,U,U,U,U,U,U,U,U,U,U,U,U,U,U,U,U,U,U,U,U,U,U,U,U,U,U,U,U,U,U,U,U,U,U,U,U,U,U,U,U,U,U,U,U,U,U,U,U,U,U,U,U,U,U,U,.sl 6 (bb l),.v (ii ((bb l).length:Int)),.v (ii (k:Nat)),U,U,U,U,U,U,U,U,U,U,U,U]/\Γ=[.box 86 (cT (.mk ⟨14,a,0,s,ks⟩ l)),.box 78 n]/\n=aO ⟨14,a,0,s,ks⟩/\((l.take k).all fun x=>fZ x.n.kind)=true) ?_ (by rw [bc];exact hl) ?_ ?_ ?_
 ·exact ⟨_,_,Wk.aX aw,_,rfl,rfl,rfl,rfl⟩
 ·rintro k _ _ ⟨_,rfl,rfl,_⟩;exact gU
 ·rintro k _ _ hk ⟨_,rfl,rfl,rfl,hf⟩
  have hk:k < l.length:=by rw [bc] at hk;exact hk
  have hx:l[k]?=some l[k]:=by simp [hk]
  have hr:=cJ hx;generalize l[k]=x at *;have he:=GM x.n.kind
  cases hb:fZ x.n.kind with
  | true =>
   rw [hb] at he;refine zbn ?_;exact ⟨rfl,rfl,_,_,(Wk.cut (n:=2) (fU rfl) rfl).trans (Wk.aX aw),_,rfl,rfl,rfl,by rw [eK,hx,List.all_append,hf];simp only [Option.toList,all_cons,all_nil,hb];rfl⟩
  | false =>
   rw [hb] at he;refine zbn ?_;refine cq ?_
   have ha:(l.all fun x=>fZ x.n.kind)=false:=by
    exact zcz
   rw [ha];exact zag
 ·rintro _ _ ⟨_,rfl,rfl,rfl,hf⟩
  have hf:(l.all fun x=>fZ x.n.kind)=true:=by
   rw [nq zfm] at hf;exact hf
  rw [hf];exact av
theorem Vx (k a n:Int) (s:ae) (ks:List Int) (l:List T) (hk:k=1\/k=2\/k=3\/k=4\/k=5\/k=6\/k=7\/k=8\/k=9\/k=10\/k=11\/k=12\/k=13\/k=14\/True) (hx:¬ (k=1\/k=2\/k=3\/k=4\/k=5\/k=6\/k=7\/k=8\/k=9\/k=10\/k=11\/k=12\/k=13\/k=14)) (ha:decide (a < 0)=false) (hn:(n != 0)=false):GF prog 251 [.agg (cT (.mk ⟨k,a,n,s,ks⟩ l))] [] (.v (.bool (cd (.mk ⟨k,a,n,s,ks⟩ l)))) []:=by
 simp only [not_or] at hx;obtain ⟨D,I,h3,h4,h5,h6,h7,h8,h9,ly,oL,lS,lT,AB⟩:=hx
 have D:(k==1)=false:=by simpa using D
 have h1x:(k != 1)=true:=by simp only [bne,D];rfl
 have I:(k==2)=false:=by simpa using I
 have h3:(k==3)=false:=by simpa using h3
 have h4:(k==4)=false:=by simpa using h4
 have h5:(k==5)=false:=by simpa using h5
 have h6:(k==6)=false:=by simpa using h6
 have h7:(k==7)=false:=by simpa using h7
 have h8:(k==8)=false:=by simpa using h8
 have h9:(k==9)=false:=by simpa using h9
 have ly:(k==10)=false:=by simpa using ly
 have oL:(k==11)=false:=by simpa using oL
 have lS:(k==12)=false:=by simpa using lS
 have lT:(k==13)=false:=by simpa using lT
 have AB:(k==14)=false:=by simpa using AB
 have how:cd (.mk ⟨k,a,n,s,ks⟩ l)=false:=by
  show own ⟨k,a,n,s,ks⟩ _ _ _=_;simp [own,D,I,h3,h4,h5,h6,h7,h8,h9,ly,oL,lS,lT,AB]
 exact zcM
theorem Vu (k a n:Int) (s:ae) (ks:List Int) (l:List T) (ha:decide (a < 0)=true):GF prog 251 [.agg (cT (.mk ⟨k,a,n,s,ks⟩ l))] [] (.v (.bool (cd (.mk ⟨k,a,n,s,ks⟩ l)))) []:=by
 have how:cd (.mk ⟨k,a,n,s,ks⟩ l)=false:=by
  show own ⟨k,a,n,s,ks⟩ _ _ _=_;unfold own;rw [ah ha]
 exact zcM
theorem Vw (k a n:Int) (s:ae) (ks:List Int) (l:List T) (ha:decide (a < 0)=false) (hk:(k != 1)=true) (hn:(n != 0)=true):GF prog 251 [.agg (cT (.mk ⟨k,a,n,s,ks⟩ l))] [] (.v (.bool (cd (.mk ⟨k,a,n,s,ks⟩ l)))) []:=by
 have how:cd (.mk ⟨k,a,n,s,ks⟩ l)=false:=by
  show own ⟨k,a,n,s,ks⟩ _ _ _=_;unfold own;rw [ad zeJ,ah (by show ((k != 1)&&(n != 0))=true;rw [hk,hn];rfl)]
 exact zcM
theorem OI (t:T) (hs:t.n.s.length<=1099511627776) (hl:t.kids.length<=1099511627776):GF prog 251 [.agg (cT t)] [] (.v (.bool (cd t))) []:=by
 obtain ⟨⟨k,a,n,s,ks⟩,l⟩:=t
 cases ha:decide (a < 0) with
 | true=>exact Vu k a n s ks l ha
 | false =>
 by_cases Lu:k=1
 ·subst Lu;exact Vl a n s ks l hs hl ha
 by_cases hn:n=0
 ·subst hn
  by_cases h:k=1\/k=2\/k=3\/k=4\/k=5\/k=6\/k=7\/k=8\/k=9\/k=10\/k=11\/k=12\/k=13\/k=14
  ·rcases h with rfl | rfl | rfl | rfl | rfl | rfl | rfl | rfl | rfl | rfl | rfl | rfl | rfl | rfl
   ·exact absurd rfl Lu
   ·exact Vm a s ks l hs hl ha
   ·exact Vn a s ks l hs hl ha
   ·exact Vo a s ks l hs hl ha
   ·exact Vp a s ks l hs hl ha
   ·exact Vq a s ks l hs hl ha
   ·exact Vr a s ks l hs hl ha
   ·exact Vs a s ks l hs hl ha
   ·exact Vt a s ks l hs hl ha
   ·exact Ua a s ks l hs hl ha
   ·exact Ub a s ks l hs hl ha
   ·exact Uc a s ks l hs hl ha
   ·exact Ud a s ks l hs hl ha
   ·exact Ue a s ks l hs hl ha
  ·exact Vx k a 0 s ks l zeL h ha rfl
 ·exact Vw k a n s ks l ha (by simpa using Lu) zft
theorem Kr (l:List T):bX l=l.all cX:=by
 induction l with
 | nil=>simp [bX]
 | cons a l ih=>simp [bX,ih]
theorem OE:∀ (sz:Nat) (t:T),SizeOf.sizeOf t<=sz->FV t->GF prog 193 [.agg (cT t)] [] (.v (.bool (cX t))) []:=by
 intro sz
 induction sz with
 | zero=>intro t h _;cases t;simp at h
 | succ sz ih =>
 intro t fJ iy;obtain ⟨n,l⟩:=t;have aaD:=iy;rw [FV] at iy;obtain ⟨hs,hl,hm⟩:=iy
 have how:cX (.mk n l)=(bX l&&cd (.mk n l)):=by rw [cX]
 rw [how];rw [Kr];refine aj func193 ntmps193 ?_;refine GW.range (bb l).length (fun k fr Γ=>fr=[U,.loc 0 0,U,U,U,U,.sl 6 (bb l),.v (ii ((bb l).length:Int)),.v (ii (k:Nat)),U,U,U,U,U,U,U,U,U]/\Γ=[.box 86 (cT (.mk n l))]/\((l.take k).all cX)=true) ?_ (by rw [bc];exact hl) ?_ ?_ ?_
 ·exact qn
 ·exact nc
 ·rintro k _ _ hk ⟨rfl,rfl,hf⟩
  have hk:k < l.length:=by rw [bc] at hk;exact hk
  have hx:l[k]?=some l[k]:=by simp [hk]
  have B1:=bM hx;have ar:=List.sizeOf_lt_of_mem B1;have hr:=cJ hx;have he:=ih l[k] zfq (FX hm B1);generalize l[k]=x at *
  cases hb:cX x with
  | true =>
   rw [hb] at he;refine zbn ?_;exact ⟨rfl,rfl,_,_,(Wk.cut (n:=1) (fU rfl) rfl).trans (Wk.aX aw),rfl,rfl,by rw [eK,hx,List.all_append,hf];simp only [Option.toList,all_cons,all_nil,hb];rfl⟩
  | false =>
   rw [hb] at he;refine zbn ?_;refine cq ?_
   have ha:(l.all cX)=false:=by
    exact zcz
   rw [ha];exact zag
 ·rintro _ _ ⟨rfl,rfl,hf⟩
  have hf:(l.all cX)=true:=by
   rw [nq zfm] at hf;exact hf
  rw [hf];refine ab ?_;refine V [] (OI (.mk n l) hs hl) ?_;exact ao
theorem OD (t:T) (h:FV t):GF prog 193 [.agg (cT t)] [] (.v (.bool (cX t))) []:=OE _ t (aD _) h
open Go.Xp (Ar)
structure Bj (p:Src):Prop where
 globals:p.globals.length<=1000000000000/\∀ s∈p.globals,s.length<=1000000000000
 arrays:p.arrays.length<=1000000000000/\∀ a∈p.arrays,a.name.length<=1000000000000
 fns:p.fns.length<=1000000000000/\∀ f∈p.fns,f.name.length<=1000000000000/\f.params.length<=1000000000000/\∀ s∈f.params,s.length<=1000000000000
 nodes:p.nodes.length<=1000000000000/\∀ n∈p.nodes,n.s.length<=1000000000000/\n.kids.length<=1000000000000
theorem yy {l:List ae} {i:Nat} {s:ae} (h:l[i]?=some s):(l.map fun s=>[GV.v (sv s)])[i]?=some [.v (sv s)]:=by rw [bP,h];rfl
theorem Mt {l:List Ar} {i:Nat} {s:Ar} (h:l[i]?=some s):(l.map bY)[i]?=some (bY s):=by rw [bP,h];rfl
theorem FI {l:List Go.Sp.Fn} {i:Nat} {s:Go.Sp.Fn} (h:l[i]?=some s):(l.map br)[i]?=some (br s):=by rw [bP,h];rfl
theorem uJ {α:Type} {l:List α} {q:α->Bool} {k:Nat} {x:α} (hx:l[k]?=some x) (hb:q x=false):l.all q=false:=by
 exact zcz
theorem AZ (p:Src) (hp:Bj p) (b:Bool) (h:od p=some b):GF prog 140 [.agg (aL p)] [] (.v (.bool b)) []:=by
 unfold od at h;refine aj func140 ntmps140 ?_;refine GW.range (p.globals.map fun s=>[GV.v (sv s)]).length (fun k fr Γ=>fr=[U,.loc 0 0,U,.v (ii 0),U,U,U,U,U,U,U,U,U,U,U,strs p.globals,.v (ii ((p.globals.map fun s=>[GV.v (sv s)]).length:Int)),.v (ii (k:Nat)),U,U,U,U,U,U,U,U,U,U,U,U,U,U,U,U,U,U,U,U,U,U,U,U,U,U,U,U,U,U,U,U,U,U,U,U,U,U,U,U,U,U,U,U,U,U,U,U,U,U,U,U,U,U,U,U,U,U,U,U,U,U,U,U,U,U,U,U,U,U,U,U,U,U,U,U,U,U,U,U,U,U,U,U,U,U,U]/\Γ=[.box 28 (aL p)]/\((p.globals.take k).all bC)=true) ?_ (by simpa using by have:=hp.globals.1;omega) ?_ ?_ ?_
 ·exact qn
 ·exact nc
 ·rintro k _ _ hk ⟨rfl,rfl,hf⟩
  have hk:k < p.globals.length:=by simpa using hk
  have hx:p.globals[k]?=some p.globals[k]:=by simp [hk]
  have hr:=yy hx;have hl:=hp.globals.2 _ (bM hx);generalize p.globals[k]=x at *;have he:=ed x X
  cases hb:bC x with
  | true =>
   rw [hb] at he;refine zbn ?_;exact ⟨rfl,rfl,_,_,Wk.aX aw,rfl,rfl,sP hx hf hb⟩
  | false =>
   rw [hb] at he;rw [ah (show cy p.globals=false from uJ hx hb)] at h;cases h;refine zbn ?_;exact ao
 ·rintro _ _ ⟨rfl,rfl,hf⟩;rw [nq zeL] at hf;rw [ad (by rw [show cy p.globals=true from hf];decide)] at h;refine ab ?_;refine GW.range (p.arrays.map bY).length (fun k fr Γ=>fr=[U,.loc 0 0,U,.v (ii 0),U,U,U,U,U,U,U,U,U,U,U,U,U,U,U,U,U,U,U,U,U,U,.sl 2 (p.arrays.map bY),.v (ii ((p.arrays.map bY).length:Int)),.v (ii (k:Nat)),U,U,U,U,U,U,U,U,U,U,U,U,U,U,U,U,U,U,U,U,U,U,U,U,U,U,U,U,U,U,U,U,U,U,U,U,U,U,U,U,U,U,U,U,U,U,U,U,U,U,U,U,U,U,U,U,U,U,U,U,U,U,U,U,U,U,U,U,U,U,U,U,U,U,U,U]/\Γ=[.box 28 (aL p)]/\((p.arrays.take k).all nA)=true) ?_ (by simpa using by have:=hp.arrays.1;omega) ?_ ?_ ?_
  ·exact qn
  ·exact nc
  ·rintro k _ _ hk ⟨rfl,rfl,hf⟩
   have hk:k < p.arrays.length:=by simpa using hk
   have hx:p.arrays[k]?=some p.arrays[k]:=by simp [hk]
   have hr:=Mt hx;have hl:=hp.arrays.2 _ (bM hx);generalize p.arrays[k]=x at *;have he:=ed x.name X
   cases hb:bC x.name with
   | false =>
    rw [hb] at he;rw [ah (uJ hx (by simp [nA,hb]))] at h;cases h;refine zbn ?_;exact ao
   | true =>
    rw [hb] at he
    cases D:decide (x.size < 0) with
    | true =>
     rw [ah (uJ hx (by simp only [nA,hb,D];rfl))] at h;cases h;refine zbn ?_;exact ao
    | false =>
     cases I:decide (2147483647 < x.size) with
     | true =>
      rw [ah (uJ hx (by simp only [nA,hb,D,I];rfl))] at h;cases h;refine zbn ?_;exact ao
     | false =>
      refine zbn ?_;exact ⟨rfl,rfl,_,_,(Wk.cut (n:=1) (fU rfl) rfl).trans (Wk.aX aw),rfl,rfl,sP hx hf (by simp only [nA,hb,D,I];rfl)⟩
  ·rintro _ _ ⟨rfl,rfl,hf⟩;rw [nq zeL] at hf;rw [ad (by rw [hf];decide)] at h;refine ab ?_;refine GW.range (p.fns.map br).length (fun k fr Γ=>∃ nx,fr=[U,.loc 0 0,U,.v (ii nx),U,U,U,U,U,U,U,U,U,U,U,U,U,U,U,U,U,U,U,U,U,U,U,U,U,U,U,U,U,U,U,U,U,U,U,U,U,U,U,U,U,U,U,U,.sl 3 (p.fns.map br),.v (ii ((p.fns.map br).length:Int)),.v (ii (k:Nat)),U,U,U,U,U,U,U,U,U,U,U,U,U,U,U,U,U,U,U,U,U,U,U,U,U,U,U,U,U,U,U,U,U,U,U,U,U,U,U,U,U,U,U,U,U,U,U,U,U,U,U,U,U,U]/\Γ=[.box 28 (aL p)]/\0<=nx/\(match gx p.nodes (p.fns.drop k) nx with | none=>none | some none=>some false | some (some next)=>some (next==(p.nodes.length:Int)&&decide (next<=800)))=some b) ?_ (by simpa using by have:=hp.fns.1;omega) ?_ ?_ ?_
   ·exact ⟨_,_,Wk.aX aw,_,rfl,rfl,Int.le_refl _,h⟩
   ·rintro k _ _ ⟨_,rfl,rfl,_⟩;exact gU
   ·clear h hf;rintro k _ _ hk ⟨nx,rfl,rfl,HN,h⟩
    have hk:k < p.fns.length:=by simpa using hk
    have hx:p.fns[k]?=some p.fns[k]:=by simp [hk]
    have hr:=FI hx;have hl:=hp.fns.2 _ (bM hx);rw [o8 hk,gx] at h;generalize p.fns[k]=x at *
    cases he:oz p.nodes (fN p.nodes) nx.toNat 0 with
    | none=>exact zaQ
    | some e =>
    rw [he] at h;simp only at h;have zI:=UT p hp.nodes.1 (fun n hn=>(hp.nodes.2 n hn).2) _ _ 0 _ X he;rw [Int.toNat_of_nonneg HN] at zI;have cE:=ed x.name X
    by_cases D:x.body=nx
    ·have cY:(x.body != nx)=false:=by simpa using D
     cases hb:bC x.name with
     | false =>
      rw [hb] at cE;rw [ah (.inr (.inl hb))] at h;cases h;exact zey
     | true =>
      rw [hb] at cE
      by_cases I:e < 0
      ·have qt:decide (e < 0)=true:=by simpa using I
       rw [ah (.inr (.inr I))] at h;cases h;exact zey
      ·have qt:decide (e < 0)=false:=by simpa using I
       rw [ad (by rw [hb];simp [D,I])] at h;refine ab ?_;refine V [] zI ?_;refine V [] cE ?_;refine GW.range (x.params.map fun s=>[GV.v (sv s)]).length (fun j fr Γ=>fr=[U,.loc 0 0,U,.v (ii nx),U,U,U,U,U,.loc 1 0,.v (ii e),U,U,U,U,U,U,U,U,U,U,U,U,U,U,U,U,U,U,U,U,U,U,U,U,U,U,U,U,U,U,U,U,U,U,U,U,U,.sl 3 (p.fns.map br),.v (ii ((p.fns.map br).length:Int)),.v (ii (k:Nat)),U,U,U,U,U,U,U,U,U,U,U,U,U,U,U,U,U,U,U,U,U,strs x.params,.v (ii ((x.params.map fun s=>[GV.v (sv s)]).length:Int)),.v (ii (j:Nat)),U,U,U,U,U,U,U,U,U,U,U,U,U,U,U,U,U,U,U,U,U,U,U,U,U,U,U,U,U,U]/\Γ=[.box 28 (aL p),.box 65 (br x)]/\((x.params.take j).all bC)=true) ?_ (by simpa using by omega) ?_ ?_ ?_
       ·exact qn
       ·exact nc
       ·rintro j _ _ hj ⟨rfl,rfl,hf⟩
        have hj:j < x.params.length:=by simpa using hj
        have th:x.params[j]?=some x.params[j]:=by simp [hj]
        have hrs:=yy th;have hls:=hl.2.2 _ (bM th);generalize x.params[j]=y at *;have bL:=ed y X
        cases hb:bC y with
        | true =>
         rw [hb] at bL;refine ab ?_;refine V [] bL ?_;exact ⟨rfl,rfl,_,_,Wk.aX aw,rfl,rfl,sP th hf hb⟩
        | false =>
         rw [hb] at bL;rw [ah (show cy x.params=false from uJ th hb)] at h;cases h;refine ab ?_;refine V [] bL ?_;exact ao
       ·rintro _ _ ⟨rfl,rfl,hf⟩;rw [nq zeL] at hf;rw [ad (by rw [show cy x.params=true from hf];decide)] at h
        cases hs:sub p.nodes (fN p.nodes) nx.toNat with
        | none=>rw [hs] at h;cases h
        | some t =>
        rw [hs] at h;simp only at h;have qa:=DU p (fun n hn=>(hp.nodes.2 n hn).2) _ _ _ hs;rw [Int.toNat_of_nonneg HN] at qa;have cp:=OD t ((Ux (fun n hn=>by have:=hp.nodes.2 n hn;omega) _).1 _ _ hs)
        by_cases h3:t.n.kind=14
        ·have kz:(t.n.kind != 14)=false:=by simpa using h3
         cases hb:cX t with
         | false =>
          rw [hb] at cp;rw [ah (.inr hb)] at h;cases h;refine ab ?_;refine V [] qa ?_;refine V [] cp ?_;exact ao
         | true =>
          rw [hb] at cp;rw [ad (by rw [hb];simp [h3])] at h;refine ab ?_;refine V [] qa ?_;refine V [] cp ?_;exact ⟨rfl,rfl,_,_,(Wk.cut (n:=1) (fU rfl) rfl).trans (Wk.aX aw),_,rfl,rfl,by omega,h⟩
        ·have kz:(t.n.kind != 14)=true:=by simpa using h3
         rw [ah (.inl h3)] at h;cases h;refine ab ?_;refine V [] qa ?_;exact ao
    ·have cY:(x.body != nx)=true:=by simpa using D
     rw [ah (.inl D)] at h;cases h;refine ab ?_;refine V [] zI ?_;exact ao
   ·clear h hf;rintro _ _ ⟨nx,rfl,rfl,HN,h⟩;rw [cU,List.drop_length,gx] at h;simp only at h;cases h
    cases D:(nx==(p.nodes.length:Int)) with
    | false =>
     have cY:(nx==((p.nodes.map aO).length:Int))=false:=by rw [cU];exact D
     exact av
    | true =>
     have cY:(nx==((p.nodes.map aO).length:Int))=true:=by rw [cU];exact D
     exact av
open Go.Xp (levels)
def mY (k:Int) (s:ae):Int:=if k=6 then (match levels.findIdx? (fun l=>l.contains s) with | some i=>(i:Int) | none => -1) else 9
theorem JA (t:T):GF prog 142 [.agg (cT t)] [] (.v (.int .i64 (mY t.n.kind t.n.s))) []:=by
 refine fD func142 ntmps142 ?_
 by_cases h6:t.n.kind=6
 ·have YA:(t.n.kind != 6)=false:=by simpa using h6
  unfold mY;rw [ah h6];refine ab ?_;refine V [] iV ?_;refine GW.range (levels.map fun l=>[strs l]).length (fun k fr Γ=>fr=[U,.loc 0 0,U,U,U,U,U,U,U,U,U,.sl 1 (levels.map fun l=>[strs l]),.v (ii ((levels.map fun l=>[strs l]).length:Int)),.v (ii (k:Nat)),U,U,U,U,U,U,U,U,U,U,U]/\Γ=[.box 86 (cT t)]/\((levels.take k).any fun l=>l.contains t.n.s)=false) ?_ aE ?_ ?_ ?_
  ·exact qn
  ·exact nc
  ·rintro k _ _ hk ⟨rfl,rfl,hf⟩
   have hk:k < levels.length:=by simpa using hk
   have hx:levels[k]?=some levels[k]:=by simp [hk]
   have hr:(levels.map fun l=>[strs l])[k]?=some [strs levels[k]]:=by simp [hk]
   have qb:levels[k].length<=1099511627776:=by
    have:∀ l∈levels,l.length<=1099511627776:=by decide
    exact this _ (List.getElem_mem hk)
   have Lp:levels[k].contains t.n.s=true->levels.findIdx? (fun l=>l.contains t.n.s)=some k:=by
    intro hc;rw [List.findIdx?_eq_some_iff_getElem];refine ⟨hk,hc,fun j hj=>?_⟩;rw [List.any_eq_false] at hf;refine hf _ ?_;rw [List.mem_take_iff_getElem];exact ⟨j,by omega,rfl⟩
   generalize levels[k]=x at *;have hh:=qK x t.n.s qb
   cases hb:x.contains t.n.s with
   | true =>
    rw [hb] at hh;rw [Lp hb];refine ab ?_;refine V [] hh ?_;exact ao
   | false =>
    exact zba
  ·rintro _ _ ⟨rfl,rfl,hf⟩;rw [nq zeL] at hf
   have hn:levels.findIdx? (fun l=>l.contains t.n.s)=none:=by
    rw [List.findIdx?_eq_none_iff];intro x hx;rw [List.any_eq_false] at hf;simpa using hf x hx
   rw [hn];exact av
 ·have YA:(t.n.kind != 6)=true:=by simpa using h6
  unfold mY;rw [ad h6];refine ab ?_;refine V [] iV ?_;exact ao
open Go.Xp (yI eV En)
theorem QL (n:Int):GF prog 211 [.v (ii n)] [] (.v (ii (n % 4294967296))) []:=by
 refine aj func211 ntmps211 ?_;exact ao
theorem R3 (n:Int):GF prog 150 [.v (ii n)] [] (.v (ii (yI n))) []:=by
 unfold yI
 have hb:0<=n % 4294967296/\n % 4294967296 < 4294967296:=by omega
 have hp:=QL n;generalize n % 4294967296=m at *;refine fD func150 ntmps150 ?_
 by_cases h:m > 2147483647
 ·have h':decide ((2147483647:Int) < m)=true:=by simpa using h
  rw [ah h];refine zem ?_;exact ao
 ·have h':decide ((2147483647:Int) < m)=false:=by simpa using h
  rw [ad h];refine zem ?_;exact ao
theorem Dr (k:Nat) (h:k<=57):[[GV.v (.int .u8 (k:Int))]]=[UInt8.ofNat k].map fun c=>[GV.v (.int .u8 (c.toNat:Int))]:=by
 have:(UInt8.ofNat k).toNat=k:=by simp;omega
 simp [this]
theorem GJ (n:Nat) (hn:n<=1099511627776):GF prog 151 [.v (ii (n:Int))] [] (.v (sv (eV n))) []:=by
 induction n using Nat.strongRecOn with
 | _ n ih =>
 unfold eV;refine fD func151 ntmps151 ?_
 by_cases h:n < 10
 ·have h':decide ((n:Int) < 10)=true:=by simpa using by omega
  have hw:=Dr (48+n) X;rw [Int.natCast_add] at hw;rw [dif_pos h];refine ab ?_;refine cm ?_;exact av
 ·have h':decide ((n:Int) < 10)=false:=by simpa using by omega
  rw [dif_neg h];have hc:=ih (n / 10) X X;have hl:=En (n / 10);have hw:=Dr (48+n % 10) X;rw [Int.natCast_add] at hw;refine ab ?_;refine aS (.q 0 (.q 1 (aC 3 4 (.f 2 (.a 7 (aC 8 3 .nil)) 7 (.q 8 (.a 2 (.q 9 (.q 10 .nil)))))))) ?_;refine aq ?_;refine GO.fork ?_ ?_
  ·refine ax [] hc ?_;refine zaN ?_;exact av
  ·refine zaN ?_;refine ax [] hc ?_;exact av
end Go.Xg
set_option maxHeartbeats 2000000
namespace Go.Xg
open Go.RowKit Go.Xw Go.Proofs
attribute [local irreducible] GW GL GO YG GC GA bu bs
theorem Ih {p:Nat->Bool} {Γ:List Ob} (h:∀ x∈Γ,x.AW=true):qy p Γ=true:=by
 induction Γ with
 | nil=>rfl
 | cons x r ih =>
  rw [qy,ih fun y hy=>h y (di _ hy),Bool.and_true];have:=h x List.mem_cons_self
  cases x <;> first | rfl | cases this
section
variable {P:Program} {fn:Func} {m:Nat} {R:GV->List Ob->Prop} {fr:List GV} {Γ:List Ob} {e:Exit}
end
end Go.Xg
namespace Go.Xg
open Go.RowKit Go.Xw Go.Proofs
theorem Is {x:Ob} (h:x.AW=true) (f:Nat->Nat):x.dU f=x:=by cases x <;> first | rfl | cases h
theorem Rm {aaJ:List Ob} (h:∀ x∈aaJ,x.AW=true) (f:Nat->Nat):aaJ.map (Ob.dU f)=aaJ :=
 (List.map_congr_left fun x hx=>Is (h x hx) f).trans (List.map_id _)
theorem GZ (s n N:Nat) (h:s+n<=N):jq (List.range' s n) N=true:=by
 induction n generalizing s with
 | zero=>rfl
 | succ n ih =>
  rw [List.range'_succ,jq,ih (s+1) X]
  have D:Nat.blt s N=true:=by rw [Nat.blt_eq];omega
  have I:(List.range' (s+1) n).contains s=false:=by
   cases hc:(List.range' (s+1) n).contains s with
   | false=>rfl
   | true =>
    have:=List.mem_range'_1.1 (mH.1 hc);omega
  rw [D,I];rfl
theorem Be (f:Nat->Nat):∀ (aaJ A C:List Ob),(∀ x∈aaJ,x.AW=true)->seen f (A++(aaJ++C)) (List.range' A.length aaJ.length) aaJ
 | [],A,C,_=>trivial
 | x::aaJ,A,C,h=>by
  rw [length_cons,List.range'_succ,seen];refine ⟨by rw [jO (aD _),wR,Is (h x List.mem_cons_self)];rfl,?_⟩
  have:=Be f aaJ (A++[x]) C fun y hy=>h y (di _ hy)
  rw [aJ,List.length_singleton,fF] at this;exact this
section
variable {P:Program} {m:Nat} {Q:dL} {fr:List GV} {Γ:List Ob} {ops:Array Oper} {rest:List Oper} {d:Option Tmp} {op:Op} {ty:TypeId} {pos:String} {af:Array Edge}
end
attribute [local irreducible] GW GL GO YG GC GA bu bs
theorem Ng {α γ:Type} {f:α->Value->γ} {l:List α} {hs:List Value} {i:Nat} {x:α} {h:Value} (D:l[i]?=some x) (I:hs[i]?=some h):(List.zipWith f l hs)[i]?=some (f x h):=by rw [List.getElem?_zipWith,D,I]
end Go.Xg
namespace Go.Xg
open Go.RowKit Go.Xw
theorem R7 (A C:List Ob) (x:Ob):(A++x::C)[A.length]?=some x:=by
 rw [jO (aD _),wR];rfl
theorem zW (A C:List Ob) (x y:Ob):oset (A++x::C) A.length y=A++y::C:=by
 rw [bG,List.set_append_right _ _ (aD _),wR];rfl
theorem Ig (q:Nat->Bool):∀ (A B:List Ob),qy q (A++B)=(qy q A&&qy q B)
 | [],B=>by simp [qy]
 | a::A,B=>by simp only [List.cons_append,qy,Ig q A B,Bool.and_assoc]
section
variable (a b c d e:Ob) (aaJ:List Ob) (k x y:Ob)
end
section
variable {P:Program} {m:Nat} {Q:dL} {fr:List GV} {Γ:List Ob} {ops:Array Oper} {rest:List Oper} {d:Option Tmp} {op:Op} {ty:TypeId} {pos:String} {af:Array Edge}
theorem Wk.QX {A:List Ob} {x:Ob} (bO:Γ=A++[x]) (hm:m<=A.length) (ha:∀ q,qy q A=true):Wk m fr Γ (vX A.length fr) A:=by
 subst bO;have h:=Wk.cut (m:=m) (fr:=fr) (Γ:=A++[x]) (n:=A.length) hm (by simp [ha]);simpa using h
theorem GL.XX {t:TypeId} {z:Value} {agg:Bool} {k:Nat} [hZ:sO P t z] [hT:Ty P t agg k] {dt ts:Tmp} {cs:List GV} {MR:TypeId} {FF:String} {CY:Array Edge} {d2:Option Tmp} (TH:z.cells.size=k) (hy:lR (cB fr ts)=some cs) (bZ:Nat.beq ts dt=false) (lW:jg fr dt=true) (hk:cs.length=k) (D:mC cs=true)
  (h:GL P m ops Q rest (bK (bK fr (some dt) (.loc Γ.length 0)) d2 (.v undef)) (Γ++[.box t cs])):GL P m ops Q (⟨some dt,.alloc t,ty,pos,af,none⟩::⟨d2,.store t (.tmp dt) (.tmp ts),MR,FF,CY,none⟩::rest) fr Γ:=by
 refine GL.alloc (cs:=oy z.cells.toList) rfl ?_
 have zJ:ts≠dt:=by intro e;subst e;simp at bZ
 have Te:∀ (fr:List GV) (t:Nat) (g:GV),jg fr t=true->cB (bN fr t g) t=g:=by
  intro fr
  induction fr with
  | nil=>intro t g h;cases h
  | cons x fr ih=>intro t g h;cases t with | zero=>rfl | succ t=>exact ih t g h
 have Td:∀ (fr:List GV) (t u:Nat) (g:GV),u≠t->cB (bN fr t g) u=cB fr u:=by
  intro fr
  induction fr with
  | nil=>intro t u g _;rfl
  | cons x fr ih =>
   intro t u g h
   cases t with
   | zero=>cases u with | zero=>exact absurd rfl h | succ u=>rfl
   | succ t=>cases u with | zero=>rfl | succ u=>exact ih t u g X
 have hlen:(oy z.cells.toList).length=k:=by simp [oy,TH]
 refine GL.st (i:=Γ.length) (o:=0) (E:=t) (cs:=oy z.cells.toList) (gs:=cs) (Te fr dt _ lW) zeL ?_ hk D (by rw [hlen];simp) ?_
 ·show lR (cB (bN fr dt _) ts)=some cs;rw [Td fr dt ts _ zJ];exact hy
 ·have iM:oW (oy z.cells.toList) 0 cs=cs:=by
   have:=AA cs (oy z.cells.toList) [] (by rw [hlen,hk]);exact zcb
  rw [iM];have e:=zW Γ [] (.box t (oy z.cells.toList)) (.box t cs);rw [e];exact h
end
section
variable {P:Program} {fn:Func} {R:GV->List Ob->Prop} {fr:List GV} {Γ:List Ob} {e:Exit}
end
theorem IL {A B:Prop} (h:B) (s:Hid B->A:=by intro hQ;(repeat (first | ((first | (apply GL.q;(· exact J8)) | refine GL.nil ?_ | refine bo ?_ | refine GW.seq ?_ | refine GW.region ?_ | refine GW.skip ?_ | refine jb ?_ | refine GW.block ?_ | (apply GL.gt;(· exact rfl);(· first | exact rfl | assumption)) | (apply GL.gf;(· exact rfl);(· first | exact rfl | assumption)) | (apply GL.gu;(· exact rfl)) | (apply Ki;(· exact rfl);(· first | exact rfl | assumption)) | (apply Kh;(· exact rfl);(· first | exact rfl | assumption)));try refine GN sq ?_) | ((first | (apply GL.box;(· exact rfl)) | (apply GL.st;(· exact rfl);(· exact rfl);(· exact rfl);(· exact rfl);(· exact rfl);(· exact rfl)));refine r6 cR dw ?_)));exact hQ.1):A:=s ⟨h⟩
end Go.Xg
set_option maxHeartbeats 1000000
namespace Go.Xg
open Go.RowKit Go.Xw Go.Proofs Tryz Go.Sp
open Go.Xp (Nd T levels yI eV E er aK wt dJ mj dz)
attribute [local irreducible] GW GL GO YG GC GA bu bs
theorem dy {nd:Nd} {l l':List T} {k v:Int} {s:ae} (h:er (.mk nd l)=.mk ⟨k,0,v,s,[]⟩ l'):nd.kind=k/\nd.n=v/\nd.s=s/\aK l=l':=by
 rw [er] at h
 injection h with D I
 injection D with a b c d e
 exact ⟨a,c,d,I⟩
theorem vZ {l:List T} {x:T} (h:aK l=[x]):∃ t,l=[t]/\er t=x:=by
 match l,h with
 | [t],h=>rw [aK,aK] at h;injection h with D;exact ⟨t,rfl,D⟩
 | [],h=>rw [aK] at h;cases h
 | t::u::r,h=>rw [aK,aK] at h;injection h with D I;cases I
theorem xe {l:List T} {x y:T} (h:aK l=[x,y]):∃ t u,l=[t,u]/\er t=x/\er u=y:=by
 match l,h with
 | t::r,h =>
  rw [aK] at h;injection h with D I
  obtain ⟨u,rfl,h3⟩:=vZ I;exact ⟨t,u,rfl,D,h3⟩
 | [],h=>rw [aK] at h;cases h
theorem Sj {l:List T} {x y z:T} (h:aK l=[x,y,z]):∃ t u w,l=[t,u,w]/\er t=x/\er u=y/\er w=z:=by
 match l,h with
 | t::r,h =>
  rw [aK] at h;injection h with D I
  obtain ⟨u,w,rfl,h3,h4⟩:=xe I;exact ⟨t,u,w,rfl,D,h3,h4⟩
 | [],h=>rw [aK] at h;cases h
theorem Pj {a:E} (h:a.ok=true) {t:T} (ht:er t=a.tree):mY t.n.kind t.n.s=(a.lv:Int):=by
 obtain ⟨nd,l⟩:=t
 cases a with
 | bin s a b =>
  obtain ⟨D,_,I,_⟩:=dy ht;simp only [E.ok,au] at h;have h9:=(Go.Xp.nM h.1.1).1;simp only [T.n,D,I,mY,ah,E.lv];unfold dz at h9 |-
  cases hf:levels.findIdx? (fun l=>l.contains s) with
  | none=>rw [hf] at h9;exact absurd h9 aE
  | some i=>rfl
 | num n=>exact zbl
 | name n=>exact zbl
 | at_ s a=>exact zbl
 | call s a=>exact zbl
 | un s a=>exact zbl
theorem qX {a:E} (h:a.ok=true) {t:T} (ht:er t=a.tree):GF prog 142 [.agg (cT t)] [] (.v (ii (a.lv:Int))) []:=by
 have:=JA t;rw [Pj h ht] at this;exact this
theorem w6 (n:Int) (h:0<=n/\n<=2147483647):GF prog 90 [.v (ii n)] [] (.v (sv (eV n.toNat))) []:=by
 have hw:=R3 n
 have oO:yI n=n:=by unfold yI;rw [show n % 4294967296=n by omega,ad X]
 rw [oO] at hw;have hd:=GJ n.toNat X;rw [Int.toNat_of_nonneg h.1] at hd
 have h':decide (n < 0)=false:=by simpa using h.1
 refine aj func90 ntmps90 ?_;refine V [] hw ?_;refine V [] hd ?_;exact ao
abbrev lim:Nat:=1000000000000
def rm (a:E):Prop:=∀ (t:T) (k:Nat),a.ok=true->er t=a.tree->wt a.tree<=lim->¬ a.lv < k->GF prog 83 [.agg (cT t),.v (ii (k:Int))] [] (.v (sv a.txt)) []
def oG (a:E):Prop:=∀ (t:T) (k:Nat),a.ok=true->er t=a.tree->wt a.tree<=lim->GF prog 83 [.agg (cT t),.v (ii (k:Int))] [] (.v (sv (mj a.lv k a.txt))) []
theorem rm.p {a:E} (C:rm a):oG a:=by
 intro t k ho ht hb;unfold mj
 by_cases h:a.lv < k
 ·rw [ah h]
  have h':decide ((a.lv:Int) < (k:Int))=true:=by simpa using h
  have hl:=(E.len a ho).1;have h0:=C t 0 ho ht hb X;have HE:=hb;unfold lim at HE;generalize a.txt=x at *;refine aj func83 ntmps83 ?_;refine V [] (qX ho ht) ?_;refine V [] h0 ?_;exact ao
 ·rw [ad h];exact C t k ho ht hb h
theorem L4 (n:Int):rm (.num n):=by
 intro t k ho ht hb h
 have h':decide (((E.num n).lv:Int) < (k:Int))=false:=by simpa using h
 have hg:=qX ho ht;obtain ⟨⟨kk,aa,vv,ss,ks⟩,l⟩:=t;obtain ⟨D,I,h3,hl⟩:=dy ht;simp only at D I h3;subst D I h3;simp only [E.ok,au] at ho;have hn:=w6 vv ⟨lJ ho.1,lJ ho.2⟩;rw [E.txt];simp only [cT,T.n,T.kids] at hg |-;refine aj func83 ntmps83 ?_;refine V [] hg ?_;refine V [] hn ?_;exact ao
theorem JC (s:ae):rm (.name s):=by
 intro t k ho ht hb h
 have h':decide (((E.name s).lv:Int) < (k:Int))=false:=by simpa using h
 have hg:=qX ho ht;obtain ⟨⟨kk,aa,vv,ss,ks⟩,l⟩:=t;obtain ⟨D,I,h3,hl⟩:=dy ht;simp only at D I h3;subst D I h3;rw [E.txt];simp only [cT,T.n,T.kids] at hg |-;refine aj func83 ntmps83 ?_;refine V [] hg ?_;exact ao
theorem ON (s:ae) (a:E) (C:oG a):rm (.at_ s a):=by
 intro t k ho ht hb h
 have h':decide (((E.at_ s a).lv:Int) < (k:Int))=false:=by simpa using h
 have hg:=qX ho ht;obtain ⟨⟨kk,aa,vv,ss,ks⟩,l⟩:=t;obtain ⟨D,I,h3,hl⟩:=dy ht;simp only at D I h3;subst D I h3;obtain ⟨x,rfl,hx⟩:=vZ hl;simp only [E.ok,au] at ho;rw [E.tree,wt] at hb;simp only [dJ,lim] at hb;have hc:=C x 0 ho.2 hx zeP;unfold mj at hc;rw [ad X] at hc;have hle:=(E.len a ho.2).1;have hr:(bb [x])[0]?=some (cT x):=cJ rfl;rw [E.txt];generalize a.txt=y at *;simp only [cT,T.n,T.kids] at hg |-;refine aj func83 ntmps83 ?_;refine V [] hg ?_;refine zer ?_;refine ax [] hc ?_;exact av
theorem OO (s:ae) (a:E) (C:oG a):rm (.un s a):=by
 intro t k ho ht hb h
 have h':decide (((E.un s a).lv:Int) < (k:Int))=false:=by simpa using h
 have hg:=qX ho ht;obtain ⟨⟨kk,aa,vv,ss,ks⟩,l⟩:=t;obtain ⟨D,I,h3,hl⟩:=dy ht;simp only at D I h3;subst D I h3;obtain ⟨x,rfl,hx⟩:=vZ hl;simp only [E.ok,au] at ho;rw [E.tree,wt] at hb;simp only [dJ,lim] at hb;have hc:=C x 9 ho.2 hx zeP;have hle:=(E.len a ho.2).1;have EN:=Go.Xp.su a.lv 9 a.txt;have hr:(bb [x])[0]?=some (cT x):=cJ rfl;rw [E.txt];generalize mj a.lv 9 a.txt=y at *;simp only [cT,T.n,T.kids] at hg |-;refine aj func83 ntmps83 ?_;refine V [] hg ?_;refine aS (aC 0 8 (.a 8 (.q 9 (.a 10 (.q 11 (.q 12 .nil)))))) ?_;refine aq ?_;refine ax [] iV ?_;refine ax [] hc ?_;exact av
theorem L3 (s:ae) (a b:E) (Ca:oG a) (Cb:oG b):rm (.bin s a b):=by
 intro t k ho ht hb h
 have h':decide (((E.bin s a b).lv:Int) < (k:Int))=false:=by simpa using h
 have hg:=qX ho ht;obtain ⟨⟨kk,aa,vv,ss,ks⟩,l⟩:=t;obtain ⟨D,I,h3,hl⟩:=dy ht;simp only at D I h3;subst D I h3;obtain ⟨x,y,rfl,hx,hy⟩:=xe hl;simp only [E.ok,au] at ho;rw [E.tree,wt] at hb;simp only [dJ,lim] at hb;have S4:=Ca x (dz ss) ho.1.2 hx zeP;have yX:=Cb y (dz ss+1) ho.2 hy zeP;have P1:=(Go.Xp.nM ho.1.1).1;have hle:=(E.len a ho.1.2).1;have EN:=Go.Xp.su a.lv (dz ss) a.txt;have Xv:=(E.len b ho.2).1;have aao:=Go.Xp.su b.lv (dz ss+1) b.txt;have hr:(bb [x,y])[0]?=some (cT x):=cJ rfl;have dT:(bb [x,y])[1]?=some (cT y):=cJ rfl;rw [E.txt];simp only [E.lv] at hg h';generalize mj a.lv (dz ss) a.txt=u at *;generalize mj b.lv (dz ss+1) b.txt=w at *;simp only [cT,T.n,T.kids] at hg |-;refine aj func83 ntmps83 ?_;refine V [] hg ?_;refine V [] hg ?_;refine aS (aC 0 5 (aC 7 3 (aC 12 6 (.a 5 (.q 6 (.q 10 (.q 11 (.a 18 (.q 19 (.q 20 .nil)))))))))) ?_;exact zen
open GV (U)
open Go.Xp (bp wm sk)
def I1 (b:Bool) (a:E):Prop:=∀ t,er t=a.tree->GF prog 198 [.agg (cT t),.v (.bool b)] [] (.v (sv (a.out b))) []
theorem uR:∀ {ts:List T} {es:List E} (h:aK ts=E.trees es),ts.length=es.length/\∀ (k:Nat) t a,ts[k]?=some t->es[k]?=some a->er t=a.tree
 | [],[],_=>⟨rfl,fun k t a h=>by simp at h⟩
 | [],a::l,h=>by rw [aK,E.trees] at h;cases h
 | t::r,[],h=>by rw [aK,E.trees] at h;cases h
 | t::r,a::l,h=>by
  rw [aK,E.trees] at h
  injection h with D I
  obtain ⟨h3,h4⟩:=uR I;refine ⟨by simp [h3],fun k t' a' ht ha=>?_⟩
  cases k with
  | zero=>cases ht;cases ha;exact D
  | succ k=>exact zeE
theorem Dl (b:Bool) (es:List E) (C:∀ a∈es,I1 b a) (ts:List T) (tf:aK ts=E.trees es) (hb:(bp (es.map (E.out b))).length<=lim) (hn:es.length<=lim) :
  GF prog 143 [.sl 6 (bb ts),.v (.bool b)] [] (.v (sv (bp (es.map (E.out b))))) []:=by
 obtain ⟨hlen,pY⟩:=uR tf;unfold lim at hb hn;refine aj func143 ntmps143 ?_;refine GW.range (bb ts).length (fun k fr Γ=>∃ y,fr=[U,.v (.bool b),U,U,U,.v (sv y),U,U,.sl 6 (bb ts),.v (ii ((bb ts).length:Int)),.v (ii (k:Nat)),U,U,U,U,U,U,U,U,U,U,U,U,U,U,U]/\Γ=[]/\y=bp ((es.map (E.out b)).take k)) ?_ zfm ?_ ?_ ?_
 ·exact ⟨_,_,Wk.aX aw,[],rfl,rfl,by simp [bp]⟩
 ·rintro k _ _ ⟨y,rfl,rfl,_⟩;exact gU
 ·rintro k _ _ hk ⟨y,rfl,rfl,hy⟩
  have hk:k < es.length:=by rw [bc,hlen] at hk;exact hk
  have tZ:k < ts.length:=by omega
  have hx:es[k]?=some es[k]:=by simp [hk]
  have ht:ts[k]?=some ts[k]:=by simp [tZ]
  have he:=pY k _ _ ht hx;have hr:=cJ ht;have hc:=C _ (bM hx) _ he;have rE:=sk (es.map (E.out b)) (k+1);have Xr:=sk (es.map (E.out b)) k
  have kB:(es.map (E.out b)).take (k+1)=(es.map (E.out b)).take k++[es[k].out b]:=by
   rw [eK,bP,hx];rfl
  rw [kB] at rE;generalize ts[k]=t at *;generalize es[k]=a at *;generalize a.out b=x at *
  by_cases h0:k=0
  ·subst h0
   have rA:decide ((0:Int) < ((0:Nat):Int))=false:=by decide
   have hj:bp ((es.map (E.out b)).take 0++[x])=[]++x:=by simp [bp]
   have AK:bp ((es.map (E.out b)).take 0)=[]:=by simp [bp]
   rw [AK] at hy;subst hy;rw [hj] at rE
   have rE:x.length<=(bp (es.map (E.out b))).length:=by simpa using rE
   exact zbQ
  ·have rA:decide ((0:Int) < (k:Int))=true:=by simpa using by omega
   have bZ:(es.map (E.out b)).take k≠[]:=by
    intro h;rw [List.take_eq_nil_iff] at h
    rcases h with h | h
    ·exact h0 h
    ·rw [List.map_eq_nil_iff] at h;subst h;simp at hk
   have hj:=wm bZ x;rw [hj] at rE;rw [<-hy] at rE hj Xr;simp only [aJ,length_cons,length_nil] at rE;exact zbQ
 ·rintro _ _ ⟨y,rfl,rfl,hy⟩;have:(es.map (E.out b)).take (bb ts).length=es.map (E.out b):=nq (by rw [bc,hlen];simp);rw [this] at hy;subst hy;exact av
theorem oG.out {a:E} (C:oG a) (ho:a.ok=true) (hb:wt a.tree<=lim):I1 true a:=by
 intro t ht;have h0:=C t 0 ho ht hb;unfold mj at h0;rw [ad X] at h0;show GF _ _ _ _ (.v (sv a.txt)) _;exact zeF
theorem CT:∀ l:List E,l.length<=dJ (E.trees l)
 | []=>aY _
 | a::l=>by
  have:=CT l;rw [E.trees,dJ,length_cons]
  have:1<=wt a.tree:=by cases a <;> (rw [E.tree,wt];omega)
  omega
theorem CU:∀ {l:List E} {a:E},a∈l->wt a.tree<=dJ (E.trees l)
 | [],_,h=>by cases h
 | b::l,a,h=>by
  rw [E.trees,dJ]
  rcases ew h with rfl | h
  ·omega
  ·have:=CU h;omega
theorem Ci:∀ {l:List E} {a:E},E.bW l=true->a∈l->a.ok=true
 | [],_,_,h=>by cases h
 | b::l,a,ho,h=>by
  simp only [E.bW,au] at ho
  rcases ew h with rfl | h
  ·exact ho.1
  ·exact Ci ho.2 h
theorem JB (s:ae) (es:List E) (C:∀ a∈es,oG a):rm (.call s es):=by
 intro t k ho ht hb h
 have h':decide (((E.call s es).lv:Int) < (k:Int))=false:=by simpa using h
 have hg:=qX ho ht;obtain ⟨⟨kk,aa,vv,ss,ks⟩,l⟩:=t;obtain ⟨D,I,h3,hl⟩:=dy ht;simp only at D I h3;subst D I h3;simp only [E.ok,au] at ho;rw [E.tree,wt] at hb;have hle:=(E.lens es ho.2).1;have hn:=CT es
 have EP:E.cC es=es.map (E.out true):=by rw [E.Po];rfl
 have hj:=Dl true es (fun a ha=>(C a ha).out (Ci ho.2 ha) (by have:=CU ha;omega)) l hl (by rw [<-EP];omega) X;rw [<-EP] at hj;unfold lim at hb;simp only at hb;rw [E.txt];generalize bp (E.cC es)=y at *;simp only [cT,T.n,T.kids] at hg |-;refine aj func83 ntmps83 ?_;refine V [] hg ?_;exact zcU
mutual
theorem oR:∀ a:E,oG a
 | .num n=>(L4 n).p
 | .name s=>(JC s).p
 | .at_ s a=>(ON s a (oR a)).p
 | .call s l=>(JB s l (HZ l)).p
 | .un s a=>(OO s a (oR a)).p
 | .bin s a b=>(L3 s a b (oR a) (oR b)).p
theorem HZ:∀ l:List E,∀ a∈l,oG a
 | []=>fun a h=>by cases h
 | b::l=>fun a h=>by
  rcases ew h with h | h
  ·rw [h];exact oR b
  ·exact HZ l a h
end
def mw (a:E):Prop:=∀ (t:T),a.ok=true->er t=a.tree->wt a.tree<=lim->GF prog 255 [.agg (cT t)] [] (.v (sv a.full)) []
theorem mw.out {a:E} (C:mw a) (ho:a.ok=true) (hb:wt a.tree<=lim):I1 false a:=by
 intro t ht;have h0:=C t ho ht hb;show GF _ _ _ _ (.v (sv a.full)) _;exact zeF
theorem Oc (n:Int):mw (.num n):=by
 intro t ho ht hb;obtain ⟨⟨kk,aa,vv,ss,ks⟩,l⟩:=t;obtain ⟨D,I,h3,hl⟩:=dy ht;simp only at D I h3;subst D I h3;simp only [E.ok,au] at ho;have hn:=w6 vv ⟨lJ ho.1,lJ ho.2⟩;rw [E.full];refine zdv ?_;refine aj func255 ntmps255 ?_;refine V [] hn ?_;exact ao
theorem Lc (s:ae):mw (.name s):=by
 intro t ho ht hb;obtain ⟨⟨kk,aa,vv,ss,ks⟩,l⟩:=t;obtain ⟨D,I,h3,hl⟩:=dy ht;simp only at D I h3;subst D I h3;rw [E.full];refine zdv ?_;refine aj func255 ntmps255 ?_;exact ao
theorem Q3 (s:ae) (a:E) (C:mw a):mw (.at_ s a):=by
 intro t ho ht hb;exact zai
theorem Lb (s:ae) (es:List E) (C:∀ a∈es,mw a):mw (.call s es):=by
 intro t ho ht hb;obtain ⟨⟨kk,aa,vv,ss,ks⟩,l⟩:=t;obtain ⟨D,I,h3,hl⟩:=dy ht;simp only at D I h3;subst D I h3;simp only [E.ok,au] at ho;rw [E.tree,wt] at hb;have hle:=(E.lens es ho.2).2;have hn:=CT es
 have EP:E.ni es=es.map (E.out false):=by rw [E.Ld];rfl
 have hj:=Dl false es (fun a ha=>(C a ha).out (Ci ho.2 ha) (by have:=CU ha;omega)) l hl (by rw [<-EP];omega) X;rw [<-EP] at hj;unfold lim at hb;simp only at hb;rw [E.full];generalize bp (E.ni es)=y at *;simp only [cT,T.n,T.kids] at |-;refine aj func255 ntmps255 ?_;exact zcU
theorem Q4 (s:ae) (a:E) (C:mw a):mw (.un s a):=by
 intro t ho ht hb;exact zai
theorem Oa (s:ae) (a b:E) (Ca:mw a) (Cb:mw b):mw (.bin s a b):=by
 intro t ho ht hb;obtain ⟨⟨kk,aa,vv,ss,ks⟩,l⟩:=t;obtain ⟨D,I,h3,hl⟩:=dy ht;simp only at D I h3;subst D I h3;obtain ⟨x,y,rfl,hx,hy⟩:=xe hl;simp only [E.ok,au] at ho;rw [E.tree,wt] at hb;simp only [dJ,lim] at hb;have S4:=Ca x ho.1.2 hx zeP;have yX:=Cb y ho.2 hy zeP;have hle:=(E.len a ho.1.2).2;have Xv:=(E.len b ho.2).2;have hr:(bb [x,y])[0]?=some (cT x):=cJ rfl;have dT:(bb [x,y])[1]?=some (cT y):=cJ rfl;rw [E.full];generalize a.full=u at *;generalize b.full=w at *;simp only [cT,T.n,T.kids] at |-;refine aj func255 ntmps255 ?_;refine aS (aC 0 4 (aC 7 3 (aC 12 4 (.a 4 (.q 5 (.q 6 (.q 10 (.q 11 (.a 16 (aC 17 3 .nil)))))))))) ?_;exact zen
mutual
theorem yi:∀ a:E,mw a
 | .num n=>Oc n
 | .name s=>Lc s
 | .at_ s a=>Q3 s a (yi a)
 | .call s l=>Lb s l (La l)
 | .un s a=>Q4 s a (yi a)
 | .bin s a b=>Oa s a b (yi a) (yi b)
theorem La:∀ l:List E,∀ a∈l,mw a
 | []=>fun a h=>by cases h
 | b::l=>fun a h=>by
  rcases ew h with h | h
  ·rw [h];exact yi b
  ·exact La l a h
end
theorem qc (b:Bool) {a:E} (ho:a.ok=true) (hb:wt a.tree<=lim):I1 b a:=by
 cases b with
 | true=>exact (oR a).out ho hb
 | false=>exact (yi a).out ho hb
theorem jr (b:Bool) (a:E) (ho:a.ok=true):(a.out b).length+4<=wt a.tree:=by
 have:=E.len a ho
 cases b with
 | true=>exact this.1
 | false=>exact this.2
open Go.Xp (S aZ dD)
theorem IK (x:E->Go.Xp.ae):∀ (l:List S) (acc:Go.Xp.ae),acc.length<=(S.cC x acc l).length
 | [],acc=>by rw [S.cC];omega
 | a::l,acc=>by
  rw [S.cC];have:=IK x l (acc++a.txt x++[32]);simp only [aJ,length_cons,length_nil] at this;omega
def nw (b:Bool) (s:S):Prop:=∀ t,s.ok=true->er t=s.tree->wt s.tree<=lim->GF prog 194 [.agg (cT t),.v (.bool b)] [] (.v (sv (s.txt (E.out b)))) []
def uH (b:Bool) (l:List S):Prop:=∀ t,S.bW l=true->er t=aZ l->wt (aZ l)<=lim->GF prog 194 [.agg (cT t),.v (.bool b)] [] (.v (sv (dD (E.out b) l))) []
theorem Cz:∀ {ts:List T} {es:List S} (h:aK ts=S.trees es),ts.length=es.length/\∀ (k:Nat) t a,ts[k]?=some t->es[k]?=some a->er t=a.tree
 | [],[],_=>⟨rfl,fun k t a h=>by simp at h⟩
 | [],a::l,h=>by rw [aK,S.trees] at h;cases h
 | t::r,[],h=>by rw [aK,S.trees] at h;cases h
 | t::r,a::l,h=>by
  rw [aK,S.trees] at h
  injection h with D I
  obtain ⟨h3,h4⟩:=Cz I;refine ⟨by simp [h3],fun k t' a' ht ha=>?_⟩
  cases k with
  | zero=>cases ht;cases ha;exact D
  | succ k=>exact zeE
theorem Ab:∀ {l:List S} {a:S},a∈l->wt a.tree<=dJ (S.trees l)
 | [],_,h=>by cases h
 | b::l,a,h=>by
  rw [S.trees,dJ]
  rcases ew h with rfl | h
  ·omega
  ·have:=Ab h;omega
theorem Aa:∀ l:List S,l.length<=dJ (S.trees l)
 | []=>aY _
 | a::l=>by
  have:=Aa l;rw [S.trees,dJ,length_cons]
  have:1<=wt a.tree:=by cases a <;> (rw [S.tree,wt];omega)
  omega
theorem z6:∀ {l:List S} {a:S},S.bW l=true->a∈l->a.ok=true
 | [],_,_,h=>by cases h
 | b::l,a,ho,h=>by
  simp only [S.bW,au] at ho
  rcases ew h with rfl | h
  ·exact ho.1
  ·exact z6 ho.2 h
theorem Nc (b:Bool) (s:Go.Xp.ae) (a:E):nw b (.var s a):=by
 intro t ho ht hb;obtain ⟨⟨kk,aa,vv,ss,ks⟩,l⟩:=t;obtain ⟨D,I,h3,hl⟩:=dy ht;simp only at D I h3;subst D I h3;obtain ⟨x0,rfl,kc⟩:=vZ hl;simp only [S.ok,au] at ho;rw [S.tree,wt] at hb;simp only [dJ,lim] at hb;have mn:=qc b (a:=a) ho.2 zeP x0 kc;have sc:=jr b a ho.2;have vb:(bb [x0])[0]?=some (cT x0):=cJ rfl;rw [S.txt];generalize a.out b=y0 at *;refine zdv ?_;refine aj func194 ntmps194 ?_;refine aS (aC 0 10 (.a 10 (aC 11 3 .nil))) ?_;refine aq ?_;refine ax [] mn ?_;exact av
theorem Nb (b:Bool) (s:Go.Xp.ae) (a:E):nw b (.set s a):=by
 intro t ho ht hb;obtain ⟨⟨kk,aa,vv,ss,ks⟩,l⟩:=t;obtain ⟨D,I,h3,hl⟩:=dy ht;simp only at D I h3;subst D I h3;obtain ⟨x0,rfl,kc⟩:=vZ hl;simp only [S.ok,au] at ho;rw [S.tree,wt] at hb;simp only [dJ,lim] at hb;have mn:=qc b (a:=a) ho.2 zeP x0 kc;have sc:=jr b a ho.2;have vb:(bb [x0])[0]?=some (cT x0):=cJ rfl;rw [S.txt];generalize a.out b=y0 at *;refine zdv ?_;refine aj func194 ntmps194 ?_;refine aS (aC 0 9 (.a 9 (aC 10 3 .nil))) ?_;refine aq ?_;refine ax [] mn ?_;exact av
theorem M9 (b:Bool) (s:Go.Xp.ae) (a:E) (c:E):nw b (.put s a c):=by
 intro t ho ht hb;obtain ⟨⟨kk,aa,vv,ss,ks⟩,l⟩:=t;obtain ⟨D,I,h3,hl⟩:=dy ht;simp only at D I h3;subst D I h3;obtain ⟨x0,x1,rfl,kc,ke⟩:=xe hl;simp only [S.ok,au] at ho;rw [S.tree,wt] at hb;simp only [dJ,lim] at hb;have mn:=qc b (a:=a) ho.2.1 zeP x0 kc;have sc:=jr b a ho.2.1;have vb:(bb [x0,x1])[0]?=some (cT x0):=cJ rfl;have lU:=qc b (a:=c) ho.2.2 zeP x1 ke;have gX:=jr b c ho.2.2;have j0:(bb [x0,x1])[1]?=some (cT x1):=cJ rfl;rw [S.txt];generalize a.out b=y0 at *;generalize c.out b=y1 at *;refine zdv ?_;refine aj func194 ntmps194 ?_;refine aS (aC 0 9 (aC 12 5 (.a 9 (.q 10 (.q 11 (.a 17 (aC 18 3 .nil))))))) ?_;refine aq ?_;refine ax [] mn ?_;refine ax [] lU ?_;exact av
theorem M7 (b:Bool) (c:E) (p:List S) (Cp:uH b p):nw b (.if1 c p):=by
 intro t ho ht hb;obtain ⟨⟨kk,aa,vv,ss,ks⟩,l⟩:=t;obtain ⟨D,I,h3,hl⟩:=dy ht;simp only at D I h3;subst D I h3;obtain ⟨x0,x1,rfl,kc,ke⟩:=xe hl;simp only [S.ok,au] at ho;rw [S.tree,wt] at hb;simp only [dJ,lim] at hb;have mn:=qc b (a:=c) ho.1 zeP x0 kc;have sc:=jr b c ho.1;have vb:(bb [x0,x1])[0]?=some (cT x0):=cJ rfl;have lU:=Cp x1 ho.2 ke zfj;have gX:=Go.Xp.sr (E.out b) (jr b) ho.2;rw [aZ] at gX;have j0:(bb [x0,x1])[1]?=some (cT x1):=cJ rfl;rw [S.txt];generalize c.out b=y0 at *
 change GF _ _ _ _ (.v (sv _)) _ at lU
 exact zaI
theorem M8 (b:Bool) (c:E) (p:List S) (q:List S) (Cp:uH b p) (Cq:uH b q):nw b (.if2 c p q):=by
 intro t ho ht hb;obtain ⟨⟨kk,aa,vv,ss,ks⟩,l⟩:=t;obtain ⟨D,I,h3,hl⟩:=dy ht;simp only at D I h3;subst D I h3;obtain ⟨x0,x1,x2,rfl,kc,ke,Dg⟩:=Sj hl;simp only [S.ok,au] at ho;rw [S.tree,wt] at hb;simp only [dJ,lim] at hb;have mn:=qc b (a:=c) ho.1 zeP x0 kc;have sc:=jr b c ho.1;have vb:(bb [x0,x1,x2])[0]?=some (cT x0):=cJ rfl;have lU:=Cp x1 ho.2.1 ke zfj;have gX:=Go.Xp.sr (E.out b) (jr b) ho.2.1;rw [aZ] at gX;have j0:(bb [x0,x1,x2])[1]?=some (cT x1):=cJ rfl;have lV:=Cq x2 ho.2.2 Dg zfj;have kP:=Go.Xp.sr (E.out b) (jr b) ho.2.2;rw [aZ] at kP;have dT:(bb [x0,x1,x2])[2]?=some (cT x2):=cJ rfl;rw [S.txt];generalize c.out b=y0 at *
 change GF _ _ _ _ (.v (sv _)) _ at lU
 unfold dD at lU gX;generalize S.cC (E.out b) [123,32] p++[125]=y1 at *
 change GF _ _ _ _ (.v (sv _)) _ at lV
 unfold dD at lV kP;generalize S.cC (E.out b) [123,32] q++[125]=y2 at *;refine zdv ?_;refine aj func194 ntmps194 ?_;refine aS (aC 0 5 (aC 8 5 (.a 5 (.q 6 (.q 7 (.a 13 (.q 14 (.q 15 .nil)))))))) ?_;exact zcB
theorem G6 (b:Bool) (c:E) (p:List S) (Cp:uH b p):nw b (.while_ c p):=by
 intro t ho ht hb;obtain ⟨⟨kk,aa,vv,ss,ks⟩,l⟩:=t;obtain ⟨D,I,h3,hl⟩:=dy ht;simp only at D I h3;subst D I h3;obtain ⟨x0,x1,rfl,kc,ke⟩:=xe hl;simp only [S.ok,au] at ho;rw [S.tree,wt] at hb;simp only [dJ,lim] at hb;have mn:=qc b (a:=c) ho.1 zeP x0 kc;have sc:=jr b c ho.1;have vb:(bb [x0,x1])[0]?=some (cT x0):=cJ rfl;have lU:=Cp x1 ho.2 ke zfj;have gX:=Go.Xp.sr (E.out b) (jr b) ho.2;rw [aZ] at gX;have j0:(bb [x0,x1])[1]?=some (cT x1):=cJ rfl;rw [S.txt];generalize c.out b=y0 at *
 change GF _ _ _ _ (.v (sv _)) _ at lU
 exact zaI
theorem Na (b:Bool) (a:E):nw b (.ret a):=by
 intro t ho ht hb;exact zak
theorem Pu (b:Bool) (a:E):nw b (.do_ a):=by
 intro t ho ht hb;exact zak
theorem rO (b:Bool) (es:List S) (C:∀ a∈es,nw b a):uH b es:=by
 intro t ho ht hb;obtain ⟨⟨kk,aa,vv,ss,ks⟩,l⟩:=t;obtain ⟨D,I,h3,hl⟩:=dy ht;simp only at D I h3;subst D I h3;obtain ⟨hlen,pY⟩:=Cz hl;have gD:=Go.Xp.sr (E.out b) (jr b) ho;rw [aZ,wt] at hb;rw [aZ,wt] at gD;have hn:=Aa es;unfold dD at gD |-;unfold lim at hb;simp only [aJ,length_cons,length_nil] at hb gD;refine zdv ?_;refine aj func194 ntmps194 ?_;refine GW.range (bb l).length (fun k fr Γ=>∃ y,fr=[U,.v (.bool b),.loc 0 0,U,U,U,.v (sv y),U,U,U,U,U,U,U,U,U,U,U,U,U,U,U,U,U,U,U,U,U,U,U,U,U,U,U,U,U,U,U,U,U,U,U,U,U,U,U,U,U,U,U,U,U,U,U,U,U,U,U,U,U,U,U,U,U,U,U,U,U,U,U,U,U,U,U,U,U,U,U,U,U,U,U,U,U,U,U,U,U,U,U,U,U,U,U,U,U,U,U,U,U,U,U,U,U,U,U,U,U,U,U,U,U,U,U,U,U,U,U,U,U,U,U,U,U,U,U,U,U,U,U,U,.sl 6 (bb l),.v (ii ((bb l).length:Int)),.v (ii (k:Nat)),U,U,U,U,U,U,U,U,U,U,U,U]/\Γ=[.box 86 [.v (ii 14),.v (ii aa),.v (ii 0),.v (sv []),ints ks,.sl 6 (bb l)]]/\S.cC (E.out b) y (es.drop k)=S.cC (E.out b) [123,32] es) ?_ zfm ?_ ?_ ?_
 ·exact zbO
 ·rintro k _ _ ⟨y,rfl,rfl,_⟩;exact gU
 ·rintro k _ _ hk ⟨y,rfl,rfl,hy⟩
  have hk:k < es.length:=by rw [bc,hlen] at hk;exact hk
  have tZ:k < l.length:=by omega
  have hx:es[k]?=some es[k]:=by simp [hk]
  have kB:l[k]?=some l[k]:=by simp [tZ]
  have hr:=cJ kB;rw [o8 hk,S.cC] at hy;have hm:=bM hx;have hc:=C _ hm _ (z6 ho hm) (pY k _ _ kB hx) (by have:=Ab hm;unfold lim;omega);generalize l[k]=t at *;generalize Y3:es[k].txt (E.out b)=x at *;have hO:=IK (E.out b) (es.drop (k+1)) (y++x++[32]);rw [hy] at hO;simp only [aJ,length_cons,length_nil] at hO;refine ab ?_;refine V [] hc ?_;exact zcV
 ·rintro _ _ ⟨y,rfl,rfl,hy⟩;rw [List.drop_of_length_le (by rw [bc,hlen];exact aD _),S.cC] at hy;subst hy;exact av
mutual
theorem M6 (b:Bool):∀ s:S,nw b s
 | .set s a=>Nb b s a
 | .put s a c=>M9 b s a c
 | .if1 c p=>M7 b c p (rO b p (sK b p))
 | .if2 c p q=>M8 b c p q (rO b p (sK b p)) (rO b q (sK b q))
 | .while_ c p=>G6 b c p (rO b p (sK b p))
 | .ret a=>Na b a
 | .do_ a=>Pu b a
 | .var s a=>Nc b s a
theorem sK (b:Bool):∀ l:List S,∀ a∈l,nw b a
 | []=>fun a h=>by cases h
 | c::l=>fun a h=>by
  rcases ew h with h | h
  ·rw [h];exact M6 b c
  ·exact sK b l a h
end
theorem UE (b:Bool) (l:List S):uH b l:=rO b l (sK b l)
open Go.Xp (dc)
theorem L0 (p:Src) (hp:Bj p) (ls:List (List S)) (hb:DX p ls):GF prog 141 [.agg (aL p)] [] (.v (.bool (ls.all fun l=>dc l 1))) []:=by
 refine aj func141 ntmps141 ?_;refine GW.range (p.fns.map br).length (fun k fr Γ=>fr=[U,.loc 0 0,U,U,U,U,U,U,.sl 3 (p.fns.map br),.v (ii ((p.fns.map br).length:Int)),.v (ii (k:Nat)),U,U,U,U,U,U,U,U,U,U,U,U,U,U,U,U,U,U,U,U,U,U,U,U,U,U,U,U,U,U,U,U,U,U]/\Γ=[.box 28 (aL p)]/\((ls.take k).all fun l=>dc l 1)=true) ?_ (by simpa using by have:=hp.fns.1;omega) ?_ ?_ ?_
 ·exact qn
 ·exact nc
 ·rintro k _ _ hk ⟨rfl,rfl,hf⟩
  have hk:k < p.fns.length:=by simpa using hk
  have kA:k < ls.length:=by rw [hb.len];exact hk
  have hx:p.fns[k]?=some p.fns[k]:=by simp [hk]
  have qb:ls[k]?=some ls[k]:=by simp [kA]
  have hr:=FI hx;obtain ⟨h0,ho,hw,t,qa,Ta⟩:=hb.at_ k _ _ hx qb;have hs:=DU p (fun n hn=>(hp.nodes.2 n hn).2) _ _ _ qa;rw [Int.toNat_of_nonneg h0] at hs;have E1:=UE true ls[k] t ho Ta zeP;obtain ⟨ts,t2,q,f,D,I,h3,h4,h5,h6,h7⟩:=QP ho hw;have kB:=L2 _ ts X D;have Za:RS.ok ⟨ts,0,(dD E.txt ls[k]).length,0,0⟩:=⟨aY _,by simp only;omega⟩;have et:=(WJ f).block 1 _ t2 q Za X h5
  have ej:(E.out true)=E.txt:=by funext a;rfl
  rw [ej] at E1;generalize dD E.txt ls[k]=tx at *;generalize jI:dc ls[k] 1=fit at *;generalize p.fns[k]=x at *
  rcases h7 with ⟨h7,h8,rfl⟩ | ⟨h7,rfl⟩
  ·have lU:(q.code != 0)=false:=by simpa using h7
   have lV:((q.i:Int) != ((q.l.map cH).length:Int))=false:=by rw [cU,h6];simp [h8]
   refine zdi ?_;refine bF ?_;exact ⟨rfl,rfl,_,_,(Wk.cut (n:=1) (fU rfl) rfl).trans (Wk.aX aw),rfl,rfl,sP qb hf jI⟩
  ·have lU:(q.code != 0)=true:=by simpa using h7
   have cp:(ls.all fun l=>dc l 1)=false:=uJ qb jI;rw [cp];refine zdi ?_;exact zbG
 ·rintro _ _ ⟨rfl,rfl,hf⟩;rw [nq (by rw [cU,hb.len];exact aD _)] at hf;rw [hf];exact av
theorem Kf (p:Src) (hp:Bj p) (h:od p=some false):GF prog 81 [.agg (aL p)] [] (.v (.bool false)) []:=by
 have hs:=AZ p hp false h;refine aj func81 ntmps81 ?_;refine V [] hs ?_;exact ao
theorem Kg (p:Src) (hp:Bj p) (h:od p=some true) (ls:List (List S)) (hb:DX p ls):GF prog 81 [.agg (aL p)] [] (.v (.bool (ls.all fun l=>dc l 1))) []:=by
 have hs:=AZ p hp true h;have hf:=L0 p hp ls hb;generalize (ls.all fun l=>dc l 1)=b at *;refine aj func81 ntmps81 ?_;refine V [] hs ?_;refine V [] hf ?_;exact ao
open Go.Im
theorem CC {p:Src} (hw:cv p<=1048576):Bj p:=by
 obtain ⟨⟨a1,a2⟩,⟨b1,b2⟩,⟨c1,c2⟩,⟨d1,d2⟩⟩:=sI p;exact ⟨⟨by omega,fun s hs=>by have:=a2 s hs;omega⟩,⟨by omega,fun s hs=>by have:=b2 s hs;omega⟩,⟨by omega,fun f hf=>by obtain ⟨e1,e2,e3⟩:=c2 f hf;exact ⟨by omega,by omega,fun s hs=>by have:=e3 s hs;omega⟩⟩,⟨by omega,fun n hn=>by obtain ⟨e1,e2⟩:=d2 n hn;exact ⟨by omega,by omega⟩⟩⟩
theorem CX (p:Src) (hw:cv p<=1048576):GF prog 81 [.agg (aL p)] [] (.v (.bool (fI p))) []:=by
 have iy:=CC hw;obtain ⟨b,hb⟩:=J3 p
 cases b with
 | false=>rw [W4 hb];exact Kf p iy hb
 | true =>
  obtain ⟨l,hl⟩:=RL hb;obtain ⟨ls,hf⟩:=hl.v8;rw [Ew hl hf];exact Kg p iy hb ls (C0 hl hf hw)
end Go.Xg
