/- Part 9 of proofs that are told in their last texts. -/
import Derived.Test.YtbfmholmeiegoaaGreatDoorZ8
import Derived.Test.YtbfmholmeiegoaaGreatDoorZ3
import Derived.Lib.SlicesCompact
import Derived.Test.YtbfmholmeiegoaaGreatDoorZ7
import Derived.Test.YtbfmholmeiegoaaGreatDoorZ6
import Derived.Lib.OwnBridge
import Derived.Lib.AppendIntMem
open List (cons_append filterMap_cons getElem?_cons_succ getElem?_zipWith length_cons length_nil length_set length_singleton map_map mem_append mem_of_mem_take mem_singleton nil_append not_mem_nil set_set take_succ_cons take_zero zipWith_append zipWith_cons_cons)
set_option linter.unusedVariables false
set_option linter.unusedSimpArgs false
set_option maxRecDepth 100000
set_option maxHeartbeats 4000000
namespace Go
theorem zaw {A B:Prop} (h:B) (s:PLift B->A:=by intro hQ;refine GW.seq ?_;refine GW.region ?_;refine GL.wT rfl rfl ?_;refine bL ?_;refine D ?_;exact hQ.1):A:=s ⟨h⟩
theorem zcU {A B:Prop} (h:B) (s:PLift B->A:=by intro hQ;refine GW.wk (Wk.iN 9 1) ?_;refine GW.wk (Wk.iN 56 2) ?_;exact hQ.1):A:=s ⟨h⟩
theorem zfa {A B:Prop} (h:B) (s:PLift B->A:=by intro hQ;refine GW.wk (Wk.iN 58 3) ?_;refine GW.wk (Wk.iN 62 5) ?_;exact hQ.1):A:=s ⟨h⟩
end Go
namespace Go.Im
open Go.Xp Go.Sp
section
variable {α:Type} (w:α->Nat) (mk:Nat->α->α)
def bN (l:List α):Nat:=(l.map w).sum
def ew:Nat->List α->List α
 | _,[]=>[]
 | k,x::l=>mk k x::ew (k+w x) l
def fq (k:Nat) (l:List α) (i:Nat):List α:=ew w mk k (l.take i)++l.drop i
variable {w mk}
theorem rG {l:List α} {i:Nat} {x:α} (h:l[i]?=some x):bN w (l.take (i+1))=bN w (l.take i)+w x:=by
 rw [bS,h];simp [bN]
theorem uZ (l:List α) (i:Nat):bN w (l.take i)<=bN w l:=by
 have h:=congrArg (bN w) (List.take_append_drop i l);unfold bN at *;rw [kK,List.sum_append] at h;omega
theorem eQ:∀ (k:Nat) (l:List α),(ew w mk k l).length=l.length
 | _,[]=>rfl
 | k,x::l=>by simp [ew,eQ (k+w x) l]
theorem Ie:∀ (k:Nat) (a:List α) (x:α),ew w mk k (a++[x])=ew w mk k a++[mk (k+bN w a) x]
 | k,[],x=>by simp [ew,bN]
 | k,y::a,x=>by
  have:=Ie (k+w y) a x;rw [cons_append,ew,this,ew];simp [bN,gn]
theorem xG:∀ {l:List α} (k:Nat) {i:Nat} {x:α},l[i]?=some x->(ew w mk k l)[i]?=some (mk (k+bN w (l.take i)) x)
 | [],k,i,x,h=>by simp at h
 | y::l,k,0,x,h=>by cases h;simp [ew,bN]
 | y::l,k,i+1,x,h=>by
  have:=xG (l:=l) (k+w y) (i:=i) (x:=x) zfP;rw [ew,getElem?_cons_succ,this,take_succ_cons];simp [bN,gn]
theorem CA (k:Nat) (l:List α) (i:Nat):(fq w mk k l i).length=l.length:=by simp [fq,eQ];omega
theorem Ag (k:Nat) (l:List α):fq w mk k l 0=l:=by simp [fq,ew]
theorem Cz (k:Nat) (l:List α):fq w mk k l l.length=ew w mk k l:=by simp [fq]
theorem xF {l:List α} {k i:Nat} {x:α} (h:l[i]?=some x):(fq w mk k l i)[i]?=some x:=by
 have hi:=(bq h).1
 have hl:(ew w mk k (l.take i)).length=i:=by rw [eQ,du];omega
 unfold fq;rw [fw zfO,hl,jx,List.getElem?_drop];exact h
theorem CB {l:List α} {k i:Nat} {x:α} (h:l[i]?=some x):(fq w mk k l i).set i (mk (k+bN w (l.take i)) x)=fq w mk k l (i+1):=by
 have hi:=(bq h).1
 have hl:(ew w mk k (l.take i)).length=i:=by rw [eQ,du];omega
 unfold fq;rw [List.set_append_right _ _ zfO,hl,jx,lT hi,List.set_cons_zero,bS,h];rw [show (some x).toList=[x] from rfl,Ie,de];rfl
end
def Ah (k n:Nat):List ae:=(List.range n).map fun i=>nD (k+i)
theorem Lg (k n:Nat):(Ah k n).length=n:=by simp [Ah]
def Ic (k n:Nat):List Int:=(List.range n).map fun i=>((k+i:Nat):Int)
theorem VW (k n:Nat):(Ic k n).length=n:=by simp [Ic]
def wA (_:Ar):Nat:=2
def wF (f:Go.Sp.Fn):Nat:=2+f.params.length
def wN (n:Nd):Nat:=4+n.kids.length
def oM (k:Nat) (_:Ar):Ar:=⟨nD k,((k+1:Nat):Int)⟩
def jn (k:Nat) (f:Go.Sp.Fn):Go.Sp.Fn:=⟨nD k,Ah (k+1) f.params.length,((k+1+f.params.length:Nat):Int)⟩
def jK (k:Nat) (n:Nd):Nd:=⟨(k:Nat),((k+1:Nat):Int),((k+1+1:Nat):Int),nD (k+1+1+1),Ic (k+1+1+1+1) n.kids.length⟩
def oT (k:Nat) (p:Src):Src:=⟨Ah k p.globals.length,ew wA oM (k+p.globals.length) p.arrays,ew wF jn (k+p.globals.length+bN wA p.arrays) p.fns,ew wN jK (k+p.globals.length+bN wA p.arrays+bN wF p.fns) p.nodes⟩
def tu (p:Src):Nat:=p.globals.length+bN wA p.arrays+bN wF p.fns+bN wN p.nodes
end Go.Im
namespace Go.Xg
open Go.RowKit Go.Xw Go.Proofs Tryz Go.Im
open GV (U)
open Go.Xp (Nd Ar)
open Go.Sp (Src)
attribute [local irreducible] GW GL GO YG GC GA aW aZ
theorem yD (k n:Nat):marks k n=bb (Ah k n):=by unfold marks Ah bb;rw [map_map];rfl
theorem Dz (k n:Nat):jm k n=bQ (Ic k n):=by unfold jm Ic bQ;rw [map_map];rfl
theorem pG {rows:List (List GV)} {i o:Nat} {g:GV} {r:List GV} (h:rows[i]?=some r):eL rows i o g=rows.set i (bp r o g):=by
 refine List.ext_getElem? fun j=>?_
 rw [A6 h,dN]
 by_cases e:j=i
 ·subst e;have:=(bq h).1;rw [ab rfl,ab rfl,ab this]
 ·rw [F e,F (fun h=>e h.symm)]
theorem x8 {α γ:Type} {f:α->Value->γ}:∀ {l:List α} {hs:List Value} {i:Nat} {y:α} {h:Value},hs[i]?=some h->(List.zipWith f l hs).set i (f y h)=List.zipWith f (l.set i y) hs
 | [],hs,i,y,h,I=>by simp
 | x::l,[],i,y,h,I=>by simp at I
 | x::l,v::hs,0,y,h,I=>by cases I;rfl
 | x::l,v::hs,i+1,y,h,I=>by
  rw [zipWith_cons_cons,List.set_cons_succ,List.set_cons_succ,zipWith_cons_cons,x8 zfU]
theorem Ia (l:List Ar) (a:Option Addr) (c k:Nat) (hl:l.length<=1099511627776) (hb:k+bN wA l<=1099511627776) :
  GF prog 51 [.v (.slice a l.length c),.v (ii (k:Nat))] [.vech 56 2 (l.map aB) (.slice a l.length c)] (.v (ii ((k+bN wA l:Nat):Int))) [.vech 56 2 ((ew wA oM k l).map aB) (.slice a l.length c)]:=by
 refine ah func51 ntmps51 ?_;refine GW.loop (fun i:Nat=>l.length - i) (fun i fr Γ=>∃ kk:Nat,kk=k+bN wA (l.take i)/\fr=[.v (.slice a l.length c),.v (ii (kk:Nat)),U,U,U,.v (ii (i:Nat)),U,U,U,U,U,U,U,U,U,U,U,U,U,U,U,U,U,U,U,U,U,U]/\Γ=[.vech 56 2 ((fq wA oM k l i).map aB) (.slice a l.length c)]/\i<=l.length) 0 ?_ ?_
 ·exact zcJ
 rintro i _ _ ⟨kk,gy,rfl,rfl,hi⟩
 by_cases aj:i < l.length
 ·have hd:decide ((i:Int) < (l.length:Int))=true:=by simpa using aj
  obtain ⟨f,hf⟩:∃ f,l[i]?=some f:=⟨l[i],by simp [aj]⟩;have PC:=rG (w:=wA) hf;have hle:=uZ (w:=wA) l (i+1);have PD:wA f=2:=rfl;have cq:=CB (w:=wA) (mk:=oM) (k:=k) hf;rw [<-gy] at cq;have hc:=mA kk G
  have hr:((fq wA oM k l i).map aB)[i]?=some [.v (sv f.name),.v (ii f.size)]:=by rw [aS,xF hf];rfl
  have fY:((fq wA oM k l i).map aB).length=l.length:=by rw [bV,CA]
  have Pb:((fq wA oM k l i).map aB).set i [.v (sv (nD kk)),.v (ii ((kk+1:Nat):Int))]=(fq wA oM k l (i+1)).map aB:=by rw [<-cq,List.map_set];rfl
  generalize (fq wA oM k l i).map aB=R at *;generalize nD kk=x at *;have jj:=rB (o:=0) (g:=.v (sv x)) hr;simp only [bp] at jj
  have fK:(eL R i (0+0) (.v (sv x))).length=l.length:=by rw [jo];exact fY
  refine zaR ?_;refine oE ?_;refine zcy ?_;refine ⟨i+1,⟨_,_,Wk.aC ak,kk+1+1,by omega,rfl,?_,aj⟩,by show l.length - (i+1) < l.length - i;omega⟩;rw [<-Pb,pG (o:=0+1) jj,pG hr,set_set];rfl
 ·have hd:decide ((i:Int) < (l.length:Int))=false:=by simpa using aj
  have eZ:i=l.length:=by omega
  subst eZ;rw [Cz];exact zdR
theorem Hx (l:List Ar) (k:Nat) (hl:l.length<=1099511627776) (hb:k+bN wA l<=1099511627776) :
  GF prog 55 [.sl 2 ((ew wA oM k l).map aB),.v (ii (k:Nat))] [] (.v (ii ((k+bN wA l:Nat):Int))) []:=by
 have hm:((ew wA oM k l).map aB).length=l.length:=by rw [bV,eQ]
 refine ah func55 ntmps55 ?_;refine GW.loop (fun i:Nat=>l.length - i) (fun i fr Γ=>∃ kk:Nat,kk=k+bN wA (l.take i)/\fr=[.sl 2 ((ew wA oM k l).map aB),.v (ii (kk:Nat)),U,U,U,.v (ii (i:Nat)),U,U,U,U,U,U,U,U,U,U,U,U,U,U,U,U,U,U,U,U,U,U,U,U,U,U]/\Γ=[]/\i<=l.length) 0 ?_ ?_
 ·exact zc8
 rintro i _ _ ⟨kk,gy,rfl,rfl,hi⟩
 by_cases aj:i < l.length
 ·have hd:decide ((i:Int) < (((ew wA oM k l).map aB).length:Int))=true:=by rw [hm];simpa using aj
  obtain ⟨f,hf⟩:∃ f,l[i]?=some f:=⟨l[i],by simp [aj]⟩;have PC:=rG (w:=wA) hf;have hle:=uZ (w:=wA) l (i+1);have PD:wA f=2:=rfl
  have hr:((ew wA oM k l).map aB)[i]?=some [.v (sv (nD kk)),.v (ii ((kk+1:Nat):Int))]:=by rw [aS,xG k hf,<-gy];rfl
  have hc:=mA kk G;generalize nD kk=x at *;generalize (ew wA oM k l).map aB=S at *
  have hs:(!(x==x))=false:=by simp
  have kz:(((kk+1:Nat):Int) != ((kk+1:Nat):Int))=false:=by simp
  refine zb3 ?_;exact ⟨i+1,⟨_,_,Wk.aC ak,kk+1+1,by omega,rfl,rfl,aj⟩,by show l.length - (i+1) < l.length - i;omega⟩
 ·have hd:decide ((i:Int) < (((ew wA oM k l).map aB).length:Int))=false:=by rw [hm];simpa using aj
  have eZ:i=l.length:=by omega
  subst eZ;exact zdR
theorem Qc (l:List Go.Sp.Fn) (fs:List Value) (iG:fs.length=l.length) (Uj:∀ (i:Nat) x y,l[i]?=some x->fs[i]?=some y->Hd x.params.length y) (a:Option Addr) (c k:Nat) (hl:l.length<=1099511627776) (hb:k+bN wF l<=1099511627776) :
  GC prog 52 [.v (.slice a l.length c),.v (ii (k:Nat))] (.vech 58 3 (List.zipWith gB l fs) (.slice a l.length c)::List.zipWith gA l fs) fun g Δ=>g=.v (ii ((k+bN wF l:Nat):Int))/\Δ=.vech 58 3 (List.zipWith gB (ew wF jn k l) fs) (.slice a l.length c)::List.zipWith gA (ew wF jn k l) fs:=by
 have Uo:(Ob.vech 58 3 (List.zipWith gB l fs) (.slice a l.length c)::List.zipWith gA l fs).length=l.length+1:=by simp [iG]
 refine c8 func52 ntmps52 ?_;rw [Uo];refine D ?_;refine GW.loop (fun i:Nat=>l.length - i) (fun i fr Γ=>∃ kk:Nat,kk=k+bN wF (l.take i)/\fr=[.v (.slice a l.length c),.v (ii (kk:Nat)),U,U,U,.v (ii (i:Nat)),U,U,U,U,U,U,U,U,U,U,U,U,U,U,U,U,U,U,U,U,U,U,U,U,U,U,U,U,U]/\Γ=.vech 58 3 (List.zipWith gB (fq wF jn k l i) fs) (.slice a l.length c)::List.zipWith gA (fq wF jn k l i) fs/\i<=l.length) 0 ?_ ?_
 ·exact zcJ
 rintro i _ _ ⟨kk,gy,rfl,rfl,hi⟩
 by_cases aj:i < l.length
 ·have hd:decide ((i:Int) < (l.length:Int))=true:=by simpa using aj
  obtain ⟨f,hf⟩:∃ f,l[i]?=some f:=⟨l[i],by simp [aj]⟩;have ow:fs[i]?=some (fs[i]'G):=dq _;obtain ⟨a1,c1,e1⟩:=Uj i _ _ hf ow;generalize fs[i]'G=y at *;subst e1;have PC:=rG (w:=wF) hf;have hle:=uZ (w:=wF) l (i+1);have PD:wF f=2+f.params.length:=rfl;have cq:=CB (w:=wF) (mk:=jn) (k:=k) hf;rw [<-gy] at cq;have hc:=mA kk G;have fk:=zf a1 c1 f.params.length (kk+1) (bb f.params) (kT _) G;rw [yD] at fk;have O9:=CA (w:=wF) (mk:=jn) k l i;have hr:(List.zipWith gB (fq wF jn k l i) fs)[i]?=some [.v (sv f.name),.v (.slice a1 f.params.length c1),.v (ii f.body)]:=uj (xF hf) ow;have hk:(List.zipWith gA (fq wF jn k l i) fs)[i]?=some (.vech 9 1 (bb f.params) (.slice a1 f.params.length c1)):=uj (xF hf) ow
  have fY:(List.zipWith gB (fq wF jn k l i) fs).length=l.length:=by rw [mJ];omega
  have Xz:(List.zipWith gA (fq wF jn k l i) fs).length=l.length:=by rw [mJ];omega
  have Pb:(List.zipWith gB (fq wF jn k l i) fs).set i [.v (sv (nD kk)),.v (.slice a1 f.params.length c1),.v (ii ((kk+1+f.params.length:Nat):Int))]=List.zipWith gB (fq wF jn k l (i+1)) fs:=by rw [<-cq,<-x8 ow];rfl
  have XA:oset (List.zipWith gA (fq wF jn k l i) fs) i (.vech 9 1 (bb (Ah (kk+1) f.params.length)) (.slice a1 f.params.length c1))=List.zipWith gA (fq wF jn k l (i+1)) fs:=by rw [bg,<-cq,<-x8 ow];rfl
  generalize List.zipWith gB (fq wF jn k l i) fs=R at *;generalize List.zipWith gA (fq wF jn k l i) fs=O at *;generalize nD kk=x at *;have jj:=rB (o:=0) (g:=.v (sv x)) hr;simp only [bp] at jj
  have fK:(eL R i (0+0) (.v (sv x))).length=l.length:=by rw [jo];exact fY
  refine D ?_;refine zcX ?_;refine zcy ?_;refine ⟨i+1,⟨_,_,Wk.aC ak,kk+1+f.params.length+1,by omega,rfl,?_,aj⟩,by show l.length - (i+1) < l.length - i;omega⟩;rw [<-Pb,<-XA,pG (o:=0+2) jj,pG hr,set_set];rfl
 ·have hd:decide ((i:Int) < (l.length:Int))=false:=by simpa using aj
  have eZ:i=l.length:=by omega
  subst eZ;rw [Cz];rw [bH] at gy;subst gy;refine zbA ?_;refine jc ?_;refine Mq rfl cJ rfl (by simp [eQ,iG]) ?_ ⟨rfl,rfl⟩;intro x hx
  rcases dw hx with rfl | hx
  ·rfl
  ·exact zb1
theorem Pj (l:List Go.Sp.Fn) (k:Nat) (hl:l.length<=1099511627776) (hb:k+bN wF l<=1099511627776) :
  GF prog 56 [.sl 3 ((ew wF jn k l).map au),.v (ii (k:Nat))] [] (.v (ii ((k+bN wF l:Nat):Int))) []:=by
 have hm:((ew wF jn k l).map au).length=l.length:=by rw [bV,eQ]
 refine ah func56 ntmps56 ?_;refine GW.loop (fun i:Nat=>l.length - i) (fun i fr Γ=>∃ kk:Nat,kk=k+bN wF (l.take i)/\fr=[.sl 3 ((ew wF jn k l).map au),.v (ii (kk:Nat)),U,U,U,.v (ii (i:Nat)),U,U,U,U,U,U,U,U,U,U,U,U,U,U,U,U,U,U,U,U,U,U,U,U,U,U,U,U,U,U,U,U,U,U,U]/\Γ=[]/\i<=l.length) 0 ?_ ?_
 ·exact zc8
 rintro i _ _ ⟨kk,gy,rfl,rfl,hi⟩
 by_cases aj:i < l.length
 ·have hd:decide ((i:Int) < (((ew wF jn k l).map au).length:Int))=true:=by rw [hm];simpa using aj
  obtain ⟨f,hf⟩:∃ f,l[i]?=some f:=⟨l[i],by simp [aj]⟩;have PC:=rG (w:=wF) hf;have hle:=uZ (w:=wF) l (i+1);have PD:wF f=2+f.params.length:=rfl
  have hr:((ew wF jn k l).map au)[i]?=some [.v (sv (nD kk)),.sl 1 (marks (kk+1) f.params.length),.v (ii ((kk+1+f.params.length:Nat):Int))]:=by rw [aS,xG k hf,<-gy,yD];rfl
  have hc:=mA kk G;have hH:=zb (kk+1) f.params.length G;generalize nD kk=x at *;generalize (ew wF jn k l).map au=S at *;generalize marks (kk+1) f.params.length=S2 at *
  have hs:(!(x==x))=false:=by simp
  have dW:decide (((kk+1+f.params.length:Nat):Int) < 0)=false:=decide_eq_false G
  have kz:(((kk+1+f.params.length:Nat):Int) != ((kk+1+f.params.length:Nat):Int))=false:=by simp
  refine zb3 ?_;refine V [] hH ?_;exact ⟨i+1,⟨_,_,Wk.aC ak,kk+1+f.params.length+1,by omega,rfl,rfl,aj⟩,by show l.length - (i+1) < l.length - i;omega⟩
 ·have hd:decide ((i:Int) < (((ew wF jn k l).map au).length:Int))=false:=by rw [hm];simpa using aj
  have eZ:i=l.length:=by omega
  subst eZ;exact zdR
theorem JK (l:List Nd) (fs:List Value) (iG:fs.length=l.length) (Uj:∀ (i:Nat) x y,l[i]?=some x->fs[i]?=some y->Hd x.kids.length y) (a:Option Addr) (c k:Nat) (hl:l.length<=1099511627776) (hb:k+bN wN l<=1099511627776) :
  GC prog 53 [.v (.slice a l.length c),.v (ii (k:Nat))] (.vech 62 5 (List.zipWith dc l fs) (.slice a l.length c)::List.zipWith dB l fs) fun g Δ=>g=.v (ii ((k+bN wN l:Nat):Int))/\Δ=.vech 62 5 (List.zipWith dc (ew wN jK k l) fs) (.slice a l.length c)::List.zipWith dB (ew wN jK k l) fs:=by
 have Uo:(Ob.vech 62 5 (List.zipWith dc l fs) (.slice a l.length c)::List.zipWith dB l fs).length=l.length+1:=by simp [iG]
 refine c8 func53 ntmps53 ?_;rw [Uo];refine D ?_;refine GW.loop (fun i:Nat=>l.length - i) (fun i fr Γ=>∃ kk:Nat,kk=k+bN wN (l.take i)/\fr=[.v (.slice a l.length c),.v (ii (kk:Nat)),U,U,U,.v (ii (i:Nat)),U,U,U,U,U,U,U,U,U,U,U,U,U,U,U,U,U,U,U,U,U,U,U,U,U,U,U,U,U,U,U,U,U,U,U,U,U,U,U,U,U,U,U]/\Γ=.vech 62 5 (List.zipWith dc (fq wN jK k l i) fs) (.slice a l.length c)::List.zipWith dB (fq wN jK k l i) fs/\i<=l.length) 0 ?_ ?_
 ·exact zcJ
 rintro i _ _ ⟨kk,gy,rfl,rfl,hi⟩
 by_cases aj:i < l.length
 ·have hd:decide ((i:Int) < (l.length:Int))=true:=by simpa using aj
  obtain ⟨f,hf⟩:∃ f,l[i]?=some f:=⟨l[i],by simp [aj]⟩;have ow:fs[i]?=some (fs[i]'G):=dq _;obtain ⟨a1,c1,e1⟩:=Uj i _ _ hf ow;generalize fs[i]'G=y at *;subst e1;have PC:=rG (w:=wN) hf;have hle:=uZ (w:=wN) l (i+1);have PD:wN f=4+f.kids.length:=rfl;have cq:=CB (w:=wN) (mk:=jK) (k:=k) hf;rw [<-gy] at cq;have hc:=mA (kk+1+1+1) G;have fk:=MZ a1 c1 f.kids.length (kk+1+1+1+1) (bQ f.kids) (Sq _) G;rw [Dz] at fk;have O9:=CA (w:=wN) (mk:=jK) k l i;have hr:(List.zipWith dc (fq wN jK k l i) fs)[i]?=some [.v (ii f.kind),.v (ii f.at_),.v (ii f.n),.v (sv f.s),.v (.slice a1 f.kids.length c1)]:=uj (xF hf) ow;have hk:(List.zipWith dB (fq wN jK k l i) fs)[i]?=some (.vech 3 1 (bQ f.kids) (.slice a1 f.kids.length c1)):=uj (xF hf) ow
  have fY:(List.zipWith dc (fq wN jK k l i) fs).length=l.length:=by rw [mJ];omega
  have Xz:(List.zipWith dB (fq wN jK k l i) fs).length=l.length:=by rw [mJ];omega
  have Pb:(List.zipWith dc (fq wN jK k l i) fs).set i [.v (ii (kk:Nat)),.v (ii ((kk+1:Nat):Int)),.v (ii ((kk+1+1:Nat):Int)),.v (sv (nD (kk+1+1+1))),.v (.slice a1 f.kids.length c1)]=List.zipWith dc (fq wN jK k l (i+1)) fs:=by rw [<-cq,<-x8 ow];rfl
  have XA:oset (List.zipWith dB (fq wN jK k l i) fs) i (.vech 3 1 (bQ (Ic (kk+1+1+1+1) f.kids.length)) (.slice a1 f.kids.length c1))=List.zipWith dB (fq wN jK k l (i+1)) fs:=by rw [bg,<-cq,<-x8 ow];rfl
  generalize List.zipWith dc (fq wN jK k l i) fs=R at *;generalize List.zipWith dB (fq wN jK k l i) fs=O at *;generalize nD (kk+1+1+1)=x at *;have jj:=rB (o:=0) (g:=.v (ii (kk:Nat))) hr;simp only [bp] at jj;have eh:=rB (o:=1) (g:=.v (ii ((kk+1:Nat):Int))) jj;simp only [bp] at eh;have Us:=rB (o:=2) (g:=.v (ii ((kk+1+1:Nat):Int))) eh;simp only [bp] at Us;have hr4:=rB (o:=3) (g:=.v (sv x)) Us;simp only [bp] at hr4
  have fK:(eL R i (0+0) (.v (ii (kk:Nat)))).length=l.length:=by rw [jo];exact fY
  have gM:(eL (eL R i (0+0) (.v (ii (kk:Nat)))) i (0+1) (.v (ii ((kk+1:Nat):Int)))).length=l.length:=by rw [jo];exact fK
  have XV:(eL (eL (eL R i (0+0) (.v (ii (kk:Nat)))) i (0+1) (.v (ii ((kk+1:Nat):Int)))) i (0+2) (.v (ii ((kk+1+1:Nat):Int)))).length=l.length:=by rw [jo];exact gM
  have hl4:(eL (eL (eL (eL R i (0+0) (.v (ii (kk:Nat)))) i (0+1) (.v (ii ((kk+1:Nat):Int)))) i (0+2) (.v (ii ((kk+1+1:Nat):Int)))) i (0+3) (.v (sv x))).length=l.length:=by rw [jo];exact XV
  refine zcy ?_;refine oE ?_;refine zcy ?_;refine zcX ?_;refine D ?_;refine ⟨i+1,⟨_,_,Wk.aC ak,kk+1+1+1+1+f.kids.length,by omega,rfl,?_,aj⟩,by show l.length - (i+1) < l.length - i;omega⟩;rw [<-Pb,<-XA,pG (o:=0+3) Us,pG (o:=0+2) eh,pG (o:=0+1) jj,pG hr];simp only [set_set];rfl
 ·have hd:decide ((i:Int) < (l.length:Int))=false:=by simpa using aj
  have eZ:i=l.length:=by omega
  subst eZ;rw [Cz];rw [bH] at gy;subst gy;refine zbA ?_;refine jc ?_;refine Mq rfl cJ rfl (by simp [eQ,iG]) ?_ ⟨rfl,rfl⟩;intro x hx
  rcases dw hx with rfl | hx
  ·rfl
  ·exact zb1
theorem Jw (l:List Nd) (k:Nat) (hl:l.length<=1099511627776) (hb:k+bN wN l<=1099511627776) :
  GF prog 57 [.sl 5 ((ew wN jK k l).map ay),.v (ii (k:Nat))] [] (.v (ii ((k+bN wN l:Nat):Int))) []:=by
 have hm:((ew wN jK k l).map ay).length=l.length:=by rw [bV,eQ]
 refine ah func57 ntmps57 ?_;refine GW.loop (fun i:Nat=>l.length - i) (fun i fr Γ=>∃ kk:Nat,kk=k+bN wN (l.take i)/\fr=[.sl 5 ((ew wN jK k l).map ay),.v (ii (kk:Nat)),U,U,U,.v (ii (i:Nat)),U,U,U,U,U,U,U,U,U,U,U,U,U,U,U,U,U,U,U,U,U,U,U,U,U,U,U,U,U,U,U,U,U,U,U,U,U,U,U,U,U,U,U,U,U,U,U,U,U,U,U,U,U]/\Γ=[]/\i<=l.length) 0 ?_ ?_
 ·exact zc8
 rintro i _ _ ⟨kk,gy,rfl,rfl,hi⟩
 by_cases aj:i < l.length
 ·have hd:decide ((i:Int) < (((ew wN jK k l).map ay).length:Int))=true:=by rw [hm];simpa using aj
  obtain ⟨f,hf⟩:∃ f,l[i]?=some f:=⟨l[i],by simp [aj]⟩;have PC:=rG (w:=wN) hf;have hle:=uZ (w:=wN) l (i+1);have PD:wN f=4+f.kids.length:=rfl
  have hr:((ew wN jK k l).map ay)[i]?=some [.v (ii (kk:Nat)),.v (ii ((kk+1:Nat):Int)),.v (ii ((kk+1+1:Nat):Int)),.v (sv (nD (kk+1+1+1))),.sl 1 (jm (kk+1+1+1+1) f.kids.length)]:=by rw [aS,xG k hf,<-gy,Dz];rfl
  have hc:=mA (kk+1+1+1) G;have hH:=Mw (kk+1+1+1+1) f.kids.length G;generalize nD (kk+1+1+1)=x at *;generalize (ew wN jK k l).map ay=S at *;generalize jm (kk+1+1+1+1) f.kids.length=S2 at *
  have hs:(!(x==x))=false:=by simp
  have iI:(((kk:Nat):Int) != ((kk:Nat):Int))=false:=by simp
  have kz:(((kk+1:Nat):Int) != ((kk+1:Nat):Int))=false:=by simp
  have uF:(((kk+1+1:Nat):Int) != ((kk+1+1:Nat):Int))=false:=by simp
  have dW:decide (((kk+1+1+1+1+f.kids.length:Nat):Int) < 0)=false:=decide_eq_false G;refine zb3 ?_;refine V [] hH ?_;exact ⟨i+1,⟨_,_,Wk.aC ak,kk+1+1+1+1+f.kids.length,by omega,rfl,rfl,aj⟩,by show l.length - (i+1) < l.length - i;omega⟩
 ·have hd:decide ((i:Int) < (((ew wN jK k l).map ay).length:Int))=false:=by rw [hm];simpa using aj
  have eZ:i=l.length:=by omega
  subst eZ;exact zdR
end Go.Xg
namespace Go.Im
open Go.Xp Go.Sp
theorem yX {α:Type} {w:α->Nat}:∀ l:List α,bN w l=bj w l
 | []=>rfl
 | x::l=>by
  have:=yX (w:=w) l;unfold bN at *;rw [List.map_cons,List.sum_cons,this];rfl
theorem LR (p:Src):tu p<=4 * eo p:=by
 have I:=DP p.globals
 have M:bN wA p.arrays<=2 * bj (fun a:Ar=>a.name.length+1) p.arrays:=by rw [yX];exact oa fun a _=>by show 2<=_;omega
 have h3:bN wF p.fns<=2 * bj (fun f:Go.Sp.Fn=>f.name.length+wS f.params+1) p.fns:=by rw [yX];exact oa fun f _=>by have:=DP f.params;show 2+f.params.length<=_;omega
 have h4:bN wN p.nodes<=4 * bj (fun n:Nd=>n.s.length+n.kids.length+1) p.nodes:=by rw [yX];exact oa fun n _=>by show 4+n.kids.length<=_;omega
 unfold tu eo;omega
def K7 (x y:Int):Bool:=decide (x<=y)
structure Cpt (d:Array Int) (m:Nat):Prop where
 rise:ep (Go.Lib.compactUpTo d m)
 le:∀ x∈Go.Lib.compactUpTo d m,0 < m/\x<=d[m - 1]!
 mem:∀ x,x∈Go.Lib.compactUpTo d m↔∃ i,i < m/\d[i]! = x
 len:(Go.Lib.compactUpTo d m).length<=m
theorem Vn {d:Array Int} {n:Nat} (hs:∀ i,i+1 < n->d[i]! <= d[i+1]!):∀ m,m<=n->Cpt d m:=by
 intro m
 induction m with
 | zero=>intro _;exact ⟨List.Pairwise.nil,fun x hx=>(by cases hx),fun x=>(by simp [Go.Lib.compactUpTo]),aD _⟩
 | succ m ih =>
  intro hm;obtain ⟨I,M,h3,h4⟩:=ih zfO;have e:=Go.Lib.compactUpTo_succ d m
  by_cases hk:Go.Lib.keeps d m=true
  ·rw [ab hk] at e
   have aj:∀ x∈Go.Lib.compactUpTo d m,x < d[m]! := fun x hx=>by
    obtain ⟨h5,h6⟩:=M x hx;have h7:=hs (m - 1) zfO;rw [Nat.sub_add_cancel h5] at h7
    have:d[m]! ≠ d[m - 1]! := by
     unfold Go.Lib.keeps at hk;simp only [decide_eq_true_eq] at hk
     rcases hk with h | h
     ·omega
     ·exact h
    omega
   refine ⟨?_,fun x hx=>?_,fun x=>?_,?_⟩
   ·rw [e];unfold ep at *;rw [List.pairwise_append];exact ⟨I,by simp,fun a ha b hb=>by rw [mem_singleton] at hb;rw [hb];exact aj a ha⟩
   ·rw [e,mem_append,mem_singleton] at hx;rw [Nat.add_sub_cancel]
    rcases hx with h | h
    ·have:=aj x h;omega
    ·omega
   ·rw [e,mem_append,mem_singleton,h3];constructor
    ·rintro (⟨i,hi,hx⟩ | hx)
     ·exact ⟨i,by omega,hx⟩
     ·exact ⟨m,by omega,hx.symm⟩
    ·rintro ⟨i,hi,hx⟩
     by_cases him:i=m
     ·subst him;exact .inr hx.symm
     ·exact .inl ⟨i,by omega,hx⟩
   ·rw [e,aM];simp;omega
  ·rw [F hk,bO] at e
   have Uo:0 < m:=by
    rcases Nat.eq_zero_or_pos m with h | h
    ·subst h;exact absurd (by simp [Go.Lib.keeps]) hk
    ·exact h
   have heq:d[m]! = d[m - 1]! := by
    unfold Go.Lib.keeps at hk;simp only [decide_eq_true_eq,not_or] at hk;exact Decidable.not_not.1 hk.2
   refine ⟨by rw [e];exact I,fun x hx=>?_,fun x=>?_,by rw [e];omega⟩
   ·rw [e] at hx;rw [Nat.add_sub_cancel,heq];exact ⟨by omega,(M x hx).2⟩
   ·rw [e,h3];constructor
    ·rintro ⟨i,hi,hx⟩;exact ⟨i,by omega,hx⟩
    ·rintro ⟨i,hi,hx⟩
     by_cases him:i=m
     ·subst him;exact ⟨i - 1,by omega,by rw [<-heq];exact hx⟩
     ·exact ⟨i,by omega,hx⟩
def jU (l:List Int):List Int:=l.mergeSort K7
theorem Av (l:List Int):(jU l).Perm l:=List.mergeSort_perm l K7
theorem qY (l:List Int):(jU l).length=l.length:=(Av l).length_eq
theorem yU {l:List Int} {x:Int}:x∈jU l↔x∈l:=(Av l).mem_iff
theorem BS (l:List Int):(jU l).Pairwise (·<=·):=by
 have:=List.pairwise_mergeSort (le:=K7) (fun a b c I M=>by unfold K7 at *;simp at *;omega) (fun a b=>by unfold K7;simp;omega) l
 exact this.imp fun {a b} h=>by unfold K7 at h;simpa using h
theorem WY (l:List Int):Go.Lib.compact (jU l)=qH l/\(Go.Lib.compact (jU l)).length<=(jU l).length:=by
 have hs:=BS l
 have hg:∀ i,i < (jU l).length->∃ x,(jU l)[i]?=some x/\(jU l).toArray[i]! = x:=fun i hi=>⟨(jU l)[i],dq _,by simp [getElem!_pos,hi]⟩
 have h:=Vn (d:=(jU l).toArray) (n:=(jU l).length) (fun i hi=>by
  rw [List.pairwise_iff_getElem] at hs;have:=hs i (i+1) zfO hi zfO
  simpa [getElem!_pos,hi,show i < (jU l).length by omega] using this) _ (aD _)
 refine ⟨yP h.rise (uu l) fun x=>?_,h.len⟩;unfold Go.Lib.compact;rw [h.mem,yO];constructor
 ·rintro ⟨i,hi,hx⟩;obtain ⟨y,hy,he⟩:=hg i hi;rw [he] at hx;subst hx;exact yU.1 (br hy)
 ·intro hx;obtain ⟨i,hi⟩:=List.getElem?_of_mem (yU.2 hx);have aj:=(bq hi).1;obtain ⟨y,hy,he⟩:=hg i aj;rw [hi] at hy;cases hy;exact ⟨i,aj,he⟩
theorem Vj (p:Src) (s:List Int) (a:Nat) (t:T) (ls:List ae):(gE p s a t ls).length<=s.length+1:=by
 unfold gE;rw [aM];have:=D6 p t.n;omega
end Go.Im
namespace Go.Xg
open Go.RowKit Go.Xw Go.Proofs Tryz Go.Im
open Go.Xp (Nd Ar)
open Go.Sp (Src)
attribute [local irreducible] GW GL GO YG GC GA aW aZ
theorem sO.mk' {p:Src} {hg ha hf hn:Value} {fs ns:List Value} (H:sO p hg ha hf hn fs ns) (k:Nat):sO (oT k p) hg ha hf hn fs ns:=by
 obtain ⟨I,M,h3,h4,h5,h6,h7,h8⟩:=H;refine ⟨by show Hd (Ah _ _).length _;rw [Lg];exact I,by show Hd (ew _ _ _ _).length _;rw [eQ];exact M,by show Hd (ew _ _ _ _).length _;rw [eQ];exact h3,by show Hd (ew _ _ _ _).length _;rw [eQ];exact h4,by show _=(ew _ _ _ _).length;rw [eQ];exact h5,by show _=(ew _ _ _ _).length;rw [eQ];exact h6,fun i x y e1 e2=>?_,fun i x y e1 e2=>?_⟩
 ·have hi:=(bq e1).1;have hi:i < (ew wF jn (k+p.globals.length+bN wA p.arrays) p.fns).length:=hi;rw [eQ] at hi;have hx:p.fns[i]?=some p.fns[i]:=dq hi;have e1:(ew wF jn (k+p.globals.length+bN wA p.arrays) p.fns)[i]?=some x:=e1;rw [xG _ hx] at e1;cases e1;show Hd (Ah _ _).length y;rw [Lg];exact h7 i _ y hx e2
 ·have hi:=(bq e1).1;have hi:i < (ew wN jK (k+p.globals.length+bN wA p.arrays+bN wF p.fns) p.nodes).length:=hi;rw [eQ] at hi;have hx:p.nodes[i]?=some p.nodes[i]:=dq hi;have e1:(ew wN jK (k+p.globals.length+bN wA p.arrays+bN wF p.fns) p.nodes)[i]?=some x:=e1;rw [xG _ hx] at e1;cases e1;show Hd (Ic _ _).length y;rw [VW];exact h8 i _ y hx e2
theorem rD {p:Src} {hg ha hf hn:Value} {fs ns:List Value} (H:sO p hg ha hf hn fs ns):(iz p hg ha hf hn fs ns).length=p.fns.length+p.nodes.length+4:=by
 have h5:=H.fl;have h6:=H.nl;simp [iz,h5,h6];omega
theorem Af (p:Src) (hg ha hf hn:Value) (fs ns:List Value) (H:sO p hg ha hf hn fs ns) (k:Nat) (I:p.globals.length<=1048576) (M:p.arrays.length<=1048576) (h3:p.fns.length<=1048576) (h4:p.nodes.length<=1048576) (hb:k+tu p<=1099511627776) :
  GC prog 11 [.agg [.v hg,.v ha,.v hf,.v hn],.v (ii (k:Nat))] (iz p hg ha hf hn fs ns) fun g Δ=>g=.v (ii ((k+tu p:Nat):Int))/\Δ=iz (oT k p) hg ha hf hn fs ns:=by
 have hSl:=rD H;have XF:=rD (H.mk' k);have XD:=na p hg ha hf hn fs ns;have XE:=na (oT k p) hg ha hf hn fs ns;have zO:(oT k p).fns.length=p.fns.length:=eQ _ _;have fm:(oT k p).nodes.length=p.nodes.length:=eQ _ _
 have hc4:p.fns.length+p.nodes.length+4=(oT k p).fns.length+(oT k p).nodes.length+4:=by rw [zO,fm]
 obtain ⟨⟨a0,c0,rfl⟩,⟨a1,c1,rfl⟩,⟨a2,c2,rfl⟩,⟨a3,c3,rfl⟩,iG,py,hfh,hnh⟩:=H;unfold tu at hb |-;have e0:=zf a0 c0 p.globals.length k (bb p.globals) (kT _) G;have e1:=Ia p.arrays a1 c1 (k+p.globals.length) G G;have e2:=Qc p.fns fs iG hfh a2 c2 (k+p.globals.length+bN wA p.arrays) G G;have e3:=JK p.nodes ns py hnh a3 c3 (k+p.globals.length+bN wA p.arrays+bN wF p.fns) G G;rw [yD] at e0;rw [show k+p.globals.length+bN wA p.arrays+bN wF p.fns+bN wN p.nodes=k+(p.globals.length+bN wA p.arrays+bN wF p.fns+bN wN p.nodes) by omega] at e3
 have Uy:∀ x∈(Ob.vech 58 3 (List.zipWith gB p.fns fs) (.slice a2 p.fns.length c2)::List.zipWith gA p.fns fs),x.iJ=true:=fun x hx=>by
  rcases dw hx with rfl | hx
  ·rfl
  ·exact zb1
 have PG:∀ x∈(Ob.vech 62 5 (List.zipWith dc p.nodes ns) (.slice a3 p.nodes.length c3)::List.zipWith dB p.nodes ns),x.iJ=true:=fun x hx=>by
  rcases dw hx with rfl | hx
  ·rfl
  ·exact zb1
 generalize hm:(iz p (.slice a0 p.globals.length c0) (.slice a1 p.arrays.length c1) (.slice a2 p.fns.length c2) (.slice a3 p.nodes.length c3) fs ns).length=acL at *;unfold iz at XE XF |-;refine c8 func11 ntmps11 ?_;have rn:=hm;unfold iz at rn;rw [rn];refine zaw ?_;refine GL.uS [] [_] _ e0 rfl (by intro x hx;rw [oO hx];rfl) (fun _=>rfl) (mI) ?_;rintro _ _ ⟨rfl,rfl⟩;refine ⟨rfl,by intro x hx;rw [oO hx];rfl,fun _=>rfl,?_⟩;refine zaW ?_;refine GL.uS [_] [_] _ e1 rfl (by intro x hx;rw [oO hx];rfl) (fun _=>rfl) (mI) ?_;rintro _ _ ⟨rfl,rfl⟩;refine ⟨rfl,by intro x hx;rw [oO hx];rfl,fun _=>rfl,?_⟩;refine zaW ?_;refine GL.uS [_,_] (_::List.zipWith gA p.fns fs) (_::List.zipWith dB p.nodes ns) e2 rfl Uy (fun _=>rfl) (mI) ?_;rintro _ _ ⟨rfl,rfl⟩;refine ⟨by simp [eQ,iG],by intro x hx;rcases dw hx with rfl | hx;(· rfl);exact kV (fun _ _=>rfl) x hx,fun _=>rfl,?_⟩;refine zaW ?_;refine GL.uS (_::_::_::List.zipWith gA (ew wF jn (k+p.globals.length+bN wA p.arrays) p.fns) fs) (_::List.zipWith dB p.nodes ns) [] e3 (by rw [bO];rfl) PG (fun _=>rfl) (mI) ?_;rintro _ _ ⟨rfl,rfl⟩;refine ⟨by simp [eQ,py],by intro x hx;rcases dw hx with rfl | hx;(· rfl);exact kV (fun _ _=>rfl) x hx,fun _=>rfl,?_⟩;rw [bO];refine zaW ?_;refine jc ?_;exact Mq rfl cJ rfl (hSl.trans (hc4.trans XF.symm)) XE ⟨rfl,rfl⟩
theorem Hy (p:Src) (k:Nat) (I:p.globals.length<=1048576) (M:p.arrays.length<=1048576) (h3:p.fns.length<=1048576) (h4:p.nodes.length<=1048576) (hb:k+tu p<=1099511627776) :
  GF prog 12 [.agg (ar (oT k p)),.v (ii (k:Nat))] [] (.v (ii ((k+tu p:Nat):Int))) []:=by
 unfold tu at hb |-;have e0:=zb k p.globals.length G;have e1:=Hx p.arrays (k+p.globals.length) G G;have e2:=Pj p.fns (k+p.globals.length+bN wA p.arrays) G G;have e3:=Jw p.nodes (k+p.globals.length+bN wA p.arrays+bN wF p.fns) G G;rw [yD] at e0;rw [show k+p.globals.length+bN wA p.arrays+bN wF p.fns+bN wN p.nodes=k+(p.globals.length+bN wA p.arrays+bN wF p.fns+bN wN p.nodes) by omega] at e3;have d0:decide (((k+p.globals.length:Nat):Int) < 0)=false:=decide_eq_false G;have d1:decide (((k+p.globals.length+bN wA p.arrays:Nat):Int) < 0)=false:=decide_eq_false G;have d2:decide (((k+p.globals.length+bN wA p.arrays+bN wF p.fns:Nat):Int) < 0)=false:=decide_eq_false G;have d3:decide (((k+(p.globals.length+bN wA p.arrays+bN wF p.fns+bN wN p.nodes):Nat):Int) < 0)=false:=decide_eq_false G;have hE:ar (oT k p)=[.sl 1 (bb (Ah k p.globals.length)),.sl 2 ((ew wA oM (k+p.globals.length) p.arrays).map aB),.sl 3 ((ew wF jn (k+p.globals.length+bN wA p.arrays) p.fns).map au),.sl 5 ((ew wN jK (k+p.globals.length+bN wA p.arrays+bN wF p.fns) p.nodes).map ay)]:=rfl;rw [hE];generalize bb (Ah k p.globals.length)=X0 at *;generalize (ew wA oM (k+p.globals.length) p.arrays).map aB=X1 at *;generalize (ew wF jn (k+p.globals.length+bN wA p.arrays) p.fns).map au=X2 at *;generalize (ew wN jK (k+p.globals.length+bN wA p.arrays+bN wF p.fns) p.nodes).map ay=X3 at *;refine c8 func12 ntmps12 ?_;refine zaw ?_;refine V [] e0 ?_;refine V [] e1 ?_;refine V [] e2 ?_;refine V [] e3 ?_;exact al
theorem LY {α:Type} {f:α->Value->Ob} (hf:∀ a h,Ob.plain (f a h)) {l:List α} {hs:List Value}:∀ x∈List.zipWith f l hs,Ob.plain x:=fun x hx=>by
 obtain ⟨i,hi⟩:=List.getElem?_of_mem hx;rw [getElem?_zipWith] at hi;split at hi
 ·cases hi;exact hf _ _
 ·cases hi
theorem LZ {α:Type} {f:α->Value->List GV} (hf:∀ a h,∀ g∈f a h,∃ x,g=.v x) {l:List α} {hs:List Value}:∀ r∈List.zipWith f l hs,∀ g∈r,∃ x,g=.v x:=fun r hr=>by
 obtain ⟨i,hi⟩:=List.getElem?_of_mem hr;rw [getElem?_zipWith] at hi;split at hi
 ·cases hi;exact hf _ _
 ·cases hi
theorem Nq {p:Src} {hg ha hf hn:Value} {fs ns:List Value}:∀ o∈iz p hg ha hf hn fs ns,Ob.plain o:=fun o ho=>by
 have zs:∀ l:List Go.Xp.ae,∀ r∈bb l,∀ g∈r,∃ x,g=.v x:=fun l r hr g hg=>by
  unfold bb at hr;obtain ⟨x,_,rfl⟩:=oX.1 hr;rw [oO hg];exact zea
 have zi:∀ l:List Int,∀ r∈bQ l,∀ g∈r,∃ x,g=.v x:=fun l r hr g hg=>by
  unfold bQ at hr;obtain ⟨x,_,rfl⟩:=oX.1 hr;rw [oO hg];exact zea
 unfold iz at ho;simp only [List.mem_cons,mem_append] at ho
 rcases ho with rfl | rfl | rfl | ho | rfl | ho
 ·exact fun r hr g hg=>zs _ r hr g hg
 ·intro r hr g hg;obtain ⟨x,_,rfl⟩:=oX.1 hr;simp only [aB,List.mem_cons,not_mem_nil,or_false] at hg
  rcases hg with rfl | rfl <;> exact ⟨_,rfl⟩
 ·exact fun r hr g hg=>LZ (fun a h g hg=>by
   simp only [gB,List.mem_cons,not_mem_nil,or_false] at hg
   rcases hg with rfl | rfl | rfl <;> exact ⟨_,rfl⟩) r hr g hg
 ·exact LY (f:=gA) (fun a h r hr g hg=>zs _ r hr g hg) o ho
 ·exact fun r hr g hg=>LZ (fun a h g hg=>by
   simp only [dc,List.mem_cons,not_mem_nil,or_false] at hg
   rcases hg with rfl | rfl | rfl | rfl | rfl <;> exact ⟨_,rfl⟩) r hr g hg
 ·exact LY (f:=dB) (fun a h r hr g hg=>zi _ r hr g hg) o ho
section
variable {B:Bs} {K:Fz} {β:Bt} {w:World} {fr:List GV} {l:List Value} {A C:List Ob} {p:Src} {hg ha hf hn:Value} {fs ns:List Value}
end
end Go.Xg
namespace Go.Xg
open Go.RowKit Go.Xw Go.Proofs
theorem YG.YH {P:Program} {fr:List GV} {Γ:List Ob} {x y:Operand} {t t':TypeId} {a b:Bool} (ht:P.underlying t=some .bool) (hx:be fr x=.v (.bool a)) (hy:be fr y=.v (.bool b)):YG P (.binOp .neq t x y t') fr Γ (.v (.bool (!(a==b)))) :=
 YG.v2 hx hy fun l w h k=>fun d ty pos af=>by
  have e:(Op.equal t (.bool a) (.bool b)).run P w=.ok (a==b) w:=run_equalIn_bool w 9999 t a b ht;simp [execOp,eqGuard,h,k,binOp,e]
open Tryz Go.Im
section
variable {P:Program} {m:Nat} {fr:List GV} {Γ:List Ob}
theorem Wk.keep {n j E k:Nat} {rows:List (List GV)} {x:Value} (hm:m<=n) (hnj:n<=j) (hl:xK n (Γ.take n)=true) (hlen:(Γ.take n).length=n) (bJ:Γ[j]?=some (.vech E k rows x)) :
  Wk m fr Γ (G2 n fr) (Γ.take n++[.vech E k rows x]):=fun B K β w l hB hI hF=>by
 have h:=hI.cut (n:=n) G hl;obtain ⟨xs,o1,o2,o3,o4,o5⟩:=hI.ob j _ bJ
 have Uh:∀ b,(Bk.gr x rows.length).blk=some b->(β j).blk=some b:=fun b hb=>by rw [o1];exact hb
 have R9:gi (below n) β n=.no:=tg (xc (aD n));have hold:dF (gi (below n) β) (gk (gi (below n) β) n (.gr x rows.length)):=jr (by rw [R9];trivial)
 have cZ:∀ b,(β j).blk=some b->∀ i,(gi (below n) β i).blk≠some b:=fun b hb i hi=>by
  by_cases eZ:i < n
  ·rw [im (uP eZ)] at hi;have:=hI.dis i j b hi hb;omega
  ·rw [tg (xc G)] at hi;cases hi
 refine ⟨K,gk (gi (below n) β) n (.gr x rows.length),?_,(hF.res).mono (cV.refl K) hold⟩;refine ⟨h.ext,h.kle,h.ble.trans hold,h.loc,h.fz,fun i z hi=>?_,fun i hi=>?_,fun i i' b hi hj=>?_,fun i b hi=>?_,h.kn,⟨h.tab.le,h.tab.pow,h.tab.spc,fun i b hi=>?_⟩⟩
 ·by_cases sG:i < n
  ·rw [eR G] at hi;exact zcY
  ·have:i=n:=by have:=(bq hi).1;rw [aM,hlen,length_singleton] at this;omega
   subst this;rw [fw G,hlen,jx] at hi;cases hi;refine ⟨xs,bG,o2,⟨o3.1,fun a v g I M=>(o3.2 a v g I M).pc ?_⟩,o4,o5⟩;obtain ⟨r,jj,eh⟩:=List.mem_flatten.1 (br M);exact (o4 r jj).2 g eh
 ·rw [aM,hlen,length_singleton] at hi;rw [b9 G];exact tg (xc G)
 ·by_cases I:i=n <;> by_cases M:i'=n
  ·omega
  ·subst I;rw [bG] at hi;rw [b9 M] at hj;exact absurd hj (cZ b (Uh b hi) i')
  ·subst M;rw [bG] at hj;rw [b9 I] at hi;exact absurd hi (cZ b (Uh b hj) i)
  ·rw [b9 I] at hi;rw [b9 M] at hj;exact h.dis i i' b hi hj
 ·rcases nS hi with I | I
  ·exact hI.own j b (Uh b I)
  ·exact h.own i b I
 ·rcases nS hi with I | I
  ·exact hI.tab.free j b (Uh b I)
  ·exact h.tab.free i b I
end
theorem Inv.renew {B:Bs} {K:Fz} {β:Bt} {Γ:List Ob} {w w':World} {i E k:Nat} {rows rows':List (List GV)} {x:Value} {xs:List Value} (h:Inv B K β Γ w) (hi:Γ[i]?=some (.vech E k rows x)) (hl:rows'.length=rows.length)
  (ho:jg w' 0 E k x rows'.length xs) (hr:bm K β xs rows'.flatten) (fo:gX k rows') (hx:Ext (fun b=>x.ownBlock=some b) w w'):Inv B K β (oset Γ i (.vech E k rows' x)) w':=by
 obtain ⟨xs0,I,M,h3,h4,h5⟩:=h.ob i _ hi
 have eT:∀ b,x.ownBlock=some b->(β i).blk=some b:=fun b hb=>by rw [I];exact hb
 rw [bg];refine ⟨h.ext.step hx (fun j hj=>(h.own i j (eT j hj)).symm),h.kle,h.ble,h.loc,h.fz.ext hx (fun b o g hg he=>by rw [h5 b he o] at hg;cases hg),fun j y hj=>?_,fun j hj=>h.out j zf4,h.dis,h.own,h.kn,h.tab.step hx (fun j hj=>⟨i,eT j hj⟩) (cV.refl K) (fun i b2 h=>.inl ⟨i,h⟩)⟩;rw [dN] at hj;split at hj
 ·rename_i gJ;split at hj
  ·cases hj;subst gJ
   exact ⟨xs,by rw [hl];exact I,ho,hr,fo,h5⟩
  ·cases hj
 ·rename_i gJ;exact (h.ob j y hj).ext hx (fun b hb he=>gJ (h.dis i j b (eT b he) hb)) (cV.refl K) (dF.refl β) rfl (fun _ _ _ h=>h)
theorem FD (l:List Int):(bQ l).flatten=l.map fun i=>GV.v (ii i):=by
 unfold bQ
 induction l with
 | nil=>rfl
 | cons a l ih=>rw [List.map_cons,List.flatten_cons,ih];rfl
theorem fQ (l:List Int):(bQ l).length=l.length:=by simp [bQ]
theorem KX (l:List Int):gX 1 (bQ l):=fun r hr=>by
 obtain ⟨i,_,rfl⟩:=oX.1 hr;exact ⟨rfl,fun g hg=>by rw [oO hg];rfl⟩
theorem F0 {K:Fz} {β:Bt} (l:List Int):bm K β (l.map (Value.int .i64)) ((bQ l).flatten):=by
 rw [FD];refine ⟨by simp,fun i v g I M=>?_⟩;rw [aS] at I M
 cases hl:l[i]? with
 | none=>rw [hl] at I;cases I
 | some z=>rw [hl] at I M;cases I;cases M;exact .v _
theorem zh {K:Fz} {β:Bt} {xs:List Value} {l:List Int} (h:bm K β xs ((bQ l).flatten)):xs=l.map (Value.int .i64):=by
 rw [FD] at h;apply List.ext_getElem?;intro i;rw [aS]
 cases hl:l[i]? with
 | none =>
  have:=h.1;rw [bV] at this;have M:=qo hl;rw [List.getElem?_eq_none G];rfl
 | some z =>
  obtain ⟨v,hv,hr⟩:=h.at (i:=i) (g:=.v (ii z)) (by rw [aS,hl];rfl);rw [hv,Rel.fF hr];rfl
theorem Kp {w:World} {g q:Nat} {d:Array Int} {os:Array Obj}:Ext (fun b=>b=g) w (Go.Sort.grow (Go.Sort.putRow (Value.int .i64) (Go.Sort.ahead w q) g 0 d) os):=by
 refine ⟨rfl,rfl,rfl,by simp [Go.Sort.grow,Go.Sort.putRow,Go.Sort.mapBlock,Go.Sort.ahead],fun k hk hn=>?_⟩;simp only [Go.Sort.grow,Go.Sort.putRow,Go.Sort.mapBlock,Go.Sort.ahead];rw [Array.getElem?_append_left zf8,Array.getElem?_modify,F G]
theorem UM {K:Fz} {β:Bt} {vs:List Value} {x:Value} (h:bm K β vs [.v x]):vs=[x]:=by
 match vs,h.1 with
 | [v],_=>rw [Rel.fF h.pL.1]
theorem NZ (zs:List Int) (E:TypeId) (a:Option Addr) (c:Nat) (hz:zs.length<=1099511627776) :
  GF prog 133 [.v (.slice a zs.length c)] [.vech E 1 (bQ zs) (.slice a zs.length c)] (.tup []) [.vech E 1 (bQ (jU zs)) (.slice a zs.length c)]:=fun B K β w vs hm hI hF=>by
 obtain rfl:=UM hF;obtain ⟨xs,I,M,h3,h4,h5⟩:=hI.ob 0 _ rfl;have rv:=zh h3;subst rv;rw [fQ] at M
 by_cases hn:(Value.slice a zs.length c)=.slice none 0 0
 ·injection hn with e1 e2 e3
  have HU:zs=[]:=gC e2;subst HU;subst e1;refine om.rA (Calls.mono (slices_Sort_int_none none c w) ?_);rintro e w' ⟨he,rfl⟩;exact ⟨_,he,K,β,.tup [],_,hI,.tup [] [] rfl (fun i v g h=>by simp at h),rfl,by rw [show jU []=[] by simp [jU]]⟩
 ·obtain ⟨g,cap,hv,pk,hgw,qB,y9,hzl,hH⟩:=Go.Lib.holds_of_ownsRow M hn
  injection hv with e1 e2 e3
  subst e1;subst e3;refine om.rA (Calls.mono (slices_Sort_int g 0 c zs w hH hgw G) ?_);rintro e w' ⟨he,n,os,rfl⟩;have gq:=Go.Lib.ownsRow_putRow (q:=n) (k:=zs.length) (ys:=jU zs) M (qY zs) (aD _);rw [jN (by rw [qY];exact aD _)] at gq;have MB:=Go.Lib.ownsRow_grow gq 0 os;refine ⟨_,he,K,β,.tup [],_,hI.renew (i:=0) rfl (rows':=bQ (jU zs)) (xs:=(jU zs).map (Value.int .i64)) (by rw [fQ,fQ,qY]) ?_ (F0 _) (KX _) ?_,.tup [] [] rfl (fun i v g h=>by simp at h),rfl,rfl⟩
  ·rw [fQ,qY];exact MB
  ·exact (Kp (w:=w) (g:=g) (q:=n) (d:=(jU zs).toArray) (os:=os)).mono fun b _ hb=>by rw [hb];rfl
theorem Tl {K:Fz} {β:Bt} {g n c k:Nat} {rows:List (List GV)} (h:Rel K β (.slice (some ⟨g,0,none⟩) n c) (.sl k rows)) (cn:rows≠[]) :
  ∀ (i:Nat) r,rows[i]?=some r->r.length=k/\∀ (j:Nat) gg,r[j]?=some gg->K g (0+i * k+j)=some gg:=by
 generalize hv:Value.slice (some ⟨g,0,none⟩) n c=v at h
 cases h with
 | sl0 a c k=>exact absurd rfl cn
 | sl b o c k rows h hc =>
  injection hv with e1 e2 e3
  injection e1 with e1
  injection e1 with e1 e4
  subst e1;subst e4;exact h
theorem NJ (zs:List Int) (E:TypeId) (a:Option Addr) (c:Nat) (hz:zs.length<=1099511627776) (Bz:(Go.Lib.compact zs).length<=zs.length) :
  GC prog 172 [.v (.slice a zs.length c)] [.vech E 1 (bQ zs) (.slice a zs.length c)] fun g Δ=>g=ints (Go.Lib.compact zs)/\∃ fz S,Δ=[.vec E 1 fz S]:=fun B K β w vs hm hI hF=>by
 obtain rfl:=UM hF;obtain ⟨xs,I,M,h3,h4,h5⟩:=hI.ob 0 _ rfl;have rv:=zh h3;subst rv;rw [fQ] at M
 by_cases HU:zs=[]
 ·subst HU;refine om.rA (Calls.mono (slices_Compact_int_empty a c w) ?_);rintro e w' ⟨he,rfl⟩;exact ⟨_,he,K,β,ints [],_,hI.AA (i:=0) rfl,.sl0 a c 1,rfl,_,_,rfl⟩
 ·have hn:(Value.slice a zs.length c)≠.slice none 0 0:=fun hn=>by
   injection hn with e1 e2 e3
   exact HU (gC e2)
  obtain ⟨g,cap,hv,pk,hgw,qB,y9,hzl,hH⟩:=Go.Lib.holds_of_ownsRow M hn
  injection hv with e1 e2 e3
  subst e1;subst e3;refine om.rA (Calls.mono (slices_Compact_int g 0 c zs w hH G qB) ?_);rintro e w' ⟨he,q,rfl⟩;generalize hcz:Go.Lib.compact zs=cz at *;generalize Ux:cz++List.replicate (zs.length - cz.length) (0:Int)=ys at *
  have HT:ys.length=zs.length:=by rw [<-Ux,aM,List.length_replicate];omega
  have gq:=Go.Lib.ownsRow_putRow (q:=q) (k:=zs.length) (ys:=ys) M HT (aD _);rw [jN G] at gq;have rj:=hI.renew (i:=0) rfl (rows':=bQ ys) (xs:=ys.map (Value.int .i64)) (w':=Go.Sort.putRow (Value.int .i64) (Go.Sort.ahead w q) g 0 ys.toArray) (by rw [fQ,fQ,HT]) (by rw [fQ,HT];exact gq) (F0 _) (KX _)
   (by
    have:=(Kp (w:=w) (g:=g) (q:=q) (d:=ys.toArray) (os:=#[]));rw [Go.Sort.grow_empty] at this
    exact this.mono fun b _ hb=>by rw [hb];rfl)
  obtain ⟨K',hK,hr,Xt⟩:=rj.tL (i:=0) rfl;refine ⟨_,he,K',β,ints cz,_,Xt,?_,rfl,_,_,rfl⟩
  have gM:zs.length=(bQ ys).length:=by rw [fQ,HT]
  rw [gM] at hr;have Hv:=Tl hr (fun e=>HU (gC (by rw [gM,e];rfl)))
  have Mv:cz.length=(cz.map fun i=>[GV.v (ii i)]).length:=by simp
  rw [Mv];refine .sl g 0 c 1 _ (fun i r h=>?_) (by rw [<-Mv];omega);refine Hv i r ?_;have hi:=(bq h).1;rw [bV] at hi;rw [<-Ux];unfold bQ;rw [kK,eR (by rw [bV];exact hi)];exact h
open Go.Xp (Nd T Ar aJ az)
open Go.Sp (Src)
attribute [local irreducible] GW GL GO YG GC GA aW aZ
theorem Wv (p:Src) (a:Nat) (n:Nd) (l:List T) (ls:List ae) (s:List Int) (E1:TypeId) (eb:Option Addr) (ec:Nat) (ad:Option Addr) (cp:Nat) (hn:p.nodes[a]?=some n) (kc:p.fns.length<=1099511627776) (hs:s.length<=1048576000) :
  GC prog 171 [.v (ii (a:Nat)),.v (.slice ad ls.length cp),.box (ar p) 0,.loc 0 0] [.box E1 [.v (.slice eb s.length ec)],.vech 3 1 (bQ s) (.slice eb s.length ec),.vech 9 1 (bb ls) (.slice ad ls.length cp)] fun g Δ=>g=.tup []/\∃ oo oq,
   Δ=[.box E1 [.v (.slice oo (gE p s a (.mk n l) ls).length oq)],.vech 3 1 (bQ (gE p s a (.mk n l) ls)) (.slice oo (gE p s a (.mk n l) ls).length oq),.vech 9 1 (bb ls) (.slice ad ls.length cp)]:=by
 have hr:=jS hn;have lF:=fQ s;have hA:=OM p n.s kc;have e0:dm (fun x:Go.Sp.Fn=>x.name==n.s) p.fns=pW p n.s:=rfl;rw [e0] at hA;have e:gE p s a (.mk n l) ls=s++(if n.kind=4/\0<=pW p n.s then [pW p n.s] else []):=rfl;rw [e];unfold ay at hr;generalize pW p n.s=z at *
 cases I:(n.kind==4) with
 | false =>
  rw [F (fun h=>by rw [h.1] at I;cases I),bO];exact zdD
 | true =>
  cases M:decide ((0:Int)<=z) with
  | false =>
   rw [F (fun h=>by have:=of_decide_eq_false M;exact this h.2),bO];exact zdD
  | true =>
   rw [ab ⟨by simpa using I,by simpa using M⟩];refine ah func171 ntmps171 ?_;refine zbz ?_;refine aI [] hA ?_;refine zal ?_;intro o0 o9;refine zaM ?_;refine cM ?_;exact ⟨rfl,o0,o9,by simp [bQ]⟩
open GV (U)
open Go.Xp (c6)
def I2 (p:Src):GV:=.fn (.func 171) [] [.box (ar p) 0,.loc 0 0]
def UW (p:Src):GV:=.fn (.func 97) [] [.loc 2 0,.loc 3 0,.box (ar p) 0,.loc 4 0]
def UN (E1:TypeId) (s:List Int) (eb:Option Addr) (ec:Nat):List Ob:=[.box E1 [.v (.slice eb s.length ec)],.vech 3 1 (bQ s) (.slice eb s.length ec)]
def FW (p:Src) (E1 E2 E3 E4:TypeId) (s:List Int) (ls:List ae) (ad:Option Addr) (cp:Nat) (eb:Option Addr) (ec:Nat):List Ob :=
 [.box E1 [.v (.slice eb s.length ec)],.vech 3 1 (bQ s) (.slice eb s.length ec),.box E2 [I2 p],.box E3 [.v (.slice ad ls.length cp)],.box E4 [UW p],.vech 9 1 (bb ls) (.slice ad ls.length cp)]
theorem TE (p:Src) (E1 E2 E3 E4:TypeId) (hp:p.nodes.length<=1048576) (fB:∀ n∈p.nodes,n.kids.length<=1099511627776) (kc:p.fns.length<=1099511627776):∀ (N:Nat) (t:T),aJ t<=N->∀ (a:Nat) (s:List Int) (ls:List ae) (ad:Option Addr) (cp:Nat) (eb:Option Addr) (ec:Nat),eC p.nodes a t->ls.length+aJ t<=8388608->s.length+aJ t<=8388608 ->
  GC prog 97 [.v (ii (a:Nat)),.loc 2 0,.loc 3 0,.box (ar p) 0,.loc 4 0] (FW p E1 E2 E3 E4 s ls ad cp eb ec) fun g Δ=>g=.tup []/\∃ lz lA oo oq,Δ=FW p E1 E2 E3 E4 (iF (gE p) t a s ls).1 (iF (gE p) t a s ls).2 lz lA oo oq:=by
 intro N
 induction N with
 | zero=>intro t h;exact zcN
 | succ N ih =>
 intro t hN a s ls ad cp eb ec bW iH rp
 cases t with
 | mk n l =>
 rw [Go.Xp.aJ] at hN iH rp;have Sh:=bW;rw [eC] at bW;obtain ⟨hn,hk,lF⟩:=bW;rw [iF];have hr:=jS hn;have po:=fB n (br hn);have ht:=Wv p a n l ls s E1 eb ec ad cp hn kc G;have abH:((gE p) s a (.mk n l) ls).length<=s.length+1:=Vj _ _ _ _ _;generalize iI:(gE p) s a (.mk n l) ls=s1 at *
 have wu:n.kids.length=l.length:=by rw [hk,c6]
 unfold ay at hr;unfold FW I2 UW;refine ah func97 ntmps97 ?_;refine GL.tF [0,1,5] ht rfl rfl rfl (by repeat (first | exact trivial | refine ⟨rfl,?_⟩)) ?_;rintro _ _ ⟨rfl,eb,ec,rfl⟩;refine zax ?_;refine GW.range (n.kids.map fun i=>[GV.v (ii i)]).length (fun k fr Γ=>∃ lz lA oo oq,fr=[.v (ii (a:Nat)),.loc 2 0,.loc 3 0,.box (ar p) 0,.loc 4 0,U,U,U,U,U,U,U,U,U,U,U,U,ints n.kids,.v (ii ((n.kids.map fun i=>[GV.v (ii i)]).length:Int)),.v (ii (k:Nat)),U,U,U,U,U,U,U,U,U,U,U,U,U,U,U,U,U,U,U,U,U,U,U]/\Γ=FW p E1 E2 E3 E4 (dI (gE p) (l.take k) (a+1) s1 ls).1 (dI (gE p) (l.take k) (a+1) s1 ls).2 lz lA oo oq) ?_ zgd ?_ ?_ ?_
 ·exact ⟨_,_,Wk.aC ak,ad,cp,eb,ec,rfl,rfl⟩
 ·rintro k _ _ ⟨ad,cp,eb,ec,rfl,rfl⟩;exact dp
 ·rintro k _ _ aj ⟨ad,cp,eb,ec,rfl,rfl⟩;rw [bV,wu] at aj;obtain ⟨u,hu⟩:∃ u,l[k]?=some u:=⟨l[k],by simp [aj]⟩;have gy:=wx (n:=a+1) hu;rw [<-hk] at gy;have uE:=kE gy;have cX:=lN hu;have Pz:eC p.nodes (a+1+az (l.take k)) u:=dX.ix l (a+1) k u lF hu
  have hlen:(dI (gE p) (l.take k) (a+1) s1 ls).2.length<=ls.length+az (l.take k):=by
   exact ze7
  have Gq:(dI (gE p) (l.take k) (a+1) s1 ls).1.length<=s1.length+az (l.take k):=by
   rw [G8,aM];have:=GZ p (l.take k);omega
  rw [B9 _ hu];generalize (dI (gE p) (l.take k) (a+1) s1 ls).1=s2 at *;generalize (dI (gE p) (l.take k) (a+1) s1 ls).2=jl at *;have hv:=ih u G (a+1+az (l.take k)) s2 jl ad cp eb ec Pz G G;unfold FW I2 UW at hv |-;refine D ?_;refine GL.tF [0,1,2,3,4,5] hv rfl rfl rfl (by repeat (first | exact trivial | refine ⟨rfl,?_⟩)) ?_;rintro _ _ ⟨rfl,lz,lA,oo,oq,rfl⟩;exact zeM
 ·rintro _ _ ⟨ad,cp,eb,ec,rfl,rfl⟩;rw [bV,wu,bH]
  have hlen:(dI (gE p) l (a+1) s1 ls).2.length<=ls.length+az l:=by
   rw [pe,aM];have:=lr l;omega
  generalize (dI (gE p) l (a+1) s1 ls).1=s2 at *;generalize (dI (gE p) l (a+1) s1 ls).2=jl at *;have KH:(bb jl).length=jl.length:=p9 jl;unfold FW I2 UW;refine aY ?_
  cases hv:(n.kind==13) with
  | false =>
   exact zdG
  | true =>
   refine zbG ?_;refine OA rfl rfl (GL.qP 5 (news:=[[.v (sv n.s)]]) rfl rfl rfl bc rfl rfl (by refine ⟨?_,?_⟩;(· show _+1<=_;omega);(· show (_+1) * _<=_;omega)) ?_);intro o0 o9;exact zeH
theorem Vo (p:Src) (E1:TypeId) (i:Nat) (f:Go.Sp.Fn) (t:T) (s:List Int) (eb:Option Addr) (ec:Nat) (hp:p.nodes.length<=1048576) (fB:∀ n∈p.nodes,n.kids.length<=1099511627776) (kc:p.fns.length<=1099511627776)
  (hf:p.fns[i]?=some f) (uq:f.params.length<=1048576) (hb:0<=f.body) (bW:eC p.nodes f.body.toNat t) (cX:aJ t<=1048576) (hs:s.length+aJ t<=8388608) :
  GC prog 44 [.agg (ar p),.v (ii (i:Nat)),I2 p] (UN E1 s eb ec) fun g Δ=>g=.tup []/\∃ oo oq,Δ=UN E1 (iF (gE p) t f.body.toNat s f.params).1 oo oq:=by
 have hr:(p.fns.map au)[i]?=some (au f):=by rw [aS,hf];rfl
 have cW:(f.params.map fun s=>[GV.v (sv s)]).length=f.params.length:=by simp
 have eW:=pC f.params;obtain ⟨b,wm⟩:∃ b:Nat,f.body=(b:Int):=⟨f.body.toNat,by omega⟩;rw [wm,lk] at bW |-;unfold au at hr;rw [wm] at hr;unfold I2 UN;refine c8 func44 ntmps44 ?_;refine za1 ?_;refine GL.vZ 4 rfl rfl rfl rfl eW (by refine ⟨?_,?_⟩;(· rw [cW];omega);(· rw [cW];omega)) ?_;intro ad cp;rw [cW];refine zaS ?_;refine GW.G6 (cy:=[U,.v (ii (i:Nat)),U,.box (ar p) 0,U,.loc 3 0,.loc 5 0,.loc 6 0,U,U,U,U,U,U,U,U,U,U,U,U,U,U,U,U]) (aR:=[.box E1 [.v (.slice eb s.length ec)],.vech 3 1 (bQ s) (.slice eb s.length ec),.gone,.box _ [.fn (.func 171) [] [.box (ar p) 0,.loc 0 0]],.vech 9 1 (bb f.params) (.slice ad f.params.length cp),.box _ [.v (.slice ad f.params.length cp)],.box _ [.fn (.func 97) [] [.loc 3 0,.loc 5 0,.box (ar p) 0,.loc 6 0]]]) ak rfl ?_;refine aL (aE 0 7 (.a 7 .nil)) ?_;refine ao ?_;have hv:=TE p E1;refine OA rfl rfl (GL.tF [0,1,3,5,6,4] (hv _ _ _ hp fB kc _ t (aD _) b s f.params ad cp eb ec bW G hs) rfl rfl rfl (by repeat (first | exact trivial | refine ⟨rfl,?_⟩)) ?_);rintro _ _ ⟨rfl,lz,lA,oo,oq,rfl⟩;refine ⟨by simp [FW],?_⟩;unfold FW;refine zbh ?_;refine cM ?_;exact ⟨rfl,oo,oq,rfl⟩
end Go.Xg
namespace Go.Im
open Go.Xp Go.Sp
def kW (p:Src) (l:List T) (x:Int):List Int:=match l[x.toNat]? with | some t=>cP p t | none=>[]
theorem Kd (p:Src) (l:List T) (x:Int):∀ y∈kW p l x,0<=y/\y < (p.fns.length:Int):=by
 intro y hy;unfold kW at hy;split at hy
 ·exact qt p _ y hy
 ·simp at hy
structure Trail (p:Src) (L:List Int):Prop where
 nodup:L.Nodup
 rng:∀ y∈L,0<=y/\y < (p.fns.length:Int)
theorem Trail.len {p:Src} {L:List Int} (h:Trail p L):L.length<=p.fns.length:=wG h.nodup h.rng
theorem Trail.add {p:Src} {L ks:List Int} (h:Trail p L) (hk:∀ y∈ks,0<=y/\y < (p.fns.length:Int)):Trail p (ff L ks) :=
 ⟨ya h.nodup,fun y hy=>by
  rcases qO.1 hy with I | I
  ·exact h.rng y I
  ·exact hk y I⟩
def o8 (p:Src) (l:List T) (L:List Int):List Int:=lU (kW p l) (p.fns.length+1) 0 L
theorem GR {cs:Int->List Int} {f i:Nat} {L:List Int} {x:Int} (h:L[i]?=some x):lU cs (f+1) i L=lU cs f (i+1) (ff L (cs x)):=by rw [lU,h]
theorem GS {cs:Int->List Int} {f i:Nat} {L:List Int} (h:L.length<=i):lU cs f i L=L:=by
 cases f with
 | zero=>rfl
 | succ f=>rw [lU,List.getElem?_eq_none h]
theorem D2 {p:Src} {l:List T}:∀ (f i:Nat) (L:List Int),Trail p L->Trail p (lU (kW p l) f i L)
 | 0,i,L,h=>h
 | f+1,i,L,h=>by
  rw [lU];split
  ·exact h
  ·exact D2 f (i+1) _ (h.add (Kd p l _))
def Ik (n:Nd) (ls:List ae):List ae:=if ((n.kind != 4&&n.kind != 13)&&!ls.contains n.s)=true then [n.s] else []
mutual
def BO:T->List ae->List ae
 | .mk n l,ls=>Ik n ls++se l ls
def se:List T->List ae->List ae
 | [],_=>[]
 | t::r,ls=>BO t ls++se r (ls++fa t)
end
def gK (s:List ae) (_:Nat) (t:T) (ls:List ae):List ae:=s++Ik t.n ls
theorem Lk (n:Nd) (ls:List ae):(Ik n ls).length<=1:=by unfold Ik;split <;> simp
theorem V1 (s:List ae) (a:Nat) (t:T) (ls:List ae):(gK s a t ls).length<=s.length+1:=by
 unfold gK;rw [aM];have:=Lk t.n ls;omega
mutual
theorem TW:∀ (t:T) (a:Nat) (s ls:List ae),(iF gK t a s ls).1=s++BO t ls
 | .mk n l,a,s,ls=>by
  rw [iF,BO];simp only;rw [G9 l];unfold gK;show s++Ik n ls++_=_;rw [de]
theorem G9:∀ (l:List T) (a:Nat) (s ls:List ae),(dI gK l a s ls).1=s++se l ls
 | [],a,s,ls=>by rw [dI,se,bO]
 | t::r,a,s,ls=>by rw [dI,G9 r,TW t,D9,se,de]
end
mutual
theorem Ll:∀ (t:T) (ls:List ae),(BO t ls).length<=aJ t
 | .mk n l,ls=>by
  have:=Lk n ls;have:=CC l ls;rw [BO,aM,aJ];omega
theorem CC:∀ (l:List T) (ls:List ae),(se l ls).length<=az l
 | [],ls=>by simp [se]
 | t::r,ls=>by
  have:=Ll t ls;have:=CC r (ls++fa t);rw [se,aM,az];omega
end
def Am (n:Nd):List ae:=if n.n=0/\(n.kind=2\/n.kind=7\/n.kind=3\/n.kind=8) then [n.s] else []
mutual
def vH:T->List ae
 | .mk n l=>Am n++kR l
def kR:List T->List ae
 | []=>[]
 | t::r=>vH t++kR r
end
theorem LA (n:Nd):(Am n).length<=1:=by unfold Am;split <;> simp
mutual
theorem LB:∀ (t:T),(vH t).length<=aJ t
 | .mk n l=>by
  have:=LA n;have:=CJ l;rw [vH,aM,aJ];omega
theorem CJ:∀ (l:List T),(kR l).length<=az l
 | []=>by simp [kR]
 | t::r=>by
  have:=LB t;have:=CJ r;rw [kR,aM,az];omega
end
theorem Qz {l:List T} {k:Nat} {t:T} (h:l[k]?=some t):kR (l.take (k+1))=kR (l.take k)++vH t:=by
 have I:l.take (k+1)=l.take k++[t]:=by rw [bS,h];rfl
 have:∀ a b:List T,kR (a++b)=kR a++kR b:=by
  intro a b
  induction a with
  | nil=>simp [kR]
  | cons u a ih=>simp [kR,ih]
 rw [I,this];simp [kR]
theorem Lm (names:List ae) {s:ae} (hw:word s=true) (n:Nd) (ls:List ae) (hz:n.kind≠1->n.n=0) (iH:∀ s∈ls,s∈names) (O6:n.kind=3\/n.kind=8->ls.contains n.s=false)
  (eu:n.kind=2\/n.kind=3\/n.kind=4\/n.kind=7\/n.kind=8\/n.kind=13\/word n.s=false):s∈Ik n ls↔s∈Am (yd names n ls):=by
 obtain ⟨kd,at_,m,x,ks⟩:=n;simp only at hz O6 eu
 have hp:=fun h:ls.contains x=true=>Vc (iH _ (il.1 h))
 unfold Ik yd Am;generalize ls.contains x=c at *;generalize v7 names x+1=z at *
 by_cases fv:kd=13
 ·subst fv;simp
 by_cases h4:kd=4
 ·subst h4;simp
 by_cases hx:kd=2\/kd=7\/kd=3\/kd=8
 ·have h0:=hz zfO;subst h0
  rcases hx with rfl | rfl | rfl | rfl
  ·cases c <;> simp_all <;> omega
  ·cases c <;> simp_all <;> omega
  ·rw [O6 (.inl rfl)];simp
  ·rw [O6 (.inr rfl)];simp
 ·have hf:¬ (m=0/\(kd=2\/kd=7\/kd=3\/kd=8)):=fun h=>hx h.2
  have h27:¬ (kd=2\/kd=7):=by omega
  have hy:word x=false:=by
   rcases eu with h | h | h | h | h | h | h
   all_goals first | exact h | omega
  have cn:s≠x:=fun e=>by rw [e,hy] at hw;cases hw
  simp only [fv,h27,if_false,false_and];rw [F hf];split <;> simp [cn]
mutual
theorem UJ {p:Src} (names:List ae) {s:ae} (hw:word s=true):∀ (t:T) (ls:List ae),gZ t->zT t->lY t->FQ p t ls->(∀ s∈ls,s∈names)->(∀ s∈fa t,s∈names)->(s∈BO t ls↔s∈vH (lR names t ls))
 | .mk n l,ls,wf,hz,hs,ho,iH,hv=>by
  have wf0:=wf;rw [gZ] at wf;rw [zT] at hz;rw [lY] at hs;have X8:=ho;rw [FQ] at ho;rw [fa] at hv
  have O6:n.kind=3\/n.kind=8->ls.contains n.s=false:=fun h=>by
   have h0:=ho.1;unfold b6 at h0;rw [F (by show ¬ n.kind=13;omega),F (by show ¬ (n.kind=2\/n.kind=7);omega),ab (by show n.kind=3\/n.kind=8;exact h)] at h0
   by_cases hc:ls.contains n.s=true
   ·rw [ab (.inl hc)] at h0;cases h0
   ·simpa using hc
  rw [lR,BO,vH,mem_append,mem_append,Lm names hw n ls hz.1 iH O6 hs.1];refine or_congr Iff.rfl ?_
  by_cases h4:n.kind=4/\n.s=iv
  ·obtain ⟨k,I,M,h3,-,-,h6⟩:=Wm wf0 ho.1 h4.1 h4.2;have I:l=[k]:=I;subst I;obtain ⟨m,j⟩:=k;have h3:j=[]:=h3;subst h3;have M:m.kind=2:=M
   have PH:m.kind≠1->m.n=0:=by have:=hz.2;rw [iZ,zT] at this;exact this.1.1
   rw [ir,ir,se,se,kR,kR,lR,ir,BO,se,vH,kR,bO,bO,bO,bO,Lm names hw m ls PH iH (fun h=>by omega) (.inl M)]
  ·have I:dv (.mk n l)=false:=by
    unfold dv;show ((n.kind==4&&n.s==iv)&&_)=false;rw [show (n.kind==4&&n.s==iv)=false by simp only [Bool.and_eq_false_iff,beq_eq_false_iff_ne,ne_eq];by_cases h:n.kind=4;(· exact .inr fun e=>h4 ⟨h,e⟩);exact .inl h];rfl
   exact Ql names hw l ls wf.2.2 hz.2 hs.2 (ho.2 I) iH fun s h=>hv s (List.mem_append_left _ h)
theorem Ql {p:Src} (names:List ae) {s:ae} (hw:word s=true):∀ (l:List T) (ls:List ae),dV l->iZ l->fy l->EB p l ls->(∀ s∈ls,s∈names)->(∀ s∈dT l,s∈names)->(s∈se l ls↔s∈kR (ir names l ls))
 | [],ls,_,_,_,_,_,_=>by rw [ir,se,kR]
 | t::r,ls,wf,hz,hs,ho,iH,hv=>by
  rw [dV] at wf;rw [iZ] at hz;rw [fy] at hs;rw [EB] at ho;rw [dT] at hv
  have hv1:∀ s∈fa t,s∈names:=fun s h=>hv s (List.mem_append_left _ h)
  rw [ir,se,kR,mem_append,mem_append,UJ names hw t ls wf.1 hz.1 hs.1 ho.1 iH hv1,Ql names hw r _ wf.2 hz.2 hs.2 ho.2 (fun s h=>by rcases pQ h with h | h;(· exact iH s h);exact hv1 s h) fun s h=>hv s (List.mem_append_right _ h)]
end
def dD {α:Type} (xs:List α) (aw:List Int):List α:=aw.filterMap fun x=>xs[x.toNat]?
theorem xO {α:Type} {xs:List α}:∀ {aw:List Int} {k:Nat} {x:Int},(∀ y∈aw,0<=y/\y < (xs.length:Int))->aw[k]?=some x->(dD xs aw)[k]?=xs[x.toNat]?
 | [],k,x,_,h=>by simp at h
 | y::r,k,x,hr,h=>by
  have hy:=hr y zfL;have e:xs[y.toNat]?=some (xs[y.toNat]'zfO):=dq _
  have e2:dD xs (y::r)=xs[y.toNat]'zfO::dD xs r:=by unfold dD;rw [filterMap_cons,e]
  rw [e2]
  cases k with
  | zero=>cases h;rw [e];rfl
  | succ k=>rw [getElem?_cons_succ];exact xO (fun z hz=>hr z (cU _ hz)) zfP
theorem mW {α:Type} {xs:List α}:∀ {aw:List Int},(∀ y∈aw,0<=y/\y < (xs.length:Int))->(dD xs aw).length=aw.length
 | [],_=>rfl
 | y::r,hr=>by
  have hy:=hr y zfL;have e:xs[y.toNat]?=some (xs[y.toNat]'zfO):=dq _
  have e2:dD xs (y::r)=xs[y.toNat]'zfO::dD xs r:=by unfold dD;rw [filterMap_cons,e]
  rw [e2,length_cons,length_cons,mW fun z hz=>hr z (cU _ hz)]
theorem CF {α:Type}:∀ (xs:List α) (b:Int) (aw:List Int),ep aw->(∀ x∈aw,b<=x)->(aw.filterMap fun x=>xs[(x - b).toNat]?).Sublist xs
 | [],b,aw,_,_=>by simp
 | y::xs,b,[],_,_=>by simp
 | y::xs,b,x::r,hr,hb=>by
  unfold ep at hr
  have key:∀ s:List Int,(∀ z∈s,b+1<=z)->(s.filterMap fun z=>(y::xs)[(z - b).toNat]?)=s.filterMap fun z=>xs[(z - (b+1)).toNat]?:=fun s hs=>by
   induction s with
   | nil=>rfl
   | cons z s ih =>
    have:=hs z zfL;rw [filterMap_cons,filterMap_cons,ih fun u hu=>hs u (cU _ hu),show (z - b).toNat=(z - (b+1)).toNat+1 by omega,getElem?_cons_succ]
  have hx:=hb x zfL;have hc:=List.pairwise_cons.1 hr
  by_cases e:x=b
  ·subst e
   have M:∀ z∈r,x+1<=z:=fun z hz=>by have:=hc.1 z hz;omega
   rw [filterMap_cons,Int.sub_self,show ((y::xs)[(0:Int).toNat]?)=some y from rfl];simp only;rw [key r M];exact (CF xs (x+1) r hc.2 M).cons_cons y
  ·have M:∀ z∈x::r,b+1<=z:=fun z hz=>by
    rcases dw hz with rfl | h
    ·omega
    ·have:=hc.1 z h;omega
   rw [key _ M];exact (CF xs (b+1) (x::r) hr M).cons y
theorem pF {α:Type} {xs:List α} {aw:List Int} (h:ep aw) (h0:∀ x∈aw,0<=x):(dD xs aw).Sublist xs:=by
 have:=CF xs 0 aw h h0;simp only [Int.sub_zero] at this;exact this
theorem Ax {α:Type} {w:α->Nat} {a b:List α} (h:a.Sublist b):bj w a<=bj w b:=by
 induction h with
 | slnil=>exact aD _
 | cons x _ ih=>rw [bj];omega
 | cons_cons x _ ih=>rw [bj,bj];omega
theorem yV {a b:List T} (h:a.Sublist b):az a<=az b:=by
 induction h with
 | slnil=>exact aD _
 | cons x _ ih=>rw [az];omega
 | cons_cons x _ ih=>rw [az,az];omega
theorem RT {w:Nd->Nat} (hw:∀ (n:Nd) (b:Int),w (QD b n)=w n) {a b:List T} (h:a.Sublist b):bj w (bU 0 a)<=bj w (bU 0 b):=by
 induction h with
 | slnil=>exact aD _
 | cons x _ ih=>rw [bU,tl,Ef hw _ (0+aJ x)];omega
 | cons_cons x _ ih=>rename_i a b _;rw [bU,bU,tl,tl,Ef hw a (0+aJ x),Ef hw b (0+aJ x)];omega
def su (p:Src) (l:List T) (fn:Int):List Int:=jU (o8 p l [fn])
theorem QM {p:Src} {l:List T} {fn x:Int} (hf:0<=fn/\fn < (p.fns.length:Int)):x∈o8 p l [fn]↔x=fn\/x∈o8 p l (kW p l fn):=by
 have hc:=Kd p l
 have hnd:(kW p l fn).Nodup:=by
  unfold kW;split
  ·exact sn (sQ p _)
  ·exact List.Pairwise.nil
 have Bz:=yc (kW p l) p.fns.length hc (p.fns.length+1) 0 [fn] zfL (by simpa using hf) zfO (fun j x h=>by omega);have Mv:=yc (kW p l) p.fns.length hc (p.fns.length+1) 0 (kW p l fn) hnd (hc fn) zfO (fun j x h=>by omega);have pA:=D1 (kW p l) (p.fns.length+1) 0 [fn] fn zfL;have ZU:=D1 (kW p l) (p.fns.length+1) 0 (kW p l fn);unfold o8;constructor
 ·refine zt (kW p l) (fun x=>x=fn\/x∈lU (kW p l) (p.fns.length+1) 0 (kW p l fn)) (fun x hx y hy=>?_) _ _ _ (fun x hx=>.inl (by simpa using hx)) x
  rcases hx with rfl | hx
  ·exact .inr (ZU y hy)
  ·exact .inr (Mv x hx y hy)
 ·rintro (rfl | hx)
  ·exact pA
  ·exact zt (kW p l) (fun x=>x∈lU (kW p l) (p.fns.length+1) 0 [fn]) (fun x hx y hy=>Bz x hx y hy) _ _ _ (fun x hx=>Bz fn pA x hx) x hx
theorem F4 {p:Src} {l:List T} {fn:Int} (hf:0<=fn/\fn < (p.fns.length:Int)):Trail p (o8 p l [fn]):=D2 _ _ _ ⟨by simp,by simpa using hf⟩
theorem uM {p:Src} {l:List T} {fn:Int} (hf:0<=fn/\fn < (p.fns.length:Int)):ep (su p l fn):=by
 have I:=BS (o8 p l [fn]);have M:(su p l fn).Nodup:=(Av _).nodup_iff.2 (F4 hf).nodup;unfold ep;exact I.imp₂ (fun a b h3 h4=>by omega) M
theorem EK {p:Src} {l:List T} {fn:Int} (hf:0<=fn/\fn < (p.fns.length:Int)):∀ x∈su p l fn,0<=x/\x < (p.fns.length:Int):=fun x hx=>(F4 hf).rng x (yU.1 hx)
theorem Wg {p:Src} {l:List T} {fn:Int} (hf:0<=fn/\fn < (p.fns.length:Int)):(o8 p l (kW p l fn)).foldl dS (dS [] fn)=su p l fn:=by
 have h:=wI (o8 p l (kW p l fn)) (dS [] fn) (BR List.Pairwise.nil)
 refine yP h.1 (uM hf) fun x=>?_
 rw [h.2,CH];unfold su;rw [yU,QM hf];simp
def mC (p:Src) (l:List T) (aw:List Int):List ae:=aw.flatMap fun x=>match p.fns[x.toNat]?,l[x.toNat]? with | some f,some t=>BO t f.params | _,_=>[]
def qi (p:Src) (l:List T) (aw:List Int):List ae:=aw.flatMap fun x=>match p.fns[x.toNat]?,l[x.toNat]? with | some f,some t=>vH (lR (f.params++fa t) t f.params) | _,_=>[]
theorem SZ {p:Src} {l:List T} {aw:List Int} {k i:Nat} {f:Go.Sp.Fn} {t:T} (h:aw[k]?=some (i:Int)) (hf:p.fns[i]?=some f) (ht:l[i]?=some t):mC p l (aw.take (k+1))=mC p l (aw.take k)++BO t f.params:=by
 unfold mC;rw [bS,h,List.flatMap_append];simp [hf,ht]
theorem Ta {p:Src} {l:List T} {aw:List Int} {k i:Nat} {f:Go.Sp.Fn} {t:T} (h:aw[k]?=some (i:Int)) (hf:p.fns[i]?=some f) (ht:l[i]?=some t):qi p l (aw.take (k+1))=qi p l (aw.take k)++vH (lR (f.params++fa t) t f.params):=by
 unfold qi;rw [bS,h,List.flatMap_append];simp [hf,ht]
theorem YI {p:Src} {l:List T} (hg:Good p l) {aw:List Int} {s:ae} (hw:word s=true):s∈mC p l aw↔s∈qi p l aw:=by
 unfold mC qi;simp only [List.mem_flatMap]
 refine exists_congr fun x=>and_congr Iff.rfl ?_
 cases e1:p.fns[x.toNat]? with
 | none=>exact Iff.rfl
 | some f =>
  cases e2:l[x.toNat]? with
  | none=>exact Iff.rfl
  | some t =>
   have h:=hg.fn e1 e2
   exact UJ _ hw t f.params h.wf h.z (hg.sg e2) h.ok (fun s h=>List.mem_append_left _ h) fun s h=>List.mem_append_right _ h
def r8 (p:Src) (l:List T) (aw:List Int) (N:List ae):Src:=AY (p.globals.filter fun s=>N.contains s) (p.arrays.filter fun a=>N.contains a.name) (dD p.fns aw) (dD l aw)
theorem VK {p:Src} {l:List T} (hg:Good p l) (aw:List Int):r8 p l aw (mC p l aw)=r8 p l aw (qi p l aw):=by
 have key:∀ s∈cR p,(mC p l aw).contains s=(qi p l aw).contains s:=fun s hs=>by
  rw [Bool.eq_iff_iff,il,il];exact YI hg (hg.words hs)
 unfold r8;rw [List.filter_congr fun s hs=>key s (by unfold cR;simp [hs]),List.filter_congr (l:=p.arrays) fun a ha=>key a.name (by unfold cR fg;simp only [mem_append,oX];exact .inl (.inr ⟨a,ha,rfl⟩))]
def uo (p:Src) (fn:Int):Src × Bool:=if rS p fn=true then (match kM p.nodes p.fns 0 [] with | some (l,_)=>(r8 p l (su p l fn) (mC p l (su p l fn)),true) | none=>(yI,false)) else (yI,false)
theorem Yt {p:Src} {l:List T} (hg:Good p l) {aw:List Int} (hr:ep aw) (hb:∀ x∈aw,0<=x/\x < (p.fns.length:Int)) (N:List ae):eo (r8 p l aw N)<=eo p:=by
 have h0:=fun x hx=>(hb x hx).1
 have hl:∀ x∈aw,0<=x/\x < (l.length:Int):=by rw [<-hg.len];exact hb
 have e1:=Dv (w:=fun f:Go.Sp.Fn=>f.name.length+wS f.params+1) (fun f b=>rfl) (dD p.fns aw) (dD l aw) 0 (by rw [mW hb,mW hl]);have e2:=Ax (w:=fun f:Go.Sp.Fn=>f.name.length+wS f.params+1) (pF (xs:=p.fns) hr h0);have e3:=RT (w:=fun n:Nd=>n.s.length+n.kids.length+1) (fun n b=>by simp [QD]) (pF (xs:=l) hr h0);have e4:=Ax (w:=fun a:Ar=>a.name.length+1) (List.filter_sublist (l:=p.arrays) (p:=fun a=>N.contains a.name))
 have e5:wS (p.globals.filter fun s=>N.contains s)<=wS p.globals:=by unfold wS;exact Ax List.filter_sublist
 rw [<-Vx hg] at e3;unfold eo r8 AY;exact zfx
theorem ZG (p:Src) (fn:Int):eo (uo p fn).1<=eo p:=by
 unfold uo;split
 ·rename_i hh;obtain ⟨i,l,f,t,rfl,h⟩:=Ei hh;have hi:=(bq h.gf).1
  have hf:0<=(i:Int)/\(i:Int) < (p.fns.length:Int):=by omega
  rw [h.good.CW];exact Yt h.good (uM hf) (EK hf) _
 ·exact aO _
theorem Qk (p:Src) (l:List T):∀ aw:List Int,(mC p l aw).length<=az (dD l aw)
 | []=>by simp [mC]
 | x::r=>by
  have ih:=Qk p l r;unfold mC dD at ih |-;rw [List.flatMap_cons,aM,filterMap_cons]
  cases e2:l[x.toNat]? with
  | none =>
   simp only [length_nil,cL]
   cases p.fns[x.toNat]? <;> simpa using ih
  | some t =>
   simp only [az]
   cases e1:p.fns[x.toNat]? with
   | none=>simp only [length_nil];omega
   | some f =>
    simp only;have:=Ll t f.params;omega
theorem Lj {p:Src} {l:List T} {aw:List Int} (hr:ep aw) (h0:∀ x∈aw,0<=x):(mC p l aw).length<=az l:=jO (Qk p l aw) (yV (pF hr h0))
theorem Qy (p:Src) (l:List T):∀ aw:List Int,(qi p l aw).length<=az (dD l aw)
 | []=>by simp [qi]
 | x::r=>by
  have ih:=Qy p l r;unfold qi dD at ih |-;rw [List.flatMap_cons,aM,filterMap_cons]
  cases e2:l[x.toNat]? with
  | none =>
   simp only [length_nil,cL]
   cases p.fns[x.toNat]? <;> simpa using ih
  | some t =>
   simp only [az]
   cases e1:p.fns[x.toNat]? with
   | none=>simp only [length_nil];omega
   | some f =>
    simp only;have:=LB (lR (f.params++fa t) t f.params);rw [CN] at this;omega
theorem Lz {p:Src} {l:List T} {aw:List Int} (hr:ep aw) (h0:∀ x∈aw,0<=x):(qi p l aw).length<=az l:=jO (Qy p l aw) (yV (pF hr h0))
theorem wg {α:Type} {f:α->Bool} {l:List α} {k:Nat} {x:α} (h:l[k]?=some x):(l.take (k+1)).filter f=(l.take k).filter f++if f x=true then [x] else []:=by
 rw [bS,h,List.filter_append];show _++List.filter f [x]=_;rw [List.filter_cons];rfl
theorem ep.take {l:List Int} (h:ep l) (k:Nat):ep (l.take k):=List.Pairwise.sublist (List.take_sublist k l) h
end Go.Im
namespace Go.Xg
open Go.RowKit Go.Xw Go.Proofs Tryz Go.Im
open GV (U)
open Go.Xp (Nd T Ar aJ az)
open Go.Sp (Src)
attribute [local irreducible] GW GL GO YG GC GA aW aZ
theorem Vh (p:Src) (hw:eo p<=1048576) {l:List T} {i:Nat} {f:Go.Sp.Fn} {t:T} (h:tN p l i f t) :
  GF prog 131 [.agg (ar p),.v (ii (i:Nat))] [] (ints (cP p t)) []:=by
 obtain ⟨⟨a1,a2⟩,⟨b1,b2⟩,⟨c1,c2⟩,⟨d1,d2⟩⟩:=jD p;have cX:=h.sz;have Bz:=Oi p _ t (aD _)
 have hE:=fun eb ec=>Vo p 60 i f t [] eb ec G (fun n hn=>by have:=(d2 n hn).2;omega) G h.gf (by have:=(c2 f (br h.gf)).2.1;omega) h.body h.st G (by show 0+_<=_;omega)
 rw [TV,nil_append] at hE;obtain ⟨e1,e2⟩:=WY (qu p t)
 have hS:=fun a c=>NZ (qu p t) 3 a c G
 have hC:=fun a c=>NJ (jU (qu p t)) 3 a c (by rw [qY];omega) e2
 rw [e1] at hC;rw [qY] at hC;unfold I2 UN at hE;unfold cP;generalize qH (qu p t)=rr at *;generalize jU (qu p t)=ss at *;refine c8 func131 ntmps131 ?_;refine GW.wk (Wk.iN 3 1) ?_;simp only [nil_append];refine jY ?_;refine GL.wk (Wk.freeze (i:=1) rfl rfl rfl (aO _)) ?_;refine zaW ?_;refine bP [2,0] (hE none 0) ?_;rintro _ _ ⟨rfl,eb,ec,rfl⟩;refine zax ?_;refine V [0] (hS eb ec) ?_;refine bP [0] (hC eb ec) ?_;rintro _ _ ⟨rfl,fz,S,rfl⟩;refine cI ?_;exact ax
theorem Ol (p:Src) (hw:eo p<=1048576) {l:List T} (hg:Go.Im.Good p l) (L0:List Int) (hL:Trail p L0) :
  GF prog 73 [.agg (ar p),ints L0] [] (ints (jU (o8 p l L0))) []:=by
 obtain ⟨⟨a1,a2⟩,⟨b1,b2⟩,⟨c1,c2⟩,⟨d1,d2⟩⟩:=jD p;have hlen:=hg.len;have xq:=hL.len
 have cW:(L0.map fun i=>[GV.v (ii i)]).length=L0.length:=by simp
 have eW:=Ip L0;obtain ⟨N,hN⟩:∃ N,p.fns.length=N:=⟨_,rfl⟩;refine c8 func73 ntmps73 ?_;refine GW.wk (Wk.iN 3 1) ?_;simp only [nil_append];refine D ?_;refine GL.vZ 0 rfl rfl rfl rfl eW (by refine ⟨?_,?_⟩;(· rw [cW];omega);(· rw [cW];omega)) ?_;intro ad cp;rw [cW];refine zaS ?_;refine GW.loop (fun s:Nat × List Int=>N - s.1) (fun s fr Γ=>∃ a c n S,fr=[U,U,.loc 1 0,U,U,.v (.slice a n c),.v (ii (s.1:Nat)),U,U,U,U,U,U,U,U,U,U,U,U,U,U,U,U,U,U,U,U,U,U,U,U,U,U,U,U,U,U,U,U,U]/\Γ=[.vech 3 1 S (.slice a n c),.box 33 (ar p)]/\S.length=n/\S=bQ s.2/\Trail p s.2/\s.1<=s.2.length/\lU (kW p l) (N+1 - s.1) s.1 s.2=o8 p l L0) (0,L0) ?_ ?_
 ·exact ⟨_,_,Wk.aC ak,ad,cp,_,_,rfl,rfl,cW,rfl,hL,aO _,by rw [<-hN];rfl⟩
 rintro ⟨i,L⟩ _ _ ⟨a,c,n,S,rfl,rfl,ou,hS,hW,hi,he⟩;simp only at hS hW hi he;have nB:=hW.len
 have py:n=L.length:=by rw [<-ou,hS,fQ]
 by_cases aj:i < L.length
 ·have hd:decide ((i:Int) < (n:Int))=true:=decide_eq_true G;obtain ⟨x,hx⟩:∃ x,L[i]?=some x:=⟨L[i],by simp [aj]⟩
  have Yg:S[i]?=some [.v (ii x)]:=by rw [hS];unfold bQ;rw [aS,hx];rfl
  have qE:=hW.rng x (br hx);obtain ⟨j,hj⟩:∃ j:Nat,x=(j:Int):=⟨x.toNat,by omega⟩;subst hj
  have qz:j < p.fns.length:=by omega
  obtain ⟨f,hf⟩:∃ f,p.fns[j]?=some f:=⟨p.fns[j],by simp [qz]⟩;obtain ⟨t,ht⟩:∃ t,l[j]?=some t:=⟨l[j]'G,dq _⟩;have hC:=Vh p hw (hg.fn hf ht)
  have fk:kW p l (j:Int)=cP p t:=by unfold kW;rw [lk,ht]
  have ox:lU (kW p l) (N+1 - (i+1)) (i+1) (ff L (cP p t))=o8 p l L0:=by
   exact zfI
  have vt:=qt p t;have fB:=Bm p t
  have Ps:((cP p t).map fun i=>[GV.v (ii i)]).length=(cP p t).length:=by simp
  have uB:i+1<=(ff L (cP p t)).length:=by
   obtain ⟨m,hm⟩:=yb (cP p t) L;rw [hm,aM];omega
  generalize cP p t=ks at *;refine D ?_;refine aL (aE 0 5 (.q 7 (.a 5 (.q 6 .nil)))) ?_;refine ao ?_;refine aI [] hC ?_;refine D ?_;refine GW.range (ks.map fun i=>[GV.v (ii i)]).length (fun k fr Γ=>∃ a c n S,fr=[U,U,.loc 1 0,U,U,.v (.slice a n c),.v (ii (i:Nat)),U,U,U,U,U,U,U,U,U,U,U,U,U,U,U,ints ks,.v (ii ((ks.map fun i=>[GV.v (ii i)]).length:Int)),.v (ii (k:Nat)),U,U,U,U,U,U,U,U,U,U,U,U,U,U,U]/\Γ=[.vech 3 1 S (.slice a n c),.box 33 (ar p)]/\S.length=n/\S=bQ (ff L (ks.take k))) ?_ G ?_ ?_ ?_
  ·exact ⟨_,_,Wk.aC ak,a,c,n,S,rfl,rfl,ou,hS⟩
  ·rintro k _ _ ⟨a,c,n,S,rfl,rfl,_⟩;exact dp
  ·rintro k _ _ hk ⟨a,c,n,S,rfl,rfl,ou,hS⟩;rw [Ps] at hk;obtain ⟨y,hy⟩:∃ y,ks[k]?=some y:=⟨ks[k],by simp [hk]⟩
   have hry:(ks.map fun i=>[GV.v (ii i)])[k]?=some [.v (ii y)]:=by rw [aS,hy];rfl
   have XH:=hW.add (ks:=ks.take k) fun y hy=>vt y (mem_of_mem_take hy)
   have XI:=XH.len
   have C8:GF prog 132 [.sl 1 S,.v (ii y)] [] (.v (.bool ((ff L (ks.take k)).contains y))) []:=by
    rw [hS];exact Jg (ff L (ks.take k)) y G
   have Sd:=E0 L ks k y hy
   have xr:n<=1048576:=by rw [<-ou,hS,fQ];omega
   rw [Sd]
   cases hb:(ff L (ks.take k)).contains y with
   | true =>
    rw [hb] at C8;rw [ab rfl];refine D ?_;refine GL.borrow C8 (fun B K β w l hI hF=>ic (A:=[]) (C:=[_]) hI hF rfl rfl) ?_;refine zaW ?_;exact ⟨rfl,rfl,_,_,Wk.aC ak,a,c,n,S,rfl,rfl,ou,hS⟩
   | false =>
    rw [hb] at C8;rw [F aP]
    have zd:bQ (ff L (ks.take k)++[y])=S++[[.v (ii y)]]:=by rw [hS];simp [bQ]
    rw [zd];clear hS;refine D ?_;refine GL.borrow C8 (fun B K β w l hI hF=>ic (A:=[]) (C:=[_]) hI hF rfl rfl) ?_;refine zaW ?_;refine zb2 ?_;intro a2 c2;refine zaM ?_;exact ⟨rfl,rfl,_,_,Wk.aC ak,a2,c2,_,_,rfl,rfl,by simp [ou],rfl⟩
  ·rintro _ _ ⟨a,c,n,S,rfl,rfl,ou,hS⟩;rw [Ps,bH] at hS;refine iQ (aY ?_);refine D ?_;exact ⟨(i+1,ff L ks),⟨_,_,Wk.aC ak,a,c,n,S,rfl,rfl,ou,hS,hW.add vt,uB,ox⟩,by show N - (i+1) < N - i;omega⟩
 ·have hd:decide ((i:Int) < (n:Int))=false:=decide_eq_false G;have hb:=GS (cs:=kW p l) (f:=N+1 - i) (i:=i) (L:=L) G;rw [hb] at he;rw [<-he];have hSo:=NZ L 3 a c G;rw [<-py,<-hS] at hSo
  have lF:(bQ (jU L)).length=n:=by rw [fQ,qY,py]
  refine zbA ?_;refine V [0] hSo ?_;refine GW.wk (Wk.oW (t:=4) (i:=0) rfl rfl rfl) ?_;exact al
theorem Wx (p:Src) (a:Nat) (n:Nd) (l:List T) (ls:List ae) (s:List ae) (E1:TypeId) (eb:Option Addr) (ec:Nat) (ad:Option Addr) (cp:Nat) (hn:p.nodes[a]?=some n) (iH:ls.length<=1099511627776) (hs:s.length<=1048576000) :
  GC prog 74 [.v (ii (a:Nat)),.v (.slice ad ls.length cp),.box (ar p) 0,.loc 0 0] [.box E1 [.v (.slice eb s.length ec)],.vech 9 1 (bb s) (.slice eb s.length ec),.vech 9 1 (bb ls) (.slice ad ls.length cp)] fun g Δ=>g=.tup []/\∃ oo oq,
   Δ=[.box E1 [.v (.slice oo (gK s a (.mk n l) ls).length oq)],.vech 9 1 (bb (gK s a (.mk n l) ls)) (.slice oo (gK s a (.mk n l) ls).length oq),.vech 9 1 (bb ls) (.slice ad ls.length cp)]:=by
 have hr:=jS hn;have lF:=p9 s;have hL:=kh ls n.s iH
 have e3:∀ x:List Go.Xp.ae,strs x=.sl 1 (bb x):=fun _=>rfl
 rw [e3] at hL;have e:gK s a (.mk n l) ls=s++(if ((n.kind != 4&&n.kind != 13)&&!ls.contains n.s)=true then [n.s] else []):=rfl;rw [e];unfold ay at hr
 cases I:(n.kind != 4) with
 | false =>
  simp only [Bool.false_and,Bool.false_eq_true,if_false,bO];refine c8 func74 ntmps74 ?_;refine zab ?_;exact zck
 | true =>
  cases M:(n.kind != 13) with
  | false =>
   simp only [Bool.true_and,Bool.false_and,Bool.false_eq_true,if_false,bO];refine c8 func74 ntmps74 ?_;refine zab ?_;exact zck
  | true =>
   cases h3:ls.contains n.s with
   | true =>
    rw [h3] at hL;simp only [Bool.true_and,Bool.not_true,Bool.false_eq_true,if_false,bO];refine c8 func74 ntmps74 ?_;refine zab ?_;refine GL.borrow hL (fun B K β w l hI hF=>ic (A:=[_,_]) (C:=[]) hI hF rfl rfl) ?_;refine zaW ?_;exact zck
   | false =>
    rw [h3] at hL;simp only [Bool.true_and,Bool.not_false,if_true];refine c8 func74 ntmps74 ?_;refine zab ?_;refine GL.borrow hL (fun B K β w l hI hF=>ic (A:=[_,_]) (C:=[]) hI hF rfl rfl) ?_;refine bL ?_;refine zal ?_;intro o0 o9;refine zaM ?_;refine cM ?_;exact ⟨rfl,o0,o9,by simp [bb]⟩
open Go.Xp (c6)
def I3 (p:Src):GV:=.fn (.func 74) [] [.box (ar p) 0,.loc 0 0]
def UY (p:Src):GV:=.fn (.func 97) [] [.loc 2 0,.loc 3 0,.box (ar p) 0,.loc 4 0]
def UO (E1:TypeId) (s:List ae) (eb:Option Addr) (ec:Nat):List Ob:=[.box E1 [.v (.slice eb s.length ec)],.vech 9 1 (bb s) (.slice eb s.length ec)]
def FY (p:Src) (E1 E2 E3 E4:TypeId) (s:List ae) (ls:List ae) (ad:Option Addr) (cp:Nat) (eb:Option Addr) (ec:Nat):List Ob :=
 [.box E1 [.v (.slice eb s.length ec)],.vech 9 1 (bb s) (.slice eb s.length ec),.box E2 [I3 p],.box E3 [.v (.slice ad ls.length cp)],.box E4 [UY p],.vech 9 1 (bb ls) (.slice ad ls.length cp)]
theorem TG (p:Src) (E1 E2 E3 E4:TypeId) (hp:p.nodes.length<=1048576) (fB:∀ n∈p.nodes,n.kids.length<=1099511627776):∀ (N:Nat) (t:T),aJ t<=N->∀ (a:Nat) (s:List ae) (ls:List ae) (ad:Option Addr) (cp:Nat) (eb:Option Addr) (ec:Nat),eC p.nodes a t->ls.length+aJ t<=8388608->s.length+aJ t<=8388608 ->
  GC prog 97 [.v (ii (a:Nat)),.loc 2 0,.loc 3 0,.box (ar p) 0,.loc 4 0] (FY p E1 E2 E3 E4 s ls ad cp eb ec) fun g Δ=>g=.tup []/\∃ lz lA oo oq,Δ=FY p E1 E2 E3 E4 (iF gK t a s ls).1 (iF gK t a s ls).2 lz lA oo oq:=by
 intro N
 induction N with
 | zero=>intro t h;exact zcN
 | succ N ih =>
 intro t hN a s ls ad cp eb ec bW iH rp
 cases t with
 | mk n l =>
 rw [Go.Xp.aJ] at hN iH rp;have Sh:=bW;rw [eC] at bW;obtain ⟨hn,hk,lF⟩:=bW;rw [iF];have hr:=jS hn;have po:=fB n (br hn);have ht:=Wx p a n l ls s E1 eb ec ad cp hn G G;have abH:(gK s a (.mk n l) ls).length<=s.length+1:=V1 _ _ _ _;generalize iI:gK s a (.mk n l) ls=s1 at *
 have wu:n.kids.length=l.length:=by rw [hk,c6]
 unfold ay at hr;unfold FY I3 UY;refine ah func97 ntmps97 ?_;refine GL.tF [0,1,5] ht rfl rfl rfl (by repeat (first | exact trivial | refine ⟨rfl,?_⟩)) ?_;rintro _ _ ⟨rfl,eb,ec,rfl⟩;refine zax ?_;refine GW.range (n.kids.map fun i=>[GV.v (ii i)]).length (fun k fr Γ=>∃ lz lA oo oq,fr=[.v (ii (a:Nat)),.loc 2 0,.loc 3 0,.box (ar p) 0,.loc 4 0,U,U,U,U,U,U,U,U,U,U,U,U,ints n.kids,.v (ii ((n.kids.map fun i=>[GV.v (ii i)]).length:Int)),.v (ii (k:Nat)),U,U,U,U,U,U,U,U,U,U,U,U,U,U,U,U,U,U,U,U,U,U,U]/\Γ=FY p E1 E2 E3 E4 (dI gK (l.take k) (a+1) s1 ls).1 (dI gK (l.take k) (a+1) s1 ls).2 lz lA oo oq) ?_ zgd ?_ ?_ ?_
 ·exact ⟨_,_,Wk.aC ak,ad,cp,eb,ec,rfl,rfl⟩
 ·rintro k _ _ ⟨ad,cp,eb,ec,rfl,rfl⟩;exact dp
 ·rintro k _ _ aj ⟨ad,cp,eb,ec,rfl,rfl⟩;rw [bV,wu] at aj;obtain ⟨u,hu⟩:∃ u,l[k]?=some u:=⟨l[k],by simp [aj]⟩;have gy:=wx (n:=a+1) hu;rw [<-hk] at gy;have uE:=kE gy;have cX:=lN hu;have Pz:eC p.nodes (a+1+az (l.take k)) u:=dX.ix l (a+1) k u lF hu
  have hlen:(dI gK (l.take k) (a+1) s1 ls).2.length<=ls.length+az (l.take k):=by
   exact ze7
  have Gq:(dI gK (l.take k) (a+1) s1 ls).1.length<=s1.length+az (l.take k):=by
   rw [G9,aM];have:=(fun l=>CC l ls) (l.take k);omega
  rw [B9 _ hu];generalize (dI gK (l.take k) (a+1) s1 ls).1=s2 at *;generalize (dI gK (l.take k) (a+1) s1 ls).2=jl at *;have hv:=ih u G (a+1+az (l.take k)) s2 jl ad cp eb ec Pz G G;unfold FY I3 UY at hv |-;refine D ?_;refine GL.tF [0,1,2,3,4,5] hv rfl rfl rfl (by repeat (first | exact trivial | refine ⟨rfl,?_⟩)) ?_;rintro _ _ ⟨rfl,lz,lA,oo,oq,rfl⟩;exact zeM
 ·rintro _ _ ⟨ad,cp,eb,ec,rfl,rfl⟩;rw [bV,wu,bH]
  have hlen:(dI gK l (a+1) s1 ls).2.length<=ls.length+az l:=by
   rw [pe,aM];have:=lr l;omega
  generalize (dI gK l (a+1) s1 ls).1=s2 at *;generalize (dI gK l (a+1) s1 ls).2=jl at *;have KH:(bb jl).length=jl.length:=p9 jl;unfold FY I3 UY;refine aY ?_
  cases hv:(n.kind==13) with
  | false =>
   exact zdG
  | true =>
   refine zbG ?_;refine OA rfl rfl (GL.qP 5 (news:=[[.v (sv n.s)]]) rfl rfl rfl bc rfl rfl (by refine ⟨?_,?_⟩;(· show _+1<=_;omega);(· show (_+1) * _<=_;omega)) ?_);intro o0 o9;exact zeH
theorem Vq (p:Src) (E1:TypeId) (i:Nat) (f:Go.Sp.Fn) (t:T) (s:List ae) (eb:Option Addr) (ec:Nat) (hp:p.nodes.length<=1048576) (fB:∀ n∈p.nodes,n.kids.length<=1099511627776)
  (hf:p.fns[i]?=some f) (uq:f.params.length<=1048576) (hb:0<=f.body) (bW:eC p.nodes f.body.toNat t) (cX:aJ t<=1048576) (hs:s.length+aJ t<=8388608) :
  GC prog 44 [.agg (ar p),.v (ii (i:Nat)),I3 p] (UO E1 s eb ec) fun g Δ=>g=.tup []/\∃ oo oq,Δ=UO E1 (iF gK t f.body.toNat s f.params).1 oo oq:=by
 have hr:(p.fns.map au)[i]?=some (au f):=by rw [aS,hf];rfl
 have cW:(f.params.map fun s=>[GV.v (sv s)]).length=f.params.length:=by simp
 have eW:=pC f.params;obtain ⟨b,wm⟩:∃ b:Nat,f.body=(b:Int):=⟨f.body.toNat,by omega⟩;rw [wm,lk] at bW |-;unfold au at hr;rw [wm] at hr;unfold I3 UO;refine c8 func44 ntmps44 ?_;refine za1 ?_;refine GL.vZ 4 rfl rfl rfl rfl eW (by refine ⟨?_,?_⟩;(· rw [cW];omega);(· rw [cW];omega)) ?_;intro ad cp;rw [cW];refine zaS ?_;refine GW.G6 (cy:=[U,.v (ii (i:Nat)),U,.box (ar p) 0,U,.loc 3 0,.loc 5 0,.loc 6 0,U,U,U,U,U,U,U,U,U,U,U,U,U,U,U,U]) (aR:=[.box E1 [.v (.slice eb s.length ec)],.vech 9 1 (bb s) (.slice eb s.length ec),.gone,.box _ [.fn (.func 74) [] [.box (ar p) 0,.loc 0 0]],.vech 9 1 (bb f.params) (.slice ad f.params.length cp),.box _ [.v (.slice ad f.params.length cp)],.box _ [.fn (.func 97) [] [.loc 3 0,.loc 5 0,.box (ar p) 0,.loc 6 0]]]) ak rfl ?_;refine aL (aE 0 7 (.a 7 .nil)) ?_;refine ao ?_;have hv:=TG p E1;refine OA rfl rfl (GL.tF [0,1,3,5,6,4] (hv _ _ _ hp fB _ t (aD _) b s f.params ad cp eb ec bW G hs) rfl rfl rfl (by repeat (first | exact trivial | refine ⟨rfl,?_⟩)) ?_);rintro _ _ ⟨rfl,lz,lA,oo,oq,rfl⟩;refine ⟨by simp [FY],?_⟩;unfold FY;refine zbh ?_;refine cM ?_;exact ⟨rfl,oo,oq,rfl⟩
end Go.Xg
namespace Go.Xg
open Go.RowKit Go.Xw Go.Proofs Go.Im
open Go.Xp (Nd T Ar aJ az bK gL bU jA sT bh pZ nt)
open Go.Sp (Src)
theorem DI:∀ (X A Δ:List Ob),X.length<=Δ.length->eA (A++X) (List.range' A.length X.length) Δ=A++Δ
 | [],A,Δ,h=>by
  show eA (A++[]) [] Δ=_;rw [eA,bO]
 | x::X,A,[],h=>by simp at h
 | x::X,A,y::Δ,h=>by
  rw [length_cons,List.range'_succ,eA]
  have e:oset (A++x::X) A.length y=(A++[y])++X:=by rw [Ir];simp
  have:=DI X (A++[y]) Δ zfP;rw [aM,length_singleton] at this;rw [e,this];simp
section
variable {P:Program} {m:Nat} {Q:dG} {fr:List GV} {Γ:List Ob} {ops:Array Oper} {rest:List Oper} {d:Option Tmp} {op:Op} {ty:TypeId} {pos:String} {af:Array Edge}
theorem GL.Kb {f:FuncId} [hf:aK P f] (A X:List Ob) {args:List Operand} {mG:Array TypeId} {gs:List GV} {R:GV->List Ob->Prop} (hc:GC P f gs X R) (bJ:Γ=A++X) (hX:∀ x∈X,x.iJ=true) (Pn:∀ r,Go.Xg.l7 r gs=gs) (ha:ly (args.map (be fr)) gs)
  (h:∀ g Δ,R g Δ->X.length<=Δ.length/\(∀ x∈Δ,x.iJ=true)/\(∀ r,ey r g=g)/\GL P m ops Q rest (bC fr d g) (A++Δ)) :
  GL P m ops Q (⟨d,.call ⟨.value (.func f),args.toArray,mG⟩,ty,pos,af,none⟩::rest) fr Γ:=by
 subst bJ
 refine GL.Gl (List.range' A.length X.length) hc (by rw [Pn];exact ha) (BQ _ _ _ (by simp only [aM];omega)) ?_ fun g Δ hr=>?_
 ·have:=yS (cB (List.range' A.length X.length) (A++X).length) X A [] hX;rw [bO] at this;exact this
 obtain ⟨I,M,h3,h4⟩:=h g Δ hr;refine ⟨by rw [List.length_range'];exact I,?_⟩;rw [xD M,DI _ _ _ I,h3];exact h4
end
def iw (bx:List Nd) (h:Value) (ns:List Value):List Ob:=.vech 62 5 (List.zipWith dc bx ns) h::List.zipWith dB bx ns
structure zo (bx:List Nd) (h:Value) (ns:List Value):Prop where
 head:∃ a c,h=.slice a bx.length c
 len:ns.length=bx.length
 kid:∀ (i:Nat) x y,bx[i]?=some x->ns[i]?=some y->Hd x.kids.length y
theorem n9 {bx:List Nd} {h:Value} {ns:List Value}:∀ x∈iw bx h ns,x.iJ=true:=fun x hx=>by
 rcases dw hx with rfl | hx
 ·rfl
 ·exact zb1
theorem p7 {bx:List Nd} {h:Value} {ns:List Value} (H:zo bx h ns):(iw bx h ns).length=bx.length+1:=by
 unfold iw;rw [length_cons,mJ,H.len,Nat.min_self]
def fU (x:Nd) (ks:List Int):Nd:=⟨x.kind,x.at_,x.n,x.s,ks⟩
theorem zo.snoc {bx:List Nd} {h:Value} {ns:List Value} (H:zo bx h ns) (x:Nd) {a b:Option Addr} {c d:Nat}:zo (bx++[x]) (.slice a (bx.length+1) c) (ns++[.slice b x.kids.length d]):=by
 refine ⟨⟨a,c,by simp⟩,by simp [H.len],fun i y v I M=>?_⟩;have hl:=H.len
 rcases Nat.lt_or_ge i bx.length with hi | hi
 ·rw [eR hi] at I;rw [eR G] at M;exact H.kid i y v I M
 ·rw [fw hi] at I;rw [fw G,hl] at M
  cases hk:i - bx.length with
  | zero =>
   rw [hk] at I M
   cases I;cases M
   exact zeq
  | succ k=>rw [hk] at I;simp at I
theorem JN {bx:List Nd} {ns:List Value} (hl:ns.length=bx.length) (x:Nd) (y h:Value):iw (bx++[x]) h (ns++[y])=.vech 62 5 (List.zipWith dc bx ns++[dc x y]) h::(List.zipWith dB bx ns++[dB x y]):=by
 unfold iw;rw [zipWith_append hl.symm,zipWith_append hl.symm];rfl
theorem zo.put {bx:List Nd} {h:Value} {ns:List Value} (H:zo bx h ns) {i:Nat} {x:Nd} (hx:bx[i]?=some x) (ks:List Int) {b:Option Addr} {d n:Nat} (hn:n=ks.length):zo (bx.set i (fU x ks)) h (ns.set i (.slice b n d)):=by
 subst hn;obtain ⟨a,c,e⟩:=H.head;refine ⟨⟨a,c,by rw [e,length_set]⟩,by simp [H.len],fun j y v I M=>?_⟩;rw [dN] at I M
 by_cases gJ:i=j
 ·rw [ab gJ] at I M;split at I
  ·cases I;split at M
   ·cases M;exact zeq
   ·cases M
  ·cases I
 ·rw [F gJ] at I M;exact H.kid j y v I M
theorem F1:∀ {bx:List Nd} {ns:List Value} {i:Nat} {x:Nd} (ks:List Int) (y:Value),ns.length=bx.length->bx[i]?=some x->eL (List.zipWith dc bx ns) i 4 (.v y)=List.zipWith dc (bx.set i (fU x ks)) (ns.set i y)
 | [],ns,i,x,ks,y,hl,h=>by simp at h
 | n::bx,[],i,x,ks,y,hl,h=>by simp at hl
 | n::bx,v::ns,0,x,ks,y,hl,h=>by cases h;rfl
 | n::bx,v::ns,i+1,x,ks,y,hl,h=>by
  have:=F1 (bx:=bx) (ns:=ns) (i:=i) (x:=x) ks y zfR zfP;rw [zipWith_cons_cons,eL,this];rfl
theorem FU:∀ {bx:List Nd} {ns:List Value} {i:Nat} {x:Nd} (ks:List Int) (y:Value),ns.length=bx.length->bx[i]?=some x->oset (List.zipWith dB bx ns) i (.vech 3 1 (bQ ks) y)=List.zipWith dB (bx.set i (fU x ks)) (ns.set i y)
 | [],ns,i,x,ks,y,hl,h=>by simp at h
 | n::bx,[],i,x,ks,y,hl,h=>by simp at hl
 | n::bx,v::ns,0,x,ks,y,hl,h=>by cases h;rfl
 | n::bx,v::ns,i+1,x,ks,y,hl,h=>by
  have:=FU (bx:=bx) (ns:=ns) (i:=i) (x:=x) ks y zfR zfP;rw [zipWith_cons_cons,oset,this];rfl
def kr (bx:List Nd) (n:Nd) (l:List T) (k:Nat):List Nd:=bx++fU n (bh (bx.length+1) (l.take k))::bU (bx.length+1) (l.take k)
theorem Ib {bx:List Nd} {n:Nd} {l:List T} {k:Nat}:(kr bx n l k).length=bx.length+1+az (l.take k):=by
 unfold kr;rw [aM,length_cons,jA];omega
theorem VV {bx:List Nd} {n:Nd} {l:List T} {k:Nat}:(kr bx n l k)[bx.length]?=some (fU n (bh (bx.length+1) (l.take k))):=by
 unfold kr;rw [fw (aD _),jx];rfl
theorem Qf {bx:List Nd} {n:Nd} {l:List T} {k:Nat} {u:T} (h:l[k]?=some u) :
  (kr bx n l k).set bx.length (fU (fU n (bh (bx.length+1) (l.take k))) (bh (bx.length+1) (l.take k)++[(((kr bx n l k).length:Nat):Int)]))++gL (kr bx n l k).length u=kr bx n l (k+1):=by
 have jQ:l.take (k+1)=l.take k++[u]:=by rw [bS,h];rfl
 rw [Ib];unfold kr;rw [List.set_append_right _ _ (aD _),jx,List.set_cons_zero,jQ,pZ,nt];simp only [bh,bU,bO,fU,de,cons_append]
theorem SW {bx:List Nd} {n:Nd} {l:List T}:kr bx n l l.length=bx++gL bx.length (.mk n l):=by
 unfold kr fU;rw [bH,gL]
attribute [local irreducible] GW GL GO YG GC GA aW aZ
end Go.Xg
namespace Go.Xg
open Go.RowKit Go.Xw Go.Proofs Go.Im
open Go.Xp (Nd T Ar aJ az bU gL)
section
variable {P:Program} {m:Nat} {Q:dG} {fr:List GV} {Γ:List Ob} {ops:Array Oper} {rest:List Oper} {d:Option Tmp} {op:Op} {ty:TypeId} {pos:String} {af:Array Edge}
theorem Fm:∀ (fr:List GV) (t:Nat) (a b:GV),bp (bp fr t a) t b=bp fr t b
 | [],t,a,b=>rfl
 | x::fr,0,a,b=>rfl
 | x::fr,t+1,a,b=>by simp only [bp,Fm fr t a b]
theorem Fj:∀ (fr:List GV) (t:Nat) (g:GV),jG fr t=true->cK (bp fr t g) t=g
 | [],t,g,h=>by cases h
 | x::fr,0,g,h=>rfl
 | x::fr,t+1,g,h=>Fj fr t g h
theorem HX:∀ (fr:List GV) (t u:Nat) (g:GV),jG (bp fr t g) u=jG fr u
 | [],t,u,g=>rfl
 | x::fr,0,0,g=>rfl
 | x::fr,0,u+1,g=>rfl
 | x::fr,t+1,0,g=>rfl
 | x::fr,t+1,u+1,g=>HX fr t u g
theorem GL.Rw {s x:Operand} {t e k iP:Nat} [hT:qd P t e k iP] {i fz:Nat} {dt:Tmp} {news:List (List GV)} (hx:be fr x=.sl k news) (hs:be fr s=.vec i 0) (bJ:Γ[i]?=some (.vec e k fz [])) (I:kC news=true) (eZ:jG fr dt=true)
  (hb:0+news.length<=9223372036854775807/\(0+news.length) * iP<=140737488355328)
  (h:GL P m ops Q rest (bC fr (some dt) (.sl k news)) (oset Γ i (.vec e k news.length news))) :
  GL P m ops Q (⟨some dt,.call ⟨.builtin .append,#[s,x],#[t,t]⟩,ty,pos,af,none⟩::rest) fr Γ:=by
 refine GL.AH hx hs bJ rfl I hb ?_;have hi:=(bq bJ).1;refine GL.wk (Wk.iy (t:=dt) (i:=i) (n:=0+news.length) (E:=e) (k:=k) (fz:=fz) (rows:=[]++news) (Fj fr dt _ eZ) (by show jG (bp fr dt _) dt=true;rw [HX];exact eZ) ?_ zfL) ?_
 ·rw [bg,dN,ab rfl,ab hi]
 ·show GL P m ops Q rest (bp (bp fr dt _) dt _) _;rw [Fm,bg,bg,set_set,nil_append,cL,<-bg];exact h
end
open Tryz
open GV (U)
open Go.Xp (bK jA sT bh pZ nt jE km kl)
section
variable {P:Program} {m:Nat} {Q:dG} {fr:List GV} {Γ:List Ob} {ops:Array Oper} {rest:List Oper} {d:Option Tmp} {op:Op} {ty:TypeId} {pos:String} {af:Array Edge}
theorem GL.aad {t:TypeId} {z:Value} {agg:Bool} {k:Nat} [hZ:rL P t z] [hT:Ty P t agg k] {dt ts d3 u:Tmp} {cs:List GV} {Zj ty3:TypeId} {S6 ab2:String} {WN af3:Array Edge} {d2:Option Tmp} (PH:z.cells.size=k) (hy:nu (cK fr ts)=some cs) (cn:(Nat.beq ts dt || Nat.beq ts d3 || Nat.beq d3 dt || Nat.beq u dt)=false) (eZ:jG fr dt=true) (hk:cs.length=k) (I:np cs=true) (hp:pE cs=true)
  (h:GL P m ops Q rest (bC (bC (bC fr (some dt) (.box cs 0)) (some d3) (cK fr u)) d2 (.v undef)) Γ):GL P m ops Q (⟨some dt,.alloc t,ty,pos,af,none⟩::⟨some d3,.assign (.tmp u),ty3,ab2,af3,none⟩::⟨d2,.store t (.tmp dt) (.tmp ts),Zj,S6,WN,none⟩::rest) fr Γ:=fun B K β w l hm hI hF=>by
 refine WL.alloc (z:=z) fun b w1 hn=>?_
 obtain ⟨us,kA,kZ⟩:=(hF.nth ts).cells hy;simp only [Bool.or_eq_false_iff] at cn;obtain ⟨⟨⟨n1,n2⟩,n3⟩,n4⟩:=cn
 have Dh:ts≠dt:=by intro e;subst e;simp at n1
 have b8:ts≠d3:=by intro e;subst e;simp at n2
 have Pt:d3≠dt:=by intro e;subst e;simp at n3
 have XY:u≠dt:=by intro e;subst e;simp at n4
 refine WL.v R.xb ?_;have uG:ev (put l (some dt) (.pointer (some ⟨b,0,none⟩))) (.tmp u)=nth l u:=ki XY _;rw [uG];have PF:ev (put (put l (some dt) (.pointer (some ⟨b,0,none⟩))) (some d3) (nth l u)) (.tmp ts)=nth l ts:=(ki b8 _).trans (ki Dh _);have zZ:ev (put (put l (some dt) (.pointer (some ⟨b,0,none⟩))) (some d3) (nth l u)) (.tmp dt)=.pointer (some ⟨b,0,none⟩):=(ki (fun e=>Pt e.symm) _).trans (td (nC hF eZ) _)
 have zY:us.length=k:=by rw [kZ.1,hk]
 refine WL.st (t:=t) (k:=k) zZ PF hn.blk zgB G zge fun w2 hs=>?_
 have cq:vL z.cells 0 us=us.toArray:=by
  exact zc7
 rw [kA,List.toList_toArray,cq] at hs;have zQ:vV w w2 b (.cells us.toArray t):=⟨hn.fresh,by rw [hs.size];exact hn.size,hs.blk,hn.ext.step hs.ext fun j hj=>.inl (by subst hj;rw [hn.fresh];exact aD _)⟩;obtain ⟨hle,bz⟩:=hI.tS zQ kZ (mc hp);exact h B _ β w2 _ hm bz ((((hF.mono hle (dF.refl β)).put (some dt) (Rel.box (K:=l0 K b cs) (β:=β) b 0 0 cs (fun j g hg=>by rw [cL];exact uO hg))).put (some d3) ((hF.nth u).mono hle (dF.refl β))).put d2 (.v _))
end
def Al (β:Bt) (f:Nat->Nat) (N:Nat):Bt:=fun i=>if i < N then β (f i) else .no
section
variable {m n:Nat} {fr:List GV} {Γ Δ:List Ob} {f:Nat->Nat}
theorem Wk.perm (hm:m<=n) (hn:n<=Δ.length) (hf:∀ i,i < n->f i=i) (hi:∀ i j,i < Δ.length->j < Δ.length->f i=f j->i=j) (hx:∀ (i:Nat) x,Δ[i]?=some x->Γ[f i]?=some x/\(n<=i->x.iJ=true)) (hl:xK n (Γ.take n)=true):Wk m fr Γ (G2 n fr) Δ:=fun B K β w l hB hI hF=>by
 have h:=hI.cut (n:=n) G hl
 have hle:dF (gi (below n) β) (Al β f Δ.length):=fun i=>by
  by_cases eZ:i < n
  ·rw [im (uP eZ)];unfold Al;rw [ab G,hf i eZ];exact sM.refl _
  ·rw [tg (xc G)];trivial
 have hb:∀ i b,(Al β f Δ.length i).blk=some b->i < Δ.length/\(β (f i)).blk=some b:=fun i b hi=>by
  unfold Al at hi;split at hi
  ·rename_i h;exact ⟨h,hi⟩
  ·cases hi
 refine ⟨K,Al β f Δ.length,⟨h.ext,h.kle,h.ble.trans hle,h.loc,h.fz,fun i x zZ=>?_,fun i I=>?_,fun i j b I M=>?_,fun i b I=>?_,h.kn,⟨h.tab.le,h.tab.pow,h.tab.spc,fun i b I=>?_⟩⟩,(hF.res).mono (cV.refl K) hle⟩
 ·obtain ⟨I,M⟩:=hx i x zZ;have sG:=(bq zZ).1
  have Ye:Al β f Δ.length i=β (f i):=by unfold Al;rw [ab sG]
  by_cases eZ:i < n
  ·rw [hf i eZ] at I Ye;exact (h.ob i x (by rw [List.getElem?_take,ab eZ];exact I)).ext (S:=iD) (Ext.refl w) (fun _ _ h=>h) (cV.refl K) hle (by rw [Ye,im (uP eZ)]) (fun _ _ _ h=>h)
  ·have h3:=M G
   cases x with
   | vech E k rows v =>
    obtain ⟨xs,e1,e2,e3,e4,e5⟩:=hI.ob _ _ I;exact ⟨xs,by rw [Ye];exact e1,e2,e3.pE e4.flat,e4,e5⟩
   | _=>cases h3
 ·unfold Al;rw [F G]
 ·obtain ⟨a1,a2⟩:=hb i b I;obtain ⟨b1,b2⟩:=hb j b M;exact hi i j a1 b1 (hI.dis _ _ b a2 b2)
 ·exact hI.own _ b (hb i b I).2
 ·exact hI.tab.free _ b (hb i b I).2
end
theorem Wk.move {m:Nat} {fr:List GV} {Γ:List Ob} (A C:List Ob) {x:Ob} (bJ:Γ=A++(C++[x])) (hm:m<=A.length) (hA:xK A.length A=true) (hC:∀ y∈C,y.iJ=true) (hx:x.iJ=true):Wk m fr Γ (G2 A.length fr) (A++x::C):=by
 subst bJ;refine Wk.perm (n:=A.length) (f:=fun i=>if i < A.length then i else if i=A.length then A.length+C.length else i - 1) hm zfL (fun i h=>by simp [h]) (fun i j I M h=>?_) (fun i y hy=>?_) (by rw [List.take_left];exact hA)
 ·simp only [aM,length_cons] at I M
  try simp only at h
  split at h <;> split at h <;> (try split at h) <;> (try split at h) <;> omega
 ·by_cases I:i < A.length
  ·rw [eR I] at hy;refine ⟨?_,fun h=>by omega⟩;simp only [I,if_true];rw [eR I];exact hy
  ·rw [fw G] at hy
   by_cases M:i=A.length
   ·subst M;rw [jx] at hy;cases hy;refine ⟨?_,fun _=>hx⟩;simp only [Nat.lt_irrefl,if_false,if_true];rw [fw G,Nat.add_sub_cancel_left,fw (aD _),jx];rfl
   ·obtain ⟨j,rfl⟩:∃ j,i=A.length+(j+1):=⟨i - A.length - 1,by omega⟩;rw [Nat.add_sub_cancel_left,getElem?_cons_succ] at hy;have hj:=(bq hy).1;refine ⟨?_,fun _=>hC y (br hy)⟩;simp only [I,M,if_false];rw [show A.length+(j+1) - 1=A.length+j by omega,fw G,Nat.add_sub_cancel_left,eR hj];exact hy
theorem Wk.aab {m:Nat} {fr:List GV} {a b c d e x:Ob} (acM C:List Ob) (hm:m<=acM.length+5) (I:sL (below (acM.length+5)) [a,b,c,d,e]=true) (M:∀ q,sL q acM=true) (hC:∀ y∈C,y.iJ=true) (hx:x.iJ=true):Wk m fr (a::b::c::d::e::((acM++C)++[x])) (G2 (acM.length+5) fr) (a::b::c::d::e::(acM++x::C)) :=
 Wk.move (a::b::c::d::e::acM) C zfL hm (by show sL (below (acM.length+5)) ([a,b,c,d,e]++acM)=true;rw [Lp,I,M];rfl) hC hx
theorem GL.RB {P:Program} {m:Nat} {Q:dG} {fr:List GV} {ops:Array Oper} {rest:List Oper} {dt:Option Tmp} {ty:TypeId} {pos:String} {af:Array Edge} {f:FuncId} [hf:aK P f] {a b c d e x:Ob} (acM X:List Ob) {args:List Operand} {mG:Array TypeId} {gs:List GV} {R:GV->List Ob->Prop} (hc:GC P f gs X R) (hX:∀ x∈X,x.iJ=true) (Pn:∀ r,Go.Xg.l7 r gs=gs) (ha:ly (args.map (be fr)) gs)
  (h:∀ g Δ,R g Δ->X.length<=Δ.length/\(∀ x∈Δ,x.iJ=true)/\(∀ r,ey r g=g)/\GL P m ops Q rest (bC fr dt g) (a::b::c::d::e::(acM++x::Δ))) :
  GL P m ops Q (⟨dt,.call ⟨.value (.func f),args.toArray,mG⟩,ty,pos,af,none⟩::rest) fr (a::b::c::d::e::(acM++x::X)) :=
 GL.Kb (a::b::c::d::e::(acM++[x])) X hc zfL hX Pn ha fun g Δ hr=>by
  obtain ⟨I,M,h3,h4⟩:=h g Δ hr;exact ⟨I,M,h3,by simpa using h4⟩
attribute [local irreducible] GW GL GO YG GC GA aW aZ
theorem SA:∀ (N:Nat) (t:T),aJ t<=N->∀ (n:Nat) (rows:List (List GV)) (a:Option Addr) (c:Nat),rows.length=n->n+aJ t<=1099511627776 ->
  GC prog 28 [.v (.slice a n c),.agg (cT t)] [.vech 62 5 rows (.slice a n c)] fun g Δ=>∃ a c,g=.v (.slice a (n+aJ t) c)/\Δ=[.vech 62 5 (rows++(gL n t).map ay) (.slice a (n+aJ t) c)]:=by
 intro N
 induction N with
 | zero=>intro t h;exact zcN
 | succ N ih =>
 intro t hN n rows a c hn hb;subst hn;rw [Go.Xp.eB] at hN hb;have nB:=bK t.kids;have dJ:(aQ t.kids).length=t.kids.length:=aX t.kids;refine c8 func28 ntmps28 ?_;refine zaw ?_;refine zb2 ?_;intro a c;refine zaM ?_;refine GW.wk ((Wk.cut (n:=1) (aD _) rfl).trans (Wk.iN 3 1)) ?_;simp only [take_succ_cons,take_zero,cons_append,nil_append]
 refine GW.range (aQ t.kids).length (fun k fr Γ=>∃ a c a2 c2,fr=[.v (.slice a (rows.length+1+az (t.kids.take k)) c),U,U,.box (cT t) 0,U,.v (ii (rows.length:Nat)),U,U,U,U,U,U,U,U,U,U,U,U,U,.sl 6 (aQ t.kids),.v (ii ((aQ t.kids).length:Int)),.v (ii (k:Nat)),U,U,U,U,U,U,U,U,U,U,U,U,U,U,U,U,U,U,U,U,U] /\
  Γ=[.vech 62 5 (rows++[.v (ii t.n.kind),.v (ii t.n.at_),.v (ii t.n.n),.v (sv t.n.s),.v (.slice a2 k c2)]::(bU (rows.length+1) (t.kids.take k)).map ay) (.slice a (rows.length+1+az (t.kids.take k)) c),.vech 3 1 ((bh (rows.length+1) (t.kids.take k)).map fun z=>[.v (ii z)]) (.slice a2 k c2)]) ?_ G ?_ ?_ ?_
 ·exact ⟨_,_,Wk.aC ak,a,c,none,0,rfl,rfl⟩
 ·rintro k _ _ ⟨a,c,a2,c2,rfl,rfl⟩;exact dp
 ·rintro k _ _ aj ⟨a,c,a2,c2,rfl,rfl⟩;rw [dJ] at aj;obtain ⟨kid,lg⟩:∃ kid,t.kids[k]?=some kid:=⟨t.kids[k],by simp [aj]⟩;have hr:=db lg;have cX:=km lg;have hle:=kl t.kids (k+1)
  have jQ:t.kids.take (k+1)=t.kids.take k++[kid]:=by rw [bS,lg];rfl
  have hX:((bU (rows.length+1) (t.kids.take k)).map ay).length=az (t.kids.take k):=by rw [bV,jA]
  have Fv:((bh (rows.length+1) (t.kids.take k)).map fun z=>[GV.v (ii z)]).length=k:=by rw [bV,Go.Xp.c6,du];omega
  rw [jQ,pZ,nt,jE];simp only [bh,bU,az,bO,Nat.add_zero,kK,List.map_cons,List.map_nil,<-gn]
  have vr:=fun (rs:List (List GV)) a c h=>ih kid G (rows.length+1+az (t.kids.take k)) rs a c h G
  generalize (bU (rows.length+1) (t.kids.take k)).map ay=X at *;generalize ((bh (rows.length+1) (t.kids.take k)).map fun z=>[GV.v (ii z)])=ks at *;generalize az (t.kids.take k)=s at *;subst Fv
  have gM:∀ r:List GV,(rows++r::X).length=rows.length+1+s:=fun r=>by simp;omega
  have bI:∀ r:List GV,(rows++r::X)[rows.length]?=some r:=fun r=>by simp
  have fK:=gM [.v (ii t.n.kind),.v (ii t.n.at_),.v (ii t.n.n),.v (sv t.n.s),.v (.slice a2 ks.length c2)];have bI:=bI [.v (ii t.n.kind),.v (ii t.n.at_),.v (ii t.n.n),.v (sv t.n.s),.v (.slice a2 ks.length c2)];refine zab ?_;refine GL.gh 1 rfl rfl rfl rfl rfl rfl rfl rfl bc ju ?_;intro a3 c3;exact za6
 ·rintro _ _ ⟨a,c,a2,c2,rfl,rfl⟩;rw [dJ,bH];rw [Go.Xp.eB,Go.Xp.Hc];have rV:ints (bh (rows.length+1) t.kids)=.sl 1 ((bh (rows.length+1) t.kids).map fun z=>[GV.v (ii z)]):=rfl
  have Fv:((bh (rows.length+1) t.kids).map fun z=>[GV.v (ii z)]).length=t.kids.length:=by rw [bV,Go.Xp.c6]
  rw [List.map_cons];unfold ay;rw [rV,show rows.length+(az t.kids+1)=rows.length+1+az t.kids by omega];generalize (bU (rows.length+1) t.kids).map _=X at *;generalize ((bh (rows.length+1) t.kids).map fun z=>[GV.v (ii z)])=ks at *;generalize az t.kids=s at *
  have bI:∀ r:List GV,(rows++r::X)[rows.length]?=some r:=fun r=>by simp
  refine aY ?_;refine GW.wk (Wk.Gv (i:=0) (idx:=rows.length) (o:=4) (j:=1) rfl (bI _) rfl rfl rfl) ?_;rw [yR];simp only [bp];refine zc5 ?_;exact zdP
open Go.Sp (Src)
theorem OL:∀ (N:Nat) (t:T),aJ t<=N->∀ (bx:List Nd) (h:Value) (ns:List Value),zo bx h ns->bx.length+aJ t<=8388608 ->
  GC prog 126 [.v h,qT t] (iw bx h ns) fun g Δ=>∃ h' sf,zo (bx++gL bx.length t) h' sf/\g=.v h'/\Δ=iw (bx++gL bx.length t) h' sf:=by
 intro N
 induction N with
 | zero=>intro t h;exact zcN
 | succ N ih =>
 intro t hN bx h ns H hb
 cases t with
 | mk n l =>
 rw [Go.Xp.aJ] at hN hb;have nB:=bK l;have dJ:(ke l).length=l.length:=mb l;have eU:=p7 H;have py:=H.len;obtain ⟨a0,c0,rfl⟩:=H.head
 have nc:(List.zipWith dc bx ns).length=bx.length:=by rw [mJ];omega
 have hOl:(List.zipWith dB bx ns).length=bx.length:=by rw [mJ];omega
 have hsn:=fun (y h:Value)=>JN py (fU n []) y h
 have hHs:=fun (a:Option Addr) (c:Nat)=>H.snoc (fU n []) (a:=a) (c:=c) (b:=none) (d:=0)
 refine c8 func126 ntmps126 ?_;rw [eU];unfold iw;generalize List.zipWith dc bx ns=R at *;generalize List.zipWith dB bx ns=O at *;refine D ?_;refine GL.gh 0 rfl rfl rfl rfl rfl rfl rfl rfl nc ju ?_;intro a1 c1;refine zaM ?_;refine GW.wk (Wk.iN 3 1) ?_;refine GW.range (ke l).length (fun k fr Γ=>∃ h' sf,fr=[.v h',qT (.mk n l),U,U,U,.v (ii (bx.length:Nat)),U,U,U,U,U,U,U,U,U,U,U,U,U,U,.sl 1 (ke l),.v (ii ((ke l).length:Int)),.v (ii (k:Nat)),U,U,U,U,U,U,U,U,U,U,U,U,U,U,U,U,U,U,U,U,U]/\zo (kr bx n l k) h' sf/\Γ=iw (kr bx n l k) h' sf) ?_ G ?_ ?_ ?_
 ·have e0:kr bx n l 0=bx++[fU n []]:=by unfold kr;rw [take_zero];rfl
  rw [e0];refine ⟨_,_,Wk.aC ak,_,ns++[.slice none 0 0],rfl,hHs a1 c1,?_⟩;rw [hsn];rfl
 ·rintro k _ _ ⟨h',sf,rfl,_,rfl⟩;exact dp
 ·rintro k _ _ aj ⟨h',sf,rfl,HM,rfl⟩;rw [dJ] at aj;obtain ⟨u,hu⟩:∃ u,l[k]?=some u:=⟨l[k],by simp [aj]⟩;have hr:=Ao hu;have cX:=lN hu;have O9:=Ib (bx:=bx) (n:=n) (l:=l) (k:=k);have KD:=VV (bx:=bx) (n:=n) (l:=l) (k:=k);have hMn:=Qf (bx:=bx) (n:=n) hu;rw [<-hMn];obtain ⟨a2,c2,rfl⟩:=HM.head;have X4:=HM.len;obtain ⟨y,hy⟩:∃ y,sf[bx.length]?=some y:=⟨sf[bx.length]'G,dq _⟩;obtain ⟨a3,c3,rfl⟩:=HM.kid _ _ _ KD hy
  have jJ:=fun (a:Option Addr) (c:Nat)=>HM.put KD (bh (bx.length+1) (l.take k)++[(((kr bx n l k).length:Nat):Int)]) (b:=a) (d:=c) (n:=(bh (bx.length+1) (l.take k)).length+1) zfL
  have hrk:=fun (y:Value)=>F1 (bh (bx.length+1) (l.take k)++[(((kr bx n l k).length:Nat):Int)]) y X4 KD
  have fo:=fun (y:Value)=>FU (bh (bx.length+1) (l.take k)++[(((kr bx n l k).length:Nat):Int)]) y X4 KD
  have bI:(List.zipWith dc (kr bx n l k) sf)[bx.length]?=some (dc (fU n (bh (bx.length+1) (l.take k))) (.slice a3 (bh (bx.length+1) (l.take k)).length c3)):=by rw [getElem?_zipWith,KD,hy];rfl
  have lg:(List.zipWith dB (kr bx n l k) sf)[bx.length]?=some (.vech 3 1 (bQ (bh (bx.length+1) (l.take k))) (.slice a3 (bh (bx.length+1) (l.take k)).length c3)):=by rw [getElem?_zipWith,KD,hy];rfl
  have uB:bx.length < (List.zipWith dc (kr bx n l k) sf).length:=by rw [mJ];omega
  have fB:(bQ (bh (bx.length+1) (l.take k))).length=(bh (bx.length+1) (l.take k)).length:=by simp [bQ]
  have nP:bQ (bh (bx.length+1) (l.take k)++[(((kr bx n l k).length:Nat):Int)])=bQ (bh (bx.length+1) (l.take k))++[[.v (ii ((kr bx n l k).length:Nat))]]:=by simp [bQ]
  have po:(bh (bx.length+1) (l.take k)).length<=8388608:=by
   rw [Go.Xp.c6,du];omega
  rw [nP] at fo
  have vr:=fun (h:Value) (FN:List Value) H2=>ih u G ((kr bx n l k).set bx.length (fU (fU n (bh (bx.length+1) (l.take k))) (bh (bx.length+1) (l.take k)++[(((kr bx n l k).length:Nat):Int)]))) h FN H2 (by rw [length_set];omega)
  rw [length_set] at vr;unfold iw;generalize Fv:bh (bx.length+1) (l.take k)=ks at *;generalize hM:kr bx n l k=acL at *;generalize Xy:acL.set bx.length (fU (fU n ks) (ks++[((acL.length:Nat):Int)]))=M2 at *
  have ZO:∀ x:Ob,(x::List.zipWith dB acL sf)[bx.length+1]?=some (.vech 3 1 (bQ ks) (.slice a3 ks.length c3)):=fun x=>lg
  generalize List.zipWith dB acL sf=O2 at *;generalize List.zipWith dc acL sf=R2 at *;unfold dc fU at bI;refine D ?_;refine GL.gh (bx.length+1) rfl rfl rfl rfl rfl rfl rfl (ZO _) fB ju ?_;intro a4 c4;refine uw wO (by simp only [oset];rw [fo]) ?_;refine D ?_;refine oE ?_;simp only [cL];rw [hrk];have H2:=jJ a4 c4;have gM:=p7 H2;refine D ?_;refine GL.Kb [] (iw M2 (.slice a2 acL.length c2) (sf.set bx.length (.slice a4 (ks.length+1) c4))) (vr _ _ H2) rfl n9 (fun _=>rfl) (mI) ?_;rintro _ _ ⟨h5,YK,H5,rfl,rfl⟩;have hl5:=p7 H5;rw [aM] at hl5;refine ⟨by rw [gM,hl5];omega,n9,fun _=>rfl,?_⟩;rw [nil_append];refine zaW ?_;exact ⟨rfl,rfl,_,_,Wk.aC ak,h5,YK,rfl,H5,rfl⟩
 ·rintro _ _ ⟨h',sf,rfl,HM,rfl⟩;rw [dJ] at HM |-;rw [SW] at HM |-;have aby:=p7 HM;refine aY ?_;unfold iw;refine zdA ?_;refine rR (n:=(iw (bx++gL bx.length (.mk n l)) h' sf).length) rfl cJ rfl (by rw [aby,aM];omega) ?_ rfl ?_
  ·show xK _ (List.take _ (iw _ _ _))=true;rw [bH];exact EA n9
  ·show ∃ M FN,_/\_/\List.take _ (iw _ _ _)=_;rw [bH];exact ⟨h',sf,HM,rfl,rfl⟩
theorem WS:∀ (N:Nat) (t:T),aJ t<=N->aJ t<=1099511627776->GF prog 127 [uT t] [] (qT t) []:=by
 intro N
 induction N with
 | zero=>intro t h;exact zcN
 | succ N ih =>
 intro t hN hb;have nB:=bK t.kids;have dJ:=rF t.kids;rw [Go.Xp.eB] at hN hb;refine ah func127 ntmps127 ?_;refine GW.wk (Wk.Ez (i:=0) (o:=5) 131 1 rfl rfl) ?_;simp only [bp,oset,cons_append,nil_append]
 refine GW.range (cw t.kids).length (fun k fr Γ=>∃ m R,fr=[uT t,U,U,.loc 0 0,U,U,U,U,U,U,U,U,U,U,U,U,U,U,U,.sl 1 (cw t.kids),.v (ii ((cw t.kids).length:Int)),.v (ii (k:Nat)),U,U,U,U,U,U,U,U,U,U,U,U,U,U,U,U] /\
  Γ=[.box 170 [.v (ii t.n.kind),.v (ii t.n.at_),.v (ii t.n.n),.v (sv t.n.s),.v (.slice none 0 0),.vec 1 m],.vec 131 1 0 R]/\R.length=m/\R=ke (t.kids.take k)) ?_ G ?_ ?_ ?_
 ·exact ⟨_,_,Wk.aC ak,0,[],rfl,rfl,rfl,rfl⟩
 ·rintro k _ _ ⟨m,R,rfl,rfl,_⟩;exact dp
 ·rintro k _ _ aj ⟨m,R,rfl,rfl,hm,hR⟩;rw [dJ] at aj;obtain ⟨u,hu⟩:∃ u,t.kids[k]?=some u:=⟨t.kids[k],by simp [aj]⟩;have hr:=sq hu;have cX:=lN hu;have vr:=ih u G G
  have rX:m<=1099511627776:=by rw [<-hm,hR,mb,du];omega
  have ox:ke (t.kids.take (k+1))=R++[[qT u]]:=by rw [bS,hu,hR,gR,gR,kK];rfl
  refine D ?_;refine zcG ?_;refine aI [] vr ?_;refine zay ?_;refine tw ?_;refine bo ?_;exact ⟨rfl,rfl,_,_,Wk.aC ak,_,_,rfl,rfl,by simp [hm],ox.symm⟩
 ·rintro _ _ ⟨m,R,rfl,rfl,hm,hR⟩;rw [dJ,bH] at hR;subst hR;refine aY ?_;refine GW.wk (Wk.wK (i:=0) (o:=5) (j:=1) rfl rfl rfl rfl hm) ?_;refine GW.wk (Wk.freeze (i:=0) rfl rfl rfl (aD _)) ?_;exact ax
theorem Jx (gs:List Go.Xp.ae) (ux:List Ar) (fs:List Go.Sp.Fn) (ls:List T) (hl:fs.length=ls.length) (I:gs.length<=8388608) (M:ux.length<=8388608) (h3:fs.length<=8388608) (h4:az ls<=8388608) (hp:∀ f∈fs,f.params.length<=8388608) :
  GC prog 67 [strs gs,.sl 2 (ux.map aB),.sl 3 (fs.map au),.sl 1 (cw ls)] [] fun g Δ=>∃ hg ha hf hn hs ns,sO (AY gs ux fs ls) hg ha hf hn hs ns/\g=.agg [.v hg,.v ha,.v hf,.v hn]/\Δ=iz (AY gs ux fs ls) hg ha hf hn hs ns:=by
 have BB:(bb gs).length=gs.length:=kT gs
 have Bw:(ux.map aB).length=ux.length:=by simp
 have zO:(fs.map au).length=fs.length:=by simp
 have lW:kC (bb gs)=true:=pC gs;have ha1:=Lr ux;have e3:strs gs=.sl 1 (bb gs):=rfl;rw [e3];refine c8 func67 ntmps67 ?_;refine zcU ?_;simp only [nil_append,cons_append];refine D ?_;refine GL.vZ 0 rfl rfl rfl rfl lW (by rw [BB];refine ⟨?_,?_⟩ <;> omega) ?_;intro ag cg;rw [BB];refine zaS ?_;refine GL.vZ 1 rfl rfl rfl rfl ha1 (by rw [Bw];refine ⟨?_,?_⟩ <;> omega) ?_;intro aa ca;rw [Bw];refine zaS ?_;refine zfa ?_
 try simp only [nil_append,cons_append]
 generalize Xs:Ob.vech 9 1 (bb gs) (.slice ag gs.length cg)=G0 at *;generalize KB:Ob.vech 56 2 (ux.map aB) (.slice aa ux.length ca)=A0 at *
 have hGk:∀ q,Ob.ok q G0=true:=fun q=>by rw [<-Xs];rfl
 have hAk:∀ q,Ob.ok q A0=true:=fun q=>by rw [<-KB];rfl
 refine GW.range (fs.map au).length (fun k fr Γ=>∃ af cf hs hn ns,fr=[U,U,U,.sl 1 (cw ls),U,U,U,U,.loc 2 0,.loc 3 0,U,U,U,U,U,U,U,.sl 3 (fs.map au),.v (ii ((fs.map au).length:Int)),.v (ii (k:Nat)),U,U,U,U,U,U,U,U,U,U,U,U,U,U,U,U,U,U,U,U,U,U,U,U,U,U,U,U,U]/\hs.length=k/\(∀ (i:Nat) x y,(fC 0 (fs.take k) (ls.take k))[i]?=some x->hs[i]?=some y->Hd x.params.length y)/\zo (bU 0 (ls.take k)) hn ns /\
  Γ=G0::A0::.box 33 [.v (.slice none 0 0),.v (.slice none 0 0),.v (.slice none 0 0),.v (.slice none 0 0)]::.box 33 [.v (.slice ag gs.length cg),.v (.slice aa ux.length ca),.v (.slice af k cf),.v hn]::.vech 58 3 (List.zipWith gB (fC 0 (fs.take k) (ls.take k)) hs) (.slice af k cf)::(List.zipWith gA (fC 0 (fs.take k) (ls.take k)) hs++iw (bU 0 (ls.take k)) hn ns)) ?_ G ?_ ?_ ?_
 ·exact ⟨_,_,Wk.aC ak,none,0,[],.slice none 0 0,[],rfl,rfl,(fun i x y _ h=>by simp at h),⟨⟨none,0,rfl⟩,rfl,fun i x y h=>by simp [bU] at h⟩,rfl⟩
 ·rintro k _ _ ⟨af,cf,hs,hn,ns,rfl,_,_,_,rfl⟩;exact dp
 ·rintro k _ _ aj ⟨af,cf,hs,hn,ns,rfl,lF,KP,HM,rfl⟩;rw [zO] at aj;obtain ⟨f,hf⟩:∃ f,fs[k]?=some f:=⟨fs[k],by simp [aj]⟩;obtain ⟨t,ht⟩:∃ t,ls[k]?=some t:=⟨ls[k]'G,dq _⟩;have hr:=vJ hf;have Py:=sq ht;have cW:=hp f (br hf);have hz:=km ht;have hle:=kl ls (k+1)
  have hlk:(fs.take k).length=(ls.take k).length:=by rw [du,du,hl]
  have O8:=rZ (fs.take k) (ls.take k) 0 hlk;rw [du,Nat.min_eq_left G] at O8;have Ud:(bU 0 (ls.take k)).length=az (ls.take k):=jA _ _
  have hJn:fC 0 (fs.take (k+1)) (ls.take (k+1))=fC 0 (fs.take k) (ls.take k)++[⟨f.name,f.params,(((bU 0 (ls.take k)).length:Nat):Int)⟩]:=by
   rw [bS,bS,hf,ht];have:=wZ f t (fs.take k) (ls.take k) 0 hlk;rw [cL] at this;rw [Ud];exact this
  have hNn:bU 0 (ls.take (k+1))=bU 0 (ls.take k)++gL (bU 0 (ls.take k)).length t:=by
   rw [bS,ht,show (some t).toList=[t] from rfl,nt,bU,bU,bO,cL,Ud]
  have hB:=WS _ t (aD _) G
  have xn:=fun hn ns H=>OL _ t (aD _) (bU 0 (ls.take k)) hn ns H G
  have eW:=pC f.params
  have sH:(f.params.map fun s=>[GV.v (sv s)]).length=f.params.length:=by simp
  rw [hJn,hNn];clear hJn hNn;generalize fC 0 (fs.take k) (ls.take k)=J at *;generalize bU 0 (ls.take k)=N at *
  have hNb:N.length<=8388608:=by omega
  have nc:(List.zipWith gB J hs).length=k:=by rw [mJ];omega
  have hZR:∀ x y,List.zipWith gB (J++[x]) (hs++[y])=List.zipWith gB J hs++[gB x y]:=fun x y=>zipWith_append G
  have hZO:∀ x y,List.zipWith gA (J++[x]) (hs++[y])=List.zipWith gA J hs++[gA x y]:=fun x y=>zipWith_append G
  have hFH:∀ x∈List.zipWith gA J hs,x.iJ=true:=kV (fun _ _=>rfl)
  have hFk:∀ q,sL q (List.zipWith gA J hs)=true:=fun q=>EA hFH
  have hNH:∀ x∈iw N hn ns,x.iJ=true:=n9;obtain ⟨n0,n1,rfl⟩:=HM.head;generalize List.zipWith gB J hs=R at *;generalize List.zipWith gA J hs=FO at *;generalize hX:FO++iw N (.slice n0 N.length n1) ns=X
  have wj:∀ a b c d e x:Ob,(a::b::c::d::e::(X++[x]))[X.length+5]?=some x:=fun a b c d e x=>o5e a b c d e x X []
  have bW:∀ a b c d e x y:Ob,oset (a::b::c::d::e::(X++[x])) (X.length+5) y=a::b::c::d::e::(X++[y]):=fun a b c d e x y=>o5f a b c d e x y X []
  refine GW.wk (Wk.iN 9 1) ?_;simp only [cons_append];unfold au at hr;refine jZ ?_;refine GL.aad rfl rfl rfl rfl rfl rfl rfl ?_;refine zaW ?_;refine aL (aE 0 6 (aE 7 3 (.a 6 (.q 10 (.a 11 (.a 12 (.q 13 (.a 14 .nil)))))))) ?_;refine zcC ?_;refine GL.vZ (X.length+5) rfl rfl (wj _ _ _ _ _ _) rfl eW (by rw [sH];refine ⟨?_,?_⟩ <;> omega) ?_;intro a1 c1;rw [sH];simp only [nil_append,length_nil,cL];rw [bW];refine zfr ?_;refine zay ?_;refine OA rfl rfl (GL.qP 4 rfl rfl rfl bc rfl rfl (by refine ⟨?_,?_⟩;(· show _+1<=_;omega);(· show (_+1) * _<=_;omega)) ?_);intro a2 c2;refine cD ?_;rw [nc];refine bo ?_;subst hX;refine GW.wk ((Wk.aab FO (iw N (.slice n0 N.length n1) ns) (aO _) (by simp only [sL,hGk,hAk];rfl) hFk hNH rfl).trans (Wk.aC (cy:=[U,U,U,.sl 1 (cw ls),U,U,U,U,.loc 2 0,.loc 3 0,.v (ii (k:Nat)),U,U,U,U,U,U,.sl 3 (fs.map au),.v (ii ((fs.map au).length:Int)),.v (ii (k:Nat)),U,U,U,U,U,U,U,U,U,U,U,U,U,U,U,U,U,U,U,U,U,U,U,U,U,U,U,U,U]) ak)) ?_;simp only [cons_append];refine aL (aE 0 6 (.a 6 (.a 7 (.q 8 (.a 9 .nil))))) ?_;refine ao ?_;refine qZ [] hB ?_;simp only [bO];refine zcC ?_;refine GL.RB FO (iw N (.slice n0 N.length n1) ns) (xn _ _ HM) n9 (fun _=>rfl) (mI) ?_;rintro _ _ ⟨h5,YK,H5,rfl,rfl⟩;obtain ⟨m0,m1,rfl⟩:=id H5.head;refine ⟨by rw [p7 H5,p7 HM,aM];omega,n9,fun _=>rfl,?_⟩;refine zbh ?_;refine ⟨rfl,rfl,_,_,Wk.aC ak,a2,c2,hs++[.slice a1 f.params.length c1],_,YK,rfl,by simp [lF],?_,H5,?_⟩
  ·intro i x y e1 e2
   by_cases hi:i < k
   ·rw [eR G] at e1 e2;exact KP i x y e1 e2
   ·rw [fw G] at e1 e2;rw [O8] at e1;rw [lF] at e2
    cases hk:i - k with
    | zero=>rw [hk] at e1 e2;cases e1;cases e2;exact zeq
    | succ j=>rw [hk] at e1;simp at e1
  ·rw [hZR,hZO,de];rfl
 ·rintro _ _ ⟨af,cf,hs,hn,ns,rfl,lF,KP,HM,rfl⟩;rw [zO] at lF KP HM |-;rw [jN (show ls.length<=fs.length by omega)] at KP HM |-;rw [bH] at KP |-;refine aY ?_;have O8:=rZ fs ls 0 hl;obtain ⟨n0,n1,rfl⟩:=HM.head;refine zdA ?_;refine ZI (X:=[G0,A0]) (Y:=[_,_]) (Z:=.vech 58 3 (List.zipWith gB (fC 0 fs ls) hs) (.slice af fs.length cf)::(List.zipWith gA (fC 0 fs ls) hs++iw (bU 0 ls) (.slice n0 (bU 0 ls).length n1) ns)) rfl cJ rfl rfl rfl rfl rfl ?_ ?_ ?_
  ·intro x hx
   rcases dw hx with rfl | hx
   ·rw [<-Xs];rfl
   ·rw [oO hx,<-KB];rfl
  ·intro x hx
   rcases dw hx with rfl | hx
   ·rfl
   rcases pQ hx with hx | hx
   ·exact zb1
   ·exact n9 x hx
  ·refine ⟨_,_,_,_,hs,ns,⟨⟨ag,cg,rfl⟩,⟨aa,ca,rfl⟩,⟨af,cf,by rw [show (AY gs ux fs ls).fns.length=fs.length from O8]⟩,⟨n0,n1,rfl⟩,by rw [lF];exact O8.symm,HM.len,KP,HM.kid⟩,rfl,?_⟩;unfold iz;rw [<-Xs,<-KB];rfl
theorem Y6 (p:Src) (hw:eo p<=1048576) {l:List T} (bW:gV p l) (aw:List Int) (hb:∀ x∈aw,0<=x/\x < (p.fns.length:Int)) (hs:aw.length<=8388608) :
  GF prog 75 [.agg (ar p),ints aw] [] (.tup [.sl 3 ((dD p.fns aw).map au),.sl 1 (cw (dD l aw))]) []:=by
 obtain ⟨⟨a1,a2⟩,⟨b1,b2⟩,⟨c1,c2⟩,⟨d1,d2⟩⟩:=jD p;have hB:=ve p G (fun n h=>by have:=(d2 n h).2;omega) G;rw [bW.CW] at hB;unfold B7 at hB;have nB:=gD.len bW.fns
 have ln:∀ x∈aw,0<=x/\x < (l.length:Int):=by rw [<-nB];exact hb
 have gO:(aw.map fun i=>[GV.v (ii i)]).length=aw.length:=by simp
 generalize hz:(((az l:Nat):Int)==(p.nodes.length:Int))=z at *;refine ah func75 ntmps75 ?_;refine V [] hB ?_;refine GW.wk (Wk.w6 (t:=8) (a:=none) (c:=0) 58 3 rfl) ?_;refine GW.wk (Wk.w6 (t:=9) (a:=none) (c:=0) 131 1 rfl) ?_;simp only [bp,cons_append,nil_append,length_cons,length_nil]
 refine GW.range (aw.map fun i=>[GV.v (ii i)]).length (fun k fr Γ=>∃ R1 R2,fr=[U,U,.loc 0 0,U,U,U,.sl 1 (cw l),U,.vec 1 k,.vec 2 k,U,U,U,U,U,U,U,ints aw,.v (ii ((aw.map fun i=>[GV.v (ii i)]).length:Int)),.v (ii (k:Nat)),U,U,U,U,U,U,U,U,U,U,U,U,U,U,U,U,U,U,U,U,U] /\
  Γ=[.box 33 (ar p),.vec 58 3 0 R1,.vec 131 1 0 R2]/\R1.length=k/\R2.length=k/\R1=((dD p.fns aw).take k).map au/\R2=cw ((dD l aw).take k)) ?_ G ?_ ?_ ?_
 ·exact ⟨_,_,Wk.aC ak,[],[],rfl,rfl,rfl,rfl,rfl,rfl⟩
 ·rintro k _ _ ⟨R1,R2,rfl,rfl,_⟩;exact dp
 ·rintro k _ _ aj ⟨R1,R2,rfl,rfl,fK,gM,I,M⟩;rw [gO] at aj;obtain ⟨x,hx⟩:∃ x,aw[k]?=some x:=⟨aw[k],by simp [aj]⟩;have qE:=hb x (br hx);obtain ⟨i,rfl⟩:∃ i:Nat,x=(i:Int):=⟨x.toNat,by omega⟩;obtain ⟨f,hf⟩:∃ f,p.fns[i]?=some f:=⟨p.fns[i]'G,dq _⟩;obtain ⟨t,ht⟩:∃ t,l[i]?=some t:=⟨l[i]'G,dq _⟩;have KM:=xO hb hx;have cW:=xO ln hx;rw [lk] at KM cW;rw [hf] at KM;rw [ht] at cW;have uE:=kE hx;have hrf:=vJ hf;have Py:=sq ht
  have n1:((dD p.fns aw).take (k+1)).map au=R1++[au f]:=by rw [bS,KM,kK,<-I];rfl
  have n2:cw ((dD l aw).take (k+1))=R2++[[uT t]]:=by rw [bS,cW,M,<-EO];rfl
  rw [n1,n2];clear n1 n2 I M;unfold au at hrf |-;refine D ?_;refine zaX ?_;refine zaX ?_;exact ⟨rfl,rfl,_,_,Wk.aC ak,_,_,rfl,rfl,by simp [fK],by simp [gM],rfl,rfl⟩
 ·rintro _ _ ⟨R1,R2,rfl,rfl,fK,gM,I,M⟩;rw [gO] at fK gM I M |-;rw [jN (by rw [mW hb];exact aD _)] at I;rw [jN (by rw [mW ln];exact aD _)] at M;subst I M;refine aY ?_;refine GW.wk (Wk.iy (t:=8) rfl rfl rfl fK) ?_;refine GW.wk (Wk.iy (t:=9) rfl rfl rfl gM) ?_;exact q9
def zp (q:Src) (c:Bool) (g:GV) (Δ:List Ob):Prop:=∃ hg ha hf hn fs ns,sO q hg ha hf hn fs ns/\g=.tup [.agg [.v hg,.v ha,.v hf,.v hn],.v (.bool c)]/\Δ=iz q hg ha hf hn fs ns
theorem GW.YJ {P:Program} {fn:Func} {Q:dG} {t u:Tmp} {T:TypeId} [hT:Ty P T true 4] {i:Nat} {E:TypeId} {c:Bool} {fr:List GV} {Γ:List Ob} (hr:fn.results=#[.cell t T,.tmp u]) (hg:cK fr t=.loc i 0) (hi:i < Γ.length) (bJ:Γ[i]?=some (.box E [.v (.slice none 0 0),.v (.slice none 0 0),.v (.slice none 0 0),.v (.slice none 0 0)])) (fR:cK fr u=.v (.bool c))
  (hQ:∀ fr Γ,rQ P fn 0 (zp Go.Im.yI c) .ret fr Γ->Q .ret fr Γ):GW P 0 .ret Q fr Γ:=by
 refine zcU ?_;refine zfa ?_;simp only [de,cons_append,nil_append];refine GW.ret ?_;refine hQ _ _ ?_
 have hq:zp Go.Im.yI c (.tup [.agg [.v (.slice none 0 0),.v (.slice none 0 0),.v (.slice none 0 0),.v (.slice none 0 0)],.v (.bool c)]) [.vech 9 1 [] (.slice none 0 0),.vech 56 2 [] (.slice none 0 0),.vech 58 3 [] (.slice none 0 0),.vech 62 5 [] (.slice none 0 0)] :=
  ⟨_,_,_,_,[],[],⟨⟨none,0,rfl⟩,⟨none,0,rfl⟩,⟨none,0,rfl⟩,⟨none,0,rfl⟩,rfl,rfl,(fun i x y h=>by simp [Go.Im.yI] at h),fun i x y h=>by simp [Go.Im.yI] at h⟩,rfl,rfl⟩
 exact O1 [] Γ _ hr (.inr rfl) hg (by rw [eR hi];exact bJ) rfl rfl fR rfl (fun x h=>by cases h) SX hq
theorem NL (p:Src) (hw:eo p<=1048576) (hn:u7 p) (fn:Int) (h:rS p fn=false):GC prog 16 [.agg (ar p),.v (ii fn)] [] (zp yI false):=by
 have hH:=Ht p fn hw hn;rw [h] at hH;refine c8 func16 ntmps16 ?_;refine zaw ?_;refine V [] hH ?_;exact GW.YJ (fn:=f16) rfl rfl zfL rfl rfl (fun _ _ h=>by repeat (first | exact h | refine ml ?_ | refine mj ?_))
theorem NM (p:Src) (hw:eo p<=1048576) (hn:u7 p) {l:List T} {i:Nat} {f:Go.Sp.Fn} {t:T} (h:tN p l i f t) (hh:rS p (i:Int)=true) :
  GC prog 16 [.agg (ar p),.v (ii (i:Nat))] [] (zp (r8 p l (su p l (i:Int)) (mC p l (su p l (i:Int)))) true):=by
 have hH:=Ht p (i:Int) hw hn;rw [hh] at hH;obtain ⟨⟨a1,a2⟩,⟨b1,b2⟩,⟨c1,c2⟩,⟨d1,d2⟩⟩:=jD p;have hi:=(bq h.gf).1
 have HC:0<=(i:Int)/\(i:Int) < (p.fns.length:Int):=by omega
 have bW:=h.good.st;have hC:=Ol p hw h.good [(i:Int)] ⟨by simp,by simpa using HC⟩;have hr:=uM (l:=l) HC;have hb:=EK (l:=l) HC;rw [show jU (o8 p l [(i:Int)])=su p l (i:Int) from rfl] at hC;generalize su p l (i:Int)=aw at *
 have h0:=fun x hx=>(hb x hx).1
 have hlen:=h.good.len
 have ln:∀ x∈aw,0<=x/\x < (l.length:Int):=by rw [<-hlen];exact hb
 have lF:aw.length<=p.fns.length:=wG (sn hr) hb;have hS:=Y6 p hw bW aw hb G
 have hE:=fun (j:Nat) f t (hj:tN p l j f t) (s:List ae) eb ec (hs:s.length+aJ t<=8388608)=>Vq p 22 j f t s eb ec G (fun n hn=>by have:=(d2 n hn).2;omega) hj.gf (by have:=(c2 f (br hj.gf)).2.1;omega) hj.body hj.st (by have:=hj.sz;omega) hs
 have abN:=bW.len;have py:=Lj (p:=p) (l:=l) hr h0
 have zS:=fun k=>Lj (p:=p) (l:=l) (hr.take k) fun x hx=>h0 x (mem_of_mem_take hx)
 have gO:(aw.map fun i=>[GV.v (ii i)]).length=aw.length:=by simp
 have BB:(bb p.globals).length=p.globals.length:=kT _;have Bw:(p.arrays.map aB).length=p.arrays.length:=bV ..
 have Ho:=fun s=>kh (mC p l aw) s G
 have e3:∀ x:List Go.Xp.ae,strs x=.sl 1 (bb x):=fun _=>rfl
 have hJ:=Jx (p.globals.filter fun s=>(mC p l aw).contains s) (p.arrays.filter fun a=>(mC p l aw).contains a.name) (dD p.fns aw) (dD l aw) (by rw [mW hb,mW ln])
  (by have:=List.length_filter_le (fun s=>(mC p l aw).contains s) p.globals;omega) (by have:=List.length_filter_le (fun a:Ar=>(mC p l aw).contains a.name) p.arrays;omega) (by rw [mW hb];omega) (by have:=yV (pF (xs:=l) hr h0);omega) (fun f hf=>by have:=(c2 f ((pF hr h0).subset hf)).2.1;omega)
 rw [show AY (p.globals.filter fun s=>(mC p l aw).contains s) (p.arrays.filter fun a=>(mC p l aw).contains a.name) (dD p.fns aw) (dD l aw)=r8 p l aw (mC p l aw) from rfl] at hJ;generalize hq:r8 p l aw (mC p l aw)=q at *;refine c8 func16 ntmps16 ?_;refine zaw ?_;refine V [] hH ?_;refine zak ?_;refine iq [] hC ?_;refine GL.wk (Wk.iN 9 1) ?_;refine zfJ ?_;refine D ?_
 refine GW.range (aw.map fun i=>[GV.v (ii i)]).length (fun k fr Γ=>∃ eb ec,fr=[U,U,.box (ar p) 0,U,.loc 0 0,U,ints aw,.loc 2 0,U,U,U,U,U,U,U,U,U,U,U,U,U,U,U,U,U,U,U,ints aw,.v (ii ((aw.map fun i=>[GV.v (ii i)]).length:Int)),.v (ii (k:Nat)),U,U,U,U,U,U,U,U,U,U,U,U,U,U,U,U,U,U,U,U,U,U,U,U,U,U,U,U,U,U,U,U,U,U,U,U,U,U,U,U,U,U,U,U,U,U,U,U,U,U] /\
  Γ=[.box 33 [.v (.slice none 0 0),.v (.slice none 0 0),.v (.slice none 0 0),.v (.slice none 0 0)],.vech 9 1 (bb (mC p l (aw.take k))) (.slice eb (mC p l (aw.take k)).length ec),.box 22 [.v (.slice eb (mC p l (aw.take k)).length ec)]]) ?_ G ?_ ?_ ?_
 ·exact ⟨_,_,Wk.aC ak,none,0,rfl,rfl⟩
 ·rintro k _ _ ⟨eb,ec,rfl,rfl⟩;exact dp
 ·rintro k _ _ aj ⟨eb,ec,rfl,rfl⟩;rw [gO] at aj;obtain ⟨x,hx⟩:∃ x,aw[k]?=some x:=⟨aw[k],by simp [aj]⟩;have qE:=hb x (br hx);obtain ⟨j,rfl⟩:∃ j:Nat,x=(j:Int):=⟨x.toNat,by omega⟩;obtain ⟨g,hg⟩:∃ f,p.fns[j]?=some f:=⟨p.fns[j]'G,dq _⟩;obtain ⟨u,hu⟩:∃ t,l[j]?=some t:=⟨l[j]'G,dq _⟩;have uE:=kE hx;have KG:=h.good.fn hg hu;have I:=zS k;have M:=KG.sz;have Xq:=hE j g u KG (mC p l (aw.take k)) eb ec G;rw [TW,<-SZ hx hg hu] at Xq;unfold I3 UO at Xq;generalize mC p l (aw.take k)=s1 at *;generalize mC p l (aw.take (k+1))=s2 at *;refine D ?_;refine bP [2,1] Xq ?_;rintro _ _ ⟨rfl,eb,ec,rfl⟩;refine zax ?_;exact ⟨rfl,rfl,_,_,Wk.aC ak,eb,ec,rfl,rfl⟩
 rintro _ _ ⟨eb,ec,rfl,rfl⟩;rw [gO,bH];refine aY ?_;simp only [e3] at Ho;generalize mC p l aw=N at *;refine GW.wk (Wk.sr (i:=2) (o:=0) (j:=1) rfl rfl rfl rfl) ?_;simp only [bp,oset];refine D ?_;refine GW.wk (Wk.w6 (t:=10) (a:=none) (c:=0) 9 1 rfl) ?_;refine GW.wk (Wk.w6 (t:=11) (a:=none) (c:=0) 56 2 rfl) ?_;simp only [bp,cons_append,nil_append,length_cons,length_nil];generalize hLN:(bb N).length=LN
 refine GW.range (bb p.globals).length (fun k fr Γ=>∃ R m,fr=[U,U,.box (ar p) 0,U,.loc 0 0,U,ints aw,.loc 2 0,U,U,.vec 3 m,.vec 4 0,U,U,U,U,U,U,U,U,U,U,U,U,U,U,U,U,U,U,U,U,U,U,U,U,U,U,U,.sl 1 (bb p.globals),.v (ii ((bb p.globals).length:Int)),.v (ii (k:Nat)),U,U,U,U,U,U,U,U,U,U,U,U,U,U,U,U,U,U,U,U,U,U,U,U,U,U,U,U,U,U,U,U,U,U,U,U,U,U] /\
  Γ=[.box 33 [.v (.slice none 0 0),.v (.slice none 0 0),.v (.slice none 0 0),.v (.slice none 0 0)],.vec 9 1 LN (bb N),.box 22 [.sl 1 (bb N)],.vec 9 1 0 R,.vec 56 2 0 []]/\R.length=m/\m<=k/\R=bb ((p.globals.take k).filter fun s=>N.contains s)) ?_ G ?_ ?_ ?_
 ·exact ⟨_,_,Wk.aC ak,[],0,rfl,rfl,rfl,aO _,rfl⟩
 ·rintro k _ _ ⟨R,m,rfl,rfl,_⟩;exact dp
 ·rintro k _ _ aj ⟨R,m,rfl,rfl,hm,qA,hR⟩;rw [BB] at aj;obtain ⟨s,hs⟩:∃ s,p.globals[k]?=some s:=⟨p.globals[k],by simp [aj]⟩
  have KO:(bb p.globals)[k]?=some [.v (sv s)]:=by unfold bb;rw [aS,hs];rfl
  have hc:=Ho s;rw [wg hs]
  cases pj:N.contains s with
  | true =>
   rw [pj] at hc;refine zed ?_;clear hR;refine zaR ?_;refine zaX ?_;exact ⟨rfl,rfl,_,_,Wk.aC ak,_,_,rfl,rfl,by simp [hm],by omega,rfl⟩
  | false =>
   rw [pj] at hc;rw [F aP,bO,<-hR];clear hR;refine zaR ?_;exact ⟨rfl,rfl,_,_,Wk.aC ak,R,m,rfl,rfl,hm,by omega,rfl⟩
 rintro _ _ ⟨R,m,rfl,rfl,hm,qA,hR⟩;rw [BB,bH] at hR;rw [BB] at qA |-;refine aY ?_;refine D ?_
 refine GW.range (p.arrays.map aB).length (fun k fr Γ=>∃ R2 m2,fr=[U,U,.box (ar p) 0,U,.loc 0 0,U,ints aw,.loc 2 0,U,U,.vec 3 m,.vec 4 m2,U,U,U,U,U,U,U,U,U,U,U,U,U,U,U,U,U,U,U,U,U,U,U,U,U,U,U,U,U,U,U,U,U,U,U,U,U,U,U,U,U,U,.sl 2 (p.arrays.map aB),.v (ii ((p.arrays.map aB).length:Int)),.v (ii (k:Nat)),U,U,U,U,U,U,U,U,U,U,U,U,U,U,U,U,U,U,U,U,U,U,U] /\
  Γ=[.box 33 [.v (.slice none 0 0),.v (.slice none 0 0),.v (.slice none 0 0),.v (.slice none 0 0)],.vec 9 1 LN (bb N),.box 22 [.sl 1 (bb N)],.vec 9 1 0 R,.vec 56 2 0 R2]/\R2.length=m2/\m2<=k/\R2=((p.arrays.take k).filter fun a=>N.contains a.name).map aB) ?_ G ?_ ?_ ?_
 ·exact ⟨_,_,Wk.aC ak,[],0,rfl,rfl,rfl,aO _,rfl⟩
 ·rintro k _ _ ⟨R2,m2,rfl,rfl,_⟩;exact dp
 ·rintro k _ _ aj ⟨R2,m2,rfl,rfl,rn,HE,uz⟩;rw [Bw] at aj;obtain ⟨a,ha⟩:∃ s,p.arrays[k]?=some s:=⟨p.arrays[k],by simp [aj]⟩;have xu:=An ha;have hc:=Ho a.name;rw [wg ha]
  cases pj:N.contains a.name with
  | true =>
   rw [pj] at hc;refine zeo ?_;clear uz;unfold aB at xu |-;refine zab ?_;refine V [] hc ?_;refine zaX ?_;exact ⟨rfl,rfl,_,_,Wk.aC ak,_,_,rfl,rfl,by simp [rn],by omega,rfl⟩
  | false =>
   rw [pj] at hc;rw [F aP,bO,<-uz];clear uz;unfold aB at xu |-;refine zab ?_;refine V [] hc ?_;exact ⟨rfl,rfl,_,_,Wk.aC ak,R2,m2,rfl,rfl,rn,by omega,rfl⟩
 rintro _ _ ⟨R2,m2,rfl,rfl,rn,HE,uz⟩;rw [Bw,bH] at uz;rw [Bw] at HE |-;refine aY ?_;refine GW.wk (Wk.iy (t:=10) rfl rfl rfl hm) ?_;refine GW.wk (Wk.iy (t:=11) rfl rfl rfl rn) ?_;refine GW.wk ((Wk.cut (n:=1) aP rfl).trans (Wk.aC (cy:=[U,U,.box (ar p) 0,U,.loc 0 0,U,ints aw,U,U,U,.sl 1 R,.sl 2 R2,U,U,U,U,U,U,U,U,U,U,U,U,U,U,U,U,U,U,U,U,U,U,U,U,U,U,U,U,U,U,U,U,U,U,U,U,U,U,U,U,U,U,U,U,U,U,U,U,U,U,U,U,U,U,U,U,U,U,U,U,U,U,U,U,U,U,U,U]) ak)) ?_;simp only [take_succ_cons,take_zero];subst hR uz;rw [e3] at hJ;refine D ?_;refine V [] hS ?_;refine bP [] hJ ?_;rintro _ _ ⟨hg,ha,Dc,b8,hs,ns,H,rfl,rfl⟩;rw [xD (na q hg ha Dc b8 hs ns)];obtain ⟨⟨s0,s1,rfl⟩,⟨s2,s3,rfl⟩,⟨s4,s5,rfl⟩,⟨s6,s7,rfl⟩,-,-,-,-⟩:=id H;refine zax ?_;refine jc ?_;exact O1 [] [_] _ rfl cJ rfl rfl rfl rfl rfl (by simp only [nil_append,cons_append];rfl) (fun x h=>by cases h) (na _ _ _ _ _ _ _) ⟨_,_,_,_,_,_,H,rfl,rfl⟩
theorem NN (p:Src) (hw:eo p<=1048576) (hn:u7 p) (fn:Int):GC prog 16 [.agg (ar p),.v (ii fn)] [] (zp (uo p fn).1 (uo p fn).2):=by
 unfold uo
 cases hh:rS p fn with
 | false=>exact NL p hw hn fn hh
 | true =>
  obtain ⟨i,l,f,t,rfl,h⟩:=Ei hh;rw [ab rfl,h.good.CW];exact NM p hw hn h hh
theorem VN (p:Src) (fn:Int) (g:Bool) (hg:GF prog 21 [.agg (ar p)] [] (.v (.bool g)) []) :
  GF prog 68 [.agg (ar p),.v (ii fn)] [] (.v (.bool ((g&&decide ((0:Int)<=fn))&&decide (fn < ((p.fns.map au).length:Int))))) []:=by
 cases g <;> cases I:decide ((0:Int)<=fn)
 all_goals
  refine ah func68 ntmps68 ?_;exact zfh
theorem Hs (p:Src) (fn:Int) (hw:eo p<=1048576):GF prog 68 [.agg (ar p),.v (ii fn)] [] (.v (.bool (rS p fn))) []:=by
 have h:=VN p fn _ (Ky p hw);rw [bV] at h;exact h
theorem MT (p:Src):∀ (N:Nat) (t:T),aJ t<=N->∀ (s:List ae) (a:Option Addr) (c:Nat),s.length+aJ t<=8388608 ->
  GC prog 71 [.v (.slice a s.length c),.agg (ar p),.agg (cT t)] [.vech 9 1 (bb s) (.slice a s.length c)] fun g Δ=>∃ a' c',g=.v (.slice a' (s++vH t).length c')/\Δ=[.vech 9 1 (bb (s++vH t)) (.slice a' (s++vH t).length c')]:=by
 intro N
 induction N with
 | zero=>intro t h;exact zcN
 | succ N ih =>
 intro t hN s a c hs
 cases t with
 | mk n ks =>
 rw [Go.Xp.aJ] at hN hs;have nB:=bK ks;have dJ:(aQ ks).length=ks.length:=aX ks;have lF:=p9 s;have xv:=LA n;rw [vH,<-de];refine c8 func71 ntmps71 ?_;refine GW.seq ?_;refine GW.region ?_;refine GL.wT rfl rfl ?_;refine bL ?_;refine GL.wT rfl rfl ?_;refine zaW ?_;refine GL.MK (fun fr Γ=>∃ a c,fr=[.v (.slice a (s++Am n).length c),U,U,U,.box (ar p) 0,.box (cT (.mk n ks)) 0,U,U,U,U,U,U,U,U,U,U,U,U,U,U,U,U,U,U,U,U,U,U,U,U,U,U,U,U,U,U,U,U,U,U,U,U,U,U,U,U,U,U,U,U,U,U,U,U,U,U]/\Γ=[.vech 9 1 (bb (s++Am n)) (.slice a (s++Am n).length c)]) ?_ ?_
 ·have hE:bb (s++[n.s])=bb s++[[.v (sv n.s)]]:=by simp [bb]
  unfold Am
  cases q0:(n.n==0) with
  | false =>
   rw [F (fun h=>by rw [h.1] at q0;cases q0),bO];refine D ?_;exact ⟨_,_,Wk.aC ak,a,c,rfl,rfl⟩
  | true =>
   cases q2:(n.kind==2) with
   | true =>
    rw [ab ⟨by simpa using q0,.inl (by simpa using q2)⟩,aM,length_singleton,hE];exact zam
   | false =>
   cases q7:(n.kind==7) with
   | true =>
    rw [ab ⟨by simpa using q0,.inr (.inl (by simpa using q7))⟩,aM,length_singleton,hE];exact zam
   | false =>
   cases q3:(n.kind==3) with
   | true =>
    rw [ab ⟨by simpa using q0,.inr (.inr (.inl (by simpa using q3)))⟩,aM,length_singleton,hE];exact zam
   | false =>
   cases q8:(n.kind==8) with
   | true =>
    rw [ab ⟨by simpa using q0,.inr (.inr (.inr (by simpa using q8)))⟩,aM,length_singleton,hE];exact zam
   | false =>
    rw [F (by simp at q2 q7 q3 q8;omega),bO];refine D ?_;exact ⟨_,_,Wk.aC ak,a,c,rfl,rfl⟩
 ·rintro _ _ ⟨a0,c0,rfl,rfl⟩
  have iI:(s++Am n).length<=s.length+1:=by rw [aM];omega
  generalize s++Am n=s1 at *;refine D ?_;refine GW.range (aQ ks).length (fun k fr Γ=>∃ a c,fr=[.v (.slice a (s1++kR (ks.take k)).length c),U,U,U,.box (ar p) 0,U,U,U,U,U,U,U,U,U,U,U,U,U,U,U,U,U,U,U,U,U,U,U,U,U,U,U,U,U,U,U,U,U,U,U,U,U,U,U,.sl 6 (aQ ks),.v (ii ((aQ ks).length:Int)),.v (ii (k:Nat)),U,U,U,U,U,U,U,U,U]/\Γ=[.vech 9 1 (bb (s1++kR (ks.take k))) (.slice a (s1++kR (ks.take k)).length c)]) ?_ G ?_ ?_ ?_
  ·refine ⟨_,_,Wk.aC (cy:=[.v (.slice a0 s1.length c0),U,U,U,.box (ar p) 0,U,U,U,U,U,U,U,U,U,U,U,U,U,U,U,U,U,U,U,U,U,U,U,U,U,U,U,U,U,U,U,U,U,U,U,U,U,U,U,.sl 6 (aQ ks),.v (ii ((aQ ks).length:Int)),.v (ii ((0:Nat):Int)),U,U,U,U,U,U,U,U,U]) ak,a0,c0,?_,?_⟩ <;> rw [take_zero,kR,bO]
  ·rintro k _ _ ⟨a,c,rfl,rfl⟩;exact dp
  ·rintro k _ _ aj ⟨a,c,rfl,rfl⟩;rw [dJ] at aj;obtain ⟨u,hu⟩:∃ u,ks[k]?=some u:=⟨ks[k],by simp [aj]⟩;have hr:=db hu;have cX:=lN hu
   have gM:(s1++kR (ks.take k)).length<=s1.length+az (ks.take k):=by rw [aM];have:=CJ (ks.take k);omega
   rw [Qz hu,<-de];generalize s1++kR (ks.take k)=s2 at *;have hi:=ih u G s2 a c G;generalize s2++vH u=s3 at *;refine zab ?_;refine bP [0] hi ?_;rintro _ _ ⟨a2,c2,rfl,rfl⟩;refine zax ?_;exact ⟨rfl,rfl,_,_,Wk.aC ak,a2,c2,rfl,rfl⟩
  ·rintro _ _ ⟨a,c,rfl,rfl⟩;rw [dJ,bH];refine aY ?_;refine zdA ?_;exact rR (n:=1) rfl cJ rfl (dr rfl) rfl rfl ⟨a,c,rfl,rfl⟩
end Go.Xg
set_option maxHeartbeats 2000000
set_option maxHeartbeats 4000000
namespace Go.Xg
open Go.RowKit Go.Xw Go.Proofs Tryz Go.Im
open GV (U)
open Go.Xp (Nd T Ar aJ az bK gL bU jA sT nt jE km kl)
open Go.Sp (Src)
attribute [local irreducible] GW GL GO YG GC GA aW aZ
theorem SE (p:Src) (hw:eo p<=1048576) (rg ra:List (List GV)) (aw:List Int) (ri:List Go.Sp.Fn) (jl:List T) (lF:aw.length<=1048576) (Dc:ri.length=aw.length) (gM:jl.length=aw.length)
  (Sg:∀ (k:Nat) x f t,aw[k]?=some x->ri[k]?=some f->jl[k]?=some t->∃ i:Nat,x=(i:Int)/\p.fns[i]?=some f/\0<=f.body/\eC p.nodes f.body.toNat t/\aJ t<=1048576)
  (fs:List Go.Sp.Fn) (ls:List T) (iG:fs.length=ls.length) (pj:fs.length<=8388608) (fJ:az ls+az jl<=1073741824) (a1 a2:Option Addr) (c1 c2:Nat) :
  GC prog 60 [.agg [.sl 1 rg,.sl 2 ra,.v (.slice a1 fs.length c1),.v (.slice a2 (az ls) c2)],.agg (ar p),ints aw] [.vech 58 3 ((fC 0 fs ls).map au) (.slice a1 fs.length c1),.vech 62 5 ((bU 0 ls).map ay) (.slice a2 (az ls) c2)]
   fun g Δ=>∃ a1 c1 a2 c2,g=.agg [.sl 1 rg,.sl 2 ra,.v (.slice a1 (fs++ri).length c1),.v (.slice a2 (az (ls++jl)) c2)]/\Δ=[.vech 58 3 ((fC 0 (fs++ri) (ls++jl)).map au) (.slice a1 (fs++ri).length c1),.vech 62 5 ((bU 0 (ls++jl)).map ay) (.slice a2 (az (ls++jl)) c2)]:=by
 obtain ⟨⟨g1,g2⟩,⟨g3,g4⟩,⟨g5,g6⟩,⟨g7,g8⟩⟩:=jD p
 have gO:(aw.map fun i=>[GV.v (ii i)]).length=aw.length:=by simp
 refine c8 func60 ntmps60 ?_;refine GW.seq ?_;refine GW.region ?_;refine GL.box rfl ?_;refine bM ?_;refine GL.wT rfl rfl ?_;refine zaW ?_
 refine GW.range (aw.map fun i=>[GV.v (ii i)]).length (fun k fr Γ=>∃ a1 c1 a2 c2 N acL RF RN,fr=[U,U,U,.loc 2 0,.box (ar p) 0,U,.loc 3 0,U,U,U,U,ints aw,.v (ii ((aw.map fun i=>[GV.v (ii i)]).length:Int)),.v (ii (k:Nat)),U,U,U,U,U,U,U,U,U,U,U,U,U,U,U,U,U,U,U,U,U,U,U,U,U,U,U,U,U,U,U,U,U,U] /\
  Γ=[.vech 58 3 RF (.slice a1 N c1),.vech 62 5 RN (.slice a2 acL c2),.box 33 [.sl 1 rg,.sl 2 ra,.v (.slice a1 N c1),.v (.slice a2 acL c2)],.box 33 [.v (.slice none 0 0),.v (.slice none 0 0),.v (.slice none 0 0),.v (.slice none 0 0)]] /\
  N=fs.length+k/\acL=az (ls++jl.take k)/\RF=(fC 0 (fs++ri.take k) (ls++jl.take k)).map au/\RN=(bU 0 (ls++jl.take k)).map ay) ?_ G ?_ ?_ ?_
 ·exact ⟨_,_,Wk.aC ak,a1,c1,a2,c2,_,_,_,_,rfl,rfl,rfl,by simp,by simp,by simp⟩
 ·rintro k _ _ ⟨a1,c1,a2,c2,N,acL,RF,RN,rfl,rfl,_⟩;exact dp
 ·rintro k _ _ aj ⟨a1,c1,a2,c2,N,acL,RF,RN,rfl,rfl,hN,hM,Fq,Hp⟩;rw [gO] at aj;obtain ⟨x,hx⟩:∃ x,aw[k]?=some x:=⟨aw[k],by simp [aj]⟩;obtain ⟨f,hf⟩:∃ f,ri[k]?=some f:=⟨ri[k]'G,dq _⟩;obtain ⟨t,ht⟩:∃ t,jl[k]?=some t:=⟨jl[k]'G,dq _⟩;obtain ⟨i,rfl,KM,hb0,bW,cX⟩:=Sg k x f t hx hf ht;have Yg:=kE hx;have hr:=vJ KM;have cW:=(g6 f (br KM)).2.1;have hS:=DN p (fun n h=>by have:=(g8 n h).2;omega) f t hb0 bW;have hz:=km ht;have hle:=kl jl (k+1)
  have jQ:jl.take (k+1)=jl.take k++[t]:=by rw [bS,ht];rfl
  have hfk:ri.take (k+1)=ri.take k++[f]:=by rw [bS,hf];rfl
  have O9:acL=az ls+az (jl.take k):=by rw [hM,jE]
  have hMz:acL<=1073741824:=by omega
  have nc:RF.length=N:=by
   rw [Fq,bV,rZ _ _ _ (by simp [iG,Dc,gM]),hN,aM,du];omega
  have Ud:RN.length=acL:=by rw [Hp,bV,jA,hM]
  have Xy:az (ls++jl.take (k+1))=acL+aJ t:=by rw [jE,O9,hz];omega
  have XB:(fC 0 (fs++ri.take (k+1)) (ls++jl.take (k+1))).map au=RF++[[.v (sv f.name),strs f.params,.v (ii (acL:Nat))]]:=by
   rw [hfk,jQ,<-de,<-de,wZ f t _ _ 0 (by simp [iG,Dc,gM]),kK,<-Fq,<-hM,cL];rfl
  have XC:(bU 0 (ls++jl.take (k+1))).map ay=RN++(gL acL t).map ay:=by
   rw [jQ,<-de,nt,bU,bU,bO,kK,<-Hp,cL,<-hM]
  have hLy:=fun a c=>SA _ t (aD _) acL RN a c Ud G
  rw [Xy,XB,XC];clear Xy XB XC Fq Hp hM O9;have eW:=pC f.params
  have sH:(f.params.map fun s=>[GV.v (sv s)]).length=f.params.length:=by simp
  unfold au at hr;refine zab ?_;refine GW.join (fun fr Γ=>∃ Y,fr=[U,U,U,.loc 2 0,.box (ar p) 0,U,.loc 3 0,U,U,.box [.v (sv f.name),strs f.params,.v (ii f.body)] 0,.box [.v (sv f.name),strs f.params,.v (ii (acL:Nat))] 0,ints aw,.v (ii ((aw.map fun i=>[GV.v (ii i)]).length:Int)),.v (ii (k:Nat)),U,U,U,U,U,U,U,U,U,U,U,U,U,U,U,U,U,U,U,U,U,U,U,U,U,U,U,U,U,U,U,U,U,U]/\Γ=.vech 58 3 RF (.slice a1 N c1)::.vech 62 5 RN (.slice a2 acL c2)::.box 33 [.sl 1 rg,.sl 2 ra,.v (.slice a1 N c1),.v (.slice a2 acL c2)]::.box 33 [.v (.slice none 0 0),.v (.slice none 0 0),.v (.slice none 0 0),.v (.slice none 0 0)]::Y/\Y=[]) ?_ ?_
  ·refine aL (.q 0 (.q 1 (.q 3 (.q 4 (aE 6 3 (.f 2 (.f 5 (.q 9 (.a 10 (.a 11 .nil))) 10 (.a 5 (.q 9 (.a 11 .nil)))) 10 (.a 2 (.a 5 (.q 9 (.a 11 .nil)))))))))) ?_;refine ao ?_;refine GO.fork ?_ ?_
   ·refine rH ?_;refine ao ?_;refine GO.fork ?_ ?_
    ·refine OA rfl rfl ?_;refine GL.Rw (i:=4) rfl rfl rfl eW rfl (by rw [sH];refine ⟨?_,?_⟩ <;> omega) ?_;exact zbM
    ·refine zcC ?_;refine GL.Rw (i:=4) rfl rfl rfl eW rfl (by rw [sH];refine ⟨?_,?_⟩ <;> omega) ?_;exact zbM
   ·refine ao ?_;refine rH ?_;refine zcC ?_;refine GL.Rw (i:=5) rfl rfl rfl eW rfl (by rw [sH];refine ⟨?_,?_⟩ <;> omega) ?_;refine zfr ?_;refine aY ⟨_,_,(Wk.freeze (i:=4) rfl rfl rfl (dr rfl)).trans ((Wk.cut (n:=4) (dr rfl) rfl).trans (Wk.aC ak)),[],rfl,rfl,rfl⟩
  rintro _ _ ⟨_,rfl,rfl,rfl⟩;refine D ?_;refine aL (aE 0 5 (.a 5 (.a 6 (.q 7 (.a 8 .nil))))) ?_;refine ao ?_;refine qZ [] hS ?_;simp only [bO];refine zcC ?_;refine bP [1] (hLy _ _) ?_;rintro _ _ ⟨a4,c4,rfl,rfl⟩;refine ⟨by simp,?_⟩;refine zbh ?_;refine zb2 ?_;intro a5 c5;refine zaM ?_;exact ⟨rfl,rfl,_,_,Wk.aC ak,a5,c5,a4,c4,_,_,_,_,rfl,rfl,by omega,rfl,rfl,rfl⟩
 ·rintro _ _ ⟨a1,c1,a2,c2,N,acL,RF,RN,rfl,rfl,hN,hM,Fq,Hp⟩;have q1:ri.take aw.length=ri:=jN G;have q2:jl.take aw.length=jl:=jN G;rw [gO] at hN hM Fq Hp;rw [q2] at hM Fq Hp;rw [q1] at Fq;subst Fq Hp hM
  have hN2:N=(fs++ri).length:=by rw [aM];omega
  subst hN2;refine aY ?_;refine zdA ?_;exact R5 (n:=2) rfl cJ rfl rfl rfl (aD _) rfl rfl ⟨a1,c1,a2,c2,rfl,rfl⟩
end Go.Xg
namespace Go.Im
open Go.Xp Go.Sp
theorem zx {l:List Int} {k:Nat} {x n:Int} (h:l[k]?=some x) (hc:(l.take k).contains n=false) (hx:(x==n)=false):(l.take (k+1)).contains n=false:=by
 rw [bS,h];simp only [List.contains_eq_mem,decide_eq_false_iff_not,mem_append,not_or] at *;refine ⟨hc,?_⟩;simp only [Option.toList_some,mem_singleton];intro e;subst e;simp at hx
theorem G1 {l:List Int} {k:Nat} {x n:Int} (h:l[k]?=some x) (hx:(x==n)=true):l.contains n=true:=by
 have:x=n:=by simpa using hx
 subst this;exact il.2 (br h)
theorem V8 {l:List Int} {n:Int} (h:l.contains n=true):dS l n=l:=by unfold dS;rw [ab h]
theorem y8:∀ (ks l:List Int),(ks.foldl dS l).length<=l.length+ks.length
 | [],l=>by simp
 | k::r,l=>by
  have:=y8 r (dS l k);have:=CG (l:=l) (n:=k);rw [List.foldl_cons,length_cons];omega
def nF (l ks:List Int):List Int:=ks.foldl dS l
theorem Na (l a b:List Int):nF l (a++b)=nF (nF l a) b:=List.foldl_append
theorem Nb (l ks:List Int):(nF l ks).length<=l.length+ks.length:=y8 ks l
theorem Og (p:Src) {l:List T} {k:Nat} {u:T} (h:l[k]?=some u) (o:List Int) (n:Nd):nF o (wb p n++jI p (l.take (k+1)))=nF (nF o (wb p n++jI p (l.take k))) (qu p u):=by
 rw [Oh p h,<-de,Na]
theorem Nc (ks:List Int):nF [] ks=qH ks:=rfl
end Go.Im
namespace Go.Xg
open Go.RowKit Go.Xw Go.Proofs Tryz Go.Im
open GV (U)
open Go.Xp (Nd T Ar aJ az bK)
open Go.Sp (Src)
attribute [local irreducible] GW GL GO YG GC GA aW aZ
theorem SC (l:List Int) (n:Int) (a:Option Addr) (c:Nat) (hl:l.length<=8388608) :
  GC prog 69 [.v (.slice a l.length c),.v (ii n)] [.vech 3 1 (bQ l) (.slice a l.length c)] fun g Δ =>
   (l.contains n=true/\g=.v (.slice a l.length c)/\Δ=[.vech 3 1 (bQ l) (.slice a l.length c)]) \/
   (l.contains n=false/\∃ a' c',g=.v (.slice a' (dS l n).length c')/\Δ=[.vech 3 1 (bQ l) (.slice a l.length c),.vech 3 1 (bQ (dS l n)) (.slice a' (dS l n).length c')]):=by
 have nB:=fQ l;refine ah func69 ntmps69 ?_;refine pN ?_;refine GL.vq (t:=9) rfl rfl rfl rfl ?_;intro a1 c1;refine zaM ?_;refine GW.range l.length (fun k fr Γ=>∃ a1 c1 m dn S,fr=[.v (.slice a l.length c),.v (ii n),U,U,U,.v (.slice a1 m c1),.v (.bool dn),U,U,U,.v (.slice a l.length c),.v (ii (l.length:Int)),.v (ii (k:Nat)),U,U,U,U,U,U,U,U,U,U,U,U,U,U,U,U,U,U,U,U,U,U,U,U,U,U,U,U,U,U]/\Γ=[.vech 3 1 (bQ l) (.slice a l.length c),.vech 3 1 S (.slice a1 m c1)]/\S.length=m/\S=bQ (kQ l n k).1/\dn=(kQ l n k).2/\(l.take k).contains n=false) ?_ G ?_ ?_ ?_
 ·exact ⟨_,_,Wk.aC ak,a1,c1,0,false,[],rfl,rfl,rfl,rfl,rfl,rfl⟩
 ·rintro k _ _ ⟨a1,c1,m,dn,S,rfl,rfl,_⟩;exact dp
 ·rintro k _ _ aj ⟨a1,c1,m,dn,S,rfl,rfl,Bv,hS,KE,hc⟩;obtain ⟨x,hx⟩:∃ x,l[k]?=some x:=⟨l[k],by simp [aj]⟩
  have hr:(bQ l)[k]?=some [.v (ii x)]:=by unfold bQ;rw [aS,hx];rfl
  have fB:k < (bQ l).length:=by omega
  have hm:m<=8388609:=by
   have:=(Iv l n k).1;rw [<-Bv,hS,fQ];omega
  have ox:=FZ (n:=n) hx
  cases I:(x==n) with
  | true =>
   refine zdA ?_;exact rR (n:=1) rfl cJ rfl (dr rfl) rfl rfl (.inl ⟨G1 hx I,rfl,rfl⟩)
  | false =>
   have jF:=zx hx hc I
   cases dn with
   | true =>
    have e:kQ l n (k+1)=((kQ l n k).1++[x],true):=by rw [ox];unfold qm;rw [<-KE];rfl
    have zd:bQ (kQ l n (k+1)).1=S++[[.v (ii x)]]:=by rw [e,hS];simp [bQ]
    clear hS;refine zal ?_;intro a2 c2;refine zaM ?_;exact ⟨rfl,rfl,_,_,Wk.aC ak,a2,c2,_,true,_,rfl,rfl,by simp [Bv],zd.symm,by rw [e],jF⟩
   | false =>
    cases h3:decide (n < x) with
    | true =>
     have e:kQ l n (k+1)=((kQ l n k).1++[n]++[x],true):=by rw [ox];unfold qm;rw [<-KE,h3];rfl
     have zd:bQ (kQ l n (k+1)).1=(S++[[.v (ii n)]])++[[.v (ii x)]]:=by rw [e,hS];simp [bQ]
     have hSl:(S++[[GV.v (ii n)]]).length=m+1:=by rw [aM,Bv];rfl
     clear hS;refine zal ?_;intro a2 c2;refine bM ?_;refine zal ?_;intro a3 c3;refine zaM ?_;exact ⟨rfl,rfl,_,_,Wk.aC ak,a3,c3,_,true,_,rfl,rfl,by simp [Bv],zd.symm,by rw [e],jF⟩
    | false =>
     have e:kQ l n (k+1)=((kQ l n k).1++[x],false):=by rw [ox];unfold qm;rw [<-KE,h3];rfl
     have zd:bQ (kQ l n (k+1)).1=S++[[.v (ii x)]]:=by rw [e,hS];simp [bQ]
     clear hS;refine zal ?_;intro a2 c2;refine zaM ?_;exact ⟨rfl,rfl,_,_,Wk.aC ak,a2,c2,_,false,_,rfl,rfl,by simp [Bv],zd.symm,by rw [e],jF⟩
 ·rintro _ _ ⟨a1,c1,m,dn,S,rfl,rfl,Bv,hS,KE,hc⟩;rw [bH] at hc;have qS:=S7 l n hc
  have hm:m<=8388609:=by
   have:=(Iv l n l.length).1;rw [<-Bv,hS,fQ];omega
  refine aY ?_
  cases dn with
  | true =>
   rw [ab KE.symm] at qS
   have e:m=(dS l n).length:=by rw [<-Bv,hS,fQ,qS]
   subst e;rw [qS] at hS;subst hS;refine zdA ?_;exact rR (n:=2) rfl cJ rfl (dr rfl) rfl rfl (.inr ⟨hc,a1,c1,rfl,rfl⟩)
  | false =>
   rw [F (by rw [<-KE];decide)] at qS
   have zd:bQ (dS l n)=S++[[.v (ii n)]]:=by rw [<-qS,hS];simp [bQ]
   have e:(dS l n).length=m+1:=by rw [<-fQ,zd,aM,Bv];rfl
   rw [zd,e];clear hS;subst Bv;refine zal ?_;intro a2 c2;refine zaM ?_;refine jc ?_;exact rR (n:=2) rfl cJ rfl (dr rfl) rfl rfl (.inr ⟨hc,a2,c2,rfl,rfl⟩)
def WJ (l r:List Int) (a:Option Addr) (c:Nat) (g:GV) (Δ:List Ob):Prop :=
 (r=l/\g=.v (.slice a l.length c)/\Δ=[.vech 3 1 (bQ l) (.slice a l.length c)]) \/
 (∃ a' c',g=.v (.slice a' r.length c')/\Δ=[.vech 3 1 (bQ l) (.slice a l.length c),.vech 3 1 (bQ r) (.slice a' r.length c')])
theorem Ac (l:List Int) (n:Int) (a:Option Addr) (c:Nat) (hl:l.length<=8388608) :
  GC prog 69 [.v (.slice a l.length c),.v (ii n)] [.vech 3 1 (bQ l) (.slice a l.length c)] (WJ l (dS l n) a c):=by
 refine (SC l n a c hl).mono fun g Δ h=>?_
 rcases h with ⟨I,M,h3⟩ | ⟨I,a',c',M,h3⟩
 ·exact .inl ⟨V8 I,M,h3⟩
 ·exact .inr ⟨a',c',M,h3⟩
theorem MQ (p:Src) (kc:p.fns.length<=1099511627776):∀ (N:Nat) (t:T),aJ t<=N->∀ (l:List Int) (a:Option Addr) (c:Nat),l.length+aJ t<=8388608 ->
  GC prog 170 [.v (.slice a l.length c),.agg (ar p),.agg (cT t)] [.vech 3 1 (bQ l) (.slice a l.length c)] (WJ l (nF l (qu p t)) a c):=by
 intro N
 induction N with
 | zero=>intro t h;exact zcN
 | succ N ih =>
 intro t hN l a c iH
 cases t with
 | mk n ks =>
 rw [Go.Xp.aJ] at hN iH;have nB:=bK ks;have dJ:(aQ ks).length=ks.length:=aX ks;have hF:=En p n.s kc;have e0:dm (fun x:Go.Sp.Fn=>x.name==n.s) p.fns=pW p n.s:=rfl;rw [e0] at hF;have hP:=Ac l (pW p n.s) a c G
 have jF:wb p n=if n.kind=4/\0<=pW p n.s then [pW p n.s] else []:=rfl
 rw [qu];generalize pW p n.s=z at *;refine ah func170 ntmps170 ?_;refine V [] hF ?_
 refine GL.MK (fun fr Γ=>∃ h L,fr=[.v h,U,U,U,.loc 1 0,.loc 2 0,U,U,U,U,U,U,U,U,U,U,U,U,U,U,U,U,U,U,U,U,U,U,U,U,U,U,U,U,U,U,U,U,U]/\L=nF l (wb p n) /\
  ((L=l/\h=.slice a l.length c/\Γ=[.vech 3 1 (bQ l) (.slice a l.length c),.box 33 (ar p),.box 65 (cT (.mk n ks))]) \/
   (∃ a' c',h=.slice a' L.length c'/\Γ=[.vech 3 1 (bQ l) (.slice a l.length c),.box 33 (ar p),.box 65 (cT (.mk n ks)),.vech 3 1 (bQ L) (.slice a' L.length c')]))) ?_ ?_
 ·cases q4:(n.kind==4) with
  | false =>
   rw [F (fun h=>by rw [h.1] at q4;cases q4)] at jF;exact zdJ
  | true =>
   cases q5:decide ((0:Int)<=z) with
   | false =>
    rw [F (fun h=>by have:=of_decide_eq_false q5;exact this h.2)] at jF;exact zdJ
   | true =>
    rw [ab ⟨by simpa using q4,by simpa using q5⟩] at jF;refine D ?_;refine bP [0] hP ?_;rintro _ _ (⟨I,rfl,rfl⟩ | ⟨a',c',rfl,rfl⟩)
    ·refine zax ?_;exact ⟨_,_,Wk.aC ak,_,l,rfl,by rw [jF];exact I.symm,.inl ⟨rfl,rfl,rfl⟩⟩
    ·refine zax ?_;exact ⟨_,_,Wk.aC ak,_,dS l z,rfl,by rw [jF];rfl,.inr ⟨a',c',rfl,rfl⟩⟩
 ·rintro _ _ ⟨h,L0,rfl,hL0,KC⟩;have acg:=D6 p n
  rcases KC with ⟨e1,rfl,rfl⟩ | ⟨a0,c0,rfl,rfl⟩
  all_goals
   refine D ?_
   refine GW.range (aQ ks).length (fun k fr Γ=>∃ h L,fr=[.v h,U,U,U,.loc 1 0,.loc 2 0,U,U,U,U,U,U,U,U,U,U,U,U,U,U,U,U,U,U,U,U,U,.sl 6 (aQ ks),.v (ii ((aQ ks).length:Int)),.v (ii (k:Nat)),U,U,U,U,U,U,U,U,U]/\L=nF l (wb p n++jI p (ks.take k)) /\
    ((L=l/\h=.slice a l.length c/\Γ=[.vech 3 1 (bQ l) (.slice a l.length c),.box 33 (ar p),.box 65 (cT (.mk n ks))]) \/
     (∃ a' c',h=.slice a' L.length c'/\Γ=[.vech 3 1 (bQ l) (.slice a l.length c),.box 33 (ar p),.box 65 (cT (.mk n ks)),.vech 3 1 (bQ L) (.slice a' L.length c')]))) ?_ G ?_ ?_ ?_
   ·exact ⟨_,_,Wk.aC ak,_,L0,rfl,by rw [take_zero,jI,bO];exact hL0,by first | exact .inl ⟨e1,rfl,rfl⟩ | exact .inr ⟨_,_,rfl,rfl⟩⟩
   ·rintro k _ _ ⟨h,L,rfl,_,KC⟩;exact dp
   ·rintro k _ _ aj ⟨h,L,rfl,hL,KC⟩;rw [dJ] at aj;obtain ⟨u,hu⟩:∃ u,ks[k]?=some u:=⟨ks[k],by simp [aj]⟩;have hr:=db hu;have cX:=lN hu
    have hLl:L.length<=l.length+1+az (ks.take k):=by
     have:=Nb l (wb p n++jI p (ks.take k));have:=GZ p (ks.take k);rw [aM] at *;rw [hL];omega
    have ox:=Og p hu l n;rw [<-hL] at ox;rw [ox]
    rcases KC with ⟨e2,rfl,rfl⟩ | ⟨a',c',rfl,rfl⟩
    ·subst e2;have hi:=ih u G L a c G;generalize nF L (qu p u)=L2 at *;refine D ?_;refine bP [0] hi ?_;rintro _ _ (⟨I,rfl,rfl⟩ | ⟨a2,c2,rfl,rfl⟩)
     ·refine zax ?_;exact ⟨rfl,rfl,_,_,(Wk.cut (n:=3) (dr rfl) rfl).trans (Wk.aC ak),_,L2,rfl,rfl,.inl ⟨I,rfl,rfl⟩⟩
     ·refine zax ?_;exact ⟨rfl,rfl,_,_,(Wk.keep (n:=3) (j:=4) (dr rfl) aP rfl rfl rfl).trans (Wk.aC ak),_,L2,rfl,rfl,.inr ⟨a2,c2,rfl,rfl⟩⟩
    ·have hi:=ih u G L a' c' G;generalize nF L (qu p u)=L2 at *;refine D ?_;refine bP [3] hi ?_;rintro _ _ (⟨rfl,rfl,rfl⟩ | ⟨a2,c2,rfl,rfl⟩)
     ·refine zax ?_;exact ⟨rfl,rfl,_,_,(Wk.cut (n:=4) (dr rfl) rfl).trans (Wk.aC ak),_,_,rfl,rfl,.inr ⟨a',c',rfl,rfl⟩⟩
     ·refine zax ?_;exact ⟨rfl,rfl,_,_,(Wk.keep (n:=3) (j:=5) (dr rfl) aP rfl rfl rfl).trans (Wk.aC ak),_,L2,rfl,rfl,.inr ⟨a2,c2,rfl,rfl⟩⟩
   ·rintro _ _ ⟨h,L,rfl,hL,KC⟩;rw [dJ,bH] at hL;rw [<-hL];refine aY ?_
    rcases KC with ⟨e2,rfl,rfl⟩ | ⟨a',c',rfl,rfl⟩
    ·refine zdA ?_;exact rR (n:=1) rfl cJ rfl (dr rfl) rfl rfl (.inl ⟨e2,rfl,rfl⟩)
    ·refine GW.wk (Wk.keep (n:=1) (j:=3) (aD _) aP rfl rfl rfl) ?_;refine GW.G6 (cy:=[.v (.slice a' L.length c'),U,U,U,U,U,U,U,U,U,U,U,U,U,U,U,U,U,U,U,U,U,U,U,U,U,U,U,U,U,U,U,U,U,U,U,U,U,U]) (aR:=[.vech 3 1 (bQ l) (.slice a l.length c),.vech 3 1 (bQ L) (.slice a' L.length c')]) ak rfl ?_;refine zdA ?_;exact rR (n:=2) rfl cJ rfl (dr rfl) rfl rfl (.inr ⟨a',c',rfl,rfl⟩)
theorem CT (p:Src) (hw:eo p<=1048576) {l:List T} {i:Nat} {f:Go.Sp.Fn} {t:T} (hg:nf p=true) (h:tN p l i f t) :
  GC prog 128 [.agg (ar p),.v (ii (i:Nat))] [] fun g Δ=>∃ a c,g=.v (.slice a (cP p t).length c)/\Δ=[.vech 3 1 (bQ (cP p t)) (.slice a (cP p t).length c)]:=by
 obtain ⟨⟨a1,a2⟩,⟨b1,b2⟩,⟨c1,c2⟩,⟨d1,d2⟩⟩:=jD p;have hG:=Ky p hw;rw [hg] at hG
 have iG:(p.fns.map au).length=p.fns.length:=by simp
 have hi:=(bq h.gf).1
 have hr:(p.fns.map au)[i]?=some (au f):=by rw [aS,h.gf];rfl
 have q2:decide ((i:Int) < 0)=false:=decide_eq_false G;have q3:decide (((p.fns.map au).length:Int)<=(i:Int))=false:=decide_eq_false (by rw [iG];omega);have hS:=DN p (fun n hn=>by have:=(d2 n hn).2;omega) f t h.body h.st
 have hC:=fun a c=>MQ p G _ t (aD _) [] a c (by have:=h.sz;show 0+_<=_;omega)
 rw [Nc] at hC;unfold cP;unfold au at hr;generalize qH (qu p t)=rr at *;refine ah func128 ntmps128 ?_;refine V [] hG ?_;refine aL (aE 1 8 (.f 0 (.a 9 (.a 10 (.q 11 .nil))) 9 (.a 0 (.a 10 (.q 11 .nil))))) ?_;refine ao ?_;refine GO.fork ?_ ?_
 ·refine OA rfl rfl (GL.UH rfl rfl rfl rfl ?_);refine GL.vq (t:=19) rfl rfl rfl rfl ?_;intro a1 c1;refine zfr ?_;refine aI [] hS ?_;refine OA rfl rfl ?_;refine bP [1] (hC a1 c1) ?_;rintro _ _ (⟨I,rfl,rfl⟩ | ⟨a',c',rfl,rfl⟩)
  ·refine ⟨by simp,?_⟩;refine cD ?_;subst I;refine bo ?_;refine jc ?_;refine tI 1 rfl cJ rfl ?_ ?_
   ·intro x hx;rw [oO hx];rfl
   ·exact zdP
  ·refine ⟨by simp,?_⟩;refine zbh ?_;refine jc ?_;refine tI 2 rfl cJ rfl ?_ ?_
   ·intro x hx;rw [oO hx];rfl
   ·exact zdP
 ·refine aI [] hS ?_;refine OA rfl rfl (GL.UH rfl rfl rfl rfl ?_);refine GL.vq (t:=19) rfl rfl rfl rfl ?_;intro a1 c1;refine cD ?_;refine zcC ?_;refine bP [1] (hC a1 c1) ?_;rintro _ _ (⟨I,rfl,rfl⟩ | ⟨a',c',rfl,rfl⟩)
  ·refine ⟨by simp,?_⟩;refine cD ?_;subst I;refine bo ?_;refine jc ?_;refine tI 1 rfl cJ rfl ?_ ?_
   ·intro x hx;rw [oO hx];rfl
   ·exact zdP
  ·refine ⟨by simp,?_⟩;refine zbh ?_;refine jc ?_;refine tI 2 rfl cJ rfl ?_ ?_
   ·intro x hx;rw [oO hx];rfl
   ·exact zdP
theorem B1 (p:Src) (t:T):Trail p (cP p t):=⟨sn (sQ p t),qt p t⟩
theorem P4 (p:Src) (hw:eo p<=1048576) (hgd:nf p=true) {l:List T} {i0:Nat} {f0:Go.Sp.Fn} {t0:T} (h0:tN p l i0 f0 t0) :
  GF prog 70 [.agg (ar p),.v (ii (i0:Nat))] [] (ints (o8 p l (cP p t0))) []:=by
 obtain ⟨⟨a1,a2⟩,⟨b1,b2⟩,⟨c1,c2⟩,⟨d1,d2⟩⟩:=jD p;have hlen:=h0.good.len;have hg:=h0.good;have hL:=B1 p t0;have xq:=hL.len;have hC0:=CT p hw hgd h0;generalize cP p t0=L0 at *;obtain ⟨N,hN⟩:∃ N,p.fns.length=N:=⟨_,rfl⟩;have Pp:=fQ L0;refine ah func70 ntmps70 ?_;refine bP [] hC0 ?_;rintro _ _ ⟨ad,cp,rfl,rfl⟩;refine zax ?_;refine GW.loop (fun s:Nat × List Int=>N - s.1) (fun s fr Γ=>∃ a c n S,fr=[U,U,.loc 0 0,U,U,.v (.slice a n c),.v (ii (s.1:Nat)),U,U,U,U,U,U,U,U,U,U,U,U,U,U,U,U,U,U,U,U,U,U,U,U,U,U,U,U,U,U,U,U]/\Γ=[.box 33 (ar p),.vech 3 1 S (.slice a n c)]/\S.length=n/\S=bQ s.2/\Trail p s.2/\s.1<=s.2.length/\lU (kW p l) (N+1 - s.1) s.1 s.2=o8 p l L0) (0,L0) ?_ ?_
 ·exact ⟨_,_,Wk.aC ak,ad,cp,_,_,rfl,rfl,Pp,rfl,hL,aO _,by rw [<-hN];rfl⟩
 rintro ⟨i,L⟩ _ _ ⟨a,c,n,S,rfl,rfl,ou,hS,hW,hi,he⟩;simp only at hS hW hi he;have nB:=hW.len
 have py:n=L.length:=by rw [<-ou,hS,fQ]
 by_cases aj:i < L.length
 ·have hd:decide ((i:Int) < (n:Int))=true:=decide_eq_true G;obtain ⟨x,hx⟩:∃ x,L[i]?=some x:=⟨L[i],by simp [aj]⟩
  have Yg:S[i]?=some [.v (ii x)]:=by rw [hS];unfold bQ;rw [aS,hx];rfl
  have qE:=hW.rng x (br hx);obtain ⟨j,hj⟩:∃ j:Nat,x=(j:Int):=⟨x.toNat,by omega⟩;subst hj
  have qz:j < p.fns.length:=by omega
  obtain ⟨f,hf⟩:∃ f,p.fns[j]?=some f:=⟨p.fns[j],by simp [qz]⟩;obtain ⟨t,ht⟩:∃ t,l[j]?=some t:=⟨l[j]'G,dq _⟩;have hC:=CT p hw hgd (hg.fn hf ht)
  have fk:kW p l (j:Int)=cP p t:=by unfold kW;rw [lk,ht]
  have ox:lU (kW p l) (N+1 - (i+1)) (i+1) (ff L (cP p t))=o8 p l L0:=by
   exact zfI
  have vt:=qt p t;have fB:=Bm p t
  have Ps:((cP p t).map fun i=>[GV.v (ii i)]).length=(cP p t).length:=by simp
  have uB:i+1<=(ff L (cP p t)).length:=by
   obtain ⟨m,hm⟩:=yb (cP p t) L;rw [hm,aM];omega
  generalize cP p t=ks at *;refine D ?_;refine aL (aE 0 5 (.q 7 (.a 5 (.q 6 .nil)))) ?_;refine zcC ?_;refine bP [] hC ?_;rintro _ _ ⟨a2,c2,rfl,rfl⟩;refine ⟨by simp,?_⟩;refine GL.wk (Wk.oW (t:=23) (i:=2) rfl rfl rfl) ?_;refine zbh ?_;refine GW.range (ks.map fun i=>[GV.v (ii i)]).length (fun k fr Γ=>∃ a c n S B,fr=[U,U,.loc 0 0,U,U,.v (.slice a n c),.v (ii (i:Nat)),U,U,U,U,U,U,U,U,U,U,U,U,U,U,U,U,ints ks,.v (ii ((ks.map fun i=>[GV.v (ii i)]).length:Int)),.v (ii (k:Nat)),U,U,U,U,U,U,U,U,U,U,U,U,U]/\Γ=[.box 33 (ar p),.vech 3 1 S (.slice a n c),B]/\S.length=n/\S=bQ (ff L (ks.take k))) ?_ G ?_ ?_ ?_
  ·exact ⟨_,_,Wk.aC ak,a,c,n,S,_,rfl,rfl,ou,hS⟩
  ·rintro k _ _ ⟨a,c,n,S,B,rfl,rfl,_⟩;exact dp
  ·rintro k _ _ hk ⟨a,c,n,S,B,rfl,rfl,ou,hS⟩;rw [Ps] at hk;obtain ⟨y,hy⟩:∃ y,ks[k]?=some y:=⟨ks[k],by simp [hk]⟩
   have hry:(ks.map fun i=>[GV.v (ii i)])[k]?=some [.v (ii y)]:=by rw [aS,hy];rfl
   have XH:=hW.add (ks:=ks.take k) fun y hy=>vt y (mem_of_mem_take hy)
   have XI:=XH.len
   have C8:GF prog 129 [.sl 1 S,.v (ii y)] [] (.v (.bool ((ff L (ks.take k)).contains y))) []:=by
    rw [hS];exact SD (ff L (ks.take k)) y G
   have Sd:=E0 L ks k y hy
   have xr:n<=1048576:=by rw [<-ou,hS,fQ];omega
   rw [Sd]
   cases hb:(ff L (ks.take k)).contains y with
   | true =>
    rw [hb] at C8;rw [ab rfl];refine D ?_;refine GL.borrow C8 (fun B K β w l hI hF=>ic (A:=[_]) (C:=[_]) hI hF rfl rfl) ?_;refine zaW ?_;exact ⟨rfl,rfl,_,_,Wk.aC ak,a,c,n,S,B,rfl,rfl,ou,hS⟩
   | false =>
    rw [hb] at C8;rw [F aP]
    have zd:bQ (ff L (ks.take k)++[y])=S++[[.v (ii y)]]:=by rw [hS];simp [bQ]
    rw [zd];clear hS;refine D ?_;refine GL.borrow C8 (fun B K β w l hI hF=>ic (A:=[_]) (C:=[_]) hI hF rfl rfl) ?_;refine bL ?_;refine zal ?_;intro a2 c2;refine zaM ?_;exact ⟨rfl,rfl,_,_,Wk.aC ak,a2,c2,_,_,B,rfl,rfl,by simp [ou],rfl⟩
  ·rintro _ _ ⟨a,c,n,S,B,rfl,rfl,ou,hS⟩;rw [Ps,bH] at hS;refine iQ (aY ?_);refine D ?_;exact ⟨(i+1,ff L ks),⟨_,_,(Wk.cut (n:=2) (aO _) rfl).trans (Wk.aC ak),a,c,n,S,rfl,rfl,ou,hS,hW.add vt,uB,ox⟩,by show N - (i+1) < N - i;omega⟩
 ·have hd:decide ((i:Int) < (n:Int))=false:=decide_eq_false G;have hb:=GS (cs:=kW p l) (f:=N+1 - i) (i:=i) (L:=L) G;rw [hb] at he;rw [<-he];subst hS;refine zbA ?_;refine GW.wk (Wk.oW (t:=4) (i:=1) rfl rfl rfl) ?_;exact al
open Go.Xp (gL bU jA jE)
theorem M9 (L:List Int) (k:Nat) (n:Int):((L.take k).foldl dS (dS [] n)).length<=k+1:=by
 have:∀ (l acc:List Int),(l.foldl dS acc).length<=acc.length+l.length:=by
  intro l
  induction l with
  | nil=>intro acc;simp
  | cons x r ih=>intro acc;have:=ih (dS acc x);have:=CG (l:=acc) (n:=x);rw [List.foldl_cons,length_cons];omega
 have I:=this (L.take k) (dS [] n);have M:=CG (l:=[]) (n:=n)
 have h3:(L.take k).length<=k:=by rw [du];omega
 simp only [length_nil] at M;omega
theorem JQ {L:List Int} {k:Nat} {x:Int} (n:Int) (h:L[k]?=some x):(L.take (k+1)).foldl dS (dS [] n)=dS ((L.take k).foldl dS (dS [] n)) x:=by
 exact zd0
theorem L4 (p:Src) (hw:eo p<=1048576) {l:List T} {i:Nat} {f:Go.Sp.Fn} {t:T} (h:tN p l i f t) (hh:rS p (i:Int)=true) :
  GF prog 15 [.agg (ar p),.v (ii (i:Nat))] [] (.tup [.agg (ar (r8 p l (su p l (i:Int)) (qi p l (su p l (i:Int))))),.v (.bool true)]) []:=by
 have hH:=Hs p (i:Int) hw;rw [hh] at hH;obtain ⟨⟨a1,a2⟩,⟨b1,b2⟩,⟨c1,c2⟩,⟨d1,d2⟩⟩:=jD p;have hi:=(bq h.gf).1
 have HC:0<=(i:Int)/\(i:Int) < (p.fns.length:Int):=by omega
 have bW:=h.good.st;have abN:=bW.len;have hlen:=h.good.len;have hF:=P4 p hw (Pc hh) h;have jJ:=Wg (l:=l) HC
 have fk:kW p l (i:Int)=cP p t:=by unfold kW;rw [lk,h.gt]
 have XI:=(D2 (p:=p) (l:=l) (p.fns.length+1) 0 _ (B1 p t)).len;rw [fk] at jJ;have hr:=uM (l:=l) HC;have hb:=EK (l:=l) HC;rw [show lU (kW p l) (p.fns.length+1) 0 (cP p t)=o8 p l (cP p t) from rfl] at XI;generalize o8 p l (cP p t)=L at *;generalize su p l (i:Int)=aw at *
 have h0:=fun x hx=>(hb x hx).1
 have ln:∀ x∈aw,0<=x/\x < (l.length:Int):=by rw [<-hlen];exact hb
 have lF:aw.length<=p.fns.length:=wG (sn hr) hb
 have hLm:(L.map fun i=>[GV.v (ii i)]).length=L.length:=by simp
 have gO:(aw.map fun i=>[GV.v (ii i)]).length=aw.length:=by simp
 have BB:(bb p.globals).length=p.globals.length:=kT _;have Bw:(p.arrays.map aB).length=p.arrays.length:=bV ..;have hP0:=Ac [] (i:Int) none 0 (aO _);have py:=Lz (p:=p) (l:=l) hr h0
 have zS:=fun k=>Lz (p:=p) (l:=l) (hr.take k) fun x hx=>h0 x (mem_of_mem_take hx)
 have Ho:=fun s=>jk (qi p l aw) s G
 have e3:∀ x:List Go.Xp.ae,strs x=.sl 1 (bb x):=fun _=>rfl
 have Yc:=mW hb;have Yd:=mW ln;have acF:=yV (pF (xs:=l) hr h0)
 have hAdd:=fun rg ra a1 c1 a2 c2=>SE p hw rg ra aw (dD p.fns aw) (dD l aw) G Yc Yd (fun k x f t e1 e2 e3=>by
  have qE:=hb x (br e1);obtain ⟨j,rfl⟩:∃ j:Nat,x=(j:Int):=⟨x.toNat,by omega⟩;rw [xO hb e1,lk] at e2;rw [xO ln e1,lk] at e3;have hg:=h.good.fn e2 e3;have:=hg.sz
  exact ⟨j,rfl,e2,hg.body,hg.st,by omega⟩) [] [] rfl (aO _) (by simp only [az];omega) a1 a2 c1 c2
 simp only [nil_append] at hAdd;have eJ:ar (r8 p l aw (qi p l aw))=[.sl 1 (bb (p.globals.filter fun s=>(qi p l aw).contains s)),.sl 2 ((p.arrays.filter fun a=>(qi p l aw).contains a.name).map aB),.sl 3 ((fC 0 (dD p.fns aw) (dD l aw)).map au),.sl 5 ((bU 0 (dD l aw)).map ay)]:=rfl;rw [eJ]
 have m1:((fC 0 (dD p.fns aw) (dD l aw)).map au).length=(dD p.fns aw).length:=by rw [bV,rZ _ _ _ (by rw [Yc,Yd])]
 have m2:((bU 0 (dD l aw)).map ay).length=az (dD l aw):=by rw [bV,jA]
 refine c8 func15 ntmps15 ?_;refine zaw ?_;refine iq [] hH ?_;refine GL.wk (Wk.iN 3 1) ?_;refine zfJ ?_;refine D ?_;refine bP [1] hP0 ?_;rintro _ _ (⟨I,rfl,rfl⟩ | ⟨ad,cp,rfl,rfl⟩)
 ·cases I
 refine cI ?_;refine GL.wk (Wk.keep (n:=1) (j:=2) (dr rfl) aP rfl rfl rfl) ?_;refine zaM ?_;refine V [] hF ?_
 refine GW.range (L.map fun i=>[GV.v (ii i)]).length (fun k fr Γ=>∃ a c,fr=[U,U,.box (ar p) 0,U,.loc 0 0,U,.v (.slice a ((L.take k).foldl dS (dS [] (i:Int))).length c),U,U,U,U,U,U,U,U,U,U,U,U,U,U,U,U,U,U,U,ints L,.v (ii ((L.map fun i=>[GV.v (ii i)]).length:Int)),.v (ii (k:Nat)),U,U,U,U,U,U,U,U,U,U,U,U,U,U,U,U,U,U,U,U,U,U,U,U,U,U,U,U,U,U,U,U,U,U,U,U,U,U,U,U,U,U,U,U,U,U,U,U,U,U,U,U,U,U,U,U,U,U,U,U,U] /\
  Γ=[.box 33 [.v (.slice none 0 0),.v (.slice none 0 0),.v (.slice none 0 0),.v (.slice none 0 0)],.vech 3 1 (bQ ((L.take k).foldl dS (dS [] (i:Int)))) (.slice a ((L.take k).foldl dS (dS [] (i:Int))).length c)]) ?_ G ?_ ?_ ?_
 ·exact ⟨_,_,Wk.aC ak,ad,cp,rfl,rfl⟩
 ·rintro k _ _ ⟨a,c,rfl,rfl⟩;exact dp
 ·rintro k _ _ aj ⟨a,c,rfl,rfl⟩;rw [hLm] at aj;obtain ⟨x,hx⟩:∃ x,L[k]?=some x:=⟨L[k],by simp [aj]⟩;have Yg:=kE hx;have hal:=M9 L k (i:Int);rw [JQ _ hx];generalize (L.take k).foldl dS (dS [] (i:Int))=A at *;have hP:=Ac A x a c G;generalize dS A x=A2 at *;refine D ?_;refine bP [1] hP ?_;rintro _ _ (⟨rfl,rfl,rfl⟩ | ⟨a2,c2,rfl,rfl⟩)
  ·refine zax ?_;exact ⟨rfl,rfl,_,_,Wk.aC ak,a,c,rfl,rfl⟩
  ·refine zax ?_;exact ⟨rfl,rfl,_,_,(Wk.keep (n:=1) (j:=2) (dr rfl) aP rfl rfl rfl).trans (Wk.aC ak),a2,c2,rfl,rfl⟩
 rintro _ _ ⟨ad,cp,rfl,rfl⟩;rw [hLm,bH,jJ];refine aY ?_;refine GW.wk (Wk.oW (t:=6) (i:=1) rfl rfl rfl) ?_;simp only [bp,oset];refine GW.wk ((Wk.cut (n:=1) aP rfl).trans (Wk.aC (cy:=[U,U,.box (ar p) 0,U,.loc 0 0,U,ints aw,U,U,U,U,U,U,U,U,U,U,U,U,U,U,U,U,U,U,U,U,U,U,U,U,U,U,U,U,U,U,U,U,U,U,U,U,U,U,U,U,U,U,U,U,U,U,U,U,U,U,U,U,U,U,U,U,U,U,U,U,U,U,U,U,U,U,U,U,U,U,U,U,U,U,U,U,U,U,U,U,U,U,U]) ak)) ?_;simp only [take_succ_cons,take_zero];refine D ?_;refine pN ?_;refine GL.vq (t:=36) rfl rfl rfl rfl ?_;intro a1 c1;refine zaM ?_
 refine GW.range (aw.map fun i=>[GV.v (ii i)]).length (fun k fr Γ=>∃ a c,fr=[U,U,.box (ar p) 0,U,.loc 0 0,U,ints aw,U,U,.v (.slice a (qi p l (aw.take k)).length c),U,U,U,U,U,U,U,U,U,U,U,U,U,U,U,U,U,U,U,U,U,U,U,U,U,U,U,ints aw,.v (ii ((aw.map fun i=>[GV.v (ii i)]).length:Int)),.v (ii (k:Nat)),U,U,U,U,U,U,U,U,U,U,U,U,U,U,U,U,U,U,U,U,U,U,U,U,U,U,U,U,U,U,U,U,U,U,U,U,U,U,U,U,U,U,U,U,U,U,U,U,U,U] /\
  Γ=[.box 33 [.v (.slice none 0 0),.v (.slice none 0 0),.v (.slice none 0 0),.v (.slice none 0 0)],.vech 9 1 (bb (qi p l (aw.take k))) (.slice a (qi p l (aw.take k)).length c)]) ?_ G ?_ ?_ ?_
 ·exact ⟨_,_,Wk.aC ak,a1,c1,rfl,rfl⟩
 ·rintro k _ _ ⟨a,c,rfl,rfl⟩;exact dp
 ·rintro k _ _ aj ⟨a,c,rfl,rfl⟩;rw [gO] at aj;obtain ⟨x,hx⟩:∃ x,aw[k]?=some x:=⟨aw[k],by simp [aj]⟩;have qE:=hb x (br hx);obtain ⟨j,rfl⟩:∃ j:Nat,x=(j:Int):=⟨x.toNat,by omega⟩;obtain ⟨g,hg⟩:∃ f,p.fns[j]?=some f:=⟨p.fns[j]'G,dq _⟩;obtain ⟨u,hu⟩:∃ t,l[j]?=some t:=⟨l[j]'G,dq _⟩;have uE:=kE hx;have KG:=h.good.fn hg hu;have e1:=zS k;have e2:=KG.sz;have hB:=P3 p j g u (fun n h=>by have:=(d2 n h).2;omega) hg (by have:=(c2 g (br hg)).2.1;omega) KG.body KG.st G;have e4:=CN (g.params++fa u) u g.params;rw [Ta hx hg hu];generalize lR (g.params++fa u) u g.params=v at *;generalize qi p l (aw.take k)=s1 at *;have hNm:=MT p _ v (aD _) s1 a c G;generalize s1++vH v=s2 at *;refine D ?_;refine aL (aE 0 4 (.a 4 (.a 5 (.q 6 .nil)))) ?_;refine ao ?_;refine qZ [] hB ?_
  try simp only [bO]
  refine zcC ?_;refine bP [1] hNm ?_;rintro _ _ ⟨a2,c2,rfl,rfl⟩;refine ⟨by simp,?_⟩;refine zbh ?_;exact ⟨rfl,rfl,_,_,Wk.aC ak,a2,c2,rfl,rfl⟩
 rintro _ _ ⟨ad,cp,rfl,rfl⟩;rw [gO,bH];refine aY ?_;refine GW.wk (Wk.oW (t:=9) (i:=1) rfl rfl rfl) ?_;simp only [bp,oset];refine GW.wk ((Wk.cut (n:=1) aP rfl).trans (Wk.aC (cy:=[U,U,.box (ar p) 0,U,.loc 0 0,U,ints aw,U,U,.sl 1 (bb (qi p l aw)),U,U,U,U,U,U,U,U,U,U,U,U,U,U,U,U,U,U,U,U,U,U,U,U,U,U,U,U,U,U,U,U,U,U,U,U,U,U,U,U,U,U,U,U,U,U,U,U,U,U,U,U,U,U,U,U,U,U,U,U,U,U,U,U,U,U,U,U,U,U,U,U,U,U,U,U,U,U,U,U]) ak)) ?_;simp only [take_succ_cons,take_zero];simp only [e3] at Ho;generalize qi p l aw=N at *;refine D ?_;refine zcU ?_;refine zfJ ?_
 refine GW.range (bb p.globals).length (fun k fr Γ=>∃ a c R m,fr=[U,U,.box (ar p) 0,U,.loc 0 0,U,ints aw,U,U,.sl 1 (bb N),U,U,.loc 1 0,U,U,U,U,U,U,U,U,U,U,U,U,U,U,U,U,U,U,U,U,U,U,U,U,U,U,U,U,U,U,U,U,U,U,U,U,U,U,U,.sl 1 (bb p.globals),.v (ii ((bb p.globals).length:Int)),.v (ii (k:Nat)),U,U,U,U,U,U,U,U,U,U,U,U,U,U,U,U,U,U,U,U,U,U,U,U,U,U,U,U,U,U,U,U,U,U,U] /\
  Γ=[.box 33 [.v (.slice none 0 0),.v (.slice none 0 0),.v (.slice none 0 0),.v (.slice none 0 0)],.box 33 [.v (.slice a m c),.v (.slice none 0 0),.v (.slice none 0 0),.v (.slice none 0 0)],.vech 9 1 R (.slice a m c),.vech 56 2 [] (.slice none 0 0)]/\R.length=m/\m<=k/\R=bb ((p.globals.take k).filter fun s=>N.contains s)) ?_ G ?_ ?_ ?_
 ·exact zfB
 ·rintro k _ _ ⟨a,c,R,m,rfl,rfl,_⟩;exact dp
 ·rintro k _ _ aj ⟨a,c,R,m,rfl,rfl,hm,qA,hR⟩;rw [BB] at aj;obtain ⟨s,hs⟩:∃ s,p.globals[k]?=some s:=⟨p.globals[k],by simp [aj]⟩
  have KO:(bb p.globals)[k]?=some [.v (sv s)]:=by unfold bb;rw [aS,hs];rfl
  have hc:=Ho s;rw [wg hs]
  cases pj:N.contains s with
  | true =>
   rw [pj] at hc;refine zed ?_;clear hR;refine zaR ?_;refine GL.gh 2 rfl rfl rfl rfl rfl rfl rfl rfl bc ju ?_;intro a2 c2;refine bM ?_;rw [hm];refine D ?_;exact ⟨rfl,rfl,_,_,Wk.aC ak,a2,c2,_,_,rfl,rfl,by simp [hm],by omega,rfl⟩
  | false =>
   rw [pj] at hc;rw [F aP,bO,<-hR];clear hR;refine zaR ?_;exact ⟨rfl,rfl,_,_,Wk.aC ak,a,c,R,m,rfl,rfl,hm,by omega,rfl⟩
 rintro _ _ ⟨ga,gc,R,m,rfl,rfl,hm,qA,hR⟩;rw [BB,bH] at hR;rw [BB] at qA |-;refine aY ?_;refine D ?_
 refine GW.range (p.arrays.map aB).length (fun k fr Γ=>∃ a c R2 m2,fr=[U,U,.box (ar p) 0,U,.loc 0 0,U,ints aw,U,U,.sl 1 (bb N),U,U,.loc 1 0,U,U,U,U,U,U,U,U,U,U,U,U,U,U,U,U,U,U,U,U,U,U,U,U,U,U,U,U,U,U,U,U,U,U,U,U,U,U,U,U,U,U,U,U,U,U,U,U,U,U,U,U,U,U,U,U,.sl 2 (p.arrays.map aB),.v (ii ((p.arrays.map aB).length:Int)),.v (ii (k:Nat)),U,U,U,U,U,U,U,U,U,U,U,U,U,U,U,U,U,U] /\
  Γ=[.box 33 [.v (.slice none 0 0),.v (.slice none 0 0),.v (.slice none 0 0),.v (.slice none 0 0)],.box 33 [.v (.slice ga m gc),.v (.slice a m2 c),.v (.slice none 0 0),.v (.slice none 0 0)],.vech 9 1 R (.slice ga m gc),.vech 56 2 R2 (.slice a m2 c)]/\R2.length=m2/\m2<=k/\R2=((p.arrays.take k).filter fun a=>N.contains a.name).map aB) ?_ G ?_ ?_ ?_
 ·exact zfB
 ·rintro k _ _ ⟨a,c,R2,m2,rfl,rfl,_⟩;exact dp
 ·rintro k _ _ aj ⟨aa,ac,R2,m2,rfl,rfl,rn,HE,uz⟩;rw [Bw] at aj;obtain ⟨a,ha⟩:∃ s,p.arrays[k]?=some s:=⟨p.arrays[k],by simp [aj]⟩;have xu:=An ha;have hc:=Ho a.name;rw [wg ha]
  cases pj:N.contains a.name with
  | true =>
   rw [pj] at hc;refine zeo ?_;clear uz;unfold aB at xu |-;refine zab ?_;refine V [] hc ?_;refine GL.gh 3 rfl rfl rfl rfl rfl rfl rfl rfl bc ju ?_;intro a2 c2;refine bM ?_;rw [rn];refine D ?_;exact ⟨rfl,rfl,_,_,Wk.aC ak,a2,c2,_,_,rfl,rfl,by simp [rn],by omega,rfl⟩
  | false =>
   rw [pj] at hc;rw [F aP,bO,<-uz];clear uz;unfold aB at xu |-;refine zab ?_;refine V [] hc ?_;exact ⟨rfl,rfl,_,_,Wk.aC ak,aa,ac,R2,m2,rfl,rfl,rn,by omega,rfl⟩
 rintro _ _ ⟨aa,ac,R2,m2,rfl,rfl,rn,HE,uz⟩;rw [Bw,bH] at uz;rw [Bw] at HE |-;rw [<-hR,<-uz];clear hR uz;refine aY ?_;refine GW.wk (Wk.sr (i:=1) (o:=0) (j:=2) rfl rfl rfl rfl) ?_;simp only [bp,oset];refine GW.wk (Wk.sr (i:=1) (o:=1) (j:=3) rfl rfl rfl rfl) ?_;simp only [bp,oset];refine GW.wk ((Wk.cut (n:=2) aP rfl).trans (Wk.aC (cy:=[U,U,.box (ar p) 0,U,.loc 0 0,U,ints aw,U,U,U,U,U,.loc 1 0,U,U,U,U,U,U,U,U,U,U,U,U,U,U,U,U,U,U,U,U,U,U,U,U,U,U,U,U,U,U,U,U,U,U,U,U,U,U,U,U,U,U,U,U,U,U,U,U,U,U,U,U,U,U,U,U,U,U,U,U,U,U,U,U,U,U,U,U,U,U,U,U,U,U,U,U,U]) ak)) ?_;simp only [take_succ_cons,take_zero];refine zfa ?_;refine zfJ ?_;generalize (fC 0 (dD p.fns aw) (dD l aw)).map au=J1 at *;generalize (bU 0 (dD l aw)).map ay=J2 at *;generalize (dD p.fns aw).length=n1 at *;generalize az (dD l aw)=n2 at *;refine D ?_;refine bP [2,3] (hAdd _ _ _ _ _ _) ?_;rintro _ _ ⟨q1,q2,q3,q4,rfl,rfl⟩;refine zax ?_;refine GW.wk (Wk.sr (i:=0) (o:=2) (j:=2) rfl rfl rfl rfl) ?_;simp only [bp,oset];refine GW.wk (Wk.sr (i:=0) (o:=3) (j:=3) rfl rfl rfl rfl) ?_;simp only [bp,oset];refine D ?_;exact zff
theorem L5 (p:Src) (hw:eo p<=1048576) (fn:Int):GF prog 15 [.agg (ar p),.v (ii fn)] [] (.tup [.agg (ar (uo p fn).1),.v (.bool (uo p fn).2)]) []:=by
 unfold uo
 cases hh:rS p fn with
 | false =>
  have hH:=Hs p fn hw;rw [hh] at hH;refine c8 func15 ntmps15 ?_;refine zaw ?_;refine V [] hH ?_;refine Q4 ?_;exact zaV
 | true =>
  obtain ⟨i,l,f,t,rfl,h⟩:=Ei hh;rw [ab rfl,h.good.CW];simp only;rw [VK h.good];exact L4 p hw h hh
end Go.Xg
