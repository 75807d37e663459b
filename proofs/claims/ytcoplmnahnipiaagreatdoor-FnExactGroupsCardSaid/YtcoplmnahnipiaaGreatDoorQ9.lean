/- Part 9 of proofs that are told in their last texts. -/
import Derived.Test.YtcoplmnahnipiaaGreatDoorQ8
import Derived.Test.YtcoplmnahnipiaaGreatDoorQ6
import Derived.Test.YtcoplmnahnipiaaGreatDoorQ7
import Derived.Test.YtcoplmnahnipiaaGreatDoorQ5
import Derived.Test.YtcoplmnahnipiaaGreatDoorQ2
open List (append_assoc append_nil ext_getElem? getElem?_append_right getElem?_cons_succ getElem?_eq_getElem getElem?_eq_none getElem?_map getElem?_set length_append length_cons length_set length_zipWith map_nil mem_of_getElem? range'_succ set_append_right set_cons_zero take_length)
set_option linter.unusedVariables false
set_option linter.unusedSimpArgs false
set_option maxRecDepth 100000
set_option maxHeartbeats 4000000
namespace Go.Im
open Go.Xp Go.Sp
end Go.Im
namespace Go.Xg
open Go.RowKit Go.Xw Go.Proofs
open Go.Xp (Nd T Ar aP az bL)
open Go.Sp (Src)
open Go.Im
attribute [local irreducible] GW GL GO YG GC GA aV aZ
end Go.Xg
set_option maxHeartbeats 2000000
namespace Go.Im
open Go.Xp
def w8 (n:Nat):ah:=109::cD n
theorem B0 {n:Nat} (h:n < 10):cD n=[UInt8.ofNat (48+n)]:=by rw [cD,dif_pos h]
theorem H3 {n:Nat} (h:¬ n < 10):cD n=cD (n / 10)++[UInt8.ofNat (48+n % 10)]:=by rw [cD,dif_neg h]
end Go.Im
namespace Go.Xg
open Go.RowKit Go.Xw Go.Proofs
open Go.Xp (Nd Ar cD oV)
open Go.Sp (Src)
open Go.Im (w8 B0 H3)
attribute [local irreducible] GW GL GO YG GC GA aV aZ
theorem sn (n:Nat) (hn:n<=1099511627776):GF Tryz.prog 111 [.v (ii (n:Int))] [] (.v (sv (w8 n))) []:=by
 unfold w8
 by_cases h0:n=0
 ·subst h0;rw [B0 ag];refine ai Tryz.func111 Tryz.ntmps111 ?_;exact al
 have hd0:decide ((n:Int)<=0)=false:=by simpa using by omega
 have UG:=oV n;refine ai Tryz.func111 Tryz.ntmps111 ?_;refine GW.loop (fun st:Nat × ah=>st.1) (fun st fr Γ=>fr=[.v (ii (st.1:Nat)),.U,.U,.v (sv st.2),.U,.U,.U,.U,.U,.U,.U,.U,.U,.U,.U,.U,.U,.U,.U,.U]/\Γ=[]/\st.1<=n/\st.2.length<=n+1/\(st.1=0->st.2=cD n)/\(st.1 > 0->cD st.1++st.2=cD n)) (n,[]) ?_ ?_
 ·exact ⟨_,_,Wk.aC aq,rfl,rfl,Nat.le_refl _,Nat.zero_le _,fun h=>absurd h h0,fun _=>by simp⟩
 rintro ⟨k,y⟩ _ _ ⟨rfl,rfl,hk,FE,hz,hp⟩;simp only at hk FE hz hp
 by_cases ak:k > 0
 ·have hd:decide ((0:Int) < (k:Int))=true:=by simpa using ak
  have hq:=hp ak;have hw:=x7 (48+k % 10) ag;rw [Int.natCast_add] at hw
  have bu:(k / 10=0->[UInt8.ofNat (48+k % 10)]++y=cD n)/\(k / 10 > 0->cD (k / 10)++([UInt8.ofNat (48+k % 10)]++y)=cD n):=by
   by_cases la:k < 10
   ·rw [B0 la] at hq;refine ⟨fun _=>?_,fun h=>by omega⟩;rw [Nat.mod_eq_of_lt la];exact hq
   ·rw [H3 la,append_assoc] at hq;exact ⟨fun h=>by omega,fun _=>hq⟩
  have rC:([UInt8.ofNat (48+k % 10)]++y).length<=n+1:=by
   by_cases la:k / 10=0
   ·rw [bu.1 la];exact UG
   ·have:=congrArg List.length (bu.2 ag);rw [length_append] at this;omega
  refine ae ?_;refine bS ?_;refine ae ?_;exact ⟨(k / 10,[UInt8.ofNat (48+k % 10)]++y),⟨_,_,Wk.aC aq,rfl,rfl,by show k / 10<=n;omega,rC,bu.1,bu.2⟩,by show k / 10 < k;omega⟩
 ·have hd:decide ((0:Int) < (k:Int))=false:=by simpa using ak
  have hy:=hz ag;subst hy;refine bI ?_;exact av
def marks (k n:Nat):List (List GV):=(List.range n).map fun i=>[GV.v (sv (w8 (k+i)))]
theorem uh (k n:Nat):(marks k n).length=n:=by simp [marks]
theorem KD (k n:Nat):marks k (n+1)=marks k n++[[.v (sv (w8 (k+n)))]]:=by simp [marks,List.range_succ]
theorem NM (k:Nat) (rows:List (List GV)) {i:Nat} (h:i < rows.length):(marks k i++rows.drop i).set i [.v (sv (w8 (k+i)))]=marks k (i+1)++rows.drop (i+1):=by
 rw [List.drop_eq_getElem_cons h,set_append_right _ _ (by rw [uh];exact Nat.le_refl _),uh,Nat.sub_self,set_cons_zero,KD,append_assoc];rfl
theorem w7 (a:Option Addr) (c n k:Nat) (rows:List (List GV)) (hn:rows.length=n) (hb:k+n<=1099511627776) :
  GF Tryz.prog 57 [.v (.slice a n c),.v (ii (k:Nat))] [.vech 9 1 rows (.slice a n c)] (.v (ii ((k+n:Nat):Int))) [.vech 9 1 (marks k n) (.slice a n c)]:=by
 refine ai Tryz.func57 Tryz.ntmps57 ?_;refine GW.loop (fun i:Nat=>n - i) (fun i fr Γ=>∃ R,fr=[.v (.slice a n c),.v (ii ((k+i:Nat):Int)),.U,.U,.U,.v (ii (i:Nat)),.U,.U,.U,.U,.U,.U,.U,.U,.U,.U,.U,.U,.U,.U]/\Γ=[.vech 9 1 R (.slice a n c)]/\i<=n/\R=marks k i++rows.drop i) 0 ?_ ?_
 ·exact ⟨_,_,Wk.aC aq,_,rfl,rfl,Nat.zero_le _,rfl⟩
 rintro i _ _ ⟨R,rfl,rfl,hi,hR⟩
 have eF:R.length=n:=by rw [hR,length_append,uh,List.length_drop];omega
 by_cases ak:i < n
 ·have hd:decide ((i:Int) < (n:Int))=true:=by simpa using ak
  have hc:=sn (k+i) ag;have bU:=NM k rows (i:=i) ag;rw [<-hR] at bU;clear hR;generalize w8 (k+i)=x at *;refine ae ?_;refine ab [] hc ?_;refine jI ?_;refine ae ?_;exact ⟨i+1,⟨_,_,Wk.aC aq,_,rfl,rfl,ak,bU⟩,by show n - (i+1) < n - i;omega⟩
 ·have hd:decide ((i:Int) < (n:Int))=false:=by simpa using ak
  have fP:i=n:=by omega
  subst fP;rw [List.drop_of_length_le ag,append_nil] at hR;subst hR;refine bI ?_;exact av
end Go.Xg
namespace Go.Xg
open Go.RowKit Go.Xw Go.Proofs
open Go.Xp (Nd Ar cD oV)
open Go.Sp (Src)
open Go.Im (w8)
attribute [local irreducible] GW GL GO YG GC GA aV aZ
theorem S5 {p:Nat->Bool} {Γ:List Ob} (h:∀ x∈Γ,x.lR=true):DB p Γ=true:=by
 induction Γ with
 | nil=>rfl
 | cons x r ih =>
  rw [DB,ih fun y hy=>h y (List.mem_cons_of_mem _ hy),Bool.and_true];have:=h x List.mem_cons_self
  cases x <;> first | rfl | cases this
section
variable {P:Program} {fn:Func} {m:Nat} {R:GV->List Ob->Prop} {fr:List GV} {Γ:List Ob} {e:Exit}
theorem D7 {t:Tmp} {x:Value} (hr:fn.results=#[.tmp t]) (he:e=.normal\/e=.ret) (hg:cH fr t=.v x) (hm:m=Γ.length) (ha:∀ x∈Γ,x.lR=true) (h:R (.v x) Γ):sT P fn m R e fr Γ :=
 rV (n:=Γ.length) hr he hg ag (by rw [take_length];exact S5 ha) rfl (by rw [take_length];exact h)
end
def iZ (f:Nat->Nat):Nat->Nat
 | 0=>0
 | i+1=>iZ f i+f i
theorem Gy (f:Nat->Nat) {i n:Nat} (h:i<=n):iZ f i<=iZ f n:=by
 induction n with
 | zero =>
  have:i=0:=by omega
  subst this;exact Nat.le_refl _
 | succ n ih =>
  by_cases e:i=n+1
  ·subst e;exact Nat.le_refl _
  ·have:=ih ag;rw [iZ];omega
theorem ZF {r:List GV} (h:r.length=2):∃ x y,r=[x,y]:=by
 match r,h with
 | [x,y],_=>exact ⟨x,y,rfl⟩
theorem pD {rows:List (List GV)} {i o:Nat} {g:GV} {r:List GV} (hr:rows[i]?=some r):(dm rows i o g)[i]?=some (bs r o g):=by rw [sD hr,if_pos rfl]
theorem DK {k:Nat} {rows:List (List GV)} {i o:Nat} {g:GV} {r:List GV} (hr:rows[i]?=some r) (h:∀ r∈rows,r.length=k):∀ r∈dm rows i o g,r.length=k:=fun q hq=>by
 obtain ⟨j,hj⟩:=List.getElem?_of_mem hq;rw [sD hr] at hj;split at hj
 ·cases hj;rw [zW];exact h r (mem_of_getElem? hr)
 ·exact h q (mem_of_getElem? hj)
theorem KA (a:Option Addr) (c n k:Nat) (rows:List (List GV)) (hn:rows.length=n) (hb:k+n<=1099511627776) :
  GC Tryz.prog 21 [.v (.slice a n c),.v (ii (k:Nat))] [.vech 3 1 rows (.slice a n c)] fun g Δ=>g=.v (ii ((k+n:Nat):Int))/\∃ R,R.length=n/\Δ=[.vech 3 1 R (.slice a n c)]:=by
 refine ai Tryz.func21 Tryz.ntmps21 ?_;refine GW.loop (fun i:Nat=>n - i) (fun i fr Γ=>∃ R,fr=[.v (.slice a n c),.v (ii ((k+i:Nat):Int)),.U,.U,.U,.v (ii (i:Nat)),.U,.U,.U,.U,.U,.U,.U,.U,.U,.U,.U,.U,.U]/\Γ=[.vech 3 1 R (.slice a n c)]/\i<=n/\R.length=n) 0 ?_ ?_
 ·exact ⟨_,_,Wk.aC aq,_,rfl,rfl,Nat.zero_le _,hn⟩
 rintro i _ _ ⟨R,rfl,rfl,hi,eF⟩
 by_cases ak:i < n
 ·have hd:decide ((i:Int) < (n:Int))=true:=by simpa using ak
  refine ae ?_;refine jI ?_;refine ae ?_;exact ⟨i+1,⟨_,_,Wk.aC aq,_,rfl,rfl,ak,by simp [eF]⟩,by show n - (i+1) < n - i;omega⟩
 ·have hd:decide ((i:Int) < (n:Int))=false:=by simpa using ak
  have fP:i=n:=by omega
  subst fP;refine bI ?_;refine ae ?_;refine bR ?_;exact ⟨rfl,R,eF,rfl⟩
theorem FT (a:Option Addr) (c n k:Nat) (rows:List (List GV)) (hn:rows.length=n) (h2:∀ r∈rows,r.length=2) (hb:k+2 * n<=1099511627776) :
  GC Tryz.prog 58 [.v (.slice a n c),.v (ii (k:Nat))] [.vech 88 2 rows (.slice a n c)] fun g Δ=>g=.v (ii ((k+2 * n:Nat):Int))/\∃ R,Δ=[.vech 88 2 R (.slice a n c)]:=by
 refine ai Tryz.func58 Tryz.ntmps58 ?_;refine GW.loop (fun i:Nat=>n - i) (fun i fr Γ=>∃ R,fr=[.v (.slice a n c),.v (ii ((k+2 * i:Nat):Int)),.U,.U,.U,.v (ii (i:Nat)),.U,.U,.U,.U,.U,.U,.U,.U,.U,.U,.U,.U,.U,.U,.U,.U,.U,.U,.U,.U,.U,.U]/\Γ=[.vech 88 2 R (.slice a n c)]/\i<=n/\R.length=n/\∀ r∈R,r.length=2) 0 ?_ ?_
 ·exact ⟨_,_,Wk.aC aq,_,rfl,rfl,Nat.zero_le _,hn,h2⟩
 rintro i _ _ ⟨R,rfl,rfl,hi,eF,Rb⟩
 by_cases ak:i < n
 ·have hd:decide ((i:Int) < (n:Int))=true:=by simpa using ak
  have hc:=sn (k+2 * i) ag;have hr:R[i]?=some (R[i]'ag):=getElem?_eq_getElem _;obtain ⟨x0,y0,iV⟩:=ZF (Rb _ (mem_of_getElem? hr));rw [iV] at hr;clear iV;generalize w8 (k+2 * i)=x at *;have fY:=pD (o:=0) (g:=.v (sv x)) hr;simp only [bs] at fY
  have eT:(dm R i (0+0) (.v (sv x))).length=n:=by rw [fC];exact eF
  have Ux:=DK (o:=0) (g:=.v (sv x)) hr Rb;refine ae ?_;refine ab [] hc ?_;refine oO ?_;refine ae ?_;refine oO ?_;refine ae ?_;exact ⟨i+1,⟨_,_,Wk.aC aq,_,rfl,rfl,ak,by rw [fC];exact eT,DK fY Ux⟩,by show n - (i+1) < n - i;omega⟩
 ·have hd:decide ((i:Int) < (n:Int))=false:=by simpa using ak
  have fP:i=n:=by omega
  subst fP;refine bI ?_;refine ae ?_;refine bR ?_;exact ⟨rfl,R,rfl⟩
theorem FV {R:List (List GV)} {hs:Nat->Value} {n i o:Nat} {g x y:GV} (hi:i < n) (ho:o=0\/o=2) (hr:R[i]?=some [x,.v (hs i),y]) (h:∀ j,j < n->∃ x y,R[j]?=some [x,.v (hs j),y]):∀ j,j < n->∃ x y,(dm R i o g)[j]?=some [x,.v (hs j),y]:=fun j hj=>by
 rw [sD hr]
 by_cases e:j=i
 ·subst e;rw [if_pos rfl]
  rcases ho with rfl | rfl
  ·exact ⟨_,_,rfl⟩
  ·exact ⟨_,_,rfl⟩
 ·rw [if_neg e];exact h j hj
theorem NK (a:Option Addr) (c n k:Nat) (hs:Nat->Value) (pl:Nat->Nat) (rows:List (List GV)) (L:List Ob) (hn:rows.length=n) (hh:∀ i,i < n->Hd (pl i) (hs i)) (bt:∀ i,i < n->∃ x y,rows[i]?=some [x,.v (hs i),y])
  (hL:L.length=n) (fq:∀ i,i < n->∃ ks,ks.length=pl i/\L[i]?=some (.vech 9 1 ks (hs i))) (hb:k+2 * n+iZ pl n<=1099511627776) :
  GC Tryz.prog 59 [.v (.slice a n c),.v (ii (k:Nat))] (.vech 60 3 rows (.slice a n c)::L) fun g Δ=>g=.v (ii ((k+2 * n+iZ pl n:Nat):Int))/\∃ R L',Δ=.vech 60 3 R (.slice a n c)::L'/\L'.length=n/\∀ x∈L',x.lR=true:=by
 have MO:∀ (M:List Ob),M.length=n->(∀ i,i < n->∃ ks,ks.length=pl i/\M[i]?=some (.vech 9 1 ks (hs i)))->∀ x∈M,x.lR=true:=fun M hM hk x hx=>by
  obtain ⟨i,hi⟩:=List.getElem?_of_mem hx;obtain ⟨ks,_,h2⟩:=hk i (by have:=(List.getElem?_eq_some_iff.1 hi).1;omega);rw [hi] at h2;cases h2;rfl
 have Rp:(Ob.vech 60 3 rows (.slice a n c)::L).length=n+1:=by simp [hL]
 refine db Tryz.func59 Tryz.ntmps59 ?_;rw [Rp];refine ae ?_;refine GW.loop (fun z:Nat × Nat=>n - z.1) (fun z fr Γ=>∃ R L,fr=[.v (.slice a n c),.v (ii ((z.2:Nat):Int)),.U,.U,.U,.v (ii (z.1:Nat)),.U,.U,.U,.U,.U,.U,.U,.U,.U,.U,.U,.U,.U,.U,.U,.U,.U,.U,.U,.U,.U,.U,.U,.U,.U,.U,.U,.U,.U]/\Γ=.vech 60 3 R (.slice a n c)::L/\z.1<=n/\z.2=k+2 * z.1+iZ pl z.1/\R.length=n/\L.length=n/\(∀ i,i < n->∃ x y,R[i]?=some [x,.v (hs i),y])/\∀ i,i < n->∃ ks,ks.length=pl i/\L[i]?=some (.vech 9 1 ks (hs i))) (0,k) ?_ ?_
 ·exact ⟨_,_,Wk.aC aq,_,_,rfl,rfl,Nat.zero_le _,rfl,hn,hL,bt,fq⟩
 rintro ⟨i,kk⟩ _ _ ⟨R,L,rfl,rfl,hi,iM,eF,qp,MR,AX⟩;simp only at hi iM
 by_cases ak:i < n
 ·have hd:decide ((i:Int) < (n:Int))=true:=by simpa using ak
  have U8:iZ pl (i+1)=iZ pl i+pl i:=rfl;have Zu:=Gy pl (i:=i+1) (n:=n) ak;have hc:=sn kk ag;obtain ⟨x0,y0,hr⟩:=MR i ak;obtain ⟨ks,vc,MP⟩:=AX i ak;obtain ⟨a1,c1,H7⟩:=hh i ak;have eK:=w7 a1 c1 (pl i) (kk+1) ks vc ag;generalize w8 kk=x at *;have Uw:=FV (g:=.v (sv x)) ak (.inl rfl) hr MR;have fY:=pD (o:=0) (g:=.v (sv x)) hr;simp only [bs] at fY;rw [H7] at fY MP
  have eT:(dm R i (0+0) (.v (sv x))).length=n:=by rw [fC];exact eF
  refine ae ?_;refine iC [] hc ?_;simp only [append_nil];refine ae ?_;refine oO ?_;refine ae ?_;refine GL.AJ [i+1] eK (kJ) (by simp [gL,Nat.blt_eq];omega) ⟨MP,trivial⟩ ?_;rintro _ _ ⟨rfl,rfl⟩;refine ⟨by simp,?_⟩;simp only [dS,oset,List.map_cons,map_nil,Ob.dz,append_nil];refine ct ?_;refine ae ?_;refine oO ?_;refine ae ?_
  have dh:(dm R i 0 (.v (sv x)))[i]?=some [.v (sv x),.v (hs i),y0]:=by rw [H7];exact fY
  refine ⟨(i+1,kk+1+pl i+1),⟨_,_,Wk.aC aq,_,_,rfl,rfl,ak,by simp only;omega,by rw [fC];exact eT,by rw [bd,length_set];exact qp,FV ak (.inr rfl) dh Uw,fun j hj=>?_⟩,by show n - (i+1) < n - i;omega⟩;rw [bd,getElem?_set]
  by_cases e:i=j
  ·subst e;rw [if_pos rfl,if_pos ag];exact ⟨marks (kk+1) (pl i),uh _ _,by rw [H7]⟩
  ·rw [if_neg e];exact AX j hj
 ·have hd:decide ((i:Int) < (n:Int))=false:=by simpa using ak
  have fP:i=n:=by omega
  subst fP;rw [<-iM];refine bI ?_;refine ae ?_;refine ig ?_;refine D7 rfl cl rfl (by simp [qp]) ?_ ⟨rfl,R,L,rfl,qp,MO L qp AX⟩;intro x hx
  rcases List.mem_cons.1 hx with rfl | hx
  ·rfl
  ·exact MO L qp AX x hx
theorem ug {R:List (List GV)} {hs:Nat->Value} {n i o:Nat} {g x0 x1 x2 x3:GV} (hi:i < n) (ho:o < 4) (hr:R[i]?=some [x0,x1,x2,x3,.v (hs i)]) (h:∀ j,j < n->∃ x0 x1 x2 x3,R[j]?=some [x0,x1,x2,x3,.v (hs j)]):∀ j,j < n->∃ x0 x1 x2 x3,(dm R i o g)[j]?=some [x0,x1,x2,x3,.v (hs j)]:=fun j hj=>by
 rw [sD hr]
 by_cases e:j=i
 ·subst e;rw [if_pos rfl]
  obtain rfl | rfl | rfl | rfl:o=0\/o=1\/o=2\/o=3:=by omega
  ·exact ⟨_,_,_,_,rfl⟩
  ·exact ⟨_,_,_,_,rfl⟩
  ·exact ⟨_,_,_,_,rfl⟩
  ·exact ⟨_,_,_,_,rfl⟩
 ·rw [if_neg e];exact h j hj
theorem Hx (a:Option Addr) (c n k:Nat) (hs:Nat->Value) (pl:Nat->Nat) (rows:List (List GV)) (L:List Ob) (hn:rows.length=n) (hh:∀ i,i < n->Hd (pl i) (hs i)) (bt:∀ i,i < n->∃ x0 x1 x2 x3,rows[i]?=some [x0,x1,x2,x3,.v (hs i)])
  (hL:L.length=n) (fq:∀ i,i < n->∃ ks,ks.length=pl i/\L[i]?=some (.vech 3 1 ks (hs i))) (hb:k+4 * n+iZ pl n<=1099511627776) :
  GC Tryz.prog 60 [.v (.slice a n c),.v (ii (k:Nat))] (.vech 91 5 rows (.slice a n c)::L) fun g Δ=>g=.v (ii ((k+4 * n+iZ pl n:Nat):Int))/\∃ R L',Δ=.vech 91 5 R (.slice a n c)::L'/\L'.length=n/\∀ x∈L',x.lR=true:=by
 have MO:∀ (M:List Ob),M.length=n->(∀ i,i < n->∃ ks,ks.length=pl i/\M[i]?=some (.vech 3 1 ks (hs i)))->∀ x∈M,x.lR=true:=fun M hM hk x hx=>by
  obtain ⟨i,hi⟩:=List.getElem?_of_mem hx;obtain ⟨ks,_,h2⟩:=hk i (by have:=(List.getElem?_eq_some_iff.1 hi).1;omega);rw [hi] at h2;cases h2;rfl
 have Rp:(Ob.vech 91 5 rows (.slice a n c)::L).length=n+1:=by simp [hL]
 refine db Tryz.func60 Tryz.ntmps60 ?_;rw [Rp];refine ae ?_;refine GW.loop (fun z:Nat × Nat=>n - z.1) (fun z fr Γ=>∃ R L,fr=[.v (.slice a n c),.v (ii ((z.2:Nat):Int)),.U,.U,.U,.v (ii (z.1:Nat)),.U,.U,.U,.U,.U,.U,.U,.U,.U,.U,.U,.U,.U,.U,.U,.U,.U,.U,.U,.U,.U,.U,.U,.U,.U,.U,.U,.U,.U,.U,.U,.U,.U,.U,.U,.U,.U,.U,.U,.U,.U,.U,.U]/\Γ=.vech 91 5 R (.slice a n c)::L/\z.1<=n/\z.2=k+4 * z.1+iZ pl z.1/\R.length=n/\L.length=n/\(∀ i,i < n->∃ x0 x1 x2 x3,R[i]?=some [x0,x1,x2,x3,.v (hs i)])/\∀ i,i < n->∃ ks,ks.length=pl i/\L[i]?=some (.vech 3 1 ks (hs i))) (0,k) ?_ ?_
 ·exact ⟨_,_,Wk.aC aq,_,_,rfl,rfl,Nat.zero_le _,rfl,hn,hL,bt,fq⟩
 rintro ⟨i,kk⟩ _ _ ⟨R,L,rfl,rfl,hi,iM,eF,qp,MR,AX⟩;simp only at hi iM
 by_cases ak:i < n
 ·have hd:decide ((i:Int) < (n:Int))=true:=by simpa using ak
  have U8:iZ pl (i+1)=iZ pl i+pl i:=rfl;have Zu:=Gy pl (i:=i+1) (n:=n) ak;have hc:=sn (kk+1+1+1) ag;obtain ⟨x0,x1,x2,x3,hr⟩:=MR i ak;obtain ⟨ks,vc,MP⟩:=AX i ak;obtain ⟨a1,c1,H7⟩:=hh i ak;have eK:=KA a1 c1 (pl i) (kk+1+1+1+1) ks vc ag;generalize w8 (kk+1+1+1)=x at *;have Uw:=ug (g:=.v (ii (kk:Nat))) ak (Nat.zero_lt_succ 3) hr MR;have fY:=pD (o:=0) (g:=.v (ii (kk:Nat))) hr;simp only [bs] at fY;have Rb:=ug (g:=.v (ii ((kk+1:Nat):Int))) ak (show 1 < 4 by omega) fY Uw;have dh:=pD (o:=1) (g:=.v (ii ((kk+1:Nat):Int))) fY;simp only [bs] at dh;have Ux:=ug (g:=.v (ii ((kk+1+1:Nat):Int))) ak (show 2 < 4 by omega) dh Rb;have Na:=pD (o:=2) (g:=.v (ii ((kk+1+1:Nat):Int))) dh;simp only [bs] at Na;have hR4:=ug (g:=.v (sv x)) ak (show 3 < 4 by omega) Na Ux;have X2:=pD (o:=3) (g:=.v (sv x)) Na;simp only [bs] at X2;rw [H7] at fY dh Na X2 MP
  have eT:(dm R i (0+0) (.v (ii (kk:Nat)))).length=n:=by rw [fC];exact eF
  have jB:(dm (dm R i (0+0) (.v (ii (kk:Nat)))) i (0+1) (.v (ii ((kk+1:Nat):Int)))).length=n:=by rw [fC];exact eT
  have UN:(dm (dm (dm R i (0+0) (.v (ii (kk:Nat)))) i (0+1) (.v (ii ((kk+1:Nat):Int)))) i (0+2) (.v (ii ((kk+1+1:Nat):Int)))).length=n:=by rw [fC];exact jB
  have hl4:(dm (dm (dm (dm R i (0+0) (.v (ii (kk:Nat)))) i (0+1) (.v (ii ((kk+1:Nat):Int)))) i (0+2) (.v (ii ((kk+1+1:Nat):Int)))) i (0+3) (.v (sv x))).length=n:=by rw [fC];exact UN
  refine ae ?_;refine oO ?_;refine ae ?_;refine oO ?_;refine ae ?_;refine oO ?_;refine ae ?_;refine iC [] hc ?_;simp only [append_nil];refine ae ?_;refine oO ?_;refine ae ?_;refine GL.AJ [i+1] eK (kJ) (by simp [gL,Nat.blt_eq];omega) ⟨MP,trivial⟩ ?_;rintro _ _ ⟨rfl,R',Y0,rfl⟩;refine ⟨by simp,?_⟩;simp only [dS,oset,List.map_cons,map_nil,Ob.dz,append_nil];refine ct ?_;refine ae ?_;refine ⟨(i+1,kk+1+1+1+1+pl i),⟨_,_,Wk.aC aq,_,_,rfl,rfl,ak,by simp only;omega,hl4,by rw [bd,length_set];exact qp,hR4,fun j hj=>?_⟩,by show n - (i+1) < n - i;omega⟩;rw [bd,getElem?_set]
  by_cases e:i=j
  ·subst e;rw [if_pos rfl,if_pos ag];exact ⟨R',Y0,by rw [H7]⟩
  ·rw [if_neg e];exact AX j hj
 ·have hd:decide ((i:Int) < (n:Int))=false:=by simpa using ak
  have fP:i=n:=by omega
  subst fP;rw [<-iM];refine bI ?_;refine ae ?_;refine ig ?_;refine D7 rfl cl rfl (by simp [qp]) ?_ ⟨rfl,R,L,rfl,qp,MO L qp AX⟩;intro x hx
  rcases List.mem_cons.1 hx with rfl | hx
  ·rfl
  ·exact MO L qp AX x hx
end Go.Xg
namespace Go.Xg
open Go.RowKit Go.Xw Go.Proofs
open Go.Xp (Nd Ar cD oV)
open Go.Sp (Src)
open Go.Im (w8)
theorem Jc {x:Ob} (h:x.lR=true) (f:Nat->Nat):x.dz f=x:=by cases x <;> first | rfl | cases h
theorem yH {X:List Ob} (h:∀ x∈X,x.lR=true) (f:Nat->Nat):X.map (Ob.dz f)=X :=
 (List.map_congr_left fun x hx=>Jc (h x hx) f).trans (List.map_id _)
theorem HB (s n N:Nat) (h:s+n<=N):gL (List.range' s n) N=true:=by
 induction n generalizing s with
 | zero=>rfl
 | succ n ih =>
  rw [range'_succ,gL,ih (s+1) ag]
  have h1:Nat.blt s N=true:=by rw [Nat.blt_eq];omega
  have h2:(List.range' (s+1) n).contains s=false:=by
   cases hc:(List.range' (s+1) n).contains s with
   | false=>rfl
   | true =>
    have:=List.mem_range'_1.1 (List.contains_iff_mem.1 hc);omega
  rw [h1,h2];rfl
theorem Bz (f:Nat->Nat):∀ (X A C:List Ob),(∀ x∈X,x.lR=true)->seen f (A++(X++C)) (List.range' A.length X.length) X
 | [],A,C,_=>trivial
 | x::X,A,C,h=>by
  rw [length_cons,range'_succ,seen];refine ⟨by rw [getElem?_append_right (Nat.le_refl _),Nat.sub_self,Jc (h x List.mem_cons_self)];rfl,?_⟩
  have:=Bz f X (A++[x]) C fun y hy=>h y (List.mem_cons_of_mem _ hy)
  rw [length_append,List.length_singleton,append_assoc] at this;exact this
theorem ya:∀ (X A C Δ:List Ob),Δ.length=X.length->dS (A++(X++C)) (List.range' A.length X.length) Δ=A++(Δ++C)
 | [],A,C,Δ,h=>by
  have:Δ=[]:=List.eq_nil_of_length_eq_zero h;subst this;show dS (A++C) [] []=_;rw [dS,append_nil];rfl
 | x::X,A,C,[],h=>by cases h
 | x::X,A,C,y::Δ,h=>by
  rw [length_cons,range'_succ,dS]
  have e:oset (A++(x::X++C)) A.length y=(A++[y])++(X++C):=by
   rw [bd,set_append_right _ _ (Nat.le_refl _),Nat.sub_self];simp
  have:=ya X (A++[y]) C Δ (by simpa using h);rw [length_append,List.length_singleton] at this;rw [e,this];simp
section
variable {P:Program} {m:Nat} {Q:dD} {fr:List GV} {Γ:List Ob} {ops:Array Oper} {rest:List Oper} {d:Option Tmp} {op:Op} {ty:TypeId} {pos:String} {af:Array Edge}
theorem GL.sw {f:FuncId} [hf:aH P f] (A X C:List Ob) {args:List Operand} {mI:Array TypeId} {gs:List GV} {R:GV->List Ob->Prop} (hc:GC P f gs X R) (bz:Γ=A++(X++C)) (hX:∀ x∈X,x.lR=true) (hgs:∀ r,lF r gs=gs) (ha:kL (args.map (aY fr)) gs)
  (h:∀ g Δ,R g Δ->Δ.length=X.length/\(∀ x∈Δ,x.lR=true)/\(∀ r,dz r g=g)/\GL P m ops Q rest (br fr d g) (A++(Δ++C))) :
  GL P m ops Q (⟨d,.call ⟨.value (.func f),args.toArray,mI⟩,ty,pos,af,none⟩::rest) fr Γ:=by
 subst bz
 refine GL.AJ (List.range' A.length X.length) hc (by rw [hgs];exact ha) (HB _ _ _ (by simp only [length_append];omega)) (Bz _ X A C hX) fun g Δ hr=>?_
 obtain ⟨h1,h2,h3,h4⟩:=h g Δ hr;refine ⟨by rw [List.length_range',h1];exact Nat.le_refl _,?_⟩;rw [yH h2,ya _ _ _ _ h1,h3];exact h4
end
attribute [local irreducible] GW GL GO YG GC GA aV aZ
theorem Wy (p:Src):iZ (fun i=>match p.fns[i]? with | some f=>f.params.length | none=>0) p.fns.length=Go.Im.be (fun f:Go.Sp.Fn=>f.params.length) p.fns:=by
 have key:∀ n,n<=p.fns.length->iZ (fun i=>match p.fns[i]? with | some f=>f.params.length | none=>0) n=Go.Im.be (fun f:Go.Sp.Fn=>f.params.length) (p.fns.take n):=by
  intro n
  induction n with
  | zero=>intro _;rfl
  | succ n ih =>
   intro h
   have hx:p.fns[n]?=some p.fns[n]:=by simp [show n < p.fns.length by omega]
   rw [iZ,ih ag,Go.Im.kH hx,hx]
 rw [key _ (Nat.le_refl _),take_length]
theorem W7 (p:Src):iZ (fun i=>match p.nodes[i]? with | some f=>f.kids.length | none=>0) p.nodes.length=Go.Im.be (fun f:Nd=>f.kids.length) p.nodes:=by
 have key:∀ n,n<=p.nodes.length->iZ (fun i=>match p.nodes[i]? with | some f=>f.kids.length | none=>0) n=Go.Im.be (fun f:Nd=>f.kids.length) (p.nodes.take n):=by
  intro n
  induction n with
  | zero=>intro _;rfl
  | succ n ih =>
   intro h
   have hx:p.nodes[n]?=some p.nodes[n]:=by simp [show n < p.nodes.length by omega]
   rw [iZ,ih ag,Go.Im.kH hx,hx]
 rw [key _ (Nat.le_refl _),take_length]
theorem rR {α γ:Type} {f:α->Value->γ} {l:List α} {hs:List Value} {i:Nat} {x:α} {h:Value} (h1:l[i]?=some x) (h2:hs[i]?=some h):(List.zipWith f l hs)[i]?=some (f x h):=by rw [List.getElem?_zipWith,h1,h2]
theorem FU (p:Src) (hg ha hf hn:Value) (fs ns:List Value) (H:BN p hg ha hf hn fs ns) (k:Nat) (hw:Go.Im.ej p<=1048576) (hk:k<=1048576) :
  GC Tryz.prog 20 [.agg [.v hg,.v ha,.v hf,.v hn],.v (ii (k:Nat))] (jn p hg ha hf hn fs ns) fun g Δ=>∃ k':Nat,g=.v (ii (k':Nat))/\Δ.length=(jn p hg ha hf hn fs ns).length/\∀ x∈Δ,x.lR=true:=by
 obtain ⟨⟨b1,_⟩,⟨b2,_⟩,⟨b3,_⟩,⟨b4,_⟩⟩:=Go.Im.gS p
 have gz:Go.Im.be (fun f:Go.Sp.Fn=>f.params.length) p.fns<=1 * Go.Im.be (fun f:Go.Sp.Fn=>f.name.length+Go.Im.wS f.params+1) p.fns:=Go.Im.nJ fun f _=>by have:=Go.Im.GM f.params;omega
 have iT:Go.Im.be (fun f:Nd=>f.kids.length) p.nodes<=1 * Go.Im.be (fun n:Nd=>n.s.length+n.kids.length+1) p.nodes:=Go.Im.nJ fun f _=>by omega
 have sc:Go.Im.be (fun f:Go.Sp.Fn=>f.name.length+Go.Im.wS f.params+1) p.fns<=1048576:=by unfold Go.Im.ej at hw;omega
 have w6:Go.Im.be (fun n:Nd=>n.s.length+n.kids.length+1) p.nodes<=1048576:=by unfold Go.Im.ej at hw;omega
 have hsf:=Wy p;have zp:=W7 p;obtain ⟨⟨a0,c0,rfl⟩,⟨a1,c1,rfl⟩,⟨a2,c2,rfl⟩,⟨a3,c3,rfl⟩,jL,rC,hfh,hnh⟩:=H
 have Vb:∀ i,i < p.fns.length->∃ f h,p.fns[i]?=some f/\fs[i]?=some h:=fun i hi=>⟨p.fns[i],fs[i]'ag,by simp [hi],by simp [show i < fs.length by omega]⟩
 have Vc:∀ i,i < p.nodes.length->∃ f h,p.nodes[i]?=some f/\ns[i]?=some h:=fun i hi=>⟨p.nodes[i],ns[i]'ag,by simp [hi],by simp [show i < ns.length by omega]⟩
 have E8:(List.zipWith rm p.fns fs).length=p.fns.length:=by rw [length_zipWith];omega
 have qp:(List.zipWith mT p.nodes ns).length=p.nodes.length:=by rw [length_zipWith];omega
 have e0:=w7 a0 c0 p.globals.length k (ca p.globals) (by simp [ca]) ag
 have e1:=fun k hk=>FT a1 c1 p.arrays.length k (p.arrays.map aD) (by simp) (fun r hr=>by obtain ⟨x,_,rfl⟩:=List.mem_map.1 hr;rfl) hk
 have e2:=fun k hk=>NK a2 c2 p.fns.length k (fun i=>match fs[i]? with | some h=>h | none=>undef) (fun i=>match p.fns[i]? with | some f=>f.params.length | none=>0) (List.zipWith qd p.fns fs) (List.zipWith rm p.fns fs) (by rw [length_zipWith];omega)
  (fun i hi=>by obtain ⟨f,h,h1,h2⟩:=Vb i hi;rw [h1,h2];exact hfh i f h h1 h2) (fun i hi=>by obtain ⟨f,h,h1,h2⟩:=Vb i hi;rw [h2];exact ⟨_,_,rR h1 h2⟩) E8
  (fun i hi=>by obtain ⟨f,h,h1,h2⟩:=Vb i hi;rw [h1,h2];exact ⟨ca f.params,by simp [ca],rR h1 h2⟩) hk
 have e3:=fun k hk=>Hx a3 c3 p.nodes.length k (fun i=>match ns[i]? with | some h=>h | none=>undef) (fun i=>match p.nodes[i]? with | some f=>f.kids.length | none=>0) (List.zipWith lI p.nodes ns) (List.zipWith mT p.nodes ns) (by rw [length_zipWith];omega)
  (fun i hi=>by obtain ⟨f,h,h1,h2⟩:=Vc i hi;rw [h1,h2];exact hnh i f h h1 h2) (fun i hi=>by obtain ⟨f,h,h1,h2⟩:=Vc i hi;rw [h2];exact ⟨_,_,_,_,rR h1 h2⟩) qp
  (fun i hi=>by obtain ⟨f,h,h1,h2⟩:=Vc i hi;rw [h1,h2];exact ⟨bc f.kids,by simp [bc],rR h1 h2⟩) hk
 rw [hsf] at e2;rw [zp] at e3;have e1:=e1 (k+p.globals.length) ag;have e2:=e2 (k+p.globals.length+2 * p.arrays.length) ag;have e3:=e3 (k+p.globals.length+2 * p.arrays.length+2 * p.fns.length+Go.Im.be (fun f:Go.Sp.Fn=>f.params.length) p.fns) ag;have aQ:=Ao p (.slice a0 p.globals.length c0) (.slice a1 p.arrays.length c1) (.slice a2 p.fns.length c2) (.slice a3 p.nodes.length c3) fs ns;generalize hm:(jn p (.slice a0 p.globals.length c0) (.slice a1 p.arrays.length c1) (.slice a2 p.fns.length c2) (.slice a3 p.nodes.length c3) fs ns).length=M;unfold jn at hm aQ |-;generalize hF:List.zipWith rm p.fns fs=LF at *;generalize hN:List.zipWith mT p.nodes ns=LN at *;refine db Tryz.func20 Tryz.ntmps20 ?_;rw [hm];refine GW.seq ?_;refine GW.region ?_;refine GL.EE rfl rfl ?_;refine ct ?_;refine ae ?_;refine GL.sw [] [_] _ e0 rfl (by intro x hx;rw [List.mem_singleton.1 hx];rfl) (fun _=>rfl) (kJ) ?_;rintro _ _ ⟨rfl,rfl⟩;refine ⟨rfl,by intro x hx;rw [List.mem_singleton.1 hx];rfl,fun _=>rfl,?_⟩;refine ct ?_;refine ae ?_;refine GL.sw [_] [_] _ e1 rfl (by intro x hx;rw [List.mem_singleton.1 hx];rfl) (fun _=>rfl) (kJ) ?_;rintro _ _ ⟨rfl,R1,rfl⟩;refine ⟨rfl,by intro x hx;rw [List.mem_singleton.1 hx];rfl,fun _=>rfl,?_⟩;refine ct ?_;refine ae ?_;refine GL.sw [_,_] (_::LF) (_::LN) e2 rfl (by intro x hx;exact aQ x (by simp only [List.mem_cons,List.mem_append] at hx |-;rcases hx with h | h;(· exact .inr (.inr (.inl h)));exact .inr (.inr (.inr (.inl h))))) (fun _=>rfl) (kJ) ?_;rintro _ _ ⟨rfl,R2,L2,rfl,XK,E7⟩;refine ⟨by simp [XK,E8],by intro x hx;rcases List.mem_cons.1 hx with rfl | hx;(· rfl);exact E7 x hx,fun _=>rfl,?_⟩;refine ct ?_;refine ae ?_;refine GL.sw (_::_::_::L2) (_::LN) [] e3 (by rw [append_nil];rfl) (by intro x hx;exact aQ x (by simp only [List.mem_cons,List.mem_append] at hx |-;exact .inr (.inr (.inr (.inr hx))))) (fun _=>rfl) (kJ) ?_;rintro _ _ ⟨rfl,R3,L3,rfl,XL,Ut⟩;refine ⟨by simp [XL,qp],by intro x hx;rcases List.mem_cons.1 hx with rfl | hx;(· rfl);exact Ut x hx,fun _=>rfl,?_⟩;rw [append_nil]
 refine ct ?_;refine ae ?_;refine ig ?_
 have hH:∀ x∈(Ob.vech 9 1 (marks k p.globals.length) (.slice a0 p.globals.length c0)::Ob.vech 88 2 R1 (.slice a1 p.arrays.length c1)::Ob.vech 60 3 R2 (.slice a2 p.fns.length c2)::(L2++Ob.vech 91 5 R3 (.slice a3 p.nodes.length c3)::L3)),x.lR=true:=by
  intro x hx
  rcases List.mem_cons.1 hx with rfl | hx
  ·rfl
  rcases List.mem_cons.1 hx with rfl | hx
  ·rfl
  rcases List.mem_cons.1 hx with rfl | hx
  ·rfl
  rcases List.mem_append.1 hx with hx | hx
  ·exact E7 x hx
  rcases List.mem_cons.1 hx with rfl | hx
  ·rfl
  ·exact Ut x hx
 have hM:M=(Ob.vech 9 1 (marks k p.globals.length) (.slice a0 p.globals.length c0)::Ob.vech 88 2 R1 (.slice a1 p.arrays.length c1)::Ob.vech 60 3 R2 (.slice a2 p.fns.length c2)::(L2++Ob.vech 91 5 R3 (.slice a3 p.nodes.length c3)::L3)).length:=by
  rw [<-hm];simp [XK,XL,E8,qp]
 exact D7 rfl cl rfl hM hH ⟨_,rfl,hM.symm,hH⟩
end Go.Xg
set_option maxHeartbeats 4000000
namespace Go.Xg
open Go.RowKit Go.Xw Go.Proofs
open Go.Xp (Nd T Ar aP az bL)
open Go.Sp (Src)
open Go.Im
attribute [local irreducible] GW GL GO YG GC GA aV aZ
theorem OX (p:Src) (hw:ej p<=1048576) (hn:xe p) :
  GC Tryz.prog 24 [.agg (ax p)] [] fun g Δ=>∃ h hs,n9 (iR p) h hs/\g=.v h/\Δ=iH (iR p) h hs:=by
 have hG:=SJ p hw hn;unfold iR
 cases lu:ij p with
 | false =>
  rw [lu] at hG;rw [if_neg aJ];refine db Tryz.func24 Tryz.ntmps24 ?_;refine GW.wk (Wk.oY 40 1) ?_;simp only [List.nil_append];refine ae ?_;refine ab [] hG ?_;refine ig ?_;exact rV (n:=1) rfl cl rfl (Nat.le_of_ble_eq_true rfl) rfl rfl ⟨.slice none 0 0,[],⟨⟨none,0,rfl⟩,rfl,fun i g x h=>by simp at h⟩,rfl,rfl⟩
 | true =>
  rw [lu] at hG;rw [if_pos rfl];have hA:=Pr p hw lu;generalize fp (b7 p) p.fns.length=G at *;refine db Tryz.func24 Tryz.ntmps24 ?_;refine GW.seq ?_;refine GW.region ?_;refine GL.EE rfl rfl ?_;refine ct ?_;refine ae ?_;refine ab [] hG ?_;refine cn [] hA ?_;rintro _ _ ⟨h,hs,H,rfl,rfl⟩;rw [yH ph];refine cX ?_;refine ae ?_;refine ig ?_;exact oS 0 rfl cl rfl ph ⟨h,hs,H,rfl,rfl⟩
end Go.Xg
namespace Go.Im
open Go.Xp Go.Sp
def jQ (gs:List (List Int)) (x:Int) (pr:List Int->Bool) (j:Nat):List (List Int):=match gs.findIdx? pr with
 | some i=>if i < j then gs.set i ((gs[i]?.getD [])++[x]) else gs
 | none=>gs
def ll (gs:List (List Int)) (pr:List Int->Bool) (j:Nat):Bool:=match gs.findIdx? pr with
 | some i=>decide (i < j)
 | none=>false
theorem FW (gs:List (List Int)) (x:Int) (pr:List Int->Bool) (j:Nat):(jQ gs x pr j).length=gs.length:=by
 unfold jQ;split
 ·split
  ·rw [length_set]
  ·rfl
 ·rfl
theorem P9 {gs:List (List Int)} {x:Int} {pr:List Int->Bool} {j:Nat} (h:ll gs pr j=true):jQ gs x pr (j+1)=jQ gs x pr j/\ll gs pr (j+1)=true:=by
 unfold ll at h |-;unfold jQ;split at h
 ·rename_i i hi;have h:=of_decide_eq_true h;rw [if_pos h,if_pos (show i < j+1 by omega)];exact ⟨rfl,by simp;omega⟩
 ·cases h
theorem Dx {gs:List (List Int)} {x:Int} {pr:List Int->Bool} {j:Nat} {g:List Int} (h:ll gs pr j=false) (hg:gs[j]?=some g) (hp:pr g=true) :
  jQ gs x pr j=gs/\jQ gs x pr (j+1)=gs.set j (g++[x])/\ll gs pr (j+1)=true:=by
 have ak:=(List.getElem?_eq_some_iff.1 hg).1
 cases hz:gs.findIdx? pr with
 | none =>
  rw [List.findIdx?_eq_none_iff] at hz;rw [hz g (mem_of_getElem? hg)] at hp;cases hp
 | some i =>
  unfold ll at h |-;unfold jQ;rw [hz] at h |-;simp only at h |-;have h:=of_decide_eq_false h
  have eR:i=j:=by
   obtain ⟨h1,h2,h3⟩:=List.findIdx?_eq_some_iff_getElem.1 hz
   refine Classical.byContradiction fun bP=>?_
   have:=h3 j bZ
   have UK:gs[j]=g:=by rw [getElem?_eq_getElem ak] at hg;exact Option.some.inj hg
   rw [UK,hp] at this;exact this rfl
  subst eR;rw [if_neg h,if_pos (Nat.lt_succ_self _),hg];exact ⟨rfl,rfl,by simp⟩
theorem FX {gs:List (List Int)} {x:Int} {pr:List Int->Bool} {j:Nat} {g:List Int} (h:ll gs pr j=false) (hg:gs[j]?=some g) (hp:pr g=false) :
  jQ gs x pr j=gs/\jQ gs x pr (j+1)=gs/\ll gs pr (j+1)=false:=by
 have ak:=(List.getElem?_eq_some_iff.1 hg).1
 cases hz:gs.findIdx? pr with
 | none=>unfold ll jQ;rw [hz];exact dQ
 | some i =>
  unfold ll at h |-;unfold jQ;rw [hz] at h |-;simp only at h |-;have h:=of_decide_eq_false h
  have eR:i≠j:=by
   intro e;subst e;obtain ⟨h1,h2,h3⟩:=List.findIdx?_eq_some_iff_getElem.1 hz
   have UK:gs[i]=g:=by rw [getElem?_eq_getElem ak] at hg;exact Option.some.inj hg
   rw [UK,hp] at h2;cases h2
  rw [if_neg h,if_neg bZ];exact ⟨rfl,rfl,by simp;omega⟩
theorem P8 (F:Int->List Int) (gs:List (List Int)) (x:Int) :
  (ll gs (fun g=>fH F (g.headD 0) x) gs.length=true->lq F gs x=jQ gs x (fun g=>fH F (g.headD 0) x) gs.length) /\
  (ll gs (fun g=>fH F (g.headD 0) x) gs.length=false->lq F gs x=jQ gs x (fun g=>fH F (g.headD 0) x) gs.length++[[x]]):=by
 unfold lq yA ll jQ
 cases hz:gs.findIdx? (fun g=>fH F (g.headD 0) x) with
 | none=>exact ⟨fun h=>(by cases h),fun _=>rfl⟩
 | some i =>
  obtain ⟨h1,-,-⟩:=List.findIdx?_eq_some_iff_getElem.1 hz;refine ⟨fun _=>by simp only;rw [if_pos h1],fun h=>?_⟩;simp only at h;exact absurd h1 (of_decide_eq_false h)
end Go.Im
namespace Go.Xg
open Go.RowKit Go.Xw Go.Proofs
open Go.Xp (Nd T Ar aP az bL)
open Go.Sp (Src)
open Go.Im
attribute [local irreducible] GW GL GO YG GC GA aV aZ
theorem OY (p:Src) (hw:ej p<=1048576) :
  GC Tryz.prog 23 [.agg (ax p)] [] fun g Δ=>∃ h hs,n9 (iR p) h hs/\g=.v h/\Δ=iH (iR p) h hs:=by
 obtain ⟨⟨a1,a2⟩,⟨b1,b2⟩,⟨c1,c2⟩,⟨d1,d2⟩⟩:=gS p
 have va:(p.fns.map aw).length=p.fns.length:=by simp
 have hG:=It p hw;unfold iR
 cases lu:ij p with
 | false =>
  rw [lu] at hG;rw [if_neg aJ];refine db Tryz.func23 Tryz.ntmps23 ?_;refine GW.seq ?_;refine GW.region ?_;refine GL.EE rfl rfl ?_;refine ct ?_;refine ae ?_;refine kK ?_;refine GL.qI (t:=7) rfl rfl rfl rfl ?_;intro TO TV;refine bJ ?_;refine ae ?_;refine ab [] hG ?_;refine ig ?_;exact rV (n:=1) rfl cl rfl (Nat.le_of_ble_eq_true rfl) rfl rfl ⟨_,[],⟨⟨TO,TV,rfl⟩,rfl,fun i g x h=>by simp at h⟩,rfl,rfl⟩
 | true =>
  rw [lu] at hG;rw [if_pos rfl];refine db Tryz.func23 Tryz.ntmps23 ?_;refine GW.seq ?_;refine GW.region ?_;refine GL.EE rfl rfl ?_;refine ct ?_;refine ae ?_;refine kK ?_;refine GL.qI (t:=7) rfl rfl rfl rfl ?_;intro TO TV;refine bJ ?_;refine ae ?_;refine ab [] hG ?_;refine GW.range (p.fns.map aw).length (fun k fr Γ=>∃ h hs,fr=[.U,.box (ax p) 0,.U,.v h,.U,.U,.U,.U,.U,.U,.U,.U,.U,.sl 3 (p.fns.map aw),.v (ii ((p.fns.map aw).length:Int)),.v (ii (k:Nat)),.U,.U,.U,.U,.U,.U,.U,.U,.U,.U,.U,.U,.U,.U,.U,.U,.U,.U,.U,.U,.U,.U,.U,.U,.U,.U,.U,.U,.U,.U,.U,.U,.U,.U,.U,.U,.U,.U,.U,.U]/\n9 (fp (b7 p) k) h hs/\Γ=iH (fp (b7 p) k) h hs) ?_ ag ?_ ?_ ?_
  ·exact ⟨_,_,Wk.aC aq,_,[],rfl,⟨⟨TO,TV,rfl⟩,rfl,fun i g x h=>by simp [fp] at h⟩,rfl⟩
  ·rintro k _ _ ⟨h,hs,rfl,_,rfl⟩;exact dQ
  ·rintro k _ _ hk ⟨h0,rE,rfl,H0,rfl⟩;rw [va] at hk;have Fg:fp (b7 p) (k+1)=lq (b7 p) (fp (b7 p) k) (k:Int):=rfl;have MZ:=B7 (C6 p) k;have jr:=v7 (b7 p) k;have M0:=vZ (F:=b7 p) k;rw [Fg];clear Fg;generalize fp (b7 p) k=gs at *
   have wU:∀ (a:Int) (r:List Int),a::r∈gs->GF Tryz.prog 61 [.agg (ax p),.v (ii a),.v (ii (k:Nat))] [] (.v (.bool (fH (b7 p) a (k:Int)))) []:=fun a r hr=>by
    obtain ⟨r1,r2,-⟩:=MZ.mem _ hr a (by simp);obtain ⟨j,rfl⟩:∃ j:Nat,a=(j:Int):=⟨a.toNat,by omega⟩;exact NB p hw lu ag hk
   obtain ⟨hY,hN⟩:=P8 (b7 p) gs (k:Int)
   have jZ:∀ g:List Int,(fun g:List Int=>fH (b7 p) (g.headD 0) (k:Int)) g=fH (b7 p) (g.headD 0) (k:Int):=fun _=>rfl
   generalize hpr:(fun g:List Int=>fH (b7 p) (g.headD 0) (k:Int))=pr at *;obtain ⟨a0,c0,rfl⟩:=H0.head;unfold iH;refine ae ?_;refine GW.range gs.length (fun j fr Γ=>∃ h hs b,ll gs pr j=b/\fr=[.U,.box (ax p) 0,.U,.v h,.v (ii (k:Nat)),.v (.bool b),.U,.U,.U,.U,.U,.U,.U,.sl 3 (p.fns.map aw),.v (ii ((p.fns.map aw).length:Int)),.v (ii (k:Nat)),.U,.U,.U,.v (ii (gs.length:Int)),.v (ii (j:Nat)),.U,.U,.U,.U,.U,.U,.U,.U,.U,.U,.U,.U,.U,.U,.U,.U,.U,.U,.U,.U,.U,.U,.U,.U,.U,.U,.U,.U,.U,.U,.U,.U,.U,.U,.U]/\n9 (jQ gs (k:Int) pr j) h hs/\Γ=iH (jQ gs (k:Int) pr j) h hs) ?_ ag ?_ ?_ ?_
   ·have e1:jQ gs (k:Int) pr 0=gs:=by unfold jQ;split <;> simp
    have e2:ll gs pr 0=false:=by unfold ll;split <;> simp
    exact ⟨_,_,Wk.aC aq,_,rE,false,e2,rfl,by rw [e1];exact H0,by rw [e1];rfl⟩
   ·rintro j _ _ ⟨h,hs,b,_,rfl,_,rfl⟩;exact dQ
   ·rintro j _ _ hj ⟨h,hs,b,zp,rfl,H,rfl⟩;have dK:=FW gs (k:Int) pr j;obtain ⟨g,hg⟩:∃ g,gs[j]?=some g:=⟨gs[j],getElem?_eq_getElem hj⟩
    cases b with
    | true =>
     obtain ⟨e1,e2⟩:=P9 (x:=(k:Int)) zp;rw [e1];generalize jQ gs (k:Int) pr j=M at *;unfold iH;refine ae ?_;refine aI (aB 0 11 (.a 11 (.q 12 .nil))) ?_;refine bf ?_;exact ⟨rfl,rfl,_,_,Wk.aC aq,h,hs,true,e2,rfl,H,rfl⟩
    | false =>
     obtain ⟨x,r,rfl⟩:∃ a r,g=a::r:=List.exists_cons_of_ne_nil (MZ.ne g (mem_of_getElem? hg));have hS:=wU x r (mem_of_getElem? hg)
     have X0:pr (x::r)=fH (b7 p) x (k:Int):=by rw [<-hpr];rfl
     have hgb:=M0 _ (mem_of_getElem? hg)
     have hem:jQ gs (k:Int) pr j=gs:=by
      cases hp:pr (x::r) with
      | true=>exact (Dx zp hg hp).1
      | false=>exact (FX zp hg hp).1
     rw [hem] at H |-;have hl:=H.len;obtain ⟨a1,c1,rfl⟩:=H.head;have UL:hs[j]?=some (hs[j]'ag):=getElem?_eq_getElem _;obtain ⟨a2,c2,e2⟩:=H.kid j _ _ hg UL;generalize hs[j]'ag=y at *;subst e2
     have rD:(il hs)[j]?=some [.v (.slice a2 (x::r).length c2)]:=by simp [il,UL]
     have qs:j < (il hs).length:=by rw [u9];omega
     have fq:(Ob.vech 40 1 (il hs) (.slice a1 gs.length c1)::fv gs hs)[j+1]?=some (.vech 3 1 (bc (x::r)) (.slice a2 (x::r).length c2)):=by rw [getElem?_cons_succ];exact rI hg UL
     have Ec:((Ob.vech 40 1 (il hs) (.slice a1 gs.length c1)::fv gs hs)++[])[j+1]?=some (.vech 3 1 (bc (x::r)) (.slice a2 (x::r).length c2)):=by rw [append_nil];exact fq
     have J6:(bc (x::r)).length=(x::r).length:=by simp [bc]
     have vb:0 < (bc (x::r)).length:=by rw [J6];simp
     have oI:(bc (x::r))[0]?=some [.v (ii x)]:=rfl;unfold iH
     have E7:=fun (a3:Option Addr) (c3:Nat)=>H.set (i:=j) ((x::r)++[(k:Int)]) (b:=a3) (d:=c3) (n:=(x::r).length+1) (by simp)
     have vc:=fun (y:Value)=>ua gs hs j ((x::r)++[(k:Int)]) y
     have hiS:bc ((x::r)++[(k:Int)])=bc (x::r)++[[.v (ii (k:Nat))]]:=by simp [bc]
     rw [hiS] at vc
     have aak:(x::r).length<=1048576:=by omega
     generalize hp:fH (b7 p) x (k:Int)=b at *;generalize bc (x::r)=S at *;generalize qp:(x::r).length=L at *;refine ae ?_;refine aI (aB 0 11 (.a 11 (.q 12 .nil))) ?_;refine ar ?_;refine TK rfl rfl (by first | exact rfl | assumption) (YG.cv (j+1) rfl rfl fq vb) ?_;refine Ej ?_;refine TK rfl rfl (by first | exact rfl | assumption) (YG.xW rfl fq rfl oI rfl) ?_;refine Ej ?_;refine ar ?_;refine LD rfl rfl rfl (by first | exact rfl | assumption) (GL.JL [] (hS) kJ rfl mK rfl (GL.nil (bb (et.mk (by repeat (first | exact gD.n | (apply gD.w;(· decide +kernel)) | (apply gD.y;(· first | (apply YQ.t;(· exact rfl);(· exact rfl);(· (first | exact YG.cv (j+1) rfl rfl Ec vb | exact YG.xW rfl Ec rfl oI rfl | (first | (apply K.ld;first | exact YG.Du rfl rfl aR | exact YG.xX rfl rfl rfl rfl | exact YG.ldV rfl rfl aR aR aR | exact YG.xW rfl rfl aR aR aR) | (apply K.idx;first | exact YG.idxV rfl rfl rfl aR ag | exact YG.cv 0 rfl rfl rfl bQ | exact YG.cv 1 rfl rfl rfl bQ | exact YG.cv 2 rfl rfl rfl bQ | exact YG.cv 3 rfl rfl rfl bQ | exact YG.cv 4 rfl rfl rfl bQ | exact YG.cv 5 rfl rfl rfl bQ | exact YG.cv 6 rfl rfl rfl bQ) | (apply K.AM;first | exact YG.fldV rfl rfl aR | exact YG.xr rfl rfl aR) | exact YG.rN 1 rfl rfl aR aR | exact YG.mv | exact YG.tN | (apply K.bin;first | exact YG.go rfl | exact YG.uw rfl rfl ag | exact YG.vU rfl rfl | exact YG.wy rfl rfl | exact YG.AL rfl rfl | exact YG.Bm rfl rfl | exact YG.cat rfl rfl ag | exact YG.cat rfl rfl (by simp only [length_append,length_cons,List.length_nil];omega) | exact YG.dM rfl rfl ag | exact YG.add rfl rfl ag | exact YG.sub rfl rfl ag | exact YG.mul rfl rfl ag | exact YG.Aw rfl rfl ag | exact YG.quo rfl rfl ag | exact YG.rem rfl rfl ag | exact YG.sk rfl rfl) | exact qi | (apply K.ld;first | exact YG.Dt rfl aR | exact YG.xV rfl rfl rfl) | exact qj | exact nP | (apply K.pick;first | exact YG.zB rfl aR | exact YG.zA rfl aR) | (apply K.idx;first | exact YG.sj rfl rfl bD | exact YG.jt rfl rfl bD rfl | exact YG.jt rfl rfl bD ag | exact YG.uD rfl rfl ag) | exact YG.ext rfl rfl | exact YG.go rfl | (apply K.Gn;first | exact YG.Av rfl rfl rfl ag | exact YG.Au rfl rfl ag | exact YG.Aq rfl rfl ag | exact YG.tD 1 rfl rfl rfl aR) | exact YG.qK rfl rfl bD | exact YG.idxSC rfl rfl bD rfl | exact oP | exact YG.build rfl | exact YG.neg rfl ag | exact YG.qF rfl rfl | exact YG.xk rfl (by first | rfl | exact IntWalk.i64_in _ ag | exact IntWalk.u8_in _ ag | assumption) | exact YG.str rfl aR)))) | (apply YQ.t;(· exact rfl);(· apply zS;(· exact rfl);(· first | exact rfl | assumption));(· (first | exact YG.cv (j+1) rfl rfl Ec vb | exact YG.xW rfl Ec rfl oI rfl | (first | (apply K.ld;first | exact YG.Du rfl rfl aR | exact YG.xX rfl rfl rfl rfl | exact YG.ldV rfl rfl aR aR aR | exact YG.xW rfl rfl aR aR aR) | (apply K.idx;first | exact YG.idxV rfl rfl rfl aR ag | exact YG.cv 0 rfl rfl rfl bQ | exact YG.cv 1 rfl rfl rfl bQ | exact YG.cv 2 rfl rfl rfl bQ | exact YG.cv 3 rfl rfl rfl bQ | exact YG.cv 4 rfl rfl rfl bQ | exact YG.cv 5 rfl rfl rfl bQ | exact YG.cv 6 rfl rfl rfl bQ) | (apply K.AM;first | exact YG.fldV rfl rfl aR | exact YG.xr rfl rfl aR) | exact YG.rN 1 rfl rfl aR aR | exact YG.mv | exact YG.tN | (apply K.bin;first | exact YG.go rfl | exact YG.uw rfl rfl ag | exact YG.vU rfl rfl | exact YG.wy rfl rfl | exact YG.AL rfl rfl | exact YG.Bm rfl rfl | exact YG.cat rfl rfl ag | exact YG.cat rfl rfl (by simp only [length_append,length_cons,List.length_nil];omega) | exact YG.dM rfl rfl ag | exact YG.add rfl rfl ag | exact YG.sub rfl rfl ag | exact YG.mul rfl rfl ag | exact YG.Aw rfl rfl ag | exact YG.quo rfl rfl ag | exact YG.rem rfl rfl ag | exact YG.sk rfl rfl) | exact qi | (apply K.ld;first | exact YG.Dt rfl aR | exact YG.xV rfl rfl rfl) | exact qj | exact nP | (apply K.pick;first | exact YG.zB rfl aR | exact YG.zA rfl aR) | (apply K.idx;first | exact YG.sj rfl rfl bD | exact YG.jt rfl rfl bD rfl | exact YG.jt rfl rfl bD ag | exact YG.uD rfl rfl ag) | exact YG.ext rfl rfl | exact YG.go rfl | (apply K.Gn;first | exact YG.Av rfl rfl rfl ag | exact YG.Au rfl rfl ag | exact YG.Aq rfl rfl ag | exact YG.tD 1 rfl rfl rfl aR) | exact YG.qK rfl rfl bD | exact YG.idxSC rfl rfl bD rfl | exact oP | exact YG.build rfl | exact YG.neg rfl ag | exact YG.qF rfl rfl | exact YG.xk rfl (by first | rfl | exact IntWalk.i64_in _ ag | exact IntWalk.u8_in _ ag | assumption) | exact YG.str rfl aR)))) | (apply YQ.f;(· exact rfl);(· apply B6;(· exact rfl);(· first | exact rfl | assumption))))))) ?_))));refine nq di eo ?_
     rw [append_nil];refine ar ?_
     cases b with
     | true =>
      obtain ⟨-,e4,e5⟩:=Dx (x:=(k:Int)) zp hg X0;rw [e4];refine ae ?_;refine GL.jw (j+1) rfl rfl rfl rfl rfl rfl rfl fq J6 me ?_;intro a3 c3;refine bJ ?_;refine ae ?_;refine GL.VT rfl rfl rfl rD rfl rfl rfl rfl ?_;refine bJ ?_;refine ae ?_;refine ⟨rfl,rfl,_,_,Wk.aC aq,_,hs.set j (.slice a3 (L+1) c3),true,e5,rfl,E7 a3 c3,?_⟩;rw [<-vc,<-Cc]
     | false =>
      obtain ⟨-,e4,e5⟩:=FX (x:=(k:Int)) zp hg X0;rw [e4];refine ae ?_;exact ⟨rfl,rfl,_,_,Wk.aC aq,_,hs,false,e5,rfl,H,rfl⟩
   ·rintro _ _ ⟨h,hs,b,zp,rfl,H,rfl⟩;have dK:=FW gs (k:Int) pr gs.length
    cases b with
    | true =>
     rw [hY zp];generalize jQ gs (k:Int) pr gs.length=M at *;unfold iH;refine bb ?_;refine ae ?_;exact ⟨rfl,rfl,_,_,Wk.aC aq,h,hs,rfl,H,rfl⟩
    | false =>
     rw [hN zp];generalize jQ gs (k:Int) pr gs.length=M at *;have hl:=H.len;obtain ⟨a1,c1,rfl⟩:=H.head
     have vf:(il hs).length=M.length:=by rw [u9,hl]
     have E7:=fun (a2:Option Addr) (c2:Nat) (a3:Option Addr) (c3:Nat)=>H.snoc [(k:Int)] (a:=a2) (c:=c2) (b:=a3) (d:=c3)
     have rz:(Ob.vech 40 1 (il hs) (.slice a1 M.length c1)::(fv M hs++[.vec 3 1 0 (chunk 1 1 [.v (ii (k:Nat))])]))[(fv M hs).length+1]?=some (.vec 3 1 0 (chunk 1 1 [.v (ii (k:Nat))])):=by simp
     have vc:=fun (y:Value)=>wh (gs:=M) (hs:=hs) [(k:Int)] y hl
     unfold iH;refine bb ?_;refine ae ?_;refine kK ?_;refine GL.qI (t:=51) rfl rfl rz rfl ?_;intro a2 c2;refine rp rfl (DE (Ob.vech 40 1 (il hs) (.slice a1 M.length c1)::fv M hs) _ _) ?_;refine ct ?_;refine GL.jw 0 rfl rfl rfl rfl rfl rfl rfl rfl vf me ?_;intro a3 c3;refine bJ ?_;refine ae ?_;refine ⟨rfl,rfl,_,_,Wk.aC aq,_,hs++[.slice a2 1 c2],rfl,E7 a3 c3 a2 c2,?_⟩;rw [<-vc];simp only [il,List.map_append,List.map_cons,map_nil];rfl
  ·rintro _ _ ⟨h,hs,rfl,H,rfl⟩;rw [va] at H;rw [va];refine bb ?_;unfold iH;refine ae ?_;refine ig ?_;exact oS 0 rfl cl rfl ph ⟨h,hs,H,rfl,rfl⟩
theorem OW (p:Src) (hw:ej p<=1048576) :
  GF Tryz.prog 23 [.agg (ax p)] [] (.sl 1 (cS (iR p))) []:=GC.VP (OY p hw)
end Go.Xg
set_option maxHeartbeats 2000000
namespace Go.Xg
open Go.RowKit Go.Xw Go.Proofs
open Go.Xp (Nd Ar)
open Go.Sp (Src)
open Go.Im
theorem uP {A X C:List Ob} {j:Nat} (h:j < X.length):(A++(X++C))[A.length+j]?=X[j]?:=by
 rw [getElem?_append_right ag,Nat.add_sub_cancel_left,List.getElem?_append_left h]
def Io (p:Src) (i:Nat):Go.Sp.Fn:=(p.fns[i]?).getD ⟨[],[],0⟩
def I3 (p:Src) (i:Nat):Nd:=(p.nodes[i]?).getD ⟨0,0,0,[],[]⟩
def zG (l:List Value) (i:Nat):Value:=(l[i]?).getD undef
theorem Ap {B:Bs} {K:Fz} {β:Bt} {w:World} {A C:List Ob} {p:Src} {hg ha hf hn:Value} {fs ns:List Value} (H:BN p hg ha hf hn fs ns) (hI:Inv B K β (A++(jn p hg ha hf hn fs ns++C)) w) :
  ∃ K1,cm K K1/\ji K1 w/\gE K1 (fun _=>.no) w/\ba K1 (fun _=>.no) [hg,ha,hf,hn] (ax p):=by
 obtain ⟨_,_,_,_,jL,rC,_,_⟩:=H
 have E8:(List.zipWith rm p.fns fs).length=p.fns.length:=by rw [length_zipWith];omega
 have qp:(List.zipWith mT p.nodes ns).length=p.nodes.length:=by rw [length_zipWith];omega
 have hlen:(jn p hg ha hf hn fs ns).length=4+p.fns.length+p.nodes.length:=by simp [jn,E8,qp];omega
 have hF:∀ i,i < p.fns.length->p.fns[i]?=some (Io p i)/\fs[i]?=some (zG fs i):=fun i hi=>by
  unfold Io zG;rw [getElem?_eq_getElem hi,getElem?_eq_getElem (show i < fs.length by omega)];exact ⟨rfl,rfl⟩
 have hN:∀ i,i < p.nodes.length->p.nodes[i]?=some (I3 p i)/\ns[i]?=some (zG ns i):=fun i hi=>by
  unfold I3 zG;rw [getElem?_eq_getElem hi,getElem?_eq_getElem (show i < ns.length by omega)];exact ⟨rfl,rfl⟩
 have g0:(A++(jn p hg ha hf hn fs ns++C))[A.length+0]?=some (.vech 9 1 (ca p.globals) hg):=by rw [uP ag];rfl
 have g1:(A++(jn p hg ha hf hn fs ns++C))[A.length+1]?=some (.vech 88 2 (p.arrays.map aD) ha):=by rw [uP ag];rfl
 have g2:(A++(jn p hg ha hf hn fs ns++C))[A.length+2]?=some (.vech 60 3 (List.zipWith qd p.fns fs) hf):=by rw [uP ag];rfl
 have gF:∀ i,i < p.fns.length->(A++(jn p hg ha hf hn fs ns++C))[A.length+(3+i)]?=some (.vech 9 1 (ca (Io p i).params) (zG fs i)):=fun i hi=>by
  rw [uP ag];unfold jn;rw [show 3+i=i+1+1+1 by omega,getElem?_cons_succ,getElem?_cons_succ,getElem?_cons_succ,List.getElem?_append_left ag,rR (hF i hi).1 (hF i hi).2];rfl
 have g3:(A++(jn p hg ha hf hn fs ns++C))[A.length+(3+p.fns.length)]?=some (.vech 91 5 (List.zipWith lI p.nodes ns) hn):=by
  rw [uP ag];unfold jn;rw [show 3+p.fns.length=p.fns.length+1+1+1 by omega,getElem?_cons_succ,getElem?_cons_succ,getElem?_cons_succ,getElem?_append_right ag,E8,Nat.sub_self];rfl
 have gN:∀ i,i < p.nodes.length->(A++(jn p hg ha hf hn fs ns++C))[A.length+(4+p.fns.length+i)]?=some (.vech 3 1 (bc (I3 p i).kids) (zG ns i)):=fun i hi=>by
  rw [uP ag];unfold jn;rw [show 4+p.fns.length+i=(p.fns.length+(i+1))+1+1+1 by omega,getElem?_cons_succ,getElem?_cons_succ,getElem?_cons_succ,getElem?_append_right ag,E8,Nat.add_sub_cancel_left,getElem?_cons_succ,rR (hN i hi).1 (hN i hi).2];rfl
 generalize A.length=s at *;generalize (A++(jn p hg ha hf hn fs ns++C))=Γ at *;obtain ⟨K1,R8,R1,k1,i1,f1,l1,r1,o1⟩:=hI.Al (jf:=s+2) (N:=p.fns.length) (o:=1) (E:=9) (k':=1) (raw:=fun i=>qd (Io p i) (zG fs i)) (fin:=fun i=>aw (Io p i)) (ks:=fun i=>ca (Io p i).params) (hd:=fun i=>zG fs i) (jp:=fun i=>s+(3+i)) g2
  ⟨by rw [length_zipWith];omega,fun i hi=>rR (hF i hi).1 (hF i hi).2⟩ (fun i hi=>⟨rfl,rfl⟩) gF (fun i hi=>by omega) (fun i j _ _ h=>by omega)
 obtain ⟨K2,DV,R2,k2,i2,f2,l2,r2,o2⟩:=i1.Al (jf:=s+(3+p.fns.length)) (N:=p.nodes.length) (o:=4) (E:=3) (k':=1) (raw:=fun i=>lI (I3 p i) (zG ns i)) (fin:=fun i=>ay (I3 p i)) (ks:=fun i=>bc (I3 p i).kids) (hd:=fun i=>zG ns i) (jp:=fun i=>s+(4+p.fns.length+i))
  (by rw [o1 _ ag fun i hi=>by omega];exact g3) ⟨by rw [length_zipWith];omega,fun i hi=>rR (hN i hi).1 (hN i hi).2⟩ (fun i hi=>⟨rfl,rfl⟩) (fun i hi=>by rw [o1 _ ag fun j hj=>by omega];exact gN i hi) (fun i hi=>by omega) (fun i j _ _ h=>by omega)
 have e1:R1=p.fns.map aw:=by
  apply ext_getElem?;intro i
  by_cases hi:i < p.fns.length
  ·rw [r1 i hi,getElem?_map,(hF i hi).1];rfl
  ·rw [getElem?_eq_none ag,getElem?_eq_none (by rw [List.length_map];omega)]
 have e2:R2=p.nodes.map ay:=by
  apply ext_getElem?;intro i
  by_cases hi:i < p.nodes.length
  ·rw [r2 i hi,getElem?_map,(hN i hi).1];rfl
  ·rw [getElem?_eq_none ag,getElem?_eq_none (by rw [List.length_map];omega)]
 rw [e1] at f1;rw [e2] at f2
 have f1':DV[s+2]?=some (.vech 60 3 (p.fns.map aw) hf):=by rw [o2 _ ag fun i hi=>by omega];exact f1
 have g0':DV[s+0]?=some (.vech 9 1 (ca p.globals) hg):=by rw [o2 _ ag fun i hi=>by omega,o1 _ ag fun i hi=>by omega];exact g0
 have g1':DV[s+1]?=some (.vech 88 2 (p.arrays.map aD) ha):=by rw [o2 _ ag fun i hi=>by omega,o1 _ ag fun i hi=>by omega];exact g1
 obtain ⟨K3,k3,q0,i3⟩:=i2.qb g0';obtain ⟨K4,k4,q1,i4⟩:=i3.qb (i:=s+1) (by rw [bd,getElem?_set,if_neg ag];exact g1');obtain ⟨K5,k5,q2,i5⟩:=i4.qb (i:=s+2) (by rw [bd,bd,getElem?_set,if_neg ag,getElem?_set,if_neg ag];exact f1');obtain ⟨K6,k6,q3,i6⟩:=i5.qb (i:=s+(3+p.fns.length)) (by rw [bd,bd,bd,getElem?_set,if_neg ag,getElem?_set,if_neg ag,getElem?_set,if_neg ag];exact f2);have b:cZ β β:=cZ.refl β;refine ⟨K6,k1.trans (k2.trans (k3.trans (k4.trans (k5.trans k6)))),i6.fz,i6.ZQ,?_⟩;exact .cons ((q0.mono (k4.trans (k5.trans k6)) b).pc rfl) (.cons ((q1.mono (k5.trans k6) b).pc rfl) (.cons ((q2.mono k6 b).pc rfl) (.cons (q3.pc rfl) .nil)))
theorem Ex {K:Fz} {β:Bt} {v a b c d:Value} (h:Rel K β v (.agg [.v a,.v b,.v c,.v d])):v=.agg #[a,b,c,d]:=by
 cases h with
 | agg vs cs hl h =>
  match vs,hl with
  | [x,y,z,u],_ =>
   rw [Rel.eD (h 0 x _ rfl rfl),Rel.eD (h 1 y _ rfl rfl),Rel.eD (h 2 z _ rfl rfl),Rel.eD (h 3 u _ rfl rfl)]
theorem Ey {K:Fz} {a b c d:Value} {gs:List GV} (h:ba K (fun _=>.no) [a,b,c,d] gs):Rel K (fun _=>.no) (.agg #[a,b,c,d]) (.agg gs):=.agg [a,b,c,d] gs h.1 h.2
section
variable {B:Bs} {K:Fz} {β:Bt} {w:World} {l:List Value} {fr:List GV} {A C X:List Ob} {p:Src} {hg ha hf hn:Value} {fs ns:List Value}
theorem He {x:Operand} (H:BN p hg ha hf hn fs ns) (hI:Inv B K β (A++(jn p hg ha hf hn fs ns++C)) w) (hF:FR K β fr l) (hx:aY fr x=.agg [.v hg,.v ha,.v hf,.v hn]) :
  ∃ K1,ji K1 w/\gE K1 (fun _=>.no) w/\ba K1 (fun _=>.no) ([x].map (ev l)) [.agg (ax p)]:=by
 obtain ⟨K1,_,h1,h2,h3⟩:=Ap H hI;have hr:=hF.ev x;rw [hx] at hr;have e:=Ex hr;refine ⟨K1,h1,h2,?_⟩;show ba K1 _ [ev l x] _;rw [e];exact .cons (Ey h3) .nil
theorem MB {K K1:Fz} {v:Value} {gs:List GV} (hk:cm K K1) (hp:∀ g∈gs,g.pc=true) (h:Rel K β v (.agg gs)):Rel K1 (fun _=>.no) v (.agg gs):=by
 cases h with
 | agg vs cs hl h =>
  exact .agg vs gs hl fun i v g h1 h2=>((h i v g h1 h2).mono hk (cZ.refl β)).pc (hp g (mem_of_getElem? h2))
theorem Me (p:Src):∀ g∈ax p,g.pc=true:=fun g hg=>by
 simp only [ax,List.mem_cons,List.not_mem_nil,or_false] at hg
 rcases hg with rfl | rfl | rfl | rfl <;> rfl
theorem Hf {x y:Operand} (H:BN p hg ha hf hn fs ns) (hI:Inv B K β (A++(jn p hg ha hf hn fs ns++C)) w) (hF:FR K β fr l) (hx:aY fr x=.agg [.v hg,.v ha,.v hf,.v hn]) (hy:aY fr y=.agg (ax p)) :
  ∃ K1,ji K1 w/\gE K1 (fun _=>.no) w/\ba K1 (fun _=>.no) ([x,y].map (ev l)) [.agg (ax p),.agg (ax p)]:=by
 obtain ⟨K1,hk,h1,h2,h3⟩:=Ap H hI;have hr:=hF.ev x;rw [hx] at hr;have e:=Ex hr;have dh:=hF.ev y;rw [hy] at dh;refine ⟨K1,h1,h2,?_⟩;show ba K1 _ [ev l x,ev l y] _;rw [e];exact .cons (Ey h3) (.cons (MB hk (Me p) dh) .nil)
end
end Go.Xg
set_option maxHeartbeats 4000000
namespace Go.Xg
open Go.RowKit Go.Xw Go.Proofs
open Go.Xp (Nd Ar)
open Go.Sp (Src)
open Go.Im
attribute [local irreducible] GW GL GO YG GC GA aV aZ
def gK (k n:Nat):List (List GV):=(List.range n).map fun i=>[GV.v (ii ((k+i:Nat):Int))]
theorem so (k n:Nat):(gK k n).length=n:=by simp [gK]
theorem Hy (k n:Nat):gK k (n+1)=gK k n++[[.v (ii ((k+n:Nat):Int))]]:=by simp [gK,List.range_succ]
theorem NL {k n i:Nat} (h:i < n):(gK k n)[i]?=some [.v (ii ((k+i:Nat):Int))]:=by simp [gK,h]
theorem KB (k:Nat) (rows:List (List GV)) {i:Nat} (h:i < rows.length):(gK k i++rows.drop i).set i [.v (ii ((k+i:Nat):Int))]=gK k (i+1)++rows.drop (i+1):=by
 rw [List.drop_eq_getElem_cons h,set_append_right _ _ (by rw [so];exact Nat.le_refl _),so,Nat.sub_self,set_cons_zero,Hy,append_assoc];rfl
theorem Kz (a:Option Addr) (c n k:Nat) (rows:List (List GV)) (hn:rows.length=n) (hb:k+n<=1099511627776) :
  GF Tryz.prog 21 [.v (.slice a n c),.v (ii (k:Nat))] [.vech 3 1 rows (.slice a n c)] (.v (ii ((k+n:Nat):Int))) [.vech 3 1 (gK k n) (.slice a n c)]:=by
 refine ai Tryz.func21 Tryz.ntmps21 ?_;refine GW.loop (fun i:Nat=>n - i) (fun i fr Γ=>∃ R,fr=[.v (.slice a n c),.v (ii ((k+i:Nat):Int)),.U,.U,.U,.v (ii (i:Nat)),.U,.U,.U,.U,.U,.U,.U,.U,.U,.U,.U,.U,.U]/\Γ=[.vech 3 1 R (.slice a n c)]/\i<=n/\R=gK k i++rows.drop i) 0 ?_ ?_
 ·exact ⟨_,_,Wk.aC aq,_,rfl,rfl,Nat.zero_le _,rfl⟩
 rintro i _ _ ⟨R,rfl,rfl,hi,hR⟩
 have eF:R.length=n:=by rw [hR,length_append,so,List.length_drop];omega
 by_cases ak:i < n
 ·have hd:decide ((i:Int) < (n:Int))=true:=by simpa using ak
  have bU:=KB k rows (i:=i) ag;rw [<-hR] at bU;clear hR;refine ae ?_;refine jI ?_;refine ae ?_;exact ⟨i+1,⟨_,_,Wk.aC aq,_,rfl,rfl,ak,bU⟩,by show n - (i+1) < n - i;omega⟩
 ·have hd:decide ((i:Int) < (n:Int))=false:=by simpa using ak
  have fP:i=n:=by omega
  subst fP;rw [List.drop_of_length_le ag,append_nil] at hR;subst hR;refine bI ?_;exact av
theorem J2 (k n:Nat) (hb:k+n<=1099511627776):GF Tryz.prog 22 [.sl 1 (gK k n),.v (ii (k:Nat))] [] (.v (ii ((k+n:Nat):Int))) []:=by
 have hm:=so k n;refine ai Tryz.func22 Tryz.ntmps22 ?_;refine GW.loop (fun i:Nat=>n - i) (fun i fr Γ=>fr=[.sl 1 (gK k n),.v (ii ((k+i:Nat):Int)),.U,.U,.U,.v (ii (i:Nat)),.U,.U,.U,.U,.U,.U,.U,.U,.U,.U,.U,.U,.U,.U,.U]/\Γ=[]/\i<=n) 0 ?_ ?_
 ·exact ⟨_,_,Wk.aC aq,rfl,rfl,Nat.zero_le _⟩
 rintro i _ _ ⟨rfl,rfl,hi⟩
 by_cases ak:i < n
 ·have hd:decide ((i:Int) < ((gK k n).length:Int))=true:=by rw [hm];simpa using ak
  have hr:=NL (k:=k) ak
  have hs:(((k+i:Nat):Int) != ((k+i:Nat):Int))=false:=by simp
  refine ae ?_;exact ⟨i+1,⟨_,_,Wk.aC aq,rfl,rfl,ak⟩,by show n - (i+1) < n - i;omega⟩
 ·have hd:decide ((i:Int) < ((gK k n).length:Int))=false:=by rw [hm];simpa using ak
  have fP:i=n:=by omega
  subst fP;refine bI ?_;exact av
section
variable {B:Bs} {K:Fz} {β:Bt} {w:World} {fr:List GV} {l:List Value} {A X C:List Ob}
end
theorem PH (l:List Int):(bc l).length=l.length:=by simp [bc]
end Go.Xg
namespace Go.Xg
open Go.RowKit Go.Xw
section
variable {P:Program} {m:Nat} {Q:dD} {fr:List GV} {Γ:List Ob} {ops:Array Oper} {rest:List Oper} {d:Option Tmp} {op:Op} {ty:TypeId} {pos:String} {af:Array Edge}
def rH (β:Bt) (n:Nat) (bA:Bt):Bt:=fun i=>if i < n then β i else bA (i - n)
def Ob.plain:Ob->Prop
 | .vech _ _ rows _=>∀ r∈rows,∀ g∈r,∃ x,g=.v x
 | _=>False
theorem Inv.Vl {B:Bs} {K K1 K':Fz} {β bA:Bt} {w w':World} {Δ:List Ob} (hI:Inv B K β Γ w) (bg:Inv ⟨w,gq,K1,fun _=>.no,0⟩ K' bA Δ w') (Vg:∀ o∈Δ,Ob.plain o):Inv B K (rH β Γ.length bA) (Γ++Δ) w'/\cZ β (rH β Γ.length bA):=by
 have xy:=hI.same bg.ext
 have fX:∀ i,i < Γ.length->rH β Γ.length bA i=β i:=fun i hi=>by unfold rH;rw [if_pos hi]
 have oe:∀ i,Γ.length<=i->rH β Γ.length bA i=bA (i - Γ.length):=fun i hi=>by unfold rH;rw [if_neg ag]
 have hle:cZ β (rH β Γ.length bA):=fun i=>by
  by_cases hi:i < Γ.length
  ·rw [fX i hi];exact rS.refl _
  ·rw [hI.out i ag];trivial
 have hold:∀ i b,(β i).blk=some b->b < w.heap.size:=fun i b hb=>by
  by_cases hi:i < Γ.length
  ·exact (hI.ob i _ (getElem?_eq_getElem hi)).lt hb
  ·rw [hI.out i ag] at hb;cases hb
 have Cd:∀ i b,(bA i).blk=some b->w.heap.size<=b:=fun i b hb=>by
  rcases bg.own i b hb with h | h
  ·exact h.elim
  ·exact h
 have dk:∀ i b,(rH β Γ.length bA i).blk=some b->(i < Γ.length/\(β i).blk=some b)\/(Γ.length<=i/\(bA (i - Γ.length)).blk=some b):=fun i b hb=>by
  by_cases hi:i < Γ.length
  ·rw [fX i hi] at hb;exact .inl ⟨hi,hb⟩
  ·rw [oe i ag] at hb;exact .inr ⟨by omega,hb⟩
 refine ⟨⟨xy.ext,xy.kle,xy.ble.trans hle,xy.loc,xy.fz,fun i x hi=>?_,fun i hi=>?_,fun i j b h1 h2=>?_,fun i b h1=>?_,xy.kn,⟨xy.tab.le,xy.tab.pow,xy.tab.spc,fun i b h=>?_⟩⟩,hle⟩
 ·by_cases r7:i < Γ.length
  ·rw [List.getElem?_append_left r7] at hi;exact (xy.ob i x hi).ext (Ext.refl w') (fun _ _ h=>h) (cm.refl K) hle (fX i r7) (S:=gq) (fun _ _ _ h=>h)
  ·rw [getElem?_append_right ag] at hi;have cR:=Vg x (mem_of_getElem? hi)
   cases x with
   | vech E k rows v =>
    obtain ⟨xs,e1,e2,e3,e4,e5⟩:=bg.ob _ _ hi
    have yE:∀ g∈rows.flatten,∃ x,g=.v x:=fun g hg=>by
     obtain ⟨r,h5,h6⟩:=List.mem_flatten.1 hg;exact cR r h5 g h6
    refine ⟨xs,by rw [oe i ag];exact e1,e2,⟨e3.1,fun q u g h5 h6=>?_⟩,e4,fun b hb o=>?_⟩
    ·obtain ⟨y,rfl⟩:=yE g (mem_of_getElem? h6);rw [Rel.eD (e3.2 q u _ h5 h6)];exact .v _
    ·cases hk:K b o with
     | none=>rfl
     | some g =>
      have h1:=hI.fz.lt hk;have h2:=Cd (i - Γ.length) b (by rw [e1];exact hb);omega
   | _=>exact cR.elim
 ·rw [length_append] at hi;rw [oe i ag];exact bg.out _ ag
 ·rcases dk i b h1 with ⟨a1,a2⟩ | ⟨a1,a2⟩ <;> rcases dk j b h2 with ⟨b1,b2⟩ | ⟨b1,b2⟩
  ·exact hI.dis i j b a2 b2
  ·have:=hold i b a2;have:=Cd _ b b2;omega
  ·have:=hold j b b2;have:=Cd _ b a2;omega
  ·have:=bg.dis _ _ b a2 b2;omega
 ·rcases dk i b h1 with ⟨a1,a2⟩ | ⟨a1,a2⟩
  ·exact hI.own i b a2
  ·exact .inr (Nat.le_trans hI.ext.size (Cd _ b a2))
 ·rcases dk i b h with ⟨a1,a2⟩ | ⟨a1,a2⟩
  ·exact xy.tab.free i b a2
  ·exact bg.tab.free _ b a2
def GV.Plain (g:GV):Prop:=∀ {K K':Fz} {β bA:Bt} {v:Value},Rel K β v g->Rel K' bA v g
theorem GV.S8 (x:Value):GV.Plain (.v x):=fun h=>by rw [Rel.eD h];exact .v _
theorem GL.Si {f:FuncId} [hf:aH P f] {args:List Operand} {mI:Array TypeId} {gs:List GV} {R:GV->List Ob->Prop} (hc:GC P f gs [] R)
  (hR:∀ g Δ,R g Δ->GV.Plain g/\∀ o∈Δ,Ob.plain o)
  (hv:∀ B K β w l,Inv B K β Γ w->FR K β fr l->∃ K1,ji K1 w/\gE K1 (fun _=>.no) w/\ba K1 (fun _=>.no) (args.map (ev l)) gs)
  (h:∀ g Δ,R g Δ->GL P m ops Q rest (br fr d g) (Γ++Δ)):GL P m ops Q (⟨d,.call ⟨.value (.func f),args.toArray,mI⟩,ty,pos,af,none⟩::rest) fr Γ:=fun B K β w l hm hI hF=>by
 obtain ⟨K1,h1,h2,h3⟩:=hv B K β w l hI hF
 have oI:(execOp (ev l) ⟨d,.call ⟨.value (.func f),args.toArray,mI⟩,ty,pos,af,none⟩).run P w=.ok (.enter f (args.map (ev l)).toArray) w:=by simp [execOp,resolve,ev,Deferred.ofValue,invoke,lG]
 refine WL.calls oI (hc _ K1 _ w _ rfl (Inv.new h1 h2) h3) ?_;rintro x w' ⟨K',bA,g,Δ,bg,eV,hr⟩;obtain ⟨p1,p2⟩:=hR g Δ hr;obtain ⟨hJ,hle⟩:=hI.Vl bg p2;exact h g Δ hr B K _ w' _ hm hJ ((hF.mono (cm.refl K) hle).put d (p1 eV))
end
end Go.Xg
set_option maxHeartbeats 2000000
namespace Go.Xg
open Go.RowKit Go.Xw Go.Proofs
open Go.Xp (Nd Ar)
open Go.Sp (Src)
open Go.Im (wS ej be nM sd gm dJ nL kH nK)
attribute [local irreducible] GW GL GO YG GC GA aV aZ
theorem EL (l:List Int) (hl:l.length<=1048576):GF Tryz.prog 19 [ints l,ints l] [] (.v (.bool true)) []:=by
 have hm:(l.map (fun i=>[GV.v (ii i)])).length=l.length:=by simp
 have hd:(((l.map (fun i=>[GV.v (ii i)])).length:Int) != ((l.map (fun i=>[GV.v (ii i)])).length:Int))=false:=by simp
 refine ai Tryz.func19 Tryz.ntmps19 ?_;refine GW.loop (fun k:Nat=>l.length - k) (fun k fr Γ=>fr=[ints l,ints l,.U,.U,.U,.v (ii (k:Nat)),.U,.U,.U,.U,.U,.U,.U,.U,.U,.U,.U,.U,.U,.U,.U,.U,.U,.U,.U,.U]/\Γ=[]/\k<=l.length) 0 ?_ ?_
 ·exact ⟨_,_,Wk.aC aq,rfl,rfl,Nat.zero_le _⟩
 rintro k _ _ ⟨rfl,rfl,hk⟩
 by_cases ak:k < l.length
 ·have hx:l[k]?=some l[k]:=by simp [ak]
  have hr:(l.map (fun i=>[GV.v (ii i)]))[k]?=some ([GV.v (ii l[k])]):=by rw [getElem?_map,hx];rfl
  have de:decide ((k:Int) < ((l.map (fun i=>[GV.v (ii i)])).length:Int))=true:=by rw [hm];simpa using ak
  generalize l[k]=x at *
  have hs:(x != x)=false:=by simp
  refine ae ?_;refine aI (aB 0 9 .nil) ?_;refine bf ?_;exact ⟨k+1,⟨_,_,Wk.aC aq,rfl,rfl,ak⟩,by show l.length - (k+1) < l.length - k;omega⟩
 ·have de:decide ((k:Int) < ((l.map (fun i=>[GV.v (ii i)])).length:Int))=false:=by rw [hm];simpa using ak
  refine bI ?_;exact av
theorem zb (l:List ah) (hl:l.length<=1048576):GF Tryz.prog 47 [strs l,strs l] [] (.v (.bool true)) []:=by
 have hm:(l.map (fun s=>[GV.v (sv s)])).length=l.length:=by simp
 have hd:(((l.map (fun s=>[GV.v (sv s)])).length:Int) != ((l.map (fun s=>[GV.v (sv s)])).length:Int))=false:=by simp
 refine ai Tryz.func47 Tryz.ntmps47 ?_;refine GW.loop (fun k:Nat=>l.length - k) (fun k fr Γ=>fr=[strs l,strs l,.U,.U,.U,.v (ii (k:Nat)),.U,.U,.U,.U,.U,.U,.U,.U,.U,.U,.U,.U,.U,.U,.U,.U,.U,.U,.U,.U]/\Γ=[]/\k<=l.length) 0 ?_ ?_
 ·exact ⟨_,_,Wk.aC aq,rfl,rfl,Nat.zero_le _⟩
 rintro k _ _ ⟨rfl,rfl,hk⟩
 by_cases ak:k < l.length
 ·have hx:l[k]?=some l[k]:=by simp [ak]
  have hr:(l.map (fun s=>[GV.v (sv s)]))[k]?=some ([GV.v (sv l[k])]):=by rw [getElem?_map,hx];rfl
  have de:decide ((k:Int) < ((l.map (fun s=>[GV.v (sv s)])).length:Int))=true:=by rw [hm];simpa using ak
  generalize l[k]=x at *
  have hs:(!(x==x))=false:=by simp
  refine ae ?_;refine aI (aB 0 9 .nil) ?_;refine bf ?_;exact ⟨k+1,⟨_,_,Wk.aC aq,rfl,rfl,ak⟩,by show l.length - (k+1) < l.length - k;omega⟩
 ·have de:decide ((k:Int) < ((l.map (fun s=>[GV.v (sv s)])).length:Int))=false:=by rw [hm];simpa using ak
  refine bI ?_;exact av
theorem Mg (x:Ar):GF Tryz.prog 107 [.agg (aD x),.agg (aD x)] [] (.v (.bool true)) []:=by
 have e0:(!(x.name==x.name))=false:=by simp
 have e1:(x.size != x.size)=false:=by simp
 refine ai Tryz.func107 Tryz.ntmps107 ?_;exact al
theorem JU (l:List Ar) (hl:l.length<=1048576):GF Tryz.prog 48 [.sl 2 (l.map aD),.sl 2 (l.map aD)] [] (.v (.bool true)) []:=by
 have hm:(l.map aD).length=l.length:=by simp
 have hd:(((l.map aD).length:Int) != ((l.map aD).length:Int))=false:=by simp
 refine ai Tryz.func48 Tryz.ntmps48 ?_;refine GW.loop (fun k:Nat=>l.length - k) (fun k fr Γ=>fr=[.sl 2 (l.map aD),.sl 2 (l.map aD),.U,.U,.U,.v (ii (k:Nat)),.U,.U,.U,.U,.U,.U,.U,.U,.U,.U,.U,.U,.U,.U,.U,.U,.U,.U,.U,.U,.U]/\Γ=[]/\k<=l.length) 0 ?_ ?_
 ·exact ⟨_,_,Wk.aC aq,rfl,rfl,Nat.zero_le _⟩
 rintro k _ _ ⟨rfl,rfl,hk⟩
 by_cases ak:k < l.length
 ·have hx:l[k]?=some l[k]:=by simp [ak]
  have hr:(l.map aD)[k]?=some (aD l[k]):=by rw [getElem?_map,hx];rfl
  have de:decide ((k:Int) < ((l.map aD).length:Int))=true:=by rw [hm];simpa using ak
  have hc:=Mg l[k];generalize l[k]=x at *;refine ae ?_;refine aI (aB 0 8 (.a 8 (.q 9 .nil))) ?_;refine ar ?_;refine aE [] hc ?_;refine ae ?_;exact ⟨k+1,⟨_,_,Wk.aC aq,rfl,rfl,ak⟩,by show l.length - (k+1) < l.length - k;omega⟩
 ·have de:decide ((k:Int) < ((l.map aD).length:Int))=false:=by rw [hm];simpa using ak
  refine bI ?_;exact av
theorem T0 (x:Go.Sp.Fn) (hp:x.params.length<=1048576):GF Tryz.prog 108 [.agg (aw x),.agg (aw x)] [] (.v (.bool true)) []:=by
 have e0:(!(x.name==x.name))=false:=by simp
 have e1:(x.body != x.body)=false:=by simp
 have h0:=zb x.params hp;refine ai Tryz.func108 Tryz.ntmps108 ?_;refine ab [] h0 ?_;exact al
theorem Sw (l:List Go.Sp.Fn) (hl:l.length<=1048576) (he:∀ x∈l,x.params.length<=1048576):GF Tryz.prog 49 [.sl 3 (l.map aw),.sl 3 (l.map aw)] [] (.v (.bool true)) []:=by
 have hm:(l.map aw).length=l.length:=by simp
 have hd:(((l.map aw).length:Int) != ((l.map aw).length:Int))=false:=by simp
 refine ai Tryz.func49 Tryz.ntmps49 ?_;refine GW.loop (fun k:Nat=>l.length - k) (fun k fr Γ=>fr=[.sl 3 (l.map aw),.sl 3 (l.map aw),.U,.U,.U,.v (ii (k:Nat)),.U,.U,.U,.U,.U,.U,.U,.U,.U,.U,.U,.U,.U,.U,.U,.U,.U,.U,.U,.U,.U]/\Γ=[]/\k<=l.length) 0 ?_ ?_
 ·exact ⟨_,_,Wk.aC aq,rfl,rfl,Nat.zero_le _⟩
 rintro k _ _ ⟨rfl,rfl,hk⟩
 by_cases ak:k < l.length
 ·have hx:l[k]?=some l[k]:=by simp [ak]
  have hr:(l.map aw)[k]?=some (aw l[k]):=by rw [getElem?_map,hx];rfl
  have de:decide ((k:Int) < ((l.map aw).length:Int))=true:=by rw [hm];simpa using ak
  have hex:=he _ (mem_of_getElem? hx);have hc:=T0 l[k] hex;generalize l[k]=x at *;refine ae ?_;refine aI (aB 0 8 (.a 8 (.q 9 .nil))) ?_;refine ar ?_;refine aE [] hc ?_;refine ae ?_;exact ⟨k+1,⟨_,_,Wk.aC aq,rfl,rfl,ak⟩,by show l.length - (k+1) < l.length - k;omega⟩
 ·have de:decide ((k:Int) < ((l.map aw).length:Int))=false:=by rw [hm];simpa using ak
  refine bI ?_;exact av
theorem Pf (x:Nd) (hp:x.kids.length<=1048576):GF Tryz.prog 109 [.agg (ay x),.agg (ay x)] [] (.v (.bool true)) []:=by
 have e0:(x.kind != x.kind)=false:=by simp
 have e1:(x.at_ != x.at_)=false:=by simp
 have e2:(x.n != x.n)=false:=by simp
 have e3:(!(x.s==x.s))=false:=by simp
 have h0:=EL x.kids hp;refine ai Tryz.func109 Tryz.ntmps109 ?_;refine ab [] h0 ?_;exact al
theorem Mi (l:List Nd) (hl:l.length<=1048576) (he:∀ x∈l,x.kids.length<=1048576):GF Tryz.prog 50 [.sl 5 (l.map ay),.sl 5 (l.map ay)] [] (.v (.bool true)) []:=by
 have hm:(l.map ay).length=l.length:=by simp
 have hd:(((l.map ay).length:Int) != ((l.map ay).length:Int))=false:=by simp
 refine ai Tryz.func50 Tryz.ntmps50 ?_;refine GW.loop (fun k:Nat=>l.length - k) (fun k fr Γ=>fr=[.sl 5 (l.map ay),.sl 5 (l.map ay),.U,.U,.U,.v (ii (k:Nat)),.U,.U,.U,.U,.U,.U,.U,.U,.U,.U,.U,.U,.U,.U,.U,.U,.U,.U,.U,.U,.U]/\Γ=[]/\k<=l.length) 0 ?_ ?_
 ·exact ⟨_,_,Wk.aC aq,rfl,rfl,Nat.zero_le _⟩
 rintro k _ _ ⟨rfl,rfl,hk⟩
 by_cases ak:k < l.length
 ·have hx:l[k]?=some l[k]:=by simp [ak]
  have hr:(l.map ay)[k]?=some (ay l[k]):=by rw [getElem?_map,hx];rfl
  have de:decide ((k:Int) < ((l.map ay).length:Int))=true:=by rw [hm];simpa using ak
  have hex:=he _ (mem_of_getElem? hx);have hc:=Pf l[k] hex;generalize l[k]=x at *;refine ae ?_;refine aI (aB 0 8 (.a 8 (.q 9 .nil))) ?_;refine ar ?_;refine aE [] hc ?_;refine ae ?_;exact ⟨k+1,⟨_,_,Wk.aC aq,rfl,rfl,ak⟩,by show l.length - (k+1) < l.length - k;omega⟩
 ·have de:decide ((k:Int) < ((l.map ay).length:Int))=false:=by rw [hm];simpa using ak
  refine bI ?_;exact av
theorem JV (x:Src) (hg:x.globals.length<=1048576) (ha:x.arrays.length<=1048576) (hf:x.fns.length<=1048576) (A2:∀ f∈x.fns,f.params.length<=1048576) (hn:x.nodes.length<=1048576) (xJ:∀ n∈x.nodes,n.kids.length<=1048576):GF Tryz.prog 14 [.agg (ax x),.agg (ax x)] [] (.v (.bool true)) []:=by
 have h0:=zb x.globals hg;have h1:=JU x.arrays ha;have h2:=Sw x.fns hf A2;have h3:=Mi x.nodes hn xJ;refine ai Tryz.func14 Tryz.ntmps14 ?_;refine ab [] h0 ?_;refine ab [] h1 ?_;refine ab [] h2 ?_;refine ab [] h3 ?_;exact al
end Go.Xg
set_option maxHeartbeats 4000000
namespace Go.Xg
open Go.RowKit Go.Xw Go.Proofs
open Go.Im
attribute [local irreducible] GW GL GO YG GC GA aV aZ
def pZ (k n:Nat):List Int:=(List.range n).map fun i=>((k+i:Nat):Int)
theorem KC (k n:Nat):(pZ k n).length=n:=by simp [pZ]
theorem Dw (k n:Nat):gK k n=bc (pZ k n):=by unfold gK pZ bc;rw [List.map_map];rfl
def ei (gs:List (List Int)):Nat:=(gs.map List.length).sum
def mG:Nat->List (List Int)->List (List Int)
 | _,[]=>[]
 | k,g::gs=>pZ k g.length::mG (k+g.length) gs
theorem DT (a:List (List Int)) (g:List Int):ei (a++[g])=ei a+g.length:=by simp [ei]
theorem DU {gs:List (List Int)} {i:Nat} {g:List Int} (h:gs[i]?=some g):ei (gs.take (i+1))=ei (gs.take i)+g.length:=by
 rw [List.take_add_one,h];exact DT _ _
theorem Jr (gs:List (List Int)) (i:Nat):ei (gs.take i)<=ei gs:=by
 have h:=congrArg ei (List.take_append_drop i gs);unfold ei at *;rw [List.map_append,List.sum_append] at h;omega
theorem lB:∀ (k:Nat) (gs:List (List Int)),(mG k gs).length=gs.length
 | _,[]=>rfl
 | k,g::gs=>by simp [mG,lB (k+g.length) gs]
theorem F0:∀ (k:Nat) (a:List (List Int)) (g:List Int),mG k (a++[g])=mG k a++[pZ (k+ei a) g.length]
 | k,[],g=>by simp [mG,ei]
 | k,x::a,g=>by
  have:=F0 (k+x.length) a g;rw [List.cons_append,mG,this,mG];simp [ei,Nat.add_assoc]
theorem FZ:∀ {gs:List (List Int)} (k:Nat) {i:Nat} {g:List Int},gs[i]?=some g->(mG k gs)[i]?=some (pZ (k+ei (gs.take i)) g.length)
 | [],k,i,g,h=>by simp at h
 | x::gs,k,0,g,h=>by cases h;simp [mG,ei]
 | x::gs,k,i+1,g,h=>by
  have:=FZ (gs:=gs) (k+x.length) (i:=i) (g:=g) (by simpa using h);rw [mG,getElem?_cons_succ,this,List.take_succ_cons];simp [ei,Nat.add_assoc]
def qM (k:Nat) (gs:List (List Int)) (i:Nat):List (List Int):=mG k (gs.take i)++gs.drop i
theorem FY (k:Nat) (gs:List (List Int)) (i:Nat):(qM k gs i).length=gs.length:=by simp [qM,lB];omega
theorem SX {gs:List (List Int)} {k i:Nat} {g:List Int} (h:gs[i]?=some g):(qM k gs i)[i]?=some g:=by
 have hi:=(List.getElem?_eq_some_iff.1 h).1
 have hl:(mG k (gs.take i)).length=i:=by rw [lB,List.length_take];omega
 unfold qM;rw [getElem?_append_right ag,hl,Nat.sub_self,List.getElem?_drop];exact h
theorem Qa {gs:List (List Int)} {k i:Nat} {g:List Int} (h:gs[i]?=some g):(qM k gs i).set i (pZ (k+ei (gs.take i)) g.length)=qM k gs (i+1):=by
 have hi:=(List.getElem?_eq_some_iff.1 h).1
 have hl:(mG k (gs.take i)).length=i:=by rw [lB,List.length_take];omega
 unfold qM;rw [set_append_right _ _ ag,hl,Nat.sub_self,List.drop_eq_getElem_cons hi,set_cons_zero,List.take_add_one,h];rw [show (some g).toList=[g] from rfl,F0,append_assoc];rfl
theorem Pw {hs:List Value} {i:Nat} {x:Value} (h:hs[i]?=some x):hs.set i x=hs:=by
 refine ext_getElem? fun j=>?_
 rw [getElem?_set]
 by_cases e:i=j
 ·subst e;have:=(List.getElem?_eq_some_iff.1 h).1;rw [if_pos rfl,if_pos this,h]
 ·rw [if_neg e]
theorem Mh (r:List (List Int)) (hl:r.length<=1048576) (hk:∀ g∈r,g.length<=1048576):GF Tryz.prog 25 [.sl 1 (cS r),.sl 1 (cS r)] [] (.v (.bool true)) []:=by
 have hm:(cS r).length=r.length:=by simp [cS]
 have hd:(((cS r).length:Int) != ((cS r).length:Int))=false:=by simp
 refine ai Tryz.func25 Tryz.ntmps25 ?_;refine GW.loop (fun k:Nat=>r.length - k) (fun k fr Γ=>fr=[.sl 1 (cS r),.sl 1 (cS r),.U,.U,.U,.v (ii (k:Nat)),.U,.U,.U,.U,.U,.U,.U,.U,.U,.U,.U,.U,.U,.U,.U,.U,.U,.U,.U,.U,.U]/\Γ=[]/\k<=r.length) 0 ?_ ?_
 ·exact ⟨_,_,Wk.aC aq,rfl,rfl,Nat.zero_le _⟩
 rintro k _ _ ⟨rfl,rfl,oh⟩
 by_cases ak:k < r.length
 ·obtain ⟨g,hg⟩:∃ g,r[k]?=some g:=⟨r[k],by simp [ak]⟩
  have hr:(cS r)[k]?=some [.sl 1 (bc g)]:=by unfold cS;rw [getElem?_map,hg];rfl
  have de:decide ((k:Int) < ((cS r).length:Int))=true:=by rw [hm];simpa using ak
  have hQ:=EL g (hk g (mem_of_getElem? hg));have e1:ints g=.sl 1 (bc g):=rfl;rw [e1] at hQ;generalize bc g=S at *;refine ae ?_;refine aI (aB 0 8 (.a 8 (.q 9 .nil))) ?_;refine ar ?_;refine aE [] hQ ?_;refine ae ?_;exact ⟨k+1,⟨_,_,Wk.aC aq,rfl,rfl,ak⟩,by show r.length - (k+1) < r.length - k;omega⟩
 ·have de:decide ((k:Int) < ((cS r).length:Int))=false:=by rw [hm];simpa using ak
  refine bI ?_;exact av
theorem Hw (gs:List (List Int)) (h:Value) (hs:List Value) (H:n9 gs h hs) (k:Nat) (hb:k+ei gs<=1099511627776) (eT:gs.length<=1048576) :
  GC Tryz.prog 26 [.v h,.v (ii (k:Nat))] (iH gs h hs) fun g Δ=>g=.v (ii ((k+ei gs:Nat):Int))/\Δ=iH (mG k gs) h hs:=by
 have hl:=H.len;obtain ⟨a0,c0,rfl⟩:=H.head
 have vf:(il hs).length=gs.length:=by rw [u9,hl]
 refine db Tryz.func26 Tryz.ntmps26 ?_;generalize Zz:(iH gs (.slice a0 gs.length c0) hs).length=ml
 have dK:ml=gs.length+1:=by rw [<-Zz];unfold iH;rw [length_cons,py hl]
 unfold iH;refine ae ?_;refine GW.loop (fun i:Nat=>gs.length - i) (fun i fr Γ=>∃ kk:Nat,kk=k+ei (gs.take i)/\i<=gs.length/\fr=[.v (.slice a0 gs.length c0),.v (ii (kk:Nat)),.U,.U,.U,.v (ii (i:Nat)),.U,.U,.U,.U,.U,.U,.U,.U,.U,.U,.U,.U,.U]/\Γ=.vech 40 1 (il hs) (.slice a0 gs.length c0)::fv (qM k gs i) hs) 0 ?_ ?_
 ·exact ⟨_,_,Wk.aC aq,k,by simp [ei],Nat.zero_le _,rfl,rfl⟩
 rintro i _ _ ⟨kk,iM,hi,rfl,rfl⟩
 by_cases ak:i < gs.length
 ·have hd:decide ((i:Int) < (gs.length:Int))=true:=by simpa using ak
  obtain ⟨g,hg⟩:∃ g,gs[i]?=some g:=⟨gs[i],by simp [ak]⟩;have oe:hs[i]?=some (hs[i]'ag):=getElem?_eq_getElem _;obtain ⟨a1,c1,e1⟩:=H.kid i _ _ hg oe;generalize hs[i]'ag=x at *;subst e1
  have rD:(il hs)[i]?=some [.v (.slice a1 g.length c1)]:=by simp [il,oe]
  have qs:i < (il hs).length:=by omega
  have Va:=DU hg;have hle:=Jr gs (i+1);have hM:=Kz a1 c1 g.length (k+ei (gs.take i)) (bc g) (PH g) ag
  have fq:(Ob.vech 40 1 (il hs) (.slice a0 gs.length c0)::fv (qM k gs i) hs)[i+1]?=some (.vech 3 1 (bc g) (.slice a1 g.length c1)):=by rw [getElem?_cons_succ];exact rI (SX hg) oe
  have bU:=ua (qM k gs i) hs i (pZ (k+ei (gs.take i)) g.length) (.slice a1 g.length c1);rw [Qa hg,Pw oe,<-Dw] at bU;have eS:=py (gs:=qM k gs i) (hs:=hs) (by rw [FY];exact hl);rw [FY] at eS;rw [Nat.add_assoc,<-Va] at hM;rw [<-iM] at hM bU;generalize oh:k+ei (gs.take (i+1))=RH at *;refine ae ?_;refine GL.JL [i+1] hM (kJ) (by simp [gL,eS,ak]) ⟨fq,trivial⟩ rfl ?_;refine bJ ?_;rw [append_nil];refine ae ?_;exact ⟨i+1,⟨_,_,Wk.aC aq,RH,oh.symm,ak,rfl,by rw [<-bU]⟩,by show gs.length - (i+1) < gs.length - i;omega⟩
 ·have hd:decide ((i:Int) < (gs.length:Int))=false:=by simpa using ak
  have fP:i=gs.length:=by omega
  subst fP
  have e1:qM k gs gs.length=mG k gs:=by unfold qM;simp
  rw [e1];rw [take_length] at iM;subst iM;refine bI ?_;refine ae ?_;refine ig ?_
  have hlm:(iH (mG k gs) (.slice a0 gs.length c0) hs).length=ml:=by unfold iH;rw [length_cons,py (by rw [lB];exact hl),lB];omega
  exact D7 rfl cl rfl hlm.symm ph ⟨rfl,rfl⟩
theorem Hl (gs:List (List Int)) (k:Nat) (hb:k+ei gs<=1099511627776) (eT:gs.length<=1048576) :
  GF Tryz.prog 27 [.sl 1 (cS (mG k gs)),.v (ii (k:Nat))] [] (.v (ii ((k+ei gs:Nat):Int))) []:=by
 have hm:(cS (mG k gs)).length=gs.length:=by simp [cS,lB]
 refine ai Tryz.func27 Tryz.ntmps27 ?_;refine GW.loop (fun i:Nat=>gs.length - i) (fun i fr Γ=>∃ kk:Nat,kk=k+ei (gs.take i)/\fr=[.sl 1 (cS (mG k gs)),.v (ii (kk:Nat)),.U,.U,.U,.v (ii (i:Nat)),.U,.U,.U,.U,.U,.U,.U,.U,.U,.U,.U,.U,.U,.U,.U]/\Γ=[]/\i<=gs.length) 0 ?_ ?_
 ·exact ⟨_,_,Wk.aC aq,k,by simp [ei],rfl,rfl,Nat.zero_le _⟩
 rintro i _ _ ⟨kk,iM,rfl,rfl,hi⟩
 by_cases ak:i < gs.length
 ·have hd:decide ((i:Int) < ((cS (mG k gs)).length:Int))=true:=by rw [hm];simpa using ak
  obtain ⟨g,hg⟩:∃ g,gs[i]?=some g:=⟨gs[i],by simp [ak]⟩;have Va:=DU hg;have hle:=Jr gs (i+1);have hH:=J2 (k+ei (gs.take i)) g.length ag
  have hr:(cS (mG k gs))[i]?=some [.sl 1 (gK (k+ei (gs.take i)) g.length)]:=by
   unfold cS;rw [getElem?_map,FZ k hg,Dw];rfl
  rw [Nat.add_assoc,<-Va] at hH;rw [<-iM] at hH hr;generalize oh:k+ei (gs.take (i+1))=RH at *;have de:decide (((RH:Nat):Int) < 0)=false:=decide_eq_false ag;generalize gK kk g.length=S at *;refine ae ?_;refine ab [] hH ?_;exact ⟨i+1,⟨_,_,Wk.aC aq,RH,oh.symm,rfl,rfl,ak⟩,by show gs.length - (i+1) < gs.length - i;omega⟩
 ·have hd:decide ((i:Int) < ((cS (mG k gs)).length:Int))=false:=by rw [hm];simpa using ak
  have fP:i=gs.length:=by omega
  subst fP;rw [take_length] at iM;subst iM;refine bI ?_;exact av
theorem ML {gs:List (List Int)} {h:Value} {hs:List Value}:∀ o∈iH gs h hs,Ob.plain o:=fun o ho=>by
 rcases List.mem_cons.1 ho with rfl | ho
 ·intro r hr g hg;unfold il at hr;obtain ⟨x,_,rfl⟩:=List.mem_map.1 hr;rw [List.mem_singleton.1 hg];exact ⟨_,rfl⟩
 ·unfold fv at ho;obtain ⟨i,hi⟩:=List.mem_iff_getElem?.1 ho;rw [List.getElem?_zipWith] at hi;split at hi
  ·cases hi;intro r hr g hg;unfold bc at hr;obtain ⟨x,_,rfl⟩:=List.mem_map.1 hr;rw [List.mem_singleton.1 hg];exact ⟨_,rfl⟩
  ·cases hi
section
variable {B:Bs} {K:Fz} {β:Bt} {w:World} {fr:List GV} {l:List Value} {A C:List Ob} {gs:List (List Int)} {h:Value} {hs:List Value}
theorem xg {x y:Operand} (H:n9 gs h hs) (hI:Inv B K β (A++(iH gs h hs++C)) w) (hF:FR K β fr l) (hx:aY fr x=.v h) (hy:aY fr y=.sl 1 (cS gs)) :
  ∃ K1,ji K1 w/\gE K1 (fun _=>.no) w/\ba K1 (fun _=>.no) ([x,y].map (ev l)) [.sl 1 (cS gs),.sl 1 (cS gs)]:=by
 obtain ⟨K1,hk,h1,h2,h3⟩:=zU H hI;have hr:=hF.ev y;rw [hy] at hr;refine ⟨K1,h1,h2,?_⟩;show ba K1 _ [ev l x,ev l y] _;rw [hF.gV hx];exact .cons h3 (.cons ((hr.mono hk (cZ.refl β)).pc rfl) .nil)
theorem CU {x y:Operand} {z:Value} (H:n9 gs h hs) (hI:Inv B K β (A++(iH gs h hs++C)) w) (hF:FR K β fr l) (hx:aY fr x=.v h) (hy:aY fr y=.v z) :
  ∃ K1,ji K1 w/\gE K1 (fun _=>.no) w/\ba K1 (fun _=>.no) ([x,y].map (ev l)) [.sl 1 (cS gs),.v z]:=by
 obtain ⟨K1,hk,h1,h2,h3⟩:=zU H hI;refine ⟨K1,h1,h2,?_⟩;show ba K1 _ [ev l x,ev l y] _;rw [hF.gV hx,hF.gV hy];exact .cons h3 (.cons (.v _) .nil)
end
theorem n9.mk' {gs:List (List Int)} {h:Value} {hs:List Value} (H:n9 gs h hs) (k:Nat):n9 (mG k gs) h hs:=by
 obtain ⟨a,c,e⟩:=H.head;refine ⟨⟨a,c,by rw [e,lB]⟩,by rw [lB];exact H.len,fun i g x h1 h2=>?_⟩;have hi:=(List.getElem?_eq_some_iff.1 h1).1;rw [lB] at hi;have hg:gs[i]?=some gs[i]:=getElem?_eq_getElem hi;rw [FZ k hg] at h1;cases h1;obtain ⟨a1,c1,e1⟩:=H.kid i _ x hg h2;exact ⟨a1,c1,by rw [e1,KC]⟩
end Go.Xg
