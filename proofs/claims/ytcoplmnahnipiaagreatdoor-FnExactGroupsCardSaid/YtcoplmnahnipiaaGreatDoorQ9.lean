/- Part 9 of proofs that are told in their last texts. -/
import Derived.Test.YtcoplmnahnipiaaGreatDoorQ8
import Derived.Test.YtcoplmnahnipiaaGreatDoorQ6
import Derived.Test.YtcoplmnahnipiaaGreatDoorQ7
import Derived.Test.YtcoplmnahnipiaaGreatDoorQ5
import Derived.Test.YtcoplmnahnipiaaGreatDoorQ2
open List (append_assoc append_nil ext_getElem? getElem?_append_right getElem?_cons_succ getElem?_eq_getElem getElem?_eq_none getElem?_map getElem?_set length_append length_cons length_set length_zipWith map_nil mem_of_getElem? range'_succ set_append_right set_cons_zero take_length)
set_option linter.unusedVariables false
set_option linter.unusedSimpArgs false
set_option maxRecDepth 100000
set_option maxHeartbeats 4000000
namespace Go.Im
open Go.Xp Go.Sp
end Go.Im
namespace Go.Xg
open Go.RowKit Go.Xw Go.Proofs
open Go.Xp (Nd T Ar aP az bL)
open Go.Sp (Src)
open Go.Im
attribute [local irreducible] GW GL GO YG GC GA aU aZ
end Go.Xg
set_option maxHeartbeats 2000000
namespace Go.Im
open Go.Xp
def xb (n:Nat):ah:=109::cB n
theorem BU {n:Nat} (h:n < 10):cB n=[UInt8.ofNat (48+n)]:=by rw [cB,dif_pos h]
theorem HR {n:Nat} (h:¬ n < 10):cB n=cB (n / 10)++[UInt8.ofNat (48+n % 10)]:=by rw [cB,dif_neg h]
end Go.Im
namespace Go.Xg
open Go.RowKit Go.Xw Go.Proofs
open Go.Xp (Nd Ar cB oV)
open Go.Sp (Src)
open Go.Im (xb BU HR)
attribute [local irreducible] GW GL GO YG GC GA aU aZ
theorem sr (n:Nat) (hn:n<=1099511627776):GF Tryz.prog 111 [.v (ii (n:Int))] [] (.v (sv (xb n))) []:=by
 unfold xb
 by_cases h0:n=0
 ·subst h0;rw [BU ag];refine ai Tryz.func111 Tryz.ntmps111 ?_;exact al
 have hd0:decide ((n:Int)<=0)=false:=by simpa using by omega
 have UA:=oV n;refine ai Tryz.func111 Tryz.ntmps111 ?_;refine GW.loop (fun st:Nat × ah=>st.1) (fun st fr Γ=>fr=[.v (ii (st.1:Nat)),.U,.U,.v (sv st.2),.U,.U,.U,.U,.U,.U,.U,.U,.U,.U,.U,.U,.U,.U,.U,.U]/\Γ=[]/\st.1<=n/\st.2.length<=n+1/\(st.1=0->st.2=cB n)/\(st.1 > 0->cB st.1++st.2=cB n)) (n,[]) ?_ ?_
 ·exact ⟨_,_,Wk.aC aq,rfl,rfl,Nat.le_refl _,Nat.zero_le _,fun h=>absurd h h0,fun _=>by simp⟩
 rintro ⟨k,y⟩ _ _ ⟨rfl,rfl,hk,Fw,hz,hp⟩;simp only at hk Fw hz hp
 by_cases ak:k > 0
 ·have hd:decide ((0:Int) < (k:Int))=true:=by simpa using ak
  have hq:=hp ak;have hw:=x6 (48+k % 10) ag;rw [Int.natCast_add] at hw
  have bu:(k / 10=0->[UInt8.ofNat (48+k % 10)]++y=cB n)/\(k / 10 > 0->cB (k / 10)++([UInt8.ofNat (48+k % 10)]++y)=cB n):=by
   by_cases kZ:k < 10
   ·rw [BU kZ] at hq;refine ⟨fun _=>?_,fun h=>by omega⟩;rw [Nat.mod_eq_of_lt kZ];exact hq
   ·rw [HR kZ,append_assoc] at hq;exact ⟨fun h=>by omega,fun _=>hq⟩
  have rD:([UInt8.ofNat (48+k % 10)]++y).length<=n+1:=by
   by_cases kZ:k / 10=0
   ·rw [bu.1 kZ];exact UA
   ·have:=congrArg List.length (bu.2 ag);rw [length_append] at this;omega
  refine ae ?_;refine bS ?_;refine ae ?_;exact ⟨(k / 10,[UInt8.ofNat (48+k % 10)]++y),⟨_,_,Wk.aC aq,rfl,rfl,by show k / 10<=n;omega,rD,bu.1,bu.2⟩,by show k / 10 < k;omega⟩
 ·have hd:decide ((0:Int) < (k:Int))=false:=by simpa using ak
  have hy:=hz ag;subst hy;refine bH ?_;exact av
def marks (k n:Nat):List (List GV):=(List.range n).map fun i=>[GV.v (sv (xb (k+i)))]
theorem uk (k n:Nat):(marks k n).length=n:=by simp [marks]
theorem Ks (k n:Nat):marks k (n+1)=marks k n++[[.v (sv (xb (k+n)))]]:=by simp [marks,List.range_succ]
theorem ND (k:Nat) (rows:List (List GV)) {i:Nat} (h:i < rows.length):(marks k i++rows.drop i).set i [.v (sv (xb (k+i)))]=marks k (i+1)++rows.drop (i+1):=by
 rw [List.drop_eq_getElem_cons h,set_append_right _ _ (by rw [uk];exact Nat.le_refl _),uk,Nat.sub_self,set_cons_zero,Ks,append_assoc];rfl
theorem xa (a:Option Addr) (c n k:Nat) (rows:List (List GV)) (hn:rows.length=n) (hb:k+n<=1099511627776) :
  GF Tryz.prog 57 [.v (.slice a n c),.v (ii (k:Nat))] [.vech 9 1 rows (.slice a n c)] (.v (ii ((k+n:Nat):Int))) [.vech 9 1 (marks k n) (.slice a n c)]:=by
 refine ai Tryz.func57 Tryz.ntmps57 ?_;refine GW.loop (fun i:Nat=>n - i) (fun i fr Γ=>∃ R,fr=[.v (.slice a n c),.v (ii ((k+i:Nat):Int)),.U,.U,.U,.v (ii (i:Nat)),.U,.U,.U,.U,.U,.U,.U,.U,.U,.U,.U,.U,.U,.U]/\Γ=[.vech 9 1 R (.slice a n c)]/\i<=n/\R=marks k i++rows.drop i) 0 ?_ ?_
 ·exact ⟨_,_,Wk.aC aq,_,rfl,rfl,Nat.zero_le _,rfl⟩
 rintro i _ _ ⟨R,rfl,rfl,hi,hR⟩
 have eE:R.length=n:=by rw [hR,length_append,uk,List.length_drop];omega
 by_cases ak:i < n
 ·have hd:decide ((i:Int) < (n:Int))=true:=by simpa using ak
  have hc:=sr (k+i) ag;have bU:=ND k rows (i:=i) ag;rw [<-hR] at bU;clear hR;generalize xb (k+i)=x at *;refine ae ?_;refine ab [] hc ?_;refine jH ?_;refine ae ?_;exact ⟨i+1,⟨_,_,Wk.aC aq,_,rfl,rfl,ak,bU⟩,by show n - (i+1) < n - i;omega⟩
 ·have hd:decide ((i:Int) < (n:Int))=false:=by simpa using ak
  have fO:i=n:=by omega
  subst fO;rw [List.drop_of_length_le ag,append_nil] at hR;subst hR;refine bH ?_;exact av
end Go.Xg
namespace Go.Xg
open Go.RowKit Go.Xw Go.Proofs
open Go.Xp (Nd Ar cB oV)
open Go.Sp (Src)
open Go.Im (xb)
attribute [local irreducible] GW GL GO YG GC GA aU aZ
theorem SW {p:Nat->Bool} {Γ:List Ob} (h:∀ x∈Γ,x.lR=true):Du p Γ=true:=by
 induction Γ with
 | nil=>rfl
 | cons x r ih =>
  rw [Du,ih fun y hy=>h y (List.mem_cons_of_mem _ hy),Bool.and_true];have:=h x List.mem_cons_self
  cases x <;> first | rfl | cases this
section
variable {P:Program} {fn:Func} {m:Nat} {R:GV->List Ob->Prop} {fr:List GV} {Γ:List Ob} {e:Exit}
theorem D0 {t:Tmp} {x:Value} (hr:fn.results=#[.tmp t]) (he:e=.normal\/e=.ret) (hg:cE fr t=.v x) (hm:m=Γ.length) (ha:∀ x∈Γ,x.lR=true) (h:R (.v x) Γ):sW P fn m R e fr Γ :=
 rY (n:=Γ.length) hr he hg ag (by rw [take_length];exact SW ha) rfl (by rw [take_length];exact h)
end
def iY (f:Nat->Nat):Nat->Nat
 | 0=>0
 | i+1=>iY f i+f i
theorem Gr (f:Nat->Nat) {i n:Nat} (h:i<=n):iY f i<=iY f n:=by
 induction n with
 | zero =>
  have:i=0:=by omega
  subst this;exact Nat.le_refl _
 | succ n ih =>
  by_cases e:i=n+1
  ·subst e;exact Nat.le_refl _
  ·have:=ih ag;rw [iY];omega
theorem ZD {r:List GV} (h:r.length=2):∃ x y,r=[x,y]:=by
 match r,h with
 | [x,y],_=>exact ⟨x,y,rfl⟩
theorem pD {rows:List (List GV)} {i o:Nat} {g:GV} {r:List GV} (hr:rows[i]?=some r):(dk rows i o g)[i]?=some (bs r o g):=by rw [sG hr,if_pos rfl]
theorem DD {k:Nat} {rows:List (List GV)} {i o:Nat} {g:GV} {r:List GV} (hr:rows[i]?=some r) (h:∀ r∈rows,r.length=k):∀ r∈dk rows i o g,r.length=k:=fun q hq=>by
 obtain ⟨j,hj⟩:=List.getElem?_of_mem hq;rw [sG hr] at hj;split at hj
 ·cases hj;rw [zS];exact h r (mem_of_getElem? hr)
 ·exact h q (mem_of_getElem? hj)
theorem Kp (a:Option Addr) (c n k:Nat) (rows:List (List GV)) (hn:rows.length=n) (hb:k+n<=1099511627776) :
  GC Tryz.prog 21 [.v (.slice a n c),.v (ii (k:Nat))] [.vech 3 1 rows (.slice a n c)] fun g Δ=>g=.v (ii ((k+n:Nat):Int))/\∃ R,R.length=n/\Δ=[.vech 3 1 R (.slice a n c)]:=by
 refine ai Tryz.func21 Tryz.ntmps21 ?_;refine GW.loop (fun i:Nat=>n - i) (fun i fr Γ=>∃ R,fr=[.v (.slice a n c),.v (ii ((k+i:Nat):Int)),.U,.U,.U,.v (ii (i:Nat)),.U,.U,.U,.U,.U,.U,.U,.U,.U,.U,.U,.U,.U]/\Γ=[.vech 3 1 R (.slice a n c)]/\i<=n/\R.length=n) 0 ?_ ?_
 ·exact ⟨_,_,Wk.aC aq,_,rfl,rfl,Nat.zero_le _,hn⟩
 rintro i _ _ ⟨R,rfl,rfl,hi,eE⟩
 by_cases ak:i < n
 ·have hd:decide ((i:Int) < (n:Int))=true:=by simpa using ak
  refine ae ?_;refine jH ?_;refine ae ?_;exact ⟨i+1,⟨_,_,Wk.aC aq,_,rfl,rfl,ak,by simp [eE]⟩,by show n - (i+1) < n - i;omega⟩
 ·have hd:decide ((i:Int) < (n:Int))=false:=by simpa using ak
  have fO:i=n:=by omega
  subst fO;refine bH ?_;refine ae ?_;refine bR ?_;exact ⟨rfl,R,eE,rfl⟩
theorem FK (a:Option Addr) (c n k:Nat) (rows:List (List GV)) (hn:rows.length=n) (h2:∀ r∈rows,r.length=2) (hb:k+2 * n<=1099511627776) :
  GC Tryz.prog 58 [.v (.slice a n c),.v (ii (k:Nat))] [.vech 88 2 rows (.slice a n c)] fun g Δ=>g=.v (ii ((k+2 * n:Nat):Int))/\∃ R,Δ=[.vech 88 2 R (.slice a n c)]:=by
 refine ai Tryz.func58 Tryz.ntmps58 ?_;refine GW.loop (fun i:Nat=>n - i) (fun i fr Γ=>∃ R,fr=[.v (.slice a n c),.v (ii ((k+2 * i:Nat):Int)),.U,.U,.U,.v (ii (i:Nat)),.U,.U,.U,.U,.U,.U,.U,.U,.U,.U,.U,.U,.U,.U,.U,.U,.U,.U,.U,.U,.U,.U]/\Γ=[.vech 88 2 R (.slice a n c)]/\i<=n/\R.length=n/\∀ r∈R,r.length=2) 0 ?_ ?_
 ·exact ⟨_,_,Wk.aC aq,_,rfl,rfl,Nat.zero_le _,hn,h2⟩
 rintro i _ _ ⟨R,rfl,rfl,hi,eE,Q1⟩
 by_cases ak:i < n
 ·have hd:decide ((i:Int) < (n:Int))=true:=by simpa using ak
  have hc:=sr (k+2 * i) ag;have hr:R[i]?=some (R[i]'ag):=getElem?_eq_getElem _;obtain ⟨x0,y0,iU⟩:=ZD (Q1 _ (mem_of_getElem? hr));rw [iU] at hr;clear iU;generalize xb (k+2 * i)=x at *;have fX:=pD (o:=0) (g:=.v (sv x)) hr;simp only [bs] at fX
  have eS:(dk R i (0+0) (.v (sv x))).length=n:=by rw [fB];exact eE
  have Ur:=DD (o:=0) (g:=.v (sv x)) hr Q1;refine ae ?_;refine ab [] hc ?_;refine oN ?_;refine ae ?_;refine oN ?_;refine ae ?_;exact ⟨i+1,⟨_,_,Wk.aC aq,_,rfl,rfl,ak,by rw [fB];exact eS,DD fX Ur⟩,by show n - (i+1) < n - i;omega⟩
 ·have hd:decide ((i:Int) < (n:Int))=false:=by simpa using ak
  have fO:i=n:=by omega
  subst fO;refine bH ?_;refine ae ?_;refine bR ?_;exact ⟨rfl,R,rfl⟩
theorem FM {R:List (List GV)} {hs:Nat->Value} {n i o:Nat} {g x y:GV} (hi:i < n) (ho:o=0\/o=2) (hr:R[i]?=some [x,.v (hs i),y]) (h:∀ j,j < n->∃ x y,R[j]?=some [x,.v (hs j),y]):∀ j,j < n->∃ x y,(dk R i o g)[j]?=some [x,.v (hs j),y]:=fun j hj=>by
 rw [sG hr]
 by_cases e:j=i
 ·subst e;rw [if_pos rfl]
  rcases ho with rfl | rfl
  ·exact ⟨_,_,rfl⟩
  ·exact ⟨_,_,rfl⟩
 ·rw [if_neg e];exact h j hj
theorem NB (a:Option Addr) (c n k:Nat) (hs:Nat->Value) (pl:Nat->Nat) (rows:List (List GV)) (L:List Ob) (hn:rows.length=n) (hh:∀ i,i < n->Hd (pl i) (hs i)) (bt:∀ i,i < n->∃ x y,rows[i]?=some [x,.v (hs i),y])
  (hL:L.length=n) (fp:∀ i,i < n->∃ ks,ks.length=pl i/\L[i]?=some (.vech 9 1 ks (hs i))) (hb:k+2 * n+iY pl n<=1099511627776) :
  GC Tryz.prog 59 [.v (.slice a n c),.v (ii (k:Nat))] (.vech 60 3 rows (.slice a n c)::L) fun g Δ=>g=.v (ii ((k+2 * n+iY pl n:Nat):Int))/\∃ R L',Δ=.vech 60 3 R (.slice a n c)::L'/\L'.length=n/\∀ x∈L',x.lR=true:=by
 have MF:∀ (M:List Ob),M.length=n->(∀ i,i < n->∃ ks,ks.length=pl i/\M[i]?=some (.vech 9 1 ks (hs i)))->∀ x∈M,x.lR=true:=fun M hM hk x hx=>by
  obtain ⟨i,hi⟩:=List.getElem?_of_mem hx;obtain ⟨ks,_,h2⟩:=hk i (by have:=(List.getElem?_eq_some_iff.1 hi).1;omega);rw [hi] at h2;cases h2;rfl
 have Rc:(Ob.vech 60 3 rows (.slice a n c)::L).length=n+1:=by simp [hL]
 refine da Tryz.func59 Tryz.ntmps59 ?_;rw [Rc];refine ae ?_;refine GW.loop (fun z:Nat × Nat=>n - z.1) (fun z fr Γ=>∃ R L,fr=[.v (.slice a n c),.v (ii ((z.2:Nat):Int)),.U,.U,.U,.v (ii (z.1:Nat)),.U,.U,.U,.U,.U,.U,.U,.U,.U,.U,.U,.U,.U,.U,.U,.U,.U,.U,.U,.U,.U,.U,.U,.U,.U,.U,.U,.U,.U]/\Γ=.vech 60 3 R (.slice a n c)::L/\z.1<=n/\z.2=k+2 * z.1+iY pl z.1/\R.length=n/\L.length=n/\(∀ i,i < n->∃ x y,R[i]?=some [x,.v (hs i),y])/\∀ i,i < n->∃ ks,ks.length=pl i/\L[i]?=some (.vech 9 1 ks (hs i))) (0,k) ?_ ?_
 ·exact ⟨_,_,Wk.aC aq,_,_,rfl,rfl,Nat.zero_le _,rfl,hn,hL,bt,fp⟩
 rintro ⟨i,kk⟩ _ _ ⟨R,L,rfl,rfl,hi,iL,eE,qs,MI,AR⟩;simp only at hi iL
 by_cases ak:i < n
 ·have hd:decide ((i:Int) < (n:Int))=true:=by simpa using ak
  have U2:iY pl (i+1)=iY pl i+pl i:=rfl;have Zs:=Gr pl (i:=i+1) (n:=n) ak;have hc:=sr kk ag;obtain ⟨x0,y0,hr⟩:=MI i ak;obtain ⟨ks,vf,MG⟩:=AR i ak;obtain ⟨a1,c1,HV⟩:=hh i ak;have eJ:=xa a1 c1 (pl i) (kk+1) ks vf ag;generalize xb kk=x at *;have Uq:=FM (g:=.v (sv x)) ak (.inl rfl) hr MI;have fX:=pD (o:=0) (g:=.v (sv x)) hr;simp only [bs] at fX;rw [HV] at fX MG
  have eS:(dk R i (0+0) (.v (sv x))).length=n:=by rw [fB];exact eE
  refine ae ?_;refine iz [] hc ?_;simp only [append_nil];refine ae ?_;refine oN ?_;refine ae ?_;refine GL.AF [i+1] eJ (kH) (by simp [gK,Nat.blt_eq];omega) ⟨MG,trivial⟩ ?_;rintro _ _ ⟨rfl,rfl⟩;refine ⟨by simp,?_⟩;simp only [dP,oset,List.map_cons,map_nil,Ob.dx,append_nil];refine cr ?_;refine ae ?_;refine oN ?_;refine ae ?_
  have df:(dk R i 0 (.v (sv x)))[i]?=some [.v (sv x),.v (hs i),y0]:=by rw [HV];exact fX
  refine ⟨(i+1,kk+1+pl i+1),⟨_,_,Wk.aC aq,_,_,rfl,rfl,ak,by simp only;omega,by rw [fB];exact eS,by rw [bd,length_set];exact qs,FM ak (.inr rfl) df Uq,fun j hj=>?_⟩,by show n - (i+1) < n - i;omega⟩;rw [bd,getElem?_set]
  by_cases e:i=j
  ·subst e;rw [if_pos rfl,if_pos ag];exact ⟨marks (kk+1) (pl i),uk _ _,by rw [HV]⟩
  ·rw [if_neg e];exact AR j hj
 ·have hd:decide ((i:Int) < (n:Int))=false:=by simpa using ak
  have fO:i=n:=by omega
  subst fO;rw [<-iL];refine bH ?_;refine ae ?_;refine ic ?_;refine D0 rfl cj rfl (by simp [qs]) ?_ ⟨rfl,R,L,rfl,qs,MF L qs AR⟩;intro x hx
  rcases List.mem_cons.1 hx with rfl | hx
  ·rfl
  ·exact MF L qs AR x hx
theorem uj {R:List (List GV)} {hs:Nat->Value} {n i o:Nat} {g x0 x1 x2 x3:GV} (hi:i < n) (ho:o < 4) (hr:R[i]?=some [x0,x1,x2,x3,.v (hs i)]) (h:∀ j,j < n->∃ x0 x1 x2 x3,R[j]?=some [x0,x1,x2,x3,.v (hs j)]):∀ j,j < n->∃ x0 x1 x2 x3,(dk R i o g)[j]?=some [x0,x1,x2,x3,.v (hs j)]:=fun j hj=>by
 rw [sG hr]
 by_cases e:j=i
 ·subst e;rw [if_pos rfl]
  obtain rfl | rfl | rfl | rfl:o=0\/o=1\/o=2\/o=3:=by omega
  ·exact ⟨_,_,_,_,rfl⟩
  ·exact ⟨_,_,_,_,rfl⟩
  ·exact ⟨_,_,_,_,rfl⟩
  ·exact ⟨_,_,_,_,rfl⟩
 ·rw [if_neg e];exact h j hj
theorem Ho (a:Option Addr) (c n k:Nat) (hs:Nat->Value) (pl:Nat->Nat) (rows:List (List GV)) (L:List Ob) (hn:rows.length=n) (hh:∀ i,i < n->Hd (pl i) (hs i)) (bt:∀ i,i < n->∃ x0 x1 x2 x3,rows[i]?=some [x0,x1,x2,x3,.v (hs i)])
  (hL:L.length=n) (fp:∀ i,i < n->∃ ks,ks.length=pl i/\L[i]?=some (.vech 3 1 ks (hs i))) (hb:k+4 * n+iY pl n<=1099511627776) :
  GC Tryz.prog 60 [.v (.slice a n c),.v (ii (k:Nat))] (.vech 91 5 rows (.slice a n c)::L) fun g Δ=>g=.v (ii ((k+4 * n+iY pl n:Nat):Int))/\∃ R L',Δ=.vech 91 5 R (.slice a n c)::L'/\L'.length=n/\∀ x∈L',x.lR=true:=by
 have MF:∀ (M:List Ob),M.length=n->(∀ i,i < n->∃ ks,ks.length=pl i/\M[i]?=some (.vech 3 1 ks (hs i)))->∀ x∈M,x.lR=true:=fun M hM hk x hx=>by
  obtain ⟨i,hi⟩:=List.getElem?_of_mem hx;obtain ⟨ks,_,h2⟩:=hk i (by have:=(List.getElem?_eq_some_iff.1 hi).1;omega);rw [hi] at h2;cases h2;rfl
 have Rc:(Ob.vech 91 5 rows (.slice a n c)::L).length=n+1:=by simp [hL]
 refine da Tryz.func60 Tryz.ntmps60 ?_;rw [Rc];refine ae ?_;refine GW.loop (fun z:Nat × Nat=>n - z.1) (fun z fr Γ=>∃ R L,fr=[.v (.slice a n c),.v (ii ((z.2:Nat):Int)),.U,.U,.U,.v (ii (z.1:Nat)),.U,.U,.U,.U,.U,.U,.U,.U,.U,.U,.U,.U,.U,.U,.U,.U,.U,.U,.U,.U,.U,.U,.U,.U,.U,.U,.U,.U,.U,.U,.U,.U,.U,.U,.U,.U,.U,.U,.U,.U,.U,.U,.U]/\Γ=.vech 91 5 R (.slice a n c)::L/\z.1<=n/\z.2=k+4 * z.1+iY pl z.1/\R.length=n/\L.length=n/\(∀ i,i < n->∃ x0 x1 x2 x3,R[i]?=some [x0,x1,x2,x3,.v (hs i)])/\∀ i,i < n->∃ ks,ks.length=pl i/\L[i]?=some (.vech 3 1 ks (hs i))) (0,k) ?_ ?_
 ·exact ⟨_,_,Wk.aC aq,_,_,rfl,rfl,Nat.zero_le _,rfl,hn,hL,bt,fp⟩
 rintro ⟨i,kk⟩ _ _ ⟨R,L,rfl,rfl,hi,iL,eE,qs,MI,AR⟩;simp only at hi iL
 by_cases ak:i < n
 ·have hd:decide ((i:Int) < (n:Int))=true:=by simpa using ak
  have U2:iY pl (i+1)=iY pl i+pl i:=rfl;have Zs:=Gr pl (i:=i+1) (n:=n) ak;have hc:=sr (kk+1+1+1) ag;obtain ⟨x0,x1,x2,x3,hr⟩:=MI i ak;obtain ⟨ks,vf,MG⟩:=AR i ak;obtain ⟨a1,c1,HV⟩:=hh i ak;have eJ:=Kp a1 c1 (pl i) (kk+1+1+1+1) ks vf ag;generalize xb (kk+1+1+1)=x at *;have Uq:=uj (g:=.v (ii (kk:Nat))) ak (Nat.zero_lt_succ 3) hr MI;have fX:=pD (o:=0) (g:=.v (ii (kk:Nat))) hr;simp only [bs] at fX;have Q1:=uj (g:=.v (ii ((kk+1:Nat):Int))) ak (show 1 < 4 by omega) fX Uq;have df:=pD (o:=1) (g:=.v (ii ((kk+1:Nat):Int))) fX;simp only [bs] at df;have Ur:=uj (g:=.v (ii ((kk+1+1:Nat):Int))) ak (show 2 < 4 by omega) df Q1;have M1:=pD (o:=2) (g:=.v (ii ((kk+1+1:Nat):Int))) df;simp only [bs] at M1;have hR4:=uj (g:=.v (sv x)) ak (show 3 < 4 by omega) M1 Ur;have XY:=pD (o:=3) (g:=.v (sv x)) M1;simp only [bs] at XY;rw [HV] at fX df M1 XY MG
  have eS:(dk R i (0+0) (.v (ii (kk:Nat)))).length=n:=by rw [fB];exact eE
  have jA:(dk (dk R i (0+0) (.v (ii (kk:Nat)))) i (0+1) (.v (ii ((kk+1:Nat):Int)))).length=n:=by rw [fB];exact eS
  have UH:(dk (dk (dk R i (0+0) (.v (ii (kk:Nat)))) i (0+1) (.v (ii ((kk+1:Nat):Int)))) i (0+2) (.v (ii ((kk+1+1:Nat):Int)))).length=n:=by rw [fB];exact jA
  have hl4:(dk (dk (dk (dk R i (0+0) (.v (ii (kk:Nat)))) i (0+1) (.v (ii ((kk+1:Nat):Int)))) i (0+2) (.v (ii ((kk+1+1:Nat):Int)))) i (0+3) (.v (sv x))).length=n:=by rw [fB];exact UH
  refine ae ?_;refine oN ?_;refine ae ?_;refine oN ?_;refine ae ?_;refine oN ?_;refine ae ?_;refine iz [] hc ?_;simp only [append_nil];refine ae ?_;refine oN ?_;refine ae ?_;refine GL.AF [i+1] eJ (kH) (by simp [gK,Nat.blt_eq];omega) ⟨MG,trivial⟩ ?_;rintro _ _ ⟨rfl,R',YY,rfl⟩;refine ⟨by simp,?_⟩;simp only [dP,oset,List.map_cons,map_nil,Ob.dx,append_nil];refine cr ?_;refine ae ?_;refine ⟨(i+1,kk+1+1+1+1+pl i),⟨_,_,Wk.aC aq,_,_,rfl,rfl,ak,by simp only;omega,hl4,by rw [bd,length_set];exact qs,hR4,fun j hj=>?_⟩,by show n - (i+1) < n - i;omega⟩;rw [bd,getElem?_set]
  by_cases e:i=j
  ·subst e;rw [if_pos rfl,if_pos ag];exact ⟨R',YY,by rw [HV]⟩
  ·rw [if_neg e];exact AR j hj
 ·have hd:decide ((i:Int) < (n:Int))=false:=by simpa using ak
  have fO:i=n:=by omega
  subst fO;rw [<-iL];refine bH ?_;refine ae ?_;refine ic ?_;refine D0 rfl cj rfl (by simp [qs]) ?_ ⟨rfl,R,L,rfl,qs,MF L qs AR⟩;intro x hx
  rcases List.mem_cons.1 hx with rfl | hx
  ·rfl
  ·exact MF L qs AR x hx
end Go.Xg
namespace Go.Xg
open Go.RowKit Go.Xw Go.Proofs
open Go.Xp (Nd Ar cB oV)
open Go.Sp (Src)
open Go.Im (xb)
theorem I3 {x:Ob} (h:x.lR=true) (f:Nat->Nat):x.dx f=x:=by cases x <;> first | rfl | cases h
theorem yG {X:List Ob} (h:∀ x∈X,x.lR=true) (f:Nat->Nat):X.map (Ob.dx f)=X :=
 (List.map_congr_left fun x hx=>I3 (h x hx) f).trans (List.map_id _)
theorem Hs (s n N:Nat) (h:s+n<=N):gK (List.range' s n) N=true:=by
 induction n generalizing s with
 | zero=>rfl
 | succ n ih =>
  rw [range'_succ,gK,ih (s+1) ag]
  have h1:Nat.blt s N=true:=by rw [Nat.blt_eq];omega
  have h2:(List.range' (s+1) n).contains s=false:=by
   cases hc:(List.range' (s+1) n).contains s with
   | false=>rfl
   | true =>
    have:=List.mem_range'_1.1 (List.contains_iff_mem.1 hc);omega
  rw [h1,h2];rfl
theorem Bu (f:Nat->Nat):∀ (X A C:List Ob),(∀ x∈X,x.lR=true)->seen f (A++(X++C)) (List.range' A.length X.length) X
 | [],A,C,_=>trivial
 | x::X,A,C,h=>by
  rw [length_cons,range'_succ,seen];refine ⟨by rw [getElem?_append_right (Nat.le_refl _),Nat.sub_self,I3 (h x List.mem_cons_self)];rfl,?_⟩
  have:=Bu f X (A++[x]) C fun y hy=>h y (List.mem_cons_of_mem _ hy)
  rw [length_append,List.length_singleton,append_assoc] at this;exact this
theorem x9:∀ (X A C Δ:List Ob),Δ.length=X.length->dP (A++(X++C)) (List.range' A.length X.length) Δ=A++(Δ++C)
 | [],A,C,Δ,h=>by
  have:Δ=[]:=List.eq_nil_of_length_eq_zero h;subst this;show dP (A++C) [] []=_;rw [dP,append_nil];rfl
 | x::X,A,C,[],h=>by cases h
 | x::X,A,C,y::Δ,h=>by
  rw [length_cons,range'_succ,dP]
  have e:oset (A++(x::X++C)) A.length y=(A++[y])++(X++C):=by
   rw [bd,set_append_right _ _ (Nat.le_refl _),Nat.sub_self];simp
  have:=x9 X (A++[y]) C Δ (by simpa using h);rw [length_append,List.length_singleton] at this;rw [e,this];simp
section
variable {P:Program} {m:Nat} {Q:dB} {fr:List GV} {Γ:List Ob} {ops:Array Oper} {rest:List Oper} {d:Option Tmp} {op:Op} {ty:TypeId} {pos:String} {af:Array Edge}
theorem GL.sA {f:FuncId} [hf:aH P f] (A X C:List Ob) {args:List Operand} {mH:Array TypeId} {gs:List GV} {R:GV->List Ob->Prop} (hc:GC P f gs X R) (bz:Γ=A++(X++C)) (hX:∀ x∈X,x.lR=true) (hgs:∀ r,lF r gs=gs) (ha:kK (args.map (aX fr)) gs)
  (h:∀ g Δ,R g Δ->Δ.length=X.length/\(∀ x∈Δ,x.lR=true)/\(∀ r,dx r g=g)/\GL P m ops Q rest (br fr d g) (A++(Δ++C))) :
  GL P m ops Q (⟨d,.call ⟨.value (.func f),args.toArray,mH⟩,ty,pos,af,none⟩::rest) fr Γ:=by
 subst bz
 refine GL.AF (List.range' A.length X.length) hc (by rw [hgs];exact ha) (Hs _ _ _ (by simp only [length_append];omega)) (Bu _ X A C hX) fun g Δ hr=>?_
 obtain ⟨h1,h2,h3,h4⟩:=h g Δ hr;refine ⟨by rw [List.length_range',h1];exact Nat.le_refl _,?_⟩;rw [yG h2,x9 _ _ _ _ h1,h3];exact h4
end
attribute [local irreducible] GW GL GO YG GC GA aU aZ
theorem Wu (p:Src):iY (fun i=>match p.fns[i]? with | some f=>f.params.length | none=>0) p.fns.length=Go.Im.be (fun f:Go.Sp.Fn=>f.params.length) p.fns:=by
 have key:∀ n,n<=p.fns.length->iY (fun i=>match p.fns[i]? with | some f=>f.params.length | none=>0) n=Go.Im.be (fun f:Go.Sp.Fn=>f.params.length) (p.fns.take n):=by
  intro n
  induction n with
  | zero=>intro _;rfl
  | succ n ih =>
   intro h
   have hx:p.fns[n]?=some p.fns[n]:=by simp [show n < p.fns.length by omega]
   rw [iY,ih ag,Go.Im.kG hx,hx]
 rw [key _ (Nat.le_refl _),take_length]
theorem W3 (p:Src):iY (fun i=>match p.nodes[i]? with | some f=>f.kids.length | none=>0) p.nodes.length=Go.Im.be (fun f:Nd=>f.kids.length) p.nodes:=by
 have key:∀ n,n<=p.nodes.length->iY (fun i=>match p.nodes[i]? with | some f=>f.kids.length | none=>0) n=Go.Im.be (fun f:Nd=>f.kids.length) (p.nodes.take n):=by
  intro n
  induction n with
  | zero=>intro _;rfl
  | succ n ih =>
   intro h
   have hx:p.nodes[n]?=some p.nodes[n]:=by simp [show n < p.nodes.length by omega]
   rw [iY,ih ag,Go.Im.kG hx,hx]
 rw [key _ (Nat.le_refl _),take_length]
theorem rU {α γ:Type} {f:α->Value->γ} {l:List α} {hs:List Value} {i:Nat} {x:α} {h:Value} (h1:l[i]?=some x) (h2:hs[i]?=some h):(List.zipWith f l hs)[i]?=some (f x h):=by rw [List.getElem?_zipWith,h1,h2]
theorem FL (p:Src) (hg ha hf hn:Value) (fs ns:List Value) (H:BI p hg ha hf hn fs ns) (k:Nat) (hw:Go.Im.eh p<=1048576) (hk:k<=1048576) :
  GC Tryz.prog 20 [.agg [.v hg,.v ha,.v hf,.v hn],.v (ii (k:Nat))] (jm p hg ha hf hn fs ns) fun g Δ=>∃ k':Nat,g=.v (ii (k':Nat))/\Δ.length=(jm p hg ha hf hn fs ns).length/\∀ x∈Δ,x.lR=true:=by
 obtain ⟨⟨b1,_⟩,⟨b2,_⟩,⟨b3,_⟩,⟨b4,_⟩⟩:=Go.Im.gR p
 have gy:Go.Im.be (fun f:Go.Sp.Fn=>f.params.length) p.fns<=1 * Go.Im.be (fun f:Go.Sp.Fn=>f.name.length+Go.Im.wS f.params+1) p.fns:=Go.Im.nI fun f _=>by have:=Go.Im.Gz f.params;omega
 have iR:Go.Im.be (fun f:Nd=>f.kids.length) p.nodes<=1 * Go.Im.be (fun n:Nd=>n.s.length+n.kids.length+1) p.nodes:=Go.Im.nI fun f _=>by omega
 have sf:Go.Im.be (fun f:Go.Sp.Fn=>f.name.length+Go.Im.wS f.params+1) p.fns<=1048576:=by unfold Go.Im.eh at hw;omega
 have w9:Go.Im.be (fun n:Nd=>n.s.length+n.kids.length+1) p.nodes<=1048576:=by unfold Go.Im.eh at hw;omega
 have hsf:=Wu p;have zo:=W3 p;obtain ⟨⟨a0,c0,rfl⟩,⟨a1,c1,rfl⟩,⟨a2,c2,rfl⟩,⟨a3,c3,rfl⟩,jK,rD,hfh,hnh⟩:=H
 have U5:∀ i,i < p.fns.length->∃ f h,p.fns[i]?=some f/\fs[i]?=some h:=fun i hi=>⟨p.fns[i],fs[i]'ag,by simp [hi],by simp [show i < fs.length by omega]⟩
 have U6:∀ i,i < p.nodes.length->∃ f h,p.nodes[i]?=some f/\ns[i]?=some h:=fun i hi=>⟨p.nodes[i],ns[i]'ag,by simp [hi],by simp [show i < ns.length by omega]⟩
 have EV:(List.zipWith rn p.fns fs).length=p.fns.length:=by rw [length_zipWith];omega
 have qs:(List.zipWith mR p.nodes ns).length=p.nodes.length:=by rw [length_zipWith];omega
 have e0:=xa a0 c0 p.globals.length k (b9 p.globals) (by simp [b9]) ag
 have e1:=fun k hk=>FK a1 c1 p.arrays.length k (p.arrays.map aD) (by simp) (fun r hr=>by obtain ⟨x,_,rfl⟩:=List.mem_map.1 hr;rfl) hk
 have e2:=fun k hk=>NB a2 c2 p.fns.length k (fun i=>match fs[i]? with | some h=>h | none=>undef) (fun i=>match p.fns[i]? with | some f=>f.params.length | none=>0) (List.zipWith qd p.fns fs) (List.zipWith rn p.fns fs) (by rw [length_zipWith];omega)
  (fun i hi=>by obtain ⟨f,h,h1,h2⟩:=U5 i hi;rw [h1,h2];exact hfh i f h h1 h2) (fun i hi=>by obtain ⟨f,h,h1,h2⟩:=U5 i hi;rw [h2];exact ⟨_,_,rU h1 h2⟩) EV
  (fun i hi=>by obtain ⟨f,h,h1,h2⟩:=U5 i hi;rw [h1,h2];exact ⟨b9 f.params,by simp [b9],rU h1 h2⟩) hk
 have e3:=fun k hk=>Ho a3 c3 p.nodes.length k (fun i=>match ns[i]? with | some h=>h | none=>undef) (fun i=>match p.nodes[i]? with | some f=>f.kids.length | none=>0) (List.zipWith lI p.nodes ns) (List.zipWith mR p.nodes ns) (by rw [length_zipWith];omega)
  (fun i hi=>by obtain ⟨f,h,h1,h2⟩:=U6 i hi;rw [h1,h2];exact hnh i f h h1 h2) (fun i hi=>by obtain ⟨f,h,h1,h2⟩:=U6 i hi;rw [h2];exact ⟨_,_,_,_,rU h1 h2⟩) qs
  (fun i hi=>by obtain ⟨f,h,h1,h2⟩:=U6 i hi;rw [h1,h2];exact ⟨bc f.kids,by simp [bc],rU h1 h2⟩) hk
 rw [hsf] at e2;rw [zo] at e3;have e1:=e1 (k+p.globals.length) ag;have e2:=e2 (k+p.globals.length+2 * p.arrays.length) ag;have e3:=e3 (k+p.globals.length+2 * p.arrays.length+2 * p.fns.length+Go.Im.be (fun f:Go.Sp.Fn=>f.params.length) p.fns) ag;have aQ:=Al p (.slice a0 p.globals.length c0) (.slice a1 p.arrays.length c1) (.slice a2 p.fns.length c2) (.slice a3 p.nodes.length c3) fs ns;generalize hm:(jm p (.slice a0 p.globals.length c0) (.slice a1 p.arrays.length c1) (.slice a2 p.fns.length c2) (.slice a3 p.nodes.length c3) fs ns).length=M;unfold jm at hm aQ |-;generalize hF:List.zipWith rn p.fns fs=LF at *;generalize hN:List.zipWith mR p.nodes ns=LN at *;refine da Tryz.func20 Tryz.ntmps20 ?_;rw [hm];refine GW.seq ?_;refine GW.region ?_;refine GL.Ex rfl rfl ?_;refine cr ?_;refine ae ?_;refine GL.sA [] [_] _ e0 rfl (by intro x hx;rw [List.mem_singleton.1 hx];rfl) (fun _=>rfl) (kH) ?_;rintro _ _ ⟨rfl,rfl⟩;refine ⟨rfl,by intro x hx;rw [List.mem_singleton.1 hx];rfl,fun _=>rfl,?_⟩;refine cr ?_;refine ae ?_;refine GL.sA [_] [_] _ e1 rfl (by intro x hx;rw [List.mem_singleton.1 hx];rfl) (fun _=>rfl) (kH) ?_;rintro _ _ ⟨rfl,R1,rfl⟩;refine ⟨rfl,by intro x hx;rw [List.mem_singleton.1 hx];rfl,fun _=>rfl,?_⟩;refine cr ?_;refine ae ?_;refine GL.sA [_,_] (_::LF) (_::LN) e2 rfl (by intro x hx;exact aQ x (by simp only [List.mem_cons,List.mem_append] at hx |-;rcases hx with h | h;(· exact .inr (.inr (.inl h)));exact .inr (.inr (.inr (.inl h))))) (fun _=>rfl) (kH) ?_;rintro _ _ ⟨rfl,R2,L2,rfl,XG,EU⟩;refine ⟨by simp [XG,EV],by intro x hx;rcases List.mem_cons.1 hx with rfl | hx;(· rfl);exact EU x hx,fun _=>rfl,?_⟩;refine cr ?_;refine ae ?_;refine GL.sA (_::_::_::L2) (_::LN) [] e3 (by rw [append_nil];rfl) (by intro x hx;exact aQ x (by simp only [List.mem_cons,List.mem_append] at hx |-;exact .inr (.inr (.inr (.inr hx))))) (fun _=>rfl) (kH) ?_;rintro _ _ ⟨rfl,R3,L3,rfl,XH,Un⟩;refine ⟨by simp [XH,qs],by intro x hx;rcases List.mem_cons.1 hx with rfl | hx;(· rfl);exact Un x hx,fun _=>rfl,?_⟩;rw [append_nil]
 refine cr ?_;refine ae ?_;refine ic ?_
 have hH:∀ x∈(Ob.vech 9 1 (marks k p.globals.length) (.slice a0 p.globals.length c0)::Ob.vech 88 2 R1 (.slice a1 p.arrays.length c1)::Ob.vech 60 3 R2 (.slice a2 p.fns.length c2)::(L2++Ob.vech 91 5 R3 (.slice a3 p.nodes.length c3)::L3)),x.lR=true:=by
  intro x hx
  rcases List.mem_cons.1 hx with rfl | hx
  ·rfl
  rcases List.mem_cons.1 hx with rfl | hx
  ·rfl
  rcases List.mem_cons.1 hx with rfl | hx
  ·rfl
  rcases List.mem_append.1 hx with hx | hx
  ·exact EU x hx
  rcases List.mem_cons.1 hx with rfl | hx
  ·rfl
  ·exact Un x hx
 have hM:M=(Ob.vech 9 1 (marks k p.globals.length) (.slice a0 p.globals.length c0)::Ob.vech 88 2 R1 (.slice a1 p.arrays.length c1)::Ob.vech 60 3 R2 (.slice a2 p.fns.length c2)::(L2++Ob.vech 91 5 R3 (.slice a3 p.nodes.length c3)::L3)).length:=by
  rw [<-hm];simp [XG,XH,EV,qs]
 exact D0 rfl cj rfl hM hH ⟨_,rfl,hM.symm,hH⟩
end Go.Xg
set_option maxHeartbeats 4000000
namespace Go.Xg
open Go.RowKit Go.Xw Go.Proofs
open Go.Xp (Nd T Ar aP az bL)
open Go.Sp (Src)
open Go.Im
attribute [local irreducible] GW GL GO YG GC GA aU aZ
theorem OL (p:Src) (hw:eh p<=1048576) (hn:xh p) :
  GC Tryz.prog 24 [.agg (ax p)] [] fun g Δ=>∃ h hs,n8 (iQ p) h hs/\g=.v h/\Δ=iG (iQ p) h hs:=by
 have hG:=SA p hw hn;unfold iQ
 cases lu:ig p with
 | false =>
  rw [lu] at hG;rw [if_neg aJ];refine da Tryz.func24 Tryz.ntmps24 ?_;refine GW.wk (Wk.oY 40 1) ?_;simp only [List.nil_append];refine ae ?_;refine ab [] hG ?_;refine ic ?_;exact rY (n:=1) rfl cj rfl (Nat.le_of_ble_eq_true rfl) rfl rfl ⟨.slice none 0 0,[],⟨⟨none,0,rfl⟩,rfl,fun i g x h=>by simp at h⟩,rfl,rfl⟩
 | true =>
  rw [lu] at hG;rw [if_pos rfl];have hA:=Pf p hw lu;generalize fo (b6 p) p.fns.length=G at *;refine da Tryz.func24 Tryz.ntmps24 ?_;refine GW.seq ?_;refine GW.region ?_;refine GL.Ex rfl rfl ?_;refine cr ?_;refine ae ?_;refine ab [] hG ?_;refine cm [] hA ?_;rintro _ _ ⟨h,hs,H,rfl,rfl⟩;rw [yG ph];refine cW ?_;refine ae ?_;refine ic ?_;exact oS 0 rfl cj rfl ph ⟨h,hs,H,rfl,rfl⟩
end Go.Xg
namespace Go.Im
open Go.Xp Go.Sp
def jP (gs:List (List Int)) (x:Int) (pr:List Int->Bool) (j:Nat):List (List Int):=match gs.findIdx? pr with
 | some i=>if i < j then gs.set i ((gs[i]?.getD [])++[x]) else gs
 | none=>gs
def ll (gs:List (List Int)) (pr:List Int->Bool) (j:Nat):Bool:=match gs.findIdx? pr with
 | some i=>decide (i < j)
 | none=>false
theorem FN (gs:List (List Int)) (x:Int) (pr:List Int->Bool) (j:Nat):(jP gs x pr j).length=gs.length:=by
 unfold jP;split
 ·split
  ·rw [length_set]
  ·rfl
 ·rfl
theorem PZ {gs:List (List Int)} {x:Int} {pr:List Int->Bool} {j:Nat} (h:ll gs pr j=true):jP gs x pr (j+1)=jP gs x pr j/\ll gs pr (j+1)=true:=by
 unfold ll at h |-;unfold jP;split at h
 ·rename_i i hi;have h:=of_decide_eq_true h;rw [if_pos h,if_pos (show i < j+1 by omega)];exact ⟨rfl,by simp;omega⟩
 ·cases h
theorem Dq {gs:List (List Int)} {x:Int} {pr:List Int->Bool} {j:Nat} {g:List Int} (h:ll gs pr j=false) (hg:gs[j]?=some g) (hp:pr g=true) :
  jP gs x pr j=gs/\jP gs x pr (j+1)=gs.set j (g++[x])/\ll gs pr (j+1)=true:=by
 have ak:=(List.getElem?_eq_some_iff.1 hg).1
 cases hz:gs.findIdx? pr with
 | none =>
  rw [List.findIdx?_eq_none_iff] at hz;rw [hz g (mem_of_getElem? hg)] at hp;cases hp
 | some i =>
  unfold ll at h |-;unfold jP;rw [hz] at h |-;simp only at h |-;have h:=of_decide_eq_false h
  have eQ:i=j:=by
   obtain ⟨h1,h2,h3⟩:=List.findIdx?_eq_some_iff_getElem.1 hz
   refine Classical.byContradiction fun bP=>?_
   have:=h3 j (by omega)
   have UE:gs[j]=g:=by rw [getElem?_eq_getElem ak] at hg;exact Option.some.inj hg
   rw [UE,hp] at this;exact this rfl
  subst eQ;rw [if_neg h,if_pos (Nat.lt_succ_self _),hg];exact ⟨rfl,rfl,by simp⟩
theorem FO {gs:List (List Int)} {x:Int} {pr:List Int->Bool} {j:Nat} {g:List Int} (h:ll gs pr j=false) (hg:gs[j]?=some g) (hp:pr g=false) :
  jP gs x pr j=gs/\jP gs x pr (j+1)=gs/\ll gs pr (j+1)=false:=by
 have ak:=(List.getElem?_eq_some_iff.1 hg).1
 cases hz:gs.findIdx? pr with
 | none=>unfold ll jP;rw [hz];exact ⟨rfl,rfl,rfl⟩
 | some i =>
  unfold ll at h |-;unfold jP;rw [hz] at h |-;simp only at h |-;have h:=of_decide_eq_false h
  have eQ:i≠j:=by
   intro e;subst e;obtain ⟨h1,h2,h3⟩:=List.findIdx?_eq_some_iff_getElem.1 hz
   have UE:gs[i]=g:=by rw [getElem?_eq_getElem ak] at hg;exact Option.some.inj hg
   rw [UE,hp] at h2;cases h2
  rw [if_neg h,if_neg (by omega)];exact ⟨rfl,rfl,by simp;omega⟩
theorem PY (F:Int->List Int) (gs:List (List Int)) (x:Int) :
  (ll gs (fun g=>fG F (g.headD 0) x) gs.length=true->lq F gs x=jP gs x (fun g=>fG F (g.headD 0) x) gs.length) /\
  (ll gs (fun g=>fG F (g.headD 0) x) gs.length=false->lq F gs x=jP gs x (fun g=>fG F (g.headD 0) x) gs.length++[[x]]):=by
 unfold lq yz ll jP
 cases hz:gs.findIdx? (fun g=>fG F (g.headD 0) x) with
 | none=>exact ⟨fun h=>(by cases h),fun _=>rfl⟩
 | some i =>
  obtain ⟨h1,-,-⟩:=List.findIdx?_eq_some_iff_getElem.1 hz;refine ⟨fun _=>by simp only;rw [if_pos h1],fun h=>?_⟩;simp only at h;exact absurd h1 (of_decide_eq_false h)
end Go.Im
namespace Go.Xg
open Go.RowKit Go.Xw Go.Proofs
open Go.Xp (Nd T Ar aP az bL)
open Go.Sp (Src)
open Go.Im
attribute [local irreducible] GW GL GO YG GC GA aU aZ
theorem OM (p:Src) (hw:eh p<=1048576) :
  GC Tryz.prog 23 [.agg (ax p)] [] fun g Δ=>∃ h hs,n8 (iQ p) h hs/\g=.v h/\Δ=iG (iQ p) h hs:=by
 obtain ⟨⟨a1,a2⟩,⟨b1,b2⟩,⟨c1,c2⟩,⟨d1,d2⟩⟩:=gR p
 have vd:(p.fns.map aw).length=p.fns.length:=by simp
 have hG:=Ii p hw;unfold iQ
 cases lu:ig p with
 | false =>
  rw [lu] at hG;rw [if_neg aJ];refine da Tryz.func23 Tryz.ntmps23 ?_;refine GW.seq ?_;refine GW.region ?_;refine GL.Ex rfl rfl ?_;refine cr ?_;refine ae ?_;refine kJ ?_;refine GL.qJ (t:=7) rfl rfl rfl rfl ?_;intro TG TN;refine bI ?_;refine ae ?_;refine ab [] hG ?_;refine ic ?_;exact rY (n:=1) rfl cj rfl (Nat.le_of_ble_eq_true rfl) rfl rfl ⟨_,[],⟨⟨TG,TN,rfl⟩,rfl,fun i g x h=>by simp at h⟩,rfl,rfl⟩
 | true =>
  rw [lu] at hG;rw [if_pos rfl];refine da Tryz.func23 Tryz.ntmps23 ?_;refine GW.seq ?_;refine GW.region ?_;refine GL.Ex rfl rfl ?_;refine cr ?_;refine ae ?_;refine kJ ?_;refine GL.qJ (t:=7) rfl rfl rfl rfl ?_;intro TG TN;refine bI ?_;refine ae ?_;refine ab [] hG ?_;refine GW.range (p.fns.map aw).length (fun k fr Γ=>∃ h hs,fr=[.U,.box (ax p) 0,.U,.v h,.U,.U,.U,.U,.U,.U,.U,.U,.U,.sl 3 (p.fns.map aw),.v (ii ((p.fns.map aw).length:Int)),.v (ii (k:Nat)),.U,.U,.U,.U,.U,.U,.U,.U,.U,.U,.U,.U,.U,.U,.U,.U,.U,.U,.U,.U,.U,.U,.U,.U,.U,.U,.U,.U,.U,.U,.U,.U,.U,.U,.U,.U,.U,.U,.U,.U]/\n8 (fo (b6 p) k) h hs/\Γ=iG (fo (b6 p) k) h hs) ?_ ag ?_ ?_ ?_
  ·exact ⟨_,_,Wk.aC aq,_,[],rfl,⟨⟨TG,TN,rfl⟩,rfl,fun i g x h=>by simp [fo] at h⟩,rfl⟩
  ·rintro k _ _ ⟨h,hs,rfl,_,rfl⟩;exact dS
  ·rintro k _ _ hk ⟨h0,rF,rfl,H0,rfl⟩;rw [vd] at hk;have E8:fo (b6 p) (k+1)=lq (b6 p) (fo (b6 p) k) (k:Int):=rfl;have MQ:=B1 (C0 p) k;have jq:=wb (b6 p) k;have MR:=wa (F:=b6 p) k;rw [E8];clear E8;generalize fo (b6 p) k=gs at *
   have wX:∀ (a:Int) (r:List Int),a::r∈gs->GF Tryz.prog 61 [.agg (ax p),.v (ii a),.v (ii (k:Nat))] [] (.v (.bool (fG (b6 p) a (k:Int)))) []:=fun a r hr=>by
    obtain ⟨r1,r2,-⟩:=MQ.mem _ hr a (by simp);obtain ⟨j,rfl⟩:∃ j:Nat,a=(j:Int):=⟨a.toNat,by omega⟩;exact Ns p hw lu ag hk
   obtain ⟨hY,hN⟩:=PY (b6 p) gs (k:Int)
   have jY:∀ g:List Int,(fun g:List Int=>fG (b6 p) (g.headD 0) (k:Int)) g=fG (b6 p) (g.headD 0) (k:Int):=fun _=>rfl
   generalize hpr:(fun g:List Int=>fG (b6 p) (g.headD 0) (k:Int))=pr at *;obtain ⟨a0,c0,rfl⟩:=H0.head;unfold iG;refine ae ?_;refine GW.range gs.length (fun j fr Γ=>∃ h hs b,ll gs pr j=b/\fr=[.U,.box (ax p) 0,.U,.v h,.v (ii (k:Nat)),.v (.bool b),.U,.U,.U,.U,.U,.U,.U,.sl 3 (p.fns.map aw),.v (ii ((p.fns.map aw).length:Int)),.v (ii (k:Nat)),.U,.U,.U,.v (ii (gs.length:Int)),.v (ii (j:Nat)),.U,.U,.U,.U,.U,.U,.U,.U,.U,.U,.U,.U,.U,.U,.U,.U,.U,.U,.U,.U,.U,.U,.U,.U,.U,.U,.U,.U,.U,.U,.U,.U,.U,.U,.U]/\n8 (jP gs (k:Int) pr j) h hs/\Γ=iG (jP gs (k:Int) pr j) h hs) ?_ ag ?_ ?_ ?_
   ·have e1:jP gs (k:Int) pr 0=gs:=by unfold jP;split <;> simp
    have e2:ll gs pr 0=false:=by unfold ll;split <;> simp
    exact ⟨_,_,Wk.aC aq,_,rF,false,e2,rfl,by rw [e1];exact H0,by rw [e1];rfl⟩
   ·rintro j _ _ ⟨h,hs,b,_,rfl,_,rfl⟩;exact dS
   ·rintro j _ _ hj ⟨h,hs,b,zo,rfl,H,rfl⟩;have dI:=FN gs (k:Int) pr j;obtain ⟨g,hg⟩:∃ g,gs[j]?=some g:=⟨gs[j],getElem?_eq_getElem hj⟩
    cases b with
    | true =>
     obtain ⟨e1,e2⟩:=PZ (x:=(k:Int)) zo;rw [e1];generalize jP gs (k:Int) pr j=M at *;unfold iG;refine ae ?_;refine aI (aB 0 11 (.a 11 (.q 12 .nil))) ?_;refine bf ?_;exact ⟨rfl,rfl,_,_,Wk.aC aq,h,hs,true,e2,rfl,H,rfl⟩
    | false =>
     obtain ⟨x,r,rfl⟩:∃ a r,g=a::r:=List.exists_cons_of_ne_nil (MQ.ne g (mem_of_getElem? hg));have hS:=wX x r (mem_of_getElem? hg)
     have XW:pr (x::r)=fG (b6 p) x (k:Int):=by rw [<-hpr];rfl
     have hgb:=MR _ (mem_of_getElem? hg)
     have hem:jP gs (k:Int) pr j=gs:=by
      cases hp:pr (x::r) with
      | true=>exact (Dq zo hg hp).1
      | false=>exact (FO zo hg hp).1
     rw [hem] at H |-;have hl:=H.len;obtain ⟨a1,c1,rfl⟩:=H.head;have UF:hs[j]?=some (hs[j]'ag):=getElem?_eq_getElem _;obtain ⟨a2,c2,e2⟩:=H.kid j _ _ hg UF;generalize hs[j]'ag=y at *;subst e2
     have rE:(ik hs)[j]?=some [.v (.slice a2 (x::r).length c2)]:=by simp [ik,UF]
     have qt:j < (ik hs).length:=by rw [vc];omega
     have fp:(Ob.vech 40 1 (ik hs) (.slice a1 gs.length c1)::fu gs hs)[j+1]?=some (.vech 3 1 (bc (x::r)) (.slice a2 (x::r).length c2)):=by rw [getElem?_cons_succ];exact rJ hg UF
     have D3:((Ob.vech 40 1 (ik hs) (.slice a1 gs.length c1)::fu gs hs)++[])[j+1]?=some (.vech 3 1 (bc (x::r)) (.slice a2 (x::r).length c2)):=by rw [append_nil];exact fp
     have JX:(bc (x::r)).length=(x::r).length:=by simp [bc]
     have ve:0 < (bc (x::r)).length:=by rw [JX];simp
     have oH:(bc (x::r))[0]?=some [.v (ii x)]:=rfl;unfold iG
     have EU:=fun (a3:Option Addr) (c3:Nat)=>H.set (i:=j) ((x::r)++[(k:Int)]) (b:=a3) (d:=c3) (n:=(x::r).length+1) (by simp)
     have vf:=fun (y:Value)=>ud gs hs j ((x::r)++[(k:Int)]) y
     have hiS:bc ((x::r)++[(k:Int)])=bc (x::r)++[[.v (ii (k:Nat))]]:=by simp [bc]
     rw [hiS] at vf
     have aak:(x::r).length<=1048576:=by omega
     generalize hp:fG (b6 p) x (k:Int)=b at *;generalize bc (x::r)=S at *;generalize qs:(x::r).length=L at *;refine ae ?_;refine aI (aB 0 11 (.a 11 (.q 12 .nil))) ?_;refine ar ?_;refine TC rfl rfl (by first | exact rfl | assumption) (YG.ct (j+1) rfl rfl fp ve) ?_;refine Ec ?_;refine TC rfl rfl (by first | exact rfl | assumption) (YG.Nt rfl fp rfl oH rfl) ?_;refine Ec ?_;refine ar ?_;refine Lu rfl rfl rfl (by first | exact rfl | assumption) (GL.JB [] (hS) kH rfl mJ rfl (GL.nil (bb (ep.mk (by repeat (first | exact gC.n | (apply gC.w;(· decide +kernel)) | (apply gC.y;(· first | (apply YQ.t;(· exact rfl);(· exact rfl);(· (first | exact YG.ct (j+1) rfl rfl D3 ve | exact YG.Nt rfl D3 rfl oH rfl | (first | exact rR | (apply K.idx;first | exact YG.idxV rfl rfl rfl aY ag | exact YG.ct 0 rfl rfl rfl bQ | exact YG.ct 1 rfl rfl rfl bQ | exact YG.ct 2 rfl rfl rfl bQ | exact YG.ct 3 rfl rfl rfl bQ | exact YG.ct 4 rfl rfl rfl bQ | exact YG.ct 5 rfl rfl rfl bQ | exact YG.ct 6 rfl rfl rfl bQ) | exact rS | exact YG.rO 1 rfl rfl aY aY | exact YG.mv | exact YG.tQ | (apply K.bin;first | exact YG.go rfl | exact YG.uz rfl rfl ag | exact YG.vX rfl rfl | exact YG.wB rfl rfl | exact YG.AH rfl rfl | exact YG.Bh rfl rfl | exact YG.cat rfl rfl ag | exact YG.cat rfl rfl (by simp only [length_append,length_cons,List.length_nil];omega) | exact YG.dK rfl rfl ag | exact YG.add rfl rfl ag | exact YG.sub rfl rfl ag | exact YG.mul rfl rfl ag | exact YG.Aq rfl rfl ag | exact YG.quo rfl rfl ag | exact YG.rem rfl rfl ag | exact YG.sq rfl rfl) | exact qj | exact qi | exact qk | exact nO | exact oO | (apply K.idx;first | exact YG.so rfl rfl bJ | exact YG.jr rfl rfl bJ rfl | exact YG.jr rfl rfl bJ ag | exact YG.uG rfl rfl ag) | exact YG.ext rfl rfl | exact YG.go rfl | (apply K.Gg;first | exact YG.Ap rfl rfl rfl ag | exact YG.Ao rfl rfl ag | exact YG.An rfl rfl ag | exact YG.tG 1 rfl rfl rfl aY) | exact YG.qL rfl rfl bJ | exact YG.idxSC rfl rfl bJ rfl | exact oP | exact YG.build rfl | exact YG.neg rfl ag | exact YG.qG rfl rfl | exact YG.xn rfl (by first | rfl | exact IntWalk.i64_in _ ag | exact IntWalk.u8_in _ ag | assumption) | exact YG.str rfl aY)))) | (apply YQ.t;(· exact rfl);(· apply zP;(· exact rfl);(· first | exact rfl | assumption));(· (first | exact YG.ct (j+1) rfl rfl D3 ve | exact YG.Nt rfl D3 rfl oH rfl | (first | exact rR | (apply K.idx;first | exact YG.idxV rfl rfl rfl aY ag | exact YG.ct 0 rfl rfl rfl bQ | exact YG.ct 1 rfl rfl rfl bQ | exact YG.ct 2 rfl rfl rfl bQ | exact YG.ct 3 rfl rfl rfl bQ | exact YG.ct 4 rfl rfl rfl bQ | exact YG.ct 5 rfl rfl rfl bQ | exact YG.ct 6 rfl rfl rfl bQ) | exact rS | exact YG.rO 1 rfl rfl aY aY | exact YG.mv | exact YG.tQ | (apply K.bin;first | exact YG.go rfl | exact YG.uz rfl rfl ag | exact YG.vX rfl rfl | exact YG.wB rfl rfl | exact YG.AH rfl rfl | exact YG.Bh rfl rfl | exact YG.cat rfl rfl ag | exact YG.cat rfl rfl (by simp only [length_append,length_cons,List.length_nil];omega) | exact YG.dK rfl rfl ag | exact YG.add rfl rfl ag | exact YG.sub rfl rfl ag | exact YG.mul rfl rfl ag | exact YG.Aq rfl rfl ag | exact YG.quo rfl rfl ag | exact YG.rem rfl rfl ag | exact YG.sq rfl rfl) | exact qj | exact qi | exact qk | exact nO | exact oO | (apply K.idx;first | exact YG.so rfl rfl bJ | exact YG.jr rfl rfl bJ rfl | exact YG.jr rfl rfl bJ ag | exact YG.uG rfl rfl ag) | exact YG.ext rfl rfl | exact YG.go rfl | (apply K.Gg;first | exact YG.Ap rfl rfl rfl ag | exact YG.Ao rfl rfl ag | exact YG.An rfl rfl ag | exact YG.tG 1 rfl rfl rfl aY) | exact YG.qL rfl rfl bJ | exact YG.idxSC rfl rfl bJ rfl | exact oP | exact YG.build rfl | exact YG.neg rfl ag | exact YG.qG rfl rfl | exact YG.xn rfl (by first | rfl | exact IntWalk.i64_in _ ag | exact IntWalk.u8_in _ ag | assumption) | exact YG.str rfl aY)))) | (apply YQ.f;(· exact rfl);(· apply B0;(· exact rfl);(· first | exact rfl | assumption))))))) ?_))));refine np dh en ?_
     rw [append_nil];refine ar ?_
     cases b with
     | true =>
      obtain ⟨-,e4,e5⟩:=Dq (x:=(k:Int)) zo hg XW;rw [e4];refine ae ?_;refine GL.jv (j+1) rfl rfl rfl rfl rfl rfl rfl fp JX mc ?_;intro a3 c3;refine bI ?_;refine ae ?_;refine GL.VP rfl rfl rfl rE rfl rfl rfl rfl ?_;refine bI ?_;refine ae ?_;refine ⟨rfl,rfl,_,_,Wk.aC aq,_,hs.set j (.slice a3 (L+1) c3),true,e5,rfl,EU a3 c3,?_⟩;rw [<-vf,<-B5]
     | false =>
      obtain ⟨-,e4,e5⟩:=FO (x:=(k:Int)) zo hg XW;rw [e4];refine ae ?_;exact ⟨rfl,rfl,_,_,Wk.aC aq,_,hs,false,e5,rfl,H,rfl⟩
   ·rintro _ _ ⟨h,hs,b,zo,rfl,H,rfl⟩;have dI:=FN gs (k:Int) pr gs.length
    cases b with
    | true =>
     rw [hY zo];generalize jP gs (k:Int) pr gs.length=M at *;unfold iG;refine bb ?_;refine ae ?_;exact ⟨rfl,rfl,_,_,Wk.aC aq,h,hs,rfl,H,rfl⟩
    | false =>
     rw [hN zo];generalize jP gs (k:Int) pr gs.length=M at *;have hl:=H.len;obtain ⟨a1,c1,rfl⟩:=H.head
     have vi:(ik hs).length=M.length:=by rw [vc,hl]
     have EU:=fun (a2:Option Addr) (c2:Nat) (a3:Option Addr) (c3:Nat)=>H.snoc [(k:Int)] (a:=a2) (c:=c2) (b:=a3) (d:=c3)
     have rA:(Ob.vech 40 1 (ik hs) (.slice a1 M.length c1)::(fu M hs++[.vec 3 1 0 (chunk 1 1 [.v (ii (k:Nat))])]))[(fu M hs).length+1]?=some (.vec 3 1 0 (chunk 1 1 [.v (ii (k:Nat))])):=by simp
     have vf:=fun (y:Value)=>wo (gs:=M) (hs:=hs) [(k:Int)] y hl
     unfold iG;refine bb ?_;refine ae ?_;refine kJ ?_;refine GL.qJ (t:=51) rfl rfl rA rfl ?_;intro a2 c2;refine rq rfl (Dx (Ob.vech 40 1 (ik hs) (.slice a1 M.length c1)::fu M hs) _ _) ?_;refine cr ?_;refine GL.jv 0 rfl rfl rfl rfl rfl rfl rfl rfl vi mc ?_;intro a3 c3;refine bI ?_;refine ae ?_;refine ⟨rfl,rfl,_,_,Wk.aC aq,_,hs++[.slice a2 1 c2],rfl,EU a3 c3 a2 c2,?_⟩;rw [<-vf];simp only [ik,List.map_append,List.map_cons,map_nil];rfl
  ·rintro _ _ ⟨h,hs,rfl,H,rfl⟩;rw [vd] at H;rw [vd];refine bb ?_;unfold iG;refine ae ?_;refine ic ?_;exact oS 0 rfl cj rfl ph ⟨h,hs,H,rfl,rfl⟩
theorem OK (p:Src) (hw:eh p<=1048576) :
  GF Tryz.prog 23 [.agg (ax p)] [] (.sl 1 (cR (iQ p))) []:=GC.VL (OM p hw)
end Go.Xg
set_option maxHeartbeats 2000000
namespace Go.Xg
open Go.RowKit Go.Xw Go.Proofs
open Go.Xp (Nd Ar)
open Go.Sp (Src)
open Go.Im
theorem uS {A X C:List Ob} {j:Nat} (h:j < X.length):(A++(X++C))[A.length+j]?=X[j]?:=by
 rw [getElem?_append_right ag,Nat.add_sub_cancel_left,List.getElem?_append_left h]
def Ib (p:Src) (i:Nat):Go.Sp.Fn:=(p.fns[i]?).getD ⟨[],[],0⟩
def IU (p:Src) (i:Nat):Nd:=(p.nodes[i]?).getD ⟨0,0,0,[],[]⟩
def zD (l:List Value) (i:Nat):Value:=(l[i]?).getD undef
theorem Am {B:Bs} {K:Fz} {β:Bt} {w:World} {A C:List Ob} {p:Src} {hg ha hf hn:Value} {fs ns:List Value} (H:BI p hg ha hf hn fs ns) (hI:Inv B K β (A++(jm p hg ha hf hn fs ns++C)) w) :
  ∃ K1,cl K K1/\jh K1 w/\gD K1 (fun _=>.no) w/\ba K1 (fun _=>.no) [hg,ha,hf,hn] (ax p):=by
 obtain ⟨_,_,_,_,jK,rD,_,_⟩:=H
 have EV:(List.zipWith rn p.fns fs).length=p.fns.length:=by rw [length_zipWith];omega
 have qs:(List.zipWith mR p.nodes ns).length=p.nodes.length:=by rw [length_zipWith];omega
 have hlen:(jm p hg ha hf hn fs ns).length=4+p.fns.length+p.nodes.length:=by simp [jm,EV,qs];omega
 have hF:∀ i,i < p.fns.length->p.fns[i]?=some (Ib p i)/\fs[i]?=some (zD fs i):=fun i hi=>by
  unfold Ib zD;rw [getElem?_eq_getElem hi,getElem?_eq_getElem (show i < fs.length by omega)];exact ⟨rfl,rfl⟩
 have hN:∀ i,i < p.nodes.length->p.nodes[i]?=some (IU p i)/\ns[i]?=some (zD ns i):=fun i hi=>by
  unfold IU zD;rw [getElem?_eq_getElem hi,getElem?_eq_getElem (show i < ns.length by omega)];exact ⟨rfl,rfl⟩
 have g0:(A++(jm p hg ha hf hn fs ns++C))[A.length+0]?=some (.vech 9 1 (b9 p.globals) hg):=by rw [uS ag];rfl
 have g1:(A++(jm p hg ha hf hn fs ns++C))[A.length+1]?=some (.vech 88 2 (p.arrays.map aD) ha):=by rw [uS ag];rfl
 have g2:(A++(jm p hg ha hf hn fs ns++C))[A.length+2]?=some (.vech 60 3 (List.zipWith qd p.fns fs) hf):=by rw [uS ag];rfl
 have gF:∀ i,i < p.fns.length->(A++(jm p hg ha hf hn fs ns++C))[A.length+(3+i)]?=some (.vech 9 1 (b9 (Ib p i).params) (zD fs i)):=fun i hi=>by
  rw [uS ag];unfold jm;rw [show 3+i=i+1+1+1 by omega,getElem?_cons_succ,getElem?_cons_succ,getElem?_cons_succ,List.getElem?_append_left ag,rU (hF i hi).1 (hF i hi).2];rfl
 have g3:(A++(jm p hg ha hf hn fs ns++C))[A.length+(3+p.fns.length)]?=some (.vech 91 5 (List.zipWith lI p.nodes ns) hn):=by
  rw [uS ag];unfold jm;rw [show 3+p.fns.length=p.fns.length+1+1+1 by omega,getElem?_cons_succ,getElem?_cons_succ,getElem?_cons_succ,getElem?_append_right ag,EV,Nat.sub_self];rfl
 have gN:∀ i,i < p.nodes.length->(A++(jm p hg ha hf hn fs ns++C))[A.length+(4+p.fns.length+i)]?=some (.vech 3 1 (bc (IU p i).kids) (zD ns i)):=fun i hi=>by
  rw [uS ag];unfold jm;rw [show 4+p.fns.length+i=(p.fns.length+(i+1))+1+1+1 by omega,getElem?_cons_succ,getElem?_cons_succ,getElem?_cons_succ,getElem?_append_right ag,EV,Nat.add_sub_cancel_left,getElem?_cons_succ,rU (hN i hi).1 (hN i hi).2];rfl
 generalize A.length=s at *;generalize (A++(jm p hg ha hf hn fs ns++C))=Γ at *;obtain ⟨K1,RX,R1,k1,i1,f1,l1,r1,o1⟩:=hI.Ai (jf:=s+2) (N:=p.fns.length) (o:=1) (E:=9) (k':=1) (raw:=fun i=>qd (Ib p i) (zD fs i)) (fin:=fun i=>aw (Ib p i)) (ks:=fun i=>b9 (Ib p i).params) (hd:=fun i=>zD fs i) (jp:=fun i=>s+(3+i)) g2
  ⟨by rw [length_zipWith];omega,fun i hi=>rU (hF i hi).1 (hF i hi).2⟩ (fun i hi=>⟨rfl,rfl⟩) gF (fun i hi=>by omega) (fun i j _ _ h=>by omega)
 obtain ⟨K2,DO,R2,k2,i2,f2,l2,r2,o2⟩:=i1.Ai (jf:=s+(3+p.fns.length)) (N:=p.nodes.length) (o:=4) (E:=3) (k':=1) (raw:=fun i=>lI (IU p i) (zD ns i)) (fin:=fun i=>ay (IU p i)) (ks:=fun i=>bc (IU p i).kids) (hd:=fun i=>zD ns i) (jp:=fun i=>s+(4+p.fns.length+i))
  (by rw [o1 _ ag fun i hi=>by omega];exact g3) ⟨by rw [length_zipWith];omega,fun i hi=>rU (hN i hi).1 (hN i hi).2⟩ (fun i hi=>⟨rfl,rfl⟩) (fun i hi=>by rw [o1 _ ag fun j hj=>by omega];exact gN i hi) (fun i hi=>by omega) (fun i j _ _ h=>by omega)
 have e1:R1=p.fns.map aw:=by
  apply ext_getElem?;intro i
  by_cases hi:i < p.fns.length
  ·rw [r1 i hi,getElem?_map,(hF i hi).1];rfl
  ·rw [getElem?_eq_none ag,getElem?_eq_none (by rw [List.length_map];omega)]
 have e2:R2=p.nodes.map ay:=by
  apply ext_getElem?;intro i
  by_cases hi:i < p.nodes.length
  ·rw [r2 i hi,getElem?_map,(hN i hi).1];rfl
  ·rw [getElem?_eq_none ag,getElem?_eq_none (by rw [List.length_map];omega)]
 rw [e1] at f1;rw [e2] at f2
 have Z9:DO[s+2]?=some (.vech 60 3 (p.fns.map aw) hf):=by rw [o2 _ ag fun i hi=>by omega];exact f1
 have g0':DO[s+0]?=some (.vech 9 1 (b9 p.globals) hg):=by rw [o2 _ ag fun i hi=>by omega,o1 _ ag fun i hi=>by omega];exact g0
 have g1':DO[s+1]?=some (.vech 88 2 (p.arrays.map aD) ha):=by rw [o2 _ ag fun i hi=>by omega,o1 _ ag fun i hi=>by omega];exact g1
 obtain ⟨K3,k3,q0,i3⟩:=i2.qb g0';obtain ⟨K4,k4,q1,i4⟩:=i3.qb (i:=s+1) (by rw [bd,getElem?_set,if_neg ag];exact g1');obtain ⟨K5,k5,q2,i5⟩:=i4.qb (i:=s+2) (by rw [bd,bd,getElem?_set,if_neg ag,getElem?_set,if_neg ag];exact Z9);obtain ⟨K6,k6,q3,i6⟩:=i5.qb (i:=s+(3+p.fns.length)) (by rw [bd,bd,bd,getElem?_set,if_neg ag,getElem?_set,if_neg ag,getElem?_set,if_neg ag];exact f2);have b:cY β β:=cY.refl β;refine ⟨K6,k1.trans (k2.trans (k3.trans (k4.trans (k5.trans k6)))),i6.fz,i6.ZO,?_⟩;exact .cons ((q0.mono (k4.trans (k5.trans k6)) b).pc rfl) (.cons ((q1.mono (k5.trans k6) b).pc rfl) (.cons ((q2.mono k6 b).pc rfl) (.cons (q3.pc rfl) .nil)))
theorem Em {K:Fz} {β:Bt} {v a b c d:Value} (h:Rel K β v (.agg [.v a,.v b,.v c,.v d])):v=.agg #[a,b,c,d]:=by
 cases h with
 | agg vs cs hl h =>
  match vs,hl with
  | [x,y,z,u],_ =>
   rw [Rel.eC (h 0 x _ rfl rfl),Rel.eC (h 1 y _ rfl rfl),Rel.eC (h 2 z _ rfl rfl),Rel.eC (h 3 u _ rfl rfl)]
theorem En {K:Fz} {a b c d:Value} {gs:List GV} (h:ba K (fun _=>.no) [a,b,c,d] gs):Rel K (fun _=>.no) (.agg #[a,b,c,d]) (.agg gs):=.agg [a,b,c,d] gs h.1 h.2
section
variable {B:Bs} {K:Fz} {β:Bt} {w:World} {l:List Value} {fr:List GV} {A C X:List Ob} {p:Src} {hg ha hf hn:Value} {fs ns:List Value}
theorem G4 {x:Operand} (H:BI p hg ha hf hn fs ns) (hI:Inv B K β (A++(jm p hg ha hf hn fs ns++C)) w) (hF:FR K β fr l) (hx:aX fr x=.agg [.v hg,.v ha,.v hf,.v hn]) :
  ∃ K1,jh K1 w/\gD K1 (fun _=>.no) w/\ba K1 (fun _=>.no) ([x].map (ev l)) [.agg (ax p)]:=by
 obtain ⟨K1,_,h1,h2,h3⟩:=Am H hI;have hr:=hF.ev x;rw [hx] at hr;have e:=Em hr;refine ⟨K1,h1,h2,?_⟩;show ba K1 _ [ev l x] _;rw [e];exact .cons (En h3) .nil
theorem Ms {K K1:Fz} {v:Value} {gs:List GV} (hk:cl K K1) (hp:∀ g∈gs,g.pc=true) (h:Rel K β v (.agg gs)):Rel K1 (fun _=>.no) v (.agg gs):=by
 cases h with
 | agg vs cs hl h =>
  exact .agg vs gs hl fun i v g h1 h2=>((h i v g h1 h2).mono hk (cY.refl β)).pc (hp g (mem_of_getElem? h2))
theorem L5 (p:Src):∀ g∈ax p,g.pc=true:=fun g hg=>by
 simp only [ax,List.mem_cons,List.not_mem_nil,or_false] at hg
 rcases hg with rfl | rfl | rfl | rfl <;> rfl
theorem G5 {x y:Operand} (H:BI p hg ha hf hn fs ns) (hI:Inv B K β (A++(jm p hg ha hf hn fs ns++C)) w) (hF:FR K β fr l) (hx:aX fr x=.agg [.v hg,.v ha,.v hf,.v hn]) (hy:aX fr y=.agg (ax p)) :
  ∃ K1,jh K1 w/\gD K1 (fun _=>.no) w/\ba K1 (fun _=>.no) ([x,y].map (ev l)) [.agg (ax p),.agg (ax p)]:=by
 obtain ⟨K1,hk,h1,h2,h3⟩:=Am H hI;have hr:=hF.ev x;rw [hx] at hr;have e:=Em hr;have df:=hF.ev y;rw [hy] at df;refine ⟨K1,h1,h2,?_⟩;show ba K1 _ [ev l x,ev l y] _;rw [e];exact .cons (En h3) (.cons (Ms hk (L5 p) df) .nil)
end
end Go.Xg
set_option maxHeartbeats 4000000
namespace Go.Xg
open Go.RowKit Go.Xw Go.Proofs
open Go.Xp (Nd Ar)
open Go.Sp (Src)
open Go.Im
attribute [local irreducible] GW GL GO YG GC GA aU aZ
def gJ (k n:Nat):List (List GV):=(List.range n).map fun i=>[GV.v (ii ((k+i:Nat):Int))]
theorem su (k n:Nat):(gJ k n).length=n:=by simp [gJ]
theorem Hp (k n:Nat):gJ k (n+1)=gJ k n++[[.v (ii ((k+n:Nat):Int))]]:=by simp [gJ,List.range_succ]
theorem NC {k n i:Nat} (h:i < n):(gJ k n)[i]?=some [.v (ii ((k+i:Nat):Int))]:=by simp [gJ,h]
theorem Kq (k:Nat) (rows:List (List GV)) {i:Nat} (h:i < rows.length):(gJ k i++rows.drop i).set i [.v (ii ((k+i:Nat):Int))]=gJ k (i+1)++rows.drop (i+1):=by
 rw [List.drop_eq_getElem_cons h,set_append_right _ _ (by rw [su];exact Nat.le_refl _),su,Nat.sub_self,set_cons_zero,Hp,append_assoc];rfl
theorem Ko (a:Option Addr) (c n k:Nat) (rows:List (List GV)) (hn:rows.length=n) (hb:k+n<=1099511627776) :
  GF Tryz.prog 21 [.v (.slice a n c),.v (ii (k:Nat))] [.vech 3 1 rows (.slice a n c)] (.v (ii ((k+n:Nat):Int))) [.vech 3 1 (gJ k n) (.slice a n c)]:=by
 refine ai Tryz.func21 Tryz.ntmps21 ?_;refine GW.loop (fun i:Nat=>n - i) (fun i fr Γ=>∃ R,fr=[.v (.slice a n c),.v (ii ((k+i:Nat):Int)),.U,.U,.U,.v (ii (i:Nat)),.U,.U,.U,.U,.U,.U,.U,.U,.U,.U,.U,.U,.U]/\Γ=[.vech 3 1 R (.slice a n c)]/\i<=n/\R=gJ k i++rows.drop i) 0 ?_ ?_
 ·exact ⟨_,_,Wk.aC aq,_,rfl,rfl,Nat.zero_le _,rfl⟩
 rintro i _ _ ⟨R,rfl,rfl,hi,hR⟩
 have eE:R.length=n:=by rw [hR,length_append,su,List.length_drop];omega
 by_cases ak:i < n
 ·have hd:decide ((i:Int) < (n:Int))=true:=by simpa using ak
  have bU:=Kq k rows (i:=i) ag;rw [<-hR] at bU;clear hR;refine ae ?_;refine jH ?_;refine ae ?_;exact ⟨i+1,⟨_,_,Wk.aC aq,_,rfl,rfl,ak,bU⟩,by show n - (i+1) < n - i;omega⟩
 ·have hd:decide ((i:Int) < (n:Int))=false:=by simpa using ak
  have fO:i=n:=by omega
  subst fO;rw [List.drop_of_length_le ag,append_nil] at hR;subst hR;refine bH ?_;exact av
theorem JT (k n:Nat) (hb:k+n<=1099511627776):GF Tryz.prog 22 [.sl 1 (gJ k n),.v (ii (k:Nat))] [] (.v (ii ((k+n:Nat):Int))) []:=by
 have hm:=su k n;refine ai Tryz.func22 Tryz.ntmps22 ?_;refine GW.loop (fun i:Nat=>n - i) (fun i fr Γ=>fr=[.sl 1 (gJ k n),.v (ii ((k+i:Nat):Int)),.U,.U,.U,.v (ii (i:Nat)),.U,.U,.U,.U,.U,.U,.U,.U,.U,.U,.U,.U,.U,.U,.U]/\Γ=[]/\i<=n) 0 ?_ ?_
 ·exact ⟨_,_,Wk.aC aq,rfl,rfl,Nat.zero_le _⟩
 rintro i _ _ ⟨rfl,rfl,hi⟩
 by_cases ak:i < n
 ·have hd:decide ((i:Int) < ((gJ k n).length:Int))=true:=by rw [hm];simpa using ak
  have hr:=NC (k:=k) ak
  have hs:(((k+i:Nat):Int) != ((k+i:Nat):Int))=false:=by simp
  refine ae ?_;exact ⟨i+1,⟨_,_,Wk.aC aq,rfl,rfl,ak⟩,by show n - (i+1) < n - i;omega⟩
 ·have hd:decide ((i:Int) < ((gJ k n).length:Int))=false:=by rw [hm];simpa using ak
  have fO:i=n:=by omega
  subst fO;refine bH ?_;exact av
section
variable {B:Bs} {K:Fz} {β:Bt} {w:World} {fr:List GV} {l:List Value} {A X C:List Ob}
end
theorem Px (l:List Int):(bc l).length=l.length:=by simp [bc]
end Go.Xg
namespace Go.Xg
open Go.RowKit Go.Xw
section
variable {P:Program} {m:Nat} {Q:dB} {fr:List GV} {Γ:List Ob} {ops:Array Oper} {rest:List Oper} {d:Option Tmp} {op:Op} {ty:TypeId} {pos:String} {af:Array Edge}
def rI (β:Bt) (n:Nat) (bA:Bt):Bt:=fun i=>if i < n then β i else bA (i - n)
def Ob.plain:Ob->Prop
 | .vech _ _ rows _=>∀ r∈rows,∀ g∈r,∃ x,g=.v x
 | _=>False
theorem Inv.Vf {B:Bs} {K K1 K':Fz} {β bA:Bt} {w w':World} {Δ:List Ob} (hI:Inv B K β Γ w) (bg:Inv ⟨w,gn,K1,fun _=>.no,0⟩ K' bA Δ w') (Va:∀ o∈Δ,Ob.plain o):Inv B K (rI β Γ.length bA) (Γ++Δ) w'/\cY β (rI β Γ.length bA):=by
 have xA:=hI.same bg.ext
 have fV:∀ i,i < Γ.length->rI β Γ.length bA i=β i:=fun i hi=>by unfold rI;rw [if_pos hi]
 have od:∀ i,Γ.length<=i->rI β Γ.length bA i=bA (i - Γ.length):=fun i hi=>by unfold rI;rw [if_neg ag]
 have hle:cY β (rI β Γ.length bA):=fun i=>by
  by_cases hi:i < Γ.length
  ·rw [fV i hi];exact rV.refl _
  ·rw [hI.out i ag];trivial
 have hold:∀ i b,(β i).blk=some b->b < w.heap.size:=fun i b hb=>by
  by_cases hi:i < Γ.length
  ·exact (hI.ob i _ (getElem?_eq_getElem hi)).lt hb
  ·rw [hI.out i ag] at hb;cases hb
 have B6:∀ i b,(bA i).blk=some b->w.heap.size<=b:=fun i b hb=>by
  rcases bg.own i b hb with h | h
  ·exact h.elim
  ·exact h
 have dj:∀ i b,(rI β Γ.length bA i).blk=some b->(i < Γ.length/\(β i).blk=some b)\/(Γ.length<=i/\(bA (i - Γ.length)).blk=some b):=fun i b hb=>by
  by_cases hi:i < Γ.length
  ·rw [fV i hi] at hb;exact .inl ⟨hi,hb⟩
  ·rw [od i ag] at hb;exact .inr ⟨by omega,hb⟩
 refine ⟨⟨xA.ext,xA.kle,xA.ble.trans hle,xA.loc,xA.fz,fun i x hi=>?_,fun i hi=>?_,fun i j b h1 h2=>?_,fun i b h1=>?_,xA.kn,⟨xA.tab.le,xA.tab.pow,xA.tab.spc,fun i b h=>?_⟩⟩,hle⟩
 ·by_cases sc:i < Γ.length
  ·rw [List.getElem?_append_left sc] at hi;exact (xA.ob i x hi).ext (Ext.refl w') (fun _ _ h=>h) (cl.refl K) hle (fV i sc) (S:=gn) (fun _ _ _ h=>h)
  ·rw [getElem?_append_right ag] at hi;have cQ:=Va x (mem_of_getElem? hi)
   cases x with
   | vech E k rows v =>
    obtain ⟨xs,e1,e2,e3,e4,e5⟩:=bg.ob _ _ hi
    have yD:∀ g∈rows.flatten,∃ x,g=.v x:=fun g hg=>by
     obtain ⟨r,h5,h6⟩:=List.mem_flatten.1 hg;exact cQ r h5 g h6
    refine ⟨xs,by rw [od i ag];exact e1,e2,⟨e3.1,fun q u g h5 h6=>?_⟩,e4,fun b hb o=>?_⟩
    ·obtain ⟨y,rfl⟩:=yD g (mem_of_getElem? h6);rw [Rel.eC (e3.2 q u _ h5 h6)];exact .v _
    ·cases hk:K b o with
     | none=>rfl
     | some g =>
      have h1:=hI.fz.lt hk;have h2:=B6 (i - Γ.length) b (by rw [e1];exact hb);omega
   | _=>exact cQ.elim
 ·rw [length_append] at hi;rw [od i ag];exact bg.out _ ag
 ·rcases dj i b h1 with ⟨a1,a2⟩ | ⟨a1,a2⟩ <;> rcases dj j b h2 with ⟨b1,b2⟩ | ⟨b1,b2⟩
  ·exact hI.dis i j b a2 b2
  ·have:=hold i b a2;have:=B6 _ b b2;omega
  ·have:=hold j b b2;have:=B6 _ b a2;omega
  ·have:=bg.dis _ _ b a2 b2;omega
 ·rcases dj i b h1 with ⟨a1,a2⟩ | ⟨a1,a2⟩
  ·exact hI.own i b a2
  ·exact .inr (Nat.le_trans hI.ext.size (B6 _ b a2))
 ·rcases dj i b h with ⟨a1,a2⟩ | ⟨a1,a2⟩
  ·exact xA.tab.free i b a2
  ·exact bg.tab.free _ b a2
def GV.Plain (g:GV):Prop:=∀ {K K':Fz} {β bA:Bt} {v:Value},Rel K β v g->Rel K' bA v g
theorem GV.SZ (x:Value):GV.Plain (.v x):=fun h=>by rw [Rel.eC h];exact .v _
theorem GL.R9 {f:FuncId} [hf:aH P f] {args:List Operand} {mH:Array TypeId} {gs:List GV} {R:GV->List Ob->Prop} (hc:GC P f gs [] R)
  (hR:∀ g Δ,R g Δ->GV.Plain g/\∀ o∈Δ,Ob.plain o)
  (hv:∀ B K β w l,Inv B K β Γ w->FR K β fr l->∃ K1,jh K1 w/\gD K1 (fun _=>.no) w/\ba K1 (fun _=>.no) (args.map (ev l)) gs)
  (h:∀ g Δ,R g Δ->GL P m ops Q rest (br fr d g) (Γ++Δ)):GL P m ops Q (⟨d,.call ⟨.value (.func f),args.toArray,mH⟩,ty,pos,af,none⟩::rest) fr Γ:=fun B K β w l hm hI hF=>by
 obtain ⟨K1,h1,h2,h3⟩:=hv B K β w l hI hF
 have oH:(execOp (ev l) ⟨d,.call ⟨.value (.func f),args.toArray,mH⟩,ty,pos,af,none⟩).run P w=.ok (.enter f (args.map (ev l)).toArray) w:=by simp [execOp,resolve,ev,Deferred.ofValue,invoke,lG]
 refine WL.calls oH (hc _ K1 _ w _ rfl (Inv.new h1 h2) h3) ?_;rintro x w' ⟨K',bA,g,Δ,bg,eU,hr⟩;obtain ⟨p1,p2⟩:=hR g Δ hr;obtain ⟨hJ,hle⟩:=hI.Vf bg p2;exact h g Δ hr B K _ w' _ hm hJ ((hF.mono (cl.refl K) hle).put d (p1 eU))
end
end Go.Xg
set_option maxHeartbeats 2000000
namespace Go.Xg
open Go.RowKit Go.Xw Go.Proofs
open Go.Xp (Nd Ar)
open Go.Sp (Src)
open Go.Im (wS eh be nL si gk dH nK kG nJ)
attribute [local irreducible] GW GL GO YG GC GA aU aZ
theorem ED (l:List Int) (hl:l.length<=1048576):GF Tryz.prog 19 [ints l,ints l] [] (.v (.bool true)) []:=by
 have hm:(l.map (fun i=>[GV.v (ii i)])).length=l.length:=by simp
 have hd:(((l.map (fun i=>[GV.v (ii i)])).length:Int) != ((l.map (fun i=>[GV.v (ii i)])).length:Int))=false:=by simp
 refine ai Tryz.func19 Tryz.ntmps19 ?_;refine GW.loop (fun k:Nat=>l.length - k) (fun k fr Γ=>fr=[ints l,ints l,.U,.U,.U,.v (ii (k:Nat)),.U,.U,.U,.U,.U,.U,.U,.U,.U,.U,.U,.U,.U,.U,.U,.U,.U,.U,.U,.U]/\Γ=[]/\k<=l.length) 0 ?_ ?_
 ·exact ⟨_,_,Wk.aC aq,rfl,rfl,Nat.zero_le _⟩
 rintro k _ _ ⟨rfl,rfl,hk⟩
 by_cases ak:k < l.length
 ·have hx:l[k]?=some l[k]:=by simp [ak]
  have hr:(l.map (fun i=>[GV.v (ii i)]))[k]?=some ([GV.v (ii l[k])]):=by rw [getElem?_map,hx];rfl
  have dd:decide ((k:Int) < ((l.map (fun i=>[GV.v (ii i)])).length:Int))=true:=by rw [hm];simpa using ak
  generalize l[k]=x at *
  have hs:(x != x)=false:=by simp
  refine ae ?_;refine aI (aB 0 9 .nil) ?_;refine bf ?_;exact ⟨k+1,⟨_,_,Wk.aC aq,rfl,rfl,ak⟩,by show l.length - (k+1) < l.length - k;omega⟩
 ·have dd:decide ((k:Int) < ((l.map (fun i=>[GV.v (ii i)])).length:Int))=false:=by rw [hm];simpa using ak
  refine bH ?_;exact av
theorem za (l:List ah) (hl:l.length<=1048576):GF Tryz.prog 47 [strs l,strs l] [] (.v (.bool true)) []:=by
 have hm:(l.map (fun s=>[GV.v (sv s)])).length=l.length:=by simp
 have hd:(((l.map (fun s=>[GV.v (sv s)])).length:Int) != ((l.map (fun s=>[GV.v (sv s)])).length:Int))=false:=by simp
 refine ai Tryz.func47 Tryz.ntmps47 ?_;refine GW.loop (fun k:Nat=>l.length - k) (fun k fr Γ=>fr=[strs l,strs l,.U,.U,.U,.v (ii (k:Nat)),.U,.U,.U,.U,.U,.U,.U,.U,.U,.U,.U,.U,.U,.U,.U,.U,.U,.U,.U,.U]/\Γ=[]/\k<=l.length) 0 ?_ ?_
 ·exact ⟨_,_,Wk.aC aq,rfl,rfl,Nat.zero_le _⟩
 rintro k _ _ ⟨rfl,rfl,hk⟩
 by_cases ak:k < l.length
 ·have hx:l[k]?=some l[k]:=by simp [ak]
  have hr:(l.map (fun s=>[GV.v (sv s)]))[k]?=some ([GV.v (sv l[k])]):=by rw [getElem?_map,hx];rfl
  have dd:decide ((k:Int) < ((l.map (fun s=>[GV.v (sv s)])).length:Int))=true:=by rw [hm];simpa using ak
  generalize l[k]=x at *
  have hs:(!(x==x))=false:=by simp
  refine ae ?_;refine aI (aB 0 9 .nil) ?_;refine bf ?_;exact ⟨k+1,⟨_,_,Wk.aC aq,rfl,rfl,ak⟩,by show l.length - (k+1) < l.length - k;omega⟩
 ·have dd:decide ((k:Int) < ((l.map (fun s=>[GV.v (sv s)])).length:Int))=false:=by rw [hm];simpa using ak
  refine bH ?_;exact av
theorem L7 (x:Ar):GF Tryz.prog 107 [.agg (aD x),.agg (aD x)] [] (.v (.bool true)) []:=by
 have e0:(!(x.name==x.name))=false:=by simp
 have e1:(x.size != x.size)=false:=by simp
 refine ai Tryz.func107 Tryz.ntmps107 ?_;exact al
theorem JK (l:List Ar) (hl:l.length<=1048576):GF Tryz.prog 48 [.sl 2 (l.map aD),.sl 2 (l.map aD)] [] (.v (.bool true)) []:=by
 have hm:(l.map aD).length=l.length:=by simp
 have hd:(((l.map aD).length:Int) != ((l.map aD).length:Int))=false:=by simp
 refine ai Tryz.func48 Tryz.ntmps48 ?_;refine GW.loop (fun k:Nat=>l.length - k) (fun k fr Γ=>fr=[.sl 2 (l.map aD),.sl 2 (l.map aD),.U,.U,.U,.v (ii (k:Nat)),.U,.U,.U,.U,.U,.U,.U,.U,.U,.U,.U,.U,.U,.U,.U,.U,.U,.U,.U,.U,.U]/\Γ=[]/\k<=l.length) 0 ?_ ?_
 ·exact ⟨_,_,Wk.aC aq,rfl,rfl,Nat.zero_le _⟩
 rintro k _ _ ⟨rfl,rfl,hk⟩
 by_cases ak:k < l.length
 ·have hx:l[k]?=some l[k]:=by simp [ak]
  have hr:(l.map aD)[k]?=some (aD l[k]):=by rw [getElem?_map,hx];rfl
  have dd:decide ((k:Int) < ((l.map aD).length:Int))=true:=by rw [hm];simpa using ak
  have hc:=L7 l[k];generalize l[k]=x at *;refine ae ?_;refine aI (aB 0 8 (.a 8 (.q 9 .nil))) ?_;refine ar ?_;refine aE [] hc ?_;refine ae ?_;exact ⟨k+1,⟨_,_,Wk.aC aq,rfl,rfl,ak⟩,by show l.length - (k+1) < l.length - k;omega⟩
 ·have dd:decide ((k:Int) < ((l.map aD).length:Int))=false:=by rw [hm];simpa using ak
  refine bH ?_;exact av
theorem TS (x:Go.Sp.Fn) (hp:x.params.length<=1048576):GF Tryz.prog 108 [.agg (aw x),.agg (aw x)] [] (.v (.bool true)) []:=by
 have e0:(!(x.name==x.name))=false:=by simp
 have e1:(x.body != x.body)=false:=by simp
 have h0:=za x.params hp;refine ai Tryz.func108 Tryz.ntmps108 ?_;refine ab [] h0 ?_;exact al
theorem Sm (l:List Go.Sp.Fn) (hl:l.length<=1048576) (he:∀ x∈l,x.params.length<=1048576):GF Tryz.prog 49 [.sl 3 (l.map aw),.sl 3 (l.map aw)] [] (.v (.bool true)) []:=by
 have hm:(l.map aw).length=l.length:=by simp
 have hd:(((l.map aw).length:Int) != ((l.map aw).length:Int))=false:=by simp
 refine ai Tryz.func49 Tryz.ntmps49 ?_;refine GW.loop (fun k:Nat=>l.length - k) (fun k fr Γ=>fr=[.sl 3 (l.map aw),.sl 3 (l.map aw),.U,.U,.U,.v (ii (k:Nat)),.U,.U,.U,.U,.U,.U,.U,.U,.U,.U,.U,.U,.U,.U,.U,.U,.U,.U,.U,.U,.U]/\Γ=[]/\k<=l.length) 0 ?_ ?_
 ·exact ⟨_,_,Wk.aC aq,rfl,rfl,Nat.zero_le _⟩
 rintro k _ _ ⟨rfl,rfl,hk⟩
 by_cases ak:k < l.length
 ·have hx:l[k]?=some l[k]:=by simp [ak]
  have hr:(l.map aw)[k]?=some (aw l[k]):=by rw [getElem?_map,hx];rfl
  have dd:decide ((k:Int) < ((l.map aw).length:Int))=true:=by rw [hm];simpa using ak
  have hex:=he _ (mem_of_getElem? hx);have hc:=TS l[k] hex;generalize l[k]=x at *;refine ae ?_;refine aI (aB 0 8 (.a 8 (.q 9 .nil))) ?_;refine ar ?_;refine aE [] hc ?_;refine ae ?_;exact ⟨k+1,⟨_,_,Wk.aC aq,rfl,rfl,ak⟩,by show l.length - (k+1) < l.length - k;omega⟩
 ·have dd:decide ((k:Int) < ((l.map aw).length:Int))=false:=by rw [hm];simpa using ak
  refine bH ?_;exact av
theorem O5 (x:Nd) (hp:x.kids.length<=1048576):GF Tryz.prog 109 [.agg (ay x),.agg (ay x)] [] (.v (.bool true)) []:=by
 have e0:(x.kind != x.kind)=false:=by simp
 have e1:(x.at_ != x.at_)=false:=by simp
 have e2:(x.n != x.n)=false:=by simp
 have e3:(!(x.s==x.s))=false:=by simp
 have h0:=ED x.kids hp;refine ai Tryz.func109 Tryz.ntmps109 ?_;refine ab [] h0 ?_;exact al
theorem L9 (l:List Nd) (hl:l.length<=1048576) (he:∀ x∈l,x.kids.length<=1048576):GF Tryz.prog 50 [.sl 5 (l.map ay),.sl 5 (l.map ay)] [] (.v (.bool true)) []:=by
 have hm:(l.map ay).length=l.length:=by simp
 have hd:(((l.map ay).length:Int) != ((l.map ay).length:Int))=false:=by simp
 refine ai Tryz.func50 Tryz.ntmps50 ?_;refine GW.loop (fun k:Nat=>l.length - k) (fun k fr Γ=>fr=[.sl 5 (l.map ay),.sl 5 (l.map ay),.U,.U,.U,.v (ii (k:Nat)),.U,.U,.U,.U,.U,.U,.U,.U,.U,.U,.U,.U,.U,.U,.U,.U,.U,.U,.U,.U,.U]/\Γ=[]/\k<=l.length) 0 ?_ ?_
 ·exact ⟨_,_,Wk.aC aq,rfl,rfl,Nat.zero_le _⟩
 rintro k _ _ ⟨rfl,rfl,hk⟩
 by_cases ak:k < l.length
 ·have hx:l[k]?=some l[k]:=by simp [ak]
  have hr:(l.map ay)[k]?=some (ay l[k]):=by rw [getElem?_map,hx];rfl
  have dd:decide ((k:Int) < ((l.map ay).length:Int))=true:=by rw [hm];simpa using ak
  have hex:=he _ (mem_of_getElem? hx);have hc:=O5 l[k] hex;generalize l[k]=x at *;refine ae ?_;refine aI (aB 0 8 (.a 8 (.q 9 .nil))) ?_;refine ar ?_;refine aE [] hc ?_;refine ae ?_;exact ⟨k+1,⟨_,_,Wk.aC aq,rfl,rfl,ak⟩,by show l.length - (k+1) < l.length - k;omega⟩
 ·have dd:decide ((k:Int) < ((l.map ay).length:Int))=false:=by rw [hm];simpa using ak
  refine bH ?_;exact av
theorem JL (x:Src) (hg:x.globals.length<=1048576) (ha:x.arrays.length<=1048576) (hf:x.fns.length<=1048576) (AY:∀ f∈x.fns,f.params.length<=1048576) (hn:x.nodes.length<=1048576) (xL:∀ n∈x.nodes,n.kids.length<=1048576):GF Tryz.prog 14 [.agg (ax x),.agg (ax x)] [] (.v (.bool true)) []:=by
 have h0:=za x.globals hg;have h1:=JK x.arrays ha;have h2:=Sm x.fns hf AY;have h3:=L9 x.nodes hn xL;refine ai Tryz.func14 Tryz.ntmps14 ?_;refine ab [] h0 ?_;refine ab [] h1 ?_;refine ab [] h2 ?_;refine ab [] h3 ?_;exact al
end Go.Xg
set_option maxHeartbeats 4000000
namespace Go.Xg
open Go.RowKit Go.Xw Go.Proofs
open Go.Im
attribute [local irreducible] GW GL GO YG GC GA aU aZ
def pZ (k n:Nat):List Int:=(List.range n).map fun i=>((k+i:Nat):Int)
theorem Kr (k n:Nat):(pZ k n).length=n:=by simp [pZ]
theorem Dp (k n:Nat):gJ k n=bc (pZ k n):=by unfold gJ pZ bc;rw [List.map_map];rfl
def eg (gs:List (List Int)):Nat:=(gs.map List.length).sum
def mF:Nat->List (List Int)->List (List Int)
 | _,[]=>[]
 | k,g::gs=>pZ k g.length::mF (k+g.length) gs
theorem DM (a:List (List Int)) (g:List Int):eg (a++[g])=eg a+g.length:=by simp [eg]
theorem DN {gs:List (List Int)} {i:Nat} {g:List Int} (h:gs[i]?=some g):eg (gs.take (i+1))=eg (gs.take i)+g.length:=by
 rw [List.take_add_one,h];exact DM _ _
theorem Ji (gs:List (List Int)) (i:Nat):eg (gs.take i)<=eg gs:=by
 have h:=congrArg eg (List.take_append_drop i gs);unfold eg at *;rw [List.map_append,List.sum_append] at h;omega
theorem lB:∀ (k:Nat) (gs:List (List Int)),(mF k gs).length=gs.length
 | _,[]=>rfl
 | k,g::gs=>by simp [mF,lB (k+g.length) gs]
theorem FT:∀ (k:Nat) (a:List (List Int)) (g:List Int),mF k (a++[g])=mF k a++[pZ (k+eg a) g.length]
 | k,[],g=>by simp [mF,eg]
 | k,x::a,g=>by
  have:=FT (k+x.length) a g;rw [List.cons_append,mF,this,mF];simp [eg,Nat.add_assoc]
theorem FQ:∀ {gs:List (List Int)} (k:Nat) {i:Nat} {g:List Int},gs[i]?=some g->(mF k gs)[i]?=some (pZ (k+eg (gs.take i)) g.length)
 | [],k,i,g,h=>by simp at h
 | x::gs,k,0,g,h=>by cases h;simp [mF,eg]
 | x::gs,k,i+1,g,h=>by
  have:=FQ (gs:=gs) (k+x.length) (i:=i) (g:=g) (by simpa using h);rw [mF,getElem?_cons_succ,this,List.take_succ_cons];simp [eg,Nat.add_assoc]
def qN (k:Nat) (gs:List (List Int)) (i:Nat):List (List Int):=mF k (gs.take i)++gs.drop i
theorem FP (k:Nat) (gs:List (List Int)) (i:Nat):(qN k gs i).length=gs.length:=by simp [qN,lB];omega
theorem SN {gs:List (List Int)} {k i:Nat} {g:List Int} (h:gs[i]?=some g):(qN k gs i)[i]?=some g:=by
 have hi:=(List.getElem?_eq_some_iff.1 h).1
 have hl:(mF k (gs.take i)).length=i:=by rw [lB,List.length_take];omega
 unfold qN;rw [getElem?_append_right ag,hl,Nat.sub_self,List.getElem?_drop];exact h
theorem P0 {gs:List (List Int)} {k i:Nat} {g:List Int} (h:gs[i]?=some g):(qN k gs i).set i (pZ (k+eg (gs.take i)) g.length)=qN k gs (i+1):=by
 have hi:=(List.getElem?_eq_some_iff.1 h).1
 have hl:(mF k (gs.take i)).length=i:=by rw [lB,List.length_take];omega
 unfold qN;rw [set_append_right _ _ ag,hl,Nat.sub_self,List.drop_eq_getElem_cons hi,set_cons_zero,List.take_add_one,h];rw [show (some g).toList=[g] from rfl,FT,append_assoc];rfl
theorem Pm {hs:List Value} {i:Nat} {x:Value} (h:hs[i]?=some x):hs.set i x=hs:=by
 refine ext_getElem? fun j=>?_
 rw [getElem?_set]
 by_cases e:i=j
 ·subst e;have:=(List.getElem?_eq_some_iff.1 h).1;rw [if_pos rfl,if_pos this,h]
 ·rw [if_neg e]
theorem L8 (r:List (List Int)) (hl:r.length<=1048576) (hk:∀ g∈r,g.length<=1048576):GF Tryz.prog 25 [.sl 1 (cR r),.sl 1 (cR r)] [] (.v (.bool true)) []:=by
 have hm:(cR r).length=r.length:=by simp [cR]
 have hd:(((cR r).length:Int) != ((cR r).length:Int))=false:=by simp
 refine ai Tryz.func25 Tryz.ntmps25 ?_;refine GW.loop (fun k:Nat=>r.length - k) (fun k fr Γ=>fr=[.sl 1 (cR r),.sl 1 (cR r),.U,.U,.U,.v (ii (k:Nat)),.U,.U,.U,.U,.U,.U,.U,.U,.U,.U,.U,.U,.U,.U,.U,.U,.U,.U,.U,.U,.U]/\Γ=[]/\k<=r.length) 0 ?_ ?_
 ·exact ⟨_,_,Wk.aC aq,rfl,rfl,Nat.zero_le _⟩
 rintro k _ _ ⟨rfl,rfl,og⟩
 by_cases ak:k < r.length
 ·obtain ⟨g,hg⟩:∃ g,r[k]?=some g:=⟨r[k],by simp [ak]⟩
  have hr:(cR r)[k]?=some [.sl 1 (bc g)]:=by unfold cR;rw [getElem?_map,hg];rfl
  have dd:decide ((k:Int) < ((cR r).length:Int))=true:=by rw [hm];simpa using ak
  have hQ:=ED g (hk g (mem_of_getElem? hg));have e1:ints g=.sl 1 (bc g):=rfl;rw [e1] at hQ;generalize bc g=S at *;refine ae ?_;refine aI (aB 0 8 (.a 8 (.q 9 .nil))) ?_;refine ar ?_;refine aE [] hQ ?_;refine ae ?_;exact ⟨k+1,⟨_,_,Wk.aC aq,rfl,rfl,ak⟩,by show r.length - (k+1) < r.length - k;omega⟩
 ·have dd:decide ((k:Int) < ((cR r).length:Int))=false:=by rw [hm];simpa using ak
  refine bH ?_;exact av
theorem Hn (gs:List (List Int)) (h:Value) (hs:List Value) (H:n8 gs h hs) (k:Nat) (hb:k+eg gs<=1099511627776) (eS:gs.length<=1048576) :
  GC Tryz.prog 26 [.v h,.v (ii (k:Nat))] (iG gs h hs) fun g Δ=>g=.v (ii ((k+eg gs:Nat):Int))/\Δ=iG (mF k gs) h hs:=by
 have hl:=H.len;obtain ⟨a0,c0,rfl⟩:=H.head
 have vi:(ik hs).length=gs.length:=by rw [vc,hl]
 refine da Tryz.func26 Tryz.ntmps26 ?_;generalize Zx:(iG gs (.slice a0 gs.length c0) hs).length=ml
 have dI:ml=gs.length+1:=by rw [<-Zx];unfold iG;rw [length_cons,py hl]
 unfold iG;refine ae ?_;refine GW.loop (fun i:Nat=>gs.length - i) (fun i fr Γ=>∃ kk:Nat,kk=k+eg (gs.take i)/\i<=gs.length/\fr=[.v (.slice a0 gs.length c0),.v (ii (kk:Nat)),.U,.U,.U,.v (ii (i:Nat)),.U,.U,.U,.U,.U,.U,.U,.U,.U,.U,.U,.U,.U]/\Γ=.vech 40 1 (ik hs) (.slice a0 gs.length c0)::fu (qN k gs i) hs) 0 ?_ ?_
 ·exact ⟨_,_,Wk.aC aq,k,by simp [eg],Nat.zero_le _,rfl,rfl⟩
 rintro i _ _ ⟨kk,iL,hi,rfl,rfl⟩
 by_cases ak:i < gs.length
 ·have hd:decide ((i:Int) < (gs.length:Int))=true:=by simpa using ak
  obtain ⟨g,hg⟩:∃ g,gs[i]?=some g:=⟨gs[i],by simp [ak]⟩;have od:hs[i]?=some (hs[i]'ag):=getElem?_eq_getElem _;obtain ⟨a1,c1,e1⟩:=H.kid i _ _ hg od;generalize hs[i]'ag=x at *;subst e1
  have rE:(ik hs)[i]?=some [.v (.slice a1 g.length c1)]:=by simp [ik,od]
  have qt:i < (ik hs).length:=by omega
  have U4:=DN hg;have hle:=Ji gs (i+1);have hM:=Ko a1 c1 g.length (k+eg (gs.take i)) (bc g) (Px g) ag
  have fp:(Ob.vech 40 1 (ik hs) (.slice a0 gs.length c0)::fu (qN k gs i) hs)[i+1]?=some (.vech 3 1 (bc g) (.slice a1 g.length c1)):=by rw [getElem?_cons_succ];exact rJ (SN hg) od
  have bU:=ud (qN k gs i) hs i (pZ (k+eg (gs.take i)) g.length) (.slice a1 g.length c1);rw [P0 hg,Pm od,<-Dp] at bU;have eR:=py (gs:=qN k gs i) (hs:=hs) (by rw [FP];exact hl);rw [FP] at eR;rw [Nat.add_assoc,<-U4] at hM;rw [<-iL] at hM bU;generalize og:k+eg (gs.take (i+1))=Rw at *;refine ae ?_;refine GL.JB [i+1] hM (kH) (by simp [gK,eR,ak]) ⟨fp,trivial⟩ rfl ?_;refine bI ?_;rw [append_nil];refine ae ?_;exact ⟨i+1,⟨_,_,Wk.aC aq,Rw,og.symm,ak,rfl,by rw [<-bU]⟩,by show gs.length - (i+1) < gs.length - i;omega⟩
 ·have hd:decide ((i:Int) < (gs.length:Int))=false:=by simpa using ak
  have fO:i=gs.length:=by omega
  subst fO
  have e1:qN k gs gs.length=mF k gs:=by unfold qN;simp
  rw [e1];rw [take_length] at iL;subst iL;refine bH ?_;refine ae ?_;refine ic ?_
  have hlm:(iG (mF k gs) (.slice a0 gs.length c0) hs).length=ml:=by unfold iG;rw [length_cons,py (by rw [lB];exact hl),lB];omega
  exact D0 rfl cj rfl hlm.symm ph ⟨rfl,rfl⟩
theorem Hb (gs:List (List Int)) (k:Nat) (hb:k+eg gs<=1099511627776) (eS:gs.length<=1048576) :
  GF Tryz.prog 27 [.sl 1 (cR (mF k gs)),.v (ii (k:Nat))] [] (.v (ii ((k+eg gs:Nat):Int))) []:=by
 have hm:(cR (mF k gs)).length=gs.length:=by simp [cR,lB]
 refine ai Tryz.func27 Tryz.ntmps27 ?_;refine GW.loop (fun i:Nat=>gs.length - i) (fun i fr Γ=>∃ kk:Nat,kk=k+eg (gs.take i)/\fr=[.sl 1 (cR (mF k gs)),.v (ii (kk:Nat)),.U,.U,.U,.v (ii (i:Nat)),.U,.U,.U,.U,.U,.U,.U,.U,.U,.U,.U,.U,.U,.U,.U]/\Γ=[]/\i<=gs.length) 0 ?_ ?_
 ·exact ⟨_,_,Wk.aC aq,k,by simp [eg],rfl,rfl,Nat.zero_le _⟩
 rintro i _ _ ⟨kk,iL,rfl,rfl,hi⟩
 by_cases ak:i < gs.length
 ·have hd:decide ((i:Int) < ((cR (mF k gs)).length:Int))=true:=by rw [hm];simpa using ak
  obtain ⟨g,hg⟩:∃ g,gs[i]?=some g:=⟨gs[i],by simp [ak]⟩;have U4:=DN hg;have hle:=Ji gs (i+1);have hH:=JT (k+eg (gs.take i)) g.length ag
  have hr:(cR (mF k gs))[i]?=some [.sl 1 (gJ (k+eg (gs.take i)) g.length)]:=by
   unfold cR;rw [getElem?_map,FQ k hg,Dp];rfl
  rw [Nat.add_assoc,<-U4] at hH;rw [<-iL] at hH hr;generalize og:k+eg (gs.take (i+1))=Rw at *;have dd:decide (((Rw:Nat):Int) < 0)=false:=decide_eq_false ag;generalize gJ kk g.length=S at *;refine ae ?_;refine ab [] hH ?_;exact ⟨i+1,⟨_,_,Wk.aC aq,Rw,og.symm,rfl,rfl,ak⟩,by show gs.length - (i+1) < gs.length - i;omega⟩
 ·have hd:decide ((i:Int) < ((cR (mF k gs)).length:Int))=false:=by rw [hm];simpa using ak
  have fO:i=gs.length:=by omega
  subst fO;rw [take_length] at iL;subst iL;refine bH ?_;exact av
theorem MC {gs:List (List Int)} {h:Value} {hs:List Value}:∀ o∈iG gs h hs,Ob.plain o:=fun o ho=>by
 rcases List.mem_cons.1 ho with rfl | ho
 ·intro r hr g hg;unfold ik at hr;obtain ⟨x,_,rfl⟩:=List.mem_map.1 hr;rw [List.mem_singleton.1 hg];exact ⟨_,rfl⟩
 ·unfold fu at ho;obtain ⟨i,hi⟩:=List.mem_iff_getElem?.1 ho;rw [List.getElem?_zipWith] at hi;split at hi
  ·cases hi;intro r hr g hg;unfold bc at hr;obtain ⟨x,_,rfl⟩:=List.mem_map.1 hr;rw [List.mem_singleton.1 hg];exact ⟨_,rfl⟩
  ·cases hi
section
variable {B:Bs} {K:Fz} {β:Bt} {w:World} {fr:List GV} {l:List Value} {A C:List Ob} {gs:List (List Int)} {h:Value} {hs:List Value}
theorem xj {x y:Operand} (H:n8 gs h hs) (hI:Inv B K β (A++(iG gs h hs++C)) w) (hF:FR K β fr l) (hx:aX fr x=.v h) (hy:aX fr y=.sl 1 (cR gs)) :
  ∃ K1,jh K1 w/\gD K1 (fun _=>.no) w/\ba K1 (fun _=>.no) ([x,y].map (ev l)) [.sl 1 (cR gs),.sl 1 (cR gs)]:=by
 obtain ⟨K1,hk,h1,h2,h3⟩:=zQ H hI;have hr:=hF.ev y;rw [hy] at hr;refine ⟨K1,h1,h2,?_⟩;show ba K1 _ [ev l x,ev l y] _;rw [hF.gU hx];exact .cons h3 (.cons ((hr.mono hk (cY.refl β)).pc rfl) .nil)
theorem CO {x y:Operand} {z:Value} (H:n8 gs h hs) (hI:Inv B K β (A++(iG gs h hs++C)) w) (hF:FR K β fr l) (hx:aX fr x=.v h) (hy:aX fr y=.v z) :
  ∃ K1,jh K1 w/\gD K1 (fun _=>.no) w/\ba K1 (fun _=>.no) ([x,y].map (ev l)) [.sl 1 (cR gs),.v z]:=by
 obtain ⟨K1,hk,h1,h2,h3⟩:=zQ H hI;refine ⟨K1,h1,h2,?_⟩;show ba K1 _ [ev l x,ev l y] _;rw [hF.gU hx,hF.gU hy];exact .cons h3 (.cons (.v _) .nil)
end
theorem n8.mk' {gs:List (List Int)} {h:Value} {hs:List Value} (H:n8 gs h hs) (k:Nat):n8 (mF k gs) h hs:=by
 obtain ⟨a,c,e⟩:=H.head;refine ⟨⟨a,c,by rw [e,lB]⟩,by rw [lB];exact H.len,fun i g x h1 h2=>?_⟩;have hi:=(List.getElem?_eq_some_iff.1 h1).1;rw [lB] at hi;have hg:gs[i]?=some gs[i]:=getElem?_eq_getElem hi;rw [FQ k hg] at h1;cases h1;obtain ⟨a1,c1,e1⟩:=H.kid i _ x hg h2;exact ⟨a1,c1,by rw [e1,Kr]⟩
end Go.Xg
