/- Part 6 of proofs that are told in their last texts. -/
import Derived.Test.YtfahcenafcklmaaGreatDoorQ5
import Derived.Test.YtfahcenafcklmaaGreatDoorQ3
import Derived.Test.YtfahcenafcklmaaGreatDoorQ2
open List (all_append all_cons all_eq_false all_nil any_append any_eq_false cons_append drop_length findIdx?_eq_some_iff_getElem length_cons length_nil map_take nil_append)
set_option linter.unusedVariables false
set_option linter.unusedSimpArgs false
set_option maxRecDepth 100000
set_option maxHeartbeats 4000000
namespace Go.Xg
open Go.RowKit Go.Xw Go.Proofs
open Go.Xp (levels)
def Cw:List ae:=[[120],[121],[103],[49],[48],[55],[103,101,116,40,41],[115,105,122,101,40,97,41]]
def nX (l:List ae) (k:Int):ae:=l.getD k.toNat []
theorem VP {l:List ae} {k:Int} (h:0<=k/\k < (l.length:Int)):(br l)[k.toNat]?=some [.v (sv (nX l k))]:=by
 have hk:k.toNat < l.length:=by omega
 unfold nX;rw [List.getD_eq_getElem?_getD,bV hk,Option.getD_some];simp [br,hk]
theorem nb {l:List ae} {n:Nat} (h:∀ s∈l,s.length<=n) (k:Int):(nX l k).length<=n:=by
 unfold nX;rw [List.getD_eq_getElem?_getD]
 cases hk:l[k.toNat]? with
 | none=>exact aS _
 | some s=>exact h s (bo hk)
def jy (code:ae):Nat->dx->ae × dx
 | 0,c=>(nX Cw (bd code 8 (bd code 9 c).2).1,(bd code 8 (bd code 9 c).2).2)
 | d+1,c =>
  let k:=bd code 9 c
  if k.1 < 3 then (nX Cw (bd code 8 k.2).1,(bd code 8 k.2).2)
  else if k.1=3 then ([97,91]++(jy code d k.2).1++[32,38,32,51,93],(jy code d k.2).2)
  else if k.1=4 then
   let j:=bd code 3 k.2
   (nX [[45],[33],[126]] j.1++[40]++(jy code d j.2).1++[41],(jy code d j.2).2)
  else if k.1=5 then ([97,91]++(jy code d k.2).1++[93],(jy code d k.2).2)
  else
   let j:=bd code 9 k.2
   let a:=jy code d j.2
   let cr:=levels.getD j.1.toNat []
   let o:=bd code (cr.length:Int) a.2
   let b:=jy code d o.2
   ([40]++a.1++[32]++nX cr o.1++[32]++b.1++[41],b.2)
theorem KT (k:Int):∀ s∈levels.getD k.toNat [],s.length<=2:=fun s hs=>by
 rw [List.getD_eq_getElem?_getD] at hs
 cases hk:levels[k.toNat]? with
 | none=>rw [hk] at hs;cases hs
 | some l =>
  rw [hk] at hs
  have h:∀ l∈levels,∀ s∈l,s.length<=2:=by decide
  exact h l (bo hk) s hs
def A5:Nat->Nat
 | 0=>7
 | d+1=>2 * A5 d+7
theorem abO:∀ d,7<=A5 d
 | 0=>aI _
 | d+1=>by rw [A5];omega
theorem oP (code:ae):∀ (d:Nat) (c:dx),(jy code d c).1.length<=A5 d
 | 0,c=>by rw [jy,A5];exact nb aD _
 | d+1,c=>by
  have ih:=oP code d;have h7:=abO d;rw [jy,A5];simp only;split
  ·have:=nb (l:=Cw) (n:=7) aD (bd code 8 (bd code 9 c).2).1;show (nX Cw _).length<=_;omega
  split
  ·have:=ih (bd code 9 c).2;exact zad
  split
  ·have I:=ih (bd code 3 (bd code 9 c).2).2;have G:=nb (l:=[[45],[33],[126]]) (n:=1) aD (bd code 3 (bd code 9 c).2).1;exact zad
  split
  ·have:=ih (bd code 9 c).2;exact zad
  ·generalize bd code 9 (bd code 9 c).2=j;have I:=ih j.2;generalize jy code d j.2=a at *;have G:=nb (KT j.1) (bd code ((levels.getD j.1.toNat []).length:Int) a.2).1;have h3:=ih (bd code ((levels.getD j.1.toNat []).length:Int) a.2).2;exact zad
theorem tC {code:ae}:∀ (d:Nat) {c:dx},c.i<=code.length->(jy code d c).2.i<=code.length
 | 0,c,h=>by rw [jy];exact cw _ (cw _ h)
 | d+1,c,h=>by
  have ih:=fun {c:dx}=>tC (code:=code) d (c:=c)
  have I:=cw (code:=code) 9 h;rw [jy];simp only;split
  ·exact cw _ I
  split
  ·exact ih I
  split
  ·exact ih (cw _ I)
  split
  ·exact ih I
  ·exact ih (cw _ (ih (cw _ I)))
def rC (code:ae) (d:Nat) (sub:dx->ae × dx) (out:ae) (c:dx):ae × dx :=
 let k:=bd code 8 c
 if k.1=0/\0 < d then
  let e:=jy code 1 k.2
  let a:=sub e.2
  let b:=sub a.2
  (out++[105,102,32,40]++e.1++[41,32,123,32]++a.1++[32,125,32,101,108,115,101,32,123,32]++b.1++[32,125,32],b.2)
 else if k.1=1/\0 < d then
  let a:=sub k.2
  (out++[121,32,61,32,51,59,32,119,104,105,108,101,32,40,121,32,62,32,48,41,32,123,32]++a.1++[32,121,32,61,32,121,32,45,32,49,59,32,125,32],a.2)
 else if k.1=2 then
  let e:=jy code 1 k.2
  let f:=jy code 2 e.2
  (out++[97,91]++e.1++[32,38,32,51,93,32,61,32]++f.1++[59,32],f.2)
 else if k.1=3 then
  let e:=jy code 2 k.2
  (out++[112,117,116,40]++e.1++[41,59,32],e.2)
 else if k.1=4 then
  let e:=jy code 1 k.2
  (out++[103,32,61,32,103,32,43,32]++e.1++[59,32],e.2)
 else
  let x:=bd code 2 k.2
  let e:=jy code 2 x.2
  (out++nX [[120],[121]] x.1++[32,61,32]++e.1++[59,32],e.2)
def my (g:ae->dx->ae × dx):Nat->ae->dx->ae × dx
 | 0,out,c=>(out,c)
 | n+1,out,c=>my g n (g out c).1 (g out c).2
def zk (code:ae):Nat->dx->ae × dx
 | 0,c=>my (rC code 0 fun c=>([],c)) (bd code 4 c).1.toNat [] (bd code 4 c).2
 | d+1,c=>my (rC code (d+1) (zk code d)) (bd code 4 c).1.toNat [] (bd code 4 c).2
theorem BU {code:ae} {d:Nat} {sub:dx->ae × dx} {B:Nat} (hs:∀ c,(sub c).1.length<=B) (out:ae) (c:dx):(rC code d sub out c).1.length<=out.length+2 * B+200:=by
 have I:=fun c=>oP code 1 c
 have G:=fun c=>oP code 2 c
 simp only [A5] at I G;unfold rC;simp only;generalize bd code 8 c=k;split
 ·have a1:=I k.2;have a2:=hs (jy code 1 k.2).2;have a3:=hs (sub (jy code 1 k.2).2).2;exact zad
 split
 ·have a2:=hs k.2;exact zad
 split
 ·have a1:=I k.2;have a2:=G (jy code 1 k.2).2;exact zad
 split
 ·have a1:=G k.2;exact zad
 split
 ·have a1:=I k.2;exact zad
 ·have a1:=G (bd code 2 k.2).2;have a2:=nb (l:=[[120],[121]]) (n:=1) aD (bd code 2 k.2).1;exact zad
theorem Gm {code:ae} {d:Nat} {sub:dx->ae × dx} (hs:∀ c:dx,c.i<=code.length->(sub c).2.i<=code.length) {out:ae} {c:dx} (hc:c.i<=code.length):(rC code d sub out c).2.i<=code.length:=by
 have I:=cw (code:=code) 8 hc;unfold rC;simp only;generalize bd code 8 c=k at *;split
 ·exact hs _ (hs _ (tC 1 I))
 split
 ·exact hs _ I
 split
 ·exact tC 2 (tC 1 I)
 split
 ·exact tC 2 I
 split
 ·exact tC 1 I
 ·exact tC 2 (cw _ I)
theorem Aw {g:ae->dx->ae × dx} {B:Nat} (hg:∀ out c,(g out c).1.length<=out.length+B):∀ (n:Nat) (out:ae) (c:dx),(my g n out c).1.length<=out.length+n * B
 | 0,out,c=>by rw [my];show out.length<=_;omega
 | n+1,out,c=>by
  have I:=Aw hg n (g out c).1 (g out c).2;have G:=hg out c;rw [my,Nat.succ_mul];omega
theorem DY {code:ae} {g:ae->dx->ae × dx} (hg:∀ out c,c.i<=code.length->(g out c).2.i<=code.length):∀ (n:Nat) (out:ae) (c:dx),c.i<=code.length->(my g n out c).2.i<=code.length
 | 0,out,c,h=>by rw [my];exact h
 | n+1,out,c,h=>by rw [my];exact DY hg n _ _ (hg out c h)
def Df:Nat->Nat
 | 0=>600
 | d+1=>6 * Df d+600
theorem CD (code:ae):∀ (d:Nat) (c:dx),(zk code d c).1.length<=Df d
 | 0,c=>by
  rw [zk,Df];have h:=cK code c (n:=4) X;have G:=Aw (B:=200) (fun out c=>BU (code:=code) (d:=0) (sub:=fun c=>([],c)) (B:=0) (fun c=>aI _) out c) (bd code 4 c).1.toNat [] (bd code 4 c).2;have h3:(bd code 4 c).1.toNat * 200<=3 * 200:=ua _ X;simp only [length_nil] at G;omega
 | d+1,c=>by
  rw [zk,Df];have h:=cK code c (n:=4) X;have G:=Aw (B:=2 * Df d+200) (fun out c=>by have:=BU (code:=code) (d:=d+1) (CD code d) out c;omega) (bd code 4 c).1.toNat [] (bd code 4 c).2;have h3:(bd code 4 c).1.toNat * (2 * Df d+200)<=3 * (2 * Df d+200):=ua _ X;simp only [length_nil] at G;omega
theorem Iv {code:ae}:∀ (d:Nat) {c:dx},c.i<=code.length->(zk code d c).2.i<=code.length
 | 0,c,h=>by rw [zk];exact DY (fun out c hc=>Gm (fun c h=>h) hc) _ _ _ (cw _ h)
 | d+1,c,h=>by rw [zk];exact DY (fun out c hc=>Gm (fun c h=>Iv d h) hc) _ _ _ (cw _ h)
open Tryz
open GV (U)
abbrev gS (code:ae) (c:dx):Ob:=.box 103 (yb code c)
theorem Z7 {d:Nat} (h:d<=3):A5 d<=105:=by
 have:d=0\/d=1\/d=2\/d=3:=by omega
 rcases this with rfl | rfl | rfl | rfl <;> decide
theorem rf {l:List ae} {m:Nat} (h:m < l.length):(br l)[m]?=some [.v (sv (nX l (m:Int)))]:=by
 have:=VP (l:=l) (k:=(m:Int)) ⟨by omega,by omega⟩
 rwa [iK] at this
theorem PD {m:Nat} (h:m < 9):(levels.map fun l=>[strs l])[m]?=some [strs (levels.getD m [])]:=by
 have:m < levels.length:=h;rw [bp,List.getD_eq_getElem?_getD,bV this];rfl
theorem SU:∀ m,m < 9->0 < (levels.getD m []).length:=by decide
attribute [local irreducible] GW GL GO YG GC GA aU aW pE sI qJ
theorem Nw (code:ae) (hl:code.length<=1099511627776):∀ (d:Nat) (c:dx),d<=3->c.i<=code.length ->
  GF prog 247 [.loc 0 0,.v (ii (d:Nat))] [gS code c] (.v (sv (jy code d c).1)) [gS code (jy code d c).2]:=by
 intro d
 induction d with
 | zero =>
  intro c hd hc;rw [jy];have I:=cW code 9 c hl hc;have i1:=cw (code:=code) 9 hc;generalize bd code 9 c=a at *;obtain ⟨k,c1⟩:=a;simp only at I i1 |-;exact zaC
 | succ d ih =>
  intro c hd hc
  have iN:(((d+1:Nat):Int)==0)=false:=by simp;omega
  have hB:=Z7 (d:=d) X
  have yV:∀ c:dx,c.i<=code.length->GF prog 247 [.loc 0 0,.v (ii (((d+1:Nat):Int) - 1))] [gS code c] (.v (sv (jy code d c).1)) [gS code (jy code d c).2]:=fun c hc=>by
   rw [show (((d+1:Nat):Int) - 1)=(d:Int) by omega];exact ih c X hc
  clear ih;rw [jy];have I:=cW code 9 c hl hc;have r1:=cK code c (n:=9) X;have i1:=cw (code:=code) 9 hc;generalize bd code 9 c=a at *;obtain ⟨k,c1⟩:=a;simp only at I r1 i1 |-
  by_cases hk:k < 3
  ·have fm:decide (k < (3:Int))=true:=by simpa using hk
   rw [ah hk];exact zaC
  ·have fm:decide (k < (3:Int))=false:=by simpa using hk
   rw [ab hk]
   by_cases W4:k=3
   ·subst W4;exact zbj
   ·have aeg:(k==3)=false:=by simpa using W4
    rw [ab W4]
    by_cases hk4:k=4
    ·subst hk4;rw [ah rfl];have G:=cW code 3 c1 hl i1;have r2:=cK code c1 (n:=3) X;have i2:=cw (code:=code) 3 i1;generalize bd code 3 c1=a at *;obtain ⟨j,c2⟩:=a;simp only at G r2 i2 |-;obtain ⟨m,rfl⟩:∃ m:Nat,j=(m:Int):=⟨j.toNat,by omega⟩;have hr:=rf (l:=[[45],[33],[126]]) (m:=m) (by show m < 3;omega);have hp:=nb (l:=[[45],[33],[126]]) (n:=1) aD (m:Int);generalize nX [[45],[33],[126]] (m:Int)=sg at *;have h3:=yV c2 i2;have b3:=oP code d c2;generalize jy code d c2=a at *;obtain ⟨s,c3⟩:=a;simp only at h3 b3 |-;refine ai func247 ntmps247 ?_;refine zfI ?_;refine aM (.q 1 (ax 6 3 (.f 0 (.a 2 (ax 3 3 (.a 9 (ax 10 3 .nil)))) 2 (.f 0 (ax 3 3 (.a 9 (ax 10 3 .nil))) 9 (.a 0 (ax 3 3 (ax 10 3 .nil))))))) ?_;refine aj ?_;refine GO.fork ?_ ?_
     ·refine zat ?_;refine aC [0] G ?_;refine aC [0] h3 ?_;exact ay
     ·refine aC [0] G ?_;refine GO.fork ?_ ?_
      ·refine zat ?_;refine aC [0] h3 ?_;exact ay
      ·refine aC [0] h3 ?_;refine zat ?_;exact ay
    ·have aeh:(k==4)=false:=by simpa using hk4
     rw [ab hk4]
     by_cases W5:k=5
     ·subst W5;exact zbj
     ·have aei:(k==5)=false:=by simpa using W5
      rw [ab W5];have G:=cW code 9 c1 hl i1;have r2:=cK code c1 (n:=9) X;have i2:=cw (code:=code) 9 i1;generalize bd code 9 c1=a at *;obtain ⟨j,c2⟩:=a;simp only at G r2 i2 |-;obtain ⟨m,rfl⟩:∃ m:Nat,j=(m:Int):=⟨j.toNat,by omega⟩;rw [iK];have hr:=PD (m:=m) X;have hn:=SU m X;have eO:=KT (m:Int);rw [iK] at eO;generalize levels.getD m []=sgs at *;have h3:=yV c2 i2;have b3:=oP code d c2;have i3:=tC (code:=code) d i2;generalize jy code d c2=a at *;obtain ⟨s,c3⟩:=a;simp only at h3 b3 i3 |-;have h4:=cW code (sgs.length:Int) c3 hl i3;have r4:=cK code c3 (n:=(sgs.length:Int)) X;have i4:=cw (code:=code) (sgs.length:Int) i3;generalize bd code (sgs.length:Int) c3=a at *;obtain ⟨o,c4⟩:=a;simp only at h4 r4 i4 |-;obtain ⟨q,rfl⟩:∃ q:Nat,o=(q:Int):=⟨o.toNat,by omega⟩;have hr4:=rf (l:=sgs) (m:=q) X;have hp:=nb eO (q:Int);generalize nX sgs (q:Int)=sg at *;have nB:(sgs.map fun s=>[GV.v (sv s)]).length=sgs.length:=bM _;rw [<-nB] at h4;have h5:=yV c4 i4;have b5:=oP code d c4;generalize jy code d c4=a at *;obtain ⟨s2,c5⟩:=a;simp only at h5 b5 |-;refine ai func247 ntmps247 ?_;refine zfI ?_;refine V [] lB ?_;refine V [0] G ?_;refine aM (ax 0 3 (ax 6 4 (ax 15 3 (.a 3 (.q 4 (.q 5 (.a 10 (ax 11 4 (.a 18 (ax 19 3 .nil)))))))))) ?_;refine aj ?_;refine aC [0] h3 ?_;refine aC [0] h4 ?_;refine aC [0] h5 ?_;exact ay
theorem ER (code:ae) (hl:code.length<=1099511627776) (d:Nat) (hd:d<=3) (sub:dx->ae × dx)
  (hs:0 < d->∀ c:dx,c.i<=code.length->GF prog 246 [.loc 0 0,.v (ii ((d:Int) - 1))] [gS code c] (.v (sv (sub c).1)) [gS code (sub c).2])
  (hb:∀ c,(sub c).1.length<=1000000) (hi:∀ c:dx,c.i<=code.length->(sub c).2.i<=code.length) (c:dx) (hc:c.i<=code.length) :
  GF prog 246 [.loc 0 0,.v (ii (d:Nat))] [gS code c] (.v (sv (my (rC code d sub) (bd code 4 c).1.toNat [] (bd code 4 c).2).1)) [gS code (my (rC code d sub) (bd code 4 c).1.toNat [] (bd code 4 c).2).2]:=by
 have I:=cW code 4 c hl hc;have r1:=cK code c (n:=4) X;have i1:=cw (code:=code) 4 hc;generalize bd code 4 c=a at *;obtain ⟨n0,c1⟩:=a;simp only at I r1 i1 |-;obtain ⟨n,rfl⟩:∃ n:Nat,n0=(n:Int):=⟨n0.toNat,by omega⟩;rw [iK];have hE:=Nw code hl
 have O6:=fun c=>oP code 1 c
 have FW:=fun c=>oP code 2 c
 have yN:A5 1=21:=rfl;have oU:A5 2=49:=rfl;rw [yN] at O6;rw [oU] at FW
 have wW:=fun out c=>BU (code:=code) (d:=d) hb out c
 have hoi:=fun (out:ae) (c:dx) (h:c.i<=code.length)=>Gm (code:=code) (d:=d) hi (out:=out) h
 generalize hr:my (rC code d sub) n [] c1=r;refine ai func246 ntmps246 ?_;refine zfI ?_;refine GW.loop (fun x:Nat=>x) (fun x fr Γ=>∃ out c,fr=[.loc 0 0,.v (ii (d:Nat)),U,U,U,.v (sv out),.v (ii (x:Nat)),U,U,U,U,U,U,U,U,U,U,U,U,U,U,U,U,U,U,U,U,U,U,U,U,U,U,U,U,U,U,U,U,U,U,U,U,U,U,U,U,U,U,U,U,U,U,U,U,U,U,U,U,U,U,U,U,U,U,U,U,U,U,U,U,U,U,U,U,U,U,U,U,U,U,U,U,U,U,U,U,U,U,U,U,U,U,U,U]/\Γ=[gS code c]/\x<=3/\c.i<=code.length/\out.length+x * 2000200<=8000000/\my (rC code d sub) x out c=r) n ?_ ?_
 ·exact ⟨_,_,Wk.aH ao,_,_,rfl,rfl,by omega,i1,by simp only [length_nil];omega,hr⟩
 ·rintro x _ _ ⟨out,c,rfl,rfl,hx,hc,aaA,h⟩
  cases x with
  | zero =>
   rw [my] at h;subst h;exact zd3
  | succ x =>
   rw [my] at h;have qg:decide ((0:Int) < ((x+1:Nat):Int))=true:=decide_eq_true X
   have nC:(((x+1:Nat):Int) - 1)=(x:Int):=by omega
   have nz:=wW out c;have tJ:=hoi out c hc
   have key:∀ y,rC code d sub out c=y->my (rC code d sub) x y.1 y.2=r/\y.2.i<=code.length/\y.1.length+x * 2000200<=8000000:=by
    rintro _ rfl;exact ⟨h,tJ,by omega⟩
   clear h nz tJ wW hoi;unfold rC at key;have h3:=cW code 8 c hl hc;have r3:=cK code c (n:=8) X;have i3:=cw (code:=code) 8 hc;generalize bd code 8 c=a at *;obtain ⟨k,c2⟩:=a;simp only at h3 r3 i3 key;obtain ⟨m,rfl⟩:∃ m:Nat,k=(m:Int):=⟨k.toNat,by omega⟩
   by_cases hA:(m:Int)=0/\0 < d
   ·obtain ⟨e1,e2,e3⟩:=key _ (ah hA);obtain ⟨hm,M7⟩:=hA
    obtain rfl:m=0:=by omega
    have Eu:decide ((0:Int) < (d:Int))=true:=by simpa using M7
    have g1:=hE 1 c2 X i3;have b1:=O6 c2;have j1:=tC (code:=code) 1 i3;generalize jy code 1 c2=a at *;obtain ⟨s1,c3⟩:=a;simp only at e1 e2 e3 g1 b1 j1;have g2:=hs M7 c3 j1;have b2:=hb c3;have j2:=hi c3 j1;generalize sub c3=a at *;obtain ⟨s2,c4⟩:=a;simp only at e1 e2 e3 g2 b2 j2;have g3:=hs M7 c4 j2;have b3:=hb c4;generalize sub c4=a at *;obtain ⟨s3,c5⟩:=a;simp only at e1 e2 e3 g3 b3;refine D ?_;refine V [0] h3 ?_;refine V [0] g1 ?_;refine V [0] g2 ?_;refine V [0] g3 ?_;exact zaj
   have key:=fun y h=>key y ((ab hA).trans h)
   by_cases hB:(m:Int)=1/\0 < d
   ·obtain ⟨e1,e2,e3⟩:=key _ (ah hB);obtain ⟨hm,M7⟩:=hB
    obtain rfl:m=1:=by omega
    have Eu:decide ((0:Int) < (d:Int))=true:=by simpa using M7
    have g2:=hs M7 c2 i3;have b2:=hb c2;generalize sub c2=a at *;exact zcX
   have key:=fun y h=>key y ((ab hB).trans h)
   by_cases hC:(m:Int)=2
   ·obtain ⟨e1,e2,e3⟩:=key _ (ah hC)
    obtain rfl:m=2:=by omega
    have g1:=hE 1 c2 X i3;have b1:=O6 c2;have j1:=tC (code:=code) 1 i3;generalize jy code 1 c2=a at *;obtain ⟨s1,c3⟩:=a;simp only at e1 e2 e3 g1 b1 j1;have g2:=hE 2 c3 X j1;have b2:=FW c3;generalize jy code 2 c3=a at *;obtain ⟨s2,c4⟩:=a;simp only at e1 e2 e3 g2 b2;refine D ?_;refine V [0] h3 ?_;refine V [0] g1 ?_;refine V [0] g2 ?_;exact zaj
   have key:=fun y h=>key y ((ab hC).trans h)
   by_cases hD:(m:Int)=3
   ·obtain ⟨e1,e2,e3⟩:=key _ (ah hD)
    obtain rfl:m=3:=by omega
    have g2:=hE 2 c2 X i3;have b2:=FW c2;generalize jy code 2 c2=a at *;exact zcX
   have key:=fun y h=>key y ((ab hD).trans h)
   by_cases hF:(m:Int)=4
   ·obtain ⟨e1,e2,e3⟩:=key _ (ah hF)
    obtain rfl:m=4:=by omega
    have g1:=hE 1 c2 X i3;have b1:=O6 c2;generalize jy code 1 c2=a at *;obtain ⟨s1,c3⟩:=a;simp only at e1 e2 e3 g1 b1;refine D ?_;refine V [0] h3 ?_;refine V [0] g1 ?_;exact zaj
   obtain ⟨e1,e2,e3⟩:=key _ (ab hF);have h4:=cW code 2 c2 hl i3;have r4:=cK code c2 (n:=2) X;have i4:=cw (code:=code) 2 i3;generalize bd code 2 c2=a at *;obtain ⟨q,c3⟩:=a;simp only at e1 e2 e3 h4 r4 i4;obtain ⟨q,rfl⟩:∃ q':Nat,q=(q':Int):=⟨q.toNat,by omega⟩;have bD:=rf (l:=[[120],[121]]) (m:=q) (by show q < 2;omega);have hp:=nb (l:=[[120],[121]]) (n:=1) aD (q:Int);generalize nX [[120],[121]] (q:Int)=sg at *;have g2:=hE 2 c3 X i4;have b2:=FW c3;generalize jy code 2 c3=a at *;obtain ⟨s2,c4⟩:=a;simp only at e1 e2 e3 g2 b2
   have hm:(m=0/\d=0)\/(m=1/\d=0)\/m=5\/m=6\/m=7:=by omega
   rcases hm with ⟨rfl,rfl⟩ | ⟨rfl,rfl⟩ | rfl | rfl | rfl
   all_goals
    refine D ?_;refine V [0] h3 ?_;refine aM (.q 0 (.q 2 (.q 8 (.f 1 (.a 3 (ax 4 4 (.a 9 (ax 10 3 .nil)))) 3 (.f 1 (ax 4 4 (.a 9 (ax 10 3 .nil))) 9 (.a 1 (ax 4 4 (ax 10 3 .nil)))))))) ?_;refine aj ?_;refine GO.fork ?_ ?_
    ·refine zat ?_;refine aC [0] h4 ?_;refine aC [0] g2 ?_;refine D ?_;exact zaj
    ·refine aC [0] h4 ?_;refine GO.fork ?_ ?_
     ·refine zat ?_;refine aC [0] g2 ?_;refine D ?_;exact zaj
     ·refine aC [0] g2 ?_;refine db ?_;refine bm ?_;exact zaj
theorem abf {d:Nat} (h:d<=3):Df d<=1000000:=by
 have:d=0\/d=1\/d=2\/d=3:=by omega
 rcases this with rfl | rfl | rfl | rfl <;> decide
theorem Aa (code:ae) (hl:code.length<=1099511627776):∀ (d:Nat) (c:dx),d<=3->c.i<=code.length ->
  GF prog 246 [.loc 0 0,.v (ii (d:Nat))] [gS code c] (.v (sv (zk code d c).1)) [gS code (zk code d c).2]
 | 0,c,hd,hc=>by
  rw [zk];exact ER code hl 0 hd _ (fun h=>absurd h (Nat.lt_irrefl 0)) (fun c=>aS _) (fun c h=>h) c hc
 | d+1,c,hd,hc=>by
  rw [zk];refine ER code hl (d+1) hd _ (fun h c hc=>?_) (fun c=>jV (CD code d c) (abf X)) (fun c h=>Iv d h) c hc;rw [show (((d+1:Nat):Int) - 1)=(d:Int) by omega];exact Aa code hl d c X hc
end Go.Xg
namespace Go.Xg
open Go.RowKit Go.Xw Go.Proofs Tryz Go.Sp
open GV (U)
open Go.Xp (Tok)
attribute [local irreducible] GW GL GO YG GC GA aU aW
theorem abB (s:ae) (hs:s.length<=1000000000000) :
  GC prog 158 [.v (sv s)] [] fun g Δ=>Δ=[]/\∃ l c z,g=.tup [Go.Xg.iU l,.v (ii c),.v (ii z)]/\(c=0->s.length<=6000/\l.length<=6000/\∀ t∈l,Fy t):=by
 rcases Nat.lt_or_ge 6000 s.length with R5 | R5
 ·have hd6:decide ((6000:Int) < (s.length:Int))=true:=by simpa using by omega
  refine ai func158 ntmps158 ?_;refine ow ?_;exact ⟨.tup [Go.Xg.iU [],.v (ii 1),.v (ii 0)],jw,rfl,[],1,0,rfl,fun h=>by omega⟩
 ·have hd6:decide ((6000:Int) < (s.length:Int))=false:=by simpa using by omega
  have Xd:=Fi s 0 X (aS _);have nB:=wq s (s.length+1) 0 (aS _);generalize hS:skip s (s.length+1) 0=R at *;obtain ⟨a0,z0⟩:=R;simp only at Xd nB;refine ai func158 ntmps158 ?_;refine lL ?_;refine D ?_;refine V [] Xd ?_;refine GW.EO (fun fr Γ=>∃ (a:Nat) (z:Int) (n:Nat) (rows:List (List GV)) (acc:List Tok),fr=[.v (sv s),U,U,U,U,.vec 0 n,.v (ii (a:Nat)),.v (ii z),U,U,U,U,U,U,U,U,U,U,U,U,U,U,U,U,U,U,U,U,U,U,U,U,U,U,U,U,U,U,U,U,U,U,U,U,U,U,U,U,U,U,U,U,U,U,U]/\Γ=[.vec 168 4 0 rows]/\rows.length=n/\rows=acc.map dm/\acc.length<=6000/\∀ t∈acc,Fy t) ?_ ?_
  ·refine GW.loop (fun x:Nat=>s.length - x) (fun a fr Γ=>∃ (z:Int) (n:Nat) (rows:List (List GV)) (acc:List Tok),fr=[.v (sv s),U,U,U,U,.vec 0 n,.v (ii (a:Nat)),.v (ii z),U,U,U,U,U,U,U,U,U,U,U,U,U,U,U,U,U,U,U,U,U,U,U,U,U,U,U,U,U,U,U,U,U,U,U,U,U,U,U,U,U,U,U,U,U,U,U]/\Γ=[.vec 168 4 0 rows]/\rows.length=n/\rows=acc.map dm/\acc.length<=a/\a<=s.length/\∀ t∈acc,Fy t) a0 ?_ ?_
   ·exact ⟨_,_,Wk.aH ao,z0,0,[],[],rfl,rfl,rfl,rfl,aS _,nB.2,fun t h=>by cases h⟩
   ·rintro a _ _ ⟨z,n,rows,acc,rfl,rfl,hn,bD,EB,ha,hB⟩
    cases hc:s[a]? with
    | none =>
     have kP:s.length<=a:=pS hc
     have hd:decide ((a:Int) < (s.length:Int))=false:=by simpa using kP
     exact zec
    | some c =>
     have au:a < s.length:=(bB hc).1
     have hd:decide ((a:Int) < (s.length:Int))=true:=by simpa using au
     by_cases hz:z < 0
     ·have Nn:decide (z < (0:Int))=true:=by simpa using hz
      have qF:=Lk hc;have wQ:=Wa hc;have M5:=Zx hc R5;have eP:=J8 s a c X hc;generalize ia s a c=tk at *;obtain ⟨t,nx⟩:=tk;simp only at qF wQ M5 eP
      by_cases hk:t.kind=0
      ·have fm:(t.kind==0)=true:=by simpa using hk
       refine D ?_;refine V [] eP ?_;refine ow ?_;exact ⟨.tup [Go.Xg.iU [],.v (ii 2),.v (ii (a:Nat))],jw,rfl,[],2,_,rfl,fun h=>by omega⟩
      ·have fm:(t.kind==0)=false:=by simpa using hk
       have wQ:=wQ hk
       by_cases O5:t.n<=2147483647
       ·have bG:decide ((2147483647:Int) < t.n)=false:=by simpa using O5
        have M5:=M5 O5;have Pe:=Fi s nx X qF.2;have Vb:=wq s (s.length+1) nx qF.2
        have cx:n<=6000:=by rw [<-hn,bD,bM];omega
        generalize skip s (s.length+1) nx=R2 at *;obtain ⟨a2,z2⟩:=R2;simp only at Pe Vb;refine D ?_;refine V [] eP ?_;refine zby ?_;refine V [] Pe ?_
        exact ⟨a2,⟨_,_,(Wk.cut (n:=1) (c6 rfl) rfl).trans (Wk.aH ao),z2,n+1,rows++[dm t],acc++[t],rfl,rfl,by simp [hn],by rw [l9,bD];rfl,by rw [aL,List.length_singleton];omega,Vb.2,fun u hu=>by
         rcases mo hu with hu | hu
         ·exact hB u hu
         ·rw [List.mem_singleton] at hu;subst hu;exact M5⟩,by omega⟩
       ·have bG:decide ((2147483647:Int) < t.n)=true:=by simpa using by omega
        refine D ?_;refine V [] eP ?_;refine ow ?_;exact ⟨.tup [Go.Xg.iU [],.v (ii 3),.v (ii (a:Nat))],jw,rfl,[],3,_,rfl,fun h=>by omega⟩
     ·have Nn:decide (z < (0:Int))=false:=by simpa using hz
      exact zec
  ·rintro _ _ ⟨a,z,n,rows,acc,rfl,rfl,hn,bD,EB,hB⟩
   by_cases hz:0<=z
   ·have Nn:decide ((0:Int)<=z)=true:=by simpa using hz
    refine D ?_;refine ow ?_;exact ⟨.tup [Go.Xg.iU [],.v (ii 4),.v (ii z)],jw,rfl,[],4,_,rfl,fun h=>by omega⟩
   ·have Nn:decide ((0:Int)<=z)=false:=by simpa using hz
    subst bD;refine D ?_;refine GW.wk (Wk.jY (t:=2) rfl rfl rfl hn) ?_;refine Gv ?_;exact ⟨rfl,acc,0,0,rfl,fun _=>⟨R5,EB,hB⟩⟩
end Go.Xg
set_option maxHeartbeats 1000000
namespace Go.Xg
open Go.RowKit Go.Xw Go.Proofs Tryz Go.Sp
open GV (U)
attribute [local irreducible] GW GL GO YG GC GA aU aW
theorem wD {α:Type} {l:List α} {q:α->Bool} {k:Nat} {x:α} (hx:l[k]?=some x) (hf:(l.take k).all q=true) (hb:q x=true):(l.take (k+1)).all q=true:=by
 rw [dk,hx,all_append,hf];simp [hb]
def idxOf (xs:List ae) (s:ae):Int:=match xs.findIdx? (fun x=>s==x) with | some i=>(i:Int) | none => -1
theorem X2 (xs:List ae) (s:ae) (hl:xs.length<=1099511627776):GF prog 103 [strs xs,.v (sv s)] [] (.v (ii (idxOf xs s))) []:=by
 refine ai func103 ntmps103 ?_;refine GW.range (xs.map fun s=>[GV.v (sv s)]).length (fun k fr Γ=>fr=[strs xs,.v (sv s),U,U,U,U,strs xs,.v (ii ((xs.map fun s=>[GV.v (sv s)]).length:Int)),.v (ii (k:Nat)),U,U,U,U,U,U,U,U,U,U]/\Γ=[]/\((xs.take k).all fun x=>!(s==x))=true) ?_ zge ?_ ?_ ?_
 ·exact lN
 ·exact jn
 ·rintro k _ _ au ⟨rfl,rfl,hc⟩
  have au:k < xs.length:=by simpa using au
  have hx:xs[k]?=some xs[k]:=by simp [au]
  have hr:(xs.map fun s=>[GV.v (sv s)])[k]?=some [.v (sv xs[k])]:=by simp [au]
  cases hb:(s==xs[k]) with
  | true =>
   have hi:xs.findIdx? (fun x=>s==x)=some k:=by
    rw [findIdx?_eq_some_iff_getElem];refine ⟨au,hb,fun j hj=>?_⟩;rw [jb] at hc;have:=hc xs[j] zgm;exact zcm
   unfold idxOf;rw [hi];generalize xs[k]=x at *;exact ay
  | false =>
   have u3:=wD (q:=fun x=>!(s==x)) hx hc (by rw [hb];rfl);generalize xs[k]=x at *;refine D ?_;exact ⟨rfl,rfl,_,_,Wk.aH ao,rfl,rfl,u3⟩
 ·rintro _ _ ⟨rfl,rfl,hc⟩;rw [n7 zf8] at hc
  have hi:xs.findIdx? (fun x=>s==x)=none:=by
   rw [List.findIdx?_eq_none_iff];intro x hx;rw [jb] at hc;have:=hc x hx;exact zcm
  unfold idxOf;rw [hi];exact ay
theorem Vg (xs:List ae) (s:ae):decide (0<=idxOf xs s)=xs.contains s:=by
 unfold idxOf
 cases h:xs.findIdx? (fun x=>s==x) with
 | some i =>
  rw [findIdx?_eq_some_iff_getElem] at h;obtain ⟨I,G,_⟩:=h
  have h3:s=xs[i]:=by simpa using G
  have:xs.contains s=true:=by rw [ea,h3];exact List.getElem_mem _
  rw [this];simp
 | none =>
  rw [List.findIdx?_eq_none_iff] at h
  have:xs.contains s=false:=by
   cases hc:xs.contains s with
   | false=>rfl
   | true=>have:=h s (ea.1 hc);simp at this
  rw [this];rfl
theorem ke (xs:List ae) (s:ae) (hl:xs.length<=1099511627776):GF prog 47 [strs xs,.v (sv s)] [] (.v (.bool (xs.contains s))) []:=by
 have hi:=X2 xs s hl;rw [<-Vg];generalize idxOf xs s=i at *;refine ai func47 ntmps47 ?_;refine V [] hi ?_;exact al
theorem abL (p:Src) (hp:p.nodes.length<=1000000000000) (hk:∀ n∈p.nodes,n.kids.length<=1000000000000):∀ (f a d:Nat) (e:Int),d<=801->rM p.nodes f a d=some e->GF prog 192 [.agg (aq p),.v (ii (a:Nat)),.v (ii (d:Nat))] [] (.v (ii e)) []:=by
 intro f
 induction f using Nat.strongRecOn with
 | _ f ih =>
 intro a d e hd h
 cases f with
 | zero=>simp [rM] at h
 | succ f =>
 rw [rM] at h;refine dh func192 ntmps192 ?_
 by_cases I:p.nodes.length<=a
 ·rw [ah (.inl I)] at h;cases h
  have dD:decide (((p.nodes.map aV).length:Int)<=(a:Int))=true:=by simpa using I
  exact ay
 have dD:decide (((p.nodes.map aV).length:Int)<=(a:Int))=false:=by simpa using I
 by_cases G:d > 800
 ·rw [ah (.inr G)] at h;cases h
  have sP:decide ((800:Int) < (d:Int))=true:=by simpa using by omega
  exact ay
 have sP:decide ((800:Int) < (d:Int))=false:=by simpa using by omega
 rw [ab X] at h
 cases hn:p.nodes[a]? with
 | none=>exact zeh
 | some n =>
 rw [hn] at h;simp only at h;have hr:=iv hn;have eh:=hk n (bo hn);refine D ?_
 refine GW.range (n.kids.map fun i=>[GV.v (ii i)]).length (fun k fr Γ=>∃ nx g,fr=[U,.v (ii (a:Nat)),.v (ii (d:Nat)),.loc 0 0,U,U,U,.v (ii nx),U,U,U,U,U,U,U,U,U,U,U,U,U,U,U,U,U,U,ints n.kids,.v (ii ((n.kids.map fun i=>[GV.v (ii i)]).length:Int)),.v (ii (k:Nat)),U,U,U,U,U,U,U,U,U,U,U,U,U,U,U] /\
   Γ=[.box 28 (aq p)]/\0<=nx/\g<=f/\qP p.nodes g (n.kids.drop k) nx d=some e) ?_ zgD ?_ ?_ ?_
 ·exact ⟨_,_,Wk.aH ao,_,f,rfl,rfl,by omega,aI _,h⟩
 ·rintro k _ _ ⟨_,_,rfl,rfl,_⟩;exact dr
 ·rintro k _ _ au ⟨nx,g,rfl,rfl,kU,hg,h⟩
  have au:k < n.kids.length:=by simpa using au
  have hx:n.kids[k]?=some n.kids[k]:=by simp [au]
  rw [n5 au] at h;generalize n.kids[k]=x at *;have sV:=pd hx
  cases g with
  | zero=>simp [qP] at h
  | succ g =>
  rw [qP] at h
  by_cases hxn:x=nx
  ·subst hxn;rw [ah rfl] at h
   have hb:(x != x)=false:=by simp
   cases b6:rM p.nodes g x.toNat (d+1) with
   | none=>rw [b6] at h;cases h
   | some y =>
   rw [b6] at h;simp only at h;have Cr:=ih g X x.toNat (d+1) y X b6;rw [Int.toNat_of_nonneg kU] at Cr
   by_cases hy:y < 0
   ·rw [ah hy] at h;cases h
    have hy':decide (y < (0:Int))=true:=by simpa using hy
    refine D ?_;refine V [] Cr ?_;exact al
   ·rw [ab hy] at h
    have hy':decide (y < (0:Int))=false:=by simpa using hy
    refine D ?_;refine V [] Cr ?_;exact ⟨rfl,rfl,_,_,Wk.aH ao,_,g,rfl,rfl,by omega,by omega,h⟩
  ·rw [ab hxn] at h;cases h
   have hb:(x != nx)=true:=by simpa using hxn
   exact ay
 ·rintro _ _ ⟨nx,g,rfl,rfl,kU,hg,h⟩;rw [bM,drop_length] at h
  have mD:nx=e:=by cases g <;> (rw [qP] at h;cases h;rfl)
  subst mD;exact ay
open Go.Xp (T)
theorem acr (a n:Int) (s:ae) (ks:List Int) (l:List T) (hs:s.length<=1099511627776) (hl:l.length<=1099511627776) (ha:decide (a < 0)=false):GF prog 251 [.agg (cT (.mk ⟨1,a,n,s,ks⟩ l))] [] (.v (.bool (cQ (.mk ⟨1,a,n,s,ks⟩ l)))) []:=by
 have how:cQ (.mk ⟨1,a,n,s,ks⟩ l)=(decide ((0:Int)<=n)&&(decide (n<=2147483647)&&((s==[])&&((l.length:Int)==0)))):=by unfold cQ own;rw [ab zf9];rfl
 rw [how];refine dh func251 ntmps251 ?_
 cases h0:decide ((0:Int)<=n) with
 | false =>
  exact ay
 | true =>
  cases I:decide (n<=2147483647) with
  | false =>
   exact ay
  | true =>
   cases G:(s==[]) with
   | false =>
    exact ay
   | true =>
    refine zdh ?_;exact ⟨by first | rfl | (rw [bh];rfl),rfl⟩
theorem acs (a:Int) (s:ae) (ks:List Int) (l:List T) (hs:s.length<=1099511627776) (hl:l.length<=1099511627776) (ha:decide (a < 0)=false):GF prog 251 [.agg (cT (.mk ⟨2,a,0,s,ks⟩ l))] [] (.v (.bool (cQ (.mk ⟨2,a,0,s,ks⟩ l)))) []:=by
 have how:cQ (.mk ⟨2,a,0,s,ks⟩ l)=(bT s&&((l.length:Int)==0)):=by unfold cQ own;rw [ab zf9];rfl
 rw [how];refine dh func251 ntmps251 ?_
 cases h0:bT s with
 | false =>
  exact zag
 | true =>
  refine D ?_;have hc:=fC s hs;rw [h0] at hc;exact zaf
theorem acu (a:Int) (s:ae) (ks:List Int) (l:List T) (hs:s.length<=1099511627776) (hl:l.length<=1099511627776) (ha:decide (a < 0)=false):GF prog 251 [.agg (cT (.mk ⟨3,a,0,s,ks⟩ l))] [] (.v (.bool (cQ (.mk ⟨3,a,0,s,ks⟩ l)))) []:=by
 have how:cQ (.mk ⟨3,a,0,s,ks⟩ l)=(bT s&&(((l.length:Int)==1)&&bP 1 0 l)):=by unfold cQ own;rw [ab zf9];rfl
 rw [how];refine dh func251 ntmps251 ?_
 cases h0:bT s with
 | false =>
  exact zag
 | true =>
  cases I:((l.length:Int)==1) with
  | false =>
   have dD:((((ba l).length:Int)==1))=false:=by rw [<-bh l] at I;exact I
   exact zag
  | true =>
   have dD:((((ba l).length:Int)==1))=true:=by rw [<-bh l] at I;exact I
   refine D ?_;have hc:=fC s hs;rw [h0] at hc;refine V [] hc ?_;have hc:=gO (.mk ⟨3,a,0,s,ks⟩ l) 1 hl;exact zaf
theorem acv (a:Int) (s:ae) (ks:List Int) (l:List T) (hs:s.length<=1099511627776) (hl:l.length<=1099511627776) (ha:decide (a < 0)=false):GF prog 251 [.agg (cT (.mk ⟨4,a,0,s,ks⟩ l))] [] (.v (.bool (cQ (.mk ⟨4,a,0,s,ks⟩ l)))) []:=by
 have how:cQ (.mk ⟨4,a,0,s,ks⟩ l)=(bT s&&bP l.length 0 l):=by unfold cQ own;rw [ab zf9];rfl
 rw [how];refine dh func251 ntmps251 ?_
 cases h0:bT s with
 | false =>
  exact zag
 | true =>
  refine D ?_;have hc:=fC s hs;rw [h0] at hc;refine V [] hc ?_;have hc:=gO (.mk ⟨4,a,0,s,ks⟩ l) (ba l).length hl;exact zaf
theorem acx (a:Int) (s:ae) (ks:List Int) (l:List T) (hs:s.length<=1099511627776) (hl:l.length<=1099511627776) (ha:decide (a < 0)=false):GF prog 251 [.agg (cT (.mk ⟨6,a,0,s,ks⟩ l))] [] (.v (.bool (cQ (.mk ⟨6,a,0,s,ks⟩ l)))) []:=by
 have how:cQ (.mk ⟨6,a,0,s,ks⟩ l)=(jc s&&(((l.length:Int)==2)&&bP 2 0 l)):=by unfold cQ own;rw [ab zf9];rfl
 rw [how];refine dh func251 ntmps251 ?_
 cases h0:jc s with
 | false =>
  exact ze7
 | true =>
  cases I:((l.length:Int)==2) with
  | false =>
   have dD:((((ba l).length:Int)==2))=false:=by rw [<-bh l] at I;exact I
   exact ze7
  | true =>
   have dD:((((ba l).length:Int)==2))=true:=by rw [<-bh l] at I;exact I
   refine D ?_;have hc:=w9 s;rw [h0] at hc;refine V [] hc ?_;have hc:=gO (.mk ⟨6,a,0,s,ks⟩ l) 2 hl;exact zaf
theorem acy (a:Int) (s:ae) (ks:List Int) (l:List T) (hs:s.length<=1099511627776) (hl:l.length<=1099511627776) (ha:decide (a < 0)=false):GF prog 251 [.agg (cT (.mk ⟨7,a,0,s,ks⟩ l))] [] (.v (.bool (cQ (.mk ⟨7,a,0,s,ks⟩ l)))) []:=by
 have how:cQ (.mk ⟨7,a,0,s,ks⟩ l)=(bT s&&(((l.length:Int)==1)&&bP 1 0 l)):=by unfold cQ own;rw [ab zf9];rfl
 rw [how];refine dh func251 ntmps251 ?_
 cases h0:bT s with
 | false =>
  exact zag
 | true =>
  cases I:((l.length:Int)==1) with
  | false =>
   have dD:((((ba l).length:Int)==1))=false:=by rw [<-bh l] at I;exact I
   exact zag
  | true =>
   have dD:((((ba l).length:Int)==1))=true:=by rw [<-bh l] at I;exact I
   refine D ?_;have hc:=fC s hs;rw [h0] at hc;refine V [] hc ?_;have hc:=gO (.mk ⟨7,a,0,s,ks⟩ l) 1 hl;exact zaf
theorem acz (a:Int) (s:ae) (ks:List Int) (l:List T) (hs:s.length<=1099511627776) (hl:l.length<=1099511627776) (ha:decide (a < 0)=false):GF prog 251 [.agg (cT (.mk ⟨8,a,0,s,ks⟩ l))] [] (.v (.bool (cQ (.mk ⟨8,a,0,s,ks⟩ l)))) []:=by
 have how:cQ (.mk ⟨8,a,0,s,ks⟩ l)=(bT s&&(((l.length:Int)==2)&&bP 2 0 l)):=by unfold cQ own;rw [ab zf9];rfl
 rw [how];refine dh func251 ntmps251 ?_
 cases h0:bT s with
 | false =>
  exact zag
 | true =>
  cases I:((l.length:Int)==2) with
  | false =>
   have dD:((((ba l).length:Int)==2))=false:=by rw [<-bh l] at I;exact I
   exact zag
  | true =>
   have dD:((((ba l).length:Int)==2))=true:=by rw [<-bh l] at I;exact I
   refine D ?_;have hc:=fC s hs;rw [h0] at hc;refine V [] hc ?_;have hc:=gO (.mk ⟨8,a,0,s,ks⟩ l) 2 hl;exact zaf
theorem aaY (a:Int) (s:ae) (ks:List Int) (l:List T) (hs:s.length<=1099511627776) (hl:l.length<=1099511627776) (ha:decide (a < 0)=false):GF prog 251 [.agg (cT (.mk ⟨10,a,0,s,ks⟩ l))] [] (.v (.bool (cQ (.mk ⟨10,a,0,s,ks⟩ l)))) []:=by
 have how:cQ (.mk ⟨10,a,0,s,ks⟩ l)=((s==[])&&(((l.length:Int)==2)&&bP 1 0 l)):=by unfold cQ own;rw [ab zf9];rfl
 rw [how];refine dh func251 ntmps251 ?_
 cases h0:(s==[]) with
 | false =>
  exact ay
 | true =>
  cases I:((l.length:Int)==2) with
  | false =>
   have dD:((((ba l).length:Int)==2))=false:=by rw [<-bh l] at I;exact I
   exact ay
  | true =>
   have dD:((((ba l).length:Int)==2))=true:=by rw [<-bh l] at I;exact I
   refine D ?_;have hc:=gO (.mk ⟨10,a,0,s,ks⟩ l) 1 hl;exact zaf
theorem aaZ (a:Int) (s:ae) (ks:List Int) (l:List T) (hs:s.length<=1099511627776) (hl:l.length<=1099511627776) (ha:decide (a < 0)=false):GF prog 251 [.agg (cT (.mk ⟨11,a,0,s,ks⟩ l))] [] (.v (.bool (cQ (.mk ⟨11,a,0,s,ks⟩ l)))) []:=by
 have how:cQ (.mk ⟨11,a,0,s,ks⟩ l)=((s==[])&&(((l.length:Int)==1)&&bP 1 0 l)):=by unfold cQ own;rw [ab zf9];rfl
 rw [how];refine dh func251 ntmps251 ?_
 cases h0:(s==[]) with
 | false =>
  exact ay
 | true =>
  cases I:((l.length:Int)==1) with
  | false =>
   have dD:((((ba l).length:Int)==1))=false:=by rw [<-bh l] at I;exact I
   exact ay
  | true =>
   have dD:((((ba l).length:Int)==1))=true:=by rw [<-bh l] at I;exact I
   refine D ?_;have hc:=gO (.mk ⟨11,a,0,s,ks⟩ l) 1 hl;exact zaf
theorem aa0 (a:Int) (s:ae) (ks:List Int) (l:List T) (hs:s.length<=1099511627776) (hl:l.length<=1099511627776) (ha:decide (a < 0)=false):GF prog 251 [.agg (cT (.mk ⟨12,a,0,s,ks⟩ l))] [] (.v (.bool (cQ (.mk ⟨12,a,0,s,ks⟩ l)))) []:=by
 have how:cQ (.mk ⟨12,a,0,s,ks⟩ l)=((s==[])&&(((l.length:Int)==1)&&bP 1 0 l)):=by unfold cQ own;rw [ab zf9];rfl
 rw [how];refine dh func251 ntmps251 ?_
 cases h0:(s==[]) with
 | false =>
  exact ay
 | true =>
  cases I:((l.length:Int)==1) with
  | false =>
   have dD:((((ba l).length:Int)==1))=false:=by rw [<-bh l] at I;exact I
   exact ay
  | true =>
   have dD:((((ba l).length:Int)==1))=true:=by rw [<-bh l] at I;exact I
   refine D ?_;have hc:=gO (.mk ⟨12,a,0,s,ks⟩ l) 1 hl;exact zaf
theorem aa1 (a:Int) (s:ae) (ks:List Int) (l:List T) (hs:s.length<=1099511627776) (hl:l.length<=1099511627776) (ha:decide (a < 0)=false):GF prog 251 [.agg (cT (.mk ⟨13,a,0,s,ks⟩ l))] [] (.v (.bool (cQ (.mk ⟨13,a,0,s,ks⟩ l)))) []:=by
 have how:cQ (.mk ⟨13,a,0,s,ks⟩ l)=(bT s&&(((l.length:Int)==1)&&bP 1 0 l)):=by unfold cQ own;rw [ab zf9];rfl
 rw [how];refine dh func251 ntmps251 ?_
 cases h0:bT s with
 | false =>
  exact zag
 | true =>
  cases I:((l.length:Int)==1) with
  | false =>
   have dD:((((ba l).length:Int)==1))=false:=by rw [<-bh l] at I;exact I
   exact zag
  | true =>
   have dD:((((ba l).length:Int)==1))=true:=by rw [<-bh l] at I;exact I
   refine D ?_;have hc:=fC s hs;rw [h0] at hc;refine V [] hc ?_;have hc:=gO (.mk ⟨13,a,0,s,ks⟩ l) 1 hl;exact zaf
theorem acw (a:Int) (s:ae) (ks:List Int) (l:List T) (hs:s.length<=1099511627776) (hl:l.length<=1099511627776) (ha:decide (a < 0)=false):GF prog 251 [.agg (cT (.mk ⟨5,a,0,s,ks⟩ l))] [] (.v (.bool (cQ (.mk ⟨5,a,0,s,ks⟩ l)))) []:=by
 have how:cQ (.mk ⟨5,a,0,s,ks⟩ l)=((s==[45] || s==[33] || s==[126])&&(((l.length:Int)==1)&&bP 1 0 l)):=by unfold cQ own;rw [ab zf9];rfl
 rw [how];refine dh func251 ntmps251 ?_
 cases I:(s==[45]) with
 | true =>
  cases h4:((l.length:Int)==1) with
  | false =>
   have RN:(((ba l).length:Int)==1)=false:=by rw [<-bh l] at h4;exact h4
   exact ay
  | true =>
   have RN:(((ba l).length:Int)==1)=true:=by rw [<-bh l] at h4;exact h4
   exact zbW
 | false =>
  cases G:(s==[33]) with
  | true =>
   cases h4:((l.length:Int)==1) with
   | false =>
    have RN:(((ba l).length:Int)==1)=false:=by rw [<-bh l] at h4;exact h4
    exact ay
   | true =>
    have RN:(((ba l).length:Int)==1)=true:=by rw [<-bh l] at h4;exact h4
    exact zbW
  | false =>
   cases h3:(s==[126]) with
   | false =>
    exact ay
   | true =>
    cases h4:((l.length:Int)==1) with
    | false =>
     have RN:(((ba l).length:Int)==1)=false:=by rw [<-bh l] at h4;exact h4
     exact ay
    | true =>
     have RN:(((ba l).length:Int)==1)=true:=by rw [<-bh l] at h4;exact h4
     exact zbW
theorem acA (a:Int) (s:ae) (ks:List Int) (l:List T) (hs:s.length<=1099511627776) (hl:l.length<=1099511627776) (ha:decide (a < 0)=false):GF prog 251 [.agg (cT (.mk ⟨9,a,0,s,ks⟩ l))] [] (.v (.bool (cQ (.mk ⟨9,a,0,s,ks⟩ l)))) []:=by
 have how:cQ (.mk ⟨9,a,0,s,ks⟩ l)=((s==[])&&((((l.length:Int)==2) || ((l.length:Int)==3))&&bP 1 0 l)):=by unfold cQ own;rw [ab zf9];rfl
 rw [how];refine dh func251 ntmps251 ?_
 cases h0:(s==[]) with
 | false =>
  exact ay
 | true =>
  cases I:((l.length:Int)==2) with
  | true =>
   have dD:(((ba l).length:Int)==2)=true:=by rw [<-bh l] at I;exact I
   exact zd8
  | false =>
   have dD:(((ba l).length:Int)==2)=false:=by rw [<-bh l] at I;exact I
   cases G:((l.length:Int)==3) with
   | true =>
    have sP:(((ba l).length:Int)==3)=true:=by rw [<-bh l] at G;exact G
    exact zd8
   | false =>
    have sP:(((ba l).length:Int)==3)=false:=by rw [<-bh l] at G;exact G
    exact ay
theorem aa3 (a:Int) (s:ae) (ks:List Int) (l:List T) (hs:s.length<=1099511627776) (hl:l.length<=1099511627776) (ha:decide (a < 0)=false):GF prog 251 [.agg (cT (.mk ⟨14,a,0,s,ks⟩ l))] [] (.v (.bool (cQ (.mk ⟨14,a,0,s,ks⟩ l)))) []:=by
 have how:cQ (.mk ⟨14,a,0,s,ks⟩ l)=((l.all fun x=>kl x.n.kind)&&(s==[])):=by unfold cQ own;rw [ab zf9];rfl
 rw [how];refine ai func251 ntmps251 ?_;refine GW.range (ba l).length (fun k fr Γ=>∃ n,fr=[U,.loc 0 0,U,.loc 1 0,U,U,U,U,U,U,U,U,U,U,U,U,U,U,U,U,U,U,U,U,U,U,U,U,U,U,U,U,U,U,U,U,U,U,U,U,U,U,U,U,U,U,U,U,U,U,U,U,U,U,U,U,U,U,U,U,U,U,U,U,U,U,U,U,U,U,U,U,U,U,U,U,U,U,U,U,U,U,U,U,U,U,U,U,U,U,U,U,U,U,U,U,U,U,U,U,U,U,U,U,U,U,U,U,U,U,U,U,U,U,U,U,U,U,U,U,U,U,U,U,U,U,U,U,U,U,U,U,U,U,U,U,U,U,U,U,U,U,U,U,U,U,U,U,U,U,U,U,U,U,U,U,U,U,U,U,U,U,U,U,U,U,U,U,U,U,U,U,U,U,U,U,.sl 6 (ba l),.v (ii ((ba l).length:Int)),.v (ii (k:Nat)),U,U,U,U,U,U,U,U,U,U,U,U]/\Γ=[.box 86 (cT (.mk ⟨14,a,0,s,ks⟩ l)),.box 78 n]/\n=aV ⟨14,a,0,s,ks⟩/\((l.take k).all fun x=>kl x.n.kind)=true) ?_ (by rw [bh];exact hl) ?_ ?_ ?_
 ·exact ⟨_,_,Wk.aH ao,_,rfl,rfl,rfl,rfl⟩
 ·rintro k _ _ ⟨_,rfl,rfl,_⟩;exact dr
 ·rintro k _ _ hk ⟨_,rfl,rfl,rfl,hf⟩
  have hk:k < l.length:=by rw [bh] at hk;exact hk
  have hx:l[k]?=some l[k]:=by simp [hk]
  have hr:=dB hx;generalize l[k]=x at *;have he:=LX x.n.kind
  cases hb:kl x.n.kind with
  | true =>
   rw [hb] at he;refine zbX ?_;exact ⟨rfl,rfl,_,_,(Wk.cut (n:=2) (c6 rfl) rfl).trans (Wk.aH ao),_,rfl,rfl,rfl,by rw [dk,hx,all_append,hf];simp only [Option.toList,all_cons,all_nil,hb];rfl⟩
  | false =>
   rw [hb] at he;refine zbX ?_;refine bY ?_
   have ha:(l.all fun x=>kl x.n.kind)=false:=by
    exact zdw
   rw [ha];exact zah
 ·rintro _ _ ⟨_,rfl,rfl,rfl,hf⟩
  have hf:(l.all fun x=>kl x.n.kind)=true:=by
   rw [n7 zg2] at hf;exact hf
  rw [hf];exact ay
theorem acE (k a n:Int) (s:ae) (ks:List Int) (l:List T) (hk:k=1\/k=2\/k=3\/k=4\/k=5\/k=6\/k=7\/k=8\/k=9\/k=10\/k=11\/k=12\/k=13\/k=14\/True) (hx:¬ (k=1\/k=2\/k=3\/k=4\/k=5\/k=6\/k=7\/k=8\/k=9\/k=10\/k=11\/k=12\/k=13\/k=14)) (ha:decide (a < 0)=false) (hn:(n != 0)=false):GF prog 251 [.agg (cT (.mk ⟨k,a,n,s,ks⟩ l))] [] (.v (.bool (cQ (.mk ⟨k,a,n,s,ks⟩ l)))) []:=by
 simp only [not_or] at hx;obtain ⟨I,G,h3,h4,h5,h6,h7,h8,h9,qa,rY,oT,gx,El⟩:=hx
 have I:(k==1)=false:=by simpa using I
 have h1x:(k != 1)=true:=by simp only [bne,I];rfl
 have G:(k==2)=false:=by simpa using G
 have h3:(k==3)=false:=by simpa using h3
 have h4:(k==4)=false:=by simpa using h4
 have h5:(k==5)=false:=by simpa using h5
 have h6:(k==6)=false:=by simpa using h6
 have h7:(k==7)=false:=by simpa using h7
 have h8:(k==8)=false:=by simpa using h8
 have h9:(k==9)=false:=by simpa using h9
 have qa:(k==10)=false:=by simpa using qa
 have rY:(k==11)=false:=by simpa using rY
 have oT:(k==12)=false:=by simpa using oT
 have gx:(k==13)=false:=by simpa using gx
 have El:(k==14)=false:=by simpa using El
 have how:cQ (.mk ⟨k,a,n,s,ks⟩ l)=false:=by
  show own ⟨k,a,n,s,ks⟩ _ _ _=_;simp [own,I,G,h3,h4,h5,h6,h7,h8,h9,qa,rY,oT,gx,El]
 exact zdK
theorem acB (k a n:Int) (s:ae) (ks:List Int) (l:List T) (ha:decide (a < 0)=true):GF prog 251 [.agg (cT (.mk ⟨k,a,n,s,ks⟩ l))] [] (.v (.bool (cQ (.mk ⟨k,a,n,s,ks⟩ l)))) []:=by
 have how:cQ (.mk ⟨k,a,n,s,ks⟩ l)=false:=by
  show own ⟨k,a,n,s,ks⟩ _ _ _=_;unfold own;rw [ah ha]
 exact zdK
theorem acD (k a n:Int) (s:ae) (ks:List Int) (l:List T) (ha:decide (a < 0)=false) (hk:(k != 1)=true) (hn:(n != 0)=true):GF prog 251 [.agg (cT (.mk ⟨k,a,n,s,ks⟩ l))] [] (.v (.bool (cQ (.mk ⟨k,a,n,s,ks⟩ l)))) []:=by
 have how:cQ (.mk ⟨k,a,n,s,ks⟩ l)=false:=by
  show own ⟨k,a,n,s,ks⟩ _ _ _=_;unfold own;rw [ab zf9,ah (by show ((k != 1)&&(n != 0))=true;rw [hk,hn];rfl)]
 exact zdK
theorem Vs (t:T) (hs:t.n.s.length<=1099511627776) (hl:t.kids.length<=1099511627776):GF prog 251 [.agg (cT t)] [] (.v (.bool (cQ t))) []:=by
 obtain ⟨⟨k,a,n,s,ks⟩,l⟩:=t
 cases ha:decide (a < 0) with
 | true=>exact acB k a n s ks l ha
 | false =>
 by_cases qV:k=1
 ·subst qV;exact acr a n s ks l hs hl ha
 by_cases hn:n=0
 ·subst hn
  by_cases h:k=1\/k=2\/k=3\/k=4\/k=5\/k=6\/k=7\/k=8\/k=9\/k=10\/k=11\/k=12\/k=13\/k=14
  ·rcases h with rfl | rfl | rfl | rfl | rfl | rfl | rfl | rfl | rfl | rfl | rfl | rfl | rfl | rfl
   ·exact absurd rfl qV
   ·exact acs a s ks l hs hl ha
   ·exact acu a s ks l hs hl ha
   ·exact acv a s ks l hs hl ha
   ·exact acw a s ks l hs hl ha
   ·exact acx a s ks l hs hl ha
   ·exact acy a s ks l hs hl ha
   ·exact acz a s ks l hs hl ha
   ·exact acA a s ks l hs hl ha
   ·exact aaY a s ks l hs hl ha
   ·exact aaZ a s ks l hs hl ha
   ·exact aa0 a s ks l hs hl ha
   ·exact aa1 a s ks l hs hl ha
   ·exact aa3 a s ks l hs hl ha
  ·exact acE k a 0 s ks l zf8 h ha rfl
 ·exact acD k a n s ks l ha (by simpa using qV) zgY
theorem Qz (l:List T):dd l=l.all eo:=by
 induction l with
 | nil=>simp [dd]
 | cons a l ih=>simp [dd,ih]
theorem Vo:∀ (sz:Nat) (t:T),SizeOf.sizeOf t<=sz->KU t->GF prog 193 [.agg (cT t)] [] (.v (.bool (eo t))) []:=by
 intro sz
 induction sz with
 | zero=>intro t h _;cases t;simp at h
 | succ sz ih =>
 intro t dj lT;obtain ⟨n,l⟩:=t;have aeB:=lT;rw [KU] at lT;obtain ⟨hs,hl,hm⟩:=lT
 have how:eo (.mk n l)=(dd l&&cQ (.mk n l)):=by rw [eo]
 rw [how];rw [Qz];refine ai func193 ntmps193 ?_;refine GW.range (ba l).length (fun k fr Γ=>fr=[U,.loc 0 0,U,U,U,U,.sl 6 (ba l),.v (ii ((ba l).length:Int)),.v (ii (k:Nat)),U,U,U,U,U,U,U,U,U]/\Γ=[.box 86 (cT (.mk n l))]/\((l.take k).all eo)=true) ?_ (by rw [bh];exact hl) ?_ ?_ ?_
 ·exact lN
 ·exact jn
 ·rintro k _ _ hk ⟨rfl,rfl,hf⟩
  have hk:k < l.length:=by rw [bh] at hk;exact hk
  have hx:l[k]?=some l[k]:=by simp [hk]
  have zS:=bo hx;have au:=List.sizeOf_lt_of_mem zS;have hr:=dB hx;have he:=ih l[k] zgU (KX hm zS);generalize l[k]=x at *
  cases hb:eo x with
  | true =>
   rw [hb] at he;refine zbX ?_;exact ⟨rfl,rfl,_,_,(Wk.cut (n:=1) (c6 rfl) rfl).trans (Wk.aH ao),rfl,rfl,by rw [dk,hx,all_append,hf];simp only [Option.toList,all_cons,all_nil,hb];rfl⟩
  | false =>
   rw [hb] at he;refine zbX ?_;refine bY ?_
   have ha:(l.all eo)=false:=by
    exact zdw
   rw [ha];exact zah
 ·rintro _ _ ⟨rfl,rfl,hf⟩
  have hf:(l.all eo)=true:=by
   rw [n7 zg2] at hf;exact hf
  rw [hf];refine D ?_;refine V [] (Vs (.mk n l) hs hl) ?_;exact al
theorem Vn (t:T) (h:KU t):GF prog 193 [.agg (cT t)] [] (.v (.bool (eo t))) []:=Vo _ t (aI _) h
open Go.Xp (Ar)
structure Fj (p:Src):Prop where
 globals:p.globals.length<=1000000000000/\∀ s∈p.globals,s.length<=1000000000000
 arrays:p.arrays.length<=1000000000000/\∀ a∈p.arrays,a.name.length<=1000000000000
 fns:p.fns.length<=1000000000000/\∀ f∈p.fns,f.name.length<=1000000000000/\f.params.length<=1000000000000/\∀ s∈f.params,s.length<=1000000000000
 nodes:p.nodes.length<=1000000000000/\∀ n∈p.nodes,n.s.length<=1000000000000/\n.kids.length<=1000000000000
theorem NW {l:List ae} {i:Nat} {s:ae} (h:l[i]?=some s):(l.map fun s=>[GV.v (sv s)])[i]?=some [.v (sv s)]:=by rw [bp,h];rfl
theorem KK {l:List Ar} {i:Nat} {s:Ar} (h:l[i]?=some s):(l.map bg)[i]?=some (bg s):=by rw [bp,h];rfl
theorem E9 {l:List Go.Sp.Fn} {i:Nat} {s:Go.Sp.Fn} (h:l[i]?=some s):(l.map aw)[i]?=some (aw s):=by rw [bp,h];rfl
theorem yt {α:Type} {l:List α} {q:α->Bool} {k:Nat} {x:α} (hx:l[k]?=some x) (hb:q x=false):l.all q=false:=by
 exact zdw
theorem EP (p:Src) (hp:Fj p) (b:Bool) (h:rD p=some b):GF prog 140 [.agg (aq p)] [] (.v (.bool b)) []:=by
 unfold rD at h;refine ai func140 ntmps140 ?_;refine GW.range (p.globals.map fun s=>[GV.v (sv s)]).length (fun k fr Γ=>fr=[U,.loc 0 0,U,.v (ii 0),U,U,U,U,U,U,U,U,U,U,U,strs p.globals,.v (ii ((p.globals.map fun s=>[GV.v (sv s)]).length:Int)),.v (ii (k:Nat)),U,U,U,U,U,U,U,U,U,U,U,U,U,U,U,U,U,U,U,U,U,U,U,U,U,U,U,U,U,U,U,U,U,U,U,U,U,U,U,U,U,U,U,U,U,U,U,U,U,U,U,U,U,U,U,U,U,U,U,U,U,U,U,U,U,U,U,U,U,U,U,U,U,U,U,U,U,U,U,U,U,U,U,U,U,U,U]/\Γ=[.box 28 (aq p)]/\((p.globals.take k).all bT)=true) ?_ (by simpa using by have:=hp.globals.1;omega) ?_ ?_ ?_
 ·exact lN
 ·exact jn
 ·rintro k _ _ hk ⟨rfl,rfl,hf⟩
  have hk:k < p.globals.length:=by simpa using hk
  have hx:p.globals[k]?=some p.globals[k]:=by simp [hk]
  have hr:=NW hx;have hl:=hp.globals.2 _ (bo hx);generalize p.globals[k]=x at *;have he:=fC x X
  cases hb:bT x with
  | true =>
   rw [hb] at he;refine zbX ?_;exact ⟨rfl,rfl,_,_,Wk.aH ao,rfl,rfl,wD hx hf hb⟩
  | false =>
   rw [hb] at he;rw [ah (show dA p.globals=false from yt hx hb)] at h;cases h;refine zbX ?_;exact al
 ·rintro _ _ ⟨rfl,rfl,hf⟩;rw [n7 zf8] at hf;rw [ab (by rw [show dA p.globals=true from hf];decide)] at h;refine D ?_;refine GW.range (p.arrays.map bg).length (fun k fr Γ=>fr=[U,.loc 0 0,U,.v (ii 0),U,U,U,U,U,U,U,U,U,U,U,U,U,U,U,U,U,U,U,U,U,U,.sl 2 (p.arrays.map bg),.v (ii ((p.arrays.map bg).length:Int)),.v (ii (k:Nat)),U,U,U,U,U,U,U,U,U,U,U,U,U,U,U,U,U,U,U,U,U,U,U,U,U,U,U,U,U,U,U,U,U,U,U,U,U,U,U,U,U,U,U,U,U,U,U,U,U,U,U,U,U,U,U,U,U,U,U,U,U,U,U,U,U,U,U,U,U,U,U,U,U,U,U,U]/\Γ=[.box 28 (aq p)]/\((p.arrays.take k).all rL)=true) ?_ (by simpa using by have:=hp.arrays.1;omega) ?_ ?_ ?_
  ·exact lN
  ·exact jn
  ·rintro k _ _ hk ⟨rfl,rfl,hf⟩
   have hk:k < p.arrays.length:=by simpa using hk
   have hx:p.arrays[k]?=some p.arrays[k]:=by simp [hk]
   have hr:=KK hx;have hl:=hp.arrays.2 _ (bo hx);generalize p.arrays[k]=x at *;have he:=fC x.name X
   cases hb:bT x.name with
   | false =>
    rw [hb] at he;rw [ah (yt hx (by simp [rL,hb]))] at h;cases h;refine zbX ?_;exact al
   | true =>
    rw [hb] at he
    cases I:decide (x.size < 0) with
    | true =>
     rw [ah (yt hx (by simp only [rL,hb,I];rfl))] at h;cases h;refine zbX ?_;exact al
    | false =>
     cases G:decide (2147483647 < x.size) with
     | true =>
      rw [ah (yt hx (by simp only [rL,hb,I,G];rfl))] at h;cases h;refine zbX ?_;exact al
     | false =>
      refine zbX ?_;exact ⟨rfl,rfl,_,_,(Wk.cut (n:=1) (c6 rfl) rfl).trans (Wk.aH ao),rfl,rfl,wD hx hf (by simp only [rL,hb,I,G];rfl)⟩
  ·rintro _ _ ⟨rfl,rfl,hf⟩;rw [n7 zf8] at hf;rw [ab (by rw [hf];decide)] at h;refine D ?_;refine GW.range (p.fns.map aw).length (fun k fr Γ=>∃ nx,fr=[U,.loc 0 0,U,.v (ii nx),U,U,U,U,U,U,U,U,U,U,U,U,U,U,U,U,U,U,U,U,U,U,U,U,U,U,U,U,U,U,U,U,U,U,U,U,U,U,U,U,U,U,U,U,.sl 3 (p.fns.map aw),.v (ii ((p.fns.map aw).length:Int)),.v (ii (k:Nat)),U,U,U,U,U,U,U,U,U,U,U,U,U,U,U,U,U,U,U,U,U,U,U,U,U,U,U,U,U,U,U,U,U,U,U,U,U,U,U,U,U,U,U,U,U,U,U,U,U,U,U,U,U,U]/\Γ=[.box 28 (aq p)]/\0<=nx/\(match jA p.nodes (p.fns.drop k) nx with | none=>none | some none=>some false | some (some next)=>some (next==(p.nodes.length:Int)&&decide (next<=800)))=some b) ?_ (by simpa using by have:=hp.fns.1;omega) ?_ ?_ ?_
   ·exact ⟨_,_,Wk.aH ao,_,rfl,rfl,Int.le_refl _,h⟩
   ·rintro k _ _ ⟨_,rfl,rfl,_⟩;exact dr
   ·clear h hf;rintro k _ _ hk ⟨nx,rfl,rfl,kU,h⟩
    have hk:k < p.fns.length:=by simpa using hk
    have hx:p.fns[k]?=some p.fns[k]:=by simp [hk]
    have hr:=E9 hx;have hl:=hp.fns.2 _ (bo hx);rw [n5 hk,jA] at h;generalize p.fns[k]=x at *
    cases he:rM p.nodes (fN p.nodes) nx.toNat 0 with
    | none=>exact za3
    | some e =>
    rw [he] at h;simp only at h;have sA:=abL p hp.nodes.1 (fun n hn=>(hp.nodes.2 n hn).2) _ _ 0 _ X he;rw [Int.toNat_of_nonneg kU] at sA;have cS:=fC x.name X
    by_cases I:x.body=nx
    ·have dD:(x.body != nx)=false:=by simpa using I
     cases hb:bT x.name with
     | false =>
      rw [hb] at cS;rw [ah (.inr (.inl hb))] at h;cases h;exact zfZ
     | true =>
      rw [hb] at cS
      by_cases G:e < 0
      ·have sP:decide (e < 0)=true:=by simpa using G
       rw [ah (.inr (.inr G))] at h;cases h;exact zfZ
      ·have sP:decide (e < 0)=false:=by simpa using G
       rw [ab (by rw [hb];simp [I,G])] at h;refine D ?_;refine V [] sA ?_;refine V [] cS ?_;refine GW.range (x.params.map fun s=>[GV.v (sv s)]).length (fun j fr Γ=>fr=[U,.loc 0 0,U,.v (ii nx),U,U,U,U,U,.loc 1 0,.v (ii e),U,U,U,U,U,U,U,U,U,U,U,U,U,U,U,U,U,U,U,U,U,U,U,U,U,U,U,U,U,U,U,U,U,U,U,U,U,.sl 3 (p.fns.map aw),.v (ii ((p.fns.map aw).length:Int)),.v (ii (k:Nat)),U,U,U,U,U,U,U,U,U,U,U,U,U,U,U,U,U,U,U,U,U,strs x.params,.v (ii ((x.params.map fun s=>[GV.v (sv s)]).length:Int)),.v (ii (j:Nat)),U,U,U,U,U,U,U,U,U,U,U,U,U,U,U,U,U,U,U,U,U,U,U,U,U,U,U,U,U,U]/\Γ=[.box 28 (aq p),.box 65 (aw x)]/\((x.params.take j).all bT)=true) ?_ (by simpa using by omega) ?_ ?_ ?_
       ·exact lN
       ·exact jn
       ·rintro j _ _ hj ⟨rfl,rfl,hf⟩
        have hj:j < x.params.length:=by simpa using hj
        have sX:x.params[j]?=some x.params[j]:=by simp [hj]
        have Nh:=NW sX;have gW:=hl.2.2 _ (bo sX);generalize x.params[j]=y at *;have cx:=fC y X
        cases hb:bT y with
        | true =>
         rw [hb] at cx;refine D ?_;refine V [] cx ?_;exact ⟨rfl,rfl,_,_,Wk.aH ao,rfl,rfl,wD sX hf hb⟩
        | false =>
         rw [hb] at cx;rw [ah (show dA x.params=false from yt sX hb)] at h;cases h;refine D ?_;refine V [] cx ?_;exact al
       ·rintro _ _ ⟨rfl,rfl,hf⟩;rw [n7 zf8] at hf;rw [ab (by rw [show dA x.params=true from hf];decide)] at h
        cases hs:sub p.nodes (fN p.nodes) nx.toNat with
        | none=>rw [hs] at h;cases h
        | some t =>
        rw [hs] at h;simp only at h;have tM:=Iw p (fun n hn=>(hp.nodes.2 n hn).2) _ _ _ hs;rw [Int.toNat_of_nonneg kU] at tM;have bj:=Vn t ((abm (fun n hn=>by have:=hp.nodes.2 n hn;omega) _).1 _ _ hs)
        by_cases h3:t.n.kind=14
        ·have nt:(t.n.kind != 14)=false:=by simpa using h3
         cases hb:eo t with
         | false =>
          rw [hb] at bj;rw [ah (.inr hb)] at h;cases h;refine D ?_;refine V [] tM ?_;refine V [] bj ?_;exact al
         | true =>
          rw [hb] at bj;rw [ab (by rw [hb];simp [h3])] at h;refine D ?_;refine V [] tM ?_;refine V [] bj ?_;exact ⟨rfl,rfl,_,_,(Wk.cut (n:=1) (c6 rfl) rfl).trans (Wk.aH ao),_,rfl,rfl,by omega,h⟩
        ·have nt:(t.n.kind != 14)=true:=by simpa using h3
         rw [ah (.inl h3)] at h;cases h;refine D ?_;refine V [] tM ?_;exact al
    ·have dD:(x.body != nx)=true:=by simpa using I
     rw [ah (.inl I)] at h;cases h;refine D ?_;refine V [] sA ?_;exact al
   ·clear h hf;rintro _ _ ⟨nx,rfl,rfl,kU,h⟩;rw [bM,drop_length,jA] at h;simp only at h;cases h
    cases I:(nx==(p.nodes.length:Int)) with
    | false =>
     have dD:(nx==((p.nodes.map aV).length:Int))=false:=by rw [bM];exact I
     exact ay
    | true =>
     have dD:(nx==((p.nodes.map aV).length:Int))=true:=by rw [bM];exact I
     exact ay
open Go.Xp (levels)
def qv (k:Int) (s:ae):Int:=if k=6 then (match levels.findIdx? (fun l=>l.contains s) with | some i=>(i:Int) | none => -1) else 9
theorem Ps (t:T):GF prog 142 [.agg (cT t)] [] (.v (.int .i64 (qv t.n.kind t.n.s))) []:=by
 refine dh func142 ntmps142 ?_
 by_cases h6:t.n.kind=6
 ·have h6':(t.n.kind != 6)=false:=by simpa using h6
  unfold qv;rw [ah h6];refine D ?_;refine V [] lB ?_;refine GW.range (levels.map fun l=>[strs l]).length (fun k fr Γ=>fr=[U,.loc 0 0,U,U,U,U,U,U,U,U,U,.sl 1 (levels.map fun l=>[strs l]),.v (ii ((levels.map fun l=>[strs l]).length:Int)),.v (ii (k:Nat)),U,U,U,U,U,U,U,U,U,U,U]/\Γ=[.box 86 (cT t)]/\((levels.take k).any fun l=>l.contains t.n.s)=false) ?_ aD ?_ ?_ ?_
  ·exact lN
  ·exact jn
  ·rintro k _ _ hk ⟨rfl,rfl,hf⟩
   have hk:k < levels.length:=by simpa using hk
   have hx:levels[k]?=some levels[k]:=by simp [hk]
   have hr:(levels.map fun l=>[strs l])[k]?=some [strs levels[k]]:=by simp [hk]
   have C6:levels[k].length<=1099511627776:=by
    have:∀ l∈levels,l.length<=1099511627776:=by decide
    exact this _ (List.getElem_mem hk)
   have CX:levels[k].contains t.n.s=true->levels.findIdx? (fun l=>l.contains t.n.s)=some k:=by
    intro hc;rw [findIdx?_eq_some_iff_getElem];refine ⟨hk,hc,fun j hj=>?_⟩;rw [any_eq_false] at hf;refine hf _ ?_;rw [List.mem_take_iff_getElem];exact ⟨j,by omega,rfl⟩
   generalize levels[k]=x at *;have hh:=lh x t.n.s C6
   cases hb:x.contains t.n.s with
   | true =>
    rw [hb] at hh;rw [CX hb];refine D ?_;refine V [] hh ?_;exact al
   | false =>
    rw [hb] at hh;refine D ?_;refine V [] hh ?_;exact ⟨rfl,rfl,_,_,Wk.aH ao,rfl,rfl,by rw [dk,hx,any_append,hf];simp only [Option.toList,List.any_cons,List.any_nil,hb];rfl⟩
  ·rintro _ _ ⟨rfl,rfl,hf⟩;rw [n7 zf8] at hf
   have hn:levels.findIdx? (fun l=>l.contains t.n.s)=none:=by
    rw [List.findIdx?_eq_none_iff];intro x hx;rw [any_eq_false] at hf;simpa using hf x hx
   rw [hn];exact ay
 ·have h6':(t.n.kind != 6)=true:=by simpa using h6
  unfold qv;rw [ab h6];refine D ?_;refine V [] lB ?_;exact al
open Go.Xp (CI iD I4)
theorem X3 (n:Int):GF prog 211 [.v (ii n)] [] (.v (ii (n % 4294967296))) []:=by
 refine ai func211 ntmps211 ?_;exact al
theorem ZM (n:Int):GF prog 150 [.v (ii n)] [] (.v (ii (CI n))) []:=by
 unfold CI
 have hb:0<=n % 4294967296/\n % 4294967296 < 4294967296:=by omega
 have hp:=X3 n;generalize n % 4294967296=m at *;refine dh func150 ntmps150 ?_
 by_cases h:m > 2147483647
 ·have h':decide ((2147483647:Int) < m)=true:=by simpa using h
  rw [ah h];refine D ?_;refine V [] hp ?_;exact al
 ·have h':decide ((2147483647:Int) < m)=false:=by simpa using h
  rw [ab h];refine D ?_;refine V [] hp ?_;exact al
theorem HE (k:Nat) (h:k<=57):[[GV.v (.int .u8 (k:Int))]]=[UInt8.ofNat k].map fun c=>[GV.v (.int .u8 (c.toNat:Int))]:=by
 have:(UInt8.ofNat k).toNat=k:=by simp;omega
 simp [this]
theorem LU (n:Nat) (hn:n<=1099511627776):GF prog 151 [.v (ii (n:Int))] [] (.v (sv (iD n))) []:=by
 induction n using Nat.strongRecOn with
 | _ n ih =>
 unfold iD;refine dh func151 ntmps151 ?_
 by_cases h:n < 10
 ·have h':decide ((n:Int) < 10)=true:=by simpa using by omega
  have hw:=HE (48+n) X;rw [Int.natCast_add] at hw;rw [dif_pos h];refine D ?_;refine b8 ?_;exact ay
 ·have h':decide ((n:Int) < 10)=false:=by simpa using by omega
  rw [dif_neg h];have hc:=ih (n / 10) X X;have hl:=I4 (n / 10);have hw:=HE (48+n % 10) X;rw [Int.natCast_add] at hw;refine D ?_;refine aM (.q 0 (.q 1 (ax 3 4 (.f 2 (.a 7 (ax 8 3 .nil)) 7 (.q 8 (.a 2 (.q 9 (.q 10 .nil)))))))) ?_;refine aj ?_;refine GO.fork ?_ ?_
  ·refine aC [] hc ?_;refine zat ?_;exact ay
  ·refine zat ?_;refine aC [] hc ?_;exact ay
end Go.Xg
set_option maxHeartbeats 2000000
namespace Go.Xg
open Go.RowKit Go.Xw Go.Proofs
attribute [local irreducible] GW GL GO YG GC GA aU aW
theorem NO {p:Nat->Bool} {Γ:List Ob} (h:∀ x∈Γ,x.vP=true):uu p Γ=true:=by
 induction Γ with
 | nil=>rfl
 | cons x r ih =>
  rw [uu,ih fun y hy=>h y (dK _ hy),Bool.and_true];have:=h x List.mem_cons_self
  cases x <;> first | rfl | cases this
section
variable {P:Program} {fn:Func} {m:Nat} {R:GV->List Ob->Prop} {fr:List GV} {Γ:List Ob} {e:Exit}
end
end Go.Xg
namespace Go.Xg
open Go.RowKit Go.Xw Go.Proofs
theorem NV {x:Ob} (h:x.vP=true) (f:Nat->Nat):x.fc f=x:=by cases x <;> first | rfl | cases h
theorem NI {aeJ:List Ob} (h:∀ x∈aeJ,x.vP=true) (f:Nat->Nat):aeJ.map (Ob.fc f)=aeJ :=
 (List.map_congr_left fun x hx=>NV (h x hx) f).trans (List.map_id _)
theorem Mc (s n N:Nat) (h:s+n<=N):lV (List.range' s n) N=true:=by
 induction n generalizing s with
 | zero=>rfl
 | succ n ih =>
  rw [List.range'_succ,lV,ih (s+1) X]
  have I:Nat.blt s N=true:=by rw [Nat.blt_eq];omega
  have G:(List.range' (s+1) n).contains s=false:=by
   cases hc:(List.range' (s+1) n).contains s with
   | false=>rfl
   | true =>
    have:=List.mem_range'_1.1 (ea.1 hc);omega
  rw [I,G];rfl
theorem Ff (f:Nat->Nat):∀ (aeJ A C:List Ob),(∀ x∈aeJ,x.vP=true)->seen f (A++(aeJ++C)) (List.range' A.length aeJ.length) aeJ
 | [],A,C,_=>trivial
 | x::aeJ,A,C,h=>by
  rw [length_cons,List.range'_succ,seen];refine ⟨by rw [gR (aI _),tZ,NV (h x List.mem_cons_self)];rfl,?_⟩
  have:=Ff f aeJ (A++[x]) C fun y hy=>h y (dK _ hy)
  rw [aL,List.length_singleton,eF] at this;exact this
section
variable {P:Program} {m:Nat} {Q:eC} {fr:List GV} {Γ:List Ob} {ops:Array Oper} {rest:List Oper} {d:Option Tmp} {op:Op} {ty:TypeId} {pos:String} {af:Array Edge}
end
attribute [local irreducible] GW GL GO YG GC GA aU aW
theorem Ua {α γ:Type} {f:α->Value->γ} {l:List α} {hs:List Value} {i:Nat} {x:α} {h:Value} (I:l[i]?=some x) (G:hs[i]?=some h):(List.zipWith f l hs)[i]?=some (f x h):=by rw [List.getElem?_zipWith,I,G]
end Go.Xg
namespace Go.Xg
open Go.RowKit Go.Xw
theorem ZS (A C:List Ob) (x:Ob):(A++x::C)[A.length]?=some x:=by
 rw [gR (aI _),tZ];rfl
theorem DU (A C:List Ob) (x y:Ob):oset (A++x::C) A.length y=A++y::C:=by
 rw [bQ,List.set_append_right _ _ (aI _),tZ];rfl
theorem NN (q:Nat->Bool):∀ (A B:List Ob),uu q (A++B)=(uu q A&&uu q B)
 | [],B=>by simp [uu]
 | a::A,B=>by simp only [cons_append,uu,NN q A B,Bool.and_assoc]
section
variable (a b c d e:Ob) (aeJ:List Ob) (k x y:Ob)
end
section
variable {P:Program} {m:Nat} {Q:eC} {fr:List GV} {Γ:List Ob} {ops:Array Oper} {rest:List Oper} {d:Option Tmp} {op:Op} {ty:TypeId} {pos:String} {af:Array Edge}
theorem Wk.Yg {A:List Ob} {x:Ob} (bH:Γ=A++[x]) (hm:m<=A.length) (ha:∀ q,uu q A=true):Wk m fr Γ (yc A.length fr) A:=by
 subst bH;have h:=Wk.cut (m:=m) (fr:=fr) (Γ:=A++[x]) (n:=A.length) hm (by simp [ha]);simpa using h
theorem GL.adS {t:TypeId} {z:Value} {agg:Bool} {k:Nat} [hZ:tz P t z] [hT:Ty P t agg k] {dt ts:Tmp} {cs:List GV} {TH:TypeId} {KE:String} {GQ:Array Edge} {d2:Option Tmp} (hzk:z.cells.size=k) (hy:oS (dc fr ts)=some cs) (cj:Nat.beq ts dt=false) (lR:ly fr dt=true) (hk:cs.length=k) (I:pP cs=true)
  (h:GL P m ops Q rest (bR (bR fr (some dt) (.loc Γ.length 0)) d2 (.v undef)) (Γ++[.box t cs])):GL P m ops Q (⟨some dt,.alloc t,ty,pos,af,none⟩::⟨d2,.store t (.tmp dt) (.tmp ts),TH,KE,GQ,none⟩::rest) fr Γ:=by
 refine GL.alloc (cs:=rK z.cells.toList) rfl ?_
 have DD:ts≠dt:=by intro e;subst e;simp at cj
 have W0:∀ (fr:List GV) (t:Nat) (g:GV),ly fr t=true->dc (bX fr t g) t=g:=by
  intro fr
  induction fr with
  | nil=>intro t g h;cases h
  | cons x fr ih=>intro t g h;cases t with | zero=>rfl | succ t=>exact ih t g h
 have Ex:∀ (fr:List GV) (t u:Nat) (g:GV),u≠t->dc (bX fr t g) u=dc fr u:=by
  intro fr
  induction fr with
  | nil=>intro t u g _;rfl
  | cons x fr ih =>
   intro t u g h
   cases t with
   | zero=>cases u with | zero=>exact absurd rfl h | succ u=>rfl
   | succ t=>cases u with | zero=>rfl | succ u=>exact ih t u g X
 have hlen:(rK z.cells.toList).length=k:=by simp [rK,hzk]
 refine GL.st (i:=Γ.length) (o:=0) (E:=t) (cs:=rK z.cells.toList) (gs:=cs) (W0 fr dt _ lR) zf8 ?_ hk I (by rw [hlen];simp) ?_
 ·show oS (dc (bX fr dt _) ts)=some cs;rw [Ex fr dt ts _ DD];exact hy
 ·have jB:sk (rK z.cells.toList) 0 cs=cs:=by
   have:=Ek cs (rK z.cells.toList) [] (by rw [hlen,hk]);exact zcm
  rw [jB];have e:=DU Γ [] (.box t (rK z.cells.toList)) (.box t cs);rw [e];exact h
end
section
variable {P:Program} {fn:Func} {R:GV->List Ob->Prop} {fr:List GV} {Γ:List Ob} {e:Exit}
end
theorem Gw {A B:Prop} (h:B) (s:Hid B->A:=by intro hQ;(repeat (first | ((first | (apply GL.q;(· exact Qb)) | refine GL.nil ?_ | refine bc ?_ | refine GW.seq ?_ | refine GW.region ?_ | refine GW.skip ?_ | refine jl ?_ | refine GW.block ?_ | (apply GL.gt;(· exact rfl);(· first | exact rfl | assumption)) | (apply GL.gf;(· exact rfl);(· first | exact rfl | assumption)) | (apply GL.gu;(· exact rfl)) | (apply Qo;(· exact rfl);(· first | exact rfl | assumption)) | (apply Qn;(· exact rfl);(· first | exact rfl | assumption)));try refine GN vZ ?_) | ((first | (apply GL.box;(· exact rfl)) | (apply GL.st;(· exact rfl);(· exact rfl);(· exact rfl);(· exact rfl);(· exact rfl);(· exact rfl)));refine ub dv ew ?_)));exact hQ.1):A:=s ⟨h⟩
open Go.Proofs Tryz Go.Im
open GV (U)
open Go.Xp (Ar)
open Go.Sp (Src)
attribute [local irreducible] GW GL GO YG GC GA aU aW
theorem St (s:ae):GF prog 64 [.v (sv s)] [] (.v (.bool (pJ s))) []:=by
 unfold pJ so tO eA
 cases I:(s==[103,101,116])
 all_goals cases G:(s==[112,117,116])
 all_goals
  refine ai func64 ntmps64 ?_;exact al
theorem IF {p8:FuncId} [aO prog p8] (pr:Go.Sp.Fn->Bool) (l:List (Go.Sp.Fn)) (hn:l.length<=1099511627776) (hc:∀ x∈l,GF prog p8 [.agg (aw x)] [] (.v (.bool (pr x))) []) :
  GF prog 128 [.sl 3 (l.map aw),.v (.func (.func p8) #[] #[])] [] (.v (ii (du pr l))) []:=by
 have dS:(l.map aw).length=l.length:=by simp
 refine ai func128 ntmps128 ?_;refine GW.range (l.map aw).length (fun k fr Γ=>fr=[.sl 3 (l.map aw),.v (.func (.func p8) #[] #[]),U,U,U,U,U,.v (ii ((l.map aw).length:Int)),.v (ii (k:Nat)),U,U,U,U,U,U,U,U,U,U]/\Γ=[]/\(l.take k).all (fun y=>!pr y)=true) ?_ X ?_ ?_ ?_
 ·exact lN
 ·exact jn
 ·rintro k _ _ au ⟨rfl,rfl,bj⟩;rw [dS] at au;obtain ⟨x,dE⟩:∃ x,l[k]?=some x:=⟨l[k],by simp [au]⟩
  have hr:(l.map aw)[k]?=some (aw x):=by rw [bp,dE];rfl
  have h:=hc x (bo dE);have cl:=od (f:=pr) dE
  have hit:=fun h0=>nQ (f:=pr) dE h0 bj
  unfold aw at hr h
  cases hb:pr x with
  | true =>
   rw [hb] at h;rw [hit hb];refine D ?_;refine ln [] h ?_;exact ay
  | false =>
   rw [hb] at h cl;refine D ?_;refine ln [] h ?_;exact zaH
 ·rintro _ _ ⟨rfl,rfl,bj⟩;exact zbk
theorem xt {p8:FuncId} [aO prog p8] (pr:Go.Sp.Fn->Bool) (l:List (Go.Sp.Fn)) (hn:l.length<=1099511627776) (hc:∀ x∈l,GF prog p8 [.agg (aw x)] [] (.v (.bool (pr x))) []) :
  GF prog 66 [.sl 3 (l.map aw),.v (.func (.func p8) #[] #[])] [] (.v (.bool (l.any pr))) []:=by
 have h:=IF pr l hn hc;rw [<-G4];generalize du pr l=z at *;refine ai func66 ntmps66 ?_;exact za0
theorem H6 {p8:FuncId} [aO prog p8] (pr:Go.Sp.Fn->Bool) (s:ae) (l:List (Go.Sp.Fn)) (hn:l.length<=1099511627776) (hc:∀ x∈l,GF prog p8 [.agg (aw x),.box [.v (sv s)] 0] [] (.v (.bool (pr x))) []) :
  GF prog 128 [.sl 3 (l.map aw),.fn (.func p8) [] [.box [.v (sv s)] 0]] [] (.v (ii (du pr l))) []:=by
 have dS:(l.map aw).length=l.length:=by simp
 refine ai func128 ntmps128 ?_;refine GW.range (l.map aw).length (fun k fr Γ=>fr=[.sl 3 (l.map aw),.fn (.func p8) [] [.box [.v (sv s)] 0],U,U,U,U,U,.v (ii ((l.map aw).length:Int)),.v (ii (k:Nat)),U,U,U,U,U,U,U,U,U,U]/\Γ=[]/\(l.take k).all (fun y=>!pr y)=true) ?_ X ?_ ?_ ?_
 ·exact lN
 ·exact jn
 ·rintro k _ _ au ⟨rfl,rfl,bj⟩;rw [dS] at au;obtain ⟨x,dE⟩:∃ x,l[k]?=some x:=⟨l[k],by simp [au]⟩
  have hr:(l.map aw)[k]?=some (aw x):=by rw [bp,dE];rfl
  have h:=hc x (bo dE);have cl:=od (f:=pr) dE
  have hit:=fun h0=>nQ (f:=pr) dE h0 bj
  unfold aw at hr h
  cases hb:pr x with
  | true =>
   exact zcA
  | false =>
   exact zdc
 ·rintro _ _ ⟨rfl,rfl,bj⟩;exact zbk
theorem H4 {p8:FuncId} [aO prog p8] (pr:Ar->Bool) (s:ae) (l:List (Ar)) (hn:l.length<=1099511627776) (hc:∀ x∈l,GF prog p8 [.agg (bg x),.box [.v (sv s)] 0] [] (.v (.bool (pr x))) []) :
  GF prog 243 [.sl 2 (l.map bg),.fn (.func p8) [] [.box [.v (sv s)] 0]] [] (.v (ii (du pr l))) []:=by
 have dS:(l.map bg).length=l.length:=by simp
 refine ai func243 ntmps243 ?_;refine GW.range (l.map bg).length (fun k fr Γ=>fr=[.sl 2 (l.map bg),.fn (.func p8) [] [.box [.v (sv s)] 0],U,U,U,U,U,.v (ii ((l.map bg).length:Int)),.v (ii (k:Nat)),U,U,U,U,U,U,U,U,U,U]/\Γ=[]/\(l.take k).all (fun y=>!pr y)=true) ?_ X ?_ ?_ ?_
 ·exact lN
 ·exact jn
 ·rintro k _ _ au ⟨rfl,rfl,bj⟩;rw [dS] at au;obtain ⟨x,dE⟩:∃ x,l[k]?=some x:=⟨l[k],by simp [au]⟩
  have hr:(l.map bg)[k]?=some (bg x):=by rw [bp,dE];rfl
  have h:=hc x (bo dE);have cl:=od (f:=pr) dE
  have hit:=fun h0=>nQ (f:=pr) dE h0 bj
  unfold bg at hr h
  cases hb:pr x with
  | true =>
   exact zcA
  | false =>
   exact zdc
 ·rintro _ _ ⟨rfl,rfl,bj⟩;exact zbk
theorem Yu (x:Go.Sp.Fn) (s:ae):GF prog 169 [.agg (aw x),.box [.v (sv s)] 0] [] (.v (.bool (x.name==s))) []:=by
 unfold aw;refine ai func169 ntmps169 ?_;exact al
theorem Ru (p:Src) (s:ae) (hn:p.fns.length<=1099511627776):GF prog 109 [.agg (aq p),.v (sv s)] [] (.v (ii (du (fun x:Go.Sp.Fn=>x.name==s) p.fns))) []:=by
 have h:=H6 (fun x:Go.Sp.Fn=>x.name==s) s p.fns hn (fun x _=>Yu x s);generalize du (fun x:Go.Sp.Fn=>x.name==s) p.fns=z at *;refine dh func109 ntmps109 ?_;exact zdA
theorem OE (x:Ar) (s:ae):GF prog 244 [.agg (bg x),.box [.v (sv s)] 0] [] (.v (.bool (x.name==s))) []:=by
 unfold bg;refine ai func244 ntmps244 ?_;exact al
theorem GR (p:Src) (s:ae) (hn:p.arrays.length<=1099511627776):GF prog 183 [.agg (aq p),.v (sv s)] [] (.v (ii (du (fun x:Ar=>x.name==s) p.arrays))) []:=by
 have h:=H4 (fun x:Ar=>x.name==s) s p.arrays hn (fun x _=>OE x s);generalize du (fun x:Ar=>x.name==s) p.arrays=z at *;refine dh func183 ntmps183 ?_;exact zdA
theorem P9 (x:Go.Sp.Fn):GF prog 127 [.agg (aw x)] [] (.v (.bool (decide (x.params.length > 40)))) []:=by
 have h:decide ((40:Int) < ((x.params.map fun s=>[GV.v (sv s)]).length:Int))=decide (x.params.length > 40):=by
  rw [bM];exact decide_eq_decide.2 X
 rw [<-h];unfold aw strs;refine ai func127 ntmps127 ?_;exact al
theorem Uc (x:Go.Sp.Fn):GF prog 67 [.agg (aw x)] [] (.v (.bool (qj x))) []:=by
 have h:(((x.params.map fun s=>[GV.v (sv s)]).length:Int)==0)=(x.params.length==0):=by
  rw [bM];exact Bool.eq_iff_iff.2 zf8
 unfold qj yY;rw [<-h];unfold aw strs
 cases I:(x.name==[109,97,105,110])
 all_goals
  refine ai func67 ntmps67 ?_;exact al
section
variable {B:Bs} {K:Fz} {β:Bt} {w:World} {l:List Value} {fr:List GV} {A C:List Ob}
theorem fx {x y:Operand} {E k:Nat} {rows:List (List GV)} {h z:Value} (hI:Inv B K β (A++(.vech E k rows h::C)) w) (hF:FR K β fr l) (hx:bq fr x=.v h) (hy:bq fr y=.v z) :
  ∃ K1,oI K1 w/\kY K1 (fun _=>.no) w/\bC K1 (fun _=>.no) ([x,y].map (ev l)) [.sl k rows,.v z]:=by
 obtain ⟨K1,hk,I,G,h3⟩:=hI.view (i:=A.length) (E:=E) (k:=k) (rows:=rows) (x:=h) (by rw [gR (aI _),tZ];rfl);exact zcO
end
theorem mO (l:List ae):(br l).length=l.length:=by simp [br]
theorem Un (xs:List Int) (s:Int) (hl:xs.length<=1099511627776):GF prog 107 [ints xs,.v (ii s)] [] (.v (ii (du (fun x=>s==x) xs))) []:=by
 have dS:(xs.map fun i=>[GV.v (ii i)]).length=xs.length:=by simp
 refine ai func107 ntmps107 ?_;refine GW.range (xs.map fun i=>[GV.v (ii i)]).length (fun k fr Γ=>fr=[ints xs,.v (ii s),U,U,U,U,ints xs,.v (ii ((xs.map fun i=>[GV.v (ii i)]).length:Int)),.v (ii (k:Nat)),U,U,U,U,U,U,U,U,U,U]/\Γ=[]/\((xs.take k).all fun x=>!(s==x))=true) ?_ X ?_ ?_ ?_
 ·exact lN
 ·exact jn
 ·rintro k _ _ au ⟨rfl,rfl,bj⟩;rw [dS] at au;obtain ⟨x,dE⟩:∃ x,xs[k]?=some x:=⟨xs[k],by simp [au]⟩;have hr:=pd dE;have cl:=od (f:=fun y:Int=>s==y) dE
  have hit:=fun h0=>nQ (f:=fun y:Int=>s==y) dE h0 bj
  cases hb:(s==x) with
  | true =>
   rw [hit hb];exact ay
  | false =>
   exact zep
 ·rintro _ _ ⟨rfl,rfl,bj⟩;exact zbk
theorem rS (xs:List Int) (s:Int) (hl:xs.length<=1099511627776):GF prog 52 [ints xs,.v (ii s)] [] (.v (.bool (xs.contains s))) []:=by
 have hi:=Un xs s hl
 have he:xs.contains s=xs.any (fun x=>s==x):=by rw [List.contains_eq_any_beq]
 rw [he,<-G4];generalize du (fun x=>s==x) xs=i at *;refine ai func52 ntmps52 ?_;refine V [] hi ?_;exact al
end Go.Xg
set_option maxHeartbeats 4000000
namespace Go.Xg
open Go.RowKit Go.Xw Go.Proofs Go.Im
attribute [local irreducible] GW GL GO YG GC GA aU aW
theorem rb (l:List ae):oG (l.map fun s=>[GV.v (sv s)])=true:=by
 induction l with
 | nil=>rfl
 | cons s l ih=>rw [List.map_cons,oG,ih];rfl
theorem GW.Ef {P:Program} {m:Nat} {c:Code} {Q:eC} {fr cV:List GV} {Γ aZ:List Ob} (I:wC fr cV) (G:Γ=aZ) (h:GW P m c Q cV aZ):GW P m c Q fr Γ:=by
 subst G;exact GW.wk (Wk.aH I) h
open Tryz
open Go.Xp (Nd)
open Go.Sp (Src)
def xK (n:Nd):Bool:=(n.kind==4&&n.s==[115,105,122,101])&&((n.kids.length:Int)==1)
theorem EL (p:Src) (a:Nat) (n:Nd) (hn:p.nodes[a]?=some n):GF prog 130 [.agg (aq p),.v (ii (a:Nat))] [] (.v (.bool (xK n))) []:=by
 have hr:=iv hn
 have eh:(n.kids.map fun i=>[GV.v (ii i)]).length=n.kids.length:=by simp
 unfold xK;rw [<-eh];unfold aV ints at hr;generalize (n.kids.map fun i=>[GV.v (ii i)])=kk at *
 cases I:(n.kind==4)
 all_goals cases G:(n.s==[115,105,122,101])
 all_goals
  refine ai func130 ntmps130 ?_;exact al
theorem aaR (p:Src) (s:ae) (hn:p.fns.length<=1099511627776):GF prog 245 [.agg (aq p),.v (sv s)] [] (.v (ii (oF p s))) []:=by
 have hF:=Ru p s hn;unfold oF so tO eA
 cases I:(s==[103,101,116]) with
 | true =>
  rw [ah zgf];exact ze0
 | false =>
  rw [ab zgf]
  cases G:(s==[112,117,116]) with
  | true =>
   rw [ah (.inl zgq)];exact ze0
  | false =>
   cases h3:(s==[115,105,122,101]) with
   | true =>
    rw [ah (.inr (by simpa using h3))];exact ze0
   | false =>
    rw [ab (by simpa using And.intro (show ¬ s=[112,117,116] by simpa using G) (show ¬ s=[115,105,122,101] by simpa using h3))];unfold du at hF
    cases hx:p.fns.findIdx? (fun f:Go.Sp.Fn=>f.name==s) with
    | none =>
     rw [hx] at hF
     have hd:decide ((0:Int) <= -1)=false:=by decide
     exact zf0
    | some i =>
     rw [hx] at hF;have hi:i < p.fns.length:=(List.findIdx?_eq_some_iff_getElem.1 hx).1;obtain ⟨f,hf⟩:∃ f,p.fns[i]?=some f:=⟨p.fns[i],by simp [hi]⟩
     have hr:(p.fns.map aw)[i]?=some (aw f):=by rw [bp,hf];rfl
     have cH:(f.params.map fun s=>[GV.v (sv s)]).length=f.params.length:=by simp
     have hd:decide ((0:Int)<=((i:Nat):Int))=true:=by simp
     unfold aw at hr;simp only at hF |-;unfold o7;rw [hf];simp only;rw [<-cH];exact zf0
open Go.Xp (T Ar dy)
theorem Nv {p:Src} {a:Nat} {n:Nd} {l:List T} (b6:ek p.nodes a (.mk n l)):dO (.mk n l)=xK n:=by
 rw [ek] at b6;unfold dO xK eA
 congr 1
 rw [b6.2.1,dy]
 exact Bool.eq_iff_iff.2 (by
  show ((l.length==1)=true)↔_
  simp only [beq_iff_eq];omega)
theorem LN (p:Src) (a:Nat) (n:Nd) (l:List T) (ls:List ae) (b6:ek p.nodes a (.mk n l)) (jZ:p.fns.length<=1099511627776) (lx:p.arrays.length<=1099511627776) (gW:ls.length<=1099511627776) :
  GF prog 184 [.agg (aq p),.v (ii (a:Nat)),strs ls] [] (.v (ii (eT p (.mk n l) ls))) []:=by
 have hs:=Nv b6;rw [ek] at b6;obtain ⟨hn,hk,nB⟩:=b6;have hS:=EL p a n hn;have hr:=iv hn
 have eh:(n.kids.map fun i=>[GV.v (ii i)]).length=l.length:=by rw [bM,hk,dy]
 unfold eT;rw [hs]
 cases hz:xK n with
 | true =>
  rw [hz] at hS;rw [ah rfl]
  have kD:l.length=1:=by
   exact zeF
  obtain ⟨u,rfl⟩:∃ u,l=[u]:=by
   match l,kD with
   | [u],_=>exact ⟨u,rfl⟩
  have hm:p.nodes[a+1]?=some u.n:=by
   rw [ey] at nB;have:=nB.1
   cases u;rw [ek] at this;exact this.1
  have Ey:n.kids[0]?=some (((a+1:Nat)):Int):=by rw [hk];rfl
  have sU:=pd Ey;have mw:=iv hm;show GF _ _ _ _ (.v (ii (if gM p u.n ls=true then 24 else 0))) _;generalize u.n=m at *;have hA:=GR p m.s lx;have hL:=ke ls m.s gW;have hb:gM p m ls=((m.kind != 2 || decide (du (fun x:Ar=>x.name==m.s) p.arrays < 0)) || ls.contains m.s):=rfl;rw [hb];generalize du (fun x:Ar=>x.name==m.s) p.arrays=z at *;unfold aV at hr mw
  cases I:(m.kind != 2) with
  | true =>
   refine ai func184 ntmps184 ?_;refine zfj ?_;exact zbU
  | false =>
   cases G:decide (z < 0) with
   | true =>
    refine ai func184 ntmps184 ?_;refine zfj ?_;refine bm ?_;refine V [] hA ?_;exact al
   | false =>
    generalize ls.contains m.s=b at *;cases b
    all_goals
     refine ai func184 ntmps184 ?_;refine zfj ?_;refine bm ?_;refine V [] hA ?_;refine V [] hL ?_;exact al
 | false =>
  rw [hz] at hS;rw [ab aD];have hM:=aaR p n.s jZ;show GF _ _ _ _ (.v (ii (if oF p n.s = -1 then 22 else if oF p n.s=(l.length:Int) then 0 else 23))) _;generalize oF p n.s=z at *;rw [<-eh];unfold aV at hr;unfold ints at hr;generalize (n.kids.map fun i=>[GV.v (ii i)])=kk at *
  cases I:(z == -1) with
  | true =>
   rw [ah zgf];exact zb9
  | false =>
   rw [ab zgf]
   cases G:(z==(kk.length:Int)) with
   | true =>
    rw [ah zgq];exact zb9
   | false =>
    rw [ab zgq];exact zb9
theorem L9 (p:Src) (a:Nat) (n:Nd) (l:List T) (ls:List ae) (b6:ek p.nodes a (.mk n l)) (jZ:p.fns.length<=1099511627776) (lx:p.arrays.length<=1099511627776) (kQ:p.globals.length<=1099511627776) (gW:ls.length<=1099511627776) :
  GF prog 131 [.agg (aq p),.v (ii (a:Nat)),strs ls] [] (.v (ii (cJ p (.mk n l) ls))) []:=by
 have hC:=LN p a n l ls b6 jZ lx gW
 have hn:p.nodes[a]?=some n:=by rw [ek] at b6;exact b6.1
 clear b6;have hr:=iv hn;have hL:=ke ls n.s gW;have hG:=ke p.globals n.s kQ;have hA:=GR p n.s lx
 have nS:(ls.map fun s=>[GV.v (sv s)]).length=ls.length:=by simp
 have he:cJ p (.mk n l) ls=(if n.kind=13 then (if ls.contains n.s=true then 21 else if ls.length>=40 then 26 else 0)
  else if n.kind=2\/n.kind=7 then (if ls.contains n.s=false/\p.globals.contains n.s=false then 22 else 0)
  else if n.kind=3\/n.kind=8 then (if ls.contains n.s=true\/du (fun x:Ar=>x.name==n.s) p.arrays < 0 then 24 else 0)
  else if n.kind=4 then eT p (.mk n l) ls else 0):=rfl
 rw [he];generalize eT p (.mk n l) ls=cf at *;obtain ⟨kd,at_,nn,s,ks⟩:=n;simp only at *;unfold aV at hr;simp only at hr;generalize du (fun x:Ar=>x.name==s) p.arrays=z at *;generalize ls.contains s=b at *;generalize p.globals.contains s=g at *;rw [<-nS]
 by_cases gx:kd=13
 ·subst gx
  have NT:((13:Int)==13)=true:=by decide
  rw [ah rfl]
  cases b with
  | true =>
   exact zaz
  | false =>
   cases h4:decide ((40:Int)<=(((ls.map fun s=>[GV.v (sv s)]).length:Nat):Int)) with
   | true =>
    rw [ab aD,ah (by simp at h4;omega)];exact zaz
   | false =>
    rw [ab aD,ab (by simp at h4;omega)];exact zaz
 rw [ab gx]
 by_cases G:kd=2
 ·subst G
  have NT:((2:Int)==13)=false:=by decide
  have q2:((2:Int)==2)=true:=by decide
  rw [ah aD]
  cases b with
  | true =>
   exact zaz
  | false =>
   cases g
   all_goals
    exact zem
 by_cases h7:kd=7
 ·subst h7
  have NT:((7:Int)==13)=false:=by decide
  have q2:((7:Int)==2)=false:=by decide
  have q7:((7:Int)==7)=true:=by decide
  rw [ah aD]
  cases b with
  | true =>
   exact zaz
  | false =>
   cases g
   all_goals
    exact zem
 rw [ab (by rintro (h | h);(· exact G h);exact h7 h)]
 by_cases h3:kd=3
 ·subst h3
  have NT:((3:Int)==13)=false:=by decide
  have q2:((3:Int)==2)=false:=by decide
  have q7:((3:Int)==7)=false:=by decide
  have q3:((3:Int)==3)=true:=by decide
  rw [ah aD]
  cases b with
  | true =>
   exact zaz
  | false =>
   cases hz:decide (z < 0) with
   | true =>
    rw [ah (.inr (by simpa using hz))];exact zbb
   | false =>
    exact zev
 by_cases h8:kd=8
 ·subst h8
  have NT:((8:Int)==13)=false:=by decide
  have q2:((8:Int)==2)=false:=by decide
  have q7:((8:Int)==7)=false:=by decide
  have q3:((8:Int)==3)=false:=by decide
  have q8:((8:Int)==8)=true:=by decide
  rw [ah aD]
  cases b with
  | true =>
   exact zaz
  | false =>
   cases hz:decide (z < 0) with
   | true =>
    rw [ah (.inr (by simpa using hz))];exact zbb
   | false =>
    exact zev
 rw [ab (by rintro (h | h);(· exact h3 h);exact h8 h)]
 by_cases h4:kd=4
 ·subst h4
  have NT:((4:Int)==13)=false:=by decide
  have q2:((4:Int)==2)=false:=by decide
  have q7:((4:Int)==7)=false:=by decide
  have q3:((4:Int)==3)=false:=by decide
  have q8:((4:Int)==8)=false:=by decide
  have q4:((4:Int)==4)=true:=by decide
  rw [ah rfl];refine ai func131 ntmps131 ?_;refine V [] hL ?_;exact zfx
 rw [ab h4]
 have NT:(kd==13)=false:=by simpa using gx
 have q2:(kd==2)=false:=by simpa using G
 have q7:(kd==7)=false:=by simpa using h7
 have q3:(kd==3)=false:=by simpa using h3
 have q8:(kd==8)=false:=by simpa using h8
 have q4:(kd==4)=false:=by simpa using h4
 exact zaz
theorem aaf {K K1:Fz} {β:Bt} {v:Value} {gs:List GV} (hk:df K K1) (hp:∀ g∈gs,g.pc=true) (h:Rel K β v (.agg gs)):Rel K1 (fun _=>.no) v (.agg gs):=by
 cases h with
 | agg vs cs hl h =>
  exact .agg vs gs hl fun i v g I G=>((h i v g I G).mono hk (eg.refl β)).pc (hp g (bo G))
theorem OU (p:Src):∀ g∈aq p,g.pc=true:=fun g hg=>by
 simp only [aq,List.mem_cons,List.not_mem_nil,or_false] at hg
 rcases hg with rfl | rfl | rfl | rfl <;> rfl
theorem rn {B:Bs} {K:Fz} {β:Bt} {w:World} {l:List Value} {fr:List GV} {A C:List Ob} {p:Src} {x y u:Operand} {E k:Nat} {rows:List (List GV)} {h z:Value} (hI:Inv B K β (A++(.vech E k rows h::C)) w) (hF:FR K β fr l) (hx:bq fr x=.agg (aq p)) (hy:bq fr y=.v z) (hu:bq fr u=.v h) :
  ∃ K1,oI K1 w/\kY K1 (fun _=>.no) w/\bC K1 (fun _=>.no) ([x,y,u].map (ev l)) [.agg (aq p),.v z,.sl k rows]:=by
 obtain ⟨K1,hk,I,G,h3⟩:=hI.view (i:=A.length) (E:=E) (k:=k) (rows:=rows) (x:=h) (by rw [gR (aI _),tZ];rfl);have hr:=hF.ev x;rw [hx] at hr;refine ⟨K1,I,G,?_⟩;show bC K1 _ [ev l x,ev l y,ev l u] _;rw [hF.lq hy,hF.lq hu];exact .cons (aaf hk (OU p) hr) (.cons (.v _) (.cons h3 .nil))
theorem Zq (p:Src) (a:Nat) (n:Nd) (l:List T) (ls:List ae) (c:CS) (E1 E5 E6:TypeId) (ad:Option Addr) (cp:Nat) (b6:ek p.nodes a (.mk n l)) (jZ:p.fns.length<=1099511627776) (lx:p.arrays.length<=1099511627776) (kQ:p.globals.length<=1099511627776) (gW:ls.length<=1099511627776) :
  GF prog 129 [.v (ii (a:Nat)),.v (.slice ad ls.length cp),.loc 0 0,.loc 1 0,.box (aq p) 0,.loc 2 0] [.box E1 [.v (ii c.code)],.box E5 [.v (ii c.skip)],.box E6 [.v (ii c.place)],.vech 9 1 (br ls) (.slice ad ls.length cp)] (.tup [])
   [.box E1 [.v (ii (dz p c a (.mk n l) ls).code)],.box E5 [.v (ii (dz p c a (.mk n l) ls).skip)],.box E6 [.v (ii (dz p c a (.mk n l) ls).place)],.vech 9 1 (br ls) (.slice ad ls.length cp)]:=by
 have hs:=Nv b6;have hN:=L9 p a n l ls b6 jZ lx kQ gW;rw [ek] at b6;obtain ⟨hn,hk,nB⟩:=b6;have hS:=EL p a n hn;have hr:=iv hn;obtain ⟨code,place,skip⟩:=c;unfold dz;rw [hs];simp only;generalize cJ p (.mk n l) ls=z at *
 cases I:(code != 0) with
 | true =>
  rw [ah (.inl zgf)];refine ai func129 ntmps129 ?_;exact iy
 | false =>
  cases G:(((a:Nat):Int)==skip) with
  | true =>
   rw [ah (.inr zgq)];refine ai func129 ntmps129 ?_;exact iy
  | false =>
   rw [ab (by rintro (h | h);(· simp at I;exact h I);(· simp at G;exact G h))];simp only
   cases hz:xK n with
   | false =>
    rw [hz] at hS;rw [ab (show ¬ (false=true) by decide)];unfold aV at hr
    cases h3:(z != 0) with
    | true =>
     exact zfg
    | false =>
     exact zfh
   | true =>
    rw [hz] at hS;rw [ah rfl]
    have kD:l.length=1:=by
     exact zeF
    obtain ⟨u,rfl⟩:∃ u,l=[u]:=by
     match l,kD with
     | [u],_=>exact ⟨u,rfl⟩
    have hm:p.nodes[a+1]?=some u.n:=by
     rw [ey] at nB;have:=nB.1
     cases u;rw [ek] at this;exact this.1
    have Ey:n.kids[0]?=some (((a+1:Nat)):Int):=by rw [hk];rfl
    have sU:=pd Ey;have mw:=iv hm;rw [show pK (.mk n [u])=u.n from rfl];generalize u.n=m at *;unfold aV at hr mw
    cases h4:(m.kind != 2) with
    | true =>
     rw [ah (show m.kind≠2 by simpa using h4)]
     cases h3:(z != 0) with
     | true =>
      exact zfg
     | false =>
      exact zfh
    | false =>
     rw [ab (show ¬ (m.kind≠2) by simpa using h4)]
     cases h3:(z != 0) with
     | true =>
      exact zfg
     | false =>
      exact zfh
open GV (U)
open Go.Xp (aQ aB)
def Od (p:Src):GV:=.fn (.func 129) [] [.loc 0 0,.loc 1 0,.box (aq p) 0,.loc 2 0]
def XO (p:Src):GV:=.fn (.func 167) [] [.loc 3 0,.loc 4 0,.box (aq p) 0,.loc 5 0]
def HL (p:Src) (E1 E5 E6 E2 E3 E4:TypeId) (s:CS) (ls:List ae) (ad:Option Addr) (cp:Nat):List Ob :=
 [.box E1 [.v (ii s.code)],.box E5 [.v (ii s.skip)],.box E6 [.v (ii s.place)],.box E2 [Od p],.box E3 [.v (.slice ad ls.length cp)],.box E4 [XO p],.vech 9 1 (br ls) (.slice ad ls.length cp)]
theorem Wg (p:Src) (E1 E5 E6 E2 E3 E4:TypeId) (hp:p.nodes.length<=1048576) (eh:∀ n∈p.nodes,n.kids.length<=1099511627776) (jZ:p.fns.length<=1099511627776) (lx:p.arrays.length<=1099511627776) (kQ:p.globals.length<=1099511627776):∀ (N:Nat) (t:T),aQ t<=N->∀ (a:Nat) (s:CS) (ls:List ae) (ad:Option Addr) (cp:Nat),ek p.nodes a t->ls.length+aQ t<=8388608 ->
  GC prog 167 [.v (ii (a:Nat)),.loc 3 0,.loc 4 0,.box (aq p) 0,.loc 5 0] (HL p E1 E5 E6 E2 E3 E4 s ls ad cp) fun g Δ=>g=.tup []/\∃ iL iM,Δ=HL p E1 E5 E6 E2 E3 E4 (fF (dz p) t a s ls).1 (fF (dz p) t a s ls).2 iL iM:=by
 intro N
 induction N with
 | zero=>intro t h;exact zcF
 | succ N ih =>
 intro t hN a s ls ad cp b6 gW
 cases t with
 | mk n l =>
 rw [Go.Xp.aQ] at hN gW;have Pf:=b6;rw [ek] at b6;obtain ⟨hn,hk,nB⟩:=b6;rw [fF];have hr:=iv hn;have qe:=eh n (bo hn);have ht:=Zq p a n l ls s E1 E5 E6 ad cp Pf jZ lx kQ X;generalize kE:(dz p) s a (.mk n l) ls=s1 at *
 have qE:n.kids.length=l.length:=by rw [hk,dy]
 unfold aV at hr;unfold HL Od XO;refine ai func167 ntmps167 ?_;refine GL.oB [0,1,2,6] ht rfl rfl rfl (by repeat (first | exact trivial | refine ⟨rfl,?_⟩)) ?_;rintro _ _ ⟨rfl,rfl⟩;refine zas ?_;refine GW.range (n.kids.map fun i=>[GV.v (ii i)]).length (fun k fr Γ=>∃ iL iM,fr=[.v (ii (a:Nat)),.loc 3 0,.loc 4 0,.box (aq p) 0,.loc 5 0,U,U,U,U,U,U,U,U,U,U,U,U,ints n.kids,.v (ii ((n.kids.map fun i=>[GV.v (ii i)]).length:Int)),.v (ii (k:Nat)),U,U,U,U,U,U,U,U,U,U,U,U,U,U,U,U,U,U,U,U,U,U,U]/\Γ=HL p E1 E5 E6 E2 E3 E4 (cU (dz p) (l.take k) (a+1) s1 ls).1 (cU (dz p) (l.take k) (a+1) s1 ls).2 iL iM) ?_ zgr ?_ ?_ ?_
 ·exact ze1
 ·rintro k _ _ ⟨ad,cp,rfl,rfl⟩;exact dr
 ·rintro k _ _ au ⟨ad,cp,rfl,rfl⟩;rw [bM,qE] at au;obtain ⟨u,hu⟩:∃ u,l[k]?=some u:=⟨l[k],by simp [au]⟩;have ny:=sY (n:=a+1) hu;rw [<-hk] at ny;have sV:=pd ny;have dj:=ku hu;have EG:ek p.nodes (a+1+aB (l.take k)) u:=ey.ix l (a+1) k u nB hu
  have hlen:(cU (dz p) (l.take k) (a+1) s1 ls).2.length<=ls.length+aB (l.take k):=by
   exact zcB
  rw [wJ _ hu];generalize (cU (dz p) (l.take k) (a+1) s1 ls).1=s2 at *;generalize (cU (dz p) (l.take k) (a+1) s1 ls).2=ls2 at *;have hv:=ih u X (a+1+aB (l.take k)) s2 ls2 ad cp EG X;unfold HL Od XO at hv |-;refine D ?_;refine GL.oB [0,1,2,3,4,5,6] hv rfl rfl rfl (by repeat (first | exact trivial | refine ⟨rfl,?_⟩)) ?_;rintro _ _ ⟨rfl,iL,iM,rfl⟩;exact zcP
 ·rintro _ _ ⟨ad,cp,rfl,rfl⟩;rw [bM,qE,c7]
  have hlen:(cU (dz p) l (a+1) s1 ls).2.length<=ls.length+aB l:=by
   exact zd5
  generalize (cU (dz p) l (a+1) s1 ls).1=s2 at *;generalize (cU (dz p) l (a+1) s1 ls).2=ls2 at *;have vn:(br ls2).length=ls2.length:=mO ls2;unfold HL Od XO;refine bc ?_
  cases hv:(n.kind==13) with
  | false =>
   exact zb0
  | true =>
   refine zap ?_;refine OA rfl rfl (GL.nF 6 (news:=[[.v (sv n.s)]]) rfl rfl rfl az rfl rfl (by refine ⟨?_,?_⟩;(· show _+1<=_;omega);(· show (_+1) * _<=_;omega)) ?_);intro oK oN;exact zbK
theorem Yi (p:Src) (E1 E5 E6:TypeId) (i:Nat) (f:Go.Sp.Fn) (t:T) (s:CS) (hp:p.nodes.length<=1048576) (eh:∀ n∈p.nodes,n.kids.length<=1099511627776) (jZ:p.fns.length<=1099511627776) (lx:p.arrays.length<=1099511627776) (kQ:p.globals.length<=1099511627776)
  (hf:p.fns[i]?=some f) (qx:f.params.length<=1048576) (hb:0<=f.body) (b6:ek p.nodes f.body.toNat t) (dj:aQ t<=1048576) :
  GF prog 101 [.agg (aq p),.v (ii (i:Nat)),Od p] [.box E1 [.v (ii s.code)],.box E5 [.v (ii s.skip)],.box E6 [.v (ii s.place)]] (.tup []) [.box E1 [.v (ii (fF (dz p) t f.body.toNat s f.params).1.code)],.box E5 [.v (ii (fF (dz p) t f.body.toNat s f.params).1.skip)],.box E6 [.v (ii (fF (dz p) t f.body.toNat s f.params).1.place)]]:=by
 have hr:(p.fns.map aw)[i]?=some (aw f):=by rw [bp,hf];rfl
 have cH:(f.params.map fun s=>[GV.v (sv s)]).length=f.params.length:=by simp
 have eP:=rb f.params;obtain ⟨b,sR⟩:∃ b:Nat,f.body=(b:Int):=⟨f.body.toNat,by omega⟩;rw [sR,iK] at b6 |-;unfold aw at hr;rw [sR] at hr;unfold Od;refine dh func101 ntmps101 ?_;refine ji ?_;refine GL.wk (Wk.freeze (i:=3) rfl rfl rfl (aI _)) ?_;refine GN zg0 ?_;refine GL.wk (Wk.aH (cV:=[U,.v (ii (i:Nat)),U,.box (aq p) 0,U,.loc 4 0,U,U,U,U,U,U,U,strs f.params,U,U,U,U,U,U,U,U,U,U]) ao) ?_;refine GL.wk (Wk.gK 9 1) ?_;refine GL.xz 5 rfl rfl rfl rfl eP (by refine ⟨?_,?_⟩;(· rw [cH];omega);(· rw [cH];omega)) ?_;intro ad cp;rw [cH];refine zbJ ?_;refine GW.Ef (cV:=[U,.v (ii (i:Nat)),U,.box (aq p) 0,U,.loc 4 0,.loc 6 0,.loc 7 0,U,U,U,U,U,U,U,U,U,U,U,U,U,U,U,U]) (aZ:=[.box E1 [.v (ii s.code)],.box E5 [.v (ii s.skip)],.box E6 [.v (ii s.place)],.gone,.box _ [.fn (.func 129) [] [.loc 0 0,.loc 1 0,.box (aq p) 0,.loc 2 0]],.vech 9 1 (br f.params) (.slice ad f.params.length cp),.box _ [.v (.slice ad f.params.length cp)],.box _ [.fn (.func 167) [] [.loc 4 0,.loc 6 0,.box (aq p) 0,.loc 7 0]]]) ao rfl ?_;refine zc1 ?_;have hv:=Wg p E1 E5 E6;refine OA rfl rfl (GL.oB [0,1,2,4,6,7,5] (hv _ _ _ hp eh jZ lx kQ _ t (aI _) b s f.params ad cp b6 X) rfl rfl rfl (by repeat (first | exact trivial | refine ⟨rfl,?_⟩)) ?_);rintro _ _ ⟨rfl,iL,iM,rfl⟩;refine ⟨by simp [HL],?_⟩;unfold HL;refine zdi ?_;exact gh
end Go.Xg
namespace Go.Im
open Go.Xp Go.Sp
theorem MI {l:List ae}:yd l=false↔∀ k,k < l.length->rq l k=false:=by
 unfold yd;rw [any_eq_false];constructor
 ·intro h k hk;have:=h k (List.mem_range.2 hk);exact zcm
 ·intro h k hk;rw [h k (List.mem_range.1 hk)];decide
theorem vS {l:List Ar} {k:Nat} {a:Ar} (h:l[k]?=some a):eU (l.take (k+1))=eU (l.take k)+a.size:=by
 unfold eU;rw [dk,h,List.foldl_append];rfl
theorem ya {l:List Ar} (h:∀ a∈l,0<=a.size/\a.size<=2147483648):∀ k,0<=eU (l.take k)/\eU (l.take k)<=(k:Int) * 2147483648:=by
 intro k
 induction k with
 | zero=>simp [eU]
 | succ k ih =>
  cases hx:l[k]? with
  | none =>
   have:l.take (k+1)=l.take k:=by rw [dk,hx];simp
   rw [this];omega
  | some a =>
   have:=h a (bo hx);rw [vS hx];omega
theorem FD {l:List ae}:fD l=false↔∀ k,k < l.length->nJ l k=false:=by
 unfold fD;rw [any_eq_false];constructor
 ·intro h k hk;have:=h k (List.mem_range.2 hk);exact zcm
 ·intro h k hk;rw [h k (List.mem_range.1 hk)];decide
theorem Jz (p:Src) (l:List T) (a:Nat):iq p [] l a=(0,0):=by unfold iq;rfl
end Go.Im
namespace Go.Xg
open Go.RowKit Go.Xw Go.Proofs Tryz Go.Im
open GV (U)
open Go.Xp (T aQ)
open Go.Sp (Src)
theorem YG.Is {P:Program} {fr:List GV} {Γ:List Ob} {x up:Operand} {t e:TypeId} {k:Nat} [hT:pW P t e k] {rows:List (List GV)} {kk:IntKind} {i:Nat} (hx:bq fr x=.sl k rows) (hup:bq fr up=.v (.int kk i)) (hi:i < rows.length):YG P (.slice t x none (some up) none) fr Γ (.sl k (rows.take i)):=fun B K β w l hI hF=>by
 have h:=hF.ev x;rw [hx] at h;have Nb:=hF.lq hup;generalize hv:ev l x=v at h
 cases h with
 | sl0 a c=>simp at hi
 | sl b o c _ _ h hc =>
  refine ⟨.slice (some ⟨b,o,none⟩) i c,fun d ty pos af=>?_,?_⟩
  ·have rG:¬ (c=0):=by omega
   have hle:(i:Int)<=(c:Int):=by omega
   have DC:i<=c:=by omega
   simp [execOp,Instr.sliceAt,Instr.slice,Instr.sliceBounds,Instr.sliceBound,asIntOf,hv,Nb,run_underlying hT.und,lD hT.siz,rG,hle,DC,tA]
  ·have:=Rel.sl (K:=K) (β:=β) b o c k (rows.take i) (fun j r hr=>?_) zgD
   ·rw [gE,Nat.min_eq_left (Nat.le_of_lt hi)] at this;exact this
   ·have hj:j < i:=by
     rcases Nat.lt_or_ge j i with I | I
     ·exact I
     ·rw [List.getElem?_eq_none zgA] at hr;cases hr
    rw [List.getElem?_take,ah hj] at hr;exact h j r hr
attribute [local irreducible] GW GL GO YG GC GA aU aW
theorem G5 (p:Src) (i:Nat) (f:Go.Sp.Fn) (t:T) (hp:p.nodes.length<=1048576) (eh:∀ n∈p.nodes,n.kids.length<=1099511627776) (jZ:p.fns.length<=1099511627776) (lx:p.arrays.length<=1099511627776) (kQ:p.globals.length<=1099511627776)
  (hf:p.fns[i]?=some f) (qx:f.params.length<=1048576) (hb:0<=f.body) (b6:ek p.nodes f.body.toNat t) (dj:aQ t<=1048576) :
  GF prog 68 [.agg (aq p),.v (ii (i:Nat))] [] (.tup [.v (ii (im p f t f.body.toNat).1),.v (ii (im p f t f.body.toNat).2)]) []:=by
 have hr:(p.fns.map aw)[i]?=some (aw f):=by rw [bp,hf];rfl
 have dS:(f.params.map fun s=>[GV.v (sv s)]).length=f.params.length:=by simp
 have hE:=Yi p 3 3 3 i f t ⟨0,0,-1⟩ hp eh jZ lx kQ hf qx hb b6 dj;unfold aw at hr;unfold im;refine ai func68 ntmps68 ?_;refine GW.range (f.params.map fun s=>[GV.v (sv s)]).length (fun k fr Γ=>fr=[U,.v (ii (i:Nat)),.loc 0 0,U,U,U,strs f.params,U,U,U,U,U,U,U,U,U,U,U,strs f.params,.v (ii ((f.params.map fun s=>[GV.v (sv s)]).length:Int)),.v (ii (k:Nat)),U,U,U,U,U,U,U,U,U,U,U,U,U,U,U,U]/\Γ=[.box 28 (aq p)]/\∀ j,j < k->rq f.params j=false) ?_ X ?_ ?_ ?_
 ·exact zew
 ·exact jn
 ·rintro k _ _ au ⟨rfl,rfl,bj⟩;have lI:=au;rw [dS] at au;obtain ⟨x,hx⟩:∃ x,f.params[k]?=some x:=⟨f.params[k],by simp [au]⟩
  have Nh:(f.params.map fun s=>[GV.v (sv s)])[k]?=some [.v (sv x)]:=by rw [bp,hx];rfl
  have hC:=ke (f.params.take k) x zgA
  have hd:rq f.params k=(f.params.take k).contains x:=by unfold rq;rw [hx]
  rw [<-hd] at hC;unfold strs at hC;rw [map_take] at hC
  cases eM:rq f.params k with
  | true =>
   rw [eM] at hC
   have hdl:yd f.params=true:=by
    cases h:yd f.params with
    | true=>rfl
    | false=>rw [MI.1 h k au] at eM;cases eM
   rw [ah hdl];refine D ?_;refine zch ?_;exact mn
  | false =>
   rw [eM] at hC;refine D ?_;refine zch ?_
   exact ⟨rfl,rfl,_,_,Wk.aH ao,rfl,rfl,fun j hj=>by
    rcases Nat.lt_succ_iff_lt_or_eq.1 hj with h | rfl
    ·exact bj j h
    ·exact eM⟩
 ·rintro _ _ ⟨rfl,rfl,bj⟩;rw [dS] at bj;rw [ab (by rw [MI.2 bj];decide)];refine bc ?_;refine GW.wk (Wk.freeze (i:=0) rfl rfl rfl (aS _)) ?_;refine GW.Ef (cV:=[U,.v (ii (i:Nat)),.box (aq p) 0,U,U,U,U,U,U,U,U,U,U,U,U,U,U,U,U,U,U,U,U,U,U,U,U,U,U,U,U,U,U,U,U,U,U]) (aZ:=[.gone]) ao rfl ?_;refine D ?_;refine V [1,3,2] hE ?_;refine aM (ax 0 4 .nil) ?_;refine aj ?_;exact sH
open Go.Xp (Ar)
theorem HY (p:Src) (jZ:p.fns.length<=1099511627776) (lx:p.arrays.length<=1048576) (dj:∀ a∈p.arrays,0<=a.size/\a.size<=2147483648):GF prog 65 [.agg (aq p)] [] (.v (.bool (jF p))) []:=by
 have dS:(p.arrays.map bg).length=p.arrays.length:=by simp
 have ki:(p.fns.map aw).length=p.fns.length:=by simp
 have kQ:(p.globals.map fun s=>[GV.v (sv s)]).length=p.globals.length:=by simp
 have hC:=xt (p8:=127) (fun x=>decide (x.params.length > 40)) p.fns jZ (fun x _=>P9 x);unfold jF;generalize p.fns.any (fun x=>decide (x.params.length > 40))=b4 at *;have hb:=ya dj;refine ai func65 ntmps65 ?_;refine GW.range (p.arrays.map bg).length (fun k fr Γ=>fr=[U,.loc 0 0,U,.v (ii (eU (p.arrays.take k))),U,U,U,.sl 2 (p.arrays.map bg),.v (ii ((p.arrays.map bg).length:Int)),.v (ii (k:Nat)),U,U,U,U,U,U,U,U,U,U,U,U,U,U,U,U,U,U,U,U,U,U,U,U,U,U,U,U,U,U]/\Γ=[.box 28 (aq p)]/\(p.arrays.take k).all (fun a=>!(a.size==0))=true) ?_ X ?_ ?_ ?_
 ·exact lN
 ·exact jn
 ·rintro k _ _ au ⟨rfl,rfl,bj⟩;rw [dS] at au;obtain ⟨x,hx⟩:∃ x,p.arrays[k]?=some x:=⟨p.arrays[k],by simp [au]⟩
  have hr:(p.arrays.map bg)[k]?=some (bg x):=by rw [bp,hx];rfl
  have cl:=od (f:=fun a:Ar=>a.size==0) hx;have kC:=vS hx;have eN:=hb k;have sX:=dj x (bo hx);unfold bg at hr
  cases I:(x.size==0) with
  | true =>
   have:p.arrays.any (fun a=>a.size==0)=true:=sw.2 ⟨x,bo hx,I⟩;rw [this];exact ay
  | false =>
   rw [kC];generalize eU (p.arrays.take k)=c at *;refine D ?_;exact ⟨rfl,rfl,_,_,(Wk.cut (n:=1) (aS _) rfl).trans (Wk.aH ao),rfl,rfl,by rw [cl,bj,I];rfl⟩
 ·rintro _ _ ⟨rfl,rfl,bj⟩;rw [dS,c7] at bj |-
  have:p.arrays.any (fun a=>a.size==0)=false:=by
   rw [any_eq_false];rw [jb] at bj;intro x hx;simpa using bj x hx
  rw [this];have e1:decide (p.fns.length > 40)=decide ((40:Int) < ((p.fns.map aw).length:Int)):=decide_eq_decide.2 zg3;have e2:decide (p.globals.length > 29)=decide ((29:Int) < ((p.globals.map fun s=>[GV.v (sv s)]).length:Int)):=decide_eq_decide.2 (by rw [kQ];omega);have e3:decide (eU p.arrays > 8000)=decide ((8000:Int) < eU p.arrays):=rfl;rw [e1,e2,e3];generalize eU p.arrays=c at *;refine bc ?_
  cases I:decide ((40:Int) < ((p.fns.map aw).length:Int))
  all_goals cases G:decide ((29:Int) < ((p.globals.map fun s=>[GV.v (sv s)]).length:Int))
  all_goals cases h3:decide ((8000:Int) < c)
  all_goals
   refine D ?_
   first
    | (refine bY ?_;exact ⟨rfl,rfl⟩)
    | (refine kA [] hC ?_;refine D ?_;refine bY ?_;exact ⟨rfl,rfl⟩)
open Go.Xp (aB)
theorem GH (p:Src) (hF:GF prog 62 [.agg (aq p)] [] (.v (.bool false)) []):GF prog 26 [.agg (aq p)] [] (.tup [.v (ii 20),.v (ii 0)]) []:=by
 refine ai func26 ntmps26 ?_;refine V [] hF ?_;exact mn
theorem D3 (p:Src) (l:List T) (ns:List ae) (EC:ns.length<=8388608) (ki:p.fns.length=l.length) (jZ:p.fns.length<=1048576)
  (hF:GF prog 62 [.agg (aq p)] [] (.v (.bool true)) [])
  (hA:GC prog 63 [.agg (aq p)] [] fun g Δ=>∃ a c,g=.v (.slice a ns.length c)/\Δ=[.vech 9 1 (br ns) (.slice a ns.length c)])
  (hT:GF prog 65 [.agg (aq p)] [] (.v (.bool (jF p))) [])
  (hq:∀ i f t,p.fns[i]?=some f->l[i]?=some t->GF prog 68 [.agg (aq p),.v (ii (i:Nat))] [] (.tup [.v (ii (im p f t (aB (l.take i))).1),.v (ii (im p f t (aB (l.take i))).2)]) []) :
  GF prog 26 [.agg (aq p)] []
   (.tup [.v (ii (if fD ns=true then ((21,0):Int × Int) else if jF p=true then (26,0) else if p.fns.any qj=false then (25,0) else iq p p.fns l 0).1),.v (ii (if fD ns=true then ((21,0):Int × Int) else if jF p=true then (26,0) else if p.fns.any qj=false then (25,0) else iq p p.fns l 0).2)]) []:=by
 have dS:(ns.map fun s=>[GV.v (sv s)]).length=ns.length:=by simp
 have mT:(p.fns.map aw).length=p.fns.length:=by simp
 have hM:=xt (p8:=67) qj p.fns X (fun x _=>Uc x);generalize jF p=tm at *;refine ai func26 ntmps26 ?_;refine V [] hF ?_;refine bA [] hA ?_;rintro _ _ ⟨ad,cp,rfl,rfl⟩;refine bF ?_;refine GL.wk (Wk.tS (t:=14) (i:=1) rfl rfl rfl) ?_;refine GL.wk (Wk.cut (n:=1) (aS _) rfl) ?_;refine GL.wk (Wk.aH (cV:=[U,.loc 0 0,U,U,U,U,U,U,U,U,U,U,U,U,strs ns,U,U,U,U,U,U,U,U,U,U,U,U,U,U,U,U,U,U,U,U,U,U,U,U,U,U,U,U,U,U,U,U,U,U,U,U,U,U,U,U]) ao) ?_;refine zaN ?_;refine GW.range (ns.map fun s=>[GV.v (sv s)]).length (fun k fr Γ=>fr=[U,.loc 0 0,U,U,strs ns,U,U,U,U,U,U,U,U,U,U,strs ns,.v (ii ((ns.map fun s=>[GV.v (sv s)]).length:Int)),.v (ii (k:Nat)),U,U,U,U,U,U,U,U,U,U,U,U,U,U,U,U,U,U,U,U,U,U,U,U,U,U,U,U,U,U,U,U,U,U,U,U,U]/\Γ=[.box 28 (aq p)]/\∀ j,j < k->nJ ns j=false) ?_ X ?_ ?_ ?_
 ·exact zew
 ·exact jn
 ·rintro k _ _ au ⟨rfl,rfl,bj⟩;have lI:=au;rw [dS] at au;obtain ⟨x,hx⟩:∃ x,ns[k]?=some x:=⟨ns[k],by simp [au]⟩
  have Nh:(ns.map fun s=>[GV.v (sv s)])[k]?=some [.v (sv x)]:=by rw [bp,hx];rfl
  have hR:=St x;have hC:=ke (ns.take k) x zgA
  have hd:nJ ns k=(pJ x || (ns.take k).contains x):=by unfold nJ;rw [hx]
  unfold strs at hC;rw [map_take] at hC
  cases I:pJ x with
  | true =>
   rw [I] at hR hd
   have sR:fD ns=true:=by
    cases h:fD ns with
    | true=>rfl
    | false=>rw [FD.1 h k au] at hd;simp at hd
   rw [ah sR];refine zdF ?_;exact mn
  | false =>
   rw [I] at hR hd
   cases eM:(ns.take k).contains x with
   | true =>
    rw [eM] at hC hd
    have sR:fD ns=true:=by
     cases h:fD ns with
     | true=>rfl
     | false=>rw [FD.1 h k au] at hd;simp at hd
    rw [ah sR];refine zdF ?_;refine zch ?_;exact mn
   | false =>
    rw [eM] at hC hd;refine zdF ?_;refine zch ?_
    exact ⟨rfl,rfl,_,_,Wk.aH ao,rfl,rfl,fun j hj=>by
     rcases Nat.lt_succ_iff_lt_or_eq.1 hj with h | rfl
     ·exact bj j h
     ·exact hd⟩
 ·rintro _ _ ⟨rfl,rfl,bj⟩;rw [dS] at bj;rw [ab (show ¬ fD ns=true by rw [FD.2 bj];decide)];refine bc ?_
  cases tm with
  | true =>
   rw [ah rfl];refine D ?_;refine V [] hT ?_;exact mn
  | false =>
   rw [ab aD]
   cases hmn:p.fns.any qj with
   | false =>
    rw [hmn] at hM;rw [ah rfl];refine D ?_;refine V [] hT ?_;refine V [] hM ?_;exact mn
   | true =>
    rw [hmn] at hM;rw [ab aD];refine D ?_;refine V [] hT ?_;refine V [] hM ?_;refine GW.range (p.fns.map aw).length (fun k fr Γ=>fr=[U,.loc 0 0,U,U,U,U,U,U,U,U,U,U,U,U,U,U,U,U,U,U,U,U,U,U,U,U,U,U,U,U,U,U,U,U,U,U,U,U,U,.sl 3 (p.fns.map aw),.v (ii ((p.fns.map aw).length:Int)),.v (ii (k:Nat)),U,U,U,U,U,U,U,U,U,U,U,U,U]/\Γ=[.box 28 (aq p)]/\iq p p.fns l 0=iq p (p.fns.drop k) (l.drop k) (aB (l.take k))) ?_ X ?_ ?_ ?_
    ·exact ⟨_,_,Wk.aH ao,rfl,rfl,by rw [List.drop_zero,List.drop_zero,List.take_zero,aB]⟩
    ·exact jn
    ·rintro k _ _ au ⟨rfl,rfl,he⟩;rw [mT] at au;obtain ⟨f,hf⟩:∃ f,p.fns[k]?=some f:=⟨p.fns[k],by simp [au]⟩;obtain ⟨t,ht⟩:∃ t,l[k]?=some t:=⟨l[k]'X,bV _⟩;have hQ:=hq k f t hf ht
     have JM:p.fns.drop k=f::p.fns.drop (k+1):=by rw [n5 au];rw [bV au] at hf;rw [xY hf]
     have qb:l.drop k=t::l.drop (k+1):=by rw [n5 X];rw [bV X] at ht;rw [xY ht]
     rw [JM,qb,iq,<-V8 ht] at he
     cases I:((im p f t (aB (l.take k))).1 != 0) with
     | true =>
      rw [ah zgf] at he;rw [he];generalize im p f t (aB (l.take k))=r at *;refine D ?_;refine V [] hQ ?_;exact mn
     | false =>
      rw [ab zgf] at he;generalize im p f t (aB (l.take k))=r at *;refine D ?_;refine V [] hQ ?_;exact ⟨rfl,rfl,_,_,Wk.aH ao,rfl,rfl,he⟩
    ·rintro _ _ ⟨rfl,rfl,he⟩;rw [mT,drop_length,Jz] at he;rw [he];refine bc ?_;exact sH
theorem RI (p:Src) (c z:Int) (h:GF prog 26 [.agg (aq p)] [] (.tup [.v (ii c),.v (ii z)]) []):GF prog 46 [.agg (aq p)] [] (.v (.bool (c==0))) []:=by
 refine ai func46 ntmps46 ?_;exact za0
end Go.Xg
set_option maxHeartbeats 2000000
namespace Go.Xg
open Go.RowKit Go.Xw Go.Proofs Tryz Go.Im
open GV (U)
open Go.Xp (Ar)
open Go.Sp (Src)
attribute [local irreducible] GW GL GO YG GC GA aU aW
def cC (p:Src) (h:Value) (c:SS):List GV:=[strs p.globals,.sl 2 (p.arrays.map bg),.sl 3 (p.fns.map aw),.sl 5 (p.nodes.map aV),.v h,.v (ii c.code),.v (ii c.at_)]
theorem kF (p:Src) (h:Value) (c:SS) (k z:Int):GF prog 232 [.loc 0 0,.v (ii k),.v (ii z)] [.box 160 (cC p h c)] (.tup []) [.box 160 (cC p h (c.fail k z))]:=by
 unfold SS.fail
 cases hc:(c.code==0) with
 | true =>
  rw [ah zgx];unfold cC;refine ai func232 ntmps232 ?_;exact iy
 | false =>
  rw [ab zgx];unfold cC;refine ai func232 ntmps232 ?_;exact iy
theorem Px (s:ae):GF prog 231 [.v (sv s)] [] (.v (.bool (pJ s))) []:=by
 unfold pJ so tO eA
 cases I:(s==[103,101,116])
 all_goals cases G:(s==[112,117,116])
 all_goals
  refine ai func231 ntmps231 ?_;exact al
theorem ES (p:Src) (s:ae) (hn:p.arrays.length<=1099511627776):GF prog 233 [.agg (aq p),.v (sv s)] [] (.v (ii (du (fun x:Ar=>x.name==s) p.arrays))) []:=by
 have dS:(p.arrays.map bg).length=p.arrays.length:=by simp
 refine ai func233 ntmps233 ?_;refine GW.range (p.arrays.map bg).length (fun k fr Γ=>fr=[U,.v (sv s),.loc 0 0,U,U,U,U,U,.sl 2 (p.arrays.map bg),.v (ii ((p.arrays.map bg).length:Int)),.v (ii (k:Nat)),U,U,U,U,U,U,U,U,U,U]/\Γ=[.box 28 (aq p)]/\(p.arrays.take k).all (fun y=>!(y.name==s))=true) ?_ X ?_ ?_ ?_
 ·exact lN
 ·exact jn
 ·rintro k _ _ au ⟨rfl,rfl,bj⟩;rw [dS] at au;obtain ⟨x,dE⟩:∃ x,p.arrays[k]?=some x:=⟨p.arrays[k],by simp [au]⟩
  have hr:(p.arrays.map bg)[k]?=some (bg x):=by rw [bp,dE];rfl
  have cl:=od (f:=fun y:Ar=>y.name==s) dE
  have hit:=fun h0=>nQ (f:=fun y:Ar=>y.name==s) dE h0 bj
  unfold bg at hr
  cases hb:(x.name==s) with
  | true =>
   rw [hit hb];exact ay
  | false =>
   exact zcY
 ·rintro _ _ ⟨rfl,rfl,bj⟩;exact zbk
theorem FZ (p:Src) (s:ae) (hn:p.fns.length<=1099511627776):GF prog 176 [.agg (aq p),.v (sv s)] [] (.v (ii (du (fun x:Go.Sp.Fn=>x.name==s) p.fns))) []:=by
 have dS:(p.fns.map aw).length=p.fns.length:=by simp
 refine ai func176 ntmps176 ?_;refine GW.range (p.fns.map aw).length (fun k fr Γ=>fr=[U,.v (sv s),.loc 0 0,U,U,U,U,U,.sl 3 (p.fns.map aw),.v (ii ((p.fns.map aw).length:Int)),.v (ii (k:Nat)),U,U,U,U,U,U,U,U,U,U]/\Γ=[.box 28 (aq p)]/\(p.fns.take k).all (fun y=>!(y.name==s))=true) ?_ X ?_ ?_ ?_
 ·exact lN
 ·exact jn
 ·rintro k _ _ au ⟨rfl,rfl,bj⟩;rw [dS] at au;obtain ⟨x,dE⟩:∃ x,p.fns[k]?=some x:=⟨p.fns[k],by simp [au]⟩
  have hr:(p.fns.map aw)[k]?=some (aw x):=by rw [bp,dE];rfl
  have cl:=od (f:=fun y:Go.Sp.Fn=>y.name==s) dE
  have hit:=fun h0=>nQ (f:=fun y:Go.Sp.Fn=>y.name==s) dE h0 bj
  unfold aw at hr
  cases hb:(x.name==s) with
  | true =>
   rw [hit hb];exact ay
  | false =>
   exact zcY
 ·rintro _ _ ⟨rfl,rfl,bj⟩;exact zbk
theorem Ab (l:List Int) (n:Int) (hn:l.length<=1099511627776):GF prog 55 [ints l,.v (ii n)] [] (.v (.bool (l.contains n))) []:=by
 have dS:(l.map fun i=>[GV.v (ii i)]).length=l.length:=by simp
 refine ai func55 ntmps55 ?_;refine GW.range (l.map fun i=>[GV.v (ii i)]).length (fun k fr Γ=>fr=[ints l,.v (ii n),U,U,U,U,U,ints l,.v (ii ((l.map fun i=>[GV.v (ii i)]).length:Int)),.v (ii (k:Nat)),U,U,U,U,U,U,U]/\Γ=[]/\(l.take k).contains n=false) ?_ X ?_ ?_ ?_
 ·exact lN
 ·exact jn
 ·rintro k _ _ au ⟨rfl,rfl,hc⟩;rw [dS] at au;obtain ⟨x,dE⟩:∃ x,l[k]?=some x:=⟨l[k],by simp [au]⟩;have hr:=pd dE
  have cl:(l.take (k+1)).contains n=((l.take k).contains n || (x==n)):=by
   rw [dk,dE,List.contains_append];show (_ || [x].contains n)=_
   congr 1
   exact zb6
  have hm:=bo dE
  cases hb:(x==n) with
  | true =>
   have h3:x=n:=by simpa using hb
   rw [show l.contains n=true by rw [<-h3];exact ea.2 hm];exact ay
  | false =>
   refine D ?_;exact ⟨rfl,rfl,_,_,Wk.aH ao,rfl,rfl,by rw [cl,hc,hb];rfl⟩
 ·rintro _ _ ⟨rfl,rfl,hc⟩;rw [dS,c7] at hc;rw [hc];exact ay
end Go.Xg
set_option maxHeartbeats 4000000
namespace Go.Im
open Go.Xp Go.Sp
def A2 (l:List ae) (k:Nat):Bool:=(List.range k).any (rq l)
theorem G2 (l:List ae) (k:Nat):A2 l (k+1)=(A2 l k || rq l k):=by
 unfold A2;rw [List.range_succ,any_append];simp
def nG (f:Go.Sp.Fn) (c:SS) (k:Nat):SS:=⟨f.params.take k,if A2 f.params k=true then jk c.code 21 else c.code,if A2 f.params k=true/\c.code=0 then 0 else c.at_⟩
theorem VO {f:Go.Sp.Fn} {c:SS} {k:Nat} (h:rq f.params k=true):(nG f c (k+1)).code=((nG f c k).fail 21 0).code/\(nG f c (k+1)).at_=((nG f c k).fail 21 0).at_:=by
 unfold nG SS.fail;simp only [G2,h,Bool.or_true,true_and,if_true];unfold jk
 cases A2 f.params k <;> by_cases h0:c.code=0 <;> simp [h0]
theorem Te {f:Go.Sp.Fn} {c:SS} {k:Nat} (h:rq f.params k=false):(nG f c (k+1)).code=(nG f c k).code/\(nG f c (k+1)).at_=(nG f c k).at_:=by
 unfold nG;simp only [G2,h,Bool.or_false,and_self]
end Go.Im
namespace Go.Xg
open Go.RowKit Go.Xw Go.Proofs Tryz Go.Im
open GV (U)
open Go.Sp (Src)
attribute [local irreducible] GW GL GO YG GC GA aU aW
theorem L3 (p:Src) (h0:Value) (c:SS) (f:Go.Sp.Fn) (qx:f.params.length<=1048576) :
  GC prog 174 [.loc 0 0,.agg (aw f)] [.box 160 (cC p h0 c)] fun g Δ=>g=.tup []/\∃ ad cp,Δ=[.box 160 (cC p (.slice ad f.params.length cp) (tQ f c)),.vech 9 1 (br f.params) (.slice ad f.params.length cp)]:=by
 have dS:(f.params.map fun s=>[GV.v (sv s)]).length=f.params.length:=by simp
 have sA:tQ f c=⟨f.params,(nG f c f.params.length).code,(nG f c f.params.length).at_⟩:=by
  unfold tQ nG A2 yd;rfl
 rw [sA]
 have tH:(nG f c 0).code=c.code/\(nG f c 0).at_=c.at_:=by unfold nG A2;simp
 rw [show cC p h0 c=cC p h0 (nG f c 0) by unfold cC;rw [tH.1,tH.2]];unfold cC aw;refine dh func174 ntmps174 ?_;refine GW.wk (Wk.gK 9 1) ?_;simp only [cons_append,nil_append];refine D ?_;refine GW.range (f.params.map fun s=>[GV.v (sv s)]).length (fun k fr Γ=>∃ ad cp R n B,fr=[.loc 0 0,U,U,.loc 2 0,U,U,U,U,U,U,strs f.params,.v (ii ((f.params.map fun s=>[GV.v (sv s)]).length:Int)),.v (ii (k:Nat)),U,U,U,U,U,U,U,U,U,U,U,U,U,U,U,U,U,U,U,U,U,U]/\Γ=[.box 160 (cC p (.slice ad n cp) (nG f c k)),.vech 9 1 R (.slice ad n cp),B]/\R.length=n/\R=br (f.params.take k)) ?_ X ?_ ?_ ?_
 ·exact ⟨_,_,Wk.aH ao,none,0,[],0,_,rfl,rfl,rfl,by simp [br]⟩
 ·rintro k _ _ ⟨ad,cp,R,n,B,rfl,rfl,_⟩;exact dr
 ·rintro k _ _ au ⟨ad,cp,R,n,B,rfl,rfl,mR,hR⟩;rw [dS] at au;obtain ⟨x,hx⟩:∃ x,f.params[k]?=some x:=⟨f.params[k],by simp [au]⟩
  have Nh:(f.params.map fun s=>[GV.v (sv s)])[k]?=some [.v (sv x)]:=by rw [bp,hx];rfl
  have cl:br (f.params.take (k+1))=R++[[.v (sv x)]]:=by rw [dk,hx,hR];simp [br]
  have uh:n<=1048576:=by rw [<-mR,hR,mO,gE];omega
  have hL:GF prog 197 [.sl 1 R,.v (sv x)] [] (.v (.bool ((f.params.take k).contains x))) []:=by
   rw [hR];exact lh (f.params.take k) x zgA
  have hd:rq f.params k=(f.params.take k).contains x:=by unfold rq;rw [hx]
  rw [<-hd] at hL;have kh:=kF p (.slice ad n cp) (nG f c k) 21 0;clear hR
  cases hb:rq f.params k with
  | true =>
   rw [hb] at hL;obtain ⟨e1,e2⟩:=VO (c:=c) hb;unfold cC at kh |-;rw [e1,e2];generalize (nG f c k).fail 21 0=s1 at *;generalize nG f c k=s0 at *;refine D ?_;refine GL.borrow hL (fun B K β w l hI hF=>fx (A:=[_]) (C:=[_]) hI hF rfl rfl) ?_;refine zaN ?_;refine V [0] kh ?_;exact zcH
  | false =>
   rw [hb] at hL;obtain ⟨e1,e2⟩:=Te (c:=c) hb;unfold cC at kh |-;rw [e1,e2];generalize nG f c k=s0 at *;refine D ?_;refine GL.borrow hL (fun B K β w l hI hF=>fx (A:=[_]) (C:=[_]) hI hF rfl rfl) ?_;refine zaN ?_;exact zcH
 ·rintro _ _ ⟨ad,cp,R,n,B,rfl,rfl,mR,hR⟩;rw [dS] at hR |-;rw [c7] at hR
  have uj:n=f.params.length:=by rw [<-mR,hR,mO]
  subst uj;refine zdO ?_;exact aai (n:=2) rfl cB (c6 rfl) rfl ⟨rfl,ad,cp,by rw [hR];rfl⟩
open Go.Xp (Nd T)
def cO (p:Src) (c:SS) (ls:List ae) (ad:Option Addr) (cp:Nat):List Ob:=[.box 160 (cC p (.slice ad ls.length cp) c),.vech 9 1 (br ls) (.slice ad ls.length cp)]
theorem LZ (p:Src) (c:SS) (n:Nd) (l:List T) (ad:Option Addr) (cp:Nat) (I:(n.s==[103,101,116])=true) (hl:l.length<=1099511627776) :
  GF prog 234 [.loc 0 0,.agg (cT (.mk n l))] (cO p c c.ls ad cp) (.v (.bool true)) (cO p (gk c n l.length 0) c.ls ad cp):=by
 have eH:(ba l).length=l.length:=bh l;unfold cO;unfold gk;show GF _ _ _ _ (.v (.bool true)) [.box _ (cC p _ (if l.length≠0 then _ else _)),_];have kh:=kF p (.slice ad c.ls.length cp) c 23 n.at_;unfold cC at kh |-
 cases hk:(((ba l).length:Int) != ((0:Nat):Int)) with
 | true =>
  rw [ah (show l.length≠0 by rw [eH,bne_iff_ne] at hk;omega)];exact zen
 | false =>
  rw [ab (show ¬ l.length≠0 by rw [eH,bne_eq_false_iff_eq] at hk;omega)];refine ai func234 ntmps234 ?_;exact al
theorem L1 (p:Src) (c:SS) (n:Nd) (l:List T) (ad:Option Addr) (cp:Nat) (I:(n.s==[103,101,116])=false) (G:(n.s==[112,117,116])=true) (hl:l.length<=1099511627776) :
  GF prog 234 [.loc 0 0,.agg (cT (.mk n l))] (cO p c c.ls ad cp) (.v (.bool true)) (cO p (gk c n l.length 1) c.ls ad cp):=by
 have eH:(ba l).length=l.length:=bh l;unfold cO;unfold gk;show GF _ _ _ _ (.v (.bool true)) [.box _ (cC p _ (if l.length≠1 then _ else _)),_];have kh:=kF p (.slice ad c.ls.length cp) c 23 n.at_;unfold cC at kh |-
 cases hk:(((ba l).length:Int) != ((1:Nat):Int)) with
 | true =>
  rw [ah (show l.length≠1 by rw [eH,bne_iff_ne] at hk;omega)];exact zen
 | false =>
  rw [ab (show ¬ l.length≠1 by rw [eH,bne_eq_false_iff_eq] at hk;omega)];refine ai func234 ntmps234 ?_;exact al
theorem Pu (p:Src) (c:SS) (n:Nd) (l:List T) (ad:Option Addr) (cp:Nat) (I:(n.s==[103,101,116])=false) (G:(n.s==[112,117,116])=false) (h3:(n.s==[115,105,122,101])=false) (hl:l.length<=1099511627776)
  (hF:GF prog 176 [.agg (aq p),.v (sv n.s)] [] (.v (ii (-1))) []) :
  GF prog 234 [.loc 0 0,.agg (cT (.mk n l))] (cO p c c.ls ad cp) (.v (.bool false)) (cO p (c.fail 22 n.at_) c.ls ad cp):=by
 have kh:=kF p (.slice ad c.ls.length cp) c 22 n.at_
 have hd:decide ((-1:Int) < 0)=true:=by decide
 unfold cO;unfold cC at kh |-;generalize c.fail 22 n.at_=c1 at *;exact zdP
theorem Pt (p:Src) (c:SS) (n:Nd) (l:List T) (i:Nat) (f:Go.Sp.Fn) (ad:Option Addr) (cp:Nat) (I:(n.s==[103,101,116])=false) (G:(n.s==[112,117,116])=false) (h3:(n.s==[115,105,122,101])=false) (hl:l.length<=1099511627776)
  (hf:p.fns[i]?=some f) (hF:GF prog 176 [.agg (aq p),.v (sv n.s)] [] (.v (ii ((i:Nat):Int))) []) :
  GF prog 234 [.loc 0 0,.agg (cT (.mk n l))] (cO p c c.ls ad cp) (.v (.bool true)) (cO p (gk c n l.length f.params.length) c.ls ad cp):=by
 have eH:(ba l).length=l.length:=bh l
 have hd:decide (((i:Nat):Int) < 0)=false:=by simp
 have hr:(p.fns.map aw)[i]?=some (aw f):=by rw [bp,hf];rfl
 have cH:(f.params.map fun s=>[GV.v (sv s)]).length=f.params.length:=by simp
 unfold aw at hr;rw [<-cH];unfold cO;unfold gk;show GF _ _ _ _ (.v (.bool true)) [.box _ (cC p _ (if l.length≠(f.params.map fun s=>[GV.v (sv s)]).length then _ else _)),_];have kh:=kF p (.slice ad c.ls.length cp) c 23 n.at_;unfold cC at kh |-
 cases hk:(((ba l).length:Int) != (((f.params.map fun s=>[GV.v (sv s)]).length:Nat):Int)) with
 | true =>
  rw [ah (show l.length≠(f.params.map fun s=>[GV.v (sv s)]).length by rw [eH,bne_iff_ne] at hk;omega)];generalize c.fail 23 n.at_=c1 at *;exact zdP
 | false =>
  rw [ab (show ¬ l.length≠(f.params.map fun s=>[GV.v (sv s)]).length by rw [eH,bne_eq_false_iff_eq] at hk;omega)];refine ai func234 ntmps234 ?_;refine zbD ?_;refine aC [] hF ?_;exact ay
open Go.Xp (Ar)
theorem Ia (p:Src) (c:SS) (n:Nd) (u:T) (ad:Option Addr) (cp:Nat) (I:(n.s==[103,101,116])=false) (G:(n.s==[112,117,116])=false) (h3:(n.s==[115,105,122,101])=true) (lx:p.arrays.length<=1099511627776) (gW:c.ls.length<=1099511627776) :
  GF prog 234 [.loc 0 0,.agg (cT (.mk n [u]))] (cO p c c.ls ad cp) (.v (.bool false)) (cO p (if gM p u.n c.ls=true then c.fail 24 n.at_ else c) c.ls ad cp):=by
 have sU:(ba [u])[0]?=some (cT u):=dB rfl;have hA:=ES p u.n.s lx;have hL:=lh c.ls u.n.s gW;have kh:=kF p (.slice ad c.ls.length cp) c 24 n.at_;rw [show gM p u.n c.ls=((u.n.kind != 2 || decide (du (fun x:Ar=>x.name==u.n.s) p.arrays < 0)) || c.ls.contains u.n.s) from rfl];generalize du (fun x:Ar=>x.name==u.n.s) p.arrays=z at *;unfold cO;unfold cC at kh |-
 cases h4:(u.n.kind != 2) with
 | true =>
  rw [ah zg6];generalize c.fail 24 n.at_=c1 at *;refine ai func234 ntmps234 ?_;refine zbe ?_;refine aj ?_;refine bm ?_;exact zcc
 | false =>
  cases h5:decide (z < 0) with
  | true =>
   rw [ah zg6];generalize c.fail 24 n.at_=c1 at *;refine ai func234 ntmps234 ?_;refine zbe ?_;refine aj ?_;refine bZ [] hA ?_;refine bm ?_;exact zcc
  | false =>
   generalize c.ls.contains u.n.s=b at *
   cases b with
   | true =>
    rw [ah zg6];generalize c.fail 24 n.at_=c1 at *;refine ai func234 ntmps234 ?_;refine zbe ?_;refine aj ?_;refine bZ [] hA ?_;refine Qs rfl rfl rfl zgw (GL.borrow hL (fun B K β w l hI hF=>fx (A:=[_]) (C:=[_]) hI hF rfl rfl) ?_);refine zaL ?_;exact zcc
   | false =>
    rw [ab aD];refine ai func234 ntmps234 ?_;refine zbe ?_;refine aj ?_;refine bZ [] hA ?_;refine Qs rfl rfl rfl zgw (GL.borrow hL (fun B K β w l hI hF=>fx (A:=[_]) (C:=[_]) hI hF rfl rfl) ?_);refine cy ?_;exact zbU
theorem Ib (p:Src) (c:SS) (n:Nd) (l:List T) (ad:Option Addr) (cp:Nat) (I:(n.s==[103,101,116])=false) (G:(n.s==[112,117,116])=false) (h3:(n.s==[115,105,122,101])=true) (hl:l.length≠1) :
  GF prog 234 [.loc 0 0,.agg (cT (.mk n l))] (cO p c c.ls ad cp) (.v (.bool false)) (cO p (c.fail 23 n.at_) c.ls ad cp):=by
 have kh:=kF p (.slice ad c.ls.length cp) c 23 n.at_;have eH:(ba l).length=l.length:=bh l
 have g1:(((ba l).length:Int)==1)=false:=by rw [eH,beq_eq_false_iff_ne];omega
 have g2:(((ba l).length:Int) != 1)=true:=by rw [eH,bne_iff_ne];omega
 unfold cO;unfold cC at kh |-;generalize c.fail 23 n.at_=c1 at *;refine ai func234 ntmps234 ?_;refine zbe ?_;refine bm ?_;exact zcc
theorem SD (p:Src) (c:SS) (t:T) (ad:Option Addr) (cp:Nat) (lx:p.arrays.length<=1099511627776) (jZ:p.fns.length<=1099511627776) (gW:c.ls.length<=1099511627776) (hl:t.kids.length<=1099511627776) :
  GF prog 234 [.loc 0 0,.agg (cT t)] (cO p c c.ls ad cp) (.v (.bool (iz p c t).2)) (cO p (iz p c t).1 c.ls ad cp):=by
 cases t with
 | mk n l =>
 have hl:l.length<=1099511627776:=hl
 cases I:(n.s==[103,101,116]) with
 | true =>
  have e:iz p c (.mk n l)=(gk c n l.length 0,true):=by
   unfold iz so;exact ah (show n.s=_ by simpa using I)
  rw [e];exact LZ p c n l ad cp I hl
 | false =>
  have n1:¬ n.s=[103,101,116]:=by simpa using I
  cases G:(n.s==[112,117,116]) with
  | true =>
   have e:iz p c (.mk n l)=(gk c n l.length 1,true):=by
    unfold iz so tO;rw [ab (show ¬ (T.mk n l).n.s=_ from n1)];exact ah (show n.s=_ by simpa using G)
   rw [e];exact L1 p c n l ad cp I G hl
  | false =>
   have n2:¬ n.s=[112,117,116]:=by simpa using G
   cases h3:(n.s==[115,105,122,101]) with
   | true =>
    have e:iz p c (.mk n l)=(gk (if l.length=1/\gM p (pK (.mk n l)) c.ls=true then c.fail 24 n.at_ else c) n l.length 1,false):=by
     unfold iz so tO eA;rw [ab (show ¬ (T.mk n l).n.s=_ from n1),ab (show ¬ (T.mk n l).n.s=_ from n2)];exact ah (show n.s=_ by simpa using h3)
    rw [e]
    by_cases hk:l.length=1
    ·obtain ⟨u,rfl⟩:∃ u,l=[u]:=by
      match l,hk with
      | [u],_=>exact ⟨u,rfl⟩
     have e2:gk (if [u].length=1/\gM p (pK (.mk n [u])) c.ls=true then c.fail 24 n.at_ else c) n [u].length 1=(if gM p u.n c.ls=true then c.fail 24 n.at_ else c):=by
      unfold gk;rw [ab zf8];show (if _/\gM p u.n c.ls=true then _ else _)=_
      by_cases hb:gM p u.n c.ls=true
      ·rw [ah hb];exact ah ⟨rfl,hb⟩
      ·rw [ab hb];exact ab fun h=>hb h.2
     rw [e2];exact Ia p c n u ad cp I G h3 lx gW
    ·have e2:gk (if l.length=1/\gM p (pK (.mk n l)) c.ls=true then c.fail 24 n.at_ else c) n l.length 1=c.fail 23 n.at_:=by
      rw [ab fun h=>hk h.1];unfold gk;exact ah hk
     rw [e2];exact Ib p c n l ad cp I G h3 hk
   | false =>
    have n3:¬ n.s=[115,105,122,101]:=by simpa using h3
    have hF:=FZ p n.s jZ;unfold du at hF
    cases hx:p.fns.findIdx? (fun f:Go.Sp.Fn=>f.name==n.s) with
    | none =>
     rw [hx] at hF
     have e:iz p c (.mk n l)=(c.fail 22 n.at_,false):=by
      refine zbo ?_;rfl
     rw [e];exact Pu p c n l ad cp I G h3 hl hF
    | some i =>
     rw [hx] at hF;have hi:i < p.fns.length:=(List.findIdx?_eq_some_iff_getElem.1 hx).1;obtain ⟨f,hf⟩:∃ f,p.fns[i]?=some f:=⟨p.fns[i],by simp [hi]⟩
     have e:iz p c (.mk n l)=(gk c n l.length f.params.length,true):=by
      refine zbo ?_;show (gk c n l.length (o7 p i),true)=_;unfold o7;rw [hf]
     rw [e];exact Pt p c n l i f ad cp I G h3 hl hf hF
end Go.Xg
namespace Go.Im
open Go.Xp Go.Sp
theorem Hz (p:Src) (u:T):∀ (l:List T) (c:SS),kK p (l++[u]) c=qH p u (kK p l c)
 | [],c=>by rw [nil_append,kK,kK,kK]
 | t::l,c=>by rw [cons_append,kK,kK,Hz p u l]
theorem S5 (p:Src) {l:List T} {k:Nat} {u:T} (h:l[k]?=some u) (c:SS):kK p (l.take (k+1)) c=qH p u (kK p (l.take k) c):=by
 rw [dk,h];exact Hz p u _ c
theorem Wd (c:SS) (n:Nd):(pk c n).ls.length<=c.ls.length+1:=by
 unfold pk;split
 ·omega
 split
 ·simp [SS.ru]
 split
 ·simp [SS.ru]
 ·simp
mutual
theorem YV (p:Src):∀ (t:T) (c:SS),(qH p t c).ls.length<=c.ls.length+aQ t
 | .mk n l,c=>by
  rw [qH,aQ];refine jV (Wd _ _) ?_;split
  ·have:=Ag p l (mf p c (.mk n l)).1;rw [zf] at this;omega
  ·rw [zf];omega
theorem Ag (p:Src):∀ (l:List T) (c:SS),(kK p l c).ls.length<=c.ls.length+aB l
 | [],c=>by rw [kK,aB];omega
 | t::r,c=>by
  rw [kK,aB];have I:=Ag p r (qH p t c);have G:=YV p t c;omega
end
theorem Yq (k e:Int) (he:e≠0):jk (jk k e) e=jk k e:=by unfold jk;by_cases h:k=0 <;> simp [h,he]
theorem UQ (p:Src) (l:List T) (c:SS):qR p [] l c=c:=by unfold qR;rfl
end Go.Im
namespace Go.Xg
open Go.RowKit Go.Xw Go.Proofs Tryz Go.Im
open GV (U)
open Go.Xp (Nd T Ar aQ aB eI)
open Go.Sp (Src)
attribute [local irreducible] GW GL GO YG GC GA aU aW
theorem SE (p:Src) (lx:p.arrays.length<=1099511627776) (jZ:p.fns.length<=1099511627776) (kQ:p.globals.length<=1099511627776):∀ (N:Nat) (t:T),aQ t<=N->∀ (c:SS) (ad:Option Addr) (cp:Nat),c.ls.length+aQ t<=8388608 ->
  GC prog 175 [.loc 0 0,.agg (cT t)] (cO p c c.ls ad cp) fun g Δ=>g=.tup []/\∃ iL iM,Δ=cO p (qH p t c) (qH p t c).ls iL iM:=by
 intro N
 induction N with
 | zero=>intro t h;exact zcF
 | succ N ih =>
 intro t hN c ad cp gW
 cases t with
 | mk n l =>
 rw [Go.Xp.aQ] at hN gW;have nS:=eI l;have eH:(ba l).length=l.length:=bh l;rw [qH];have cH:=zf p c (.mk n l);have hL:=lh c.ls n.s X;have hG:=lh p.globals n.s kQ;have hA:=ES p n.s lx;have hC:=SD p c (.mk n l) ad cp lx jZ X (by show l.length<=_;omega);have WQ:=kF p (.slice ad c.ls.length cp) c 22 n.at_;have M0:=kF p (.slice ad c.ls.length cp) c 24 n.at_
 have he:mf p c (.mk n l)=(if n.kind=2\/n.kind=7 then (if c.ls.contains n.s=false/\p.globals.contains n.s=false then c.fail 22 n.at_ else c,true)
  else if n.kind=3\/n.kind=8 then (if c.ls.contains n.s=true\/du (fun x:Ar=>x.name==n.s) p.arrays < 0 then c.fail 24 n.at_ else c,true)
  else if n.kind=4 then iz p c (.mk n l) else (c,true)):=rfl
 obtain ⟨P,hP⟩:∃ P,mf p c (.mk n l)=P:=⟨_,rfl⟩;rw [hP] at he cH |-;unfold cO at hC |-;unfold cC at hC WQ M0 |-;refine ai func175 ntmps175 ?_;refine aM (ax 0 6 (.a 6 (.q 7 .nil))) ?_;refine aj ?_;refine OA rfl rfl (GL.borrow hL (fun B K β w l hI hF=>fx (A:=[_]) (C:=[_,_]) hI hF rfl rfl) ?_);refine zdi ?_;refine Oh ?_;refine GW.join (fun fr Γ=>fr=[.loc 0 0,U,U,.loc 2 0,.loc 3 0,U,.v (.bool P.2),U,U,U,U,U,U,U,U,U,U,U,U,U,U,U,U,U,U,U,U,U,U,U,U,U,U,U,U,U,U,U,U,U,U,U,U,U,U,U,U,U,U,U,U,U,U,U,U,U,U,U,U,U,U,U,U,U,U,U,U,U,U,U,U,U,U,U,U,U,U,U,U,U,U,U,U,U,U,U,U,U,U,U,U,U,U,U,U,U,U,U,U,U,U,U,U,U,U,U,U,U,U,U]/\Γ=[.box 160 (cC p (.slice ad c.ls.length cp) P.1),.vech 9 1 (br c.ls) (.slice ad c.ls.length cp),.box 86 (cT (.mk n l)),.box 78 (aV n)]) ?_ ?_
 ·obtain ⟨kd,at_,nn,s,ks⟩:=n;simp only at *;unfold cC;generalize iz p c (.mk ⟨kd,at_,nn,s,ks⟩ l)=cs at *;generalize du (fun x:Ar=>x.name==s) p.arrays=z at *;generalize c.ls.contains s=b at *;generalize p.globals.contains s=g at *;generalize c.fail 22 at_=c22 at *;generalize c.fail 24 at_=c24 at *
  by_cases G:kd=2
  ·subst G
   have q2:((2:Int)==2)=true:=by decide
   rw [ah aD] at he;subst he
   cases b with
   | true =>
    refine za2 ?_;refine bm ?_;exact jo
   | false =>
    cases g with
    | true =>
     refine za2 ?_;refine aj ?_;refine bZ [] hG ?_;exact jx
    | false =>
     exact zdL
  by_cases h7:kd=7
  ·subst h7
   have q2:((7:Int)==2)=false:=by decide
   have q7:((7:Int)==7)=true:=by decide
   rw [ah aD] at he;subst he
   cases b with
   | true =>
    refine za2 ?_;refine bm ?_;exact jo
   | false =>
    cases g with
    | true =>
     refine za2 ?_;refine aj ?_;refine bZ [] hG ?_;exact jx
    | false =>
     exact zdL
  rw [ab (by rintro (h | h);(· exact G h);exact h7 h)] at he
  by_cases h3:kd=3
  ·subst h3
   have q2:((3:Int)==2)=false:=by decide
   have q7:((3:Int)==7)=false:=by decide
   have q3:((3:Int)==3)=true:=by decide
   rw [ah aD] at he
   cases b with
   | true =>
    exact zcR
   | false =>
    cases hz:decide (z < 0) with
    | true =>
     exact zc8
    | false =>
     exact zdf
  by_cases h8:kd=8
  ·subst h8
   have q2:((8:Int)==2)=false:=by decide
   have q7:((8:Int)==7)=false:=by decide
   have q3:((8:Int)==3)=false:=by decide
   have q8:((8:Int)==8)=true:=by decide
   rw [ah aD] at he
   cases b with
   | true =>
    exact zcR
   | false =>
    cases hz:decide (z < 0) with
    | true =>
     exact zc8
    | false =>
     exact zdf
  rw [ab (by rintro (h | h);(· exact h3 h);exact h8 h)] at he
  by_cases h4:kd=4
  ·subst h4
   have q2:((4:Int)==2)=false:=by decide
   have q7:((4:Int)==7)=false:=by decide
   have q3:((4:Int)==3)=false:=by decide
   have q8:((4:Int)==8)=false:=by decide
   have q4:((4:Int)==4)=true:=by decide
   rw [ah rfl] at he;subst he;refine D ?_;refine V [0,1] hC ?_;exact jo
  rw [ab h4] at he;subst he
  have q2:(kd==2)=false:=by simpa using G
  have q7:(kd==7)=false:=by simpa using h7
  have q3:(kd==3)=false:=by simpa using h3
  have q8:(kd==8)=false:=by simpa using h8
  have q4:(kd==4)=false:=by simpa using h4
  exact jx
 ·rintro _ _ ⟨rfl,rfl⟩;clear he hC WQ M0;obtain ⟨c1,d⟩:=P;simp only at cH |-;rw [<-cH] at gW;rw [show cC p (.slice ad c.ls.length cp) c1=cC p (.slice ad c1.ls.length cp) c1 by rw [cH],<-cH];clear hL;refine D ?_;refine GW.range (ba l).length (fun k fr Γ=>∃ ad cp c2,fr=[.loc 0 0,U,U,.loc 2 0,.loc 3 0,U,.v (.bool d),U,U,U,U,U,U,U,U,U,U,U,U,U,U,U,U,U,U,U,U,U,U,U,U,U,U,U,U,U,U,U,U,U,U,U,U,U,U,U,U,U,U,U,U,U,U,U,U,U,U,U,U,U,U,U,U,U,.sl 6 (ba l),.v (ii ((ba l).length:Int)),.v (ii (k:Nat)),U,U,U,U,U,U,U,U,U,U,U,U,U,U,U,U,U,U,U,U,U,U,U,U,U,U,U,U,U,U,U,U,U,U,U,U,U,U,U,U,U,U,U]/\Γ=[.box 160 (cC p (.slice ad c2.ls.length cp) c2),.vech 9 1 (br c2.ls) (.slice ad c2.ls.length cp),.box 86 (cT (.mk n l)),.box 78 (aV n)]/\c2=(if d=true then kK p (l.take k) c1 else c1)) ?_ X ?_ ?_ ?_
  ·exact ⟨_,_,Wk.aH ao,ad,cp,c1,rfl,rfl,by cases d <;> simp [kK]⟩
  ·rintro k _ _ ⟨ad,cp,c2,rfl,rfl,_⟩;exact dr
  ·rintro k _ _ au ⟨ad,cp,c2,rfl,rfl,mu⟩;rw [eH] at au;obtain ⟨u,hu⟩:∃ u,l[k]?=some u:=⟨l[k],by simp [au]⟩;have hr:=dB hu;have dj:=ku hu
   cases d with
   | false =>
    refine D ?_;exact ⟨rfl,rfl,_,_,(Wk.cut (n:=4) (c6 rfl) rfl).trans (Wk.aH ao),ad,cp,c2,rfl,rfl,mu⟩
   | true =>
    rw [ah rfl] at mu;have hlen:=Ag p (l.take k) c1;rw [<-mu] at hlen;have hi:=ih u X c2 ad cp X;unfold cO at hi;rw [ah rfl,S5 p hu,<-mu];refine D ?_;refine bA [0,1] hi ?_;rintro _ _ ⟨rfl,iL,iM,rfl⟩;refine zas ?_;exact ⟨rfl,rfl,_,_,(Wk.cut (n:=4) (c6 rfl) rfl).trans (Wk.aH ao),iL,iM,_,rfl,rfl,rfl⟩
  ·rintro _ _ ⟨ad,cp,c2,rfl,rfl,mu⟩;rw [eH,c7] at mu;rw [<-mu]
   have hlen:c2.ls.length<=8388608:=by
    rw [mu];split
    ·have:=Ag p l c1;omega
    ·omega
   clear mu ih;refine bc ?_;have hL:=lh c2.ls n.s X;have vn:=mO c2.ls;have MZ:=kF p (.slice ad c2.ls.length cp) c2 21 n.at_;have h26:=kF p (.slice ad c2.ls.length cp) c2 26 n.at_;have l21:=c2.ru 21 n.at_;have l26:=c2.ru 26 n.at_
   cases hv:(n.kind != 13) with
   | true =>
    have e:pk c2 n=c2:=by unfold pk;exact ah zgv
    rw [e];refine D ?_;refine c8 ?_;exact ⟨rfl,ad,cp,rfl⟩
   | false =>
    have EI:¬ n.kind≠13:=by simpa using hv
    unfold cC at MZ h26
    cases hb:c2.ls.contains n.s with
    | true =>
     rw [hb] at hL
     have e:pk c2 n=⟨(c2.fail 21 n.at_).ls++[n.s],(c2.fail 21 n.at_).code,(c2.fail 21 n.at_).at_⟩:=by unfold pk;rw [ab EI];exact ah hb
     rw [e];generalize c2.fail 21 n.at_=y at *;refine zdQ ?_;refine OA rfl rfl (GL.borrow hL (fun B K β w l hI hF=>fx (A:=[_]) (C:=[_,_]) hI hF rfl rfl) ?_);refine zaL ?_;refine V [0] MZ ?_;refine zc9 ?_;refine OA rfl rfl (GL.nF 1 (news:=[[.v (sv n.s)]]) rfl rfl rfl az rfl rfl (by refine ⟨?_,?_⟩;(· show _+1<=_;omega);(· show (_+1) * _<=_;omega)) ?_);intro oK oN;refine zaL ?_;refine c8 ?_;exact ⟨rfl,oK,oN,by simp [cO,cC,br,l21]⟩
    | false =>
     rw [hb] at hL
     cases h40:((c2.ls.length:Int)==40) with
     | true =>
      have e:pk c2 n=⟨(c2.fail 26 n.at_).ls++[n.s],(c2.fail 26 n.at_).code,(c2.fail 26 n.at_).at_⟩:=by
       unfold pk;rw [ab EI,ab zgO];exact ah (by rw [beq_iff_eq] at h40;omega)
      rw [e];generalize c2.fail 26 n.at_=y at *;refine zdQ ?_;refine OA rfl rfl (GL.borrow hL (fun B K β w l hI hF=>fx (A:=[_]) (C:=[_,_]) hI hF rfl rfl) ?_);refine zaL ?_;refine V [0] h26 ?_;refine zc9 ?_;refine OA rfl rfl (GL.nF 1 (news:=[[.v (sv n.s)]]) rfl rfl rfl az rfl rfl (by refine ⟨?_,?_⟩;(· show _+1<=_;omega);(· show (_+1) * _<=_;omega)) ?_);intro oK oN;refine zaL ?_;refine c8 ?_;exact ⟨rfl,oK,oN,by simp [cO,cC,br,l26]⟩
     | false =>
      have e:pk c2 n=⟨c2.ls++[n.s],c2.code,c2.at_⟩:=by
       unfold pk;rw [ab EI,ab zgO];exact ab (by rw [beq_eq_false_iff_ne] at h40;omega)
      rw [e];refine zdQ ?_;refine OA rfl rfl (GL.borrow hL (fun B K β w l hI hF=>fx (A:=[_]) (C:=[_,_]) hI hF rfl rfl) ?_);refine zaL ?_;refine zc9 ?_;refine OA rfl rfl (GL.nF 1 (news:=[[.v (sv n.s)]]) rfl rfl rfl az rfl rfl (by refine ⟨?_,?_⟩;(· show _+1<=_;omega);(· show (_+1) * _<=_;omega)) ?_);intro oK oN;refine zaL ?_;refine c8 ?_;exact ⟨rfl,oK,oN,by simp [cO,cC,br]⟩
theorem FP (p:Src) (h:Value) (k e:Int):GF prog 232 [.loc 0 0,.v (ii e),.v (ii 0)] [.box 160 (cC p h ⟨[],k,0⟩)] (.tup []) [.box 160 (cC p h ⟨[],jk k e,0⟩)]:=by
 have:=kF p h ⟨[],k,0⟩ e 0
 rwa [show (SS.fail ⟨[],k,0⟩ e 0)=⟨[],jk k e,0⟩ by unfold SS.fail jk;by_cases hk:k=0 <;> simp [hk]] at this
theorem J9 (p:Src) (h:Value) (k:Int) (lx:p.arrays.length<=1048576) (dj:∀ a∈p.arrays,0<=a.size/\a.size<=2147483648)
  (rest:(p.arrays.all fun a=>!pR a)=true->GF prog 173 [.loc 0 0] [.box 160 (cC p h ⟨[],k,0⟩)] (.tup []) [.box 160 (cC p h ⟨[],uN p k,0⟩)]) :
  GF prog 173 [.loc 0 0] [.box 160 (cC p h ⟨[],k,0⟩)] (.tup []) [.box 160 (cC p h ⟨[],uN p k,0⟩)]:=by
 cases xH:(p.arrays.all fun a=>!pR a) with
 | true=>exact rest xH
 | false =>
 have dS:(p.arrays.map bg).length=p.arrays.length:=by simp
 have hb:=ya dj;have Bc:=FP p h k 26
 have JI:p.arrays.any pR=true:=by
  cases h0:p.arrays.any pR with
  | true=>rfl
  | false =>
   rw [any_eq_false] at h0;rw [all_eq_false] at xH;obtain ⟨x,hx,I⟩:=xH;have:=h0 x hx;simp at I;rw [I] at this;exact absurd rfl this
 rw [show uN p k=jk k 26 by unfold uN;exact ah JI];unfold cC at Bc |-;refine ai func173 ntmps173 ?_;refine GW.range (p.arrays.map bg).length (fun k' fr Γ=>fr=[.loc 0 0,U,.v (ii (eU (p.arrays.take k'))),U,U,U,U,U,U,U,U,U,.sl 2 (p.arrays.map bg),.v (ii ((p.arrays.map bg).length:Int)),.v (ii (k':Nat)),U,U,U,U,U,U,U,U,U,U,U,U,U,U,U,U,U,U,U,U,U,U,U,U,U,U,U,U,U,U,U,U,U,U,U,U,U,U,U,U,U,U,U,U,U,U,U,U,U,U,U,U,U,U,U,U,U,U,U,U,U,U,U,U,U,U,U,U,U,U,U,U,U,U,U,U,U,U,U]/\Γ=[.box 160 [strs p.globals,.sl 2 (p.arrays.map bg),.sl 3 (p.fns.map aw),.sl 5 (p.nodes.map aV),.v h,.v (ii k),.v (ii 0)]]/\(p.arrays.take k').all (fun a=>!pR a)=true) ?_ X ?_ ?_ ?_
 ·exact lN
 ·rintro k' _ _ ⟨rfl,rfl,_⟩;exact dr
 ·rintro k' _ _ au ⟨rfl,rfl,bj⟩;rw [dS] at au;obtain ⟨x,hx⟩:∃ x,p.arrays[k']?=some x:=⟨p.arrays[k'],by simp [au]⟩
  have hr:(p.arrays.map bg)[k']?=some (bg x):=by rw [bp,hx];rfl
  have cl:=od (f:=pR) hx;have kC:=vS hx;have eN:=hb k';have sX:=dj x (bo hx);have hd:pR x=(decide (x.size < 1) || decide (8000 < x.size)):=rfl;unfold bg at hr
  cases I:decide (x.size < 1) with
  | true =>
   refine D ?_;refine V [0] Bc ?_;exact iy
  | false =>
   cases G:decide (8000 < x.size) with
   | true =>
    refine D ?_;refine V [0] Bc ?_;exact iy
   | false =>
    rw [kC];generalize eU (p.arrays.take k')=c at *;refine D ?_;exact ⟨rfl,rfl,_,_,(Wk.cut (n:=1) (aI _) rfl).trans (Wk.aH ao),rfl,rfl,by rw [cl,bj,hd,I,G];rfl⟩
 ·rintro _ _ ⟨rfl,rfl,bj⟩;rw [dS,c7] at bj;rw [bj] at xH;cases xH
theorem Ic (p:Src) (h:Value) (k:Int) (lx:p.arrays.length<=1048576) (jZ:p.fns.length<=1048576) (dj:∀ a∈p.arrays,0<=a.size/\a.size<=2147483648) (xH:(p.arrays.all fun a=>!pR a)=true) :
  GF prog 173 [.loc 0 0] [.box 160 (cC p h ⟨[],k,0⟩)] (.tup []) [.box 160 (cC p h ⟨[],uN p k,0⟩)]:=by
 have dS:(p.arrays.map bg).length=p.arrays.length:=by simp
 have ki:(p.fns.map aw).length=p.fns.length:=by simp
 have kQ:(p.globals.map fun s=>[GV.v (sv s)]).length=p.globals.length:=by simp
 have hb:=ya dj
 have JI:p.arrays.any pR=false:=by
  rw [any_eq_false];rw [jb] at xH;intro x hx;simpa using xH x hx
 have Bc:=FP p h;unfold cC at Bc |-;refine ai func173 ntmps173 ?_;refine GW.range (p.arrays.map bg).length (fun k' fr Γ=>fr=[.loc 0 0,U,.v (ii (eU (p.arrays.take k'))),U,U,U,U,U,U,U,U,U,.sl 2 (p.arrays.map bg),.v (ii ((p.arrays.map bg).length:Int)),.v (ii (k':Nat)),U,U,U,U,U,U,U,U,U,U,U,U,U,U,U,U,U,U,U,U,U,U,U,U,U,U,U,U,U,U,U,U,U,U,U,U,U,U,U,U,U,U,U,U,U,U,U,U,U,U,U,U,U,U,U,U,U,U,U,U,U,U,U,U,U,U,U,U,U,U,U,U,U,U,U,U,U,U,U]/\Γ=[.box 160 [strs p.globals,.sl 2 (p.arrays.map bg),.sl 3 (p.fns.map aw),.sl 5 (p.nodes.map aV),.v h,.v (ii k),.v (ii 0)]]) ?_ X ?_ ?_ ?_
 ·exact jo
 ·rintro k' _ _ ⟨rfl,rfl⟩;exact dr
 ·rintro k' _ _ au ⟨rfl,rfl⟩;rw [dS] at au;obtain ⟨x,hx⟩:∃ x,p.arrays[k']?=some x:=⟨p.arrays[k'],by simp [au]⟩
  have hr:(p.arrays.map bg)[k']?=some (bg x):=by rw [bp,hx];rfl
  have kC:=vS hx;have eN:=hb k';have sX:=dj x (bo hx)
  have hd:pR x=false:=by
   rw [any_eq_false] at JI;have:=JI x (bo hx);exact zcm
  unfold pR at hd;rw [Bool.or_eq_false_iff] at hd;obtain ⟨I,G⟩:=hd;have G:decide (8000 < x.size)=false:=G;unfold bg at hr;rw [kC];generalize eU (p.arrays.take k')=c at *;refine D ?_;exact ⟨rfl,rfl,_,_,(Wk.cut (n:=1) (aI _) rfl).trans (Wk.aH ao),rfl,rfl⟩
 ·rintro _ _ ⟨rfl,rfl⟩;rw [dS,c7];refine bc ?_;refine GW.seq ?_;have e1:decide (p.fns.length > 40)=decide ((40:Int) < ((p.fns.map aw).length:Int)):=decide_eq_decide.2 zg3;have e2:decide (p.globals.length > 29)=decide ((29:Int) < ((p.globals.map fun s=>[GV.v (sv s)]).length:Int)):=decide_eq_decide.2 X
  have O5:wE p=((decide ((40:Int) < ((p.fns.map aw).length:Int)) || decide ((29:Int) < ((p.globals.map fun s=>[GV.v (sv s)]).length:Int))) || decide ((8000:Int) < eU p.arrays)):=by unfold wE;rw [e1,e2]
  refine GW.join (fun fr Γ=>fr=[.loc 0 0,U,U,U,U,U,U,U,U,U,U,U,U,U,U,U,U,U,U,U,U,U,U,U,U,U,U,U,U,U,U,U,U,U,U,U,U,U,U,U,U,U,U,U,U,U,U,U,U,U,U,U,U,U,U,U,U,U,U,U,U,U,U,U,U,U,U,U,U,U,U,U,U,U,U,U,U,U,U,U,U,U,U,U,U,U,U,U,U,U,U,U,U,U]/\Γ=[.box 160 [strs p.globals,.sl 2 (p.arrays.map bg),.sl 3 (p.fns.map aw),.sl 5 (p.nodes.map aV),.v h,.v (ii (if wE p=true then jk k 26 else k)),.v (ii 0)]]) ?_ ?_
  ·rw [O5];have O4:=Bc k 26;generalize eU p.arrays=c at *
   cases I:decide ((40:Int) < ((p.fns.map aw).length:Int))
   all_goals cases G:decide ((29:Int) < ((p.globals.map fun s=>[GV.v (sv s)]).length:Int))
   all_goals cases h3:decide ((8000:Int) < c)
   all_goals
    refine D ?_
    first
     | exact jo
     | (refine kA [0] O4 ?_;refine D ?_;exact ⟨_,_,Wk.aH ao,rfl,rfl⟩)
  ·rintro _ _ ⟨rfl,rfl⟩;generalize qV:(if wE p=true then jk k 26 else k)=k1
   have ab1:∀ j:Nat,∀ x:Go.Sp.Fn,p.fns[j]?=some x->(p.fns.take (j+1)).any (fun f=>decide (f.params.length > 40))=((p.fns.take j).any (fun f=>decide (f.params.length > 40)) || decide (x.params.length > 40)):=fun j x hx=>by
    rw [dk,hx,any_append];simp
   refine D ?_;refine GW.range (p.fns.map aw).length (fun j fr Γ=>∃ kk,fr=[.loc 0 0,U,U,U,U,U,U,U,U,U,U,U,U,U,U,U,U,U,U,U,U,U,U,U,U,U,U,U,U,U,U,U,U,U,U,U,U,U,U,U,U,U,U,U,U,U,U,U,U,U,U,U,U,U,U,U,U,U,U,.sl 3 (p.fns.map aw),.v (ii ((p.fns.map aw).length:Int)),.v (ii (j:Nat)),U,U,U,U,U,U,U,U,U,U,U,U,U,U,U,U,U,U,U,U,U,U,U,U,U,U,U,U,U,U,U,U]/\Γ=[.box 160 [strs p.globals,.sl 2 (p.arrays.map bg),.sl 3 (p.fns.map aw),.sl 5 (p.nodes.map aV),.v h,.v (ii kk),.v (ii 0)]]/\kk=(if (p.fns.take j).any (fun f=>decide (f.params.length > 40))=true then jk k1 26 else k1)) ?_ X ?_ ?_ ?_
   ·exact ⟨_,_,Wk.aH ao,k1,rfl,rfl,by simp⟩
   ·rintro j _ _ ⟨kk,rfl,rfl,_⟩;exact dr
   ·rintro j _ _ au ⟨kk,rfl,rfl,ny⟩;rw [ki] at au;obtain ⟨x,hx⟩:∃ x,p.fns[j]?=some x:=⟨p.fns[j],by simp [au]⟩
    have hr:(p.fns.map aw)[j]?=some (aw x):=by rw [bp,hx];rfl
    have cH:(x.params.map fun s=>[GV.v (sv s)]).length=x.params.length:=by simp
    have kU:=ab1 j x hx;have hd:decide (x.params.length > 40)=decide ((40:Int) < ((x.params.map fun s=>[GV.v (sv s)]).length:Int)):=decide_eq_decide.2 X;have O4:=Bc kk 26;rw [kU,hd];unfold aw at hr
    cases I:decide ((40:Int) < ((x.params.map fun s=>[GV.v (sv s)]).length:Int)) with
    | true =>
     have e:jk kk 26=jk k1 26:=by rw [ny];split;(· exact Yq _ _ aD);rfl
     rw [e] at O4;refine D ?_;refine V [0] O4 ?_;exact ⟨rfl,rfl,_,_,(Wk.cut (n:=1) (aI _) rfl).trans (Wk.aH ao),_,rfl,rfl,by simp⟩
    | false =>
     refine D ?_;exact ⟨rfl,rfl,_,_,(Wk.cut (n:=1) (aI _) rfl).trans (Wk.aH ao),kk,rfl,rfl,by rw [ny,Bool.or_false]⟩
   ·rintro _ _ ⟨kk,rfl,rfl,ny⟩;rw [ki,c7] at ny
    have hs:uN p k=(if mM p=true then jk kk 25 else kk):=by
     unfold uN;rw [ab (by rw [JI];decide),qV,<-ny]
    rw [hs];refine bc ?_;have aan:=Bc kk 25;have hM:=FZ p yY X;unfold du at hM;clear hs ny qV
    cases hx:p.fns.findIdx? (fun f:Go.Sp.Fn=>f.name==yY) with
    | none =>
     rw [hx] at hM
     have hd:decide ((-1:Int) < 0)=true:=by decide
     simp only at hM;rw [show (if mM p=true then jk kk 25 else kk)=jk kk 25 from ah (by unfold mM;rw [hx])];exact zfJ
    | some i =>
     rw [hx] at hM;have hi:i < p.fns.length:=(List.findIdx?_eq_some_iff_getElem.1 hx).1;obtain ⟨f,hf⟩:∃ f,p.fns[i]?=some f:=⟨p.fns[i],by simp [hi]⟩
     have hr:(p.fns.map aw)[i]?=some (aw f):=by rw [bp,hf];rfl
     have cH:(f.params.map fun s=>[GV.v (sv s)]).length=f.params.length:=by simp
     have hd:decide (((i:Nat):Int) < 0)=false:=by simp
     have nA:decide (o7 p i > 0)=decide ((0:Int) < ((f.params.map fun s=>[GV.v (sv s)]).length:Int)):=by
      unfold o7;rw [hf];exact decide_eq_decide.2 zgV
     simp only at hM
     have uf:mM p=decide (o7 p i > 0):=by unfold mM;rw [hx]
     rw [nA] at uf;unfold aw at hr
     cases I:decide ((0:Int) < ((f.params.map fun s=>[GV.v (sv s)]).length:Int)) with
     | true =>
      rw [show (if mM p=true then jk kk 25 else kk)=jk kk 25 from ah (by rw [uf,I])];exact zfJ
     | false =>
      rw [show (if mM p=true then jk kk 25 else kk)=kk from ab (by rw [uf,I];decide)];refine D ?_;refine V [] hM ?_;exact iy
theorem Qh (p:Src) (hF:GF prog 81 [.agg (aq p)] [] (.v (.bool false)) []):GF prog 112 [.agg (aq p)] [] (.tup [.v (ii 20),.v (ii 0)]) []:=by
 refine ai func112 ntmps112 ?_;refine V [] hF ?_;exact mn
theorem Ol (p:Src) (l:List T) (c1 c2:SS) (ki:p.fns.length=l.length) (jZ:p.fns.length<=1048576) (lx:p.arrays.length<=1099511627776) (kQ:p.globals.length<=1099511627776)
  (qx:∀ f∈p.fns,f.params.length<=1048576) (dj:∀ t∈l,aQ t<=1048576)
  (hF:GF prog 81 [.agg (aq p)] [] (.v (.bool true)) [])
  (hN:GF prog 172 [.loc 0 0] [.box 160 (cC p (.slice none 0 0) ⟨[],0,0⟩)] (.tup []) [.box 160 (cC p (.slice none 0 0) c1)])
  (hS:GF prog 173 [.loc 0 0] [.box 160 (cC p (.slice none 0 0) c1)] (.tup []) [.box 160 (cC p (.slice none 0 0) c2)])
  (tM:∀ (i:Nat) (f:Go.Sp.Fn) (t:T),p.fns[i]?=some f->l[i]?=some t->GF prog 84 [.agg (aq p),.v (ii f.body)] [] (.agg (cT t)) []) :
  GF prog 112 [.agg (aq p)] [] (.tup [.v (ii (qR p p.fns l c2).code),.v (ii (qR p p.fns l c2).at_)]) []:=by
 have mT:(p.fns.map aw).length=p.fns.length:=by simp
 unfold cC at hN hS;refine ai func112 ntmps112 ?_;refine V [] hF ?_;refine V [1] hN ?_;refine V [1] hS ?_;refine GW.range (p.fns.map aw).length (fun k fr Γ=>∃ h c,fr=[U,.loc 0 0,U,U,.loc 1 0,U,U,U,U,U,U,U,U,U,U,U,U,U,.sl 3 (p.fns.map aw),.v (ii ((p.fns.map aw).length:Int)),.v (ii (k:Nat)),U,U,U,U,U,U,U,U,U,U,U,U,U,U,U,U,U,U,U,U,U,U,U,U,U,U]/\Γ=[.box 28 (aq p),.box 160 (cC p h c)]/\qR p p.fns l c2=qR p (p.fns.drop k) (l.drop k) c) ?_ X ?_ ?_ ?_
 ·exact ⟨_,_,Wk.aH ao,_,c2,rfl,rfl,rfl⟩
 ·rintro k _ _ ⟨h,c,rfl,rfl,_⟩;exact dr
 ·rintro k _ _ au ⟨h,c,rfl,rfl,he⟩;rw [mT] at au;obtain ⟨f,hf⟩:∃ f,p.fns[k]?=some f:=⟨p.fns[k],by simp [au]⟩;obtain ⟨t,ht⟩:∃ t,l[k]?=some t:=⟨l[k]'X,bV _⟩
  have hr:(p.fns.map aw)[k]?=some (aw f):=by rw [bp,hf];rfl
  have JM:p.fns.drop k=f::p.fns.drop (k+1):=by rw [n5 au];rw [bV au] at hf;rw [xY hf]
  have qb:l.drop k=t::l.drop (k+1):=by rw [n5 X];rw [bV X] at ht;rw [xY ht]
  have hp:=qx f (bo hf);have hz:=dj t (bo ht);have hsb:=tM k f t hf ht;have hP:=L3 p h c f hp;rw [JM,qb,qR] at he
  cases hc:(c.code==0) with
  | false =>
   rw [ab zgx] at he;unfold cC aw at *;refine D ?_;exact ⟨rfl,rfl,_,_,(Wk.cut (n:=2) (aS _) rfl).trans (Wk.aH ao),h,c,rfl,rfl,he⟩
  | true =>
   rw [ah zgx] at he
   have hNd:=fun ad cp=>SE p lx X kQ _ t (aI _) (tQ f c) ad cp (by show f.params.length+_<=_;omega)
   rw [he];generalize qH p t (tQ f c)=c3 at *;unfold cO at hNd;unfold aw at hr hP;rw [show cC p h c=[strs p.globals,.sl 2 (p.arrays.map bg),.sl 3 (p.fns.map aw),.sl 5 (p.nodes.map aV),.v h,.v (ii c.code),.v (ii c.at_)] from rfl] at *;refine D ?_;refine bA [1] hP ?_;rintro _ _ ⟨rfl,ad,cp,rfl⟩;refine zas ?_;refine V [] hsb ?_;refine bA [1,3] (hNd ad cp) ?_;rintro _ _ ⟨rfl,iL,iM,rfl⟩;refine zas ?_;exact ⟨rfl,rfl,_,_,(Wk.cut (n:=2) (aS _) rfl).trans (Wk.aH ao),_,c3,rfl,rfl,rfl⟩
 ·rintro _ _ ⟨h,c,rfl,rfl,he⟩;rw [mT,drop_length,UQ] at he;rw [he];unfold cC;refine zcC ?_;refine aM (ax 0 10 .nil) ?_;refine aj ?_;exact sH
end Go.Xg
namespace Go.Xg
open Go.RowKit Go.Xw Go.Proofs
section
variable {P:Program} {m:Nat} {ops:Array Oper} {Q:eC} {rest:List Oper} {fr:List GV} {Γ:List Ob}
theorem TJ {o:Oper} {a:Act} {next next':Act->World->Prop} {Q Q':Exit->Act->World->Prop} (hn:∀ a w,next a w->next' a w) (hq:∀ e a w,Q e a w->Q' e a w):∀ r,o.upon P a next Q r->o.upon P a next' Q' r:=by
 have hl:LetsOut Q->LetsOut Q':=fun ⟨a,w,h⟩=>⟨a,w,hq _ _ _ h⟩
 intro r h;unfold Oper.upon at h |-;split at h
 ·exact hn _ _ h
 ·exact hn _ _ h
 ·exact hn _ _ h
 ·refine Calls.mono h fun e w' he=>?_
  cases e with
  | returned v=>exact hn _ _ he
  | panicked ch=>exact hq _ _ _ he
  | outgrown=>exact hl he
 ·exact Rows.mono h fun v w' hv=>hn _ _ hv
 ·exact hq _ _ _ h
 ·exact h
theorem Dj {Q Q':Exit->Act->World->Prop} (hq:∀ e a w,Q e a w->Q' e a w):∀ (l:List Oper) (a:Act) (w:World),wpList P ops Q l a w->wpList P ops Q' l a w
 | [],a,w,h=>hq _ _ _ h
 | o::l,a,w,h=>by
  have ih:=Dj hq l;unfold wpList at h |-;split at h
  ·rename_i hw;rw [ah hw]
   rcases h with h | ⟨I,G⟩
   ·exact .inl (TJ ih hq _ h)
   ·exact .inr ⟨I,by obtain ⟨a,w,h⟩:=G;exact ⟨a,w,hq _ _ _ h⟩⟩
  ·rename_i hw;rw [ab hw];exact ih _ _ h
theorem GL.mono {Q':eC} (h:GL P m ops Q rest fr Γ) (hq:∀ e fr Γ,Q e fr Γ->Q' e fr Γ):GL P m ops Q' rest fr Γ:=fun B K β w l hm hI hF =>
 Dj (fun e a w ⟨l,ha,K,β,fr,Γ,hI,hF,q⟩=>⟨l,ha,K,β,fr,Γ,hI,hF,hq _ _ _ q⟩) _ _ _ (h B K β w l hm hI hF)
theorem GL.Xr {z y:Code} (K:List GV->List Ob->Prop) (I:GL P m ops (aU (GW P m z (aU (CM m K) Q)) Q) rest fr Γ) (G:∀ fr Γ,K fr Γ->GW P m y Q fr Γ):GL P m ops (aU (GW P m z (aU (GW P m y Q) Q)) (aU (GW P m y Q) Q)) rest fr Γ:=by
 refine I.mono fun e fr Γ hq=>?_
 cases e with
 | normal=>exact GW.join K hq G
 | _=>exact hq
theorem GL.tK {t i n E k:Nat} {rows:List (List GV)} (ht:dc fr t=.vec i n) (lR:ly fr t=true) (bH:Γ[i]?=some (.vec E k 0 rows)) (hn:rows.length=n)
  (h:∀ a c,GL P m ops Q rest (bX fr t (.v (.slice a n c))) (oset Γ i (.vech E k rows (.slice a n c)))):GL P m ops Q rest fr Γ:=fun B K β w l hm hI hF=>by
 subst hn;obtain ⟨a,c,hb,bE⟩:=hI.tK bH
 have hv:nth l t=.slice a rows.length c:=by
  have:=hF.nth t;rw [ht] at this;generalize nth l t=x at this
  cases this with
  | vec i n a' c' h =>
   obtain ⟨h0,m0,e1,_,e3⟩:=h;rw [hb] at e1;cases e1;exact e3 rfl
 have:=hF.gJ t (Rel.v (K:=K) (β:=β) (.slice a rows.length c));rw [<-hv,D0 (qh hF lR),hv] at this;exact h a c B K β w l hm bE this
end
end Go.Xg
set_option maxHeartbeats 1000000
namespace Go.Xg
open Go.RowKit Go.Xw Go.Proofs Tryz Go.Sp
open Go.Xp (Nd T levels CI iD E er bf wt gB uc fw)
attribute [local irreducible] GW GL GO YG GC GA aU aW
theorem fE {nd:Nd} {l l':List T} {k v:Int} {s:ae} (h:er (.mk nd l)=.mk ⟨k,0,v,s,[]⟩ l'):nd.kind=k/\nd.n=v/\nd.s=s/\bf l=l':=by
 rw [er] at h
 injection h with I G
 injection I with a b c d e
 exact ⟨a,c,d,G⟩
theorem zH {l:List T} {x:T} (h:bf l=[x]):∃ t,l=[t]/\er t=x:=by
 match l,h with
 | [t],h=>rw [bf,bf] at h;injection h with I;exact ⟨t,rfl,I⟩
 | [],h=>rw [bf] at h;cases h
 | t::u::r,h=>rw [bf,bf] at h;injection h with I G;cases G
theorem FL {l:List T} {x y:T} (h:bf l=[x,y]):∃ t u,l=[t,u]/\er t=x/\er u=y:=by
 match l,h with
 | t::r,h =>
  rw [bf] at h;injection h with I G
  obtain ⟨u,rfl,h3⟩:=zH G;exact ⟨t,u,rfl,I,h3⟩
 | [],h=>rw [bf] at h;cases h
theorem acY {l:List T} {x y z:T} (h:bf l=[x,y,z]):∃ t u w,l=[t,u,w]/\er t=x/\er u=y/\er w=z:=by
 match l,h with
 | t::r,h =>
  rw [bf] at h;injection h with I G
  obtain ⟨u,w,rfl,h3,h4⟩:=FL G;exact ⟨t,u,w,rfl,I,h3,h4⟩
 | [],h=>rw [bf] at h;cases h
theorem V9 {a:E} (h:a.ok=true) {t:T} (ht:er t=a.tree):qv t.n.kind t.n.s=(a.lv:Int):=by
 obtain ⟨nd,l⟩:=t
 cases a with
 | bin s a b =>
  obtain ⟨I,_,G,_⟩:=fE ht;simp only [E.ok,aK] at h;have h9:=(Go.Xp.s9 h.1.1).1;simp only [T.n,I,G,qv,ah,E.lv];unfold fw at h9 |-
  cases hf:levels.findIdx? (fun l=>l.contains s) with
  | none=>rw [hf] at h9;exact absurd h9 aD
  | some i=>rfl
 | num n=>exact zbL
 | name n=>exact zbL
 | at_ s a=>exact zbL
 | call s a=>exact zbL
 | un s a=>exact zbL
theorem uS {a:E} (h:a.ok=true) {t:T} (ht:er t=a.tree):GF prog 142 [.agg (cT t)] [] (.v (ii (a.lv:Int))) []:=by
 have:=Ps t;rw [V9 h ht] at this;exact this
theorem GK (n:Int) (h:0<=n/\n<=2147483647):GF prog 90 [.v (ii n)] [] (.v (sv (iD n.toNat))) []:=by
 have hw:=ZM n
 have qY:CI n=n:=by unfold CI;rw [show n % 4294967296=n by omega,ab X]
 rw [qY] at hw;have hd:=LU n.toNat X;rw [Int.toNat_of_nonneg h.1] at hd
 have h':decide (n < 0)=false:=by simpa using h.1
 refine ai func90 ntmps90 ?_;refine V [] hw ?_;refine V [] hd ?_;exact al
abbrev lim:Nat:=1000000000000
def vc (a:E):Prop:=∀ (t:T) (k:Nat),a.ok=true->er t=a.tree->wt a.tree<=lim->¬ a.lv < k->GF prog 83 [.agg (cT t),.v (ii (k:Int))] [] (.v (sv a.bK)) []
def rT (a:E):Prop:=∀ (t:T) (k:Nat),a.ok=true->er t=a.tree->wt a.tree<=lim->GF prog 83 [.agg (cT t),.v (ii (k:Int))] [] (.v (sv (uc a.lv k a.bK))) []
theorem vc.p {a:E} (C:vc a):rT a:=by
 intro t k ho ht hb;unfold uc
 by_cases h:a.lv < k
 ·rw [ah h]
  have h':decide ((a.lv:Int) < (k:Int))=true:=by simpa using h
  have hl:=(E.len a ho).1;have h0:=C t 0 ho ht hb X;have M6:=hb;unfold lim at M6;generalize a.bK=x at *;refine ai func83 ntmps83 ?_;refine V [] (uS ho ht) ?_;refine V [] h0 ?_;exact al
 ·rw [ab h];exact C t k ho ht hb h
theorem SQ (n:Int):vc (.num n):=by
 intro t k ho ht hb h
 have h':decide (((E.num n).lv:Int) < (k:Int))=false:=by simpa using h
 have hg:=uS ho ht;obtain ⟨⟨kk,aa,vv,ss,ks⟩,l⟩:=t;obtain ⟨I,G,h3,hl⟩:=fE ht;simp only at I G h3;subst I G h3;simp only [E.ok,aK] at ho;have hn:=GK vv ⟨n8 ho.1,n8 ho.2⟩;rw [E.bK];simp only [cT,T.n,T.kids] at hg |-;refine ai func83 ntmps83 ?_;refine V [] hg ?_;refine V [] hn ?_;exact al
theorem PA (s:ae):vc (.name s):=by
 intro t k ho ht hb h
 have h':decide (((E.name s).lv:Int) < (k:Int))=false:=by simpa using h
 have hg:=uS ho ht;obtain ⟨⟨kk,aa,vv,ss,ks⟩,l⟩:=t;obtain ⟨I,G,h3,hl⟩:=fE ht;simp only at I G h3;subst I G h3;rw [E.bK];simp only [cT,T.n,T.kids] at hg |-;refine ai func83 ntmps83 ?_;exact zfy
theorem Vz (s:ae) (a:E) (C:rT a):vc (.at_ s a):=by
 intro t k ho ht hb h
 have h':decide (((E.at_ s a).lv:Int) < (k:Int))=false:=by simpa using h
 have hg:=uS ho ht;obtain ⟨⟨kk,aa,vv,ss,ks⟩,l⟩:=t;obtain ⟨I,G,h3,hl⟩:=fE ht;simp only at I G h3;subst I G h3;obtain ⟨x,rfl,hx⟩:=zH hl;simp only [E.ok,aK] at ho;rw [E.tree,wt] at hb;simp only [gB,lim] at hb;have hc:=C x 0 ho.2 hx zgi;unfold uc at hc;rw [ab X] at hc;have hle:=(E.len a ho.2).1;have hr:(ba [x])[0]?=some (cT x):=dB rfl;rw [E.bK];generalize a.bK=y at *;simp only [cT,T.n,T.kids] at hg |-;refine ai func83 ntmps83 ?_;refine V [] hg ?_;refine aM (ax 0 8 (.a 8 (ax 9 3 .nil))) ?_;refine aj ?_;refine aC [] hc ?_;exact ay
theorem VA (s:ae) (a:E) (C:rT a):vc (.un s a):=by
 intro t k ho ht hb h
 have h':decide (((E.un s a).lv:Int) < (k:Int))=false:=by simpa using h
 have hg:=uS ho ht;obtain ⟨⟨kk,aa,vv,ss,ks⟩,l⟩:=t;obtain ⟨I,G,h3,hl⟩:=fE ht;simp only at I G h3;subst I G h3;obtain ⟨x,rfl,hx⟩:=zH hl;simp only [E.ok,aK] at ho;rw [E.tree,wt] at hb;simp only [gB,lim] at hb;have hc:=C x 9 ho.2 hx zgi;have hle:=(E.len a ho.2).1;have DC:=Go.Xp.v8 a.lv 9 a.bK;have hr:(ba [x])[0]?=some (cT x):=dB rfl;rw [E.bK];generalize uc a.lv 9 a.bK=y at *;simp only [cT,T.n,T.kids] at hg |-;refine ai func83 ntmps83 ?_;refine V [] hg ?_;refine aM (ax 0 8 (.a 8 (.q 9 (.a 10 (.q 11 (.q 12 .nil)))))) ?_;refine aj ?_;refine aC [] lB ?_;refine aC [] hc ?_;exact ay
theorem SP (s:ae) (a b:E) (Ca:rT a) (Cb:rT b):vc (.bin s a b):=by
 intro t k ho ht hb h
 have h':decide (((E.bin s a b).lv:Int) < (k:Int))=false:=by simpa using h
 have hg:=uS ho ht;obtain ⟨⟨kk,aa,vv,ss,ks⟩,l⟩:=t;obtain ⟨I,G,h3,hl⟩:=fE ht;simp only at I G h3;subst I G h3;obtain ⟨x,y,rfl,hx,hy⟩:=FL hl;simp only [E.ok,aK] at ho;rw [E.tree,wt] at hb;simp only [gB,lim] at hb;have hca:=Ca x (fw ss) ho.1.2 hx zgi;have CV:=Cb y (fw ss+1) ho.2 hy zgi;have Nb:=(Go.Xp.s9 ho.1.1).1;have hle:=(E.len a ho.1.2).1;have DC:=Go.Xp.v8 a.lv (fw ss) a.bK;have adv:=(E.len b ho.2).1;have aem:=Go.Xp.v8 b.lv (fw ss+1) b.bK;have hr:(ba [x,y])[0]?=some (cT x):=dB rfl;have eR:(ba [x,y])[1]?=some (cT y):=dB rfl;rw [E.bK];simp only [E.lv] at hg h';generalize uc a.lv (fw ss) a.bK=u at *;generalize uc b.lv (fw ss+1) b.bK=w at *;simp only [cT,T.n,T.kids] at hg |-;refine ai func83 ntmps83 ?_;refine V [] hg ?_;refine V [] hg ?_;refine aM (ax 0 5 (ax 7 3 (ax 12 6 (.a 5 (.q 6 (.q 10 (.q 11 (.a 18 (.q 19 (.q 20 .nil)))))))))) ?_;exact zfz
open GV (U)
open Go.Xp (cM EN zW)
def Oz (b:Bool) (a:E):Prop:=∀ t,er t=a.tree->GF prog 198 [.agg (cT t),.v (.bool b)] [] (.v (sv (a.out b))) []
theorem Q5:∀ {ts:List T} {es:List E} (h:bf ts=E.trees es),ts.length=es.length/\∀ (k:Nat) t a,ts[k]?=some t->es[k]?=some a->er t=a.tree
 | [],[],_=>⟨rfl,fun k t a h=>by simp at h⟩
 | [],a::l,h=>by rw [bf,E.trees] at h;cases h
 | t::r,[],h=>by rw [bf,E.trees] at h;cases h
 | t::r,a::l,h=>by
  rw [bf,E.trees] at h
  injection h with I G
  obtain ⟨h3,h4⟩:=Q5 G;refine ⟨by simp [h3],fun k t' a' ht ha=>?_⟩
  cases k with
  | zero=>cases ht;cases ha;exact I
  | succ k=>exact zf1
theorem Hv (b:Bool) (es:List E) (C:∀ a∈es,Oz b a) (ts:List T) (w4:bf ts=E.trees es) (hb:(cM (es.map (E.out b))).length<=lim) (hn:es.length<=lim) :
  GF prog 143 [.sl 6 (ba ts),.v (.bool b)] [] (.v (sv (cM (es.map (E.out b))))) []:=by
 obtain ⟨hlen,AJ⟩:=Q5 w4;unfold lim at hb hn;refine ai func143 ntmps143 ?_;refine GW.range (ba ts).length (fun k fr Γ=>∃ y,fr=[U,.v (.bool b),U,U,U,.v (sv y),U,U,.sl 6 (ba ts),.v (ii ((ba ts).length:Int)),.v (ii (k:Nat)),U,U,U,U,U,U,U,U,U,U,U,U,U,U,U]/\Γ=[]/\y=cM ((es.map (E.out b)).take k)) ?_ zg2 ?_ ?_ ?_
 ·exact ⟨_,_,Wk.aH ao,[],rfl,rfl,by simp [cM]⟩
 ·rintro k _ _ ⟨y,rfl,rfl,_⟩;exact dr
 ·rintro k _ _ hk ⟨y,rfl,rfl,hy⟩
  have hk:k < es.length:=by rw [bh,hlen] at hk;exact hk
  have AL:k < ts.length:=by omega
  have hx:es[k]?=some es[k]:=by simp [hk]
  have ht:ts[k]?=some ts[k]:=by simp [AL]
  have he:=AJ k _ _ ht hx;have hr:=dB ht;have hc:=C _ (bo hx) _ he;have qd:=zW (es.map (E.out b)) (k+1);have ado:=zW (es.map (E.out b)) k
  have oW:(es.map (E.out b)).take (k+1)=(es.map (E.out b)).take k++[es[k].out b]:=by
   rw [dk,bp,hx];rfl
  rw [oW] at qd;generalize ts[k]=t at *;generalize es[k]=a at *;generalize a.out b=x at *
  by_cases h0:k=0
  ·subst h0
   have vi:decide ((0:Int) < ((0:Nat):Int))=false:=by decide
   have hj:cM ((es.map (E.out b)).take 0++[x])=[]++x:=by simp [cM]
   have R1:cM ((es.map (E.out b)).take 0)=[]:=by simp [cM]
   rw [R1] at hy;subst hy;rw [hj] at qd
   have qd:x.length<=(cM (es.map (E.out b))).length:=by simpa using qd
   exact zcv
  ·have vi:decide ((0:Int) < (k:Int))=true:=by simpa using by omega
   have cj:(es.map (E.out b)).take k≠[]:=by
    intro h;rw [List.take_eq_nil_iff] at h
    rcases h with h | h
    ·exact h0 h
    ·rw [List.map_eq_nil_iff] at h;subst h;simp at hk
   have hj:=EN cj x;rw [hj] at qd;rw [<-hy] at qd hj ado;simp only [aL,length_cons,length_nil] at qd;exact zcv
 ·rintro _ _ ⟨y,rfl,rfl,hy⟩;have:(es.map (E.out b)).take (ba ts).length=es.map (E.out b):=n7 (by rw [bh,hlen];simp);rw [this] at hy;subst hy;exact ay
theorem rT.out {a:E} (C:rT a) (ho:a.ok=true) (hb:wt a.tree<=lim):Oz true a:=by
 intro t ht;have h0:=C t 0 ho ht hb;unfold uc at h0;rw [ab X] at h0;show GF _ _ _ _ (.v (sv a.bK)) _;exact zf2
theorem Gy:∀ l:List E,l.length<=gB (E.trees l)
 | []=>aS _
 | a::l=>by
  have:=Gy l;rw [E.trees,gB,length_cons]
  have:1<=wt a.tree:=by cases a <;> (rw [E.tree,wt];omega)
  omega
theorem Gz:∀ {l:List E} {a:E},a∈l->wt a.tree<=gB (E.trees l)
 | [],_,h=>by cases h
 | b::l,a,h=>by
  rw [E.trees,gB]
  rcases fh h with rfl | h
  ·omega
  ·have:=Gz h;omega
theorem Gb:∀ {l:List E} {a:E},E.dT l=true->a∈l->a.ok=true
 | [],_,_,h=>by cases h
 | b::l,a,ho,h=>by
  simp only [E.dT,aK] at ho
  rcases fh h with rfl | h
  ·exact ho.1
  ·exact Gb ho.2 h
theorem Pz (s:ae) (es:List E) (C:∀ a∈es,rT a):vc (.call s es):=by
 intro t k ho ht hb h
 have h':decide (((E.call s es).lv:Int) < (k:Int))=false:=by simpa using h
 have hg:=uS ho ht;obtain ⟨⟨kk,aa,vv,ss,ks⟩,l⟩:=t;obtain ⟨I,G,h3,hl⟩:=fE ht;simp only at I G h3;subst I G h3;simp only [E.ok,aK] at ho;rw [E.tree,wt] at hb;have hle:=(E.lens es ho.2).1;have hn:=Gy es
 have JP:E.dR es=es.map (E.out true):=by rw [E.Wc];rfl
 have hj:=Hv true es (fun a ha=>(C a ha).out (Gb ho.2 ha) (by have:=Gz ha;omega)) l hl (by rw [<-JP];omega) X;rw [<-JP] at hj;unfold lim at hb;simp only at hb;rw [E.bK];generalize cM (E.dR es)=y at *;simp only [cT,T.n,T.kids] at hg |-;refine ai func83 ntmps83 ?_;refine V [] hg ?_;exact zdV
mutual
theorem yZ:∀ a:E,rT a
 | .num n=>(SQ n).p
 | .name s=>(PA s).p
 | .at_ s a=>(Vz s a (yZ a)).p
 | .call s l=>(Pz s l (NA l)).p
 | .un s a=>(VA s a (yZ a)).p
 | .bin s a b=>(SP s a b (yZ a) (yZ b)).p
theorem NA:∀ l:List E,∀ a∈l,rT a
 | []=>fun a h=>by cases h
 | b::l=>fun a h=>by
  rcases fh h with h | h
  ·rw [h];exact yZ b
  ·exact NA l a h
end
def pD (a:E):Prop:=∀ (t:T),a.ok=true->er t=a.tree->wt a.tree<=lim->GF prog 255 [.agg (cT t)] [] (.v (sv a.full)) []
theorem pD.out {a:E} (C:pD a) (ho:a.ok=true) (hb:wt a.tree<=lim):Oz false a:=by
 intro t ht;have h0:=C t ho ht hb;show GF _ _ _ _ (.v (sv a.full)) _;exact zf2
theorem UW (n:Int):pD (.num n):=by
 intro t ho ht hb;obtain ⟨⟨kk,aa,vv,ss,ks⟩,l⟩:=t;obtain ⟨I,G,h3,hl⟩:=fE ht;simp only at I G h3;subst I G h3;simp only [E.ok,aK] at ho;have hn:=GK vv ⟨n8 ho.1,n8 ho.2⟩;rw [E.full];simp only [cT,T.n,T.kids];refine ai func255 ntmps255 ?_;refine V [] hn ?_;exact al
theorem RD (s:ae):pD (.name s):=by
 intro t ho ht hb;obtain ⟨⟨kk,aa,vv,ss,ks⟩,l⟩:=t;obtain ⟨I,G,h3,hl⟩:=fE ht;simp only at I G h3;subst I G h3;rw [E.full];simp only [cT,T.n,T.kids];refine ai func255 ntmps255 ?_;exact al
theorem Yv (s:ae) (a:E) (C:pD a):pD (.at_ s a):=by
 intro t ho ht hb;exact zak
theorem RC (s:ae) (es:List E) (C:∀ a∈es,pD a):pD (.call s es):=by
 intro t ho ht hb;obtain ⟨⟨kk,aa,vv,ss,ks⟩,l⟩:=t;obtain ⟨I,G,h3,hl⟩:=fE ht;simp only at I G h3;subst I G h3;simp only [E.ok,aK] at ho;rw [E.tree,wt] at hb;have hle:=(E.lens es ho.2).2;have hn:=Gy es
 have JP:E.vU es=es.map (E.out false):=by rw [E.RE];rfl
 have hj:=Hv false es (fun a ha=>(C a ha).out (Gb ho.2 ha) (by have:=Gz ha;omega)) l hl (by rw [<-JP];omega) X;rw [<-JP] at hj;unfold lim at hb;simp only at hb;rw [E.full];generalize cM (E.vU es)=y at *;simp only [cT,T.n,T.kids] at |-;refine ai func255 ntmps255 ?_;exact zdV
theorem Yw (s:ae) (a:E) (C:pD a):pD (.un s a):=by
 intro t ho ht hb;exact zak
theorem UU (s:ae) (a b:E) (Ca:pD a) (Cb:pD b):pD (.bin s a b):=by
 intro t ho ht hb;obtain ⟨⟨kk,aa,vv,ss,ks⟩,l⟩:=t;obtain ⟨I,G,h3,hl⟩:=fE ht;simp only at I G h3;subst I G h3;obtain ⟨x,y,rfl,hx,hy⟩:=FL hl;simp only [E.ok,aK] at ho;rw [E.tree,wt] at hb;simp only [gB,lim] at hb;have hca:=Ca x ho.1.2 hx zgi;have CV:=Cb y ho.2 hy zgi;have hle:=(E.len a ho.1.2).2;have adv:=(E.len b ho.2).2;have hr:(ba [x,y])[0]?=some (cT x):=dB rfl;have eR:(ba [x,y])[1]?=some (cT y):=dB rfl;rw [E.full];generalize a.full=u at *;generalize b.full=w at *;simp only [cT,T.n,T.kids] at |-;refine ai func255 ntmps255 ?_;refine aM (ax 0 4 (ax 7 3 (ax 12 4 (.a 4 (.q 5 (.q 6 (.q 10 (.q 11 (.a 16 (ax 17 3 .nil)))))))))) ?_;exact zfz
mutual
theorem Ck:∀ a:E,pD a
 | .num n=>UW n
 | .name s=>RD s
 | .at_ s a=>Yv s a (Ck a)
 | .call s l=>RC s l (RB l)
 | .un s a=>Yw s a (Ck a)
 | .bin s a b=>UU s a b (Ck a) (Ck b)
theorem RB:∀ l:List E,∀ a∈l,pD a
 | []=>fun a h=>by cases h
 | b::l=>fun a h=>by
  rcases fh h with h | h
  ·rw [h];exact Ck b
  ·exact RB l a h
end
theorem tP (b:Bool) {a:E} (ho:a.ok=true) (hb:wt a.tree<=lim):Oz b a:=by
 cases b with
 | true=>exact (yZ a).out ho hb
 | false=>exact (Ck a).out ho hb
theorem lW (b:Bool) (a:E) (ho:a.ok=true):(a.out b).length+4<=wt a.tree:=by
 have:=E.len a ho
 cases b with
 | true=>exact this.1
 | false=>exact this.2
open Go.Xp (S cR ik)
theorem Og (x:E->Go.Xp.ae):∀ (l:List S) (acc:Go.Xp.ae),acc.length<=(S.dR x acc l).length
 | [],acc=>by rw [S.dR];omega
 | a::l,acc=>by
  rw [S.dR];have:=Og x l (acc++a.bK x++[32]);simp only [aL,length_cons,length_nil] at this;omega
def qM (b:Bool) (s:S):Prop:=∀ t,s.ok=true->er t=s.tree->wt s.tree<=lim->GF prog 194 [.agg (cT t),.v (.bool b)] [] (.v (sv (s.bK (E.out b)))) []
def yo (b:Bool) (l:List S):Prop:=∀ t,S.dT l=true->er t=cR l->wt (cR l)<=lim->GF prog 194 [.agg (cT t),.v (.bool b)] [] (.v (sv (ik (E.out b) l))) []
theorem NZ:∀ {ts:List T} {es:List S} (h:bf ts=S.trees es),ts.length=es.length/\∀ (k:Nat) t a,ts[k]?=some t->es[k]?=some a->er t=a.tree
 | [],[],_=>⟨rfl,fun k t a h=>by simp at h⟩
 | [],a::l,h=>by rw [bf,S.trees] at h;cases h
 | t::r,[],h=>by rw [bf,S.trees] at h;cases h
 | t::r,a::l,h=>by
  rw [bf,S.trees] at h
  injection h with I G
  obtain ⟨h3,h4⟩:=NZ G;refine ⟨by simp [h3],fun k t' a' ht ha=>?_⟩
  cases k with
  | zero=>cases ht;cases ha;exact I
  | succ k=>exact zf1
theorem Ld:∀ {l:List S} {a:S},a∈l->wt a.tree<=gB (S.trees l)
 | [],_,h=>by cases h
 | b::l,a,h=>by
  rw [S.trees,gB]
  rcases fh h with rfl | h
  ·omega
  ·have:=Ld h;omega
theorem Lc:∀ l:List S,l.length<=gB (S.trees l)
 | []=>aS _
 | a::l=>by
  have:=Lc l;rw [S.trees,gB,length_cons]
  have:1<=wt a.tree:=by cases a <;> (rw [S.tree,wt];omega)
  omega
theorem KY:∀ {l:List S} {a:S},S.dT l=true->a∈l->a.ok=true
 | [],_,_,h=>by cases h
 | b::l,a,ho,h=>by
  simp only [S.dT,aK] at ho
  rcases fh h with rfl | h
  ·exact ho.1
  ·exact KY ho.2 h
theorem T8 (b:Bool) (s:Go.Xp.ae) (a:E):qM b (.var s a):=by
 intro t ho ht hb;obtain ⟨⟨kk,aa,vv,ss,ks⟩,l⟩:=t;obtain ⟨I,G,h3,hl⟩:=fE ht;simp only at I G h3;subst I G h3;obtain ⟨x0,rfl,qg⟩:=zH hl;simp only [S.ok,aK] at ho;rw [S.tree,wt] at hb;simp only [gB,lim] at hb;have tH:=tP b (a:=a) ho.2 zgi x0 qg;have wT:=lW b a ho.2;have sU:(ba [x0])[0]?=some (cT x0):=dB rfl;rw [S.bK];generalize a.out b=y0 at *;simp only [cT,T.n,T.kids];refine ai func194 ntmps194 ?_;refine aM (ax 0 10 (.a 10 (ax 11 3 .nil))) ?_;refine aj ?_;refine aC [] tH ?_;exact ay
theorem T0 (b:Bool) (s:Go.Xp.ae) (a:E):qM b (.set s a):=by
 intro t ho ht hb;obtain ⟨⟨kk,aa,vv,ss,ks⟩,l⟩:=t;obtain ⟨I,G,h3,hl⟩:=fE ht;simp only at I G h3;subst I G h3;obtain ⟨x0,rfl,qg⟩:=zH hl;simp only [S.ok,aK] at ho;rw [S.tree,wt] at hb;simp only [gB,lim] at hb;have tH:=tP b (a:=a) ho.2 zgi x0 qg;have wT:=lW b a ho.2;have sU:(ba [x0])[0]?=some (cT x0):=dB rfl;rw [S.bK];generalize a.out b=y0 at *;simp only [cT,T.n,T.kids];refine ai func194 ntmps194 ?_;refine aM (ax 0 9 (.a 9 (ax 10 3 .nil))) ?_;refine aj ?_;refine aC [] tH ?_;exact ay
theorem TY (b:Bool) (s:Go.Xp.ae) (a:E) (c:E):qM b (.put s a c):=by
 intro t ho ht hb;obtain ⟨⟨kk,aa,vv,ss,ks⟩,l⟩:=t;obtain ⟨I,G,h3,hl⟩:=fE ht;simp only at I G h3;subst I G h3;obtain ⟨x0,x1,rfl,qg,nC⟩:=FL hl;simp only [S.ok,aK] at ho;rw [S.tree,wt] at hb;simp only [gB,lim] at hb;have tH:=tP b (a:=a) ho.2.1 zgi x0 qg;have wT:=lW b a ho.2.1;have sU:(ba [x0,x1])[0]?=some (cT x0):=dB rfl;have wO:=tP b (a:=c) ho.2.2 zgi x1 nC;have kD:=lW b c ho.2.2;have mw:(ba [x0,x1])[1]?=some (cT x1):=dB rfl;rw [S.bK];generalize a.out b=y0 at *;generalize c.out b=y1 at *;simp only [cT,T.n,T.kids];refine ai func194 ntmps194 ?_;refine aM (ax 0 9 (ax 12 5 (.a 9 (.q 10 (.q 11 (.a 17 (ax 18 3 .nil))))))) ?_;refine aj ?_;refine aC [] tH ?_;refine aC [] wO ?_;exact ay
theorem TW (b:Bool) (c:E) (p:List S) (Cp:yo b p):qM b (.if1 c p):=by
 intro t ho ht hb;obtain ⟨⟨kk,aa,vv,ss,ks⟩,l⟩:=t;obtain ⟨I,G,h3,hl⟩:=fE ht;simp only at I G h3;subst I G h3;obtain ⟨x0,x1,rfl,qg,nC⟩:=FL hl;simp only [S.ok,aK] at ho;rw [S.tree,wt] at hb;simp only [gB,lim] at hb;have tH:=tP b (a:=c) ho.1 zgi x0 qg;have wT:=lW b c ho.1;have sU:(ba [x0,x1])[0]?=some (cT x0):=dB rfl;have wO:=Cp x1 ho.2 nC zgP;have kD:=Go.Xp.v7 (E.out b) (lW b) ho.2;rw [cR] at kD;have mw:(ba [x0,x1])[1]?=some (cT x1):=dB rfl;rw [S.bK];generalize c.out b=y0 at *
 change GF _ _ _ _ (.v (sv _)) _ at wO
 exact zaV
theorem TX (b:Bool) (c:E) (p:List S) (q:List S) (Cp:yo b p) (Cq:yo b q):qM b (.if2 c p q):=by
 intro t ho ht hb;obtain ⟨⟨kk,aa,vv,ss,ks⟩,l⟩:=t;obtain ⟨I,G,h3,hl⟩:=fE ht;simp only at I G h3;subst I G h3;obtain ⟨x0,x1,x2,rfl,qg,nC,Nl⟩:=acY hl;simp only [S.ok,aK] at ho;rw [S.tree,wt] at hb;simp only [gB,lim] at hb;have tH:=tP b (a:=c) ho.1 zgi x0 qg;have wT:=lW b c ho.1;have sU:(ba [x0,x1,x2])[0]?=some (cT x0):=dB rfl;have wO:=Cp x1 ho.2.1 nC zgP;have kD:=Go.Xp.v7 (E.out b) (lW b) ho.2.1;rw [cR] at kD;have mw:(ba [x0,x1,x2])[1]?=some (cT x1):=dB rfl;have mu:=Cq x2 ho.2.2 Nl zgP;have nz:=Go.Xp.v7 (E.out b) (lW b) ho.2.2;rw [cR] at nz;have eR:(ba [x0,x1,x2])[2]?=some (cT x2):=dB rfl;rw [S.bK];generalize c.out b=y0 at *
 change GF _ _ _ _ (.v (sv _)) _ at wO
 unfold ik at wO kD;generalize S.dR (E.out b) [123,32] p++[125]=y1 at *
 change GF _ _ _ _ (.v (sv _)) _ at mu
 unfold ik at mu nz;generalize S.dR (E.out b) [123,32] q++[125]=y2 at *;simp only [cT,T.n,T.kids];refine ai func194 ntmps194 ?_;refine aM (ax 0 5 (ax 8 5 (.a 5 (.q 6 (.q 7 (.a 13 (.q 14 (.q 15 .nil)))))))) ?_;refine aj ?_;refine aC [] tH ?_;refine aC [] wO ?_;refine D ?_;refine V [] mu ?_;exact al
theorem Mn (b:Bool) (c:E) (p:List S) (Cp:yo b p):qM b (.while_ c p):=by
 intro t ho ht hb;obtain ⟨⟨kk,aa,vv,ss,ks⟩,l⟩:=t;obtain ⟨I,G,h3,hl⟩:=fE ht;simp only at I G h3;subst I G h3;obtain ⟨x0,x1,rfl,qg,nC⟩:=FL hl;simp only [S.ok,aK] at ho;rw [S.tree,wt] at hb;simp only [gB,lim] at hb;have tH:=tP b (a:=c) ho.1 zgi x0 qg;have wT:=lW b c ho.1;have sU:(ba [x0,x1])[0]?=some (cT x0):=dB rfl;have wO:=Cp x1 ho.2 nC zgP;have kD:=Go.Xp.v7 (E.out b) (lW b) ho.2;rw [cR] at kD;have mw:(ba [x0,x1])[1]?=some (cT x1):=dB rfl;rw [S.bK];generalize c.out b=y0 at *
 change GF _ _ _ _ (.v (sv _)) _ at wO
 exact zaV
theorem TZ (b:Bool) (a:E):qM b (.ret a):=by
 intro t ho ht hb;exact zan
theorem Wq (b:Bool) (a:E):qM b (.do_ a):=by
 intro t ho ht hb;exact zan
theorem vC (b:Bool) (es:List S) (C:∀ a∈es,qM b a):yo b es:=by
 intro t ho ht hb;obtain ⟨⟨kk,aa,vv,ss,ks⟩,l⟩:=t;obtain ⟨I,G,h3,hl⟩:=fE ht;simp only at I G h3;subst I G h3;obtain ⟨hlen,AJ⟩:=NZ hl;have kO:=Go.Xp.v7 (E.out b) (lW b) ho;rw [cR,wt] at hb;rw [cR,wt] at kO;have hn:=Lc es;unfold ik at kO |-;unfold lim at hb;simp only [aL,length_cons,length_nil] at hb kO;simp only [cT,T.n,T.kids];refine ai func194 ntmps194 ?_;refine GW.range (ba l).length (fun k fr Γ=>∃ y,fr=[U,.v (.bool b),.loc 0 0,U,U,U,.v (sv y),U,U,U,U,U,U,U,U,U,U,U,U,U,U,U,U,U,U,U,U,U,U,U,U,U,U,U,U,U,U,U,U,U,U,U,U,U,U,U,U,U,U,U,U,U,U,U,U,U,U,U,U,U,U,U,U,U,U,U,U,U,U,U,U,U,U,U,U,U,U,U,U,U,U,U,U,U,U,U,U,U,U,U,U,U,U,U,U,U,U,U,U,U,U,U,U,U,U,U,U,U,U,U,U,U,U,U,U,U,U,U,U,U,U,U,U,U,U,U,U,U,U,U,U,.sl 6 (ba l),.v (ii ((ba l).length:Int)),.v (ii (k:Nat)),U,U,U,U,U,U,U,U,U,U,U,U]/\Γ=[.box 86 [.v (ii 14),.v (ii aa),.v (ii 0),.v (sv []),ints ks,.sl 6 (ba l)]]/\S.dR (E.out b) y (es.drop k)=S.dR (E.out b) [123,32] es) ?_ zg2 ?_ ?_ ?_
 ·exact ⟨_,_,Wk.aH ao,_,rfl,rfl,rfl⟩
 ·rintro k _ _ ⟨y,rfl,rfl,_⟩;exact dr
 ·rintro k _ _ hk ⟨y,rfl,rfl,hy⟩
  have hk:k < es.length:=by rw [bh,hlen] at hk;exact hk
  have AL:k < l.length:=by omega
  have hx:es[k]?=some es[k]:=by simp [hk]
  have oW:l[k]?=some l[k]:=by simp [AL]
  have hr:=dB oW;rw [n5 hk,S.dR] at hy;have hm:=bo hx;have hc:=C _ hm _ (KY ho hm) (AJ k _ _ oW hx) (by have:=Ld hm;unfold lim;omega);generalize l[k]=t at *;generalize hgx:es[k].bK (E.out b)=x at *;have kP:=Og (E.out b) (es.drop (k+1)) (y++x++[32]);rw [hy] at kP;simp only [aL,length_cons,length_nil] at kP;refine D ?_;refine V [] hc ?_;exact ⟨rfl,rfl,_,_,(Wk.cut (n:=1) (c6 rfl) rfl).trans (Wk.aH ao),_,rfl,rfl,hy⟩
 ·rintro _ _ ⟨y,rfl,rfl,hy⟩;rw [List.drop_of_length_le (by rw [bh,hlen];exact aI _),S.dR] at hy;subst hy;exact ay
mutual
theorem abv (b:Bool):∀ s:S,qM b s
 | .set s a=>T0 b s a
 | .put s a c=>TY b s a c
 | .if1 c p=>TW b c p (vC b p (wx b p))
 | .if2 c p q=>TX b c p q (vC b p (wx b p)) (vC b q (wx b q))
 | .while_ c p=>Mn b c p (vC b p (wx b p))
 | .ret a=>TZ b a
 | .do_ a=>Wq b a
 | .var s a=>T8 b s a
theorem wx (b:Bool):∀ l:List S,∀ a∈l,qM b a
 | []=>fun a h=>by cases h
 | c::l=>fun a h=>by
  rcases fh h with h | h
  ·rw [h];exact abv b c
  ·exact wx b l a h
end
theorem abu (b:Bool) (l:List S):yo b l:=vC b l (wx b l)
open Go.Xp (gw)
theorem Sz (p:Src) (hp:Fj p) (ls:List (List S)) (hb:Ix p ls):GF prog 141 [.agg (aq p)] [] (.v (.bool (ls.all fun l=>gw l 1))) []:=by
 refine ai func141 ntmps141 ?_;refine GW.range (p.fns.map aw).length (fun k fr Γ=>fr=[U,.loc 0 0,U,U,U,U,U,U,.sl 3 (p.fns.map aw),.v (ii ((p.fns.map aw).length:Int)),.v (ii (k:Nat)),U,U,U,U,U,U,U,U,U,U,U,U,U,U,U,U,U,U,U,U,U,U,U,U,U,U,U,U,U,U,U,U,U,U]/\Γ=[.box 28 (aq p)]/\((ls.take k).all fun l=>gw l 1)=true) ?_ (by simpa using by have:=hp.fns.1;omega) ?_ ?_ ?_
 ·exact lN
 ·exact jn
 ·rintro k _ _ hk ⟨rfl,rfl,hf⟩
  have hk:k < p.fns.length:=by simpa using hk
  have eh:k < ls.length:=by rw [hb.len];exact hk
  have hx:p.fns[k]?=some p.fns[k]:=by simp [hk]
  have C6:ls[k]?=some ls[k]:=by simp [eh]
  have hr:=E9 hx;obtain ⟨h0,ho,hw,t,tM,her⟩:=hb.at_ k _ _ hx C6;have hs:=Iw p (fun n hn=>(hp.nodes.2 n hn).2) _ _ _ tM;rw [Int.toNat_of_nonneg h0] at hs;have J2:=abu true ls[k] t ho her zgi;obtain ⟨ts,t2,q,f,I,G,h3,h4,h5,h6,h7⟩:=X5 ho hw;have oW:=SC _ ts X I;have hmp:RS.ok ⟨ts,0,(ik E.bK ls[k]).length,0,0⟩:=⟨aS _,by simp only;omega⟩;have fu:=(sds f).block 1 _ t2 q hmp X h5
  have gn:(E.out true)=E.bK:=by funext a;rfl
  rw [gn] at J2;generalize ik E.bK ls[k]=tx at *;generalize yf:gw ls[k] 1=fit at *;generalize p.fns[k]=x at *
  rcases h7 with ⟨h7,h8,rfl⟩ | ⟨h7,rfl⟩
  ·have wO:(q.code != 0)=false:=by simpa using h7
   have mu:((q.i:Int) != ((q.l.map dm).length:Int))=false:=by rw [bM,h6];simp [h8]
   refine zeq ?_;refine bm ?_;exact ⟨rfl,rfl,_,_,(Wk.cut (n:=1) (c6 rfl) rfl).trans (Wk.aH ao),rfl,rfl,wD C6 hf yf⟩
  ·have wO:(q.code != 0)=true:=by simpa using h7
   have bj:(ls.all fun l=>gw l 1)=false:=yt C6 yf;rw [bj];refine zeq ?_;exact zbU
 ·rintro _ _ ⟨rfl,rfl,hf⟩;rw [n7 (by rw [bM,hb.len];exact aI _)] at hf;rw [hf];exact ay
theorem Qk (p:Src) (hp:Fj p) (h:rD p=some false):GF prog 81 [.agg (aq p)] [] (.v (.bool false)) []:=by
 have hs:=EP p hp false h;refine ai func81 ntmps81 ?_;refine V [] hs ?_;exact al
theorem Qm (p:Src) (hp:Fj p) (h:rD p=some true) (ls:List (List S)) (hb:Ix p ls):GF prog 81 [.agg (aq p)] [] (.v (.bool (ls.all fun l=>gw l 1))) []:=by
 have hs:=EP p hp true h;have hf:=Sz p hp ls hb;generalize (ls.all fun l=>gw l 1)=b at *;refine ai func81 ntmps81 ?_;refine V [] hs ?_;refine V [] hf ?_;exact al
open Go.Im
theorem Zk {p:Src} (hw:b7 p<=1048576):Fj p:=by
 obtain ⟨⟨a1,a2⟩,⟨b1,b2⟩,⟨c1,c2⟩,⟨d1,d2⟩⟩:=dU p;exact ⟨⟨by omega,fun s hs=>by have:=a2 s hs;omega⟩,⟨by omega,fun s hs=>by have:=b2 s hs;omega⟩,⟨by omega,fun f hf=>by obtain ⟨e1,e2,e3⟩:=c2 f hf;exact ⟨by omega,by omega,fun s hs=>by have:=e3 s hs;omega⟩⟩,⟨by omega,fun n hn=>by obtain ⟨e1,e2⟩:=d2 n hn;exact ⟨by omega,by omega⟩⟩⟩
theorem Ql (p:Src) (hw:b7 p<=1048576):GF prog 81 [.agg (aq p)] [] (.v (.bool (fI p))) []:=by
 have lT:=Zk hw;obtain ⟨b,hb⟩:=P8 p
 cases b with
 | false=>rw [ac2 hb];exact Qk p lT hb
 | true =>
  obtain ⟨l,hl⟩:=Zm hb;obtain ⟨ls,hf⟩:=hl.OX;rw [ac3 hl hf];exact Qm p lT hb ls (QH hl hf hw)
end Go.Xg
