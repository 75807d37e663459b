/- Part 6 of proofs that are told in their last texts. -/
import Derived.Test.YtfahcenafcklmaaGreatDoorY5
import Derived.Test.YtfahcenafcklmaaGreatDoorY3
import Derived.Test.YtfahcenafcklmaaGreatDoorY2
open List (all_append all_cons all_eq_false all_nil any_append any_eq_false cons_append drop_length findIdx?_eq_some_iff_getElem length_cons length_nil map_take nil_append)
set_option linter.unusedVariables false
set_option linter.unusedSimpArgs false
set_option maxRecDepth 100000
set_option maxHeartbeats 4000000
namespace Go.Xg
open Go.RowKit Go.Xw Go.Proofs
open Go.Xp (levels)
def A6:List ah:=[[120],[121],[103],[49],[48],[55],[103,101,116,40,41],[115,105,122,101,40,97,41]]
def mT (l:List ah) (k:Int):ah:=l.getD k.toNat []
theorem SQ {l:List ah} {k:Int} (h:0<=k/\k < (l.length:Int)):(bW l)[k.toNat]?=some [.v (sv (mT l k))]:=by
 have hk:k.toNat < l.length:=by omega
 unfold mT;rw [List.getD_eq_getElem?_getD,ct hk,Option.getD_some];simp [bW,hk]
theorem l8 {l:List ah} {n:Nat} (h:∀ s∈l,s.length<=n) (k:Int):(mT l k).length<=n:=by
 unfold mT;rw [List.getD_eq_getElem?_getD]
 cases hk:l[k.toNat]? with
 | none=>exact aX _
 | some s=>exact h s (br hk)
def iz (code:ah):Nat->dj->ah × dj
 | 0,c=>(mT A6 (aY code 8 (aY code 9 c).2).1,(aY code 8 (aY code 9 c).2).2)
 | d+1,c =>
  let k:=aY code 9 c
  if k.1 < 3 then (mT A6 (aY code 8 k.2).1,(aY code 8 k.2).2)
  else if k.1=3 then ([97,91]++(iz code d k.2).1++[32,38,32,51,93],(iz code d k.2).2)
  else if k.1=4 then
   let j:=aY code 3 k.2
   (mT [[45],[33],[126]] j.1++[40]++(iz code d j.2).1++[41],(iz code d j.2).2)
  else if k.1=5 then ([97,91]++(iz code d k.2).1++[93],(iz code d k.2).2)
  else
   let j:=aY code 9 k.2
   let a:=iz code d j.2
   let bX:=levels.getD j.1.toNat []
   let o:=aY code (bX.length:Int) a.2
   let b:=iz code d o.2
   ([40]++a.1++[32]++mT bX o.1++[32]++b.1++[41],b.2)
theorem IG (k:Int):∀ s∈levels.getD k.toNat [],s.length<=2:=fun s hs=>by
 rw [List.getD_eq_getElem?_getD] at hs
 cases hk:levels[k.toNat]? with
 | none=>rw [hk] at hs;cases hs
 | some l =>
  rw [hk] at hs
  have h:∀ l∈levels,∀ s∈l,s.length<=2:=by decide
  exact h l (br hk) s hs
def zM:Nat->Nat
 | 0=>7
 | d+1=>2 * zM d+7
theorem Zu:∀ d,7<=zM d
 | 0=>aH _
 | d+1=>by rw [zM];omega
theorem nK (code:ah):∀ (d:Nat) (c:dj),(iz code d c).1.length<=zM d
 | 0,c=>by rw [iz,zM];exact l8 aC _
 | d+1,c=>by
  have ih:=nK code d;have h7:=Zu d;rw [iz,zM];simp only;split
  ·have:=l8 (l:=A6) (n:=7) aC (aY code 8 (aY code 9 c).2).1;show (mT A6 _).length<=_;omega
  split
  ·have:=ih (aY code 9 c).2;exact zad
  split
  ·have D:=ih (aY code 3 (aY code 9 c).2).2;have X:=l8 (l:=[[45],[33],[126]]) (n:=1) aC (aY code 3 (aY code 9 c).2).1;exact zad
  split
  ·have:=ih (aY code 9 c).2;exact zad
  ·generalize aY code 9 (aY code 9 c).2=j;have D:=ih j.2;generalize iz code d j.2=a at *;have X:=l8 (IG j.1) (aY code ((levels.getD j.1.toNat []).length:Int) a.2).1;have h3:=ih (aY code ((levels.getD j.1.toNat []).length:Int) a.2).2;exact zad
theorem rX {code:ah}:∀ (d:Nat) {c:dj},c.i<=code.length->(iz code d c).2.i<=code.length
 | 0,c,h=>by rw [iz];exact cD _ (cD _ h)
 | d+1,c,h=>by
  have ih:=fun {c:dj}=>rX (code:=code) d (c:=c)
  have D:=cD (code:=code) 9 h;rw [iz];simp only;split
  ·exact cD _ D
  split
  ·exact ih D
  split
  ·exact ih (cD _ D)
  split
  ·exact ih D
  ·exact ih (cD _ (ih (cD _ D)))
def qo (code:ah) (d:Nat) (sub:dj->ah × dj) (out:ah) (c:dj):ah × dj :=
 let k:=aY code 8 c
 if k.1=0/\0 < d then
  let e:=iz code 1 k.2
  let a:=sub e.2
  let b:=sub a.2
  (out++[105,102,32,40]++e.1++[41,32,123,32]++a.1++[32,125,32,101,108,115,101,32,123,32]++b.1++[32,125,32],b.2)
 else if k.1=1/\0 < d then
  let a:=sub k.2
  (out++[121,32,61,32,51,59,32,119,104,105,108,101,32,40,121,32,62,32,48,41,32,123,32]++a.1++[32,121,32,61,32,121,32,45,32,49,59,32,125,32],a.2)
 else if k.1=2 then
  let e:=iz code 1 k.2
  let f:=iz code 2 e.2
  (out++[97,91]++e.1++[32,38,32,51,93,32,61,32]++f.1++[59,32],f.2)
 else if k.1=3 then
  let e:=iz code 2 k.2
  (out++[112,117,116,40]++e.1++[41,59,32],e.2)
 else if k.1=4 then
  let e:=iz code 1 k.2
  (out++[103,32,61,32,103,32,43,32]++e.1++[59,32],e.2)
 else
  let x:=aY code 2 k.2
  let e:=iz code 2 x.2
  (out++mT [[120],[121]] x.1++[32,61,32]++e.1++[59,32],e.2)
def lA (g:ah->dj->ah × dj):Nat->ah->dj->ah × dj
 | 0,out,c=>(out,c)
 | n+1,out,c=>lA g n (g out c).1 (g out c).2
def yb (code:ah):Nat->dj->ah × dj
 | 0,c=>lA (qo code 0 fun c=>([],c)) (aY code 4 c).1.toNat [] (aY code 4 c).2
 | d+1,c=>lA (qo code (d+1) (yb code d)) (aY code 4 c).1.toNat [] (aY code 4 c).2
theorem AD {code:ah} {d:Nat} {sub:dj->ah × dj} {B:Nat} (hs:∀ c,(sub c).1.length<=B) (out:ah) (c:dj):(qo code d sub out c).1.length<=out.length+2 * B+200:=by
 have D:=fun c=>nK code 1 c
 have X:=fun c=>nK code 2 c
 simp only [zM] at D X;unfold qo;simp only;generalize aY code 8 c=k;split
 ·have a1:=D k.2;have a2:=hs (iz code 1 k.2).2;have a3:=hs (sub (iz code 1 k.2).2).2;exact zad
 split
 ·have a2:=hs k.2;exact zad
 split
 ·have a1:=D k.2;have a2:=X (iz code 1 k.2).2;exact zad
 split
 ·have a1:=X k.2;exact zad
 split
 ·have a1:=D k.2;exact zad
 ·have a1:=X (aY code 2 k.2).2;have a2:=l8 (l:=[[120],[121]]) (n:=1) aC (aY code 2 k.2).1;exact zad
theorem EN {code:ah} {d:Nat} {sub:dj->ah × dj} (hs:∀ c:dj,c.i<=code.length->(sub c).2.i<=code.length) {out:ah} {c:dj} (hc:c.i<=code.length):(qo code d sub out c).2.i<=code.length:=by
 have D:=cD (code:=code) 8 hc;unfold qo;simp only;generalize aY code 8 c=k at *;split
 ·exact hs _ (hs _ (rX 1 D))
 split
 ·exact hs _ D
 split
 ·exact rX 2 (rX 1 D)
 split
 ·exact rX 2 D
 split
 ·exact rX 1 D
 ·exact rX 2 (cD _ D)
theorem y9 {g:ah->dj->ah × dj} {B:Nat} (hg:∀ out c,(g out c).1.length<=out.length+B):∀ (n:Nat) (out:ah) (c:dj),(lA g n out c).1.length<=out.length+n * B
 | 0,out,c=>by rw [lA];show out.length<=_;omega
 | n+1,out,c=>by
  have D:=y9 hg n (g out c).1 (g out c).2;have X:=hg out c;rw [lA,Nat.succ_mul];omega
theorem CD {code:ah} {g:ah->dj->ah × dj} (hg:∀ out c,c.i<=code.length->(g out c).2.i<=code.length):∀ (n:Nat) (out:ah) (c:dj),c.i<=code.length->(lA g n out c).2.i<=code.length
 | 0,out,c,h=>by rw [lA];exact h
 | n+1,out,c,h=>by rw [lA];exact CD hg n _ _ (hg out c h)
def BS:Nat->Nat
 | 0=>600
 | d+1=>6 * BS d+600
theorem Bf (code:ah):∀ (d:Nat) (c:dj),(yb code d c).1.length<=BS d
 | 0,c=>by
  rw [yb,BS];have h:=cI code c (n:=4) G;have X:=y9 (B:=200) (fun out c=>AD (code:=code) (d:=0) (sub:=fun c=>([],c)) (B:=0) (fun c=>aH _) out c) (aY code 4 c).1.toNat [] (aY code 4 c).2;have h3:(aY code 4 c).1.toNat * 200<=3 * 200:=sA _ G;simp only [length_nil] at X;omega
 | d+1,c=>by
  rw [yb,BS];have h:=cI code c (n:=4) G;have X:=y9 (B:=2 * BS d+200) (fun out c=>by have:=AD (code:=code) (d:=d+1) (Bf code d) out c;omega) (aY code 4 c).1.toNat [] (aY code 4 c).2;have h3:(aY code 4 c).1.toNat * (2 * BS d+200)<=3 * (2 * BS d+200):=sA _ G;simp only [length_nil] at X;omega
theorem GD {code:ah}:∀ (d:Nat) {c:dj},c.i<=code.length->(yb code d c).2.i<=code.length
 | 0,c,h=>by rw [yb];exact CD (fun out c hc=>EN (fun c h=>h) hc) _ _ _ (cD _ h)
 | d+1,c,h=>by rw [yb];exact CD (fun out c hc=>EN (fun c h=>GD d h) hc) _ _ _ (cD _ h)
open Tryz
open GV (U)
abbrev gT (code:ah) (c:dj):Ob:=.box 103 (w5 code c)
theorem WT {d:Nat} (h:d<=3):zM d<=105:=by
 have:d=0\/d=1\/d=2\/d=3:=by omega
 rcases this with rfl | rfl | rfl | rfl <;> decide
theorem p9 {l:List ah} {m:Nat} (h:m < l.length):(bW l)[m]?=some [.v (sv (mT l (m:Int)))]:=by
 have:=SQ (l:=l) (k:=(m:Int)) ⟨by omega,by omega⟩
 rwa [jR] at this
theorem MZ {m:Nat} (h:m < 9):(levels.map fun l=>[strs l])[m]?=some [strs (levels.getD m [])]:=by
 have:m < levels.length:=h;rw [bp,List.getD_eq_getElem?_getD,ct this];rfl
theorem P4:∀ m,m < 9->0 < (levels.getD m []).length:=by decide
attribute [local irreducible] GW GL GO YG GC GA bg bj rU xg sy
theorem K9 (code:ah) (hl:code.length<=1099511627776):∀ (d:Nat) (c:dj),d<=3->c.i<=code.length ->
  GF prog 247 [.loc 0 0,.v (ii (d:Nat))] [gT code c] (.v (sv (iz code d c).1)) [gT code (iz code d c).2]:=by
 intro d
 induction d with
 | zero =>
  intro c hd hc;rw [iz];have D:=db code 9 c hl hc;have i1:=cD (code:=code) 9 hc;generalize aY code 9 c=a at *;obtain ⟨k,c1⟩:=a;simp only at D i1 |-;exact zay
 | succ d ih =>
  intro c hd hc
  have gQ:(((d+1:Nat):Int)==0)=false:=by simp;omega
  have hB:=WT (d:=d) G
  have xK:∀ c:dj,c.i<=code.length->GF prog 247 [.loc 0 0,.v (ii (((d+1:Nat):Int) - 1))] [gT code c] (.v (sv (iz code d c).1)) [gT code (iz code d c).2]:=fun c hc=>by
   rw [show (((d+1:Nat):Int) - 1)=(d:Int) by omega];exact ih c G hc
  clear ih;rw [iz];have D:=db code 9 c hl hc;have r1:=cI code c (n:=9) G;have i1:=cD (code:=code) 9 hc;generalize aY code 9 c=a at *;obtain ⟨k,c1⟩:=a;simp only at D r1 i1 |-
  by_cases hk:k < 3
  ·have fk:decide (k < (3:Int))=true:=by simpa using hk
   rw [ae hk];exact zay
  ·have fk:decide (k < (3:Int))=false:=by simpa using hk
   rw [ab hk]
   by_cases T0:k=3
   ·subst T0;exact zbc
   ·have ace:(k==3)=false:=by simpa using T0
    rw [ab T0]
    by_cases hk4:k=4
    ·subst hk4;rw [ae rfl];have X:=db code 3 c1 hl i1;have r2:=cI code c1 (n:=3) G;have i2:=cD (code:=code) 3 i1;generalize aY code 3 c1=a at *;obtain ⟨j,c2⟩:=a;simp only at X r2 i2 |-;obtain ⟨m,rfl⟩:∃ m:Nat,j=(m:Int):=⟨j.toNat,by omega⟩;have hr:=p9 (l:=[[45],[33],[126]]) (m:=m) (by show m < 3;omega);have hp:=l8 (l:=[[45],[33],[126]]) (n:=1) aC (m:Int);generalize mT [[45],[33],[126]] (m:Int)=sg at *;have h3:=xK c2 i2;have b3:=nK code d c2;generalize iz code d c2=a at *;obtain ⟨s,c3⟩:=a;simp only at h3 b3 |-;refine ai func247 ntmps247 ?_;refine V [0] D ?_;refine aM (.q 1 (ay 6 3 (.f 0 (.a 2 (ay 3 3 (.a 9 (ay 10 3 .nil)))) 2 (.f 0 (ay 3 3 (.a 9 (ay 10 3 .nil))) 9 (.a 0 (ay 3 3 (ay 10 3 .nil))))))) ?_;refine ak ?_;refine GO.fork ?_ ?_
     ·refine zau ?_;refine aB [0] X ?_;refine aB [0] h3 ?_;exact aw
     ·refine aB [0] X ?_;refine GO.fork ?_ ?_
      ·refine zau ?_;refine aB [0] h3 ?_;exact aw
      ·refine aB [0] h3 ?_;refine zau ?_;exact aw
    ·have acf:(k==4)=false:=by simpa using hk4
     rw [ab hk4]
     by_cases T8:k=5
     ·subst T8;exact zbc
     ·have acg:(k==5)=false:=by simpa using T8
      rw [ab T8];have X:=db code 9 c1 hl i1;have r2:=cI code c1 (n:=9) G;have i2:=cD (code:=code) 9 i1;generalize aY code 9 c1=a at *;obtain ⟨j,c2⟩:=a;simp only at X r2 i2 |-;obtain ⟨m,rfl⟩:∃ m:Nat,j=(m:Int):=⟨j.toNat,by omega⟩;rw [jR];have hr:=MZ (m:=m) G;have hn:=P4 m G;have ek:=IG (m:Int);rw [jR] at ek;generalize levels.getD m []=sgs at *;have h3:=xK c2 i2;have b3:=nK code d c2;have i3:=rX (code:=code) d i2;generalize iz code d c2=a at *;obtain ⟨s,c3⟩:=a;simp only at h3 b3 i3 |-;have h4:=db code (sgs.length:Int) c3 hl i3;have r4:=cI code c3 (n:=(sgs.length:Int)) G;have i4:=cD (code:=code) (sgs.length:Int) i3;generalize aY code (sgs.length:Int) c3=a at *;obtain ⟨o,c4⟩:=a;simp only at h4 r4 i4 |-;obtain ⟨q,rfl⟩:∃ q:Nat,o=(q:Int):=⟨o.toNat,by omega⟩;have hr4:=p9 (l:=sgs) (m:=q) G;have hp:=l8 ek (q:Int);generalize mT sgs (q:Int)=sg at *;have rG:(sgs.map fun s=>[GV.v (sv s)]).length=sgs.length:=cj _;rw [<-rG] at h4;have h5:=xK c4 i4;have b5:=nK code d c4;generalize iz code d c4=a at *;obtain ⟨s2,c5⟩:=a;simp only at h5 b5 |-;refine ai func247 ntmps247 ?_;refine V [0] D ?_;refine V [] kx ?_;refine V [0] X ?_;refine aM (ay 0 3 (ay 6 4 (ay 15 3 (.a 3 (.q 4 (.q 5 (.a 10 (ay 11 4 (.a 18 (ay 19 3 .nil)))))))))) ?_;refine ak ?_;refine aB [0] h3 ?_;refine aB [0] h4 ?_;refine aB [0] h5 ?_;exact aw
theorem Ds (code:ah) (hl:code.length<=1099511627776) (d:Nat) (hd:d<=3) (sub:dj->ah × dj)
  (hs:0 < d->∀ c:dj,c.i<=code.length->GF prog 246 [.loc 0 0,.v (ii ((d:Int) - 1))] [gT code c] (.v (sv (sub c).1)) [gT code (sub c).2])
  (hb:∀ c,(sub c).1.length<=1000000) (hi:∀ c:dj,c.i<=code.length->(sub c).2.i<=code.length) (c:dj) (hc:c.i<=code.length) :
  GF prog 246 [.loc 0 0,.v (ii (d:Nat))] [gT code c] (.v (sv (lA (qo code d sub) (aY code 4 c).1.toNat [] (aY code 4 c).2).1)) [gT code (lA (qo code d sub) (aY code 4 c).1.toNat [] (aY code 4 c).2).2]:=by
 have D:=db code 4 c hl hc;have r1:=cI code c (n:=4) G;have i1:=cD (code:=code) 4 hc;generalize aY code 4 c=a at *;obtain ⟨n0,c1⟩:=a;simp only at D r1 i1 |-;obtain ⟨n,rfl⟩:∃ n:Nat,n0=(n:Int):=⟨n0.toNat,by omega⟩;rw [jR];have hE:=K9 code hl
 have Mw:=fun c=>nK code 1 c
 have El:=fun c=>nK code 2 c
 have xC:zM 1=21:=rfl;have nO:zM 2=49:=rfl;rw [xC] at Mw;rw [nO] at El
 have Ac:=fun out c=>AD (code:=code) (d:=d) hb out c
 have hoi:=fun (out:ah) (c:dj) (h:c.i<=code.length)=>EN (code:=code) (d:=d) hi (out:=out) h
 generalize hr:lA (qo code d sub) n [] c1=r;refine ai func246 ntmps246 ?_;refine V [0] D ?_;refine GW.loop (fun x:Nat=>x) (fun x fr Γ=>∃ out c,fr=[.loc 0 0,.v (ii (d:Nat)),U,U,U,.v (sv out),.v (ii (x:Nat)),U,U,U,U,U,U,U,U,U,U,U,U,U,U,U,U,U,U,U,U,U,U,U,U,U,U,U,U,U,U,U,U,U,U,U,U,U,U,U,U,U,U,U,U,U,U,U,U,U,U,U,U,U,U,U,U,U,U,U,U,U,U,U,U,U,U,U,U,U,U,U,U,U,U,U,U,U,U,U,U,U,U,U,U,U,U,U,U]/\Γ=[gT code c]/\x<=3/\c.i<=code.length/\out.length+x * 2000200<=8000000/\lA (qo code d sub) x out c=r) n ?_ ?_
 ·exact ⟨_,_,Wk.aJ ar,_,_,rfl,rfl,by omega,i1,by simp only [length_nil];omega,hr⟩
 ·rintro x _ _ ⟨out,c,rfl,rfl,hx,hc,XQ,h⟩
  cases x with
  | zero =>
   rw [lA] at h;subst h;exact zdy
  | succ x =>
   rw [lA] at h;have oV:decide ((0:Int) < ((x+1:Nat):Int))=true:=decide_eq_true G
   have pB:(((x+1:Nat):Int) - 1)=(x:Int):=by omega
   have mw:=Ac out c;have r9:=hoi out c hc
   have key:∀ y,qo code d sub out c=y->lA (qo code d sub) x y.1 y.2=r/\y.2.i<=code.length/\y.1.length+x * 2000200<=8000000:=by
    rintro _ rfl;exact ⟨h,r9,by omega⟩
   clear h mw r9 Ac hoi;unfold qo at key;have h3:=db code 8 c hl hc;have r3:=cI code c (n:=8) G;have i3:=cD (code:=code) 8 hc;generalize aY code 8 c=a at *;obtain ⟨k,c2⟩:=a;simp only at h3 r3 i3 key;obtain ⟨m,rfl⟩:∃ m:Nat,k=(m:Int):=⟨k.toNat,by omega⟩
   by_cases hA:(m:Int)=0/\0 < d
   ·obtain ⟨e1,e2,e3⟩:=key _ (ae hA);obtain ⟨hm,KE⟩:=hA
    obtain rfl:m=0:=by omega
    have C7:decide ((0:Int) < (d:Int))=true:=by simpa using KE
    have g1:=hE 1 c2 G i3;have b1:=Mw c2;have j1:=rX (code:=code) 1 i3;generalize iz code 1 c2=a at *;obtain ⟨s1,c3⟩:=a;simp only at e1 e2 e3 g1 b1 j1;have g2:=hs KE c3 j1;have b2:=hb c3;have j2:=hi c3 j1;generalize sub c3=a at *;obtain ⟨s2,c4⟩:=a;simp only at e1 e2 e3 g2 b2 j2;have g3:=hs KE c4 j2;have b3:=hb c4;generalize sub c4=a at *;obtain ⟨s3,c5⟩:=a;simp only at e1 e2 e3 g3 b3;refine I ?_;refine V [0] h3 ?_;refine V [0] g1 ?_;refine V [0] g2 ?_;refine V [0] g3 ?_;exact zai
   have key:=fun y h=>key y ((ab hA).trans h)
   by_cases hB:(m:Int)=1/\0 < d
   ·obtain ⟨e1,e2,e3⟩:=key _ (ae hB);obtain ⟨hm,KE⟩:=hB
    obtain rfl:m=1:=by omega
    have C7:decide ((0:Int) < (d:Int))=true:=by simpa using KE
    have g2:=hs KE c2 i3;have b2:=hb c2;generalize sub c2=a at *;exact zcy
   have key:=fun y h=>key y ((ab hB).trans h)
   by_cases hC:(m:Int)=2
   ·obtain ⟨e1,e2,e3⟩:=key _ (ae hC)
    obtain rfl:m=2:=by omega
    have g1:=hE 1 c2 G i3;have b1:=Mw c2;have j1:=rX (code:=code) 1 i3;generalize iz code 1 c2=a at *;obtain ⟨s1,c3⟩:=a;simp only at e1 e2 e3 g1 b1 j1;have g2:=hE 2 c3 G j1;have b2:=El c3;generalize iz code 2 c3=a at *;obtain ⟨s2,c4⟩:=a;simp only at e1 e2 e3 g2 b2;refine I ?_;refine V [0] h3 ?_;refine V [0] g1 ?_;refine V [0] g2 ?_;exact zai
   have key:=fun y h=>key y ((ab hC).trans h)
   by_cases hD:(m:Int)=3
   ·obtain ⟨e1,e2,e3⟩:=key _ (ae hD)
    obtain rfl:m=3:=by omega
    have g2:=hE 2 c2 G i3;have b2:=El c2;generalize iz code 2 c2=a at *;exact zcy
   have key:=fun y h=>key y ((ab hD).trans h)
   by_cases hF:(m:Int)=4
   ·obtain ⟨e1,e2,e3⟩:=key _ (ae hF)
    obtain rfl:m=4:=by omega
    have g1:=hE 1 c2 G i3;have b1:=Mw c2;generalize iz code 1 c2=a at *;obtain ⟨s1,c3⟩:=a;simp only at e1 e2 e3 g1 b1;refine I ?_;refine V [0] h3 ?_;refine V [0] g1 ?_;exact zai
   obtain ⟨e1,e2,e3⟩:=key _ (ab hF);have h4:=db code 2 c2 hl i3;have r4:=cI code c2 (n:=2) G;have i4:=cD (code:=code) 2 i3;generalize aY code 2 c2=a at *;obtain ⟨q,c3⟩:=a;simp only at e1 e2 e3 h4 r4 i4;obtain ⟨q,rfl⟩:∃ q':Nat,q=(q':Int):=⟨q.toNat,by omega⟩;have bx:=p9 (l:=[[120],[121]]) (m:=q) (by show q < 2;omega);have hp:=l8 (l:=[[120],[121]]) (n:=1) aC (q:Int);generalize mT [[120],[121]] (q:Int)=sg at *;have g2:=hE 2 c3 G i4;have b2:=El c3;generalize iz code 2 c3=a at *;obtain ⟨s2,c4⟩:=a;simp only at e1 e2 e3 g2 b2
   have hm:(m=0/\d=0)\/(m=1/\d=0)\/m=5\/m=6\/m=7:=by omega
   rcases hm with ⟨rfl,rfl⟩ | ⟨rfl,rfl⟩ | rfl | rfl | rfl
   all_goals
    refine I ?_;refine V [0] h3 ?_;refine aM (.q 0 (.q 2 (.q 8 (.f 1 (.a 3 (ay 4 4 (.a 9 (ay 10 3 .nil)))) 3 (.f 1 (ay 4 4 (.a 9 (ay 10 3 .nil))) 9 (.a 1 (ay 4 4 (ay 10 3 .nil)))))))) ?_;refine ak ?_;refine GO.fork ?_ ?_
    ·refine zau ?_;refine aB [0] h4 ?_;refine aB [0] g2 ?_;refine I ?_;exact zai
    ·refine aB [0] h4 ?_;refine GO.fork ?_ ?_
     ·refine zau ?_;refine aB [0] g2 ?_;refine I ?_;exact zai
     ·refine aB [0] g2 ?_;refine du ?_;refine bq ?_;exact zai
theorem YO {d:Nat} (h:d<=3):BS d<=1000000:=by
 have:d=0\/d=1\/d=2\/d=3:=by omega
 rcases this with rfl | rfl | rfl | rfl <;> decide
theorem yN (code:ah) (hl:code.length<=1099511627776):∀ (d:Nat) (c:dj),d<=3->c.i<=code.length ->
  GF prog 246 [.loc 0 0,.v (ii (d:Nat))] [gT code c] (.v (sv (yb code d c).1)) [gT code (yb code d c).2]
 | 0,c,hd,hc=>by
  rw [yb];exact Ds code hl 0 hd _ (fun h=>absurd h (Nat.lt_irrefl 0)) (fun c=>aX _) (fun c h=>h) c hc
 | d+1,c,hd,hc=>by
  rw [yb];refine Ds code hl (d+1) hd _ (fun h c hc=>?_) (fun c=>jg (Bf code d c) (YO G)) (fun c h=>GD d h) c hc;rw [show (((d+1:Nat):Int) - 1)=(d:Int) by omega];exact yN code hl d c G hc
end Go.Xg
namespace Go.Xg
open Go.RowKit Go.Xw Go.Proofs Tryz Go.Sp
open GV (U)
open Go.Xp (Tok)
attribute [local irreducible] GW GL GO YG GC GA bg bj
theorem Zf (s:ah) (hs:s.length<=1000000000000) :
  GC prog 158 [.v (sv s)] [] fun g Δ=>Δ=[]/\∃ l c z,g=.tup [Go.Xg.gW l,.v (ii c),.v (ii z)]/\(c=0->s.length<=6000/\l.length<=6000/\∀ t∈l,D0 t):=by
 rcases Nat.lt_or_ge 6000 s.length with Pq | Pq
 ·have hd6:decide ((6000:Int) < (s.length:Int))=true:=by simpa using by omega
  refine ai func158 ntmps158 ?_;refine nr ?_;exact ⟨.tup [Go.Xg.gW [],.v (ii 1),.v (ii 0)],iw,rfl,[],1,0,rfl,fun h=>by omega⟩
 ·have hd6:decide ((6000:Int) < (s.length:Int))=false:=by simpa using by omega
  have Ui:=DJ s 0 G (aX _);have rG:=u5 s (s.length+1) 0 (aX _);generalize hS:skip s (s.length+1) 0=R at *;obtain ⟨a0,z0⟩:=R;simp only at Ui rG;refine ai func158 ntmps158 ?_;refine n7 ?_;refine I ?_;refine V [] Ui ?_;refine GW.A4 (fun fr Γ=>∃ (a:Nat) (z:Int) (n:Nat) (rows:List (List GV)) (acc:List Tok),fr=[.v (sv s),U,U,U,U,.vec 0 n,.v (ii (a:Nat)),.v (ii z),U,U,U,U,U,U,U,U,U,U,U,U,U,U,U,U,U,U,U,U,U,U,U,U,U,U,U,U,U,U,U,U,U,U,U,U,U,U,U,U,U,U,U,U,U,U,U]/\Γ=[.vec 168 4 0 rows]/\rows.length=n/\rows=acc.map cZ/\acc.length<=6000/\∀ t∈acc,D0 t) ?_ ?_
  ·refine GW.loop (fun x:Nat=>s.length - x) (fun a fr Γ=>∃ (z:Int) (n:Nat) (rows:List (List GV)) (acc:List Tok),fr=[.v (sv s),U,U,U,U,.vec 0 n,.v (ii (a:Nat)),.v (ii z),U,U,U,U,U,U,U,U,U,U,U,U,U,U,U,U,U,U,U,U,U,U,U,U,U,U,U,U,U,U,U,U,U,U,U,U,U,U,U,U,U,U,U,U,U,U,U]/\Γ=[.vec 168 4 0 rows]/\rows.length=n/\rows=acc.map cZ/\acc.length<=a/\a<=s.length/\∀ t∈acc,D0 t) a0 ?_ ?_
   ·exact ⟨_,_,Wk.aJ ar,z0,0,[],[],rfl,rfl,rfl,rfl,aX _,rG.2,fun t h=>by cases h⟩
   ·rintro a _ _ ⟨z,n,rows,acc,rfl,rfl,hn,bx,De,ha,hB⟩
    cases hc:s[a]? with
    | none =>
     have kF:s.length<=a:=oH hc
     have hd:decide ((a:Int) < (s.length:Int))=false:=by simpa using kF
     exact zdF
    | some c =>
     have au:a < s.length:=(bu hc).1
     have hd:decide ((a:Int) < (s.length:Int))=true:=by simpa using au
     by_cases hz:z < 0
     ·have KX:decide (z < (0:Int))=true:=by simpa using hz
      have nz:=IZ hc;have wv:=Te hc;have KD:=Wl hc Pq;have iF:=HU s a c G hc;generalize gw s a c=tk at *;obtain ⟨t,nx⟩:=tk;simp only at nz wv KD iF
      by_cases hk:t.kind=0
      ·have fk:(t.kind==0)=true:=by simpa using hk
       refine I ?_;refine V [] iF ?_;refine nr ?_;exact ⟨.tup [Go.Xg.gW [],.v (ii 2),.v (ii (a:Nat))],iw,rfl,[],2,_,rfl,fun h=>by omega⟩
      ·have fk:(t.kind==0)=false:=by simpa using hk
       have wv:=wv hk
       by_cases Mv:t.n<=2147483647
       ·have bH:decide ((2147483647:Int) < t.n)=false:=by simpa using Mv
        have KD:=KD Mv;have MF:=DJ s nx G nz.2;have R4:=u5 s (s.length+1) nx nz.2
        have bZ:n<=6000:=by rw [<-hn,bx,cj];omega
        generalize skip s (s.length+1) nx=R2 at *;obtain ⟨a2,z2⟩:=R2;simp only at MF R4;refine I ?_;refine V [] iF ?_;refine zcG ?_;refine V [] MF ?_
        exact ⟨a2,⟨_,_,(Wk.cut (n:=1) (dP rfl) rfl).trans (Wk.aJ ar),z2,n+1,rows++[cZ t],acc++[t],rfl,rfl,by simp [hn],by rw [mo,bx];rfl,by rw [aO,List.length_singleton];omega,R4.2,fun u hu=>by
         rcases nt hu with hu | hu
         ·exact hB u hu
         ·rw [List.mem_singleton] at hu;subst hu;exact KD⟩,by omega⟩
       ·have bH:decide ((2147483647:Int) < t.n)=true:=by simpa using by omega
        refine I ?_;refine V [] iF ?_;refine nr ?_;exact ⟨.tup [Go.Xg.gW [],.v (ii 3),.v (ii (a:Nat))],iw,rfl,[],3,_,rfl,fun h=>by omega⟩
     ·have KX:decide (z < (0:Int))=false:=by simpa using hz
      exact zdF
  ·rintro _ _ ⟨a,z,n,rows,acc,rfl,rfl,hn,bx,De,hB⟩
   by_cases hz:0<=z
   ·have KX:decide ((0:Int)<=z)=true:=by simpa using hz
    refine I ?_;refine nr ?_;exact ⟨.tup [Go.Xg.gW [],.v (ii 4),.v (ii z)],iw,rfl,[],4,_,rfl,fun h=>by omega⟩
   ·have KX:decide ((0:Int)<=z)=false:=by simpa using hz
    subst bx;refine I ?_;refine GW.wk (Wk.lr (t:=2) rfl rfl rfl hn) ?_;refine EY ?_;exact ⟨rfl,acc,0,0,rfl,fun _=>⟨Pq,De,hB⟩⟩
end Go.Xg
set_option maxHeartbeats 1000000
namespace Go.Xg
open Go.RowKit Go.Xw Go.Proofs Tryz Go.Sp
open GV (U)
attribute [local irreducible] GW GL GO YG GC GA bg bj
theorem ve {α:Type} {l:List α} {q:α->Bool} {k:Nat} {x:α} (hx:l[k]?=some x) (hf:(l.take k).all q=true) (hb:q x=true):(l.take (k+1)).all q=true:=by
 rw [dh,hx,all_append,hf];simp [hb]
def idxOf (xs:List ah) (s:ah):Int:=match xs.findIdx? (fun x=>s==x) with | some i=>(i:Int) | none => -1
theorem UY (xs:List ah) (s:ah) (hl:xs.length<=1099511627776):GF prog 103 [strs xs,.v (sv s)] [] (.v (ii (idxOf xs s))) []:=by
 refine ai func103 ntmps103 ?_;refine GW.range (xs.map fun s=>[GV.v (sv s)]).length (fun k fr Γ=>fr=[strs xs,.v (sv s),U,U,U,U,strs xs,.v (ii ((xs.map fun s=>[GV.v (sv s)]).length:Int)),.v (ii (k:Nat)),U,U,U,U,U,U,U,U,U,U]/\Γ=[]/\((xs.take k).all fun x=>!(s==x))=true) ?_ zfz ?_ ?_ ?_
 ·exact jQ
 ·exact gO
 ·rintro k _ _ au ⟨rfl,rfl,hc⟩
  have au:k < xs.length:=by simpa using au
  have hx:xs[k]?=some xs[k]:=by simp [au]
  have hr:(xs.map fun s=>[GV.v (sv s)])[k]?=some [.v (sv xs[k])]:=by simp [au]
  cases hb:(s==xs[k]) with
  | true =>
   have hi:xs.findIdx? (fun x=>s==x)=some k:=by
    rw [findIdx?_eq_some_iff_getElem];refine ⟨au,hb,fun j hj=>?_⟩;rw [gP] at hc;have:=hc xs[j] zfF;exact zbT
   unfold idxOf;rw [hi];generalize xs[k]=x at *;exact aw
  | false =>
   have tI:=ve (q:=fun x=>!(s==x)) hx hc (by rw [hb];rfl);generalize xs[k]=x at *;refine I ?_;exact ⟨rfl,rfl,_,_,Wk.aJ ar,rfl,rfl,tI⟩
 ·rintro _ _ ⟨rfl,rfl,hc⟩;rw [mn zfu] at hc
  have hi:xs.findIdx? (fun x=>s==x)=none:=by
   rw [List.findIdx?_eq_none_iff];intro x hx;rw [gP] at hc;have:=hc x hx;exact zbT
  unfold idxOf;rw [hi];exact aw
theorem R9 (xs:List ah) (s:ah):decide (0<=idxOf xs s)=xs.contains s:=by
 unfold idxOf
 cases h:xs.findIdx? (fun x=>s==x) with
 | some i =>
  rw [findIdx?_eq_some_iff_getElem] at h;obtain ⟨D,X,_⟩:=h
  have h3:s=xs[i]:=by simpa using X
  have:xs.contains s=true:=by rw [dz,h3];exact List.getElem_mem _
  rw [this];simp
 | none =>
  rw [List.findIdx?_eq_none_iff] at h
  have:xs.contains s=false:=by
   cases hc:xs.contains s with
   | false=>rfl
   | true=>have:=h s (dz.1 hc);simp at this
  rw [this];rfl
theorem mG (xs:List ah) (s:ah) (hl:xs.length<=1099511627776):GF prog 47 [strs xs,.v (sv s)] [] (.v (.bool (xs.contains s))) []:=by
 have hi:=UY xs s hl;rw [<-R9];generalize idxOf xs s=i at *;refine ai func47 ntmps47 ?_;refine V [] hi ?_;exact al
theorem Zr (p:Src) (hp:p.nodes.length<=1000000000000) (hk:∀ n∈p.nodes,n.kids.length<=1000000000000):∀ (f a d:Nat) (e:Int),d<=801->qC p.nodes f a d=some e->GF prog 192 [.agg (av p),.v (ii (a:Nat)),.v (ii (d:Nat))] [] (.v (ii e)) []:=by
 intro f
 induction f using Nat.strongRecOn with
 | _ f ih =>
 intro a d e hd h
 cases f with
 | zero=>simp [qC] at h
 | succ f =>
 rw [qC] at h;refine ei func192 ntmps192 ?_
 by_cases D:p.nodes.length<=a
 ·rw [ae (.inl D)] at h;cases h
  have dp:decide (((p.nodes.map aW).length:Int)<=(a:Int))=true:=by simpa using D
  exact aw
 have dp:decide (((p.nodes.map aW).length:Int)<=(a:Int))=false:=by simpa using D
 by_cases X:d > 800
 ·rw [ae (.inr X)] at h;cases h
  have rF:decide ((800:Int) < (d:Int))=true:=by simpa using by omega
  exact aw
 have rF:decide ((800:Int) < (d:Int))=false:=by simpa using by omega
 rw [ab G] at h
 cases hn:p.nodes[a]? with
 | none=>exact zdL
 | some n =>
 rw [hn] at h;simp only at h;have hr:=ma hn;have fC:=hk n (br hn);refine I ?_
 refine GW.range (n.kids.map fun i=>[GV.v (ii i)]).length (fun k fr Γ=>∃ nx g,fr=[U,.v (ii (a:Nat)),.v (ii (d:Nat)),.loc 0 0,U,U,U,.v (ii nx),U,U,U,U,U,U,U,U,U,U,U,U,U,U,U,U,U,U,ints n.kids,.v (ii ((n.kids.map fun i=>[GV.v (ii i)]).length:Int)),.v (ii (k:Nat)),U,U,U,U,U,U,U,U,U,U,U,U,U,U,U] /\
   Γ=[.box 28 (av p)]/\0<=nx/\g<=f/\pM p.nodes g (n.kids.drop k) nx d=some e) ?_ zfS ?_ ?_ ?_
 ·exact ⟨_,_,Wk.aJ ar,_,f,rfl,rfl,by omega,aH _,h⟩
 ·rintro k _ _ ⟨_,_,rfl,rfl,_⟩;exact ea
 ·rintro k _ _ au ⟨nx,g,rfl,rfl,oT,hg,h⟩
  have au:k < n.kids.length:=by simpa using au
  have hx:n.kids[k]?=some n.kids[k]:=by simp [au]
  rw [oG au] at h;generalize n.kids[k]=x at *;have vz:=qm hx
  cases g with
  | zero=>simp [pM] at h
  | succ g =>
  rw [pM] at h
  by_cases hxn:x=nx
  ·subst hxn;rw [ae rfl] at h
   have hb:(x != x)=false:=by simp
   cases cU:qC p.nodes g x.toNat (d+1) with
   | none=>rw [cU] at h;cases h
   | some y =>
   rw [cU] at h;simp only at h;have A2:=ih g G x.toNat (d+1) y G cU;rw [Int.toNat_of_nonneg oT] at A2
   by_cases hy:y < 0
   ·rw [ae hy] at h;cases h
    have X6:decide (y < (0:Int))=true:=by simpa using hy
    refine I ?_;refine V [] A2 ?_;exact al
   ·rw [ab hy] at h
    have X6:decide (y < (0:Int))=false:=by simpa using hy
    refine I ?_;refine V [] A2 ?_;exact ⟨rfl,rfl,_,_,Wk.aJ ar,_,g,rfl,rfl,by omega,by omega,h⟩
  ·rw [ab hxn] at h;cases h
   have hb:(x != nx)=true:=by simpa using hxn
   exact aw
 ·rintro _ _ ⟨nx,g,rfl,rfl,oT,hg,h⟩;rw [cj,drop_length] at h
  have lF:nx=e:=by cases g <;> (rw [pM] at h;cases h;rfl)
  subst lF;exact aw
open Go.Xp (T)
theorem Z4 (a n:Int) (s:ah) (ks:List Int) (l:List T) (hs:s.length<=1099511627776) (hl:l.length<=1099511627776) (ha:decide (a < 0)=false):GF prog 251 [.agg (cT (.mk ⟨1,a,n,s,ks⟩ l))] [] (.v (.bool (cy (.mk ⟨1,a,n,s,ks⟩ l)))) []:=by
 have how:cy (.mk ⟨1,a,n,s,ks⟩ l)=(decide ((0:Int)<=n)&&(decide (n<=2147483647)&&((s==[])&&((l.length:Int)==0)))):=by unfold cy own;rw [ab zft];rfl
 rw [how];refine ei func251 ntmps251 ?_
 cases h0:decide ((0:Int)<=n) with
 | false =>
  exact aw
 | true =>
  cases D:decide (n<=2147483647) with
  | false =>
   exact aw
  | true =>
   cases X:(s==[]) with
   | false =>
    exact aw
   | true =>
    refine zb5 ?_;exact ⟨by first | rfl | (rw [be];rfl),rfl⟩
theorem Z5 (a:Int) (s:ah) (ks:List Int) (l:List T) (hs:s.length<=1099511627776) (hl:l.length<=1099511627776) (ha:decide (a < 0)=false):GF prog 251 [.agg (cT (.mk ⟨2,a,0,s,ks⟩ l))] [] (.v (.bool (cy (.mk ⟨2,a,0,s,ks⟩ l)))) []:=by
 have how:cy (.mk ⟨2,a,0,s,ks⟩ l)=(bN s&&((l.length:Int)==0)):=by unfold cy own;rw [ab zft];rfl
 rw [how];refine ei func251 ntmps251 ?_
 cases h0:bN s with
 | false =>
  exact zag
 | true =>
  refine I ?_;have hc:=eW s hs;rw [h0] at hc;exact zaf
theorem Z6 (a:Int) (s:ah) (ks:List Int) (l:List T) (hs:s.length<=1099511627776) (hl:l.length<=1099511627776) (ha:decide (a < 0)=false):GF prog 251 [.agg (cT (.mk ⟨3,a,0,s,ks⟩ l))] [] (.v (.bool (cy (.mk ⟨3,a,0,s,ks⟩ l)))) []:=by
 have how:cy (.mk ⟨3,a,0,s,ks⟩ l)=(bN s&&(((l.length:Int)==1)&&bJ 1 0 l)):=by unfold cy own;rw [ab zft];rfl
 rw [how];refine ei func251 ntmps251 ?_
 cases h0:bN s with
 | false =>
  exact zag
 | true =>
  cases D:((l.length:Int)==1) with
  | false =>
   have dp:((((bd l).length:Int)==1))=false:=by rw [<-be l] at D;exact D
   exact zag
  | true =>
   have dp:((((bd l).length:Int)==1))=true:=by rw [<-be l] at D;exact D
   refine I ?_;have hc:=eW s hs;rw [h0] at hc;refine V [] hc ?_;have hc:=fV (.mk ⟨3,a,0,s,ks⟩ l) 1 hl;exact zaf
theorem Z7 (a:Int) (s:ah) (ks:List Int) (l:List T) (hs:s.length<=1099511627776) (hl:l.length<=1099511627776) (ha:decide (a < 0)=false):GF prog 251 [.agg (cT (.mk ⟨4,a,0,s,ks⟩ l))] [] (.v (.bool (cy (.mk ⟨4,a,0,s,ks⟩ l)))) []:=by
 have how:cy (.mk ⟨4,a,0,s,ks⟩ l)=(bN s&&bJ l.length 0 l):=by unfold cy own;rw [ab zft];rfl
 rw [how];refine ei func251 ntmps251 ?_
 cases h0:bN s with
 | false =>
  exact zag
 | true =>
  refine I ?_;have hc:=eW s hs;rw [h0] at hc;refine V [] hc ?_;have hc:=fV (.mk ⟨4,a,0,s,ks⟩ l) (bd l).length hl;exact zaf
theorem Z9 (a:Int) (s:ah) (ks:List Int) (l:List T) (hs:s.length<=1099511627776) (hl:l.length<=1099511627776) (ha:decide (a < 0)=false):GF prog 251 [.agg (cT (.mk ⟨6,a,0,s,ks⟩ l))] [] (.v (.bool (cy (.mk ⟨6,a,0,s,ks⟩ l)))) []:=by
 have how:cy (.mk ⟨6,a,0,s,ks⟩ l)=(ia s&&(((l.length:Int)==2)&&bJ 2 0 l)):=by unfold cy own;rw [ab zft];rfl
 rw [how];refine ei func251 ntmps251 ?_
 cases h0:ia s with
 | false =>
  exact zew
 | true =>
  cases D:((l.length:Int)==2) with
  | false =>
   have dp:((((bd l).length:Int)==2))=false:=by rw [<-be l] at D;exact D
   exact zew
  | true =>
   have dp:((((bd l).length:Int)==2))=true:=by rw [<-be l] at D;exact D
   refine I ?_;have hc:=vH s;rw [h0] at hc;refine V [] hc ?_;have hc:=fV (.mk ⟨6,a,0,s,ks⟩ l) 2 hl;exact zaf
theorem aaa (a:Int) (s:ah) (ks:List Int) (l:List T) (hs:s.length<=1099511627776) (hl:l.length<=1099511627776) (ha:decide (a < 0)=false):GF prog 251 [.agg (cT (.mk ⟨7,a,0,s,ks⟩ l))] [] (.v (.bool (cy (.mk ⟨7,a,0,s,ks⟩ l)))) []:=by
 have how:cy (.mk ⟨7,a,0,s,ks⟩ l)=(bN s&&(((l.length:Int)==1)&&bJ 1 0 l)):=by unfold cy own;rw [ab zft];rfl
 rw [how];refine ei func251 ntmps251 ?_
 cases h0:bN s with
 | false =>
  exact zag
 | true =>
  cases D:((l.length:Int)==1) with
  | false =>
   have dp:((((bd l).length:Int)==1))=false:=by rw [<-be l] at D;exact D
   exact zag
  | true =>
   have dp:((((bd l).length:Int)==1))=true:=by rw [<-be l] at D;exact D
   refine I ?_;have hc:=eW s hs;rw [h0] at hc;refine V [] hc ?_;have hc:=fV (.mk ⟨7,a,0,s,ks⟩ l) 1 hl;exact zaf
theorem aab (a:Int) (s:ah) (ks:List Int) (l:List T) (hs:s.length<=1099511627776) (hl:l.length<=1099511627776) (ha:decide (a < 0)=false):GF prog 251 [.agg (cT (.mk ⟨8,a,0,s,ks⟩ l))] [] (.v (.bool (cy (.mk ⟨8,a,0,s,ks⟩ l)))) []:=by
 have how:cy (.mk ⟨8,a,0,s,ks⟩ l)=(bN s&&(((l.length:Int)==2)&&bJ 2 0 l)):=by unfold cy own;rw [ab zft];rfl
 rw [how];refine ei func251 ntmps251 ?_
 cases h0:bN s with
 | false =>
  exact zag
 | true =>
  cases D:((l.length:Int)==2) with
  | false =>
   have dp:((((bd l).length:Int)==2))=false:=by rw [<-be l] at D;exact D
   exact zag
  | true =>
   have dp:((((bd l).length:Int)==2))=true:=by rw [<-be l] at D;exact D
   refine I ?_;have hc:=eW s hs;rw [h0] at hc;refine V [] hc ?_;have hc:=fV (.mk ⟨8,a,0,s,ks⟩ l) 2 hl;exact zaf
theorem Yw (a:Int) (s:ah) (ks:List Int) (l:List T) (hs:s.length<=1099511627776) (hl:l.length<=1099511627776) (ha:decide (a < 0)=false):GF prog 251 [.agg (cT (.mk ⟨10,a,0,s,ks⟩ l))] [] (.v (.bool (cy (.mk ⟨10,a,0,s,ks⟩ l)))) []:=by
 have how:cy (.mk ⟨10,a,0,s,ks⟩ l)=((s==[])&&(((l.length:Int)==2)&&bJ 1 0 l)):=by unfold cy own;rw [ab zft];rfl
 rw [how];refine ei func251 ntmps251 ?_
 cases h0:(s==[]) with
 | false =>
  exact aw
 | true =>
  cases D:((l.length:Int)==2) with
  | false =>
   have dp:((((bd l).length:Int)==2))=false:=by rw [<-be l] at D;exact D
   exact aw
  | true =>
   have dp:((((bd l).length:Int)==2))=true:=by rw [<-be l] at D;exact D
   refine I ?_;have hc:=fV (.mk ⟨10,a,0,s,ks⟩ l) 1 hl;exact zaf
theorem Yx (a:Int) (s:ah) (ks:List Int) (l:List T) (hs:s.length<=1099511627776) (hl:l.length<=1099511627776) (ha:decide (a < 0)=false):GF prog 251 [.agg (cT (.mk ⟨11,a,0,s,ks⟩ l))] [] (.v (.bool (cy (.mk ⟨11,a,0,s,ks⟩ l)))) []:=by
 have how:cy (.mk ⟨11,a,0,s,ks⟩ l)=((s==[])&&(((l.length:Int)==1)&&bJ 1 0 l)):=by unfold cy own;rw [ab zft];rfl
 rw [how];refine ei func251 ntmps251 ?_
 cases h0:(s==[]) with
 | false =>
  exact aw
 | true =>
  cases D:((l.length:Int)==1) with
  | false =>
   have dp:((((bd l).length:Int)==1))=false:=by rw [<-be l] at D;exact D
   exact aw
  | true =>
   have dp:((((bd l).length:Int)==1))=true:=by rw [<-be l] at D;exact D
   refine I ?_;have hc:=fV (.mk ⟨11,a,0,s,ks⟩ l) 1 hl;exact zaf
theorem Yy (a:Int) (s:ah) (ks:List Int) (l:List T) (hs:s.length<=1099511627776) (hl:l.length<=1099511627776) (ha:decide (a < 0)=false):GF prog 251 [.agg (cT (.mk ⟨12,a,0,s,ks⟩ l))] [] (.v (.bool (cy (.mk ⟨12,a,0,s,ks⟩ l)))) []:=by
 have how:cy (.mk ⟨12,a,0,s,ks⟩ l)=((s==[])&&(((l.length:Int)==1)&&bJ 1 0 l)):=by unfold cy own;rw [ab zft];rfl
 rw [how];refine ei func251 ntmps251 ?_
 cases h0:(s==[]) with
 | false =>
  exact aw
 | true =>
  cases D:((l.length:Int)==1) with
  | false =>
   have dp:((((bd l).length:Int)==1))=false:=by rw [<-be l] at D;exact D
   exact aw
  | true =>
   have dp:((((bd l).length:Int)==1))=true:=by rw [<-be l] at D;exact D
   refine I ?_;have hc:=fV (.mk ⟨12,a,0,s,ks⟩ l) 1 hl;exact zaf
theorem Yz (a:Int) (s:ah) (ks:List Int) (l:List T) (hs:s.length<=1099511627776) (hl:l.length<=1099511627776) (ha:decide (a < 0)=false):GF prog 251 [.agg (cT (.mk ⟨13,a,0,s,ks⟩ l))] [] (.v (.bool (cy (.mk ⟨13,a,0,s,ks⟩ l)))) []:=by
 have how:cy (.mk ⟨13,a,0,s,ks⟩ l)=(bN s&&(((l.length:Int)==1)&&bJ 1 0 l)):=by unfold cy own;rw [ab zft];rfl
 rw [how];refine ei func251 ntmps251 ?_
 cases h0:bN s with
 | false =>
  exact zag
 | true =>
  cases D:((l.length:Int)==1) with
  | false =>
   have dp:((((bd l).length:Int)==1))=false:=by rw [<-be l] at D;exact D
   exact zag
  | true =>
   have dp:((((bd l).length:Int)==1))=true:=by rw [<-be l] at D;exact D
   refine I ?_;have hc:=eW s hs;rw [h0] at hc;refine V [] hc ?_;have hc:=fV (.mk ⟨13,a,0,s,ks⟩ l) 1 hl;exact zaf
theorem Z8 (a:Int) (s:ah) (ks:List Int) (l:List T) (hs:s.length<=1099511627776) (hl:l.length<=1099511627776) (ha:decide (a < 0)=false):GF prog 251 [.agg (cT (.mk ⟨5,a,0,s,ks⟩ l))] [] (.v (.bool (cy (.mk ⟨5,a,0,s,ks⟩ l)))) []:=by
 have how:cy (.mk ⟨5,a,0,s,ks⟩ l)=((s==[45] || s==[33] || s==[126])&&(((l.length:Int)==1)&&bJ 1 0 l)):=by unfold cy own;rw [ab zft];rfl
 rw [how];refine ei func251 ntmps251 ?_
 cases D:(s==[45]) with
 | true =>
  cases h4:((l.length:Int)==1) with
  | false =>
   have O7:(((bd l).length:Int)==1)=false:=by rw [<-be l] at h4;exact h4
   exact aw
  | true =>
   have O7:(((bd l).length:Int)==1)=true:=by rw [<-be l] at h4;exact h4
   exact zbF
 | false =>
  cases X:(s==[33]) with
  | true =>
   cases h4:((l.length:Int)==1) with
   | false =>
    have O7:(((bd l).length:Int)==1)=false:=by rw [<-be l] at h4;exact h4
    exact aw
   | true =>
    have O7:(((bd l).length:Int)==1)=true:=by rw [<-be l] at h4;exact h4
    exact zbF
  | false =>
   cases h3:(s==[126]) with
   | false =>
    exact aw
   | true =>
    cases h4:((l.length:Int)==1) with
    | false =>
     have O7:(((bd l).length:Int)==1)=false:=by rw [<-be l] at h4;exact h4
     exact aw
    | true =>
     have O7:(((bd l).length:Int)==1)=true:=by rw [<-be l] at h4;exact h4
     exact zbF
theorem aac (a:Int) (s:ah) (ks:List Int) (l:List T) (hs:s.length<=1099511627776) (hl:l.length<=1099511627776) (ha:decide (a < 0)=false):GF prog 251 [.agg (cT (.mk ⟨9,a,0,s,ks⟩ l))] [] (.v (.bool (cy (.mk ⟨9,a,0,s,ks⟩ l)))) []:=by
 have how:cy (.mk ⟨9,a,0,s,ks⟩ l)=((s==[])&&((((l.length:Int)==2) || ((l.length:Int)==3))&&bJ 1 0 l)):=by unfold cy own;rw [ab zft];rfl
 rw [how];refine ei func251 ntmps251 ?_
 cases h0:(s==[]) with
 | false =>
  exact aw
 | true =>
  cases D:((l.length:Int)==2) with
  | true =>
   have dp:(((bd l).length:Int)==2)=true:=by rw [<-be l] at D;exact D
   exact zdC
  | false =>
   have dp:(((bd l).length:Int)==2)=false:=by rw [<-be l] at D;exact D
   cases X:((l.length:Int)==3) with
   | true =>
    have rF:(((bd l).length:Int)==3)=true:=by rw [<-be l] at X;exact X
    exact zdC
   | false =>
    have rF:(((bd l).length:Int)==3)=false:=by rw [<-be l] at X;exact X
    exact aw
theorem YA (a:Int) (s:ah) (ks:List Int) (l:List T) (hs:s.length<=1099511627776) (hl:l.length<=1099511627776) (ha:decide (a < 0)=false):GF prog 251 [.agg (cT (.mk ⟨14,a,0,s,ks⟩ l))] [] (.v (.bool (cy (.mk ⟨14,a,0,s,ks⟩ l)))) []:=by
 have how:cy (.mk ⟨14,a,0,s,ks⟩ l)=((l.all fun x=>jt x.n.kind)&&(s==[])):=by unfold cy own;rw [ab zft];rfl
 rw [how];refine ai func251 ntmps251 ?_;refine GW.range (bd l).length (fun k fr Γ=>∃ n,fr=[U,.loc 0 0,U,.loc 1 0,U,U,U,U,U,U,U,U,U,U,U,U,U,U,U,U,U,U,U,U,U,U,U,U,U,U,U,U,U,U,U,U,U,U,U,U,U,U,U,U,U,U,U,U,U,U,U,U,U,U,U,U,U,U,U,U,U,U,U,U,U,U,U,U,U,U,U,U,U,U,U,U,U,U,U,U,U,U,U,U,U,U,U,U,U,U,U,U,U,U,U,U,U,U,U,U,U,U,U,U,U,U,U,U,U,U,U,U,U,U,U,U,U,U,U,U,U,U,U,U,U,U,U,U,U,U,U,U,U,U,U,U,U,U,U,U,U,U,U,U,U,U,U,U,U,U,U,U,U,U,U,U,U,U,U,U,U,U,U,U,U,U,U,U,U,U,U,U,U,U,U,U,.sl 6 (bd l),.v (ii ((bd l).length:Int)),.v (ii (k:Nat)),U,U,U,U,U,U,U,U,U,U,U,U]/\Γ=[.box 86 (cT (.mk ⟨14,a,0,s,ks⟩ l)),.box 78 n]/\n=aW ⟨14,a,0,s,ks⟩/\((l.take k).all fun x=>jt x.n.kind)=true) ?_ (by rw [be];exact hl) ?_ ?_ ?_
 ·exact ⟨_,_,Wk.aJ ar,_,rfl,rfl,rfl,rfl⟩
 ·rintro k _ _ ⟨_,rfl,rfl,_⟩;exact ea
 ·rintro k _ _ hk ⟨_,rfl,rfl,rfl,hf⟩
  have hk:k < l.length:=by rw [be] at hk;exact hk
  have hx:l[k]?=some l[k]:=by simp [hk]
  have hr:=dB hx;generalize l[k]=x at *;have he:=Jx x.n.kind
  cases hb:jt x.n.kind with
  | true =>
   rw [hb] at he;refine zbG ?_;exact ⟨rfl,rfl,_,_,(Wk.cut (n:=2) (dP rfl) rfl).trans (Wk.aJ ar),_,rfl,rfl,rfl,by rw [dh,hx,all_append,hf];simp only [Option.toList,all_cons,all_nil,hb];rfl⟩
  | false =>
   rw [hb] at he;refine zbG ?_;refine b6 ?_
   have ha:(l.all fun x=>jt x.n.kind)=false:=by
    exact zc3
   rw [ha];exact zak
 ·rintro _ _ ⟨_,rfl,rfl,rfl,hf⟩
  have hf:(l.all fun x=>jt x.n.kind)=true:=by
   rw [mn zgn] at hf;exact hf
  rw [hf];exact aw
theorem aag (k a n:Int) (s:ah) (ks:List Int) (l:List T) (hk:k=1\/k=2\/k=3\/k=4\/k=5\/k=6\/k=7\/k=8\/k=9\/k=10\/k=11\/k=12\/k=13\/k=14\/True) (hx:¬ (k=1\/k=2\/k=3\/k=4\/k=5\/k=6\/k=7\/k=8\/k=9\/k=10\/k=11\/k=12\/k=13\/k=14)) (ha:decide (a < 0)=false) (hn:(n != 0)=false):GF prog 251 [.agg (cT (.mk ⟨k,a,n,s,ks⟩ l))] [] (.v (.bool (cy (.mk ⟨k,a,n,s,ks⟩ l)))) []:=by
 simp only [not_or] at hx;obtain ⟨D,X,h3,h4,h5,h6,h7,h8,h9,oO,qP,nN,fH,C0⟩:=hx
 have D:(k==1)=false:=by simpa using D
 have h1x:(k != 1)=true:=by simp only [bne,D];rfl
 have X:(k==2)=false:=by simpa using X
 have h3:(k==3)=false:=by simpa using h3
 have h4:(k==4)=false:=by simpa using h4
 have h5:(k==5)=false:=by simpa using h5
 have h6:(k==6)=false:=by simpa using h6
 have h7:(k==7)=false:=by simpa using h7
 have h8:(k==8)=false:=by simpa using h8
 have h9:(k==9)=false:=by simpa using h9
 have oO:(k==10)=false:=by simpa using oO
 have qP:(k==11)=false:=by simpa using qP
 have nN:(k==12)=false:=by simpa using nN
 have fH:(k==13)=false:=by simpa using fH
 have C0:(k==14)=false:=by simpa using C0
 have how:cy (.mk ⟨k,a,n,s,ks⟩ l)=false:=by
  show own ⟨k,a,n,s,ks⟩ _ _ _=_;simp [own,D,X,h3,h4,h5,h6,h7,h8,h9,oO,qP,nN,fH,C0]
 exact zdi
theorem aad (k a n:Int) (s:ah) (ks:List Int) (l:List T) (ha:decide (a < 0)=true):GF prog 251 [.agg (cT (.mk ⟨k,a,n,s,ks⟩ l))] [] (.v (.bool (cy (.mk ⟨k,a,n,s,ks⟩ l)))) []:=by
 have how:cy (.mk ⟨k,a,n,s,ks⟩ l)=false:=by
  show own ⟨k,a,n,s,ks⟩ _ _ _=_;unfold own;rw [ae ha]
 exact zdi
theorem aaf (k a n:Int) (s:ah) (ks:List Int) (l:List T) (ha:decide (a < 0)=false) (hk:(k != 1)=true) (hn:(n != 0)=true):GF prog 251 [.agg (cT (.mk ⟨k,a,n,s,ks⟩ l))] [] (.v (.bool (cy (.mk ⟨k,a,n,s,ks⟩ l)))) []:=by
 have how:cy (.mk ⟨k,a,n,s,ks⟩ l)=false:=by
  show own ⟨k,a,n,s,ks⟩ _ _ _=_;unfold own;rw [ab zft,ae (by show ((k != 1)&&(n != 0))=true;rw [hk,hn];rfl)]
 exact zdi
theorem Sq (t:T) (hs:t.n.s.length<=1099511627776) (hl:t.kids.length<=1099511627776):GF prog 251 [.agg (cT t)] [] (.v (.bool (cy t))) []:=by
 obtain ⟨⟨k,a,n,s,ks⟩,l⟩:=t
 cases ha:decide (a < 0) with
 | true=>exact aad k a n s ks l ha
 | false =>
 by_cases wx:k=1
 ·subst wx;exact Z4 a n s ks l hs hl ha
 by_cases hn:n=0
 ·subst hn
  by_cases h:k=1\/k=2\/k=3\/k=4\/k=5\/k=6\/k=7\/k=8\/k=9\/k=10\/k=11\/k=12\/k=13\/k=14
  ·rcases h with rfl | rfl | rfl | rfl | rfl | rfl | rfl | rfl | rfl | rfl | rfl | rfl | rfl | rfl
   ·exact absurd rfl wx
   ·exact Z5 a s ks l hs hl ha
   ·exact Z6 a s ks l hs hl ha
   ·exact Z7 a s ks l hs hl ha
   ·exact Z8 a s ks l hs hl ha
   ·exact Z9 a s ks l hs hl ha
   ·exact aaa a s ks l hs hl ha
   ·exact aab a s ks l hs hl ha
   ·exact aac a s ks l hs hl ha
   ·exact Yw a s ks l hs hl ha
   ·exact Yx a s ks l hs hl ha
   ·exact Yy a s ks l hs hl ha
   ·exact Yz a s ks l hs hl ha
   ·exact YA a s ks l hs hl ha
  ·exact aag k a 0 s ks l zfu h ha rfl
 ·exact aaf k a n s ks l ha (by simpa using wx) zf7
theorem NX (l:List T):cR l=l.all dQ:=by
 induction l with
 | nil=>simp [cR]
 | cons a l ih=>simp [cR,ih]
theorem Sk:∀ (sz:Nat) (t:T),SizeOf.sizeOf t<=sz->IH t->GF prog 193 [.agg (cT t)] [] (.v (.bool (dQ t))) []:=by
 intro sz
 induction sz with
 | zero=>intro t h _;cases t;simp at h
 | succ sz ih =>
 intro t dR kW;obtain ⟨n,l⟩:=t;have acC:=kW;rw [IH] at kW;obtain ⟨hs,hl,hm⟩:=kW
 have how:dQ (.mk n l)=(cR l&&cy (.mk n l)):=by rw [dQ]
 rw [how];rw [NX];refine ai func193 ntmps193 ?_;refine GW.range (bd l).length (fun k fr Γ=>fr=[U,.loc 0 0,U,U,U,U,.sl 6 (bd l),.v (ii ((bd l).length:Int)),.v (ii (k:Nat)),U,U,U,U,U,U,U,U,U]/\Γ=[.box 86 (cT (.mk n l))]/\((l.take k).all dQ)=true) ?_ (by rw [be];exact hl) ?_ ?_ ?_
 ·exact jQ
 ·exact gO
 ·rintro k _ _ hk ⟨rfl,rfl,hf⟩
  have hk:k < l.length:=by rw [be] at hk;exact hk
  have hx:l[k]?=some l[k]:=by simp [hk]
  have yE:=br hx;have au:=List.sizeOf_lt_of_mem yE;have hr:=dB hx;have he:=ih l[k] zgf (IJ hm yE);generalize l[k]=x at *
  cases hb:dQ x with
  | true =>
   rw [hb] at he;refine zbG ?_;exact ⟨rfl,rfl,_,_,(Wk.cut (n:=1) (dP rfl) rfl).trans (Wk.aJ ar),rfl,rfl,by rw [dh,hx,all_append,hf];simp only [Option.toList,all_cons,all_nil,hb];rfl⟩
  | false =>
   rw [hb] at he;refine zbG ?_;refine b6 ?_
   have ha:(l.all dQ)=false:=by
    exact zc3
   rw [ha];exact zak
 ·rintro _ _ ⟨rfl,rfl,hf⟩
  have hf:(l.all dQ)=true:=by
   rw [mn zgn] at hf;exact hf
  rw [hf];refine I ?_;refine V [] (Sq (.mk n l) hs hl) ?_;exact al
theorem Sj (t:T) (h:IH t):GF prog 193 [.agg (cT t)] [] (.v (.bool (dQ t))) []:=Sk _ t (aH _) h
open Go.Xp (Ar)
structure DK (p:Src):Prop where
 globals:p.globals.length<=1000000000000/\∀ s∈p.globals,s.length<=1000000000000
 arrays:p.arrays.length<=1000000000000/\∀ a∈p.arrays,a.name.length<=1000000000000
 fns:p.fns.length<=1000000000000/\∀ f∈p.fns,f.name.length<=1000000000000/\f.params.length<=1000000000000/\∀ s∈f.params,s.length<=1000000000000
 nodes:p.nodes.length<=1000000000000/\∀ n∈p.nodes,n.s.length<=1000000000000/\n.kids.length<=1000000000000
theorem LA {l:List ah} {i:Nat} {s:ah} (h:l[i]?=some s):(l.map fun s=>[GV.v (sv s)])[i]?=some [.v (sv s)]:=by rw [bp,h];rfl
theorem Iw {l:List Ar} {i:Nat} {s:Ar} (h:l[i]?=some s):(l.map bb)[i]?=some (bb s):=by rw [bp,h];rfl
theorem DC {l:List Go.Sp.Fn} {i:Nat} {s:Go.Sp.Fn} (h:l[i]?=some s):(l.map ax)[i]?=some (ax s):=by rw [bp,h];rfl
theorem xl {α:Type} {l:List α} {q:α->Bool} {k:Nat} {x:α} (hx:l[k]?=some x) (hb:q x=false):l.all q=false:=by
 exact zc3
theorem Dr (p:Src) (hp:DK p) (b:Bool) (h:qp p=some b):GF prog 140 [.agg (av p)] [] (.v (.bool b)) []:=by
 unfold qp at h;refine ai func140 ntmps140 ?_;refine GW.range (p.globals.map fun s=>[GV.v (sv s)]).length (fun k fr Γ=>fr=[U,.loc 0 0,U,.v (ii 0),U,U,U,U,U,U,U,U,U,U,U,strs p.globals,.v (ii ((p.globals.map fun s=>[GV.v (sv s)]).length:Int)),.v (ii (k:Nat)),U,U,U,U,U,U,U,U,U,U,U,U,U,U,U,U,U,U,U,U,U,U,U,U,U,U,U,U,U,U,U,U,U,U,U,U,U,U,U,U,U,U,U,U,U,U,U,U,U,U,U,U,U,U,U,U,U,U,U,U,U,U,U,U,U,U,U,U,U,U,U,U,U,U,U,U,U,U,U,U,U,U,U,U,U,U,U]/\Γ=[.box 28 (av p)]/\((p.globals.take k).all bN)=true) ?_ (by simpa using by have:=hp.globals.1;omega) ?_ ?_ ?_
 ·exact jQ
 ·exact gO
 ·rintro k _ _ hk ⟨rfl,rfl,hf⟩
  have hk:k < p.globals.length:=by simpa using hk
  have hx:p.globals[k]?=some p.globals[k]:=by simp [hk]
  have hr:=LA hx;have hl:=hp.globals.2 _ (br hx);generalize p.globals[k]=x at *;have he:=eW x G
  cases hb:bN x with
  | true =>
   rw [hb] at he;refine zbG ?_;exact ⟨rfl,rfl,_,_,Wk.aJ ar,rfl,rfl,ve hx hf hb⟩
  | false =>
   rw [hb] at he;rw [ae (show de p.globals=false from xl hx hb)] at h;cases h;refine zbG ?_;exact al
 ·rintro _ _ ⟨rfl,rfl,hf⟩;rw [mn zfu] at hf;rw [ab (by rw [show de p.globals=true from hf];decide)] at h;refine I ?_;refine GW.range (p.arrays.map bb).length (fun k fr Γ=>fr=[U,.loc 0 0,U,.v (ii 0),U,U,U,U,U,U,U,U,U,U,U,U,U,U,U,U,U,U,U,U,U,U,.sl 2 (p.arrays.map bb),.v (ii ((p.arrays.map bb).length:Int)),.v (ii (k:Nat)),U,U,U,U,U,U,U,U,U,U,U,U,U,U,U,U,U,U,U,U,U,U,U,U,U,U,U,U,U,U,U,U,U,U,U,U,U,U,U,U,U,U,U,U,U,U,U,U,U,U,U,U,U,U,U,U,U,U,U,U,U,U,U,U,U,U,U,U,U,U,U,U,U,U,U,U]/\Γ=[.box 28 (av p)]/\((p.arrays.take k).all qB)=true) ?_ (by simpa using by have:=hp.arrays.1;omega) ?_ ?_ ?_
  ·exact jQ
  ·exact gO
  ·rintro k _ _ hk ⟨rfl,rfl,hf⟩
   have hk:k < p.arrays.length:=by simpa using hk
   have hx:p.arrays[k]?=some p.arrays[k]:=by simp [hk]
   have hr:=Iw hx;have hl:=hp.arrays.2 _ (br hx);generalize p.arrays[k]=x at *;have he:=eW x.name G
   cases hb:bN x.name with
   | false =>
    rw [hb] at he;rw [ae (xl hx (by simp [qB,hb]))] at h;cases h;refine zbG ?_;exact al
   | true =>
    rw [hb] at he
    cases D:decide (x.size < 0) with
    | true =>
     rw [ae (xl hx (by simp only [qB,hb,D];rfl))] at h;cases h;refine zbG ?_;exact al
    | false =>
     cases X:decide (2147483647 < x.size) with
     | true =>
      rw [ae (xl hx (by simp only [qB,hb,D,X];rfl))] at h;cases h;refine zbG ?_;exact al
     | false =>
      refine zbG ?_;exact ⟨rfl,rfl,_,_,(Wk.cut (n:=1) (dP rfl) rfl).trans (Wk.aJ ar),rfl,rfl,ve hx hf (by simp only [qB,hb,D,X];rfl)⟩
  ·rintro _ _ ⟨rfl,rfl,hf⟩;rw [mn zfu] at hf;rw [ab (by rw [hf];decide)] at h;refine I ?_;refine GW.range (p.fns.map ax).length (fun k fr Γ=>∃ nx,fr=[U,.loc 0 0,U,.v (ii nx),U,U,U,U,U,U,U,U,U,U,U,U,U,U,U,U,U,U,U,U,U,U,U,U,U,U,U,U,U,U,U,U,U,U,U,U,U,U,U,U,U,U,U,U,.sl 3 (p.fns.map ax),.v (ii ((p.fns.map ax).length:Int)),.v (ii (k:Nat)),U,U,U,U,U,U,U,U,U,U,U,U,U,U,U,U,U,U,U,U,U,U,U,U,U,U,U,U,U,U,U,U,U,U,U,U,U,U,U,U,U,U,U,U,U,U,U,U,U,U,U,U,U,U]/\Γ=[.box 28 (av p)]/\0<=nx/\(match iC p.nodes (p.fns.drop k) nx with | none=>none | some none=>some false | some (some next)=>some (next==(p.nodes.length:Int)&&decide (next<=800)))=some b) ?_ (by simpa using by have:=hp.fns.1;omega) ?_ ?_ ?_
   ·exact ⟨_,_,Wk.aJ ar,_,rfl,rfl,Int.le_refl _,h⟩
   ·rintro k _ _ ⟨_,rfl,rfl,_⟩;exact ea
   ·clear h hf;rintro k _ _ hk ⟨nx,rfl,rfl,oT,h⟩
    have hk:k < p.fns.length:=by simpa using hk
    have hx:p.fns[k]?=some p.fns[k]:=by simp [hk]
    have hr:=DC hx;have hl:=hp.fns.2 _ (br hx);rw [oG hk,iC] at h;generalize p.fns[k]=x at *
    cases he:qC p.nodes (fN p.nodes) nx.toNat 0 with
    | none=>exact zaX
    | some e =>
    rw [he] at h;simp only at h;have rm:=Zr p hp.nodes.1 (fun n hn=>(hp.nodes.2 n hn).2) _ _ 0 _ G he;rw [Int.toNat_of_nonneg oT] at rm;have cl:=eW x.name G
    by_cases D:x.body=nx
    ·have dp:(x.body != nx)=false:=by simpa using D
     cases hb:bN x.name with
     | false =>
      rw [hb] at cl;rw [ae (.inr (.inl hb))] at h;cases h;exact zfl
     | true =>
      rw [hb] at cl
      by_cases X:e < 0
      ·have rF:decide (e < 0)=true:=by simpa using X
       rw [ae (.inr (.inr X))] at h;cases h;exact zfl
      ·have rF:decide (e < 0)=false:=by simpa using X
       rw [ab (by rw [hb];simp [D,X])] at h;refine I ?_;refine V [] rm ?_;refine V [] cl ?_;refine GW.range (x.params.map fun s=>[GV.v (sv s)]).length (fun j fr Γ=>fr=[U,.loc 0 0,U,.v (ii nx),U,U,U,U,U,.loc 1 0,.v (ii e),U,U,U,U,U,U,U,U,U,U,U,U,U,U,U,U,U,U,U,U,U,U,U,U,U,U,U,U,U,U,U,U,U,U,U,U,U,.sl 3 (p.fns.map ax),.v (ii ((p.fns.map ax).length:Int)),.v (ii (k:Nat)),U,U,U,U,U,U,U,U,U,U,U,U,U,U,U,U,U,U,U,U,U,strs x.params,.v (ii ((x.params.map fun s=>[GV.v (sv s)]).length:Int)),.v (ii (j:Nat)),U,U,U,U,U,U,U,U,U,U,U,U,U,U,U,U,U,U,U,U,U,U,U,U,U,U,U,U,U,U]/\Γ=[.box 28 (av p),.box 65 (ax x)]/\((x.params.take j).all bN)=true) ?_ (by simpa using by omega) ?_ ?_ ?_
       ·exact jQ
       ·exact gO
       ·rintro j _ _ hj ⟨rfl,rfl,hf⟩
        have hj:j < x.params.length:=by simpa using hj
        have pV:x.params[j]?=some x.params[j]:=by simp [hj]
        have Ug:=LA pV;have oS:=hl.2.2 _ (br pV);generalize x.params[j]=y at *;have bZ:=eW y G
        cases hb:bN y with
        | true =>
         rw [hb] at bZ;refine I ?_;refine V [] bZ ?_;exact ⟨rfl,rfl,_,_,Wk.aJ ar,rfl,rfl,ve pV hf hb⟩
        | false =>
         rw [hb] at bZ;rw [ae (show de x.params=false from xl pV hb)] at h;cases h;refine I ?_;refine V [] bZ ?_;exact al
       ·rintro _ _ ⟨rfl,rfl,hf⟩;rw [mn zfu] at hf;rw [ab (by rw [show de x.params=true from hf];decide)] at h
        cases hs:sub p.nodes (fN p.nodes) nx.toNat with
        | none=>rw [hs] at h;cases h
        | some t =>
        rw [hs] at h;simp only at h;have se:=GG p (fun n hn=>(hp.nodes.2 n hn).2) _ _ _ hs;rw [Int.toNat_of_nonneg oT] at se;have ba:=Sj t ((YW (fun n hn=>by have:=hp.nodes.2 n hn;omega) _).1 _ _ hs)
        by_cases h3:t.n.kind=14
        ·have mr:(t.n.kind != 14)=false:=by simpa using h3
         cases hb:dQ t with
         | false =>
          rw [hb] at ba;rw [ae (.inr hb)] at h;cases h;refine I ?_;refine V [] se ?_;refine V [] ba ?_;exact al
         | true =>
          rw [hb] at ba;rw [ab (by rw [hb];simp [h3])] at h;refine I ?_;refine V [] se ?_;refine V [] ba ?_;exact ⟨rfl,rfl,_,_,(Wk.cut (n:=1) (dP rfl) rfl).trans (Wk.aJ ar),_,rfl,rfl,by omega,h⟩
        ·have mr:(t.n.kind != 14)=true:=by simpa using h3
         rw [ae (.inl h3)] at h;cases h;refine I ?_;refine V [] se ?_;exact al
    ·have dp:(x.body != nx)=true:=by simpa using D
     rw [ae (.inl D)] at h;cases h;refine I ?_;refine V [] rm ?_;exact al
   ·clear h hf;rintro _ _ ⟨nx,rfl,rfl,oT,h⟩;rw [cj,drop_length,iC] at h;simp only at h;cases h
    cases D:(nx==(p.nodes.length:Int)) with
    | false =>
     have dp:(nx==((p.nodes.map aW).length:Int))=false:=by rw [cj];exact D
     exact aw
    | true =>
     have dp:(nx==((p.nodes.map aW).length:Int))=true:=by rw [cj];exact D
     exact aw
open Go.Xp (levels)
def ph (k:Int) (s:ah):Int:=if k=6 then (match levels.findIdx? (fun l=>l.contains s) with | some i=>(i:Int) | none => -1) else 9
theorem MP (t:T):GF prog 142 [.agg (cT t)] [] (.v (.int .i64 (ph t.n.kind t.n.s))) []:=by
 refine ei func142 ntmps142 ?_
 by_cases h6:t.n.kind=6
 ·have h6':(t.n.kind != 6)=false:=by simpa using h6
  unfold ph;rw [ae h6];refine I ?_;refine V [] kx ?_;refine GW.range (levels.map fun l=>[strs l]).length (fun k fr Γ=>fr=[U,.loc 0 0,U,U,U,U,U,U,U,U,U,.sl 1 (levels.map fun l=>[strs l]),.v (ii ((levels.map fun l=>[strs l]).length:Int)),.v (ii (k:Nat)),U,U,U,U,U,U,U,U,U,U,U]/\Γ=[.box 86 (cT t)]/\((levels.take k).any fun l=>l.contains t.n.s)=false) ?_ aC ?_ ?_ ?_
  ·exact jQ
  ·exact gO
  ·rintro k _ _ hk ⟨rfl,rfl,hf⟩
   have hk:k < levels.length:=by simpa using hk
   have hx:levels[k]?=some levels[k]:=by simp [hk]
   have hr:(levels.map fun l=>[strs l])[k]?=some [strs levels[k]]:=by simp [hk]
   have zr:levels[k].length<=1099511627776:=by
    have:∀ l∈levels,l.length<=1099511627776:=by decide
    exact this _ (List.getElem_mem hk)
   have BG:levels[k].contains t.n.s=true->levels.findIdx? (fun l=>l.contains t.n.s)=some k:=by
    intro hc;rw [findIdx?_eq_some_iff_getElem];refine ⟨hk,hc,fun j hj=>?_⟩;rw [any_eq_false] at hf;refine hf _ ?_;rw [List.mem_take_iff_getElem];exact ⟨j,by omega,rfl⟩
   generalize levels[k]=x at *;have hh:=ll x t.n.s zr
   cases hb:x.contains t.n.s with
   | true =>
    rw [hb] at hh;rw [BG hb];refine I ?_;refine V [] hh ?_;exact al
   | false =>
    rw [hb] at hh;refine I ?_;refine V [] hh ?_;exact ⟨rfl,rfl,_,_,Wk.aJ ar,rfl,rfl,by rw [dh,hx,any_append,hf];simp only [Option.toList,List.any_cons,List.any_nil,hb];rfl⟩
  ·rintro _ _ ⟨rfl,rfl,hf⟩;rw [mn zfu] at hf
   have hn:levels.findIdx? (fun l=>l.contains t.n.s)=none:=by
    rw [List.findIdx?_eq_none_iff];intro x hx;rw [any_eq_false] at hf;simpa using hf x hx
   rw [hn];exact aw
 ·have h6':(t.n.kind != 6)=true:=by simpa using h6
  unfold ph;rw [ab h6];refine I ?_;refine V [] kx ?_;exact al
open Go.Xp (Bn gJ G7)
theorem UZ (n:Int):GF prog 211 [.v (ii n)] [] (.v (ii (n % 4294967296))) []:=by
 refine ai func211 ntmps211 ?_;exact al
theorem Wz (n:Int):GF prog 150 [.v (ii n)] [] (.v (ii (Bn n))) []:=by
 unfold Bn
 have hb:0<=n % 4294967296/\n % 4294967296 < 4294967296:=by omega
 have hp:=UZ n;generalize n % 4294967296=m at *;refine ei func150 ntmps150 ?_
 by_cases h:m > 2147483647
 ·have h':decide ((2147483647:Int) < m)=true:=by simpa using h
  rw [ae h];refine I ?_;refine V [] hp ?_;exact al
 ·have h':decide ((2147483647:Int) < m)=false:=by simpa using h
  rw [ab h];refine I ?_;refine V [] hp ?_;exact al
theorem F3 (k:Nat) (h:k<=57):[[GV.v (.int .u8 (k:Int))]]=[UInt8.ofNat k].map fun c=>[GV.v (.int .u8 (c.toNat:Int))]:=by
 have:(UInt8.ofNat k).toNat=k:=by simp;omega
 simp [this]
theorem Ju (n:Nat) (hn:n<=1099511627776):GF prog 151 [.v (ii (n:Int))] [] (.v (sv (gJ n))) []:=by
 induction n using Nat.strongRecOn with
 | _ n ih =>
 unfold gJ;refine ei func151 ntmps151 ?_
 by_cases h:n < 10
 ·have h':decide ((n:Int) < 10)=true:=by simpa using by omega
  have hw:=F3 (48+n) G;rw [Int.natCast_add] at hw;rw [dif_pos h];refine I ?_;refine b7 ?_;exact aw
 ·have h':decide ((n:Int) < 10)=false:=by simpa using by omega
  rw [dif_neg h];have hc:=ih (n / 10) G G;have hl:=G7 (n / 10);have hw:=F3 (48+n % 10) G;rw [Int.natCast_add] at hw;refine I ?_;refine aM (.q 0 (.q 1 (ay 3 4 (.f 2 (.a 7 (ay 8 3 .nil)) 7 (.q 8 (.a 2 (.q 9 (.q 10 .nil)))))))) ?_;refine ak ?_;refine GO.fork ?_ ?_
  ·refine aB [] hc ?_;refine zau ?_;exact aw
  ·refine zau ?_;refine aB [] hc ?_;exact aw
end Go.Xg
set_option maxHeartbeats 2000000
namespace Go.Xg
open Go.RowKit Go.Xw Go.Proofs
attribute [local irreducible] GW GL GO YG GC GA bg bj
theorem Lr {p:Nat->Bool} {Γ:List Ob} (h:∀ x∈Γ,x.uH=true):sM p Γ=true:=by
 induction Γ with
 | nil=>rfl
 | cons x r ih =>
  rw [sM,ih fun y hy=>h y (dm _ hy),Bool.and_true];have:=h x List.mem_cons_self
  cases x <;> first | rfl | cases this
section
variable {P:Program} {fn:Func} {m:Nat} {R:GV->List Ob->Prop} {fr:List GV} {Γ:List Ob} {e:Exit}
end
end Go.Xg
namespace Go.Xg
open Go.RowKit Go.Xw Go.Proofs
theorem Lz {x:Ob} (h:x.uH=true) (f:Nat->Nat):x.eI f=x:=by cases x <;> first | rfl | cases h
theorem VI {acJ:List Ob} (h:∀ x∈acJ,x.uH=true) (f:Nat->Nat):acJ.map (Ob.eI f)=acJ :=
 (List.map_congr_left fun x hx=>Lz (h x hx) f).trans (List.map_id _)
theorem JM (s n N:Nat) (h:s+n<=N):kY (List.range' s n) N=true:=by
 induction n generalizing s with
 | zero=>rfl
 | succ n ih =>
  rw [List.range'_succ,kY,ih (s+1) G]
  have D:Nat.blt s N=true:=by rw [Nat.blt_eq];omega
  have X:(List.range' (s+1) n).contains s=false:=by
   cases hc:(List.range' (s+1) n).contains s with
   | false=>rfl
   | true =>
    have:=List.mem_range'_1.1 (dz.1 hc);omega
  rw [D,X];rfl
theorem DG (f:Nat->Nat):∀ (acJ A C:List Ob),(∀ x∈acJ,x.uH=true)->seen f (A++(acJ++C)) (List.range' A.length acJ.length) acJ
 | [],A,C,_=>trivial
 | x::acJ,A,C,h=>by
  rw [length_cons,List.range'_succ,seen];refine ⟨by rw [fA (aH _),qt,Lz (h x List.mem_cons_self)];rfl,?_⟩
  have:=DG f acJ (A++[x]) C fun y hy=>h y (dm _ hy)
  rw [aO,List.length_singleton,fP] at this;exact this
section
variable {P:Program} {m:Nat} {Q:dW} {fr:List GV} {Γ:List Ob} {ops:Array Oper} {rest:List Oper} {d:Option Tmp} {op:Op} {ty:TypeId} {pos:String} {af:Array Edge}
end
attribute [local irreducible] GW GL GO YG GC GA bg bj
theorem Q8 {α γ:Type} {f:α->Value->γ} {l:List α} {hs:List Value} {i:Nat} {x:α} {h:Value} (D:l[i]?=some x) (X:hs[i]?=some h):(List.zipWith f l hs)[i]?=some (f x h):=by rw [List.getElem?_zipWith,D,X]
end Go.Xg
namespace Go.Xg
open Go.RowKit Go.Xw
theorem WD (A C:List Ob) (x:Ob):(A++x::C)[A.length]?=some x:=by
 rw [fA (aH _),qt];rfl
theorem Cz (A C:List Ob) (x y:Ob):oset (A++x::C) A.length y=A++y::C:=by
 rw [bK,List.set_append_right _ _ (aH _),qt];rfl
theorem Lq (q:Nat->Bool):∀ (A B:List Ob),sM q (A++B)=(sM q A&&sM q B)
 | [],B=>by simp [sM]
 | a::A,B=>by simp only [cons_append,sM,Lq q A B,Bool.and_assoc]
section
variable (a b c d e:Ob) (acJ:List Ob) (k x y:Ob)
end
section
variable {P:Program} {m:Nat} {Q:dW} {fr:List GV} {Γ:List Ob} {ops:Array Oper} {rest:List Oper} {d:Option Tmp} {op:Op} {ty:TypeId} {pos:String} {af:Array Edge}
theorem Wk.Vb {A:List Ob} {x:Ob} (bD:Γ=A++[x]) (hm:m<=A.length) (ha:∀ q,sM q A=true):Wk m fr Γ (w6 A.length fr) A:=by
 subst bD;have h:=Wk.cut (m:=m) (fr:=fr) (Γ:=A++[x]) (n:=A.length) hm (by simp [ha]);simpa using h
theorem GL.abU {t:TypeId} {z:Value} {agg:Bool} {k:Nat} [hZ:qL P t z] [hT:Ty P t agg k] {dt ts:Tmp} {cs:List GV} {QM:TypeId} {Is:String} {Fh:Array Edge} {d2:Option Tmp} (X8:z.cells.size=k) (hy:nM (cP fr ts)=some cs) (bT:Nat.beq ts dt=false) (mu:ku fr dt=true) (hk:cs.length=k) (D:oA cs=true)
  (h:GL P m ops Q rest (bM (bM fr (some dt) (.loc Γ.length 0)) d2 (.v undef)) (Γ++[.box t cs])):GL P m ops Q (⟨some dt,.alloc t,ty,pos,af,none⟩::⟨d2,.store t (.tmp dt) (.tmp ts),QM,Is,Fh,none⟩::rest) fr Γ:=by
 refine GL.alloc (cs:=qA z.cells.toList) rfl ?_
 have Ce:ts≠dt:=by intro e;subst e;simp at bT
 have XE:∀ (fr:List GV) (t:Nat) (g:GV),ku fr t=true->cP (bQ fr t g) t=g:=by
  intro fr
  induction fr with
  | nil=>intro t g h;cases h
  | cons x fr ih=>intro t g h;cases t with | zero=>rfl | succ t=>exact ih t g h
 have KL:∀ (fr:List GV) (t u:Nat) (g:GV),u≠t->cP (bQ fr t g) u=cP fr u:=by
  intro fr
  induction fr with
  | nil=>intro t u g _;rfl
  | cons x fr ih =>
   intro t u g h
   cases t with
   | zero=>cases u with | zero=>exact absurd rfl h | succ u=>rfl
   | succ t=>cases u with | zero=>rfl | succ u=>exact ih t u g G
 have hlen:(qA z.cells.toList).length=k:=by simp [qA,X8]
 refine GL.st (i:=Γ.length) (o:=0) (E:=t) (cs:=qA z.cells.toList) (gs:=cs) (XE fr dt _ mu) zfu ?_ hk D (by rw [hlen];simp) ?_
 ·show nM (cP (bQ fr dt _) ts)=some cs;rw [KL fr dt ts _ Ce];exact hy
 ·have iG:ra (qA z.cells.toList) 0 cs=cs:=by
   have:=CZ cs (qA z.cells.toList) [] (by rw [hlen,hk]);exact zbT
  rw [iG];have e:=Cz Γ [] (.box t (qA z.cells.toList)) (.box t cs);rw [e];exact h
end
section
variable {P:Program} {fn:Func} {R:GV->List Ob->Prop} {fr:List GV} {Γ:List Ob} {e:Exit}
end
theorem Bi {A B:Prop} (h:B) (s:Hid B->A:=by intro hQ;(repeat (first | ((first | (apply GL.q;(· exact NB)) | refine GL.nil ?_ | refine bh ?_ | refine GW.seq ?_ | refine GW.region ?_ | refine GW.skip ?_ | refine iQ ?_ | refine GW.block ?_ | (apply GL.gt;(· exact rfl);(· first | exact rfl | assumption)) | (apply GL.gf;(· exact rfl);(· first | exact rfl | assumption)) | (apply GL.gu;(· exact rfl)) | (apply NO;(· exact rfl);(· first | exact rfl | assumption)) | (apply NN;(· exact rfl);(· first | exact rfl | assumption)));try refine GN uQ ?_) | ((first | (apply GL.box;(· exact rfl)) | (apply GL.st;(· exact rfl);(· exact rfl);(· exact rfl);(· exact rfl);(· exact rfl);(· exact rfl)));refine tQ dd dZ ?_)));exact hQ.1):A:=s ⟨h⟩
open Go.Proofs Tryz Go.Im
open GV (U)
open Go.Xp (Ar)
open Go.Sp (Src)
attribute [local irreducible] GW GL GO YG GC GA bg bj
theorem PI (s:ah):GF prog 64 [.v (sv s)] [] (.v (.bool (ou s))) []:=by
 unfold ou re si kK
 cases D:(s==[103,101,116])
 all_goals cases X:(s==[112,117,116])
 all_goals
  refine ai func64 ntmps64 ?_;exact al
theorem GP {lS:FuncId} [aP prog lS] (pr:Go.Sp.Fn->Bool) (l:List (Go.Sp.Fn)) (hn:l.length<=1099511627776) (hc:∀ x∈l,GF prog lS [.agg (ax x)] [] (.v (.bool (pr x))) []) :
  GF prog 128 [.sl 3 (l.map ax),.v (.func (.func lS) #[] #[])] [] (.v (ii (cx pr l))) []:=by
 have dK:(l.map ax).length=l.length:=by simp
 refine ai func128 ntmps128 ?_;refine GW.range (l.map ax).length (fun k fr Γ=>fr=[.sl 3 (l.map ax),.v (.func (.func lS) #[] #[]),U,U,U,U,U,.v (ii ((l.map ax).length:Int)),.v (ii (k:Nat)),U,U,U,U,U,U,U,U,U,U]/\Γ=[]/\(l.take k).all (fun y=>!pr y)=true) ?_ G ?_ ?_ ?_
 ·exact jQ
 ·exact gO
 ·rintro k _ _ au ⟨rfl,rfl,ba⟩;rw [dK] at au;obtain ⟨x,cS⟩:∃ x,l[k]?=some x:=⟨l[k],by simp [au]⟩
  have hr:(l.map ax)[k]?=some (ax x):=by rw [bp,cS];rfl
  have h:=hc x (br cS);have bL:=lQ (f:=pr) cS
  have hit:=fun h0=>lD (f:=pr) cS h0 ba
  unfold ax at hr h
  cases hb:pr x with
  | true =>
   rw [hb] at h;rw [hit hb];refine I ?_;refine kl [] h ?_;exact aw
  | false =>
   rw [hb] at h bL;refine I ?_;refine kl [] h ?_;exact zam
 ·rintro _ _ ⟨rfl,rfl,ba⟩;exact zaV
theorem wa {lS:FuncId} [aP prog lS] (pr:Go.Sp.Fn->Bool) (l:List (Go.Sp.Fn)) (hn:l.length<=1099511627776) (hc:∀ x∈l,GF prog lS [.agg (ax x)] [] (.v (.bool (pr x))) []) :
  GF prog 66 [.sl 3 (l.map ax),.v (.func (.func lS) #[] #[])] [] (.v (.bool (l.any pr))) []:=by
 have h:=GP pr l hn hc;rw [<-zP];generalize cx pr l=z at *;refine ai func66 ntmps66 ?_;exact zba
theorem Gk {lS:FuncId} [aP prog lS] (pr:Go.Sp.Fn->Bool) (s:ah) (l:List (Go.Sp.Fn)) (hn:l.length<=1099511627776) (hc:∀ x∈l,GF prog lS [.agg (ax x),.box [.v (sv s)] 0] [] (.v (.bool (pr x))) []) :
  GF prog 128 [.sl 3 (l.map ax),.fn (.func lS) [] [.box [.v (sv s)] 0]] [] (.v (ii (cx pr l))) []:=by
 have dK:(l.map ax).length=l.length:=by simp
 refine ai func128 ntmps128 ?_;refine GW.range (l.map ax).length (fun k fr Γ=>fr=[.sl 3 (l.map ax),.fn (.func lS) [] [.box [.v (sv s)] 0],U,U,U,U,U,.v (ii ((l.map ax).length:Int)),.v (ii (k:Nat)),U,U,U,U,U,U,U,U,U,U]/\Γ=[]/\(l.take k).all (fun y=>!pr y)=true) ?_ G ?_ ?_ ?_
 ·exact jQ
 ·exact gO
 ·rintro k _ _ au ⟨rfl,rfl,ba⟩;rw [dK] at au;obtain ⟨x,cS⟩:∃ x,l[k]?=some x:=⟨l[k],by simp [au]⟩
  have hr:(l.map ax)[k]?=some (ax x):=by rw [bp,cS];rfl
  have h:=hc x (br cS);have bL:=lQ (f:=pr) cS
  have hit:=fun h0=>lD (f:=pr) cS h0 ba
  unfold ax at hr h
  cases hb:pr x with
  | true =>
   exact zbv
  | false =>
   exact zbN
 ·rintro _ _ ⟨rfl,rfl,ba⟩;exact zaV
theorem Gj {lS:FuncId} [aP prog lS] (pr:Ar->Bool) (s:ah) (l:List (Ar)) (hn:l.length<=1099511627776) (hc:∀ x∈l,GF prog lS [.agg (bb x),.box [.v (sv s)] 0] [] (.v (.bool (pr x))) []) :
  GF prog 243 [.sl 2 (l.map bb),.fn (.func lS) [] [.box [.v (sv s)] 0]] [] (.v (ii (cx pr l))) []:=by
 have dK:(l.map bb).length=l.length:=by simp
 refine ai func243 ntmps243 ?_;refine GW.range (l.map bb).length (fun k fr Γ=>fr=[.sl 2 (l.map bb),.fn (.func lS) [] [.box [.v (sv s)] 0],U,U,U,U,U,.v (ii ((l.map bb).length:Int)),.v (ii (k:Nat)),U,U,U,U,U,U,U,U,U,U]/\Γ=[]/\(l.take k).all (fun y=>!pr y)=true) ?_ G ?_ ?_ ?_
 ·exact jQ
 ·exact gO
 ·rintro k _ _ au ⟨rfl,rfl,ba⟩;rw [dK] at au;obtain ⟨x,cS⟩:∃ x,l[k]?=some x:=⟨l[k],by simp [au]⟩
  have hr:(l.map bb)[k]?=some (bb x):=by rw [bp,cS];rfl
  have h:=hc x (br cS);have bL:=lQ (f:=pr) cS
  have hit:=fun h0=>lD (f:=pr) cS h0 ba
  unfold bb at hr h
  cases hb:pr x with
  | true =>
   exact zbv
  | false =>
   exact zbN
 ·rintro _ _ ⟨rfl,rfl,ba⟩;exact zaV
theorem Vl (x:Go.Sp.Fn) (s:ah):GF prog 169 [.agg (ax x),.box [.v (sv s)] 0] [] (.v (.bool (x.name==s))) []:=by
 unfold ax;refine ai func169 ntmps169 ?_;exact al
theorem OR (p:Src) (s:ah) (hn:p.fns.length<=1099511627776):GF prog 109 [.agg (av p),.v (sv s)] [] (.v (ii (cx (fun x:Go.Sp.Fn=>x.name==s) p.fns))) []:=by
 have h:=Gk (fun x:Go.Sp.Fn=>x.name==s) s p.fns hn (fun x _=>Vl x s);generalize cx (fun x:Go.Sp.Fn=>x.name==s) p.fns=z at *;refine ei func109 ntmps109 ?_;exact zb6
theorem Ma (x:Ar) (s:ah):GF prog 244 [.agg (bb x),.box [.v (sv s)] 0] [] (.v (.bool (x.name==s))) []:=by
 unfold bb;refine ai func244 ntmps244 ?_;exact al
theorem Fi (p:Src) (s:ah) (hn:p.arrays.length<=1099511627776):GF prog 183 [.agg (av p),.v (sv s)] [] (.v (ii (cx (fun x:Ar=>x.name==s) p.arrays))) []:=by
 have h:=Gj (fun x:Ar=>x.name==s) s p.arrays hn (fun x _=>Ma x s);generalize cx (fun x:Ar=>x.name==s) p.arrays=z at *;refine ei func183 ntmps183 ?_;exact zb6
theorem Nz (x:Go.Sp.Fn):GF prog 127 [.agg (ax x)] [] (.v (.bool (decide (x.params.length > 40)))) []:=by
 have h:decide ((40:Int) < ((x.params.map fun s=>[GV.v (sv s)]).length:Int))=decide (x.params.length > 40):=by
  rw [cj];exact decide_eq_decide.2 G
 rw [<-h];unfold ax strs;refine ai func127 ntmps127 ?_;exact al
theorem Ra (x:Go.Sp.Fn):GF prog 67 [.agg (ax x)] [] (.v (.bool (oY x))) []:=by
 have h:(((x.params.map fun s=>[GV.v (sv s)]).length:Int)==0)=(x.params.length==0):=by
  rw [cj];exact Bool.eq_iff_iff.2 zfu
 unfold oY xN;rw [<-h];unfold ax strs
 cases D:(x.name==[109,97,105,110])
 all_goals
  refine ai func67 ntmps67 ?_;exact al
section
variable {B:Bs} {K:Fz} {β:Bt} {w:World} {l:List Value} {fr:List GV} {A C:List Ob}
theorem jG {x y:Operand} {E k:Nat} {rows:List (List GV)} {h z:Value} (hI:Inv B K β (A++(.vech E k rows h::C)) w) (hF:FR K β fr l) (hx:bf fr x=.v h) (hy:bf fr y=.v z) :
  ∃ K1,nE K1 w/\lP K1 (fun _=>.no) w/\bs K1 (fun _=>.no) ([x,y].map (ev l)) [.sl k rows,.v z]:=by
 obtain ⟨K1,hk,D,X,h3⟩:=hI.view (i:=A.length) (E:=E) (k:=k) (rows:=rows) (x:=h) zgk;exact zcs
end
theorem yc (l:List ah):(bW l).length=l.length:=by simp [bW]
theorem Rj (xs:List Int) (s:Int) (hl:xs.length<=1099511627776):GF prog 107 [ints xs,.v (ii s)] [] (.v (ii (cx (fun x=>s==x) xs))) []:=by
 have dK:(xs.map fun i=>[GV.v (ii i)]).length=xs.length:=by simp
 refine ai func107 ntmps107 ?_;refine GW.range (xs.map fun i=>[GV.v (ii i)]).length (fun k fr Γ=>fr=[ints xs,.v (ii s),U,U,U,U,ints xs,.v (ii ((xs.map fun i=>[GV.v (ii i)]).length:Int)),.v (ii (k:Nat)),U,U,U,U,U,U,U,U,U,U]/\Γ=[]/\((xs.take k).all fun x=>!(s==x))=true) ?_ G ?_ ?_ ?_
 ·exact jQ
 ·exact gO
 ·rintro k _ _ au ⟨rfl,rfl,ba⟩;rw [dK] at au;obtain ⟨x,cS⟩:∃ x,xs[k]?=some x:=⟨xs[k],by simp [au]⟩;have hr:=qm cS;have bL:=lQ (f:=fun y:Int=>s==y) cS
  have hit:=fun h0=>lD (f:=fun y:Int=>s==y) cS h0 ba
  cases hb:(s==x) with
  | true =>
   rw [hit hb];exact aw
  | false =>
   refine I ?_;exact ⟨rfl,rfl,_,_,Wk.aJ ar,rfl,rfl,by rw [bL,ba,hb];rfl⟩
 ·rintro _ _ ⟨rfl,rfl,ba⟩;exact zaV
theorem qI (xs:List Int) (s:Int) (hl:xs.length<=1099511627776):GF prog 52 [ints xs,.v (ii s)] [] (.v (.bool (xs.contains s))) []:=by
 have hi:=Rj xs s hl
 have he:xs.contains s=xs.any (fun x=>s==x):=by rw [List.contains_eq_any_beq]
 rw [he,<-zP];generalize cx (fun x=>s==x) xs=i at *;refine ai func52 ntmps52 ?_;refine V [] hi ?_;exact al
end Go.Xg
set_option maxHeartbeats 4000000
namespace Go.Xg
open Go.RowKit Go.Xw Go.Proofs Go.Im
attribute [local irreducible] GW GL GO YG GC GA bg bj
theorem Il (l:List ah):oB (l.map fun s=>[GV.v (sv s)])=true:=by
 induction l with
 | nil=>rfl
 | cons s l ih=>rw [List.map_cons,oB,ih];rfl
theorem GW.OD {P:Program} {m:Nat} {c:Code} {Q:dW} {fr cX:List GV} {Γ aV:List Ob} (D:vc fr cX) (X:Γ=aV) (h:GW P m c Q cX aV):GW P m c Q fr Γ:=by
 subst X;exact GW.wk (Wk.aJ D) h
open Tryz
open Go.Xp (Nd)
open Go.Sp (Src)
def wC (n:Nd):Bool:=(n.kind==4&&n.s==[115,105,122,101])&&((n.kids.length:Int)==1)
theorem Dm (p:Src) (a:Nat) (n:Nd) (hn:p.nodes[a]?=some n):GF prog 130 [.agg (av p),.v (ii (a:Nat))] [] (.v (.bool (wC n))) []:=by
 have hr:=ma hn
 have fC:(n.kids.map fun i=>[GV.v (ii i)]).length=n.kids.length:=by simp
 unfold wC;rw [<-fC];unfold aW ints at hr;generalize (n.kids.map fun i=>[GV.v (ii i)])=kk at *
 cases D:(n.kind==4)
 all_goals cases X:(n.s==[115,105,122,101])
 all_goals
  refine ai func130 ntmps130 ?_;exact al
theorem Yo (p:Src) (s:ah) (hn:p.fns.length<=1099511627776):GF prog 245 [.agg (av p),.v (sv s)] [] (.v (ii (pD p s))) []:=by
 have hF:=OR p s hn;unfold pD re si kK
 cases D:(s==[103,101,116]) with
 | true =>
  rw [ae zfD];exact zep
 | false =>
  rw [ab zfD]
  cases X:(s==[112,117,116]) with
  | true =>
   rw [ae (.inl zfM)];exact zep
  | false =>
   cases h3:(s==[115,105,122,101]) with
   | true =>
    rw [ae (.inr (by simpa using h3))];exact zep
   | false =>
    rw [ab (by simpa using And.intro (show ¬ s=[112,117,116] by simpa using X) (show ¬ s=[115,105,122,101] by simpa using h3))];unfold cx at hF
    cases hx:p.fns.findIdx? (fun f:Go.Sp.Fn=>f.name==s) with
    | none =>
     rw [hx] at hF
     have hd:decide ((0:Int) <= -1)=false:=by decide
     exact zfm
    | some i =>
     rw [hx] at hF;have hi:i < p.fns.length:=(List.findIdx?_eq_some_iff_getElem.1 hx).1;obtain ⟨f,hf⟩:∃ f,p.fns[i]?=some f:=⟨p.fns[i],by simp [hi]⟩
     have hr:(p.fns.map ax)[i]?=some (ax f):=by rw [bp,hf];rfl
     have c8:(f.params.map fun s=>[GV.v (sv s)]).length=f.params.length:=by simp
     have hd:decide ((0:Int)<=((i:Nat):Int))=true:=by simp
     unfold ax at hr;simp only at hF |-;unfold nR;rw [hf];simp only;rw [<-c8];exact zfm
open Go.Xp (T Ar eC)
theorem K8 {p:Src} {a:Nat} {n:Nd} {l:List T} (cU:fi p.nodes a (.mk n l)):eM (.mk n l)=wC n:=by
 rw [fi] at cU;unfold eM wC kK
 congr 1
 rw [cU.2.1,eC]
 exact Bool.eq_iff_iff.2 (by
  show ((l.length==1)=true)↔_
  simp only [beq_iff_eq];omega)
theorem Jp (p:Src) (a:Nat) (n:Nd) (l:List T) (ls:List ah) (cU:fi p.nodes a (.mk n l)) (kr:p.fns.length<=1099511627776) (kq:p.arrays.length<=1099511627776) (oS:ls.length<=1099511627776) :
  GF prog 184 [.agg (av p),.v (ii (a:Nat)),strs ls] [] (.v (ii (fU p (.mk n l) ls))) []:=by
 have hs:=K8 cU;rw [fi] at cU;obtain ⟨hn,hk,rG⟩:=cU;have hS:=Dm p a n hn;have hr:=ma hn
 have fC:(n.kids.map fun i=>[GV.v (ii i)]).length=l.length:=by rw [cj,hk,eC]
 unfold fU;rw [hs]
 cases hz:wC n with
 | true =>
  rw [hz] at hS;rw [ae rfl]
  have jI:l.length=1:=by
   exact zd9
  obtain ⟨u,rfl⟩:∃ u,l=[u]:=by
   match l,jI with
   | [u],_=>exact ⟨u,rfl⟩
  have hm:p.nodes[a+1]?=some u.n:=by
   rw [eg] at rG;have:=rG.1
   cases u;rw [fi] at this;exact this.1
  have Aa:n.kids[0]?=some (((a+1:Nat)):Int):=by rw [hk];rfl
  have vy:=qm Aa;have lz:=ma hm;show GF _ _ _ _ (.v (ii (if iM p u.n ls=true then 24 else 0))) _;generalize u.n=m at *;have hA:=Fi p m.s kq;have hL:=mG ls m.s oS;have hb:iM p m ls=((m.kind != 2 || decide (cx (fun x:Ar=>x.name==m.s) p.arrays < 0)) || ls.contains m.s):=rfl;rw [hb];generalize cx (fun x:Ar=>x.name==m.s) p.arrays=z at *;unfold aW at hr lz
  cases D:(m.kind != 2) with
  | true =>
   refine ai func184 ntmps184 ?_;refine zeI ?_;exact zbJ
  | false =>
   cases X:decide (z < 0) with
   | true =>
    refine ai func184 ntmps184 ?_;refine zeI ?_;refine bq ?_;refine V [] hA ?_;exact al
   | false =>
    generalize ls.contains m.s=b at *;cases b
    all_goals
     refine ai func184 ntmps184 ?_;refine zeI ?_;refine bq ?_;refine V [] hA ?_;refine V [] hL ?_;exact al
 | false =>
  rw [hz] at hS;rw [ab aC];have hM:=Yo p n.s kr;show GF _ _ _ _ (.v (ii (if pD p n.s = -1 then 22 else if pD p n.s=(l.length:Int) then 0 else 23))) _;generalize pD p n.s=z at *;rw [<-fC];unfold aW at hr;unfold ints at hr;generalize (n.kids.map fun i=>[GV.v (ii i)])=kk at *
  cases D:(z == -1) with
  | true =>
   rw [ae zfD];exact zbX
  | false =>
   rw [ab zfD]
   cases X:(z==(kk.length:Int)) with
   | true =>
    rw [ae zfM];exact zbX
   | false =>
    rw [ab zfM];exact zbX
theorem JJ (p:Src) (a:Nat) (n:Nd) (l:List T) (ls:List ah) (cU:fi p.nodes a (.mk n l)) (kr:p.fns.length<=1099511627776) (kq:p.arrays.length<=1099511627776) (lI:p.globals.length<=1099511627776) (oS:ls.length<=1099511627776) :
  GF prog 131 [.agg (av p),.v (ii (a:Nat)),strs ls] [] (.v (ii (cK p (.mk n l) ls))) []:=by
 have hC:=Jp p a n l ls cU kr kq oS
 have hn:p.nodes[a]?=some n:=by rw [fi] at cU;exact cU.1
 clear cU;have hr:=ma hn;have hL:=mG ls n.s oS;have hG:=mG p.globals n.s lI;have hA:=Fi p n.s kq
 have qx:(ls.map fun s=>[GV.v (sv s)]).length=ls.length:=by simp
 have he:cK p (.mk n l) ls=(if n.kind=13 then (if ls.contains n.s=true then 21 else if ls.length>=40 then 26 else 0)
  else if n.kind=2\/n.kind=7 then (if ls.contains n.s=false/\p.globals.contains n.s=false then 22 else 0)
  else if n.kind=3\/n.kind=8 then (if ls.contains n.s=true\/cx (fun x:Ar=>x.name==n.s) p.arrays < 0 then 24 else 0)
  else if n.kind=4 then fU p (.mk n l) ls else 0):=rfl
 rw [he];generalize fU p (.mk n l) ls=cf at *;obtain ⟨kd,at_,nn,s,ks⟩:=n;simp only at *;unfold aW at hr;simp only at hr;generalize cx (fun x:Ar=>x.name==s) p.arrays=z at *;generalize ls.contains s=b at *;generalize p.globals.contains s=g at *;rw [<-qx]
 by_cases fH:kd=13
 ·subst fH
  have Lx:((13:Int)==13)=true:=by decide
  rw [ae rfl]
  cases b with
  | true =>
   exact zaw
  | false =>
   cases h4:decide ((40:Int)<=(((ls.map fun s=>[GV.v (sv s)]).length:Nat):Int)) with
   | true =>
    rw [ab aC,ae (by simp at h4;omega)];exact zaw
   | false =>
    rw [ab aC,ab (by simp at h4;omega)];exact zaw
 rw [ab fH]
 by_cases X:kd=2
 ·subst X
  have Lx:((2:Int)==13)=false:=by decide
  have q2:((2:Int)==2)=true:=by decide
  rw [ae aC]
  cases b with
  | true =>
   exact zaw
  | false =>
   cases g
   all_goals
    exact zdQ
 by_cases h7:kd=7
 ·subst h7
  have Lx:((7:Int)==13)=false:=by decide
  have q2:((7:Int)==2)=false:=by decide
  have q7:((7:Int)==7)=true:=by decide
  rw [ae aC]
  cases b with
  | true =>
   exact zaw
  | false =>
   cases g
   all_goals
    exact zdQ
 rw [ab (by rintro (h | h);(· exact X h);exact h7 h)]
 by_cases h3:kd=3
 ·subst h3
  have Lx:((3:Int)==13)=false:=by decide
  have q2:((3:Int)==2)=false:=by decide
  have q7:((3:Int)==7)=false:=by decide
  have q3:((3:Int)==3)=true:=by decide
  rw [ae aC]
  cases b with
  | true =>
   exact zaw
  | false =>
   cases hz:decide (z < 0) with
   | true =>
    rw [ae (.inr (by simpa using hz))];exact za3
   | false =>
    exact zdY
 by_cases h8:kd=8
 ·subst h8
  have Lx:((8:Int)==13)=false:=by decide
  have q2:((8:Int)==2)=false:=by decide
  have q7:((8:Int)==7)=false:=by decide
  have q3:((8:Int)==3)=false:=by decide
  have q8:((8:Int)==8)=true:=by decide
  rw [ae aC]
  cases b with
  | true =>
   exact zaw
  | false =>
   cases hz:decide (z < 0) with
   | true =>
    rw [ae (.inr (by simpa using hz))];exact za3
   | false =>
    exact zdY
 rw [ab (by rintro (h | h);(· exact h3 h);exact h8 h)]
 by_cases h4:kd=4
 ·subst h4
  have Lx:((4:Int)==13)=false:=by decide
  have q2:((4:Int)==2)=false:=by decide
  have q7:((4:Int)==7)=false:=by decide
  have q3:((4:Int)==3)=false:=by decide
  have q8:((4:Int)==8)=false:=by decide
  have q4:((4:Int)==4)=true:=by decide
  rw [ae rfl];refine ai func131 ntmps131 ?_;refine V [] hL ?_;exact zcX
 rw [ab h4]
 have Lx:(kd==13)=false:=by simpa using fH
 have q2:(kd==2)=false:=by simpa using X
 have q7:(kd==7)=false:=by simpa using h7
 have q3:(kd==3)=false:=by simpa using h3
 have q8:(kd==8)=false:=by simpa using h8
 have q4:(kd==4)=false:=by simpa using h4
 exact zaw
theorem W2 {K K1:Fz} {β:Bt} {v:Value} {gs:List GV} (hk:cW K K1) (hp:∀ g∈gs,g.pc=true) (h:Rel K β v (.agg gs)):Rel K1 (fun _=>.no) v (.agg gs):=by
 cases h with
 | agg vs cs hl h =>
  exact .agg vs gs hl fun i v g D X=>((h i v g D X).mono hk (dI.refl β)).pc (hp g (br X))
theorem Mo (p:Src):∀ g∈av p,g.pc=true:=fun g hg=>by
 simp only [av,List.mem_cons,List.not_mem_nil,or_false] at hg
 rcases hg with rfl | rfl | rfl | rfl <;> rfl
theorem mI {B:Bs} {K:Fz} {β:Bt} {w:World} {l:List Value} {fr:List GV} {A C:List Ob} {p:Src} {x y u:Operand} {E k:Nat} {rows:List (List GV)} {h z:Value} (hI:Inv B K β (A++(.vech E k rows h::C)) w) (hF:FR K β fr l) (hx:bf fr x=.agg (av p)) (hy:bf fr y=.v z) (hu:bf fr u=.v h) :
  ∃ K1,nE K1 w/\lP K1 (fun _=>.no) w/\bs K1 (fun _=>.no) ([x,y,u].map (ev l)) [.agg (av p),.v z,.sl k rows]:=by
 obtain ⟨K1,hk,D,X,h3⟩:=hI.view (i:=A.length) (E:=E) (k:=k) (rows:=rows) (x:=h) zgk;have hr:=hF.ev x;rw [hx] at hr;refine ⟨K1,D,X,?_⟩;show bs K1 _ [ev l x,ev l y,ev l u] _;rw [hF.ko hy,hF.ko hu];exact .cons (W2 hk (Mo p) hr) (.cons (.v _) (.cons h3 .nil))
theorem Wg (p:Src) (a:Nat) (n:Nd) (l:List T) (ls:List ah) (c:CS) (E1 E5 E6:TypeId) (ad:Option Addr) (cp:Nat) (cU:fi p.nodes a (.mk n l)) (kr:p.fns.length<=1099511627776) (kq:p.arrays.length<=1099511627776) (lI:p.globals.length<=1099511627776) (oS:ls.length<=1099511627776) :
  GF prog 129 [.v (ii (a:Nat)),.v (.slice ad ls.length cp),.loc 0 0,.loc 1 0,.box (av p) 0,.loc 2 0] [.box E1 [.v (ii c.code)],.box E5 [.v (ii c.skip)],.box E6 [.v (ii c.place)],.vech 9 1 (bW ls) (.slice ad ls.length cp)] (.tup [])
   [.box E1 [.v (ii (dc p c a (.mk n l) ls).code)],.box E5 [.v (ii (dc p c a (.mk n l) ls).skip)],.box E6 [.v (ii (dc p c a (.mk n l) ls).place)],.vech 9 1 (bW ls) (.slice ad ls.length cp)]:=by
 have hs:=K8 cU;have hN:=JJ p a n l ls cU kr kq lI oS;rw [fi] at cU;obtain ⟨hn,hk,rG⟩:=cU;have hS:=Dm p a n hn;have hr:=ma hn;obtain ⟨code,place,skip⟩:=c;unfold dc;rw [hs];simp only;generalize cK p (.mk n l) ls=z at *
 cases D:(code != 0) with
 | true =>
  rw [ae (.inl zfD)];refine ai func129 ntmps129 ?_;exact iJ
 | false =>
  cases X:(((a:Nat):Int)==skip) with
  | true =>
   rw [ae (.inr zfM)];refine ai func129 ntmps129 ?_;exact iJ
  | false =>
   rw [ab (by rintro (h | h);(· simp at D;exact h D);(· simp at X;exact X h))];simp only
   cases hz:wC n with
   | false =>
    rw [hz] at hS;rw [ab (show ¬ (false=true) by decide)];unfold aW at hr
    cases h3:(z != 0) with
    | true =>
     exact zeF
    | false =>
     exact zeG
   | true =>
    rw [hz] at hS;rw [ae rfl]
    have jI:l.length=1:=by
     exact zd9
    obtain ⟨u,rfl⟩:∃ u,l=[u]:=by
     match l,jI with
     | [u],_=>exact ⟨u,rfl⟩
    have hm:p.nodes[a+1]?=some u.n:=by
     rw [eg] at rG;have:=rG.1
     cases u;rw [fi] at this;exact this.1
    have Aa:n.kids[0]?=some (((a+1:Nat)):Int):=by rw [hk];rfl
    have vy:=qm Aa;have lz:=ma hm;rw [show pX (.mk n [u])=u.n from rfl];generalize u.n=m at *;unfold aW at hr lz
    cases h4:(m.kind != 2) with
    | true =>
     rw [ae (show m.kind≠2 by simpa using h4)]
     cases h3:(z != 0) with
     | true =>
      exact zeF
     | false =>
      exact zeG
    | false =>
     rw [ab (show ¬ (m.kind≠2) by simpa using h4)]
     cases h3:(z != 0) with
     | true =>
      exact zeF
     | false =>
      exact zeG
open GV (U)
open Go.Xp (bc aD)
def LP (p:Src):GV:=.fn (.func 129) [] [.loc 0 0,.loc 1 0,.box (av p) 0,.loc 2 0]
def UL (p:Src):GV:=.fn (.func 167) [] [.loc 3 0,.loc 4 0,.box (av p) 0,.loc 5 0]
def F8 (p:Src) (E1 E5 E6 E2 E3 E4:TypeId) (s:CS) (ls:List ah) (ad:Option Addr) (cp:Nat):List Ob :=
 [.box E1 [.v (ii s.code)],.box E5 [.v (ii s.skip)],.box E6 [.v (ii s.place)],.box E2 [LP p],.box E3 [.v (.slice ad ls.length cp)],.box E4 [UL p],.vech 9 1 (bW ls) (.slice ad ls.length cp)]
theorem Tl (p:Src) (E1 E5 E6 E2 E3 E4:TypeId) (hp:p.nodes.length<=1048576) (fC:∀ n∈p.nodes,n.kids.length<=1099511627776) (kr:p.fns.length<=1099511627776) (kq:p.arrays.length<=1099511627776) (lI:p.globals.length<=1099511627776):∀ (N:Nat) (t:T),bc t<=N->∀ (a:Nat) (s:CS) (ls:List ah) (ad:Option Addr) (cp:Nat),fi p.nodes a t->ls.length+bc t<=8388608 ->
  GC prog 167 [.v (ii (a:Nat)),.loc 3 0,.loc 4 0,.box (av p) 0,.loc 5 0] (F8 p E1 E5 E6 E2 E3 E4 s ls ad cp) fun g Δ=>g=.tup []/\∃ sB sD,Δ=F8 p E1 E5 E6 E2 E3 E4 (km (dc p) t a s ls).1 (km (dc p) t a s ls).2 sB sD:=by
 intro N
 induction N with
 | zero=>intro t h;exact zeB
 | succ N ih =>
 intro t hN a s ls ad cp cU oS
 cases t with
 | mk n l =>
 rw [Go.Xp.bc] at hN oS;have X3:=cU;rw [fi] at cU;obtain ⟨hn,hk,rG⟩:=cU;rw [km];have hr:=ma hn;have qw:=fC n (br hn);have ht:=Wg p a n l ls s E1 E5 E6 ad cp X3 kr kq lI G;generalize lX:(dc p) s a (.mk n l) ls=s1 at *
 have Db:n.kids.length=l.length:=by rw [hk,eC]
 unfold aW at hr;unfold F8 LP UL;refine ai func167 ntmps167 ?_;refine GL.yo [0,1,2,6] ht rfl rfl rfl (by repeat (first | exact trivial | refine ⟨rfl,?_⟩)) ?_;rintro _ _ ⟨rfl,rfl⟩;refine zaC ?_;refine GW.range (n.kids.map fun i=>[GV.v (ii i)]).length (fun k fr Γ=>∃ sB sD,fr=[.v (ii (a:Nat)),.loc 3 0,.loc 4 0,.box (av p) 0,.loc 5 0,U,U,U,U,U,U,U,U,U,U,U,U,ints n.kids,.v (ii ((n.kids.map fun i=>[GV.v (ii i)]).length:Int)),.v (ii (k:Nat)),U,U,U,U,U,U,U,U,U,U,U,U,U,U,U,U,U,U,U,U,U,U,U]/\Γ=F8 p E1 E5 E6 E2 E3 E4 (eT (dc p) (l.take k) (a+1) s1 ls).1 (eT (dc p) (l.take k) (a+1) s1 ls).2 sB sD) ?_ zfU ?_ ?_ ?_
 ·exact ⟨_,_,Wk.aJ ar,ad,cp,rfl,rfl⟩
 ·rintro k _ _ ⟨ad,cp,rfl,rfl⟩;exact ea
 ·rintro k _ _ au ⟨ad,cp,rfl,rfl⟩;rw [cj,Db] at au;obtain ⟨u,hu⟩:∃ u,l[k]?=some u:=⟨l[k],by simp [au]⟩;have qS:=An (n:=a+1) hu;rw [<-hk] at qS;have vz:=qm qS;have dR:=tz hu;have X4:fi p.nodes (a+1+aD (l.take k)) u:=eg.ix l (a+1) k u rG hu
  have hlen:(eT (dc p) (l.take k) (a+1) s1 ls).2.length<=ls.length+aD (l.take k):=by
   rw [sS,aO];have:=wT (l.take k);omega
  rw [Hc _ hu];generalize (eT (dc p) (l.take k) (a+1) s1 ls).1=s2 at *;generalize (eT (dc p) (l.take k) (a+1) s1 ls).2=ls2 at *;have hv:=ih u G (a+1+aD (l.take k)) s2 ls2 ad cp X4 G;unfold F8 LP UL at hv |-;refine I ?_;refine GL.yo [0,1,2,3,4,5,6] hv rfl rfl rfl (by repeat (first | exact trivial | refine ⟨rfl,?_⟩)) ?_;rintro _ _ ⟨rfl,sB,sD,rfl⟩;refine zaC ?_;exact ⟨rfl,rfl,_,_,Wk.aJ ar,sB,sD,rfl,rfl⟩
 ·rintro _ _ ⟨ad,cp,rfl,rfl⟩;rw [cj,Db,di]
  have hlen:(eT (dc p) l (a+1) s1 ls).2.length<=ls.length+aD l:=by
   rw [sS,aO];have:=wT l;omega
  generalize (eT (dc p) l (a+1) s1 ls).1=s2 at *;generalize (eT (dc p) l (a+1) s1 ls).2=ls2 at *;have BJ:(bW ls2).length=ls2.length:=yc ls2;unfold F8 LP UL;refine bh ?_
  cases hv:(n.kind==13) with
  | false =>
   rw [ab zf8];refine I ?_;refine dN ?_;exact ⟨rfl,ad,cp,rfl⟩
  | true =>
   refine zeR ?_;refine OA rfl rfl (GL.pk 6 (news:=[[.v (sv n.s)]]) rfl rfl rfl az rfl rfl (by refine ⟨?_,?_⟩;(· show _+1<=_;omega);(· show (_+1) * _<=_;omega)) ?_);intro vd vh;refine zbI ?_;refine dN ?_;exact ⟨rfl,vd,vh,by simp [bW]⟩
theorem Vd (p:Src) (E1 E5 E6:TypeId) (i:Nat) (f:Go.Sp.Fn) (t:T) (s:CS) (hp:p.nodes.length<=1048576) (fC:∀ n∈p.nodes,n.kids.length<=1099511627776) (kr:p.fns.length<=1099511627776) (kq:p.arrays.length<=1099511627776) (lI:p.globals.length<=1099511627776)
  (hf:p.fns[i]?=some f) (Af:f.params.length<=1048576) (hb:0<=f.body) (cU:fi p.nodes f.body.toNat t) (dR:bc t<=1048576) :
  GF prog 101 [.agg (av p),.v (ii (i:Nat)),LP p] [.box E1 [.v (ii s.code)],.box E5 [.v (ii s.skip)],.box E6 [.v (ii s.place)]] (.tup []) [.box E1 [.v (ii (km (dc p) t f.body.toNat s f.params).1.code)],.box E5 [.v (ii (km (dc p) t f.body.toNat s f.params).1.skip)],.box E6 [.v (ii (km (dc p) t f.body.toNat s f.params).1.place)]]:=by
 have hr:(p.fns.map ax)[i]?=some (ax f):=by rw [bp,hf];rfl
 have c8:(f.params.map fun s=>[GV.v (sv s)]).length=f.params.length:=by simp
 have iF:=Il f.params;obtain ⟨b,zX⟩:∃ b:Nat,f.body=(b:Int):=⟨f.body.toNat,by omega⟩;rw [zX,jR] at cU |-;unfold ax at hr;rw [zX] at hr;unfold LP;refine ei func101 ntmps101 ?_;refine lj ?_;refine GL.wk (Wk.freeze (i:=3) rfl rfl rfl (aH _)) ?_;refine GN zgl ?_;refine GL.wk (Wk.aJ (cX:=[U,.v (ii (i:Nat)),U,.box (av p) 0,U,.loc 4 0,U,U,U,U,U,U,U,strs f.params,U,U,U,U,U,U,U,U,U,U]) ar) ?_;refine GL.wk (Wk.ln 9 1) ?_;refine GL.Gt 5 rfl rfl rfl rfl iF (by refine ⟨?_,?_⟩;(· rw [c8];omega);(· rw [c8];omega)) ?_;intro ad cp;rw [c8];refine zcj ?_;refine GW.OD (cX:=[U,.v (ii (i:Nat)),U,.box (av p) 0,U,.loc 4 0,.loc 6 0,.loc 7 0,U,U,U,U,U,U,U,U,U,U,U,U,U,U,U,U]) (aV:=[.box E1 [.v (ii s.code)],.box E5 [.v (ii s.skip)],.box E6 [.v (ii s.place)],.gone,.box _ [.fn (.func 129) [] [.loc 0 0,.loc 1 0,.box (av p) 0,.loc 2 0]],.vech 9 1 (bW f.params) (.slice ad f.params.length cp),.box _ [.v (.slice ad f.params.length cp)],.box _ [.fn (.func 167) [] [.loc 4 0,.loc 6 0,.box (av p) 0,.loc 7 0]]]) ar rfl ?_;refine aM (ay 0 7 (.a 7 .nil)) ?_;refine ak ?_;have hv:=Tl p E1 E5 E6;refine OA rfl rfl (GL.yo [0,1,2,4,6,7,5] (hv _ _ _ hp fC kr kq lI _ t (aH _) b s f.params ad cp cU G) rfl rfl rfl (by repeat (first | exact trivial | refine ⟨rfl,?_⟩)) ?_);rintro _ _ ⟨rfl,sB,sD,rfl⟩;refine ⟨by simp [F8],?_⟩;unfold F8;refine dM ?_;refine ak ?_;exact oE
end Go.Xg
namespace Go.Im
open Go.Xp Go.Sp
theorem Kf {l:List ah}:w7 l=false↔∀ k,k < l.length->qh l k=false:=by
 unfold w7;rw [any_eq_false];constructor
 ·intro h k hk;have:=h k (List.mem_range.2 hk);exact zbT
 ·intro h k hk;rw [h k (List.mem_range.1 hk)];decide
theorem uK {l:List Ar} {k:Nat} {a:Ar} (h:l[k]?=some a):eu (l.take (k+1))=eu (l.take k)+a.size:=by
 unfold eu;rw [dh,h,List.foldl_append];rfl
theorem w4 {l:List Ar} (h:∀ a∈l,0<=a.size/\a.size<=2147483648):∀ k,0<=eu (l.take k)/\eu (l.take k)<=(k:Int) * 2147483648:=by
 intro k
 induction k with
 | zero=>simp [eu]
 | succ k ih =>
  cases hx:l[k]? with
  | none =>
   have:l.take (k+1)=l.take k:=by rw [dh,hx];simp
   rw [this];omega
  | some a =>
   have:=h a (br hx);rw [uK hx];omega
theorem D3 {l:List ah}:eX l=false↔∀ k,k < l.length->mC l k=false:=by
 unfold eX;rw [any_eq_false];constructor
 ·intro h k hk;have:=h k (List.mem_range.2 hk);exact zbT
 ·intro h k hk;rw [h k (List.mem_range.1 hk)];decide
theorem Hk (p:Src) (l:List T) (a:Nat):gD p [] l a=(0,0):=by unfold gD;rfl
end Go.Im
namespace Go.Xg
open Go.RowKit Go.Xw Go.Proofs Tryz Go.Im
open GV (U)
open Go.Xp (T bc)
open Go.Sp (Src)
theorem YG.wM {P:Program} {fr:List GV} {Γ:List Ob} {x up:Operand} {t e:TypeId} {k:Nat} [hT:oK P t e k] {rows:List (List GV)} {kk:IntKind} {i:Nat} (hx:bf fr x=.sl k rows) (hup:bf fr up=.v (.int kk i)) (hi:i < rows.length):YG P (.slice t x none (some up) none) fr Γ (.sl k (rows.take i)):=fun B K β w l hI hF=>by
 have h:=hF.ev x;rw [hx] at h;have KN:=hF.ko hup;generalize hv:ev l x=v at h
 cases h with
 | sl0 a c=>simp at hi
 | sl b o c _ _ h hc =>
  refine ⟨.slice (some ⟨b,o,none⟩) i c,fun d ty pos af=>?_,?_⟩
  ·have qv:¬ (c=0):=by omega
   have hle:(i:Int)<=(c:Int):=by omega
   have Cd:i<=c:=by omega
   simp [execOp,Instr.sliceAt,Instr.slice,Instr.sliceBounds,Instr.sliceBound,asIntOf,hv,KN,run_underlying hT.und,kz hT.siz,qv,hle,Cd,rT]
  ·have:=Rel.sl (K:=K) (β:=β) b o c k (rows.take i) (fun j r hr=>?_) zfS
   ·rw [gy,Nat.min_eq_left (Nat.le_of_lt hi)] at this;exact this
   ·have hj:j < i:=by
     rcases Nat.lt_or_ge j i with D | D
     ·exact D
     ·rw [List.getElem?_eq_none zfQ] at hr;cases hr
    rw [List.getElem?_take,ae hj] at hr;exact h j r hr
attribute [local irreducible] GW GL GO YG GC GA bg bj
theorem Fv (p:Src) (i:Nat) (f:Go.Sp.Fn) (t:T) (hp:p.nodes.length<=1048576) (fC:∀ n∈p.nodes,n.kids.length<=1099511627776) (kr:p.fns.length<=1099511627776) (kq:p.arrays.length<=1099511627776) (lI:p.globals.length<=1099511627776)
  (hf:p.fns[i]?=some f) (Af:f.params.length<=1048576) (hb:0<=f.body) (cU:fi p.nodes f.body.toNat t) (dR:bc t<=1048576) :
  GF prog 68 [.agg (av p),.v (ii (i:Nat))] [] (.tup [.v (ii (gC p f t f.body.toNat).1),.v (ii (gC p f t f.body.toNat).2)]) []:=by
 have hr:(p.fns.map ax)[i]?=some (ax f):=by rw [bp,hf];rfl
 have dK:(f.params.map fun s=>[GV.v (sv s)]).length=f.params.length:=by simp
 have hE:=Vd p 3 3 3 i f t ⟨0,0,-1⟩ hp fC kr kq lI hf Af hb cU dR;unfold ax at hr;unfold gC;refine ai func68 ntmps68 ?_;refine GW.range (f.params.map fun s=>[GV.v (sv s)]).length (fun k fr Γ=>fr=[U,.v (ii (i:Nat)),.loc 0 0,U,U,U,strs f.params,U,U,U,U,U,U,U,U,U,U,U,strs f.params,.v (ii ((f.params.map fun s=>[GV.v (sv s)]).length:Int)),.v (ii (k:Nat)),U,U,U,U,U,U,U,U,U,U,U,U,U,U,U,U]/\Γ=[.box 28 (av p)]/\∀ j,j < k->qh f.params j=false) ?_ G ?_ ?_ ?_
 ·exact zdZ
 ·exact gO
 ·rintro k _ _ au ⟨rfl,rfl,ba⟩;have kH:=au;rw [dK] at au;obtain ⟨x,hx⟩:∃ x,f.params[k]?=some x:=⟨f.params[k],by simp [au]⟩
  have Ug:(f.params.map fun s=>[GV.v (sv s)])[k]?=some [.v (sv x)]:=by rw [bp,hx];rfl
  have hC:=mG (f.params.take k) x zfQ
  have hd:qh f.params k=(f.params.take k).contains x:=by unfold qh;rw [hx]
  rw [<-hd] at hC;unfold strs at hC;rw [map_take] at hC
  cases ej:qh f.params k with
  | true =>
   rw [ej] at hC
   have XB:w7 f.params=true:=by
    cases h:w7 f.params with
    | true=>rfl
    | false=>rw [Kf.1 h k au] at ej;cases ej
   rw [ae XB];refine I ?_;refine zb2 ?_;exact oF
  | false =>
   rw [ej] at hC;refine I ?_;refine zb2 ?_
   exact ⟨rfl,rfl,_,_,Wk.aJ ar,rfl,rfl,fun j hj=>by
    rcases Nat.lt_succ_iff_lt_or_eq.1 hj with h | rfl
    ·exact ba j h
    ·exact ej⟩
 ·rintro _ _ ⟨rfl,rfl,ba⟩;rw [dK] at ba;rw [ab (by rw [Kf.2 ba];decide)];refine bh ?_;refine GW.wk (Wk.freeze (i:=0) rfl rfl rfl (aX _)) ?_;refine GW.OD (cX:=[U,.v (ii (i:Nat)),.box (av p) 0,U,U,U,U,U,U,U,U,U,U,U,U,U,U,U,U,U,U,U,U,U,U,U,U,U,U,U,U,U,U,U,U,U,U]) (aV:=[.gone]) ar rfl ?_;refine I ?_;refine V [1,3,2] hE ?_;refine aM (ay 0 4 .nil) ?_;refine ak ?_;exact tC
open Go.Xp (Ar)
theorem Gh (p:Src) (kr:p.fns.length<=1099511627776) (kq:p.arrays.length<=1048576) (dR:∀ a∈p.arrays,0<=a.size/\a.size<=2147483648):GF prog 65 [.agg (av p)] [] (.v (.bool (ki p))) []:=by
 have dK:(p.arrays.map bb).length=p.arrays.length:=by simp
 have lV:(p.fns.map ax).length=p.fns.length:=by simp
 have lI:(p.globals.map fun s=>[GV.v (sv s)]).length=p.globals.length:=by simp
 have hC:=wa (lS:=127) (fun x=>decide (x.params.length > 40)) p.fns kr (fun x _=>Nz x);unfold ki;generalize p.fns.any (fun x=>decide (x.params.length > 40))=b4 at *;have hb:=w4 dR;refine ai func65 ntmps65 ?_;refine GW.range (p.arrays.map bb).length (fun k fr Γ=>fr=[U,.loc 0 0,U,.v (ii (eu (p.arrays.take k))),U,U,U,.sl 2 (p.arrays.map bb),.v (ii ((p.arrays.map bb).length:Int)),.v (ii (k:Nat)),U,U,U,U,U,U,U,U,U,U,U,U,U,U,U,U,U,U,U,U,U,U,U,U,U,U,U,U,U,U]/\Γ=[.box 28 (av p)]/\(p.arrays.take k).all (fun a=>!(a.size==0))=true) ?_ G ?_ ?_ ?_
 ·exact jQ
 ·exact gO
 ·rintro k _ _ au ⟨rfl,rfl,ba⟩;rw [dK] at au;obtain ⟨x,hx⟩:∃ x,p.arrays[k]?=some x:=⟨p.arrays[k],by simp [au]⟩
  have hr:(p.arrays.map bb)[k]?=some (bb x):=by rw [bp,hx];rfl
  have bL:=lQ (f:=fun a:Ar=>a.size==0) hx;have jH:=uK hx;have eH:=hb k;have pV:=dR x (br hx);unfold bb at hr
  cases D:(x.size==0) with
  | true =>
   have:p.arrays.any (fun a=>a.size==0)=true:=pG.2 ⟨x,br hx,D⟩;rw [this];exact aw
  | false =>
   rw [jH];generalize eu (p.arrays.take k)=c at *;refine I ?_;exact ⟨rfl,rfl,_,_,(Wk.cut (n:=1) (aX _) rfl).trans (Wk.aJ ar),rfl,rfl,by rw [bL,ba,D];rfl⟩
 ·rintro _ _ ⟨rfl,rfl,ba⟩;rw [dK,di] at ba |-
  have:p.arrays.any (fun a=>a.size==0)=false:=by
   rw [any_eq_false];rw [gP] at ba;intro x hx;simpa using ba x hx
  rw [this];have e1:decide (p.fns.length > 40)=decide ((40:Int) < ((p.fns.map ax).length:Int)):=decide_eq_decide.2 (by rw [lV];omega);have e2:decide (p.globals.length > 29)=decide ((29:Int) < ((p.globals.map fun s=>[GV.v (sv s)]).length:Int)):=decide_eq_decide.2 (by rw [lI];omega);have e3:decide (eu p.arrays > 8000)=decide ((8000:Int) < eu p.arrays):=rfl;rw [e1,e2,e3];generalize eu p.arrays=c at *;refine bh ?_
  cases D:decide ((40:Int) < ((p.fns.map ax).length:Int))
  all_goals cases X:decide ((29:Int) < ((p.globals.map fun s=>[GV.v (sv s)]).length:Int))
  all_goals cases h3:decide ((8000:Int) < c)
  all_goals
   refine I ?_
   first
    | (refine b6 ?_;exact ⟨rfl,rfl⟩)
    | (refine kj [] hC ?_;refine I ?_;refine b6 ?_;exact ⟨rfl,rfl⟩)
open Go.Xp (aD)
theorem Fb (p:Src) (hF:GF prog 62 [.agg (av p)] [] (.v (.bool false)) []):GF prog 26 [.agg (av p)] [] (.tup [.v (ii 20),.v (ii 0)]) []:=by
 refine ai func26 ntmps26 ?_;refine V [] hF ?_;exact oF
theorem CI (p:Src) (l:List T) (ns:List ah) (Df:ns.length<=8388608) (lV:p.fns.length=l.length) (kr:p.fns.length<=1048576)
  (hF:GF prog 62 [.agg (av p)] [] (.v (.bool true)) [])
  (hA:GC prog 63 [.agg (av p)] [] fun g Δ=>∃ a c,g=.v (.slice a ns.length c)/\Δ=[.vech 9 1 (bW ns) (.slice a ns.length c)])
  (hT:GF prog 65 [.agg (av p)] [] (.v (.bool (ki p))) [])
  (hq:∀ i f t,p.fns[i]?=some f->l[i]?=some t->GF prog 68 [.agg (av p),.v (ii (i:Nat))] [] (.tup [.v (ii (gC p f t (aD (l.take i))).1),.v (ii (gC p f t (aD (l.take i))).2)]) []) :
  GF prog 26 [.agg (av p)] []
   (.tup [.v (ii (if eX ns=true then ((21,0):Int × Int) else if ki p=true then (26,0) else if p.fns.any oY=false then (25,0) else gD p p.fns l 0).1),.v (ii (if eX ns=true then ((21,0):Int × Int) else if ki p=true then (26,0) else if p.fns.any oY=false then (25,0) else gD p p.fns l 0).2)]) []:=by
 have dK:(ns.map fun s=>[GV.v (sv s)]).length=ns.length:=by simp
 have pA:(p.fns.map ax).length=p.fns.length:=by simp
 have hM:=wa (lS:=67) oY p.fns G (fun x _=>Ra x);generalize ki p=tm at *;refine ai func26 ntmps26 ?_;refine V [] hF ?_;refine bU [] hA ?_;rintro _ _ ⟨ad,cp,rfl,rfl⟩;refine cV ?_;refine GL.wk (Wk.Bd (t:=14) (i:=1) rfl rfl rfl) ?_;refine GL.wk (Wk.cut (n:=1) (aX _) rfl) ?_;refine GL.wk (Wk.aJ (cX:=[U,.loc 0 0,U,U,U,U,U,U,U,U,U,U,U,U,strs ns,U,U,U,U,U,U,U,U,U,U,U,U,U,U,U,U,U,U,U,U,U,U,U,U,U,U,U,U,U,U,U,U,U,U,U,U,U,U,U,U]) ar) ?_;refine zaS ?_;refine GW.range (ns.map fun s=>[GV.v (sv s)]).length (fun k fr Γ=>fr=[U,.loc 0 0,U,U,strs ns,U,U,U,U,U,U,U,U,U,U,strs ns,.v (ii ((ns.map fun s=>[GV.v (sv s)]).length:Int)),.v (ii (k:Nat)),U,U,U,U,U,U,U,U,U,U,U,U,U,U,U,U,U,U,U,U,U,U,U,U,U,U,U,U,U,U,U,U,U,U,U,U,U]/\Γ=[.box 28 (av p)]/\∀ j,j < k->mC ns j=false) ?_ G ?_ ?_ ?_
 ·exact zdZ
 ·exact gO
 ·rintro k _ _ au ⟨rfl,rfl,ba⟩;have kH:=au;rw [dK] at au;obtain ⟨x,hx⟩:∃ x,ns[k]?=some x:=⟨ns[k],by simp [au]⟩
  have Ug:(ns.map fun s=>[GV.v (sv s)])[k]?=some [.v (sv x)]:=by rw [bp,hx];rfl
  have hR:=PI x;have hC:=mG (ns.take k) x zfQ
  have hd:mC ns k=(ou x || (ns.take k).contains x):=by unfold mC;rw [hx]
  unfold strs at hC;rw [map_take] at hC
  cases D:ou x with
  | true =>
   rw [D] at hR hd
   have zX:eX ns=true:=by
    cases h:eX ns with
    | true=>rfl
    | false=>rw [D3.1 h k au] at hd;simp at hd
   rw [ae zX];refine I ?_;refine V [] hR ?_;exact oF
  | false =>
   rw [D] at hR hd
   cases ej:(ns.take k).contains x with
   | true =>
    rw [ej] at hC hd
    have zX:eX ns=true:=by
     cases h:eX ns with
     | true=>rfl
     | false=>rw [D3.1 h k au] at hd;simp at hd
    rw [ae zX];refine I ?_;refine V [] hR ?_;refine zb2 ?_;exact oF
   | false =>
    rw [ej] at hC hd;refine I ?_;refine V [] hR ?_;refine zb2 ?_
    exact ⟨rfl,rfl,_,_,Wk.aJ ar,rfl,rfl,fun j hj=>by
     rcases Nat.lt_succ_iff_lt_or_eq.1 hj with h | rfl
     ·exact ba j h
     ·exact hd⟩
 ·rintro _ _ ⟨rfl,rfl,ba⟩;rw [dK] at ba;rw [ab (show ¬ eX ns=true by rw [D3.2 ba];decide)];refine bh ?_
  cases tm with
  | true =>
   rw [ae rfl];refine I ?_;refine V [] hT ?_;exact oF
  | false =>
   rw [ab aC]
   cases hmn:p.fns.any oY with
   | false =>
    rw [hmn] at hM;rw [ae rfl];refine I ?_;refine V [] hT ?_;refine V [] hM ?_;exact oF
   | true =>
    rw [hmn] at hM;rw [ab aC];refine I ?_;refine V [] hT ?_;refine V [] hM ?_;refine GW.range (p.fns.map ax).length (fun k fr Γ=>fr=[U,.loc 0 0,U,U,U,U,U,U,U,U,U,U,U,U,U,U,U,U,U,U,U,U,U,U,U,U,U,U,U,U,U,U,U,U,U,U,U,U,U,.sl 3 (p.fns.map ax),.v (ii ((p.fns.map ax).length:Int)),.v (ii (k:Nat)),U,U,U,U,U,U,U,U,U,U,U,U,U]/\Γ=[.box 28 (av p)]/\gD p p.fns l 0=gD p (p.fns.drop k) (l.drop k) (aD (l.take k))) ?_ G ?_ ?_ ?_
    ·exact ⟨_,_,Wk.aJ ar,rfl,rfl,by rw [List.drop_zero,List.drop_zero,List.take_zero,aD]⟩
    ·exact gO
    ·rintro k _ _ au ⟨rfl,rfl,he⟩;rw [pA] at au;obtain ⟨f,hf⟩:∃ f,p.fns[k]?=some f:=⟨p.fns[k],by simp [au]⟩;obtain ⟨t,ht⟩:∃ t,l[k]?=some t:=⟨l[k]'G,ct _⟩;have hQ:=hq k f t hf ht
     have Hy:p.fns.drop k=f::p.fns.drop (k+1):=by rw [oG au];rw [ct au] at hf;rw [DT hf]
     have oP:l.drop k=t::l.drop (k+1):=by rw [oG G];rw [ct G] at ht;rw [DT ht]
     rw [Hy,oP,gD,<-Tc ht] at he
     cases D:((gC p f t (aD (l.take k))).1 != 0) with
     | true =>
      rw [ae zfD] at he;rw [he];generalize gC p f t (aD (l.take k))=r at *;refine I ?_;refine V [] hQ ?_;exact oF
     | false =>
      rw [ab zfD] at he;generalize gC p f t (aD (l.take k))=r at *;refine I ?_;refine V [] hQ ?_;exact ⟨rfl,rfl,_,_,Wk.aJ ar,rfl,rfl,he⟩
    ·rintro _ _ ⟨rfl,rfl,he⟩;rw [pA,drop_length,Hk] at he;rw [he];refine bh ?_;exact tC
theorem O4 (p:Src) (c z:Int) (h:GF prog 26 [.agg (av p)] [] (.tup [.v (ii c),.v (ii z)]) []):GF prog 46 [.agg (av p)] [] (.v (.bool (c==0))) []:=by
 refine ai func46 ntmps46 ?_;exact zba
theorem Vv (p:Src) (fn:Int) (w g:Bool) (kr:p.fns.length<=1048576) (hg:GF prog 46 [.agg (av p)] [] (.v (.bool g)) [])
  (hW:GF prog 57 [.v (ii fn),.v (ii 0),.v (ii (((p.fns.map ax).length:Int) - 1))] [] (.v (.bool w)) []):GF prog 49 [.agg (av p),.v (ii fn)] [] (.v (.bool (w&&g))) []:=by
 have pA:(p.fns.map ax).length=p.fns.length:=by simp
 cases w with
 | false =>
  refine ai func49 ntmps49 ?_;refine V [] hW ?_;exact al
 | true =>
  refine ai func49 ntmps49 ?_;refine V [] hW ?_;refine V [] hg ?_;exact al
end Go.Xg
set_option maxHeartbeats 2000000
namespace Go.Xg
open Go.RowKit Go.Xw Go.Proofs Tryz Go.Im
open GV (U)
open Go.Xp (Ar)
open Go.Sp (Src)
attribute [local irreducible] GW GL GO YG GC GA bg bj
def cC (p:Src) (h:Value) (c:SS):List GV:=[strs p.globals,.sl 2 (p.arrays.map bb),.sl 3 (p.fns.map ax),.sl 5 (p.nodes.map aW),.v h,.v (ii c.code),.v (ii c.at_)]
theorem jK (p:Src) (h:Value) (c:SS) (k z:Int):GF prog 232 [.loc 0 0,.v (ii k),.v (ii z)] [.box 160 (cC p h c)] (.tup []) [.box 160 (cC p h (c.fail k z))]:=by
 unfold SS.fail
 cases hc:(c.code==0) with
 | true =>
  rw [ae zfN];unfold cC;refine ai func232 ntmps232 ?_;exact iJ
 | false =>
  rw [ab zfN];unfold cC;refine ai func232 ntmps232 ?_;exact iJ
theorem MU (s:ah):GF prog 231 [.v (sv s)] [] (.v (.bool (ou s))) []:=by
 unfold ou re si kK
 cases D:(s==[103,101,116])
 all_goals cases X:(s==[112,117,116])
 all_goals
  refine ai func231 ntmps231 ?_;exact al
theorem Dt (p:Src) (s:ah) (hn:p.arrays.length<=1099511627776):GF prog 233 [.agg (av p),.v (sv s)] [] (.v (ii (cx (fun x:Ar=>x.name==s) p.arrays))) []:=by
 have dK:(p.arrays.map bb).length=p.arrays.length:=by simp
 refine ai func233 ntmps233 ?_;refine GW.range (p.arrays.map bb).length (fun k fr Γ=>fr=[U,.v (sv s),.loc 0 0,U,U,U,U,U,.sl 2 (p.arrays.map bb),.v (ii ((p.arrays.map bb).length:Int)),.v (ii (k:Nat)),U,U,U,U,U,U,U,U,U,U]/\Γ=[.box 28 (av p)]/\(p.arrays.take k).all (fun y=>!(y.name==s))=true) ?_ G ?_ ?_ ?_
 ·exact jQ
 ·exact gO
 ·rintro k _ _ au ⟨rfl,rfl,ba⟩;rw [dK] at au;obtain ⟨x,cS⟩:∃ x,p.arrays[k]?=some x:=⟨p.arrays[k],by simp [au]⟩
  have hr:(p.arrays.map bb)[k]?=some (bb x):=by rw [bp,cS];rfl
  have bL:=lQ (f:=fun y:Ar=>y.name==s) cS
  have hit:=fun h0=>lD (f:=fun y:Ar=>y.name==s) cS h0 ba
  unfold bb at hr
  cases hb:(x.name==s) with
  | true =>
   rw [hit hb];exact aw
  | false =>
   exact zcB
 ·rintro _ _ ⟨rfl,rfl,ba⟩;exact zaV
theorem En (p:Src) (s:ah) (hn:p.fns.length<=1099511627776):GF prog 176 [.agg (av p),.v (sv s)] [] (.v (ii (cx (fun x:Go.Sp.Fn=>x.name==s) p.fns))) []:=by
 have dK:(p.fns.map ax).length=p.fns.length:=by simp
 refine ai func176 ntmps176 ?_;refine GW.range (p.fns.map ax).length (fun k fr Γ=>fr=[U,.v (sv s),.loc 0 0,U,U,U,U,U,.sl 3 (p.fns.map ax),.v (ii ((p.fns.map ax).length:Int)),.v (ii (k:Nat)),U,U,U,U,U,U,U,U,U,U]/\Γ=[.box 28 (av p)]/\(p.fns.take k).all (fun y=>!(y.name==s))=true) ?_ G ?_ ?_ ?_
 ·exact jQ
 ·exact gO
 ·rintro k _ _ au ⟨rfl,rfl,ba⟩;rw [dK] at au;obtain ⟨x,cS⟩:∃ x,p.fns[k]?=some x:=⟨p.fns[k],by simp [au]⟩
  have hr:(p.fns.map ax)[k]?=some (ax x):=by rw [bp,cS];rfl
  have bL:=lQ (f:=fun y:Go.Sp.Fn=>y.name==s) cS
  have hit:=fun h0=>lD (f:=fun y:Go.Sp.Fn=>y.name==s) cS h0 ba
  unfold ax at hr
  cases hb:(x.name==s) with
  | true =>
   rw [hit hb];exact aw
  | false =>
   exact zcB
 ·rintro _ _ ⟨rfl,rfl,ba⟩;exact zaV
theorem Ct (l:List Int) (n:Int) (hn:l.length<=1099511627776):GF prog 55 [ints l,.v (ii n)] [] (.v (.bool (l.contains n))) []:=by
 have dK:(l.map fun i=>[GV.v (ii i)]).length=l.length:=by simp
 refine ai func55 ntmps55 ?_;refine GW.range (l.map fun i=>[GV.v (ii i)]).length (fun k fr Γ=>fr=[ints l,.v (ii n),U,U,U,U,U,ints l,.v (ii ((l.map fun i=>[GV.v (ii i)]).length:Int)),.v (ii (k:Nat)),U,U,U,U,U,U,U]/\Γ=[]/\(l.take k).contains n=false) ?_ G ?_ ?_ ?_
 ·exact jQ
 ·exact gO
 ·rintro k _ _ au ⟨rfl,rfl,hc⟩;rw [dK] at au;obtain ⟨x,cS⟩:∃ x,l[k]?=some x:=⟨l[k],by simp [au]⟩;have hr:=qm cS
  have bL:(l.take (k+1)).contains n=((l.take k).contains n || (x==n)):=by
   rw [dh,cS,List.contains_append];show (_ || [x].contains n)=_
   congr 1
   exact zbV
  have hm:=br cS
  cases hb:(x==n) with
  | true =>
   have h3:x=n:=by simpa using hb
   rw [show l.contains n=true by rw [<-h3];exact dz.2 hm];exact aw
  | false =>
   refine I ?_;exact ⟨rfl,rfl,_,_,Wk.aJ ar,rfl,rfl,by rw [bL,hc,hb];rfl⟩
 ·rintro _ _ ⟨rfl,rfl,hc⟩;rw [dK,di] at hc;rw [hc];exact aw
end Go.Xg
set_option maxHeartbeats 4000000
namespace Go.Im
open Go.Xp Go.Sp
def zI (l:List ah) (k:Nat):Bool:=(List.range k).any (qh l)
theorem Ft (l:List ah) (k:Nat):zI l (k+1)=(zI l k || qh l k):=by
 unfold zI;rw [List.range_succ,any_append];simp
def mz (f:Go.Sp.Fn) (c:SS) (k:Nat):SS:=⟨f.params.take k,if zI f.params k=true then im c.code 21 else c.code,if zI f.params k=true/\c.code=0 then 0 else c.at_⟩
theorem SP {f:Go.Sp.Fn} {c:SS} {k:Nat} (h:qh f.params k=true):(mz f c (k+1)).code=((mz f c k).fail 21 0).code/\(mz f c (k+1)).at_=((mz f c k).fail 21 0).at_:=by
 unfold mz SS.fail;simp only [Ft,h,Bool.or_true,true_and,if_true];unfold im
 cases zI f.params k <;> by_cases h0:c.code=0 <;> simp [h0]
theorem Qn {f:Go.Sp.Fn} {c:SS} {k:Nat} (h:qh f.params k=false):(mz f c (k+1)).code=(mz f c k).code/\(mz f c (k+1)).at_=(mz f c k).at_:=by
 unfold mz;simp only [Ft,h,Bool.or_false,and_self]
end Go.Im
namespace Go.Xg
open Go.RowKit Go.Xw Go.Proofs Tryz Go.Im
open GV (U)
open Go.Sp (Src)
attribute [local irreducible] GW GL GO YG GC GA bg bj
theorem JB (p:Src) (h0:Value) (c:SS) (f:Go.Sp.Fn) (Af:f.params.length<=1048576) :
  GC prog 174 [.loc 0 0,.agg (ax f)] [.box 160 (cC p h0 c)] fun g Δ=>g=.tup []/\∃ ad cp,Δ=[.box 160 (cC p (.slice ad f.params.length cp) (sk f c)),.vech 9 1 (bW f.params) (.slice ad f.params.length cp)]:=by
 have dK:(f.params.map fun s=>[GV.v (sv s)]).length=f.params.length:=by simp
 have rm:sk f c=⟨f.params,(mz f c f.params.length).code,(mz f c f.params.length).at_⟩:=by
  unfold sk mz zI w7;rfl
 rw [rm]
 have r7:(mz f c 0).code=c.code/\(mz f c 0).at_=c.at_:=by unfold mz zI;simp
 rw [show cC p h0 c=cC p h0 (mz f c 0) by unfold cC;rw [r7.1,r7.2]];unfold cC ax;refine ei func174 ntmps174 ?_;refine GW.wk (Wk.ln 9 1) ?_;simp only [cons_append,nil_append];refine I ?_;refine GW.range (f.params.map fun s=>[GV.v (sv s)]).length (fun k fr Γ=>∃ ad cp R n B,fr=[.loc 0 0,U,U,.loc 2 0,U,U,U,U,U,U,strs f.params,.v (ii ((f.params.map fun s=>[GV.v (sv s)]).length:Int)),.v (ii (k:Nat)),U,U,U,U,U,U,U,U,U,U,U,U,U,U,U,U,U,U,U,U,U,U]/\Γ=[.box 160 (cC p (.slice ad n cp) (mz f c k)),.vech 9 1 R (.slice ad n cp),B]/\R.length=n/\R=bW (f.params.take k)) ?_ G ?_ ?_ ?_
 ·exact ⟨_,_,Wk.aJ ar,none,0,[],0,_,rfl,rfl,rfl,by simp [bW]⟩
 ·rintro k _ _ ⟨ad,cp,R,n,B,rfl,rfl,_⟩;exact ea
 ·rintro k _ _ au ⟨ad,cp,R,n,B,rfl,rfl,lT,hR⟩;rw [dK] at au;obtain ⟨x,hx⟩:∃ x,f.params[k]?=some x:=⟨f.params[k],by simp [au]⟩
  have Ug:(f.params.map fun s=>[GV.v (sv s)])[k]?=some [.v (sv x)]:=by rw [bp,hx];rfl
  have bL:bW (f.params.take (k+1))=R++[[.v (sv x)]]:=by rw [dh,hx,hR];simp [bW]
  have wz:n<=1048576:=by rw [<-lT,hR,yc,gy];omega
  have hL:GF prog 197 [.sl 1 R,.v (sv x)] [] (.v (.bool ((f.params.take k).contains x))) []:=by
   rw [hR];exact ll (f.params.take k) x zfQ
  have hd:qh f.params k=(f.params.take k).contains x:=by unfold qh;rw [hx]
  rw [<-hd] at hL;have jo:=jK p (.slice ad n cp) (mz f c k) 21 0;clear hR
  cases hb:qh f.params k with
  | true =>
   rw [hb] at hL;obtain ⟨e1,e2⟩:=SP (c:=c) hb;unfold cC at jo |-;rw [e1,e2];generalize (mz f c k).fail 21 0=s1 at *;generalize mz f c k=s0 at *;refine I ?_;refine GL.borrow hL (fun B K β w l hI hF=>jG (A:=[_]) (C:=[_]) hI hF rfl rfl) ?_;refine zaS ?_;refine V [0] jo ?_;refine GL.hO 1 rfl rfl rfl rfl rfl rfl rfl rfl az kO ?_;intro vd vh;exact zdb
  | false =>
   rw [hb] at hL;obtain ⟨e1,e2⟩:=Qn (c:=c) hb;unfold cC at jo |-;rw [e1,e2];generalize mz f c k=s0 at *;refine I ?_;refine GL.borrow hL (fun B K β w l hI hF=>jG (A:=[_]) (C:=[_]) hI hF rfl rfl) ?_;refine cM ?_;refine zah ?_;intro vd vh;exact zdb
 ·rintro _ _ ⟨ad,cp,R,n,B,rfl,rfl,lT,hR⟩;rw [dK] at hR |-;rw [di] at hR
  have sH:n=f.params.length:=by rw [<-lT,hR,yc]
  subst sH;refine zdm ?_;exact W5 (n:=2) rfl dO (dP rfl) rfl ⟨rfl,ad,cp,by rw [hR];rfl⟩
open Go.Xp (Nd T)
def cO (p:Src) (c:SS) (ls:List ah) (ad:Option Addr) (cp:Nat):List Ob:=[.box 160 (cC p (.slice ad ls.length cp) c),.vech 9 1 (bW ls) (.slice ad ls.length cp)]
theorem Jz (p:Src) (c:SS) (n:Nd) (l:List T) (ad:Option Addr) (cp:Nat) (D:(n.s==[103,101,116])=true) (hl:l.length<=1099511627776) :
  GF prog 234 [.loc 0 0,.agg (cT (.mk n l))] (cO p c c.ls ad cp) (.v (.bool true)) (cO p (fy c n l.length 0) c.ls ad cp):=by
 have fB:(bd l).length=l.length:=be l;unfold cO;unfold fy;show GF _ _ _ _ (.v (.bool true)) [.box _ (cC p _ (if l.length≠0 then _ else _)),_];have jo:=jK p (.slice ad c.ls.length cp) c 23 n.at_;unfold cC at jo |-
 cases hk:(((bd l).length:Int) != ((0:Nat):Int)) with
 | true =>
  rw [ae (show l.length≠0 by rw [fB,bne_iff_ne] at hk;omega)];exact zdR
 | false =>
  rw [ab (show ¬ l.length≠0 by rw [fB,bne_eq_false_iff_eq] at hk;omega)];refine ai func234 ntmps234 ?_;exact al
theorem JA (p:Src) (c:SS) (n:Nd) (l:List T) (ad:Option Addr) (cp:Nat) (D:(n.s==[103,101,116])=false) (X:(n.s==[112,117,116])=true) (hl:l.length<=1099511627776) :
  GF prog 234 [.loc 0 0,.agg (cT (.mk n l))] (cO p c c.ls ad cp) (.v (.bool true)) (cO p (fy c n l.length 1) c.ls ad cp):=by
 have fB:(bd l).length=l.length:=be l;unfold cO;unfold fy;show GF _ _ _ _ (.v (.bool true)) [.box _ (cC p _ (if l.length≠1 then _ else _)),_];have jo:=jK p (.slice ad c.ls.length cp) c 23 n.at_;unfold cC at jo |-
 cases hk:(((bd l).length:Int) != ((1:Nat):Int)) with
 | true =>
  rw [ae (show l.length≠1 by rw [fB,bne_iff_ne] at hk;omega)];exact zdR
 | false =>
  rw [ab (show ¬ l.length≠1 by rw [fB,bne_eq_false_iff_eq] at hk;omega)];refine ai func234 ntmps234 ?_;exact al
theorem MR (p:Src) (c:SS) (n:Nd) (l:List T) (ad:Option Addr) (cp:Nat) (D:(n.s==[103,101,116])=false) (X:(n.s==[112,117,116])=false) (h3:(n.s==[115,105,122,101])=false) (hl:l.length<=1099511627776)
  (hF:GF prog 176 [.agg (av p),.v (sv n.s)] [] (.v (ii (-1))) []) :
  GF prog 234 [.loc 0 0,.agg (cT (.mk n l))] (cO p c c.ls ad cp) (.v (.bool false)) (cO p (c.fail 22 n.at_) c.ls ad cp):=by
 have jo:=jK p (.slice ad c.ls.length cp) c 22 n.at_
 have hd:decide ((-1:Int) < 0)=true:=by decide
 unfold cO;unfold cC at jo |-;generalize c.fail 22 n.at_=c1 at *;exact zbU
theorem MQ (p:Src) (c:SS) (n:Nd) (l:List T) (i:Nat) (f:Go.Sp.Fn) (ad:Option Addr) (cp:Nat) (D:(n.s==[103,101,116])=false) (X:(n.s==[112,117,116])=false) (h3:(n.s==[115,105,122,101])=false) (hl:l.length<=1099511627776)
  (hf:p.fns[i]?=some f) (hF:GF prog 176 [.agg (av p),.v (sv n.s)] [] (.v (ii ((i:Nat):Int))) []) :
  GF prog 234 [.loc 0 0,.agg (cT (.mk n l))] (cO p c c.ls ad cp) (.v (.bool true)) (cO p (fy c n l.length f.params.length) c.ls ad cp):=by
 have fB:(bd l).length=l.length:=be l
 have hd:decide (((i:Nat):Int) < 0)=false:=by simp
 have hr:(p.fns.map ax)[i]?=some (ax f):=by rw [bp,hf];rfl
 have c8:(f.params.map fun s=>[GV.v (sv s)]).length=f.params.length:=by simp
 unfold ax at hr;rw [<-c8];unfold cO;unfold fy;show GF _ _ _ _ (.v (.bool true)) [.box _ (cC p _ (if l.length≠(f.params.map fun s=>[GV.v (sv s)]).length then _ else _)),_];have jo:=jK p (.slice ad c.ls.length cp) c 23 n.at_;unfold cC at jo |-
 cases hk:(((bd l).length:Int) != (((f.params.map fun s=>[GV.v (sv s)]).length:Nat):Int)) with
 | true =>
  rw [ae (show l.length≠(f.params.map fun s=>[GV.v (sv s)]).length by rw [fB,bne_iff_ne] at hk;omega)];generalize c.fail 23 n.at_=c1 at *;exact zbU
 | false =>
  rw [ab (show ¬ l.length≠(f.params.map fun s=>[GV.v (sv s)]).length by rw [fB,bne_eq_false_iff_eq] at hk;omega)];refine ai func234 ntmps234 ?_;refine aM (ay 0 7 (.a 7 (.q 8 .nil))) ?_;refine ak ?_;refine aB [] hF ?_;exact aw
open Go.Xp (Ar)
theorem Gm (p:Src) (c:SS) (n:Nd) (u:T) (ad:Option Addr) (cp:Nat) (D:(n.s==[103,101,116])=false) (X:(n.s==[112,117,116])=false) (h3:(n.s==[115,105,122,101])=true) (kq:p.arrays.length<=1099511627776) (oS:c.ls.length<=1099511627776) :
  GF prog 234 [.loc 0 0,.agg (cT (.mk n [u]))] (cO p c c.ls ad cp) (.v (.bool false)) (cO p (if iM p u.n c.ls=true then c.fail 24 n.at_ else c) c.ls ad cp):=by
 have vy:(bd [u])[0]?=some (cT u):=dB rfl;have hA:=Dt p u.n.s kq;have hL:=ll c.ls u.n.s oS;have jo:=jK p (.slice ad c.ls.length cp) c 24 n.at_;rw [show iM p u.n c.ls=((u.n.kind != 2 || decide (cx (fun x:Ar=>x.name==u.n.s) p.arrays < 0)) || c.ls.contains u.n.s) from rfl];generalize cx (fun x:Ar=>x.name==u.n.s) p.arrays=z at *;unfold cO;unfold cC at jo |-
 cases h4:(u.n.kind != 2) with
 | true =>
  rw [ae zgq];generalize c.fail 24 n.at_=c1 at *;refine ai func234 ntmps234 ?_;refine za6 ?_;refine ak ?_;refine bq ?_;exact zcR
 | false =>
  cases h5:decide (z < 0) with
  | true =>
   rw [ae zgq];generalize c.fail 24 n.at_=c1 at *;refine ai func234 ntmps234 ?_;refine za6 ?_;refine ak ?_;refine bV [] hA ?_;refine bq ?_;exact zcR
  | false =>
   generalize c.ls.contains u.n.s=b at *
   cases b with
   | true =>
    rw [ae zgq];generalize c.fail 24 n.at_=c1 at *;refine ai func234 ntmps234 ?_;refine za6 ?_;refine ak ?_;refine bV [] hA ?_;refine NS rfl rfl rfl zf9 (GL.borrow hL (fun B K β w l hI hF=>jG (A:=[_]) (C:=[_]) hI hF rfl rfl) ?_);refine zbI ?_;exact zcR
   | false =>
    rw [ab aC];refine ai func234 ntmps234 ?_;refine za6 ?_;refine ak ?_;refine bV [] hA ?_;refine NS rfl rfl rfl zf9 (GL.borrow hL (fun B K β w l hI hF=>jG (A:=[_]) (C:=[_]) hI hF rfl rfl) ?_);refine dM ?_;exact zbJ
theorem Gn (p:Src) (c:SS) (n:Nd) (l:List T) (ad:Option Addr) (cp:Nat) (D:(n.s==[103,101,116])=false) (X:(n.s==[112,117,116])=false) (h3:(n.s==[115,105,122,101])=true) (hl:l.length≠1) :
  GF prog 234 [.loc 0 0,.agg (cT (.mk n l))] (cO p c c.ls ad cp) (.v (.bool false)) (cO p (c.fail 23 n.at_) c.ls ad cp):=by
 have jo:=jK p (.slice ad c.ls.length cp) c 23 n.at_;have fB:(bd l).length=l.length:=be l
 have g1:(((bd l).length:Int)==1)=false:=by rw [fB,beq_eq_false_iff_ne];omega
 have g2:(((bd l).length:Int) != 1)=true:=by rw [fB,bne_iff_ne];omega
 unfold cO;unfold cC at jo |-;generalize c.fail 23 n.at_=c1 at *;refine ai func234 ntmps234 ?_;refine za6 ?_;refine bq ?_;exact zcR
theorem PR (p:Src) (c:SS) (t:T) (ad:Option Addr) (cp:Nat) (kq:p.arrays.length<=1099511627776) (kr:p.fns.length<=1099511627776) (oS:c.ls.length<=1099511627776) (hl:t.kids.length<=1099511627776) :
  GF prog 234 [.loc 0 0,.agg (cT t)] (cO p c c.ls ad cp) (.v (.bool (gI p c t).2)) (cO p (gI p c t).1 c.ls ad cp):=by
 cases t with
 | mk n l =>
 have hl:l.length<=1099511627776:=hl
 cases D:(n.s==[103,101,116]) with
 | true =>
  have e:gI p c (.mk n l)=(fy c n l.length 0,true):=by
   unfold gI re;exact ae (show n.s=_ by simpa using D)
  rw [e];exact Jz p c n l ad cp D hl
 | false =>
  have n1:¬ n.s=[103,101,116]:=by simpa using D
  cases X:(n.s==[112,117,116]) with
  | true =>
   have e:gI p c (.mk n l)=(fy c n l.length 1,true):=by
    unfold gI re si;rw [ab (show ¬ (T.mk n l).n.s=_ from n1)];exact ae (show n.s=_ by simpa using X)
   rw [e];exact JA p c n l ad cp D X hl
  | false =>
   have n2:¬ n.s=[112,117,116]:=by simpa using X
   cases h3:(n.s==[115,105,122,101]) with
   | true =>
    have e:gI p c (.mk n l)=(fy (if l.length=1/\iM p (pX (.mk n l)) c.ls=true then c.fail 24 n.at_ else c) n l.length 1,false):=by
     unfold gI re si kK;rw [ab (show ¬ (T.mk n l).n.s=_ from n1),ab (show ¬ (T.mk n l).n.s=_ from n2)];exact ae (show n.s=_ by simpa using h3)
    rw [e]
    by_cases hk:l.length=1
    ·obtain ⟨u,rfl⟩:∃ u,l=[u]:=by
      match l,hk with
      | [u],_=>exact ⟨u,rfl⟩
     have e2:fy (if [u].length=1/\iM p (pX (.mk n [u])) c.ls=true then c.fail 24 n.at_ else c) n [u].length 1=(if iM p u.n c.ls=true then c.fail 24 n.at_ else c):=by
      unfold fy;rw [ab zfu];show (if _/\iM p u.n c.ls=true then _ else _)=_
      by_cases hb:iM p u.n c.ls=true
      ·rw [ae hb];exact ae ⟨rfl,hb⟩
      ·rw [ab hb];exact ab fun h=>hb h.2
     rw [e2];exact Gm p c n u ad cp D X h3 kq oS
    ·have e2:fy (if l.length=1/\iM p (pX (.mk n l)) c.ls=true then c.fail 24 n.at_ else c) n l.length 1=c.fail 23 n.at_:=by
      rw [ab fun h=>hk h.1];unfold fy;exact ae hk
     rw [e2];exact Gn p c n l ad cp D X h3 hk
   | false =>
    have n3:¬ n.s=[115,105,122,101]:=by simpa using h3
    have hF:=En p n.s kr;unfold cx at hF
    cases hx:p.fns.findIdx? (fun f:Go.Sp.Fn=>f.name==n.s) with
    | none =>
     rw [hx] at hF
     have e:gI p c (.mk n l)=(c.fail 22 n.at_,false):=by
      refine zbf ?_;rfl
     rw [e];exact MR p c n l ad cp D X h3 hl hF
    | some i =>
     rw [hx] at hF;have hi:i < p.fns.length:=(List.findIdx?_eq_some_iff_getElem.1 hx).1;obtain ⟨f,hf⟩:∃ f,p.fns[i]?=some f:=⟨p.fns[i],by simp [hi]⟩
     have e:gI p c (.mk n l)=(fy c n l.length f.params.length,true):=by
      refine zbf ?_;show (fy c n l.length (nR p i),true)=_;unfold nR;rw [hf]
     rw [e];exact MQ p c n l i f ad cp D X h3 hl hf hF
end Go.Xg
namespace Go.Im
open Go.Xp Go.Sp
theorem FY (p:Src) (u:T):∀ (l:List T) (c:SS),jO p (l++[u]) c=pE p u (jO p l c)
 | [],c=>by rw [nil_append,jO,jO,jO]
 | t::l,c=>by rw [cons_append,jO,jO,FY p u l]
theorem Qc (p:Src) {l:List T} {k:Nat} {u:T} (h:l[k]?=some u) (c:SS):jO p (l.take (k+1)) c=pE p u (jO p (l.take k) c):=by
 rw [dh,h];exact FY p u _ c
theorem Th (c:SS) (n:Nd):(n5 c n).ls.length<=c.ls.length+1:=by
 unfold n5;split
 ·omega
 split
 ·simp [SS.qi]
 split
 ·simp [SS.qi]
 ·simp
mutual
theorem VM (p:Src):∀ (t:T) (c:SS),(pE p t c).ls.length<=c.ls.length+bc t
 | .mk n l,c=>by
  rw [pE,bc];refine jg (Th _ _) ?_;split
  ·have:=yS p l (lp p c (.mk n l)).1;rw [xY] at this;omega
  ·rw [xY];omega
theorem yS (p:Src):∀ (l:List T) (c:SS),(jO p l c).ls.length<=c.ls.length+aD l
 | [],c=>by rw [jO,aD];omega
 | t::r,c=>by
  rw [jO,aD];have D:=yS p r (pE p t c);have X:=VM p t c;omega
end
theorem Vi (k e:Int) (he:e≠0):im (im k e) e=im k e:=by unfold im;by_cases h:k=0 <;> simp [h,he]
theorem RJ (p:Src) (l:List T) (c:SS):pO p [] l c=c:=by unfold pO;rfl
end Go.Im
namespace Go.Xg
open Go.RowKit Go.Xw Go.Proofs Tryz Go.Im
open GV (U)
open Go.Xp (Nd T Ar bc aD iu)
open Go.Sp (Src)
attribute [local irreducible] GW GL GO YG GC GA bg bj
theorem PT (p:Src) (kq:p.arrays.length<=1099511627776) (kr:p.fns.length<=1099511627776) (lI:p.globals.length<=1099511627776):∀ (N:Nat) (t:T),bc t<=N->∀ (c:SS) (ad:Option Addr) (cp:Nat),c.ls.length+bc t<=8388608 ->
  GC prog 175 [.loc 0 0,.agg (cT t)] (cO p c c.ls ad cp) fun g Δ=>g=.tup []/\∃ sB sD,Δ=cO p (pE p t c) (pE p t c).ls sB sD:=by
 intro N
 induction N with
 | zero=>intro t h;exact zeB
 | succ N ih =>
 intro t hN c ad cp oS
 cases t with
 | mk n l =>
 rw [Go.Xp.bc] at hN oS;have qx:=iu l;have fB:(bd l).length=l.length:=be l;rw [pE];have c8:=xY p c (.mk n l);have hL:=ll c.ls n.s G;have hG:=ll p.globals n.s lI;have hA:=Dt p n.s kq;have hC:=PR p c (.mk n l) ad cp kq kr G (by show l.length<=_;omega);have TL:=jK p (.slice ad c.ls.length cp) c 22 n.at_;have KA:=jK p (.slice ad c.ls.length cp) c 24 n.at_
 have he:lp p c (.mk n l)=(if n.kind=2\/n.kind=7 then (if c.ls.contains n.s=false/\p.globals.contains n.s=false then c.fail 22 n.at_ else c,true)
  else if n.kind=3\/n.kind=8 then (if c.ls.contains n.s=true\/cx (fun x:Ar=>x.name==n.s) p.arrays < 0 then c.fail 24 n.at_ else c,true)
  else if n.kind=4 then gI p c (.mk n l) else (c,true)):=rfl
 obtain ⟨P,hP⟩:∃ P,lp p c (.mk n l)=P:=⟨_,rfl⟩;rw [hP] at he c8 |-;unfold cO at hC |-;unfold cC at hC TL KA |-;refine ai func175 ntmps175 ?_;refine aM (ay 0 6 (.a 6 (.q 7 .nil))) ?_;refine ak ?_;refine OA rfl rfl (GL.borrow hL (fun B K β w l hI hF=>jG (A:=[_]) (C:=[_,_]) hI hF rfl rfl) ?_);refine dM ?_;refine ak ?_;refine LU ?_;refine GW.join (fun fr Γ=>fr=[.loc 0 0,U,U,.loc 2 0,.loc 3 0,U,.v (.bool P.2),U,U,U,U,U,U,U,U,U,U,U,U,U,U,U,U,U,U,U,U,U,U,U,U,U,U,U,U,U,U,U,U,U,U,U,U,U,U,U,U,U,U,U,U,U,U,U,U,U,U,U,U,U,U,U,U,U,U,U,U,U,U,U,U,U,U,U,U,U,U,U,U,U,U,U,U,U,U,U,U,U,U,U,U,U,U,U,U,U,U,U,U,U,U,U,U,U,U,U,U,U,U,U]/\Γ=[.box 160 (cC p (.slice ad c.ls.length cp) P.1),.vech 9 1 (bW c.ls) (.slice ad c.ls.length cp),.box 86 (cT (.mk n l)),.box 78 (aW n)]) ?_ ?_
 ·obtain ⟨kd,at_,nn,s,ks⟩:=n;simp only at *;unfold cC;generalize gI p c (.mk ⟨kd,at_,nn,s,ks⟩ l)=cs at *;generalize cx (fun x:Ar=>x.name==s) p.arrays=z at *;generalize c.ls.contains s=b at *;generalize p.globals.contains s=g at *;generalize c.fail 22 at_=c22 at *;generalize c.fail 24 at_=c24 at *
  by_cases X:kd=2
  ·subst X
   have q2:((2:Int)==2)=true:=by decide
   rw [ae aC] at he;subst he
   cases b with
   | true =>
    refine zaW ?_;refine bq ?_;exact jP
   | false =>
    cases g with
    | true =>
     refine zaW ?_;refine ak ?_;refine bV [] hG ?_;exact jd
    | false =>
     exact zdj
  by_cases h7:kd=7
  ·subst h7
   have q2:((7:Int)==2)=false:=by decide
   have q7:((7:Int)==7)=true:=by decide
   rw [ae aC] at he;subst he
   cases b with
   | true =>
    refine zaW ?_;refine bq ?_;exact jP
   | false =>
    cases g with
    | true =>
     refine zaW ?_;refine ak ?_;refine bV [] hG ?_;exact jd
    | false =>
     exact zdj
  rw [ab (by rintro (h | h);(· exact X h);exact h7 h)] at he
  by_cases h3:kd=3
  ·subst h3
   have q2:((3:Int)==2)=false:=by decide
   have q7:((3:Int)==7)=false:=by decide
   have q3:((3:Int)==3)=true:=by decide
   rw [ae aC] at he
   cases b with
   | true =>
    exact zcw
   | false =>
    cases hz:decide (z < 0) with
    | true =>
     exact zcM
    | false =>
     exact zcQ
  by_cases h8:kd=8
  ·subst h8
   have q2:((8:Int)==2)=false:=by decide
   have q7:((8:Int)==7)=false:=by decide
   have q3:((8:Int)==3)=false:=by decide
   have q8:((8:Int)==8)=true:=by decide
   rw [ae aC] at he
   cases b with
   | true =>
    exact zcw
   | false =>
    cases hz:decide (z < 0) with
    | true =>
     exact zcM
    | false =>
     exact zcQ
  rw [ab (by rintro (h | h);(· exact h3 h);exact h8 h)] at he
  by_cases h4:kd=4
  ·subst h4
   have q2:((4:Int)==2)=false:=by decide
   have q7:((4:Int)==7)=false:=by decide
   have q3:((4:Int)==3)=false:=by decide
   have q8:((4:Int)==8)=false:=by decide
   have q4:((4:Int)==4)=true:=by decide
   rw [ae rfl] at he;subst he;refine I ?_;refine V [0,1] hC ?_;exact jP
  rw [ab h4] at he;subst he
  have q2:(kd==2)=false:=by simpa using X
  have q7:(kd==7)=false:=by simpa using h7
  have q3:(kd==3)=false:=by simpa using h3
  have q8:(kd==8)=false:=by simpa using h8
  have q4:(kd==4)=false:=by simpa using h4
  exact jd
 ·rintro _ _ ⟨rfl,rfl⟩;clear he hC TL KA;obtain ⟨c1,d⟩:=P;simp only at c8 |-;rw [<-c8] at oS;rw [show cC p (.slice ad c.ls.length cp) c1=cC p (.slice ad c1.ls.length cp) c1 by rw [c8],<-c8];clear hL;refine I ?_;refine GW.range (bd l).length (fun k fr Γ=>∃ ad cp c2,fr=[.loc 0 0,U,U,.loc 2 0,.loc 3 0,U,.v (.bool d),U,U,U,U,U,U,U,U,U,U,U,U,U,U,U,U,U,U,U,U,U,U,U,U,U,U,U,U,U,U,U,U,U,U,U,U,U,U,U,U,U,U,U,U,U,U,U,U,U,U,U,U,U,U,U,U,U,.sl 6 (bd l),.v (ii ((bd l).length:Int)),.v (ii (k:Nat)),U,U,U,U,U,U,U,U,U,U,U,U,U,U,U,U,U,U,U,U,U,U,U,U,U,U,U,U,U,U,U,U,U,U,U,U,U,U,U,U,U,U,U]/\Γ=[.box 160 (cC p (.slice ad c2.ls.length cp) c2),.vech 9 1 (bW c2.ls) (.slice ad c2.ls.length cp),.box 86 (cT (.mk n l)),.box 78 (aW n)]/\c2=(if d=true then jO p (l.take k) c1 else c1)) ?_ G ?_ ?_ ?_
  ·exact ⟨_,_,Wk.aJ ar,ad,cp,c1,rfl,rfl,by cases d <;> simp [jO]⟩
  ·rintro k _ _ ⟨ad,cp,c2,rfl,rfl,_⟩;exact ea
  ·rintro k _ _ au ⟨ad,cp,c2,rfl,rfl,ly⟩;rw [fB] at au;obtain ⟨u,hu⟩:∃ u,l[k]?=some u:=⟨l[k],by simp [au]⟩;have hr:=dB hu;have dR:=tz hu
   cases d with
   | false =>
    refine I ?_;exact ⟨rfl,rfl,_,_,(Wk.cut (n:=4) (dP rfl) rfl).trans (Wk.aJ ar),ad,cp,c2,rfl,rfl,ly⟩
   | true =>
    rw [ae rfl] at ly;have hlen:=yS p (l.take k) c1;rw [<-ly] at hlen;have hi:=ih u G c2 ad cp G;unfold cO at hi;rw [ae rfl,Qc p hu,<-ly];refine I ?_;refine bU [0,1] hi ?_;rintro _ _ ⟨rfl,sB,sD,rfl⟩;refine zaC ?_;exact ⟨rfl,rfl,_,_,(Wk.cut (n:=4) (dP rfl) rfl).trans (Wk.aJ ar),sB,sD,_,rfl,rfl,rfl⟩
  ·rintro _ _ ⟨ad,cp,c2,rfl,rfl,ly⟩;rw [fB,di] at ly;rw [<-ly]
   have hlen:c2.ls.length<=8388608:=by
    rw [ly];split
    ·have:=yS p l c1;omega
    ·omega
   clear ly ih;refine bh ?_;have hL:=ll c2.ls n.s G;have BJ:=yc c2.ls;have Kz:=jK p (.slice ad c2.ls.length cp) c2 21 n.at_;have h26:=jK p (.slice ad c2.ls.length cp) c2 26 n.at_;have l21:=c2.qi 21 n.at_;have l26:=c2.qi 26 n.at_
   cases hv:(n.kind != 13) with
   | true =>
    have e:n5 c2 n=c2:=by unfold n5;exact ae zf8
    rw [e];refine I ?_;refine dN ?_;exact ⟨rfl,ad,cp,rfl⟩
   | false =>
    have Dk:¬ n.kind≠13:=by simpa using hv
    unfold cC at Kz h26
    cases hb:c2.ls.contains n.s with
    | true =>
     rw [hb] at hL
     have e:n5 c2 n=⟨(c2.fail 21 n.at_).ls++[n.s],(c2.fail 21 n.at_).code,(c2.fail 21 n.at_).at_⟩:=by unfold n5;rw [ab Dk];exact ae hb
     rw [e];generalize c2.fail 21 n.at_=y at *;refine zdn ?_;refine OA rfl rfl (GL.borrow hL (fun B K β w l hI hF=>jG (A:=[_]) (C:=[_,_]) hI hF rfl rfl) ?_);refine zbI ?_;refine V [0] Kz ?_;refine zcb ?_;refine OA rfl rfl (GL.pk 1 (news:=[[.v (sv n.s)]]) rfl rfl rfl az rfl rfl (by refine ⟨?_,?_⟩;(· show _+1<=_;omega);(· show (_+1) * _<=_;omega)) ?_);intro vd vh;refine zbI ?_;refine dN ?_;exact ⟨rfl,vd,vh,by simp [cO,cC,bW,l21]⟩
    | false =>
     rw [hb] at hL
     cases h40:((c2.ls.length:Int)==40) with
     | true =>
      have e:n5 c2 n=⟨(c2.fail 26 n.at_).ls++[n.s],(c2.fail 26 n.at_).code,(c2.fail 26 n.at_).at_⟩:=by
       unfold n5;rw [ab Dk,ab zf6];exact ae (by rw [beq_iff_eq] at h40;omega)
      rw [e];generalize c2.fail 26 n.at_=y at *;refine zdn ?_;refine OA rfl rfl (GL.borrow hL (fun B K β w l hI hF=>jG (A:=[_]) (C:=[_,_]) hI hF rfl rfl) ?_);refine zbI ?_;refine V [0] h26 ?_;refine zcb ?_;refine OA rfl rfl (GL.pk 1 (news:=[[.v (sv n.s)]]) rfl rfl rfl az rfl rfl (by refine ⟨?_,?_⟩;(· show _+1<=_;omega);(· show (_+1) * _<=_;omega)) ?_);intro vd vh;refine zbI ?_;refine dN ?_;exact ⟨rfl,vd,vh,by simp [cO,cC,bW,l26]⟩
     | false =>
      have e:n5 c2 n=⟨c2.ls++[n.s],c2.code,c2.at_⟩:=by
       unfold n5;rw [ab Dk,ab zf6];exact ab (by rw [beq_eq_false_iff_ne] at h40;omega)
      rw [e];refine zdn ?_;refine OA rfl rfl (GL.borrow hL (fun B K β w l hI hF=>jG (A:=[_]) (C:=[_,_]) hI hF rfl rfl) ?_);refine zbI ?_;refine zcb ?_;refine OA rfl rfl (GL.pk 1 (news:=[[.v (sv n.s)]]) rfl rfl rfl az rfl rfl (by refine ⟨?_,?_⟩;(· show _+1<=_;omega);(· show (_+1) * _<=_;omega)) ?_);intro vd vh;refine zbI ?_;refine dN ?_;exact ⟨rfl,vd,vh,by simp [cO,cC,bW]⟩
theorem Eg (p:Src) (h:Value) (k e:Int):GF prog 232 [.loc 0 0,.v (ii e),.v (ii 0)] [.box 160 (cC p h ⟨[],k,0⟩)] (.tup []) [.box 160 (cC p h ⟨[],im k e,0⟩)]:=by
 have:=jK p h ⟨[],k,0⟩ e 0
 rwa [show (SS.fail ⟨[],k,0⟩ e 0)=⟨[],im k e,0⟩ by unfold SS.fail im;by_cases hk:k=0 <;> simp [hk]] at this
theorem HV (p:Src) (h:Value) (k:Int) (kq:p.arrays.length<=1048576) (dR:∀ a∈p.arrays,0<=a.size/\a.size<=2147483648)
  (rest:(p.arrays.all fun a=>!oD a)=true->GF prog 173 [.loc 0 0] [.box 160 (cC p h ⟨[],k,0⟩)] (.tup []) [.box 160 (cC p h ⟨[],tl p k,0⟩)]) :
  GF prog 173 [.loc 0 0] [.box 160 (cC p h ⟨[],k,0⟩)] (.tup []) [.box 160 (cC p h ⟨[],tl p k,0⟩)]:=by
 cases wu:(p.arrays.all fun a=>!oD a) with
 | true=>exact rest wu
 | false =>
 have dK:(p.arrays.map bb).length=p.arrays.length:=by simp
 have hb:=w4 dR;have zU:=Eg p h k 26
 have Ht:p.arrays.any oD=true:=by
  cases h0:p.arrays.any oD with
  | true=>rfl
  | false =>
   rw [any_eq_false] at h0;rw [all_eq_false] at wu;obtain ⟨x,hx,D⟩:=wu;have:=h0 x hx;simp at D;rw [D] at this;exact absurd rfl this
 rw [show tl p k=im k 26 by unfold tl;exact ae Ht];unfold cC at zU |-;refine ai func173 ntmps173 ?_;refine GW.range (p.arrays.map bb).length (fun k' fr Γ=>fr=[.loc 0 0,U,.v (ii (eu (p.arrays.take k'))),U,U,U,U,U,U,U,U,U,.sl 2 (p.arrays.map bb),.v (ii ((p.arrays.map bb).length:Int)),.v (ii (k':Nat)),U,U,U,U,U,U,U,U,U,U,U,U,U,U,U,U,U,U,U,U,U,U,U,U,U,U,U,U,U,U,U,U,U,U,U,U,U,U,U,U,U,U,U,U,U,U,U,U,U,U,U,U,U,U,U,U,U,U,U,U,U,U,U,U,U,U,U,U,U,U,U,U,U,U,U,U,U,U,U]/\Γ=[.box 160 [strs p.globals,.sl 2 (p.arrays.map bb),.sl 3 (p.fns.map ax),.sl 5 (p.nodes.map aW),.v h,.v (ii k),.v (ii 0)]]/\(p.arrays.take k').all (fun a=>!oD a)=true) ?_ G ?_ ?_ ?_
 ·exact jQ
 ·rintro k' _ _ ⟨rfl,rfl,_⟩;exact ea
 ·rintro k' _ _ au ⟨rfl,rfl,ba⟩;rw [dK] at au;obtain ⟨x,hx⟩:∃ x,p.arrays[k']?=some x:=⟨p.arrays[k'],by simp [au]⟩
  have hr:(p.arrays.map bb)[k']?=some (bb x):=by rw [bp,hx];rfl
  have bL:=lQ (f:=oD) hx;have jH:=uK hx;have eH:=hb k';have pV:=dR x (br hx);have hd:oD x=(decide (x.size < 1) || decide (8000 < x.size)):=rfl;unfold bb at hr
  cases D:decide (x.size < 1) with
  | true =>
   refine I ?_;refine V [0] zU ?_;exact iJ
  | false =>
   cases X:decide (8000 < x.size) with
   | true =>
    refine I ?_;refine V [0] zU ?_;exact iJ
   | false =>
    rw [jH];generalize eu (p.arrays.take k')=c at *;refine I ?_;exact ⟨rfl,rfl,_,_,(Wk.cut (n:=1) (aH _) rfl).trans (Wk.aJ ar),rfl,rfl,by rw [bL,ba,hd,D,X];rfl⟩
 ·rintro _ _ ⟨rfl,rfl,ba⟩;rw [dK,di] at ba;rw [ba] at wu;cases wu
theorem Gp (p:Src) (h:Value) (k:Int) (kq:p.arrays.length<=1048576) (kr:p.fns.length<=1048576) (dR:∀ a∈p.arrays,0<=a.size/\a.size<=2147483648) (wu:(p.arrays.all fun a=>!oD a)=true) :
  GF prog 173 [.loc 0 0] [.box 160 (cC p h ⟨[],k,0⟩)] (.tup []) [.box 160 (cC p h ⟨[],tl p k,0⟩)]:=by
 have dK:(p.arrays.map bb).length=p.arrays.length:=by simp
 have lV:(p.fns.map ax).length=p.fns.length:=by simp
 have lI:(p.globals.map fun s=>[GV.v (sv s)]).length=p.globals.length:=by simp
 have hb:=w4 dR
 have Ht:p.arrays.any oD=false:=by
  rw [any_eq_false];rw [gP] at wu;intro x hx;simpa using wu x hx
 have zU:=Eg p h;unfold cC at zU |-;refine ai func173 ntmps173 ?_;refine GW.range (p.arrays.map bb).length (fun k' fr Γ=>fr=[.loc 0 0,U,.v (ii (eu (p.arrays.take k'))),U,U,U,U,U,U,U,U,U,.sl 2 (p.arrays.map bb),.v (ii ((p.arrays.map bb).length:Int)),.v (ii (k':Nat)),U,U,U,U,U,U,U,U,U,U,U,U,U,U,U,U,U,U,U,U,U,U,U,U,U,U,U,U,U,U,U,U,U,U,U,U,U,U,U,U,U,U,U,U,U,U,U,U,U,U,U,U,U,U,U,U,U,U,U,U,U,U,U,U,U,U,U,U,U,U,U,U,U,U,U,U,U,U,U]/\Γ=[.box 160 [strs p.globals,.sl 2 (p.arrays.map bb),.sl 3 (p.fns.map ax),.sl 5 (p.nodes.map aW),.v h,.v (ii k),.v (ii 0)]]) ?_ G ?_ ?_ ?_
 ·exact jP
 ·rintro k' _ _ ⟨rfl,rfl⟩;exact ea
 ·rintro k' _ _ au ⟨rfl,rfl⟩;rw [dK] at au;obtain ⟨x,hx⟩:∃ x,p.arrays[k']?=some x:=⟨p.arrays[k'],by simp [au]⟩
  have hr:(p.arrays.map bb)[k']?=some (bb x):=by rw [bp,hx];rfl
  have jH:=uK hx;have eH:=hb k';have pV:=dR x (br hx)
  have hd:oD x=false:=by
   rw [any_eq_false] at Ht;have:=Ht x (br hx);exact zbT
  unfold oD at hd;rw [Bool.or_eq_false_iff] at hd;obtain ⟨D,X⟩:=hd;have X:decide (8000 < x.size)=false:=X;unfold bb at hr;rw [jH];generalize eu (p.arrays.take k')=c at *;refine I ?_;exact ⟨rfl,rfl,_,_,(Wk.cut (n:=1) (aH _) rfl).trans (Wk.aJ ar),rfl,rfl⟩
 ·rintro _ _ ⟨rfl,rfl⟩;rw [dK,di];refine bh ?_;refine GW.seq ?_;have e1:decide (p.fns.length > 40)=decide ((40:Int) < ((p.fns.map ax).length:Int)):=decide_eq_decide.2 (by rw [lV];omega);have e2:decide (p.globals.length > 29)=decide ((29:Int) < ((p.globals.map fun s=>[GV.v (sv s)]).length:Int)):=decide_eq_decide.2 G
  have Mv:vf p=((decide ((40:Int) < ((p.fns.map ax).length:Int)) || decide ((29:Int) < ((p.globals.map fun s=>[GV.v (sv s)]).length:Int))) || decide ((8000:Int) < eu p.arrays)):=by unfold vf;rw [e1,e2]
  refine GW.join (fun fr Γ=>fr=[.loc 0 0,U,U,U,U,U,U,U,U,U,U,U,U,U,U,U,U,U,U,U,U,U,U,U,U,U,U,U,U,U,U,U,U,U,U,U,U,U,U,U,U,U,U,U,U,U,U,U,U,U,U,U,U,U,U,U,U,U,U,U,U,U,U,U,U,U,U,U,U,U,U,U,U,U,U,U,U,U,U,U,U,U,U,U,U,U,U,U,U,U,U,U,U,U]/\Γ=[.box 160 [strs p.globals,.sl 2 (p.arrays.map bb),.sl 3 (p.fns.map ax),.sl 5 (p.nodes.map aW),.v h,.v (ii (if vf p=true then im k 26 else k)),.v (ii 0)]]) ?_ ?_
  ·rw [Mv];have Mu:=zU k 26;generalize eu p.arrays=c at *
   cases D:decide ((40:Int) < ((p.fns.map ax).length:Int))
   all_goals cases X:decide ((29:Int) < ((p.globals.map fun s=>[GV.v (sv s)]).length:Int))
   all_goals cases h3:decide ((8000:Int) < c)
   all_goals
    refine I ?_
    first
     | exact jP
     | (refine kj [0] Mu ?_;refine I ?_;exact ⟨_,_,Wk.aJ ar,rfl,rfl⟩)
  ·rintro _ _ ⟨rfl,rfl⟩;generalize wx:(if vf p=true then im k 26 else k)=k1
   have ZG:∀ j:Nat,∀ x:Go.Sp.Fn,p.fns[j]?=some x->(p.fns.take (j+1)).any (fun f=>decide (f.params.length > 40))=((p.fns.take j).any (fun f=>decide (f.params.length > 40)) || decide (x.params.length > 40)):=fun j x hx=>by
    rw [dh,hx,any_append];simp
   refine I ?_;refine GW.range (p.fns.map ax).length (fun j fr Γ=>∃ kk,fr=[.loc 0 0,U,U,U,U,U,U,U,U,U,U,U,U,U,U,U,U,U,U,U,U,U,U,U,U,U,U,U,U,U,U,U,U,U,U,U,U,U,U,U,U,U,U,U,U,U,U,U,U,U,U,U,U,U,U,U,U,U,U,.sl 3 (p.fns.map ax),.v (ii ((p.fns.map ax).length:Int)),.v (ii (j:Nat)),U,U,U,U,U,U,U,U,U,U,U,U,U,U,U,U,U,U,U,U,U,U,U,U,U,U,U,U,U,U,U,U]/\Γ=[.box 160 [strs p.globals,.sl 2 (p.arrays.map bb),.sl 3 (p.fns.map ax),.sl 5 (p.nodes.map aW),.v h,.v (ii kk),.v (ii 0)]]/\kk=(if (p.fns.take j).any (fun f=>decide (f.params.length > 40))=true then im k1 26 else k1)) ?_ G ?_ ?_ ?_
   ·exact ⟨_,_,Wk.aJ ar,k1,rfl,rfl,by simp⟩
   ·rintro j _ _ ⟨kk,rfl,rfl,_⟩;exact ea
   ·rintro j _ _ au ⟨kk,rfl,rfl,qS⟩;rw [lV] at au;obtain ⟨x,hx⟩:∃ x,p.fns[j]?=some x:=⟨p.fns[j],by simp [au]⟩
    have hr:(p.fns.map ax)[j]?=some (ax x):=by rw [bp,hx];rfl
    have c8:(x.params.map fun s=>[GV.v (sv s)]).length=x.params.length:=by simp
    have oT:=ZG j x hx;have hd:decide (x.params.length > 40)=decide ((40:Int) < ((x.params.map fun s=>[GV.v (sv s)]).length:Int)):=decide_eq_decide.2 G;have Mu:=zU kk 26;rw [oT,hd];unfold ax at hr
    cases D:decide ((40:Int) < ((x.params.map fun s=>[GV.v (sv s)]).length:Int)) with
    | true =>
     have e:im kk 26=im k1 26:=by rw [qS];split;(· exact Vi _ _ aC);rfl
     rw [e] at Mu;refine I ?_;refine V [0] Mu ?_;exact ⟨rfl,rfl,_,_,(Wk.cut (n:=1) (aH _) rfl).trans (Wk.aJ ar),_,rfl,rfl,by simp⟩
    | false =>
     refine I ?_;exact ⟨rfl,rfl,_,_,(Wk.cut (n:=1) (aH _) rfl).trans (Wk.aJ ar),kk,rfl,rfl,by rw [qS,Bool.or_false]⟩
   ·rintro _ _ ⟨kk,rfl,rfl,qS⟩;rw [lV,di] at qS
    have hs:tl p k=(if lM p=true then im kk 25 else kk):=by
     unfold tl;rw [ab (by rw [Ht];decide),wx,<-qS]
    rw [hs];refine bh ?_;have Xh:=zU kk 25;have hM:=En p xN G;unfold cx at hM;clear hs qS wx
    cases hx:p.fns.findIdx? (fun f:Go.Sp.Fn=>f.name==xN) with
    | none =>
     rw [hx] at hM
     have hd:decide ((-1:Int) < 0)=true:=by decide
     simp only at hM;rw [show (if lM p=true then im kk 25 else kk)=im kk 25 from ae (by unfold lM;rw [hx])];exact zfd
    | some i =>
     rw [hx] at hM;have hi:i < p.fns.length:=(List.findIdx?_eq_some_iff_getElem.1 hx).1;obtain ⟨f,hf⟩:∃ f,p.fns[i]?=some f:=⟨p.fns[i],by simp [hi]⟩
     have hr:(p.fns.map ax)[i]?=some (ax f):=by rw [bp,hf];rfl
     have c8:(f.params.map fun s=>[GV.v (sv s)]).length=f.params.length:=by simp
     have hd:decide (((i:Nat):Int) < 0)=false:=by simp
     have mO:decide (nR p i > 0)=decide ((0:Int) < ((f.params.map fun s=>[GV.v (sv s)]).length:Int)):=by
      unfold nR;rw [hf];exact decide_eq_decide.2 zgg
     simp only at hM
     have sF:lM p=decide (nR p i > 0):=by unfold lM;rw [hx]
     rw [mO] at sF;unfold ax at hr
     cases D:decide ((0:Int) < ((f.params.map fun s=>[GV.v (sv s)]).length:Int)) with
     | true =>
      rw [show (if lM p=true then im kk 25 else kk)=im kk 25 from ae (by rw [sF,D])];exact zfd
     | false =>
      rw [show (if lM p=true then im kk 25 else kk)=kk from ab (by rw [sF,D];decide)];refine I ?_;refine V [] hM ?_;exact iJ
theorem NH (p:Src) (hF:GF prog 81 [.agg (av p)] [] (.v (.bool false)) []):GF prog 112 [.agg (av p)] [] (.tup [.v (ii 20),.v (ii 0)]) []:=by
 refine ai func112 ntmps112 ?_;refine V [] hF ?_;exact oF
theorem LX (p:Src) (l:List T) (c1 c2:SS) (lV:p.fns.length=l.length) (kr:p.fns.length<=1048576) (kq:p.arrays.length<=1099511627776) (lI:p.globals.length<=1099511627776)
  (Af:∀ f∈p.fns,f.params.length<=1048576) (dR:∀ t∈l,bc t<=1048576)
  (hF:GF prog 81 [.agg (av p)] [] (.v (.bool true)) [])
  (hN:GF prog 172 [.loc 0 0] [.box 160 (cC p (.slice none 0 0) ⟨[],0,0⟩)] (.tup []) [.box 160 (cC p (.slice none 0 0) c1)])
  (hS:GF prog 173 [.loc 0 0] [.box 160 (cC p (.slice none 0 0) c1)] (.tup []) [.box 160 (cC p (.slice none 0 0) c2)])
  (se:∀ (i:Nat) (f:Go.Sp.Fn) (t:T),p.fns[i]?=some f->l[i]?=some t->GF prog 84 [.agg (av p),.v (ii f.body)] [] (.agg (cT t)) []) :
  GF prog 112 [.agg (av p)] [] (.tup [.v (ii (pO p p.fns l c2).code),.v (ii (pO p p.fns l c2).at_)]) []:=by
 have pA:(p.fns.map ax).length=p.fns.length:=by simp
 unfold cC at hN hS;refine ai func112 ntmps112 ?_;refine V [] hF ?_;refine V [1] hN ?_;refine V [1] hS ?_;refine GW.range (p.fns.map ax).length (fun k fr Γ=>∃ h c,fr=[U,.loc 0 0,U,U,.loc 1 0,U,U,U,U,U,U,U,U,U,U,U,U,U,.sl 3 (p.fns.map ax),.v (ii ((p.fns.map ax).length:Int)),.v (ii (k:Nat)),U,U,U,U,U,U,U,U,U,U,U,U,U,U,U,U,U,U,U,U,U,U,U,U,U,U]/\Γ=[.box 28 (av p),.box 160 (cC p h c)]/\pO p p.fns l c2=pO p (p.fns.drop k) (l.drop k) c) ?_ G ?_ ?_ ?_
 ·exact ⟨_,_,Wk.aJ ar,_,c2,rfl,rfl,rfl⟩
 ·rintro k _ _ ⟨h,c,rfl,rfl,_⟩;exact ea
 ·rintro k _ _ au ⟨h,c,rfl,rfl,he⟩;rw [pA] at au;obtain ⟨f,hf⟩:∃ f,p.fns[k]?=some f:=⟨p.fns[k],by simp [au]⟩;obtain ⟨t,ht⟩:∃ t,l[k]?=some t:=⟨l[k]'G,ct _⟩
  have hr:(p.fns.map ax)[k]?=some (ax f):=by rw [bp,hf];rfl
  have Hy:p.fns.drop k=f::p.fns.drop (k+1):=by rw [oG au];rw [ct au] at hf;rw [DT hf]
  have oP:l.drop k=t::l.drop (k+1):=by rw [oG G];rw [ct G] at ht;rw [DT ht]
  have hp:=Af f (br hf);have hz:=dR t (br ht);have XY:=se k f t hf ht;have hP:=JB p h c f hp;rw [Hy,oP,pO] at he
  cases hc:(c.code==0) with
  | false =>
   rw [ab zfN] at he;unfold cC ax at *;refine I ?_;exact ⟨rfl,rfl,_,_,(Wk.cut (n:=2) (aX _) rfl).trans (Wk.aJ ar),h,c,rfl,rfl,he⟩
  | true =>
   rw [ae zfN] at he
   have hNd:=fun ad cp=>PT p kq G lI _ t (aH _) (sk f c) ad cp (by show f.params.length+_<=_;omega)
   rw [he];generalize pE p t (sk f c)=c3 at *;unfold cO at hNd;unfold ax at hr hP;rw [show cC p h c=[strs p.globals,.sl 2 (p.arrays.map bb),.sl 3 (p.fns.map ax),.sl 5 (p.nodes.map aW),.v h,.v (ii c.code),.v (ii c.at_)] from rfl] at *;refine I ?_;refine bU [1] hP ?_;rintro _ _ ⟨rfl,ad,cp,rfl⟩;refine zaC ?_;refine V [] XY ?_;refine bU [1,3] (hNd ad cp) ?_;rintro _ _ ⟨rfl,sB,sD,rfl⟩;refine zaC ?_;exact ⟨rfl,rfl,_,_,(Wk.cut (n:=2) (aX _) rfl).trans (Wk.aJ ar),_,c3,rfl,rfl,rfl⟩
 ·rintro _ _ ⟨h,c,rfl,rfl,he⟩;rw [pA,drop_length,RJ] at he;rw [he];unfold cC;refine bh ?_;refine I ?_;refine aM (ay 0 10 .nil) ?_;refine ak ?_;exact tC
end Go.Xg
namespace Go.Xg
open Go.RowKit Go.Xw Go.Proofs
section
variable {P:Program} {m:Nat} {ops:Array Oper} {Q:dW} {rest:List Oper} {fr:List GV} {Γ:List Ob}
theorem QO {o:Oper} {a:Act} {next next':Act->World->Prop} {Q Q':Exit->Act->World->Prop} (hn:∀ a w,next a w->next' a w) (hq:∀ e a w,Q e a w->Q' e a w):∀ r,o.upon P a next Q r->o.upon P a next' Q' r:=by
 have hl:LetsOut Q->LetsOut Q':=fun ⟨a,w,h⟩=>⟨a,w,hq _ _ _ h⟩
 intro r h;unfold Oper.upon at h |-;split at h
 ·exact hn _ _ h
 ·exact hn _ _ h
 ·exact hn _ _ h
 ·refine Calls.mono h fun e w' he=>?_
  cases e with
  | returned v=>exact hn _ _ he
  | panicked ch=>exact hq _ _ _ he
  | outgrown=>exact hl he
 ·exact Rows.mono h fun v w' hv=>hn _ _ hv
 ·exact hq _ _ _ h
 ·exact h
theorem BV {Q Q':Exit->Act->World->Prop} (hq:∀ e a w,Q e a w->Q' e a w):∀ (l:List Oper) (a:Act) (w:World),wpList P ops Q l a w->wpList P ops Q' l a w
 | [],a,w,h=>hq _ _ _ h
 | o::l,a,w,h=>by
  have ih:=BV hq l;unfold wpList at h |-;split at h
  ·rename_i hw;rw [ae hw]
   rcases h with h | ⟨D,X⟩
   ·exact .inl (QO ih hq _ h)
   ·exact .inr ⟨D,by obtain ⟨a,w,h⟩:=X;exact ⟨a,w,hq _ _ _ h⟩⟩
  ·rename_i hw;rw [ab hw];exact ih _ _ h
theorem GL.mono {Q':dW} (h:GL P m ops Q rest fr Γ) (hq:∀ e fr Γ,Q e fr Γ->Q' e fr Γ):GL P m ops Q' rest fr Γ:=fun B K β w l hm hI hF =>
 BV (fun e a w ⟨l,ha,K,β,fr,Γ,hI,hF,q⟩=>⟨l,ha,K,β,fr,Γ,hI,hF,hq _ _ _ q⟩) _ _ _ (h B K β w l hm hI hF)
theorem GL.ZN {z y:Code} (K:List GV->List Ob->Prop) (D:GL P m ops (bg (GW P m z (bg (Br m K) Q)) Q) rest fr Γ) (X:∀ fr Γ,K fr Γ->GW P m y Q fr Γ):GL P m ops (bg (GW P m z (bg (GW P m y Q) Q)) (bg (GW P m y Q) Q)) rest fr Γ:=by
 refine D.mono fun e fr Γ hq=>?_
 cases e with
 | normal=>exact GW.join K hq X
 | _=>exact hq
theorem GL.xa {t i n E k:Nat} {rows:List (List GV)} (ht:cP fr t=.vec i n) (mu:ku fr t=true) (bD:Γ[i]?=some (.vec E k 0 rows)) (hn:rows.length=n)
  (h:∀ a c,GL P m ops Q rest (bQ fr t (.v (.slice a n c))) (oset Γ i (.vech E k rows (.slice a n c)))):GL P m ops Q rest fr Γ:=fun B K β w l hm hI hF=>by
 subst hn;obtain ⟨a,c,hb,bA⟩:=hI.xa bD
 have hv:nth l t=.slice a rows.length c:=by
  have:=hF.nth t;rw [ht] at this;generalize nth l t=x at this
  cases this with
  | vec i n a' c' h =>
   obtain ⟨h0,m0,e1,_,e3⟩:=h;rw [hb] at e1;cases e1;exact e3 rfl
 have:=hF.fT t (Rel.v (K:=K) (β:=β) (.slice a rows.length c));rw [<-hv,CF (oW hF mu),hv] at this;exact h a c B K β w l hm bA this
end
end Go.Xg
set_option maxHeartbeats 1000000
namespace Go.Xg
open Go.RowKit Go.Xw Go.Proofs Tryz Go.Sp
open Go.Xp (Nd T levels Bn gJ E er aZ wt fM sC eS)
attribute [local irreducible] GW GL GO YG GC GA bg bj
theorem eY {nd:Nd} {l l':List T} {k v:Int} {s:ah} (h:er (.mk nd l)=.mk ⟨k,0,v,s,[]⟩ l'):nd.kind=k/\nd.n=v/\nd.s=s/\aZ l=l':=by
 rw [er] at h
 injection h with D X
 injection D with a b c d e
 exact ⟨a,c,d,X⟩
theorem yw {l:List T} {x:T} (h:aZ l=[x]):∃ t,l=[t]/\er t=x:=by
 match l,h with
 | [t],h=>rw [aZ,aZ] at h;injection h with D;exact ⟨t,rfl,D⟩
 | [],h=>rw [aZ] at h;cases h
 | t::u::r,h=>rw [aZ,aZ] at h;injection h with D X;cases X
theorem Ee {l:List T} {x y:T} (h:aZ l=[x,y]):∃ t u,l=[t,u]/\er t=x/\er u=y:=by
 match l,h with
 | t::r,h =>
  rw [aZ] at h;injection h with D X
  obtain ⟨u,rfl,h3⟩:=yw X;exact ⟨t,u,rfl,D,h3⟩
 | [],h=>rw [aZ] at h;cases h
theorem aaA {l:List T} {x y z:T} (h:aZ l=[x,y,z]):∃ t u w,l=[t,u,w]/\er t=x/\er u=y/\er w=z:=by
 match l,h with
 | t::r,h =>
  rw [aZ] at h;injection h with D X
  obtain ⟨u,w,rfl,h3,h4⟩:=Ee X;exact ⟨t,u,w,rfl,D,h3,h4⟩
 | [],h=>rw [aZ] at h;cases h
theorem Td {a:E} (h:a.ok=true) {t:T} (ht:er t=a.tree):ph t.n.kind t.n.s=(a.lv:Int):=by
 obtain ⟨nd,l⟩:=t
 cases a with
 | bin s a b =>
  obtain ⟨D,_,X,_⟩:=eY ht;simp only [E.ok,aI] at h;have h9:=(Go.Xp.rJ h.1.1).1;simp only [T.n,D,X,ph,ae,E.lv];unfold eS at h9 |-
  cases hf:levels.findIdx? (fun l=>l.contains s) with
  | none=>rw [hf] at h9;exact absurd h9 aC
  | some i=>rfl
 | num n=>exact zbz
 | name n=>exact zbz
 | at_ s a=>exact zbz
 | call s a=>exact zbz
 | un s a=>exact zbz
theorem tB {a:E} (h:a.ok=true) {t:T} (ht:er t=a.tree):GF prog 142 [.agg (cT t)] [] (.v (ii (a.lv:Int))) []:=by
 have:=MP t;rw [Td h ht] at this;exact this
theorem Fe (n:Int) (h:0<=n/\n<=2147483647):GF prog 90 [.v (ii n)] [] (.v (sv (gJ n.toNat))) []:=by
 have hw:=Wz n
 have pU:Bn n=n:=by unfold Bn;rw [show n % 4294967296=n by omega,ab G]
 rw [pU] at hw;have hd:=Ju n.toNat G;rw [Int.toNat_of_nonneg h.1] at hd
 have h':decide (n < 0)=false:=by simpa using h.1
 refine ai func90 ntmps90 ?_;refine V [] hw ?_;refine V [] hd ?_;exact al
abbrev lim:Nat:=1000000000000
def tS (a:E):Prop:=∀ (t:T) (k:Nat),a.ok=true->er t=a.tree->wt a.tree<=lim->¬ a.lv < k->GF prog 83 [.agg (cT t),.v (ii (k:Int))] [] (.v (sv a.bF)) []
def qJ (a:E):Prop:=∀ (t:T) (k:Nat),a.ok=true->er t=a.tree->wt a.tree<=lim->GF prog 83 [.agg (cT t),.v (ii (k:Int))] [] (.v (sv (sC a.lv k a.bF))) []
theorem tS.p {a:E} (C:tS a):qJ a:=by
 intro t k ho ht hb;unfold sC
 by_cases h:a.lv < k
 ·rw [ae h]
  have h':decide ((a.lv:Int) < (k:Int))=true:=by simpa using h
  have hl:=(E.len a ho).1;have h0:=C t 0 ho ht hb G;have TQ:=hb;unfold lim at TQ;generalize a.bF=x at *;refine ai func83 ntmps83 ?_;refine V [] (tB ho ht) ?_;refine V [] h0 ?_;exact al
 ·rw [ab h];exact C t k ho ht hb h
theorem P2 (n:Int):tS (.num n):=by
 intro t k ho ht hb h
 have h':decide (((E.num n).lv:Int) < (k:Int))=false:=by simpa using h
 have hg:=tB ho ht;obtain ⟨⟨kk,aa,vv,ss,ks⟩,l⟩:=t;obtain ⟨D,X,h3,hl⟩:=eY ht;simp only at D X h3;subst D X h3;simp only [E.ok,aI] at ho;have hn:=Fe vv ⟨nD ho.1,nD ho.2⟩;rw [E.bF];simp only [cT,T.n,T.kids] at hg |-;refine ai func83 ntmps83 ?_;refine V [] hg ?_;refine V [] hn ?_;exact al
theorem MX (s:ah):tS (.name s):=by
 intro t k ho ht hb h
 have h':decide (((E.name s).lv:Int) < (k:Int))=false:=by simpa using h
 have hg:=tB ho ht;obtain ⟨⟨kk,aa,vv,ss,ks⟩,l⟩:=t;obtain ⟨D,X,h3,hl⟩:=eY ht;simp only at D X h3;subst D X h3;rw [E.bF];simp only [cT,T.n,T.kids] at hg |-;refine ai func83 ntmps83 ?_;refine V [] hg ?_;exact al
theorem SA (s:ah) (a:E) (C:qJ a):tS (.at_ s a):=by
 intro t k ho ht hb h
 have h':decide (((E.at_ s a).lv:Int) < (k:Int))=false:=by simpa using h
 have hg:=tB ho ht;obtain ⟨⟨kk,aa,vv,ss,ks⟩,l⟩:=t;obtain ⟨D,X,h3,hl⟩:=eY ht;simp only at D X h3;subst D X h3;obtain ⟨x,rfl,hx⟩:=yw hl;simp only [E.ok,aI] at ho;rw [E.tree,wt] at hb;simp only [fM,lim] at hb;have hc:=C x 0 ho.2 hx zfB;unfold sC at hc;rw [ab G] at hc;have hle:=(E.len a ho.2).1;have hr:(bd [x])[0]?=some (cT x):=dB rfl;rw [E.bF];generalize a.bF=y at *;simp only [cT,T.n,T.kids] at hg |-;refine ai func83 ntmps83 ?_;refine V [] hg ?_;refine aM (ay 0 8 (.a 8 (ay 9 3 .nil))) ?_;refine ak ?_;refine aB [] hc ?_;exact aw
theorem SC (s:ah) (a:E) (C:qJ a):tS (.un s a):=by
 intro t k ho ht hb h
 have h':decide (((E.un s a).lv:Int) < (k:Int))=false:=by simpa using h
 have hg:=tB ho ht;obtain ⟨⟨kk,aa,vv,ss,ks⟩,l⟩:=t;obtain ⟨D,X,h3,hl⟩:=eY ht;simp only at D X h3;subst D X h3;obtain ⟨x,rfl,hx⟩:=yw hl;simp only [E.ok,aI] at ho;rw [E.tree,wt] at hb;simp only [fM,lim] at hb;have hc:=C x 9 ho.2 hx zfB;have hle:=(E.len a ho.2).1;have Cd:=Go.Xp.uS a.lv 9 a.bF;have hr:(bd [x])[0]?=some (cT x):=dB rfl;rw [E.bF];generalize sC a.lv 9 a.bF=y at *;simp only [cT,T.n,T.kids] at hg |-;refine ai func83 ntmps83 ?_;refine V [] hg ?_;refine aM (ay 0 8 (.a 8 (.q 9 (.a 10 (.q 11 (.q 12 .nil)))))) ?_;refine ak ?_;refine aB [] kx ?_;refine aB [] hc ?_;exact aw
theorem P1 (s:ah) (a b:E) (Ca:qJ a) (Cb:qJ b):tS (.bin s a b):=by
 intro t k ho ht hb h
 have h':decide (((E.bin s a b).lv:Int) < (k:Int))=false:=by simpa using h
 have hg:=tB ho ht;obtain ⟨⟨kk,aa,vv,ss,ks⟩,l⟩:=t;obtain ⟨D,X,h3,hl⟩:=eY ht;simp only at D X h3;subst D X h3;obtain ⟨x,y,rfl,hx,hy⟩:=Ee hl;simp only [E.ok,aI] at ho;rw [E.tree,wt] at hb;simp only [fM,lim] at hb;have Xs:=Ca x (eS ss) ho.1.2 hx zfB;have BE:=Cb y (eS ss+1) ho.2 hy zfB;have KN:=(Go.Xp.rJ ho.1.1).1;have hle:=(E.len a ho.1.2).1;have Cd:=Go.Xp.uS a.lv (eS ss) a.bF;have abv:=(E.len b ho.2).1;have ack:=Go.Xp.uS b.lv (eS ss+1) b.bF;have hr:(bd [x,y])[0]?=some (cT x):=dB rfl;have et:(bd [x,y])[1]?=some (cT y):=dB rfl;rw [E.bF];simp only [E.lv] at hg h';generalize sC a.lv (eS ss) a.bF=u at *;generalize sC b.lv (eS ss+1) b.bF=w at *;simp only [cT,T.n,T.kids] at hg |-;refine ai func83 ntmps83 ?_;refine V [] hg ?_;refine V [] hg ?_;refine aM (ay 0 5 (ay 7 3 (ay 12 6 (.a 5 (.q 6 (.q 10 (.q 11 (.a 18 (.q 19 (.q 20 .nil)))))))))) ?_;exact ze2
open GV (U)
open Go.Xp (cr Dp yH)
def L6 (b:Bool) (a:E):Prop:=∀ t,er t=a.tree->GF prog 198 [.agg (cT t),.v (.bool b)] [] (.v (sv (a.out b))) []
theorem OE:∀ {ts:List T} {es:List E} (h:aZ ts=E.trees es),ts.length=es.length/\∀ (k:Nat) t a,ts[k]?=some t->es[k]?=some a->er t=a.tree
 | [],[],_=>⟨rfl,fun k t a h=>by simp at h⟩
 | [],a::l,h=>by rw [aZ,E.trees] at h;cases h
 | t::r,[],h=>by rw [aZ,E.trees] at h;cases h
 | t::r,a::l,h=>by
  rw [aZ,E.trees] at h
  injection h with D X
  obtain ⟨h3,h4⟩:=OE X;refine ⟨by simp [h3],fun k t' a' ht ha=>?_⟩
  cases k with
  | zero=>cases ht;cases ha;exact D
  | succ k=>exact zfn
theorem FV (b:Bool) (es:List E) (C:∀ a∈es,L6 b a) (ts:List T) (vC:aZ ts=E.trees es) (hb:(cr (es.map (E.out b))).length<=lim) (hn:es.length<=lim) :
  GF prog 143 [.sl 6 (bd ts),.v (.bool b)] [] (.v (sv (cr (es.map (E.out b))))) []:=by
 obtain ⟨hlen,zn⟩:=OE vC;unfold lim at hb hn;refine ai func143 ntmps143 ?_;refine GW.range (bd ts).length (fun k fr Γ=>∃ y,fr=[U,.v (.bool b),U,U,U,.v (sv y),U,U,.sl 6 (bd ts),.v (ii ((bd ts).length:Int)),.v (ii (k:Nat)),U,U,U,U,U,U,U,U,U,U,U,U,U,U,U]/\Γ=[]/\y=cr ((es.map (E.out b)).take k)) ?_ zgn ?_ ?_ ?_
 ·exact ⟨_,_,Wk.aJ ar,[],rfl,rfl,by simp [cr]⟩
 ·rintro k _ _ ⟨y,rfl,rfl,_⟩;exact ea
 ·rintro k _ _ hk ⟨y,rfl,rfl,hy⟩
  have hk:k < es.length:=by rw [be,hlen] at hk;exact hk
  have zq:k < ts.length:=by omega
  have hx:es[k]?=some es[k]:=by simp [hk]
  have ht:ts[k]?=some ts[k]:=by simp [zq]
  have he:=zn k _ _ ht hx;have hr:=dB ht;have hc:=C _ (br hx) _ he;have oR:=yH (es.map (E.out b)) (k+1);have abo:=yH (es.map (E.out b)) k
  have nP:(es.map (E.out b)).take (k+1)=(es.map (E.out b)).take k++[es[k].out b]:=by
   rw [dh,bp,hx];rfl
  rw [nP] at oR;generalize ts[k]=t at *;generalize es[k]=a at *;generalize a.out b=x at *
  by_cases h0:k=0
  ·subst h0
   have tZ:decide ((0:Int) < ((0:Nat):Int))=false:=by decide
   have hj:cr ((es.map (E.out b)).take 0++[x])=[]++x:=by simp [cr]
   have Pn:cr ((es.map (E.out b)).take 0)=[]:=by simp [cr]
   rw [Pn] at hy;subst hy;rw [hj] at oR
   have oR:x.length<=(cr (es.map (E.out b))).length:=by simpa using oR
   exact zcf
  ·have tZ:decide ((0:Int) < (k:Int))=true:=by simpa using by omega
   have bT:(es.map (E.out b)).take k≠[]:=by
    intro h;rw [List.take_eq_nil_iff] at h
    rcases h with h | h
    ·exact h0 h
    ·rw [List.map_eq_nil_iff] at h;subst h;simp at hk
   have hj:=Dp bT x;rw [hj] at oR;rw [<-hy] at oR hj abo;simp only [aO,length_cons,length_nil] at oR;exact zcf
 ·rintro _ _ ⟨y,rfl,rfl,hy⟩;have:(es.map (E.out b)).take (bd ts).length=es.map (E.out b):=mn (by rw [be,hlen];simp);rw [this] at hy;subst hy;exact aw
theorem qJ.out {a:E} (C:qJ a) (ho:a.ok=true) (hb:wt a.tree<=lim):L6 true a:=by
 intro t ht;have h0:=C t 0 ho ht hb;unfold sC at h0;rw [ab G] at h0;show GF _ _ _ _ (.v (sv a.bF)) _;exact zfo
theorem E0:∀ l:List E,l.length<=fM (E.trees l)
 | []=>aX _
 | a::l=>by
  have:=E0 l;rw [E.trees,fM,length_cons]
  have:1<=wt a.tree:=by cases a <;> (rw [E.tree,wt];omega)
  omega
theorem E7:∀ {l:List E} {a:E},a∈l->wt a.tree<=fM (E.trees l)
 | [],_,h=>by cases h
 | b::l,a,h=>by
  rw [E.trees,fM]
  rcases eF h with rfl | h
  ·omega
  ·have:=E7 h;omega
theorem EB:∀ {l:List E} {a:E},E.dA l=true->a∈l->a.ok=true
 | [],_,_,h=>by cases h
 | b::l,a,ho,h=>by
  simp only [E.dA,aI] at ho
  rcases eF h with rfl | h
  ·exact ho.1
  ·exact EB ho.2 h
theorem MW (s:ah) (es:List E) (C:∀ a∈es,qJ a):tS (.call s es):=by
 intro t k ho ht hb h
 have h':decide (((E.call s es).lv:Int) < (k:Int))=false:=by simpa using h
 have hg:=tB ho ht;obtain ⟨⟨kk,aa,vv,ss,ks⟩,l⟩:=t;obtain ⟨D,X,h3,hl⟩:=eY ht;simp only at D X h3;subst D X h3;simp only [E.ok,aI] at ho;rw [E.tree,wt] at hb;have hle:=(E.lens es ho.2).1;have hn:=E0 es
 have HB:E.dy es=es.map (E.out true):=by rw [E.Tg];rfl
 have hj:=FV true es (fun a ha=>(C a ha).out (EB ho.2 ha) (by have:=E7 ha;omega)) l hl (by rw [<-HB];omega) G;rw [<-HB] at hj;unfold lim at hb;simp only at hb;rw [E.bF];generalize cr (E.dy es)=y at *;simp only [cT,T.n,T.kids] at hg |-;refine ai func83 ntmps83 ?_;refine V [] hg ?_;exact zdr
mutual
theorem xO:∀ a:E,qJ a
 | .num n=>(P2 n).p
 | .name s=>(MX s).p
 | .at_ s a=>(SA s a (xO a)).p
 | .call s l=>(MW s l (Lf l)).p
 | .un s a=>(SC s a (xO a)).p
 | .bin s a b=>(P1 s a b (xO a) (xO b)).p
theorem Lf:∀ l:List E,∀ a∈l,qJ a
 | []=>fun a h=>by cases h
 | b::l=>fun a h=>by
  rcases eF h with h | h
  ·rw [h];exact xO b
  ·exact Lf l a h
end
def oh (a:E):Prop:=∀ (t:T),a.ok=true->er t=a.tree->wt a.tree<=lim->GF prog 255 [.agg (cT t)] [] (.v (sv a.full)) []
theorem oh.out {a:E} (C:oh a) (ho:a.ok=true) (hb:wt a.tree<=lim):L6 false a:=by
 intro t ht;have h0:=C t ho ht hb;show GF _ _ _ _ (.v (sv a.full)) _;exact zfo
theorem RP (n:Int):oh (.num n):=by
 intro t ho ht hb;obtain ⟨⟨kk,aa,vv,ss,ks⟩,l⟩:=t;obtain ⟨D,X,h3,hl⟩:=eY ht;simp only at D X h3;subst D X h3;simp only [E.ok,aI] at ho;have hn:=Fe vv ⟨nD ho.1,nD ho.2⟩;rw [E.full];simp only [cT,T.n,T.kids];refine ai func255 ntmps255 ?_;refine V [] hn ?_;exact al
theorem OY (s:ah):oh (.name s):=by
 intro t ho ht hb;obtain ⟨⟨kk,aa,vv,ss,ks⟩,l⟩:=t;obtain ⟨D,X,h3,hl⟩:=eY ht;simp only at D X h3;subst D X h3;rw [E.full];simp only [cT,T.n,T.kids];refine ai func255 ntmps255 ?_;exact al
theorem Vm (s:ah) (a:E) (C:oh a):oh (.at_ s a):=by
 intro t ho ht hb;exact zaj
theorem OX (s:ah) (es:List E) (C:∀ a∈es,oh a):oh (.call s es):=by
 intro t ho ht hb;obtain ⟨⟨kk,aa,vv,ss,ks⟩,l⟩:=t;obtain ⟨D,X,h3,hl⟩:=eY ht;simp only at D X h3;subst D X h3;simp only [E.ok,aI] at ho;rw [E.tree,wt] at hb;have hle:=(E.lens es ho.2).2;have hn:=E0 es
 have HB:E.uM es=es.map (E.out false):=by rw [E.OZ];rfl
 have hj:=FV false es (fun a ha=>(C a ha).out (EB ho.2 ha) (by have:=E7 ha;omega)) l hl (by rw [<-HB];omega) G;rw [<-HB] at hj;unfold lim at hb;simp only at hb;rw [E.full];generalize cr (E.uM es)=y at *;simp only [cT,T.n,T.kids] at |-;refine ai func255 ntmps255 ?_;exact zdr
theorem Vn (s:ah) (a:E) (C:oh a):oh (.un s a):=by
 intro t ho ht hb;exact zaj
theorem RO (s:ah) (a b:E) (Ca:oh a) (Cb:oh b):oh (.bin s a b):=by
 intro t ho ht hb;obtain ⟨⟨kk,aa,vv,ss,ks⟩,l⟩:=t;obtain ⟨D,X,h3,hl⟩:=eY ht;simp only at D X h3;subst D X h3;obtain ⟨x,y,rfl,hx,hy⟩:=Ee hl;simp only [E.ok,aI] at ho;rw [E.tree,wt] at hb;simp only [fM,lim] at hb;have Xs:=Ca x ho.1.2 hx zfB;have BE:=Cb y ho.2 hy zfB;have hle:=(E.len a ho.1.2).2;have abv:=(E.len b ho.2).2;have hr:(bd [x,y])[0]?=some (cT x):=dB rfl;have et:(bd [x,y])[1]?=some (cT y):=dB rfl;rw [E.full];generalize a.full=u at *;generalize b.full=w at *;simp only [cT,T.n,T.kids] at |-;refine ai func255 ntmps255 ?_;refine aM (ay 0 4 (ay 7 3 (ay 12 4 (.a 4 (.q 5 (.q 6 (.q 10 (.q 11 (.a 16 (ay 17 3 .nil)))))))))) ?_;exact ze2
mutual
theorem AY:∀ a:E,oh a
 | .num n=>RP n
 | .name s=>OY s
 | .at_ s a=>Vm s a (AY a)
 | .call s l=>OX s l (OW l)
 | .un s a=>Vn s a (AY a)
 | .bin s a b=>RO s a b (AY a) (AY b)
theorem OW:∀ l:List E,∀ a∈l,oh a
 | []=>fun a h=>by cases h
 | b::l=>fun a h=>by
  rcases eF h with h | h
  ·rw [h];exact AY b
  ·exact OW l a h
end
theorem sj (b:Bool) {a:E} (ho:a.ok=true) (hb:wt a.tree<=lim):L6 b a:=by
 cases b with
 | true=>exact (xO a).out ho hb
 | false=>exact (AY a).out ho hb
theorem kZ (b:Bool) (a:E) (ho:a.ok=true):(a.out b).length+4<=wt a.tree:=by
 have:=E.len a ho
 cases b with
 | true=>exact this.1
 | false=>exact this.2
open Go.Xp (S cB gA)
theorem LS (x:E->Go.Xp.ah):∀ (l:List S) (acc:Go.Xp.ah),acc.length<=(S.dy x acc l).length
 | [],acc=>by rw [S.dy];omega
 | a::l,acc=>by
  rw [S.dy];have:=LS x l (acc++a.bF x++[32]);simp only [aO,length_cons,length_nil] at this;omega
def pJ (b:Bool) (s:S):Prop:=∀ t,s.ok=true->er t=s.tree->wt s.tree<=lim->GF prog 194 [.agg (cT t),.v (.bool b)] [] (.v (sv (s.bF (E.out b)))) []
def xj (b:Bool) (l:List S):Prop:=∀ t,S.dA l=true->er t=cB l->wt (cB l)<=lim->GF prog 194 [.agg (cT t),.v (.bool b)] [] (.v (sv (gA (E.out b) l))) []
theorem LD:∀ {ts:List T} {es:List S} (h:aZ ts=S.trees es),ts.length=es.length/\∀ (k:Nat) t a,ts[k]?=some t->es[k]?=some a->er t=a.tree
 | [],[],_=>⟨rfl,fun k t a h=>by simp at h⟩
 | [],a::l,h=>by rw [aZ,S.trees] at h;cases h
 | t::r,[],h=>by rw [aZ,S.trees] at h;cases h
 | t::r,a::l,h=>by
  rw [aZ,S.trees] at h
  injection h with D X
  obtain ⟨h3,h4⟩:=LD X;refine ⟨by simp [h3],fun k t' a' ht ha=>?_⟩
  cases k with
  | zero=>cases ht;cases ha;exact D
  | succ k=>exact zfn
theorem IX:∀ {l:List S} {a:S},a∈l->wt a.tree<=fM (S.trees l)
 | [],_,h=>by cases h
 | b::l,a,h=>by
  rw [S.trees,fM]
  rcases eF h with rfl | h
  ·omega
  ·have:=IX h;omega
theorem IW:∀ l:List S,l.length<=fM (S.trees l)
 | []=>aX _
 | a::l=>by
  have:=IW l;rw [S.trees,fM,length_cons]
  have:1<=wt a.tree:=by cases a <;> (rw [S.tree,wt];omega)
  omega
theorem IK:∀ {l:List S} {a:S},S.dA l=true->a∈l->a.ok=true
 | [],_,_,h=>by cases h
 | b::l,a,ho,h=>by
  simp only [S.dA,aI] at ho
  rcases eF h with rfl | h
  ·exact ho.1
  ·exact IK ho.2 h
theorem Q6 (b:Bool) (s:Go.Xp.ah) (a:E):pJ b (.var s a):=by
 intro t ho ht hb;obtain ⟨⟨kk,aa,vv,ss,ks⟩,l⟩:=t;obtain ⟨D,X,h3,hl⟩:=eY ht;simp only at D X h3;subst D X h3;obtain ⟨x0,rfl,oV⟩:=yw hl;simp only [S.ok,aI] at ho;rw [S.tree,wt] at hb;simp only [fM,lim] at hb;have r7:=sj b (a:=a) ho.2 zfB x0 oV;have wy:=kZ b a ho.2;have vy:(bd [x0])[0]?=some (cT x0):=dB rfl;rw [S.bF];generalize a.out b=y0 at *;simp only [cT,T.n,T.kids];refine ai func194 ntmps194 ?_;refine aM (ay 0 10 (.a 10 (ay 11 3 .nil))) ?_;refine ak ?_;refine aB [] r7 ?_;exact aw
theorem Q5 (b:Bool) (s:Go.Xp.ah) (a:E):pJ b (.set s a):=by
 intro t ho ht hb;obtain ⟨⟨kk,aa,vv,ss,ks⟩,l⟩:=t;obtain ⟨D,X,h3,hl⟩:=eY ht;simp only at D X h3;subst D X h3;obtain ⟨x0,rfl,oV⟩:=yw hl;simp only [S.ok,aI] at ho;rw [S.tree,wt] at hb;simp only [fM,lim] at hb;have r7:=sj b (a:=a) ho.2 zfB x0 oV;have wy:=kZ b a ho.2;have vy:(bd [x0])[0]?=some (cT x0):=dB rfl;rw [S.bF];generalize a.out b=y0 at *;simp only [cT,T.n,T.kids];refine ai func194 ntmps194 ?_;refine aM (ay 0 9 (.a 9 (ay 10 3 .nil))) ?_;refine ak ?_;refine aB [] r7 ?_;exact aw
theorem Q3 (b:Bool) (s:Go.Xp.ah) (a:E) (c:E):pJ b (.put s a c):=by
 intro t ho ht hb;obtain ⟨⟨kk,aa,vv,ss,ks⟩,l⟩:=t;obtain ⟨D,X,h3,hl⟩:=eY ht;simp only at D X h3;subst D X h3;obtain ⟨x0,x1,rfl,oV,pB⟩:=Ee hl;simp only [S.ok,aI] at ho;rw [S.tree,wt] at hb;simp only [fM,lim] at hb;have r7:=sj b (a:=a) ho.2.1 zfB x0 oV;have wy:=kZ b a ho.2.1;have vy:(bd [x0,x1])[0]?=some (cT x0):=dB rfl;have vo:=sj b (a:=c) ho.2.2 zfB x1 pB;have jI:=kZ b c ho.2.2;have lz:(bd [x0,x1])[1]?=some (cT x1):=dB rfl;rw [S.bF];generalize a.out b=y0 at *;generalize c.out b=y1 at *;simp only [cT,T.n,T.kids];refine ai func194 ntmps194 ?_;refine aM (ay 0 9 (ay 12 5 (.a 9 (.q 10 (.q 11 (.a 17 (ay 18 3 .nil))))))) ?_;refine ak ?_;refine aB [] r7 ?_;refine aB [] vo ?_;exact aw
theorem Q1 (b:Bool) (c:E) (p:List S) (Cp:xj b p):pJ b (.if1 c p):=by
 intro t ho ht hb;obtain ⟨⟨kk,aa,vv,ss,ks⟩,l⟩:=t;obtain ⟨D,X,h3,hl⟩:=eY ht;simp only at D X h3;subst D X h3;obtain ⟨x0,x1,rfl,oV,pB⟩:=Ee hl;simp only [S.ok,aI] at ho;rw [S.tree,wt] at hb;simp only [fM,lim] at hb;have r7:=sj b (a:=c) ho.1 zfB x0 oV;have wy:=kZ b c ho.1;have vy:(bd [x0,x1])[0]?=some (cT x0):=dB rfl;have vo:=Cp x1 ho.2 pB zga;have jI:=Go.Xp.uR (E.out b) (kZ b) ho.2;rw [cB] at jI;have lz:(bd [x0,x1])[1]?=some (cT x1):=dB rfl;rw [S.bF];generalize c.out b=y0 at *
 change GF _ _ _ _ (.v (sv _)) _ at vo
 exact zaM
theorem Q2 (b:Bool) (c:E) (p:List S) (q:List S) (Cp:xj b p) (Cq:xj b q):pJ b (.if2 c p q):=by
 intro t ho ht hb;obtain ⟨⟨kk,aa,vv,ss,ks⟩,l⟩:=t;obtain ⟨D,X,h3,hl⟩:=eY ht;simp only at D X h3;subst D X h3;obtain ⟨x0,x1,x2,rfl,oV,pB,KV⟩:=aaA hl;simp only [S.ok,aI] at ho;rw [S.tree,wt] at hb;simp only [fM,lim] at hb;have r7:=sj b (a:=c) ho.1 zfB x0 oV;have wy:=kZ b c ho.1;have vy:(bd [x0,x1,x2])[0]?=some (cT x0):=dB rfl;have vo:=Cp x1 ho.2.1 pB zga;have jI:=Go.Xp.uR (E.out b) (kZ b) ho.2.1;rw [cB] at jI;have lz:(bd [x0,x1,x2])[1]?=some (cT x1):=dB rfl;have ly:=Cq x2 ho.2.2 KV zga;have mw:=Go.Xp.uR (E.out b) (kZ b) ho.2.2;rw [cB] at mw;have et:(bd [x0,x1,x2])[2]?=some (cT x2):=dB rfl;rw [S.bF];generalize c.out b=y0 at *
 change GF _ _ _ _ (.v (sv _)) _ at vo
 unfold gA at vo jI;generalize S.dy (E.out b) [123,32] p++[125]=y1 at *
 change GF _ _ _ _ (.v (sv _)) _ at ly
 unfold gA at ly mw;generalize S.dy (E.out b) [123,32] q++[125]=y2 at *;simp only [cT,T.n,T.kids];refine ai func194 ntmps194 ?_;refine aM (ay 0 5 (ay 8 5 (.a 5 (.q 6 (.q 7 (.a 13 (.q 14 (.q 15 .nil)))))))) ?_;refine ak ?_;refine aB [] r7 ?_;refine aB [] vo ?_;refine I ?_;refine V [] ly ?_;exact al
theorem JX (b:Bool) (c:E) (p:List S) (Cp:xj b p):pJ b (.while_ c p):=by
 intro t ho ht hb;obtain ⟨⟨kk,aa,vv,ss,ks⟩,l⟩:=t;obtain ⟨D,X,h3,hl⟩:=eY ht;simp only at D X h3;subst D X h3;obtain ⟨x0,x1,rfl,oV,pB⟩:=Ee hl;simp only [S.ok,aI] at ho;rw [S.tree,wt] at hb;simp only [fM,lim] at hb;have r7:=sj b (a:=c) ho.1 zfB x0 oV;have wy:=kZ b c ho.1;have vy:(bd [x0,x1])[0]?=some (cT x0):=dB rfl;have vo:=Cp x1 ho.2 pB zga;have jI:=Go.Xp.uR (E.out b) (kZ b) ho.2;rw [cB] at jI;have lz:(bd [x0,x1])[1]?=some (cT x1):=dB rfl;rw [S.bF];generalize c.out b=y0 at *
 change GF _ _ _ _ (.v (sv _)) _ at vo
 exact zaM
theorem Q4 (b:Bool) (a:E):pJ b (.ret a):=by
 intro t ho ht hb;exact zan
theorem Tp (b:Bool) (a:E):pJ b (.do_ a):=by
 intro t ho ht hb;exact zan
theorem uo (b:Bool) (es:List S) (C:∀ a∈es,pJ b a):xj b es:=by
 intro t ho ht hb;obtain ⟨⟨kk,aa,vv,ss,ks⟩,l⟩:=t;obtain ⟨D,X,h3,hl⟩:=eY ht;simp only at D X h3;subst D X h3;obtain ⟨hlen,zn⟩:=LD hl;have kE:=Go.Xp.uR (E.out b) (kZ b) ho;rw [cB,wt] at hb;rw [cB,wt] at kE;have hn:=IW es;unfold gA at kE |-;unfold lim at hb;simp only [aO,length_cons,length_nil] at hb kE;simp only [cT,T.n,T.kids];refine ai func194 ntmps194 ?_;refine GW.range (bd l).length (fun k fr Γ=>∃ y,fr=[U,.v (.bool b),.loc 0 0,U,U,U,.v (sv y),U,U,U,U,U,U,U,U,U,U,U,U,U,U,U,U,U,U,U,U,U,U,U,U,U,U,U,U,U,U,U,U,U,U,U,U,U,U,U,U,U,U,U,U,U,U,U,U,U,U,U,U,U,U,U,U,U,U,U,U,U,U,U,U,U,U,U,U,U,U,U,U,U,U,U,U,U,U,U,U,U,U,U,U,U,U,U,U,U,U,U,U,U,U,U,U,U,U,U,U,U,U,U,U,U,U,U,U,U,U,U,U,U,U,U,U,U,U,U,U,U,U,U,U,.sl 6 (bd l),.v (ii ((bd l).length:Int)),.v (ii (k:Nat)),U,U,U,U,U,U,U,U,U,U,U,U]/\Γ=[.box 86 [.v (ii 14),.v (ii aa),.v (ii 0),.v (sv []),ints ks,.sl 6 (bd l)]]/\S.dy (E.out b) y (es.drop k)=S.dy (E.out b) [123,32] es) ?_ zgn ?_ ?_ ?_
 ·exact ⟨_,_,Wk.aJ ar,_,rfl,rfl,rfl⟩
 ·rintro k _ _ ⟨y,rfl,rfl,_⟩;exact ea
 ·rintro k _ _ hk ⟨y,rfl,rfl,hy⟩
  have hk:k < es.length:=by rw [be,hlen] at hk;exact hk
  have zq:k < l.length:=by omega
  have hx:es[k]?=some es[k]:=by simp [hk]
  have nP:l[k]?=some l[k]:=by simp [zq]
  have hr:=dB nP;rw [oG hk,S.dy] at hy;have hm:=br hx;have hc:=C _ hm _ (IK ho hm) (zn k _ _ nP hx) (by have:=IX hm;unfold lim;omega);generalize l[k]=t at *;generalize hgx:es[k].bF (E.out b)=x at *;have kF:=LS (E.out b) (es.drop (k+1)) (y++x++[32]);rw [hy] at kF;simp only [aO,length_cons,length_nil] at kF;refine I ?_;refine V [] hc ?_;exact ⟨rfl,rfl,_,_,(Wk.cut (n:=1) (dP rfl) rfl).trans (Wk.aJ ar),_,rfl,rfl,hy⟩
 ·rintro _ _ ⟨y,rfl,rfl,hy⟩;rw [List.drop_of_length_le (by rw [be,hlen];exact aH _),S.dy] at hy;subst hy;exact aw
mutual
theorem Y7 (b:Bool):∀ s:S,pJ b s
 | .set s a=>Q5 b s a
 | .put s a c=>Q3 b s a c
 | .if1 c p=>Q1 b c p (uo b p (u6 b p))
 | .if2 c p q=>Q2 b c p q (uo b p (u6 b p)) (uo b q (u6 b q))
 | .while_ c p=>JX b c p (uo b p (u6 b p))
 | .ret a=>Q4 b a
 | .do_ a=>Tp b a
 | .var s a=>Q6 b s a
theorem u6 (b:Bool):∀ l:List S,∀ a∈l,pJ b a
 | []=>fun a h=>by cases h
 | c::l=>fun a h=>by
  rcases eF h with h | h
  ·rw [h];exact Y7 b c
  ·exact u6 b l a h
end
theorem Y6 (b:Bool) (l:List S):xj b l:=uo b l (u6 b l)
open Go.Xp (fG)
theorem PN (p:Src) (hp:DK p) (ls:List (List S)) (hb:GH p ls):GF prog 141 [.agg (av p)] [] (.v (.bool (ls.all fun l=>fG l 1))) []:=by
 refine ai func141 ntmps141 ?_;refine GW.range (p.fns.map ax).length (fun k fr Γ=>fr=[U,.loc 0 0,U,U,U,U,U,U,.sl 3 (p.fns.map ax),.v (ii ((p.fns.map ax).length:Int)),.v (ii (k:Nat)),U,U,U,U,U,U,U,U,U,U,U,U,U,U,U,U,U,U,U,U,U,U,U,U,U,U,U,U,U,U,U,U,U,U]/\Γ=[.box 28 (av p)]/\((ls.take k).all fun l=>fG l 1)=true) ?_ (by simpa using by have:=hp.fns.1;omega) ?_ ?_ ?_
 ·exact jQ
 ·exact gO
 ·rintro k _ _ hk ⟨rfl,rfl,hf⟩
  have hk:k < p.fns.length:=by simpa using hk
  have fC:k < ls.length:=by rw [hb.len];exact hk
  have hx:p.fns[k]?=some p.fns[k]:=by simp [hk]
  have zr:ls[k]?=some ls[k]:=by simp [fC]
  have hr:=DC hx;obtain ⟨h0,ho,hw,t,se,her⟩:=hb.at_ k _ _ hx zr;have hs:=GG p (fun n hn=>(hp.nodes.2 n hn).2) _ _ _ se;rw [Int.toNat_of_nonneg h0] at hs;have HQ:=Y6 true ls[k] t ho her zfB;obtain ⟨ts,t2,q,f,D,X,h3,h4,h5,h6,h7⟩:=U1 ho hw;have nP:=PQ _ ts G D;have hmp:RS.ok ⟨ts,0,(gA E.bF ls[k]).length,0,0⟩:=⟨aX _,by simp only;omega⟩;have eQ:=(sds f).block 1 _ t2 q hmp G h5
  have fE:(E.out true)=E.bF:=by funext a;rfl
  rw [fE] at HQ;generalize gA E.bF ls[k]=tx at *;generalize w9:fG ls[k] 1=fit at *;generalize p.fns[k]=x at *
  rcases h7 with ⟨h7,h8,rfl⟩ | ⟨h7,rfl⟩
  ·have vo:(q.code != 0)=false:=by simpa using h7
   have ly:((q.i:Int) != ((q.l.map cZ).length:Int))=false:=by rw [cj,h6];simp [h8]
   refine zdT ?_;refine bq ?_;exact ⟨rfl,rfl,_,_,(Wk.cut (n:=1) (dP rfl) rfl).trans (Wk.aJ ar),rfl,rfl,ve zr hf w9⟩
  ·have vo:(q.code != 0)=true:=by simpa using h7
   have ba:(ls.all fun l=>fG l 1)=false:=xl zr w9;rw [ba];refine zdT ?_;exact zbJ
 ·rintro _ _ ⟨rfl,rfl,hf⟩;rw [mn (by rw [cj,hb.len];exact aH _)] at hf;rw [hf];exact aw
theorem NK (p:Src) (hp:DK p) (h:qp p=some false):GF prog 81 [.agg (av p)] [] (.v (.bool false)) []:=by
 have hs:=Dr p hp false h;refine ai func81 ntmps81 ?_;refine V [] hs ?_;exact al
theorem NM (p:Src) (hp:DK p) (h:qp p=some true) (ls:List (List S)) (hb:GH p ls):GF prog 81 [.agg (av p)] [] (.v (.bool (ls.all fun l=>fG l 1))) []:=by
 have hs:=Dr p hp true h;have hf:=PN p hp ls hb;generalize (ls.all fun l=>fG l 1)=b at *;refine ai func81 ntmps81 ?_;refine V [] hs ?_;refine V [] hf ?_;exact al
open Go.Im
theorem V9 {p:Src} (hw:cQ p<=1048576):DK p:=by
 obtain ⟨⟨a1,a2⟩,⟨b1,b2⟩,⟨c1,c2⟩,⟨d1,d2⟩⟩:=gn p;exact ⟨⟨by omega,fun s hs=>by have:=a2 s hs;omega⟩,⟨by omega,fun s hs=>by have:=b2 s hs;omega⟩,⟨by omega,fun f hf=>by obtain ⟨e1,e2,e3⟩:=c2 f hf;exact ⟨by omega,by omega,fun s hs=>by have:=e3 s hs;omega⟩⟩,⟨by omega,fun n hn=>by obtain ⟨e1,e2⟩:=d2 n hn;exact ⟨by omega,by omega⟩⟩⟩
theorem NL (p:Src) (hw:cQ p<=1048576):GF prog 81 [.agg (av p)] [] (.v (.bool (fI p))) []:=by
 have kW:=V9 hw;obtain ⟨b,hb⟩:=Ny p
 cases b with
 | false=>rw [aaE hb];exact NK p kW hb
 | true =>
  obtain ⟨l,hl⟩:=Wb hb;obtain ⟨ls,hf⟩:=hl.Mq;rw [aaF hl hf];exact NM p kW hb ls (N7 hl hf hw)
end Go.Xg
