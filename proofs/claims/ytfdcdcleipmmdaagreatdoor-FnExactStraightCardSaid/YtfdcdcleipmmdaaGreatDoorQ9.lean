/- Part 9 of proofs that are told in their last texts. -/
import Derived.Test.YtfdcdcleipmmdaaGreatDoorQ8
import Derived.Test.YtfdcdcleipmmdaaGreatDoorQ7
import Derived.ChangeMaps4
import Derived.Test.YtfdcdcleipmmdaaGreatDoorQ6
import Derived.Test.YtfdcdcleipmmdaaGreatDoorQ5
open List (foldl_append mem_append mem_singleton)
set_option linter.unusedVariables false
set_option linter.unusedSimpArgs false
set_option maxRecDepth 100000
set_option maxHeartbeats 4000000
namespace Go.Im
open Go.Xp Go.Sp
theorem zt (a b:Int):dW a b<=1000000000:=by unfold dW;split <;> omega
theorem DI:∀ (l:List Int) (v:Int),v<=1000000000->l.foldl dW v<=1000000000
 | [],v,h=>h
 | y::l,v,h=>by rw [List.foldl_cons];exact DI l _ (zt _ _)
theorem Sa {p:Src} {al:Bool} {V:Int->Int}:∀ t:T,cR p al V t<=1000000000
 | .mk n l=>by
  have:=C6 (al:=al) n;rw [cR];unfold tD;split
  ·omega
  ·split
   ·omega
   ·split
    ·exact zt _ _
    ·split
     ·exact zt _ _
     ·exact DI _ _ (by omega)
theorem Qj {p:Src} {l:List T} {al:Bool} (f:Int):jA p l al f<=1000000000:=by
 unfold jA;rw [Vf];split
 ·omega
 ·split
  ·exact Sa _
  ·omega
theorem Ut (p:Src) (al:Bool) (V:Int->Int) (n:Nd) (ks:List Int):tD p al V n ks =
  if (n.kind==4&&n.s==cD)=true then ((gh al n:Nat):Int) else if (n.kind==10)=true then -1 else if (n.kind==9)=true then dW (dW (gh al n:Nat) (ks.headD 0)) (qi (ks.getD 1 0) (ks.getD 2 0))
  else if (n.kind==4&&decide ((0:Int)<=bE p n.s))=true then dW (ks.foldl dW (gh al n:Nat)) (V (bE p n.s)) else ks.foldl dW (gh al n:Nat):=by
 unfold tD;simp only [aE,beq_iff_eq,decide_eq_true_eq]
theorem M3 {p:Src} {al:Bool} {V:Int->Int}:∀ {l:List T} {k:Nat} {t:T},l[k]?=some t->(jw p al V l)[k]?=some (cR p al V t)
 | [],k,t,h=>by simp at h
 | a::l,0,t,h=>by rw [jw];cases h;rfl
 | a::l,k+1,t,h=>by rw [jw];exact M3 (l:=l) h
def jD (p:Src) (l:List T) (al:Bool) (told:List Int):List Int:=(List.range p.fns.length).map fun i=>re p l al told ((i:Nat):Int)
theorem p8 {p:Src} {l:List T} {al:Bool} {told:List Int}:(jD p l al told).length=p.fns.length:=by unfold jD;simp
theorem tJ {p:Src} {l:List T} {al:Bool} {told:List Int} {i:Nat} (h:i < p.fns.length):(jD p l al told)[i]?=some (re p l al told (i:Int)):=by
 unfold jD;rw [aV,List.getElem?_range h];rfl
theorem Rc {p:Src} {l:List T} {al:Bool} {told:List Int} (g:Int) : -1<=re p l al told g/\re p l al told g<=1000000000:=by
 unfold re;split
 ·exact ⟨A2 g,Qj g⟩
 ·omega
theorem P6 {p:Src} {l:List T} {al:Bool} {told:List Int} {i:Nat} (h:i < p.fns.length):(jD p l al told).set i (jA p l al (i:Int))=jD p l al (told++[(i:Int)]):=by
 apply List.ext_getElem?;intro j;rw [iz,p8]
 by_cases hj:j < p.fns.length
 ·rw [tJ hj,tJ hj]
  by_cases fx:i=j
  ·subst fx;rw [ae rfl,ae hj];unfold re;rw [ae (by simp)]
  ·rw [ab fx];unfold re
   have:((j:Int)∈told++[(i:Int)])↔(j:Int)∈told:=by simp;omega
   simp only [this]
 ·rw [List.getElem?_eq_none (l:=jD p l al told) (by rw [p8];omega),List.getElem?_eq_none (l:=jD p l al _) (by rw [p8];omega)];split
  ·omega
  ·rfl
theorem MP {p:Src} {l:List T} {al:Bool} {told:List Int} {i:Nat} (h:(i:Int)∈a8 p (i:Int)):jD p l al (told++[(i:Int)])=jD p l al told:=by
 unfold jD;apply List.map_congr_left;intro j _;unfold re
 by_cases hj:(j:Int)∈told
 ·rw [ae hj,ae (List.mem_append_left _ hj)]
 ·rw [ab hj];split
  ·rename_i hm
   rcases qp hm with hm | hm
   ·exact absurd hm hj
   ·rw [mem_singleton] at hm;rw [hm];exact A3 h
  ·rfl
theorem MO {p:Src} {l:List T} {al:Bool}:jD p l al []=List.replicate p.fns.length (-1):=by
 unfold jD;rw [List.eq_replicate_iff];refine ⟨by simp,fun b hb=>?_⟩;obtain ⟨i,_,rfl⟩:=tI.1 hb;unfold re;rw [ab (by simp)]
theorem CX {abh:Int->List Int} (ht:F9 abh) {n:Nat} (hn:∀ a,(abh a).Nodup) (hr:∀ a,∀ y∈abh a,0<=y/\y < (n:Int)):∀ m k,k<=m->m<=n->(cK abh n m).take k=cK abh n k
 | 0,k,h,_=>by
  have:k=0:=by omega
  subst this;rfl
 | m+1,k,h,hm=>by
  have hl:=oC ht hn hr m (by omega)
  by_cases hk:k=m+1
  ·subst hk;exact jS (by rw [oC ht hn hr _ hm];exact aH _)
  ·obtain ⟨f,-,-,-,-,he⟩:=sJ ht hn hr (told:=cK abh n m) (by omega);rw [cK,he,List.take_append_of_le_length (by omega)];exact CX ht hn hr m k (by omega) (by omega)
theorem AL {abh:Int->List Int} (ht:F9 abh) {n:Nat} (hn:∀ a,(abh a).Nodup) (hr:∀ a,∀ y∈abh a,0<=y/\y < (n:Int)):∀ m,m<=n->(cK abh n m).Nodup/\∀ x∈cK abh n m,0<=x/\x < (n:Int)
 | 0,_=>⟨List.Pairwise.nil,fun x hx=>by cases hx⟩
 | m+1,hm=>by
  have hl:=oC ht hn hr m (by omega);obtain ⟨f,-,hf,pb,-,he⟩:=sJ ht hn hr (told:=cK abh n m) (by omega);obtain ⟨I,F⟩:=AL ht hn hr m (by omega);rw [cK,he];refine ⟨List.nodup_append.2 ⟨I,by simp,fun a ha b hb e=>?_⟩,fun x hx=>?_⟩
  ·rw [mem_singleton] at hb;subst hb;subst e;exact (yx.1 pb).2 ha
  ·rcases qp hx with hx | hx
   ·exact F x hx
   ·rw [mem_singleton] at hx;omega
theorem Gb {p:Src} {l:List T} {al:Bool} {i:Nat} (hi:i < p.fns.length):(jD p l al (cK (a8 p) p.fns.length p.fns.length))[i]?=some (jA p l al (i:Int)):=by
 have hn:=fun a=>(eX (p:=p) (fn:=a)).nodup
 have hr:=fun a=>(eX (p:=p) (fn:=a)).rng
 have ht:=mI p;obtain ⟨I,F⟩:=AL ht hn hr _ (aH _);have hl:=oC ht hn hr _ (aH _);rw [tJ hi];unfold re;rw [ae ?_]
 refine Classical.byContradiction fun bX=>?_
 have:=y9 (n:=p.fns.length) (l:=(i:Int)::cK (a8 p) p.fns.length p.fns.length) (List.nodup_cons.2 ⟨bX,I⟩) fun y hy=>by
  rcases ei hy with rfl | hy
  ·omega
  ·exact F y hy
 rw [List.length_cons,hl] at this;omega
end Go.Im
namespace Go.Xg
open GV (U)
open Go.RowKit Go.Xw Go.Proofs Tryz
open Go.Xp (Nd T Ar aO aC bZ)
open Go.Sp (Src)
open Go.Im
attribute [local irreducible] GW GL GO YG GC GA ba bc
theorem uJ (a b:Int) (ha : -1<=a/\a<=1000000000) (hb : -1<=b/\b<=1000000000):GF prog 62 [.v (ii a),.v (ii b)] [] (.v (ii (dW a b))) []:=by
 have e:dW a b=if decide (a < 0)=true then -1 else if decide (b < 0)=true then -1 else if decide ((1000000000:Int) < a+b)=true then -1 else a+b:=by
  unfold dW;simp only [decide_eq_true_eq];split <;> split <;> (try split) <;> (try split) <;> omega
 rw [e];clear e
 cases I:decide (a < 0)
 all_goals cases F:decide (b < 0)
 all_goals cases h3:decide ((1000000000:Int) < a+b)
 all_goals
  refine ai func62 ntmps62 ?_;exact ak
theorem HA (a b:Int):GF prog 63 [.v (ii a),.v (ii b)] [] (.v (ii (qi a b))) []:=by
 have e:qi a b=if decide (a < 0)=true then -1 else if decide (b < 0)=true then -1 else if decide (b < a)=true then a else b:=by
  unfold qi;simp only [decide_eq_true_eq];split <;> split <;> (try split) <;> (try split) <;> omega
 rw [e];clear e
 cases I:decide (a < 0)
 all_goals cases F:decide (b < 0)
 all_goals cases h3:decide (b < a)
 all_goals
  refine ai func63 ntmps63 ?_;exact ak
theorem QT (t:T) (al:Bool):GF prog 61 [.agg (cT t),.v (.bool al)] [] (.v (ii ((gh al t.n:Nat):Int))) []:=by
 have e:gh al t.n=if (!al || (t.n.kind==4&&t.n.s==[112,117,116]))=true then 1 else 0:=rfl
 rw [e];clear e;cases al
 all_goals cases I:(t.n.kind==4)
 all_goals cases F:(t.n.s==[112,117,116])
 all_goals
  refine ai func61 ntmps61 ?_;exact ak
theorem ON (p:Src) (al:Bool) (out:List Int) (V:Int->Int) (hV:∀ (i:Nat) x,out[i]?=some x->V (i:Int)=x) (fL:p.fns.length<=1048576) (SK:out.length=p.fns.length) (uB:∀ x∈out,-1<=x/\x<=1000000000):∀ (N:Nat) (t:T),aO t<=N->aO t<=1099511627776->fo t=true ->
  GF prog 44 [.agg (ao p),.agg (cT t),ints out,.v (.bool al)] [] (.v (ii (cR p al V t))) []:=by
 intro N
 induction N with
 | zero=>intro t h;have:=jq t;omega
 | succ N ih =>
 intro t hN hb hk
 cases t with
 | mk n l =>
 rw [Go.Xp.aO] at hN hb;rw [fo,aE] at hk;rw [cR,Ut];have hO:=QT (.mk n l) al;have hF:=tP p n.s ag;have ar:=BA p n.s;have ow:=bZ l;have eR:(aU l).length=l.length:=aW l;have fg:=C6 (al:=al) n
 have yM:∀ x∈l,fo x=true:=by have h:=hk.2;rw [qf] at h;exact fE.1 h
 have wo:n.kind=9->l.length=2\/l.length=3:=fun h=>by
  have:=hk.1;simp [cY,h] at this;omega
 have e1:cr (fun x:Go.Sp.Fn=>x.name==n.s) p.fns=bE p n.s:=rfl;rw [e1] at hF;have e2:(T.mk n l).n=n:=rfl;rw [e2] at hO
 have NZ:∀ t,-1<=cR p al V t/\cR p al V t<=1000000000:=fun t=>⟨R9 t,Sa t⟩
 have pF:=fun {k:Nat} {t:T} (h:l[k]?=some t)=>M3 (p:=p) (al:=al) (V:=V) h
 have Z6:=zB p al V l;have e3:cD=[115,105,122,101]:=rfl;rw [e3];obtain ⟨o,ho⟩:∃ o:Int,((gh al n:Nat):Int)=o:=⟨_,rfl⟩;rw [ho] at hO |-
 have DN : -1<=o/\o<=1000000000:=by omega
 cases g1:(n.kind==4)
 all_goals cases g2:(n.s==[115,105,122,101])
 case true.true =>
  refine ai func44 ntmps44 ?_;refine D [] hO ?_;exact ak
 all_goals cases g3:(n.kind==10)
 case true.false.true | false.true.true | false.false.true =>
  refine ai func44 ntmps44 ?_;refine D [] hO ?_;exact ak
 all_goals cases g4:(n.kind==9)
 case true.false.false.true | false.true.false.true | false.false.false.true =>
  have h9:=wo (by simpa using g4);obtain ⟨u0,CO⟩:∃ u,l[0]?=some u:=⟨l[0]'ag,eF _⟩;obtain ⟨u1,kq⟩:∃ u,l[1]?=some u:=⟨l[1]'ag,eF _⟩;have sG:=cI CO;have lg:=cI kq;have i0:=ih u0 (by have:=iK CO;omega) (by have:=iK CO;omega) (yM u0 (bm CO));have i1:=ih u1 (by have:=iK kq;omega) (by have:=iK kq;omega) (yM u1 (bm kq))
  have a0:(jw p al V l).headD 0=cR p al V u0:=by have:=pF CO;cases hc:jw p al V l with | nil=>rw [hc] at this;cases this | cons x r=>rw [hc] at this;cases this;rfl
  have a1:(jw p al V l).getD 1 0=cR p al V u1:=by rw [List.getD_eq_getElem?_getD,pF kq];rfl
  have hA:=uJ o (cR p al V u0) DN (NZ u0);have ko:=zr o (cR p al V u0);have hle:=zt o (cR p al V u0);simp only [Bool.false_and,Bool.and_false,Bool.false_eq_true,if_false,if_true];rw [a0,a1]
  cases g5:(((aU l).length:Int)==3) with
  | false =>
   have kE:l.length=2:=by rw [eR] at g5;simp at g5;omega
   have a2:(jw p al V l).getD 2 0=0:=by rw [List.getD_eq_getElem?_getD,List.getElem?_eq_none ag];rfl
   rw [a2];have hM:=HA (cR p al V u1) 0;have VI:=uJ (dW o (cR p al V u0)) (qi (cR p al V u1) 0) ⟨ko,hle⟩ (by unfold qi;have:=NZ u1;split <;> (try split) <;> omega);generalize dW o (cR p al V u0)=x0 at *;generalize qi (cR p al V u1) 0=x1 at *;generalize dW x0 x1=x2 at *;generalize cR p al V u0=y0 at *;generalize cR p al V u1=y1 at *;refine ai func44 ntmps44 ?_;refine D [] hO ?_;refine aJ (aD 0 8 (.a 8 (.a 9 (.q 10 .nil)))) ?_;refine au ?_;refine az [] i0 ?_;refine az [] hA ?_;refine G ?_;refine aJ (aD 0 8 (.q 9 (.a 8 (.a 10 (.a 11 (.q 12 .nil)))))) ?_;refine au ?_;refine az [] i1 ?_;refine az [] hM ?_;refine az [] VI ?_;exact ax
  | true =>
   have Y1:l.length=3:=by rw [eR] at g5;simp at g5;omega
   obtain ⟨u2,kG⟩:∃ u,l[2]?=some u:=⟨l[2]'ag,eF _⟩;have eE:=cI kG;have i2:=ih u2 (by have:=iK kG;omega) (by have:=iK kG;omega) (yM u2 (bm kG))
   have a2:(jw p al V l).getD 2 0=cR p al V u2:=by rw [List.getD_eq_getElem?_getD,pF kG];rfl
   rw [a2];have hM:=HA (cR p al V u1) (cR p al V u2);have VI:=uJ (dW o (cR p al V u0)) (qi (cR p al V u1) (cR p al V u2)) ⟨ko,hle⟩ (by unfold qi;have:=NZ u1;have:=NZ u2;split <;> (try split) <;> omega);generalize dW o (cR p al V u0)=x0 at *;generalize qi (cR p al V u1) (cR p al V u2)=x1 at *;generalize dW x0 x1=x2 at *;generalize cR p al V u0=y0 at *;generalize cR p al V u1=y1 at *;generalize cR p al V u2=y2 at *;refine ai func44 ntmps44 ?_;refine D [] hO ?_;refine aJ (aD 0 7 (.a 7 (.q 8 .nil))) ?_;refine au ?_;refine az [] i2 ?_;refine G ?_;refine aJ (aD 0 8 (.a 8 (.a 9 (.q 10 .nil)))) ?_;refine au ?_;refine az [] i0 ?_;refine az [] hA ?_;refine G ?_;refine aJ (aD 0 8 (.q 9 (.a 8 (.a 10 (.a 11 (.q 12 .nil)))))) ?_;refine au ?_;refine az [] i1 ?_;refine az [] hM ?_;refine az [] VI ?_;exact ax
 all_goals
  simp only [Bool.false_and,Bool.and_false,Bool.true_and,Bool.false_eq_true,if_false]
  have SC:∀ k,-1<=((jw p al V l).take k).foldl dW o/\((jw p al V l).take k).foldl dW o<=1000000000:=fun k=>⟨DH _ o DN.1,DI _ o DN.2⟩
  refine ai func44 ntmps44 ?_;refine D [] hO ?_;refine GW.range (aU l).length (fun k fr Γ=>fr=[U,U,ints out,.v (.bool al),.loc 0 0,.loc 1 0,U,U,U,.v (ii (((jw p al V l).take k).foldl dW o)),U,U,U,U,U,U,U,U,U,U,U,U,U,U,U,U,U,U,U,U,U,U,U,U,U,U,U,U,U,U,U,U,U,U,U,U,U,U,U,U,U,U,U,U,U,U,U,U,U,U,U,U,U,U,U,U,U,U,U,U,U,.sl 6 (aU l),.v (ii ((aU l).length:Int)),.v (ii (k:Nat)),U,U,U,U,U,U,U,U,U,U,U,U,U,U,U,U,U,U,U,U,U,U,U,U,U,U,U,U,U,U,U]/\Γ=[.box 34 (ao p),.box 75 (cT (.mk n l))]) ?_ ag ?_ ?_ ?_
  ·exact jb
  ·rintro k _ _ ⟨rfl,rfl⟩;exact dI
  ·rintro k _ _ ar ⟨rfl,rfl⟩;rw [eR] at ar;obtain ⟨u,hu⟩:∃ u,l[k]?=some u:=⟨l[k],by simp [ar]⟩;have hr:=cI hu;have cB:=iK hu;have hi:=ih u ag ag (yM u (bm hu));have hA:=uJ (((jw p al V l).take k).foldl dW o) (cR p al V u) (SC k) (NZ u)
   have jZ:((jw p al V l).take (k+1)).foldl dW o=dW (((jw p al V l).take k).foldl dW o) (cR p al V u):=by
    rw [cq,pF hu,foldl_append];rfl
   rw [jZ];generalize ((jw p al V l).take k).foldl dW o=s at *;generalize dW s (cR p al V u)=s' at *;generalize cR p al V u=y at *;refine G ?_;refine D [] hi ?_;refine D [] hA ?_;exact ⟨rfl,rfl,_,_,(Wk.cut (n:=2) (aX _) rfl).trans (Wk.aK av),rfl,rfl⟩
  ·rintro _ _ ⟨rfl,rfl⟩;rw [eR,<-Z6,cy];have hs:=SC (jw p al V l).length;rw [cy] at hs;generalize (jw p al V l).foldl dW o=s at *;refine be ?_
   cases g6:decide ((0:Int)<=bE p n.s)
   ·try rw [ab aM]
    generalize bE p n.s=z at *;refine G ?_;refine D [] hF ?_;exact ak
   ·first
    | (generalize bE p n.s=z at *;refine G ?_;refine D [] hF ?_;refine bV ?_;exact ⟨rfl,rfl⟩)
    | (rw [ae rfl];have h0:=lS g6;obtain ⟨i,hi⟩:∃ i:Nat,bE p n.s=(i:Int):=⟨(bE p n.s).toNat,by omega⟩;rw [hi] at hF ar g6 |-;have qR:i < out.length:=(by omega);obtain ⟨x,hx⟩:∃ x,out[i]?=some x:=⟨out[i],by simp [qR]⟩;have uD:=iR hx;rw [hV i x hx];have hA:=uJ s x hs (uB x (bm hx));generalize dW s x=s' at *;refine G ?_;refine D [] hF ?_;refine D [] hA ?_;refine bV ?_;exact ⟨rfl,rfl⟩)
theorem DQ:∀ (l:List Int) (k:Nat) (x:Int),kh (bC l) k 0 (.v (ii x))=bC (l.set k x)
 | [],k,x=>rfl
 | y::l,0,x=>rfl
 | y::l,k+1,x=>by
  have:=DQ l k x;unfold bC at this |-;rw [List.map_cons,kh,this];rfl
theorem MZ {B:Bs} {K:Fz} {β:Bt} {w:World} {fr:List GV} {l:List Value} {A C:List Ob} {x1 x2 x3 x4:Operand} {S:List (List GV)} {h z:Value} {ps ts:List GV} (hI:Inv B K β (A++(.vech 3 1 S h::C)) w) (hF:FR K β fr l) (I:a6 fr x1=.agg ps) (F:a6 fr x2=.agg ts) (hx:a6 fr x3=.v h) (hy:a6 fr x4=.v z) (hp:uP ps=true) (ht:uP ts=true) :
  ∃ K1,nL K1 w/\jl K1 (fun _=>.no) w/\bg K1 (fun _=>.no) ([x1,x2,x3,x4].map (ev l)) [.agg ps,.agg ts,.sl 1 S,.v z]:=by
 obtain ⟨K1,hk,q1,q2,q3⟩:=hI.view (i:=A.length) (E:=3) (k:=1) (rows:=S) (x:=h) (by rw [nk (aH _),vA];rfl);have r1:=hF.ev x1;rw [I] at r1;have r2:=hF.ev x2;rw [F] at r2;refine ⟨K1,q1,q2,?_⟩;show bg K1 _ [ev l x1,ev l x2,ev l x3,ev l x4] _;rw [hF.ij hx,hF.ij hy];exact .cons (G1 hk (nI hp) r1) (.cons (G1 hk (nI ht) r2) (.cons q3 (.cons (.v _) .nil)))
theorem Hz (p:Src) (hw:dk p<=1048576) (al:Bool) (ct:cU p=true) {l:List T} (hg:Go.Im.Good p l) :
  GF prog 23 [.agg (ao p),.v (.bool al)] [] (ints (jD p l al (cK (a8 p) p.fns.length p.fns.length))) []:=by
 obtain ⟨⟨a1,a2⟩,⟨b1,b2⟩,⟨c1,c2⟩,⟨d1,d2⟩⟩:=dN p
 have hn:=fun a=>(eX (p:=p) (fn:=a)).nodup
 have hr:=fun a=>(eX (p:=p) (fn:=a)).rng
 have ht:=mI p;have hlen:=hg.len
 have wm:(p.fns.map ay).length=p.fns.length:=by simp
 have hL:=IM p hw
 have he:FZ p=cK (a8 p) p.fns.length p.fns.length:=by unfold FZ;rw [ae ct]
 have ow:=oC ht hn hr p.fns.length (aH _)
 have lL:=fun k hk=>CX ht hn hr p.fns.length k hk (aH _)
 rw [he] at hL
 have N9:((cK (a8 p) p.fns.length p.fns.length).map fun i=>[GV.v (ii i)]).length=p.fns.length:=by rw [bS];exact ow
 have hz:(List.replicate p.fns.length (kR [ii 0]))=bC (List.replicate p.fns.length 0):=by simp [bC,kR]
 refine ai func23 ntmps23 ?_;refine GL.Kn rfl ⟨by omega,by omega⟩ ?_;intro a c;refine cm ?_;rw [wm];simp only [hz];refine G ?_;refine GW.range p.fns.length (fun k fr Γ=>fr=[U,.v (.bool al),.loc 0 0,U,U,.v (.slice a p.fns.length c),U,U,U,U,U,U,U,U,.v (ii (p.fns.length:Int)),.v (ii (k:Nat)),U,U,U,U,U,U,U,U,U,U,U,U,U,U,U,U,U,U,U,U,U,U,U,U,U,U,U,U,U,U,U,U,U,U,U,U]/\Γ=[.box 34 (ao p),.vech 3 1 (bC (List.replicate k (-1)++List.replicate (p.fns.length - k) 0)) (.slice a p.fns.length c)]) ?_ ag ?_ ?_ ?_
 ·exact jb
 ·rintro k _ _ ⟨rfl,rfl⟩;exact dI
 ·rintro k _ _ ar ⟨rfl,rfl⟩
  have hS:(bC (List.replicate k (-1)++List.replicate (p.fns.length - k) 0)).length=p.fns.length:=by rw [ew];simp;omega
  have uD:(bC (List.replicate k (-1)++List.replicate (p.fns.length - k) 0))[k]?=some [.v (ii 0)]:=by
   unfold bC;rw [aV,nk (by simp),List.length_replicate,vA,List.getElem?_replicate,ae ag];rfl
  have jZ:kh (bC (List.replicate k (-1)++List.replicate (p.fns.length - k) 0)) k 0 (.v (ii (-1)))=bC (List.replicate (k+1) (-1)++List.replicate (p.fns.length - (k+1)) 0):=by
   rw [DQ];congr 1;apply List.ext_getElem?;intro j;simp only [iz,List.getElem?_append,List.getElem?_replicate,List.length_replicate,aZ]
   split <;> split <;> (try split) <;> (try split) <;> first | rfl | omega | (simp;omega)
  generalize bC (List.replicate k (-1)++List.replicate (p.fns.length - k) 0)=S at *;refine G ?_;refine Iw ?_;refine G ?_;rw [jZ];exact ⟨rfl,rfl,_,_,Wk.aK av,rfl,rfl⟩
 ·rintro _ _ ⟨rfl,rfl⟩;refine be ?_
  have e0:List.replicate p.fns.length (-1:Int)++List.replicate (p.fns.length - p.fns.length) 0=jD p l al []:=by rw [vA,MO];simp
  rw [e0];refine G ?_;refine D [] hL ?_;refine GW.range ((cK (a8 p) p.fns.length p.fns.length).map fun i=>[GV.v (ii i)]).length (fun k fr Γ=>fr=[U,.v (.bool al),.loc 0 0,U,U,.v (.slice a p.fns.length c),U,U,U,U,U,U,U,U,U,U,U,U,U,U,U,U,U,ints (cK (a8 p) p.fns.length p.fns.length),.v (ii (((cK (a8 p) p.fns.length p.fns.length).map fun i=>[GV.v (ii i)]).length:Int)),.v (ii (k:Nat)),U,U,U,U,U,U,U,U,U,U,U,U,U,U,U,U,U,U,U,U,U,U,U,U,U,U]/\Γ=[.box 34 (ao p),.vech 3 1 (bC (jD p l al (cK (a8 p) p.fns.length k))) (.slice a p.fns.length c)]) ?_ ag ?_ ?_ ?_
  ·exact jb
  ·rintro k _ _ ⟨rfl,rfl⟩;exact dI
  ·rintro k _ _ ar ⟨rfl,rfl⟩;rw [N9] at ar;obtain ⟨f,-,hf,pb,-,bI⟩:=sJ ht hn hr (told:=cK (a8 p) p.fns.length k) (by rw [oC ht hn hr k ag];exact ar);have jZ:cK (a8 p) p.fns.length (k+1)=cK (a8 p) p.fns.length k++[(f:Int)]:=bI
   have hxf:(cK (a8 p) p.fns.length p.fns.length)[k]?=some (f:Int):=by
    have I:=lL (k+1) ag;rw [jZ,cq,lL k ag] at I;have F:=List.append_cancel_left I
    cases hc:(cK (a8 p) p.fns.length p.fns.length)[k]? with
    | none=>rw [hc] at F;cases F
    | some x=>rw [hc] at F;simpa using F
   have Wb:=iR hxf;obtain ⟨fn,fL⟩:∃ fn,p.fns[f]?=some fn:=⟨p.fns[f],by simp [hf]⟩;obtain ⟨t,Zd⟩:∃ t,l[f]?=some t:=⟨l[f]'ag,eF _⟩;have h:=hg.fn fL Zd;have NT:=Fj p hw ct h;have hfy:=og (tO ct hf) h;rw [<-hfy] at NT;have St:=xu (a8 p (f:Int)) (f:Int) (by have:=(eX (p:=p) (fn:=(f:Int))).len;omega);rw [jZ]
   have hSl:(bC (jD p l al (cK (a8 p) p.fns.length k))).length=p.fns.length:=by rw [ew];exact p8
   cases hc:(a8 p (f:Int)).contains (f:Int) with
   | true =>
    rw [hc] at St;rw [MP (ej.1 hc)];generalize a8 p (f:Int)=ff at *;refine G ?_;refine D [] NT ?_;refine D [] St ?_;exact ⟨rfl,rfl,_,_,Wk.aK av,rfl,rfl⟩
   | false =>
    rw [hc] at St
    have bX:(f:Int) ∉ a8 p (f:Int):=fun hm=>by rw [ej.2 hm] at hc;cases hc
    have XT:=O5 (al:=al) ct hg h pb bX;have eV:=P6 (p:=p) (l:=l) (al:=al) (told:=cK (a8 p) p.fns.length k) hf
    have Y8:(p.fns.map ay)[f]?=some (ay fn):=by rw [aV,fL];rfl
    have cB:=h.sz;have hSub:=Dg p (fun n h=>by have:=(d2 n h).2;omega) _ _ t ((uX _).1 t _ h.st (aH _))
    have Ay:=ON p al (jD p l al (cK (a8 p) p.fns.length k)) (re p l al (cK (a8 p) p.fns.length k)) (fun i x hx=>by
     have hi:i < p.fns.length:=by have:=(bh hx).1;rwa [p8] at this
     rw [tJ hi] at hx;exact Ae hx) ag p8 (fun x hx=>by
     obtain ⟨i,hi⟩:=List.getElem?_of_mem hx
     have qR:i < p.fns.length:=by have:=(bh hi).1;rwa [p8] at this
     rw [tJ qR] at hi;cases hi;exact Rc _) _ t (aH _) ag (CU hg Zd)
    rw [XT] at Ay
    have hrS:(bC (jD p l al (cK (a8 p) p.fns.length k)))[f]?=some [.v (ii (re p l al (cK (a8 p) p.fns.length k) (f:Int)))]:=by
     unfold bC;rw [aV,tJ hf];rfl
    have Wj:=DQ (jD p l al (cK (a8 p) p.fns.length k)) f (jA p l al (f:Int));rw [eV] at Wj;rw [<-Wj];have e3:ints (jD p l al (cK (a8 p) p.fns.length k))=.sl 1 (bC (jD p l al (cK (a8 p) p.fns.length k))):=rfl;rw [e3] at Ay;obtain ⟨b,qy⟩:∃ b:Nat,fn.body=(b:Int):=⟨fn.body.toNat,by have:=h.body;omega⟩;rw [qy,gA] at hSub;unfold ay at Y8;rw [qy] at Y8;generalize bC (jD p l al (cK (a8 p) p.fns.length k))=S at *;generalize a8 p (f:Int)=ff at *;generalize jA p l al (f:Int)=cc at *;refine G ?_;refine D [] NT ?_;refine D [] St ?_;refine aJ (aD 0 10 (.q 11 (.q 12 (.a 10 (.a 13 (.q 14 (.a 15 .nil))))))) ?_;refine au ?_;refine az [] hSub ?_;refine OA rfl rfl (GL.borrow Ay (fun B K β w l hI hF=>MZ (A:=[_]) (C:=[]) hI hF rfl rfl rfl rfl rfl rfl) ?_);refine dE ?_;refine au ?_;refine OA rfl rfl (GL.Zw rfl rfl rfl hrS rfl rfl rfl rfl ?_);refine dE ?_;refine bj ?_;exact ⟨rfl,rfl,_,_,Wk.aK av,rfl,rfl⟩
  ·rintro _ _ ⟨rfl,rfl⟩;rw [N9];refine be ?_;refine G ?_;refine GW.wk (Wk.pZ (t:=4) (i:=1) rfl rfl rfl) ?_;exact ak
end Go.Xg
namespace Go.Xg
open Go.RowKit Go.Xw Go.MapKept
def sV:List MapEntry->Int->Option Value
 | [],_=>none
 | e::r,x=>match e.key with
  | .int .i64 a=>if a=x then some e.val else sV r x
  | _=>sV r x
def LO (l:List MapEntry):Prop:=∀ e∈l,IsKey (.int .i64) e.key
theorem BQ {v:Value} (h:IsKey (.int .i64) v):∃ a,v=ii a:=by
 cases v <;> simp [IsKey] at h
 subst h;exact ⟨_,rfl⟩
theorem mF {e:MapEntry} {r:List MapEntry} {x a:Int} (h:e.key=ii a):sV (e::r) x=if a=x then some e.val else sV r x:=by
 rw [sV,h]
theorem EL:∀ (l:List MapEntry) (x:Int) (i:Nat),LO l->∃ r,Instr.findNow (.int .i64) (ii x) l i=some r/\r.map Prod.snd=sV l x
 | [],x,i,_=>⟨none,rfl,rfl⟩
 | e::r,x,i,h=>by
  obtain ⟨a,ha⟩:=BQ (h e (.head _));rw [mF ha]
  by_cases hx:a=x
  ·subst hx;exact ⟨some (i,e.val),by simp [Instr.findNow,ha,Instr.sameNow],by simp⟩
  ·obtain ⟨q,I,F⟩:=EL r x (i+1) fun y hy=>h y (.tail _ hy)
   have hxa:(x==a)=false:=by simpa using Ne.symm hx
   exact ⟨q,by simp [Instr.findNow,ha,Instr.sameNow,hxa,I],by rw [ab hx];exact F⟩
theorem EM:∀ (l:List MapEntry) (k v:Int) (c:Nat),LO l->(∀ e∈l,e.key≠ii k)->∀ x,sV (l++[⟨ii k,ii v,c⟩]) x=if x=k then some (ii v) else sV l x
 | [],k,v,c,_,_,x=>by
  rw [List.nil_append,mF (a:=k) rfl]
  by_cases hx:x=k
  ·subst hx;simp
  ·rw [ab (Ne.symm hx),ab hx]
 | e::r,k,v,c,h,hn,x=>by
  obtain ⟨a,ha⟩:=BQ (h e (.head _));rw [List.cons_append,mF ha,mF ha,EM r k v c (fun y hy=>h y (.tail _ hy)) (fun y hy=>hn y (.tail _ hy)) x]
  have:a≠k:=fun hk=>hn e (.head _) (by rw [ha,hk])
  by_cases hx:a=x
  ·subst hx;simp [this]
  ·simp only [ab hx]
theorem Gp:∀ (l:List MapEntry) (k v:Int) (i j:Nat) (y:Value),LO l->Instr.findNow (.int .i64) (ii k) l i=some (some (i+j,y))->∀ x,sV (l.modify j fun e=>{ e with key:=ii k,val:=ii v }) x=if x=k then some (ii v) else sV l x
 | [],k,v,i,j,y,_,hf,x=>by cases hf
 | e::r,k,v,i,j,y,h,hf,x=>by
  obtain ⟨a,ha⟩:=BQ (h e (.head _))
  by_cases hk:a=k
  ·subst hk;simp [Instr.findNow,ha,Instr.sameNow] at hf
   have hj:j=0:=by omega
   subst hj;rw [List.modify_zero_cons,mF ha,mF (a:=a) rfl]
   by_cases hx:a=x
   ·subst hx;simp
   ·rw [ab hx,ab hx,ab (Ne.symm hx)]
  ·have mK:(k==a)=false:=by simpa using Ne.symm hk
   simp [Instr.findNow,ha,Instr.sameNow,mK] at hf
   have hj:∃ j',j=j'+1:=by
    cases j with
    | succ j'=>exact ⟨j',rfl⟩
    | zero =>
     exfalso
     have hq:∀ (l:List MapEntry) (i n:Nat) (y:Value),Instr.findNow (.int .i64) (ii k) l i=some (some (n,y))->i<=n:=by
      intro l
      induction l with
      | nil=>intro i n y h;cases h
      | cons e r ih =>
       intro i n y h;unfold Instr.findNow at h;split at h
       ·simp at h;omega
       ·have:=ih _ _ _ h;omega
       ·cases h
     have:=hq _ _ _ _ hf;omega
   obtain ⟨j',rfl⟩:=hj;rw [List.modify_succ_cons,mF ha,mF ha,Gp r k v (i+1) j' y (fun y hy=>h y (.tail _ hy)) (by rw [show i+1+j'=i+(j'+1) by omega];exact hf) x]
   by_cases hx:a=x
   ·subst hx;simp [hk]
   ·simp only [ab hx]
def IsMap (f:Int->Option Int) (o:Obj):Prop:=∃ es clock,o=.map es clock/\LO es.toList/\∀ x,sV es.toList x=(f x).map ii
def B8 (f:Int->Option Int) (k v:Int):Int->Option Int:=fun x=>if x=k then some v else f x
class Ld (P:Program) (t:TypeId):Prop where
 und:∃ k e,P.underlying t=some (.map k e)/\P.underlying k=some (.int .i64)/\(P.info? e).bind (·.zero)=some (ii 0)
section
variable {P:Program} {w:World} {t:TypeId} [hT:Ld P t] {f:Int->Option Int} {b:Nat} {o:Obj}
theorem Q5 (hb:w.heap[b]?=some o) (hf:IsMap f o) (k:Int):(Instr.lookup t (.map (some b)) (ii k) true).run P w=.ok (.tuple #[ii ((f k).getD 0),.bool (f k).isSome]) w:=by
 obtain ⟨kt,e,I,F,h3⟩:=hT.und;obtain ⟨es,clock,rfl,h4,h5⟩:=hf;have hk:IsKey (.int .i64) (ii k):=rfl;obtain ⟨r,h6,h7⟩:=EL es.toList k 0 h4
 have hz:(zeroValue e).run P w=.ok (ii 0) w:=by
  cases hq:P.info? e with
  | none=>simp [hq] at h3
  | some i=>simp [hq] at h3;simp [zeroValue,typeInfo,hq,h3]
 rw [h5] at h7
 cases hfk:f k with
 | none =>
  have:r=none:=by rw [hfk] at h7;simpa using h7
  subst this;simp [Instr.lookup,run_underlying I,Go.MapKept.run_getObj_map hb,Go.MapKept.run_checkKey F hk,Go.MapKept.run_findKey F h6,Result.andThen,hz]
 | some v =>
  rw [hfk] at h7
  cases r with
  | none=>simp at h7
  | some p =>
   obtain ⟨i,y⟩:=p;simp at h7;subst h7;simp [Instr.lookup,run_underlying I,Go.MapKept.run_getObj_map hb,Go.MapKept.run_checkKey F hk,Go.MapKept.run_findKey F h6,Result.andThen]
theorem Un (hb:w.heap[b]?=some o) (hf:IsMap f o) (k v:Int):∃ w' o',(Instr.mapUpdate t (.map (some b)) (ii k) (ii v)).run P w=.ok () w'/\w'.heap[b]?=some o'/\IsMap (B8 f k v) o'/\Ext (·=b) w w':=by
 obtain ⟨kt,e,I,F,h3⟩:=hT.und;obtain ⟨es,clock,rfl,h4,h5⟩:=hf;have hk:IsKey (.int .i64) (ii k):=rfl
 have gU:∀ o',Ext (·=b) w { w with heap:=w.heap.setIfInBounds b o' }:=fun o'=>⟨rfl,rfl,rfl,by simp,fun i hi cj=>by simp [Ne.symm cj]⟩
 have SQ:∀ x,(B8 f k v x).map ii=if x=k then some (ii v) else sV es.toList x:=fun x=>by
  unfold B8
  by_cases hx:x=k
  ·simp [hx]
  ·rw [ab hx,ab hx,h5]
 rcases findNow_spec hk es.toList 0 h4 with ⟨q1,q2⟩ | ⟨j,e0,q1,q2,q3⟩
 ·refine ⟨_,.map (es.push ⟨ii k,ii v,clock⟩) (clock+1),by simp [Instr.mapUpdate,run_underlying I,Go.MapKept.run_getObj_map hb,Go.MapKept.run_checkKey F hk,Go.MapKept.run_findKey F q1,Go.MapKept.run_setObj_map _ hb,Result.andThen],(heap_set hb).1,⟨_,_,rfl,?_,fun x=>?_⟩,gU _⟩
  ·intro y hy;simp only [Array.toList_push,mem_append,mem_singleton] at hy
   rcases hy with hy | rfl
   ·exact h4 y hy
   ·rfl
  ·rw [Array.toList_push,EM _ _ _ _ h4 q2,SQ]
 ·have hj:es[j]?=some e0:=by simpa using q2
  refine ⟨_,.map (es.modify j fun e'=>{ e' with key:=ii k,val:=ii v }) clock,by simp [Instr.mapUpdate,run_underlying I,Go.MapKept.run_getObj_map hb,Go.MapKept.run_checkKey F hk,Go.MapKept.run_findKey F q1,hj,q3,run_keyThatStays hk,Go.MapKept.run_setObj_map _ hb,Result.andThen],(heap_set hb).1,⟨_,_,rfl,?_,fun x=>?_⟩,gU _⟩
  ·exact isKey_modify h4 _ _ fun e' YV=>by rw [hj] at YV;cases YV;exact q3.symm
  ·rw [Array.toList_modify,Gp _ _ _ _ _ _ h4 q1,SQ]
end
section
variable {P:Program} {m:Nat} {Q:eu} {fr:List GV} {Γ:List Ob} {ops:Array Oper} {rest:List Oper} {d:Option Tmp} {op:Op} {ty:TypeId} {pos:String} {af:Array Edge}
theorem YG.look {x y:Operand} {t:TypeId} [hT:Ld P t] (i:Nat) {b:Nat} {f:Int->Option Int} {k:Int} (hx:a6 fr x=.v (.map (some b))) (hy:a6 fr y=.v (ii k)) (bJ:Γ[i]?=some (.blk b (IsMap f))) :
  YG P (.lookup t x y true) fr Γ (.tup [.v (ii ((f k).getD 0)),.v (.bool (f k).isSome)]):=fun B K β w l hI hF=>by
 obtain ⟨I,⟨o,F,h3⟩,_⟩:=hI.ob i _ bJ;have hc:bg K β [ii ((f k).getD 0),.bool (f k).isSome] [.v (ii ((f k).getD 0)),.v (.bool (f k).isSome)]:=.cons (.v _) (.cons (.v _) .nil);exact ⟨.tuple #[ii ((f k).getD 0),.bool (f k).isSome],fun d ty pos af=>by simp [execOp,hF.ij hx,hF.ij hy,Q5 (t:=t) F h3 k],.tup [ii ((f k).getD 0),.bool (f k).isSome] _ rfl hc.2⟩
theorem YG.min {x y:Operand} {t1 t2:TypeId} {a b:Int} (hx:a6 fr x=.v (ii a)) (hy:a6 fr y=.v (ii b)):YG P (.call ⟨.builtin .min,#[x,y],#[t1,t2]⟩) fr Γ (.v (ii (if b < a then b else a))) :=
 YG.v2 hx hy fun l w h k=>fun d ty pos af=>by simp [execOp,resolve,invoke,builtin,Builtin.min_,Builtin.min2,h,k]
theorem YG.max {x y:Operand} {t1 t2:TypeId} {a b:Int} (hx:a6 fr x=.v (ii a)) (hy:a6 fr y=.v (ii b)):YG P (.call ⟨.builtin .max,#[x,y],#[t1,t2]⟩) fr Γ (.v (ii (if a < b then b else a))) :=
 YG.v2 hx hy fun l w h k=>fun d ty pos af=>by simp [execOp,resolve,invoke,builtin,Builtin.max_,Builtin.max2,h,k]
theorem GL.mkMap {t:TypeId} (h:∀ b,GL P m ops Q rest (bz fr d (.v (.map (some b)))) (Γ++[.blk b (IsMap fun _=>none)])):GL P m ops Q (⟨d,.makeMap t none,ty,pos,af,none⟩::rest) fr Γ:=fun B K β w l hm hI hF=>by
 have e:(Instr.makeMap t none).run P w=.ok (.map (some w.heap.size)) (w.alloc (.map #[] 0)):=rfl;have hn:=vQ.of w (.map #[] 0);have hI1:=hI.same hn.ext;have hle:dJ β (fC β Γ.length (.fix w.heap.size)):=ic (by rw [hI.out _ (aH _)];trivial)
 have o8:=hI1.Lh (x:=.fix w.heap.size) (y:=.blk w.heap.size (IsMap fun _=>none)) (fun b hb=>by
  cases hb;refine ⟨fun i hi=>?_,hI.ext.size,?_⟩
  ·have:=hI.lt hi;omega
  ·have:=hI.tab.pow.lt;have:=hI.tab.spc.lt;exact ⟨by omega,by omega⟩) ⟨bq,⟨_,hn.blk,⟨#[],0,rfl,(fun e he=>by simp at he),fun x=>rfl⟩⟩,fun o=>by
   cases hk:K w.heap.size o with
   | none=>rfl
   | some g=>have:=hI.fz.lt hk;omega⟩ hle
 exact WL.val (v:=.map (some w.heap.size)) (w':=w.alloc (.map #[] 0)) (by simp [execOp,e]) (h _ B K _ _ _ hm o8 ((hF.mono (c6.refl K) hle).put d (.v _)))
theorem GL.WI {x y z:Operand} {t:TypeId} [hT:Ld P t] (i:Nat) {b:Nat} {f:Int->Option Int} {k v:Int} (hx:a6 fr x=.v (.map (some b))) (hy:a6 fr y=.v (ii k)) (hz:a6 fr z=.v (ii v)) (bJ:Γ[i]?=some (.blk b (IsMap f)))
  (h:GL P m ops Q rest (bz fr d (.v undef)) (oset Γ i (.blk b (IsMap (B8 f k v))))):GL P m ops Q (⟨d,.mapUpdate t x y z,ty,pos,af,none⟩::rest) fr Γ:=fun B K β w l hm hI hF=>by
 obtain ⟨I,⟨o,F,h3⟩,h4⟩:=hI.ob i _ bJ;obtain ⟨w',o',r1,r2,r3,r4⟩:=Un (P:=P) (t:=t) F h3 k v
 have dQ:(β i).blk=some b:=by rw [I];rfl
 have bA:Inv B K β (oset Γ i (.blk b (IsMap (B8 f k v)))) w':=by
  refine ⟨hI.ext.step r4 (fun j hj=>by subst hj;exact (hI.own i _ dQ).symm),hI.kle,hI.ble,hI.loc,hI.fz.ext r4 (fun b' o g la he=>by subst he;rw [h4] at la;cases la),fun j y hj=>?_,fun j hj=>hI.out j (by simpa [bD] using hj),hI.dis,hI.own,hI.kn,hI.tab.step r4 (fun j hj=>⟨i,by subst hj;exact dQ⟩) (c6.refl K) (fun i b2 h=>.inl ⟨i,h⟩)⟩;rw [bD,iz] at hj;split at hj
  ·rename_i fx;split at hj
   ·cases hj;subst fx
    exact ⟨I,⟨o',r2,r3⟩,h4⟩
   ·cases hj
  ·rename_i fx;exact (hI.ob j y hj).ext r4 (fun b' bo he=>by subst he;exact fx (hI.dis i j _ dQ bo)) (c6.refl K) (dJ.refl β) rfl (fun _ _ _ h=>h)
 exact WL.Zv (w':=w') (by simp [execOp,hF.ij hx,hF.ij hy,hF.ij hz,r1]) (h B K β w' _ hm bA (hF.put d (.v _)))
end
end Go.Xg
namespace Go.Im
open Go.Xp Go.Sp
theorem Us (p:Src) (al:Bool) (W:Int->Nat) (n:Nd) (ks:List Nat):xC p al W n ks =
  if (n.kind==4&&n.s==cD)=true then gh al n else if (n.kind==9)=true then gn (gh al n+ks.headD 0+ks.tail.foldl max 0)
  else if (n.kind==4&&decide ((0:Int)<=bE p n.s))=true then gn (ks.foldl (fun m k=>gn (m+k)) (gh al n)+W (bE p n.s)) else ks.foldl (fun m k=>gn (m+k)) (gh al n):=by
 unfold xC;simp only [aE,beq_iff_eq,decide_eq_true_eq]
theorem M1 {p:Src} {al:Bool} {W:Int->Nat}:∀ {l:List T} {k:Nat} {t:T},l[k]?=some t->(iF p al W l)[k]?=some (cP p al W t)
 | [],k,t,h=>by simp at h
 | a::l,0,t,h=>by rw [iF];cases h;rfl
 | a::l,k+1,t,h=>by rw [iF];exact M1 (l:=l) h
theorem GR:∀ (l:List Nat) (v:Nat),v<=1000000001->(∀ x∈l,x<=1000000001)->l.foldl max v<=1000000001
 | [],v,h,_=>h
 | y::l,v,h,k=>by rw [List.foldl_cons];exact GR l _ (by have:=k y (by simp);omega) fun x hx=>k x (by simp [hx])
theorem M2 {p:Src} {al:Bool} {W:Int->Nat}:∀ (l:List T),∀ x∈iF p al W l,x<=1000000001
 | [],x,h=>by rw [iF] at h;cases h
 | t::l,x,h=>by
  rw [iF] at h
  rcases ei h with rfl | h
  ·exact FQ t
  ·exact M2 l x h
def Eu (p:Src) (l:List T) (al:Bool) (f:Int->Option Int):Prop:=∀ g v,f g=some v->v=((cg p l al g:Nat):Int)
theorem Ku {p:Src}:∀ {l:List T} {ls:List ah} {k:Nat} {t:T},xF p l ls->l[k]?=some t->∃ WD,za p t WD
 | [],ls,k,t,h,hk=>by simp at hk
 | a::l,ls,0,t,h,hk=>by rw [xF] at h;cases hk;exact ⟨_,h.1⟩
 | a::l,ls,k+1,t,h,hk=>by rw [xF] at h;exact Ku (l:=l) h.2 hk
theorem KY:∀ {l:List T} {k:Nat} {t:T},dp l->l[k]?=some t->fT t
 | [],k,t,h,hk=>by simp at hk
 | a::l,0,t,h,hk=>by rw [dp] at h;cases hk;exact h.1
 | a::l,k+1,t,h,hk=>by rw [dp] at h;exact KY (l:=l) h.2 hk
theorem Jy {p:Src}:∀ {l:List T} {k:Nat} {t:T},l[k]?=some t->∀ g∈iV p t,g∈dS p l
 | [],k,t,hk=>by simp at hk
 | a::l,0,t,hk=>fun g hg=>by rw [dS];cases hk;exact List.mem_append_left _ hg
 | a::l,k+1,t,hk=>fun g hg=>by rw [dS];exact List.mem_append_right _ (Jy (l:=l) hk g hg)
end Go.Im
namespace Go.Xg
open GV (U)
open Go.RowKit Go.Xw Go.Proofs Tryz
open Go.Xp (Nd T Ar aO aC bZ da)
open Go.Sp (Src)
open Go.Im
attribute [local irreducible] GW GL GO YG GC GA ba bc
instance:Ld prog 83:=⟨3,3,aj,aj,aj⟩
theorem A0 (n:Nat):GF prog 86 [.v (ii (n:Nat))] [] (.v (ii ((gn n:Nat):Int))) []:=by
 have e:((gn n:Nat):Int)=if (1000000001:Int) < (n:Int) then 1000000001 else (n:Int):=by unfold gn;split <;> omega
 rw [e];refine ai func86 ntmps86 ?_;refine GL.q (YG.min rfl rfl) ?_;refine eh ?_;exact ax
def An (p:Src) (abh:FuncId) (cap:List GV) (b:Nat) (f:Int->Option Int):List Ob :=
 [.box 85 [strs p.globals,.sl 2 (p.arrays.map aL),.sl 3 (p.fns.map ay),.sl 5 (p.nodes.map aB),.fn (.func abh) [] cap,.v (.map (some b))],.blk b (IsMap f)]
def U4 (p:Src) (l:List T) (al:Bool) (abh:FuncId) (cap:List GV) (g:Int):Prop :=
 ∀ (b:Nat) (f:Int->Option Int),Eu p l al f->GC prog 51 [.loc 0 0,.v (ii g)] (An p abh cap b f) fun x Δ=>x=.v (ii ((cg p l al g:Nat):Int))/\∃ f',Δ=An p abh cap b f'/\Eu p l al f'
theorem TG (p:Src) (l0:List T) (al:Bool) (abh:FuncId) [hFun:aI prog abh] (cap:List GV) (ur:cap=[]\/∃ cs,cap=[.box cs 0]) (hp:p.nodes.length<=1048576) (eS:∀ n∈p.nodes,n.kids.length<=1048576) (fL:p.fns.length<=1048576)
  (hO:∀ (a:Nat) n,p.nodes[a]?=some n->GF prog abh (.v (ii (a:Nat))::cap) [] (.v (ii ((gh al n:Nat):Int))) []):∀ (N:Nat) (t:T),aO t<=N->∀ (a:Nat) (ls:List ah),dV p.nodes a t->fT t->fo t=true->za p t ls->(∀ g∈iV p t,U4 p l0 al abh cap g) ->
  ∀ (b:Nat) (f:Int->Option Int),Eu p l0 al f->GC prog 71 [.loc 0 0,.v (ii (a:Nat))] (An p abh cap b f) fun x Δ=>x=.v (ii ((cP p al (cg p l0 al) t:Nat):Int))/\∃ f',Δ=An p abh cap b f'/\Eu p l0 al f':=by
 intro N
 induction N with
 | zero=>intro t h;have:=jq t;omega
 | succ N ih =>
 intro t hN a ls bI wf hk ho vj b f hS
 cases t with
 | mk n l =>
 rw [Go.Xp.aO] at hN
 rcases ur with rfl | ⟨cs,rfl⟩
 let cap:List GV:=[]
 rotate_left
 let cap:List GV:=[.box cs 0]
 all_goals
  have DO:=bI;have Xk:=wf;rw [dV] at bI;obtain ⟨hn,Y0,rD⟩:=bI;rw [fo,aE] at hk;rw [fT] at wf;rw [za] at ho;rw [iV] at vj
  have yM:∀ x∈l,fo x=true:=by have h:=hk.2;rw [qf] at h;exact fE.1 h
  have wo:n.kind=9->l.length=2\/l.length=3:=fun h=>by
   have:=hk.1;simp [cY,h] at this;omega
  have me:n.kids.length=l.length:=by rw [Y0,da]
  have ov:=eS n (bm hn);have hr:=ia hn;have Su:=hO a n hn;have J0:=xn p a n hn;have Sr:=yw p n.s ag;have e1:cr (fun x:Go.Sp.Fn=>x.name==n.s) p.fns=bE p n.s:=rfl;rw [e1] at Sr;have ar:=BA p n.s;have fg:=C6 (al:=al) n
  have pF:=fun {k:Nat} {t:T} (h:l[k]?=some t)=>M1 (p:=p) (al:=al) (W:=cg p l0 al) h
  have cX:=Jw p al (cg p l0 al) l;have aah:=M2 (p:=p) (al:=al) (W:=cg p l0 al) l
  have cB:tC n=(n.kind==4&&n.s==cD):=by
   rw [<-zP DO];show ((n.kind==4&&n.s==cD)&&_)=_
   cases h:(n.kind==4&&n.s==cD) with
   | false=>rfl
   | true =>
    simp only [aE,beq_iff_eq] at h;obtain ⟨k,e1,-,-,-,-,-⟩:=KD Xk ho.1 h.1 h.2;have e1:l=[k]:=e1;subst e1;rfl
  have Wh:cS (.mk n l)=(n.kind==4&&n.s==cD):=by rw [zP DO,cB]
  rw [cB] at J0;rw [Wh] at ho;rw [cP,Us]
  have kD:(n.kind==4&&n.s==cD)=false->∀ {k:Nat} {u:T},l[k]?=some u->∀ (b:Nat) (f:Int->Option Int),Eu p l0 al f->GC prog 71 [.loc 0 0,.v (ii ((a+1+aC (l.take k):Nat)))] (An p abh cap b f) fun x Δ=>x=.v (ii ((cP p al (cg p l0 al) u:Nat):Int))/\∃ f',Δ=An p abh cap b f'/\Eu p l0 al f':=fun h0 k u hu b f hS=>by
   obtain ⟨WD,eT⟩:=Ku (ho.2 h0) hu;have abb:=iK hu;exact ih u ag _ WD (dD.ix l (a+1) k u rD hu) (KY wf.2.2 hu) (yM u (bm hu)) eT (fun g hg=>vj g (List.mem_append_right _ (Jy hu g hg))) b f hS
  clear ih;obtain ⟨o,hoo⟩:∃ o:Nat,gh al n=o:=⟨_,rfl⟩;rw [hoo] at Su fg |-
  have bG:∀ {k:Nat} {u:T},l[k]?=some u->(n.kids.map fun i=>[GV.v (ii i)])[k]?=some [.v (ii ((a+1+aC (l.take k):Nat):Int))]:=fun {k u} hu=>by
   have mr:=sI (n:=a+1) hu;rw [<-Y0] at mr;exact iR mr
  unfold aB at hr;unfold An at kD |-
  cases h0:(n.kind==4&&n.s==cD) with
  | true =>
   rw [h0] at J0;rw [ae rfl];refine ai func71 ntmps71 ?_;refine kT [] Su ?_;refine G ?_;refine D [] J0 ?_;refine nS ?_;exact pk (n:=2) rfl dH rfl (aH _) rfl rfl ⟨rfl,f,rfl,hS⟩
  | false =>
  have kD:=fun {k:Nat} {u:T} (hu:l[k]?=some u)=>kD h0 hu
  rw [h0] at J0;rw [ab aM]
  cases h9:(n.kind==9) with
  | true =>
   have hl9:=wo (by simpa using h9);rw [ae rfl];obtain ⟨u0,CO⟩:∃ u,l[0]?=some u:=⟨l[0]'ag,eF _⟩;have sG:=bG CO;have ou:=kD CO
   have a0:(iF p al (cg p l0 al) l).headD 0=cP p al (cg p l0 al) u0:=by
    have:=pF CO
    cases hc:iF p al (cg p l0 al) l with
    | nil=>rw [hc] at this;cases this
    | cons x r=>rw [hc] at this;cases this;rfl
   have E7:=FQ (p:=p) (al:=al) (W:=cg p l0 al) u0;rw [a0]
   have tf:((n.kids.map fun i=>[GV.v (ii i)]).drop 1).length=l.length - 1:=by rw [iM,bS,me]
   have oy:(iF p al (cg p l0 al) l).tail=(iF p al (cg p l0 al) l).drop 1:=by rw [List.drop_one]
   rw [oy]
   have Z9:∀ k,(((iF p al (cg p l0 al) l).drop 1).take k).foldl max 0<=1000000001:=fun k=>GR _ 0 ag fun x hx=>aah x (List.mem_of_mem_drop (List.mem_of_mem_take hx))
   have aaN:Nat.blt 1 (n.kids.map fun i=>[GV.v (ii i)]).length=true:=by rw [bS,me];simp only [Nat.blt_eq];omega
   generalize cP p al (cg p l0 al) u0=y0 at *;refine ai func71 ntmps71 ?_;refine kT [] Su ?_;refine G ?_;refine D [] J0 ?_;refine GW.range ((n.kids.map fun i=>[GV.v (ii i)]).drop 1).length (fun k fr Γ=>∃ f,fr=[.loc 0 0,.v (ii (a:Nat)),U,U,U,.loc 2 0,.v (ii (o:Nat)),.v (ii (((((iF p al (cg p l0 al) l).drop 1).take k).foldl max 0:Nat):Int)),U,U,U,U,U,U,U,U,U,U,U,U,U,U,U,U,U,U,U,U,U,U,U,U,U,U,U,U,U,U,U,.sl 1 ((n.kids.map fun i=>[GV.v (ii i)]).drop 1),.v (ii (((n.kids.map fun i=>[GV.v (ii i)]).drop 1).length:Int)),.v (ii (k:Nat)),U,U,U,U,U,U,U,U,U,U,U,U,U,U,U,U,U,U,U,U,U,U,U,U,U,U,U,U,U,U,U,U,U,U,U,U,U,U,U,U,U,U,U,U,U,U,U,U,U,U,U,U,U,U,U]/\Γ=[.box 85 [strs p.globals,.sl 2 (p.arrays.map aL),.sl 3 (p.fns.map ay),.sl 5 (p.nodes.map aB),.fn (.func abh) [] cap,.v (.map (some b))],.blk b (IsMap f),.box 60 [.v (ii n.kind),.v (ii n.at_),.v (ii n.n),.v (sv n.s),ints n.kids]]/\Eu p l0 al f) ?_ ag ?_ ?_ ?_
   ·exact ⟨_,_,Wk.aK av,f,rfl,rfl,hS⟩
   ·rintro k _ _ ⟨f,rfl,rfl,_⟩;exact dI
   ·rintro k _ _ ar ⟨f,rfl,rfl,hS⟩;rw [tf] at ar;obtain ⟨u,hu⟩:∃ u,l[k+1]?=some u:=⟨l[k+1]'ag,eF _⟩;have Y9:=bG hu
    have hrd:((n.kids.map fun i=>[GV.v (ii i)]).drop 1)[k]?=some [.v (ii ((a+1+aC (l.take (k+1)):Nat):Int))]:=by rw [List.getElem?_drop,Nat.add_comm 1 k];exact Y9
    have VU:=kD hu b f hS
    have jZ:(((iF p al (cg p l0 al) l).drop 1).take (k+1)).foldl max 0=max ((((iF p al (cg p l0 al) l).drop 1).take k).foldl max 0) (cP p al (cg p l0 al) u):=by
     rw [cq,List.getElem?_drop,Nat.add_comm 1 k,pF hu,foldl_append];rfl
    rw [jZ];generalize (((iF p al (cg p l0 al) l).drop 1).take k).foldl max 0=s at *;generalize cP p al (cg p l0 al) u=y at *
    have hmx:((max s y:Nat):Int)=if (s:Int) < (y:Int) then (y:Int) else (s:Int):=by split <;> omega
    rw [hmx];refine G ?_;refine dm [0,1] VU ?_;rintro _ _ ⟨rfl,f',rfl,CD⟩;refine dG ?_;refine G ?_;refine GL.q (YG.max rfl rfl) ?_;refine eh ?_;refine G ?_;exact ⟨rfl,rfl,_,_,Wk.aK av,f',rfl,rfl,CD⟩
   ·rintro _ _ ⟨f,rfl,rfl,hS⟩;have hm:=Z9 ((n.kids.map fun i=>[GV.v (ii i)]).drop 1).length;have CN:((iF p al (cg p l0 al) l).drop 1).take ((n.kids.map fun i=>[GV.v (ii i)]).drop 1).length=(iF p al (cg p l0 al) l).drop 1:=jS (by rw [iM,cX,tf];exact aH _);rw [CN] at hm |-;generalize ((iF p al (cg p l0 al) l).drop 1).foldl max 0=s at *;have s9:=A0 (o+y0+s)
    have G8:(((o+y0+s:Nat):Int))=(o:Int)+(y0:Int)+(s:Int):=by omega
    rw [G8] at s9;generalize gn (o+y0+s)=r at *;have ou:=ou b f hS;refine be ?_;refine G ?_;refine dm [0,1] ou ?_;rintro _ _ ⟨rfl,f',rfl,CD⟩;refine dG ?_;refine G ?_;refine D [] s9 ?_;refine nS ?_;exact pk (n:=2) rfl dH rfl (aH _) rfl rfl ⟨rfl,f',rfl,CD⟩
  | false =>
   rw [ab aM]
   have VY:∀ k,((iF p al (cg p l0 al) l).take k).foldl (fun m k=>gn (m+k)) o<=1000000001:=fun k=>BB _ o ag
   refine ai func71 ntmps71 ?_;refine kT [] Su ?_;refine G ?_;refine D [] J0 ?_;refine GW.range (n.kids.map fun i=>[GV.v (ii i)]).length (fun k fr Γ=>∃ f,fr=[.loc 0 0,.v (ii (a:Nat)),U,U,U,.loc 2 0,.v (ii ((((iF p al (cg p l0 al) l).take k).foldl (fun m k=>gn (m+k)) o:Nat):Int)),U,U,U,U,U,U,U,U,U,U,U,U,U,U,U,U,U,U,U,U,U,U,U,U,U,U,U,U,U,U,U,U,U,U,U,U,U,U,U,U,U,U,U,U,U,U,U,U,U,U,U,U,U,U,U,U,ints n.kids,.v (ii ((n.kids.map fun i=>[GV.v (ii i)]).length:Int)),.v (ii (k:Nat)),U,U,U,U,U,U,U,U,U,U,U,U,U,U,U,U,U,U,U,U,U,U,U,U,U,U,U,U,U,U,U]/\Γ=[.box 85 [strs p.globals,.sl 2 (p.arrays.map aL),.sl 3 (p.fns.map ay),.sl 5 (p.nodes.map aB),.fn (.func abh) [] cap,.v (.map (some b))],.blk b (IsMap f),.box 60 [.v (ii n.kind),.v (ii n.at_),.v (ii n.n),.v (sv n.s),ints n.kids]]/\Eu p l0 al f) ?_ (by rw [bS];omega) ?_ ?_ ?_
   ·exact ⟨_,_,Wk.aK av,f,rfl,rfl,hS⟩
   ·rintro k _ _ ⟨f,rfl,rfl,_⟩;exact dI
   ·rintro k _ _ ar ⟨f,rfl,rfl,hS⟩;rw [bS,me] at ar;obtain ⟨u,hu⟩:∃ u,l[k]?=some u:=⟨l[k],by simp [ar]⟩;have Y9:=bG hu;have VU:=kD hu b f hS
    have jZ:((iF p al (cg p l0 al) l).take (k+1)).foldl (fun m k=>gn (m+k)) o=gn (((iF p al (cg p l0 al) l).take k).foldl (fun m k=>gn (m+k)) o+cP p al (cg p l0 al) u):=by
     rw [cq,pF hu,foldl_append];rfl
    have hs:=VY k;have hy:=FQ (p:=p) (al:=al) (W:=cg p l0 al) u;rw [jZ];generalize ((iF p al (cg p l0 al) l).take k).foldl (fun m k=>gn (m+k)) o=s at *;generalize cP p al (cg p l0 al) u=y at *;have s9:=A0 (s+y)
    have G8:(((s+y:Nat):Int))=(s:Int)+(y:Int):=by omega
    rw [G8] at s9;generalize gn (s+y)=r at *;refine G ?_;refine dm [0,1] VU ?_;rintro _ _ ⟨rfl,f',rfl,CD⟩;refine dG ?_;refine G ?_;refine D [] s9 ?_;exact ⟨rfl,rfl,_,_,Wk.aK av,f',rfl,rfl,CD⟩
   ·rintro _ _ ⟨f,rfl,rfl,hS⟩;have hs:=VY l.length;rw [bS,me];have CN:(iF p al (cg p l0 al) l).take l.length=iF p al (cg p l0 al) l:=jS (by rw [cX];exact aH _);rw [CN] at hs |-;generalize (iF p al (cg p l0 al) l).foldl (fun m k=>gn (m+k)) o=s at *;refine be ?_
    cases g1:(n.kind==4) with
    | false =>
     simp only [Bool.false_and,Bool.false_eq_true,if_false];generalize bE p n.s=z at *;refine G ?_;refine aJ (aD 0 6 (.a 6 (.q 7 .nil))) ?_;refine au ?_;refine az [] Sr ?_;refine G ?_;refine nS ?_;exact pk (n:=2) rfl dH rfl (aH _) rfl rfl ⟨rfl,f,rfl,hS⟩
    | true =>
     simp only [Bool.true_and]
     cases g6:decide ((0:Int)<=bE p n.s) with
     | false =>
      rw [ab aM];generalize bE p n.s=z at *;refine G ?_;refine aJ (aD 0 6 (.a 6 (.q 7 .nil))) ?_;refine au ?_;refine az [] Sr ?_;refine G ?_;refine nS ?_;exact pk (n:=2) rfl dH rfl (aH _) rfl rfl ⟨rfl,f,rfl,hS⟩
     | true =>
      rw [ae rfl];have yI:=vj (bE p n.s) (List.mem_append_left _ (by unfold qt;rw [ae ⟨by simpa using g1,lS g6⟩];exact List.mem_singleton_self _)) b f hS;have hwl:=Gl (p:=p) (l:=l0) (al:=al) (bE p n.s);generalize bE p n.s=z at *;generalize cg p l0 al z=y at *;have s9:=A0 (s+y)
      have G8:(((s+y:Nat):Int))=(s:Int)+(y:Int):=by omega
      rw [G8] at s9;generalize gn (s+y)=r at *;unfold An at yI;refine G ?_;refine aJ (aD 0 6 (.a 6 (.q 7 .nil))) ?_;refine au ?_;refine az [] Sr ?_;refine G ?_;refine dm [0,1] yI ?_;rintro _ _ ⟨rfl,f',rfl,CD⟩;refine dG ?_;refine G ?_;refine D [] s9 ?_;refine nS ?_;exact pk (n:=2) rfl dH rfl (aH _) rfl rfl ⟨rfl,f',rfl,CD⟩
theorem XG (p:Src) (l0:List T) (al:Bool) (abh:FuncId) [hFun:aI prog abh] (cap:List GV) (ur:cap=[]\/∃ cs,cap=[.box cs 0]) (hp:p.nodes.length<=1048576) (eS:∀ n∈p.nodes,n.kids.length<=1048576) (fL:p.fns.length<=1048576) (ct:cU p=true) (hg:Go.Im.Good p l0)
  (hO:∀ (a:Nat) n,p.nodes[a]?=some n->GF prog abh (.v (ii (a:Nat))::cap) [] (.v (ii ((gh al n:Nat):Int))) []):∀ (N i:Nat) (fn:Go.Sp.Fn) (t:T),fq p l0 i fn t->ub p l0 (i:Int)->(a8 p (i:Int)).length < N->U4 p l0 al abh cap (i:Int):=by
 intro N
 induction N with
 | zero=>intro i fn t h hs hN;omega
 | succ N ih =>
 intro i fn t h hs hN b f hS
 have wj:∀ g∈iV p t,U4 p l0 al abh cap g:=fun g lf=>by
  have il:=iG ct h lf;have ar:=oh il (hs g (.inr il)).1;obtain ⟨j,f',t',rfl,h'⟩:=oS hg il;exact ih j f' t' h' (hs.down il) ag
 have hw:=Nk (al:=al) ct hg h hs
 have hr:(p.fns.map ay)[i]?=some (ay fn):=by rw [aV,h.gf];rfl
 obtain ⟨bd,qy⟩:∃ bd:Nat,fn.body=(bd:Int):=⟨fn.body.toNat,by have:=h.body;omega⟩;have bI:=h.st;rw [qy,gA] at bI;have Ay:=TG p l0 al abh cap ur hp eS fL hO _ t (aH _) bd fn.params bI h.wf (CU hg h.gt) h.ok wj b f hS;rw [<-hw] at Ay;unfold ay at hr;rw [qy] at hr
 have hSv:=fun v=>hS (i:Int) v
 unfold An at Ay |-;clear wj ih hO
 rcases ur with rfl | ⟨cs,rfl⟩
 all_goals
  cases hf:f (i:Int) with
  | some v =>
   have hv:=hSv v hf
   have I:(f (i:Int)).isSome=true:=by rw [hf];rfl
   have F:(f (i:Int)).getD 0=((cg p l0 al (i:Int):Nat):Int):=by rw [hf,<-hv];rfl
   refine ai func51 ntmps51 ?_;refine GL.q (YG.look 1 rfl rfl rfl) ?_;refine eh ?_;refine G ?_;refine nS ?_;exact pk (n:=2) rfl dH rfl (aH _) rfl rfl ⟨by rw [F];rfl,f,rfl,hS⟩
  | none =>
   have I:(f (i:Int)).isSome=false:=by rw [hf];rfl
   refine ai func51 ntmps51 ?_;refine GL.q (YG.look 1 rfl rfl rfl) ?_;refine eh ?_;refine G ?_;refine dm [0,1] Ay ?_;rintro _ _ ⟨rfl,f',rfl,CD⟩;refine dG ?_;refine G ?_;refine GL.WI 1 rfl rfl rfl rfl ?_;refine cm ?_;refine G ?_;refine nS ?_;refine pk (n:=2) rfl dH rfl (aH _) rfl rfl ⟨rfl,B8 f' (i:Int) ((cg p l0 al (i:Int):Nat):Int),rfl,fun g v hg=>?_⟩;unfold B8 at hg;split at hg
   ·rename_i he;cases hg;rw [he]
   ·exact CD g v hg
end Go.Xg
namespace Go.Xg
open Go.RowKit Go.Xw Go.Proofs
open Go.Xp (Nd T Ar aO aC bZ)
open Go.Sp (Src)
open Go.Im
attribute [local irreducible] GW GL GO YG GC GA ba bc
end Go.Xg
namespace Go.Xg
open Go.RowKit Go.Xw Go.Proofs
open Go.Xp (Nd T Ar aO aC da)
open Go.Sp (Src)
open Go.Im
attribute [local irreducible] GW GL GO YG GC GA ba bc
end Go.Xg
namespace Go.Im
open Go.Xp Go.Sp
def jk (s:Bool) (_:Nat) (t:T) (_:List ah):Bool:=s || (t.n.kind==10)
mutual
theorem Sg:∀ (t:T) (a:Nat) (s:Bool) (ls:List ah),(gS jk t a s ls).1=(s || wY t)
 | .mk n l,a,s,ls=>by
  rw [gS,wY];simp only;rw [Nv l];unfold jk;rw [Bool.or_assoc];rfl
theorem Nv:∀ (l:List T) (a:Nat) (s:Bool) (ls:List ah),(dw jk l a s ls).1=(s || r9 l)
 | [],a,s,ls=>by rw [dw,r9,Bool.or_false]
 | t::r,a,s,ls=>by
  rw [dw,r9,Nv r,Sg t,Bool.or_assoc]
end
end Go.Im
namespace Go.Xg
open Go.RowKit Go.Xw Go.Proofs Tryz
open Go.Xp (Nd T Ar aO aC)
open Go.Sp (Src)
open Go.Im
attribute [local irreducible] GW GL GO YG GC GA ba bc
theorem UU (p:Src) (a:Nat) (n:Nd) (l:List T) (ls:List ah) (s:Bool) (E1:TypeId) (ad:Option Addr) (cp:Nat) (hn:p.nodes[a]?=some n) :
  GF prog 70 [.v (ii (a:Nat)),.v (.slice ad ls.length cp),.loc 0 0,.box (ao p) 0] [.box E1 [.v (.bool s)],.vech 9 1 (cQ ls) (.slice ad ls.length cp)] (.tup [])
   [.box E1 [.v (.bool (jk s a (.mk n l) ls))],.vech 9 1 (cQ ls) (.slice ad ls.length cp)]:=by
 have hr:=ia hn;have e:jk s a (.mk n l) ls=(s || (n.kind==10)):=rfl;rw [e];unfold aB at hr;cases s
 all_goals
  refine ai func70 ntmps70 ?_;exact gL
end Go.Xg
namespace Go.Xg
open GV (U)
open Go.RowKit Go.Xw Go.Proofs Tryz
open Go.Xp (Nd T Ar aO aC da)
open Go.Sp (Src)
open Go.Im
attribute [local irreducible] GW GL GO YG GC GA ba bc
def Ir (p:Src):GV:=.fn (.func 70) [] [.loc 0 0,.box (ao p) 0]
def Tj (p:Src):GV:=.fn (.func 84) [] [.loc 1 0,.loc 2 0,.box (ao p) 0,.loc 3 0]
def Fw (p:Src) (E1 E2 E3 E4:TypeId) (s:Bool) (ls:List ah) (ad:Option Addr) (cp:Nat):List Ob :=
 [.box E1 [.v (.bool s)],.box E2 [Ir p],.box E3 [.v (.slice ad ls.length cp)],.box E4 [Tj p],.vech 9 1 (cQ ls) (.slice ad ls.length cp)]
theorem RT (p:Src) (E1 E2 E3 E4:TypeId) (hp:p.nodes.length<=1048576) (eS:∀ n∈p.nodes,n.kids.length<=1099511627776):∀ (N:Nat) (t:T),aO t<=N->∀ (a:Nat) (s:Bool) (ls:List ah) (ad:Option Addr) (cp:Nat),dV p.nodes a t->ls.length+aO t<=8388608 ->
  GC prog 84 [.v (ii (a:Nat)),.loc 1 0,.loc 2 0,.box (ao p) 0,.loc 3 0] (Fw p E1 E2 E3 E4 s ls ad cp) fun g Δ=>g=.tup []/\∃ np nq,Δ=Fw p E1 E2 E3 E4 (gS jk t a s ls).1 (gS jk t a s ls).2 np nq:=by
 intro N
 induction N with
 | zero=>intro t h;have:=jq t;omega
 | succ N ih =>
 intro t hN a s ls ad cp bI mu
 cases t with
 | mk n l =>
 rw [Go.Xp.aO] at hN mu;have DO:=bI;rw [dV] at bI;obtain ⟨hn,hk,rD⟩:=bI;rw [gS];have hr:=ia hn;have ov:=eS n (bm hn);have ht:=UU p a n l ls s E1 ad cp hn;generalize gk:jk s a (.mk n l) ls=s1 at *
 have me:n.kids.length=l.length:=by rw [hk,da]
 unfold aB at hr;unfold Fw Ir Tj;refine ai func84 ntmps84 ?_;refine GL.sf [0,4] ht rfl rfl rfl (by repeat (first | exact trivial | refine ⟨rfl,?_⟩)) ?_;rintro _ _ ⟨rfl,rfl⟩;refine dG ?_;refine G ?_;refine GW.range (n.kids.map fun i=>[GV.v (ii i)]).length (fun k fr Γ=>∃ np nq,fr=[.v (ii (a:Nat)),.loc 1 0,.loc 2 0,.box (ao p) 0,.loc 3 0,U,U,U,U,U,U,U,U,U,U,U,U,ints n.kids,.v (ii ((n.kids.map fun i=>[GV.v (ii i)]).length:Int)),.v (ii (k:Nat)),U,U,U,U,U,U,U,U,U,U,U,U,U,U,U,U,U,U,U,U,U,U,U]/\Γ=Fw p E1 E2 E3 E4 (dw jk (l.take k) (a+1) s1 ls).1 (dw jk (l.take k) (a+1) s1 ls).2 np nq) ?_ (by rw [bS];omega) ?_ ?_ ?_
 ·exact ⟨_,_,Wk.aK av,ad,cp,rfl,rfl⟩
 ·rintro k _ _ ⟨ad,cp,rfl,rfl⟩;exact dI
 ·rintro k _ _ ar ⟨ad,cp,rfl,rfl⟩;rw [bS,me] at ar;obtain ⟨u,hu⟩:∃ u,l[k]?=some u:=⟨l[k],by simp [ar]⟩;have mr:=sI (n:=a+1) hu;rw [<-hk] at mr;have uD:=iR mr;have cB:=iK hu;have Of:dV p.nodes (a+1+aC (l.take k)) u:=dD.ix l (a+1) k u rD hu
  have hlen:(dw jk (l.take k) (a+1) s1 ls).2.length<=ls.length+aC (l.take k):=by
   rw [od,aZ];have:=qG (l.take k);omega
  rw [A5 _ hu];generalize (dw jk (l.take k) (a+1) s1 ls).1=s2 at *;generalize (dw jk (l.take k) (a+1) s1 ls).2=ls2 at *;have hv:=ih u ag (a+1+aC (l.take k)) s2 ls2 ad cp Of ag;unfold Fw Ir Tj at hv |-;refine G ?_;refine GL.sf [0,1,2,3,4] hv rfl rfl rfl (by repeat (first | exact trivial | refine ⟨rfl,?_⟩)) ?_;rintro _ _ ⟨rfl,np,nq,rfl⟩;refine dG ?_;refine G ?_;exact ⟨rfl,rfl,_,_,Wk.aK av,np,nq,rfl,rfl⟩
 ·rintro _ _ ⟨ad,cp,rfl,rfl⟩;rw [bS,me,cy]
  have hlen:(dw jk l (a+1) s1 ls).2.length<=ls.length+aC l:=by
   rw [od,aZ];have:=qG l;omega
  generalize (dw jk l (a+1) s1 ls).1=s2 at *;generalize (dw jk l (a+1) s1 ls).2=ls2 at *;have Oa:(cQ ls2).length=ls2.length:=tV ls2;unfold Fw Ir Tj;refine be ?_
  cases hv:(n.kind==13) with
  | false =>
   rw [ab (by simpa using hv)];refine G ?_;refine cZ ?_;exact ⟨rfl,ad,cp,rfl⟩
  | true =>
   rw [ae (by simpa using hv)];refine G ?_;refine aJ (aD 0 7 (.a 7 (.a 8 (.a 9 .nil)))) ?_;refine au ?_;refine eZ ?_;refine au ?_;refine OA rfl rfl (GL.qL 4 (news:=[[.v (sv n.s)]]) rfl rfl rfl bf rfl rfl (by refine ⟨?_,?_⟩;(· show _+1<=_;omega);(· show (_+1) * _<=_;omega)) ?_);intro su sx;refine dE ?_;refine bj ?_;refine cZ ?_;exact ⟨rfl,su,sx,by simp [cQ]⟩
theorem TN (p:Src) (E1:TypeId) (i:Nat) (f:Go.Sp.Fn) (t:T) (s:Bool) (hp:p.nodes.length<=1048576) (eS:∀ n∈p.nodes,n.kids.length<=1099511627776)
  (hf:p.fns[i]?=some f) (xk:f.params.length<=1048576) (hb:0<=f.body) (bI:dV p.nodes f.body.toNat t) (cB:aO t<=1048576) :
  GF prog 69 [.agg (ao p),.v (ii (i:Nat)),Ir p] [.box E1 [.v (.bool s)]] (.tup []) [.box E1 [.v (.bool (gS jk t f.body.toNat s f.params).1)]]:=by
 have hr:(p.fns.map ay)[i]?=some (ay f):=by rw [aV,hf];rfl
 have cX:(f.params.map fun s=>[GV.v (sv s)]).length=f.params.length:=by simp
 have iD:=BX f.params;obtain ⟨b,qy⟩:∃ b:Nat,f.body=(b:Int):=⟨f.body.toNat,by omega⟩;rw [qy,gA] at bI |-;unfold ay at hr;rw [qy] at hr;unfold Ir;refine dT func69 ntmps69 ?_;refine jv ?_;refine GL.wk (Wk.freeze (i:=1) rfl rfl rfl (aH _)) ?_;refine GN (by simp only [om,nM];rfl) ?_;refine GL.wk (Wk.aK (cl:=[U,.v (ii (i:Nat)),U,.box (ao p) 0,U,.loc 2 0,U,U,U,U,U,U,U,strs f.params,U,U,U,U,U,U,U,U,U,U]) av) ?_;refine GL.wk (Wk.q6 9 1) ?_;refine GL.Cm 3 rfl rfl rfl rfl iD (by refine ⟨?_,?_⟩;(· rw [cX];omega);(· rw [cX];omega)) ?_;intro ad cp;rw [cX];refine eh ?_;simp only [List.nil_append,List.length_nil,fk];refine G ?_;refine GW.JJ (cl:=[U,.v (ii (i:Nat)),U,.box (ao p) 0,U,.loc 2 0,.loc 4 0,.loc 5 0,U,U,U,U,U,U,U,U,U,U,U,U,U,U,U,U]) (aS:=[.box E1 [.v (.bool s)],.gone,.box _ [.fn (.func 70) [] [.loc 0 0,.box (ao p) 0]],.vech 9 1 (cQ f.params) (.slice ad f.params.length cp),.box _ [.v (.slice ad f.params.length cp)],.box _ [.fn (.func 84) [] [.loc 2 0,.loc 4 0,.box (ao p) 0,.loc 5 0]]]) av rfl ?_;refine aJ (aD 0 7 (.a 7 .nil)) ?_;refine au ?_;have hv:=RT p E1;refine OA rfl rfl (GL.sf [0,2,4,5,3] (hv _ _ _ hp eS _ t (aH _) b s f.params ad cp bI ag) rfl rfl rfl (by repeat (first | exact trivial | refine ⟨rfl,?_⟩)) ?_);rintro _ _ ⟨rfl,np,nq,rfl⟩;refine ⟨by simp [Fw],?_⟩;unfold Fw;refine dE ?_;refine au ?_;exact l8
end Go.Xg
namespace Go.Xg
open Go.RowKit Go.Xw Go.Proofs Tryz
open Go.Xp (Nd T Ar aO aC bZ)
open Go.Sp (Src)
open Go.Im
attribute [local irreducible] GW GL GO YG GC GA ba bc
theorem Oy (p:Src) (hw:dk p<=1048576) (ct:cU p=true) {l:List T} {i:Nat} {f:Go.Sp.Fn} {t:T} (h:fq p l i f t) :
  GF prog 68 [.agg (ao p),.v (ii (i:Nat))] [] (.v (.bool (qN p (i:Int) (i:Int)))) []:=by
 obtain ⟨⟨a1,a2⟩,⟨b1,b2⟩,⟨c1,c2⟩,⟨d1,d2⟩⟩:=dN p;have hi:=(bh h.gf).1;have hC:=Jx p hw h;have hT:=EE p hw h.good (bY p t) (vO p t);have YR:=(zz (p:=p) (l:=l) (p.fns.length+1) 0 _ (vO p t)).len
 have hH:GF prog 82 [ints (gx (lU p l (bY p t))),.v (ii (i:Nat))] [] (.v (.bool (qN p (i:Int) (i:Int)))) []:=by
  have:=Ai (gx (lU p l (bY p t))) (i:Int) (by rw [nh];unfold lU;omega);rw [Ib] at this;unfold qN;rw [og (tO ct hi) h];exact this
 generalize gx (lU p l (bY p t))=L at *;generalize bY p t=ks at *;generalize qN p (i:Int) (i:Int)=b at *;refine ai func68 ntmps68 ?_;refine aJ (aD 0 3 (.q 5 (.a 3 (.a 4 (.a 6 (.q 7 .nil)))))) ?_;refine au ?_;refine az [] hC ?_;refine az [] hT ?_;refine az [] hH ?_;exact ax
end Go.Xg
namespace Go.Im
open Go.Xp Go.Sp
theorem Re (n:Nd):gh false n=1:=rfl
theorem Gg {p:Src} {al:Bool} {l:List T} {i:Nat} {f:Go.Sp.Fn} {t:T} (ct:cU p=true) (hi:i < p.fns.length) (h:fq p l i f t) :
  fH p al (i:Int)=if zh p l (i:Int)=true then (if 1000000000 < cg p l al (i:Int) then -1 else (cg p l al (i:Int):Int)) else -1:=by
 rw [vD (tO ct hi) h.good,Nl ct h.good h]
def gC (p:Src):Int:=fH p false (bE p fA)
def C5 (p:Src):Int:=if (gC p == -1)=true then -1 else fH p true (bE p fA)
end Go.Im
namespace Go.Xg
open GV (U)
open Go.RowKit Go.Xw Go.Proofs Tryz
open Go.Xp (Nd T Ar aO aC bZ)
open Go.Sp (Src)
open Go.Im
attribute [local irreducible] GW GL GO YG GC GA ba bc
theorem kY.fnV {f:Fn}:kY (.v (.func f #[] #[])) (.fn f [] []):=fun K β x h=>by
 cases h;exact .fn f [] [] [] [] rfl rfl (fun i v g h=>by simp at h) (fun i v g h=>by simp at h)
theorem Mq (p:Src) (hw:dk p<=1048576) (ct:cU p=true) {l:List T} {i:Nat} {f:Go.Sp.Fn} {t:T} (h:fq p l i f t) :
  GF prog 50 [.agg (ao p),.v (ii (i:Nat))] [] (.v (.bool (zh p l (i:Int)))) []:=by
 obtain ⟨⟨a1,a2⟩,⟨b1,b2⟩,⟨c1,c2⟩,⟨d1,d2⟩⟩:=dN p;have hi:=(bh h.gf).1;have hg:=h.good;have hlen:=hg.len;have SO:Trail p [(i:Int)]:=⟨List.nodup_cons.2 ⟨by simp,List.Pairwise.nil⟩,fun y hy=>by rw [mem_singleton] at hy;omega⟩;have hC:=EE p hw hg [(i:Int)] SO;have YS:=zz (p:=p) (l:=l) (p.fns.length+1) 0 _ SO
 have aai:∀ y∈gx (lU p l [(i:Int)]),0<=y/\y < (p.fns.length:Int):=fun y hy=>YS.rng y (ql.1 hy)
 have ow:(gx (lU p l [(i:Int)])).length<=p.fns.length:=by rw [nh];exact YS.len
 unfold zh;generalize gx (lU p l [(i:Int)])=L at *
 have N9:(L.map fun i=>[GV.v (ii i)]).length=L.length:=by simp
 have e3:ints [(i:Int)]=.sl 1 [[.v (ii (i:Nat))]]:=rfl;rw [e3] at hC;refine dT func50 ntmps50 ?_;refine GW.seq ?_;refine GW.region ?_;refine GL.P8 rfl rfl ?_;refine eh ?_;refine G ?_;refine b6 ?_;refine G ?_;refine D [] hC ?_;refine GW.range (L.map fun i=>[GV.v (ii i)]).length (fun k fr Γ=>fr=[U,U,.box (ao p) 0,U,U,U,U,U,U,U,U,ints L,.v (ii ((L.map fun i=>[GV.v (ii i)]).length:Int)),.v (ii (k:Nat)),U,U,U,U,U,U,U,U,U,U,U,U]/\Γ=[]/\(L.take k).all (fun k=>!qZ p l k)=true) ?_ ag ?_ ?_ ?_
 ·exact jW
 ·exact ig
 ·rintro k _ _ ar ⟨rfl,rfl,aY⟩;rw [N9] at ar;obtain ⟨x,hx⟩:∃ x,L[k]?=some x:=⟨L[k],by simp [ar]⟩;have Wb:=iR hx;have pL:=aai x (bm hx);obtain ⟨j,rfl⟩:∃ j:Nat,x=(j:Int):=⟨x.toNat,by omega⟩;obtain ⟨fj,VX⟩:∃ f,p.fns[j]?=some f:=⟨p.fns[j]'ag,eF _⟩;obtain ⟨tj,Zb⟩:∃ t,l[j]?=some t:=⟨l[j]'ag,eF _⟩;have hj:=hg.fn VX Zb;have hR:=Oy p hw ct hj;have cB:=hj.sz;have hE:=TN p 4 j fj tj (qN p (j:Int) (j:Int)) ag (fun n hn=>by have:=(d2 n hn).2;omega) VX (by have:=(c2 fj (bm VX)).2.1;omega) hj.body hj.st ag
  have hlp:qZ p l (j:Int)=(gS jk tj fj.body.toNat (qN p (j:Int) (j:Int)) fj.params).1:=by
   rw [Sg];unfold qZ;rw [gA,Zb]
  have bB:=mU (f:=qZ p l) hx;rw [<-hlp] at hE;unfold Ir at hE;generalize qN p (j:Int) (j:Int)=c at *
  cases hb:qZ p l (j:Int) with
  | true =>
   rw [hb] at hE
   have VO:L.all (fun k=>!qZ p l k)=false:=by
    rw [List.all_eq_false];exact ⟨(j:Int),bm hx,by rw [hb];decide⟩
   rw [VO];refine G ?_;refine D [] hR ?_;refine D [0] hE ?_;exact ak
  | false =>
   rw [hb] at hE bB;refine G ?_;refine D [] hR ?_;refine D [0] hE ?_;exact ⟨rfl,rfl,_,_,(Wk.cut (n:=0) (aX _) rfl).trans (Wk.aK av),rfl,rfl,by rw [bB,aY];rfl⟩
 ·rintro _ _ ⟨rfl,rfl,aY⟩;rw [N9,cy] at aY;rw [aY];refine be ?_;exact ax
theorem Gk (p:Src) (hw:dk p<=1048576) (hn:kz p) (al:Bool) (abh:FuncId) [hFun:aI prog abh] (cap:List GV) (ur:cap=[]\/∃ cs,cap=[.box cs 0])
  (hO:∀ (a:Nat) n,p.nodes[a]?=some n->GF prog abh (.v (ii (a:Nat))::cap) [] (.v (ii ((gh al n:Nat):Int))) []) (fn:Int) :
  GF prog 28 [.agg (ao p),.v (ii fn),.fn (.func abh) [] cap] [] (.v (ii (fH p al fn))) []:=by
 obtain ⟨⟨a1,a2⟩,⟨b1,b2⟩,⟨c1,c2⟩,⟨d1,d2⟩⟩:=dN p;have hH:=Qv p fn hw hn
 cases hh:gI p fn with
 | false =>
  rw [hh] at hH;rw [tt hh];refine ai func28 ntmps28 ?_;refine D [] hH ?_;exact ak
 | true =>
  rw [hh] at hH
  have ct:cU p=true:=by unfold gI at hh;simp only [aE] at hh;exact hh.1.1
  obtain ⟨i,l,f,t,rfl,h⟩:=tN hh;have hi:=(bh h.gf).1;have hS:=Mq p hw ct h;rw [Gg ct hi h]
  cases hs:zh p l (i:Int) with
  | false =>
   rw [hs] at hS;rw [ab aM];refine ai func28 ntmps28 ?_;refine D [] hH ?_;refine D [] hS ?_;exact ak
  | true =>
   rw [hs] at hS;rw [ae rfl];have hl:=(eX (p:=p) (fn:=(i:Int))).len;have hF:=XG p l al abh cap ur ag (fun n h=>by have:=(d2 n h).2;omega) ag ct h.good hO (p.fns.length+1) i f t h ((B5 ct h.good h).1 hs) ag;have hle:=Gl (p:=p) (l:=l) (al:=al) (i:Int)
   have Sq:=fun b=>hF b (fun _=>none) (fun g v hg=>by cases hg)
   clear hF
   have e:(if 1000000000 < cg p l al (i:Int) then (-1:Int) else (cg p l al (i:Int):Int))=if decide ((1000000000:Int) < ((cg p l al (i:Int):Nat):Int))=true then -1 else ((cg p l al (i:Int):Nat):Int):=by
    simp only [decide_eq_true_eq];split <;> split <;> omega
   rw [e];clear e;generalize cg p l al (i:Int)=c at *;unfold An at Sq;clear hO
   rcases ur with rfl | ⟨cs,rfl⟩
   all_goals cases hc:decide ((1000000000:Int) < ((c:Nat):Int))
   all_goals
    refine ai func28 ntmps28 ?_;refine D [] hH ?_;refine D [] hS ?_;refine GL.mkMap ?_;intro b;refine cm ?_;refine G ?_;refine dm [2,1] (Sq b) ?_;rintro _ _ ⟨rfl,f',rfl,-⟩;refine dG ?_;exact ax
theorem Eo (p:Src) (hw:dk p<=1048576) (hn:kz p) (fn:Int):GF prog 10 [.agg (ao p),.v (ii fn)] [] (.v (ii (fH p false fn))) []:=by
 have hC:=Gk p hw hn false 29 [] (.inl rfl) (fun a n _=>by
  rw [Re];refine ai func29 ntmps29 ?_;refine bV ?_
  exact ⟨rfl,rfl⟩) fn
 generalize fH p false fn=r at *;refine ai func10 ntmps10 ?_;refine GL.Sc [] hC (j0.cons kY.refl (j0.cons kY.refl (j0.cons kY.fnV j0.nil))) rfl nE rfl ?_;refine cm ?_;exact ax
theorem Dn (p:Src) (hw:dk p<=1048576) (hn:kz p):GF prog 13 [.agg (ao p)] [] (.v (ii (gC p))) []:=by
 obtain ⟨⟨a1,a2⟩,⟨b1,b2⟩,⟨c1,c2⟩,⟨d1,d2⟩⟩:=dN p;have hF:=yw p [109,97,105,110] ag;have e1:cr (fun x:Go.Sp.Fn=>x.name==[109,97,105,110]) p.fns=bE p fA:=rfl;rw [e1] at hF;have hB:=Eo p hw hn (bE p fA);unfold gC;generalize fH p false (bE p fA)=r at *;generalize bE p fA=m at *;refine ai func13 ntmps13 ?_;refine aJ (.q 0 (.q 1 (.a 2 (.a 3 (.q 4 .nil))))) ?_;refine au ?_;refine az [] hF ?_;refine az [] hB ?_;exact ax
theorem Lg (p:Src) (hw:dk p<=1048576) (hn:kz p):GF prog 15 [.agg (ao p)] [] (.v (.bool (gC p != -1))) []:=by
 have hB:=Dn p hw hn;generalize gC p=r at *;refine ai func15 ntmps15 ?_;refine D [] hB ?_;exact ak
theorem U7 (p:Src) (hw:dk p<=1048576) (hn:kz p):GF prog 17 [.agg (ao p)] [] (.v (ii (C5 p))) []:=by
 obtain ⟨⟨a1,a2⟩,⟨b1,b2⟩,⟨c1,c2⟩,⟨d1,d2⟩⟩:=dN p;have hB:=Dn p hw hn;have hF:=yw p [109,97,105,110] ag;have e1:cr (fun x:Go.Sp.Fn=>x.name==[109,97,105,110]) p.fns=bE p fA:=rfl;rw [e1] at hF
 have hC:=Gk p hw hn true 37 [.box (ao p) 0] (.inr ⟨_,rfl⟩) (fun a n Oc=>by
  have hr:=ia Oc
  have e:((gh true n:Nat):Int)=if (n.kind==4&&n.s==[112,117,116])=true then 1 else 0:=by
   show (((if (!true || (n.kind==4&&n.s==[112,117,116]))=true then 1 else 0:Nat)):Int)=_;rw [Bool.not_true,Bool.false_or];split <;> rfl
  rw [e];unfold aB at hr
  cases g1:(n.kind==4)
  all_goals cases g2:(n.s==[112,117,116])
  all_goals
   refine ai func37 ntmps37 ?_;refine bV ?_
   exact ⟨rfl,rfl⟩) (bE p fA)
 unfold C5;generalize fH p true (bE p fA)=r at *;generalize bE p fA=m at *;generalize gC p=q at *
 cases hq:(q == -1) with
 | true =>
  refine dT func17 ntmps17 ?_;refine GW.seq ?_;refine GW.region ?_;refine GL.P8 rfl rfl ?_;refine eh ?_;refine G ?_;refine D [] hB ?_;exact ak
 | false =>
  refine dT func17 ntmps17 ?_;refine GW.seq ?_;refine GW.region ?_;refine GL.P8 rfl rfl ?_;refine eh ?_;refine G ?_;refine D [] hB ?_;refine aJ (.q 0 (.q 1 (.q 3 (.a 2 (.a 4 (.q 5 .nil)))))) ?_;refine au ?_;refine az [] hF ?_;refine az [] hC ?_;exact ax
end Go.Xg
namespace Go.Im
open Go.Xp Go.Sp
theorem M0 {p:Src} {al:Bool} {fn:Int} (h:cU p=false):fH p al fn = -1:=tt (by unfold gI;rw [h];rfl)
end Go.Im
namespace Go.Xg
open Go.RowKit Go.Xw Go.Proofs Tryz
open Go.Xp (Nd T Ar aO aC bZ)
open Go.Sp (Src)
open Go.Im
attribute [local irreducible] GW GL GO YG GC GA ba bc
theorem Uf (p:Src) (fn:Int) (g:Bool) (hg:GF prog 34 [.agg (ao p)] [] (.v (.bool g)) []) :
  GF prog 22 [.agg (ao p),.v (ii fn)] [] (.v (.bool ((g&&decide ((0:Int)<=fn))&&decide (fn < ((p.fns.map ay).length:Int))))) []:=by
 cases g <;> cases I:decide ((0:Int)<=fn)
 all_goals
  refine ai func22 ntmps22 ?_;refine D [] hg ?_;exact ak
theorem En (p:Src) (hw:dk p<=1048576) (hn:kz p) (fn:Int):GF prog 8 [.agg (ao p),.v (ii fn)] [] (.v (ii (fH p false fn))) []:=by
 have hH:=Uf p fn (cU p) (zL p hw)
 have e:((cU p&&decide ((0:Int)<=fn))&&decide (fn < ((p.fns.map ay).length:Int)))=gI p fn:=by unfold gI;rw [bS]
 rw [e] at hH
 cases hh:gI p fn with
 | false =>
  rw [hh] at hH;rw [tt hh];refine ai func8 ntmps8 ?_;refine D [] hH ?_;exact ak
 | true =>
  rw [hh] at hH
  have ct:cU p=true:=by unfold gI at hh;simp only [aE] at hh;exact hh.1.1
  obtain ⟨i,l,f,t,rfl,h⟩:=tN hh;have hi:=(bh h.gf).1;have hA:=Hz p hw false ct h.good;have hr:=iR (Gb (p:=p) (l:=l) (al:=false) hi);rw [vD hh h.good];generalize jD p l false (cK (a8 p) p.fns.length p.fns.length)=A at *;generalize jA p l false (i:Int)=c at *;refine ai func8 ntmps8 ?_;refine D [] hH ?_;refine D [] hA ?_;exact ak
theorem Dm (p:Src) (hw:dk p<=1048576) (hn:kz p):GF prog 12 [.agg (ao p)] [] (.v (ii (gC p))) []:=by
 obtain ⟨⟨a1,a2⟩,⟨b1,b2⟩,⟨c1,c2⟩,⟨d1,d2⟩⟩:=dN p;have hG:=zL p hw;have hF:=tP p [109,97,105,110] ag;have e1:cr (fun x:Go.Sp.Fn=>x.name==[109,97,105,110]) p.fns=bE p fA:=rfl;rw [e1] at hF;have hB:=En p hw hn (bE p fA);unfold gC
 cases ct:cU p with
 | false =>
  rw [ct] at hG;rw [M0 ct];refine ai func12 ntmps12 ?_;refine D [] hG ?_;exact ak
 | true =>
  rw [ct] at hG;generalize fH p false (bE p fA)=r at *;generalize bE p fA=m at *;refine ai func12 ntmps12 ?_;refine D [] hG ?_;refine aJ (.q 0 (.q 1 (.a 2 (.a 3 (.q 4 .nil))))) ?_;refine au ?_;refine az [] hF ?_;refine az [] hB ?_;exact ax
theorem Lf (p:Src) (hw:dk p<=1048576) (hn:kz p):GF prog 14 [.agg (ao p)] [] (.v (.bool (gC p != -1))) []:=by
 have hB:=Dm p hw hn;have ko:=Co p false (bE p fA)
 have e:(gC p != -1)=decide ((0:Int)<=gC p):=by
  unfold gC;rw [Bool.eq_iff_iff,bne_iff_ne,decide_eq_true_eq];omega
 rw [e];generalize gC p=r at *;refine ai func14 ntmps14 ?_;refine D [] hB ?_;exact ak
theorem U6 (p:Src) (hw:dk p<=1048576) (hn:kz p):GF prog 16 [.agg (ao p)] [] (.v (ii (C5 p))) []:=by
 obtain ⟨⟨a1,a2⟩,⟨b1,b2⟩,⟨c1,c2⟩,⟨d1,d2⟩⟩:=dN p;have hB:=Dm p hw hn;have hF:=tP p [109,97,105,110] ag;have e1:cr (fun x:Go.Sp.Fn=>x.name==[109,97,105,110]) p.fns=bE p fA:=rfl;rw [e1] at hF;have ko:=Co p false (bE p fA)
 have e:(gC p == -1)=decide (gC p < 0):=by
  unfold gC;rw [Bool.eq_iff_iff,beq_iff_eq,decide_eq_true_eq];omega
 unfold C5;rw [e]
 cases hq:decide (gC p < 0) with
 | true =>
  rw [ae rfl];generalize gC p=q at *;refine ai func16 ntmps16 ?_;refine D [] hB ?_;exact ak
 | false =>
  rw [ab aM]
  have hh:gI p (bE p fA)=true:=by
   cases hh:gI p (bE p fA) with
   | true=>rfl
   | false=>have:=of_decide_eq_false hq;unfold gC at this;rw [tt hh] at this;exact absurd aM this
  have ct:cU p=true:=by unfold gI at hh;simp only [aE] at hh;exact hh.1.1
  obtain ⟨i,l,f,t,hm,h⟩:=tN hh;rw [hm] at hh hF |-;have hi:=(bh h.gf).1;have hA:=Hz p hw true ct h.good;have hr:=iR (Gb (p:=p) (l:=l) (al:=true) hi);rw [vD hh h.good];generalize jD p l true (cK (a8 p) p.fns.length p.fns.length)=A at *;generalize jA p l true (i:Int)=c at *;generalize gC p=q at *;refine ai func16 ntmps16 ?_;refine D [] hB ?_;refine aJ (.q 0 (.q 2 (.a 1 (.a 3 (aD 4 3 .nil))))) ?_;refine au ?_;refine az [] hA ?_;refine az [] hF ?_;exact ax
end Go.Xg
