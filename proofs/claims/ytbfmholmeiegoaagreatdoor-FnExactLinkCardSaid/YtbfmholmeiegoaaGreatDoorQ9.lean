/- Part 9 of proofs that are told in their last texts. -/
import Derived.Test.YtbfmholmeiegoaaGreatDoorQ8
import Derived.Test.YtbfmholmeiegoaaGreatDoorQ3
open List (cons_append getElem?_zipWith length_cons length_nil length_set nil_append not_mem_nil take_succ_cons take_zero zipWith_append)
set_option linter.unusedVariables false
set_option linter.unusedSimpArgs false
set_option maxRecDepth 100000
set_option maxHeartbeats 4000000
namespace Go.Im
open Go.Xp Go.Sp
theorem xB {α:Type} {w:α->Nat}:∀ l:List α,bI w l=bj w l
 | []=>rfl
 | x::l=>by
  have:=xB (w:=w) l;unfold bI at *;rw [List.map_cons,List.sum_cons,this];rfl
theorem Dk (p:Src):nV p<=4 * df p:=by
 have L:=Cm p.globals
 have I:bI wA p.arrays<=2 * bj (fun a:Ar=>a.name.length+1) p.arrays:=by rw [xB];exact np fun a _=>by show 2<=_;omega
 have h3:bI wF p.fns<=2 * bj (fun f:Go.Sp.Fn=>f.name.length+wS f.params+1) p.fns:=by rw [xB];exact np fun f _=>by have:=Cm f.params;show 2+f.params.length<=_;omega
 have h4:bI wN p.nodes<=4 * bj (fun n:Nd=>n.s.length+n.kids.length+1) p.nodes:=by rw [xB];exact np fun n _=>by show 4+n.kids.length<=_;omega
 unfold nV df;omega
end Go.Im
namespace Go.Xg
open Go.RowKit Go.Xw Go.Proofs Tryz
open Go.Xp (Nd Ar)
open Go.Sp (Src)
open Go.Im
attribute [local irreducible] GW GL GO YG GC GA be bd
theorem nO.mk' {p:Src} {hg ha hf hn:Value} {fs ns:List Value} (H:nO p hg ha hf hn fs ns) (k:Nat):nO (lM k p) hg ha hf hn fs ns:=by
 obtain ⟨L,I,h3,h4,h5,h6,h7,h8⟩:=H;refine ⟨by show Hd (yP _ _).length _;rw [I9];exact L,by show Hd (dW _ _ _ _).length _;rw [dR];exact I,by show Hd (dW _ _ _ _).length _;rw [dR];exact h3,by show Hd (dW _ _ _ _).length _;rw [dR];exact h4,by show _=(dW _ _ _ _).length;rw [dR];exact h5,by show _=(dW _ _ _ _).length;rw [dR];exact h6,fun i x y e1 e2=>?_,fun i x y e1 e2=>?_⟩
 ·have hi:=(bp e1).1;have hi:i < (dW wF iC (k+p.globals.length+bI wA p.arrays) p.fns).length:=hi;rw [dR] at hi;have hx:p.fns[i]?=some p.fns[i]:=fM hi;have e1:(dW wF iC (k+p.globals.length+bI wA p.arrays) p.fns)[i]?=some x:=e1;rw [wc _ hx] at e1;cases e1;show Hd (yP _ _).length y;rw [I9];exact h7 i _ y hx e2
 ·have hi:=(bp e1).1;have hi:i < (dW wN iX (k+p.globals.length+bI wA p.arrays+bI wF p.fns) p.nodes).length:=hi;rw [dR] at hi;have hx:p.nodes[i]?=some p.nodes[i]:=fM hi;have e1:(dW wN iX (k+p.globals.length+bI wA p.arrays+bI wF p.fns) p.nodes)[i]?=some x:=e1;rw [wc _ hx] at e1;cases e1;show Hd (Gd _ _).length y;rw [Sw];exact h8 i _ y hx e2
theorem mW {p:Src} {hg ha hf hn:Value} {fs ns:List Value} (H:nO p hg ha hf hn fs ns):(dK p hg ha hf hn fs ns).length=p.fns.length+p.nodes.length+4:=by
 have h5:=H.fl;have h6:=H.nl;simp [dK,h5,h6];omega
theorem uv (p:Src) (hg ha hf hn:Value) (fs ns:List Value) (H:nO p hg ha hf hn fs ns) (k:Nat) (L:p.globals.length<=1048576) (I:p.arrays.length<=1048576) (h3:p.fns.length<=1048576) (h4:p.nodes.length<=1048576) (hb:k+nV p<=1099511627776) :
  GC prog 11 [.agg [.v hg,.v ha,.v hf,.v hn],.v (ii (k:Nat))] (dK p hg ha hf hn fs ns) fun g Δ=>g=.v (ii ((k+nV p:Nat):Int))/\Δ=dK (lM k p) hg ha hf hn fs ns:=by
 have hSl:=mW H;have Uc:=mW (H.mk' k);have Ua:=gQ p hg ha hf hn fs ns;have Ub:=gQ (lM k p) hg ha hf hn fs ns;have sT:(lM k p).fns.length=p.fns.length:=dR _ _;have eV:(lM k p).nodes.length=p.nodes.length:=dR _ _
 have hc4:p.fns.length+p.nodes.length+4=(lM k p).fns.length+(lM k p).nodes.length+4:=by rw [sT,eV]
 obtain ⟨⟨a0,c0,rfl⟩,⟨a1,c1,rfl⟩,⟨a2,c2,rfl⟩,⟨a3,c3,rfl⟩,iq,sq,hfh,hnh⟩:=H;unfold nV at hb |-;have e0:=xM a0 c0 p.globals.length k (bA p.globals) (fw _) G;have e1:=Gb p.arrays a1 c1 (k+p.globals.length) G G;have e2:=Nl p.fns fs iq hfh a2 c2 (k+p.globals.length+bI wA p.arrays) G G;have e3:=HJ p.nodes ns sq hnh a3 c3 (k+p.globals.length+bI wA p.arrays+bI wF p.fns) G G;rw [xl] at e0;rw [show k+p.globals.length+bI wA p.arrays+bI wF p.fns+bI wN p.nodes=k+(p.globals.length+bI wA p.arrays+bI wF p.fns+bI wN p.nodes) by omega] at e3
 have Rb:∀ x∈(Ob.vech 58 3 (List.zipWith fL p.fns fs) (.slice a2 p.fns.length c2)::List.zipWith fK p.fns fs),x.gC=true:=fun x hx=>by
  rcases dA hx with rfl | hx
  ·rfl
  ·exact ki (fun _ _=>rfl) x hx
 have MT:∀ x∈(Ob.vech 62 5 (List.zipWith cR p.nodes ns) (.slice a3 p.nodes.length c3)::List.zipWith dd p.nodes ns),x.gC=true:=fun x hx=>by
  rcases dA hx with rfl | hx
  ·rfl
  ·exact ki (fun _ _=>rfl) x hx
 generalize hm:(dK p (.slice a0 p.globals.length c0) (.slice a1 p.arrays.length c1) (.slice a2 p.fns.length c2) (.slice a3 p.nodes.length c3) fs ns).length=aaJ at *;unfold dK at Ub Uc |-;refine cY func11 ntmps11 ?_;have z8:=hm;unfold dK at z8;rw [z8];refine GW.seq ?_;refine GW.region ?_;refine GL.kE rfl rfl ?_;refine bJ ?_;refine D ?_;refine GL.rA [] [_] _ e0 rfl (by intro x hx;rw [sP hx];rfl) (fun _=>rfl) (kU) ?_;rintro _ _ ⟨rfl,rfl⟩;refine ⟨rfl,by intro x hx;rw [sP hx];rfl,fun _=>rfl,?_⟩;refine bJ ?_;refine D ?_;refine GL.rA [_] [_] _ e1 rfl (by intro x hx;rw [sP hx];rfl) (fun _=>rfl) (kU) ?_;rintro _ _ ⟨rfl,rfl⟩;refine ⟨rfl,by intro x hx;rw [sP hx];rfl,fun _=>rfl,?_⟩;refine bJ ?_;refine D ?_;refine GL.rA [_,_] (_::List.zipWith fK p.fns fs) (_::List.zipWith dd p.nodes ns) e2 rfl Rb (fun _=>rfl) (kU) ?_;rintro _ _ ⟨rfl,rfl⟩;refine ⟨by simp [dR,iq],by intro x hx;rcases dA hx with rfl | hx;(· rfl);exact ki (fun _ _=>rfl) x hx,fun _=>rfl,?_⟩;refine bJ ?_;refine D ?_;refine GL.rA (_::_::_::List.zipWith fK (dW wF iC (k+p.globals.length+bI wA p.arrays) p.fns) fs) (_::List.zipWith dd p.nodes ns) [] e3 (by rw [cq];rfl) MT (fun _=>rfl) (kU) ?_;rintro _ _ ⟨rfl,rfl⟩;refine ⟨by simp [dR,sq],by intro x hx;rcases dA hx with rfl | hx;(· rfl);exact ki (fun _ _=>rfl) x hx,fun _=>rfl,?_⟩;rw [cq];refine bJ ?_;refine D ?_;refine nW ?_;exact Ka rfl dF rfl (hSl.trans (hc4.trans Uc.symm)) Ub ⟨rfl,rfl⟩
theorem Fy (p:Src) (k:Nat) (L:p.globals.length<=1048576) (I:p.arrays.length<=1048576) (h3:p.fns.length<=1048576) (h4:p.nodes.length<=1048576) (hb:k+nV p<=1099511627776) :
  GF prog 12 [.agg (ar (lM k p)),.v (ii (k:Nat))] [] (.v (ii ((k+nV p:Nat):Int))) []:=by
 unfold nV at hb |-;have e0:=xH k p.globals.length G;have e1:=Fx p.arrays (k+p.globals.length) G G;have e2:=MB p.fns (k+p.globals.length+bI wA p.arrays) G G;have e3:=Hx p.nodes (k+p.globals.length+bI wA p.arrays+bI wF p.fns) G G;rw [xl] at e0;rw [show k+p.globals.length+bI wA p.arrays+bI wF p.fns+bI wN p.nodes=k+(p.globals.length+bI wA p.arrays+bI wF p.fns+bI wN p.nodes) by omega] at e3;have d0:decide (((k+p.globals.length:Nat):Int) < 0)=false:=decide_eq_false G;have d1:decide (((k+p.globals.length+bI wA p.arrays:Nat):Int) < 0)=false:=decide_eq_false G;have d2:decide (((k+p.globals.length+bI wA p.arrays+bI wF p.fns:Nat):Int) < 0)=false:=decide_eq_false G;have d3:decide (((k+(p.globals.length+bI wA p.arrays+bI wF p.fns+bI wN p.nodes):Nat):Int) < 0)=false:=decide_eq_false G;have hE:ar (lM k p)=[.sl 1 (bA (yP k p.globals.length)),.sl 2 ((dW wA nT (k+p.globals.length) p.arrays).map az),.sl 3 ((dW wF iC (k+p.globals.length+bI wA p.arrays) p.fns).map au),.sl 5 ((dW wN iX (k+p.globals.length+bI wA p.arrays+bI wF p.fns) p.nodes).map aw)]:=rfl;rw [hE];generalize bA (yP k p.globals.length)=X0 at *;generalize (dW wA nT (k+p.globals.length) p.arrays).map az=X1 at *;generalize (dW wF iC (k+p.globals.length+bI wA p.arrays) p.fns).map au=X2 at *;generalize (dW wN iX (k+p.globals.length+bI wA p.arrays+bI wF p.fns) p.nodes).map aw=X3 at *;refine cY func12 ntmps12 ?_;refine GW.seq ?_;refine GW.region ?_;refine GL.kE rfl rfl ?_;refine bJ ?_;refine D ?_;refine V [] e0 ?_;refine V [] e1 ?_;refine V [] e2 ?_;refine V [] e3 ?_;exact al
theorem JH {α:Type} {f:α->Value->Ob} (hf:∀ a h,Ob.plain (f a h)) {l:List α} {hs:List Value}:∀ x∈List.zipWith f l hs,Ob.plain x:=fun x hx=>by
 obtain ⟨i,hi⟩:=List.getElem?_of_mem hx;rw [getElem?_zipWith] at hi;split at hi
 ·cases hi;exact hf _ _
 ·cases hi
theorem JI {α:Type} {f:α->Value->List GV} (hf:∀ a h,∀ g∈f a h,∃ x,g=.v x) {l:List α} {hs:List Value}:∀ r∈List.zipWith f l hs,∀ g∈r,∃ x,g=.v x:=fun r hr=>by
 obtain ⟨i,hi⟩:=List.getElem?_of_mem hr;rw [getElem?_zipWith] at hi;split at hi
 ·cases hi;exact hf _ _
 ·cases hi
theorem La {p:Src} {hg ha hf hn:Value} {fs ns:List Value}:∀ o∈dK p hg ha hf hn fs ns,Ob.plain o:=fun o ho=>by
 have zs:∀ l:List Go.Xp.ae,∀ r∈bA l,∀ g∈r,∃ x,g=.v x:=fun l r hr g hg=>by
  unfold bA at hr;obtain ⟨x,_,rfl⟩:=qX.1 hr;rw [sP hg];exact ⟨_,rfl⟩
 have zi:∀ l:List Int,∀ r∈l6 l,∀ g∈r,∃ x,g=.v x:=fun l r hr g hg=>by
  unfold l6 at hr;obtain ⟨x,_,rfl⟩:=qX.1 hr;rw [sP hg];exact ⟨_,rfl⟩
 unfold dK at ho;simp only [List.mem_cons,List.mem_append] at ho
 rcases ho with rfl | rfl | rfl | ho | rfl | ho
 ·exact fun r hr g hg=>zs _ r hr g hg
 ·intro r hr g hg;obtain ⟨x,_,rfl⟩:=qX.1 hr;simp only [az,List.mem_cons,not_mem_nil,or_false] at hg
  rcases hg with rfl | rfl <;> exact ⟨_,rfl⟩
 ·exact fun r hr g hg=>JI (fun a h g hg=>by
   simp only [fL,List.mem_cons,not_mem_nil,or_false] at hg
   rcases hg with rfl | rfl | rfl <;> exact ⟨_,rfl⟩) r hr g hg
 ·exact JH (f:=fK) (fun a h r hr g hg=>zs _ r hr g hg) o ho
 ·exact fun r hr g hg=>JI (fun a h g hg=>by
   simp only [cR,List.mem_cons,not_mem_nil,or_false] at hg
   rcases hg with rfl | rfl | rfl | rfl | rfl <;> exact ⟨_,rfl⟩) r hr g hg
 ·exact JH (f:=dd) (fun a h r hr g hg=>zi _ r hr g hg) o ho
theorem Av.plain {q:Src} {c:Int} {g:GV} {Δ:List Ob} (h:Av q c g Δ):GV.Plain g/\∀ o∈Δ,Ob.plain o:=by
 obtain ⟨hg,ha,hf,hn,fs,ns,H,rfl,rfl⟩:=h;refine ⟨GV.NC fun x hx=>?_,La⟩;simp only [List.mem_cons,not_mem_nil,or_false] at hx
 rcases hx with rfl | rfl
 ·refine GV.Nz fun x hx=>?_
  simp only [List.mem_cons,not_mem_nil,or_false] at hx
  rcases hx with rfl | rfl | rfl | rfl <;> exact GV.Jk _
 ·exact GV.Jk _
section
variable {B:Bs} {K:Fz} {β:Bt} {w:World} {fr:List GV} {l:List Value} {A C:List Ob} {p:Src} {hg ha hf hn:Value} {fs ns:List Value}
end
end Go.Xg
namespace Go.Xg
open Go.RowKit Go.Xw Go.Proofs
open Go.Xp (Nd T Ar aQ aB bW fS bO iN rD bg oQ kz)
open Go.Sp (Src)
open Go.Im
theorem B9:∀ (X A Δ:List Ob),X.length<=Δ.length->dm (A++X) (List.range' A.length X.length) Δ=A++Δ
 | [],A,Δ,h=>by
  show dm (A++[]) [] Δ=_;rw [dm,cq]
 | x::X,A,[],h=>by simp at h
 | x::X,A,y::Δ,h=>by
  rw [length_cons,List.range'_succ,dm]
  have e:oset (A++x::X) A.length y=(A++[y])++X:=by rw [xu];simp
  have:=B9 X (A++[y]) Δ (by simpa using h);rw [aU,List.length_singleton] at this;rw [e,this];simp
section
variable {P:Program} {m:Nat} {Q:du} {fr:List GV} {F:List Ob} {ops:Array Oper} {rest:List Oper} {d:Option Tmp} {op:Op} {ty:TypeId} {pos:String} {af:Array Edge}
theorem GL.Ih {f:FuncId} [hf:aJ P f] (A X:List Ob) {args:List Operand} {lP:Array TypeId} {gs:List GV} {R:GV->List Ob->Prop} (hc:GC P f gs X R) (bG:F=A++X) (hX:∀ x∈X,x.gC=true) (ME:∀ r,Go.Xg.lh r gs=gs) (ha:kD (args.map (ba fr)) gs)
  (h:∀ g Δ,R g Δ->X.length<=Δ.length/\(∀ x∈Δ,x.gC=true)/\(∀ r,dX r g=g)/\GL P m ops Q rest (bx fr d g) (A++Δ)) :
  GL P m ops Q (⟨d,.call ⟨.value (.func f),args.toArray,lP⟩,ty,pos,af,none⟩::rest) fr F:=by
 subst bG
 refine GL.EC (List.range' A.length X.length) hc (by rw [ME];exact ha) (Aj _ _ _ (by simp only [aU];omega)) ?_ fun g Δ hr=>?_
 ·have:=xy (ct (List.range' A.length X.length) (A++X).length) X A [] hX;rw [cq] at this;exact this
 obtain ⟨L,I,h3,h4⟩:=h g Δ hr;refine ⟨by rw [List.length_range'];exact L,?_⟩;rw [oR I,B9 _ _ _ L,h3];exact h4
end
def gD (br:List Nd) (h:Value) (ns:List Value):List Ob:=.vech 62 5 (List.zipWith cR br ns) h::List.zipWith dd br ns
structure xU (br:List Nd) (h:Value) (ns:List Value):Prop where
 head:∃ a c,h=.slice a br.length c
 len:ns.length=br.length
 kid:∀ (i:Nat) x y,br[i]?=some x->ns[i]?=some y->Hd x.kids.length y
theorem nk {br:List Nd} {h:Value} {ns:List Value}:∀ x∈gD br h ns,x.gC=true:=fun x hx=>by
 rcases dA hx with rfl | hx
 ·rfl
 ·exact ki (fun _ _=>rfl) x hx
theorem oT {br:List Nd} {h:Value} {ns:List Value} (H:xU br h ns):(gD br h ns).length=br.length+1:=by
 unfold gD;rw [length_cons,lR,H.len,Nat.min_self]
def fx (x:Nd) (ks:List Int):Nd:=⟨x.kind,x.at_,x.n,x.s,ks⟩
theorem xU.snoc {br:List Nd} {h:Value} {ns:List Value} (H:xU br h ns) (x:Nd) {a b:Option Addr} {c d:Nat}:xU (br++[x]) (.slice a (br.length+1) c) (ns++[.slice b x.kids.length d]):=by
 refine ⟨⟨a,c,by simp⟩,by simp [H.len],fun i y v L I=>?_⟩;have hl:=H.len
 rcases Nat.lt_or_ge i br.length with hi | hi
 ·rw [ff hi] at L;rw [ff G] at I;exact H.kid i y v L I
 ·rw [eE hi] at L;rw [eE G,hl] at I
  cases hk:i - br.length with
  | zero =>
   rw [hk] at L I
   cases L;cases I
   exact ⟨_,_,rfl⟩
  | succ k=>rw [hk] at L;simp at L
theorem HN {br:List Nd} {ns:List Value} (hl:ns.length=br.length) (x:Nd) (y h:Value):gD (br++[x]) h (ns++[y])=.vech 62 5 (List.zipWith cR br ns++[cR x y]) h::(List.zipWith dd br ns++[dd x y]):=by
 unfold gD;rw [zipWith_append hl.symm,zipWith_append hl.symm];rfl
theorem xU.put {br:List Nd} {h:Value} {ns:List Value} (H:xU br h ns) {i:Nat} {x:Nd} (hx:br[i]?=some x) (ks:List Int) {b:Option Addr} {d n:Nat} (hn:n=ks.length):xU (br.set i (fx x ks)) h (ns.set i (.slice b n d)):=by
 subst hn;obtain ⟨a,c,e⟩:=H.head;refine ⟨⟨a,c,by rw [e,length_set]⟩,by simp [H.len],fun j y v L I=>?_⟩;rw [dB] at L I
 by_cases gA:i=j
 ·rw [ab gA] at L I;split at L
  ·cases L;split at I
   ·cases I;exact ⟨_,_,rfl⟩
   ·cases I
  ·cases L
 ·rw [M gA] at L I;exact H.kid j y v L I
theorem Ee:∀ {br:List Nd} {ns:List Value} {i:Nat} {x:Nd} (ks:List Int) (y:Value),ns.length=br.length->br[i]?=some x->ek (List.zipWith cR br ns) i 4 (.v y)=List.zipWith cR (br.set i (fx x ks)) (ns.set i y)
 | [],ns,i,x,ks,y,hl,h=>by simp at h
 | n::br,[],i,x,ks,y,hl,h=>by simp at hl
 | n::br,v::ns,0,x,ks,y,hl,h=>by cases h;rfl
 | n::br,v::ns,i+1,x,ks,y,hl,h=>by
  have:=Ee (br:=br) (ns:=ns) (i:=i) (x:=x) ks y (by simpa using hl) (by simpa using h);rw [List.zipWith_cons_cons,ek,this];rfl
theorem D9:∀ {br:List Nd} {ns:List Value} {i:Nat} {x:Nd} (ks:List Int) (y:Value),ns.length=br.length->br[i]?=some x->oset (List.zipWith dd br ns) i (.vech 3 1 (l6 ks) y)=List.zipWith dd (br.set i (fx x ks)) (ns.set i y)
 | [],ns,i,x,ks,y,hl,h=>by simp at h
 | n::br,[],i,x,ks,y,hl,h=>by simp at hl
 | n::br,v::ns,0,x,ks,y,hl,h=>by cases h;rfl
 | n::br,v::ns,i+1,x,ks,y,hl,h=>by
  have:=D9 (br:=br) (ns:=ns) (i:=i) (x:=x) ks y (by simpa using hl) (by simpa using h);rw [List.zipWith_cons_cons,oset,this];rfl
def jL (br:List Nd) (n:Nd) (l:List T) (k:Nat):List Nd:=br++fx n (bg (br.length+1) (l.take k))::bO (br.length+1) (l.take k)
theorem Gc {br:List Nd} {n:Nd} {l:List T} {k:Nat}:(jL br n l k).length=br.length+1+aB (l.take k):=by
 unfold jL;rw [aU,length_cons,iN];omega
theorem Sv {br:List Nd} {n:Nd} {l:List T} {k:Nat}:(jL br n l k)[br.length]?=some (fx n (bg (br.length+1) (l.take k))):=by
 unfold jL;rw [eE (aD _),iJ];rfl
theorem Nq {br:List Nd} {n:Nd} {l:List T} {k:Nat} {u:T} (h:l[k]?=some u) :
  (jL br n l k).set br.length (fx (fx n (bg (br.length+1) (l.take k))) (bg (br.length+1) (l.take k)++[(((jL br n l k).length:Nat):Int)]))++fS (jL br n l k).length u=jL br n l (k+1):=by
 have ji:l.take (k+1)=l.take k++[u]:=by rw [cm,h];rfl
 rw [Gc];unfold jL;rw [List.set_append_right _ _ (aD _),iJ,List.set_cons_zero,ji,oQ,kz];simp only [bg,bO,cq,fx,cK,cons_append]
theorem PO {br:List Nd} {n:Nd} {l:List T}:jL br n l l.length=br++fS br.length (.mk n l):=by
 unfold jL fx;rw [b7,fS]
attribute [local irreducible] GW GL GO YG GC GA be bd
end Go.Xg
namespace Go.Im
open Go.Xp Go.Sp
end Go.Im
namespace Go.Xg
open Go.RowKit Go.Xw Go.Proofs
open Go.Xp (Nd T Ar aQ aB bW)
open Go.Sp (Src)
open Go.Im
attribute [local irreducible] GW GL GO YG GC GA be bd
end Go.Xg
namespace Go.Im
open Go.Xp Go.Sp
end Go.Im
namespace Go.Xg
open Go.RowKit Go.Xw Go.Proofs
open Go.Xp (Nd T Ar aQ aB bO fS)
open Go.Im
section
variable {P:Program} {m:Nat} {Q:du} {fr:List GV} {F:List Ob} {ops:Array Oper} {rest:List Oper} {d:Option Tmp} {op:Op} {ty:TypeId} {pos:String} {af:Array Edge}
theorem DG:∀ (fr:List GV) (t:Nat) (a b:GV),bo (bo fr t a) t b=bo fr t b
 | [],t,a,b=>rfl
 | x::fr,0,a,b=>rfl
 | x::fr,t+1,a,b=>by simp only [bo,DG fr t a b]
theorem DD:∀ (fr:List GV) (t:Nat) (g:GV),jj fr t=true->cB (bo fr t g) t=g
 | [],t,g,h=>by cases h
 | x::fr,0,g,h=>rfl
 | x::fr,t+1,g,h=>DD fr t g h
theorem FZ:∀ (fr:List GV) (t u:Nat) (g:GV),jj (bo fr t g) u=jj fr u
 | [],t,u,g=>rfl
 | x::fr,0,0,g=>rfl
 | x::fr,0,u+1,g=>rfl
 | x::fr,t+1,0,g=>rfl
 | x::fr,t+1,u+1,g=>FZ fr t u g
theorem GL.OG {s x:Operand} {t e k gS:Nat} [hT:oZ P t e k gS] {i fz:Nat} {dt:Tmp} {news:List (List GV)} (hx:ba fr x=.sl k news) (hs:ba fr s=.vec i 0) (bG:F[i]?=some (.vec e k fz [])) (L:ig news=true) (fi:jj fr dt=true)
  (hb:0+news.length<=9223372036854775807/\(0+news.length) * gS<=140737488355328)
  (h:GL P m ops Q rest (bx fr (some dt) (.sl k news)) (oset F i (.vec e k news.length news))) :
  GL P m ops Q (⟨some dt,.call ⟨.builtin .append,#[s,x],#[t,t]⟩,ty,pos,af,none⟩::rest) fr F:=by
 refine GL.wO hx hs bG rfl L hb ?_;have hi:=(bp bG).1;refine GL.wk (Wk.jv (t:=dt) (i:=i) (n:=0+news.length) (E:=e) (k:=k) (fz:=fz) (rows:=[]++news) (DD fr dt _ fi) (by show jj (bo fr dt _) dt=true;rw [FZ];exact fi) ?_ (by simp)) ?_
 ·rw [bf,dB,ab rfl,ab hi]
 ·show GL P m ops Q rest (bo (bo fr dt _) dt _) _;rw [DG,bf,bf,List.set_set,nil_append,cL,<-bf];exact h
end
end Go.Xg
namespace Go.Xg
open GV (U)
open Go.RowKit Go.Xw Go.Proofs Tryz
open Go.Xp (Nd T Ar aQ aB bW fS bO iN rD bg oQ kz gZ iu ir)
open Go.Im
section
variable {P:Program} {m:Nat} {Q:du} {fr:List GV} {F:List Ob} {ops:Array Oper} {rest:List Oper} {d:Option Tmp} {op:Op} {ty:TypeId} {pos:String} {af:Array Edge}
theorem GL.WH {t:TypeId} {z:Value} {agg:Bool} {k:Nat} [hZ:qY P t z] [hT:Ty P t agg k] {dt ts d3 u:Tmp} {cs:List GV} {VH ty3:TypeId} {PW ZA:String} {Tl ZP:Array Edge} {d2:Option Tmp} (UP:z.cells.size=k) (hy:mr (cB fr ts)=some cs) (cr:(Nat.beq ts dt || Nat.beq ts d3 || Nat.beq d3 dt || Nat.beq u dt)=false) (fi:jj fr dt=true) (hk:cs.length=k) (L:ml cs=true) (hp:oy cs=true)
  (h:GL P m ops Q rest (bx (bx (bx fr (some dt) (.box cs 0)) (some d3) (cB fr u)) d2 (.v undef)) F):GL P m ops Q (⟨some dt,.alloc t,ty,pos,af,none⟩::⟨some d3,.assign (.tmp u),ty3,ZA,ZP,none⟩::⟨d2,.store t (.tmp dt) (.tmp ts),VH,PW,Tl,none⟩::rest) fr F:=fun B K β w l hm hI hF=>by
 refine WL.alloc (z:=z) fun b w1 hn=>?_
 obtain ⟨us,jS,km⟩:=(hF.nth ts).cells hy;simp only [Bool.or_eq_false_iff] at cr;obtain ⟨⟨⟨n1,n2⟩,n3⟩,n4⟩:=cr
 have BE:ts≠dt:=by intro e;subst e;simp at n1
 have bV:ts≠d3:=by intro e;subst e;simp at n2
 have Uw:d3≠dt:=by intro e;subst e;simp at n3
 have Ux:u≠dt:=by intro e;subst e;simp at n4
 refine WL.v R.vE ?_;have td:ev (put l (some dt) (.pointer (some ⟨b,0,none⟩))) (.tmp u)=nth l u:=jE Ux _;rw [td];have MS:ev (put (put l (some dt) (.pointer (some ⟨b,0,none⟩))) (some d3) (nth l u)) (.tmp ts)=nth l ts:=(jE bV _).trans (jE BE _);have yG:ev (put (put l (some dt) (.pointer (some ⟨b,0,none⟩))) (some d3) (nth l u)) (.tmp dt)=.pointer (some ⟨b,0,none⟩):=(jE (fun e=>Uw e.symm) _).trans (rL (nE hF fi) _)
 have yF:us.length=k:=by rw [km.1,hk]
 refine WL.st (t:=t) (k:=k) yG MS hn.blk (by rw [jS];simpa using yF) G (by rw [jS];simpa using km.l8 L) fun w2 hs=>?_
 have bY:uA z.cells 0 us=us.toArray:=by
  have:=sD us z.cells.toList 0;rw [Eh us _ (by rw [Array.length_toList,UP,yF])] at this;simpa using this
 rw [jS,List.toList_toArray,bY] at hs;have yy:uM w w2 b (.cells us.toArray t):=⟨hn.fresh,by rw [hs.size];exact hn.size,hs.blk,hn.ext.step hs.ext fun j hj=>.inl (by subst hj;rw [hn.fresh];exact aD _)⟩;obtain ⟨hle,bs⟩:=hI.sk yy km (lp hp);exact h B _ β w2 _ hm bs ((((hF.mono hle (dp.refl β)).put (some dt) (Rel.box (K:=lf K b cs) (β:=β) b 0 0 cs (fun j g hg=>by rw [cL];exact tA hg))).put (some d3) ((hF.nth u).mono hle (dp.refl β))).put d2 (.v _))
end
def yT (β:Bt) (f:Nat->Nat) (N:Nat):Bt:=fun i=>if i < N then β (f i) else .no
section
variable {m n:Nat} {fr:List GV} {F Δ:List Ob} {f:Nat->Nat}
theorem Wk.perm (hm:m<=n) (hn:n<=Δ.length) (hf:∀ i,i < n->f i=i) (hi:∀ i j,i < Δ.length->j < Δ.length->f i=f j->i=j) (hx:∀ (i:Nat) x,Δ[i]?=some x->F[f i]?=some x/\(n<=i->x.gC=true)) (hl:xP n (F.take n)=true):Wk m fr F (J5 n fr) Δ:=fun B K β w l hB hI hF=>by
 have h:=hI.cut (n:=n) G hl
 have hle:dp (ij (below n) β) (yT β f Δ.length):=fun i=>by
  by_cases fi:i < n
  ·rw [iP (vG fi)];unfold yT;rw [ab G,hf i fi];exact ru.refl _
  ·rw [zz (Ia G)];trivial
 have hb:∀ i b,(yT β f Δ.length i).blk=some b->i < Δ.length/\(β (f i)).blk=some b:=fun i b hi=>by
  unfold yT at hi;split at hi
  ·rename_i h;exact ⟨h,hi⟩
  ·cases hi
 refine ⟨K,yT β f Δ.length,⟨h.ext,h.kle,h.ble.trans hle,h.loc,h.fz,fun i x yG=>?_,fun i L=>?_,fun i j b L I=>?_,fun i b L=>?_,h.kn,⟨h.tab.le,h.tab.pow,h.tab.spc,fun i b L=>?_⟩⟩,(hF.res).mono (cU.refl K) hle⟩
 ·obtain ⟨L,I⟩:=hx i x yG;have sV:=(bp yG).1
  have UF:yT β f Δ.length i=β (f i):=by unfold yT;rw [ab sV]
  by_cases fi:i < n
  ·rw [hf i fi] at L UF;exact (h.ob i x (by rw [List.getElem?_take,ab fi];exact L)).ext (S:=ic) (Ext.refl w) (fun _ _ h=>h) (cU.refl K) hle (by rw [UF,iP (vG fi)]) (fun _ _ _ h=>h)
  ·have h3:=I G
   cases x with
   | vech E k rows v =>
    obtain ⟨xs,e1,e2,e3,e4,e5⟩:=hI.ob _ _ L;exact ⟨xs,by rw [UF];exact e1,e2,e3.oy e4.flat,e4,e5⟩
   | _=>cases h3
 ·unfold yT;rw [M G]
 ·obtain ⟨a1,a2⟩:=hb i b L;obtain ⟨b1,b2⟩:=hb j b I;exact hi i j a1 b1 (hI.dis _ _ b a2 b2)
 ·exact hI.own _ b (hb i b L).2
 ·exact hI.tab.free _ b (hb i b L).2
end
theorem Wk.move {m:Nat} {fr:List GV} {F:List Ob} (A C:List Ob) {x:Ob} (bG:F=A++(C++[x])) (hm:m<=A.length) (hA:xP A.length A=true) (hC:∀ y∈C,y.gC=true) (hx:x.gC=true):Wk m fr F (J5 A.length fr) (A++x::C):=by
 subst bG;refine Wk.perm (n:=A.length) (f:=fun i=>if i < A.length then i else if i=A.length then A.length+C.length else i - 1) hm (by simp) (fun i h=>by simp [h]) (fun i j L I h=>?_) (fun i y hy=>?_) (by rw [List.take_left];exact hA)
 ·simp only [aU,length_cons] at L I
  try simp only at h
  split at h <;> split at h <;> (try split at h) <;> (try split at h) <;> omega
 ·by_cases L:i < A.length
  ·rw [ff L] at hy;refine ⟨?_,fun h=>by omega⟩;simp only [L,if_true];rw [ff L];exact hy
  ·rw [eE G] at hy
   by_cases I:i=A.length
   ·subst I;rw [iJ] at hy;cases hy;refine ⟨?_,fun _=>hx⟩;simp only [Nat.lt_irrefl,if_false,if_true];rw [eE G,Nat.add_sub_cancel_left,eE (aD _),iJ];rfl
   ·obtain ⟨j,rfl⟩:∃ j,i=A.length+(j+1):=⟨i - A.length - 1,by omega⟩;rw [Nat.add_sub_cancel_left,List.getElem?_cons_succ] at hy;have hj:=(bp hy).1;refine ⟨?_,fun _=>hC y (bF hy)⟩;simp only [L,I,if_false];rw [show A.length+(j+1) - 1=A.length+j by omega,eE G,Nat.add_sub_cancel_left,ff hj];exact hy
theorem Wk.WE {m:Nat} {fr:List GV} {a b c d e x:Ob} (aaK C:List Ob) (hm:m<=aaK.length+5) (L:rq (below (aaK.length+5)) [a,b,c,d,e]=true) (I:∀ q,rq q aaK=true) (hC:∀ y∈C,y.gC=true) (hx:x.gC=true):Wk m fr (a::b::c::d::e::((aaK++C)++[x])) (J5 (aaK.length+5) fr) (a::b::c::d::e::(aaK++x::C)) :=
 Wk.move (a::b::c::d::e::aaK) C (by simp) hm (by show rq (below (aaK.length+5)) ([a,b,c,d,e]++aaK)=true;rw [Jf,L,I];rfl) hC hx
theorem GL.OJ {P:Program} {m:Nat} {Q:du} {fr:List GV} {ops:Array Oper} {rest:List Oper} {dt:Option Tmp} {ty:TypeId} {pos:String} {af:Array Edge} {f:FuncId} [hf:aJ P f] {a b c d e x:Ob} (aaK X:List Ob) {args:List Operand} {lP:Array TypeId} {gs:List GV} {R:GV->List Ob->Prop} (hc:GC P f gs X R) (hX:∀ x∈X,x.gC=true) (ME:∀ r,Go.Xg.lh r gs=gs) (ha:kD (args.map (ba fr)) gs)
  (h:∀ g Δ,R g Δ->X.length<=Δ.length/\(∀ x∈Δ,x.gC=true)/\(∀ r,dX r g=g)/\GL P m ops Q rest (bx fr dt g) (a::b::c::d::e::(aaK++x::Δ))) :
  GL P m ops Q (⟨dt,.call ⟨.value (.func f),args.toArray,lP⟩,ty,pos,af,none⟩::rest) fr (a::b::c::d::e::(aaK++x::X)) :=
 GL.Ih (a::b::c::d::e::(aaK++[x])) X hc (by simp) hX ME ha fun g Δ hr=>by
  obtain ⟨L,I,h3,h4⟩:=h g Δ hr;exact ⟨L,I,h3,by simpa using h4⟩
attribute [local irreducible] GW GL GO YG GC GA be bd
theorem Px:∀ (N:Nat) (t:T),aQ t<=N->∀ (n:Nat) (rows:List (List GV)) (a:Option Addr) (c:Nat),rows.length=n->n+aQ t<=1099511627776 ->
  GC prog 28 [.v (.slice a n c),.agg (cT t)] [.vech 62 5 rows (.slice a n c)] fun g Δ=>∃ a c,g=.v (.slice a (n+aQ t) c)/\Δ=[.vech 62 5 (rows++(fS n t).map aw) (.slice a (n+aQ t) c)]:=by
 intro N
 induction N with
 | zero=>intro t h;have:=lr t;omega
 | succ N ih =>
 intro t hN n rows a c hn hb;subst hn;rw [Go.Xp.eA] at hN hb;have re:=bW t.kids;have eI:(aX t.kids).length=t.kids.length:=aZ t.kids;refine cY func28 ntmps28 ?_;refine GW.seq ?_;refine GW.region ?_;refine GL.kE rfl rfl ?_;refine bJ ?_;refine D ?_;refine GL.oc 0 rfl rfl rfl rfl rfl rfl rfl rfl bm qR ?_;intro a c;refine cE ?_;refine D ?_;refine GW.wk ((Wk.cut (n:=1) (aD _) rfl).trans (Wk.jq 3 1)) ?_;simp only [take_succ_cons,take_zero,cons_append,nil_append]
 refine GW.range (aX t.kids).length (fun k fr F=>∃ a c a2 c2,fr=[.v (.slice a (rows.length+1+aB (t.kids.take k)) c),U,U,.box (cT t) 0,U,.v (ii (rows.length:Nat)),U,U,U,U,U,U,U,U,U,U,U,U,U,.sl 6 (aX t.kids),.v (ii ((aX t.kids).length:Int)),.v (ii (k:Nat)),U,U,U,U,U,U,U,U,U,U,U,U,U,U,U,U,U,U,U,U,U] /\
  F=[.vech 62 5 (rows++[.v (ii t.n.kind),.v (ii t.n.at_),.v (ii t.n.n),.v (sv t.n.s),.v (.slice a2 k c2)]::(bO (rows.length+1) (t.kids.take k)).map aw) (.slice a (rows.length+1+aB (t.kids.take k)) c),.vech 3 1 ((bg (rows.length+1) (t.kids.take k)).map fun z=>[.v (ii z)]) (.slice a2 k c2)]) ?_ G ?_ ?_ ?_
 ·exact ⟨_,_,Wk.aE ao,a,c,none,0,rfl,rfl⟩
 ·rintro k _ _ ⟨a,c,a2,c2,rfl,rfl⟩;exact et
 ·rintro k _ _ ak ⟨a,c,a2,c2,rfl,rfl⟩;rw [eI] at ak;obtain ⟨kid,ku⟩:∃ kid,t.kids[k]?=some kid:=⟨t.kids[k],by simp [ak]⟩;have hr:=dk ku;have dE:=iu ku;have hle:=ir t.kids (k+1)
  have ji:t.kids.take (k+1)=t.kids.take k++[kid]:=by rw [cm,ku];rfl
  have hX:((bO (rows.length+1) (t.kids.take k)).map aw).length=aB (t.kids.take k):=by rw [bP,iN]
  have DQ:((bg (rows.length+1) (t.kids.take k)).map fun z=>[GV.v (ii z)]).length=k:=by rw [bP,Go.Xp.dy,cS];omega
  rw [ji,oQ,kz,gZ];simp only [bg,bO,aB,cq,Nat.add_zero,iL,List.map_cons,List.map_nil,<-fP]
  have uf:=fun (rs:List (List GV)) a c h=>ih kid G (rows.length+1+aB (t.kids.take k)) rs a c h G
  generalize (bO (rows.length+1) (t.kids.take k)).map aw=X at *;generalize ((bg (rows.length+1) (t.kids.take k)).map fun z=>[GV.v (ii z)])=ks at *;generalize aB (t.kids.take k)=s at *;subst DQ
  have jc:∀ r:List GV,(rows++r::X).length=rows.length+1+s:=fun r=>by simp;omega
  have bL:∀ r:List GV,(rows++r::X)[rows.length]?=some r:=fun r=>by simp
  have fR:=jc [.v (ii t.n.kind),.v (ii t.n.at_),.v (ii t.n.n),.v (sv t.n.s),.v (.slice a2 ks.length c2)];have bL:=bL [.v (ii t.n.kind),.v (ii t.n.at_),.v (ii t.n.n),.v (sv t.n.s),.v (.slice a2 ks.length c2)];refine tK ?_;refine GL.A1 rfl rfl rfl rfl rfl rfl rfl ?_;refine bJ ?_;refine D ?_;refine GL.oc 1 rfl rfl rfl rfl rfl rfl rfl rfl bm qR ?_;intro a3 c3;refine cE ?_;refine D ?_;refine nL ?_;rw [xw];simp only [bo];refine D ?_;refine cD [0] (uf _ _ _ (jc _)) ?_;rintro _ _ ⟨a4,c4,rfl,rfl⟩;refine eO ?_;refine D ?_;refine ⟨rfl,rfl,_,_,Wk.aE ao,a4,c4,a3,c3,rfl,?_⟩;rw [cK];rfl
 ·rintro _ _ ⟨a,c,a2,c2,rfl,rfl⟩;rw [eI,b7];rw [Go.Xp.eA,Go.Xp.Fe];have sW:ints (bg (rows.length+1) t.kids)=.sl 1 ((bg (rows.length+1) t.kids).map fun z=>[GV.v (ii z)]):=rfl
  have DQ:((bg (rows.length+1) t.kids).map fun z=>[GV.v (ii z)]).length=t.kids.length:=by rw [bP,Go.Xp.dy]
  rw [List.map_cons];unfold aw;rw [sW,show rows.length+(aB t.kids+1)=rows.length+1+aB t.kids by omega];generalize (bO (rows.length+1) t.kids).map _=X at *;generalize ((bg (rows.length+1) t.kids).map fun z=>[GV.v (ii z)])=ks at *;generalize aB t.kids=s at *
  have bL:∀ r:List GV,(rows++r::X)[rows.length]?=some r:=fun r=>by simp
  refine aW ?_;refine GW.wk (Wk.EL (i:=0) (idx:=rows.length) (o:=4) (j:=1) rfl (bL _) rfl rfl rfl) ?_;rw [xw];simp only [bo];refine D ?_;refine cv ?_;exact ⟨_,_,rfl,rfl⟩
end Go.Xg
namespace Go.Xg
open GV (U)
open Go.RowKit Go.Xw Go.Proofs Tryz
open Go.Xp (Nd T Ar aQ aB bW fS bO iN rD bg oQ kz)
open Go.Sp (Src)
open Go.Im
attribute [local irreducible] GW GL GO YG GC GA be bd
theorem L9:∀ (N:Nat) (t:T),aQ t<=N->∀ (br:List Nd) (h:Value) (ns:List Value),xU br h ns->br.length+aQ t<=8388608 ->
  GC prog 126 [.v h,qT t] (gD br h ns) fun g Δ=>∃ h' qH,xU (br++fS br.length t) h' qH/\g=.v h'/\Δ=gD (br++fS br.length t) h' qH:=by
 intro N
 induction N with
 | zero=>intro t h;have:=lr t;omega
 | succ N ih =>
 intro t hN br h ns H hb
 cases t with
 | mk n l =>
 rw [Go.Xp.aQ] at hN hb;have re:=bW l;have eI:(jB l).length=l.length:=ln l;have eR:=oT H;have sq:=H.len;obtain ⟨a0,c0,rfl⟩:=H.head
 have me:(List.zipWith cR br ns).length=br.length:=by rw [lR];omega
 have hOl:(List.zipWith dd br ns).length=br.length:=by rw [lR];omega
 have hsn:=fun (y h:Value)=>HN sq (fx n []) y h
 have hHs:=fun (a:Option Addr) (c:Nat)=>H.snoc (fx n []) (a:=a) (c:=c) (b:=none) (d:=0)
 refine cY func126 ntmps126 ?_;rw [eR];unfold gD;generalize List.zipWith cR br ns=R at *;generalize List.zipWith dd br ns=O at *;refine D ?_;refine GL.oc 0 rfl rfl rfl rfl rfl rfl rfl rfl me qR ?_;intro a1 c1;refine cE ?_;refine D ?_;refine GW.wk (Wk.jq 3 1) ?_;refine GW.range (jB l).length (fun k fr F=>∃ h' qH,fr=[.v h',qT (.mk n l),U,U,U,.v (ii (br.length:Nat)),U,U,U,U,U,U,U,U,U,U,U,U,U,U,.sl 1 (jB l),.v (ii ((jB l).length:Int)),.v (ii (k:Nat)),U,U,U,U,U,U,U,U,U,U,U,U,U,U,U,U,U,U,U,U,U]/\xU (jL br n l k) h' qH/\F=gD (jL br n l k) h' qH) ?_ G ?_ ?_ ?_
 ·have e0:jL br n l 0=br++[fx n []]:=by unfold jL;rw [take_zero];rfl
  rw [e0];refine ⟨_,_,Wk.aE ao,_,ns++[.slice none 0 0],rfl,hHs a1 c1,?_⟩;rw [hsn];rfl
 ·rintro k _ _ ⟨h',qH,rfl,_,rfl⟩;exact et
 ·rintro k _ _ ak ⟨h',qH,rfl,HM,rfl⟩;rw [eI] at ak;obtain ⟨u,hu⟩:∃ u,l[k]?=some u:=⟨l[k],by simp [ak]⟩;have hr:=yU hu;have dE:=uE hu;have Ms:=Gc (br:=br) (n:=n) (l:=l) (k:=k);have IH:=Sv (br:=br) (n:=n) (l:=l) (k:=k);have hMn:=Nq (br:=br) (n:=n) hu;rw [<-hMn];obtain ⟨a2,c2,rfl⟩:=HM.head;have Uz:=HM.len;obtain ⟨y,hy⟩:∃ y,qH[br.length]?=some y:=⟨qH[br.length]'G,fM _⟩;obtain ⟨a3,c3,rfl⟩:=HM.kid _ _ _ IH hy
  have ke:=fun (a:Option Addr) (c:Nat)=>HM.put IH (bg (br.length+1) (l.take k)++[(((jL br n l k).length:Nat):Int)]) (b:=a) (d:=c) (n:=(bg (br.length+1) (l.take k)).length+1) (by simp)
  have hrk:=fun (y:Value)=>Ee (bg (br.length+1) (l.take k)++[(((jL br n l k).length:Nat):Int)]) y Uz IH
  have eW:=fun (y:Value)=>D9 (bg (br.length+1) (l.take k)++[(((jL br n l k).length:Nat):Int)]) y Uz IH
  have bL:(List.zipWith cR (jL br n l k) qH)[br.length]?=some (cR (fx n (bg (br.length+1) (l.take k))) (.slice a3 (bg (br.length+1) (l.take k)).length c3)):=by rw [getElem?_zipWith,IH,hy];rfl
  have ku:(List.zipWith dd (jL br n l k) qH)[br.length]?=some (.vech 3 1 (l6 (bg (br.length+1) (l.take k))) (.slice a3 (bg (br.length+1) (l.take k)).length c3)):=by rw [getElem?_zipWith,IH,hy];rfl
  have xK:br.length < (List.zipWith cR (jL br n l k) qH).length:=by rw [lR];omega
  have iT:(l6 (bg (br.length+1) (l.take k))).length=(bg (br.length+1) (l.take k)).length:=by simp [l6]
  have mT:l6 (bg (br.length+1) (l.take k)++[(((jL br n l k).length:Nat):Int)])=l6 (bg (br.length+1) (l.take k))++[[.v (ii ((jL br n l k).length:Nat))]]:=by simp [l6]
  have pC:(bg (br.length+1) (l.take k)).length<=8388608:=by
   rw [Go.Xp.dy,cS];omega
  rw [mT] at eW
  have uf:=fun (h:Value) (xO:List Value) H2=>ih u G ((jL br n l k).set br.length (fx (fx n (bg (br.length+1) (l.take k))) (bg (br.length+1) (l.take k)++[(((jL br n l k).length:Nat):Int)]))) h xO H2 (by rw [length_set];omega)
  rw [length_set] at uf;unfold gD;generalize DQ:bg (br.length+1) (l.take k)=ks at *;generalize hM:jL br n l k=aaJ at *;generalize Mr:aaJ.set br.length (fx (fx n ks) (ks++[((aaJ.length:Nat):Int)]))=M2 at *
  have We:∀ x:Ob,(x::List.zipWith dd aaJ qH)[br.length+1]?=some (.vech 3 1 (l6 ks) (.slice a3 ks.length c3)):=fun x=>ku
  generalize List.zipWith dd aaJ qH=O2 at *;generalize List.zipWith cR aaJ qH=R2 at *;unfold cR fx at bL;refine D ?_;refine GL.oc (br.length+1) rfl rfl rfl rfl rfl rfl rfl (We _) iT qR ?_;intro a4 c4;refine sQ vk (by simp only [oset];rw [eW]) ?_;refine D ?_;refine nL ?_;simp only [cL];rw [hrk];have H2:=ke a4 c4;have jc:=oT H2;refine D ?_;refine GL.Ih [] (gD M2 (.slice a2 aaJ.length c2) (qH.set br.length (.slice a4 (ks.length+1) c4))) (uf _ _ H2) rfl nk (fun _=>rfl) (kU) ?_;rintro _ _ ⟨h5,Vb,H5,rfl,rfl⟩;have Xr:=oT H5;rw [aU] at Xr;refine ⟨by rw [jc,Xr];omega,nk,fun _=>rfl,?_⟩;rw [nil_append];refine bJ ?_;refine D ?_;exact ⟨rfl,rfl,_,_,Wk.aE ao,h5,Vb,rfl,H5,rfl⟩
 ·rintro _ _ ⟨h',qH,rfl,HM,rfl⟩;rw [eI] at HM |-;rw [PO] at HM |-;have Y6:=oT HM;refine aW ?_;unfold gD;refine D ?_;refine nW ?_;refine CM (n:=(gD (br++fS br.length (.mk n l)) h' qH).length) rfl dF rfl (by rw [Y6,aU];omega) ?_ rfl ?_
  ·show xP _ (List.take _ (gD _ _ _))=true;rw [b7];exact C3 nk
  ·show ∃ I xO,_/\_/\List.take _ (gD _ _ _)=_;rw [b7];exact ⟨h',qH,HM,rfl,rfl⟩
end Go.Xg
namespace Go.Xg
open GV (U)
open Go.RowKit Go.Xw Go.Proofs Tryz
open Go.Xp (Nd T Ar aQ aB bW fS bO iN rD kz iu ir)
open Go.Sp (Src)
open Go.Im
attribute [local irreducible] GW GL GO YG GC GA be bd
theorem C5:∀ l:List Go.Sp.Fn,ig (l.map au)=true
 | []=>rfl
 | a::l=>by
  have:=C5 l;rw [List.map_cons,ig,this];rfl
theorem Jh:∀ l:List T,ig (bT l)=true
 | []=>rfl
 | t::l=>by
  have:=Jh l;rw [bT,ig,this,Rv];rfl
theorem Tn:∀ (N:Nat) (t:T),aQ t<=N->aQ t<=1099511627776->GF prog 127 [uT t] [] (qT t) []:=by
 intro N
 induction N with
 | zero=>intro t h;have:=lr t;omega
 | succ N ih =>
 intro t hN hb;have re:=bW t.kids;have eI:=mI t.kids;rw [Go.Xp.eA] at hN hb;refine ah func127 ntmps127 ?_;refine GW.wk (Wk.Gj (i:=0) (o:=5) 131 1 rfl rfl) ?_;simp only [bo,oset,cons_append,nil_append]
 refine GW.range (bT t.kids).length (fun k fr F=>∃ m R,fr=[uT t,U,U,.loc 0 0,U,U,U,U,U,U,U,U,U,U,U,U,U,U,U,.sl 1 (bT t.kids),.v (ii ((bT t.kids).length:Int)),.v (ii (k:Nat)),U,U,U,U,U,U,U,U,U,U,U,U,U,U,U,U] /\
  F=[.box 170 [.v (ii t.n.kind),.v (ii t.n.at_),.v (ii t.n.n),.v (sv t.n.s),.v (.slice none 0 0),.vec 1 m],.vec 131 1 0 R]/\R.length=m/\R=jB (t.kids.take k)) ?_ G ?_ ?_ ?_
 ·exact ⟨_,_,Wk.aE ao,0,[],rfl,rfl,rfl,rfl⟩
 ·rintro k _ _ ⟨m,R,rfl,rfl,_⟩;exact et
 ·rintro k _ _ ak ⟨m,R,rfl,rfl,hm,hR⟩;rw [eI] at ak;obtain ⟨u,hu⟩:∃ u,t.kids[k]?=some u:=⟨t.kids[k],by simp [ak]⟩;have hr:=sC hu;have dE:=uE hu;have uf:=ih u G G
  have qz:m<=1099511627776:=by rw [<-hm,hR,ln,cS];omega
  have rh:jB (t.kids.take (k+1))=R++[[qT u]]:=by rw [cm,hu,hR,fX,fX,iL];rfl
  refine D ?_;refine aK (aC 0 6 (.a 6 (.a 7 (.a 8 (.q 9 (.q 10 (.a 11 .nil))))))) ?_;refine aj ?_;refine aI [] uf ?_;refine eY ?_;refine aj ?_;refine zG ?_;refine bq ?_;exact ⟨rfl,rfl,_,_,Wk.aE ao,_,_,rfl,rfl,by simp [hm],rh.symm⟩
 ·rintro _ _ ⟨m,R,rfl,rfl,hm,hR⟩;rw [eI,b7] at hR;subst hR;refine aW ?_;refine GW.wk (Wk.tw (i:=0) (o:=5) (j:=1) rfl rfl rfl rfl hm) ?_;refine GW.wk (Wk.freeze (i:=0) rfl rfl rfl (aD _)) ?_;exact ay
theorem OI (p:Src) {l:List T} (cz:dU p l) (hk:∀ n∈p.nodes,n.kids.length<=1099511627776) :
  GC prog 66 [.agg (ar p)] [] fun g Δ=>∃ a c,g=.tup [.v (.slice a l.length c),.v (.bool true)]/\Δ=[.vech 131 1 (bT l) (.slice a l.length c)]:=by
 have hl:=cz.few;have hlen:=eT.len cz.fns
 have sT:(p.fns.map au).length=p.fns.length:=by simp
 have qA:=cz.len;have o8:=bW l;refine cY func66 ntmps66 ?_;refine GW.wk (Wk.jq 131 1) ?_;simp only [nil_append];refine D ?_
 refine GW.range (p.fns.map au).length (fun k fr F=>∃ a c,fr=[U,.loc 1 0,U,U,.v (.slice a k c),.v (ii (aB (l.take k):Nat)),U,U,U,U,U,U,.sl 3 (p.fns.map au),.v (ii ((p.fns.map au).length:Int)),.v (ii (k:Nat)),U,U,U,U,U,U,U,U,U,U,U,U,U,U,U,U,U,U,U,U,U,U,U,U,U,U,U,U,U,U,U] /\
  F=[.vech 131 1 (bT (l.take k)) (.slice a k c),.box 33 (ar p)]) ?_ G ?_ ?_ ?_
 ·exact ⟨_,_,Wk.aE ao,none,0,rfl,rfl⟩
 ·rintro k _ _ ⟨a,c,rfl,rfl⟩;exact et
 ·rintro k _ _ ak ⟨a,c,rfl,rfl⟩;rw [sT] at ak;obtain ⟨f,hf⟩:∃ f,p.fns[k]?=some f:=⟨p.fns[k],by simp [ak]⟩;obtain ⟨t,ht⟩:∃ t,l[k]?=some t:=⟨l[k]'G,fM _⟩;have yw:=sB hf;obtain ⟨e1,-⟩:=eT.at_ cz.fns k f t hf ht;rw [cL] at e1;have h7:=dC.ix l 0 k t cz.st ht;rw [cL] at h7;have hz:=iu ht;have hle:=ir l (k+1);obtain ⟨_,_,hq⟩:=(eT.mem cz.fns).2 t (bF ht);have BK:=G5 p.nodes G hk (p.nodes.length+1) (aB (l.take k)) G G;rw [N4 (p.nodes.length+1) t _ h7 (EX t hq.all) G] at BK
  have bC:(f.body != ((aB (l.take k):Nat):Int))=false:=by simp [e1]
  have hR:(bT (l.take k)).length=k:=by rw [mI,cS];omega
  have rh:bT (l.take (k+1))=bT (l.take k)++[[uT t]]:=by rw [cm,ht,<-Dh];rfl
  rw [rh,hz];generalize bT (l.take k)=R at *;generalize aB (l.take k)=s at *;unfold au at yw;unfold X5 at BK;refine D ?_;refine V [] BK ?_;refine GL.oc 0 rfl rfl rfl rfl rfl rfl rfl rfl bm qR ?_;intro a2 c2;refine cE ?_;rw [hR];refine D ?_;exact ⟨rfl,rfl,_,_,(Wk.cut (n:=2) (aM _) rfl).trans (Wk.aE ao),a2,c2,rfl,rfl⟩
 ·rintro _ _ ⟨a,c,rfl,rfl⟩;rw [sT,lS (show l.length<=p.fns.length by omega)]
  have xL:(((aB l:Nat):Int)==((p.nodes.map aw).length:Int))=true:=by rw [qA];simp
  rw [hlen];refine aW ?_;refine D ?_;refine aK (aC 0 8 .nil) ?_;refine bq ?_;rw [xL];refine nW ?_;exact O9 (n:=1) rfl dF rfl rfl (aM _) rfl rfl ⟨a,c,rfl,rfl⟩
theorem Hz (gs:List Go.Xp.ae) (sR:List Ar) (fs:List Go.Sp.Fn) (ls:List T) (hl:fs.length=ls.length) (L:gs.length<=8388608) (I:sR.length<=8388608) (h3:fs.length<=8388608) (h4:aB ls<=8388608) (hp:∀ f∈fs,f.params.length<=8388608) :
  GC prog 67 [strs gs,.sl 2 (sR.map az),.sl 3 (fs.map au),.sl 1 (bT ls)] [] fun g Δ=>∃ hg ha hf hn hs ns,nO (zr gs sR fs ls) hg ha hf hn hs ns/\g=.agg [.v hg,.v ha,.v hf,.v hn]/\Δ=dK (zr gs sR fs ls) hg ha hf hn hs ns:=by
 have Xo:(bA gs).length=gs.length:=fw gs
 have Xk:(sR.map az).length=sR.length:=by simp
 have sT:(fs.map au).length=fs.length:=by simp
 have kY:ig (bA gs)=true:=ow gs;have ha1:=tF sR;have e3:strs gs=.sl 1 (bA gs):=rfl;rw [e3];refine cY func67 ntmps67 ?_;refine GW.wk (Wk.jq 9 1) ?_;refine GW.wk (Wk.jq 56 2) ?_;simp only [nil_append,cons_append];refine D ?_;refine GL.pL 0 rfl rfl rfl rfl kY (by rw [Xo];refine ⟨?_,?_⟩ <;> omega) ?_;intro ag cg;rw [Xo];refine bJ ?_;simp only [nil_append,length_nil,cL];refine D ?_;refine GL.pL 1 rfl rfl rfl rfl ha1 (by rw [Xk];refine ⟨?_,?_⟩ <;> omega) ?_;intro aa ca;rw [Xk];refine bJ ?_;simp only [nil_append,length_nil,cL];refine D ?_;refine GW.wk (Wk.jq 58 3) ?_;refine GW.wk (Wk.jq 62 5) ?_
 try simp only [nil_append,cons_append]
 generalize TW:Ob.vech 9 1 (bA gs) (.slice ag gs.length cg)=G0 at *;generalize IG:Ob.vech 56 2 (sR.map az) (.slice aa sR.length ca)=A0 at *
 have hGk:∀ q,Ob.ok q G0=true:=fun q=>by rw [<-TW];rfl
 have hAk:∀ q,Ob.ok q A0=true:=fun q=>by rw [<-IG];rfl
 refine GW.range (fs.map au).length (fun k fr F=>∃ af cf hs hn ns,fr=[U,U,U,.sl 1 (bT ls),U,U,U,U,.loc 2 0,.loc 3 0,U,U,U,U,U,U,U,.sl 3 (fs.map au),.v (ii ((fs.map au).length:Int)),.v (ii (k:Nat)),U,U,U,U,U,U,U,U,U,U,U,U,U,U,U,U,U,U,U,U,U,U,U,U,U,U,U,U,U]/\hs.length=k/\(∀ (i:Nat) x y,(eK 0 (fs.take k) (ls.take k))[i]?=some x->hs[i]?=some y->Hd x.params.length y)/\xU (bO 0 (ls.take k)) hn ns /\
  F=G0::A0::.box 33 [.v (.slice none 0 0),.v (.slice none 0 0),.v (.slice none 0 0),.v (.slice none 0 0)]::.box 33 [.v (.slice ag gs.length cg),.v (.slice aa sR.length ca),.v (.slice af k cf),.v hn]::.vech 58 3 (List.zipWith fL (eK 0 (fs.take k) (ls.take k)) hs) (.slice af k cf)::(List.zipWith fK (eK 0 (fs.take k) (ls.take k)) hs++gD (bO 0 (ls.take k)) hn ns)) ?_ G ?_ ?_ ?_
 ·exact ⟨_,_,Wk.aE ao,none,0,[],.slice none 0 0,[],rfl,rfl,(fun i x y _ h=>by simp at h),⟨⟨none,0,rfl⟩,rfl,fun i x y h=>by simp [bO] at h⟩,rfl⟩
 ·rintro k _ _ ⟨af,cf,hs,hn,ns,rfl,_,_,_,rfl⟩;exact et
 ·rintro k _ _ ak ⟨af,cf,hs,hn,ns,rfl,qA,IL,HM,rfl⟩;rw [sT] at ak;obtain ⟨f,hf⟩:∃ f,fs[k]?=some f:=⟨fs[k],by simp [ak]⟩;obtain ⟨t,ht⟩:∃ t,ls[k]?=some t:=⟨ls[k]'G,fM _⟩;have hr:=sB hf;have Q5:=sC ht;have dJ:=hp f (bF hf);have hz:=iu ht;have hle:=ir ls (k+1)
  have Xs:(fs.take k).length=(ls.take k).length:=by rw [cS,cS,hl]
  have Mq:=qD (fs.take k) (ls.take k) 0 Xs;rw [cS,Nat.min_eq_left G] at Mq;have QP:(bO 0 (ls.take k)).length=aB (ls.take k):=iN _ _
  have Xe:eK 0 (fs.take (k+1)) (ls.take (k+1))=eK 0 (fs.take k) (ls.take k)++[⟨f.name,f.params,(((bO 0 (ls.take k)).length:Nat):Int)⟩]:=by
   rw [cm,cm,hf,ht];have:=vw f t (fs.take k) (ls.take k) 0 Xs;rw [cL] at this;rw [QP];exact this
  have Xh:bO 0 (ls.take (k+1))=bO 0 (ls.take k)++fS (bO 0 (ls.take k)).length t:=by
   rw [cm,ht,show (some t).toList=[t] from rfl,kz,bO,bO,cq,cL,QP]
  have hB:=Tn _ t (aD _) G
  have vQ:=fun hn ns H=>L9 _ t (aD _) (bO 0 (ls.take k)) hn ns H G
  have gB:=ow f.params
  have ri:(f.params.map fun s=>[GV.v (sv s)]).length=f.params.length:=by simp
  rw [Xe,Xh];clear Xe Xh;generalize eK 0 (fs.take k) (ls.take k)=J at *;generalize bO 0 (ls.take k)=N at *
  have Bv:N.length<=8388608:=by omega
  have me:(List.zipWith fL J hs).length=k:=by rw [lR];omega
  have hZR:∀ x y,List.zipWith fL (J++[x]) (hs++[y])=List.zipWith fL J hs++[fL x y]:=fun x y=>zipWith_append G
  have hZO:∀ x y,List.zipWith fK (J++[x]) (hs++[y])=List.zipWith fK J hs++[fK x y]:=fun x y=>zipWith_append G
  have hFH:∀ x∈List.zipWith fK J hs,x.gC=true:=ki (fun _ _=>rfl)
  have hFk:∀ q,rq q (List.zipWith fK J hs)=true:=fun q=>C3 hFH
  have hNH:∀ x∈gD N hn ns,x.gC=true:=nk;obtain ⟨n0,n1,rfl⟩:=HM.head;generalize List.zipWith fL J hs=R at *;generalize List.zipWith fK J hs=FO at *;generalize hX:FO++gD N (.slice n0 N.length n1) ns=X
  have uV:∀ a b c d e x:Ob,(a::b::c::d::e::(X++[x]))[X.length+5]?=some x:=fun a b c d e x=>o5e a b c d e x X []
  have cz:∀ a b c d e x y:Ob,oset (a::b::c::d::e::(X++[x])) (X.length+5) y=a::b::c::d::e::(X++[y]):=fun a b c d e x y=>o5f a b c d e x y X []
  refine GW.wk (Wk.jq 9 1) ?_;simp only [cons_append];unfold au at hr;refine tK ?_;refine GL.WH rfl rfl rfl rfl rfl rfl rfl ?_;refine bJ ?_;refine D ?_;refine aK (aC 0 6 (aC 7 3 (.a 6 (.q 10 (.a 11 (.a 12 (.q 13 (.a 14 .nil)))))))) ?_;refine aj ?_;refine OA rfl rfl ?_;refine GL.pL (X.length+5) rfl rfl (uV _ _ _ _ _ _) rfl gB (by rw [ri];refine ⟨?_,?_⟩ <;> omega) ?_;intro a1 c1;rw [ri];simp only [nil_append,length_nil,cL];rw [cz];refine cj ?_;refine aj ?_;refine eY ?_;refine aj ?_;refine OA rfl rfl (GL.rz 4 rfl rfl rfl bm rfl rfl (by refine ⟨?_,?_⟩;(· show _+1<=_;omega);(· show (_+1) * _<=_;omega)) ?_);intro a2 c2;refine cj ?_;rw [me];refine bq ?_;subst hX;refine GW.wk ((Wk.WE FO (gD N (.slice n0 N.length n1) ns) (aM _) (by simp only [rq,hGk,hAk];rfl) hFk hNH rfl).trans (Wk.aE (cJ:=[U,U,U,.sl 1 (bT ls),U,U,U,U,.loc 2 0,.loc 3 0,.v (ii (k:Nat)),U,U,U,U,U,U,.sl 3 (fs.map au),.v (ii ((fs.map au).length:Int)),.v (ii (k:Nat)),U,U,U,U,U,U,U,U,U,U,U,U,U,U,U,U,U,U,U,U,U,U,U,U,U,U,U,U,U]) ao)) ?_;simp only [cons_append];refine aK (aC 0 6 (.a 6 (.a 7 (.q 8 (.a 9 .nil))))) ?_;refine aj ?_;refine iH [] hB ?_;simp only [cq];refine aj ?_;refine OA rfl rfl ?_;refine GL.OJ FO (gD N (.slice n0 N.length n1) ns) (vQ _ _ HM) nk (fun _=>rfl) (kU) ?_;rintro _ _ ⟨h5,Vb,H5,rfl,rfl⟩;obtain ⟨m0,m1,rfl⟩:=id H5.head;refine ⟨by rw [oT H5,oT HM,aU];omega,nk,fun _=>rfl,?_⟩;refine cj ?_;refine bq ?_;refine ⟨rfl,rfl,_,_,Wk.aE ao,a2,c2,hs++[.slice a1 f.params.length c1],_,Vb,rfl,by simp [qA],?_,H5,?_⟩
  ·intro i x y e1 e2
   by_cases hi:i < k
   ·rw [ff G] at e1 e2;exact IL i x y e1 e2
   ·rw [eE G] at e1 e2;rw [Mq] at e1;rw [qA] at e2
    cases hk:i - k with
    | zero=>rw [hk] at e1 e2;cases e1;cases e2;exact ⟨_,_,rfl⟩
    | succ j=>rw [hk] at e1;simp at e1
  ·rw [hZR,hZO,cK];rfl
 ·rintro _ _ ⟨af,cf,hs,hn,ns,rfl,qA,IL,HM,rfl⟩;rw [sT] at qA IL HM |-;rw [lS (show ls.length<=fs.length by omega)] at IL HM |-;rw [b7] at IL |-;refine aW ?_;have Mq:=qD fs ls 0 hl;obtain ⟨n0,n1,rfl⟩:=HM.head;refine D ?_;refine nW ?_;refine V7 (X:=[G0,A0]) (Y:=[_,_]) (Z:=.vech 58 3 (List.zipWith fL (eK 0 fs ls) hs) (.slice af fs.length cf)::(List.zipWith fK (eK 0 fs ls) hs++gD (bO 0 ls) (.slice n0 (bO 0 ls).length n1) ns)) rfl dF rfl rfl rfl rfl rfl ?_ ?_ ?_
  ·intro x hx
   rcases dA hx with rfl | hx
   ·rw [<-TW];rfl
   ·rw [sP hx,<-IG];rfl
  ·intro x hx
   rcases dA hx with rfl | hx
   ·rfl
   rcases oI hx with hx | hx
   ·exact ki (fun _ _=>rfl) x hx
   ·exact nk x hx
  ·refine ⟨_,_,_,_,hs,ns,⟨⟨ag,cg,rfl⟩,⟨aa,ca,rfl⟩,⟨af,cf,by rw [show (zr gs sR fs ls).fns.length=fs.length from Mq]⟩,⟨n0,n1,rfl⟩,by rw [qA];exact Mq.symm,HM.len,IL,HM.kid⟩,rfl,?_⟩;unfold dK;rw [<-TW,<-IG];rfl
end Go.Xg
namespace Go.Xg
open GV (U)
open Go.RowKit Go.Xw Go.Proofs Tryz
open Go.Xp (Nd T Ar aQ aB)
open Go.Sp (Src)
open Go.Im
attribute [local irreducible] GW GL GO YG GC GA be bd
theorem KH (R:List Go.Xp.ae) (s:Go.Xp.ae) (hn:R.length<=1099511627776):GF prog 65 [.v (sv s),.box [.sl 1 (bA R)] 0] [] (.v (.bool (R.contains s))) []:=by
 have h:=kp R s hn;have e3:strs R=.sl 1 (bA R):=rfl;rw [e3] at h;generalize R.contains s=b at *;refine ah func65 ntmps65 ?_;refine V [] h ?_;exact al
theorem Ni (R l:List Go.Xp.ae) (hR:R.length<=1099511627776) (hn:l.length<=1099511627776) :
  GF prog 64 [.sl 1 (bA l),.fn (.func 65) [] [.box [.sl 1 (bA R)] 0]] [] (.v (.bool (l.any fun s=>R.contains s))) []:=by
 have eR:=fw l
 have hI:GF prog 124 [.sl 1 (bA l),.fn (.func 65) [] [.box [.sl 1 (bA R)] 0]] [] (.v (ii (dV (fun s=>R.contains s) l))) []:=by
  refine ah func124 ntmps124 ?_;refine GW.range (bA l).length (fun k fr F=>fr=[.sl 1 (bA l),.fn (.func 65) [] [.box [.sl 1 (bA R)] 0],U,U,U,U,U,.v (ii ((bA l).length:Int)),.v (ii (k:Nat)),U,U,U,U,U,U,U,U,U,U]/\F=[]/\(l.take k).all (fun y=>!R.contains y)=true) ?_ G ?_ ?_ ?_
  ·exact kQ
  ·exact iI
  ·rintro k _ _ ak ⟨rfl,rfl,aY⟩;rw [eR] at ak;obtain ⟨x,dI⟩:∃ x,l[k]?=some x:=⟨l[k],by simp [ak]⟩
   have hr:(bA l)[k]?=some [.v (sv x)]:=by unfold bA;rw [aV,dI];rfl
   have h:=KH R x hR;have bK:=oh (f:=fun s=>R.contains s) dI
   have hit:=fun h0=>oN (f:=fun s=>R.contains s) dI h0 aY
   cases hb:R.contains x with
   | true =>
    rw [hb] at h;rw [hit hb];refine D ?_;refine mb [] h ?_;exact ay
   | false =>
    rw [hb] at h bK;refine D ?_;refine mb [] h ?_;refine D ?_;exact ⟨rfl,rfl,_,_,Wk.aE ao,rfl,rfl,by rw [bK,aY];rfl⟩
  ·rintro _ _ ⟨rfl,rfl,aY⟩;rw [eR,b7] at aY;rw [lZ aY];exact ay
 rw [<-DC];generalize dV _ l=z at *;refine ah func64 ntmps64 ?_;refine V [] hI ?_;exact al
theorem Tg (a b:Src) (h:(fI a&&fI b)=false) (hA:GF prog 63 [.agg (ar a)] [] (.v (.bool (fI a))) []) (hB:GF prog 63 [.agg (ar b)] [] (.v (.bool (fI b))) []) :
  GC prog 14 [.agg (ar a),.agg (ar b)] [] (Av jD 1):=by
 generalize fI a=x at *;generalize fI b=y at *
 cases x with
 | false =>
  refine cY func14 ntmps14 ?_;refine GW.seq ?_;refine GW.region ?_;refine GL.kE rfl rfl ?_;refine bJ ?_;refine GL.kE rfl rfl ?_;refine bJ ?_;refine D ?_;refine V [] hA ?_;exact GW.jD (fn:=f14) rfl rfl (by simp) rfl rfl (fun _ _ h=>by repeat (first | exact h | refine jK ?_ | refine jJ ?_))
 | true =>
  have h:y=false:=h;subst h;refine cY func14 ntmps14 ?_;refine GW.seq ?_;refine GW.region ?_;refine GL.kE rfl rfl ?_;refine bJ ?_;refine GL.kE rfl rfl ?_;refine bJ ?_;refine D ?_;refine V [] hA ?_;refine V [] hB ?_;exact GW.jD (fn:=f14) rfl rfl (by simp) rfl rfl (fun _ _ h=>by repeat (first | exact h | refine jK ?_ | refine jJ ?_))
theorem Th (a b:Src) (hw:df a+df b<=1048576) (na:qm a) (nb:qm b):GC prog 14 [.agg (ar a),.agg (ar b)] [] (Av (pO a b).1 (pO a b).2):=by
 have hA:=xS a G na;have hB:=xS b G nb;unfold pO
 by_cases hf:(fI a&&fI b)=true
 ·rw [ab hf];rw [aH] at hf;obtain ⟨x,hx⟩:=lA hf.1;obtain ⟨y,hy⟩:=lA hf.2;rw [hf.1] at hA;rw [hf.2] at hB;rw [hx.Bg,hy.Bg];simp only;have hjw:=CT hx hy;obtain ⟨⟨a1,a2⟩,⟨b1,b2⟩,⟨c1,c2⟩,⟨d1,d2⟩⟩:=ju a;obtain ⟨⟨a3,a4⟩,⟨b3,b4⟩,⟨c3,c4⟩,⟨d3,d4⟩⟩:=ju b;have DJ:=wM a G;have Bv:=wM b G;have MI:=oS a;have Us:=oS b;have AJ:=Ni (bE a) (bE b) G G;have hBa:=OI a hx (fun n h=>by have:=(d2 n h).2;omega);have TU:=tV b G (fun n h=>by have:=(d4 n h).2;omega) G;rw [hy.Bg] at TU;unfold Ay at TU;have MR:=eT.len hx.fns;have Ra:=eT.len hy.fns;have rn:=hx.len;have UN:=hy.len;have hjn:=Ku hx hy na nb;have hgd:=Si (mh a b x y) G hjn
  have hJ:=Hz (a.globals++b.globals) (a.arrays++b.arrays) (a.fns++b.fns) (x++y) (by simp [MR,Ra]) (by rw [aU];omega) (by rw [aU];omega) (by rw [aU];omega) (by rw [Go.Xp.gZ];omega) (fun f hf=>by
   rcases oI hf with h | h
   ·have:=(c2 f h).2.1;omega
   ·have:=(c4 f h).2.1;omega)
  rw [show strs (a.globals++b.globals)=.sl 1 ((a.globals.map fun s=>[GV.v (sv s)])++(b.globals.map fun s=>[GV.v (sv s)])) by rw [<-iL],iL,iL,show bT (x++y)=bT x++bT y by rw [jw,jw,jw,iL]] at hJ;rw [show zr (a.globals++b.globals) (a.arrays++b.arrays) (a.fns++b.fns) (x++y)=mh a b x y from rfl] at hJ;have g1:(a.globals.map fun s=>[GV.v (sv s)]).length=a.globals.length:=fw _;have g2:(b.globals.map fun s=>[GV.v (sv s)]).length=b.globals.length:=fw _;have g3:(a.arrays.map az).length=a.arrays.length:=bP ..;have g4:(b.arrays.map az).length=b.arrays.length:=bP ..;have g5:(a.fns.map au).length=a.fns.length:=bP ..;have g6:(b.fns.map au).length=b.fns.length:=bP ..;have g7:=mI x;have g8:=mI y;have k1:=ow a.globals;have k2:=ow b.globals;have k3:=tF a.arrays;have k4:=tF b.arrays;have k5:=C5 a.fns;have k6:=C5 b.fns;have k8:=Jh y;have q1:=Go.Xp.bW y;have q2:=Go.Xp.bW x;generalize (bE b).any (fun s=>(bE a).contains s)=v at *;generalize bE a=NA at *;generalize bE b=NB at *;refine cY func14 ntmps14 ?_;refine GW.seq ?_;refine GW.region ?_;refine GL.kE rfl rfl ?_;refine bJ ?_;refine GL.kE rfl rfl ?_;refine bJ ?_;refine D ?_;refine V [] hA ?_;refine V [] hB ?_;refine cD [] DJ ?_;rintro _ _ ⟨an,cn,rfl,rfl⟩;refine eO ?_;refine GL.wk (Wk.oU (t:=25) (i:=1) rfl rfl rfl) ?_;refine cE ?_;refine tK ?_;refine GL.A1 rfl rfl rfl rfl rfl rfl rfl ?_;refine bJ ?_;refine D ?_;refine cD [] Bv ?_;rintro _ _ ⟨an,cn,rfl,rfl⟩;refine eO ?_;refine GL.wk (Wk.oU (t:=27) (i:=2) rfl rfl rfl) ?_;refine cE ?_;refine D ?_;refine hY [] AJ ?_
  cases v with
  | true =>
   simp only [if_true];refine D ?_;exact GW.jD (fn:=f14) rfl rfl (by simp) rfl rfl (fun _ _ h=>by repeat (first | exact h | refine jK ?_ | refine jJ ?_))
  | false =>
  simp only [Bool.false_eq_true,if_false];refine GL.wk ((Wk.cut (n:=1) (aM _) rfl).trans (Wk.aE (cJ:=[U,U,.box (ar a) 0,.box (ar b) 0,.loc 0 0,U,U,U,U,U,U,U,U,U,U,U,U,U,U,U,U,U,U,U,U,U,U,U,U,.v (.bool false),U,U,U,U,U,U,U,U,U,U,U,U,U,U,U,U,U,U,U,U,U,U,U,U,U,U,U,U,U,U,U,U,U,U,U,U,U,U,U,U,U]) ao)) ?_;simp only [take_succ_cons,take_zero];refine D ?_;refine cD [] hBa ?_;rintro _ _ ⟨ax,cx,rfl,rfl⟩;refine eO ?_;refine D ?_;refine hY [] TU ?_;refine GL.wk (Wk.jq 9 1) ?_;refine GL.wk (Wk.jq 56 2) ?_;refine GL.wk (Wk.jq 58 3) ?_;simp only [cons_append,nil_append];refine D ?_;refine aK (.q 0 (.q 1 (.q 3 (.q 4 (.a 2 (.a 5 (.q 6 .nil))))))) ?_;refine aj ?_;refine OA rfl rfl (GL.pL 2 rfl rfl rfl rfl k1 (by rw [g1];refine ⟨?_,?_⟩ <;> omega) ?_);intro u1 u2;rw [g1];simp only [nil_append,length_nil,cL];refine cj ?_;refine aj ?_;refine OA rfl rfl (GL.pL 2 rfl rfl rfl g1 k2 (by rw [g2];refine ⟨?_,?_⟩ <;> omega) ?_);intro u3 u4;rw [g2];refine cj ?_;refine bq ?_;refine aK (.q 0 (.q 1 (.q 3 (.q 4 (.a 2 (.a 5 (.q 6 .nil))))))) ?_;refine aj ?_;refine OA rfl rfl (GL.pL 3 rfl rfl rfl rfl k3 (by rw [g3];refine ⟨?_,?_⟩ <;> omega) ?_);intro u1 u2;rw [g3];simp only [nil_append,length_nil,cL];refine cj ?_;refine aj ?_;refine OA rfl rfl (GL.pL 3 rfl rfl rfl g3 k4 (by rw [g4];refine ⟨?_,?_⟩ <;> omega) ?_);intro u5 u6;rw [g4];refine cj ?_;refine bq ?_;refine aK (.q 0 (.q 1 (.q 3 (.q 4 (.a 2 (.a 5 (.q 6 .nil))))))) ?_;refine aj ?_;refine OA rfl rfl (GL.pL 4 rfl rfl rfl rfl k5 (by rw [g5];refine ⟨?_,?_⟩ <;> omega) ?_);intro u1 u2;rw [g5];simp only [nil_append,length_nil,cL];refine cj ?_;refine aj ?_;refine OA rfl rfl (GL.pL 4 rfl rfl rfl g5 k6 (by rw [g6];refine ⟨?_,?_⟩ <;> omega) ?_);intro u7 u8;rw [g6];refine cj ?_;refine bq ?_;refine GL.pL 1 rfl rfl rfl g7 k8 (by rw [g8];refine ⟨?_,?_⟩ <;> omega) ?_;intro u9 u10;rw [g8];refine bJ ?_;refine GL.wk (Wk.oU (t:=59) (i:=2) rfl rfl rfl) ?_;refine GL.wk (Wk.oU (t:=60) (i:=3) rfl rfl rfl) ?_;refine GL.wk (Wk.oU (t:=61) (i:=4) rfl rfl rfl) ?_
  refine GL.wk (Wk.oU (t:=64) (i:=1) rfl rfl rfl) ?_;refine cE ?_;refine cD [] hJ ?_;rintro _ _ ⟨hg,ha,BA,hn,hs,ns,H,rfl,rfl⟩;rw [oR (gQ (mh a b x y) hg ha BA hn hs ns)];obtain ⟨⟨s0,s1,rfl⟩,⟨s2,s3,rfl⟩,⟨s4,s5,rfl⟩,⟨s6,s7,rfl⟩,-,-,-,-⟩:=id H;refine eO ?_;refine tK ?_;refine GL.A1 rfl rfl rfl rfl rfl rfl rfl ?_;refine bJ ?_;refine D ?_;refine GL.borrow hgd (fun B K β w l hI hF=>Hr H (A:=[_,_,_,_,_]) (C:=[]) (by rw [cq];exact hI) hF rfl) ?_;refine bJ ?_
  cases Xn:tj (mh a b x y) with
  | false =>
   simp only [Bool.false_eq_true,if_false];refine D ?_;exact GW.jD (fn:=f14) rfl rfl (by simp) rfl rfl (fun _ _ h=>by repeat (first | exact h | refine jK ?_ | refine jJ ?_))
  | true =>
   simp only [if_true];refine D ?_;refine nW ?_;exact Ml [] [_,_,_,_,_] _ rfl dF rfl rfl rfl rfl rfl (by simp only [nil_append,cons_append];rfl) (fun x h=>by cases h) (gQ _ _ _ _ _ _ _) ⟨_,_,_,_,_,_,H,rfl,rfl⟩
 ·rw [M hf];exact Tg a b (by simpa using hf) hA hB
end Go.Xg
set_option maxHeartbeats 2000000
namespace Go.Xg
open GV (U)
open Go.RowKit Go.Xw Go.Proofs Tryz
open Go.Xp (Nd Ar)
open Go.Sp (Src)
open Go.Im
attribute [local irreducible] GW GL GO YG GC GA be bd
theorem Lx (p:Src) (hF:GF prog 58 [.agg (ar p)] [] (.v (.bool false)) []):GF prog 59 [.agg (ar p)] [] (strs []) []:=by
 refine GC.le (g:=.v (.slice none 0 0)) ?_ mn.nil;refine ah func59 ntmps59 ?_;refine V [] hF ?_;exact al
theorem JR (p:Src) (hw:df p<=1048576) (hF:GF prog 58 [.agg (ar p)] [] (.v (.bool true)) []):GF prog 59 [.agg (ar p)] [] (strs (bE p)) []:=by
 obtain ⟨⟨a1,a2⟩,⟨b1,b2⟩,⟨c1,c2⟩,⟨d1,d2⟩⟩:=ju p
 have uX:(p.globals.map fun s=>[GV.v (sv s)]).length=p.globals.length:=by simp
 have gB:ig (p.globals.map fun s=>[GV.v (sv s)])=true:=tt p.globals;refine ah func59 ntmps59 ?_;refine V [] hF ?_;refine oE ?_;refine D ?_;refine GL.wO rfl rfl rfl rfl gB (by refine ⟨?_,?_⟩;(· rw [uX];omega);(· rw [uX];omega)) ?_;rw [uX];refine bJ ?_;simp only [cL];refine D ?_;refine GW.range (p.arrays.map az).length (fun k fr F=>∃ R n,fr=[U,.loc 0 0,U,.vec 1 n,U,U,U,U,U,U,U,U,U,U,U,U,.sl 2 (p.arrays.map az),.v (ii ((p.arrays.map az).length:Int)),.v (ii (k:Nat)),U,U,U,U,U,U,U,U,U,U,U,U,U,U,U,U,U,U,U,U,U,U,U]/\F=[.box 33 (ar p),.vec 9 1 0 R]/\R.length=n/\R=bA (p.globals++(dc p).take k)) ?_ (by rw [bP];omega) ?_ ?_ ?_
 ·exact ⟨_,_,Wk.aE ao,_,_,rfl,rfl,uX,by simp [bA,chunk]⟩
 ·rintro k _ _ ⟨R,n,rfl,rfl,_⟩;exact et
 ·rintro k _ _ hk ⟨R,n,rfl,rfl,ef,hR⟩
  have hk:k < p.arrays.length:=by simpa using hk
  have hx:p.arrays[k]?=some p.arrays[k]:=by simp [hk]
  have hr:=B6 hx
  have bK:bA (p.globals++(dc p).take (k+1))=R++[[.v (sv p.arrays[k].name)]]:=by
   have:(dc p)[k]?=some p.arrays[k].name:=by rw [dc,aV,hx];rfl
   rw [cm,this,hR];simp [bA]
  have vT:n<=4194304:=by
   rw [<-ef,hR,fw,aU,cS];omega
  have hb:n+1<=9223372036854775807/\(n+1) * 16<=140737488355328:=by omega
  clear hR;unfold az at hr;generalize p.arrays[k]=x at *;refine D ?_;refine eu ?_;refine D ?_;exact ⟨rfl,rfl,_,_,(Wk.cut (n:=2) (aM _) rfl).trans (Wk.aE ao),_,_,rfl,rfl,by simp [ef],bK.symm⟩
 ·rintro _ _ ⟨R,n,rfl,rfl,ef,hR⟩;rw [bP,show p.arrays.length=(dc p).length by simp [dc],b7] at hR;refine aW ?_;refine D ?_;refine GW.range (p.fns.map au).length (fun k fr F=>∃ R n,fr=[U,.loc 0 0,U,.vec 1 n,U,U,U,U,U,U,U,U,U,U,U,U,U,U,U,U,U,U,U,U,U,U,U,U,U,.sl 3 (p.fns.map au),.v (ii ((p.fns.map au).length:Int)),.v (ii (k:Nat)),U,U,U,U,U,U,U,U,U,U]/\F=[.box 33 (ar p),.vec 9 1 0 R]/\R.length=n/\R=bA ((p.globals++dc p)++(fq p).take k)) ?_ (by rw [bP];omega) ?_ ?_ ?_
  ·exact ⟨_,_,Wk.aE ao,_,_,rfl,rfl,ef,by rw [hR];simp⟩
  ·rintro k _ _ ⟨R,n,rfl,rfl,_⟩;exact et
  ·rintro k _ _ hk ⟨R,n,rfl,rfl,ef,hR⟩
   have hk:k < p.fns.length:=by simpa using hk
   have hx:p.fns[k]?=some p.fns[k]:=by simp [hk]
   have hr:=sB hx
   have bK:bA ((p.globals++dc p)++(fq p).take (k+1))=R++[[.v (sv p.fns[k].name)]]:=by
    have:(fq p)[k]?=some p.fns[k].name:=by rw [fq,aV,hx];rfl
    rw [cm,this,hR];simp [bA]
   have vT:n<=4194304:=by
    rw [<-ef,hR,fw,aU,aU,cS,dc,bP];omega
   have hb:n+1<=9223372036854775807/\(n+1) * 16<=140737488355328:=by omega
   clear hR;unfold au at hr;generalize p.fns[k]=x at *;refine D ?_;refine eu ?_;refine D ?_;exact ⟨rfl,rfl,_,_,(Wk.cut (n:=2) (aM _) rfl).trans (Wk.aE ao),_,_,rfl,rfl,by simp [ef],bK.symm⟩
  ·rintro _ _ ⟨R,n,rfl,rfl,ef,hR⟩;rw [bP,show p.fns.length=(fq p).length by simp [fq],b7] at hR;refine aW ?_;refine D ?_;refine GW.wk (Wk.jv (t:=2) rfl rfl rfl ef) ?_;refine D ?_;refine cv ?_;exact ⟨by rw [hR];rfl,rfl⟩
theorem H3 (p:Src) (hw:df p<=1048576):GF prog 59 [.agg (ar p)] [] (strs (Va p)) []:=by
 have hF:=uL p hw;unfold Va
 cases hf:fI p with
 | false=>rw [hf] at hF;exact Lx p hF
 | true=>rw [hf] at hF;exact JR p hw hF
end Go.Xg
set_option maxHeartbeats 4000000
namespace Go.Xg
open GV (U)
open Go.RowKit Go.Xw Go.Proofs Tryz
open Go.Xp (Nd T Ar aQ aB bW fS bO iN rD kz gZ iu ir)
open Go.Sp (Src)
open Go.Im
attribute [local irreducible] GW GL GO YG GC GA be bd
def r9 (n:Nat):List Int:=(List.range n).map fun i=>((i:Nat):Int)
theorem F3 (p:Src) (h:p.fns.length<=1048576):GF prog 61 [.agg (ar p)] [] (ints (r9 p.fns.length)) []:=by
 have sT:(p.fns.map au).length=p.fns.length:=by simp
 refine cY func61 ntmps61 ?_;refine GW.seq ?_;refine GW.region ?_;refine GL.kE rfl rfl ?_;refine bJ ?_;refine D ?_;refine oE ?_;refine D ?_;refine GW.range (p.fns.map au).length (fun k fr F=>∃ R,fr=[U,U,U,.vec 0 k,U,U,U,.sl 3 (p.fns.map au),.v (ii ((p.fns.map au).length:Int)),.v (ii (k:Nat)),U,U,U,U,U,U,U,U]/\F=[.vec 3 1 0 R]/\R.length=k/\R=(r9 k).map fun i=>[.v (ii i)]) ?_ G ?_ ?_ ?_
 ·exact ⟨_,_,Wk.aE ao,[],rfl,rfl,rfl,rfl⟩
 ·rintro k _ _ ⟨R,rfl,rfl,_⟩;exact et
 ·rintro k _ _ ak ⟨R,rfl,rfl,hR,hq⟩;rw [sT] at ak
  have rh:((r9 (k+1)).map fun i=>[GV.v (ii i)])=R++[[.v (ii (k:Nat))]]:=by rw [hq];unfold r9;rw [List.range_succ];simp
  rw [rh];clear hq rh;refine D ?_;refine eu ?_;refine D ?_;exact ⟨rfl,rfl,_,_,Wk.aE ao,_,rfl,rfl,by simp [hR],rfl⟩
 ·rintro _ _ ⟨R,rfl,rfl,hR,hq⟩;rw [sT] at hR hq |-;subst hq;refine aW ?_;refine GW.wk (Wk.jv (t:=3) rfl rfl rfl hR) ?_;exact ay
theorem F2 (p:Src) (hw:df p<=1048576) (rg ra:List (List GV)) (aL:List Int) (nZ:List Go.Sp.Fn) (mA:List T) (qA:aL.length<=1048576) (BA:nZ.length=aL.length) (jc:mA.length=aL.length)
  (Ph:∀ (k:Nat) x f t,aL[k]?=some x->nZ[k]?=some f->mA[k]?=some t->∃ i:Nat,x=(i:Int)/\p.fns[i]?=some f/\0<=f.body/\fy p.nodes f.body.toNat t/\aQ t<=1048576)
  (fs:List Go.Sp.Fn) (ls:List T) (iq:fs.length=ls.length) (yl:fs.length<=8388608) (fg:aB ls+aB mA<=1073741824) (a1 a2:Option Addr) (c1 c2:Nat) :
  GC prog 60 [.agg [.sl 1 rg,.sl 2 ra,.v (.slice a1 fs.length c1),.v (.slice a2 (aB ls) c2)],.agg (ar p),ints aL] [.vech 58 3 ((eK 0 fs ls).map au) (.slice a1 fs.length c1),.vech 62 5 ((bO 0 ls).map aw) (.slice a2 (aB ls) c2)]
   fun g Δ=>∃ a1 c1 a2 c2,g=.agg [.sl 1 rg,.sl 2 ra,.v (.slice a1 (fs++nZ).length c1),.v (.slice a2 (aB (ls++mA)) c2)]/\Δ=[.vech 58 3 ((eK 0 (fs++nZ) (ls++mA)).map au) (.slice a1 (fs++nZ).length c1),.vech 62 5 ((bO 0 (ls++mA)).map aw) (.slice a2 (aB (ls++mA)) c2)]:=by
 obtain ⟨⟨g1,g2⟩,⟨g3,g4⟩,⟨g5,g6⟩,⟨g7,g8⟩⟩:=ju p
 have jh:(aL.map fun i=>[GV.v (ii i)]).length=aL.length:=by simp
 refine cY func60 ntmps60 ?_;refine GW.seq ?_;refine GW.region ?_;refine GL.box rfl ?_;refine cE ?_;refine GL.kE rfl rfl ?_;refine bJ ?_;refine D ?_
 refine GW.range (aL.map fun i=>[GV.v (ii i)]).length (fun k fr F=>∃ a1 c1 a2 c2 N aaJ RF RN,fr=[U,U,U,.loc 2 0,.box (ar p) 0,U,.loc 3 0,U,U,U,U,ints aL,.v (ii ((aL.map fun i=>[GV.v (ii i)]).length:Int)),.v (ii (k:Nat)),U,U,U,U,U,U,U,U,U,U,U,U,U,U,U,U,U,U,U,U,U,U,U,U,U,U,U,U,U,U,U,U,U,U] /\
  F=[.vech 58 3 RF (.slice a1 N c1),.vech 62 5 RN (.slice a2 aaJ c2),.box 33 [.sl 1 rg,.sl 2 ra,.v (.slice a1 N c1),.v (.slice a2 aaJ c2)],.box 33 [.v (.slice none 0 0),.v (.slice none 0 0),.v (.slice none 0 0),.v (.slice none 0 0)]] /\
  N=fs.length+k/\aaJ=aB (ls++mA.take k)/\RF=(eK 0 (fs++nZ.take k) (ls++mA.take k)).map au/\RN=(bO 0 (ls++mA.take k)).map aw) ?_ G ?_ ?_ ?_
 ·exact ⟨_,_,Wk.aE ao,a1,c1,a2,c2,_,_,_,_,rfl,rfl,rfl,by simp,by simp,by simp⟩
 ·rintro k _ _ ⟨a1,c1,a2,c2,N,aaJ,RF,RN,rfl,rfl,_⟩;exact et
 ·rintro k _ _ ak ⟨a1,c1,a2,c2,N,aaJ,RF,RN,rfl,rfl,hN,hM,DK,Fq⟩;rw [jh] at ak;obtain ⟨x,hx⟩:∃ x,aL[k]?=some x:=⟨aL[k],by simp [ak]⟩;obtain ⟨f,hf⟩:∃ f,nZ[k]?=some f:=⟨nZ[k]'G,fM _⟩;obtain ⟨t,ht⟩:∃ t,mA[k]?=some t:=⟨mA[k]'G,fM _⟩;obtain ⟨i,rfl,Xz,hb0,cz,dE⟩:=Ph k x f t hx hf ht;have hrx:=tH hx;have hr:=sB Xz;have dJ:=(g6 f (bF Xz)).2.1;have hS:=VA p (fun n h=>by have:=(g8 n h).2;omega) f t hb0 cz;have hz:=iu ht;have hle:=ir mA (k+1)
  have ji:mA.take (k+1)=mA.take k++[t]:=by rw [cm,ht];rfl
  have hfk:nZ.take (k+1)=nZ.take k++[f]:=by rw [cm,hf];rfl
  have Ms:aaJ=aB ls+aB (mA.take k):=by rw [hM,gZ]
  have hMz:aaJ<=1073741824:=by omega
  have me:RF.length=N:=by
   rw [DK,bP,qD _ _ _ (by simp [iq,BA,jc]),hN,aU,cS];omega
  have QP:RN.length=aaJ:=by rw [Fq,bP,iN,hM]
  have Mr:aB (ls++mA.take (k+1))=aaJ+aQ t:=by rw [gZ,Ms,hz];omega
  have T8:(eK 0 (fs++nZ.take (k+1)) (ls++mA.take (k+1))).map au=RF++[[.v (sv f.name),strs f.params,.v (ii (aaJ:Nat))]]:=by
   rw [hfk,ji,<-cK,<-cK,vw f t _ _ 0 (by simp [iq,BA,jc]),iL,<-DK,<-hM,cL];rfl
  have T9:(bO 0 (ls++mA.take (k+1))).map aw=RN++(fS aaJ t).map aw:=by
   rw [ji,<-cK,kz,bO,bO,cq,iL,<-Fq,cL,<-hM]
  have hLy:=fun a c=>Px _ t (aD _) aaJ RN a c QP G
  rw [Mr,T8,T9];clear Mr T8 T9 DK Fq hM Ms;have gB:=ow f.params
  have ri:(f.params.map fun s=>[GV.v (sv s)]).length=f.params.length:=by simp
  unfold au at hr;refine tK ?_;refine GL.A1 rfl rfl rfl rfl rfl rfl rfl ?_;refine bJ ?_;refine D ?_;refine GW.join (fun fr F=>∃ Y,fr=[U,U,U,.loc 2 0,.box (ar p) 0,U,.loc 3 0,U,U,.box [.v (sv f.name),strs f.params,.v (ii f.body)] 0,.box [.v (sv f.name),strs f.params,.v (ii (aaJ:Nat))] 0,ints aL,.v (ii ((aL.map fun i=>[GV.v (ii i)]).length:Int)),.v (ii (k:Nat)),U,U,U,U,U,U,U,U,U,U,U,U,U,U,U,U,U,U,U,U,U,U,U,U,U,U,U,U,U,U,U,U,U,U]/\F=.vech 58 3 RF (.slice a1 N c1)::.vech 62 5 RN (.slice a2 aaJ c2)::.box 33 [.sl 1 rg,.sl 2 ra,.v (.slice a1 N c1),.v (.slice a2 aaJ c2)]::.box 33 [.v (.slice none 0 0),.v (.slice none 0 0),.v (.slice none 0 0),.v (.slice none 0 0)]::Y/\Y=[]) ?_ ?_
  ·refine aK (.q 0 (.q 1 (.q 3 (.q 4 (aC 6 3 (.f 2 (.f 5 (.q 9 (.a 10 (.a 11 .nil))) 10 (.a 5 (.q 9 (.a 11 .nil)))) 10 (.a 2 (.a 5 (.q 9 (.a 11 .nil)))))))))) ?_;refine aj ?_;refine GO.fork ?_ ?_
   ·refine rR ?_;refine aj ?_;refine GO.fork ?_ ?_
    ·refine OA rfl rfl ?_;refine GL.OG (i:=4) rfl rfl rfl gB rfl (by rw [ri];refine ⟨?_,?_⟩ <;> omega) ?_;refine cj ?_;refine aj ?_;refine aW ⟨_,_,(Wk.freeze (i:=5) rfl rfl rfl (fO rfl)).trans ((Wk.cut (n:=4) (fO rfl) rfl).trans (Wk.aE ao)),[],rfl,rfl,rfl⟩
    ·refine aj ?_;refine OA rfl rfl ?_;refine GL.OG (i:=4) rfl rfl rfl gB rfl (by rw [ri];refine ⟨?_,?_⟩ <;> omega) ?_;refine cj ?_;refine aj ?_;refine aW ⟨_,_,(Wk.freeze (i:=5) rfl rfl rfl (fO rfl)).trans ((Wk.cut (n:=4) (fO rfl) rfl).trans (Wk.aE ao)),[],rfl,rfl,rfl⟩
   ·refine aj ?_;refine rR ?_;refine aj ?_;refine OA rfl rfl ?_;refine GL.OG (i:=5) rfl rfl rfl gB rfl (by rw [ri];refine ⟨?_,?_⟩ <;> omega) ?_;refine cj ?_;refine aj ?_;refine aW ⟨_,_,(Wk.freeze (i:=4) rfl rfl rfl (fO rfl)).trans ((Wk.cut (n:=4) (fO rfl) rfl).trans (Wk.aE ao)),[],rfl,rfl,rfl⟩
  rintro _ _ ⟨_,rfl,rfl,rfl⟩;refine D ?_;refine aK (aC 0 5 (.a 5 (.a 6 (.q 7 (.a 8 .nil))))) ?_;refine aj ?_;refine iH [] hS ?_;simp only [cq];refine aj ?_;refine OA rfl rfl ?_;refine cD [1] (hLy _ _) ?_;rintro _ _ ⟨a4,c4,rfl,rfl⟩;refine ⟨by simp,?_⟩;refine cj ?_;refine bq ?_;refine GL.oc 0 rfl rfl rfl rfl rfl rfl rfl rfl bm qR ?_;intro a5 c5;refine cE ?_;refine D ?_;exact ⟨rfl,rfl,_,_,Wk.aE ao,a5,c5,a4,c4,_,_,_,_,rfl,rfl,by omega,rfl,rfl,rfl⟩
 ·rintro _ _ ⟨a1,c1,a2,c2,N,aaJ,RF,RN,rfl,rfl,hN,hM,DK,Fq⟩;have q1:nZ.take aL.length=nZ:=lS G;have q2:mA.take aL.length=mA:=lS G;rw [jh] at hN hM DK Fq;rw [q2] at hM DK Fq;rw [q1] at DK;subst DK Fq hM
  have hN2:N=(fs++nZ).length:=by rw [aU];omega
  subst hN2;refine aW ?_;refine D ?_;refine nW ?_;exact Pa (n:=2) rfl dF rfl rfl rfl (aD _) rfl rfl ⟨a1,c1,a2,c2,rfl,rfl⟩
end Go.Xg
namespace Go.Xg
open GV (U)
open Go.RowKit Go.Xw Go.Proofs Tryz
open Go.Xp (Nd T Ar aQ aB bW fS bO iN gZ)
open Go.Sp (Src)
open Go.Im
attribute [local irreducible] GW GL GO YG GC GA be bd
theorem H7 (p:Src) {l:List T} (cz:dU p l):∀ (k:Nat) x f t,(r9 p.fns.length)[k]?=some x->p.fns[k]?=some f->l[k]?=some t->∃ i:Nat,x=(i:Int)/\p.fns[i]?=some f/\0<=f.body/\fy p.nodes f.body.toNat t/\aQ t<=1048576:=fun k x f t L I h3=>by
 have hi:=(bp I).1;unfold r9 at L;rw [aV,List.getElem?_range hi] at L;cases L;obtain ⟨e1,-⟩:=eT.at_ cz.fns k f t I h3;have h7:=dC.ix l 0 k t cz.st h3;rw [cL] at e1 h7;have hz:=Dg (bF h3);have h8:=cz.few;have h9:=cz.len;exact ⟨k,rfl,I,by omega,by rw [e1,qU];exact h7,by omega⟩
theorem RL (a b:Src) (h:(fI a&&fI b)=false) (hA:GF prog 58 [.agg (ar a)] [] (.v (.bool (fI a))) []) (hB:GF prog 58 [.agg (ar b)] [] (.v (.bool (fI b))) []) :
  GF prog 13 [.agg (ar a),.agg (ar b)] [] (.tup [.agg (ar jD),.v (ii 1)]) []:=by
 generalize fI a=x at *;generalize fI b=y at *
 cases x with
 | false =>
  refine cY func13 ntmps13 ?_;refine GW.seq ?_;refine GW.region ?_;refine GL.kE rfl rfl ?_;refine bJ ?_;refine GL.kE rfl rfl ?_;refine bJ ?_;refine D ?_;refine V [] hA ?_;refine vl ?_;exact ⟨_,ik,rfl,rfl⟩
 | true =>
  have h:y=false:=h;subst h;refine cY func13 ntmps13 ?_;refine GW.seq ?_;refine GW.region ?_;refine GL.kE rfl rfl ?_;refine bJ ?_;refine GL.kE rfl rfl ?_;refine bJ ?_;refine D ?_;refine V [] hA ?_;refine V [] hB ?_;refine vl ?_;exact ⟨_,ik,rfl,rfl⟩
theorem RQ {α:Type} {f:α->Bool} {l:List α} {k:Nat} {x:α} (h:l[k]?=some x) (hx:f x=true):l.any f=true:=oY.2 ⟨x,bF h,hx⟩
theorem OE {α:Type} {f:α->Bool} {l:List α} {k:Nat} {x:α} (h:l[k]?=some x):(l.take (k+1)).any f=((l.take k).any f || f x):=by rw [cm,h,List.any_append];simp
theorem RM (a b:Src) (hw:df a+df b<=1048576) {x y:List T} (hx:dU a x) (hy:dU b y) (c z:Int)
  (hA:GF prog 58 [.agg (ar a)] [] (.v (.bool true)) []) (hB:GF prog 58 [.agg (ar b)] [] (.v (.bool true)) [])
  (DJ:GF prog 59 [.agg (ar a)] [] (strs (bE a)) []) (Bv:GF prog 59 [.agg (ar b)] [] (strs (bE b)) [])
  (hC:GF prog 62 [.agg (ar (mh a b x y))] [] (.tup [.v (ii c),.v (ii z)]) []) :
  GC prog 13 [.agg (ar a),.agg (ar b)] [] fun g Δ=>Δ=[]/\g=if ((bE b).any fun s=>(bE a).contains s)=true then .tup [.agg (ar jD),.v (ii 2)] else if c=0 then .tup [.agg (ar (mh a b x y)),.v (ii 0)] else .tup [.agg (ar jD),.v (ii 3)]:=by
 obtain ⟨⟨a1,a2⟩,⟨b1,b2⟩,⟨c1,c2⟩,⟨d1,d2⟩⟩:=ju a;obtain ⟨⟨a3,a4⟩,⟨b3,b4⟩,⟨c3,c4⟩,⟨d3,d4⟩⟩:=ju b;have MI:=oS a;have Us:=oS b;have eR:=fw (bE b)
 have hH:=fun s=>jo (bE a) s G
 have hLa:=F3 a G;have hLb:=F3 b G;have MR:=eT.len hx.fns;have Ra:=eT.len hy.fns;have rn:=hx.len;have UN:=hy.len;have e8:=hx.few;have e9:=hy.few
 have xL:∀ n,(r9 n).length=n:=fun n=>by simp [r9]
 have QO:=fun rg ra a1 c1 a2 c2=>F2 a G rg ra (r9 a.fns.length) a.fns x (by rw [xL];omega) (xL _).symm (by rw [xL];exact MR.symm) (H7 a hx) [] [] rfl (aM _) (by simp only [aB];omega) a1 a2 c1 c2
 have V8:=fun rg ra a1 c1 a2 c2=>F2 b G rg ra (r9 b.fns.length) b.fns y (by rw [xL];omega) (xL _).symm (by rw [xL];exact Ra.symm) (H7 b hy) a.fns x MR G G a1 a2 c1 c2
 simp only [nil_append] at QO;have g1:(a.globals.map fun s=>[GV.v (sv s)]).length=a.globals.length:=fw _;have g2:(b.globals.map fun s=>[GV.v (sv s)]).length=b.globals.length:=fw _;have g3:(a.arrays.map az).length=a.arrays.length:=bP ..;have g4:(b.arrays.map az).length=b.arrays.length:=bP ..;have k1:ig (bA a.globals)=true:=ow _;have k2:ig (bA b.globals)=true:=ow _;have k3:=tF a.arrays;have k4:=tF b.arrays;have e3:strs (bE b)=.sl 1 (bA (bE b)):=rfl;rw [e3] at Bv
 have eJ:ar (mh a b x y)=[.sl 1 (bA a.globals++bA b.globals),.sl 2 (a.arrays.map az++b.arrays.map az),.sl 3 ((eK 0 (a.fns++b.fns) (x++y)).map au),.sl 5 ((bO 0 (x++y)).map aw)]:=by
  unfold ar mh zr strs bA;simp only [iL]
 rw [eJ] at hC |-
 have m1:((eK 0 (a.fns++b.fns) (x++y)).map au).length=(a.fns++b.fns).length:=by rw [bP,qD _ _ _ (by simp [MR,Ra])]
 have m2:((bO 0 (x++y)).map aw).length=aB (x++y):=by rw [bP,iN]
 generalize (eK 0 (a.fns++b.fns) (x++y)).map au=J1 at *;generalize (bO 0 (x++y)).map aw=J2 at *;generalize (a.fns++b.fns).length=n1 at *;generalize aB (x++y)=n2 at *;generalize (eK 0 a.fns x).map au=I1 at *;generalize (bO 0 x).map aw=I2 at *;refine cY func13 ntmps13 ?_;refine GW.seq ?_;refine GW.region ?_;refine GL.kE rfl rfl ?_;refine bJ ?_;refine GL.kE rfl rfl ?_;refine bJ ?_;refine D ?_;refine V [] hA ?_;refine V [] hB ?_;refine V [] Bv ?_;refine GW.range (bA (bE b)).length (fun k fr F=>fr=[U,U,.box (ar a) 0,.box (ar b) 0,.loc 0 0,U,U,U,U,U,U,U,U,U,U,U,U,U,U,U,U,.sl 1 (bA (bE b)),.v (ii ((bA (bE b)).length:Int)),.v (ii (k:Nat)),U,U,U,U,U,U,U,U,U,U,U,U,U,U,U,U,U,U,U,U,U,U,U,U,U,U,U,U,U,U,U,U,U,U,U,U,U,U,U,U,U,U,U,U]/\F=[.box 33 [.v (.slice none 0 0),.v (.slice none 0 0),.v (.slice none 0 0),.v (.slice none 0 0)]]/\((bE b).take k).any (fun s=>(bE a).contains s)=false) ?_ G ?_ ?_ ?_
 ·exact kQ
 ·exact iI
 ·rintro k _ _ ak ⟨rfl,rfl,aY⟩;rw [eR] at ak;obtain ⟨s,hs⟩:∃ s,(bE b)[k]?=some s:=⟨(bE b)[k],by simp [ak]⟩
  have hr:(bA (bE b))[k]?=some [.v (sv s)]:=by unfold bA;rw [aV,hs];rfl
  have h:=hH s;have rh:=OE (f:=fun s=>(bE a).contains s) hs
  have hit:=fun h0=>RQ (f:=fun s=>(bE a).contains s) hs h0
  cases hc:(bE a).contains s with
  | true =>
   rw [hc] at h;rw [ab (hit hc)];refine D ?_;refine V [] DJ ?_;refine V [] h ?_;refine vl ?_;exact ⟨_,ik,rfl,rfl⟩
  | false =>
   rw [hc] at h rh;refine D ?_;refine V [] DJ ?_;refine V [] h ?_;exact ⟨rfl,rfl,_,_,Wk.aE ao,rfl,rfl,by rw [rh,aY];rfl⟩
 ·rintro _ _ ⟨rfl,rfl,aY⟩;rw [eR,b7] at aY;rw [aY];simp only [Bool.false_eq_true,if_false];refine aW ?_;refine D ?_;refine aK (.q 1 (.q 2 (.q 4 (.q 5 (.a 0 (.a 3 (.a 6 (.q 7 (.a 8 .nil))))))))) ?_;refine aj ?_;refine rR ?_;refine aj ?_;refine OA rfl rfl (GL.wO rfl rfl rfl rfl k1 (by rw [g1];refine ⟨?_,?_⟩ <;> omega) ?_);refine cj ?_;simp only [nil_append,cL];refine aj ?_;refine OA rfl rfl (GL.wO rfl rfl rfl rfl k2 (by rw [g1,g2];refine ⟨?_,?_⟩ <;> omega) ?_);refine cj ?_;refine aj ?_;refine aW ?_;refine GW.wk (Wk.tw (i:=1) (o:=0) (j:=2) rfl rfl rfl rfl (by simp [chunk])) ?_;refine GW.wk (Wk.cut (n:=2) aR rfl) ?_;simp only [bo,oset,take_succ_cons,take_zero];refine D ?_;refine aK (.q 1 (.q 2 (.q 4 (.q 5 (.a 0 (.a 3 (.a 6 (.q 7 (.a 8 .nil))))))))) ?_;refine aj ?_;refine rR ?_;refine aj ?_;refine OA rfl rfl (GL.wO rfl rfl rfl rfl k3 (by rw [g3];refine ⟨?_,?_⟩ <;> omega) ?_);refine cj ?_;simp only [nil_append,cL];refine aj ?_;refine OA rfl rfl (GL.wO rfl rfl rfl rfl k4 (by rw [g3,g4];refine ⟨?_,?_⟩ <;> omega) ?_);refine cj ?_;refine aj ?_;refine aW ?_;refine GW.wk (Wk.tw (i:=1) (o:=1) (j:=2) rfl rfl rfl rfl (by simp [chunk])) ?_;refine GW.wk (Wk.cut (n:=2) aR rfl) ?_;refine GW.wk (Wk.aE (cJ:=[U,U,.box (ar a) 0,.box (ar b) 0,.loc 0 0,U,U,U,.loc 1 0,U,U,U,U,U,U,U,U,U,U,U,U,U,U,U,U,U,U,U,U,U,U,U,U,U,U,U,U,U,U,U,U,U,U,U,U,U,U,U,U,U,U,U,U,U,U,U,U,U,U,U,U,U,U,U,U,U,U,U]) ao) ?_;refine GW.wk (Wk.jq 58 3) ?_;refine GW.wk (Wk.jq 62 5) ?_;simp only [bo,oset,take_succ_cons,take_zero,cons_append,nil_append];refine D ?_;refine aK (aC 0 3 (.q 5 (.q 6 (.a 3 (.a 4 (.a 7 (.a 8 (.a 9 .nil)))))))) ?_;refine aj ?_;refine iH [] hLa ?_
  try simp only [cq]
  refine aj ?_;refine OA rfl rfl ?_;refine cD [2,3] (QO _ _ _ _ _ _) ?_;rintro _ _ ⟨p1,p2,p3,p4,rfl,rfl⟩;refine ⟨by simp,?_⟩;refine cj ?_;refine aj ?_;refine iH [] hLb ?_
  try simp only [cq]
  refine aj ?_;refine OA rfl rfl ?_;refine cD [2,3] (V8 _ _ _ _ _ _) ?_;rintro _ _ ⟨q1,q2,q3,q4,rfl,rfl⟩;refine ⟨by simp,?_⟩;refine cj ?_;refine aj ?_;refine aW ?_;refine GW.wk (Wk.vh (i:=1) (o:=2) (j:=2) rfl rfl rfl rfl) ?_;simp only [bo,oset];refine GW.wk (Wk.vh (i:=1) (o:=3) (j:=3) rfl rfl rfl rfl) ?_;simp only [bo,oset];refine GW.wk ((Wk.cut (n:=2) aR rfl).trans (Wk.aE (cJ:=[U,U,U,U,.loc 0 0,U,U,U,.loc 1 0,U,U,U,U,U,U,U,U,U,U,U,U,U,U,U,U,U,U,U,U,U,U,U,U,U,U,U,U,U,U,U,U,U,U,U,U,U,U,U,U,U,U,U,U,U,U,U,U,U,U,U,U,U,U,U,U,U,U,U]) ao)) ?_;simp only [take_succ_cons,take_zero];refine D ?_;refine hY [] hC ?_
  by_cases h0:c=0
  ·subst h0;rw [ab rfl];refine D ?_;refine oG ?_;exact ⟨rfl,rfl⟩
  ·have cr:(c != 0)=true:=by simpa using h0
   rw [M h0];refine D ?_;refine vl ?_;exact ⟨_,ik,rfl,rfl⟩
theorem RO (a b:Src) (hw:df a+df b<=1048576):GF prog 13 [.agg (ar a),.agg (ar b)] [] (.tup [.agg (ar (pO a b).1),.v (ii (pO a b).2)]) []:=by
 have hA:=uL a G;have hB:=uL b G;unfold pO
 by_cases hf:(fI a&&fI b)=true
 ·rw [ab hf];rw [aH] at hf;obtain ⟨x,hx⟩:=lA hf.1;obtain ⟨y,hy⟩:=lA hf.2;have DJ:=H3 a G;have Bv:=H3 b G;unfold Va at DJ Bv;rw [ab hf.1] at DJ;rw [ab hf.2] at Bv;rw [hf.1] at hA;rw [hf.2] at hB;rw [hx.Bg,hy.Bg];simp only;obtain ⟨c,z,hC,e⟩:=Ox (mh a b x y) (by rw [CT hx hy];exact hw)
  refine (RM a b hw hx hy c z hA hB DJ Bv hC).mono fun g Δ h=>?_
  obtain ⟨L,I⟩:=h;refine ⟨?_,L⟩;rw [I,<-e];split
  ·rfl
  ·by_cases h0:c=0
   ·subst h0;rfl
   ·rw [M h0,M (by simpa using h0)]
 ·rw [M hf];exact RL a b (by simpa using hf) hA hB
end Go.Xg
