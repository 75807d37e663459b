/- Part 9 of proofs that are told in their last texts. -/
import Derived.Test.YtfahcenafcklmaaGreatDoorZ8
import Derived.IntWalk
import Derived.Laws.IdiomStrings
open List (mem_cons_self mem_filter)
set_option linter.unusedVariables false
set_option linter.unusedSimpArgs false
set_option maxRecDepth 100000
namespace Go.Xg
open Go.RowKit Go.Xw
def ct:List Nat->Nat->Nat->Nat
 | [],n,j=>n+j
 | i::_,_,0=>i
 | _::r,n,j+1=>ct r n j
def eD:List Ob->List Nat->List Ob->List Ob
 | Γ,[],xs=>Γ++xs
 | Γ,_::_,[]=>Γ
 | Γ,i::r,x::xs=>eD (oset Γ i x) r xs
def jq:List Nat->Nat->Bool
 | [],_=>true
 | i::r,n=>Nat.blt i n&&!(r.contains i)&&jq r n
theorem Cx {aR:List Nat} {n j:Nat} (h:aR.length<=j):ct aR n j=n+(j - aR.length):=by
 induction aR generalizing j with
 | nil=>simp [ct]
 | cons i r ih =>
  cases j with
  | zero=>simp at h
  | succ j=>rw [ct,ih zeO];simp
theorem RD {aR:List Nat} {n j:Nat} (h:j < aR.length):∃ i∈aR,ct aR n j=i:=by
 induction aR generalizing j with
 | nil=>simp at h
 | cons i r ih =>
  cases j with
  | zero=>exact ⟨i,by simp,rfl⟩
  | succ j=>obtain ⟨x,D,I⟩:=ih (j:=j) zeO;exact ⟨x,by simp [D],I⟩
theorem FB {aR:List Nat} {n:Nat} (h:jq aR n=true):∀ i∈aR,i < n:=by
 induction aR with
 | nil=>intro i hi;cases hi
 | cons x r ih =>
  simp only [jq,au] at h;intro i hi
  rcases ew hi with rfl | hi
  ·simpa using h.1.1
  ·exact ih h.2 i hi
theorem zZ {aR:List Nat} {n:Nat} (h:jq aR n=true):∀ {j j':Nat},ct aR n j=ct aR n j'->j=j':=by
 induction aR with
 | nil=>intro j j' he;simp only [ct] at he;omega
 | cons x r ih =>
  have ar:=FB h;simp only [jq,au,Bool.not_eq_true'] at h
  have hx:∀ j,ct r n j≠x:=fun j he=>by
   by_cases hj:j < r.length
   ·obtain ⟨i,hi,I⟩:=RD (n:=n) hj;rw [he] at I;subst I;have:=h.1.2;rw [mH.2 hi] at this;cases this
   ·have:=Cx (n:=n) (Nat.le_of_not_lt hj);have:=ar x zeL;omega
  intro j j' he
  cases j with
  | zero=>cases j' with
   | zero=>rfl
   | succ j'=>exact absurd he.symm (hx j')
  | succ j=>cases j' with
   | zero=>exact absurd he (hx j)
   | succ j'=>rw [ih h.2 he]
theorem G1 {aR:List Nat} {n:Nat}:∀ {Γ xs:List Ob},Γ.length=n->jq aR n=true->aR.length<=xs.length ->
  (∀ j,(eD Γ aR xs)[ct aR n j]?=xs[j]?)/\(∀ i,(∀ j,ct aR n j≠i)->(eD Γ aR xs)[i]?=Γ[i]?)/\(eD Γ aR xs).length=n+(xs.length - aR.length):=by
 induction aR with
 | nil =>
  intro Γ xs hn _ _;refine ⟨fun j=>?_,fun i hi=>?_,by simp [eD,hn]⟩
  ·simp only [eD,ct];rw [jO zeM];congr 1;omega
  ·simp only [eD,ct] at hi |-
   by_cases ar:i < n
   ·rw [il zeM]
   ·exact absurd zeM (hi (i - n))
 | cons x r ih =>
  intro Γ xs hn ei hl;have EM:=@zZ (x::r) n ei;have ar:=FB ei x zeL
  cases xs with
  | nil=>simp at hl
  | cons y ys =>
   simp only [jq,au,Bool.not_eq_true'] at ei;obtain ⟨D,I,h3⟩:=ih (Γ:=oset Γ x y) (xs:=ys) (by rw [bG];simpa using hn) ei.2 zeQ
   have hx:∀ j,ct r n j≠x:=fun j he=>by
    have:=@EM (j+1) 0 he;omega
   refine ⟨fun j=>?_,fun i hi=>?_,by simp only [eD,h3,List.length_cons];omega⟩
   ·cases j with
    | zero =>
     simp only [eD,ct];rw [I x hx,bG,fq];simp [hn,ar]
    | succ j=>simp only [eD,ct];exact D j
   ·simp only [eD];rw [I i (fun j=>hi (j+1)),bG,fq];rw [ad (by intro e;exact hi 0 e)]
theorem jD.A7 {K:Fz} {β:Bt} {w:World} {f:Nat->Nat} {j:Nat} {x:Ob} (h:jD K β w (f j) (x.dU f)):jD K (fun j=>β (f j)) w j x:=by
 cases x with
 | gone=>exact h
 | box E cs =>
  obtain ⟨b,vs,D,I,h3,h4⟩:=h;rw [kh] at h3;exact ⟨b,vs,D,I,⟨by simpa using h3.1,fun i v g h5 h6=>(h3.2 i v (dU f g) h5 (by rw [bP,h6];rfl)).A7⟩,h4⟩
 | vec E k fz rows =>
  exact zbL
 | vech E k rows x =>
  exact zbU
 | lost=>exact h
 | blk b q=>exact h
 | blob q=>exact h
theorem jD.Bq {K:Fz} {β:Bt} {w:World} {f:Nat->Nat} {j:Nat} {x:Ob} (h:jD K (fun j=>β (f j)) w j x):jD K β w (f j) (x.dU f):=by
 cases x with
 | gone=>exact h
 | box E cs =>
  obtain ⟨b,vs,D,I,h3,h4⟩:=h;refine ⟨b,vs,D,I,?_,h4⟩;rw [kh];refine ⟨by simpa using h3.1,fun i v g h5 h6=>?_⟩;rw [bP] at h6
  cases hc:cs[i]? with
  | none=>rw [hc] at h6;cases h6
  | some c=>rw [hc] at h6;cases h6;exact (h3.2 i v c h5 hc).Bq
 | vec E k fz rows =>
  exact zbL
 | vech E k rows x =>
  exact zbU
 | lost=>exact h
 | blk b q=>exact h
 | blob q=>exact h
section
variable {K:Fz} {β:Bt} {Γ:List Ob} {w:World} {B:Bs}
theorem Inv.enter {aR:List Nat} {im:List Ob} (h:Inv B K β Γ w) (ei:jq aR Γ.length=true) (hl:im.length=aR.length) (bO:∀ j x,im[j]?=some x->Γ[ct aR Γ.length j]?=some (x.dU (ct aR Γ.length))) :
  Inv (cur K (fun j=>β (ct aR Γ.length j)) im w) K (fun j=>β (ct aR Γ.length j)) im w:=by
 have cE:∀ i,im.length<=i->β (ct aR Γ.length i)=.no:=fun i hi=>by
  rw [Cx zeM];exact h.out _ zeM
 exact ⟨Ext.refl w,cZ.refl K,dx.refl _,cE,h.fz,fun i x hi=>(h.ob _ _ (bO i x hi)).A7,cE,fun i j b hi hj=>zZ ei (h.dis _ _ b hi hj),fun i b hb=>.inl ⟨i,hb⟩,fun _ _ _ h=>.inl h,h.tab.step (S:=gR) (Ext.refl w) (fun _ h=>h.elim) (cZ.refl K) (fun i b2 I=>.inl ⟨_,I⟩)⟩
theorem Inv.leave {aR:List Nat} {im q6:List Ob} {K':Fz} {Af:Bt} {w':World} (h:Inv B K β Γ w) (ei:jq aR Γ.length=true) (hl:im.length=aR.length) (jA:aR.length<=q6.length)
  (hI:Inv (cur K (fun j=>β (ct aR Γ.length j)) im w) K' Af q6 w') :
  ∃ bT,cZ K K'/\dx β bT/\(∀ j,bT (ct aR Γ.length j)=Af j)/\Inv B K' bT (eD Γ aR (q6.map (Ob.dU (ct aR Γ.length)))) w':=by
 obtain ⟨s1,s2,s3⟩:=G1 (aR:=aR) (n:=Γ.length) (Γ:=Γ) (xs:=q6.map (Ob.dU (ct aR Γ.length))) rfl ei (by simpa using jA);rw [cU] at s3;generalize hf:ct aR Γ.length=f at *
 have EM:∀ {j j'},f j=f j'->j=j':=by subst hf;exact zZ ei
 have hO:∀ j,aR.length<=j->f j=Γ.length+(j - aR.length):=fun j hj=>by subst hf;exact Cx hj
 have Xl:∀ i,Γ.length<=i->f (aR.length+(i - Γ.length))=i:=fun i hi=>by rw [hO _ zeM];omega
 have ⟨bT,hβ1,hβ2⟩:∃ bT:Bt,(∀ j,bT (f j)=Af j)/\∀ i,(∀ j,f j≠i)->bT i=β i:=by
  classical
  refine ⟨fun i=>if h:∃ j,f j=i then Af (Classical.choose h) else β i,fun j=>?_,fun i hi=>?_⟩
  ·have hex:∃ j',f j'=f j:=⟨j,rfl⟩;simp only;rw [dif_pos hex,EM (Classical.choose_spec hex)]
  ·simp only;rw [dif_neg (fun ⟨j,hj⟩=>hi j hj)]
 have SV:dx β bT:=fun i=>by
  by_cases hi:∃ j,f j=i
  ·obtain ⟨j,rfl⟩:=hi;rw [hβ1];exact hI.ble j
  ·rw [hβ2 i (fun j hj=>hi ⟨j,hj⟩)];exact rP.refl _
 have wg:∀ b,blocks (fun j=>β (f j)) b->blocks β b:=fun b ⟨j,hj⟩=>⟨f j,hj⟩
 have gz:∀ i b,(bT i).has b->blocks β b\/w.heap.size<=b:=fun i b hb=>by
  by_cases hi:∃ j,f j=i
  ·obtain ⟨j,rfl⟩:=hi;rw [hβ1] at hb;exact (hI.own j b hb).imp (wg b) id
  ·rw [hβ2 i (fun j hj=>hi ⟨j,hj⟩)] at hb;exact .inl ⟨i,hb⟩
 have HK:∀ i b,(∀ j,f j≠i)->(β i).has b->¬ blocks (fun j=>β (f j)) b:=fun i b hi hb ⟨j,hj⟩=>hi j (h.dis _ _ b hj hb)
 refine ⟨bT,hI.kle,SV,hβ1,h.Mq (WR:=Γ) ?_⟩;refine ⟨hI.ext.mono (fun k _ hk=>wg k hk),hI.kle,SV,h.out,hI.fz,fun i x hi=>?_,fun i hi=>?_,fun i i' b hi oN=>?_,gz,fun b o g hg=>?_,⟨hI.tab.le,hI.tab.pow,hI.tab.spc,fun i b hb=>(gz i b hb).elim (fun ⟨j,hj⟩=>h.tab.free j b hj) (fun hs=>⟨by have:=h.tab.pow.lt;have hs:w.heap.size<=b:=hs;omega,by have:=h.tab.spc.lt;have hs:w.heap.size<=b:=hs;omega⟩)⟩⟩
 ·by_cases hj:∃ j,f j=i
  ·obtain ⟨j,rfl⟩:=hj;rw [s1 j,bP] at hi
   cases hc:q6[j]? with
   | none=>rw [hc] at hi;cases hi
   | some c =>
    rw [hc] at hi;cases hi;refine jD.Bq ?_;have:=hI.ob j c hc;rw [show (fun j=>bT (f j))=Af from funext hβ1];exact this
  ·have lA:∀ j,f j≠i:=fun j h=>hj ⟨j,h⟩
   rw [s2 i lA] at hi;refine (h.ob i x hi).ext hI.ext (fun b hb=>HK i b lA hb) hI.kle SV (hβ2 i lA) (fun b o hb hk=>?_)
   cases eZ:K' b o with
   | none=>rfl
   | some g =>
    rcases hI.kn b o g eZ with h7 | h7 | h7
    ·have h7:K b o=some g:=h7;rw [hk] at h7;cases h7
    ·exact absurd h7 (HK i b lA hb)
    ·have:=h.lt hb;have h7:w.heap.size<=b:=h7;omega
 ·rw [s3] at hi;have D:=Xl i zeM;rw [<-D,hβ1];exact hI.out _ zeM
 ·by_cases D:∃ j,f j=i <;> by_cases I:∃ j,f j=i'
  ·obtain ⟨j,rfl⟩:=D;obtain ⟨j',rfl⟩:=I;rw [hβ1] at hi oN;rw [hI.dis j j' b hi oN]
  ·obtain ⟨j,rfl⟩:=D
   have qt:∀ j,f j≠i':=fun j h=>I ⟨j,h⟩
   rw [hβ1] at hi;rw [hβ2 i' qt] at oN
   rcases hI.own j b hi with h7 | h7
   ·exact absurd h7 (HK i' b qt oN)
   ·have:=h.lt oN;have h7:w.heap.size<=b:=h7;omega
  ·obtain ⟨j,rfl⟩:=I
   have cY:∀ j,f j≠i:=fun j h=>D ⟨j,h⟩
   rw [hβ1] at oN;rw [hβ2 i cY] at hi
   rcases hI.own j b oN with h7 | h7
   ·exact absurd h7 (HK i b cY hi)
   ·have:=h.lt hi;have h7:w.heap.size<=b:=h7;omega
  ·rw [hβ2 i (fun j h=>D ⟨j,h⟩)] at hi;rw [hβ2 i' (fun j h=>I ⟨j,h⟩)] at oN;exact h.dis i i' b hi oN
 ·rcases hI.kn b o g hg with h7 | h7 | h7
  ·exact .inl h7
  ·exact .inr (.inl (wg b h7))
  ·exact .inr (.inr h7)
end
section
variable {P:Program} {m:Nat} {Q:dL} {fr:List GV} {Γ:List Ob} {ops:Array Oper} {rest:List Oper} {d:Option Tmp} {op:Op} {ty:TypeId} {pos:String} {af:Array Edge}
def seen (f:Nat->Nat) (Γ:List Ob):List Nat->List Ob->Prop
 | [],[]=>True
 | i::r,x::xs=>Γ[i]?=some (x.dU f)/\seen f Γ r xs
 | _,_=>False
theorem Dy {f:Nat->Nat} {Γ:List Ob} {n:Nat}:∀ {aR:List Nat} {im:List Ob},seen f Γ aR im->im.length=aR.length/\∀ j x,im[j]?=some x->Γ[ct aR n j]?=some (x.dU f)
 | [],[],_=>⟨rfl,fun j x h=>by simp at h⟩
 | i::r,y::ys,h=>by
  obtain ⟨D,I⟩:=h;obtain ⟨h3,h4⟩:=Dy (n:=n) I;refine ⟨by simp [h3],fun j x hx=>?_⟩
  cases j with
  | zero=>cases hx;exact D
  | succ j=>exact h4 j x hx
 | [],_::_,h=>h.elim
 | _::_,[],h=>h.elim
theorem GL.calls {f:FuncId} {aR:List Nat} {gs:List GV} {im:List Ob} {R:GV->List Ob->Prop} {vs:List Value->List Value} (hr:∀ K β w l,FR K β fr l->bm K β (vs l) (l9 (ct aR Γ.length) gs)/\(execOp (ev l) ⟨d,op,ty,pos,af,none⟩).run P w=.ok (.enter f (vs l).toArray) w)
  (ei:jq aR Γ.length=true) (bO:seen (ct aR Γ.length) Γ aR im) (hc:GC P f gs im R)
  (h:∀ g aU,R g aU->aR.length<=aU.length/\GL P m ops Q rest (bK fr d (dU (ct aR Γ.length) g)) (eD Γ aR (aU.map (Ob.dU (ct aR Γ.length))))) :
  GL P m ops Q (⟨d,op,ty,pos,af,none⟩::rest) fr Γ:=fun B K β w l hm hI hF=>by
 obtain ⟨hl,hs⟩:=Dy (n:=Γ.length) bO;obtain ⟨ha,hr⟩:=hr K β w l hF;have YL:=hI.enter ei hl hs
 have yl:bm K (fun j=>β (ct aR Γ.length j)) (vs l) gs:=by
  rw [kh] at ha;exact ⟨by simpa using ha.1,fun i v g h5 h6=>(ha.2 i v (dU _ g) h5 (by rw [bP,h6];rfl)).A7⟩
 refine WL.calls hr (hc _ K _ w _ rfl YL yl) ?_;rintro v w' ⟨K',Af,g,aU,bE,iL,hR⟩;obtain ⟨jA,h⟩:=h g aU hR;obtain ⟨bT,hK,hB,kU,sV⟩:=hI.leave ei hl jA bE;refine h B K' bT w' _ hm sV ((hF.mono hK hB).put d (Rel.Bq ?_));rw [show (fun j=>bT (ct aR Γ.length j))=Af from funext kU];exact iL
theorem GL.UN {f:FuncId} [hf:ba P f] (aR:List Nat) {x:Operand} {first cap:List GV} {args:List Operand} {qm:Array TypeId} {gs:List GV} {im:List Ob} {R:GV->List Ob->Prop} (hc:GC P f gs im R) (hx:bg fr x=.fn (.func f) first cap) (ha:first++args.map (bg fr)++cap=l9 (ct aR Γ.length) gs) (ei:jq aR Γ.length=true)
  (bO:seen (ct aR Γ.length) Γ aR im) (h:∀ g aU,R g aU->aR.length<=aU.length/\GL P m ops Q rest (bK fr d (dU (ct aR Γ.length) g)) (eD Γ aR (aU.map (Ob.dU (ct aR Γ.length))))) :
  GL P m ops Q (⟨d,.call ⟨.value x,args.toArray,qm⟩,ty,pos,af,none⟩::rest) fr Γ :=
 GL.calls (vs:=fun l=>match ev l x with | .func _ a c=>a.toList++args.map (ev l)++c.toList | _=>[]) (fun K β w l hF=>by
  have hr:=hF.ev x;rw [hx] at hr;generalize hv:ev l x=v at hr
  cases hr with
  | fn _ xs ys _ _ D I h3 h4 =>
   refine ⟨?_,?_⟩
   ·rw [<-ha];exact (bm.app (bm.app ⟨D,h3⟩ (hF.args args)) ⟨I,h4⟩)
   ·simp [execOp,resolve,hv,Deferred.ofValue,invoke,qg]) ei bO hc h
theorem GL.UM {f:FuncId} [hf:ba P f] (aR:List Nat) {x:Operand} {args:List Operand} {qm:Array TypeId} {gs:List GV} {im:List Ob} {R:GV->List Ob->Prop} (hc:GC P f gs im R) (hx:bg fr x=.v (.func (.func f) #[] #[])) (ha:args.map (bg fr)=l9 (ct aR Γ.length) gs) (ei:jq aR Γ.length=true)
  (bO:seen (ct aR Γ.length) Γ aR im) (h:∀ g aU,R g aU->aR.length<=aU.length/\GL P m ops Q rest (bK fr d (dU (ct aR Γ.length) g)) (eD Γ aR (aU.map (Ob.dU (ct aR Γ.length))))) :
  GL P m ops Q (⟨d,.call ⟨.value x,args.toArray,qm⟩,ty,pos,af,none⟩::rest) fr Γ :=
 GL.calls (vs:=fun l=>args.map (ev l)) (fun K β w l hF=>⟨by rw [<-ha];exact hF.args args,by
  have hv:=hF.lO hx
  simp [execOp,resolve,hv,Deferred.ofValue,invoke,qg]⟩) ei bO hc h
end
def pz (ops:List Oper) (fr:List GV):Nat->Option (Option Bool):=fun j =>
 match jg ops j,(rX ops j).dst with
 | true,some t=>match jg fr t,cB fr t with
  | true,.v (.bool c)=>some (some c)
  | true,.v (.tuple _)=>some none
  | _,_=>none
 | _,_=>none
section
variable {P:Program} {m:Nat} {Q:dL} {fr:List GV} {Γ:List Ob} {ops:Array Oper} {rest:List Oper} {d:Option Tmp} {op:Op} {ty:TypeId} {pos:String} {af:Array Edge}
theorem uX {K:Fz} {β:Bt} {l:List Value} {j:Nat} {b:Bool} {c:Option Bool} (hF:FR K β fr l) (h:pz ops.toList fr j=some c):tl (some (j,b)) ops.toList l=true/\gv ops.toList l (j,b)=c:=by
 unfold pz at h;split at h
 ·rename_i t D I;split at h
  ·rename_i c' h3 h4;cases h;have hv:nth l t=.bool c':=Rel.gS (by rw [<-h4];exact hF.nth t);exact zcF
  ·rename_i vs h3 h4;cases h;have hv:nth l t=.tuple vs:=Rel.gS (by rw [<-h4];exact hF.nth t);exact zcF
  ·cases h
 ·cases h
theorem GL.gt {gd:Nat × Bool} {c:Bool} (hv:pz ops.toList fr gd.1=some (some c)) (hc:c=gd.2) (h:GL P m ops Q (⟨d,op,ty,pos,af,none⟩::rest) fr Γ):GL P m ops Q (⟨d,op,ty,pos,af,some gd⟩::rest) fr Γ:=fun B K β w l hm hI hF=>by
 obtain ⟨D,I⟩:=uX (b:=gd.2) hF hv;exact Xw.GT D I hc (h B K β w l hm hI hF)
theorem GL.gf {gd:Nat × Bool} {c:Bool} (hv:pz ops.toList fr gd.1=some (some c)) (hc:c=!gd.2) (h:GL P m ops Q rest (bK fr d (.v undef)) Γ):GL P m ops Q (⟨d,op,ty,pos,af,some gd⟩::rest) fr Γ:=fun B K β w l hm hI hF=>by
 obtain ⟨D,I⟩:=uX (b:=gd.2) hF hv;exact Xw.GF D I hc (h B K β w _ hm hI (hF.put d (.v _)))
theorem GL.gu {gd:Nat × Bool} (hv:pz ops.toList fr gd.1=some none) (h:GL P m ops Q rest (bK fr d (.v undef)) Γ):GL P m ops Q (⟨d,op,ty,pos,af,some gd⟩::rest) fr Γ:=fun B K β w l hm hI hF=>by
 obtain ⟨D,I⟩:=uX (b:=gd.2) hF hv;exact Xw.GU D I (h B K β w _ hm hI (hF.put d (.v _)))
end
def gG (ops:List Oper) (fr:List GV):Option (Nat × Bool)->Option Bool
 | none=>some true
 | some (j,b)=>match pz ops fr j with
  | some (some c)=>some (c==b)
  | some none=>some false
  | none=>none
theorem Hz {ops:Array Oper} {K:Fz} {β:Bt} {fr:List GV} {l:List Value} {o:Oper} {c:Bool} (hF:FR K β fr l) (h:gG ops.toList fr o.guard=some c):Region.wanted o (yielded ops (act l).tmps)=c:=by
 obtain ⟨d,op,ty,pos,af,gd⟩:=o
 cases gd with
 | none=>simp only [gG] at h;cases h;rfl
 | some gd =>
  obtain ⟨j,b⟩:=gd;simp only [gG] at h;split at h
  ·rename_i c' hc;cases h;obtain ⟨D,I⟩:=uX (b:=b) hF hc;rw [vK D]
   cases yX:(c'==b) with
   | true=>exact M1 I (by simpa using yX)
   | false=>exact M0 I (by cases c' <;> cases b <;> simp_all)
  ·rename_i hc;cases h;obtain ⟨D,I⟩:=uX (b:=b) hF hc;rw [vK D];exact M4 I
  ·cases h
def Dt (P:Program) (o:Oper) (e:Operand->Value) (w:World) (Kv:Value->World->Prop):Prop :=
 match (execOp e o).run P w with
 | .ok (.value v) w'=>Kv v w'
 | .ok .skip w'=>Kv undef w'
 | .ok (.enter f args) w'=>Calls P f args w' fun e QC=>∃ v,e=.returned v/\Kv v QC
 | .ok (.row row args) w'=>Rows P row args w' Kv
 | _=>False
theorem T9 {P:Program} {o:Oper} {a:Act} {w:World} {Kv:Value->World->Prop} {next:Act->World->Prop} {Q:Exit->Act->World->Prop} (h:Dt P o a.eval w Kv) (hn:∀ v w',Kv v w'->next (a.put o.dst v) w'):o.wp P a w next Q:=by
 unfold Dt at h;unfold Oper.wp;generalize (execOp a.eval o).run P w=r at *
 cases r with
 | ok n w' =>
  cases n <;> simp only [Oper.upon] at h |- <;> first
   | exact hn _ _ h
   | exact Calls.mono h (fun e QC ⟨v,he,hv⟩=>by subst he;exact hn _ _ hv)
   | exact Rows.mono h (fun _ _ hv=>hn _ _ hv)
   | exact h.elim
 | halt x w'=>exact h.elim
theorem UD {P:Program} {o:Oper} {a:Act} {w:World} {Kv:Value->World->Prop} {next:Act->World->Prop} {Q:Exit->Act->World->Prop} (h:o.wp P a w next Q) (hQ:∀ c a w,¬ Q (.panic c) a w) (YR:∀ a w,¬ Q .outgrown a w) (hn:∀ v w',next (a.put o.dst v) w'->Kv v w')
  (hd:∀ d w',¬ next ({ a with defers:=d::a.defers }.put o.dst undef) w'):Dt P o a.eval w Kv:=by
 unfold Dt;unfold Oper.wp at h;generalize (execOp a.eval o).run P w=r at *
 cases r with
 | ok n w' =>
  cases n <;> simp only [Oper.upon] at h |- <;> first
   | exact hn _ _ h
   | exact Calls.mono h (fun e QC he=>by
     cases e with
     | returned v=>exact ⟨v,rfl,hn _ _ he⟩
     | panicked c=>exact (hQ _ _ _ he).elim
     | outgrown=>obtain ⟨a0,w0,hf⟩:=he;exact (YR _ _ hf).elim)
   | exact Rows.mono h (fun _ _ hv=>hn _ _ hv)
   | exact h.elim
   | exact absurd h (hd _ _)
 | halt x w' =>
  cases x <;> simp only [Oper.upon] at h
  exact (hQ _ _ _ h).elim
def dh (ts:List Nat):Nat->List GV->List GV
 | _,[]=>[]
 | k,g::gs=>(match ts.contains k with | true=>g | false=>.U)::dh ts (k+1) gs
theorem FR.mask {K:Fz} {β:Bt} {ts:List Nat} {fr:List GV} {l:List Value} (h:FR K β fr l):∀ k,FR K β (dh ts k fr) l:=by
 induction h with
 | nil=>intro k;exact .nil
 | cons h t ih =>
  intro k;rw [dh];split
  ·exact .cons h (ih _)
  ·exact .cons (.U _) (ih _)
theorem OU {ts:List Nat} {d:Option Tmp} {g:GV} (hd:∀ t,d=some t->t ∉ ts) (fr:List GV):dh ts 0 (bK fr d g)=dh ts 0 fr:=by
 cases d with
 | none=>rfl
 | some t =>
  have hd:=hd t rfl
  have gen:∀ (fr:List GV) (k t:Nat),k+t ∉ ts->dh ts k (bN fr t g)=dh ts k fr:=by
   intro fr
   induction fr with
   | nil=>intro k t _;rfl
   | cons x fr ih =>
    intro k t h
    cases t with
    | zero =>
     have hc:ts.contains k=false:=by
      cases hb:ts.contains k with
      | false=>rfl
      | true=>exact absurd (mH.1 hb) zeO
     simp only [bN,dh,hc]
    | succ t=>simp only [bN,dh];rw [ih (k+1) t zfB]
  exact gen fr 0 t (by simpa using hd)
section
variable {P:Program} {ops:Array Oper}
def YQ (P:Program) (ops:Array Oper) (i:Nat) (g:GV) (fr:List GV) (Γ:List Ob):Prop :=
 ∃ o c,ops[i]?=some o/\gG ops.toList (dh (o.looksAt ops) 0 fr) o.guard=some c/\match c with
  | true=>YG P o.op (dh (o.looksAt ops) 0 fr) Γ g
  | false=>g=.v undef
abbrev lK:=List (Nat × GV × List GV)
def GA (P:Program) (o:Oper) (Kt:GV->List Ob->Prop) (fr:List GV) (Γ:List Ob):Prop :=
 ∀ B K β w l,Inv B K β Γ w->FR K β fr l->Dt P o (ev l) w fun v w'=>∃ K' bT g aU,cZ K K'/\dx β bT/\Inv B K' bT aU w'/\(∀ fr l,FR K' bT fr l->FR K' bT (bK fr o.dst g) (put l o.dst v))/\Kt g aU
def GI (P:Program) (ops:Array Oper) (i:Nat) (Kt:GV->List Ob->Prop) (fr:List GV) (Γ:List Ob):Prop :=
 ∃ o c,ops[i]?=some o/\gG ops.toList fr o.guard=some c/\match c with
  | true=>GA P o Kt fr Γ
  | false=>Kt (.v undef) Γ
def ll (ops:Array Oper) (i:Nat):Option Tmp:=(ops[i]?).bind (·.dst)
def waits (ops:Array Oper) (i j:Nat):Bool:=match ops[i]? with
 | some o=>o.after.any fun e=>Region.binds .any e&&e.on==j
 | none=>false
def stay (ops:Array Oper) (i:Nat) (bf:lK):lK:=bf.filter fun p=>!waits ops i p.1
def pO (P:Program) (ops:Array Oper) (Q:List GV->List Ob->Prop):Nat->lK->Array Bool->List GV->List Ob->Prop
 | 0,_,listed,fr,Γ=>Region.ready .any ops listed=[]/\Q fr Γ
 | n+1,bf,listed,fr,Γ=>(Region.ready .any ops listed=[]->Q fr Γ) /\
   ∀ i∈Region.ready .any ops listed,GI P ops i (fun g aU=>(∀ p∈stay ops i bf,YQ P ops p.1 p.2.1 p.2.2 aU)/\pO P ops Q n (stay ops i bf) (listed.setIfInBounds i true) (bK fr (ll ops i) g) aU) fr Γ
theorem GA.mono {o:Oper} {Kt D3:GV->List Ob->Prop} {fr:List GV} {Γ:List Ob} (h:GA P o Kt fr Γ) (hk:∀ g aU,Kt g aU->D3 g aU):GA P o D3 fr Γ:=fun B K β w l hI hF=>by
 have:=h B K β w l hI hF;unfold Dt at *;generalize (execOp (ev l) o).run P w=r at *
 have key:∀ v w',(∃ K' bT g aU,cZ K K'/\dx β bT/\Inv B K' bT aU w'/\(∀ fr l,FR K' bT fr l->FR K' bT (bK fr o.dst g) (put l o.dst v))/\Kt g aU)->∃ K' bT g aU,cZ K K'/\dx β bT/\Inv B K' bT aU w'/\(∀ fr l,FR K' bT fr l->FR K' bT (bK fr o.dst g) (put l o.dst v))/\D3 g aU :=
  fun v w' ⟨K',bT,g,aU,D,I,h3,h4,h5⟩=>⟨K',bT,g,aU,D,I,h3,h4,hk _ _ h5⟩
 cases r with
 | ok n w'=>cases n <;> simp only at this |- <;> first
   | exact key _ _ this
   | exact Calls.mono this (fun e QC ⟨v,he,hv⟩=>⟨v,he,key _ _ hv⟩)
   | exact Rows.mono this (fun _ _ hv=>key _ _ hv)
   | exact this.elim
 | halt x w'=>exact this.elim
theorem GI.mono {i:Nat} {Kt D3:GV->List Ob->Prop} {fr:List GV} {Γ:List Ob} (h:GI P ops i Kt fr Γ) (hk:∀ g aU,Kt g aU->D3 g aU):GI P ops i D3 fr Γ:=by
 obtain ⟨o,c,D,I,h3⟩:=h;refine ⟨o,c,D,I,?_⟩
 cases c with
 | true=>exact GA.mono h3 hk
 | false=>exact hk _ _ h3
theorem pO.PC {Q:List GV->List Ob->Prop}:∀ (n:Nat) (bf ek:lK) (listed:Array Bool) (fr:List GV) (Γ:List Ob),(∀ p∈ek,p∈bf)->pO P ops Q n bf listed fr Γ->pO P ops Q n ek listed fr Γ
 | 0,_,_,_,_,_,_,h=>h
 | n+1,bf,ek,listed,fr,Γ,hs,h=>⟨h.1,fun i hi=>(h.2 i hi).mono fun g aU ⟨D,I⟩=>by
  have mq:∀ p∈stay ops i ek,p∈stay ops i bf:=fun p hp=>by
   simp only [stay,mem_filter] at hp |-;exact ⟨hs p hp.1,hp.2⟩
  exact ⟨fun p hp=>D p (mq p hp),pO.PC n _ _ _ _ _ mq I⟩⟩
theorem pO.sound {m:Nat} {Q:List GV->List Ob->Prop} {B:Bs} {Q':dL} (hm:B.m=m) (hQ:∀ fr Γ,Q fr Γ->Q' .normal fr Γ):∀ (n:Nat) (bf:lK) (listed:Array Bool) (fr:List GV) (Γ:List Ob) (K:Fz) (β:Bt) (w:World) (l:List Value),
  pO P ops Q n bf listed fr Γ->Inv B K β Γ w->FR K β fr l->wpAny P .any ops (lift (gl B Q')) n listed (act l) w
 | 0,_,_,fr,Γ,K,β,w,l,h,hI,hF=>⟨h.1,l,rfl,K,β,fr,Γ,hI,hF,hQ _ _ h.2⟩
 | n+1,bf,listed,fr,Γ,K,β,w,l,h,hI,hF=>by
  refine ⟨fun h0=>⟨l,rfl,K,β,fr,Γ,hI,hF,hQ _ _ (h.1 h0)⟩,fun i hi=>?_⟩;obtain ⟨o,c,ho,hg,hc⟩:=h.2 i hi;have hw:=Hz hF hg;unfold wpOp;simp only [ho,hw]
  have hd:ll ops i=o.dst:=by simp [ll,ho]
  cases c with
  | true =>
   simp only [if_true];refine .inl (T9 (by rw [ny];exact hc B K β w l hI hF) ?_);rintro v w' ⟨K',bT,g,aU,hK,hB,bE,hf,D,I⟩;rw [pj];rw [hd] at I;exact pO.sound hm hQ n _ _ _ _ K' bT w' _ I bE (hf _ _ (hF.mono hK hB))
  | false =>
   simp only [Bool.false_eq_true,if_false];rw [pj];obtain ⟨D,I⟩:=hc;rw [hd] at I;exact pO.sound hm hQ n _ _ _ _ K β w _ I hI (hF.put o.dst (.v _))
theorem GG {fr:List GV} {t t':Nat} (h:t'≠t) (g:GV):cB (bN fr t g) t'=cB fr t':=by
 induction fr generalizing t t' with
 | nil=>rfl
 | cons x l ih=>cases t with
  | zero=>cases t' with | zero=>exact absurd rfl h | succ t'=>rfl
  | succ t=>exact zdE
theorem HV {fr:List GV} {t t':Nat} {g:GV}:jg (bN fr t g) t'=jg fr t':=by
 induction fr generalizing t t' with
 | nil=>rfl
 | cons x l ih=>cases t with
  | zero=>cases t' <;> rfl
  | succ t=>cases t' with | zero=>rfl | succ t'=>exact ih
theorem SJ {o:Oper} {fr:List GV} {d:Option Tmp} {g:GV} (h:∀ t,d=some t->t ∉ o.looksAt ops):gG ops.toList (bK fr d g) o.guard=gG ops.toList fr o.guard:=by
 cases d with
 | none=>rfl
 | some t =>
  have h:=h t rfl;obtain ⟨d',op,ty,pos,af,gd⟩:=o
  cases gd with
  | none=>rfl
  | some gd =>
   obtain ⟨j,b⟩:=gd
   have bZ:∀ t',jg ops.toList j=true->(rX ops.toList j).dst=some t'->t'≠t:=fun t' hj AO he=>by
    subst he;apply h;have lA:=Ic ops.toList j (AV hj);simp only [Array.toArray_toList] at lA;simp [Oper.looksAt,lA,AO]
   have hv:pz ops.toList (bN fr t g) j=pz ops.toList fr j:=by
    unfold pz
    cases lW:jg ops.toList j with
    | false=>rfl
    | true =>
     cases hd:(rX ops.toList j).dst with
     | none=>rfl
     | some t' =>
      simp only;rw [HV,GG (bZ t' lW hd)]
   simp only [gG,bK,hv]
theorem YQ.at {i:Nat} {g:GV} {fr:List GV} {Γ:List Ob} {o:Oper} (h:YQ P ops i g fr Γ) (ho:ops[i]?=some o) {B:Bs} {K:Fz} {β:Bt} {w:World} {l:List Value} (hI:Inv B K β Γ w) (hF:FR K β fr l):∃ v,Rel K β v g/\((Region.wanted o (yielded ops (act l).tmps)=true/\(execOp (ev l) o).run P w=.ok (.value v) w)\/(Region.wanted o (yielded ops (act l).tmps)=false/\v=undef)):=by
 obtain ⟨o',c,D,I,h3⟩:=h;rw [ho] at D;cases D;have hw:=Hz (hF.mask (ts:=o.looksAt ops) 0) I
 cases c with
 | true =>
  obtain ⟨v,hr,hv⟩:=h3 B K β w l hI (hF.mask 0);exact ⟨v,hv,.inl ⟨hw,by obtain ⟨d,op,ty,pos,af,gd⟩:=o;exact hr d ty pos af⟩⟩
 | false=>subst h3;exact ⟨undef,.v _,.inr ⟨hw,rfl⟩⟩
theorem GI.comm {i j:Nat} {g:GV} {oi oj:Oper} {Kt:GV->List Ob->Prop} {fr:List GV} {Γ:List Ob} (hi:ops[i]?=some oi) (hj:ops[j]?=some oj) (PM:oi.apart ops oj=true) (Zn:∀ cs b,oj.op≠.select cs b) (hy:YQ P ops i g fr Γ)
  (h:GI P ops j Kt (bK fr oi.dst g) Γ):GI P ops j Kt fr Γ:=by
 obtain ⟨a1,a2,a3⟩:=Oper.apart_spec PM;obtain ⟨o,c,D,I,h3⟩:=h;rw [hj] at D;cases D;rw [SJ a1] at I;refine ⟨oj,c,hj,I,?_⟩
 cases c with
 | false=>exact h3
 | true =>
  intro B K β w l hI hF;obtain ⟨v,hv,_⟩:=hy.at hi hI hF;have:=h3 B K β w (put l oi.dst v) hI (hF.put _ hv)
  have he:execOp (ev (put l oi.dst v)) oj=execOp (ev l) oj:=by
   have:=execOp_put oj Zn (act l) oi.dst v a1;rw [pj,ny,ny] at this;exact this
  unfold Dt at this |-;rw [he] at this;exact this
theorem pO.first {Q:List GV->List Ob->Prop} {i:Nat} {oi:Oper} {g:GV} {oK:List GV} (hi:ops[i]?=some oi) (EY:∀ (j:Nat) (o:Oper) cs b,ops[j]?=some o->o.op≠.select cs b) :
  ∀ (n:Nat) (bf:lK) (listed:Array Bool) (fr:List GV) (Γ:List Ob),
   (∀ j oj,ops[j]?=some oj->j≠i->listed.getD j true=false->(∀ e∈oj.after,Region.binds .any e=true->e.on≠i)->oi.apart ops oj=true) ->
   i∈Region.ready .any ops listed->dh (oi.looksAt ops) 0 fr=dh (oi.looksAt ops) 0 oK->YQ P ops i g oK Γ->(∀ p∈bf,YQ P ops p.1 p.2.1 p.2.2 Γ) ->
   pO P ops Q n ((i,g,oK)::bf) (listed.setIfInBounds i true) (bK fr oi.dst g) Γ->pO P ops Q (n+1) bf listed fr Γ:=by
 have hd:ll ops i=oi.dst:=by simp [ll,hi]
 have Uz:∀ {fr:List GV} {Γ:List Ob},dh (oi.looksAt ops) 0 fr=dh (oi.looksAt ops) 0 oK->YQ P ops i g oK Γ->YQ P ops i g fr Γ:=by
  rintro fr Γ hm ⟨o,c,D,I,h3⟩;rw [hi] at D;cases D;exact ⟨oi,c,hi,by rw [hm];exact I,by rw [hm];exact h3⟩
 have self:∀ (n:Nat) (bf:lK) (listed:Array Bool) (fr:List GV) (Γ:List Ob),dh (oi.looksAt ops) 0 fr=dh (oi.looksAt ops) 0 oK->YQ P ops i g oK Γ->(∀ p∈bf,YQ P ops p.1 p.2.1 p.2.2 Γ) ->
   pO P ops Q n ((i,g,oK)::bf) (listed.setIfInBounds i true) (bK fr oi.dst g) Γ ->
   GI P ops i (fun g aU=>(∀ p∈stay ops i bf,YQ P ops p.1 p.2.1 p.2.2 aU)/\pO P ops Q n (stay ops i bf) (listed.setIfInBounds i true) (bK fr (ll ops i) g) aU) fr Γ:=by
  intro n bf listed fr Γ sY hy hp H
  have dI:∀ p∈stay ops i bf,p∈bf:=fun p hp=>by simp only [stay,mem_filter] at hp;exact hp.1
  have H':pO P ops Q n (stay ops i bf) (listed.setIfInBounds i true) (bK fr (ll ops i) g) Γ:=by
   rw [hd];exact pO.PC n _ _ _ _ _ (fun p hp=>di _ (dI p hp)) H
  obtain ⟨o,c,D,I,h3⟩:=Uz sY hy;rw [hi] at D;cases D
  have qt:gG ops.toList fr oi.guard=some c:=by
   obtain ⟨d',op,ty,pos,af,gd⟩:=oi
   cases gd with
   | none=>exact I
   | some gd =>
    obtain ⟨j,b⟩:=gd;simp only [gG] at I |-
    have hv:∀ x,pz ops.toList (dh (Oper.looksAt ops ⟨d',op,ty,pos,af,some (j,b)⟩) 0 fr) j=some x->pz ops.toList fr j=some x:=by
     intro x hx;unfold pz at hx |-
     cases lW:jg ops.toList j with
     | false=>rw [lW] at hx;cases hx
     | true =>
      rw [lW] at hx
      cases hdt:(rX ops.toList j).dst with
      | none=>rw [hdt] at hx;cases hx
      | some t =>
       rw [hdt] at hx;simp only at hx |-
       have rD:∀ (ts:List Nat) (fr:List GV) (k t:Nat),jg (dh ts k fr) t=jg fr t:=by
        intro ts fr
        induction fr with
        | nil=>intro k t;rfl
        | cons x fr ih=>intro k t;cases t with | zero=>rfl | succ t=>exact ih (k+1) t
       have Td:∀ (ts:List Nat) (fr:List GV) (k t:Nat) ,cB (dh ts k fr) t=cB fr t\/cB (dh ts k fr) t=.U:=by
        intro ts fr
        induction fr with
        | nil=>intro k t;exact .inl rfl
        | cons x fr ih =>
         intro k t
         cases t with
         | zero=>simp only [dh,cB];split <;> first | exact .inl rfl | exact .inr rfl
         | succ t=>exact ih (k+1) t
       rw [rD] at hx
       rcases Td (Oper.looksAt ops ⟨d',op,ty,pos,af,some (j,b)⟩) fr 0 t with h | h
       ·rw [h] at hx;exact hx
       ·rw [h] at hx
        split at hx <;> first | (rename_i h5;cases h5;done) | cases hx
    split at I
    ·rename_i c' hc;rw [hv _ hc];exact I
    ·rename_i hc;rw [hv _ hc];exact I
    ·cases I
  refine ⟨oi,c,hi,qt,?_⟩
  have jP:∀ p∈stay ops i bf,YQ P ops p.1 p.2.1 p.2.2 Γ:=fun p hq=>hp p (dI p hq)
  cases c with
  | true =>
   intro B K β w l hI hF;obtain ⟨v,hr,hv⟩:=h3 B K β w l hI (hF.mask 0)
   have oA:(execOp (ev l) oi).run P w=.ok (.value v) w:=by obtain ⟨d,op,ty,pos,af,gd⟩:=oi;exact hr d ty pos af
   unfold Dt;rw [oA];exact ⟨K,β,g,Γ,cZ.refl K,dx.refl β,hI,fun fr l hf=>hf.put _ hv,jP,H'⟩
  | false =>
   simp only at h3;subst h3;exact ⟨jP,H'⟩
 intro n
 induction n with
 | zero =>
  intro bf listed fr Γ _ hr sY hy hp H;refine ⟨fun h=>(by rw [h] at hr;cases hr),fun j hj=>?_⟩
  by_cases hji:j=i
  ·subst hji;exact self 0 bf listed fr Γ sY hy hp H
  ·have:=ready_mono hj hji;rw [H.1] at this;cases this
 | succ n ih =>
  intro bf listed fr Γ PT hr sY hy hp H;refine ⟨fun h=>(by rw [h] at hr;cases hr),fun j hj=>?_⟩
  by_cases hji:j=i
  ·subst hji;exact self (n+1) bf listed fr Γ sY hy hp H
  ·have D:=H.2 j (ready_mono hj hji);obtain ⟨Ti,oj,LA,cp⟩:=mem_ready.1 hj
   have Tp:∀ e∈oj.after,Region.binds .any e=true->e.on≠i:=fun e he hb heq=>by
    have D:=cp e he hb;have h0:=(mem_ready.1 hr).1;rw [heq] at D
    rcases Nat.lt_or_ge i listed.size with h' | h'
    ·simp [h'] at h0 D;rw [h0] at D;cases D
    ·simp [Array.getElem?_eq_none h'] at D
   have PM:=PT j oj LA hji Ti Tp;obtain ⟨a1,a2,a3⟩:=Oper.apart_spec PM
   have sd:waits ops j i=false:=by
    simp only [waits,LA];rw [Array.any_eq_false'];intro e he hb;simp only [au,beq_iff_eq] at hb;exact Tp e he hb.1 hb.2
   have dI:stay ops j ((i,g,oK)::bf)=(i,g,oK)::stay ops j bf:=by
    simp [stay,List.filter_cons,sd]
   rw [dI] at D;have I:=GI.comm hi LA PM (fun cs b=>EY j oj cs b LA) (Uz sY hy) D
   have PQ:ll ops j=oj.dst:=by simp [ll,LA]
   have Tc:∀ k ok,ops[k]?=some ok->k≠i->(listed.setIfInBounds j true).getD k true=false ->
     (∀ e∈ok.after,Region.binds .any e=true->e.on≠i)->oi.apart ops ok=true:=fun k ok hk gE zd cE=>by
    refine PT k ok hk gE ?_ cE
    by_cases hjk:j=k
    ·subst hjk;exact Ti
    ·rw [getD_set_ne true hjk] at zd;exact zd
   refine I.mono fun gj aU ⟨h3,h4⟩=>⟨fun p hp=>h3 p (di _ hp),?_⟩
   refine ih (stay ops j bf) (listed.setIfInBounds j true) (bK fr (ll ops j) gj) aU Tc (ready_mono hr (Ne.symm hji)) ?_ (h3 (i,g,oK) (mem_cons_self)) (fun p hp=>h3 p (di _ hp)) ?_
   ·rw [<-sY,PQ];exact OU a3 fr
   ·rw [Array.setIfInBounds_comm _ _ hji]
    have U2:bK (bK fr (ll ops j) gj) oi.dst g=bK (bK fr oi.dst g) (ll ops j) gj:=by
     rw [PQ]
     cases hdi:oi.dst with
     | none=>rfl
     | some t =>
      cases hdj':oj.dst with
      | none=>rfl
      | some u =>
       have bZ:t≠u:=fun e=>a2 t hdi (by rw [hdj',e])
       have gen:∀ (fr:List GV) (t u:Nat),t≠u->bN (bN fr u gj) t g=bN (bN fr t g) u gj:=by
        intro fr
        induction fr with
        | nil=>intro t u _;rfl
        | cons x fr ih =>
         intro t u h
         cases t with
         | zero=>cases u with | zero=>exact absurd rfl h | succ u=>rfl
         | succ t=>cases u with | zero=>rfl | succ u=>simp only [bN];rw [ih t u (fun e=>h (by rw [e]))]
       exact gen fr t u bZ
    rw [U2];exact h4
inductive Ot where
 | nil
 | q (i:Nat) (r:Ot)
 | a (i:Nat) (r:Ot)
 | f (i:Nat) (r:Ot) (j:Nat) (s:Ot)
def Ot.len:Ot->Nat
 | .nil=>0
 | .q _ r=>r.len+1
 | .a _ r=>r.len+1
 | .f _ r _ _=>r.len+1
def tB (ops:Array Oper):Ot->Array Bool->Bool
 | .nil,listed=>(Region.ready .any ops listed).isEmpty
 | .q i r,listed=>(Region.ready .any ops listed).contains i&&Region.free .any ops listed i&&tB ops r (listed.setIfInBounds i true)
 | .a i r,listed=>(Region.ready .any ops listed==[i])&&tB ops r (listed.setIfInBounds i true)
 | .f i r j s,listed=>(Region.ready .any ops listed==[i,j])&&tB ops r (listed.setIfInBounds i true)&&tB ops s (listed.setIfInBounds j true)&&(r.len==s.len)
def GO (P:Program) (ops:Array Oper) (Q:List GV->List Ob->Prop):Ot->lK->List GV->List Ob->Prop
 | .nil,_,fr,Γ=>Q fr Γ
 | .q i r,bf,fr,Γ=>∃ g,YQ P ops i g fr Γ/\GO P ops Q r ((i,g,fr)::bf) (bK fr (ll ops i) g) Γ
 | .a i r,bf,fr,Γ=>GI P ops i (fun g aU=>(∀ p∈stay ops i bf,YQ P ops p.1 p.2.1 p.2.2 aU)/\GO P ops Q r (stay ops i bf) (bK fr (ll ops i) g) aU) fr Γ
 | .f i r j s,bf,fr,Γ=>GI P ops i (fun g aU=>(∀ p∈stay ops i bf,YQ P ops p.1 p.2.1 p.2.2 aU)/\GO P ops Q r (stay ops i bf) (bK fr (ll ops i) g) aU) fr Γ/\GI P ops j (fun g aU=>(∀ p∈stay ops j bf,YQ P ops p.1 p.2.1 p.2.2 aU)/\GO P ops Q s (stay ops j bf) (bK fr (ll ops j) g) aU) fr Γ
theorem GO.fork {ops:Array Oper} {Q:List GV->List Ob->Prop} {i j:Nat} {r s:Ot} {bf:lK} {fr:List GV} {Γ:List Ob} (D:GO P ops Q (.a i r) bf fr Γ) (I:GO P ops Q (.a j s) bf fr Γ):GO P ops Q (.f i r j s) bf fr Γ:=⟨D,I⟩
theorem GO.all {ol:List Oper} {Q:List GV->List Ob->Prop} (hs:Region.noSelect ol.toArray=true):∀ (ord:Ot) (bf:lK) (listed:Array Bool) (fr:List GV) (Γ:List Ob),
  tB ol.toArray ord listed=true->(∀ p∈bf,YQ P ol.toArray p.1 p.2.1 p.2.2 Γ)->GO P ol.toArray Q ord bf fr Γ->pO P ol.toArray Q ord.len bf listed fr Γ
 | .nil,bf,listed,fr,Γ,ho,_,h=>⟨by simpa [tB] using ho,h⟩
 | .q i r,bf,listed,fr,Γ,ho,hp,h=>by
  simp only [tB,au] at ho;obtain ⟨⟨hr,hf⟩,ho⟩:=ho;obtain ⟨g,hy,h⟩:=h
  have B1:i∈Region.ready .any ol.toArray listed:=by simpa using hr
  obtain ⟨_,o,hi,_⟩:=mem_ready.1 B1
  have hd:ll ol.toArray i=o.dst:=by simp only [ll,hi];rfl
  rw [hd] at h
  exact pO.first hi (Region.noSelect_spec hs) _ bf listed fr Γ (Region.free_spec hi hf) B1 rfl hy hp (GO.all hs r _ _ _ _ ho (fun p jP=>by
   rcases ew jP with rfl | jP
   ·exact hy
   ·exact hp p jP) h)
 | .a i r,bf,listed,fr,Γ,ho,hp,h=>by
  simp only [tB,au,beq_iff_eq] at ho;obtain ⟨hr,ho⟩:=ho;refine ⟨fun h0=>by rw [h0] at hr;simp at hr,fun j hj=>?_⟩;rw [hr,List.mem_singleton] at hj;subst hj
  exact GI.mono h fun g aU ⟨D,I⟩=>⟨D,GO.all hs r _ _ _ _ ho D I⟩
 | .f i r j s,bf,listed,fr,Γ,ho,hp,h=>by
  simp only [tB,au,beq_iff_eq] at ho;obtain ⟨⟨⟨hr,Zg⟩,Zh⟩,hl⟩:=ho;refine ⟨fun h0=>by rw [h0] at hr;simp at hr,fun k hk=>?_⟩;rw [hr] at hk;simp only [List.mem_cons,List.not_mem_nil,or_false] at hk
  rcases hk with rfl | rfl
  ·exact GI.mono h.1 fun g aU ⟨D,I⟩=>⟨D,GO.all hs r _ _ _ _ Zg D I⟩
  ·exact GI.mono h.2 fun g aU ⟨D,I⟩=>⟨D,by
    have:=GO.all hs s _ _ _ _ Zh D I
    rw [<-hl] at this;exact this⟩
theorem GW.draw {m id:Nat} {ol:List Oper} {Q:dL} {fr:List GV} {Γ:List Ob} (ord:Ot) (hm:P.follows .mixedOrders=true)
  (ei:(Region.noSelect ol.toArray&&(ord.len==ol.length)&&tB ol.toArray ord (Array.replicate ol.toArray.size false))=true)
  (h:GO P ol.toArray (Q .normal) ord [] fr Γ):GW P m (.region id ol.toArray true) Q fr Γ:=fun B K β w l hB hI hF=>by
 simp only [au,beq_iff_eq] at ei;obtain ⟨⟨hs,hl⟩,ho⟩:=ei;refine wp_region_any hm ?_;have D:=GO.all hs ord [] _ fr Γ ho (fun p hp=>by cases hp) h;rw [hl] at D;have I:=pO.sound (Q':=Q) hB (fun fr Γ h=>h) _ _ _ _ _ K β w.drew l D (hI.same (Ext.drew w)) hF;simpa using I
end
def kF:List Oper->Nat->Option Oper
 | [],_=>none
 | o::_,0=>some o
 | _::r,n+1=>kF r n
theorem sA {ol:List Oper} {i:Nat} {o:Oper} (h:kF ol i=some o):ol.toArray[i]?=some o:=by
 have:∀ (ol:List Oper) (i:Nat),kF ol i=ol[i]?:=by
  intro ol
  induction ol with
  | nil=>intro i;rfl
  | cons x ol ih=>intro i;cases i with | zero=>rfl | succ i=>simpa [kF] using ih i
 rw [this] at h;simpa using h
section
variable {P:Program} {Q:List GV->List Ob->Prop} {ol:List Oper} {r:Ot} {bf:lK} {fr:List GV} {Γ:List Ob} {i:Nat} {g:GV} {d:Option Tmp} {op:Op} {ty:TypeId} {pos:String} {af:Array Edge} {gd:Nat × Bool}
theorem ye {o:Oper} (h:kF ol i=some o):ll ol.toArray i=o.dst:=by simp only [ll,sA h];rfl
theorem GO.more {ops:Array Oper}:∀ (r:Ot) (bf ek:lK) (fr:List GV) (Γ:List Ob),(∀ p∈ek,p∈bf\/∀ Γ,YQ P ops p.1 p.2.1 p.2.2 Γ)->GO P ops Q r bf fr Γ->GO P ops Q r ek fr Γ
 | .nil,_,_,_,_,_,h=>h
 | .q i r,bf,ek,fr,Γ,hs,⟨g,D,I⟩=>⟨g,D,GO.more r _ _ _ _ (fun p hp=>by
   rcases ew hp with rfl | hp
   ·exact .inl (mem_cons_self)
   ·exact (hs p hp).imp (di _) id) I⟩
 | .a i r,bf,ek,fr,Γ,hs,h=>GI.mono h fun g aU ⟨D,I⟩=>by
   have mq:∀ p∈stay ops i ek,p∈stay ops i bf\/∀ Γ,YQ P ops p.1 p.2.1 p.2.2 Γ:=fun p hp=>by
    exact zcS
   exact ⟨fun p hp=>(mq p hp).elim (D p) (fun h=>h aU),GO.more r _ _ _ _ mq I⟩
 | .f i r j s,bf,ek,fr,Γ,hs,h=>by
   have mq:∀ k,∀ p∈stay ops k ek,p∈stay ops k bf\/∀ Γ,YQ P ops p.1 p.2.1 p.2.2 Γ:=fun k p hp=>by
    exact zcS
   exact ⟨GI.mono h.1 fun g aU ⟨D,I⟩=>⟨fun p hp=>(mq i p hp).elim (D p) (fun h=>h aU),GO.more r _ _ _ _ (mq i) I⟩,GI.mono h.2 fun g aU ⟨D,I⟩=>⟨fun p hp=>(mq j p hp).elim (D p) (fun h=>h aU),GO.more s _ _ _ _ (mq j) I⟩⟩
theorem GO.skip {ops:Array Oper} {x:Nat × GV × List GV} (hx:∀ Γ,YQ P ops x.1 x.2.1 x.2.2 Γ) (h:GO P ops Q r bf fr Γ):GO P ops Q r (x::bf) fr Γ:=by
 refine GO.more r bf _ fr Γ (fun p hp=>?_) h
 rcases ew hp with he | hp
 ·subst he;exact .inr hx
 ·exact .inl hp
theorem GO.yq {o:Oper} (hi:kF ol i=some o) (hy:YQ P ol.toArray i g fr Γ) (h:GO P ol.toArray Q r ((i,g,fr)::bf) (bK fr o.dst g) Γ):GO P ol.toArray Q (.q i r) bf fr Γ :=
 ⟨g,hy,by rw [ye hi];exact h⟩
theorem GO.yp {o:Oper} (hi:kF ol i=some o) (hy:∀ Γ,YQ P ol.toArray i g fr Γ) (h:GO P ol.toArray Q r bf (bK fr o.dst g) Γ):GO P ol.toArray Q (.q i r) bf fr Γ :=
 GO.yq hi (hy Γ) (GO.skip hy h)
theorem o9 {c:Bool} {ops:List Oper} (hv:pz ops fr gd.1=some (some c)) (hc:c=gd.2):gG ops fr (some gd)=some true:=by
 exact zd0
theorem pX {c:Bool} {ops:List Oper} (hv:pz ops fr gd.1=some (some c)) (hc:c=!gd.2):gG ops fr (some gd)=some false:=by
 exact zd0
theorem YQ.t {o:Oper} (hi:kF ol i=some o) (hg:gG ol (dh (o.looksAt ol.toArray) 0 fr) o.guard=some true) (hy:YG P o.op (dh (o.looksAt ol.toArray) 0 fr) Γ g):YQ P ol.toArray i g fr Γ:=⟨o,true,sA hi,hg,hy⟩
theorem YQ.f {o:Oper} (hi:kF ol i=some o) (hg:gG ol (dh (o.looksAt ol.toArray) 0 fr) o.guard=some false):YQ P ol.toArray i (.v undef) fr Γ:=⟨o,false,sA hi,hg,rfl⟩
theorem OQ (hi:kF ol i=some ⟨d,op,ty,pos,af,none⟩) (hy:YG P op (dh (Oper.looksAt ol.toArray ⟨d,op,ty,pos,af,none⟩) 0 fr) Γ g) (h:GO P ol.toArray Q r ((i,g,fr)::bf) (bK fr d g) Γ):GO P ol.toArray Q (.q i r) bf fr Γ :=
 GO.yq hi (YQ.t hi rfl hy) h
theorem OP (hi:kF ol i=some ⟨d,op,ty,pos,af,none⟩) (hy:∀ Γ,YG P op (dh (Oper.looksAt ol.toArray ⟨d,op,ty,pos,af,none⟩) 0 fr) Γ g) (h:GO P ol.toArray Q r bf (bK fr d g) Γ):GO P ol.toArray Q (.q i r) bf fr Γ :=
 GO.yp hi (fun Γ=>YQ.t hi rfl (hy Γ)) h
theorem Ye {c:Bool} (hi:kF ol i=some ⟨d,op,ty,pos,af,some gd⟩) (hv:pz ol (dh (Oper.looksAt ol.toArray ⟨d,op,ty,pos,af,some gd⟩) 0 fr) gd.1=some (some c)) (hc:c=gd.2) (hy:YG P op (dh (Oper.looksAt ol.toArray ⟨d,op,ty,pos,af,some gd⟩) 0 fr) Γ g)
  (h:GO P ol.toArray Q r ((i,g,fr)::bf) (bK fr d g) Γ):GO P ol.toArray Q (.q i r) bf fr Γ :=
 GO.yq hi (YQ.t hi (o9 hv hc) hy) h
theorem VP {c:Bool} (hi:kF ol i=some ⟨d,op,ty,pos,af,some gd⟩) (hv:pz ol (dh (Oper.looksAt ol.toArray ⟨d,op,ty,pos,af,some gd⟩) 0 fr) gd.1=some (some c)) (hc:c=gd.2) (hy:∀ Γ,YG P op (dh (Oper.looksAt ol.toArray ⟨d,op,ty,pos,af,some gd⟩) 0 fr) Γ g)
  (h:GO P ol.toArray Q r bf (bK fr d g) Γ):GO P ol.toArray Q (.q i r) bf fr Γ :=
 GO.yp hi (fun Γ=>YQ.t hi (o9 hv hc) (hy Γ)) h
theorem Yb {c:Bool} (hi:kF ol i=some ⟨d,op,ty,pos,af,some gd⟩) (hv:pz ol (dh (Oper.looksAt ol.toArray ⟨d,op,ty,pos,af,some gd⟩) 0 fr) gd.1=some (some c)) (hc:c=!gd.2) (h:GO P ol.toArray Q r bf (bK fr d (.v undef)) Γ):GO P ol.toArray Q (.q i r) bf fr Γ :=
 GO.yp hi (fun Γ=>YQ.f hi (pX hv hc)) h
theorem Ia:∀ (fr:List GV) (ts:List Nat) (k t:Nat),k+t∈ts->cB (dh ts k fr) t=cB fr t
 | [],_,_,_,_=>rfl
 | g::fr,ts,k,0,h=>by
  have hc:ts.contains k=true:=mH.2 zeO;simp only [dh,hc,cB]
 | g::fr,ts,k,t+1,h=>by
  simp only [dh,cB];exact Ia fr ts (k+1) t zfB
theorem vj {o:Oper} {ops:Array Oper} {x:Operand} (h:x∈o.op.operands.toList):bg (dh (o.looksAt ops) 0 fr) x=bg fr x:=by
 cases x with
 | tmp t =>
  refine Ia fr _ 0 t ?_;rw [eo];refine List.mem_append_left _ (List.mem_filterMap.2 ⟨.tmp t,h,rfl⟩)
 | _=>rfl
theorem Yd {x:Operand} (hi:kF ol i=some ⟨d,.move x,ty,pos,af,none⟩) (h:GO P ol.toArray Q r bf (bK fr d (bg fr x)) Γ):GO P ol.toArray Q (.q i r) bf fr Γ :=
 OP hi (fun Γ=>by
  have:=YG.mv (P:=P) (x:=x) (Γ:=Γ) (fr:=dh (Oper.looksAt ol.toArray ⟨d,.move x,ty,pos,af,none⟩) 0 fr)
  rw [vj zfb] at this;exact this) h
theorem Yc {x:Operand} (hi:kF ol i=some ⟨d,.assign x,ty,pos,af,none⟩) (h:GO P ol.toArray Q r bf (bK fr d (bg fr x)) Γ):GO P ol.toArray Q (.q i r) bf fr Γ :=
 OP hi (fun Γ=>by
  have:=YG.ky (P:=P) (x:=x) (Γ:=Γ) (fr:=dh (Oper.looksAt ol.toArray ⟨d,.assign x,ty,pos,af,none⟩) 0 fr)
  rw [vj zfb] at this;exact this) h
theorem WW {x:Operand} {c:Bool} (hi:kF ol i=some ⟨d,.move x,ty,pos,af,some gd⟩) (hv:pz ol (dh (Oper.looksAt ol.toArray ⟨d,.move x,ty,pos,af,some gd⟩) 0 fr) gd.1=some (some c)) (hc:c=gd.2) (h:GO P ol.toArray Q r bf (bK fr d (bg fr x)) Γ):GO P ol.toArray Q (.q i r) bf fr Γ :=
 VP hi hv hc (fun Γ=>by
  have:=YG.mv (P:=P) (x:=x) (Γ:=Γ) (fr:=dh (Oper.looksAt ol.toArray ⟨d,.move x,ty,pos,af,some gd⟩) 0 fr)
  rw [vj zfb] at this;exact this) h
theorem WV {c a b:Operand} {t:Bool} (hi:kF ol i=some ⟨d,.pick c a b,ty,pos,af,none⟩) (hc:bg (dh (Oper.looksAt ol.toArray ⟨d,.pick c a b,ty,pos,af,none⟩) 0 fr) c=.v (.bool t)) (ht:t=true) (h:GO P ol.toArray Q r bf (bK fr d (bg fr a)) Γ):GO P ol.toArray Q (.q i r) bf fr Γ :=
 OP hi (fun Γ=>by
  have:=YG.Qy (P:=P) (Γ:=Γ) (a:=a) (b:=b) hc ht
  rw [vj zfb] at this;exact this) h
theorem WU {c a b:Operand} {t:Bool} (hi:kF ol i=some ⟨d,.pick c a b,ty,pos,af,none⟩) (hc:bg (dh (Oper.looksAt ol.toArray ⟨d,.pick c a b,ty,pos,af,none⟩) 0 fr) c=.v (.bool t)) (ht:t=false) (h:GO P ol.toArray Q r bf (bK fr d (bg fr b)) Γ):GO P ol.toArray Q (.q i r) bf fr Γ :=
 OP hi (fun Γ=>by
  have:=YG.Qx (P:=P) (Γ:=Γ) (a:=a) (b:=b) hc ht
  rw [vj zfb] at this;exact this) h
inductive cS (P:Program) (ops:Array Oper) (i:Nat) (aU:List Ob):lK->lK->Prop
 | n:cS P ops i aU [] []
 | w {j:Nat} {g:GV} {oK:List GV} {bf ek:lK} (hw:waits ops i j=true) (h:cS P ops i aU bf ek):cS P ops i aU ((j,g,oK)::bf) ek
 | y {j:Nat} {g:GV} {oK:List GV} {bf ek:lK} (hy:YQ P ops j g oK aU) (h:cS P ops i aU bf ek):cS P ops i aU ((j,g,oK)::bf) ((j,g,oK)::ek)
theorem uj {ops:Array Oper} {q p:Nat × GV × List GV} (h:p∈stay ops i (q::bf)):(p=q/\waits ops i q.1=false)\/p∈stay ops i bf:=by
 simp only [stay,mem_filter] at h |-
 rcases ew h.1 with he | jP
 ·subst he;exact .inl ⟨rfl,by simpa using h.2⟩
 ·exact .inr ⟨jP,h.2⟩
theorem cS.spec {ops:Array Oper} {aU:List Ob} {ek:lK} (h:cS P ops i aU bf ek):(∀ p∈stay ops i bf,YQ P ops p.1 p.2.1 p.2.2 aU)/\∀ p∈stay ops i bf,p∈ek:=by
 induction h with
 | n=>exact ⟨fun p hp=>(by cases hp),fun p hp=>(by cases hp)⟩
 | w hw h ih =>
  refine ⟨fun p hp=>?_,fun p hp=>?_⟩
  ·rcases uj hp with ⟨_,I⟩ | jP
   ·simp only at I;rw [hw] at I;cases I
   ·exact ih.1 p jP
  ·rcases uj hp with ⟨_,I⟩ | jP
   ·simp only at I;rw [hw] at I;cases I
   ·exact ih.2 p jP
 | y hy h ih =>
  refine ⟨fun p hp=>?_,fun p hp=>?_⟩
  ·rcases uj hp with ⟨he,_⟩ | jP
   ·subst he;exact hy
   ·exact ih.1 p jP
  ·rcases uj hp with ⟨he,_⟩ | jP
   ·subst he;exact mem_cons_self
   ·exact di _ (ih.2 p jP)
def Sh (fr:List GV):Option Tmp->Bool
 | none=>true
 | some t=>jg fr t
def dm (P:Program) (Q:List GV->List Ob->Prop) (ol:List Oper) (i:Nat) (r:Ot) (bf:lK) (fr:List GV) (d:Option Tmp) (c6:List GV) (aU:List Ob):Prop :=
 ∃ g ek,c6=bK fr d g/\cS P ol.toArray i aU bf ek/\GO P ol.toArray Q r ek (bK fr d g) aU
theorem GA.of {o:Oper} {Kt:GV->List Ob->Prop} {R:List GV->List Ob->Prop} {ops:Array Oper} (hg:o.guard=none) (hd:Sh fr o.dst=true) (hR:∀ c6 aU,R c6 aU->∃ g,c6=bK fr o.dst g/\Kt g aU) (h:GL P Γ.length ops (bu R (fun _ _ _=>False)) [o] fr Γ):GA P o Kt fr Γ:=fun B K β w l hI hF=>by
 have D:=h (cur K β Γ w) K β w l rfl hI.here hF;obtain ⟨d,op,ty,pos,af,gd⟩:=o;simp only at hg;subst hg;simp only at D hd;unfold WL wpList at D;rw [ah (by rfl)] at D
 rcases D with D | ⟨_,a0,w0,hf⟩
 ·rw [<-ny];refine UD D (fun c a w' hf=>?_) (fun a w' hf=>?_) ?_ ?_
  ·obtain ⟨l',_,_,_,_,_,_,_,hq⟩:=hf;exact hq
  ·obtain ⟨l',_,_,_,_,_,_,_,hq⟩:=hf;exact hq
  ·rintro v w' ⟨l',hl,K',bT,c6,aU,bE,u0,hq⟩;obtain ⟨g,rfl,hk⟩:=hR c6 aU hq;rw [pj] at hl
   have jA:put l d v=l':=by
    have:=congrArg (fun a:Act=>a.tmps.toList) hl;simpa [act] using this
   subst jA;refine ⟨K',bT,g,aU,bE.kle,bE.ble,hI.Mq bE,fun K6 l2 I=>?_,hk⟩
   cases d with
   | none=>exact I
   | some t =>
    refine I.fh t ?_;have hv:=u0.nth t;have h3:nth (put l (some t) v) t=v:=sC (nG hF hd) v
    have h4:cB (bK fr (some t) g) t=g:=by
     have gen:∀ (fr:List GV) (t:Nat),jg fr t=true->cB (bN fr t g) t=g:=by
      intro fr
      induction fr with
      | nil=>intro t h;cases h
      | cons x fr ih=>intro t h;cases t with | zero=>rfl | succ t=>exact ih t h
     exact gen fr t hd
    rw [h3,h4] at hv;exact hv
  ·rintro d' w' ⟨l',hl,_⟩;have:=congrArg (fun a:Act=>a.defers) hl
   cases d <;> simp [act,Act.put] at this
 ·obtain ⟨l',_,_,_,_,_,_,_,hq⟩:=hf;exact hq.elim
theorem dm.kt {c6:List GV} {aU:List Ob} (h:dm P Q ol i r bf fr d c6 aU):∃ g,c6=bK fr d g/\((∀ p∈stay ol.toArray i bf,YQ P ol.toArray p.1 p.2.1 p.2.2 aU)/\GO P ol.toArray Q r (stay ol.toArray i bf) (bK fr d g) aU):=by
 obtain ⟨g,ek,D,I,h3⟩:=h;obtain ⟨h4,h5⟩:=I.spec;exact ⟨g,D,h4,GO.more r _ _ _ _ (fun p hp=>.inl (h5 p hp)) h3⟩
theorem OA (hi:kF ol i=some ⟨d,op,ty,pos,af,none⟩) (hd:Sh fr d=true) (h:GL P Γ.length ol.toArray (bu (dm P Q ol i r bf fr d) (fun _ _ _=>False)) [⟨d,op,ty,pos,af,none⟩] fr Γ):GO P ol.toArray Q (.a i r) bf fr Γ:=by
 refine ⟨_,true,sA hi,rfl,?_⟩
 exact (GA.of (o:=⟨d,op,ty,pos,af,none⟩) rfl hd (fun c6 aU hq=>dm.kt hq) h).mono fun g aU ⟨D,I⟩=>⟨D,by rw [ye hi];exact I⟩
theorem VO {c:Bool} (hi:kF ol i=some ⟨d,op,ty,pos,af,some gd⟩) (hd:Sh fr d=true) (hv:pz ol fr gd.1=some (some c)) (hc:c=gd.2) (h:GL P Γ.length ol.toArray (bu (dm P Q ol i r bf fr d) (fun _ _ _=>False)) [⟨d,op,ty,pos,af,none⟩] fr Γ):GO P ol.toArray Q (.a i r) bf fr Γ:=by
 refine ⟨_,true,sA hi,o9 hv hc,?_⟩
 have:=(GA.of (o:=⟨d,op,ty,pos,af,none⟩) rfl hd (fun c6 aU hq=>dm.kt hq) h).mono (D3:=fun g aU=>(∀ p∈stay ol.toArray i bf,YQ P ol.toArray p.1 p.2.1 p.2.2 aU)/\GO P ol.toArray Q r (stay ol.toArray i bf) (bK fr (ll ol.toArray i) g) aU) fun g aU ⟨D,I⟩=>⟨D,by rw [ye hi];exact I⟩
 exact this
theorem Ya {c:Bool} {ek:lK} (hi:kF ol i=some ⟨d,op,ty,pos,af,some gd⟩) (hv:pz ol fr gd.1=some (some c)) (hc:c=!gd.2) (hs:cS P ol.toArray i Γ bf ek) (h:GO P ol.toArray Q r ek (bK fr d (.v undef)) Γ):GO P ol.toArray Q (.a i r) bf fr Γ :=
 ⟨_,false,sA hi,pX hv hc,hs.spec.1,by rw [ye hi];exact GO.more r _ _ _ _ (fun p hp=>.inl (hs.spec.2 p hp)) h⟩
theorem GO.nil (h:Q fr Γ):GO P ol.toArray Q .nil bf fr Γ:=h
theorem dm.mk {ek:lK} (hs:cS P ol.toArray i Γ bf ek) {oK:List GV} (h:GO P ol.toArray Q r ek (bK oK d g) Γ):dm P Q ol i r bf oK d (bK oK d g) Γ:=⟨g,ek,rfl,hs,h⟩
theorem jx {ops:Array Oper} {c6:List GV} {aU:List Ob} (D:fr=c6) (I:Γ=aU) (h:GO P ops Q r bf c6 aU):GO P ops Q r bf fr Γ:=by subst D;subst I;exact h
theorem VK {ops:Array Oper} {c6:List GV} (D:fr=c6) (h:GO P ops Q r bf c6 Γ):GO P ops Q r bf fr Γ:=by subst D;exact h
end
theorem GW.range {P:Program} {m:Nat} {Q:dL} {fr:List GV} {Γ:List Ob} {B C r1 r2:Nat} {body:Code} {tb ti tn ta:Tmp} {T1 T2 T3 T4 T5 T6 T7:TypeId} {p1 p2 p3:String} {a1 a2 a3:Array Edge} (n:Nat) (aaI:Nat->List GV->List Ob->Prop)
  (h0:Ah m (aaI 0) fr Γ) (hn:n<=1099511627776)
  (hI:∀ k fr Γ,aaI k fr Γ->cB fr ti=.v (ii k)/\cB fr tn=.v (ii n)/\jg fr tb=true)
  (U1:∀ k fr Γ,k < n->aaI k fr Γ->GW P m body (bs C (bu (fun c6 aU=>cB c6 ti=.v (ii k)/\jg c6 ta=true/\Ah m (aaI (k+1)) (bN (bN c6 ta (.v (ii ((k+1:Nat):Int)))) ti (.v (ii ((k+1:Nat):Int)))) aU) (bs B Q))) (bN fr tb (.v (.bool true))) Γ)
  (zI:∀ fr Γ,aaI n fr Γ->Q .normal (bN fr tb (.v (.bool false))) Γ) :
  GW P m (.loop (.seq (.region r1 [(⟨some tb,.binOp .lss T1 (.tmp ti) (.tmp tn) T2,T3,p1,a1,none⟩:Oper)].toArray false) (.seq (.cond (.tmp tb) .skip (.exit B))
   (.seq (.block C body) (.region r2 [(⟨some ta,.binOp .add T4 (.tmp ti) (.const (.int .i64 1)) T5,T6,p2,a2,none⟩:Oper),⟨some ti,.move (.tmp ta),T7,p3,a3,none⟩].toArray false))))) (bs B Q) fr Γ:=by
 have tY:∀ (fr:List GV) (t:Nat) (g:GV),jg fr t=true->cB (bN fr t g) t=g:=by
  intro fr
  induction fr with
  | nil=>intro t g h;cases h
  | cons x fr ih=>intro t g h;cases t with | zero=>rfl | succ t=>exact ih t g h
 refine GW.loop (fun k:Nat=>n - k) (fun k fr Γ=>k<=n/\aaI k fr Γ) 0 ?_ ?_
 ·obtain ⟨c6,aU,hw,h⟩:=h0;exact ⟨c6,aU,hw,aY _,h⟩
 rintro k fr Γ ⟨hk,hi⟩;obtain ⟨D,I,h3⟩:=hI k fr Γ hi;refine GW.seq (GW.region (GL.q (YG.go (v:=.bool (decide ((k:Int) < (n:Int)))) ?_) (GL.nil (bo ?_))))
 ·simp only [SO,Xw.go,bg,D,I,BX,Jh,ii,JW,Ji]
 by_cases ar:k < n
 ·have hd:decide ((k:Int) < (n:Int))=true:=by simpa using ar
  simp only [bK,hd];refine GW.seq (Ki (tY fr tb _ h3) rfl (GW.skip (bo (GW.seq (GW.block ?_)))));refine GW.mono (U1 k fr Γ ar hi) ?_;intro e c6 aU hq;have key:∀ c6 aU,(cB c6 ti=.v (ii k)/\jg c6 ta=true/\Ah m (aaI (k+1)) (bN (bN c6 ta (.v (ii ((k+1:Nat):Int)))) ti (.v (ii ((k+1:Nat):Int)))) aU) ->
    GW P m (.region r2 [(⟨some ta,.binOp .add T4 (.tmp ti) (.const (.int .i64 1)) T5,T6,p2,a2,none⟩:Oper),⟨some ti,.move (.tmp ta),T7,p3,a3,none⟩].toArray false) (bu (fun c6 aU=>∃ y:Nat,Ah m (fun fr Γ=>y<=n/\aaI y fr Γ) c6 aU/\n - y < n - k) (bs B Q)) c6 aU:=by
   rintro c6 aU ⟨h5,h6,K6,IP,hw,h7⟩;refine GW.region (GL.q (YG.ja (a:=k) h5 rfl zeM) (GL.q YG.mv (GL.nil (bo ⟨k+1,⟨K6,IP,?_,ar,h7⟩,by omega⟩))));have h8:bg (bN c6 ta (.v (ii ((k+1:Nat):Int)))) (.tmp ta)=.v (ii ((k+1:Nat):Int)):=tY c6 ta _ h6;simp only [bK,h8];exact hw
  cases e with
  | normal=>exact key c6 aU hq
  | exit id =>
   simp only [bs] at hq |-;split <;> rename_i hh
   ·rw [ah hh] at hq;exact key c6 aU hq
   ·rw [ad hh] at hq;exact hq
  | goto _=>exact hq
  | ret=>exact hq
  | panic _=>exact hq
  | outgrown=>exact hq
 ·have r9:k=n:=by omega
  have hd:decide ((k:Int) < (n:Int))=false:=by simpa using ar
  simp only [bK,hd];refine GW.seq (Kh (tY fr tb _ h3) rfl (GW.exit (EC (EC (HB ?_)))));subst r9;exact zI fr Γ hi
def mJ (g g':GV):Prop:=∀ K β x,Rel K β x g->Rel K β x g'
def lf (gs hs:List GV):Prop:=∀ K β vs,bm K β vs gs->bm K β vs hs
theorem mJ.refl {g:GV}:mJ g g:=fun _ _ _ h=>h
theorem mJ.U {g:GV}:mJ g .U:=fun _ _ _ _=>.U _
theorem mJ.nil {k:Nat}:mJ (.v (.slice none 0 0)) (.sl k []):=fun K β x h=>by
 rw [Rel.gS h];exact .sl0 _ _ _
theorem lf.nil:lf [] []:=fun _ _ _ h=>h
theorem lf.refl {gs:List GV}:lf gs gs:=fun _ _ _ h=>h
theorem lf.cons {g h:GV} {gs hs:List GV} (D:mJ g h) (I:lf gs hs):lf (g::gs) (h::hs):=fun K β vs hv=>by
 cases vs with
 | nil=>have:=hv.1;simp at this
 | cons v vs=>obtain ⟨a,b⟩:=hv.oT;exact .cons (D K β v a) (I K β vs b)
theorem mJ.agg {gs hs:List GV} (h:lf gs hs):mJ (.agg gs) (.agg hs):=fun K β x hx=>by
 cases hx with
 | agg vs _ hl h'=>obtain ⟨a,b⟩:=h K β vs ⟨hl,h'⟩;exact .agg vs hs a b
theorem mJ.tup {gs hs:List GV} (h:lf gs hs):mJ (.tup gs) (.tup hs):=fun K β x hx=>by
 cases hx with
 | tup vs _ hl h'=>obtain ⟨a,b⟩:=h K β vs ⟨hl,h'⟩;exact .tup vs hs a b
inductive RY:List GV->List GV->Prop
 | nil:RY [] []
 | cons {f g:GV} {fs gs:List GV} (h:mJ f g) (t:RY fs gs):RY (f::fs) (g::gs)
section
variable {P:Program} {m:Nat} {Q:dL} {fr:List GV} {Γ:List Ob} {ops:Array Oper} {rest:List Oper} {d:Option Tmp} {op:Op} {ty:TypeId} {pos:String} {af:Array Edge}
theorem Wk.cells (i:Nat) {E:TypeId} {cs ds:List GV} (hi:Γ[i]?=some (.box E cs)) (h:lf cs ds):Wk m fr Γ fr (oset Γ i (.box E ds)):=fun B K β w l _ hI hF=>by
 rw [bG];refine ⟨K,β,⟨hI.ext,hI.kle,hI.ble,hI.loc,hI.fz,fun j x hj=>?_,fun j hj=>hI.out j ze1,hI.dis,hI.own,hI.kn,hI.tab⟩,hF⟩;rw [fq] at hj;split at hj
 ·rename_i fA;split at hj
  ·cases hj;subst fA
   obtain ⟨b,vs,D,I,h3,h4⟩:=hI.ob i _ hi;exact ⟨b,vs,D,I,h K β vs h3,h4⟩
  ·cases hj
 ·exact hI.ob j x hj
theorem GL.I9 {f:FuncId} [hf:ba P f] (aR:List Nat) {args:List Operand} {qm:Array TypeId} {gs:List GV} {im:List Ob} {R:GV->List Ob->Prop} (hc:GC P f gs im R) (ha:lf (args.map (bg fr)) (l9 (ct aR Γ.length) gs)) (ei:jq aR Γ.length=true)
  (bO:seen (ct aR Γ.length) Γ aR im) (h:∀ g aU,R g aU->aR.length<=aU.length/\GL P m ops Q rest (bK fr d (dU (ct aR Γ.length) g)) (eD Γ aR (aU.map (Ob.dU (ct aR Γ.length))))) :
  GL P m ops Q (⟨d,.call ⟨.value (.func f),args.toArray,qm⟩,ty,pos,af,none⟩::rest) fr Γ :=
 GL.calls (vs:=fun l=>args.map (ev l)) (fun K β w l hF=>⟨ha K β _ (hF.args args),by simp [execOp,resolve,ev,Deferred.ofValue,invoke,qg]⟩) ei bO hc h
theorem GL.UL {f:FuncId} [hf:ba P f] (aR:List Nat) {args:List Operand} {qm:Array TypeId} {gs:List GV} {im q6:List Ob} {g:GV} (hc:GF P f gs im g q6) (ha:lf (args.map (bg fr)) (l9 (ct aR Γ.length) gs)) (ei:jq aR Γ.length=true)
  (bO:seen (ct aR Γ.length) Γ aR im) (hl:Nat.ble aR.length q6.length=true) (h:GL P m ops Q rest (bK fr d (dU (ct aR Γ.length) g)) (eD Γ aR (q6.map (Ob.dU (ct aR Γ.length))))) :
  GL P m ops Q (⟨d,.call ⟨.value (.func f),args.toArray,qm⟩,ty,pos,af,none⟩::rest) fr Γ :=
 GL.I9 aR hc ha ei bO fun g' aU ⟨D,I⟩=>by subst D;subst I;exact ⟨by simpa using hl,h⟩
end
section
variable {P:Program} {fr:List GV} {Γ:List Ob} {g:GV}
theorem K.bin {o:BinOp} {t t':TypeId} {x y:Operand} (h:YG P (.binOp o t x y t') fr Γ g):YG P (.binOp o t x y t') fr Γ g:=h
theorem K.ld {t:TypeId} {x:Operand} (h:YG P (.load t x) fr Γ g):YG P (.load t x) fr Γ g:=h
theorem K.SD {t:TypeId} {x:Operand} {i:Nat} (h:YG P (.fieldAddr t x i) fr Γ g):YG P (.fieldAddr t x i) fr Γ g:=h
theorem K.len {t:TypeId} {x:Operand} (h:YG P (.call ⟨.builtin .len,#[x],#[t]⟩) fr Γ g):YG P (.call ⟨.builtin .len,#[x],#[t]⟩) fr Γ g:=h
theorem K.ZQ {x:Operand} (h:YG P (.nilCheck x) fr Γ g):YG P (.nilCheck x) fr Γ g:=h
theorem K.idx {t:TypeId} {x y:Operand} (h:YG P (.indexAddr t x y) fr Γ g):YG P (.indexAddr t x y) fr Γ g:=h
theorem K.pick {a b c:Operand} (h:YG P (.pick a b c) fr Γ g):YG P (.pick a b c) fr Γ g:=h
theorem K.nR {t:TypeId} {x:Operand} {a b c:Option Operand} (h:YG P (.slice t x a b c) fr Γ g):YG P (.slice t x a b c) fr Γ g:=h
theorem K.Cd {f:Fn} {a b:Array Operand} (h:YG P (.makeFunc f a b) fr Γ g):YG P (.makeFunc f a b) fr Γ g:=h
end
section
variable {P:Program} {fn:Func} {m:Nat} {fr:List GV} {Γ aU:List Ob} {e:Exit} {g:GV}
theorem Ax {R:GV->List Ob->Prop} (h:uY P fn m (fun x Δ=>∃ y,mJ x y/\R y Δ) e fr Γ):uY P fn m R e fr Γ :=
 ⟨h.1,fun B K β w l hm hI hF=>by
  obtain ⟨v,K',bT,x,Δ,D,I,h3,y,h4,h5⟩:=h.2 B K β w l hm hI hF
  exact ⟨v,K',bT,y,Δ,D,I,h4 _ _ _ h3,h5⟩⟩
end
section
variable {P:Program} {m:Nat} {Q:dL} {fr:List GV} {Γ:List Ob} {ops:Array Oper} {rest:List Oper} {d:Option Tmp} {op:Op} {ty:TypeId} {pos:String} {af:Array Edge}
theorem GW.join {c y:Code} (K:List GV->List Ob->Prop) (D:GW P m c (bu (Ah m K) Q) fr Γ) (I:∀ fr Γ,K fr Γ->GW P m y Q fr Γ):GW P m c (bu (GW P m y Q) Q) fr Γ:=by
 refine D.mono fun e fr Γ hq=>?_
 cases e with
 | normal=>obtain ⟨c6,aU,hw,hk⟩:=hq;exact GW.wk hw (I _ _ hk)
 | _=>exact hq
theorem YG.b6 {x y:Operand} {t e:TypeId} {k:Nat} [hT:nt P t e k] {rows:List (List GV)} {kk:IntKind} {n:Int} {i:Nat} {r:List GV} (hx:bg fr x=.sl k rows) (hy:bg fr y=.v (.int kk n)) (hr:rows[i]?=some r) (hi:n=(i:Int)):YG P (.indexAddr t x y) fr Γ (.box r 0):=by
 subst hi;exact YG.fR hx hy hr
def A8:List (List GV)->Bool
 | []=>true
 | r::rs=>mC r&&A8 rs
theorem A9 {rows:List (List GV)} (h:A8 rows=true):mC rows.flatten=true:=by
 induction rows with
 | nil=>rfl
 | cons r rs ih =>
  simp only [A8,au] at h
  have Xd:∀ (a b:List GV),mC a=true->mC b=true->mC (a++b)=true:=by
   intro a
   induction a with
   | nil=>intro b _ hb;exact hb
   | cons x a xE =>
    intro b ha hb;simp only [mC,au] at ha;simp only [List.cons_append,mC,au];exact ⟨ha.1,xE b ha.2 hb⟩
  rw [List.flatten_cons];exact Xd _ _ h.1 (ih h.2)
theorem GL.app {s x:Operand} {t e k mK:Nat} [hT:rZ P t e k mK] {i n fz:Nat} {rows news:List (List GV)} (hx:bg fr x=.sl k news) (hs:bg fr s=.vec i n) (bO:Γ[i]?=some (.vec e k fz rows)) (hn:rows.length=n) (D:A8 news=true) (bZ:news.isEmpty=false)
  (hb:n+news.length<=9223372036854775807/\(n+news.length) * mK<=140737488355328)
  (h:GL P m ops Q rest (bK fr d (.vec i (n+news.length))) (oset Γ i (.vec e k fz (rows++news)))) :
  GL P m ops Q (⟨d,.call ⟨.builtin .append,#[s,x],#[t,t]⟩,ty,pos,af,none⟩::rest) fr Γ:=fun B K β w l hm hI hF=>by
 subst hn
 have bZ:news≠[]:=by intro h0;rw [h0] at bZ;cases bZ
 obtain ⟨h0,xs,o1,o2,o3,o4,o5,o6⟩:=hI.ob i _ bO;have xB:=hF.ev s;rw [hs] at xB
 have vd:ev l s=h0:=by
  generalize hv:ev l s=v at xB
  cases xB with
  | vec _ _ a c hh =>
   obtain ⟨h',m',e1,e2,e3⟩:=hh;rw [o1] at e1;cases e1;exact e3 rfl
 have E2:=hF.ev x;rw [hx] at E2;generalize xD:ev l x=v at E2
 cases E2 with
 | sl0 a c k=>exact absurd rfl bZ
 | sl b o c _ _ hr _ =>
  have lE:jk k news:=fun r LC=>by
   exact zbc
  have DP:∀ (rows:List (List GV)) (o:Nat),(∀ (j:Nat) r,rows[j]?=some r->r.length=k/\∀ (q:Nat) g,r[q]?=some g->K b (o+j * k+q)=some g)->∀ (q:Nat) g,rows.flatten[q]?=some g->K b (o+q)=some g:=by
   intro rows
   induction rows with
   | nil=>intro o _ q g hg;simp at hg
   | cons r rows ih =>
    intro o h q g hg;rw [List.flatten_cons] at hg;have hl:=(h 0 r rfl).1
    by_cases hq:q < r.length
    ·rw [il hq] at hg;have:=(h 0 r rfl).2 q g hg;exact zcb
    ·rw [jO zeM,hl] at hg
     have:=ih (o+k) (fun j r' hj=>by
      have:=h (j+1) r' ze1;refine ⟨this.1,fun q g hg=>?_⟩;have:=this.2 q g hg
      rw [show o+(j+1) * k+q=o+k+j * k+q by rw [Nat.succ_mul];omega] at this;exact this) (q - k) g hg
     rw [show o+k+(q - k)=o+q by omega] at this;exact this
  obtain ⟨us,mr,mQ⟩:=vU (K:=K) (β:=β) (H:=w.heap) (b:=b) news.flatten o (fun j g hj=>by
   obtain ⟨hp,u,hu,iL⟩:=hI.fz _ _ _ (DP news o (fun j r hj=>hr j r hj) j g hj)
   exact ⟨u,hu,iL.pc hp⟩)
  have De:us.length=news.length * k:=by
   rw [mr.1,List.length_flatten]
   have:∀ (rows:List (List GV)),jk k rows->(rows.map List.length).sum=rows.length * k:=by
    intro rows
    induction rows with
    | nil=>intro _;simp
    | cons r rows ih =>
     intro hk;rw [List.map_cons,List.sum_cons,ih (fun r hr=>hk r (di _ hr)),(hk r (mem_cons_self)).1,List.length_cons,Nat.succ_mul];omega
   exact this news lE
  refine WL.app (base:=0) (v:=h0) (n:=rows.length) (m:=news.length) (xs:=xs) (news:=us) vd o2 xD De (fun j u hj=>by rw [fo];exact mQ j u hj) (mr.mA (A9 D)) hb.1 hb.2 (aY _) ?_;intro v' w' how iJ pF va
  obtain ⟨K',hK,kU,bE⟩:=hI.grow bO o1 ⟨o2,o3⟩ (news:=news) (ns:=us) how iJ pF mr lE bZ (fun b bA o v ho hv=>by
   rcases va with h7 | h7
   ·exact h7.c hv (fun h=>h)
   ·have iG:o < xs.length:=by rw [o2.1];exact wT ho (la k o6)
    obtain ⟨b2,c2,kO,_,_,lV⟩:=o2.cells.2 (by intro h0;rw [h0] at iG;simp at iG)
    have dS:b2=b:=by rw [kO] at bA;cases bA;rfl
    subst dS;have Dh:=lV o xs[o] (by simp [iG]);rw [fo,hv] at Dh;cases Dh;obtain ⟨b3,c3,Lo,_,_,Lm⟩:=how.cells.2 (by intro h0;have:xs=[]:=(List.append_eq_nil_iff.1 h0).1;rw [this] at iG;simp at iG)
    have rB:b3=b2:=by rw [Lo,bA] at h7;cases h7;rfl
    subst rB
    rw [<-fo];exact Lm o _ zfz)
  rw [<-bG] at bE;refine h B K' _ w' _ hm bE ((hF.mono hK kU).put d ?_);obtain ⟨a,c,rfl⟩:=how.shape;exact .vec i _ a c ⟨_,_,bD,by simp,fun _=>by simp⟩
theorem Wk.JJ {i o:Nat} {T:TypeId} {cs:List GV} (E k:Nat) (hi:Γ[i]?=some (.box T cs)) (ho:cs[o]?=some (.v (.slice none 0 0))):Wk m fr Γ fr (oset Γ i (.box T (bN cs o (.vec Γ.length 0)))++[.vec E k 0 []]):=fun B K β w l hm hI hF=>by
 have cE:β Γ.length=.no:=hI.out _ (aD _);have ar:i < Γ.length:=(bh hi).1;have bE:=hI.I4 (w':=w) (E:=E) (k:=k) (x:=.slice none 0 0) (xs:=[]) (rows:=[]) (Ext.refl w) (gV.nil w 0 E k) (fun b hb=>by cases hb) bm.nil (fun r hr=>by cases hr);have hle:dx β (ff β Γ.length (.gr (.slice none 0 0) ([]:List (List GV)).length)):=iO ze9;refine ⟨K,_,⟨bE.ext,bE.kle,bE.ble,bE.loc,bE.fz,fun j x hj=>?_,fun j hj=>bE.out j (by simp [bG] at hj |-;exact hj),bE.dis,bE.own,bE.kn,bE.tab⟩,hF.mono (cZ.refl K) hle⟩
 by_cases hji:j=i
 ·subst hji;rw [il (by simp [bG];exact ar),bG,fq] at hj;simp [ar] at hj;subst hj;obtain ⟨b,vs,D,I,h3,h4⟩:=bE.ob j (.box T cs) (by rw [il ar];exact hi);refine ⟨b,vs,D,I,?_,h4⟩
  have gen:∀ (vs:List Value) (cs:List GV) (o:Nat),bm K (ff β Γ.length (.gr (.slice none 0 0) ([]:List (List GV)).length)) vs cs->cs[o]?=some (.v (.slice none 0 0))->bm K (ff β Γ.length (.gr (.slice none 0 0) ([]:List (List GV)).length)) vs (bN cs o (.vec Γ.length 0)):=by
   intro vs
   induction vs with
   | nil=>intro cs o h ho;exact zc1
   | cons v vs ih =>
    intro cs o h ho
    cases cs with
    | nil=>simp at ho
    | cons c cs =>
     obtain ⟨a1,a2⟩:=h.oT
     cases o with
     | zero =>
      cases ho;have hv:=Rel.gS a1;subst hv;exact .cons (.vec _ 0 none 0 ⟨_,_,bD,aD _,fun _=>rfl⟩) a2
     | succ o=>exact .cons a1 (ih cs o a2 (by simpa using ho))
  exact gen vs cs o h3 ho
 ·refine bE.ob j x ?_
  by_cases rE:j < Γ.length
  ·rw [il (by simp [bG];exact rE),bG,fq,ad (fun e=>hji e.symm)] at hj;rw [il rE];exact hj
  ·rw [jO (by simp [bG];omega)] at hj;rw [jO zeM];simpa [bG] using hj
theorem Wk.yA {i o j n E k fz:Nat} {T:TypeId} {cs:List GV} {rows:List (List GV)} (hi:Γ[i]?=some (.box T cs)) (ho:cs[o]?=some (.vec j n)) (fA:Nat.beq i j=false) (hj:Γ[j]?=some (.vec E k fz rows)) (hn:rows.length=n):Wk m fr Γ fr (oset (oset Γ j (.vec E k n rows)) i (.box T (bN cs o (.sl k rows)))):=fun B K β w l hm hI hF=>by
 subst hn
 have bZ:i≠j:=by intro e;subst e;simp at fA
 obtain ⟨h0,xs,o1,o2,o3,o4,o5,o6⟩:=hI.ob j _ hj;obtain ⟨K',hK,AH,bE⟩:=hI.kG hj;rw [<-bG] at bE;refine ⟨K',β,⟨bE.ext,bE.kle,bE.ble,bE.loc,bE.fz,fun q x hq=>?_,fun q hq=>bE.out q (by simpa [bG] using hq),bE.dis,bE.own,bE.kn,bE.tab⟩,hF.mono hK (dx.refl β)⟩
 by_cases P7:q=i
 ·subst P7;have ar:q < Γ.length:=(bh hi).1;rw [bG,fq] at hq;simp [bG,ar] at hq;subst hq;obtain ⟨b,vs,D,I,h3,h4⟩:=bE.ob q (.box T cs) zeY;refine ⟨b,vs,D,I,?_,h4⟩
  have gen:∀ (vs:List Value) (cs:List GV) (o:Nat),bm K' β vs cs->cs[o]?=some (.vec j rows.length)->bm K' β vs (bN cs o (.sl k rows)):=by
   intro vs
   induction vs with
   | nil=>intro cs o h ho;exact zc1
   | cons v vs ih =>
    intro cs o h ho
    cases cs with
    | nil=>simp at ho
    | cons c cs =>
     obtain ⟨a1,a2⟩:=h.oT
     cases o with
     | zero =>
      cases ho;refine .cons ?_ a2
      cases a1 with
      | vec _ _ a c hh =>
       obtain ⟨h',m',e1,e2,e3⟩:=hh;rw [o1] at e1;cases e1;have e4:=e3 rfl
       rcases o2.2 with ⟨e5,e6⟩ | ⟨g,cap,cu,e5,_,_,s9,_⟩
       ·have:rows=[]:=gk e6;subst this;exact .sl0 _ _ _
       ·rw [e5] at e4;cases e4;exact zbA
     | succ o=>exact .cons a1 (ih cs o a2 (by simpa using ho))
  exact gen vs cs o h3 ho
 ·rw [bG,fq,ad (fun e=>P7 e.symm)] at hq;exact bE.ob q x hq
end
class I0 (P:Program) (t:TypeId) (k:outParam IntKind):Prop where
 und:P.underlying t=some (.int k)
class Kb (P:Program) (t:TypeId):Prop where
 und:∃ e,P.underlying t=some (.slice e)/\P.underlying e=some (.int .u8)
theorem Kb.mk' {P:Program} {t e:TypeId} (h:P.underlying t=some (.slice e)) (k:P.underlying e=some (.int .u8)):Kb P t:=⟨e,h,k⟩
section
variable {P:Program} {m:Nat} {Q:dL} {fr:List GV} {Γ:List Ob} {ops:Array Oper} {rest:List Oper} {d:Option Tmp} {op:Op} {ty:TypeId} {pos:String} {af:Array Edge}
theorem YG.km {x y:Operand} {t t':TypeId} {a b:Int} (hx:bg fr x=.v (.int .u8 a)) (hy:bg fr y=.v (.int .u8 b)) (hb:0<=a - b/\a - b<=255):YG P (.binOp .sub t x y t') fr Γ (.v (.int .u8 (a - b))) :=
 YG.v2 hx hy fun l w h k d ty pos af=>by simp [execOp,eqGuard,h,k,binOp,Op.intArith,IntWalk.u8_in _ hb]
theorem YG.quo {x y:Operand} {t t':TypeId} {a b:Int} (hx:bg fr x=.v (ii a)) (hy:bg fr y=.v (ii b)) (hb:0<=a/\a<=9223372036854775807/\1<=b):YG P (.binOp .quo t x y t') fr Γ (.v (ii (a / b))) :=
 YG.v2 hx hy fun l w h k d ty pos af=>by
  have bZ:b≠0:=by omega
  simp [execOp,eqGuard,h,k,binOp,Op.intDiv,bZ,IntWalk.i64_quo a b hb]
theorem YG.rem {x y:Operand} {t t':TypeId} {a b:Int} (hx:bg fr x=.v (ii a)) (hy:bg fr y=.v (ii b)) (hb:0<=a/\1<=b):YG P (.binOp .rem t x y t') fr Γ (.v (ii (a % b))) :=
 YG.v2 hx hy fun l w h k d ty pos af=>by
  have bZ:b≠0:=by omega
  simp [execOp,eqGuard,h,k,binOp,Op.intDiv,bZ,IntWalk.rem_in a b hb.1]
theorem YG.lM {x:Operand} {s t:TypeId} {k k':IntKind} {a:Int} [hS:I0 P s k'] [hT:I0 P t k] (hx:bg fr x=.v (.int k' a)) (hw:k.wrap a=a):YG P (.convert s t x) fr Γ (.v (.int k a)) :=
 YG.v1 hx fun l w h d ty pos af=>by simp [execOp,h,convert,run_underlying hS.und,run_underlying hT.und,Conv.intToInt,hw]
theorem YG.str {x:Operand} {s t:TypeId} {l:ae} {rows:List (List GV)} [hS:Kb P s] [hT:pQ P t] (hx:bg fr x=.sl 1 rows) (hr:rows=l.map fun c=>[.v (.int .u8 (c.toNat:Int))]):YG P (.convert s t x) fr Γ (.v (sv l)):=fun B K β w fl hI hF=>by
 subst hr;obtain ⟨e,D,I⟩:=hS.und;have h:=hF.ev x;rw [hx] at h;generalize hv:ev fl x=v at h;refine ⟨_,fun d ty pos af=>?_,.v _⟩
 have key:(convert s t v).run P w=.ok (sv l) w:=by
  generalize lE:(l.map fun c=>[GV.v (.int .u8 (c.toNat:Int))])=rows at h
  cases h with
  | sl0 a c =>
   have:l=[]:=by cases l with | nil=>rfl | cons x l=>simp at lE
   subst this
   cases a with
   | none=>rw [run_convert_bytes_string w s t e none 0 c D I hT.und];simp [Conv.bytesToString];rfl
   | some a=>exact run_convert_bytes_back w s t e a c [] D I hT.und (fun j hj=>by simp at hj)
  | sl b o c _ _ hc _ =>
   have hl:rows.length=l.length:=by rw [<-lE];simp
   rw [hl];refine run_convert_bytes_back w s t e ⟨b,o,none⟩ c l D I hT.und (fun j hj=>?_)
   have bn:rows[j]?=some [GV.v (.int .u8 (l[j].toNat:Int))]:=by rw [<-lE];simp [hj]
   obtain ⟨_,u,hu,iL⟩:=hI.fz _ _ _ ((hc j _ bn).2 0 _ rfl);rw [rp,fo];have:=Rel.gS iL;subst this;simpa using hu
 simp [execOp,hv,key]
end
end Go.Xg
