/- Part 5 of proofs that are told in their last texts. -/
import Derived.Test.YtcoplmnahnipiaaGreatDoorZ4
import Derived.IntWalk
import Derived.Laws.IdiomStrings
import Derived.Test.YtcoplmnahnipiaaGreatDoorProg
import Derived.KernelRfl
import Derived.Test.YtcoplmnahnipiaaGreatDoorZ1
import Derived.Test.YtcoplmnahnipiaaGreatDoorZ2
import Derived.Deep.Slices
import Derived.Deep.Fields
import Derived.ChangeSame
import Derived.Lib.SmallJoins
import Derived.SliceStrings
import Derived.ChangeSlices
import Derived.Lib.LaidU8
import Derived.Shelf.Vars
import Derived.Test.YtcoplmnahnipiaaGreatDoorZ3
import Derived.Laws.Bits128
import Derived.Lib.AppendStr
import Derived.Laws.OwnMore
open List (cons_append eq_nil_of_length_eq_zero ext_getElem flatten_cons getElem?_append_left getElem?_append_right getElem?_eq_getElem getElem?_map getElem?_set getElem_mem length_append length_cons length_map length_nil map_map mem_cons_of_mem mem_cons_self mem_map mem_of_getElem? sum_cons take_add_one take_length take_of_length_le toList_toArray)
set_option linter.unusedVariables false
set_option linter.unusedSimpArgs false
set_option maxRecDepth 100000
namespace Go.Xg
open Go.RowKit Go.Xw
section
variable {P:Program} {m:Nat} {Q:dH} {fr:List GV} {Γ:List Ob} {ops:Array Oper} {rest:List Oper} {d:Option Tmp} {op:Op} {ty:TypeId} {pos:String} {af:Array Edge}
theorem GW.join {c y:Code} (K:List GV->List Ob->Prop) (h1:GW P m c (aW (ym m K) Q) fr Γ) (h2:∀ fr Γ,K fr Γ->GW P m y Q fr Γ):GW P m c (aW (GW P m y Q) Q) fr Γ:=by
 refine h1.mono fun e fr Γ hq=>?_
 cases e with
 | normal=>obtain ⟨bV,aJ,hw,hk⟩:=hq;exact GW.wk hw (h2 _ _ hk)
 | _=>exact hq
theorem YG.lQ {x y:Operand} {t e:TypeId} {k:Nat} [hT:mg P t e k] {rows:List (List GV)} {kk:IntKind} {n:Int} {i:Nat} {r:List GV} (hx:aS fr x=.sl k rows) (hy:aS fr y=.v (.int kk n)) (hr:rows[i]?=some r) (hi:n=(i:Int)):YG P (.indexAddr t x y) fr Γ (.box r 0):=by
 subst hi;exact YG.vq hx hy hr
def lG:List (List GV)->Bool
 | []=>true
 | r::rs=>lF r&&lG rs
theorem AM {rows:List (List GV)} (h:lG rows=true):lF rows.flatten=true:=by
 induction rows with
 | nil=>rfl
 | cons r rs ih =>
  simp only [lG,Bool.and_eq_true] at h
  have XA:∀ (a b:List GV),lF a=true->lF b=true->lF (a++b)=true:=by
   intro a
   induction a with
   | nil=>intro b _ hb;exact hb
   | cons x a xg =>
    intro b ha hb;simp only [lF,Bool.and_eq_true] at ha;simp only [cons_append,lF,Bool.and_eq_true];exact ⟨ha.1,xg b ha.2 hb⟩
  rw [flatten_cons];exact XA _ _ h.1 (ih h.2)
theorem GL.app {s x:Operand} {t e k gC:Nat} [hT:nO P t e k gC] {i n fz:Nat} {rows news:List (List GV)} (hx:aS fr x=.sl k news) (hs:aS fr s=.vec i n) (bu:Γ[i]?=some (.vec e k fz rows)) (hn:rows.length=n) (h1:lG news=true) (bL:news.isEmpty=false)
  (hb:n+news.length<=9223372036854775807/\(n+news.length) * gC<=140737488355328)
  (h:GL P m ops Q rest (bm fr d (.vec i (n+news.length))) (oset Γ i (.vec e k fz (rows++news)))) :
  GL P m ops Q (⟨d,.call ⟨.builtin .append,#[s,x],#[t,t]⟩,ty,pos,af,none⟩::rest) fr Γ:=fun B K β w l hm hI hF=>by
 subst hn
 have bL:news≠[]:=by intro h0;rw [h0] at bL;cases bL
 obtain ⟨h0,xs,o1,o2,o3,o4,o5,o6⟩:=hI.ob i _ bu;have so:=hF.ev s;rw [hs] at so
 have pQ:ev l s=h0:=by
  generalize hv:ev l s=v at so
  cases so with
  | vec _ _ a c hh =>
   obtain ⟨h',m',e1,e2,e3⟩:=hh;rw [o1] at e1;cases e1;exact e3 rfl
 have qP:=hF.ev x;rw [hx] at qP;generalize qQ:ev l x=v at qP
 cases qP with
 | sl0 a c k=>exact absurd rfl bL
 | sl b o c _ _ hr _ =>
  have jz:fm k news:=fun r Mc=>by
   obtain ⟨j,hj⟩:=List.mem_iff_getElem?.1 Mc;refine ⟨(hr j r hj).1,fun g hg=>?_⟩;obtain ⟨q,hq⟩:=List.mem_iff_getElem?.1 hg;exact (hI.fz _ _ _ ((hr j r hj).2 q g hq)).1
  have xW:∀ (rows:List (List GV)) (o:Nat),(∀ (j:Nat) r,rows[j]?=some r->r.length=k/\∀ (q:Nat) g,r[q]?=some g->K b (o+j * k+q)=some g)->∀ (q:Nat) g,rows.flatten[q]?=some g->K b (o+q)=some g:=by
   intro rows
   induction rows with
   | nil=>intro o _ q g hg;simp at hg
   | cons r rows ih =>
    intro o h q g hg;rw [flatten_cons] at hg;have hl:=(h 0 r rfl).1
    by_cases hq:q < r.length
    ·rw [getElem?_append_left hq] at hg;have:=(h 0 r rfl).2 q g hg;simpa using this
    ·rw [getElem?_append_right (by omega),hl] at hg
     have:=ih (o+k) (fun j r' hj=>by
      have:=h (j+1) r' (by simpa using hj);refine ⟨this.1,fun q g hg=>?_⟩;have:=this.2 q g hg
      rw [show o+(j+1) * k+q=o+k+j * k+q by rw [Nat.succ_mul];omega] at this;exact this) (q - k) g hg
     rw [show o+k+(q - k)=o+q by omega] at this;exact this
  obtain ⟨us,jE,ke⟩:=vf (K:=K) (β:=β) (H:=w.heap) (b:=b) news.flatten o (fun j g hj=>by
   obtain ⟨hp,u,hu,eL⟩:=hI.fz _ _ _ (xW news o (fun j r hj=>hr j r hj) j g hj)
   exact ⟨u,hu,eL.pc hp⟩)
  have CM:us.length=news.length * k:=by
   rw [jE.1,List.length_flatten]
   have:∀ (rows:List (List GV)),fm k rows->(rows.map List.length).sum=rows.length * k:=by
    intro rows
    induction rows with
    | nil=>intro _;simp
    | cons r rows ih =>
     intro hk;rw [List.map_cons,sum_cons,ih (fun r hr=>hk r (mem_cons_of_mem _ hr)),(hk r (mem_cons_self)).1,length_cons,Nat.succ_mul];omega
   exact this news jz
  refine WL.app (base:=0) (v:=h0) (n:=rows.length) (m:=news.length) (xs:=xs) (news:=us) pQ o2 qQ CM (fun j u hj=>by rw [eT];exact ke j u hj) (jE.kV (AM h1)) hb.1 hb.2 (Nat.zero_le _) ?_;intro v' w' how gn s9 uy
  obtain ⟨K',hK,pS,bf⟩:=hI.grow bu o1 ⟨o2,o3⟩ (news:=news) (ns:=us) how gn s9 jE jz bL (fun b bj o v ho hv=>by
   rcases uy with h7 | h7
   ·exact h7.c hv (fun h=>h)
   ·have gT:o < xs.length:=by rw [o2.1];exact Nat.lt_of_lt_of_le ho (Nat.mul_le_mul_right k o6)
    obtain ⟨b2,c2,oH,_,_,jl⟩:=o2.cells.2 (by intro h0;rw [h0] at gT;simp at gT)
    have eC:b2=b:=by rw [oH] at bj;cases bj;rfl
    subst eC;have CO:=jl o xs[o] (by simp [gT]);rw [eT,hv] at CO;cases CO;obtain ⟨b3,c3,LZ,_,_,LV⟩:=how.cells.2 (by intro h0;have:xs=[]:=(List.append_eq_nil_iff.1 h0).1;rw [this] at gT;simp at gT)
    have wW:b3=b2:=by rw [LZ,bj] at h7;cases h7;rfl
    subst wW
    rw [<-eT];exact LV o _ (by rw [getElem?_append_left gT];simp [gT]))
  rw [<-ba] at bf;refine h B K' _ w' _ hm bf ((hF.mono hK pS).put d ?_);obtain ⟨a,c,rfl⟩:=how.shape;exact .vec i _ a c ⟨_,_,bc,by simp,fun _=>by simp⟩
theorem Wk.JR {i o:Nat} {T:TypeId} {cs:List GV} (E k:Nat) (hi:Γ[i]?=some (.box T cs)) (ho:cs[o]?=some (.v (.slice none 0 0))):Wk m fr Γ fr (oset Γ i (.box T (bo cs o (.vec Γ.length 0)))++[.vec E k 0 []]):=fun B K β w l hm hI hF=>by
 have bT:β Γ.length=.no:=hI.out _ (Nat.le_refl _);have ar:i < Γ.length:=(List.getElem?_eq_some_iff.1 hi).1;have bf:=hI.Bb (w':=w) (E:=E) (k:=k) (x:=.slice none 0 0) (xs:=[]) (rows:=[]) (Ext.refl w) (gi.nil w 0 E k) (fun b hb=>by cases hb) aY.nil (fun r hr=>by cases hr);have hle:cX β (en β Γ.length (.gr (.slice none 0 0) ([]:List (List GV)).length)):=fM (by rw [bT];trivial);refine ⟨K,_,⟨bf.ext,bf.kle,bf.ble,bf.loc,bf.fz,fun j x hj=>?_,fun j hj=>bf.out j (by simp [ba] at hj |-;exact hj),bf.dis,bf.own,bf.kn,bf.tab⟩,hF.mono (cj.refl K) hle⟩
 by_cases hji:j=i
 ·subst hji;rw [getElem?_append_left (by simp [ba];exact ar),ba,getElem?_set] at hj;simp [ar] at hj;subst hj;obtain ⟨b,vs,h1,h2,h3,h4⟩:=bf.ob j (.box T cs) (by rw [getElem?_append_left ar];exact hi);refine ⟨b,vs,h1,h2,?_,h4⟩
  have gen:∀ (vs:List Value) (cs:List GV) (o:Nat),aY K (en β Γ.length (.gr (.slice none 0 0) ([]:List (List GV)).length)) vs cs->cs[o]?=some (.v (.slice none 0 0))->aY K (en β Γ.length (.gr (.slice none 0 0) ([]:List (List GV)).length)) vs (bo cs o (.vec Γ.length 0)):=by
   intro vs
   induction vs with
   | nil=>intro cs o h ho;have:cs=[]:=eq_nil_of_length_eq_zero h.1.symm;subst this;simp at ho
   | cons v vs ih =>
    intro cs o h ho
    cases cs with
    | nil=>simp at ho
    | cons c cs =>
     obtain ⟨a1,a2⟩:=h.mZ
     cases o with
     | zero =>
      cases ho;have hv:=Rel.eo a1;subst hv;exact .cons (.vec _ 0 none 0 ⟨_,_,bc,Nat.le_refl _,fun _=>rfl⟩) a2
     | succ o=>exact .cons a1 (ih cs o a2 (by simpa using ho))
  exact gen vs cs o h3 ho
 ·refine bf.ob j x ?_
  by_cases se:j < Γ.length
  ·rw [getElem?_append_left (by simp [ba];exact se),ba,getElem?_set,if_neg (fun e=>hji e.symm)] at hj;rw [getElem?_append_left se];exact hj
  ·rw [getElem?_append_right (by simp [ba];omega)] at hj;rw [getElem?_append_right (by omega)];simpa [ba] using hj
theorem Wk.yb {i o j n E k fz:Nat} {T:TypeId} {cs:List GV} {rows:List (List GV)} (hi:Γ[i]?=some (.box T cs)) (ho:cs[o]?=some (.vec j n)) (fw:Nat.beq i j=false) (hj:Γ[j]?=some (.vec E k fz rows)) (hn:rows.length=n):Wk m fr Γ fr (oset (oset Γ j (.vec E k n rows)) i (.box T (bo cs o (.sl k rows)))):=fun B K β w l hm hI hF=>by
 subst hn
 have bL:i≠j:=by intro e;subst e;simp at fw
 obtain ⟨h0,xs,o1,o2,o3,o4,o5,o6⟩:=hI.ob j _ hj;obtain ⟨K',hK,Ag,bf⟩:=hI.iv hj;rw [<-ba] at bf;refine ⟨K',β,⟨bf.ext,bf.kle,bf.ble,bf.loc,bf.fz,fun q x hq=>?_,fun q hq=>bf.out q (by simpa [ba] using hq),bf.dis,bf.own,bf.kn,bf.tab⟩,hF.mono hK (cX.refl β)⟩
 by_cases hqi:q=i
 ·subst hqi;have ar:q < Γ.length:=(List.getElem?_eq_some_iff.1 hi).1;rw [ba,getElem?_set] at hq;simp [ba,ar] at hq;subst hq;obtain ⟨b,vs,h1,h2,h3,h4⟩:=bf.ob q (.box T cs) (by rw [ba,getElem?_set,if_neg (fun e=>bL e.symm)];exact hi);refine ⟨b,vs,h1,h2,?_,h4⟩
  have gen:∀ (vs:List Value) (cs:List GV) (o:Nat),aY K' β vs cs->cs[o]?=some (.vec j rows.length)->aY K' β vs (bo cs o (.sl k rows)):=by
   intro vs
   induction vs with
   | nil=>intro cs o h ho;have:cs=[]:=eq_nil_of_length_eq_zero h.1.symm;subst this;simp at ho
   | cons v vs ih =>
    intro cs o h ho
    cases cs with
    | nil=>simp at ho
    | cons c cs =>
     obtain ⟨a1,a2⟩:=h.mZ
     cases o with
     | zero =>
      cases ho;refine .cons ?_ a2
      cases a1 with
      | vec _ _ a c hh =>
       obtain ⟨h',m',e1,e2,e3⟩:=hh;rw [o1] at e1;cases e1;have e4:=e3 rfl
       rcases o2.2 with ⟨e5,e6⟩ | ⟨g,cap,cu,e5,_,_,nZ,_⟩
       ·have:rows=[]:=eq_nil_of_length_eq_zero e6;subst this;exact .sl0 _ _ _
       ·rw [e5] at e4;cases e4;refine .sl g 0 _ k rows (fun j r hr=>⟨(o4 r (mem_of_getElem? hr)).1,fun q g' kP=>?_⟩) nZ;rw [Nat.zero_add];exact Ag _ g o1 (by rw [e5];rfl) _ g' (sC o4 hr kP)
     | succ o=>exact .cons a1 (ih cs o a2 (by simpa using ho))
  exact gen vs cs o h3 ho
 ·rw [ba,getElem?_set,if_neg (fun e=>hqi e.symm)] at hq;exact bf.ob q x hq
end
end Go.Xg
namespace Go.Xg
open Go.RowKit Go.Xw
class IY (P:Program) (t:TypeId) (k:outParam IntKind):Prop where
 und:P.underlying t=some (.int k)
class Kl (P:Program) (t:TypeId):Prop where
 und:∃ e,P.underlying t=some (.slice e)/\P.underlying e=some (.int .u8)
theorem Kl.mk' {P:Program} {t e:TypeId} (h:P.underlying t=some (.slice e)) (k:P.underlying e=some (.int .u8)):Kl P t:=⟨e,h,k⟩
section
variable {P:Program} {m:Nat} {Q:dH} {fr:List GV} {Γ:List Ob} {ops:Array Oper} {rest:List Oper} {d:Option Tmp} {op:Op} {ty:TypeId} {pos:String} {af:Array Edge}
theorem YG.FU {x y:Operand} {t t':TypeId} {a b:Int} (hx:aS fr x=.v (.int .u8 a)) (hy:aS fr y=.v (.int .u8 b)) (hb:0<=a - b/\a - b<=255):YG P (.binOp .sub t x y t') fr Γ (.v (.int .u8 (a - b))) :=
 YG.v2 hx hy fun l w h k d ty pos af=>by simp [execOp,eqGuard,h,k,binOp,Op.intArith,IntWalk.u8_in _ hb]
theorem YG.quo {x y:Operand} {t t':TypeId} {a b:Int} (hx:aS fr x=.v (ii a)) (hy:aS fr y=.v (ii b)) (hb:0<=a/\a<=9223372036854775807/\1<=b):YG P (.binOp .quo t x y t') fr Γ (.v (ii (a / b))) :=
 YG.v2 hx hy fun l w h k d ty pos af=>by
  have bL:b≠0:=by omega
  simp [execOp,eqGuard,h,k,binOp,Op.intDiv,bL,IntWalk.i64_quo a b hb]
theorem YG.rem {x y:Operand} {t t':TypeId} {a b:Int} (hx:aS fr x=.v (ii a)) (hy:aS fr y=.v (ii b)) (hb:0<=a/\1<=b):YG P (.binOp .rem t x y t') fr Γ (.v (ii (a % b))) :=
 YG.v2 hx hy fun l w h k d ty pos af=>by
  have bL:b≠0:=by omega
  simp [execOp,eqGuard,h,k,binOp,Op.intDiv,bL,IntWalk.rem_in a b hb.1]
theorem YG.wJ {x:Operand} {s t:TypeId} {k k':IntKind} {a:Int} [hS:IY P s k'] [hT:IY P t k] (hx:aS fr x=.v (.int k' a)) (hw:k.wrap a=a):YG P (.convert s t x) fr Γ (.v (.int k a)) :=
 YG.v1 hx fun l w h d ty pos af=>by simp [execOp,h,convert,run_underlying hS.und,run_underlying hT.und,Conv.intToInt,hw]
theorem YG.str {x:Operand} {s t:TypeId} {l:ai} {rows:List (List GV)} [hS:Kl P s] [hT:oW P t] (hx:aS fr x=.sl 1 rows) (hr:rows=l.map fun c=>[.v (.int .u8 (c.toNat:Int))]):YG P (.convert s t x) fr Γ (.v (sv l)):=fun B K β w fl hI hF=>by
 subst hr;obtain ⟨e,h1,h2⟩:=hS.und;have h:=hF.ev x;rw [hx] at h;generalize hv:ev fl x=v at h;refine ⟨_,fun d ty pos af=>?_,.v _⟩
 have key:(convert s t v).run P w=.ok (sv l) w:=by
  generalize jz:(l.map fun c=>[GV.v (.int .u8 (c.toNat:Int))])=rows at h
  cases h with
  | sl0 a c =>
   have:l=[]:=by cases l with | nil=>rfl | cons x l=>simp at jz
   subst this
   cases a with
   | none=>rw [run_convert_bytes_string w s t e none 0 c h1 h2 hT.und];simp [Conv.bytesToString];rfl
   | some a=>exact run_convert_bytes_back w s t e a c [] h1 h2 hT.und (fun j hj=>by simp at hj)
  | sl b o c _ _ hc _ =>
   have hl:rows.length=l.length:=by rw [<-jz];simp
   rw [hl];refine run_convert_bytes_back w s t e ⟨b,o,none⟩ c l h1 h2 hT.und (fun j hj=>?_)
   have bs:rows[j]?=some [GV.v (.int .u8 (l[j].toNat:Int))]:=by rw [<-jz];simp [hj]
   obtain ⟨_,u,hu,eL⟩:=hI.fz _ _ _ ((hc j _ bs).2 0 _ rfl);rw [oX,eT];have:=Rel.eo eL;subst this;simpa using hu
 simp [execOp,hv,key]
end
end Go.Xg
namespace Go.Xg
open Go.RowKit Go.Xw
structure Hid (B:Prop):Prop where
 h:B
structure rP (aM:List Nat) (C:Prop):Prop where
 h:C
section
variable {P:Program} {m:Nat} {ops:Array Oper} {Q:dH} {rest:List Oper} {fr:List GV} {Γ:List Ob} {d:Option Tmp} {ty:TypeId} {pos:String} {af:Array Edge}
theorem GL.ug {f:FuncId} [hf:aD P f] {aM:List Nat} {args:List Operand} {lW:Array TypeId} {gs:List GV} {gy qp:List Ob} {g:GV} (hc:rP aM (GF P f gs gy g qp)) (ha:kp (args.map (aS fr)) (kY (bN aM Γ.length) gs)) (ew:gR aM Γ.length=true)
  (bu:seen (bN aM Γ.length) Γ aM gy) (hl:Nat.ble aM.length qp.length=true) (h:GL P m ops Q rest (bm fr d (dk (bN aM Γ.length) g)) (dJ Γ aM (qp.map (Ob.dk (bN aM Γ.length))))) :
  GL P m ops Q (⟨d,.call ⟨.value (.func f),args.toArray,lW⟩,ty,pos,af,none⟩::rest) fr Γ:=GL.Vr aM hc.h ha ew bu hl h
theorem GL.SN {f:FuncId} [hf:aD P f] {aM:List Nat} {args:List Operand} {lW:Array TypeId} {gs:List GV} {gy:List Ob} {R:GV->List Ob->Prop} (hc:rP aM (GC P f gs gy R)) (ha:kp (args.map (aS fr)) (kY (bN aM Γ.length) gs)) (ew:gR aM Γ.length=true)
  (bu:seen (bN aM Γ.length) Γ aM gy) (h:∀ g aJ,R g aJ->aM.length<=aJ.length/\GL P m ops Q rest (bm fr d (dk (bN aM Γ.length) g)) (dJ Γ aM (aJ.map (Ob.dk (bN aM Γ.length))))) :
  GL P m ops Q (⟨d,.call ⟨.value (.func f),args.toArray,lW⟩,ty,pos,af,none⟩::rest) fr Γ:=GL.zS aM hc.h ha ew bu h
theorem GL.KR {f:FuncId} [hf:aD P f] {aM:List Nat} {x:Operand} {first cap:List GV} {args:List Operand} {lW:Array TypeId} {gs:List GV} {gy:List Ob} {R:GV->List Ob->Prop} (hc:rP aM (GC P f gs gy R)) (hx:aS fr x=.fn (.func f) first cap) (ha:first++args.map (aS fr)++cap=kY (bN aM Γ.length) gs) (ew:gR aM Γ.length=true)
  (bu:seen (bN aM Γ.length) Γ aM gy) (h:∀ g aJ,R g aJ->aM.length<=aJ.length/\GL P m ops Q rest (bm fr d (dk (bN aM Γ.length) g)) (dJ Γ aM (aJ.map (Ob.dk (bN aM Γ.length))))) :
  GL P m ops Q (⟨d,.call ⟨.value x,args.toArray,lW⟩,ty,pos,af,none⟩::rest) fr Γ:=GL.vd aM hc.h hx ha ew bu h
theorem GL.KQ {f:FuncId} [hf:aD P f] {aM:List Nat} {x:Operand} {args:List Operand} {lW:Array TypeId} {gs:List GV} {gy:List Ob} {R:GV->List Ob->Prop} (hc:rP aM (GC P f gs gy R)) (hx:aS fr x=.v (.func (.func f) #[] #[])) (ha:args.map (aS fr)=kY (bN aM Γ.length) gs) (ew:gR aM Γ.length=true)
  (bu:seen (bN aM Γ.length) Γ aM gy) (h:∀ g aJ,R g aJ->aM.length<=aJ.length/\GL P m ops Q rest (bm fr d (dk (bN aM Γ.length) g)) (dJ Γ aM (aJ.map (Ob.dk (bN aM Γ.length))))) :
  GL P m ops Q (⟨d,.call ⟨.value x,args.toArray,lW⟩,ty,pos,af,none⟩::rest) fr Γ:=GL.Vs aM hc.h hx ha ew bu h
end
theorem mx {A : Prop} (s : A := by first | omega | assumption | (simp only [List.length_append,List.length_cons,List.length_nil];omega)) : A := s
theorem cD {A : Prop} (s : A := by first | rfl | assumption) : A := s
theorem vV {A : Prop} (s : A := by apply K.len;first | exact YG.AE rfl | exact YG.zA rfl | exact YG.EX rfl | exact YG.EY rfl | exact YG.lenA rfl) : A := s
theorem A3 {A : Prop} (s : A := by apply K.ld;first | exact YG.H2 rfl rfl cD | exact YG.BI rfl rfl rfl rfl | exact YG.ldV rfl rfl cD cD cD | exact YG.H0 rfl rfl cD cD cD) : A := s
theorem F6 {A : Prop} (s : A := by apply K.ld;first | exact YG.H2 rfl rfl cD | exact YG.HZ rfl cD | exact YG.BI rfl rfl rfl rfl | exact YG.BH rfl rfl rfl | exact YG.ldV rfl rfl cD cD cD | exact YG.H0 rfl rfl cD cD cD) : A := s
theorem nc {A : Prop} (s : A := by first | exact .inr rfl | exact .inl rfl) : A := s
theorem uZ {A : Prop} (s : A := by apply K.pick;first | exact YG.C8 rfl cD | exact YG.C7 rfl cD) : A := s
theorem sL {A : Prop} (s : A := by apply K.ML;first | exact YG.Fi rfl | exact YG.Fh rfl) : A := s
theorem fD {A : Prop} (s : A := by assumption) : A := s
theorem u5 {A : Prop} (s : A := by apply K.pk;first | exact YG.mkfn0 | exact YG.pk) : A := s
theorem F7 {A : Prop} (s : A := by apply K.wQ;first | exact YG.Bw rfl | exact YG.Bu rfl | exact YG.fldV rfl rfl cD | exact YG.Bv rfl rfl cD) : A := s
theorem A4 {A : Prop} (s : A := by apply K.wQ;first | exact YG.fldV rfl rfl cD | exact YG.Bv rfl rfl cD) : A := s
theorem A5 {A : Prop} (s : A := by apply K.ld;first | exact YG.HZ rfl cD | exact YG.BH rfl rfl rfl) : A := s
theorem dC {A : Prop} (s : A := by omega) : A := s
theorem vT {A : Prop} (s : A := by apply K.bin;first | exact YG.go rfl | exact YG.wC rfl rfl dC | exact YG.zV rfl rfl | exact YG.AH rfl rfl | exact YG.D0 rfl rfl | exact YG.Fg rfl rfl | exact YG.cat rfl rfl dC | exact YG.cat rfl rfl (by simp only [List.length_append,List.length_cons,List.length_nil];omega) | exact YG.ef rfl rfl dC | exact YG.add rfl rfl dC | exact YG.sub rfl rfl dC | exact YG.mul rfl rfl dC | exact YG.FU rfl rfl dC | exact YG.quo rfl rfl dC | exact YG.rem rfl rfl dC | exact YG.vA rfl rfl) : A := s
theorem Ki {A : Prop} (s : A := by apply K.idx;first | exact YG.vq rfl rfl fD | exact YG.lQ rfl rfl fD rfl | exact YG.lQ rfl rfl fD dC | exact YG.xf rfl rfl dC | exact YG.idxV rfl rfl rfl cD dC | exact YG.dL 0 rfl rfl rfl mx | exact YG.dL 1 rfl rfl rfl mx | exact YG.dL 2 rfl rfl rfl mx | exact YG.dL 3 rfl rfl rfl mx | exact YG.dL 4 rfl rfl rfl mx | exact YG.dL 5 rfl rfl rfl mx | exact YG.dL 6 rfl rfl rfl mx) : A := s
theorem vU {A : Prop} (s : A := by apply K.M7;first | exact YG.FT rfl rfl rfl dC | exact YG.FQ rfl rfl dC | exact YG.FP rfl rfl dC | exact YG.xy 1 rfl rfl rfl cD) : A := s
theorem DE {A : Prop} (s : A := by apply K.idx;first | exact YG.idxV rfl rfl rfl cD dC | exact YG.dL 0 rfl rfl rfl mx | exact YG.dL 1 rfl rfl rfl mx | exact YG.dL 2 rfl rfl rfl mx | exact YG.dL 3 rfl rfl rfl mx | exact YG.dL 4 rfl rfl rfl mx | exact YG.dL 5 rfl rfl rfl mx | exact YG.dL 6 rfl rfl rfl mx) : A := s
theorem vW {A : Prop} (s : A := by first | rfl | exact IntWalk.i64_in _ dC | exact IntWalk.u8_in _ dC | assumption) : A := s
theorem DF {A : Prop} (s : A := by apply K.idx;first | exact YG.vq rfl rfl fD | exact YG.lQ rfl rfl fD rfl | exact YG.lQ rfl rfl fD dC | exact YG.xf rfl rfl dC) : A := s
theorem A6 {A : Prop} (s : A := by apply K.wQ;first | exact YG.Bw rfl | exact YG.Bu rfl) : A := s
theorem iw {A:Prop} (s:A:=by repeat (first | exact iz.n | (apply iz.w;(· decide +kernel)) | (apply iz.y;(· first | (apply YQ.t;(· exact rfl);(· exact rfl);(· (first | exact A3 | exact DE | exact A4 | exact YG.qW 1 rfl rfl cD cD | exact YG.mv | exact YG.sT | exact vT | exact A6 | exact A5 | exact vV | exact sL | exact uZ | exact DF | exact YG.ext rfl rfl | exact YG.go rfl | exact vU | exact YG.qa rfl rfl fD | exact YG.idxSC rfl rfl fD rfl | exact u5 | exact YG.build rfl | exact YG.neg rfl dC | exact YG.p7 rfl rfl | exact YG.wJ rfl vW | exact YG.str rfl cD))) | (apply YQ.t;(· exact rfl);(· apply Bx;(· exact rfl);(· first | exact rfl | assumption));(· (first | exact A3 | exact DE | exact A4 | exact YG.qW 1 rfl rfl cD cD | exact YG.mv | exact YG.sT | exact vT | exact A6 | exact A5 | exact vV | exact sL | exact uZ | exact DF | exact YG.ext rfl rfl | exact YG.go rfl | exact vU | exact YG.qa rfl rfl fD | exact YG.idxSC rfl rfl fD rfl | exact u5 | exact YG.build rfl | exact YG.neg rfl dC | exact YG.p7 rfl rfl | exact YG.wJ rfl vW | exact YG.str rfl cD))) | (apply YQ.f;(· exact rfl);(· apply Ec;(· exact rfl);(· first | exact rfl | assumption))))))):A:=s
theorem dp {A:Prop} (s:A:=by (try simp only [bm,bo,aS,cq,List.length_cons,List.length_nil,Nat.reduceAdd,dk,kY,bN]);rfl):A:=s
theorem eG {A:Prop} (s:A:=by (try simp only [List.cons_append,List.nil_append,oset,nq,bo,cq,aS,dJ,List.map_cons,List.map_nil,Ob.dk,dk,kY,bN]);rfl):A:=s
theorem yd {A:Prop} (s:A:=by simp only [bm,bo,aS,cq];rfl):A:=s
theorem ko {A:Prop} (s:A:=by first | exact kp.refl | (repeat (first | exact kp.nil | exact lK.refl | exact lK.nil | exact lK.U | exact lK.fn0 | refine kp.cons ?_ ?_ | refine lK.agg ?_))):A:=s
theorem nf {A:Prop} (s:A:=by first | exact trivial | exact ⟨rfl,trivial⟩ | exact ⟨rfl,rfl,trivial⟩ | exact ⟨rfl,rfl,rfl,trivial⟩ | exact ⟨rfl,rfl,rfl,rfl,rfl,trivial⟩):A:=s
theorem ae {A B:Prop} (h:B) (s:Hid B->A:=by intro hQ;(repeat (first | ((first | (apply GL.q;(· (first | exact YG.mv | exact YG.sT | exact vT | exact F7 | exact F6 | exact vV | exact sL | exact uZ | exact Ki | exact YG.ext rfl rfl | exact YG.go rfl | exact vU | exact YG.qa rfl rfl fD | exact YG.idxSC rfl rfl fD rfl | exact u5 | exact YG.build rfl | exact YG.neg rfl dC | exact YG.p7 rfl rfl | exact YG.wJ rfl vW | exact YG.str rfl cD))) | refine GL.nil ?_ | refine aK ?_ | refine GW.seq ?_ | refine GW.region ?_ | refine GW.skip ?_ | refine bS ?_ | refine GW.block ?_ | (apply GL.gt;(· exact rfl);(· first | exact rfl | assumption)) | (apply GL.gf;(· exact rfl);(· first | exact rfl | assumption)) | (apply GL.gu;(· exact rfl)) | (apply P7;(· exact rfl);(· first | exact rfl | assumption)) | (apply P6;(· exact rfl);(· first | exact rfl | assumption)));try refine GN yd ?_) | ((first | (apply GL.alloc;(· simp only [km,Value.cells,List.map_cons,List.map_nil];rfl)) | (apply GL.box;(· exact rfl)) | (apply GL.st;(· exact rfl);(· exact rfl);(· exact rfl);(· exact rfl);(· exact rfl);(· exact rfl)));refine sP dp eG ?_)));exact hQ.1):A:=s ⟨h⟩
theorem ak {A B:Prop} (h:B) (s:Hid B->A:=by intro hQ;(repeat ((first | (apply Yx;(· exact rfl)) | (apply Yw;(· exact rfl)) | (apply OP;(· exact rfl);(· intro Γ;(first | exact vT | exact A6 | exact A5 | exact vV | exact sL | exact DF | exact YG.ext rfl rfl | exact YG.go rfl | exact vU | exact YG.qa rfl rfl fD | exact YG.idxSC rfl rfl fD rfl | exact u5 | exact YG.build rfl | exact YG.neg rfl dC | exact YG.p7 rfl rfl | exact YG.wJ rfl vW | exact YG.str rfl cD))) | (apply Xh;(· exact rfl);(· exact rfl);(· first | exact rfl | assumption)) | (apply Xf;(· exact rfl);(· exact rfl);(· first | exact rfl | assumption)) | (apply Xi;(· exact rfl);(· exact rfl);(· first | exact rfl | assumption)) | (apply OQ;(· exact rfl);(· (first | exact A3 | exact DE | exact A4 | exact YG.qW 1 rfl rfl cD cD))) | (apply Wv;(· exact rfl);(· exact rfl);(· first | exact rfl | assumption);(· intro Γ;(first | exact YG.mv | exact YG.sT | exact vT | exact A6 | exact A5 | exact vV | exact sL | exact uZ | exact DF | exact YG.ext rfl rfl | exact YG.go rfl | exact vU | exact YG.qa rfl rfl fD | exact YG.idxSC rfl rfl fD rfl | exact u5 | exact YG.build rfl | exact YG.neg rfl dC | exact YG.p7 rfl rfl | exact YG.wJ rfl vW | exact YG.str rfl cD))) | (apply Yy;(· exact rfl);(· exact rfl);(· first | exact rfl | assumption);(· (first | exact A3 | exact DE | exact A4 | exact YG.qW 1 rfl rfl cD cD))) | (apply Yu;(· exact rfl);(· exact rfl);(· first | exact rfl | assumption)) | (apply Yv;(· exact rfl);(· exact rfl)) | (apply Ys;(· exact rfl);(· exact rfl);(· first | exact rfl | assumption);(· exact iw)) | (apply Yt;(· exact rfl);(· exact rfl);(· exact iw)) | refine GO.nil ?_ | (apply OA;(· exact rfl);(· exact rfl);apply GL.alloc;(· simp only [km,Value.cells,List.map_cons,List.map_nil];rfl);refine GL.nil (aK (eA.mk iw ?_));refine nG dp eG ?_) | (apply OA;(· exact rfl);(· exact rfl);apply GL.st;(· exact rfl);(· exact rfl);(· exact rfl);(· exact rfl);(· exact rfl);(· exact rfl);refine GL.nil (aK (eA.mk iw ?_));refine nG dp eG ?_) | (apply OA;(· exact rfl);(· exact rfl);apply GL.box;(· exact rfl);refine GL.nil (aK (eA.mk iw ?_));refine nG dp eG ?_));try refine Wu yd ?_));exact hQ.1):A:=s ⟨h⟩
theorem iN {A B:Prop} (h:B) (s:Hid B->A:=by intro hQ;(repeat (first | ((first | (apply GL.q;(· (first | exact YG.mv | exact YG.sT | exact vT | exact F7 | exact F6 | exact vV | exact sL | exact uZ | exact Ki | exact YG.ext rfl rfl | exact YG.go rfl | exact vU | exact YG.qa rfl rfl fD | exact YG.idxSC rfl rfl fD rfl | fail | exact YG.build rfl | exact YG.neg rfl dC | exact YG.p7 rfl rfl | exact YG.wJ rfl vW | exact YG.str rfl cD))) | refine GL.nil ?_ | refine aK ?_ | refine GW.seq ?_ | refine GW.region ?_ | refine GW.skip ?_ | refine bS ?_ | refine GW.block ?_ | (apply GL.gt;(· exact rfl);(· first | exact rfl | assumption)) | (apply GL.gf;(· exact rfl);(· first | exact rfl | assumption)) | (apply GL.gu;(· exact rfl)) | (apply P7;(· exact rfl);(· first | exact rfl | assumption)) | (apply P6;(· exact rfl);(· first | exact rfl | assumption)));try refine GN yd ?_) | ((first | (apply GL.alloc;(· simp only [km,Value.cells,List.map_cons,List.map_nil];rfl)) | (apply GL.box;(· exact rfl)) | (apply GL.st;(· exact rfl);(· exact rfl);(· exact rfl);(· exact rfl);(· exact rfl);(· exact rfl)));refine sP dp eG ?_)));exact hQ.1):A:=s ⟨h⟩
theorem IK {A B:Prop} (h:B) (s:Hid B->A:=by intro hQ;(repeat (first | ((first | (apply GL.q;(· (first | exact YG.mv | exact YG.sT | exact vT | exact F7 | exact F6 | exact vV | exact sL | exact uZ | exact Ki | exact YG.ext rfl rfl | exact YG.go rfl | exact vU | exact YG.qa rfl rfl fD | exact YG.idxSC rfl rfl fD rfl | exact u5 | exact YG.build rfl | exact YG.neg rfl dC | exact YG.p7 rfl rfl | exact YG.wJ rfl vW | exact YG.str rfl cD))) | refine GL.nil ?_ | refine aK ?_ | refine GW.seq ?_ | refine GW.region ?_ | refine GW.skip ?_ | refine bS ?_ | (apply GL.gt;(· exact rfl);(· first | exact rfl | assumption)) | (apply GL.gf;(· exact rfl);(· first | exact rfl | assumption)) | (apply GL.gu;(· exact rfl)) | (apply P7;(· exact rfl);(· first | exact rfl | assumption)) | (apply P6;(· exact rfl);(· first | exact rfl | assumption)));try refine GN yd ?_) | ((first | (apply GL.alloc;(· simp only [km,Value.cells,List.map_cons,List.map_nil];rfl)) | (apply GL.box;(· exact rfl)) | (apply GL.st;(· exact rfl);(· exact rfl);(· exact rfl);(· exact rfl);(· exact rfl);(· exact rfl)));refine sP dp eG ?_)));exact hQ.1):A:=s ⟨h⟩
theorem bZ {A B:Prop} (h:B) (s:Hid B->A:=by intro hQ;(try refine GN yd ?_);exact hQ.1):A:=s ⟨h⟩
theorem Q5 {A B:Prop} (h:B) (s:Hid B->A:=by intro hQ;(try refine Wu yd ?_);exact hQ.1):A:=s ⟨h⟩
theorem bK {A B:Prop} (h:B) (s:Hid B->A:=by intro hQ;(refine sP dp eG ?_);exact hQ.1):A:=s ⟨h⟩
theorem Nu {A B:Prop} (h:B) (s:Hid B->A:=by intro hQ;(refine nG dp eG ?_);exact hQ.1):A:=s ⟨h⟩
theorem aX {A B:Prop} (h:B) (s:Hid B->A:=by intro hQ;((repeat (first | refine GW.exit ?_ | refine Ef ?_ | refine HD ?_ | refine ginb_xn rfl ?_ | refine bS ?_ | refine aK ?_)));exact hQ.1):A:=s ⟨h⟩
theorem bI {A B:Prop} (h:B) (s:Hid B->A:=by intro hQ;((repeat (first | refine GW.ret ?_ | refine cr ?_ | refine cn ?_ | refine aK ?_ | refine bS ?_));refine o7 rfl nc rfl (Nat.le_refl _) rfl rfl ?_);exact hQ.1):A:=s ⟨h⟩
theorem cM {A B:Prop} (h:B) (s:Hid B->A:=by intro hQ;((repeat (first | refine GW.ret ?_ | refine cr ?_ | refine cn ?_ | refine aK ?_ | refine bS ?_));refine Th rfl nc (Nat.le_refl _) rfl ?_);exact hQ.1):A:=s ⟨h⟩
theorem ye {A B:Prop} (h:B) (s:Hid B->A:=by intro hQ;((repeat (first | refine GW.ret ?_ | refine cr ?_ | refine cn ?_ | refine aK ?_ | refine bS ?_));refine Ti rfl nc rfl rfl (Nat.le_refl _) rfl rfl ?_);exact hQ.1):A:=s ⟨h⟩
theorem II {A B:Prop} (h:B) (s:Hid B->A:=by intro hQ;((repeat (first | refine GW.ret ?_ | refine cr ?_ | refine cn ?_ | refine aK ?_ | refine bS ?_));refine Tj rfl nc rfl rfl rfl (Nat.le_refl _) rfl rfl ?_);exact hQ.1):A:=s ⟨h⟩
theorem qn {A B:Prop} (h:B) (s:Hid B->A:=by intro hQ;((repeat (first | refine GW.ret ?_ | refine cr ?_ | refine cn ?_ | refine aK ?_ | refine bS ?_));refine zY ?_;refine Tj rfl nc rfl rfl rfl (Nat.le_refl _) rfl rfl ?_);exact hQ.1):A:=s ⟨h⟩
theorem F5 {A B:Prop} (h:B) (s:Hid B->A:=by intro hQ;((repeat (first | refine GW.ret ?_ | refine cr ?_ | refine cn ?_ | refine aK ?_ | refine bS ?_));refine zY ?_;refine Ti rfl nc rfl rfl (Nat.le_refl _) rfl rfl ?_);exact hQ.1):A:=s ⟨h⟩
theorem qo {A B:Prop} (h:B) (s:Hid B->A:=by intro hQ;((repeat (first | refine GW.ret ?_ | refine cr ?_ | refine cn ?_ | refine aK ?_ | refine bS ?_));refine zY ?_;refine Tk rfl nc rfl rfl rfl (Nat.le_refl _) rfl rfl ?_);exact hQ.1):A:=s ⟨h⟩
theorem oA {A B:Prop} (h:B) (s:Hid B->A:=by intro hQ;((repeat (first | refine GW.ret ?_ | refine cr ?_ | refine cn ?_ | refine aK ?_ | refine bS ?_));refine VD rfl nc rfl rfl rfl rfl (Nat.le_refl _) rfl rfl ?_);exact hQ.1):A:=s ⟨h⟩
theorem lx {A B:Prop} (h:B) (s:Hid B->A:=by intro hQ;((repeat (first | refine GW.ret ?_ | refine cr ?_ | refine cn ?_ | refine aK ?_ | refine bS ?_));refine LG rfl nc rfl rfl rfl rfl rfl (Nat.le_refl _) rfl rfl ?_);exact hQ.1):A:=s ⟨h⟩
theorem A2 {A B:Prop} (h:B) (s:Hid B->A:=by intro hQ;((repeat (first | refine GW.ret ?_ | refine cr ?_ | refine cn ?_ | refine aK ?_ | refine bS ?_));refine zY ?_;refine LG rfl nc rfl rfl rfl rfl rfl (Nat.le_refl _) rfl rfl ?_);exact hQ.1):A:=s ⟨h⟩
theorem IJ {A B:Prop} (h:B) (s:Hid B->A:=by intro hQ;((repeat (first | refine GW.ret ?_ | refine cr ?_ | refine cn ?_ | refine aK ?_ | refine bS ?_));refine Tk rfl nc rfl rfl rfl (Nat.le_refl _) rfl rfl ?_);exact hQ.1):A:=s ⟨h⟩
theorem bE {A B:Prop} (h:B) (s:Hid B->A:=by intro hQ;(refine GL.Xa rfl rfl rfl rfl ?_;refine sP dp eG ?_);exact hQ.1):A:=s ⟨h⟩
theorem lY {A B:Prop} (h:B) (s:Hid B->A:=by intro hQ;(refine GL.QT rfl rfl rfl rfl ?_;refine sP dp eG ?_);exact hQ.1):A:=s ⟨h⟩
theorem dY {A B:Prop} (h:B) (s:Hid B->A:=by intro hQ;(refine GL.push rfl rfl rfl rfl rfl rfl rfl rfl cD ⟨⟨by omega,by omega⟩,by decide⟩ ?_;refine sP dp eG ?_);exact hQ.1):A:=s ⟨h⟩
theorem B7 {A B:Prop} (h:B) (s:Hid B->A:=by intro hQ;(refine OA rfl rfl (GL.QT rfl rfl rfl rfl (GL.nil (aK (eA.mk iw ?_))));refine nG dp eG ?_);exact hQ.1):A:=s ⟨h⟩
theorem B6 {A B:Prop} (h:B) (s:Hid B->A:=by intro hQ;(refine OA rfl rfl (GL.app rfl rfl rfl cD rfl rfl (by refine ⟨?_,?_⟩;(· show _+1<=_;omega);(· show (_+1) * _<=_;omega)) (GL.nil (aK (eA.mk iw ?_))));refine nG dp eG ?_);exact hQ.1):A:=s ⟨h⟩
theorem eE {A B:Prop} (h:B) (s:Hid B->A:=by intro hQ;(refine OA rfl rfl (GL.Xa rfl rfl rfl rfl (GL.nil (aK (eA.mk iw ?_))));refine nG dp eG ?_);exact hQ.1):A:=s ⟨h⟩
theorem F4 {A B:Prop} (h:B) (s:Hid B->A:=by intro hQ;(refine OA rfl rfl (GL.st rfl rfl rfl rfl rfl rfl (GL.nil (aK (eA.mk iw ?_))));refine nG dp eG ?_);exact hQ.1):A:=s ⟨h⟩
theorem Kh {A B:Prop} (h:B) (s:Hid B->A:=by intro hQ;(refine OA rfl rfl (GL.Nr 1 (by kernel_rfl) (by kernel_rfl) rfl rfl rfl rfl fD dC (GL.nil (aK (eA.mk iw ?_))));refine nG dp eG ?_);exact hQ.1):A:=s ⟨h⟩
theorem oc {A B:Prop} (h:B) (s:Hid B->A:=by intro hQ;(refine GL.stH rfl rfl rfl cD rfl rfl rfl rfl ?_;refine sP dp eG ?_);exact hQ.1):A:=s ⟨h⟩
theorem jj {A B:Prop} (h:B) (s:Hid B->A:=by intro hQ;(refine GL.Yk rfl rfl (by first | rfl | assumption | omega) dC rfl rfl rfl rfl ?_;refine sP dp eG ?_);exact hQ.1):A:=s ⟨h⟩
theorem ct {A B:Prop} (h:B) (s:Hid B->A:=by intro hQ;(refine ⟨by simp,?_⟩;refine sP dp eG ?_);exact hQ.1):A:=s ⟨h⟩
theorem dB {A B:Prop} (h:B) (s:Hid B->A:=by intro hQ;(refine GL.nil (aK (eA.mk iw ?_));refine nG dp eG ?_);exact hQ.1):A:=s ⟨h⟩
theorem nz {A:Prop} (s:A:=by simp only [aP,uj];rfl):A:=s
theorem iM {A:Prop} (s:A:=by first | exact kp.refl | exact lK.refl | (repeat (first | exact kp.nil | exact lK.refl | exact lK.nil | exact lK.U | exact lK.fn0 | refine kp.cons ?_ ?_ | refine lK.agg ?_ | refine lK.tup ?_))):A:=s
theorem ao {A:Prop} (s:A:=by repeat (first | exact rS.nil | refine rS.U ?_ | refine rS.eq rfl ?_)):A:=s
theorem gA {A B C:Prop} (aM:List Nat) (c:C) (h:B) (s:rP aM C->Hid B->A:=by intro hC hQ;(refine GL.ug hC ko rfl nf rfl ?_;refine sP dp eG ?_);exact hQ.1):A:=s ⟨c⟩ ⟨h⟩
theorem ab {A B C:Prop} (aM:List Nat) (c:C) (h:B) (s:rP aM C->Hid B->A:=by intro hC hQ;(refine GL.ug hC ko rfl nf rfl ?_;refine sP dp eG ?_);refine ae ?_;exact hQ.1):A:=s ⟨c⟩ ⟨h⟩
theorem sK {A B C:Prop} (aM:List Nat) (c:C) (h:B) (s:rP aM C->Hid B->A:=by intro hC hQ;(refine OA rfl rfl (GL.ug hC ko rfl nf rfl (GL.nil (aK (eA.mk iw ?_))));refine nG dp eG ?_);exact hQ.1):A:=s ⟨c⟩ ⟨h⟩
theorem aC {A B C:Prop} (aM:List Nat) (c:C) (h:B) (s:rP aM C->Hid B->A:=by intro hC hQ;(refine OA rfl rfl (GL.ug hC ko rfl nf rfl (GL.nil (aK (eA.mk iw ?_))));refine nG dp eG ?_);refine ak ?_;exact hQ.1):A:=s ⟨c⟩ ⟨h⟩
theorem Xd {A B C:Prop} (aM:List Nat) (c:C) (h:B) (s:rP aM C->Hid B->A:=by intro hC hQ;(refine Qa rfl rfl rfl (by first | exact rfl | assumption) (GL.ug hC ko rfl nf rfl (GL.nil (aK (eA.mk iw ?_))));refine nG dp eG ?_);exact hQ.1):A:=s ⟨c⟩ ⟨h⟩
theorem bz {A B C:Prop} (aM:List Nat) (c:C) (h:B) (s:rP aM C->Hid B->A:=by intro hC hQ;(refine Qa rfl rfl rfl (by first | exact rfl | assumption) (GL.ug hC ko rfl nf rfl (GL.nil (aK (eA.mk iw ?_))));refine nG dp eG ?_);refine ak ?_;exact hQ.1):A:=s ⟨c⟩ ⟨h⟩
theorem ig {A B C:Prop} (aM:List Nat) (c:C) (h:B) (s:rP aM C->Hid B->A:=by intro hC hQ;(refine GL.KQ hC rfl rfl rfl nf ?_;rintro _ _ ⟨rfl,rfl⟩;refine ⟨by simp,?_⟩;refine sP dp eG ?_);exact hQ.1):A:=s ⟨c⟩ ⟨h⟩
theorem na {A B C:Prop} (aM:List Nat) (c:C) (h:B) (s:rP aM C->Hid B->A:=by intro hC hQ;(refine GL.KR hC rfl rfl rfl nf ?_;rintro _ _ ⟨rfl,rfl⟩;refine ⟨by simp,?_⟩;refine sP dp eG ?_);exact hQ.1):A:=s ⟨c⟩ ⟨h⟩
theorem xD {A B C:Prop} (aM:List Nat) (c:C) (h:B) (s:rP aM C->Hid B->A:=by intro hC hQ;(refine OA rfl rfl (GL.KQ hC rfl rfl rfl nf ?_);rintro _ _ ⟨rfl,rfl⟩;refine ⟨by simp,(GL.nil (aK (eA.mk iw ?_)))⟩;refine nG dp eG ?_);exact hQ.1):A:=s ⟨c⟩ ⟨h⟩
theorem nb {A B C:Prop} (aM:List Nat) (c:C) (h:B) (s:rP aM C->Hid B->A:=by intro hC hQ;(refine OA rfl rfl (GL.KR hC rfl rfl rfl nf ?_);rintro _ _ ⟨rfl,rfl⟩;refine ⟨by simp,(GL.nil (aK (eA.mk iw ?_)))⟩;refine nG dp eG ?_);exact hQ.1):A:=s ⟨c⟩ ⟨h⟩
theorem bO {A B C:Prop} (aM:List Nat) (c:C) (h:B) (s:rP aM C->Hid B->A:=by intro hC hQ;(refine GL.SN hC ko rfl nf ?_);exact hQ.1):A:=s ⟨c⟩ ⟨h⟩
theorem da {A B C D : Prop} (f : C) (n : D) (h : B) (s : C -> D -> Hid B -> A := by intro hC hD hQ;refine GC.enter hC hD rfl (by simp only [wR,Ee,Nat.reduceSub];rfl) ?_;exact hQ.1) : A := s f n ⟨h⟩
theorem aj {A B C D : Prop} (f : C) (n : D) (h : B) (s : C -> D -> Hid B -> A := by intro hC hD hQ;refine GC.enter hC hD rfl (by simp only [wR,Ee,Nat.reduceSub];rfl) ?_;refine ae ?_;exact hQ.1) : A := s f n ⟨h⟩
theorem aq {A : Prop} (s : A := by refine bI ?_;exact ⟨rfl,rfl⟩) : A := s
theorem aw {A : Prop} (s : A := by refine ae ?_;refine bI ?_;exact ⟨rfl,rfl⟩) : A := s
theorem fO {A : Prop} (s : A := by refine cM ?_;exact ⟨rfl,rfl⟩) : A := s
theorem lI {A : Prop} (s : A := by refine ae ?_;refine cM ?_;exact ⟨rfl,rfl⟩) : A := s
theorem lJ {A : Prop} (s : A := by refine ye ?_;exact ⟨rfl,rfl⟩) : A := s
theorem qm {A : Prop} (s : A := by refine ae ?_;refine ye ?_;exact ⟨rfl,rfl⟩) : A := s
theorem dc {A : Prop} (s : A := by refine IJ ?_;exact ⟨rfl,rfl⟩) : A := s
theorem oz {A : Prop} (s : A := by refine ae ?_;refine IJ ?_;exact ⟨rfl,rfl⟩) : A := s
theorem al {A : Prop} (s : A := by kernel_rfl) : A := s
theorem ah {A : Prop} (s : A := by omega) : A := s
def aH:List Nat->Ot->Ot
 | [],r=>r
 | i::l,r=>.q i (aH l r)
theorem aE {P:Program} {m id:Nat} {ol:List Oper} {Q:dH} {fr:List GV} {Γ:List Ob} (ord:Ot) (h:GO P ol.toArray (Q .normal) ord [] fr Γ) (hm:P.follows .mixedOrders=true:=by kernel_rfl) (ew:(Region.noSelect ol.toArray&&(ord.len==ol.length)&&sB ol.toArray ord (Array.replicate ol.toArray.size false))=true:=by kernel_rfl):GW P m (.region id ol.toArray true) Q fr Γ:=GW.draw ord hm ew h
end Go.Xg
namespace Go.Xw
open Go.Proofs
instance:aD Tryz.prog 10:=⟨Go.Xg.al⟩
instance:aD Tryz.prog 12:=⟨Go.Xg.al⟩
instance:aD Tryz.prog 14:=⟨Go.Xg.al⟩
instance:aD Tryz.prog 17:=⟨Go.Xg.al⟩
instance:aD Tryz.prog 18:=⟨Go.Xg.al⟩
instance:aD Tryz.prog 19:=⟨Go.Xg.al⟩
instance:aD Tryz.prog 20:=⟨Go.Xg.al⟩
instance:aD Tryz.prog 21:=⟨Go.Xg.al⟩
instance:aD Tryz.prog 22:=⟨Go.Xg.al⟩
instance:aD Tryz.prog 28:=⟨Go.Xg.al⟩
instance:aD Tryz.prog 29:=⟨Go.Xg.al⟩
instance:aD Tryz.prog 35:=⟨Go.Xg.al⟩
instance:aD Tryz.prog 36:=⟨Go.Xg.al⟩
instance:aD Tryz.prog 37:=⟨Go.Xg.al⟩
instance:aD Tryz.prog 38:=⟨Go.Xg.al⟩
instance:aD Tryz.prog 39:=⟨Go.Xg.al⟩
instance:aD Tryz.prog 40:=⟨Go.Xg.al⟩
instance:aD Tryz.prog 41:=⟨Go.Xg.al⟩
instance:aD Tryz.prog 42:=⟨Go.Xg.al⟩
instance:aD Tryz.prog 43:=⟨Go.Xg.al⟩
instance:aD Tryz.prog 44:=⟨Go.Xg.al⟩
instance:aD Tryz.prog 45:=⟨Go.Xg.al⟩
instance:aD Tryz.prog 46:=⟨Go.Xg.al⟩
instance:aD Tryz.prog 47:=⟨Go.Xg.al⟩
instance:aD Tryz.prog 48:=⟨Go.Xg.al⟩
instance:aD Tryz.prog 49:=⟨Go.Xg.al⟩
instance:aD Tryz.prog 50:=⟨Go.Xg.al⟩
instance:aD Tryz.prog 51:=⟨Go.Xg.al⟩
instance:aD Tryz.prog 52:=⟨Go.Xg.al⟩
instance:aD Tryz.prog 53:=⟨Go.Xg.al⟩
instance:aD Tryz.prog 55:=⟨Go.Xg.al⟩
instance:aD Tryz.prog 56:=⟨Go.Xg.al⟩
instance:aD Tryz.prog 57:=⟨Go.Xg.al⟩
instance:aD Tryz.prog 58:=⟨Go.Xg.al⟩
instance:aD Tryz.prog 59:=⟨Go.Xg.al⟩
instance:aD Tryz.prog 60:=⟨Go.Xg.al⟩
instance:aD Tryz.prog 63:=⟨Go.Xg.al⟩
instance:aD Tryz.prog 69:=⟨Go.Xg.al⟩
instance:aD Tryz.prog 71:=⟨Go.Xg.al⟩
instance:aD Tryz.prog 72:=⟨Go.Xg.al⟩
instance:aD Tryz.prog 74:=⟨Go.Xg.al⟩
instance:aD Tryz.prog 81:=⟨Go.Xg.al⟩
instance:aD Tryz.prog 82:=⟨Go.Xg.al⟩
instance:aD Tryz.prog 83:=⟨Go.Xg.al⟩
instance:aD Tryz.prog 86:=⟨Go.Xg.al⟩
instance:aD Tryz.prog 87:=⟨Go.Xg.al⟩
instance:aD Tryz.prog 88:=⟨Go.Xg.al⟩
instance:aD Tryz.prog 94:=⟨Go.Xg.al⟩
instance:aD Tryz.prog 95:=⟨Go.Xg.al⟩
instance:aD Tryz.prog 96:=⟨Go.Xg.al⟩
instance:aD Tryz.prog 97:=⟨Go.Xg.al⟩
instance:aD Tryz.prog 98:=⟨Go.Xg.al⟩
instance:aD Tryz.prog 99:=⟨Go.Xg.al⟩
instance:aD Tryz.prog 100:=⟨Go.Xg.al⟩
instance:aD Tryz.prog 101:=⟨Go.Xg.al⟩
instance:aD Tryz.prog 102:=⟨Go.Xg.al⟩
instance:aD Tryz.prog 103:=⟨Go.Xg.al⟩
instance:aD Tryz.prog 104:=⟨Go.Xg.al⟩
instance:aD Tryz.prog 105:=⟨Go.Xg.al⟩
instance:aD Tryz.prog 106:=⟨Go.Xg.al⟩
instance:aD Tryz.prog 107:=⟨Go.Xg.al⟩
instance:aD Tryz.prog 108:=⟨Go.Xg.al⟩
instance:aD Tryz.prog 109:=⟨Go.Xg.al⟩
instance:aD Tryz.prog 110:=⟨Go.Xg.al⟩
instance:aD Tryz.prog 111:=⟨Go.Xg.al⟩
instance:aD Tryz.prog 114:=⟨Go.Xg.al⟩
instance:aD Tryz.prog 115:=⟨Go.Xg.al⟩
instance:aD Tryz.prog 116:=⟨Go.Xg.al⟩
instance:aD Tryz.prog 117:=⟨Go.Xg.al⟩
instance:aD Tryz.prog 121:=⟨Go.Xg.al⟩
instance:aD Tryz.prog 123:=⟨Go.Xg.al⟩
instance:aD Tryz.prog 124:=⟨Go.Xg.al⟩
instance:aD Tryz.prog 125:=⟨Go.Xg.al⟩
instance:aD Tryz.prog 126:=⟨Go.Xg.al⟩
instance:aD Tryz.prog 127:=⟨Go.Xg.al⟩
instance:aD Tryz.prog 128:=⟨Go.Xg.al⟩
instance:aD Tryz.prog 129:=⟨Go.Xg.al⟩
instance:aD Tryz.prog 130:=⟨Go.Xg.al⟩
instance:aD Tryz.prog 131:=⟨Go.Xg.al⟩
instance:aD Tryz.prog 132:=⟨Go.Xg.al⟩
instance:aD Tryz.prog 133:=⟨Go.Xg.al⟩
instance:aD Tryz.prog 134:=⟨Go.Xg.al⟩
instance:aD Tryz.prog 135:=⟨Go.Xg.al⟩
instance:aD Tryz.prog 136:=⟨Go.Xg.al⟩
instance:aD Tryz.prog 137:=⟨Go.Xg.al⟩
instance:aD Tryz.prog 138:=⟨Go.Xg.al⟩
instance:aD Tryz.prog 139:=⟨Go.Xg.al⟩
instance:aD Tryz.prog 140:=⟨Go.Xg.al⟩
instance:aD Tryz.prog 143:=⟨Go.Xg.al⟩
instance:aD Tryz.prog 144:=⟨Go.Xg.al⟩
instance:aD Tryz.prog 146:=⟨Go.Xg.al⟩
instance:aD Tryz.prog 147:=⟨Go.Xg.al⟩
instance:aD Tryz.prog 148:=⟨Go.Xg.al⟩
instance:aD Tryz.prog 149:=⟨Go.Xg.al⟩
instance:aD Tryz.prog 151:=⟨Go.Xg.al⟩
instance:aD Tryz.prog 152:=⟨Go.Xg.al⟩
instance:aD Tryz.prog 153:=⟨Go.Xg.al⟩
instance:aD Tryz.prog 154:=⟨Go.Xg.al⟩
instance:aD Tryz.prog 155:=⟨Go.Xg.al⟩
instance:aD Tryz.prog 156:=⟨Go.Xg.al⟩
instance:aD Tryz.prog 157:=⟨Go.Xg.al⟩
instance:aD Tryz.prog 158:=⟨Go.Xg.al⟩
instance:aD Tryz.prog 159:=⟨Go.Xg.al⟩
instance:aD Tryz.prog 160:=⟨Go.Xg.al⟩
instance:aD Tryz.prog 161:=⟨Go.Xg.al⟩
instance:aD Tryz.prog 162:=⟨Go.Xg.al⟩
instance:aD Tryz.prog 163:=⟨Go.Xg.al⟩
instance:aD Tryz.prog 164:=⟨Go.Xg.al⟩
instance:aD Tryz.prog 165:=⟨Go.Xg.al⟩
instance:aD Tryz.prog 166:=⟨Go.Xg.al⟩
instance:aD Tryz.prog 167:=⟨Go.Xg.al⟩
instance:aD Tryz.prog 168:=⟨Go.Xg.al⟩
instance:aD Tryz.prog 169:=⟨Go.Xg.al⟩
instance:aD Tryz.prog 170:=⟨Go.Xg.al⟩
instance:aD Tryz.prog 171:=⟨Go.Xg.al⟩
instance:aD Tryz.prog 172:=⟨Go.Xg.al⟩
instance:aD Tryz.prog 173:=⟨Go.Xg.al⟩
instance:aD Tryz.prog 185:=⟨Go.Xg.al⟩
instance:aD Tryz.prog 186:=⟨Go.Xg.al⟩
instance:aD Tryz.prog 187:=⟨Go.Xg.al⟩
instance:aD Tryz.prog 188:=⟨Go.Xg.al⟩
instance:aD Tryz.prog 189:=⟨Go.Xg.al⟩
instance:aD Tryz.prog 190:=⟨Go.Xg.al⟩
instance:aD Tryz.prog 191:=⟨Go.Xg.al⟩
instance:aD Tryz.prog 192:=⟨Go.Xg.al⟩
instance:aD Tryz.prog 193:=⟨Go.Xg.al⟩
instance:aD Tryz.prog 194:=⟨Go.Xg.al⟩
instance:aD Tryz.prog 195:=⟨Go.Xg.al⟩
instance:aD Tryz.prog 196:=⟨Go.Xg.al⟩
instance:aD Tryz.prog 197:=⟨Go.Xg.al⟩
instance:aD Tryz.prog 198:=⟨Go.Xg.al⟩
instance:aD Tryz.prog 199:=⟨Go.Xg.al⟩
instance:aD Tryz.prog 200:=⟨Go.Xg.al⟩
instance:aD Tryz.prog 201:=⟨Go.Xg.al⟩
instance:aD Tryz.prog 202:=⟨Go.Xg.al⟩
instance:aD Tryz.prog 203:=⟨Go.Xg.al⟩
instance:aD Tryz.prog 204:=⟨Go.Xg.al⟩
instance:aD Tryz.prog 205:=⟨Go.Xg.al⟩
instance:aD Tryz.prog 206:=⟨Go.Xg.al⟩
instance:aD Tryz.prog 207:=⟨Go.Xg.al⟩
instance:aD Tryz.prog 208:=⟨Go.Xg.al⟩
instance:aD Tryz.prog 209:=⟨Go.Xg.al⟩
instance:aD Tryz.prog 216:=⟨Go.Xg.al⟩
instance:aD Tryz.prog 217:=⟨Go.Xg.al⟩
instance:aD Tryz.prog 218:=⟨Go.Xg.al⟩
instance:aD Tryz.prog 219:=⟨Go.Xg.al⟩
instance:aD Tryz.prog 220:=⟨Go.Xg.al⟩
instance:aD Tryz.prog 221:=⟨Go.Xg.al⟩
instance:aD Tryz.prog 222:=⟨Go.Xg.al⟩
instance:aD Tryz.prog 223:=⟨Go.Xg.al⟩
instance:aD Tryz.prog 224:=⟨Go.Xg.al⟩
instance:aD Tryz.prog 225:=⟨Go.Xg.al⟩
instance:aD Tryz.prog 226:=⟨Go.Xg.al⟩
instance:aD Tryz.prog 228:=⟨Go.Xg.al⟩
instance:aD Tryz.prog 229:=⟨Go.Xg.al⟩
instance:aD Tryz.prog 230:=⟨Go.Xg.al⟩
instance:aD Tryz.prog 231:=⟨Go.Xg.al⟩
instance:aD Tryz.prog 232:=⟨Go.Xg.al⟩
instance:aD Tryz.prog 233:=⟨Go.Xg.al⟩
instance:aD Tryz.prog 234:=⟨Go.Xg.al⟩
instance:aD Tryz.prog 236:=⟨Go.Xg.al⟩
instance:aD Tryz.prog 238:=⟨Go.Xg.al⟩
instance:aD Tryz.prog 239:=⟨Go.Xg.al⟩
instance:aD Tryz.prog 240:=⟨Go.Xg.al⟩
instance:aD Tryz.prog 241:=⟨Go.Xg.al⟩
instance:aD Tryz.prog 242:=⟨Go.Xg.al⟩
instance:aD Tryz.prog 243:=⟨Go.Xg.al⟩
instance:aD Tryz.prog 244:=⟨Go.Xg.al⟩
instance:aD Tryz.prog 245:=⟨Go.Xg.al⟩
instance:aD Tryz.prog 249:=⟨Go.Xg.al⟩
instance:aD Tryz.prog 250:=⟨Go.Xg.al⟩
instance:aD Tryz.prog 251:=⟨Go.Xg.al⟩
instance:aD Tryz.prog 252:=⟨Go.Xg.al⟩
instance:aD Tryz.prog 253:=⟨Go.Xg.al⟩
instance:aD Tryz.prog 254:=⟨Go.Xg.al⟩
instance:aD Tryz.prog 255:=⟨Go.Xg.al⟩
instance:aD Tryz.prog 256:=⟨Go.Xg.al⟩
instance:aD Tryz.prog 257:=⟨Go.Xg.al⟩
instance:aD Tryz.prog 258:=⟨Go.Xg.al⟩
instance:aD Tryz.prog 259:=⟨Go.Xg.al⟩
instance:aD Tryz.prog 260:=⟨Go.Xg.al⟩
instance:aD Tryz.prog 261:=⟨Go.Xg.al⟩
instance:aD Tryz.prog 263:=⟨Go.Xg.al⟩
instance:aD Tryz.prog 265:=⟨Go.Xg.al⟩
instance:aD Tryz.prog 270:=⟨Go.Xg.al⟩
instance:aD Tryz.prog 271:=⟨Go.Xg.al⟩
instance:aD Tryz.prog 272:=⟨Go.Xg.al⟩
instance:aD Tryz.prog 273:=⟨Go.Xg.al⟩
instance:aD Tryz.prog 275:=⟨Go.Xg.al⟩
instance:aD Tryz.prog 276:=⟨Go.Xg.al⟩
instance:aD Tryz.prog 277:=⟨Go.Xg.al⟩
instance:aD Tryz.prog 278:=⟨Go.Xg.al⟩
instance:aD Tryz.prog 279:=⟨Go.Xg.al⟩
instance:aD Tryz.prog 280:=⟨Go.Xg.al⟩
instance:aD Tryz.prog 288:=⟨Go.Xg.al⟩
instance:aD Tryz.prog 289:=⟨Go.Xg.al⟩
instance:aD Tryz.prog 292:=⟨Go.Xg.al⟩
instance:aD Tryz.prog 293:=⟨Go.Xg.al⟩
instance:aD Tryz.prog 294:=⟨Go.Xg.al⟩
instance:aD Tryz.prog 299:=⟨Go.Xg.al⟩
instance:aD Tryz.prog 300:=⟨Go.Xg.al⟩
instance:aD Tryz.prog 301:=⟨Go.Xg.al⟩
instance:aD Tryz.prog 304:=⟨Go.Xg.al⟩
instance:aD Tryz.prog 305:=⟨Go.Xg.al⟩
instance:aD Tryz.prog 306:=⟨Go.Xg.al⟩
instance:Ty Tryz.prog 3 false 1:=⟨Go.Xg.al,Go.Xg.al⟩
instance:pF Tryz.prog 3 (.int .i64 (0)):=⟨Go.Xg.al⟩
instance:Go.Xg.IY Tryz.prog 3 .i64:=⟨Go.Xg.al⟩
instance:Go.Xg.IY Tryz.prog 5 .u8:=⟨Go.Xg.al⟩
instance:Ty Tryz.prog 9 false 1:=⟨Go.Xg.al,Go.Xg.al⟩
instance:oW Tryz.prog 9:=⟨Go.Xg.al⟩
instance:Ty Tryz.prog 22 false 1:=⟨Go.Xg.al,Go.Xg.al⟩
instance:pF Tryz.prog 22 (.slice none 0 0):=⟨Go.Xg.al⟩
instance:mg Tryz.prog 22 9 1:=⟨Go.Xg.al,Go.Xg.al⟩
instance:nO Tryz.prog 22 9 1 16:=⟨Go.Xg.al⟩
instance:oV Tryz.prog 22 9 1 [(.string ⟨#[]⟩)]:=⟨Go.Xg.al,Go.Xg.al,Go.Xg.al,rfl,by decide,fun _=>rfl⟩
instance:Ty Tryz.prog 23 false 1:=⟨Go.Xg.al,Go.Xg.al⟩
instance:mg Tryz.prog 23 103 2:=⟨Go.Xg.al,Go.Xg.al⟩
instance:Ty Tryz.prog 24 false 1:=⟨Go.Xg.al,Go.Xg.al⟩
instance:mg Tryz.prog 24 105 3:=⟨Go.Xg.al,Go.Xg.al⟩
instance:Ty Tryz.prog 25 false 1:=⟨Go.Xg.al,Go.Xg.al⟩
instance:mg Tryz.prog 25 107 5:=⟨Go.Xg.al,Go.Xg.al⟩
instance:Ty Tryz.prog 27 true 4:=⟨Go.Xg.al,Go.Xg.al⟩
instance:dd Tryz.prog 27 0 0 1 false:=⟨Go.Xg.al⟩
instance:dd Tryz.prog 27 1 1 1 false:=⟨Go.Xg.al⟩
instance:dd Tryz.prog 27 2 2 1 false:=⟨Go.Xg.al⟩
instance:dd Tryz.prog 27 3 3 1 false:=⟨Go.Xg.al⟩
instance:Ty Tryz.prog 30 false 1:=⟨Go.Xg.al,Go.Xg.al⟩
instance:mg Tryz.prog 30 88 2:=⟨Go.Xg.al,Go.Xg.al⟩
instance:nO Tryz.prog 30 88 2 24:=⟨Go.Xg.al⟩
instance:oV Tryz.prog 30 88 2 [(.string ⟨#[]⟩),(.int .i64 (0))]:=⟨Go.Xg.al,Go.Xg.al,Go.Xg.al,rfl,by decide,fun h=>by cases h⟩
instance:Ty Tryz.prog 31 false 1:=⟨Go.Xg.al,Go.Xg.al⟩
instance:mg Tryz.prog 31 60 3:=⟨Go.Xg.al,Go.Xg.al⟩
instance:nO Tryz.prog 31 60 3 48:=⟨Go.Xg.al⟩
instance:oV Tryz.prog 31 60 3 [(.string ⟨#[]⟩),(.slice none 0 0),(.int .i64 (0))]:=⟨Go.Xg.al,Go.Xg.al,Go.Xg.al,rfl,by decide,fun h=>by cases h⟩
instance:Ty Tryz.prog 32 false 1:=⟨Go.Xg.al,Go.Xg.al⟩
instance:mg Tryz.prog 32 91 5:=⟨Go.Xg.al,Go.Xg.al⟩
instance:nO Tryz.prog 32 91 5 64:=⟨Go.Xg.al⟩
instance:oV Tryz.prog 32 91 5 [(.int .i64 (0)),(.int .i64 (0)),(.int .i64 (0)),(.string ⟨#[]⟩),(.slice none 0 0)]:=⟨Go.Xg.al,Go.Xg.al,Go.Xg.al,rfl,by decide,fun h=>by cases h⟩
instance:Ty Tryz.prog 34 true 4:=⟨Go.Xg.al,Go.Xg.al⟩
instance:pF Tryz.prog 34 (.agg #[(.slice none 0 0),(.slice none 0 0),(.slice none 0 0),(.slice none 0 0)]):=⟨Go.Xg.al⟩
instance:dd Tryz.prog 34 0 0 1 false:=⟨Go.Xg.al⟩
instance:dd Tryz.prog 34 1 1 1 false:=⟨Go.Xg.al⟩
instance:dd Tryz.prog 34 2 2 1 false:=⟨Go.Xg.al⟩
instance:dd Tryz.prog 34 3 3 1 false:=⟨Go.Xg.al⟩
instance:sQ Tryz.prog 34 [(0,1),(1,1),(2,1),(3,1)] [(.slice none 0 0),(.slice none 0 0),(.slice none 0 0),(.slice none 0 0)]:=⟨Go.Xg.al,Go.Xg.al⟩
instance:Ty Tryz.prog 40 false 1:=⟨Go.Xg.al,Go.Xg.al⟩
instance:pF Tryz.prog 40 (.slice none 0 0):=⟨Go.Xg.al⟩
instance:mg Tryz.prog 40 3 1:=⟨Go.Xg.al,Go.Xg.al⟩
instance:nO Tryz.prog 40 3 1 8:=⟨Go.Xg.al⟩
instance:oV Tryz.prog 40 3 1 [(.int .i64 (0))]:=⟨Go.Xg.al,Go.Xg.al,Go.Xg.al,rfl,by decide,fun _=>rfl⟩
instance:Ty Tryz.prog 60 true 3:=⟨Go.Xg.al,Go.Xg.al⟩
instance:pF Tryz.prog 60 (.agg #[(.string ⟨#[]⟩),(.slice none 0 0),(.int .i64 (0))]):=⟨Go.Xg.al⟩
instance:dd Tryz.prog 60 0 0 1 false:=⟨Go.Xg.al⟩
instance:dd Tryz.prog 60 1 1 1 false:=⟨Go.Xg.al⟩
instance:dd Tryz.prog 60 2 2 1 false:=⟨Go.Xg.al⟩
instance:sQ Tryz.prog 60 [(0,1),(1,1),(2,1)] [(.string ⟨#[]⟩),(.slice none 0 0),(.int .i64 (0))]:=⟨Go.Xg.al,Go.Xg.al⟩
instance:Ty Tryz.prog 88 true 2:=⟨Go.Xg.al,Go.Xg.al⟩
instance:pF Tryz.prog 88 (.agg #[(.string ⟨#[]⟩),(.int .i64 (0))]):=⟨Go.Xg.al⟩
instance:dd Tryz.prog 88 0 0 1 false:=⟨Go.Xg.al⟩
instance:dd Tryz.prog 88 1 1 1 false:=⟨Go.Xg.al⟩
instance:sQ Tryz.prog 88 [(0,1),(1,1)] [(.string ⟨#[]⟩),(.int .i64 (0))]:=⟨Go.Xg.al,Go.Xg.al⟩
instance:Ty Tryz.prog 91 true 5:=⟨Go.Xg.al,Go.Xg.al⟩
instance:pF Tryz.prog 91 (.agg #[(.int .i64 (0)),(.int .i64 (0)),(.int .i64 (0)),(.string ⟨#[]⟩),(.slice none 0 0)]):=⟨Go.Xg.al⟩
instance:dd Tryz.prog 91 0 0 1 false:=⟨Go.Xg.al⟩
instance:dd Tryz.prog 91 1 1 1 false:=⟨Go.Xg.al⟩
instance:dd Tryz.prog 91 2 2 1 false:=⟨Go.Xg.al⟩
instance:dd Tryz.prog 91 3 3 1 false:=⟨Go.Xg.al⟩
instance:dd Tryz.prog 91 4 4 1 false:=⟨Go.Xg.al⟩
instance:sQ Tryz.prog 91 [(0,1),(1,1),(2,1),(3,1),(4,1)] [(.int .i64 (0)),(.int .i64 (0)),(.int .i64 (0)),(.string ⟨#[]⟩),(.slice none 0 0)]:=⟨Go.Xg.al,Go.Xg.al⟩
instance:Ty Tryz.prog 92 false 1:=⟨Go.Xg.al,Go.Xg.al⟩
instance:mg Tryz.prog 92 94 6:=⟨Go.Xg.al,Go.Xg.al⟩
instance:nO Tryz.prog 92 94 6 88:=⟨Go.Xg.al⟩
instance:oV Tryz.prog 92 94 6 [(.int .i64 (0)),(.int .i64 (0)),(.int .i64 (0)),(.string ⟨#[]⟩),(.slice none 0 0),(.slice none 0 0)]:=⟨Go.Xg.al,Go.Xg.al,Go.Xg.al,rfl,by decide,fun h=>by cases h⟩
instance:Ty Tryz.prog 94 true 6:=⟨Go.Xg.al,Go.Xg.al⟩
instance:pF Tryz.prog 94 (.agg #[(.int .i64 (0)),(.int .i64 (0)),(.int .i64 (0)),(.string ⟨#[]⟩),(.slice none 0 0),(.slice none 0 0)]):=⟨Go.Xg.al⟩
instance:dd Tryz.prog 94 0 0 5 true:=⟨Go.Xg.al⟩
instance:dd Tryz.prog 94 1 5 1 false:=⟨Go.Xg.al⟩
instance:sQ Tryz.prog 94 [(0,5),(5,1)] [(.int .i64 (0)),(.int .i64 (0)),(.int .i64 (0)),(.string ⟨#[]⟩),(.slice none 0 0),(.slice none 0 0)]:=⟨Go.Xg.al,Go.Xg.al⟩
instance:Ty Tryz.prog 101 false 1:=⟨Go.Xg.al,Go.Xg.al⟩
instance:Ty Tryz.prog 103 true 2:=⟨Go.Xg.al,Go.Xg.al⟩
instance:dd Tryz.prog 103 0 0 1 false:=⟨Go.Xg.al⟩
instance:dd Tryz.prog 103 1 1 1 false:=⟨Go.Xg.al⟩
instance:Ty Tryz.prog 105 true 3:=⟨Go.Xg.al,Go.Xg.al⟩
instance:dd Tryz.prog 105 0 0 1 false:=⟨Go.Xg.al⟩
instance:dd Tryz.prog 105 1 1 1 false:=⟨Go.Xg.al⟩
instance:dd Tryz.prog 105 2 2 1 false:=⟨Go.Xg.al⟩
instance:Ty Tryz.prog 107 true 5:=⟨Go.Xg.al,Go.Xg.al⟩
instance:dd Tryz.prog 107 0 0 1 false:=⟨Go.Xg.al⟩
instance:dd Tryz.prog 107 1 1 1 false:=⟨Go.Xg.al⟩
instance:dd Tryz.prog 107 2 2 1 false:=⟨Go.Xg.al⟩
instance:dd Tryz.prog 107 3 3 1 false:=⟨Go.Xg.al⟩
instance:dd Tryz.prog 107 4 4 1 false:=⟨Go.Xg.al⟩
instance:Ty Tryz.prog 130 false 1:=⟨Go.Xg.al,Go.Xg.al⟩
instance:pF Tryz.prog 130 .nilFunc:=⟨Go.Xg.al⟩
instance:dd Tryz.prog 133 0 0 4 true:=⟨Go.Xg.al⟩
instance:dd Tryz.prog 133 1 4 1 false:=⟨Go.Xg.al⟩
instance:dd Tryz.prog 133 2 5 1 false:=⟨Go.Xg.al⟩
instance:dd Tryz.prog 133 3 6 1 false:=⟨Go.Xg.al⟩
instance:sQ Tryz.prog 133 [(0,4),(4,1),(5,1),(6,1)] [(.slice none 0 0),(.slice none 0 0),(.slice none 0 0),(.slice none 0 0),(.slice none 0 0),(.int .i64 (0)),(.int .i64 (0))]:=⟨Go.Xg.al,Go.Xg.al⟩
instance:Ty Tryz.prog 143 false 1:=⟨Go.Xg.al,Go.Xg.al⟩
instance:Go.Xg.Kl Tryz.prog 143:=Go.Xg.Kl.mk' (e:=5) (Go.Xg.al) (Go.Xg.al)
instance:mg Tryz.prog 143 5 1:=⟨Go.Xg.al,Go.Xg.al⟩
instance:oV Tryz.prog 143 5 1 [(.int .u8 (0))]:=⟨Go.Xg.al,Go.Xg.al,Go.Xg.al,rfl,by decide,fun _=>rfl⟩
instance:Ty Tryz.prog 148 false 1:=⟨Go.Xg.al,Go.Xg.al⟩
instance:mg Tryz.prog 148 152 1:=⟨Go.Xg.al,Go.Xg.al⟩
instance:nO Tryz.prog 148 152 1 8:=⟨Go.Xg.al⟩
instance:oV Tryz.prog 148 152 1 [(.pointer none)]:=⟨Go.Xg.al,Go.Xg.al,Go.Xg.al,rfl,by decide,fun _=>rfl⟩
instance:Ty Tryz.prog 152 false 1:=⟨Go.Xg.al,Go.Xg.al⟩
instance:Ty Tryz.prog 155 false 1:=⟨Go.Xg.al,Go.Xg.al⟩
instance:Ty Tryz.prog 156 false 1:=⟨Go.Xg.al,Go.Xg.al⟩
instance:Ty Tryz.prog 157 false 1:=⟨Go.Xg.al,Go.Xg.al⟩
instance:mg Tryz.prog 157 203 4:=⟨Go.Xg.al,Go.Xg.al⟩
instance:nO Tryz.prog 157 203 4 40:=⟨Go.Xg.al⟩
instance:oV Tryz.prog 157 203 4 [(.int .i64 (0)),(.int .i64 (0)),(.string ⟨#[]⟩),(.int .i64 (0))]:=⟨Go.Xg.al,Go.Xg.al,Go.Xg.al,rfl,by decide,fun h=>by cases h⟩
instance:dd Tryz.prog 184 0 0 1 false:=⟨Go.Xg.al⟩
instance:dd Tryz.prog 184 1 1 1 false:=⟨Go.Xg.al⟩
instance:dd Tryz.prog 184 2 2 1 false:=⟨Go.Xg.al⟩
instance:dd Tryz.prog 184 3 3 1 false:=⟨Go.Xg.al⟩
instance:dd Tryz.prog 184 4 4 1 false:=⟨Go.Xg.al⟩
instance:sQ Tryz.prog 184 [(0,1),(1,1),(2,1),(3,1),(4,1)] [(.slice none 0 0),(.int .i64 (0)),(.int .i64 (0)),(.int .i64 (0)),(.int .i64 (0))]:=⟨Go.Xg.al,Go.Xg.al⟩
instance:dd Tryz.prog 190 0 0 5 true:=⟨Go.Xg.al⟩
instance:dd Tryz.prog 190 1 5 1 false:=⟨Go.Xg.al⟩
instance:sQ Tryz.prog 190 [(0,5),(5,1)] [(.int .i64 (0)),(.int .i64 (0)),(.int .i64 (0)),(.string ⟨#[]⟩),(.slice none 0 0),(.slice none 0 0)]:=⟨Go.Xg.al,Go.Xg.al⟩
instance:Ty Tryz.prog 192 true 2:=⟨Go.Xg.al,Go.Xg.al⟩
instance:pF Tryz.prog 192 (.agg #[.nilFunc,.nilFunc]):=⟨Go.Xg.al⟩
instance:dd Tryz.prog 192 0 0 1 false:=⟨Go.Xg.al⟩
instance:dd Tryz.prog 192 1 1 1 false:=⟨Go.Xg.al⟩
instance:sQ Tryz.prog 192 [(0,1),(1,1)] [.nilFunc,.nilFunc]:=⟨Go.Xg.al,Go.Xg.al⟩
instance:Ty Tryz.prog 203 true 4:=⟨Go.Xg.al,Go.Xg.al⟩
instance:pF Tryz.prog 203 (.agg #[(.int .i64 (0)),(.int .i64 (0)),(.string ⟨#[]⟩),(.int .i64 (0))]):=⟨Go.Xg.al⟩
instance:dd Tryz.prog 203 0 0 1 false:=⟨Go.Xg.al⟩
instance:dd Tryz.prog 203 1 1 1 false:=⟨Go.Xg.al⟩
instance:dd Tryz.prog 203 2 2 1 false:=⟨Go.Xg.al⟩
instance:dd Tryz.prog 203 3 3 1 false:=⟨Go.Xg.al⟩
instance:sQ Tryz.prog 203 [(0,1),(1,1),(2,1),(3,1)] [(.int .i64 (0)),(.int .i64 (0)),(.string ⟨#[]⟩),(.int .i64 (0))]:=⟨Go.Xg.al,Go.Xg.al⟩
instance:dd Tryz.prog 208 0 0 1 false:=⟨Go.Xg.al⟩
instance:dd Tryz.prog 208 1 1 1 false:=⟨Go.Xg.al⟩
instance:dd Tryz.prog 208 2 2 1 false:=⟨Go.Xg.al⟩
instance:dd Tryz.prog 208 3 3 1 false:=⟨Go.Xg.al⟩
instance:dd Tryz.prog 208 4 4 1 false:=⟨Go.Xg.al⟩
instance:dd Tryz.prog 208 5 5 1 false:=⟨Go.Xg.al⟩
instance:dd Tryz.prog 208 6 6 4 true:=⟨Go.Xg.al⟩
instance:sQ Tryz.prog 208 [(0,1),(1,1),(2,1),(3,1),(4,1),(5,1),(6,4)] [(.slice none 0 0),(.int .i64 (0)),(.int .i64 (0)),(.int .i64 (0)),(.int .i64 (0)),(.slice none 0 0),(.slice none 0 0),(.slice none 0 0),(.slice none 0 0),(.slice none 0 0)]:=⟨Go.Xg.al,Go.Xg.al⟩
instance:Ty Tryz.prog 225 false 1:=⟨Go.Xg.al,Go.Xg.al⟩
instance:pF Tryz.prog 227 (.agg #[(.pointer none),(.slice none 0 0)]):=⟨Go.Xg.al⟩
instance:dd Tryz.prog 227 0 0 1 false:=⟨Go.Xg.al⟩
instance:dd Tryz.prog 227 1 1 1 false:=⟨Go.Xg.al⟩
instance:mg Tryz.prog 234 22 1:=⟨Go.Xg.al,Go.Xg.al⟩
instance:oV Tryz.prog 234 22 1 [(.slice none 0 0)]:=⟨Go.Xg.al,Go.Xg.al,Go.Xg.al,rfl,by decide,fun _=>rfl⟩
end Go.Xw
set_option maxHeartbeats 1000000
namespace Go.Xg
open Go.RowKit Go.Xw Go.Proofs
open Go.Xp (Tok Nd T bd one levels)
open Go.Sp
attribute [local irreducible] GW GL GO YG GC GA aW aZ
def cV (t:Tok):List GV:=[.v (ii t.kind),.v (ii t.n),.v (sv t.s),.v (ii t.at_)]
theorem NP (t:Tok):GF Tryz.prog 258 [.agg (cV t)] [] (.v (sv (bd t))) []:=by
 refine aj Tryz.func258 Tryz.ntmps258 ?_;refine GW.cond rfl (fun h=>?_) (fun h=>?_)
 ·refine ae ?_;refine bI ?_
  have h:t.kind≠3:=by simpa using h
  rw [bd,if_neg h];exact ⟨rfl,rfl⟩
 ·refine ae ?_;refine bI ?_
  have h:t.kind=3:=by simpa using h
  rw [bd,if_pos h];exact ⟨rfl,rfl⟩
abbrev ia (l:List Tok):GV:=.sl 4 (l.map cV)
abbrev bU (p:RS):Ob:=.box 184 [ia p.l,.v (ii p.i),.v (ii p.e),.v (ii p.code),.v (ii p.at_)]
theorem jM {l:List Tok} {i:Nat} {t:Tok} (h:l[i]?=some t):(l.map cV)[i]?=some (cV t):=by rw [getElem?_map,h];rfl
theorem kg (p:RS) (hp:p.ok):GF Tryz.prog 223 [.loc 0 0] [bU p] (.v (ii p.place)) [bU p]:=by
 obtain ⟨jX,dz⟩:=hp
 cases ht:p.l[p.i]? with
 | some t =>
  have hr:=jM ht;have ar:p.i < p.l.length:=(List.getElem?_eq_some_iff.1 ht).1
  have hd:decide ((p.i:Int) < ((p.l.map cV).length:Int))=true:=by simpa using ar
  refine aj Tryz.func223 Tryz.ntmps223 ?_;refine aE (aH [0,1,2,3,4,5,6,7,8,9] .nil) ?_;refine ak ?_;refine ae ?_;refine aE (aH [0,1,2,3,4,5,6,7,8,9,10,11] .nil) ?_;refine ak ?_;refine ae ?_;refine bI ?_;rw [RS.place,ht];exact ⟨rfl,rfl⟩
 | none =>
  have ar:p.l.length<=p.i:=List.getElem?_eq_none_iff.1 ht
  have hd:decide ((p.i:Int) < ((p.l.map cV).length:Int))=false:=by simpa using ar
  refine aj Tryz.func223 Tryz.ntmps223 ?_;refine aE (aH [0,1,2,3,4,5,6,7,8,9] .nil) ?_;refine ak ?_;refine ae ?_;refine bI ?_;rw [RS.place,ht];exact ⟨rfl,rfl⟩
end Go.Xg
namespace Go.Xg
open Go.RowKit Go.Xw Go.Proofs
open Go.Xp (Tok Nd T bd one levels)
open Go.Sp
attribute [local irreducible] GW GL GO YG GC GA aW aZ
theorem cS (p:RS) (k:Nat) (hp:p.ok) (hk:k<=1):GF Tryz.prog 225 [.loc 0 0,.v (ii k)] [bU p] (.v (sv (p.sign k))) [bU p]:=by
 obtain ⟨jX,dz⟩:=hp
 by_cases hc:p.code=0
 ·have de:(p.code != 0)=false:=by simpa using hc
  cases ht:p.l[p.i+k]? with
  | some t =>
   have hr:=jM ht;have ar:p.i+k < p.l.length:=(List.getElem?_eq_some_iff.1 ht).1
   have hd:decide (((p.l.map cV).length:Int)<=((p.i+k:Nat):Int))=false:=by simp;omega
   refine aj Tryz.func225 Tryz.ntmps225 ?_;refine aE (aH [0,1,2,3,4,5,6,7,8,9,10,11,12,13,14,15,16,17,18] .nil) ?_;refine ak ?_;refine ae ?_;refine aE (aH [0,1,2,3,4,5,6,7,8,9,10,11] (.a 12 (.q 13 .nil))) ?_;refine ak ?_;refine aC [] (NP t) ?_;refine ae ?_;refine bI ?_;rw [RS.sign,if_pos hc,ht];exact ⟨rfl,rfl⟩
  | none =>
   have ar:p.l.length<=p.i+k:=List.getElem?_eq_none_iff.1 ht
   have hd:decide (((p.l.map cV).length:Int)<=((p.i+k:Nat):Int))=true:=by simp;omega
   refine aj Tryz.func225 Tryz.ntmps225 ?_;refine aE (aH [0,1,2,3,4,5,6,7,8,9,10,11,12,13,14,15,16,17,18] .nil) ?_;refine ak ?_;refine ae ?_;refine bI ?_;rw [RS.sign,if_pos hc,ht];exact ⟨rfl,rfl⟩
 ·have de:(p.code != 0)=true:=by simpa using hc
  refine aj Tryz.func225 Tryz.ntmps225 ?_;refine aE (aH [0,1,2,3,4,5,6,7,8,9,10,11,12,13,14,15,16,17,18] .nil) ?_;refine ak ?_;refine ae ?_;refine bI ?_;rw [RS.sign,if_neg hc];exact ⟨rfl,rfl⟩
theorem lr (p:RS) (c a:Int):GF Tryz.prog 257 [.loc 0 0,.v (ii c),.v (ii a)] [bU p] (.tup []) [bU (p.fail c a)]:=by
 refine aj Tryz.func257 Tryz.ntmps257 ?_;refine GW.cond rfl (fun h=>?_) (fun h=>?_)
 ·refine ae ?_;refine cM ?_
  have h:p.code=0:=by simpa using h
  rw [RS.fail,if_pos h];exact ⟨rfl,rfl⟩
 ·refine ae ?_;refine cM ?_
  have h:¬ p.code=0:=by simpa using h
  rw [RS.fail,if_neg h];exact ⟨rfl,rfl⟩
theorem cR (p:RS) (s:ai) (hp:p.ok) (hs:s≠[]):GF Tryz.prog 224 [.loc 0 0,.v (sv s)] [bU p] (.tup []) [bU (p.aI s)]:=by
 refine aj Tryz.func224 Tryz.ntmps224 ?_;refine gA [0] (cS p 0 hp (by decide)) ?_
 by_cases h:p.sign 0=s
 ·have h':(!(p.sign 0==s))=false:=by simp [h]
  have hl:=(fi h hs).1;obtain ⟨jX,dz⟩:=hp;refine ae ?_;refine cM ?_;rw [RS.aI,if_pos h];exact ⟨rfl,rfl⟩
 ·have h':(!(p.sign 0==s))=true:=by simpa using h
  refine ae ?_;refine ab [0] (kg p hp) ?_;refine ab [0] (lr p 7 p.place) ?_;refine cM ?_;rw [RS.aI,if_neg h];exact ⟨rfl,rfl⟩
end Go.Xg
namespace Go.Xg
open Go.RowKit Go.Xw Go.Proofs
open Go.Xp (Tok Nd T bd one levels)
open Go.Sp
attribute [local irreducible] GW GL GO YG GC GA aW aZ
theorem tq (p:RS) (d:Nat) (hp:p.ok):GF Tryz.prog 221 [.loc 0 0,.v (ii d)] [bU p] (.tup []) [bU (p.deep d)]:=by
 by_cases h:d > 60
 ·have h':decide ((60:Int) < (d:Int))=true:=by simp;omega
  refine aj Tryz.func221 Tryz.ntmps221 ?_;refine ab [0] (kg p hp) ?_;refine ab [0] (lr p 9 p.place) ?_;refine cM ?_;rw [RS.deep,if_pos h];exact ⟨rfl,rfl⟩
 ·have h':decide ((60:Int) < (d:Int))=false:=by simp;omega
  refine aj Tryz.func221 Tryz.ntmps221 ?_;refine cM ?_;rw [RS.deep,if_neg h];exact ⟨rfl,rfl⟩
theorem xl (p:RS) (hp:p.ok):GF Tryz.prog 259 [.loc 0 0] [bU p] (.v (sv p.name.1)) [bU p.name.2]:=by
 obtain ⟨jX,dz⟩:=id hp
 by_cases hc:p.code=0
 ·have de:(p.code != 0)=false:=by simpa using hc
  cases ht:p.l[p.i]? with
  | some t =>
   have hr:=jM ht;have ar:p.i < p.l.length:=(List.getElem?_eq_some_iff.1 ht).1
   have hd:decide (((p.l.map cV).length:Int)<=(p.i:Int))=false:=by simp;omega
   by_cases hk:t.kind=2
   ·have kR:(t.kind != 2)=false:=by simpa using hk
    by_cases hs:t.s.length > 12
    ·have nE:decide ((12:Int) < (t.s.length:Int))=true:=by simp;omega
     refine aj Tryz.func259 Tryz.ntmps259 ?_;refine aE (aH [0,1,2,3,4,5,6,7,8,9,10,11,12,13,14,15,16,17,18,19,20,21,22,23] .nil) ?_;refine ak ?_;refine ae ?_;refine aE (aH [0,1,2,3,4,5,6,7,8,9] (.a 10 (.a 11 .nil))) ?_;refine ak ?_;refine ae ?_;refine ab [0] (lr p 8 t.at_) ?_;refine bI ?_;rw [RS.name,if_pos hc,ht];simp only [if_pos hk,if_pos hs];exact ⟨rfl,rfl⟩
    ·have nE:decide ((12:Int) < (t.s.length:Int))=false:=by simp;omega
     refine aj Tryz.func259 Tryz.ntmps259 ?_;refine aE (aH [0,1,2,3,4,5,6,7,8,9,10,11,12,13,14,15,16,17,18,19,20,21,22,23] .nil) ?_;refine ak ?_;refine ae ?_;refine aE (aH [0,1,2,3,4,5,6,7,8,9] (.a 10 (.a 11 .nil))) ?_;refine ak ?_;refine ae ?_;refine bI ?_;rw [RS.name,if_pos hc,ht];simp only [if_pos hk,if_neg hs];exact ⟨rfl,rfl⟩
   ·have kR:(t.kind != 2)=true:=by simpa using hk
    refine aj Tryz.func259 Tryz.ntmps259 ?_;refine aE (aH [0,1,2,3,4,5,6,7,8,9,10,11,12,13,14,15,16,17,18,19,20,21,22,23] .nil) ?_;refine ak ?_;refine ae ?_;refine ab [0] (kg p hp) ?_;refine ab [0] (lr p 7 p.place) ?_;refine bI ?_;rw [RS.name,if_pos hc,ht];simp only [if_neg hk];exact ⟨rfl,rfl⟩
  | none =>
   have ar:p.l.length<=p.i:=List.getElem?_eq_none_iff.1 ht
   have hd:decide (((p.l.map cV).length:Int)<=(p.i:Int))=true:=by simp;omega
   refine aj Tryz.func259 Tryz.ntmps259 ?_;refine aE (aH [0,1,2,3,4,5,6,7,8,9,10,11,12,13,14,15,16,17,18,19,20,21,22,23] .nil) ?_;refine ak ?_;refine ae ?_;refine ab [0] (kg p hp) ?_;refine ab [0] (lr p 7 p.place) ?_;refine bI ?_;rw [RS.name,if_pos hc,ht];exact ⟨rfl,rfl⟩
 ·have de:(p.code != 0)=true:=by simpa using hc
  refine aj Tryz.func259 Tryz.ntmps259 ?_;refine bI ?_;rw [RS.name,if_neg hc];exact ⟨rfl,rfl⟩
abbrev ints (l:List Int):GV:=.sl 1 (l.map fun i=>[.v (ii i)])
abbrev strs (l:List ai):GV:=.sl 1 (l.map fun s=>[.v (sv s)])
mutual
def SW:T->List GV
 | .mk n k=>[.v (ii n.kind),.v (ii n.at_),.v (ii n.n),.v (sv n.s),ints n.kids,.sl 6 (aP k)]
def aP:List T->List (List GV)
 | []=>[]
 | t::r=>SW t::aP r
end
abbrev cT (t:T):List GV:=[.v (ii t.n.kind),.v (ii t.n.at_),.v (ii t.n.n),.v (sv t.n.s),ints t.n.kids,.sl 6 (aP t.kids)]
theorem uj (t:T):SW t=cT t:=by
 cases t;rfl
theorem fK (k a:Int) (s:ai) (l:List T) (rows:List (List GV)) (h:aP l=rows):GF Tryz.prog 222 [.v (ii k),.v (ii a),.v (sv s),.sl 6 rows] [] (.agg (cT (one k a s l))) []:=by
 subst h;refine aj Tryz.func222 Tryz.ntmps222 ?_;refine qo ?_;exact ⟨_,iM,rfl,rfl⟩
theorem jc:GF Tryz.prog 276 [] [] (.sl 1 (levels.map fun l=>[strs l])) []:=by
 refine aj Tryz.func276 Tryz.ntmps276 ?_
 iterate 10 (refine bE ?_)
 exact aw
theorem Dn {xs:List ai} {k:Nat} {s x:ai} (h:xs[k]?=some x):(xs.take (k+1)).contains s=((xs.take k).contains s || (x==s)):=by
 rw [take_add_one,h,List.contains_append];show (_ || [x].contains s)=_
 congr 1
 rw [List.contains_cons,List.contains_nil,Bool.or_false];exact Bool.beq_comm
theorem iP (xs:List ai) (s:ai) (hl:xs.length<=1099511627776):GF Tryz.prog 74 [strs xs,.v (sv s)] [] (.v (.bool (xs.contains s))) []:=by
 refine aj Tryz.func74 Tryz.ntmps74 ?_;refine GW.range (xs.map fun s=>[GV.v (sv s)]).length (fun k fr Γ=>fr=[strs xs,.v (sv s),.U,.U,.U,.U,.U,strs xs,.v (ii ((xs.map fun s=>[GV.v (sv s)]).length:Int)),.v (ii k),.U,.U,.U,.U,.U,.U,.U]/\Γ=[]/\(xs.take k).contains s=false) ?_ (by simpa using hl) ?_ ?_ ?_
 ·exact ⟨_,_,Wk.ax ao,rfl,rfl,rfl⟩
 ·rintro k _ _ ⟨rfl,rfl,_⟩;exact ⟨rfl,rfl,rfl⟩
 ·rintro k _ _ ar ⟨rfl,rfl,hc⟩
  have ar:k < xs.length:=by simpa using ar
  have hx:xs[k]?=some xs[k]:=by simp [ar]
  have hr:(xs.map fun s=>[GV.v (sv s)])[k]?=some [.v (sv xs[k])]:=by simp [ar]
  have eV:=Dn (s:=s) hx;refine ae ?_;refine GW.cond rfl (fun h2=>?_) (fun h2=>?_)
  ·refine ae ?_;refine bI ?_
   have h3:xs[k]=s:=by simpa using h2
   have:s∈xs:=by rw [<-h3];exact getElem_mem _
   refine ⟨?_,rfl⟩;show GV.v (.bool true)=_;rw [List.contains_iff_mem.2 this]
  ·refine ae ?_;exact ⟨rfl,rfl,_,_,Wk.ax ao,rfl,rfl,by rw [eV,hc,h2];rfl⟩
 ·rintro _ _ ⟨rfl,rfl,hc⟩;refine ae ?_;refine bI ?_
  have hc:xs.contains s=false:=by simpa using hc
  refine ⟨?_,rfl⟩;show GV.v (.bool false)=_;rw [hc]
end Go.Xg
namespace Go.Xg
open Go.RowKit Go.Xw
section
variable {P:Program} {m:Nat} {Q:dH} {fr:List GV} {Γ:List Ob}
theorem GW.QP {c y:Code} {B:Nat} (K:List GV->List Ob->Prop) (h1:GW P m c (aZ B (aW (ym m K) Q)) fr Γ) (h2:∀ fr Γ,K fr Γ->GW P m y Q fr Γ):GW P m c (aZ B (aW (GW P m y Q) Q)) fr Γ:=by
 refine h1.mono fun e fr Γ hq=>?_
 have key:∀ fr Γ,ym m K fr Γ->GW P m y Q fr Γ:=fun fr Γ ⟨bV,aJ,hw,hk⟩=>GW.wk hw (h2 _ _ hk)
 cases e with
 | normal=>exact key _ _ hq
 | exit n =>
  simp only [aZ] at hq |-;split
  ·rename_i hn;rw [if_pos hn] at hq;exact key _ _ hq
  ·rename_i hn;rw [if_neg hn] at hq;exact hq
 | _=>exact hq
end
section
variable {P:Program} {fn:Func} {m:Nat} {R:GV->List Ob->Prop} {fr:List GV} {Γ:List Ob} {e:Exit}
theorem VD {n:Nat} {t u:Tmp} {T:TypeId} {k:Nat} [hT:Ty P T true k] {i:Nat} {E:TypeId} {cs:List GV} {g:GV} (hr:fn.results=#[.cell t T,.tmp u]) (he:e=.normal\/e=.ret) (hg:cq fr t=.loc i 0) (bu:Γ[i]?=some (.box E cs)) (hk:cs.length=k) (fQ:cq fr u=g)
  (hm:m<=n) (hl:yQ n (Γ.take n)=true) (jU:(GV.tup [.agg cs,g]).lt n=true) (h:R (.tup [.agg cs,g]) (Γ.take n)):r7 P fn m R e fr Γ :=
 ⟨he,fun B K β w l hB hI hF=>by
  obtain ⟨b,vs,h1,h2,h3,h4⟩:=hI.ob i _ bu
  have hp:nth l t=.pointer (some ⟨b,0,none⟩):=by
   have:=hF.nth t;rw [hg] at this;generalize nth l t=v at this
   cases this with
   | loc _ _ b' bj=>rw [h1] at bj;cases bj;rfl
  have kH:l.toArray.getD t undef=.pointer (some ⟨b,0,none⟩):=by rw [jt,hp]
  have Ex:=mR (P:=P) (w:=w) (t:=T) (b:=b) (o:=0) (vs:=vs) (k:=k) (by rw [h3.1,hk]) (fun j v hj=>by
   rw [Nat.zero_add,cell_of_row w b j _ E (0,0) h2];simpa using hj)
  have zn:l[t]?.getD undef=.pointer (some ⟨b,0,none⟩):=by simpa using kH
  refine ⟨.tuple #[.agg vs.toArray,nth l u],K,eZ (below n) β,.tup [.agg cs,g],Γ.take n,?_,hI.cut ah hl,?_,h⟩
  ·rw [<-jt l u];simp [results,hr,zn,asAddr,Ex]
  ·refine Rel.res ?_ jU;subst fQ;have hc:aY K β [.agg vs.toArray,nth l u] [.agg cs,cq fr u]:=.cons (.agg vs cs h3.1 h3.2) (.cons (hF.nth u) .nil)
   exact .tup _ _ hc.1 hc.2⟩
theorem LG {n:Nat} {t u s:Tmp} {T:TypeId} {k:Nat} [hT:Ty P T true k] {i:Nat} {E:TypeId} {cs:List GV} {g g':GV} (hr:fn.results=#[.cell t T,.tmp u,.tmp s]) (he:e=.normal\/e=.ret) (hg:cq fr t=.loc i 0) (bu:Γ[i]?=some (.box E cs)) (hk:cs.length=k) (fQ:cq fr u=g) (Zi:cq fr s=g')
  (hm:m<=n) (hl:yQ n (Γ.take n)=true) (jU:(GV.tup [.agg cs,g,g']).lt n=true) (h:R (.tup [.agg cs,g,g']) (Γ.take n)):r7 P fn m R e fr Γ :=
 ⟨he,fun B K β w l hB hI hF=>by
  obtain ⟨b,vs,h1,h2,h3,h4⟩:=hI.ob i _ bu
  have hp:nth l t=.pointer (some ⟨b,0,none⟩):=by
   have:=hF.nth t;rw [hg] at this;generalize nth l t=v at this
   cases this with
   | loc _ _ b' bj=>rw [h1] at bj;cases bj;rfl
  have kH:l.toArray.getD t undef=.pointer (some ⟨b,0,none⟩):=by rw [jt,hp]
  have Ex:=mR (P:=P) (w:=w) (t:=T) (b:=b) (o:=0) (vs:=vs) (k:=k) (by rw [h3.1,hk]) (fun j v hj=>by
   rw [Nat.zero_add,cell_of_row w b j _ E (0,0) h2];simpa using hj)
  have zn:l[t]?.getD undef=.pointer (some ⟨b,0,none⟩):=by simpa using kH
  refine ⟨.tuple #[.agg vs.toArray,nth l u,nth l s],K,eZ (below n) β,.tup [.agg cs,g,g'],Γ.take n,?_,hI.cut ah hl,?_,h⟩
  ·rw [<-jt l u,<-jt l s];simp [results,hr,zn,asAddr,Ex]
  ·refine Rel.res ?_ jU;subst fQ Zi;have hc:aY K β [.agg vs.toArray,nth l u,nth l s] [.agg cs,cq fr u,cq fr s]:=.cons (.agg vs cs h3.1 h3.2) (.cons (hF.nth u) (.cons (hF.nth s) .nil))
   exact .tup _ _ hc.1 hc.2⟩
end
end Go.Xg
namespace Go.Xg
open Go.RowKit Go.Xw Go.Proofs
open Go.Xp (Tok Nd T bd one levels)
open Go.Sp
attribute [local irreducible] GW GL GO YG GC GA aW aZ
abbrev Cn (c:UInt8):GV:=.v (.int .u8 (c.toNat:Int))
theorem vy (c:UInt8):GF Tryz.prog 144 [Cn c] [] (.v (.bool (small c))) []:=by
 unfold small;refine da Tryz.func144 Tryz.ntmps144 ?_
 cases h:decide ((97:Int)<=(c.toNat:Int))
 all_goals
  exact aw
theorem vw (c:UInt8):GF Tryz.prog 185 [Cn c] [] (.v (.bool (dO c))) []:=by
 unfold dO;refine da Tryz.func185 Tryz.ntmps185 ?_
 cases h:decide ((48:Int)<=(c.toNat:Int))
 all_goals
  exact aw
theorem CU (c:UInt8):GF Tryz.prog 143 [Cn c] [] (.v (.bool (dG c))) []:=by
 unfold dG;have hs:=vy c;have hd:=vw c;generalize small c=b1 at *;generalize dO c=b2 at *;refine aj Tryz.func143 Tryz.ntmps143 ?_;refine gA [] (hs) ?_
 cases b1 with
 | true =>
  exact aw
 | false =>
  cases h1:decide ((65:Int)<=(c.toNat:Int)) with
  | true =>
   cases h2:decide ((c.toNat:Int)<=90) with
   | true =>
    exact aw
   | false =>
    refine ae ?_;refine gA [] (hd) ?_
    cases b2 with
    | true =>
     exact aw
    | false =>
     exact aw
  | false =>
   refine ae ?_;refine gA [] (hd) ?_
   cases b2 with
   | true =>
    exact aw
   | false =>
    exact aw
theorem n8 (s t:ai) (a:Nat) (hs:s.length<=1152921504606846976) (ht:t.length<=1152921504606846976) (ha:a<=1152921504606846976) :
  GF Tryz.prog 254 [.v (sv s),.v (ii (a:Nat)),.v (sv t)] [] (.v (.bool (br s a t))) []:=by
 by_cases h:a+t.length<=s.length
 ·have h':decide (((a+t.length:Nat):Int)<=(s.length:Int))=true:=by simpa using by omega
  refine aj Tryz.func254 Tryz.ntmps254 ?_;refine bI ?_;unfold br;rw [decide_eq_true h];exact ⟨rfl,rfl⟩
 ·have h':decide (((a+t.length:Nat):Int)<=(s.length:Int))=false:=by simpa using by omega
  refine aj Tryz.func254 Tryz.ntmps254 ?_;refine bI ?_;unfold br;rw [decide_eq_false h];exact ⟨rfl,rfl⟩
theorem M6 (s:ai) (a:Nat) (hs:s.length<=1099511627776) (ha:a<=s.length) :
  GF Tryz.prog 219 [.v (sv s),.v (ii (a:Nat))] [] (.tup [.v (ii ((skip s (s.length+1) a).1:Nat)),.v (ii (skip s (s.length+1) a).2)]) []:=by
 generalize hR:skip s (s.length+1) a=R;refine aj Tryz.func219 Tryz.ntmps219 ?_;refine GW.loop (fun x:Nat × Nat=>x.1) (fun x fr Γ=>fr=[.v (sv s),.v (ii (x.2:Nat)),.U,.U,.U,.U,.U,.U,.U,.U,.U,.U,.U,.U,.U,.U,.U,.U,.U,.U,.U,.U,.U,.U,.U,.U,.U,.U,.U,.U,.U,.U,.U,.U,.U,.U,.U,.U,.U,.U,.U,.U,.U,.U,.U,.U,.U,.U,.U,.U,.U,.U,.U,.U,.U,.U,.U,.U,.U,.U,.U,.U,.U]/\Γ=[]/\x.2<=s.length/\s.length < x.1+x.2/\skip s x.1 x.2=R) (s.length+1,a) ?_ ?_
 ·exact ⟨_,_,Wk.ax ao,rfl,rfl,ha,by simp;omega,hR⟩
 ·rintro ⟨f,a⟩ _ _ ⟨rfl,rfl,ha,hf,h⟩;simp only at ha hf h
  cases f with
  | zero=>omega
  | succ f =>
  rw [skip] at h
  cases hc:s[a]? with
  | none =>
   rw [hc] at h;simp only at h;subst h;have kQ:s.length<=a:=List.getElem?_eq_none_iff.1 hc
   have hd:decide ((a:Int) < (s.length:Int))=false:=by simpa using kQ
   refine ae ?_;refine aX ?_;exact qm
  | some c =>
   rw [hc] at h;simp only at h;have ar:a < s.length:=(List.getElem?_eq_some_iff.1 hc).1
   have hd:decide ((a:Int) < (s.length:Int))=true:=by simpa using ar
   have hb:dv c=(((c.toNat:Int)==32) || ((c.toNat:Int)==9) || ((c.toNat:Int)==10) || ((c.toNat:Int)==13)):=rfl
   by_cases mi:dv c=true
   ·rw [if_pos mi] at h;rw [hb] at mi;have EM:((c.toNat:Int)==32)=true\/(((c.toNat:Int)==32)=false/\((c.toNat:Int)==9)=true)\/(((c.toNat:Int)==32)=false/\((c.toNat:Int)==9)=false/\((c.toNat:Int)==10)=true) \/
      (((c.toNat:Int)==32)=false/\((c.toNat:Int)==9)=false/\((c.toNat:Int)==10)=false/\((c.toNat:Int)==13)=true):=by
     generalize ((c.toNat:Int)==32)=b1 at *;generalize ((c.toNat:Int)==9)=b2 at *;generalize ((c.toNat:Int)==10)=b3 at *;generalize ((c.toNat:Int)==13)=b4 at *;clear hb
     revert mi;cases b1 <;> cases b2 <;> cases b3 <;> cases b4 <;> simp
    clear hb mi
    rcases EM with k1 | ⟨k1,k2⟩ | ⟨k1,k2,k3⟩ | ⟨k1,k2,k3,k4⟩
    all_goals
     refine ae ?_;refine aX ?_;exact ⟨(f,a+1),⟨_,_,Wk.ax ao,rfl,rfl,by simp only;omega,by simp only;omega,h⟩,by simp⟩
   ·rw [if_neg mi] at h;rw [hb] at mi
    have EM:((c.toNat:Int)==32)=false/\((c.toNat:Int)==9)=false/\((c.toNat:Int)==10)=false/\((c.toNat:Int)==13)=false:=by
     generalize ((c.toNat:Int)==32)=b1 at *;generalize ((c.toNat:Int)==9)=b2 at *;generalize ((c.toNat:Int)==10)=b3 at *;generalize ((c.toNat:Int)==13)=b4 at *;clear hb
     revert mi;cases b1 <;> cases b2 <;> cases b3 <;> cases b4 <;> simp
    clear hb mi;obtain ⟨k1,k2,k3,k4⟩:=EM
    by_cases mK:br s a [47,42]=true
    ·rw [if_pos mK] at h;have mi:=iX mK;have mi:a+2<=s.length:=mi
     have wY:(!br s a [47,42])=false:=by rw [mK];rfl
     try simp only at h
     generalize he:eI s s.length (a+2)=e at h;refine ae ?_;refine ab [] (n8 s [47,42] a ah (by decide) ah) ?_;have LW:=qv s s.length (a+2) ah ah;have Eo:=rv s s.length (a+2) ah;rw [he] at LW Eo;refine GW.QP (fun fr Γ=>fr=[.v (sv s),.v (ii (a:Nat)),.U,.U,.U,.U,.v (ii (e:Nat)),.U,.U,.U,.U,.U,.U,.U,.U,.U,.U,.U,.U,.U,.U,.U,.U,.U,.U,.U,.U,.U,.U,.U,.U,.U,.U,.U,.U,.U,.U,.U,.U,.U,.U,.U,.U,.U,.U,.U,.U,.U,.U,.U,.U,.U,.U,.U,.U,.U,.U,.U,.U,.U,.U,.U,.U]/\Γ=[]) ?_ ?_
     ·refine GW.loop (fun x:Nat × Nat=>x.1) (fun x fr Γ=>fr=[.v (sv s),.v (ii (a:Nat)),.U,.U,.U,.U,.v (ii (x.2:Nat)),.U,.U,.U,.U,.U,.U,.U,.U,.U,.U,.U,.U,.U,.U,.U,.U,.U,.U,.U,.U,.U,.U,.U,.U,.U,.U,.U,.U,.U,.U,.U,.U,.U,.U,.U,.U,.U,.U,.U,.U,.U,.U,.U,.U,.U,.U,.U,.U,.U,.U,.U,.U,.U,.U,.U,.U]/\Γ=[]/\x.2<=s.length/\eI s x.1 x.2=e) (s.length,a+2) ?_ ?_
      ·exact ⟨_,_,Wk.ax ao,rfl,rfl,by simp only;omega,he⟩
      ·rintro ⟨g,e'⟩ _ _ ⟨rfl,rfl,hle,sc⟩;simp only at hle sc
       by_cases hstop:e' < s.length
       ·have db:decide ((e':Int) < (s.length:Int))=true:=by simpa using hstop
        cases oG:br s e' [42,47] with
        | true =>
         have XB:(!br s e' [42,47])=false:=by rw [oG];rfl
         have wc:e'=e:=by
          cases g with
          | zero=>exact sc
          | succ g=>rw [eI,if_neg (by rw [oG];simp)] at sc;exact sc
         subst wc;refine ae ?_;refine ab [] (n8 s [42,47] e' ah (by decide) ah) ?_;refine aX ?_;exact ⟨_,_,Wk.ax ao,rfl,rfl⟩
        | false =>
         have XB:(!br s e' [42,47])=true:=by rw [oG];rfl
         cases g with
         | zero=>exact absurd ⟨by rw [<-sc];exact hstop,by rw [<-sc];exact oG⟩ LW
         | succ g =>
          rw [eI,if_pos ⟨hstop,oG⟩] at sc;refine ae ?_;refine ab [] (n8 s [42,47] e' ah (by decide) ah) ?_;exact ⟨(g,e'+1),⟨_,_,Wk.ax ao,rfl,rfl,hstop,sc⟩,by simp⟩
       ·have db:decide ((e':Int) < (s.length:Int))=false:=by simp;omega
        have wc:e'=e:=by
         cases g with
         | zero=>exact sc
         | succ g=>rw [eI,if_neg (fun hh=>hstop hh.1)] at sc;exact sc
        subst wc;refine ae ?_;refine aX ?_;exact ⟨_,_,Wk.ax ao,rfl,rfl⟩
     ·rintro _ _ ⟨rfl,rfl⟩
      by_cases hle:s.length<=e
      ·rw [if_pos hle] at h
       have XR:decide ((s.length:Int)<=(e:Int))=true:=by simpa using hle
       subst h;exact qm
      ·rw [if_neg hle] at h
       have XR:decide ((s.length:Int)<=(e:Int))=false:=by simp;omega
       have oG:br s e [42,47]=true:=by
        cases oG:br s e [42,47] with
        | true=>rfl
        | false=>exact absurd ⟨by omega,oG⟩ LW
       have oG:=iX oG;have oG:e+2<=s.length:=oG;refine ae ?_;refine aX ?_;exact ⟨(f,e+2),⟨_,_,Wk.ax ao,rfl,rfl,oG,by simp only;omega,h⟩,by simp⟩
    ·rw [if_neg mK] at h
     have wY:(!br s a [47,42])=true:=by simpa using mK
     subst h;refine ae ?_;refine ab [] (n8 s [47,42] a ah (by decide) ah) ?_;exact lJ
end Go.Xg
namespace Go.Xg
open Go.RowKit Go.Xw Go.Proofs
open Go.Xp (Tok Nd T bd one levels)
open Go.Sp
attribute [local irreducible] GW GL GO YG GC GA aW aZ
theorem vz:GF Tryz.prog 115 [] [] (strs words) []:=by
 refine aj Tryz.func115 Tryz.ntmps115 ?_;refine bE ?_;exact aw
theorem Jz:GF Tryz.prog 256 [] [] (strs bD) []:=by
 refine aj Tryz.func256 Tryz.ntmps256 ?_;refine bE ?_;exact aw
theorem Mt (s:ai) (hs:s.length<=1099511627776):GF Tryz.prog 114 [.v (sv s)] [] (.v (.bool (word s))) []:=by
 refine aj Tryz.func114 Tryz.ntmps114 ?_;refine GW.loop (fun a:Nat=>s.length - a) (fun a fr Γ=>fr=[.v (sv s),.U,.U,.v (ii (a:Nat)),.U,.U,.U,.U,.U,.U,.U,.U,.U,.U,.U,.U,.U,.U,.U,.U,.U,.U]/\Γ=[]/\a<=s.length/\(s.take a).all dG=true) 0 ?_ ?_
 ·exact ⟨_,_,Wk.ax ao,rfl,rfl,Nat.zero_le _,rfl⟩
 ·rintro a _ _ ⟨rfl,rfl,ha,aR⟩
  cases hc:s[a]? with
  | some c =>
   have ar:a < s.length:=(List.getElem?_eq_some_iff.1 hc).1
   have hd:decide ((a:Int) < (s.length:Int))=true:=by simpa using ar
   have bt:(s.take (a+1)).all dG=((s.take a).all dG&&dG c):=by
    rw [take_add_one,hc,List.all_append];simp
   have hp:=CU c
   cases hn:dG c with
   | true =>
    rw [hn] at hp;refine ae ?_;refine ab [] (hp) ?_;exact ⟨a+1,⟨_,_,Wk.ax ao,rfl,rfl,ar,by rw [bt,aR,hn];rfl⟩,by omega⟩
   | false =>
    rw [hn] at hp;refine ae ?_;refine ab [] (hp) ?_;refine bI ?_;refine ⟨?_,rfl⟩
    have hw:word s=false:=by
     have:s.all dG=false:=by
      rw [List.all_eq_false];exact ⟨c,mem_of_getElem? hc,by rw [hn];decide⟩
     unfold word;rw [this];rfl
    rw [hw];rfl
  | none =>
   have kQ:s.length<=a:=List.getElem?_eq_none_iff.1 hc
   have hd:decide ((a:Int) < (s.length:Int))=false:=by simpa using kQ
   have aR:s.all dG=true:=by rw [take_of_length_le kQ] at aR;exact aR
   cases s with
   | nil =>
    refine ae ?_;refine aX ?_;exact aw
   | cons c r =>
    have hr:(c::r)[0]?=some c:=rfl;refine ae ?_;refine aX ?_;refine ae ?_;refine ab [] (vy c) ?_;refine bI ?_;refine ⟨?_,rfl⟩;unfold word;rw [aR];rfl
theorem dS (s:ai) (hs:s.length<=1099511627776):GF Tryz.prog 71 [.v (sv s)] [] (.v (.bool (bh s))) []:=by
 have hw:=Mt s hs;unfold bh;generalize word s=b at *;refine aj Tryz.func71 Tryz.ntmps71 ?_;refine gA [] (hw) ?_
 cases b with
 | false =>
  exact aw
 | true =>
  by_cases nB:s.length<=12
  ·have Xt:decide ((s.length:Int)<=12)=true:=by simpa using by omega
   refine ae ?_;refine ab [] (vz) ?_;refine ab [] (iP words s (by decide)) ?_;refine bI ?_;rw [decide_eq_true nB];exact ⟨rfl,rfl⟩
  ·have Xt:decide ((s.length:Int)<=12)=false:=by simpa using by omega
   refine ae ?_;refine bI ?_;rw [decide_eq_false nB];exact ⟨rfl,rfl⟩
end Go.Xg
namespace Go.Xg
open Go.RowKit Go.Xw Go.Proofs
open Go.Xp (Tok Nd T bd one levels)
open Go.Sp
attribute [local irreducible] GW GL GO YG GC GA aW aZ
theorem Gv (s:ai) (a:Nat) (hs:s.length<=1099511627776) (ha:a<=s.length) :
  GF Tryz.prog 255 [.v (sv s),.v (ii (a:Nat))] [] (.tup [.agg (cV ⟨1,(number s (s.length+1) 0 a).1,[],a⟩),.v (ii ((number s (s.length+1) 0 a).2:Nat))]) []:=by
 generalize hR:number s (s.length+1) 0 a=R;generalize ha0:a=a0 at *;refine aj Tryz.func255 Tryz.ntmps255 ?_;refine GW.loop (fun x:Nat × Int × Nat=>x.1) (fun x fr Γ=>fr=[.v (sv s),.v (ii (x.2.2:Nat)),.U,.U,.loc 0 0,.U,.loc 1 0,.U,.U,.U,.U,.U,.U,.U,.U,.U,.U,.U,.U,.U,.U,.U,.U,.U,.U,.U,.U,.U,.U,.U,.U,.U,.U,.U,.U,.U]/\Γ=[.box 203 [.v (ii 0),.v (ii 0),.v (sv []),.v (ii 0)],.box 203 (cV ⟨1,x.2.1,[],a0⟩)]/\x.2.2<=s.length/\s.length < x.1+x.2.2/\number s x.1 x.2.1 x.2.2=R/\0<=x.2.1/\x.2.1<=21474836479) (s.length+1,0,a0) ?_ ?_
 ·exact ⟨_,_,Wk.ax ao,rfl,rfl,by simp only;omega,by simp only;omega,by rw [<-hR],by simp,by simp⟩
 ·rintro ⟨f,n,a⟩ _ _ ⟨rfl,rfl,ha,hf,h,CI,EA⟩;simp only at ha hf h CI EA
  cases f with
  | zero=>omega
  | succ f =>
  rw [number] at h
  cases hc:s[a]? with
  | none =>
   rw [hc] at h;simp only at h;subst h;have kQ:s.length<=a:=List.getElem?_eq_none_iff.1 hc
   have hd:decide ((a:Int) < (s.length:Int))=false:=by simpa using kQ
   refine ae ?_;refine aX ?_;refine ae ?_;refine oA ?_;exact ⟨rfl,rfl⟩
  | some c =>
   rw [hc] at h;simp only at h;have ar:a < s.length:=(List.getElem?_eq_some_iff.1 hc).1
   have hd:decide ((a:Int) < (s.length:Int))=true:=by simpa using ar
   have lO:=vw c
   cases hdc:dO c with
   | false =>
    rw [hdc] at lO;rw [if_neg (by rw [hdc];simp)] at h;subst h;refine ae ?_;refine ab [] (lO) ?_;refine aX ?_;refine ae ?_;refine oA ?_;exact ⟨rfl,rfl⟩
   | true =>
    rw [hdc] at lO;rw [if_pos hdc] at h
    have xd:(48:Int)<=(c.toNat:Int)/\(c.toNat:Int)<=57:=by
     simp only [dO,Bool.and_eq_true,decide_eq_true_eq] at hdc;exact hdc
    by_cases hn:n<=2147483647
    ·rw [if_pos hn] at h
     have Al:decide (n<=2147483647)=true:=by simpa using hn
     refine ae ?_;refine ab [] (lO) ?_;refine aE (aH [0,1,2,3,4,5,6,7,8,9] (.a 10 .nil)) ?_;refine ak ?_;refine ae ?_;exact ⟨(f,n * 10+((c.toNat:Int) - 48),a+1),⟨_,_,Wk.ax ao,rfl,rfl,ar,by simp only;omega,h,by simp only;omega,by simp only;omega⟩,by simp⟩
    ·rw [if_neg hn] at h
     have Al:decide (n<=2147483647)=false:=by simpa using hn
     refine ae ?_;refine ab [] (lO) ?_;exact ⟨(f,n,a+1),⟨_,_,Wk.ax ao,rfl,rfl,ar,by simp only;omega,h,CI,EA⟩,by simp⟩
end Go.Xg
namespace Go.Xg
open Go.RowKit Go.Xw Go.Proofs
open Go.Xp (Tok Nd T bd one levels)
open Go.Sp
attribute [local irreducible] GW GL GO YG GC GA aW aZ
theorem Lo {xs:List ai} {p:ai->Bool} {k:Nat} {x:ai} (h:(xs.take k).find? p=none) (hx:xs[k]?=some x) (hp:p x=true):xs.find? p=some x:=by
 have ar:=(List.getElem?_eq_some_iff.1 hx).1
 have:xs=xs.take k++x::xs.drop (k+1):=by
  have h1:=List.take_append_drop k xs;rw [List.drop_eq_getElem_cons ar] at h1;rw [(List.getElem?_eq_some_iff.1 hx).2] at h1;exact h1.symm
 rw [this,List.find?_append,h];simp [List.find?_cons,hp]
theorem Ln {xs:List ai} {p:ai->Bool} {k:Nat} {x:ai} (h:(xs.take k).find? p=none) (hx:xs[k]?=some x) (hp:p x=false):(xs.take (k+1)).find? p=none:=by
 rw [take_add_one,hx,List.find?_append,h];simp [List.find?_cons,hp]
theorem GZ:∀ x∈bD,x.length<=1152921504606846976:=by decide
theorem O3 (s:ai) (a:Nat) (c:UInt8) (hs:s.length<=1099511627776) (hc:s[a]?=some c) :
  GF Tryz.prog 220 [.v (sv s),.v (ii (a:Nat))] [] (.tup [.agg (cV (iq s a c).1),.v (ii ((iq s a c).2:Nat))]) []:=by
 have ar:a < s.length:=(List.getElem?_eq_some_iff.1 hc).1;have lO:=vw c;have iD:=vy c;unfold iq
 cases hdc:dO c with
 | true =>
  rw [hdc] at lO;rw [if_pos rfl];refine aj Tryz.func220 Tryz.ntmps220 ?_;refine ab [] (lO) ?_;refine ab [] (Gv s a hs ah) ?_;refine oA ?_;exact ⟨rfl,rfl⟩
 | false =>
  rw [hdc] at lO;rw [if_neg (by decide)]
  cases hsc:small c with
  | true =>
   rw [hsc] at iD;rw [if_pos rfl];have WV:=oS s dG (s.length+1) a ah ah;have W0:(s.take (ek s a)).drop a=eR s a:=rfl;have TH:run s dG (s.length+1) a=ek s a:=rfl;rw [TH] at WV;generalize he:ek s a=e at *;generalize hw:eR s a=w at *;have hw:=W0;have he:=TH;refine aj Tryz.func220 Tryz.ntmps220 ?_;refine ab [] (lO) ?_;refine ab [] (iD) ?_;refine GW.QP (fun fr Γ=>fr=[.v (sv s),.v (ii (a:Nat)),.U,.U,.loc 0 0,.U,.v (ii (e:Nat)),.U,.U,.U,.U,.U,.U,.U,.U,.U,.U,.U,.U,.U,.U,.U,.U,.U,.U,.U,.U,.U,.U,.U,.U,.U,.U,.U,.U,.U,.U,.U,.U,.U,.U,.U,.U,.U,.U,.U,.U,.U,.U,.U,.U,.U,.U,.U,.U,.U,.U,.U,.U,.U,.U,.U,.U,.U,.U,.U,.U,.U,.U]/\Γ=[.box 203 [.v (ii 0),.v (ii 0),.v (sv []),.v (ii 0)]]) ?_ ?_
   ·refine GW.loop (fun x:Nat × Nat=>x.1) (fun x fr Γ=>fr=[.v (sv s),.v (ii (a:Nat)),.U,.U,.loc 0 0,.U,.v (ii (x.2:Nat)),.U,.U,.U,.U,.U,.U,.U,.U,.U,.U,.U,.U,.U,.U,.U,.U,.U,.U,.U,.U,.U,.U,.U,.U,.U,.U,.U,.U,.U,.U,.U,.U,.U,.U,.U,.U,.U,.U,.U,.U,.U,.U,.U,.U,.U,.U,.U,.U,.U,.U,.U,.U,.U,.U,.U,.U,.U,.U,.U,.U,.U,.U]/\Γ=[.box 203 [.v (ii 0),.v (ii 0),.v (sv []),.v (ii 0)]]/\x.2<=s.length/\s.length < x.1+x.2/\run s dG x.1 x.2=e) (s.length+1,a) ?_ ?_
    ·exact ⟨_,_,Wk.ax ao,rfl,rfl,by simp only;omega,by simp only;omega,he⟩
    ·rintro ⟨f,b⟩ _ _ ⟨rfl,rfl,hb,hf,h⟩;simp only at hb hf h
     cases f with
     | zero=>omega
     | succ f =>
     rw [run] at h
     cases yA:s[b]? with
     | none =>
      rw [yA] at h;simp only at h;subst h;have kQ:s.length<=b:=List.getElem?_eq_none_iff.1 yA
      have hd:decide ((b:Int) < (s.length:Int))=false:=by simpa using kQ
      refine ae ?_;refine aX ?_;exact ⟨_,_,Wk.ax ao,rfl,rfl⟩
     | some cb =>
      rw [yA] at h;simp only at h;have pd:b < s.length:=(List.getElem?_eq_some_iff.1 yA).1
      have hd:decide ((b:Int) < (s.length:Int))=true:=by simpa using pd
      have hp:=CU cb
      cases hn:dG cb with
      | true =>
       rw [hn] at hp;rw [if_pos hn] at h;refine ae ?_;refine ab [] (hp) ?_;exact ⟨(f,b+1),⟨_,_,Wk.ax ao,rfl,rfl,pd,by simp only;omega,h⟩,by simp⟩
      | false =>
       rw [hn] at hp;rw [if_neg (by rw [hn];decide)] at h;subst h;refine ae ?_;refine ab [] (hp) ?_;refine aX ?_;exact ⟨_,_,Wk.ax ao,rfl,rfl⟩
   ·rintro _ _ ⟨rfl,rfl⟩;obtain ⟨_,h1,h2⟩:=WV;refine ae ?_;rw [hw];have Jm:=iP words w (by decide)
    cases hcw:words.contains w with
    | true =>
     rw [hcw] at Jm;refine aE (.q 1 (.q 2 (.a 0 (.a 3 .nil)))) ?_;refine ak ?_;refine aC [] (vz) ?_;refine aC [] (Jm) ?_;refine ae ?_;refine oA ?_;rw [if_pos rfl];exact ⟨rfl,rfl⟩
    | false =>
     rw [hcw] at Jm;refine aE (.q 1 (.q 2 (.a 0 (.a 3 .nil)))) ?_;refine ak ?_;refine aC [] (vz) ?_;refine aC [] (Jm) ?_;refine ae ?_;refine oA ?_;rw [if_neg (by decide)];exact ⟨rfl,rfl⟩
  | false =>
   rw [hsc] at iD;rw [if_neg (by decide)];refine aj Tryz.func220 Tryz.ntmps220 ?_;refine ab [] (lO) ?_;refine ab [] (iD) ?_;refine ab [] (Jz) ?_;refine GW.range (bD.map fun s=>[GV.v (sv s)]).length (fun k fr Γ=>fr=[.v (sv s),.v (ii (a:Nat)),.U,.U,.loc 0 0,.U,.U,.U,.U,.U,.U,.U,.U,.U,.U,.U,.U,.U,.U,.U,.U,.U,.U,.U,.U,.U,.U,.U,.U,.U,.U,.U,.U,.U,.U,.U,.U,.U,.U,.U,.U,.U,.U,.U,.U,.U,.U,.U,.U,strs bD,.v (ii ((bD.map fun s=>[GV.v (sv s)]).length:Int)),.v (ii (k:Nat)),.U,.U,.U,.U,.U,.U,.U,.U,.U,.U,.U,.U,.U,.U,.U,.U,.U]/\Γ=[.box 203 [.v (ii 0),.v (ii 0),.v (sv []),.v (ii 0)]]/\(bD.take k).find? (br s a)=none) ?_ (by decide) ?_ ?_ ?_
   ·exact ⟨_,_,Wk.ax ao,rfl,rfl,rfl⟩
   ·rintro k _ _ ⟨rfl,rfl,_⟩;exact ⟨rfl,rfl,rfl⟩
   ·rintro k _ _ hk ⟨rfl,rfl,hf⟩
    have hk:k < bD.length:=by simpa using hk
    have hx:bD[k]?=some bD[k]:=by simp [hk]
    have hr:(bD.map fun s=>[GV.v (sv s)])[k]?=some [.v (sv bD[k])]:=by simp [hk]
    have yJ:=GZ _ (getElem_mem hk);generalize bD[k]=x at *;have mK:=n8 s x a ah yJ ah
    cases hb:br s a x with
    | true =>
     rw [hb] at mK;have TJ:=Lo hf hx hb;refine ae ?_;refine ab [] (mK) ?_;refine oA ?_;rw [TJ];exact ⟨rfl,rfl⟩
    | false =>
     rw [hb] at mK;refine ae ?_;refine ab [] (mK) ?_;exact ⟨rfl,rfl,_,_,Wk.ax ao,rfl,rfl,Ln hf hx hb⟩
   ·rintro _ _ ⟨rfl,rfl,hf⟩
    have hf:bD.find? (br s a)=none:=by
     rw [take_of_length_le (by simp)] at hf;exact hf
    refine ae ?_;refine oA ?_;rw [hf];exact ⟨rfl,rfl⟩
theorem PR {s:ai} {a:Nat} {c:UInt8} (hc:s[a]?=some c):a<=(iq s a c).2/\(iq s a c).2<=s.length:=by
 have ar:a < s.length:=(List.getElem?_eq_some_iff.1 hc).1;unfold iq;split
 ·exact (vH s (s.length+1) 0 a ah ah).2
 ·split
  ·exact (oS s dG (s.length+1) a ah ah).2
  ·split
   ·rename_i x hx;have:=iX (List.find?_some hx);exact ⟨Nat.le_add_right _ _,this⟩
   ·exact ⟨Nat.le_refl _,by omega⟩
theorem Mv (s:ai) (l:List Tok) (hs:s.length<=1000000000000) (h:Go.Sp.ia s=some l) :
  GF Tryz.prog 191 [.v (sv s)] [] (Go.Xg.ia l) []:=by
 rw [Go.Sp.ia] at h;have ZK:=M6 s 0 ah (Nat.zero_le _);have tf:=ya s (s.length+1) 0 (Nat.zero_le _);generalize hS:skip s (s.length+1) 0=R at *;refine aj Tryz.func191 Tryz.ntmps191 ?_;refine lY ?_;refine ae ?_;refine ab [] (ZK) ?_;refine GW.loop (fun x:Nat × Nat × List Tok=>x.1) (fun x fr Γ=>∃ n rows,fr=[.v (sv s),.U,.U,.vec 0 n,.v (ii (x.2.1:Nat)),.U,.U,.U,.U,.U,.U,.U,.U,.U,.U,.U,.U,.U,.U,.U,.U,.U,.U,.U,.U,.U,.U,.U,.U,.U,.U,.U,.U,.U,.U]/\Γ=[.vec 203 4 0 rows]/\rows.length=n/\rows=x.2.2.map cV/\n+x.1<=s.length+2/\x.2.1<=s.length/\pD s x.1 x.2.1 x.2.2=some l) (s.length+2,R.1,[]) ?_ ?_
 ·exact ⟨_,_,Wk.ax ao,0,[],rfl,rfl,rfl,rfl,by simp,tf.2,h⟩
 ·rintro ⟨f,a,acc⟩ _ _ ⟨n,rows,rfl,rfl,hn,bs,qM,ha,h⟩;simp only at bs qM ha h
  cases f with
  | zero=>simp [pD] at h
  | succ f =>
  rw [pD] at h
  cases hc:s[a]? with
  | none =>
   rw [hc] at h;simp only at h;cases h;have kQ:s.length<=a:=List.getElem?_eq_none_iff.1 hc
   have hd:decide ((a:Int) < (s.length:Int))=false:=by simpa using kQ
   subst bs;refine ae ?_;refine aX ?_;refine ae ?_;refine GW.wk (Wk.iv (t:=2) rfl rfl rfl hn) ?_;exact aq
  | some c =>
   rw [hc] at h;simp only at h;have ar:a < s.length:=(List.getElem?_eq_some_iff.1 hc).1
   have hd:decide ((a:Int) < (s.length:Int))=true:=by simpa using ar
   have oK:=PR hc;have gM:=O3 s a c ah hc;generalize iq s a c=tk at *;have X4:=M6 s tk.2 ah oK.2;have aaC:=ya s (s.length+1) tk.2 oK.2;generalize skip s (s.length+1) tk.2=R2 at *;refine ae ?_;refine ab [] (gM) ?_;refine dY ?_;refine ae ?_;refine ab [] (X4) ?_;exact ⟨(f,R2.1,acc++[tk.1]),⟨_,_,(Wk.cut (n:=1) (Nat.le_of_ble_eq_true rfl) rfl).trans (Wk.ax ao),_,_,rfl,rfl,by simp [hn],by rw [List.map_append,bs];rfl,by simp only;omega,by simp only;omega,h⟩,by simp⟩
end Go.Xg
namespace Go.Xg
open Go.RowKit Go.Xw Go.Proofs
open Go.Xp (Tok Nd T bd one levels)
open Go.Sp
attribute [local irreducible] GW GL GO YG GC GA aW aZ
structure DM (f:Nat):Prop where
 expr:∀ d p t q,p.ok->d+f<=4611686018427387904->mE f (.expr d) p=some (t,q)->GF Tryz.prog 260 [.loc 0 0,.v (ii (d:Nat))] [bU p] (.agg (cT t)) [bU q]
 level:∀ k d p t q,p.ok->k<=9->d+f<=4611686018427387904->mE f (.level k d) p=some (t,q)->GF Tryz.prog 280 [.loc 0 0,.v (ii (k:Nat)),.v (ii (d:Nat))] [bU p] (.agg (cT t)) [bU q]
 operand:∀ d p t q,p.ok->d+f<=4611686018427387904->mE f (.operand d) p=some (t,q)->GF Tryz.prog 294 [.loc 0 0,.v (ii (d:Nat))] [bU p] (.agg (cT t)) [bU q]
 named:∀ a s d p t q,p.ok->d+f<=4611686018427387904->mE f (.named a s d) p=some (t,q)->GF Tryz.prog 301 [.loc 0 0,.v (ii a),.v (sv s),.v (ii (d:Nat))] [bU p] (.agg (cT t)) [bU q]
 list:∀ d p l q,p.ok->d+f<=4611686018427387904->mL f d p=some (l,q)->GF Tryz.prog 305 [.loc 0 0,.v (ii (d:Nat))] [bU p] (.sl 6 (aP l)) [bU q]
theorem SZ {f:Nat} (C:DM f) (d:Nat) (p:RS) (t:T) (q:RS) (hp:p.ok) (hd:d+(f+1)<=4611686018427387904) (h:mE (f+1) (.expr d) p=some (t,q)) :
  GF Tryz.prog 260 [.loc 0 0,.v (ii (d:Nat))] [bU p] (.agg (cT t)) [bU q]:=by
 rw [mE] at h;refine aj Tryz.func260 Tryz.ntmps260 ?_;refine ab [0] (tq p d hp) ?_;refine ab [0] (C.level 0 d _ t q ((ny hp d).ok hp) ah ah h) ?_;exact dc
theorem H7 {k:Nat} (hk:k < 9):(levels.map fun l=>[strs l])[k]?=some [strs (levels.getD k [])]:=by
 have:k < levels.length:=hk;rw [getElem?_map,getElem?_eq_getElem this,List.getD_eq_getElem?_getD,getElem?_eq_getElem this];rfl
theorem BK:∀ k,k < 9->(levels.getD k []).length<=1099511627776:=by decide
abbrev zT:List GV:=[.v (ii 0),.v (ii 0),.v (ii 0),.v (sv []),.v (.slice none 0 0),.v (.slice none 0 0)]
theorem RR {f:Nat} (C:∀ f',f'<=f->DM f') (k d:Nat) (p:RS) (t:T) (q:RS) (hp:p.ok) (hk:k<=9) (hd:d+(f+1)<=4611686018427387904) (h:mE (f+1) (.level k d) p=some (t,q)) :
  GF Tryz.prog 280 [.loc 0 0,.v (ii (k:Nat)),.v (ii (d:Nat))] [bU p] (.agg (cT t)) [bU q]:=by
 rw [mE] at h
 by_cases Aj:k=9
 ·subst Aj;rw [if_pos rfl] at h;refine aj Tryz.func280 Tryz.ntmps280 ?_;refine ab [] (jc) ?_;refine ab [0] ((C f (Nat.le_refl _)).operand (d+1) p t q hp ah h) ?_;exact dc
 ·rw [if_neg Aj] at h
  have XO:((k:Int)==9)=false:=by simp;omega
  cases he:mE f (.level (k+1) d) p with
  | none=>rw [he] at h;cases h
  | some r =>
   obtain ⟨out,p1⟩:=r;rw [he] at h;simp only at h;have jX:=((tu f).1 _ _ _ _ hp he).ok hp;refine aj Tryz.func280 Tryz.ntmps280 ?_;refine ab [] (jc) ?_;refine ab [0] ((C f (Nat.le_refl _)).level (k+1) d p out p1 hp ah ah he) ?_;refine GW.loop (fun x:Nat × T × RS=>x.1) (fun x fr Γ=>fr=[.loc 0 0,.v (ii (k:Nat)),.v (ii (d:Nat)),.U,.U,.U,.loc 1 0,.loc 2 0,.U,.U,.U,.U,.U,.U,.U,.U,.U,.U,.U,.U,.U,.U,.U,.U,.U,.U,.U,.U,.U,.U,.U,.U,.U,.U,.U,.U,.U,.U,.U,.U,.U,.U,.U,.U,.U,.U,.U,.U,.U,.U,.U,.U,.U,.U,.U,.U,.U,.U,.U,.U,.U,.U,.U,.U,.U,.U]/\Γ=[bU x.2.2,.box 94 zT,.box 94 (cT x.2.1)]/\x.2.2.ok/\x.1<=f/\mE x.1 (.loop k d x.2.1) x.2.2=some (t,q)) (f,out,p1) ?_ ?_
   ·exact ⟨_,_,Wk.ax ao,rfl,rfl,jX,Nat.le_refl _,h⟩
   ·rintro ⟨g,out,p⟩ _ _ ⟨rfl,rfl,hp,L1,h⟩;simp only at hp L1 h
    cases g with
    | zero=>simp [mE] at h
    | succ g =>
    rw [mE] at h
    have hk:k < 9:=by omega
    by_cases hc:p.code=0
    ·have de:(p.code==0)=true:=by simpa using hc
     have QA:=H7 hk
     by_cases hit:(levels.getD k []).contains (p.sign 0)=true
     ·rw [if_pos ⟨hc,hit⟩] at h
      cases ht:p.l[p.i]? with
      | none=>rw [ht] at h;cases h
      | some tk =>
       rw [ht] at h;simp only at h;have ar:=(List.getElem?_eq_some_iff.1 ht).1;have hr:=jM ht;have cE:=hp.2
       cases hb:mE g (.level (k+1) d) p.next with
       | none=>rw [hb] at h;cases h
       | some r =>
        obtain ⟨b,p2⟩:=r;rw [hb] at h;simp only at h;have cZ:=(di ar).ok hp;have dz:=((tu g).1 _ _ _ _ cZ hb).ok cZ;refine ae ?_;refine aE (aH [0,1,2,3,4,5,7,10] (.a 6 (.q 8 (.q 9 (.a 11 (.a 12 (.q 13 .nil))))))) ?_;refine ak ?_;refine bz [] (jc) ?_;refine bz [0] (cS p 0 hp (by decide)) ?_;refine bz [] (iP (levels.getD k []) (p.sign 0) (BK k hk)) ?_;refine ae ?_;refine aE (aH [0,1,2,3,4,5,6,7,8,9] (.a 10 (.a 11 .nil))) ?_;refine ak ?_;refine ae ?_;refine aE (aH [0,1,2,3,4,5,6,7,8] (.a 9 (.a 10 (.a 11 (.a 12 .nil))))) ?_;refine ak ?_;refine aC [0] ((C g ah).level (k+1) d p.next b p2 cZ ah ah hb) ?_;refine eE ?_;refine ak ?_;refine sK [] (fK 6 tk.at_ tk.s [out,b] _ nz) ?_;refine F4 ?_;refine ak ?_;refine ae ?_;exact ⟨(g,one 6 tk.at_ tk.s [out,b],p2),⟨_,_,(Wk.cut (n:=3) (Nat.le_of_ble_eq_true rfl) rfl).trans (Wk.ax ao),rfl,rfl,dz,by omega,h⟩,by simp⟩
     ·have hit:(levels.getD k []).contains (p.sign 0)=false:=by simpa using hit
      rw [if_neg (by rw [hit];simp)] at h
      obtain ⟨rfl,rfl⟩:out=t/\p=q:=by simpa using h
      refine ae ?_;refine aE (aH [0,1,2,3,4,5,7,10] (.a 6 (.q 8 (.q 9 (.a 11 (.a 12 (.q 13 .nil))))))) ?_;refine ak ?_;refine bz [] (jc) ?_;refine bz [0] (cS p 0 hp (by decide)) ?_;refine bz [] (iP (levels.getD k []) (p.sign 0) (BK k hk)) ?_;refine ae ?_;refine aX ?_;exact oz
    ·have de:(p.code==0)=false:=by simpa using hc
     rw [if_neg (fun hh=>hc hh.1)] at h
     obtain ⟨rfl,rfl⟩:out=t/\p=q:=by simpa using h
     refine ae ?_;refine aE (aH [0,1,2,3,4,5,7,10] (.a 6 (.q 8 (.q 9 (.a 11 (.a 12 (.q 13 .nil))))))) ?_;refine ak ?_;refine ae ?_;refine aX ?_;exact oz
end Go.Xg
namespace Go.Xg
open Go.RowKit Go.Xw Go.Proofs
open Go.Xp (Tok Nd T bd one levels)
open Go.Sp
attribute [local irreducible] GW GL GO YG GC GA aW aZ
theorem RW {f:Nat} (C:DM f) (a:Int) (s:ai) (d:Nat) (p:RS) (t:T) (q:RS) (hp:p.ok) (hd:d+(f+1)<=4611686018427387904) (h:mE (f+1) (.named a s d) p=some (t,q)) :
  GF Tryz.prog 301 [.loc 0 0,.v (ii a),.v (sv s),.v (ii (d:Nat))] [bU p] (.agg (cT t)) [bU q]:=by
 rw [mE] at h
 by_cases h1:p.sign 0=[91]
 ·rw [if_pos h1] at h
  have cv:(p.sign 0==[91])=true:=by simp [h1]
  have ar:=(fi h1 (by decide)).1;have cE:=hp.2;have cZ:=(iL h1 (by decide)).ok hp
  cases he:mE f (.expr (d+1)) p.next with
  | none=>rw [he] at h;cases h
  | some r =>
   obtain ⟨b,p1⟩:=r;rw [he] at h;cases h;have jX:=((tu f).1 _ _ _ _ cZ he).ok cZ;refine aj Tryz.func301 Tryz.ntmps301 ?_;refine ab [0] (cS p 0 hp (by decide)) ?_;refine ab [0] (C.expr (d+1) p.next b p1 cZ ah he) ?_;refine ab [0] (cR p1 [93] jX (by decide)) ?_;refine bE ?_;refine ae ?_;refine ab [] (fK 3 a s [b] _ nz) ?_;exact dc
 ·rw [if_neg h1] at h
  have cv:(p.sign 0==[91])=false:=by simpa using h1
  by_cases h2:p.sign 0=[40]
  ·rw [if_pos h2] at h
   have pK:(p.sign 0==[40])=true:=by simp [h2]
   have ar:=(fi h2 (by decide)).1;have cE:=hp.2;have cZ:=(iL h2 (by decide)).ok hp
   cases he:mL f (d+1) p.next with
   | none=>rw [he] at h;cases h
   | some r =>
    obtain ⟨l,p1⟩:=r;rw [he] at h;cases h;refine aj Tryz.func301 Tryz.ntmps301 ?_;refine ab [0] (cS p 0 hp (by decide)) ?_;refine ab [0] (C.list (d+1) p.next l q cZ ah he) ?_;refine ab [] (fK 4 a s l _ rfl) ?_;exact dc
  ·rw [if_neg h2] at h
   have pK:(p.sign 0==[40])=false:=by simpa using h2
   cases h;refine aj Tryz.func301 Tryz.ntmps301 ?_;refine ab [0] (cS p 0 hp (by decide)) ?_;refine ab [] (fK 2 a s [] [] rfl) ?_;exact dc
theorem aQ (l:List T):(aP l).length=l.length:=by
 induction l with
 | nil=>rfl
 | cons a l ih=>simp [aP,ih]
theorem wL (l:List T) (a:T):aP (l++[a])=aP l++[cT a]:=by
 induction l with
 | nil=>simp [aP,uj]
 | cons b l ih=>simp [aP,ih]
theorem Uy {f:Nat} (C:∀ f',f'<=f->DM f') (d:Nat) (p:RS) (l:List T) (q:RS) (hp:p.ok) (hd:d+(f+1)<=4611686018427387904) (h:mL (f+1) d p=some (l,q)) :
  GF Tryz.prog 305 [.loc 0 0,.v (ii (d:Nat))] [bU p] (.sl 6 (aP l)) [bU q]:=by
 rw [mL] at h
 by_cases h1:p.sign 0=[41]
 ·rw [if_pos h1] at h
  have cv:(!(p.sign 0==[41]))=false:=by simp [h1]
  cases h;refine aj Tryz.func305 Tryz.ntmps305 ?_;refine lY ?_;refine ae ?_;refine ab [0] (cS p 0 hp (by decide)) ?_;refine ab [0] (cR p [41] hp (by decide)) ?_;refine GW.wk (Wk.iv (t:=4) rfl rfl rfl rfl) ?_;exact aq
 ·rw [if_neg h1] at h
  have cv:(!(p.sign 0==[41]))=true:=by simpa using h1
  cases he:mE f (.expr d) p with
  | none=>rw [he] at h;cases h
  | some r =>
   obtain ⟨a,p1⟩:=r;rw [he] at h;simp only at h;have jX:=((tu f).1 _ _ _ _ hp he).ok hp;refine aj Tryz.func305 Tryz.ntmps305 ?_;refine lY ?_;refine ae ?_;refine ab [0] (cS p 0 hp (by decide)) ?_;refine ab [0] ((C f (Nat.le_refl _)).expr d p a p1 hp ah he) ?_;refine dY ?_;refine ae ?_;refine GW.loop (fun x:Nat × List T × RS=>x.1) (fun x fr Γ=>∃ n rows,fr=[.loc 0 0,.v (ii (d:Nat)),.U,.U,.U,.vec 1 n,.U,.U,.U,.U,.U,.U,.U,.U,.U,.U,.U,.U,.U,.U,.U,.U,.U,.U,.U,.U,.U,.U,.U,.U,.U,.U,.U,.U,.U]/\Γ=[bU x.2.2,.vec 94 6 0 rows]/\rows.length=n/\rows=aP x.2.1/\n<=x.2.2.i+1/\x.2.2.ok/\x.1<=f/\sy x.1 d x.2.1 x.2.2=some (l,q)) (f,[a],p1) ?_ ?_
   ·exact ⟨_,_,Wk.ax ao,_,_,rfl,rfl,rfl,(by simp only [aP,uj];rfl),(by show 1<=p1.i+1;omega),jX,Nat.le_refl _,h⟩
   ·rintro ⟨g,acc,p⟩ _ _ ⟨n,rows,rfl,rfl,hn,bs,TO,hp,L1,h⟩;simp only at bs TO hp L1 h
    cases g with
    | zero=>simp [sy] at h
    | succ g =>
    rw [sy] at h;have cE:=hp.2;have CK:=hp.1
    by_cases h2:p.sign 0=[44]
    ·rw [if_pos h2] at h
     have pK:(p.sign 0==[44])=true:=by simp [h2]
     have ar:=(fi h2 (by decide)).1;have cZ:=(iL h2 (by decide)).ok hp
     cases hb:mE g (.expr d) p.next with
     | none=>rw [hb] at h;cases h
     | some r =>
      obtain ⟨b,p2⟩:=r;rw [hb] at h;simp only at h;have QH:=(tu g).1 _ _ _ _ cZ hb;have dz:=QH.ok cZ;have rm:p.i+1<=p2.i:=QH.2.2.2;refine ae ?_;refine ab [0] (cS p 0 hp (by decide)) ?_;refine ab [0] ((C g ah).expr d p.next b p2 cZ ah hb) ?_;refine dY ?_;refine ae ?_;exact ⟨(g,acc++[b],p2),⟨_,_,Wk.ax ao,_,_,rfl,rfl,by simp [hn],by rw [wL,bs],by simp only;omega,dz,by simp only;omega,h⟩,by simp⟩
    ·rw [if_neg h2] at h
     have pK:(p.sign 0==[44])=false:=by simpa using h2
     obtain ⟨rfl,rfl⟩:acc=l/\p.aI [41]=q:=by simpa using h
     subst bs;refine ae ?_;refine ab [0] (cS p 0 hp (by decide)) ?_;refine aX ?_;refine ae ?_;refine ab [0] (cR p [41] hp (by decide)) ?_;refine GW.wk (Wk.iv (t:=4) rfl rfl rfl hn) ?_;exact aq
theorem MS {f:Nat} (C:DM f) (d:Nat) (p:RS) (t:T) (q:RS) (hp:p.ok) (hd:d+(f+1)<=4611686018427387904) (h:mE (f+1) (.operand d) p=some (t,q)) :
  GF Tryz.prog 294 [.loc 0 0,.v (ii (d:Nat))] [bU p] (.agg (cT t)) [bU q]:=by
 rw [mE] at h;have jY:=(ny hp d).ok hp;have vm:=tq p d hp;generalize p.deep d=p1 at *
 try simp only at h
 obtain ⟨CK,cE⟩:=id jY
 by_cases hc:p1.code=0
 ·rw [if_pos hc] at h
  have de:(p1.code != 0)=false:=by simpa using hc
  cases ht:p1.l[p1.i]? with
  | none =>
   rw [ht] at h;cases h;have kQ:p1.l.length<=p1.i:=List.getElem?_eq_none_iff.1 ht
   have XK:decide (((p1.l.map cV).length:Int)<=(p1.i:Int))=true:=by simp;omega
   refine aj Tryz.func294 Tryz.ntmps294 ?_;refine ab [0] (vm) ?_;refine aE (aH [0,1,2,3,4,5,6,7,8,9,10,11,12,13,14,15,16] .nil) ?_;refine ak ?_;refine ae ?_;refine ab [0] (kg p1 jY) ?_;refine ab [0] (lr p1 7 p1.place) ?_;refine qo ?_;exact ⟨_,iM,rfl,rfl⟩
  | some tk =>
   rw [ht] at h;simp only at h;have ar:p1.i < p1.l.length:=(List.getElem?_eq_some_iff.1 ht).1
   have XK:decide (((p1.l.map cV).length:Int)<=(p1.i:Int))=false:=by simp;omega
   have hr:=jM ht;have cZ:=(di ar).ok jY;refine aj Tryz.func294 Tryz.ntmps294 ?_;refine ab [0] (vm) ?_;refine aE (aH [0,1,2,3,4,5,6,7,8,9,10,11,12,13,14,15,16] .nil) ?_;refine ak ?_;refine ae ?_;refine aE (aH [0,1,2,3,4,5,6,7,8,9] (.a 10 (.a 11 .nil))) ?_;refine ak ?_;refine ae ?_
   by_cases k1:tk.kind=1
   ·rw [if_pos k1] at h;cases h
    have Z1:(tk.kind==1)=true:=by simpa using k1
    refine ae ?_;refine qo ?_;exact ⟨_,iM,rfl,rfl⟩
   ·rw [if_neg k1] at h
    have Z1:(tk.kind==1)=false:=by simpa using k1
    by_cases k2:tk.kind=2
    ·rw [if_pos k2] at h
     have Z3:(tk.kind==2)=true:=by simpa using k2
     refine ae ?_;refine ab [0] (xl p1 jY) ?_;refine ab [0] (C.named tk.at_ p1.name.1 d p1.name.2 t q ((ql jY).ok jY) ah h) ?_;exact dc
    ·rw [if_neg k2] at h
     have Z3:(tk.kind==2)=false:=by simpa using k2
     by_cases s3:tk.s=[45]\/tk.s=[33]\/tk.s=[126]
     ·rw [if_pos s3] at h
      cases he:mE f (.operand (d+1)) p1.next with
      | none=>rw [he] at h;cases h
      | some r =>
       obtain ⟨a,p2⟩:=r;rw [he] at h;cases h
       have s3':(tk.s==[45])=true\/((tk.s==[45])=false/\(tk.s==[33])=true)\/((tk.s==[45])=false/\(tk.s==[33])=false/\(tk.s==[126])=true):=by
        rcases s3 with s3 | s3 | s3
        ·exact .inl (by simp [s3])
        ·exact .inr (.inl (by simp [s3]))
        ·exact .inr (.inr (by simp [s3]))
       refine ae ?_
       rcases s3' with e1 | ⟨e1,e2⟩ | ⟨e1,e2,e3⟩
       all_goals
        refine ae ?_;refine aE (aH [0,1,2,3,4,5,6] (.a 7 (.a 8 (.a 9 (.a 10 .nil))))) ?_;refine ak ?_;refine aC [0] (C.operand (d+1) p1.next a q cZ ah he) ?_;refine eE ?_;refine ak ?_;refine sK [] (fK 5 tk.at_ tk.s [a] _ nz) ?_;refine F4 ?_;refine ak ?_;exact oz
     ·rw [if_neg s3] at h
      have e1:(tk.s==[45])=false:=by simp at s3;simpa using s3.1
      have e2:(tk.s==[33])=false:=by simp at s3;simpa using s3.2.1
      have e3:(tk.s==[126])=false:=by simp at s3;simpa using s3.2.2
      by_cases s4:tk.s=[40]
      ·rw [if_pos s4] at h
       have s4':(tk.s==[40])=true:=by simp [s4]
       cases he:mE f (.expr (d+1)) p1.next with
       | none=>rw [he] at h;cases h
       | some r =>
        obtain ⟨a,p2⟩:=r;rw [he] at h;cases h;have dz:=((tu f).1 _ _ _ _ cZ he).ok cZ;refine ae ?_;refine ab [0] (C.expr (d+1) p1.next t p2 cZ ah he) ?_;refine ab [0] (cR p2 [41] dz (by decide)) ?_;exact dc
      ·rw [if_neg s4] at h
       have s4':(tk.s==[40])=false:=by simpa using s4
       cases h;refine ae ?_;refine ab [0] (lr p1 7 tk.at_) ?_;refine qo ?_;exact ⟨_,iM,rfl,rfl⟩
 ·rw [if_neg hc] at h
  have de:(p1.code != 0)=true:=by simpa using hc
  cases h;refine aj Tryz.func294 Tryz.ntmps294 ?_;refine ab [0] (vm) ?_;refine aE (aH [0,1,2,3,4,5,6,7,8,9,10,11,12,13,14,15,16] .nil) ?_;refine ak ?_;refine ae ?_;refine ab [0] (kg p1 jY) ?_;refine ab [0] (lr p1 7 p1.place) ?_;refine qo ?_;exact ⟨_,iM,rfl,rfl⟩
theorem rds (f:Nat):DM f:=by
  induction f using Nat.strongRecOn with
  | _ f ih =>
   cases f with
   | zero=>exact ⟨fun d p t q _ _ h=>by simp [mE] at h,fun k d p t q _ _ _ h=>by simp [mE] at h,fun d p t q _ _ h=>by simp [mE] at h,fun a s d p t q _ _ h=>by simp [mE] at h,fun d p l q _ _ h=>by simp [mL] at h⟩
   | succ f =>
    have C:=ih f (Nat.lt_succ_self f)
    have Cs:∀ f',f'<=f->DM f':=fun f' h=>ih f' (Nat.lt_succ_of_le h)
    exact ⟨fun d p t q hp hd h=>SZ C d p t q hp hd h,fun k d p t q hp hk hd h=>RR Cs k d p t q hp hk hd h,fun d p t q hp hd h=>MS C d p t q hp hd h,fun a s d p t q hp hd h=>RW C a s d p t q hp hd h,fun d p l q hp hd h=>Uy Cs d p l q hp hd h⟩
end Go.Xg
namespace Go.Xg
open Go.RowKit Go.Xw Go.Proofs
open Go.Xp (Tok Nd T bd one levels fX dE dW df cY)
open Go.Sp
attribute [local irreducible] GW GL GO YG GC GA aW aZ
structure KC (f:Nat):Prop where
 block:∀ d p t q,p.ok->d+f<=1099511627776->mS f (.block d) p=some (t,q)->GF Tryz.prog 192 [.loc 0 0,.v (ii (d:Nat))] [bU p] (.agg (cT t)) [bU q]
 stmt:∀ d p t q,p.ok->d+f<=1099511627776->mS f (.stmt d) p=some (t,q)->GF Tryz.prog 226 [.loc 0 0,.v (ii (d:Nat))] [bU p] (.agg (cT t)) [bU q]
 cond:∀ a d p t q,p.ok->p.i < p.l.length->d+f<=1099511627776->mS f (.cond a d) p=some (t,q)->GF Tryz.prog 261 [.loc 0 0,.v (ii a),.v (ii (d:Nat))] [bU p] (.agg (cT t)) [bU q]
theorem xn (d:Nat) (p:RS) (t:T) (q:RS) (hp:p.ok) (hd:d<=1099511627777) (h:mX d p=some (t,q)):GF Tryz.prog 260 [.loc 0 0,.v (ii (d:Nat))] [bU p] (.agg (cT t)) [bU q] :=
 (rds (fe p)).expr d p t q hp (by have:=hp.2;unfold fe;omega) h
theorem JA (k a:Int) (s:ai):GF Tryz.prog 222 [.v (ii k),.v (ii a),.v (sv s),.v (.slice none 0 0)] [] (.agg [.v (ii k),.v (ii a),.v (ii 0),.v (sv s),ints [],.v (.slice none 0 0)]) []:=by
 refine aj Tryz.func222 Tryz.ntmps222 ?_;refine qo ?_;exact ⟨_,iM,rfl,rfl⟩
theorem Rh {f:Nat} (C:∀ f',f'<=f->KC f') (d:Nat) (p:RS) (t:T) (q:RS) (hp:p.ok) (hd:d+(f+1)<=1099511627776) (h:mS (f+1) (.block d) p=some (t,q)) :
  GF Tryz.prog 192 [.loc 0 0,.v (ii (d:Nat))] [bU p] (.agg (cT t)) [bU q]:=by
 rw [mS] at h;have jY:=(ny hp d).ok hp;have vm:=tq p d hp;generalize p.deep d=p1 at *
 try simp only at h
 have xc:=(eY jY (s:=[123]) (by decide)).ok jY
 cases he:mB f (d+1) [] (p1.aI [123]) with
 | none=>rw [he] at h;cases h
 | some r =>
  obtain ⟨l,q1⟩:=r;rw [he] at h;cases h;generalize cE:p1.place=pl;refine aj Tryz.func192 Tryz.ntmps192 ?_;refine ab [0] (vm) ?_;refine ab [0] (kg p1 jY) ?_;refine ab [] (JA 14 p1.place []) ?_;refine ab [0] (cR p1 [123] jY (by decide)) ?_;rw [cE];refine GW.wk (Wk.JR (i:=2) (o:=5) 94 6 rfl rfl) ?_;refine GW.loop (fun x:Nat × List T × RS=>x.1) (fun x fr Γ=>∃ n rows,fr=[.loc 0 0,.v (ii (d:Nat)),.U,.U,.loc 1 0,.loc 2 0,.U,.U,.U,.U,.U,.U,.U,.U,.U,.U,.U,.U,.U,.U,.U,.U,.U,.U,.U,.U,.U,.U,.U,.U,.U,.U,.U,.U,.U,.U]/\Γ=[bU x.2.2,.box 94 zT,.box 94 [.v (ii 14),.v (ii pl),.v (ii 0),.v (sv []),ints [],.vec 3 n],.vec 94 6 0 rows]/\rows.length=n/\rows=aP x.2.1/\n+x.1<=f/\x.2.2.ok/\mB x.1 (d+1) x.2.1 x.2.2=some (l,q1)) (f,[],p1.aI [123]) ?_ ?_
  ·exact ⟨_,_,Wk.ax ao,0,[],rfl,rfl,rfl,rfl,by simp,xc,he⟩
  ·rintro ⟨g,acc,p⟩ _ _ ⟨n,rows,rfl,rfl,hn,bs,yG,hp,h⟩;simp only at bs yG hp h
   cases g with
   | zero=>simp [mB] at h
   | succ g =>
   rw [mB] at h
   by_cases hc:p.code=0
   ·have de:(p.code==0)=true:=by simpa using hc
    by_cases hs:p.sign 0=[125]
    ·rw [if_neg (fun hh=>hh.2 hs)] at h
     obtain ⟨rfl,rfl⟩:acc=l/\p=q1:=by simpa using h
     have nE:(!(p.sign 0==[125]))=false:=by simp [hs]
     subst bs;refine ae ?_;refine ab [0] (cS p 0 hp (by decide)) ?_;refine aX ?_;refine ae ?_;refine GL.wk (Wk.yb (i:=2) (o:=5) rfl rfl rfl rfl hn) ?_;refine bK ?_;refine ab [0] (cR p [125] hp (by decide)) ?_;exact dc
    ·rw [if_pos ⟨hc,hs⟩] at h
     have nE:(!(p.sign 0==[125]))=true:=by simpa using hs
     cases hb:mS g (.stmt (d+1)) p with
     | none=>rw [hb] at h;cases h
     | some r =>
      obtain ⟨a,p2⟩:=r;rw [hb] at h;simp only at h;have dz:=((JL g).1 _ _ _ _ hp (fun a d' h=>by cases h) hb).ok hp;refine ae ?_;refine ab [0] (cS p 0 hp (by decide)) ?_;refine aE (aH [0,1,2,3,4] (.a 5 (.a 6 (.a 7 (.q 8 (.a 9 .nil)))))) ?_;refine ak ?_;refine aC [0] ((C g ah).stmt (d+1) p a p2 hp ah hb) ?_;refine eE ?_;refine ak ?_;refine B6 ?_;refine ak ?_;refine ae ?_;exact ⟨(g,acc++[a],p2),⟨_,_,Wk.ax ao,_,_,rfl,rfl,by simp [hn],by rw [wL,bs];rfl,by show n+1+g<=f;omega,dz,h⟩,by simp⟩
   ·have de:(p.code==0)=false:=by simpa using hc
    rw [if_neg (fun hh=>hc hh.1)] at h
    obtain ⟨rfl,rfl⟩:acc=l/\p=q1:=by simpa using h
    subst bs;refine ae ?_;refine aX ?_;refine ae ?_;refine GL.wk (Wk.yb (i:=2) (o:=5) rfl rfl rfl rfl hn) ?_;refine bK ?_;refine ab [0] (cR p [125] hp (by decide)) ?_;exact dc
theorem SQ {f:Nat} (C:KC f) (a:Int) (d:Nat) (p:RS) (t:T) (q:RS) (hp:p.ok) (ar:p.i < p.l.length) (hd:d+(f+1)<=1099511627776) (h:mS (f+1) (.cond a d) p=some (t,q)) :
  GF Tryz.prog 261 [.loc 0 0,.v (ii a),.v (ii (d:Nat))] [bU p] (.agg (cT t)) [bU q]:=by
 rw [mS] at h
 try simp only at h
 have cZ:=(di ar).ok hp;have cE:=hp.2;have xc:=(eY cZ (s:=[40]) (by decide)).ok cZ
 cases he:mX (d+1) (p.next.aI [40]) with
 | none=>rw [he] at h;cases h
 | some r =>
 obtain ⟨e,p1⟩:=r;rw [he] at h;simp only at h;have jX:=(om xc he).ok xc;have EE:=(eY jX (s:=[41]) (by decide)).ok jX
 cases hb:mS f (.block (d+1)) (p1.aI [41]) with
 | none=>rw [hb] at h;cases h
 | some r =>
 obtain ⟨b,p2⟩:=r;rw [hb] at h;simp only at h;have dz:=((JL f).1 _ _ _ _ EE (fun a d' h=>by cases h) hb).ok EE;have TV:=dz.2
 have key:∀ k:Int,(if k=9/\p2.sign 0=dW then match mS f (.block (d+1)) p2.next with
     | none=>none
     | some (b2,q)=>some (one k a [] [e,b,b2],q)
    else some (one k a [] [e,b],p2))=some (t,q)->p.ck=k->(k=9\/k=10)->((p.sign 0==[105,102])=true/\k=9)\/((p.sign 0==[105,102])=false/\k=10):=by
  intro k _ hk _;unfold RS.ck at hk;split at hk
  ·rename_i hs;exact .inl ⟨by rw [hs];rfl,hk.symm⟩
  ·rename_i hs;refine .inr ⟨?_,hk.symm⟩
   cases hq:(p.sign 0==[105,102]) with
   | false=>rfl
   | true=>exact absurd (eq_of_beq hq) hs
 have sd:p.ck=9\/p.ck=10:=by unfold RS.ck;split <;> simp
 have key:=key p.ck h rfl sd;generalize p.ck=k at h key;clear sd
 rcases key with ⟨hs,rfl⟩ | ⟨hs,rfl⟩
 ·by_cases eP:p2.sign 0=dW
  ·rw [if_pos ⟨rfl,eP⟩] at h
   have XI:(p2.sign 0==[101,108,115,101])=true:=by rw [eP];rfl
   have ma:=(fi eP (by decide)).1;have X0:=(iL eP (by decide)).ok dz
   cases eC:mS f (.block (d+1)) p2.next with
   | none=>rw [eC] at h;cases h
   | some r =>
   obtain ⟨b2,p3⟩:=r;rw [eC] at h;cases h;refine aj Tryz.func261 Tryz.ntmps261 ?_;refine ab [0] (cS p 0 hp (by decide)) ?_;refine ab [0] (cR p.next [40] cZ (by decide)) ?_;refine ab [0] (xn (d+1) _ e p1 xc ah he) ?_;refine ab [0] (cR p1 [41] jX (by decide)) ?_;refine aE (aH [0,1,2,3] (.a 4 (.a 5 (.q 6 .nil)))) ?_;refine ak ?_;refine aC [0] (C.block (d+1) _ b p2 EE ah hb) ?_;refine B7 ?_;refine ak ?_;refine ae ?_;refine ab [0] (cS p2 0 dz (by decide)) ?_;refine gA [0] (C.block (d+1) _ b2 q X0 ah eC) ?_;refine dY ?_;refine ae ?_;refine GL.wk (Wk.iv (t:=57) rfl rfl rfl rfl) ?_;refine bK ?_;refine ab [] (fK 9 a [] [e,b,b2] _ nz) ?_;exact dc
  ·rw [if_neg (fun hh=>eP hh.2)] at h
   have XI:(p2.sign 0==[101,108,115,101])=false:=by
    cases hq:(p2.sign 0==[101,108,115,101]) with
    | false=>rfl
    | true=>exact absurd (eq_of_beq hq) eP
   cases h;refine aj Tryz.func261 Tryz.ntmps261 ?_;refine ab [0] (cS p 0 hp (by decide)) ?_;refine ab [0] (cR p.next [40] cZ (by decide)) ?_;refine ab [0] (xn (d+1) _ e p1 xc ah he) ?_;refine ab [0] (cR p1 [41] jX (by decide)) ?_;refine aE (aH [0,1,2,3] (.a 4 (.a 5 (.q 6 .nil)))) ?_;refine ak ?_;refine aC [0] (C.block (d+1) _ b q EE ah hb) ?_;refine B7 ?_;refine ak ?_;refine ae ?_;refine ab [0] (cS q 0 dz (by decide)) ?_;refine GL.wk (Wk.iv (t:=57) rfl rfl rfl rfl) ?_;refine bK ?_;refine ab [] (fK 9 a [] [e,b] _ nz) ?_;exact dc
 ·rw [if_neg (fun hh=>by cases hh.1)] at h;cases h;refine aj Tryz.func261 Tryz.ntmps261 ?_;refine ab [0] (cS p 0 hp (by decide)) ?_;refine ab [0] (cR p.next [40] cZ (by decide)) ?_;refine ab [0] (xn (d+1) _ e p1 xc ah he) ?_;refine ab [0] (cR p1 [41] jX (by decide)) ?_;refine aE (aH [0,1,2,3] (.a 4 (.a 5 (.q 6 .nil)))) ?_;refine ak ?_;refine aC [0] (C.block (d+1) _ b q EE ah hb) ?_;refine B7 ?_;refine ak ?_;refine ae ?_;refine GL.wk (Wk.iv (t:=57) rfl rfl rfl rfl) ?_;refine bK ?_;refine ab [] (fK 10 a [] [e,b] _ nz) ?_;exact dc
end Go.Xg
namespace Go.Xg
open Go.RowKit Go.Xw Go.Proofs
open Go.Xp (Tok Nd T bd one levels fX dE dW df cY)
open Go.Sp
attribute [local irreducible] GW GL GO YG GC GA aW aZ
theorem uc {s t:ai} (h:¬ s=t):(s==t)=false:=by
 cases hq:(s==t) with
 | false=>rfl
 | true=>exact absurd (eq_of_beq hq) h
theorem U1 {f:Nat} (C:KC f) (d:Nat) (p:RS) (t:T) (q:RS) (hp:p.ok) (hd:d+(f+1)<=1099511627776) (h:mS (f+1) (.stmt d) p=some (t,q)) :
  GF Tryz.prog 226 [.loc 0 0,.v (ii (d:Nat))] [bU p] (.agg (cT t)) [bU q]:=by
 rw [mS] at h;have jY:=(ny hp d).ok hp;have vm:=tq p d hp;generalize p.deep d=p1 at *
 try simp only at h
 obtain ⟨CK,cE⟩:=id jY;generalize wa:p1.place=at_ at h;refine aj Tryz.func226 Tryz.ntmps226 ?_;refine ab [0] (vm) ?_;refine ab [0] (kg p1 jY) ?_;refine gA [0] (cS p1 0 jY (by decide)) ?_;rw [wa]
 by_cases h1:p1.sign 0=fX
 ·rw [if_pos h1] at h
  have e1:(p1.sign 0==[118,97,114])=true:=by rw [h1];rfl
  have ar:=(fi h1 (by decide)).1;have hn:=(iL h1 (by decide)).ok jY;have eD:=(ql hn).ok hn;have jn:=(eY eD (s:=[61]) (by decide)).ok eD
  cases he:mX (d+1) (p1.next.name.2.aI [61]) with
  | none=>rw [he] at h;cases h
  | some r =>
  obtain ⟨e,p2⟩:=r;rw [he] at h;cases h;have dz:=(om jn he).ok jn;refine ae ?_;refine ab [0] (xl p1.next hn) ?_;refine ab [0] (cR _ [61] eD (by decide)) ?_;refine ab [0] (xn (d+1) _ e p2 jn ah he) ?_;refine ab [0] (cR p2 [59] dz (by decide)) ?_;refine bE ?_;refine ae ?_;refine ab [] (fK 13 at_ p1.next.name.1 [e] _ nz) ?_;exact dc
 rw [if_neg h1] at h;have e1:(p1.sign 0==[118,97,114])=false:=uc h1
 by_cases h2:p1.sign 0=dE\/p1.sign 0=df
 ·rw [if_pos h2] at h
  have e2:(p1.sign 0==[105,102])=true\/((p1.sign 0==[105,102])=false/\(p1.sign 0==[119,104,105,108,101])=true):=by
   rcases h2 with h2 | h2
   ·exact .inl (by rw [h2];rfl)
   ·exact .inr ⟨by rw [h2];rfl,by rw [h2];rfl⟩
  have ar:p1.i < p1.l.length:=by
   rcases h2 with h2 | h2
   ·exact (fi h2 (by decide)).1
   ·exact (fi h2 (by decide)).1
  rcases e2 with e2 | ⟨e2,e3⟩
  all_goals
   refine ae ?_;refine ab [0] (C.cond at_ d p1 t q jY ar ah h) ?_;exact dc
 rw [if_neg h2] at h
 have e2:(p1.sign 0==[105,102])=false:=uc fun hh=>h2 (.inl hh)
 have e3:(p1.sign 0==[119,104,105,108,101])=false:=uc fun hh=>h2 (.inr hh)
 by_cases h4:p1.sign 0=cY
 ·rw [if_pos h4] at h
  have e4:(p1.sign 0==[114,101,116,117,114,110])=true:=by rw [h4];rfl
  have ar:=(fi h4 (by decide)).1;have hn:=(iL h4 (by decide)).ok jY
  cases he:mX (d+1) p1.next with
  | none=>rw [he] at h;cases h
  | some r =>
  obtain ⟨e,p2⟩:=r;rw [he] at h;cases h;have dz:=(om hn he).ok hn;refine ae ?_;refine ab [0] (xn (d+1) _ e p2 hn ah he) ?_;refine ab [0] (cR p2 [59] dz (by decide)) ?_;refine bE ?_;refine ae ?_;refine ab [] (fK 11 at_ [] [e] _ nz) ?_;exact dc
 rw [if_neg h4] at h;have e4:(p1.sign 0==[114,101,116,117,114,110])=false:=uc h4
 by_cases h5:p1.code=0/\p1.mN=true/\p1.sign 1=[61]
 ·rw [if_pos h5] at h;obtain ⟨hc,ED,fF⟩:=h5
  have de:(p1.code==0)=true:=by simpa using hc
  have aaA:(p1.sign 1==[61])=true:=by rw [fF];rfl
  unfold RS.mN at ED
  cases ht:p1.l[p1.i]? with
  | none=>rw [ht] at ED;cases ED
  | some tk =>
  rw [ht] at ED
  have hk:(tk.kind==2)=true:=by simpa using ED
  have ar:=(List.getElem?_eq_some_iff.1 ht).1
  have ON:decide ((p1.i:Int) < ((p1.l.map cV).length:Int))=true:=by simpa using ar
  have hr:=jM ht;have eD:=(ql jY).ok jY;have jn:=(eY eD (s:=[61]) (by decide)).ok eD
  cases he:mX (d+1) (p1.name.2.aI [61]) with
  | none=>rw [he] at h;cases h
  | some r =>
  obtain ⟨e,p2⟩:=r;rw [he] at h;cases h;have dz:=(om jn he).ok jn;refine ae ?_;refine aE (aH [0,1,2,3,4,5,6,7,8,9,10,11,12,13,14,15,16,17,18,19,20,21,22,23,24,25,26,27,28,29,30,31,32] (.a 33 (.q 34 (.q 35 .nil)))) ?_;refine ak ?_;refine bz [0] (cS p1 1 jY (by decide)) ?_;refine ae ?_;refine ab [0] (xl p1 jY) ?_;refine ab [0] (cR _ [61] eD (by decide)) ?_;refine ab [0] (xn (d+1) _ e p2 jn ah he) ?_;refine ab [0] (cR p2 [59] dz (by decide)) ?_;refine bE ?_;refine ae ?_;refine ab [] (fK 7 at_ p1.name.1 [e] _ nz) ?_;exact dc
 rw [if_neg h5] at h
 cases he:mX (d+1) p1 with
 | none=>rw [he] at h;cases h
 | some r =>
 obtain ⟨e,p2⟩:=r;rw [he] at h;simp only at h;have dz:=(om jY he).ok jY;have TV:=dz.2
 have EM:(p1.code==0)=false\/((p1.code==0)=true/\p1.l.length<=p1.i)\/((p1.code==0)=true/\∃ tk,p1.l[p1.i]?=some tk/\((tk.kind==2)=false\/((tk.kind==2)=true/\(p1.sign 1==[61])=false))):=by
  by_cases hc:p1.code=0
  ·refine .inr ?_
   have de:(p1.code==0)=true:=by simpa using hc
   cases ht:p1.l[p1.i]? with
   | none=>exact .inl ⟨de,List.getElem?_eq_none_iff.1 ht⟩
   | some tk =>
    refine .inr ⟨de,tk,rfl,?_⟩
    by_cases hk:tk.kind=2
    ·refine .inr ⟨by simpa using hk,uc fun YW=>h5 ⟨hc,?_,YW⟩⟩;unfold RS.mN;rw [ht];simpa using hk
    ·exact .inl (by simpa using hk)
  ·exact .inl (by simpa using hc)
 refine ae ?_;refine GW.join (fun fr Γ=>fr=[.loc 0 0,.v (ii (d:Nat)),.U,.U,.loc 1 0,.v (ii at_),.U,.U,.U,.U,.U,.U,.U,.U,.U,.U,.U,.U,.U,.U,.U,.U,.U,.U,.U,.U,.U,.U,.U,.U,.U,.U,.U,.U,.U,.U,.U,.U,.U,.U,.U,.U,.U,.U,.U,.U,.U,.U,.U,.U,.U,.U,.U,.U,.U,.U,.U,.U,.U,.U,.U,.U,.U,.U,.U,.U,.U,.U,.U,.U,.U,.U,.U,.U,.U,.U,.U,.U,.U,.U,.U,.U,.U,.U,.U,.U,.U,.U,.U,.U,.U,.U,.U,.U,.U,.U,.U,.U,.U,.U,.U,.U,.U,.U,.U,.v (.bool false),.U,.U,.U,.U,.U,.U,.U,.U,.U,.U,.U,.U,.U,.U,.U,.U,.U,.U,.U,.U,.U,.U,.U,.U,.U,.U,.U,.U,.U,.U,.U,.U,.U,.U,.U,.U,.U,.U,.U,.U,.U,.U,.U,.U,.U,.U,.U,.U,.U,.U,.U,.U,.U,.U,.U,.U,.U,.U,.U,.U,.U,.U,.U,.U,.U]/\Γ=[bU p1,.box 94 zT]) ?_ ?_
 ·rcases EM with de | ⟨de,kQ⟩ | ⟨de,tk,ht,hk | ⟨hk,fF⟩⟩
  ·refine aE (aH [0,1,2,3,4,5,6,7,8,9,10,11,12,13,14,15,16,17,18,19,20,21,22,23,24,25,26,27,28,29,30,31,32] (.a 33 (.q 34 (.q 35 .nil)))) ?_;refine ak ?_;exact aK ⟨_,_,Wk.ax ao,rfl,rfl⟩
  ·have ON:decide ((p1.i:Int) < ((p1.l.map cV).length:Int))=false:=by simpa using kQ
   refine aE (aH [0,1,2,3,4,5,6,7,8,9,10,11,12,13,14,15,16,17,18,19,20,21,22,23,24,25,26,27,28,29,30,31,32] (.a 33 (.q 34 (.q 35 .nil)))) ?_;refine ak ?_;exact aK ⟨_,_,Wk.ax ao,rfl,rfl⟩
  ·have ar:=(List.getElem?_eq_some_iff.1 ht).1
   have ON:decide ((p1.i:Int) < ((p1.l.map cV).length:Int))=true:=by simpa using ar
   have hr:=jM ht;refine aE (aH [0,1,2,3,4,5,6,7,8,9,10,11,12,13,14,15,16,17,18,19,20,21,22,23,24,25,26,27,28,29,30,31,32] (.a 33 (.q 34 (.q 35 .nil)))) ?_;refine ak ?_;exact aK ⟨_,_,Wk.ax ao,rfl,rfl⟩
  ·have ar:=(List.getElem?_eq_some_iff.1 ht).1
   have ON:decide ((p1.i:Int) < ((p1.l.map cV).length:Int))=true:=by simpa using ar
   have hr:=jM ht;refine aE (aH [0,1,2,3,4,5,6,7,8,9,10,11,12,13,14,15,16,17,18,19,20,21,22,23,24,25,26,27,28,29,30,31,32] (.a 33 (.q 34 (.q 35 .nil)))) ?_;refine ak ?_;refine bz [0] (cS p1 1 jY (by decide)) ?_;exact aK ⟨_,_,Wk.ax (by repeat (first | exact rS.nil | refine rS.U ?_ | refine rS.eq rfl ?_ | refine rS.eq (by rw [fF]) ?_)),rfl,rfl⟩
 ·rintro _ _ ⟨rfl,rfl⟩;refine ae ?_;refine ab [0] (xn (d+1) _ e p2 jY ah he) ?_
  by_cases k3:e.n.kind=3
  ·have Z4:(e.n.kind==3)=true:=by simpa using k3
   by_cases ka:e.n.at_=at_
   ·have Z5:(e.n.at_==at_)=true:=by simpa using ka
    by_cases ks:p2.sign 0=[61]
    ·have Z6:(p2.sign 0==[61])=true:=by rw [ks];rfl
     rw [if_pos ⟨k3,ka,ks⟩] at h;have ar:=(fi ks (by decide)).1;have hn:=(iL ks (by decide)).ok dz
     cases hk:e.kids with
     | nil=>rw [hk] at h;cases h
     | cons a rest =>
     cases hv:mX (d+1) p2.next with
     | none=>rw [hk,hv] at h;cases h
     | some r =>
     obtain ⟨v,p3⟩:=r;rw [hk,hv] at h;cases h;have yI:=(om hn hv).ok hn
     have hr:(aP (a::rest))[0]?=some (cT a):=by simp [aP,uj]
     refine ae ?_;refine ab [0] (cS p2 0 dz (by decide)) ?_;refine ab [0] (xn (d+1) _ v p3 hn ah hv) ?_;refine ab [0] (cR p3 [59] yI (by decide)) ?_;refine aE (aH [0,1,2,3,4,5,6,7,8] (.a 9 (.a 10 (.a 11 .nil)))) ?_;refine ak ?_;refine eE ?_;refine ak ?_;refine sK [] (fK 8 at_ e.n.s [a,v] _ nz) ?_;refine F4 ?_;refine ak ?_;exact oz
    ·have Z6:(p2.sign 0==[61])=false:=uc ks;rw [if_neg (fun hh=>ks hh.2.2)] at h;cases h;refine ae ?_;refine ab [0] (cS p2 0 dz (by decide)) ?_;refine ab [0] (cR p2 [59] dz (by decide)) ?_;refine bE ?_;refine ae ?_;refine ab [] (fK 12 at_ [] [e] _ nz) ?_;exact dc
   ·have Z5:(e.n.at_==at_)=false:=by simpa using ka
    rw [if_neg (fun hh=>ka hh.2.1)] at h;cases h;refine ae ?_;refine ab [0] (cR p2 [59] dz (by decide)) ?_;refine bE ?_;refine ae ?_;refine ab [] (fK 12 at_ [] [e] _ nz) ?_;exact dc
  ·have Z4:(e.n.kind==3)=false:=by simpa using k3
   rw [if_neg (fun hh=>k3 hh.1)] at h;cases h;refine ae ?_;refine ab [0] (cR p2 [59] dz (by decide)) ?_;refine bE ?_;refine ae ?_;refine ab [] (fK 12 at_ [] [e] _ nz) ?_;exact dc
theorem sds (f:Nat):KC f:=by
 induction f using Nat.strongRecOn with
 | _ f ih =>
  cases f with
  | zero=>exact ⟨fun d p t q _ _ h=>by simp [mS] at h,fun d p t q _ _ h=>by simp [mS] at h,fun a d p t q _ _ _ h=>by simp [mS] at h⟩
  | succ f =>
   have C:=ih f (Nat.lt_succ_self f)
   have Cs:∀ f',f'<=f->KC f':=fun f' h=>ih f' (Nat.lt_succ_of_le h)
   exact ⟨fun d p t q hp hd h=>Rh Cs d p t q hp hd h,fun d p t q hp hd h=>U1 C d p t q hp hd h,fun a d p t q hp hl hd h=>SQ C a d p t q hp hl hd h⟩
end Go.Xg
namespace Go.Xg
open Go.RowKit Go.Xw Go.Proofs
open Go.Xp (Tok Nd T bd one levels Ar)
open Go.Sp
attribute [local irreducible] GW GL GO YG GC GA aW aZ
def ay (n:Nd):List GV:=[.v (ii n.kind),.v (ii n.at_),.v (ii n.n),.v (sv n.s),ints n.kids]
def au (f:Go.Sp.Fn):List GV:=[.v (sv f.name),strs f.params,.v (ii f.body)]
def aB (a:Ar):List GV:=[.v (sv a.name),.v (ii a.size)]
abbrev av (p:Src):List GV:=[strs p.globals,.sl 2 (p.arrays.map aB),.sl 3 (p.fns.map au),.sl 5 (p.nodes.map ay)]
theorem Gw (k:Int):GF Tryz.prog 275 [.v (ii k)] [] (.v (.bool (lS k))) []:=by
 unfold lS;refine da Tryz.func275 Tryz.ntmps275 ?_
 cases h:decide ((1:Int)<=k)
 all_goals
  exact aw
theorem Gx (k:Int):GF Tryz.prog 251 [.v (ii k)] [] (.v (.bool (fS k))) []:=by
 unfold fS;refine da Tryz.func251 Tryz.ntmps251 ?_
 cases h:decide ((7:Int)<=k)
 all_goals
  exact aw
theorem sw (s:ai):GF Tryz.prog 250 [.v (sv s)] [] (.v (.bool (ej s))) []:=by
 refine aj Tryz.func250 Tryz.ntmps250 ?_;refine ab [] (jc) ?_;refine GW.range (levels.map fun l=>[strs l]).length (fun k fr Γ=>fr=[.v (sv s),.U,.U,.U,.U,.sl 1 (levels.map fun l=>[strs l]),.v (ii ((levels.map fun l=>[strs l]).length:Int)),.v (ii (k:Nat)),.U,.U,.U,.U,.U,.U,.U]/\Γ=[]/\((levels.take k).any fun l=>l.contains s)=false) ?_ (by decide) ?_ ?_ ?_
 ·exact ⟨_,_,Wk.ax ao,rfl,rfl,rfl⟩
 ·rintro k _ _ ⟨rfl,rfl,_⟩;exact ⟨rfl,rfl,rfl⟩
 ·rintro k _ _ hk ⟨rfl,rfl,hf⟩
  have hk:k < levels.length:=by simpa using hk
  have hx:levels[k]?=some levels[k]:=by simp [hk]
  have hr:(levels.map fun l=>[strs l])[k]?=some [strs levels[k]]:=by simp [hk]
  have yJ:levels[k].length<=1099511627776:=by
   have:∀ l∈levels,l.length<=1099511627776:=by decide
   exact this _ (getElem_mem hk)
  generalize levels[k]=x at *;have hh:=iP x s yJ
  cases hb:x.contains s with
  | true =>
   rw [hb] at hh
   have ha:ej s=true:=by
    unfold ej;rw [List.any_eq_true];exact ⟨x,mem_of_getElem? hx,hb⟩
   refine ae ?_;refine ab [] (hh) ?_;refine bI ?_;rw [ha];exact ⟨rfl,rfl⟩
  | false =>
   rw [hb] at hh;refine ae ?_;refine ab [] (hh) ?_;exact ⟨rfl,rfl,_,_,Wk.ax ao,rfl,rfl,by rw [take_add_one,hx,List.any_append,hf];simp only [Option.toList,List.any_cons,List.any_nil,hb];rfl⟩
 ·rintro _ _ ⟨rfl,rfl,hf⟩
  have hf:ej s=false:=by
   rw [take_of_length_le (by simp)] at hf;exact hf
  refine ae ?_;refine bI ?_;rw [hf];exact ⟨rfl,rfl⟩
theorem cL {l:List T} {i:Nat} {t:T} (h:l[i]?=some t):(aP l)[i]?=some (cT t):=by
 induction l generalizing i with
 | nil=>simp at h
 | cons a l ih =>
  cases i with
  | zero=>cases h;simp [aP,uj]
  | succ i=>simpa [aP] using ih (by simpa using h)
theorem eQ (t:T) (m:Nat) (hl:t.kids.length<=1099511627776):GF Tryz.prog 249 [.agg (cT t),.v (ii (m:Nat))] [] (.v (.bool (be m 0 t.kids))) []:=by
 refine aj Tryz.func249 Tryz.ntmps249 ?_;refine GW.range (aP t.kids).length (fun k fr Γ=>fr=[.U,.v (ii (m:Nat)),.U,.U,.U,.U,.U,.U,.sl 6 (aP t.kids),.v (ii ((aP t.kids).length:Int)),.v (ii (k:Nat)),.U,.U,.U,.U,.U,.U,.U,.U,.U,.U,.U,.U,.U,.U,.U,.U,.U,.U,.U,.U,.U,.U,.U,.U,.U,.U]/\Γ=[]/\be m k (t.kids.drop k)=be m 0 t.kids) ?_ (by rw [aQ];exact hl) ?_ ?_ ?_
 ·exact ⟨_,_,(Wk.cut (n:=0) (Nat.le_refl _) rfl).trans (Wk.ax ao),rfl,rfl,rfl⟩
 ·rintro k _ _ ⟨rfl,rfl,_⟩;exact ⟨rfl,rfl,rfl⟩
 ·rintro k _ _ hk ⟨rfl,rfl,hf⟩
  have hk:k < t.kids.length:=by rw [aQ] at hk;exact hk
  have hx:t.kids[k]?=some t.kids[k]:=by simp [hk]
  have hr:=cL hx;rw [List.drop_eq_getElem_cons hk,be] at hf;generalize t.kids[k]=x at *;have he:=Gw x.n.kind
  by_cases hm:k < m
  ·have Zt:decide ((k:Int) < (m:Int))=true:=by simpa using hm
   have Ey:decide ((m:Int)<=(k:Int))=false:=by simpa using hm
   rw [if_pos hm] at hf
   cases hb:lS x.n.kind with
   | true =>
    rw [hb] at he hf;refine ae ?_;refine ab [] (he) ?_;exact ⟨rfl,rfl,_,_,(Wk.cut (n:=0) (Nat.le_refl _) rfl).trans (Wk.ax ao),rfl,rfl,by simpa using hf⟩
   | false =>
    rw [hb] at he hf;refine ae ?_;refine ab [] (he) ?_;refine bI ?_;rw [<-hf];exact ⟨rfl,rfl⟩
  ·have Zt:decide ((k:Int) < (m:Int))=false:=by simp;omega
   have Ey:decide ((m:Int)<=(k:Int))=true:=by simp;omega
   rw [if_neg hm] at hf
   cases hb:(x.n.kind==14) with
   | true =>
    rw [hb] at hf
    have bj:(x.n.kind != 14)=false:=by simp only [bne,hb];rfl
    refine ae ?_;exact ⟨rfl,rfl,_,_,(Wk.cut (n:=0) (Nat.le_refl _) rfl).trans (Wk.ax ao),rfl,rfl,by simpa using hf⟩
   | false =>
    rw [hb] at hf
    have bj:(x.n.kind != 14)=true:=by simp only [bne,hb];rfl
    refine ae ?_;refine bI ?_;rw [<-hf];exact ⟨rfl,rfl⟩
 ·rintro _ _ ⟨rfl,rfl,hf⟩;rw [aQ,List.drop_length,be] at hf;refine ae ?_;refine bI ?_;rw [<-hf];exact ⟨rfl,rfl⟩
theorem jw {l:List Nd} {i:Nat} {n:Nd} (h:l[i]?=some n):(l.map ay)[i]?=some (ay n):=by rw [getElem?_map,h];rfl
theorem oQ {l:List Int} {i:Nat} {n:Int} (h:l[i]?=some n):(l.map fun i=>[GV.v (ii i)])[i]?=some [.v (ii n)]:=by rw [getElem?_map,h];rfl
theorem DC (p:Src) (hk:∀ n∈p.nodes,n.kids.length<=1000000000000):∀ (f a:Nat) (t:T),sub p.nodes f a=some t->GF Tryz.prog 99 [.agg (av p),.v (ii (a:Nat))] [] (.agg (cT t)) []:=by
 intro f
 induction f using Nat.strongRecOn with
 | _ f ih =>
 intro a t h
 cases f with
 | zero=>simp [sub] at h
 | succ f =>
 rw [sub] at h
 cases hn:p.nodes[a]? with
 | none=>rw [hn] at h;cases h
 | some n =>
 rw [hn] at h;simp only at h
 cases hs:nN p.nodes f n.kids [] with
 | none=>rw [hs] at h;cases h
 | some l =>
 rw [hs] at h;cases h;have hr:=jw hn;have eW:=hk n (mem_of_getElem? hn);refine aj Tryz.func99 Tryz.ntmps99 ?_;refine GW.wk (Wk.JR (i:=2) (o:=5) 94 6 rfl rfl) ?_
 refine GW.range (n.kids.map fun i=>[GV.v (ii i)]).length (fun k fr Γ=>∃ rows acc g,fr=[.U,.v (ii (a:Nat)),.loc 0 0,.U,.loc 1 0,.loc 2 0,.U,.U,.U,.U,.U,.U,.U,.U,.U,.U,.U,.U,.U,ints n.kids,.v (ii ((n.kids.map fun i=>[GV.v (ii i)]).length:Int)),.v (ii (k:Nat)),.U,.U,.U,.U,.U,.U,.U,.U,.U,.U,.U,.U,.U] /\
   Γ=[.box 34 (av p),.box 94 zT,.box 94 [.v (ii n.kind),.v (ii n.at_),.v (ii n.n),.v (sv n.s),ints n.kids,.vec 3 k],.vec 94 6 0 rows] /\
   rows.length=k/\rows=aP acc/\g<=f/\nN p.nodes g (n.kids.drop k) acc=some l) ?_ (by simp;omega) ?_ ?_ ?_
 ·exact ⟨_,_,Wk.ax ao,[],[],f,rfl,rfl,rfl,rfl,Nat.le_refl _,hs⟩
 ·rintro k _ _ ⟨_,_,_,rfl,rfl,_⟩;exact ⟨rfl,rfl,rfl⟩
 ·rintro k _ _ ar ⟨rows,acc,g,rfl,rfl,uz,bs,hg,h⟩
  have ar:k < n.kids.length:=by simpa using ar
  have hx:n.kids[k]?=some n.kids[k]:=by simp [ar]
  rw [List.drop_eq_getElem_cons ar] at h;generalize n.kids[k]=x at *
  cases g with
  | zero=>simp [nN] at h
  | succ g =>
  rw [nN] at h
  by_cases pR:x < 0
  ·rw [if_pos pR] at h;cases h
  rw [if_neg pR] at h
  cases b6:sub p.nodes g x.toNat with
  | none=>rw [b6] at h;cases h
  | some t =>
  rw [b6] at h;simp only at h;have xV:=ih g ah x.toNat t b6;rw [Int.toNat_of_nonneg ah] at xV;have wh:=oQ hx;refine ae ?_;refine aE (aH [0,1,2,3] (.a 4 (.a 5 (.a 6 (.q 7 (.a 8 .nil)))))) ?_;refine ak ?_;refine aC [] (xV) ?_;refine eE ?_;refine ak ?_;refine B6 ?_;refine ak ?_;refine ae ?_;exact ⟨rfl,rfl,_,_,Wk.ax ao,_,acc++[t],g,rfl,rfl,by rw [length_append,uz];rfl,by rw [wL,bs];rfl,by omega,h⟩
 ·rintro _ _ ⟨rows,acc,g,rfl,rfl,uz,bs,hg,h⟩;rw [length_map,List.drop_length] at h
  have kB:acc=l:=by cases g <;> (rw [nN] at h;cases h;rfl)
  subst kB;subst bs;refine aK (GW.wk (Wk.yb (i:=2) (o:=5) rfl rfl rfl rfl uz) ?_);exact oz
end Go.Xg
namespace Go.Xg
open Go.RowKit Go.Xw Go.Proofs
open Go.WideShapes Go.Deep
open Go.Xp (Nd Ar)
open Go.Sp (Src)
open Go.Im (Small ra)
def flat (v:Value):Prop:=∀ a n c,v≠.slice a n c
def u9 (W:World) (v:Value) (xs:List Value):Prop:=∃ a c,v=.slice a xs.length c/\(xs=[]\/∃ b o,a=some ⟨b,o,none⟩/\xs.length<=c/\∀ i x,xs[i]?=some x->fu W.heap b (o+i)=some x/\flat x)
theorem u9.uniq {W:World} {v:Value} {xs ys:List Value} (h:u9 W v xs) (k:u9 W v ys):xs=ys:=by
 obtain ⟨a,c,h1,h2⟩:=h;obtain ⟨a',c',k1,k2⟩:=k;rw [h1] at k1
 injection k1 with e1 e2 e3
 subst e1 e3
 rcases h2 with rfl | ⟨b,o,h3,h4,h5⟩
 ·exact (eq_nil_of_length_eq_zero (by simpa using e2.symm)).symm
 ·rcases k2 with rfl | ⟨b',o',k3,k4,k5⟩
  ·exact eq_nil_of_length_eq_zero (by simpa using e2)
  ·rw [h3] at k3;cases k3;apply ext_getElem e2;intro i hi hj;have a1:=(h5 i _ (getElem?_eq_getElem hi)).1;have a2:=(k5 i _ (getElem?_eq_getElem hj)).1;rw [a1] at a2;exact Option.some.inj a2
open Classical in
noncomputable def KW (W:World):Fz:=fun b o=>match fu W.heap b o with
 | none=>none
 | some v=>if ∃ a n c,v=.slice a n c then (if h:∃ xs,u9 W v xs then some (.sl 1 (h.choose.map fun x=>[.v x])) else none) else some (.v v)
theorem kM {W:World} {b o:Nat} {v:Value} (h:fu W.heap b o=some v) (hf:flat v):KW W b o=some (.v v):=by
 unfold KW;rw [h];simp only;rw [if_neg (by rintro ⟨a,n,c,e⟩;exact hf a n c e)]
theorem P9 {W:World} {b o:Nat} {v:Value} {xs:List Value} (h:fu W.heap b o=some v) (hx:u9 W v xs):KW W b o=some (.sl 1 (xs.map fun x=>[.v x])):=by
 have hs:∃ a n c,v=.slice a n c:=by obtain ⟨a,c,e,_⟩:=hx;exact ⟨_,_,_,e⟩
 have hex:∃ xs,u9 W v xs:=⟨xs,hx⟩;unfold KW;rw [h];simp only;rw [if_pos hs,dif_pos hex,hex.choose_spec.uniq hx]
theorem MZ {W:World} {v:Value} {xs:List Value} (hx:u9 W v xs) (β:Bt):Rel (KW W) β v (.sl 1 (xs.map fun x=>[GV.v x])):=by
 obtain ⟨a,c,rfl,h⟩:=hx
 rcases h with rfl | ⟨b,o,rfl,hc,kJ⟩
 ·exact .sl0 a c 1
 ·have:=Rel.sl (K:=KW W) (β:=β) b o c 1 (xs.map fun x=>[GV.v x]) (fun i r hr=>by
   rw [getElem?_map] at hr
   cases hi:xs[i]? with
   | none=>rw [hi] at hr;cases hr
   | some x =>
    rw [hi] at hr;cases hr;obtain ⟨h1,h2⟩:=kJ i x hi;refine ⟨rfl,fun j g hg=>?_⟩
    cases j with
    | zero=>cases hg;rw [Nat.mul_one,Nat.add_zero];exact kM h1 h2
    | succ j=>simp at hg) (by rw [length_map];exact hc)
  rw [length_map] at this;exact this
theorem Vl (W:World):iO (KW W) W:=fun b o g h=>by
 unfold KW at h
 cases hc:fu W.heap b o with
 | none=>rw [hc] at h;cases h
 | some v =>
  rw [hc] at h;simp only at h;split at h
  ·split at h
   ·rename_i hex;cases h;exact ⟨rfl,v,rfl,MZ hex.choose_spec _⟩
   ·cases h
  ·cases h;exact ⟨rfl,v,rfl,.v v⟩
theorem Pt {W:World} {v:Value} {k:Nat} {rows:List (List GV)} {a:Option Addr} {n c:Nat} (β:Bt) (hv:v=.slice a n c) (hn:rows.length=n)
  (h:n=0\/∃ b o,a=some ⟨b,o,none⟩/\n<=c/\∀ i r,rows[i]?=some r->r.length=k/\∀ j g,r[j]?=some g->KW W b (o+i * k+j)=some g):Rel (KW W) β v (.sl k rows):=by
 subst hv hn
 rcases h with h | ⟨b,o,rfl,hc,hr⟩
 ·have:=eq_nil_of_length_eq_zero h;subst this;exact .sl0 a c k
 ·exact .sl b o c k rows hr hc
theorem za {W:World} {a:Addr} {n:Nat} {v:Value} (h:W.cell? (a.add n)=some v):fu W.heap a.block (a.off+n)=some v:=by
 unfold Addr.add at h;split at h
 ·rename_i h0;subst h0;obtain ⟨b,o,s⟩:=a;have hs:=World.cell?_spot h;simp only at hs;subst hs;rw [eT] at h;exact h
 ·obtain ⟨b,o,s⟩:=a;simp only at h;rw [eT] at h;exact h
theorem y7 {W:World} {a:Addr} {v:Value} (h:W.cell? (a.add 0)=some v):a.spot=none:=by
 have:=World.cell?_spot h;unfold Addr.add at this;rw [if_pos rfl] at this;exact this
theorem qw {α:Type} {Q:Nat->α->Prop}:∀ {n:Nat},(∀ i,i < n->∃ x,Q i x)->∃ l:List α,l.length=n/\∀ i x,l[i]?=some x->Q i x
 | 0,_=>⟨[],rfl,fun i x h=>by simp at h⟩
 | n+1,h=>by
  obtain ⟨l,h1,h2⟩:=qw (n:=n) fun i hi=>h i ah
  obtain ⟨x,hx⟩:=h n ah;refine ⟨l++[x],by simp [h1],fun i y hi=>?_⟩
  by_cases we:i < n
  ·rw [getElem?_append_left ah] at hi;exact h2 i y hi
  ·have ar:=(List.getElem?_eq_some_iff.1 hi).1;rw [length_append,length_cons,length_nil] at ar
   have:i=n:=by omega
   subst this;rw [getElem?_append_right ah,h1,Nat.sub_self] at hi
   cases hi;exact hx
theorem max_le {n:Nat} (h:n<=maxLen):n<=9223372036854775807:=by unfold maxLen at h;omega
section
variable {H:Type} {enc:TypeId × Value->H} {P:Program} {W:World}
theorem Fm {t e:TypeId} {n:Nat} {v:Value} {y:DataW H × List MemPlace} (ht:P.underlying t=some (.slice e)) (he:P.underlying e=some .string) (hc:P.cellsOf e=1) (h:DataW.trod enc P W 0 (fun _=>true) true n t [v]=some y) :
  ∃ l:List ai,u9 W v (l.map sv)/\l.length<=9223372036854775807/\∀ s∈l,s.length<=9223372036854775807:=by
 rcases open_slice1 ht hc h with ⟨eV,_⟩ | ⟨a,len,cap,m,n',V,D,Pl,eV,_,hl,hm,qK,_,hx⟩
 ·injection eV with hv;subst hv
  exact ⟨[],⟨none,0,rfl,.inl rfl⟩,Nat.zero_le _,fun s h=>by cases h⟩
 ·injection eV with hv _;subst hv
  simp only [if_true] at qK
  obtain ⟨l,h1,h2⟩:=qw (n:=len) (Q:=fun i (s:ai)=>W.cell? (a.add i)=some (sv s)/\s.length<=9223372036854775807) (fun i hi=>by
   obtain ⟨c1,c2⟩:=hx i ah;obtain ⟨s,hs,_,hz⟩:=DataW.trod_string he c2
   injection hs with hs _
   rw [hs] at c1
   exact ⟨s.data.toList,by rw [<-DD];exact c1,max_le hz⟩)
  refine ⟨l,⟨some a,cap,by rw [length_map,h1],?_⟩,by rw [h1];exact max_le (Nat.le_trans hl hm),fun s hs=>?_⟩
  ·by_cases h0:len=0
   ·have:l=[]:=eq_nil_of_length_eq_zero ah;subst this;exact .inl rfl
   ·refine .inr ⟨a.block,a.off,?_,by rw [length_map,h1];exact hl,fun i x hi=>?_⟩
    ·have ux:l[0]?=some (l[0]'ah):=getElem?_eq_getElem _;have:=y7 (h2 0 _ ux).1;obtain ⟨b,o,s⟩:=a;simp only at this;rw [this]
    ·rw [getElem?_map] at hi
     cases si:l[i]? with
     | none=>rw [si] at hi;cases hi
     | some s =>
      rw [si] at hi;cases hi;exact ⟨za (h2 i s si).1,fun a n c e=>by cases e⟩
  ·obtain ⟨i,hi⟩:=List.getElem?_of_mem hs;exact (h2 i s hi).2
theorem Po {t e:TypeId} {n:Nat} {v:Value} {y:DataW H × List MemPlace} (ht:P.underlying t=some (.slice e)) (he:P.underlying e=some (.int .i64)) (hc:P.cellsOf e=1) (h:DataW.trod enc P W 0 (fun _=>true) true n t [v]=some y) :
  ∃ l:List Int,u9 W v (l.map ii)/\l.length<=9223372036854775807:=by
 rcases open_slice1 ht hc h with ⟨eV,_⟩ | ⟨a,len,cap,m,n',V,D,Pl,eV,_,hl,hm,qK,_,hx⟩
 ·injection eV with hv;subst hv
  exact ⟨[],⟨none,0,rfl,.inl rfl⟩,Nat.zero_le _⟩
 ·injection eV with hv _;subst hv
  simp only [if_true] at qK
  obtain ⟨l,h1,h2⟩:=qw (n:=len) (Q:=fun i (z:Int)=>W.cell? (a.add i)=some (ii z)) (fun i hi=>by
   obtain ⟨c1,c2⟩:=hx i ah;obtain ⟨z,hs,_,hz⟩:=DataW.trod_int he c2
   injection hs with hs _
   rw [hs] at c1
   exact ⟨z,c1⟩)
  refine ⟨l,⟨some a,cap,by rw [length_map,h1],?_⟩,by rw [h1];exact max_le (Nat.le_trans hl hm)⟩
  by_cases h0:len=0
  ·have:l=[]:=eq_nil_of_length_eq_zero ah;subst this;exact .inl rfl
  ·refine .inr ⟨a.block,a.off,?_,by rw [length_map,h1];exact hl,fun i x hi=>?_⟩
   ·have ux:l[0]?=some (l[0]'ah):=getElem?_eq_getElem _;have:=y7 (h2 0 _ ux);obtain ⟨b,o,s⟩:=a;simp only at this;rw [this]
   ·rw [getElem?_map] at hi
    cases si:l[i]? with
    | none=>rw [si] at hi;cases hi
    | some s =>
     rw [si] at hi;cases hi;exact ⟨za (h2 i s si),fun a n c e=>by cases e⟩
theorem zE {α:Type} {t e:TypeId} {fs:Array Field} {k n:Nat} {v:Value} {y:DataW H × List MemPlace} (f:α->List GV) (Q:α->Prop) (β:Bt) (ht:P.underlying t=some (.slice e)) (he:P.underlying e=some (.struct fs)) (gM:oneCellFields P fs=true) (hC:P.cellsOf e=k) (hk:fs.size=k) (yF:0 < k)
  (each:∀ b o,(∀ (j:Nat) (fl:Field),fs[j]?=some fl->∃ v y n,fu W.heap b (o+j)=some v/\DataW.trod enc P W 0 (fun _=>true) true n fl.type [v]=some y)->∃ x,Q x/\(f x).length=k/\∀ j g,(f x)[j]?=some g->KW W b (o+j)=some g)
  (h:DataW.trod enc P W 0 (fun _=>true) true n t [v]=some y):∃ l:List α,Rel (KW W) β v (.sl k (l.map f))/\l.length<=9223372036854775807/\∀ x∈l,Q x:=by
 rcases open_slice ht h with ⟨eV,_⟩ | ⟨a,len,cap,m,n',D,Pl,eV,_,hl,hm,qK,_,hx⟩
 ·injection eV with hv;subst hv
  exact ⟨[],.sl0 none 0 k,Nat.zero_le _,fun s h=>by cases h⟩
 ·injection eV with hv _;subst hv
  simp only [if_true] at qK
  have kJ:∀ i,i < len->∀ (j:Nat) (fl:Field),fs[j]?=some fl->∃ v y n,W.cell? (a.add (i * k+j))=some v/\DataW.trod enc P W 0 (fun _=>true) true n fl.type [v]=some y:=by
   intro i hi j fl hj;obtain ⟨yr,hc,Ap⟩:=hx i ah;rw [hC] at hc;obtain ⟨ys,n',Al,hy,hlen,EO,hf⟩:=DataW.trod_struct he Ap;obtain ⟨_,Eo,wa⟩:=World.cells?_some hc;obtain ⟨ho,td⟩:=hone_of gM j fl hj;have se:j < fs.size:=(Array.getElem?_eq_some_iff.1 hj).1;have kJ:=wa j ah;have hv:yr[j]?=some (yr[j]'ah):=getElem?_eq_getElem ah;have h1:=hf j fl hj;rw [ho,td] at h1
   have VM:(yr.drop j).take 1=[yr[j]'ah]:=by
    rw [List.drop_eq_getElem_cons ah];rfl
   rw [VM] at h1;have QK:ys[j]?=some (ys[j]'ah):=getElem?_eq_getElem ah;refine ⟨_,_,_,?_,h1.trans QK⟩;rw [<-Go.Deep.add_add,kJ,hv]
  obtain ⟨l,h1,h2⟩:=qw (n:=len) (Q:=fun i x=>Q x/\(f x).length=k/\∀ j g,(f x)[j]?=some g->KW W a.block (a.off+i * k+j)=some g) (fun i hi =>
   each a.block (a.off+i * k) fun j fl hj=>by
    obtain ⟨v,y,n,c1,c2⟩:=kJ i hi j fl hj
    exact ⟨v,y,n,by rw [Nat.add_assoc];exact za c1,c2⟩)
  refine ⟨l,Pt (n:=len) (c:=cap) β rfl (by rw [length_map,h1]) ?_,by rw [h1];exact max_le (Nat.le_trans hl hm),fun x hx=>?_⟩
  ·by_cases h0:len=0
   ·exact .inl h0
   ·refine .inr ⟨a.block,a.off,?_,hl,fun i r hr=>?_⟩
    ·obtain ⟨v,y,n,c1,c2⟩:=kJ 0 ah 0 (fs[0]'ah) (Array.getElem?_eq_getElem ah);rw [Nat.zero_mul,Nat.add_zero] at c1;have:=y7 c1;obtain ⟨b,o,s⟩:=a;simp only at this;rw [this]
    ·rw [getElem?_map] at hr
     cases si:l[i]? with
     | none=>rw [si] at hr;cases hr
     | some x =>
      rw [si] at hr;cases hr;exact (h2 i x si).2
  ·obtain ⟨i,hi⟩:=List.getElem?_of_mem hx;exact (h2 i x hi).1
end
theorem FO (l:List ai):GV.sl 1 ((l.map sv).map fun x=>[GV.v x])=strs l:=by rw [map_map];rfl
theorem OY (l:List Int):GV.sl 1 ((l.map ii).map fun x=>[GV.v x])=ints l:=by rw [map_map];rfl
theorem wf_i64 {z:Int} (h:(Lit.int .i64 z).wf=true) : -9223372036854775808<=z/\z<=9223372036854775807:=by
 simp only [Lit.wf,Bool.and_eq_true,decide_eq_true_eq] at h
 have h1:IntKind.min .i64 = -9223372036854775808:=by decide
 have h2:IntKind.max .i64=9223372036854775807:=by decide
 rw [h1,h2] at h;exact h
theorem uo (z:Int):flat (ii z):=fun a n c e=>by cases e
section
variable {H:Type} {enc:TypeId × Value->H} {W:World}
theorem Fo (β:Bt) {v:Value} {d:DataW H} {ps:List MemPlace} {r:Reach} {b0:Nat} (hv:Value.okWide Tryz.prog W r b0 27 v) (h:DataW.Trod enc Tryz.prog W 0 (fun _=>true) true 27 v d ps) :
  ∃ p:Src,Rel (KW W) β v (.agg (av p))/\Small p 9223372036854775807/\ra p:=by
 obtain ⟨v0,v1,v2,v3,y0,y1,y2,y3,n,rfl,_,_,h0,h1,h2,h3⟩:=Go.Joins.open_agg4 Tryz.underlying27 (by kernel_rfl) (by kernel_rfl) hv h
 have c9:Tryz.prog.cellsOf 9=1:=by kernel_rfl
 have c3:Tryz.prog.cellsOf 3=1:=by kernel_rfl
 obtain ⟨gs,g1,g2,g3⟩:=Fm Tryz.underlying22 Tryz.underlying9 c9 h0
 obtain ⟨Ww,a1,a2,a3⟩:=zE aB (fun x=>x.name.length<=9223372036854775807 /\ -9223372036854775808<=x.size/\x.size<=9223372036854775807) β Tryz.underlying23 Tryz.underlying103 (by kernel_rfl) (k:=2) (by kernel_rfl) rfl ah (fun b o hf=>by
  obtain ⟨u0,z0,n0,x0,w0⟩:=hf 0 _ rfl;obtain ⟨u1,z1,n1,x1,w1⟩:=hf 1 _ rfl;obtain ⟨s,hs,_,hz⟩:=DataW.trod_string Tryz.underlying9 w0;obtain ⟨z,fF,_,W3⟩:=DataW.trod_int Tryz.underlying3 w1
  injection hs with hs _
  injection fF with fF _
  subst hs fF;refine ⟨⟨s.data.toList,z⟩,⟨max_le hz,wf_i64 W3⟩,rfl,fun j g hg=>?_⟩
  match j,hg with
  | 0,hg=>cases hg;rw [<-DD];exact kM x0 fun a n c e=>by cases e
  | 1,hg=>cases hg;exact kM x1 (uo z)
  | j+2,hg=>simp [aB] at hg) h1
 obtain ⟨fs,f1,f2,f3⟩:=zE au (fun x=>x.name.length<=9223372036854775807/\x.params.length<=9223372036854775807/\∀ s∈x.params,s.length<=9223372036854775807) β Tryz.underlying24 Tryz.underlying105 (by kernel_rfl) (k:=3) (by kernel_rfl) rfl ah (fun b o hf=>by
  obtain ⟨u0,z0,n0,x0,w0⟩:=hf 0 _ rfl;obtain ⟨u1,z1,n1,x1,w1⟩:=hf 1 _ rfl;obtain ⟨u2,z2,n2,x2,w2⟩:=hf 2 _ rfl;obtain ⟨s,hs,_,hz⟩:=DataW.trod_string Tryz.underlying9 w0;obtain ⟨l,eX,ja,TL⟩:=Fm Tryz.underlying22 Tryz.underlying9 c9 w1;obtain ⟨z,fF,_,W3⟩:=DataW.trod_int Tryz.underlying3 w2
  injection hs with hs _
  injection fF with fF _
  subst hs fF;refine ⟨⟨s.data.toList,l,z⟩,⟨max_le hz,ja,TL⟩,rfl,fun j g hg=>?_⟩
  match j,hg with
  | 0,hg=>cases hg;rw [<-DD];exact kM x0 fun a n c e=>by cases e
  | 1,hg=>cases hg;rw [P9 x1 eX,FO]
  | 2,hg=>cases hg;exact kM x2 (uo z)
  | j+3,hg=>simp [au] at hg) h2
 obtain ⟨ns,k1,k2,k3⟩:=zE ay (fun x=>(x.s.length<=9223372036854775807/\x.kids.length<=9223372036854775807) /\ -9223372036854775808<=x.n/\x.n<=9223372036854775807) β Tryz.underlying25 Tryz.underlying107 (by kernel_rfl) (k:=5) (by kernel_rfl) rfl ah (fun b o hf=>by
  obtain ⟨u0,z0,n0,x0,w0⟩:=hf 0 _ rfl;obtain ⟨u1,z1,n1,x1,w1⟩:=hf 1 _ rfl;obtain ⟨u2,z2,n2,x2,w2⟩:=hf 2 _ rfl;obtain ⟨u3,z3,n3,x3,w3⟩:=hf 3 _ rfl;obtain ⟨u4,z4,n4,x4,w4⟩:=hf 4 _ rfl;obtain ⟨i0,e0,_,_⟩:=DataW.trod_int Tryz.underlying3 w0;obtain ⟨i1,e1,_,_⟩:=DataW.trod_int Tryz.underlying3 w1;obtain ⟨i2,e2,_,q2⟩:=DataW.trod_int Tryz.underlying3 w2;obtain ⟨s,hs,_,hz⟩:=DataW.trod_string Tryz.underlying9 w3;obtain ⟨l,eX,ja⟩:=Po Tryz.underlying40 Tryz.underlying3 c3 w4
  injection e0 with e0 _
  injection e1 with e1 _
  injection e2 with e2 _
  injection hs with hs _
  subst hs e0 e1 e2;refine ⟨⟨i0,i1,i2,s.data.toList,l⟩,⟨⟨max_le hz,ja⟩,wf_i64 q2⟩,rfl,fun j g hg=>?_⟩
  match j,hg with
  | 0,hg=>cases hg;exact kM x0 (uo _)
  | 1,hg=>cases hg;exact kM x1 (uo _)
  | 2,hg=>cases hg;exact kM x2 (uo _)
  | 3,hg=>cases hg;rw [<-DD];exact kM x3 fun a n c e=>by cases e
  | 4,hg=>cases hg;rw [P9 x4 eX,OY]
  | j+5,hg=>simp [ay] at hg) h3
 have r0:=MZ g1 β;rw [FO] at r0;refine ⟨⟨gs,Ww,fs,ns⟩,?_,⟨⟨g2,g3⟩,⟨a2,fun x hx=>(a3 x hx).1⟩,⟨f2,f3⟩,⟨k2,fun x hx=>(k3 x hx).1⟩⟩,⟨fun x hx=>(a3 x hx).2,fun x hx=>(k3 x hx).2⟩⟩;have hc:aY (KW W) β [v0,v1,v2,v3] (av ⟨gs,Ww,fs,ns⟩):=.cons r0 (.cons a1 (.cons f1 (.cons k1 .nil)));exact .agg [v0,v1,v2,v3] _ hc.1 hc.2
end
end Go.Xg
namespace Go.Xg
open Go.RowKit Go.Xw Go.Proofs
open Go.Lib
theorem Ng {P:Program} {W:World} {name:String} {k:IntKind} {zs:List Int} {g:Nat} {t e:TypeId} {n:Nat}
  (hg:P.globalNamed name=some g) (ZO:(P.globals[g]?).map (·.type)=some t) (ht:P.underlying t=some (.array n e)) (he:P.underlying e=some (.int k)) (LW:P.cellsOf e=1) (Zc:P.cellsOf t=n)
  (h:VarReads P W name (tabData k zs)):TabIs P W name k zs:=by
 obtain ⟨g',t',cs,fuel,p,kP,Ap,X9,hd⟩:=h;obtain rfl:=Option.some.inj (hg.symm.trans kP);obtain rfl:=Option.some.inj (ZO.symm.trans Ap);unfold TabIs;rw [X9,<-cells_of_tab ht he LW Zc hd]
theorem IB {P:Program} {W:World} {name:String} {k:IntKind} {zs:List Int} {g n:Nat} (hg:P.globalNamed name=some g) (hn:zs.length=n) (h:TabIs P W name k zs):rR W g n:=by
 unfold TabIs World.var? at h;rw [hg] at h;simp only [Option.bind_some] at h
 cases hb:W.heap[g]? with
 | none=>rw [hb] at h;cases h
 | some o =>
  rw [hb] at h
  cases o with
  | cells cs E z =>
   simp only [Option.some.injEq] at h;exact ⟨cs,E,z,hb,by rw [h];simpa using hn⟩
  | _=>cases h
theorem KA {P:Program} {W:World} {name:String} {k:IntKind} {zs:List Int} {g:Nat} (hg:P.globalNamed name=some g) (h:TabIs P W name k zs) {o:Nat} {z:Int} (ho:zs[o]?=some z):KW W g o=some (.v (.int k z)):=by
 have ar:=(List.getElem?_eq_some_iff.1 ho).1;have hc:=h.cell hg o ar;rw [List.getD_eq_getElem?_getD,ho,eT] at hc
 exact kM hc fun a n c e=>by cases e
theorem IC {W:World} (hp:VarReads Tryz.prog W "internal/strconv.uint64pow10" (tabData .u64 uM)) (hs:VarReads Tryz.prog W "strings.asciiSpace" (tabData .u8 uR)) (hW:W.ShapedOpen Tryz.prog):fH (KW W) (fun _=>.no) W:=by
 have gp:Tryz.prog.globalNamed "internal/strconv.uint64pow10" = some 3:=by kernel_rfl
 have gs:Tryz.prog.globalNamed "strings.asciiSpace" = some 0:=by kernel_rfl
 have tp:=Ng gp (t:=287) (by kernel_rfl) Tryz.underlying287 (k:=.u64) (by kernel_rfl) (by kernel_rfl) (by kernel_rfl) hp;have ts:=Ng gs (t:=244) (by kernel_rfl) Tryz.underlying244 (k:=.u8) (by kernel_rfl) (by kernel_rfl) (by kernel_rfl) hs;obtain ⟨m,hm⟩:=cell_of_shapedOpen_int (g:=1) (zero:=#[.int .i64 0]) (t:=3) hW (of_decide_eq_true (by kernel_rfl)) (by kernel_rfl) rfl (by kernel_rfl) (by kernel_rfl) Tryz.underlying3;rw [eT] at hm;refine ⟨⟨m,fun b o g h=>?_⟩,IB gp (by decide) tp,IB gs (by decide) ts,fun i b h=>by cases h⟩;unfold wA at h;split at h
 ·rename_i hb;subst hb;split at h
  ·cases h;exact kM hm fun a n c e=>by cases e
  ·cases h
 ·split at h
  ·rename_i hb;subst hb
   cases ho:uM[o]? with
   | none=>rw [ho] at h;cases h
   | some z=>rw [ho] at h;cases h;exact KA gp tp ho
  ·split at h
   ·rename_i hb;subst hb
    cases ho:uR[o]? with
    | none=>rw [ho] at h;cases h
    | some z=>rw [ho] at h;cases h;exact KA gs ts ho
   ·cases h
theorem GF.calls {P:Program} {f:FuncId} {gs:List GV} {g:GV} (h:GF P f gs [] g []) {W:World} {vs:List Value} (hv:aY (KW W) (fun _=>.no) vs gs) (hT:fH (KW W) (fun _=>.no) W) :
  lL P f vs W fun v w'=>Below W.heap.size W w'/\∃ K β,Rel K β v g:=by
 have hI:Inv ⟨W,gQ,KW W,fun _=>.no,0⟩ (KW W) (fun _=>.no) [] W :=
  ⟨Ext.refl W,cj.refl _,cX.refl _,fun _ _=>rfl,Vl W,fun i x h=>by simp at h,fun _ _=>rfl,fun i j b h=>(by cases h),fun i b h=>(by cases h),fun b o g h=>.inl h,hT⟩
 refine (h ⟨W,gQ,KW W,fun _=>.no,0⟩ (KW W) (fun _=>.no) W vs rfl hI hv).mono ?_;rintro v w' ⟨K',bM,x,aJ,h1,h2,rfl,rfl⟩;exact ⟨h1.ext.below,K',bM,h2⟩
end Go.Xg
namespace Go.Xg
open Go.RowKit Go.Xw Go.Proofs
open Go.Xp (Tok Nd T)
open Go.Sp
attribute [local irreducible] GW GL GO YG GC GA aW aZ
theorem rU {α:Type} {l:List α} {q:α->Bool} {k:Nat} {x:α} (hx:l[k]?=some x) (hf:(l.take k).all q=true) (hb:q x=true):(l.take (k+1)).all q=true:=by
 rw [take_add_one,hx,List.all_append,hf];simp [hb]
def idxOf (xs:List ai) (s:ai):Int:=match xs.findIdx? (fun x=>s==x) with | some i=>(i:Int) | none => -1
theorem Rb (xs:List ai) (s:ai) (hl:xs.length<=1099511627776):GF Tryz.prog 121 [strs xs,.v (sv s)] [] (.v (ii (idxOf xs s))) []:=by
 refine aj Tryz.func121 Tryz.ntmps121 ?_;refine GW.range (xs.map fun s=>[GV.v (sv s)]).length (fun k fr Γ=>fr=[strs xs,.v (sv s),.U,.U,.U,.U,strs xs,.v (ii ((xs.map fun s=>[GV.v (sv s)]).length:Int)),.v (ii (k:Nat)),.U,.U,.U,.U,.U,.U,.U,.U,.U,.U]/\Γ=[]/\((xs.take k).all fun x=>!(s==x))=true) ?_ (by simpa using hl) ?_ ?_ ?_
 ·exact ⟨_,_,Wk.ax ao,rfl,rfl,rfl⟩
 ·rintro k _ _ ⟨rfl,rfl,_⟩;exact ⟨rfl,rfl,rfl⟩
 ·rintro k _ _ ar ⟨rfl,rfl,hc⟩
  have ar:k < xs.length:=by simpa using ar
  have hx:xs[k]?=some xs[k]:=by simp [ar]
  have hr:(xs.map fun s=>[GV.v (sv s)])[k]?=some [.v (sv xs[k])]:=by simp [ar]
  cases hb:(s==xs[k]) with
  | true =>
   have hi:xs.findIdx? (fun x=>s==x)=some k:=by
    rw [List.findIdx?_eq_some_iff_getElem];refine ⟨ar,hb,fun j hj=>?_⟩;rw [List.all_eq_true] at hc;have:=hc xs[j] (by rw [List.mem_take_iff_getElem];exact ⟨j,by omega,rfl⟩);simpa using this
   unfold idxOf;rw [hi];generalize xs[k]=x at *;exact aw
  | false =>
   have qx:=rU (q:=fun x=>!(s==x)) hx hc (by rw [hb];rfl);generalize xs[k]=x at *;refine ae ?_;exact ⟨rfl,rfl,_,_,Wk.ax ao,rfl,rfl,qx⟩
 ·rintro _ _ ⟨rfl,rfl,hc⟩;rw [take_of_length_le (by simp)] at hc
  have hi:xs.findIdx? (fun x=>s==x)=none:=by
   rw [List.findIdx?_eq_none_iff];intro x hx;rw [List.all_eq_true] at hc;have:=hc x hx;simpa using this
  unfold idxOf;rw [hi];exact aw
theorem OV (xs:List ai) (s:ai):decide (0<=idxOf xs s)=xs.contains s:=by
 unfold idxOf
 cases h:xs.findIdx? (fun x=>s==x) with
 | some i =>
  rw [List.findIdx?_eq_some_iff_getElem] at h;obtain ⟨h1,h2,_⟩:=h
  have h3:s=xs[i]:=by simpa using h2
  have:xs.contains s=true:=by rw [List.contains_iff_mem,h3];exact getElem_mem _
  rw [this];simp
 | none =>
  rw [List.findIdx?_eq_none_iff] at h
  have:xs.contains s=false:=by
   cases hc:xs.contains s with
   | false=>rfl
   | true=>have:=h s (List.contains_iff_mem.1 hc);simp at this
  rw [this];rfl
theorem jP (xs:List ai) (s:ai) (hl:xs.length<=1099511627776):GF Tryz.prog 83 [strs xs,.v (sv s)] [] (.v (.bool (xs.contains s))) []:=by
 have hi:=Rb xs s hl;rw [<-OV];generalize idxOf xs s=i at *;refine aj Tryz.func83 Tryz.ntmps83 ?_;refine ab [] (hi) ?_;exact aq
end Go.Xg
set_option maxHeartbeats 2000000
namespace Go.Xg
open Go.RowKit Go.Xw Go.Proofs
open Go.Xp (Nd T Ar)
open Go.Sp (Src)
open Go.Im
attribute [local irreducible] GW GL GO YG GC GA aW aZ
theorem Mr (s:ai):GF Tryz.prog 81 [.v (sv s)] [] (.v (.bool (lC s))) []:=by
 unfold lC oh ph iu
 cases h1:(s==[103,101,116])
 all_goals cases h2:(s==[112,117,116])
 all_goals
  refine aj Tryz.func81 Tryz.ntmps81 ?_;exact aq
theorem DK {oF:FuncId} [aD Tryz.prog oF] (pr:Go.Sp.Fn->Bool) (l:List (Go.Sp.Fn)) (hn:l.length<=1099511627776) (hc:∀ x∈l,GF Tryz.prog oF [.agg (au x)] [] (.v (.bool (pr x))) []) :
  GF Tryz.prog 125 [.sl 3 (l.map au),.v (.func (.func oF) #[] #[])] [] (.v (ii (cJ pr l))) []:=by
 have eu:(l.map au).length=l.length:=by simp
 refine aj Tryz.func125 Tryz.ntmps125 ?_;refine GW.range (l.map au).length (fun k fr Γ=>fr=[.sl 3 (l.map au),.v (.func (.func oF) #[] #[]),.U,.U,.U,.U,.U,.v (ii ((l.map au).length:Int)),.v (ii (k:Nat)),.U,.U,.U,.U,.U,.U,.U,.U,.U,.U]/\Γ=[]/\(l.take k).all (fun y=>!pr y)=true) ?_ ah ?_ ?_ ?_
 ·exact ⟨_,_,Wk.ax ao,rfl,rfl,rfl⟩
 ·rintro k _ _ ⟨rfl,rfl,_⟩;exact ⟨rfl,rfl,rfl⟩
 ·rintro k _ _ ar ⟨rfl,rfl,aR⟩;rw [eu] at ar;obtain ⟨x,cQ⟩:∃ x,l[k]?=some x:=⟨l[k],by simp [ar]⟩
  have hr:(l.map au)[k]?=some (au x):=by rw [getElem?_map,cQ];rfl
  have h:=hc x (mem_of_getElem? cQ);have bt:=mA (f:=pr) cQ
  have hit:=fun h0=>nm (f:=pr) cQ h0 aR
  unfold au at hr h
  cases hb:pr x with
  | true =>
   rw [hb] at h;rw [hit hb];refine ae ?_;refine ig [] (h) ?_;exact aw
  | false =>
   rw [hb] at h bt;refine ae ?_;refine ig [] (h) ?_;refine ae ?_;exact ⟨rfl,rfl,_,_,Wk.ax ao,rfl,rfl,by rw [bt,aR];rfl⟩
 ·rintro _ _ ⟨rfl,rfl,aR⟩;rw [eu,take_length] at aR;rw [kA aR];exact aw
theorem sO {oF:FuncId} [aD Tryz.prog oF] (pr:Go.Sp.Fn->Bool) (l:List (Go.Sp.Fn)) (hn:l.length<=1099511627776) (hc:∀ x∈l,GF Tryz.prog oF [.agg (au x)] [] (.v (.bool (pr x))) []) :
  GF Tryz.prog 138 [.sl 3 (l.map au),.v (.func (.func oF) #[] #[])] [] (.v (.bool (l.any pr))) []:=by
 have h:=DK pr l hn hc;rw [<-Cx];generalize cJ pr l=z at *;refine aj Tryz.func138 Tryz.ntmps138 ?_;refine ab [] (h) ?_;exact aq
theorem Dm {oF:FuncId} [aD Tryz.prog oF] (pr:Go.Sp.Fn->Bool) (s:ai) (l:List (Go.Sp.Fn)) (hn:l.length<=1099511627776) (hc:∀ x∈l,GF Tryz.prog oF [.agg (au x),.box [.v (sv s)] 0] [] (.v (.bool (pr x))) []) :
  GF Tryz.prog 125 [.sl 3 (l.map au),.fn (.func oF) [] [.box [.v (sv s)] 0]] [] (.v (ii (cJ pr l))) []:=by
 have eu:(l.map au).length=l.length:=by simp
 refine aj Tryz.func125 Tryz.ntmps125 ?_;refine GW.range (l.map au).length (fun k fr Γ=>fr=[.sl 3 (l.map au),.fn (.func oF) [] [.box [.v (sv s)] 0],.U,.U,.U,.U,.U,.v (ii ((l.map au).length:Int)),.v (ii (k:Nat)),.U,.U,.U,.U,.U,.U,.U,.U,.U,.U]/\Γ=[]/\(l.take k).all (fun y=>!pr y)=true) ?_ ah ?_ ?_ ?_
 ·exact ⟨_,_,Wk.ax ao,rfl,rfl,rfl⟩
 ·rintro k _ _ ⟨rfl,rfl,_⟩;exact ⟨rfl,rfl,rfl⟩
 ·rintro k _ _ ar ⟨rfl,rfl,aR⟩;rw [eu] at ar;obtain ⟨x,cQ⟩:∃ x,l[k]?=some x:=⟨l[k],by simp [ar]⟩
  have hr:(l.map au)[k]?=some (au x):=by rw [getElem?_map,cQ];rfl
  have h:=hc x (mem_of_getElem? cQ);have bt:=mA (f:=pr) cQ
  have hit:=fun h0=>nm (f:=pr) cQ h0 aR
  unfold au at hr h
  cases hb:pr x with
  | true =>
   rw [hb] at h;rw [hit hb];refine ae ?_;refine na [] (h) ?_;exact aw
  | false =>
   rw [hb] at h bt;refine ae ?_;refine na [] (h) ?_;refine ae ?_;exact ⟨rfl,rfl,_,_,Wk.ax ao,rfl,rfl,by rw [bt,aR];rfl⟩
 ·rintro _ _ ⟨rfl,rfl,aR⟩;rw [eu,take_length] at aR;rw [kA aR];exact aw
theorem Dl {oF:FuncId} [aD Tryz.prog oF] (pr:Ar->Bool) (s:ai) (l:List (Ar)) (hn:l.length<=1099511627776) (hc:∀ x∈l,GF Tryz.prog oF [.agg (aB x),.box [.v (sv s)] 0] [] (.v (.bool (pr x))) []) :
  GF Tryz.prog 123 [.sl 2 (l.map aB),.fn (.func oF) [] [.box [.v (sv s)] 0]] [] (.v (ii (cJ pr l))) []:=by
 have eu:(l.map aB).length=l.length:=by simp
 refine aj Tryz.func123 Tryz.ntmps123 ?_;refine GW.range (l.map aB).length (fun k fr Γ=>fr=[.sl 2 (l.map aB),.fn (.func oF) [] [.box [.v (sv s)] 0],.U,.U,.U,.U,.U,.v (ii ((l.map aB).length:Int)),.v (ii (k:Nat)),.U,.U,.U,.U,.U,.U,.U,.U,.U,.U]/\Γ=[]/\(l.take k).all (fun y=>!pr y)=true) ?_ ah ?_ ?_ ?_
 ·exact ⟨_,_,Wk.ax ao,rfl,rfl,rfl⟩
 ·rintro k _ _ ⟨rfl,rfl,_⟩;exact ⟨rfl,rfl,rfl⟩
 ·rintro k _ _ ar ⟨rfl,rfl,aR⟩;rw [eu] at ar;obtain ⟨x,cQ⟩:∃ x,l[k]?=some x:=⟨l[k],by simp [ar]⟩
  have hr:(l.map aB)[k]?=some (aB x):=by rw [getElem?_map,cQ];rfl
  have h:=hc x (mem_of_getElem? cQ);have bt:=mA (f:=pr) cQ
  have hit:=fun h0=>nm (f:=pr) cQ h0 aR
  unfold aB at hr h
  cases hb:pr x with
  | true =>
   rw [hb] at h;rw [hit hb];refine ae ?_;refine na [] (h) ?_;exact aw
  | false =>
   rw [hb] at h bt;refine ae ?_;refine na [] (h) ?_;refine ae ?_;exact ⟨rfl,rfl,_,_,Wk.ax ao,rfl,rfl,by rw [bt,aR];rfl⟩
 ·rintro _ _ ⟨rfl,rfl,aR⟩;rw [eu,take_length] at aR;rw [kA aR];exact aw
theorem RC (x:Go.Sp.Fn) (s:ai):GF Tryz.prog 126 [.agg (au x),.box [.v (sv s)] 0] [] (.v (.bool (x.name==s))) []:=by
 unfold au;refine aj Tryz.func126 Tryz.ntmps126 ?_;exact aq
theorem Ls (p:Src) (s:ai) (hn:p.fns.length<=1099511627776):GF Tryz.prog 87 [.agg (av p),.v (sv s)] [] (.v (ii (cJ (fun x:Go.Sp.Fn=>x.name==s) p.fns))) []:=by
 have h:=Dm (fun x:Go.Sp.Fn=>x.name==s) s p.fns hn (fun x _=>RC x s);generalize cJ (fun x:Go.Sp.Fn=>x.name==s) p.fns=z at *;refine da Tryz.func87 Tryz.ntmps87 ?_;refine iN ?_;refine GL.wk (Wk.freeze (i:=1) rfl rfl rfl (Nat.zero_le _)) ?_;refine GN (by simp only [nK,mG];rfl) ?_;refine ae ?_;refine ab [] (h) ?_;exact aq
theorem I1 (x:Ar) (s:ai):GF Tryz.prog 124 [.agg (aB x),.box [.v (sv s)] 0] [] (.v (.bool (x.name==s))) []:=by
 unfold aB;refine aj Tryz.func124 Tryz.ntmps124 ?_;exact aq
theorem Cm (p:Src) (s:ai) (hn:p.arrays.length<=1099511627776):GF Tryz.prog 86 [.agg (av p),.v (sv s)] [] (.v (ii (cJ (fun x:Ar=>x.name==s) p.arrays))) []:=by
 have h:=Dl (fun x:Ar=>x.name==s) s p.arrays hn (fun x _=>I1 x s);generalize cJ (fun x:Ar=>x.name==s) p.arrays=z at *;refine da Tryz.func86 Tryz.ntmps86 ?_;refine iN ?_;refine GL.wk (Wk.freeze (i:=1) rfl rfl rfl (Nat.zero_le _)) ?_;refine GN (by simp only [nK,mG];rfl) ?_;refine ae ?_;refine ab [] (h) ?_;exact aq
theorem Kg (x:Go.Sp.Fn):GF Tryz.prog 170 [.agg (au x)] [] (.v (.bool (decide (x.params.length > 40)))) []:=by
 have h:decide ((40:Int) < ((x.params.map fun s=>[GV.v (sv s)]).length:Int))=decide (x.params.length > 40):=by
  rw [length_map];exact decide_eq_decide.2 ah
 rw [<-h];unfold au strs;refine aj Tryz.func170 Tryz.ntmps170 ?_;exact aq
theorem NI (x:Go.Sp.Fn):GF Tryz.prog 139 [.agg (au x)] [] (.v (.bool (lT x))) []:=by
 have h:(((x.params.map fun s=>[GV.v (sv s)]).length:Int)==0)=(x.params.length==0):=by
  rw [length_map];exact Bool.eq_iff_iff.2 (by simp)
 unfold lT uD;rw [<-h];unfold au strs
 cases h1:(x.name==[109,97,105,110])
 all_goals
  refine aj Tryz.func139 Tryz.ntmps139 ?_;exact aq
end Go.Xg
namespace Go.Xg
open Go.RowKit Go.Xw
theorem vA (n:Int):bits .and .i64 n 4294967295=n % 4294967296:=by
 have h:(BitVec.ofInt 64 4294967295).toNat=2 ^ 32 - 1:=by decide
 have key:(BitVec.ofInt 64 n &&& BitVec.ofInt 64 4294967295).toNat=(n % ((2 ^ 64:Nat):Int)).toNat % 2 ^ 32:=by
  rw [BitVec.toNat_and,BitVec.toNat_ofInt,h,Nat.and_two_pow_sub_one_eq_mod]
 show IntKind.i64.wrap ((BitVec.ofInt 64 n &&& BitVec.ofInt 64 4294967295).toNat:Nat)=n % 4294967296;rw [key,IntKind.wrap_i64];omega
section
variable {P:Program} {fr:List GV} {Γ:List Ob}
theorem YG.vA {x y:Operand} {t t':TypeId} {a:Int} (hx:aS fr x=.v (ii a)) (hy:aS fr y=.v (ii 4294967295)):YG P (.binOp .and t x y t') fr Γ (.v (ii (a % 4294967296))) :=
 YG.v2 hx hy fun l w h k d ty pos af=>by
  simp [execOp,eqGuard,h,k,binOp,intBits_and,Go.Xg.vA]
end
end Go.Xg
namespace Go.Xw
open Go.RowKit
class Cg (P:Program) (t:TypeId) (e:outParam TypeId):Prop where
 is:P.underlying t=some (.slice e)/\∃ i,P.info? e=some i/\i.zero=some (.int .u8 0)/\i.size=1/\i.bytes=1
def Qd (P:Program) (t e:TypeId):Bool :=
 (match P.underlying t with | some (.slice e')=>e'==e | _=>false)&&(match P.info? e with | some i=>(match i.zero with | some (.int .u8 0)=>true | _=>false)&&i.size==1&&i.bytes==1 | none=>false)
theorem Cg.mk' {P:Program} {t e:TypeId} (h:Qd P t e=true):Cg P t e:=by
 unfold Qd at h;rw [Bool.and_eq_true] at h;obtain ⟨h1,h2⟩:=h;refine ⟨?_,?_⟩
 ·split at h1
  ·rename_i e' hu;rw [hu];simp at h1;rw [h1]
  ·cases h1
 ·split at h2
  ·rename_i i hi;simp only [Bool.and_eq_true,beq_iff_eq] at h2;obtain ⟨⟨h4,h5⟩,h6⟩:=h2;split at h4
   ·rename_i hz;exact ⟨i,hi,hz,h5,h6⟩
   ·cases h4
  ·cases h2
section
variable {P:Program} {Q:kO} {l:List Value} {w:World} {ops:Array Oper} {rest:List Oper} {d:Option Tmp} {ty:TypeId} {pos:String} {af:Array Edge}
def jQ (s:ai):List Value:=s.map fun c=>.int .u8 (c.toNat:Int)
theorem WL.Bc {s x:Operand} {t u e:Nat} [hT:Cg P t e] [hU:oW P u] {base n:Nat} {xs:List Value} {v:Value} {str:ai} (hs:ev l s=v) (eS:gi w base e 1 v n xs) (hx:ev l x=sv str)
  (w5:n+str.length<=140737488355328) (Ae:base<=w.heap.size)
  (h:∀ v' w',gi w' base e 1 v' (n+str.length) (xs++jQ str)->Ext (fun b=>v.ownBlock=some b) w w'->(∀ b,v'.ownBlock=some b->v.ownBlock=some b\/w.heap.size<=b)->(Ext gQ w w'\/v'.ownBlock=v.ownBlock)->WL P ops Q rest (put l d v') w') :
  WL P ops Q (⟨d,.call ⟨.builtin .append,#[s,x],#[t,u]⟩,ty,pos,af,none⟩::rest) l w:=by
 obtain ⟨hu,i,hi,hz,cK,wZ⟩:=hT.is;have fk:=hU.und
 have pP:(⟨str.toArray⟩:ByteArray).size=str.length:=by simp [ByteArray.size]
 have eV:Lib.strCells ⟨str.toArray⟩=jQ str:=by simp [Lib.strCells,jQ]
 obtain ⟨v',w',hr,h2,h3,h4⟩:=Lib.run_append_own_string (P:=P) w base t u ty e i hu fk hi hz cK wZ v n xs eS ⟨str.toArray⟩ (by rw [pP];simp only [maxLen];omega) (by rw [pP];omega) Ae;rw [pP,eV] at h2;rw [pP] at h4;have gn:Ext (fun b=>v.ownBlock=some b) w w':=⟨h3.os,h3.tape,h3.output,h3.size,fun j hj hn=>h3.block j hj fun he=>hn he.symm⟩;have mb:(Builtin.append_ #[t,u] ty #[v,sv str]).run P w=.ok v' w':=hr;refine WL.val (v:=v') (w':=w') (by simp [execOp,resolve,invoke,builtin,hs,hx,mb]) (h v' w' h2 gn ?_ ?_)
 ·intro b' bj
  rcases eS.2 with ⟨rfl,rfl⟩ | ⟨g,cap,cur,rfl,mK,hg,nZ,wb,eV,Aq⟩
  ·by_cases hm:str.length=0
   ·have:=h4.2 ⟨rfl,hm⟩;subst this;cases bj
   ·have c6:=run_append_nil_string (P:=P) w t u ty e i (.int .u8 0) hu fk hi hz ⟨str.toArray⟩ (by omega) (by rw [pP];omega) (by rw [wZ,pP];omega);rw [hr] at c6;cases c6;simp only [Value.ownBlock,Option.some.injEq] at bj;exact .inr (by omega)
  ·by_cases hroom:n+str.length<=cap
   ·have TE:cur.size=cap:=by simpa using eV
    have c6:=Lib.run_append_room_string (P:=P) w t u ty e i hu fk hi cK g n cap cur hg ⟨str.toArray⟩ (by rw [pP];exact hroom) (by rw [pP];omega);rw [hr] at c6;cases c6;exact .inl bj
   ·have holds:∀ j u,xs[j]?=some u->w.cell? ((⟨g,0,none⟩:Addr).add j)=some u:=World.ownsRow.cells (g:=g) eS rfl;have c6:=Lib.run_append_grow_string (P:=P) w t u ty e i (.int .u8 0) hu fk hi hz ⟨g,0,none⟩ n cap xs (by rw [cK];exact eS.1) holds ⟨str.toArray⟩ (by rw [pP];omega) (by rw [pP];omega) (by rw [wZ,pP];exact growslice_fits (by omega) (by omega));rw [hr] at c6;cases c6;simp only [Value.ownBlock,Option.some.injEq] at bj;exact .inr (by omega)
 ·rcases eS.2 with ⟨rfl,rfl⟩ | ⟨g,cap,cur,rfl,mK,hg,nZ,wb,eV,Aq⟩
  ·exact .inl (gn.mono fun k _ hk=>by cases hk)
  ·by_cases hroom:n+str.length<=cap
   ·have TE:cur.size=cap:=by simpa using eV
    have c6:=Lib.run_append_room_string (P:=P) w t u ty e i hu fk hi cK g n cap cur hg ⟨str.toArray⟩ (by rw [pP];exact hroom) (by rw [pP];omega);rw [hr] at c6;cases c6;exact .inr rfl
   ·have holds:∀ j u,xs[j]?=some u->w.cell? ((⟨g,0,none⟩:Addr).add j)=some u:=World.ownsRow.cells (g:=g) eS rfl;have c6:=Lib.run_append_grow_string (P:=P) w t u ty e i (.int .u8 0) hu fk hi hz ⟨g,0,none⟩ n cap xs (by rw [cK];exact eS.1) holds ⟨str.toArray⟩ (by rw [pP];omega) (by rw [pP];omega) (by rw [wZ,pP];exact growslice_fits (by omega) (by omega));rw [hr] at c6;cases c6;exact .inl ⟨rfl,rfl,rfl,by simp,fun k hk _=>Below.heap_alloc _ _ _ (by simpa using hk)⟩
theorem R.p7 {x:Operand} {s:TypeId} {i off:Nat} [hT:dd P s i off 1 false] {vs:List Value} {v:Value} (hx:ev l x=.agg vs.toArray) (hv:vs[off]?=some v):ed P l w (.field s x i) v:=fun d ty pos af=>by
 obtain ⟨hT⟩:=hT;unfold Jc at hT;split at hT
 ·rename_i fs hu;split at hT
  ·rename_i f hf;simp only [Bool.and_eq_true,beq_iff_eq,bne_iff_ne,ne_eq] at hT;obtain ⟨⟨⟨h1,h2⟩,h3⟩,h4⟩:=hT
   have Y9:(isAgg f.type).run P w=.ok false w:=by
    cases hd:P.underlying f.type with
    | none=>simp [hd] at h4
    | some d =>
     rw [hd] at h4;unfold isAgg;rw [Sem.run_bind,run_underlying hd w]
     cases d <;> simp_all [xF]
   have Av:vs.toArray[f.offset]?=some v:=by rw [h1];simpa using hv
   have ZQ:vs[f.offset]?=some v:=by rw [h1];exact hv
   simp [execOp,Instr.field,hx,run_underlying hu,hf,part,asAgg,Y9,Av,ZQ]
  ·cases hT
 ·cases hT
end
end Go.Xw
namespace Go.Xg
open Go.RowKit Go.Xw
section
variable {P:Program} {m:Nat} {Q:dH} {fr:List GV} {Γ:List Ob} {ops:Array Oper} {rest:List Oper} {d:Option Tmp} {op:Op} {ty:TypeId} {pos:String} {af:Array Edge}
theorem YG.p7 {x:Operand} {s:TypeId} {i off:Nat} [hT:dd P s i off 1 false] {cs:List GV} {g:GV} (hx:aS fr x=.agg cs) (hg:cs[off]?=some g):YG P (.field s x i) fr Γ g:=fun B K β w l hI hF=>by
 have h:=hF.ev x;rw [hx] at h;generalize hv:ev l x=v at h
 cases h with
 | agg vs _ hl h =>
  have hi:off < vs.length:=by rw [hl];exact (List.getElem?_eq_some_iff.1 hg).1
  exact ⟨vs[off],R.p7 hv (by simp [hi]),h off _ g (by simp [hi]) hg⟩
abbrev b7 (s:ai):List (List GV):=s.map fun c=>[.v (.int .u8 (c.toNat:Int))]
theorem GL.Bc {s x:Operand} {t u e:Nat} [hT:Cg P t e] [hU:oW P u] {i n fz:Nat} {rows:List (List GV)} {str:ai} (hx:aS fr x=.v (sv str)) (hs:aS fr s=.vec i n) (bu:Γ[i]?=some (.vec e 1 fz rows)) (hn:rows.length=n) (bL:str.isEmpty=false)
  (hb:n+str.length<=140737488355328)
  (h:GL P m ops Q rest (bm fr d (.vec i (n+str.length))) (oset Γ i (.vec e 1 fz (rows++b7 str)))) :
  GL P m ops Q (⟨d,.call ⟨.builtin .append,#[s,x],#[t,u]⟩,ty,pos,af,none⟩::rest) fr Γ:=fun B K β w l hm hI hF=>by
 subst hn
 have bL:str≠[]:=by intro h0;rw [h0] at bL;cases bL
 obtain ⟨h0,xs,o1,o2,o3,o4,o5,o6⟩:=hI.ob i _ bu;have so:=hF.ev s;rw [hs] at so
 have pQ:ev l s=h0:=by
  generalize hv:ev l s=v at so
  cases so with
  | vec _ _ a c hh =>
   obtain ⟨h',m',e1,e2,e3⟩:=hh;rw [o1] at e1;cases e1;exact e3 rfl
 have jm:(b7 str).flatten=str.map fun c=>GV.v (.int .u8 (c.toNat:Int)):=by
  unfold b7;clear hx bL hb h;generalize str=s
  induction s with
  | nil=>rfl
  | cons c r ih=>simp only [List.map_cons,flatten_cons,ih];rfl
 have hlen:(b7 str).length=str.length:=by simp [b7]
 refine WL.Bc (base:=0) (v:=h0) (n:=rows.length) (xs:=xs) (str:=str) pQ o2 (hF.gD hx) hb (Nat.zero_le _) ?_;intro v' w' how gn s9 uy
 obtain ⟨K',hK,pS,bf⟩:=hI.grow bu o1 ⟨o2,o3⟩ (news:=b7 str) (ns:=jQ str) (by rw [hlen];exact how) gn s9 (by rw [jm];exact (by
   have:(str.map fun c=>GV.v (.int .u8 (c.toNat:Int)))=km (jQ str):=by simp [km,jQ]
   rw [this];exact aY.self)) (fun r hr=>by
   simp only [b7,mem_map] at hr;obtain ⟨c,_,rfl⟩:=hr
   exact ⟨rfl,fun g hg=>by rw [List.mem_singleton] at hg;subst hg;rfl⟩) (by intro h0;exact bL (List.map_eq_nil_iff.1 h0)) (fun b bj o v ho hv=>by
  rcases uy with h7 | h7
  ·exact h7.c hv (fun h=>h)
  ·have gT:o < xs.length:=by rw [o2.1];exact Nat.lt_of_lt_of_le ho (Nat.mul_le_mul_right 1 o6)
   obtain ⟨b2,c2,oH,_,_,jl⟩:=o2.cells.2 (by intro h0;rw [h0] at gT;simp at gT)
   have eC:b2=b:=by rw [oH] at bj;cases bj;rfl
   subst eC;have CO:=jl o xs[o] (by simp [gT]);rw [eT,hv] at CO;cases CO;obtain ⟨b3,c3,LZ,_,_,LV⟩:=how.cells.2 (by intro h0;have:xs=[]:=(List.append_eq_nil_iff.1 h0).1;rw [this] at gT;simp at gT)
   have wW:b3=b2:=by rw [LZ,bj] at h7;cases h7;rfl
   subst wW
   rw [<-eT];exact LV o _ (by rw [getElem?_append_left gT];simp [gT]))
 rw [<-ba] at bf;refine h B K' _ w' _ hm bf ((hF.mono hK pS).put d ?_);obtain ⟨a,c,rfl⟩:=how.shape;exact .vec i _ a c ⟨_,_,bc,by simp [hlen],fun _=>by simp [hlen]⟩
end
theorem GF.Ux {P:Program} {f:FuncId} {vs:List Value} {v:Value} (h:∀ K β w,fH K β w->iO K w->lL P f vs w fun x w'=>x=v/\Ext gQ w w'):GF P f (vs.map GV.v) [] (.v v) []:=fun B K β w us hm hI hF=>by
 have hv:us=vs:=by
  obtain ⟨h1,h2⟩:=hF;apply ext_getElem
  ·simpa using h1
  ·intro i h3 h4;have:=h2 i us[i] (.v vs[i]) (by simp [h3]) (by simp [h4]);exact Rel.eo this
 subst hv
 exact (h K β w hI.tab hI.fz).mono fun x w' ⟨h1,h2⟩=>⟨K,β,.v v,[],hI.same h2,by rw [h1];exact .v _,rfl,rfl⟩
theorem fH.cell {K:Fz} {β:Bt} {w:World} (h:fH K β w) (hf:iO K w) {b o:Nat} {x:Value} (hk:∀ m,wA m b o=some (.v x)):fu w.heap b o=some x:=by
 obtain ⟨m,h⟩:=h.le;obtain ⟨_,v,hv,hr⟩:=hf b o _ (h b o _ (hk m));rw [hv,Rel.eo hr]
theorem fH.maxLen {K:Fz} {β:Bt} {w:World} (h:fH K β w) (hf:iO K w):∃ m,w.cell? ⟨1,0,none⟩=some (.int .i64 m):=by
 obtain ⟨m,h⟩:=h.le
 have hk:wA m 1 0=some (.v (.int .i64 m)):=by simp [wA]
 obtain ⟨_,v,hv,hr⟩:=hf _ _ _ (h _ _ _ hk);exact ⟨m,by rw [eT,hv,Rel.eo hr]⟩
theorem rR.all {K:Fz} {β:Bt} {w:World} (h:fH K β w) (hf:iO K w) {b n:Nat} {zs:List Value} (hb:rR w b n) (hn:zs.length=n) (hk:∀ m o x,zs[o]?=some x->wA m b o=some (.v x)):∃ E z,w.heap[b]?=some (.cells zs.toArray E z):=by
 obtain ⟨cs,E,z,h1,h2⟩:=hb;refine ⟨E,z,?_⟩
 have:cs=zs.toArray:=by
  apply Array.ext
  ·simp [h2,hn]
  ·intro i hi nX
   have hx:zs[i]?=some zs.toArray[i]:=by simp
   have h3:=h.cell hf (b:=b) (o:=i) (fun m=>hk m i _ hx)
   have h4:fu w.heap b i=cs[i]?:=by rw [<-eT,cell_of_row w b i cs E z h1]
   rw [h4] at h3;simpa [hi] using h3
 rw [h1,this]
theorem GF.Yf {P:Program} {f:FuncId} {vs us:List Value} {E:TypeId} (h:∀ K β w,fH K β w->iO K w->lL P f vs w fun x w'=>x=.slice (some ⟨w.heap.size,0,none⟩) us.length us.length/\w'=w.alloc (.cells us.toArray E)):GF P f (vs.map GV.v) [] (.sl 1 (us.map fun u=>[.v u])) []:=fun B K β w ws hm hI hF=>by
 have hv:ws=vs:=by
  obtain ⟨h1,h2⟩:=hF;apply ext_getElem
  ·simpa using h1
  ·intro i h3 h4;have:=h2 i ws[i] (.v vs[i]) (by simp [h3]) (by simp [h4]);exact Rel.eo this
 subst hv
 refine (h K β w hI.tab hI.fz).mono fun x w' ⟨h1,h2⟩=>?_
 subst h1;subst h2;have hn:=tX.of w (.cells us.toArray E);obtain ⟨hle,bf⟩:=hI.sY hn (cs:=us.map .v) aY.self (fun g hg=>by obtain ⟨u,_,rfl⟩:=List.mem_map.1 hg;rfl);refine ⟨_,β,.sl 1 (us.map fun u=>[.v u]),[],bf,?_,rfl,rfl⟩;have:=Rel.sl (K:=kr K w.heap.size (us.map .v)) (β:=β) w.heap.size 0 us.length 1 (us.map fun u=>[.v u]) (fun i r hr=>?_) (by simp)
 ·rw [length_map] at this;exact this
 ·rw [getElem?_map] at hr
  cases hu:us[i]? with
  | none=>rw [hu] at hr;cases hr
  | some u =>
   rw [hu] at hr;cases hr;refine ⟨rfl,fun j g hg=>?_⟩
   cases j with
   | zero=>cases hg;rw [Nat.zero_add,Nat.mul_one,Nat.add_zero];exact tZ (by rw [getElem?_map,hu];rfl)
   | succ j=>simp at hg
end Go.Xg
namespace Go.Xg
open Go.RowKit Go.Xw
section
variable {B:Bs} {K:Fz} {β:Bt} {Γ:List Ob} {w:World}
theorem Inv.swap {i:Nat} {y:Ob} (h:Inv B K β Γ w) (ho:jG K β w i y):Inv B K β (oset Γ i y) w:=by
 refine ⟨h.ext,h.kle,h.ble,h.loc,h.fz,fun j x hj=>?_,fun j hj=>h.out j (by simpa [ba] using hj),h.dis,h.own,h.kn,h.tab⟩;rw [ba,getElem?_set] at hj;split at hj
 ·rename_i fw;split at hj
  ·cases hj;subst fw;exact ho
  ·cases hj
 ·exact h.ob j x hj
theorem Inv.xB {i E k:Nat} {rows:List (List GV)} {x:Value} (h:Inv B K β Γ w) (hi:Γ[i]?=some (.vech E k rows x)):Inv B K β (oset Γ i (.vec E k 0 rows)) w:=by
 obtain ⟨xs,h1,h2,h3,h4,h5⟩:=h.ob i _ hi;exact h.swap ⟨x,xs,h1,h2,h3,h4,fun b hb=>⟨fun o _=>h5 b hb o,fun o g ho=>by omega⟩,Nat.zero_le _⟩
theorem Inv.vn {i E k:Nat} {rows:List (List GV)} (h:Inv B K β Γ w) (hi:Γ[i]?=some (.vec E k 0 rows)):∃ a c,β i=.gr (.slice a rows.length c) rows.length/\Inv B K β (oset Γ i (.vech E k rows (.slice a rows.length c))) w:=by
 obtain ⟨x,xs,h1,h2,h3,h4,h5,h6⟩:=h.ob i _ hi;obtain ⟨a,c,rfl⟩:=h2.shape;exact ⟨a,c,h1,h.swap ⟨xs,h1,h2,h3,h4,fun b hb o=>(h5 b hb).1 o ah⟩⟩
theorem ox {i:Nat} {x y:Ob} (h:Γ[i]?=some x):(oset Γ i y)[i]?=some y:=by
 have:=(List.getElem?_eq_some_iff.1 h).1;rw [ba,getElem?_set];simp [this]
theorem mQ {i:Nat} {x y:Ob}:oset (oset Γ i x) i y=oset Γ i y:=by rw [ba,ba,ba,List.set_set]
theorem Inv.gr {i E k:Nat} {rows:List (List GV)} {x:Value} (h:Inv B K β Γ w) (hi:Γ[i]?=some (.vech E k rows x)):β i=.gr x rows.length:=by
 obtain ⟨xs,h1,_⟩:=h.ob i _ hi;exact h1
theorem Inv.qz {i E k:Nat} {rows:List (List GV)} {x:Value} (h:Inv B K β Γ w) (hi:Γ[i]?=some (.vech E k rows x)):∃ K',cj K K'/\Rel K' β x (.sl k rows)/\Inv B K' β (oset Γ i (.vec E k rows.length rows)) w:=by
 obtain ⟨xs,h1,h2,h3,h4,h5⟩:=h.ob i _ hi;obtain ⟨K',hK,Ag,bf⟩:=(h.xB hi).iv (ox hi);rw [<-ba,mQ] at bf;refine ⟨K',hK,?_,bf⟩
 rcases h2.2 with ⟨e5,e6⟩ | ⟨g,cap,cu,e5,_,_,nZ,_⟩
 ·have:rows=[]:=eq_nil_of_length_eq_zero e6;subst this;subst e5;exact .sl0 _ _ _
 ·subst e5;refine .sl g 0 cap k rows (fun j r hr=>⟨(h4 r (mem_of_getElem? hr)).1,fun q g' kP=>?_⟩) nZ;rw [Nat.zero_add];exact Ag _ g h1 rfl _ g' (sC h4 hr kP)
end
section
variable {P:Program} {m:Nat} {Q:dH} {fr:List GV} {Γ:List Ob} {ops:Array Oper} {rest:List Oper} {d:Option Tmp} {op:Op} {ty:TypeId} {pos:String} {af:Array Edge}
theorem Wk.mP (E k:Nat):Wk m fr Γ fr (Γ++[.vech E k [] (.slice none 0 0)]):=fun B K β w l hm hI hF=>by
 have bT:β Γ.length=.no:=hI.out _ (Nat.le_refl _);have bf:=hI.Bb (w':=w) (E:=E) (k:=k) (x:=.slice none 0 0) (xs:=[]) (rows:=[]) (Ext.refl w) (gi.nil w 0 E k) (fun b hb=>by cases hb) aY.nil (fun r hr=>by cases hr);have hle:cX β (en β Γ.length (.gr (.slice none 0 0) ([]:List (List GV)).length)):=fM (by rw [bT];trivial);refine ⟨K,_,?_,hF.mono (cj.refl K) hle⟩;have hb:en β Γ.length (.gr (.slice none 0 0) ([]:List (List GV)).length) Γ.length=.gr (.slice none 0 0) ([]:List (List GV)).length:=bc;have:=bf.swap (i:=Γ.length) (y:=.vech E k [] (.slice none 0 0)) ⟨[],hb,gi.nil w 0 E k,aY.nil,(fun r hr=>by cases hr),(fun b hb=>by cases hb)⟩;rw [ba] at this;simpa using this
theorem Wk.oo {t i E k:Nat} {rows:List (List GV)} {x:Value} (ht:cq fr t=.v x) (gI:jb fr t=true) (bu:Γ[i]?=some (.vech E k rows x)):Wk m fr Γ (bo fr t (.sl k rows)) (oset Γ i (.vec E k rows.length rows)):=fun B K β w l hm hI hF=>by
 obtain ⟨K',hK,hr,bf⟩:=hI.qz bu;refine ⟨K',β,bf,?_⟩;have hv:nth l t=x:=Rel.eo (by rw [<-ht];exact hF.nth t);have:=(hF.mono hK (cX.refl β)).eK t hr;rw [<-hv,zL (lR hF gI)] at this;exact this
theorem aY.bo {K:Fz} {β:Bt} {x:Value} {g:GV} (hr:Rel K β x g):∀ {vs:List Value} {cs:List GV} {o:Nat},aY K β vs cs->cs[o]?=some (.v x)->aY K β vs (bo cs o g):=by
 intro vs
 induction vs with
 | nil=>intro cs o h ho;have:cs=[]:=eq_nil_of_length_eq_zero h.1.symm;subst this;simp at ho
 | cons v vs ih =>
  intro cs o h ho
  cases cs with
  | nil=>simp at ho
  | cons c cs =>
   obtain ⟨a1,a2⟩:=h.mZ
   cases o with
   | zero=>cases ho;have hv:=Rel.eo a1;subst hv;exact .cons hr a2
   | succ o=>exact .cons a1 (ih a2 (by simpa using ho))
theorem Wk.x9 {i o j E k:Nat} {T:TypeId} {cs:List GV} {rows:List (List GV)} {x:Value} (hi:Γ[i]?=some (.box T cs)) (ho:cs[o]?=some (.v x)) (fw:Nat.beq i j=false) (hj:Γ[j]?=some (.vech E k rows x)):Wk m fr Γ fr (oset (oset Γ j (.vec E k rows.length rows)) i (.box T (bo cs o (.sl k rows)))):=fun B K β w l hm hI hF=>by
 have bL:i≠j:=by intro e;subst e;simp at fw
 obtain ⟨K',hK,hr,bf⟩:=hI.qz hj;obtain ⟨b,vs,h1,h2,h3,h4⟩:=bf.ob i (.box T cs) (by rw [ba,getElem?_set,if_neg (fun e=>bL e.symm)];exact hi);exact ⟨K',β,bf.swap ⟨b,vs,h1,h2,aY.bo hr h3 ho,h4⟩,hF.mono hK (cX.refl β)⟩
def dr:List (List GV)->Nat->Nat->GV->List (List GV)
 | [],_,_,_=>[]
 | r::rs,0,o,g=>bo r o g::rs
 | r::rs,n+1,o,g=>r::dr rs n o g
theorem zj:∀ (l:List GV) (o:Nat) (g:GV),(bo l o g).length=l.length
 | [],_,_=>rfl
 | _::l,0,_=>rfl
 | _::l,o+1,g=>by simp [bo,zj l o g]
theorem zi:∀ (a b:List GV) (o:Nat) (g:GV),bo (a++b) (a.length+o) g=a++bo b o g
 | [],b,o,g=>by simp
 | x::a,b,o,g=>by
  rw [cons_append,length_cons,show a.length+1+o=(a.length+o)+1 by omega,bo,zi a b o g];rfl
theorem CB:∀ (a b:List GV) (o:Nat) (g:GV),o < a.length->bo (a++b) o g=bo a o g++b
 | [],b,o,g,h=>by simp at h
 | x::a,b,0,g,h=>rfl
 | x::a,b,o+1,g,h=>by simp [bo,CB a b o g (by simpa using h)]
theorem OG {l:List GV} {o:Nat} {g x:GV} (h:x∈bo l o g):x∈l\/x=g:=by
 induction l generalizing o with
 | nil=>cases h
 | cons y l ih =>
  cases o with
  | zero =>
   simp only [bo,List.mem_cons] at h;rcases h with h | h
   ·exact .inr h
   ·exact .inl (mem_cons_of_mem _ h)
  | succ o =>
   simp only [bo,List.mem_cons] at h;rcases h with h | h
   ·exact .inl (by rw [h];exact mem_cons_self)
   ·exact (ih h).imp (mem_cons_of_mem _) id
theorem fp:∀ (rows:List (List GV)) (i o:Nat) (g:GV),(dr rows i o g).length=rows.length
 | [],_,_,_=>rfl
 | r::rs,0,_,_=>rfl
 | r::rs,n+1,o,g=>by simp [dr,fp rs n o g]
theorem tB {k:Nat} {o:Nat} {g:GV} (ho:o < k):∀ {rows:List (List GV)} {i:Nat},fm k rows->i < rows.length->(dr rows i o g).flatten=bo rows.flatten (i * k+o) g
 | [],_,_,h=>by simp at h
 | r::rs,0,hk,_=>by
  have:=(hk r (mem_cons_self)).1;rw [dr,flatten_cons,flatten_cons,Nat.zero_mul,Nat.zero_add,CB _ _ _ _ ah]
 | r::rs,n+1,hk,h=>by
  have:=(hk r (mem_cons_self)).1;rw [dr,flatten_cons,flatten_cons,tB ho (fun r hr=>hk r (mem_cons_of_mem _ hr)) (by simpa using h),show (n+1) * k+o=r.length+(n * k+o) by rw [Nat.succ_mul];omega,zi]
theorem x8 {k:Nat} {o:Nat} {g:GV} (hg:g.pc=true):∀ {rows:List (List GV)} {i:Nat},fm k rows->fm k (dr rows i o g)
 | [],_,_=>fun r hr=>by cases hr
 | r::rs,0,hk=>fun r' hr=>by
  simp only [dr,List.mem_cons] at hr
  rcases hr with rfl | hr
  ·exact ⟨by rw [zj];exact (hk r mem_cons_self).1,fun x hx=>by
    rcases OG hx with h | h
    ·exact (hk r mem_cons_self).2 x h
    ·rw [h];exact hg⟩
  ·exact hk r' (mem_cons_of_mem _ hr)
 | r::rs,n+1,hk=>fun r' hr=>by
  simp only [dr,List.mem_cons] at hr
  rcases hr with rfl | hr
  ·exact hk _ mem_cons_self
  ·exact x8 hg (fun r hr=>hk r (mem_cons_of_mem _ hr)) r' hr
theorem FB {a b:List (List GV)} {r:List GV} {o:Nat} {g:GV}:dr (a++r::b) a.length o g=a++bo r o g::b:=by
 induction a with
 | nil=>rfl
 | cons x a ih=>rw [cons_append,length_cons,dr,ih];rfl
theorem Wk.J7 {i idx o j E k T k':Nat} {rows ks:List (List GV)} {x h:Value} {r:List GV} (hi:Γ[i]?=some (.vech T k rows h)) (hr:rows[idx]?=some r) (ho:r[o]?=some (.v x)) (fw:Nat.beq i j=false) (hj:Γ[j]?=some (.vech E k' ks x)) :
  Wk m fr Γ fr (oset (oset Γ j (.vec E k' ks.length ks)) i (.vech T k (dr rows idx o (.sl k' ks)) h)):=fun B K β w l hm hI hF=>by
 have bL:i≠j:=by intro e;subst e;simp at fw
 obtain ⟨K',hK,eL,bf⟩:=hI.qz hj;obtain ⟨xs,h1,h2,h3,h4,h5⟩:=bf.ob i (.vech T k rows h) (by rw [ba,getElem?_set,if_neg (fun e=>bL e.symm)];exact hi);have ar:=(List.getElem?_eq_some_iff.1 hr).1
 have Ma:o < k:=by rw [<-(h4 r (mem_of_getElem? hr)).1];exact (List.getElem?_eq_some_iff.1 ho).1
 exact ⟨K',β,bf.swap ⟨xs,by rw [fp];exact h1,by rw [fp];exact h2,by rw [tB Ma h4 ar];exact aY.bo eL h3 (sC h4 hr ho),x8 rfl h4,h5⟩,hF.mono hK (cX.refl β)⟩
theorem YG.dL {x y:Operand} {t e:TypeId} {k:Nat} [hT:mg P t e k] (i:Nat) {v:Value} {kk:IntKind} {j E:Nat} {rows:List (List GV)} (hx:aS fr x=.v v) (hy:aS fr y=.v (.int kk j)) (bu:Γ[i]?=some (.vech E k rows v)) (hj:j < rows.length):YG P (.indexAddr t x y) fr Γ (.vp i rows.length k j 0):=fun B K β w l hI hF=>by
 have hv:=hF.gD hx;obtain ⟨xs,h1,h2,h3,h4,h5⟩:=hI.ob i _ bu
 rcases h2.2 with ⟨h8,h9⟩ | ⟨g,cap,cur,h8,_,hg,_⟩
 ·omega
 ·subst h8;exact ⟨_,R.xf hv (hF.gD hy) hj,.vp i _ k j 0 _ ⟨_,_,h1,Nat.le_refl _,fun _=>⟨g,rfl,by simp⟩⟩⟩
theorem YG.Bv {x:Operand} {s:TypeId} {f off k:Nat} {agg:Bool} [hT:dd P s f off k agg] {i n k' idx o E:Nat} {rows:List (List GV)} {v:Value} (hx:aS fr x=.vp i n k' idx o) (bu:Γ[i]?=some (.vech E k' rows v)) (hn:rows.length=n):YG P (.fieldAddr s x f) fr Γ (.vp i n k' idx (o+off)):=fun B K β w l hI hF=>by
 have h:=hF.ev x;rw [hx] at h;generalize hv:ev l x=u at h
 cases h with
 | vp _ _ _ _ _ _ h =>
  obtain ⟨h0,m,h1,h2,h3⟩:=h;rw [hI.gr bu] at h1;cases h1;obtain ⟨b,hb,rfl⟩:=h3 hn;exact ⟨_,R.Ox hv,.vp i n k' idx _ _ ⟨_,_,hI.gr bu,h2,fun _=>⟨b,hb,by rw [Nat.add_assoc]⟩⟩⟩
theorem YG.H0 {x:Operand} {t:TypeId} [hT:Ty P t false 1] {i n k idx o E:Nat} {rows:List (List GV)} {v:Value} {r:List GV} {g:GV} (hx:aS fr x=.vp i n k idx o) (bu:Γ[i]?=some (.vech E k rows v)) (hn:rows.length=n) (hr:rows[idx]?=some r) (hg:r[o]?=some g):YG P (.load t x) fr Γ g:=fun B K β w l hI hF=>by
 have h:=hF.ev x;rw [hx] at h;generalize hv:ev l x=u at h
 cases h with
 | vp _ _ _ _ _ _ h =>
  obtain ⟨h0,m,h1,h2,h3⟩:=h;obtain ⟨xs,h4,h5,h6,h7,_⟩:=hI.ob i _ bu;rw [h1] at h4;cases h4;obtain ⟨b,hb,rfl⟩:=h3 hn;obtain ⟨u,hu,eL⟩:=h6.at (sC h7 hr hg);obtain ⟨b2,c,he,_,_,hc⟩:=h5.cells.2 (by intro h0;rw [h0] at hu;simp at hu);subst he;cases hb;exact ⟨u,R.ld hv (by rw [<-eT];exact hc _ _ hu),eL⟩
theorem zM {v:Value}:∀ (l:List Value) (n o:Nat),o < n->(eK l o v).take n=eK (l.take n) o v
 | [],n,o,h=>by simp [eK]
 | x::l,0,o,h=>by omega
 | x::l,n+1,0,h=>by simp [eK]
 | x::l,n+1,o+1,h=>by simp [eK,zM l n o ah]
theorem vR {v:Value}:∀ (l:List Value) (o:Nat),(eK l o v).length=l.length
 | [],o=>rfl
 | x::l,0=>rfl
 | x::l,o+1=>by simp [eK,vR l o]
theorem GL.stH {x y:Operand} {t:TypeId} [hT:Ty P t false 1] {i n k idx o E:Nat} {rows:List (List GV)} {v:Value} {r:List GV} {g:GV} (hx:aS fr x=.vp i n k idx o) (bu:Γ[i]?=some (.vech E k rows v)) (hn:rows.length=n) (hr:rows[idx]?=some r) (Ma:Nat.blt o r.length=true)
  (hy:lN (aS fr y)=some [g]) (h1:g.one=true) (hp:g.pc=true) (h:GL P m ops Q rest (bm fr d (.v undef)) (oset Γ i (.vech E k (dr rows idx o g) v))):GL P m ops Q (⟨d,.store t x y,ty,pos,af,none⟩::rest) fr Γ:=fun B K β w l hm hI hF=>by
 have EK:=hF.ev x;rw [hx] at EK;generalize hv:ev l x=u at EK
 cases EK with
 | vp _ _ _ _ _ _ hh =>
  obtain ⟨h0,mm,e1,e2,e3⟩:=hh;obtain ⟨xs,h4,h5,h6,h7,h8⟩:=hI.ob i _ bu;rw [e1] at h4;cases h4;obtain ⟨b,hb,rfl⟩:=e3 hn;have ar:=(List.getElem?_eq_some_iff.1 hr).1
  have XZ:o < k:=by rw [<-(h7 r (mem_of_getElem? hr)).1];simpa using Ma
  obtain ⟨us,jE,ke⟩:=(hF.ev y).cells hy
  obtain ⟨u1,rfl⟩:∃ u1,us=[u1]:=by
   have:=ke.1
   match us,this with
   | [u1],_=>exact ⟨u1,rfl⟩
  have WY:Rel K β u1 g:=ke.2 0 u1 g rfl rfl
  have hq:idx * k+o < rows.length * k:=by
   have:(idx+1) * k<=rows.length * k:=Nat.mul_le_mul_right k ar;rw [Nat.succ_mul] at this;omega
  rcases h5.2 with ⟨e5,e6⟩ | ⟨g0,cap,cur,e5,I9,hg,nZ,wb,cK,jD⟩
  ·omega
  ·subst e5;simp only [Value.ownBlock,Option.some.injEq] at hb;subst hb;have OJ:rows.length * k<=cap * k:=Nat.mul_le_mul_right k nZ
   refine WL.st (t:=t) (k:=1) hv rfl hg (by rw [jE];rfl) ah (by rw [jE];have:=(vI (WY.one h1)).2;simpa [Xw.kV] using this) fun w' hs=>?_
   rw [jE] at hs
   have eV:tR cur (idx * k+o) ([u1]:List Value)=(eK cur.toList (idx * k+o) u1).toArray:=by
    simp only [tR];rw [<-xC]
   simp only [toList_toArray,eV] at hs
   have xW:rows.flatten.length=rows.length * k:=by rw [<-h6.1];exact h5.1
   have how:gi w' 0 E k (.slice (some ⟨g0,0,none⟩) rows.length cap) rows.length (eK xs (idx * k+o) u1) :=
    ⟨by rw [vR];exact h5.1,.inr ⟨g0,cap,_,rfl,I9,hs.blk,nZ,wb,by simp [vR,cK],by rw [toList_toArray,zM _ _ _ hq,jD]⟩⟩
   have eL:aY K β (eK xs (idx * k+o) u1) (bo rows.flatten (idx * k+o) g):=by
    have gen:∀ (vs:List Value) (cs:List GV) (q:Nat),aY K β vs cs->aY K β (eK vs q u1) (bo cs q g):=by
     intro vs
     induction vs with
     | nil=>intro cs q h;have:cs=[]:=eq_nil_of_length_eq_zero h.1.symm;subst this;exact h
     | cons v vs ih =>
      intro cs q h
      cases cs with
      | nil=>have:=h.1;simp at this
      | cons c cs =>
       obtain ⟨a1,a2⟩:=h.mZ
       cases q with
       | zero=>exact .cons WY a2
       | succ q=>exact .cons a1 (ih cs q a2)
    exact gen _ _ _ h6
   have ea:(β i).blk=some g0:=by rw [e1];rfl
   have bf:Inv B K β (oset Γ i (.vech E k (dr rows idx o g) (.slice (some ⟨g0,0,none⟩) rows.length cap))) w':=by
    refine ⟨hI.ext.step hs.ext (fun j hj=>?_),hI.kle,hI.ble,hI.loc,hI.fz.ext hs.ext (fun b' o' g' kP he=>?_),fun j y hj=>?_,fun j hj=>hI.out j (by simpa [ba] using hj),hI.dis,hI.own,hI.kn,hI.tab.step hs.ext (fun j hj=>⟨i,by subst hj;exact ea⟩) (cj.refl K) (fun i b2 h=>.inl ⟨i,h⟩)⟩
    ·subst hj;exact (hI.own i _ ea).symm
    ·subst he;rw [h8 _ rfl] at kP;cases kP
    ·rw [ba,getElem?_set] at hj;split at hj
     ·rename_i fw;split at hj
      ·cases hj;subst fw
       exact ⟨_,by rw [fp];exact e1,by rw [fp];exact how,by rw [tB XZ h7 ar];exact eL,x8 hp h7,h8⟩
      ·cases hj
     ·rename_i fw;refine (hI.ob j y hj).ext hs.ext (fun b' bj he=>?_) (cj.refl K) (cX.refl β) rfl (fun _ _ _ h=>h);subst he;exact fw (hI.dis i j _ ea bj)
   exact h B K β w' _ hm bf (hF.put d (.v _))
theorem GL.jA {x:Operand} {ts:Tmp} {t e k gC:Nat} {z:List Value} [hT:nO P t e k gC] [hZ:oV P t e k z] {d1 dt:Tmp} {Nq:TypeId} {Fs:String} {KE:Array Edge} (i:Nat) {n:Nat} {rows:List (List GV)} {gs:List GV} {v:Value}
  (hx:lN (aS fr x)=some gs) (hk:Nat.beq gs.length k=true) (h1:lF gs=true) (hp:qV gs=true) (hs:cq fr ts=.v v) (T8:Nat.beq ts d1=false) (hd:jb fr d1=true) (bu:Γ[i]?=some (.vech e k rows v)) (hn:rows.length=n)
  (hb:(n+1<=9223372036854775807/\(n+1) * gC<=140737488355328)/\k<=16777216)
  (h:∀ a c,GL P m ops Q rest (bm (bm fr (some d1) .U) (some dt) (.v (.slice a (n+1) c))) (oset Γ i (.vech e k (rows++[gs]) (.slice a (n+1) c)))) :
  GL P m ops Q (⟨some d1,.buildSlice t 1 #[(0,x)],Nq,Fs,KE,none⟩::⟨some dt,.call ⟨.builtin .append,#[.tmp ts,.tmp d1],#[t,t]⟩,ty,pos,af,none⟩::rest) fr Γ:=fun B K β w l hm hI hF=>by
 subst hn;obtain ⟨us,jE,ke⟩:=(hF.ev x).cells hx;obtain ⟨xs,o1,o2,o3,o4,o5⟩:=hI.ob i _ bu;have pQ:nth l ts=v:=Rel.eo (by rw [<-hs];exact hF.nth ts);have LX:=lR hF hd
 have XU:ts≠d1:=by intro e;subst e;simp at T8
 have kR:gs.length=k:=by simpa using hk
 refine WL.push (base:=0) (v:=v) (vs:=us) (val:=ev l x) (xs:=xs) (n:=rows.length) rfl (fun u=>by rw [show ev (put l (some d1) u) (.tmp ts)=nth (eK l d1 u) ts from rfl,nt XU];exact pQ) (fun u=>rI LX u) jE (by rw [ke.1,kR]) (ke.kV h1) o2 hb.1.1 hb.1.2 hb.2 (Nat.zero_le _) ?_;intro u v' w' how gn s9 uy;obtain ⟨K',hK,pS,bf⟩:=(hI.xB bu).grow (fz:=0) (ox bu) o1 ⟨o2,o3⟩ (news:=[gs]) (ns:=us) how gn s9 (by simpa using ke) (fun r hr=>by simp at hr;subst hr;exact ⟨kR,l6 hp⟩) (by simp) (fun b bj o v ho hv=>by omega);rw [<-ba,mQ] at bf;obtain ⟨a,c,o8,nC⟩:=bf.vn (ox bu);rw [mQ] at nC;obtain ⟨a',c',rfl⟩:=how.shape;rw [bc] at o8;simp only [length_append,length_cons,length_nil] at o8 nC pS;cases o8;exact h _ _ B K' _ w' _ hm nC (((hF.mono hK pS).put (some d1) (.U u)).put (some dt) (.v _))
theorem GL.pW {s x:Operand} {t e k gC:Nat} [hT:nO P t e k gC] (i:Nat) {n:Nat} {dt:Tmp} {v:Value} {rows news:List (List GV)} (hx:aS fr x=.sl k news) (hs:aS fr s=.v v) (bu:Γ[i]?=some (.vech e k rows v)) (hn:rows.length=n) (h1:lG news=true) (bL:news.isEmpty=false)
  (hb:n+news.length<=9223372036854775807/\(n+news.length) * gC<=140737488355328)
  (h:∀ a c,GL P m ops Q rest (bm fr (some dt) (.v (.slice a (n+news.length) c))) (oset Γ i (.vech e k (rows++news) (.slice a (n+news.length) c)))) :
  GL P m ops Q (⟨some dt,.call ⟨.builtin .append,#[s,x],#[t,t]⟩,ty,pos,af,none⟩::rest) fr Γ:=fun B K β w l hm hI hF=>by
 subst hn
 have bL:news≠[]:=by intro h0;rw [h0] at bL;cases bL
 obtain ⟨xs,o1,o2,o3,o4,o5⟩:=hI.ob i _ bu;have pQ:ev l s=v:=hF.gD hs;have qP:=hF.ev x;rw [hx] at qP;generalize qQ:ev l x=vx at qP
 cases qP with
 | sl0 a c k=>exact absurd rfl bL
 | sl b o c _ _ hr _ =>
  have jz:fm k news:=fun r Mc=>by
   obtain ⟨j,hj⟩:=List.mem_iff_getElem?.1 Mc;refine ⟨(hr j r hj).1,fun g hg=>?_⟩;obtain ⟨q,hq⟩:=List.mem_iff_getElem?.1 hg;exact (hI.fz _ _ _ ((hr j r hj).2 q g hq)).1
  have xW:∀ (rows:List (List GV)) (o:Nat),(∀ (j:Nat) r,rows[j]?=some r->r.length=k/\∀ (q:Nat) g,r[q]?=some g->K b (o+j * k+q)=some g)->∀ (q:Nat) g,rows.flatten[q]?=some g->K b (o+q)=some g:=by
   intro rows
   induction rows with
   | nil=>intro o _ q g hg;simp at hg
   | cons r rows ih =>
    intro o h q g hg;rw [flatten_cons] at hg;have hl:=(h 0 r rfl).1
    by_cases hq:q < r.length
    ·rw [getElem?_append_left hq] at hg;have:=(h 0 r rfl).2 q g hg;simpa using this
    ·rw [getElem?_append_right ah,hl] at hg
     have:=ih (o+k) (fun j r' hj=>by
      have:=h (j+1) r' (by simpa using hj);refine ⟨this.1,fun q g hg=>?_⟩;have:=this.2 q g hg
      rw [show o+(j+1) * k+q=o+k+j * k+q by rw [Nat.succ_mul];omega] at this;exact this) (q - k) g hg
     rw [show o+k+(q - k)=o+q by omega] at this;exact this
  obtain ⟨us,jE,ke⟩:=vf (K:=K) (β:=β) (H:=w.heap) (b:=b) news.flatten o (fun j g hj=>by
   obtain ⟨hp,u,hu,eL⟩:=hI.fz _ _ _ (xW news o (fun j r hj=>hr j r hj) j g hj)
   exact ⟨u,hu,eL.pc hp⟩)
  have CM:us.length=news.length * k:=by
   rw [jE.1,List.length_flatten]
   have:∀ (rows:List (List GV)),fm k rows->(rows.map List.length).sum=rows.length * k:=by
    intro rows
    induction rows with
    | nil=>intro _;simp
    | cons r rows ih =>
     intro hk;rw [List.map_cons,sum_cons,ih (fun r hr=>hk r (mem_cons_of_mem _ hr)),(hk r (mem_cons_self)).1,length_cons,Nat.succ_mul];omega
   exact this news jz
  refine WL.app (base:=0) (v:=v) (n:=rows.length) (m:=news.length) (xs:=xs) (news:=us) pQ o2 qQ CM (fun j u hj=>by rw [eT];exact ke j u hj) (jE.kV (AM h1)) hb.1 hb.2 (Nat.zero_le _) ?_;intro v' w' how gn s9 uy;obtain ⟨K',hK,pS,bf⟩:=(hI.xB bu).grow (fz:=0) (ox bu) o1 ⟨o2,o3⟩ (news:=news) (ns:=us) how gn s9 jE jz bL (fun b bj o v ho hv=>by omega);rw [<-ba,mQ] at bf;obtain ⟨a,c,o8,nC⟩:=bf.vn (ox bu);rw [mQ] at nC;obtain ⟨a',c',rfl⟩:=how.shape;rw [bc] at o8;simp only [length_append] at o8 nC pS;cases o8;exact h _ _ B K' _ w' _ hm nC ((hF.mono hK pS).put (some dt) (.v _))
end
end Go.Xg
namespace Go.Xg
open Go.RowKit Go.Xw
theorem De:∀ (us vs:List Value) (o n:Nat),o+us.length<=n->(gq vs o us).take n=gq (vs.take n) o us
 | [],vs,o,n,_=>rfl
 | u::us,vs,o,n,h=>by
  rw [length_cons] at h;rw [gq,gq,De us _ _ _ ah,zM _ _ _ ah]
theorem wT (a:List GV):∀ (gs b:List GV) (o:Nat),nq (a++b) (a.length+o) gs=a++nq b o gs
 | [],b,o=>rfl
 | g::gs,b,o=>by rw [nq,nq,zi,Nat.add_assoc,wT a gs]
theorem z7:∀ (gs a b:List GV),a.length=gs.length->nq (a++b) 0 gs=gs++b
 | [],[],b,_=>rfl
 | [],x::a,b,h=>by simp at h
 | g::gs,[],b,h=>by simp at h
 | g::gs,x::a,b,h=>by
  rw [nq,cons_append,bo];have:=wT [g] gs (a++b) 0;simp only [length_cons,length_nil,cons_append,List.nil_append,Nat.zero_add,Nat.add_zero] at this |-;rw [this,z7 gs a b (by simpa using h)]
theorem Fy {k:Nat} {gs:List GV} (hg:gs.length=k):∀ {rows:List (List GV)} {i:Nat},fm k rows->i < rows.length->nq rows.flatten (i * k) gs=(rows.set i gs).flatten
 | [],_,_,h=>by simp at h
 | r::rs,0,hk,_=>by
  rw [flatten_cons,List.set_cons_zero,flatten_cons,Nat.zero_mul,z7 gs r _ (by rw [hg];exact (hk r mem_cons_self).1)]
 | r::rs,n+1,hk,h=>by
  have hr:=(hk r mem_cons_self).1;rw [flatten_cons,List.set_cons_succ,flatten_cons,<-Fy hg (fun r hr=>hk r (mem_cons_of_mem _ hr)) (by simpa using h),show (n+1) * k=r.length+n * k by rw [Nat.succ_mul];omega,wT]
theorem J4 {k:Nat} {gs:List GV} (hg:gs.length=k) (hp:qV gs=true) {rows:List (List GV)} {i:Nat} (h:fm k rows):fm k (rows.set i gs):=fun r hr=>by
 rcases List.mem_or_eq_of_mem_set hr with hr | rfl
 ·exact h r hr
 ·exact ⟨hg,l6 hp⟩
section
variable {P:Program} {m:Nat} {ops:Array Oper} {Q:dH} {rest:List Oper} {fr:List GV} {Γ:List Ob} {d:Option Tmp} {ty:TypeId} {pos:String} {af:Array Edge}
theorem GL.Yk {x y:Operand} {t:TypeId} {agg:Bool} {k:Nat} [hT:Ty P t agg k] {i n idx E:Nat} {rows:List (List GV)} {v:Value} {gs:List GV} (hx:aS fr x=.vp i n k idx 0) (bu:Γ[i]?=some (.vech E k rows v)) (hn:rows.length=n) (ar:idx < rows.length)
  (hy:lN (aS fr y)=some gs) (hk:Nat.beq gs.length k=true) (h1:lF gs=true) (hp:qV gs=true) (h:GL P m ops Q rest (bm fr d (.v undef)) (oset Γ i (.vech E k (rows.set idx gs) v))):GL P m ops Q (⟨d,.store t x y,ty,pos,af,none⟩::rest) fr Γ:=fun B K β w l hm hI hF=>by
 have hk:gs.length=k:=by simpa using hk
 have EK:=hF.ev x;rw [hx] at EK;generalize hv:ev l x=u at EK
 cases EK with
 | vp _ _ _ _ _ _ hh =>
  obtain ⟨h0,mm,e1,e2,e3⟩:=hh;obtain ⟨xs,h4,h5,h6,h7,h8⟩:=hI.ob i _ bu;rw [e1] at h4;cases h4;obtain ⟨b,hb,rfl⟩:=e3 hn;obtain ⟨us,jE,ke⟩:=(hF.ev y).cells hy
  have CM:us.length=k:=by rw [ke.1,hk]
  have hq:idx * k+k<=rows.length * k:=by
   have:(idx+1) * k<=rows.length * k:=Nat.mul_le_mul_right k ar;rw [Nat.succ_mul] at this;omega
  rcases h5.2 with ⟨e5,e6⟩ | ⟨g0,cap,cur,e5,I9,hg,nZ,wb,cK,jD⟩
  ·omega
  ·subst e5;simp only [Value.ownBlock,Option.some.injEq] at hb;subst hb;have OJ:rows.length * k<=cap * k:=Nat.mul_le_mul_right k nZ
   refine WL.st (t:=t) (k:=k) hv rfl hg (by rw [jE];simpa using CM) (by rw [Nat.add_zero];omega) (by rw [jE];simpa using ke.kV h1) fun w' hs=>?_
   rw [jE,toList_toArray,Nat.add_zero] at hs;obtain ⟨cur⟩:=cur;rw [tC] at hs;simp only [List.size_toArray,toList_toArray] at cK jD
   have how:gi w' 0 E k (.slice (some ⟨g0,0,none⟩) rows.length cap) rows.length (gq xs (idx * k) us) :=
    ⟨by rw [zI];exact h5.1,.inr ⟨g0,cap,_,rfl,I9,hs.blk,nZ,wb,by simp [zI,cK],by rw [toList_toArray,De _ _ _ _ ah,jD]⟩⟩
   have eL:aY K β (gq xs (idx * k) us) (nq rows.flatten (idx * k) gs):=ke.gq _ h6;rw [Fy hk h7 ar] at eL
   have ea:(β i).blk=some g0:=by rw [e1];rfl
   have bf:Inv B K β (oset Γ i (.vech E k (rows.set idx gs) (.slice (some ⟨g0,0,none⟩) rows.length cap))) w':=by
    refine ⟨hI.ext.step hs.ext (fun j hj=>?_),hI.kle,hI.ble,hI.loc,hI.fz.ext hs.ext (fun b' o' g' kP he=>?_),fun j y hj=>?_,fun j hj=>hI.out j (by simpa [ba] using hj),hI.dis,hI.own,hI.kn,hI.tab.step hs.ext (fun j hj=>⟨i,by subst hj;exact ea⟩) (cj.refl K) (fun i b2 h=>.inl ⟨i,h⟩)⟩
    ·subst hj;exact (hI.own i _ ea).symm
    ·subst he;rw [h8 _ rfl] at kP;cases kP
    ·rw [ba,getElem?_set] at hj;split at hj
     ·rename_i fw;split at hj
      ·cases hj;subst fw
       exact ⟨_,by rw [List.length_set];exact e1,by rw [List.length_set];exact how,eL,J4 hk hp h7,h8⟩
      ·cases hj
     ·rename_i fw;refine (hI.ob j y hj).ext hs.ext (fun b' bj he=>?_) (cj.refl K) (cX.refl β) rfl (fun _ _ _ h=>h);subst he;exact fw (hI.dis i j _ ea bj)
   exact h B K β w' _ hm bf (hF.put d (.v _))
theorem SE (n:Nat) (z:List Value):(List.replicate n (km z)).flatten=zs n z:=by
 induction n with
 | zero=>rfl
 | succ n ih=>rw [List.replicate_succ,flatten_cons,ih,zs]
theorem GL.yM {x:Operand} {t e k gC:Nat} {z:List Value} [hT:nO P t e k gC] [hZ:oV P t e k z] {dt:Tmp} {n:Nat} (hx:aS fr x=.v (ii (n:Nat))) (hb:n<=1099511627776/\gC * n<=281474976710656)
  (h:∀ a c,GL P m ops Q rest (bm fr (some dt) (.v (.slice a n c))) (Γ++[.vech e k (List.replicate n (km z)) (.slice a n c)])) :
  GL P m ops Q (⟨some dt,.makeSlice t x x,ty,pos,af,none⟩::rest) fr Γ:=fun B K β w l hm hI hF=>by
 obtain ⟨hu,⟨i,z0,hi,hz,Mh,cK,wZ⟩,hk⟩:=hT.parts;have qQ:ev l x=ii (n:Nat):=hF.gD hx;obtain ⟨w',hr,h2,h3⟩:=run_make_full (P:=P) (w:=w) 0 t e i z0 k hu hi hz cK .i64 .i64 n (by rw [wZ];exact hb.2) (by simp only [maxLen];omega) (Nat.zero_le _)
 have EP:z0.cells.toList=z:=by
  have h4:=hZ.zero;rw [hi] at h4;simp only [Option.bind_some,hz,Option.some.injEq] at h4;have hl:=hZ.zl
  by_cases h1:k=1
  ·rw [if_pos h1] at h4;rw [h4,hZ.one h1];subst h1
   match z,hl with
   | [a],_=>rfl
  ·rw [if_neg h1] at h4;rw [h4];rfl
 have En:(madeCells z0.cells (n * k)).toList=(List.range (n * k)).map fun j=>z.getD (j % k) undef:=by
  unfold madeCells;rw [Array.toList_map,Array.toList_range];apply List.map_congr_left;intro j _
  have ar:j % k < z0.cells.size:=by rw [Mh];exact Nat.mod_lt _ hk
  rw [Mh,getElem!_pos z0.cells (j % k) ar,<-EP,List.getD_eq_getElem?_getD,Array.getElem?_toList,Array.getElem?_eq_getElem ar];rfl
 rw [En] at h2;have eL:=Gd (K:=K) (β:=β) (n:=n) hZ.zl hZ.pos;rw [<-SE] at eL
 have ew:fm k (List.replicate n (km z)):=fun r hr=>by
  have:=List.eq_of_mem_replicate hr;subst this;refine ⟨by rw [<-hZ.zl];simp [km],fun g hg=>?_⟩;unfold km at hg;obtain ⟨v,_,rfl⟩:=List.mem_map.1 hg;rfl
 have gn:Ext gQ w w':=⟨h3.os,h3.tape,h3.output,h3.size,fun j hj _=>h3.block j hj (by simp)⟩;have bf:=hI.Bb (x:=.slice (some ⟨w.heap.size,0,none⟩) n n) (rows:=List.replicate n (km z)) gn (by rw [List.length_replicate];exact h2) (fun b hb=>by cases hb;exact Nat.le_refl _) eL ew
 have XL:(Γ++[Ob.vec e k 0 (List.replicate n (km z))])[Γ.length]?=some (Ob.vec e k 0 (List.replicate n (km z))):=by simp
 obtain ⟨a,c,o8,nC⟩:=bf.vn XL;rw [bc] at o8
 injection o8 with yz eC
 injection yz with wW hb4 hb5
 subst wW hb5
 have ZC:oset (Γ++[.vec e k 0 (List.replicate n (km z))]) Γ.length (.vech e k (List.replicate n (km z)) (.slice (some ⟨w.heap.size,0,none⟩) (List.replicate n (km z)).length n))=Γ++[.vech e k (List.replicate n (km z)) (.slice (some ⟨w.heap.size,0,none⟩) (List.replicate n (km z)).length n)]:=by
  rw [ba];simp
 rw [ZC,List.length_replicate] at nC;refine WL.val (v:=.slice (some ⟨w.heap.size,0,none⟩) n n) (w':=w') (by simp [execOp,qQ,hr]) ?_;exact h _ _ B K _ w' _ hm nC ((hF.mono (cj.refl K) (fM (by rw [hI.out _ (Nat.le_refl _)];trivial))).put (some dt) (.v _))
end
end Go.Xg
