/- Part 5 of proofs that are told in their last texts. -/
import Derived.Test.YtcoplmnahnipiaaGreatDoorY4
import Derived.IntWalk
import Derived.Laws.IdiomStrings
import Derived.Test.YtcoplmnahnipiaaGreatDoorProg
import Derived.KernelRfl
import Derived.Test.YtcoplmnahnipiaaGreatDoorY1
import Derived.Test.YtcoplmnahnipiaaGreatDoorY2
import Derived.Deep.Slices
import Derived.Deep.Fields
import Derived.ChangeSame
import Derived.Lib.SmallJoins
import Derived.SliceStrings
import Derived.ChangeSlices
import Derived.Lib.LaidU8
import Derived.Shelf.Vars
import Derived.Test.YtcoplmnahnipiaaGreatDoorY3
import Derived.Laws.Bits128
import Derived.Lib.AppendStr
open List (eq_nil_of_length_eq_zero ext_getElem flatten_cons getElem?_append_left getElem?_eq_getElem getElem?_map getElem?_set getElem_mem length_append length_cons length_map length_nil map_map mem_map mem_of_getElem? take_add_one take_length take_of_length_le)
set_option linter.unusedVariables false
set_option linter.unusedSimpArgs false
set_option maxRecDepth 100000
namespace Go.Xg
open Go.RowKit Go.Xw
section
variable {P:Program} {m:Nat} {Q:dP} {fr:List GV} {Γ:List Ob} {ops:Array Oper} {rest:List Oper} {d:Option Tmp} {op:Op} {ty:TypeId} {pos:String} {af:Array Edge}
theorem GW.join {c y:Code} (K:List GV->List Ob->Prop) (h1:GW P m c (aS (zh m K) Q) fr Γ) (h2:∀ fr Γ,K fr Γ->GW P m y Q fr Γ):GW P m c (aS (GW P m y Q) Q) fr Γ:=by
 refine h1.mono fun e fr Γ hq=>?_
 cases e with
 | normal=>obtain ⟨bU,aH,hw,hk⟩:=hq;exact GW.wk hw (h2 _ _ hk)
 | _=>exact hq
theorem YG.fp {x y:Operand} {t e:TypeId} {k:Nat} [hT:mq P t e k] {rows:List (List GV)} {kk:IntKind} {n:Int} {i:Nat} {r:List GV} (hx:aP fr x=.sl k rows) (hy:aP fr y=.v (.int kk n)) (hr:rows[i]?=some r) (hi:n=(i:Int)):YG P (.indexAddr t x y) fr Γ (.box r 0):=by
 subst hi;exact YG.ou hx hy hr
def lN:List (List GV)->Bool
 | []=>true
 | r::rs=>lM r&&lN rs
theorem BV {rows:List (List GV)} (h:lN rows=true):lM rows.flatten=true:=by
 induction rows with
 | nil=>rfl
 | cons r rs ih =>
  simp only [lN,Bool.and_eq_true] at h
  have XL:∀ (a b:List GV),lM a=true->lM b=true->lM (a++b)=true:=by
   intro a
   induction a with
   | nil=>intro b _ hb;exact hb
   | cons x a xW =>
    intro b ha hb;simp only [lM,Bool.and_eq_true] at ha;simp only [List.cons_append,lM,Bool.and_eq_true];exact ⟨ha.1,xW b ha.2 hb⟩
  rw [flatten_cons];exact XL _ _ h.1 (ih h.2)
theorem GL.app {s x:Operand} {t e k gD:Nat} [hT:nT P t e k gD] {i n fz:Nat} {rows news:List (List GV)} (hx:aP fr x=.sl k news) (hs:aP fr s=.vec i n) (br:Γ[i]?=some (.vec e k fz rows)) (hn:rows.length=n) (h1:lN news=true) (bK:news.isEmpty=false)
  (hb:n+news.length<=9223372036854775807/\(n+news.length) * gD<=140737488355328)
  (h:GL P m ops Q rest (bh fr d (.vec i (n+news.length))) (oset Γ i (.vec e k fz (rows++news)))) :
  GL P m ops Q (⟨d,.call ⟨.builtin .append,#[s,x],#[t,t]⟩,ty,pos,af,none⟩::rest) fr Γ:=fun B K β w l hm hI hF=>by
 subst hn
 have bK:news≠[]:=by intro h0;rw [h0] at bK;cases bK
 obtain ⟨h0,xs,o1,o2,o3,o4,o5,o6⟩:=hI.ob i _ br;have sQ:=hF.ev s;rw [hs] at sQ
 have qd:ev l s=h0:=by
  generalize hv:ev l s=v at sQ
  cases sQ with
  | vec _ _ a c hh =>
   obtain ⟨h',m',e1,e2,e3⟩:=hh;rw [o1] at e1;cases e1;exact e3 rfl
 have rl:=hF.ev x;rw [hx] at rl;generalize rm:ev l x=v at rl
 cases rl with
 | sl0 a c k=>exact absurd rfl bK
 | sl b o c _ _ hr _ =>
  have jF:fq k news:=fun r MQ=>by
   obtain ⟨j,hj⟩:=List.mem_iff_getElem?.1 MQ;refine ⟨(hr j r hj).1,fun g hg=>?_⟩;obtain ⟨q,hq⟩:=List.mem_iff_getElem?.1 hg;exact (hI.fz _ _ _ ((hr j r hj).2 q g hq)).1
  have yP:∀ (rows:List (List GV)) (o:Nat),(∀ (j:Nat) r,rows[j]?=some r->r.length=k/\∀ (q:Nat) g,r[q]?=some g->K b (o+j * k+q)=some g)->∀ (q:Nat) g,rows.flatten[q]?=some g->K b (o+q)=some g:=by
   intro rows
   induction rows with
   | nil=>intro o _ q g hg;simp at hg
   | cons r rows ih =>
    intro o h q g hg;rw [flatten_cons] at hg;have hl:=(h 0 r rfl).1
    by_cases hq:q < r.length
    ·rw [getElem?_append_left hq] at hg;have:=(h 0 r rfl).2 q g hg;simpa using this
    ·rw [List.getElem?_append_right (by omega),hl] at hg
     have:=ih (o+k) (fun j r' hj=>by
      have:=h (j+1) r' (by simpa using hj);refine ⟨this.1,fun q g hg=>?_⟩;have:=this.2 q g hg
      rw [show o+(j+1) * k+q=o+k+j * k+q by rw [Nat.succ_mul];omega] at this;exact this) (q - k) g hg
     rw [show o+k+(q - k)=o+q by omega] at this;exact this
  obtain ⟨us,jK,kj⟩:=vV (K:=K) (β:=β) (H:=w.heap) (b:=b) news.flatten o (fun j g hj=>by
   obtain ⟨hp,u,hu,eL⟩:=hI.fz _ _ _ (yP news o (fun j r hj=>hr j r hj) j g hj)
   exact ⟨u,hu,eL.pc hp⟩)
  have DB:us.length=news.length * k:=by
   rw [jK.1,List.length_flatten]
   have:∀ (rows:List (List GV)),fq k rows->(rows.map List.length).sum=rows.length * k:=by
    intro rows
    induction rows with
    | nil=>intro _;simp
    | cons r rows ih =>
     intro hk;rw [List.map_cons,List.sum_cons,ih (fun r hr=>hk r (List.mem_cons_of_mem _ hr)),(hk r (List.mem_cons_self)).1,length_cons,Nat.succ_mul];omega
   exact this news jF
  refine WL.app (base:=0) (v:=h0) (n:=rows.length) (m:=news.length) (xs:=xs) (news:=us) qd o2 rm DB (fun j u hj=>by rw [eT];exact kj j u hj) (jK.lf (BV h1)) hb.1 hb.2 (Nat.zero_le _) ?_;intro v' w' how gq tV vf
  obtain ⟨K',hK,qe,bd⟩:=hI.grow br o1 ⟨o2,o3⟩ (news:=news) (ns:=us) how gq tV jK jF bK (fun b bg o v ho hv=>by
   rcases vf with h7 | h7
   ·exact h7.c hv (fun h=>h)
   ·have gS:o < xs.length:=by rw [o2.1];exact Nat.lt_of_lt_of_le ho (Nat.mul_le_mul_right k o6)
    obtain ⟨b2,c2,oP,_,_,jt⟩:=o2.cells.2 (by intro h0;rw [h0] at gS;simp at gS)
    have eB:b2=b:=by rw [oP] at bg;cases bg;rfl
    subst eB;have DD:=jt o xs[o] (by simp [gS]);rw [eT,hv] at DD;cases DD;obtain ⟨b3,c3,MI,_,_,ME⟩:=how.cells.2 (by intro h0;have:xs=[]:=(List.append_eq_nil_iff.1 h0).1;rw [this] at gS;simp at gS)
    have xE:b3=b2:=by rw [MI,bg] at h7;cases h7;rfl
    subst xE
    rw [<-eT];exact ME o _ (by rw [getElem?_append_left gS];simp [gS]))
  rw [<-aY] at bd;refine h B K' _ w' _ hm bd ((hF.mono hK qe).put d ?_);obtain ⟨a,c,rfl⟩:=how.shape;exact .vec i _ a c ⟨_,_,ba,by simp,fun _=>by simp⟩
theorem Wk.KB {i o:Nat} {T:TypeId} {cs:List GV} (E k:Nat) (hi:Γ[i]?=some (.box T cs)) (ho:cs[o]?=some (.v (.slice none 0 0))):Wk m fr Γ fr (oset Γ i (.box T (bj cs o (.vec Γ.length 0)))++[.vec E k 0 []]):=fun B K β w l hm hI hF=>by
 have bR:β Γ.length=.no:=hI.out _ (Nat.le_refl _);have aq:i < Γ.length:=(List.getElem?_eq_some_iff.1 hi).1;have bd:=hI.Ci (w':=w) (E:=E) (k:=k) (x:=.slice none 0 0) (xs:=[]) (rows:=[]) (Ext.refl w) (gk.nil w 0 E k) (fun b hb=>by cases hb) aV.nil (fun r hr=>by cases hr);have hle:cX β (ep β Γ.length (.gr (.slice none 0 0) ([]:List (List GV)).length)):=fM (by rw [bR];trivial);refine ⟨K,_,⟨bd.ext,bd.kle,bd.ble,bd.loc,bd.fz,fun j x hj=>?_,fun j hj=>bd.out j (by simp [aY] at hj |-;exact hj),bd.dis,bd.own,bd.kn,bd.tab⟩,hF.mono (ca.refl K) hle⟩
 by_cases hji:j=i
 ·subst hji;rw [getElem?_append_left (by simp [aY];exact aq),aY,getElem?_set] at hj;simp [aq] at hj;subst hj;obtain ⟨b,vs,h1,h2,h3,h4⟩:=bd.ob j (.box T cs) (by rw [getElem?_append_left aq];exact hi);refine ⟨b,vs,h1,h2,?_,h4⟩
  have gen:∀ (vs:List Value) (cs:List GV) (o:Nat),aV K (ep β Γ.length (.gr (.slice none 0 0) ([]:List (List GV)).length)) vs cs->cs[o]?=some (.v (.slice none 0 0))->aV K (ep β Γ.length (.gr (.slice none 0 0) ([]:List (List GV)).length)) vs (bj cs o (.vec Γ.length 0)):=by
   intro vs
   induction vs with
   | nil=>intro cs o h ho;have:cs=[]:=eq_nil_of_length_eq_zero h.1.symm;subst this;simp at ho
   | cons v vs ih =>
    intro cs o h ho
    cases cs with
    | nil=>simp at ho
    | cons c cs =>
     obtain ⟨a1,a2⟩:=h.nf
     cases o with
     | zero =>
      cases ho;have hv:=Rel.dR a1;subst hv;exact .cons (.vec _ 0 none 0 ⟨_,_,ba,Nat.le_refl _,fun _=>rfl⟩) a2
     | succ o=>exact .cons a1 (ih cs o a2 (by simpa using ho))
  exact gen vs cs o h3 ho
 ·refine bd.ob j x ?_
  by_cases sM:j < Γ.length
  ·rw [getElem?_append_left (by simp [aY];exact sM),aY,getElem?_set,if_neg (fun e=>hji e.symm)] at hj;rw [getElem?_append_left sM];exact hj
  ·rw [List.getElem?_append_right (by simp [aY];omega)] at hj;rw [List.getElem?_append_right (by omega)];simpa [aY] using hj
theorem Wk.yZ {i o j n E k fz:Nat} {T:TypeId} {cs:List GV} {rows:List (List GV)} (hi:Γ[i]?=some (.box T cs)) (ho:cs[o]?=some (.vec j n)) (fB:Nat.beq i j=false) (hj:Γ[j]?=some (.vec E k fz rows)) (hn:rows.length=n):Wk m fr Γ fr (oset (oset Γ j (.vec E k n rows)) i (.box T (bj cs o (.sl k rows)))):=fun B K β w l hm hI hF=>by
 subst hn
 have bK:i≠j:=by intro e;subst e;simp at fB
 obtain ⟨h0,xs,o1,o2,o3,o4,o5,o6⟩:=hI.ob j _ hj;obtain ⟨K',hK,xK,bd⟩:=hI.iv hj;rw [<-aY] at bd;refine ⟨K',β,⟨bd.ext,bd.kle,bd.ble,bd.loc,bd.fz,fun q x hq=>?_,fun q hq=>bd.out q (by simpa [aY] using hq),bd.dis,bd.own,bd.kn,bd.tab⟩,hF.mono hK (cX.refl β)⟩
 by_cases hqi:q=i
 ·subst hqi;have aq:q < Γ.length:=(List.getElem?_eq_some_iff.1 hi).1;rw [aY,getElem?_set] at hq;simp [aY,aq] at hq;subst hq;obtain ⟨b,vs,h1,h2,h3,h4⟩:=bd.ob q (.box T cs) (by rw [aY,getElem?_set,if_neg (fun e=>bK e.symm)];exact hi);refine ⟨b,vs,h1,h2,?_,h4⟩
  have gen:∀ (vs:List Value) (cs:List GV) (o:Nat),aV K' β vs cs->cs[o]?=some (.vec j rows.length)->aV K' β vs (bj cs o (.sl k rows)):=by
   intro vs
   induction vs with
   | nil=>intro cs o h ho;have:cs=[]:=eq_nil_of_length_eq_zero h.1.symm;subst this;simp at ho
   | cons v vs ih =>
    intro cs o h ho
    cases cs with
    | nil=>simp at ho
    | cons c cs =>
     obtain ⟨a1,a2⟩:=h.nf
     cases o with
     | zero =>
      cases ho;refine .cons ?_ a2
      cases a1 with
      | vec _ _ a c hh =>
       obtain ⟨h',m',e1,e2,e3⟩:=hh;rw [o1] at e1;cases e1;have e4:=e3 rfl
       rcases o2.2 with ⟨e5,e6⟩ | ⟨g,cap,cu,e5,_,_,n9,_⟩
       ·have:rows=[]:=eq_nil_of_length_eq_zero e6;subst this;exact .sl0 _ _ _
       ·rw [e5] at e4;cases e4;refine .sl g 0 _ k rows (fun j r hr=>⟨(o4 r (mem_of_getElem? hr)).1,fun q g' kW=>?_⟩) n9;rw [Nat.zero_add];exact xK _ g o1 (by rw [e5];rfl) _ g' (th o4 hr kW)
     | succ o=>exact .cons a1 (ih cs o a2 (by simpa using ho))
  exact gen vs cs o h3 ho
 ·rw [aY,getElem?_set,if_neg (fun e=>hqi e.symm)] at hq;exact bd.ob q x hq
end
end Go.Xg
namespace Go.Xg
open Go.RowKit Go.Xw
class JG (P:Program) (t:TypeId) (k:outParam IntKind):Prop where
 und:P.underlying t=some (.int k)
class Ld (P:Program) (t:TypeId):Prop where
 und:∃ e,P.underlying t=some (.slice e)/\P.underlying e=some (.int .u8)
theorem Ld.mk' {P:Program} {t e:TypeId} (h:P.underlying t=some (.slice e)) (k:P.underlying e=some (.int .u8)):Ld P t:=⟨e,h,k⟩
section
variable {P:Program} {m:Nat} {Q:dP} {fr:List GV} {Γ:List Ob} {ops:Array Oper} {rest:List Oper} {d:Option Tmp} {op:Op} {ty:TypeId} {pos:String} {af:Array Edge}
theorem YG.tA {x y:Operand} {t t':TypeId} {a b:Int} (hx:aP fr x=.v (.int .u8 a)) (hy:aP fr y=.v (.int .u8 b)) (hb:0<=a - b/\a - b<=255):YG P (.binOp .sub t x y t') fr Γ (.v (.int .u8 (a - b))) :=
 YG.v2 hx hy fun l w h k d ty pos af=>by simp [execOp,eqGuard,h,k,binOp,Op.intArith,IntWalk.u8_in _ hb]
theorem YG.quo {x y:Operand} {t t':TypeId} {a b:Int} (hx:aP fr x=.v (ii a)) (hy:aP fr y=.v (ii b)) (hb:0<=a/\a<=9223372036854775807/\1<=b):YG P (.binOp .quo t x y t') fr Γ (.v (ii (a / b))) :=
 YG.v2 hx hy fun l w h k d ty pos af=>by
  have bK:b≠0:=by omega
  simp [execOp,eqGuard,h,k,binOp,Op.intDiv,bK,IntWalk.i64_quo a b hb]
theorem YG.rem {x y:Operand} {t t':TypeId} {a b:Int} (hx:aP fr x=.v (ii a)) (hy:aP fr y=.v (ii b)) (hb:0<=a/\1<=b):YG P (.binOp .rem t x y t') fr Γ (.v (ii (a % b))) :=
 YG.v2 hx hy fun l w h k d ty pos af=>by
  have bK:b≠0:=by omega
  simp [execOp,eqGuard,h,k,binOp,Op.intDiv,bK,IntWalk.rem_in a b hb.1]
theorem YG.xp {x:Operand} {s t:TypeId} {k k':IntKind} {a:Int} [hS:JG P s k'] [hT:JG P t k] (hx:aP fr x=.v (.int k' a)) (hw:k.wrap a=a):YG P (.convert s t x) fr Γ (.v (.int k a)) :=
 YG.v1 hx fun l w h d ty pos af=>by simp [execOp,h,convert,run_underlying hS.und,run_underlying hT.und,Conv.intToInt,hw]
theorem YG.str {x:Operand} {s t:TypeId} {l:ah} {rows:List (List GV)} [hS:Ld P s] [hT:pd P t] (hx:aP fr x=.sl 1 rows) (hr:rows=l.map fun c=>[.v (.int .u8 (c.toNat:Int))]):YG P (.convert s t x) fr Γ (.v (sv l)):=fun B K β w fl hI hF=>by
 subst hr;obtain ⟨e,h1,h2⟩:=hS.und;have h:=hF.ev x;rw [hx] at h;generalize hv:ev fl x=v at h;refine ⟨_,fun d ty pos af=>?_,.v _⟩
 have key:(convert s t v).run P w=.ok (sv l) w:=by
  generalize jF:(l.map fun c=>[GV.v (.int .u8 (c.toNat:Int))])=rows at h
  cases h with
  | sl0 a c =>
   have:l=[]:=by cases l with | nil=>rfl | cons x l=>simp at jF
   subst this
   cases a with
   | none=>rw [run_convert_bytes_string w s t e none 0 c h1 h2 hT.und];simp [Conv.bytesToString];rfl
   | some a=>exact run_convert_bytes_back w s t e a c [] h1 h2 hT.und (fun j hj=>by simp at hj)
  | sl b o c _ _ hc _ =>
   have hl:rows.length=l.length:=by rw [<-jF];simp
   rw [hl];refine run_convert_bytes_back w s t e ⟨b,o,none⟩ c l h1 h2 hT.und (fun j hj=>?_)
   have bp:rows[j]?=some [GV.v (.int .u8 (l[j].toNat:Int))]:=by rw [<-jF];simp [hj]
   obtain ⟨_,u,hu,eL⟩:=hI.fz _ _ _ ((hc j _ bp).2 0 _ rfl);rw [pf,eT];have:=Rel.dR eL;subst this;simpa using hu
 simp [execOp,hv,key]
end
end Go.Xg
namespace Go.Xg
open Go.RowKit Go.Xw
structure Hid (B:Prop):Prop where
 h:B
structure sk (aJ:List Nat) (C:Prop):Prop where
 h:C
section
variable {P:Program} {m:Nat} {ops:Array Oper} {Q:dP} {rest:List Oper} {fr:List GV} {Γ:List Ob} {d:Option Tmp} {ty:TypeId} {pos:String} {af:Array Edge}
theorem GL.uU {f:FuncId} [hf:aC P f] {aJ:List Nat} {args:List Operand} {l8:Array TypeId} {gs:List GV} {gz qI:List Ob} {g:GV} (hc:sk aJ (GF P f gs gz g qI)) (ha:kr (args.map (aP fr)) (lj (bM aJ Γ.length) gs)) (eJ:gQ aJ Γ.length=true)
  (br:seen (bM aJ Γ.length) Γ aJ gz) (hl:Nat.ble aJ.length qI.length=true) (h:GL P m ops Q rest (bh fr d (dp (bM aJ Γ.length) g)) (dJ Γ aJ (qI.map (Ob.dp (bM aJ Γ.length))))) :
  GL P m ops Q (⟨d,.call ⟨.value (.func f),args.toArray,l8⟩,ty,pos,af,none⟩::rest) fr Γ:=GL.VC aJ hc.h ha eJ br hl h
theorem GL.S9 {f:FuncId} [hf:aC P f] {aJ:List Nat} {args:List Operand} {l8:Array TypeId} {gs:List GV} {gz:List Ob} {R:GV->List Ob->Prop} (hc:sk aJ (GC P f gs gz R)) (ha:kr (args.map (aP fr)) (lj (bM aJ Γ.length) gs)) (eJ:gQ aJ Γ.length=true)
  (br:seen (bM aJ Γ.length) Γ aJ gz) (h:∀ g aH,R g aH->aJ.length<=aH.length/\GL P m ops Q rest (bh fr d (dp (bM aJ Γ.length) g)) (dJ Γ aJ (aH.map (Ob.dp (bM aJ Γ.length))))) :
  GL P m ops Q (⟨d,.call ⟨.value (.func f),args.toArray,l8⟩,ty,pos,af,none⟩::rest) fr Γ:=GL.Be aJ hc.h ha eJ br h
theorem GL.LH {f:FuncId} [hf:aC P f] {aJ:List Nat} {x:Operand} {first cap:List GV} {args:List Operand} {l8:Array TypeId} {gs:List GV} {gz:List Ob} {R:GV->List Ob->Prop} (hc:sk aJ (GC P f gs gz R)) (hx:aP fr x=.fn (.func f) first cap) (ha:first++args.map (aP fr)++cap=lj (bM aJ Γ.length) gs) (eJ:gQ aJ Γ.length=true)
  (br:seen (bM aJ Γ.length) Γ aJ gz) (h:∀ g aH,R g aH->aJ.length<=aH.length/\GL P m ops Q rest (bh fr d (dp (bM aJ Γ.length) g)) (dJ Γ aJ (aH.map (Ob.dp (bM aJ Γ.length))))) :
  GL P m ops Q (⟨d,.call ⟨.value x,args.toArray,l8⟩,ty,pos,af,none⟩::rest) fr Γ:=GL.vS aJ hc.h hx ha eJ br h
theorem GL.LG {f:FuncId} [hf:aC P f] {aJ:List Nat} {x:Operand} {args:List Operand} {l8:Array TypeId} {gs:List GV} {gz:List Ob} {R:GV->List Ob->Prop} (hc:sk aJ (GC P f gs gz R)) (hx:aP fr x=.v (.func (.func f) #[] #[])) (ha:args.map (aP fr)=lj (bM aJ Γ.length) gs) (eJ:gQ aJ Γ.length=true)
  (br:seen (bM aJ Γ.length) Γ aJ gz) (h:∀ g aH,R g aH->aJ.length<=aH.length/\GL P m ops Q rest (bh fr d (dp (bM aJ Γ.length) g)) (dJ Γ aJ (aH.map (Ob.dp (bM aJ Γ.length))))) :
  GL P m ops Q (⟨d,.call ⟨.value x,args.toArray,l8⟩,ty,pos,af,none⟩::rest) fr Γ:=GL.VD aJ hc.h hx ha eJ br h
end
theorem iw {A:Prop} (s:A:=by repeat (first | exact iz.n | (apply iz.w;(· decide +kernel)) | (apply iz.y;(· first | (apply YQ.t;(· exact rfl);(· exact rfl);(· (first | (apply K.ld;first | exact YG.x9 rfl rfl (by first | rfl | assumption) | exact YG.sW rfl rfl rfl rfl | exact YG.ldV rfl rfl (by first | rfl | assumption) (by first | rfl | assumption) (by first | rfl | assumption) | exact YG.x8 rfl rfl (by first | rfl | assumption) (by first | rfl | assumption) (by first | rfl | assumption)) | (apply K.idx;first | exact YG.idxV rfl rfl rfl (by first | rfl | assumption) (by omega) | exact YG.bs 0 rfl rfl rfl (by first | omega | assumption | (simp only [List.length_append,List.length_cons,List.length_nil];omega)) | exact YG.bs 1 rfl rfl rfl (by first | omega | assumption | (simp only [List.length_append,List.length_cons,List.length_nil];omega)) | exact YG.bs 2 rfl rfl rfl (by first | omega | assumption | (simp only [List.length_append,List.length_cons,List.length_nil];omega)) | exact YG.bs 3 rfl rfl rfl (by first | omega | assumption | (simp only [List.length_append,List.length_cons,List.length_nil];omega)) | exact YG.bs 4 rfl rfl rfl (by first | omega | assumption | (simp only [List.length_append,List.length_cons,List.length_nil];omega)) | exact YG.bs 5 rfl rfl rfl (by first | omega | assumption | (simp only [List.length_append,List.length_cons,List.length_nil];omega)) | exact YG.bs 6 rfl rfl rfl (by first | omega | assumption | (simp only [List.length_append,List.length_cons,List.length_nil];omega))) | (apply K.pn;first | exact YG.fldV rfl rfl (by first | rfl | assumption) | exact YG.sE rfl rfl (by first | rfl | assumption)) | exact YG.rv 1 rfl rfl (by first | rfl | assumption) (by first | rfl | assumption) | exact YG.mv | exact YG.tN | (apply K.bin;first | exact YG.go rfl | exact YG.pe rfl rfl (by omega) | exact YG.ph rfl rfl | exact YG.pJ rfl rfl | exact YG.uY rfl rfl | exact YG.vq rfl rfl | exact YG.cat rfl rfl (by omega) | exact YG.cat rfl rfl (by simp only [List.length_append,List.length_cons,List.length_nil];omega) | exact YG.dk rfl rfl (by omega) | exact YG.add rfl rfl (by omega) | exact YG.sub rfl rfl (by omega) | exact YG.mul rfl rfl (by omega) | exact YG.tA rfl rfl (by omega) | exact YG.quo rfl rfl (by omega) | exact YG.rem rfl rfl (by omega) | exact YG.ny rfl rfl) | (apply K.pn;first | exact YG.sF rfl | exact YG.sD rfl) | (apply K.ld;first | exact YG.x7 rfl (by first | rfl | assumption) | exact YG.sV rfl rfl rfl) | (apply K.len;first | exact YG.pI rfl | exact YG.qu rfl | exact YG.sX rfl | exact YG.sY rfl | exact YG.lenA rfl) | (apply K.ye;first | exact YG.tg rfl | exact YG.tf rfl) | (apply K.pick;first | exact YG.vz rfl (by first | rfl | assumption) | exact YG.vy rfl (by first | rfl | assumption)) | (apply K.idx;first | exact YG.ou rfl rfl (by assumption) | exact YG.fp rfl rfl (by assumption) rfl | exact YG.fp rfl rfl (by assumption) (by omega) | exact YG.qp rfl rfl (by omega)) | exact YG.ext rfl rfl | exact YG.go rfl | (apply K.ym;first | exact YG.tz rfl rfl rfl (by omega) | exact YG.tw rfl rfl (by omega) | exact YG.tu rfl rfl (by omega) | exact YG.mY 1 rfl rfl rfl (by first | rfl | assumption)) | exact YG.qs rfl rfl (by assumption) | exact YG.idxSC rfl rfl (by assumption) rfl | (apply K.jc;first | exact YG.mkfn0 | exact YG.jc) | exact YG.build rfl | exact YG.neg rfl (by omega) | exact YG.qm rfl rfl | exact YG.xp rfl (by first | rfl | exact IntWalk.i64_in _ (by omega) | exact IntWalk.u8_in _ (by omega) | assumption) | exact YG.str rfl (by first | rfl | assumption)))) | (apply YQ.t;(· exact rfl);(· apply CA;(· exact rfl);(· first | exact rfl | assumption));(· (first | (apply K.ld;first | exact YG.x9 rfl rfl (by first | rfl | assumption) | exact YG.sW rfl rfl rfl rfl | exact YG.ldV rfl rfl (by first | rfl | assumption) (by first | rfl | assumption) (by first | rfl | assumption) | exact YG.x8 rfl rfl (by first | rfl | assumption) (by first | rfl | assumption) (by first | rfl | assumption)) | (apply K.idx;first | exact YG.idxV rfl rfl rfl (by first | rfl | assumption) (by omega) | exact YG.bs 0 rfl rfl rfl (by first | omega | assumption | (simp only [List.length_append,List.length_cons,List.length_nil];omega)) | exact YG.bs 1 rfl rfl rfl (by first | omega | assumption | (simp only [List.length_append,List.length_cons,List.length_nil];omega)) | exact YG.bs 2 rfl rfl rfl (by first | omega | assumption | (simp only [List.length_append,List.length_cons,List.length_nil];omega)) | exact YG.bs 3 rfl rfl rfl (by first | omega | assumption | (simp only [List.length_append,List.length_cons,List.length_nil];omega)) | exact YG.bs 4 rfl rfl rfl (by first | omega | assumption | (simp only [List.length_append,List.length_cons,List.length_nil];omega)) | exact YG.bs 5 rfl rfl rfl (by first | omega | assumption | (simp only [List.length_append,List.length_cons,List.length_nil];omega)) | exact YG.bs 6 rfl rfl rfl (by first | omega | assumption | (simp only [List.length_append,List.length_cons,List.length_nil];omega))) | (apply K.pn;first | exact YG.fldV rfl rfl (by first | rfl | assumption) | exact YG.sE rfl rfl (by first | rfl | assumption)) | exact YG.rv 1 rfl rfl (by first | rfl | assumption) (by first | rfl | assumption) | exact YG.mv | exact YG.tN | (apply K.bin;first | exact YG.go rfl | exact YG.pe rfl rfl (by omega) | exact YG.ph rfl rfl | exact YG.pJ rfl rfl | exact YG.uY rfl rfl | exact YG.vq rfl rfl | exact YG.cat rfl rfl (by omega) | exact YG.cat rfl rfl (by simp only [List.length_append,List.length_cons,List.length_nil];omega) | exact YG.dk rfl rfl (by omega) | exact YG.add rfl rfl (by omega) | exact YG.sub rfl rfl (by omega) | exact YG.mul rfl rfl (by omega) | exact YG.tA rfl rfl (by omega) | exact YG.quo rfl rfl (by omega) | exact YG.rem rfl rfl (by omega) | exact YG.ny rfl rfl) | (apply K.pn;first | exact YG.sF rfl | exact YG.sD rfl) | (apply K.ld;first | exact YG.x7 rfl (by first | rfl | assumption) | exact YG.sV rfl rfl rfl) | (apply K.len;first | exact YG.pI rfl | exact YG.qu rfl | exact YG.sX rfl | exact YG.sY rfl | exact YG.lenA rfl) | (apply K.ye;first | exact YG.tg rfl | exact YG.tf rfl) | (apply K.pick;first | exact YG.vz rfl (by first | rfl | assumption) | exact YG.vy rfl (by first | rfl | assumption)) | (apply K.idx;first | exact YG.ou rfl rfl (by assumption) | exact YG.fp rfl rfl (by assumption) rfl | exact YG.fp rfl rfl (by assumption) (by omega) | exact YG.qp rfl rfl (by omega)) | exact YG.ext rfl rfl | exact YG.go rfl | (apply K.ym;first | exact YG.tz rfl rfl rfl (by omega) | exact YG.tw rfl rfl (by omega) | exact YG.tu rfl rfl (by omega) | exact YG.mY 1 rfl rfl rfl (by first | rfl | assumption)) | exact YG.qs rfl rfl (by assumption) | exact YG.idxSC rfl rfl (by assumption) rfl | (apply K.jc;first | exact YG.mkfn0 | exact YG.jc) | exact YG.build rfl | exact YG.neg rfl (by omega) | exact YG.qm rfl rfl | exact YG.xp rfl (by first | rfl | exact IntWalk.i64_in _ (by omega) | exact IntWalk.u8_in _ (by omega) | assumption) | exact YG.str rfl (by first | rfl | assumption)))) | (apply YQ.f;(· exact rfl);(· apply Fh;(· exact rfl);(· first | exact rfl | assumption))))))):A:=s
theorem dq {A:Prop} (s:A:=by (try simp only [bh,bj,aP,cq,List.length_cons,List.length_nil,Nat.reduceAdd,dp,lj,bM]);rfl):A:=s
theorem eE {A:Prop} (s:A:=by (try simp only [List.cons_append,List.nil_append,oset,nu,bj,cq,aP,dJ,List.map_cons,List.map_nil,Ob.dp,dp,lj,bM]);rfl):A:=s
theorem y8 {A:Prop} (s:A:=by simp only [bh,bj,aP,cq];rfl):A:=s
theorem kq {A:Prop} (s:A:=by first | exact kr.refl | (repeat (first | exact kr.nil | exact lS.refl | exact lS.nil | exact lS.aaF | exact lS.fn0 | refine kr.cons ?_ ?_ | refine lS.agg ?_))):A:=s
theorem nj {A:Prop} (s:A:=by first | exact trivial | exact ⟨rfl,trivial⟩ | exact ⟨rfl,rfl,trivial⟩ | exact ⟨rfl,rfl,rfl,trivial⟩ | exact ⟨rfl,rfl,rfl,rfl,rfl,trivial⟩):A:=s
theorem ab {A B:Prop} (h:B) (s:Hid B->A:=by intro hQ;(repeat (first | ((first | (apply GL.q;(· (first | exact YG.mv | exact YG.tN | (apply K.bin;first | exact YG.go rfl | exact YG.pe rfl rfl (by omega) | exact YG.ph rfl rfl | exact YG.pJ rfl rfl | exact YG.uY rfl rfl | exact YG.vq rfl rfl | exact YG.cat rfl rfl (by omega) | exact YG.cat rfl rfl (by simp only [List.length_append,List.length_cons,List.length_nil];omega) | exact YG.dk rfl rfl (by omega) | exact YG.add rfl rfl (by omega) | exact YG.sub rfl rfl (by omega) | exact YG.mul rfl rfl (by omega) | exact YG.tA rfl rfl (by omega) | exact YG.quo rfl rfl (by omega) | exact YG.rem rfl rfl (by omega) | exact YG.ny rfl rfl) | (apply K.pn;first | exact YG.sF rfl | exact YG.sD rfl | exact YG.fldV rfl rfl (by first | rfl | assumption) | exact YG.sE rfl rfl (by first | rfl | assumption)) | (apply K.ld;first | exact YG.x9 rfl rfl (by first | rfl | assumption) | exact YG.x7 rfl (by first | rfl | assumption) | exact YG.sW rfl rfl rfl rfl | exact YG.sV rfl rfl rfl | exact YG.ldV rfl rfl (by first | rfl | assumption) (by first | rfl | assumption) (by first | rfl | assumption) | exact YG.x8 rfl rfl (by first | rfl | assumption) (by first | rfl | assumption) (by first | rfl | assumption)) | (apply K.len;first | exact YG.pI rfl | exact YG.qu rfl | exact YG.sX rfl | exact YG.sY rfl | exact YG.lenA rfl) | (apply K.ye;first | exact YG.tg rfl | exact YG.tf rfl) | (apply K.pick;first | exact YG.vz rfl (by first | rfl | assumption) | exact YG.vy rfl (by first | rfl | assumption)) | (apply K.idx;first | exact YG.ou rfl rfl (by assumption) | exact YG.fp rfl rfl (by assumption) rfl | exact YG.fp rfl rfl (by assumption) (by omega) | exact YG.qp rfl rfl (by omega) | exact YG.idxV rfl rfl rfl (by first | rfl | assumption) (by omega) | exact YG.bs 0 rfl rfl rfl (by first | omega | assumption | (simp only [List.length_append,List.length_cons,List.length_nil];omega)) | exact YG.bs 1 rfl rfl rfl (by first | omega | assumption | (simp only [List.length_append,List.length_cons,List.length_nil];omega)) | exact YG.bs 2 rfl rfl rfl (by first | omega | assumption | (simp only [List.length_append,List.length_cons,List.length_nil];omega)) | exact YG.bs 3 rfl rfl rfl (by first | omega | assumption | (simp only [List.length_append,List.length_cons,List.length_nil];omega)) | exact YG.bs 4 rfl rfl rfl (by first | omega | assumption | (simp only [List.length_append,List.length_cons,List.length_nil];omega)) | exact YG.bs 5 rfl rfl rfl (by first | omega | assumption | (simp only [List.length_append,List.length_cons,List.length_nil];omega)) | exact YG.bs 6 rfl rfl rfl (by first | omega | assumption | (simp only [List.length_append,List.length_cons,List.length_nil];omega))) | exact YG.ext rfl rfl | exact YG.go rfl | (apply K.ym;first | exact YG.tz rfl rfl rfl (by omega) | exact YG.tw rfl rfl (by omega) | exact YG.tu rfl rfl (by omega) | exact YG.mY 1 rfl rfl rfl (by first | rfl | assumption)) | exact YG.qs rfl rfl (by assumption) | exact YG.idxSC rfl rfl (by assumption) rfl | (apply K.jc;first | exact YG.mkfn0 | exact YG.jc) | exact YG.build rfl | exact YG.neg rfl (by omega) | exact YG.qm rfl rfl | exact YG.xp rfl (by first | rfl | exact IntWalk.i64_in _ (by omega) | exact IntWalk.u8_in _ (by omega) | assumption) | exact YG.str rfl (by first | rfl | assumption)))) | refine GL.nil ?_ | refine aD ?_ | refine GW.seq ?_ | refine GW.region ?_ | refine GW.skip ?_ | refine bQ ?_ | refine GW.block ?_ | (apply GL.gt;(· exact rfl);(· first | exact rfl | assumption)) | (apply GL.gf;(· exact rfl);(· first | exact rfl | assumption)) | (apply GL.gu;(· exact rfl)) | (apply Qo;(· exact rfl);(· first | exact rfl | assumption)) | (apply Qn;(· exact rfl);(· first | exact rfl | assumption)));try refine GN y8 ?_) | ((first | (apply GL.alloc;(· simp only [jM,Value.cells,List.map_cons,List.map_nil];rfl)) | (apply GL.box;(· exact rfl)) | (apply GL.st;(· exact rfl);(· exact rfl);(· exact rfl);(· exact rfl);(· exact rfl);(· exact rfl)));refine tJ dq eE ?_)));exact hQ.1):A:=s ⟨h⟩
theorem aj {A B:Prop} (h:B) (s:Hid B->A:=by intro hQ;(repeat ((first | (apply YJ;(· exact rfl)) | (apply YI;(· exact rfl)) | (apply OP;(· exact rfl);(· intro Γ;(first | (apply K.bin;first | exact YG.go rfl | exact YG.pe rfl rfl (by omega) | exact YG.ph rfl rfl | exact YG.pJ rfl rfl | exact YG.uY rfl rfl | exact YG.vq rfl rfl | exact YG.cat rfl rfl (by omega) | exact YG.cat rfl rfl (by simp only [List.length_append,List.length_cons,List.length_nil];omega) | exact YG.dk rfl rfl (by omega) | exact YG.add rfl rfl (by omega) | exact YG.sub rfl rfl (by omega) | exact YG.mul rfl rfl (by omega) | exact YG.tA rfl rfl (by omega) | exact YG.quo rfl rfl (by omega) | exact YG.rem rfl rfl (by omega) | exact YG.ny rfl rfl) | (apply K.pn;first | exact YG.sF rfl | exact YG.sD rfl) | (apply K.ld;first | exact YG.x7 rfl (by first | rfl | assumption) | exact YG.sV rfl rfl rfl) | (apply K.len;first | exact YG.pI rfl | exact YG.qu rfl | exact YG.sX rfl | exact YG.sY rfl | exact YG.lenA rfl) | (apply K.ye;first | exact YG.tg rfl | exact YG.tf rfl) | (apply K.idx;first | exact YG.ou rfl rfl (by assumption) | exact YG.fp rfl rfl (by assumption) rfl | exact YG.fp rfl rfl (by assumption) (by omega) | exact YG.qp rfl rfl (by omega)) | exact YG.ext rfl rfl | exact YG.go rfl | (apply K.ym;first | exact YG.tz rfl rfl rfl (by omega) | exact YG.tw rfl rfl (by omega) | exact YG.tu rfl rfl (by omega) | exact YG.mY 1 rfl rfl rfl (by first | rfl | assumption)) | exact YG.qs rfl rfl (by assumption) | exact YG.idxSC rfl rfl (by assumption) rfl | (apply K.jc;first | exact YG.mkfn0 | exact YG.jc) | exact YG.build rfl | exact YG.neg rfl (by omega) | exact YG.qm rfl rfl | exact YG.xp rfl (by first | rfl | exact IntWalk.i64_in _ (by omega) | exact IntWalk.u8_in _ (by omega) | assumption) | exact YG.str rfl (by first | rfl | assumption)))) | (apply Xt;(· exact rfl);(· exact rfl);(· first | exact rfl | assumption)) | (apply Xs;(· exact rfl);(· exact rfl);(· first | exact rfl | assumption)) | (apply Xu;(· exact rfl);(· exact rfl);(· first | exact rfl | assumption)) | (apply OQ;(· exact rfl);(· (first | (apply K.ld;first | exact YG.x9 rfl rfl (by first | rfl | assumption) | exact YG.sW rfl rfl rfl rfl | exact YG.ldV rfl rfl (by first | rfl | assumption) (by first | rfl | assumption) (by first | rfl | assumption) | exact YG.x8 rfl rfl (by first | rfl | assumption) (by first | rfl | assumption) (by first | rfl | assumption)) | (apply K.idx;first | exact YG.idxV rfl rfl rfl (by first | rfl | assumption) (by omega) | exact YG.bs 0 rfl rfl rfl (by first | omega | assumption | (simp only [List.length_append,List.length_cons,List.length_nil];omega)) | exact YG.bs 1 rfl rfl rfl (by first | omega | assumption | (simp only [List.length_append,List.length_cons,List.length_nil];omega)) | exact YG.bs 2 rfl rfl rfl (by first | omega | assumption | (simp only [List.length_append,List.length_cons,List.length_nil];omega)) | exact YG.bs 3 rfl rfl rfl (by first | omega | assumption | (simp only [List.length_append,List.length_cons,List.length_nil];omega)) | exact YG.bs 4 rfl rfl rfl (by first | omega | assumption | (simp only [List.length_append,List.length_cons,List.length_nil];omega)) | exact YG.bs 5 rfl rfl rfl (by first | omega | assumption | (simp only [List.length_append,List.length_cons,List.length_nil];omega)) | exact YG.bs 6 rfl rfl rfl (by first | omega | assumption | (simp only [List.length_append,List.length_cons,List.length_nil];omega))) | (apply K.pn;first | exact YG.fldV rfl rfl (by first | rfl | assumption) | exact YG.sE rfl rfl (by first | rfl | assumption)) | exact YG.rv 1 rfl rfl (by first | rfl | assumption) (by first | rfl | assumption)))) | (apply WH;(· exact rfl);(· exact rfl);(· first | exact rfl | assumption);(· intro Γ;(first | exact YG.mv | exact YG.tN | (apply K.bin;first | exact YG.go rfl | exact YG.pe rfl rfl (by omega) | exact YG.ph rfl rfl | exact YG.pJ rfl rfl | exact YG.uY rfl rfl | exact YG.vq rfl rfl | exact YG.cat rfl rfl (by omega) | exact YG.cat rfl rfl (by simp only [List.length_append,List.length_cons,List.length_nil];omega) | exact YG.dk rfl rfl (by omega) | exact YG.add rfl rfl (by omega) | exact YG.sub rfl rfl (by omega) | exact YG.mul rfl rfl (by omega) | exact YG.tA rfl rfl (by omega) | exact YG.quo rfl rfl (by omega) | exact YG.rem rfl rfl (by omega) | exact YG.ny rfl rfl) | (apply K.pn;first | exact YG.sF rfl | exact YG.sD rfl) | (apply K.ld;first | exact YG.x7 rfl (by first | rfl | assumption) | exact YG.sV rfl rfl rfl) | (apply K.len;first | exact YG.pI rfl | exact YG.qu rfl | exact YG.sX rfl | exact YG.sY rfl | exact YG.lenA rfl) | (apply K.ye;first | exact YG.tg rfl | exact YG.tf rfl) | (apply K.pick;first | exact YG.vz rfl (by first | rfl | assumption) | exact YG.vy rfl (by first | rfl | assumption)) | (apply K.idx;first | exact YG.ou rfl rfl (by assumption) | exact YG.fp rfl rfl (by assumption) rfl | exact YG.fp rfl rfl (by assumption) (by omega) | exact YG.qp rfl rfl (by omega)) | exact YG.ext rfl rfl | exact YG.go rfl | (apply K.ym;first | exact YG.tz rfl rfl rfl (by omega) | exact YG.tw rfl rfl (by omega) | exact YG.tu rfl rfl (by omega) | exact YG.mY 1 rfl rfl rfl (by first | rfl | assumption)) | exact YG.qs rfl rfl (by assumption) | exact YG.idxSC rfl rfl (by assumption) rfl | (apply K.jc;first | exact YG.mkfn0 | exact YG.jc) | exact YG.build rfl | exact YG.neg rfl (by omega) | exact YG.qm rfl rfl | exact YG.xp rfl (by first | rfl | exact IntWalk.i64_in _ (by omega) | exact IntWalk.u8_in _ (by omega) | assumption) | exact YG.str rfl (by first | rfl | assumption)))) | (apply YK;(· exact rfl);(· exact rfl);(· first | exact rfl | assumption);(· (first | (apply K.ld;first | exact YG.x9 rfl rfl (by first | rfl | assumption) | exact YG.sW rfl rfl rfl rfl | exact YG.ldV rfl rfl (by first | rfl | assumption) (by first | rfl | assumption) (by first | rfl | assumption) | exact YG.x8 rfl rfl (by first | rfl | assumption) (by first | rfl | assumption) (by first | rfl | assumption)) | (apply K.idx;first | exact YG.idxV rfl rfl rfl (by first | rfl | assumption) (by omega) | exact YG.bs 0 rfl rfl rfl (by first | omega | assumption | (simp only [List.length_append,List.length_cons,List.length_nil];omega)) | exact YG.bs 1 rfl rfl rfl (by first | omega | assumption | (simp only [List.length_append,List.length_cons,List.length_nil];omega)) | exact YG.bs 2 rfl rfl rfl (by first | omega | assumption | (simp only [List.length_append,List.length_cons,List.length_nil];omega)) | exact YG.bs 3 rfl rfl rfl (by first | omega | assumption | (simp only [List.length_append,List.length_cons,List.length_nil];omega)) | exact YG.bs 4 rfl rfl rfl (by first | omega | assumption | (simp only [List.length_append,List.length_cons,List.length_nil];omega)) | exact YG.bs 5 rfl rfl rfl (by first | omega | assumption | (simp only [List.length_append,List.length_cons,List.length_nil];omega)) | exact YG.bs 6 rfl rfl rfl (by first | omega | assumption | (simp only [List.length_append,List.length_cons,List.length_nil];omega))) | (apply K.pn;first | exact YG.fldV rfl rfl (by first | rfl | assumption) | exact YG.sE rfl rfl (by first | rfl | assumption)) | exact YG.rv 1 rfl rfl (by first | rfl | assumption) (by first | rfl | assumption)))) | (apply YF;(· exact rfl);(· exact rfl);(· first | exact rfl | assumption)) | (apply YH;(· exact rfl);(· exact rfl)) | (apply YD;(· exact rfl);(· exact rfl);(· first | exact rfl | assumption);(· exact iw)) | (apply YE;(· exact rfl);(· exact rfl);(· exact iw)) | refine GO.nil ?_ | (apply OA;(· exact rfl);(· exact rfl);apply GL.alloc;(· simp only [jM,Value.cells,List.map_cons,List.map_nil];rfl);refine GL.nil (aD (ey.mk iw ?_));refine nM dq eE ?_) | (apply OA;(· exact rfl);(· exact rfl);apply GL.st;(· exact rfl);(· exact rfl);(· exact rfl);(· exact rfl);(· exact rfl);(· exact rfl);refine GL.nil (aD (ey.mk iw ?_));refine nM dq eE ?_) | (apply OA;(· exact rfl);(· exact rfl);apply GL.box;(· exact rfl);refine GL.nil (aD (ey.mk iw ?_));refine nM dq eE ?_));try refine WG y8 ?_));exact hQ.1):A:=s ⟨h⟩
theorem iM {A B:Prop} (h:B) (s:Hid B->A:=by intro hQ;(repeat (first | ((first | (apply GL.q;(· (first | exact YG.mv | exact YG.tN | (apply K.bin;first | exact YG.go rfl | exact YG.pe rfl rfl (by omega) | exact YG.ph rfl rfl | exact YG.pJ rfl rfl | exact YG.uY rfl rfl | exact YG.vq rfl rfl | exact YG.cat rfl rfl (by omega) | exact YG.cat rfl rfl (by simp only [List.length_append,List.length_cons,List.length_nil];omega) | exact YG.dk rfl rfl (by omega) | exact YG.add rfl rfl (by omega) | exact YG.sub rfl rfl (by omega) | exact YG.mul rfl rfl (by omega) | exact YG.tA rfl rfl (by omega) | exact YG.quo rfl rfl (by omega) | exact YG.rem rfl rfl (by omega) | exact YG.ny rfl rfl) | (apply K.pn;first | exact YG.sF rfl | exact YG.sD rfl | exact YG.fldV rfl rfl (by first | rfl | assumption) | exact YG.sE rfl rfl (by first | rfl | assumption)) | (apply K.ld;first | exact YG.x9 rfl rfl (by first | rfl | assumption) | exact YG.x7 rfl (by first | rfl | assumption) | exact YG.sW rfl rfl rfl rfl | exact YG.sV rfl rfl rfl | exact YG.ldV rfl rfl (by first | rfl | assumption) (by first | rfl | assumption) (by first | rfl | assumption) | exact YG.x8 rfl rfl (by first | rfl | assumption) (by first | rfl | assumption) (by first | rfl | assumption)) | (apply K.len;first | exact YG.pI rfl | exact YG.qu rfl | exact YG.sX rfl | exact YG.sY rfl | exact YG.lenA rfl) | (apply K.ye;first | exact YG.tg rfl | exact YG.tf rfl) | (apply K.pick;first | exact YG.vz rfl (by first | rfl | assumption) | exact YG.vy rfl (by first | rfl | assumption)) | (apply K.idx;first | exact YG.ou rfl rfl (by assumption) | exact YG.fp rfl rfl (by assumption) rfl | exact YG.fp rfl rfl (by assumption) (by omega) | exact YG.qp rfl rfl (by omega) | exact YG.idxV rfl rfl rfl (by first | rfl | assumption) (by omega) | exact YG.bs 0 rfl rfl rfl (by first | omega | assumption | (simp only [List.length_append,List.length_cons,List.length_nil];omega)) | exact YG.bs 1 rfl rfl rfl (by first | omega | assumption | (simp only [List.length_append,List.length_cons,List.length_nil];omega)) | exact YG.bs 2 rfl rfl rfl (by first | omega | assumption | (simp only [List.length_append,List.length_cons,List.length_nil];omega)) | exact YG.bs 3 rfl rfl rfl (by first | omega | assumption | (simp only [List.length_append,List.length_cons,List.length_nil];omega)) | exact YG.bs 4 rfl rfl rfl (by first | omega | assumption | (simp only [List.length_append,List.length_cons,List.length_nil];omega)) | exact YG.bs 5 rfl rfl rfl (by first | omega | assumption | (simp only [List.length_append,List.length_cons,List.length_nil];omega)) | exact YG.bs 6 rfl rfl rfl (by first | omega | assumption | (simp only [List.length_append,List.length_cons,List.length_nil];omega))) | exact YG.ext rfl rfl | exact YG.go rfl | (apply K.ym;first | exact YG.tz rfl rfl rfl (by omega) | exact YG.tw rfl rfl (by omega) | exact YG.tu rfl rfl (by omega) | exact YG.mY 1 rfl rfl rfl (by first | rfl | assumption)) | exact YG.qs rfl rfl (by assumption) | exact YG.idxSC rfl rfl (by assumption) rfl | fail | exact YG.build rfl | exact YG.neg rfl (by omega) | exact YG.qm rfl rfl | exact YG.xp rfl (by first | rfl | exact IntWalk.i64_in _ (by omega) | exact IntWalk.u8_in _ (by omega) | assumption) | exact YG.str rfl (by first | rfl | assumption)))) | refine GL.nil ?_ | refine aD ?_ | refine GW.seq ?_ | refine GW.region ?_ | refine GW.skip ?_ | refine bQ ?_ | refine GW.block ?_ | (apply GL.gt;(· exact rfl);(· first | exact rfl | assumption)) | (apply GL.gf;(· exact rfl);(· first | exact rfl | assumption)) | (apply GL.gu;(· exact rfl)) | (apply Qo;(· exact rfl);(· first | exact rfl | assumption)) | (apply Qn;(· exact rfl);(· first | exact rfl | assumption)));try refine GN y8 ?_) | ((first | (apply GL.alloc;(· simp only [jM,Value.cells,List.map_cons,List.map_nil];rfl)) | (apply GL.box;(· exact rfl)) | (apply GL.st;(· exact rfl);(· exact rfl);(· exact rfl);(· exact rfl);(· exact rfl);(· exact rfl)));refine tJ dq eE ?_)));exact hQ.1):A:=s ⟨h⟩
theorem Jw {A B:Prop} (h:B) (s:Hid B->A:=by intro hQ;(repeat (first | ((first | (apply GL.q;(· (first | exact YG.mv | exact YG.tN | (apply K.bin;first | exact YG.go rfl | exact YG.pe rfl rfl (by omega) | exact YG.ph rfl rfl | exact YG.pJ rfl rfl | exact YG.uY rfl rfl | exact YG.vq rfl rfl | exact YG.cat rfl rfl (by omega) | exact YG.cat rfl rfl (by simp only [List.length_append,List.length_cons,List.length_nil];omega) | exact YG.dk rfl rfl (by omega) | exact YG.add rfl rfl (by omega) | exact YG.sub rfl rfl (by omega) | exact YG.mul rfl rfl (by omega) | exact YG.tA rfl rfl (by omega) | exact YG.quo rfl rfl (by omega) | exact YG.rem rfl rfl (by omega) | exact YG.ny rfl rfl) | (apply K.pn;first | exact YG.sF rfl | exact YG.sD rfl | exact YG.fldV rfl rfl (by first | rfl | assumption) | exact YG.sE rfl rfl (by first | rfl | assumption)) | (apply K.ld;first | exact YG.x9 rfl rfl (by first | rfl | assumption) | exact YG.x7 rfl (by first | rfl | assumption) | exact YG.sW rfl rfl rfl rfl | exact YG.sV rfl rfl rfl | exact YG.ldV rfl rfl (by first | rfl | assumption) (by first | rfl | assumption) (by first | rfl | assumption) | exact YG.x8 rfl rfl (by first | rfl | assumption) (by first | rfl | assumption) (by first | rfl | assumption)) | (apply K.len;first | exact YG.pI rfl | exact YG.qu rfl | exact YG.sX rfl | exact YG.sY rfl | exact YG.lenA rfl) | (apply K.ye;first | exact YG.tg rfl | exact YG.tf rfl) | (apply K.pick;first | exact YG.vz rfl (by first | rfl | assumption) | exact YG.vy rfl (by first | rfl | assumption)) | (apply K.idx;first | exact YG.ou rfl rfl (by assumption) | exact YG.fp rfl rfl (by assumption) rfl | exact YG.fp rfl rfl (by assumption) (by omega) | exact YG.qp rfl rfl (by omega) | exact YG.idxV rfl rfl rfl (by first | rfl | assumption) (by omega) | exact YG.bs 0 rfl rfl rfl (by first | omega | assumption | (simp only [List.length_append,List.length_cons,List.length_nil];omega)) | exact YG.bs 1 rfl rfl rfl (by first | omega | assumption | (simp only [List.length_append,List.length_cons,List.length_nil];omega)) | exact YG.bs 2 rfl rfl rfl (by first | omega | assumption | (simp only [List.length_append,List.length_cons,List.length_nil];omega)) | exact YG.bs 3 rfl rfl rfl (by first | omega | assumption | (simp only [List.length_append,List.length_cons,List.length_nil];omega)) | exact YG.bs 4 rfl rfl rfl (by first | omega | assumption | (simp only [List.length_append,List.length_cons,List.length_nil];omega)) | exact YG.bs 5 rfl rfl rfl (by first | omega | assumption | (simp only [List.length_append,List.length_cons,List.length_nil];omega)) | exact YG.bs 6 rfl rfl rfl (by first | omega | assumption | (simp only [List.length_append,List.length_cons,List.length_nil];omega))) | exact YG.ext rfl rfl | exact YG.go rfl | (apply K.ym;first | exact YG.tz rfl rfl rfl (by omega) | exact YG.tw rfl rfl (by omega) | exact YG.tu rfl rfl (by omega) | exact YG.mY 1 rfl rfl rfl (by first | rfl | assumption)) | exact YG.qs rfl rfl (by assumption) | exact YG.idxSC rfl rfl (by assumption) rfl | (apply K.jc;first | exact YG.mkfn0 | exact YG.jc) | exact YG.build rfl | exact YG.neg rfl (by omega) | exact YG.qm rfl rfl | exact YG.xp rfl (by first | rfl | exact IntWalk.i64_in _ (by omega) | exact IntWalk.u8_in _ (by omega) | assumption) | exact YG.str rfl (by first | rfl | assumption)))) | refine GL.nil ?_ | refine aD ?_ | refine GW.seq ?_ | refine GW.region ?_ | refine GW.skip ?_ | refine bQ ?_ | (apply GL.gt;(· exact rfl);(· first | exact rfl | assumption)) | (apply GL.gf;(· exact rfl);(· first | exact rfl | assumption)) | (apply GL.gu;(· exact rfl)) | (apply Qo;(· exact rfl);(· first | exact rfl | assumption)) | (apply Qn;(· exact rfl);(· first | exact rfl | assumption)));try refine GN y8 ?_) | ((first | (apply GL.alloc;(· simp only [jM,Value.cells,List.map_cons,List.map_nil];rfl)) | (apply GL.box;(· exact rfl)) | (apply GL.st;(· exact rfl);(· exact rfl);(· exact rfl);(· exact rfl);(· exact rfl);(· exact rfl)));refine tJ dq eE ?_)));exact hQ.1):A:=s ⟨h⟩
theorem bT {A B:Prop} (h:B) (s:Hid B->A:=by intro hQ;(try refine GN y8 ?_);exact hQ.1):A:=s ⟨h⟩
theorem Rp {A B:Prop} (h:B) (s:Hid B->A:=by intro hQ;(try refine WG y8 ?_);exact hQ.1):A:=s ⟨h⟩
theorem bI {A B:Prop} (h:B) (s:Hid B->A:=by intro hQ;(refine tJ dq eE ?_);exact hQ.1):A:=s ⟨h⟩
theorem N8 {A B:Prop} (h:B) (s:Hid B->A:=by intro hQ;(refine nM dq eE ?_);exact hQ.1):A:=s ⟨h⟩
theorem aU {A B:Prop} (h:B) (s:Hid B->A:=by intro hQ;((repeat (first | refine GW.exit ?_ | refine Fl ?_ | refine Iv ?_ | refine ginb_xn rfl ?_ | refine bQ ?_ | refine aD ?_)));exact hQ.1):A:=s ⟨h⟩
theorem bG {A B:Prop} (h:B) (s:Hid B->A:=by intro hQ;((repeat (first | refine GW.ret ?_ | refine cr ?_ | refine cn ?_ | refine aD ?_ | refine bQ ?_));refine po rfl (by first | exact .inr rfl | exact .inl rfl) rfl (Nat.le_refl _) rfl rfl ?_);exact hQ.1):A:=s ⟨h⟩
theorem cK {A B:Prop} (h:B) (s:Hid B->A:=by intro hQ;((repeat (first | refine GW.ret ?_ | refine cr ?_ | refine cn ?_ | refine aD ?_ | refine bQ ?_));refine Tr rfl (by first | exact .inr rfl | exact .inl rfl) (Nat.le_refl _) rfl ?_);exact hQ.1):A:=s ⟨h⟩
theorem y9 {A B:Prop} (h:B) (s:Hid B->A:=by intro hQ;((repeat (first | refine GW.ret ?_ | refine cr ?_ | refine cn ?_ | refine aD ?_ | refine bQ ?_));refine Ts rfl (by first | exact .inr rfl | exact .inl rfl) rfl rfl (Nat.le_refl _) rfl rfl ?_);exact hQ.1):A:=s ⟨h⟩
theorem Ju {A B:Prop} (h:B) (s:Hid B->A:=by intro hQ;((repeat (first | refine GW.ret ?_ | refine cr ?_ | refine cn ?_ | refine aD ?_ | refine bQ ?_));refine Tt rfl (by first | exact .inr rfl | exact .inl rfl) rfl rfl rfl (Nat.le_refl _) rfl rfl ?_);exact hQ.1):A:=s ⟨h⟩
theorem qG {A B:Prop} (h:B) (s:Hid B->A:=by intro hQ;((repeat (first | refine GW.ret ?_ | refine cr ?_ | refine cn ?_ | refine aD ?_ | refine bQ ?_));refine Bi ?_;refine Tt rfl (by first | exact .inr rfl | exact .inl rfl) rfl rfl rfl (Nat.le_refl _) rfl rfl ?_);exact hQ.1):A:=s ⟨h⟩
theorem G3 {A B:Prop} (h:B) (s:Hid B->A:=by intro hQ;((repeat (first | refine GW.ret ?_ | refine cr ?_ | refine cn ?_ | refine aD ?_ | refine bQ ?_));refine Bi ?_;refine Ts rfl (by first | exact .inr rfl | exact .inl rfl) rfl rfl (Nat.le_refl _) rfl rfl ?_);exact hQ.1):A:=s ⟨h⟩
theorem qH {A B:Prop} (h:B) (s:Hid B->A:=by intro hQ;((repeat (first | refine GW.ret ?_ | refine cr ?_ | refine cn ?_ | refine aD ?_ | refine bQ ?_));refine Bi ?_;refine Tu rfl (by first | exact .inr rfl | exact .inl rfl) rfl rfl rfl (Nat.le_refl _) rfl rfl ?_);exact hQ.1):A:=s ⟨h⟩
theorem oI {A B:Prop} (h:B) (s:Hid B->A:=by intro hQ;((repeat (first | refine GW.ret ?_ | refine cr ?_ | refine cn ?_ | refine aD ?_ | refine bQ ?_));refine VO rfl (by first | exact .inr rfl | exact .inl rfl) rfl rfl rfl rfl (Nat.le_refl _) rfl rfl ?_);exact hQ.1):A:=s ⟨h⟩
theorem lE {A B:Prop} (h:B) (s:Hid B->A:=by intro hQ;((repeat (first | refine GW.ret ?_ | refine cr ?_ | refine cn ?_ | refine aD ?_ | refine bQ ?_));refine Mr rfl (by first | exact .inr rfl | exact .inl rfl) rfl rfl rfl rfl rfl (Nat.le_refl _) rfl rfl ?_);exact hQ.1):A:=s ⟨h⟩
theorem B9 {A B:Prop} (h:B) (s:Hid B->A:=by intro hQ;((repeat (first | refine GW.ret ?_ | refine cr ?_ | refine cn ?_ | refine aD ?_ | refine bQ ?_));refine Bi ?_;refine Mr rfl (by first | exact .inr rfl | exact .inl rfl) rfl rfl rfl rfl rfl (Nat.le_refl _) rfl rfl ?_);exact hQ.1):A:=s ⟨h⟩
theorem Jv {A B:Prop} (h:B) (s:Hid B->A:=by intro hQ;((repeat (first | refine GW.ret ?_ | refine cr ?_ | refine cn ?_ | refine aD ?_ | refine bQ ?_));refine Tu rfl (by first | exact .inr rfl | exact .inl rfl) rfl rfl rfl (Nat.le_refl _) rfl rfl ?_);exact hQ.1):A:=s ⟨h⟩
theorem bC {A B:Prop} (h:B) (s:Hid B->A:=by intro hQ;(refine GL.Xm rfl rfl rfl rfl ?_;refine tJ dq eE ?_);exact hQ.1):A:=s ⟨h⟩
theorem ma {A B:Prop} (h:B) (s:Hid B->A:=by intro hQ;(refine GL.Ra rfl rfl rfl rfl ?_;refine tJ dq eE ?_);exact hQ.1):A:=s ⟨h⟩
theorem ea {A B:Prop} (h:B) (s:Hid B->A:=by intro hQ;(refine GL.push rfl rfl rfl rfl rfl rfl rfl rfl (by first | rfl | assumption) ⟨⟨by omega,by omega⟩,by decide⟩ ?_;refine tJ dq eE ?_);exact hQ.1):A:=s ⟨h⟩
theorem C3 {A B:Prop} (h:B) (s:Hid B->A:=by intro hQ;(refine OA rfl rfl (GL.Ra rfl rfl rfl rfl (GL.nil (aD (ey.mk iw ?_))));refine nM dq eE ?_);exact hQ.1):A:=s ⟨h⟩
theorem C1 {A B:Prop} (h:B) (s:Hid B->A:=by intro hQ;(refine OA rfl rfl (GL.app rfl rfl rfl (by first | rfl | assumption) rfl rfl (by refine ⟨?_,?_⟩;(· show _+1<=_;omega);(· show (_+1) * _<=_;omega)) (GL.nil (aD (ey.mk iw ?_))));refine nM dq eE ?_);exact hQ.1):A:=s ⟨h⟩
theorem eC {A B:Prop} (h:B) (s:Hid B->A:=by intro hQ;(refine OA rfl rfl (GL.Xm rfl rfl rfl rfl (GL.nil (aD (ey.mk iw ?_))));refine nM dq eE ?_);exact hQ.1):A:=s ⟨h⟩
theorem G2 {A B:Prop} (h:B) (s:Hid B->A:=by intro hQ;(refine OA rfl rfl (GL.st rfl rfl rfl rfl rfl rfl (GL.nil (aD (ey.mk iw ?_))));refine nM dq eE ?_);exact hQ.1):A:=s ⟨h⟩
theorem La {A B:Prop} (h:B) (s:Hid B->A:=by intro hQ;(refine OA rfl rfl (GL.N5 1 (by kernel_rfl) (by kernel_rfl) rfl rfl rfl rfl (by assumption) (by omega) (GL.nil (aD (ey.mk iw ?_))));refine nM dq eE ?_);exact hQ.1):A:=s ⟨h⟩
theorem om {A B:Prop} (h:B) (s:Hid B->A:=by intro hQ;(refine GL.stH rfl rfl rfl (by first | rfl | assumption) rfl rfl rfl rfl ?_;refine tJ dq eE ?_);exact hQ.1):A:=s ⟨h⟩
theorem jq {A B:Prop} (h:B) (s:Hid B->A:=by intro hQ;(refine GL.Yv rfl rfl (by first | rfl | assumption | omega) (by omega) rfl rfl rfl rfl ?_;refine tJ dq eE ?_);exact hQ.1):A:=s ⟨h⟩
theorem cj {A B:Prop} (h:B) (s:Hid B->A:=by intro hQ;(refine ⟨by simp,?_⟩;refine tJ dq eE ?_);exact hQ.1):A:=s ⟨h⟩
theorem dD {A B:Prop} (h:B) (s:Hid B->A:=by intro hQ;(refine GL.nil (aD (ey.mk iw ?_));refine nM dq eE ?_);exact hQ.1):A:=s ⟨h⟩
theorem nE {A:Prop} (s:A:=by simp only [aL,uX];rfl):A:=s
theorem iL {A:Prop} (s:A:=by first | exact kr.refl | exact lS.refl | (repeat (first | exact kr.nil | exact lS.refl | exact lS.nil | exact lS.aaF | exact lS.fn0 | refine kr.cons ?_ ?_ | refine lS.agg ?_ | refine lS.tup ?_))):A:=s
theorem al {A:Prop} (s:A:=by repeat (first | exact sq.nil | refine sq.aaF ?_ | refine sq.eq rfl ?_)):A:=s
theorem gB {A B C:Prop} (aJ:List Nat) (c:C) (h:B) (s:sk aJ C->Hid B->A:=by intro hC hQ;(refine GL.uU hC kq rfl nj rfl ?_;refine tJ dq eE ?_);exact hQ.1):A:=s ⟨c⟩ ⟨h⟩
theorem U {A B C:Prop} (aJ:List Nat) (c:C) (h:B) (s:sk aJ C->Hid B->A:=by intro hC hQ;(refine GL.uU hC kq rfl nj rfl ?_;refine tJ dq eE ?_);refine ab ?_;exact hQ.1):A:=s ⟨c⟩ ⟨h⟩
theorem tF {A B C:Prop} (aJ:List Nat) (c:C) (h:B) (s:sk aJ C->Hid B->A:=by intro hC hQ;(refine OA rfl rfl (GL.uU hC kq rfl nj rfl (GL.nil (aD (ey.mk iw ?_))));refine nM dq eE ?_);exact hQ.1):A:=s ⟨c⟩ ⟨h⟩
theorem az {A B C:Prop} (aJ:List Nat) (c:C) (h:B) (s:sk aJ C->Hid B->A:=by intro hC hQ;(refine OA rfl rfl (GL.uU hC kq rfl nj rfl (GL.nil (aD (ey.mk iw ?_))));refine nM dq eE ?_);refine aj ?_;exact hQ.1):A:=s ⟨c⟩ ⟨h⟩
theorem Xq {A B C:Prop} (aJ:List Nat) (c:C) (h:B) (s:sk aJ C->Hid B->A:=by intro hC hQ;(refine Qr rfl rfl rfl (by first | exact rfl | assumption) (GL.uU hC kq rfl nj rfl (GL.nil (aD (ey.mk iw ?_))));refine nM dq eE ?_);exact hQ.1):A:=s ⟨c⟩ ⟨h⟩
theorem bu {A B C:Prop} (aJ:List Nat) (c:C) (h:B) (s:sk aJ C->Hid B->A:=by intro hC hQ;(refine Qr rfl rfl rfl (by first | exact rfl | assumption) (GL.uU hC kq rfl nj rfl (GL.nil (aD (ey.mk iw ?_))));refine nM dq eE ?_);refine aj ?_;exact hQ.1):A:=s ⟨c⟩ ⟨h⟩
theorem ig {A B C:Prop} (aJ:List Nat) (c:C) (h:B) (s:sk aJ C->Hid B->A:=by intro hC hQ;(refine GL.LG hC rfl rfl rfl nj ?_;rintro _ _ ⟨rfl,rfl⟩;refine ⟨by simp,?_⟩;refine tJ dq eE ?_);exact hQ.1):A:=s ⟨c⟩ ⟨h⟩
theorem ng {A B C:Prop} (aJ:List Nat) (c:C) (h:B) (s:sk aJ C->Hid B->A:=by intro hC hQ;(refine GL.LH hC rfl rfl rfl nj ?_;rintro _ _ ⟨rfl,rfl⟩;refine ⟨by simp,?_⟩;refine tJ dq eE ?_);exact hQ.1):A:=s ⟨c⟩ ⟨h⟩
theorem yv {A B C:Prop} (aJ:List Nat) (c:C) (h:B) (s:sk aJ C->Hid B->A:=by intro hC hQ;(refine OA rfl rfl (GL.LG hC rfl rfl rfl nj ?_);rintro _ _ ⟨rfl,rfl⟩;refine ⟨by simp,(GL.nil (aD (ey.mk iw ?_)))⟩;refine nM dq eE ?_);exact hQ.1):A:=s ⟨c⟩ ⟨h⟩
theorem ni {A B C:Prop} (aJ:List Nat) (c:C) (h:B) (s:sk aJ C->Hid B->A:=by intro hC hQ;(refine OA rfl rfl (GL.LH hC rfl rfl rfl nj ?_);rintro _ _ ⟨rfl,rfl⟩;refine ⟨by simp,(GL.nil (aD (ey.mk iw ?_)))⟩;refine nM dq eE ?_);exact hQ.1):A:=s ⟨c⟩ ⟨h⟩
theorem bJ {A B C:Prop} (aJ:List Nat) (c:C) (h:B) (s:sk aJ C->Hid B->A:=by intro hC hQ;(refine GL.S9 hC kq rfl nj ?_);exact hQ.1):A:=s ⟨c⟩ ⟨h⟩
theorem db {A B C D : Prop} (f : C) (n : D) (h : B) (s : C -> D -> Hid B -> A := by intro hC hD hQ;refine GC.enter hC hD rfl (by simp only [xy,Fk,Nat.reduceSub];rfl) ?_;exact hQ.1) : A := s f n ⟨h⟩
theorem ai {A B C D : Prop} (f : C) (n : D) (h : B) (s : C -> D -> Hid B -> A := by intro hC hD hQ;refine GC.enter hC hD rfl (by simp only [xy,Fk,Nat.reduceSub];rfl) ?_;refine ab ?_;exact hQ.1) : A := s f n ⟨h⟩
theorem ao {A : Prop} (s : A := by refine bG ?_;exact ⟨rfl,rfl⟩) : A := s
theorem av {A : Prop} (s : A := by refine ab ?_;refine bG ?_;exact ⟨rfl,rfl⟩) : A := s
theorem fP {A : Prop} (s : A := by refine cK ?_;exact ⟨rfl,rfl⟩) : A := s
theorem lQ {A : Prop} (s : A := by refine ab ?_;refine cK ?_;exact ⟨rfl,rfl⟩) : A := s
theorem lR {A : Prop} (s : A := by refine y9 ?_;exact ⟨rfl,rfl⟩) : A := s
theorem qF {A : Prop} (s : A := by refine ab ?_;refine y9 ?_;exact ⟨rfl,rfl⟩) : A := s
theorem dd {A : Prop} (s : A := by refine Jv ?_;exact ⟨rfl,rfl⟩) : A := s
theorem oH {A : Prop} (s : A := by refine ab ?_;refine Jv ?_;exact ⟨rfl,rfl⟩) : A := s
theorem ak {A : Prop} (s : A := by kernel_rfl) : A := s
theorem ae {A : Prop} (s : A := by omega) : A := s
end Go.Xg
namespace Go.Xw
open Go.Proofs
instance:aC Tryz.prog 10:=⟨Go.Xg.ak⟩
instance:aC Tryz.prog 11:=⟨Go.Xg.ak⟩
instance:aC Tryz.prog 12:=⟨Go.Xg.ak⟩
instance:aC Tryz.prog 13:=⟨Go.Xg.ak⟩
instance:aC Tryz.prog 14:=⟨Go.Xg.ak⟩
instance:aC Tryz.prog 15:=⟨Go.Xg.ak⟩
instance:aC Tryz.prog 16:=⟨Go.Xg.ak⟩
instance:aC Tryz.prog 17:=⟨Go.Xg.ak⟩
instance:aC Tryz.prog 18:=⟨Go.Xg.ak⟩
instance:aC Tryz.prog 19:=⟨Go.Xg.ak⟩
instance:aC Tryz.prog 20:=⟨Go.Xg.ak⟩
instance:aC Tryz.prog 21:=⟨Go.Xg.ak⟩
instance:aC Tryz.prog 22:=⟨Go.Xg.ak⟩
instance:aC Tryz.prog 28:=⟨Go.Xg.ak⟩
instance:aC Tryz.prog 29:=⟨Go.Xg.ak⟩
instance:aC Tryz.prog 35:=⟨Go.Xg.ak⟩
instance:aC Tryz.prog 36:=⟨Go.Xg.ak⟩
instance:aC Tryz.prog 37:=⟨Go.Xg.ak⟩
instance:aC Tryz.prog 38:=⟨Go.Xg.ak⟩
instance:aC Tryz.prog 39:=⟨Go.Xg.ak⟩
instance:aC Tryz.prog 40:=⟨Go.Xg.ak⟩
instance:aC Tryz.prog 41:=⟨Go.Xg.ak⟩
instance:aC Tryz.prog 42:=⟨Go.Xg.ak⟩
instance:aC Tryz.prog 43:=⟨Go.Xg.ak⟩
instance:aC Tryz.prog 44:=⟨Go.Xg.ak⟩
instance:aC Tryz.prog 45:=⟨Go.Xg.ak⟩
instance:aC Tryz.prog 46:=⟨Go.Xg.ak⟩
instance:aC Tryz.prog 47:=⟨Go.Xg.ak⟩
instance:aC Tryz.prog 48:=⟨Go.Xg.ak⟩
instance:aC Tryz.prog 49:=⟨Go.Xg.ak⟩
instance:aC Tryz.prog 50:=⟨Go.Xg.ak⟩
instance:aC Tryz.prog 51:=⟨Go.Xg.ak⟩
instance:aC Tryz.prog 52:=⟨Go.Xg.ak⟩
instance:aC Tryz.prog 53:=⟨Go.Xg.ak⟩
instance:aC Tryz.prog 54:=⟨Go.Xg.ak⟩
instance:aC Tryz.prog 55:=⟨Go.Xg.ak⟩
instance:aC Tryz.prog 56:=⟨Go.Xg.ak⟩
instance:aC Tryz.prog 57:=⟨Go.Xg.ak⟩
instance:aC Tryz.prog 58:=⟨Go.Xg.ak⟩
instance:aC Tryz.prog 59:=⟨Go.Xg.ak⟩
instance:aC Tryz.prog 60:=⟨Go.Xg.ak⟩
instance:aC Tryz.prog 63:=⟨Go.Xg.ak⟩
instance:aC Tryz.prog 69:=⟨Go.Xg.ak⟩
instance:aC Tryz.prog 71:=⟨Go.Xg.ak⟩
instance:aC Tryz.prog 72:=⟨Go.Xg.ak⟩
instance:aC Tryz.prog 74:=⟨Go.Xg.ak⟩
instance:aC Tryz.prog 81:=⟨Go.Xg.ak⟩
instance:aC Tryz.prog 82:=⟨Go.Xg.ak⟩
instance:aC Tryz.prog 83:=⟨Go.Xg.ak⟩
instance:aC Tryz.prog 86:=⟨Go.Xg.ak⟩
instance:aC Tryz.prog 87:=⟨Go.Xg.ak⟩
instance:aC Tryz.prog 88:=⟨Go.Xg.ak⟩
instance:aC Tryz.prog 94:=⟨Go.Xg.ak⟩
instance:aC Tryz.prog 95:=⟨Go.Xg.ak⟩
instance:aC Tryz.prog 96:=⟨Go.Xg.ak⟩
instance:aC Tryz.prog 97:=⟨Go.Xg.ak⟩
instance:aC Tryz.prog 98:=⟨Go.Xg.ak⟩
instance:aC Tryz.prog 99:=⟨Go.Xg.ak⟩
instance:aC Tryz.prog 100:=⟨Go.Xg.ak⟩
instance:aC Tryz.prog 101:=⟨Go.Xg.ak⟩
instance:aC Tryz.prog 102:=⟨Go.Xg.ak⟩
instance:aC Tryz.prog 103:=⟨Go.Xg.ak⟩
instance:aC Tryz.prog 104:=⟨Go.Xg.ak⟩
instance:aC Tryz.prog 105:=⟨Go.Xg.ak⟩
instance:aC Tryz.prog 106:=⟨Go.Xg.ak⟩
instance:aC Tryz.prog 107:=⟨Go.Xg.ak⟩
instance:aC Tryz.prog 108:=⟨Go.Xg.ak⟩
instance:aC Tryz.prog 109:=⟨Go.Xg.ak⟩
instance:aC Tryz.prog 110:=⟨Go.Xg.ak⟩
instance:aC Tryz.prog 111:=⟨Go.Xg.ak⟩
instance:aC Tryz.prog 114:=⟨Go.Xg.ak⟩
instance:aC Tryz.prog 115:=⟨Go.Xg.ak⟩
instance:aC Tryz.prog 116:=⟨Go.Xg.ak⟩
instance:aC Tryz.prog 117:=⟨Go.Xg.ak⟩
instance:aC Tryz.prog 121:=⟨Go.Xg.ak⟩
instance:aC Tryz.prog 123:=⟨Go.Xg.ak⟩
instance:aC Tryz.prog 124:=⟨Go.Xg.ak⟩
instance:aC Tryz.prog 125:=⟨Go.Xg.ak⟩
instance:aC Tryz.prog 126:=⟨Go.Xg.ak⟩
instance:aC Tryz.prog 127:=⟨Go.Xg.ak⟩
instance:aC Tryz.prog 128:=⟨Go.Xg.ak⟩
instance:aC Tryz.prog 129:=⟨Go.Xg.ak⟩
instance:aC Tryz.prog 130:=⟨Go.Xg.ak⟩
instance:aC Tryz.prog 131:=⟨Go.Xg.ak⟩
instance:aC Tryz.prog 132:=⟨Go.Xg.ak⟩
instance:aC Tryz.prog 133:=⟨Go.Xg.ak⟩
instance:aC Tryz.prog 134:=⟨Go.Xg.ak⟩
instance:aC Tryz.prog 135:=⟨Go.Xg.ak⟩
instance:aC Tryz.prog 136:=⟨Go.Xg.ak⟩
instance:aC Tryz.prog 137:=⟨Go.Xg.ak⟩
instance:aC Tryz.prog 138:=⟨Go.Xg.ak⟩
instance:aC Tryz.prog 139:=⟨Go.Xg.ak⟩
instance:aC Tryz.prog 140:=⟨Go.Xg.ak⟩
instance:aC Tryz.prog 143:=⟨Go.Xg.ak⟩
instance:aC Tryz.prog 144:=⟨Go.Xg.ak⟩
instance:aC Tryz.prog 146:=⟨Go.Xg.ak⟩
instance:aC Tryz.prog 147:=⟨Go.Xg.ak⟩
instance:aC Tryz.prog 148:=⟨Go.Xg.ak⟩
instance:aC Tryz.prog 149:=⟨Go.Xg.ak⟩
instance:aC Tryz.prog 151:=⟨Go.Xg.ak⟩
instance:aC Tryz.prog 152:=⟨Go.Xg.ak⟩
instance:aC Tryz.prog 153:=⟨Go.Xg.ak⟩
instance:aC Tryz.prog 154:=⟨Go.Xg.ak⟩
instance:aC Tryz.prog 155:=⟨Go.Xg.ak⟩
instance:aC Tryz.prog 156:=⟨Go.Xg.ak⟩
instance:aC Tryz.prog 157:=⟨Go.Xg.ak⟩
instance:aC Tryz.prog 158:=⟨Go.Xg.ak⟩
instance:aC Tryz.prog 159:=⟨Go.Xg.ak⟩
instance:aC Tryz.prog 160:=⟨Go.Xg.ak⟩
instance:aC Tryz.prog 161:=⟨Go.Xg.ak⟩
instance:aC Tryz.prog 162:=⟨Go.Xg.ak⟩
instance:aC Tryz.prog 163:=⟨Go.Xg.ak⟩
instance:aC Tryz.prog 164:=⟨Go.Xg.ak⟩
instance:aC Tryz.prog 165:=⟨Go.Xg.ak⟩
instance:aC Tryz.prog 166:=⟨Go.Xg.ak⟩
instance:aC Tryz.prog 167:=⟨Go.Xg.ak⟩
instance:aC Tryz.prog 168:=⟨Go.Xg.ak⟩
instance:aC Tryz.prog 169:=⟨Go.Xg.ak⟩
instance:aC Tryz.prog 170:=⟨Go.Xg.ak⟩
instance:aC Tryz.prog 171:=⟨Go.Xg.ak⟩
instance:aC Tryz.prog 172:=⟨Go.Xg.ak⟩
instance:aC Tryz.prog 173:=⟨Go.Xg.ak⟩
instance:aC Tryz.prog 185:=⟨Go.Xg.ak⟩
instance:aC Tryz.prog 186:=⟨Go.Xg.ak⟩
instance:aC Tryz.prog 187:=⟨Go.Xg.ak⟩
instance:aC Tryz.prog 188:=⟨Go.Xg.ak⟩
instance:aC Tryz.prog 189:=⟨Go.Xg.ak⟩
instance:aC Tryz.prog 190:=⟨Go.Xg.ak⟩
instance:aC Tryz.prog 191:=⟨Go.Xg.ak⟩
instance:aC Tryz.prog 192:=⟨Go.Xg.ak⟩
instance:aC Tryz.prog 193:=⟨Go.Xg.ak⟩
instance:aC Tryz.prog 194:=⟨Go.Xg.ak⟩
instance:aC Tryz.prog 195:=⟨Go.Xg.ak⟩
instance:aC Tryz.prog 196:=⟨Go.Xg.ak⟩
instance:aC Tryz.prog 197:=⟨Go.Xg.ak⟩
instance:aC Tryz.prog 198:=⟨Go.Xg.ak⟩
instance:aC Tryz.prog 199:=⟨Go.Xg.ak⟩
instance:aC Tryz.prog 200:=⟨Go.Xg.ak⟩
instance:aC Tryz.prog 201:=⟨Go.Xg.ak⟩
instance:aC Tryz.prog 202:=⟨Go.Xg.ak⟩
instance:aC Tryz.prog 203:=⟨Go.Xg.ak⟩
instance:aC Tryz.prog 204:=⟨Go.Xg.ak⟩
instance:aC Tryz.prog 205:=⟨Go.Xg.ak⟩
instance:aC Tryz.prog 206:=⟨Go.Xg.ak⟩
instance:aC Tryz.prog 207:=⟨Go.Xg.ak⟩
instance:aC Tryz.prog 208:=⟨Go.Xg.ak⟩
instance:aC Tryz.prog 209:=⟨Go.Xg.ak⟩
instance:aC Tryz.prog 216:=⟨Go.Xg.ak⟩
instance:aC Tryz.prog 217:=⟨Go.Xg.ak⟩
instance:aC Tryz.prog 218:=⟨Go.Xg.ak⟩
instance:aC Tryz.prog 219:=⟨Go.Xg.ak⟩
instance:aC Tryz.prog 220:=⟨Go.Xg.ak⟩
instance:aC Tryz.prog 221:=⟨Go.Xg.ak⟩
instance:aC Tryz.prog 222:=⟨Go.Xg.ak⟩
instance:aC Tryz.prog 223:=⟨Go.Xg.ak⟩
instance:aC Tryz.prog 224:=⟨Go.Xg.ak⟩
instance:aC Tryz.prog 225:=⟨Go.Xg.ak⟩
instance:aC Tryz.prog 226:=⟨Go.Xg.ak⟩
instance:aC Tryz.prog 228:=⟨Go.Xg.ak⟩
instance:aC Tryz.prog 229:=⟨Go.Xg.ak⟩
instance:aC Tryz.prog 230:=⟨Go.Xg.ak⟩
instance:aC Tryz.prog 231:=⟨Go.Xg.ak⟩
instance:aC Tryz.prog 232:=⟨Go.Xg.ak⟩
instance:aC Tryz.prog 233:=⟨Go.Xg.ak⟩
instance:aC Tryz.prog 234:=⟨Go.Xg.ak⟩
instance:aC Tryz.prog 236:=⟨Go.Xg.ak⟩
instance:aC Tryz.prog 238:=⟨Go.Xg.ak⟩
instance:aC Tryz.prog 239:=⟨Go.Xg.ak⟩
instance:aC Tryz.prog 240:=⟨Go.Xg.ak⟩
instance:aC Tryz.prog 241:=⟨Go.Xg.ak⟩
instance:aC Tryz.prog 242:=⟨Go.Xg.ak⟩
instance:aC Tryz.prog 243:=⟨Go.Xg.ak⟩
instance:aC Tryz.prog 244:=⟨Go.Xg.ak⟩
instance:aC Tryz.prog 245:=⟨Go.Xg.ak⟩
instance:aC Tryz.prog 249:=⟨Go.Xg.ak⟩
instance:aC Tryz.prog 250:=⟨Go.Xg.ak⟩
instance:aC Tryz.prog 251:=⟨Go.Xg.ak⟩
instance:aC Tryz.prog 252:=⟨Go.Xg.ak⟩
instance:aC Tryz.prog 253:=⟨Go.Xg.ak⟩
instance:aC Tryz.prog 254:=⟨Go.Xg.ak⟩
instance:aC Tryz.prog 255:=⟨Go.Xg.ak⟩
instance:aC Tryz.prog 256:=⟨Go.Xg.ak⟩
instance:aC Tryz.prog 257:=⟨Go.Xg.ak⟩
instance:aC Tryz.prog 258:=⟨Go.Xg.ak⟩
instance:aC Tryz.prog 259:=⟨Go.Xg.ak⟩
instance:aC Tryz.prog 260:=⟨Go.Xg.ak⟩
instance:aC Tryz.prog 261:=⟨Go.Xg.ak⟩
instance:aC Tryz.prog 263:=⟨Go.Xg.ak⟩
instance:aC Tryz.prog 265:=⟨Go.Xg.ak⟩
instance:aC Tryz.prog 270:=⟨Go.Xg.ak⟩
instance:aC Tryz.prog 271:=⟨Go.Xg.ak⟩
instance:aC Tryz.prog 272:=⟨Go.Xg.ak⟩
instance:aC Tryz.prog 273:=⟨Go.Xg.ak⟩
instance:aC Tryz.prog 275:=⟨Go.Xg.ak⟩
instance:aC Tryz.prog 276:=⟨Go.Xg.ak⟩
instance:aC Tryz.prog 277:=⟨Go.Xg.ak⟩
instance:aC Tryz.prog 278:=⟨Go.Xg.ak⟩
instance:aC Tryz.prog 279:=⟨Go.Xg.ak⟩
instance:aC Tryz.prog 280:=⟨Go.Xg.ak⟩
instance:aC Tryz.prog 288:=⟨Go.Xg.ak⟩
instance:aC Tryz.prog 289:=⟨Go.Xg.ak⟩
instance:aC Tryz.prog 292:=⟨Go.Xg.ak⟩
instance:aC Tryz.prog 293:=⟨Go.Xg.ak⟩
instance:aC Tryz.prog 294:=⟨Go.Xg.ak⟩
instance:aC Tryz.prog 299:=⟨Go.Xg.ak⟩
instance:aC Tryz.prog 300:=⟨Go.Xg.ak⟩
instance:aC Tryz.prog 301:=⟨Go.Xg.ak⟩
instance:aC Tryz.prog 304:=⟨Go.Xg.ak⟩
instance:aC Tryz.prog 305:=⟨Go.Xg.ak⟩
instance:aC Tryz.prog 306:=⟨Go.Xg.ak⟩
instance:Ty Tryz.prog 3 false 1:=⟨Go.Xg.ak,Go.Xg.ak⟩
instance:pV Tryz.prog 3 (.int .i64 (0)):=⟨Go.Xg.ak⟩
instance:Go.Xg.JG Tryz.prog 3 .i64:=⟨Go.Xg.ak⟩
instance:Go.Xg.JG Tryz.prog 5 .u8:=⟨Go.Xg.ak⟩
instance:Ty Tryz.prog 9 false 1:=⟨Go.Xg.ak,Go.Xg.ak⟩
instance:pd Tryz.prog 9:=⟨Go.Xg.ak⟩
instance:Ty Tryz.prog 22 false 1:=⟨Go.Xg.ak,Go.Xg.ak⟩
instance:pV Tryz.prog 22 (.slice none 0 0):=⟨Go.Xg.ak⟩
instance:mq Tryz.prog 22 9 1:=⟨Go.Xg.ak,Go.Xg.ak⟩
instance:nT Tryz.prog 22 9 1 16:=⟨Go.Xg.ak⟩
instance:pb Tryz.prog 22 9 1 [(.string ⟨#[]⟩)]:=⟨Go.Xg.ak,Go.Xg.ak,Go.Xg.ak,rfl,by decide,fun _=>rfl⟩
instance:Ty Tryz.prog 23 false 1:=⟨Go.Xg.ak,Go.Xg.ak⟩
instance:mq Tryz.prog 23 103 2:=⟨Go.Xg.ak,Go.Xg.ak⟩
instance:Ty Tryz.prog 24 false 1:=⟨Go.Xg.ak,Go.Xg.ak⟩
instance:mq Tryz.prog 24 105 3:=⟨Go.Xg.ak,Go.Xg.ak⟩
instance:Ty Tryz.prog 25 false 1:=⟨Go.Xg.ak,Go.Xg.ak⟩
instance:mq Tryz.prog 25 107 5:=⟨Go.Xg.ak,Go.Xg.ak⟩
instance:Ty Tryz.prog 27 true 4:=⟨Go.Xg.ak,Go.Xg.ak⟩
instance:de Tryz.prog 27 0 0 1 false:=⟨Go.Xg.ak⟩
instance:de Tryz.prog 27 1 1 1 false:=⟨Go.Xg.ak⟩
instance:de Tryz.prog 27 2 2 1 false:=⟨Go.Xg.ak⟩
instance:de Tryz.prog 27 3 3 1 false:=⟨Go.Xg.ak⟩
instance:Ty Tryz.prog 30 false 1:=⟨Go.Xg.ak,Go.Xg.ak⟩
instance:mq Tryz.prog 30 88 2:=⟨Go.Xg.ak,Go.Xg.ak⟩
instance:nT Tryz.prog 30 88 2 24:=⟨Go.Xg.ak⟩
instance:pb Tryz.prog 30 88 2 [(.string ⟨#[]⟩),(.int .i64 (0))]:=⟨Go.Xg.ak,Go.Xg.ak,Go.Xg.ak,rfl,by decide,fun h=>by cases h⟩
instance:Ty Tryz.prog 31 false 1:=⟨Go.Xg.ak,Go.Xg.ak⟩
instance:mq Tryz.prog 31 60 3:=⟨Go.Xg.ak,Go.Xg.ak⟩
instance:nT Tryz.prog 31 60 3 48:=⟨Go.Xg.ak⟩
instance:pb Tryz.prog 31 60 3 [(.string ⟨#[]⟩),(.slice none 0 0),(.int .i64 (0))]:=⟨Go.Xg.ak,Go.Xg.ak,Go.Xg.ak,rfl,by decide,fun h=>by cases h⟩
instance:Ty Tryz.prog 32 false 1:=⟨Go.Xg.ak,Go.Xg.ak⟩
instance:mq Tryz.prog 32 91 5:=⟨Go.Xg.ak,Go.Xg.ak⟩
instance:nT Tryz.prog 32 91 5 64:=⟨Go.Xg.ak⟩
instance:pb Tryz.prog 32 91 5 [(.int .i64 (0)),(.int .i64 (0)),(.int .i64 (0)),(.string ⟨#[]⟩),(.slice none 0 0)]:=⟨Go.Xg.ak,Go.Xg.ak,Go.Xg.ak,rfl,by decide,fun h=>by cases h⟩
instance:Ty Tryz.prog 34 true 4:=⟨Go.Xg.ak,Go.Xg.ak⟩
instance:pV Tryz.prog 34 (.agg #[(.slice none 0 0),(.slice none 0 0),(.slice none 0 0),(.slice none 0 0)]):=⟨Go.Xg.ak⟩
instance:de Tryz.prog 34 0 0 1 false:=⟨Go.Xg.ak⟩
instance:de Tryz.prog 34 1 1 1 false:=⟨Go.Xg.ak⟩
instance:de Tryz.prog 34 2 2 1 false:=⟨Go.Xg.ak⟩
instance:de Tryz.prog 34 3 3 1 false:=⟨Go.Xg.ak⟩
instance:tK Tryz.prog 34 [(0,1),(1,1),(2,1),(3,1)] [(.slice none 0 0),(.slice none 0 0),(.slice none 0 0),(.slice none 0 0)]:=⟨Go.Xg.ak,Go.Xg.ak⟩
instance:Ty Tryz.prog 40 false 1:=⟨Go.Xg.ak,Go.Xg.ak⟩
instance:pV Tryz.prog 40 (.slice none 0 0):=⟨Go.Xg.ak⟩
instance:mq Tryz.prog 40 3 1:=⟨Go.Xg.ak,Go.Xg.ak⟩
instance:nT Tryz.prog 40 3 1 8:=⟨Go.Xg.ak⟩
instance:pb Tryz.prog 40 3 1 [(.int .i64 (0))]:=⟨Go.Xg.ak,Go.Xg.ak,Go.Xg.ak,rfl,by decide,fun _=>rfl⟩
instance:Ty Tryz.prog 60 true 3:=⟨Go.Xg.ak,Go.Xg.ak⟩
instance:pV Tryz.prog 60 (.agg #[(.string ⟨#[]⟩),(.slice none 0 0),(.int .i64 (0))]):=⟨Go.Xg.ak⟩
instance:de Tryz.prog 60 0 0 1 false:=⟨Go.Xg.ak⟩
instance:de Tryz.prog 60 1 1 1 false:=⟨Go.Xg.ak⟩
instance:de Tryz.prog 60 2 2 1 false:=⟨Go.Xg.ak⟩
instance:tK Tryz.prog 60 [(0,1),(1,1),(2,1)] [(.string ⟨#[]⟩),(.slice none 0 0),(.int .i64 (0))]:=⟨Go.Xg.ak,Go.Xg.ak⟩
instance:Ty Tryz.prog 88 true 2:=⟨Go.Xg.ak,Go.Xg.ak⟩
instance:pV Tryz.prog 88 (.agg #[(.string ⟨#[]⟩),(.int .i64 (0))]):=⟨Go.Xg.ak⟩
instance:de Tryz.prog 88 0 0 1 false:=⟨Go.Xg.ak⟩
instance:de Tryz.prog 88 1 1 1 false:=⟨Go.Xg.ak⟩
instance:tK Tryz.prog 88 [(0,1),(1,1)] [(.string ⟨#[]⟩),(.int .i64 (0))]:=⟨Go.Xg.ak,Go.Xg.ak⟩
instance:Ty Tryz.prog 91 true 5:=⟨Go.Xg.ak,Go.Xg.ak⟩
instance:pV Tryz.prog 91 (.agg #[(.int .i64 (0)),(.int .i64 (0)),(.int .i64 (0)),(.string ⟨#[]⟩),(.slice none 0 0)]):=⟨Go.Xg.ak⟩
instance:de Tryz.prog 91 0 0 1 false:=⟨Go.Xg.ak⟩
instance:de Tryz.prog 91 1 1 1 false:=⟨Go.Xg.ak⟩
instance:de Tryz.prog 91 2 2 1 false:=⟨Go.Xg.ak⟩
instance:de Tryz.prog 91 3 3 1 false:=⟨Go.Xg.ak⟩
instance:de Tryz.prog 91 4 4 1 false:=⟨Go.Xg.ak⟩
instance:tK Tryz.prog 91 [(0,1),(1,1),(2,1),(3,1),(4,1)] [(.int .i64 (0)),(.int .i64 (0)),(.int .i64 (0)),(.string ⟨#[]⟩),(.slice none 0 0)]:=⟨Go.Xg.ak,Go.Xg.ak⟩
instance:Ty Tryz.prog 92 false 1:=⟨Go.Xg.ak,Go.Xg.ak⟩
instance:mq Tryz.prog 92 94 6:=⟨Go.Xg.ak,Go.Xg.ak⟩
instance:nT Tryz.prog 92 94 6 88:=⟨Go.Xg.ak⟩
instance:pb Tryz.prog 92 94 6 [(.int .i64 (0)),(.int .i64 (0)),(.int .i64 (0)),(.string ⟨#[]⟩),(.slice none 0 0),(.slice none 0 0)]:=⟨Go.Xg.ak,Go.Xg.ak,Go.Xg.ak,rfl,by decide,fun h=>by cases h⟩
instance:Ty Tryz.prog 94 true 6:=⟨Go.Xg.ak,Go.Xg.ak⟩
instance:pV Tryz.prog 94 (.agg #[(.int .i64 (0)),(.int .i64 (0)),(.int .i64 (0)),(.string ⟨#[]⟩),(.slice none 0 0),(.slice none 0 0)]):=⟨Go.Xg.ak⟩
instance:de Tryz.prog 94 0 0 5 true:=⟨Go.Xg.ak⟩
instance:de Tryz.prog 94 1 5 1 false:=⟨Go.Xg.ak⟩
instance:tK Tryz.prog 94 [(0,5),(5,1)] [(.int .i64 (0)),(.int .i64 (0)),(.int .i64 (0)),(.string ⟨#[]⟩),(.slice none 0 0),(.slice none 0 0)]:=⟨Go.Xg.ak,Go.Xg.ak⟩
instance:Ty Tryz.prog 101 false 1:=⟨Go.Xg.ak,Go.Xg.ak⟩
instance:Ty Tryz.prog 103 true 2:=⟨Go.Xg.ak,Go.Xg.ak⟩
instance:de Tryz.prog 103 0 0 1 false:=⟨Go.Xg.ak⟩
instance:de Tryz.prog 103 1 1 1 false:=⟨Go.Xg.ak⟩
instance:Ty Tryz.prog 105 true 3:=⟨Go.Xg.ak,Go.Xg.ak⟩
instance:de Tryz.prog 105 0 0 1 false:=⟨Go.Xg.ak⟩
instance:de Tryz.prog 105 1 1 1 false:=⟨Go.Xg.ak⟩
instance:de Tryz.prog 105 2 2 1 false:=⟨Go.Xg.ak⟩
instance:Ty Tryz.prog 107 true 5:=⟨Go.Xg.ak,Go.Xg.ak⟩
instance:de Tryz.prog 107 0 0 1 false:=⟨Go.Xg.ak⟩
instance:de Tryz.prog 107 1 1 1 false:=⟨Go.Xg.ak⟩
instance:de Tryz.prog 107 2 2 1 false:=⟨Go.Xg.ak⟩
instance:de Tryz.prog 107 3 3 1 false:=⟨Go.Xg.ak⟩
instance:de Tryz.prog 107 4 4 1 false:=⟨Go.Xg.ak⟩
instance:Ty Tryz.prog 130 false 1:=⟨Go.Xg.ak,Go.Xg.ak⟩
instance:pV Tryz.prog 130 .nilFunc:=⟨Go.Xg.ak⟩
instance:de Tryz.prog 133 0 0 4 true:=⟨Go.Xg.ak⟩
instance:de Tryz.prog 133 1 4 1 false:=⟨Go.Xg.ak⟩
instance:de Tryz.prog 133 2 5 1 false:=⟨Go.Xg.ak⟩
instance:de Tryz.prog 133 3 6 1 false:=⟨Go.Xg.ak⟩
instance:tK Tryz.prog 133 [(0,4),(4,1),(5,1),(6,1)] [(.slice none 0 0),(.slice none 0 0),(.slice none 0 0),(.slice none 0 0),(.slice none 0 0),(.int .i64 (0)),(.int .i64 (0))]:=⟨Go.Xg.ak,Go.Xg.ak⟩
instance:Ty Tryz.prog 143 false 1:=⟨Go.Xg.ak,Go.Xg.ak⟩
instance:Go.Xg.Ld Tryz.prog 143:=Go.Xg.Ld.mk' (e:=5) (Go.Xg.ak) (Go.Xg.ak)
instance:mq Tryz.prog 143 5 1:=⟨Go.Xg.ak,Go.Xg.ak⟩
instance:pb Tryz.prog 143 5 1 [(.int .u8 (0))]:=⟨Go.Xg.ak,Go.Xg.ak,Go.Xg.ak,rfl,by decide,fun _=>rfl⟩
instance:Ty Tryz.prog 148 false 1:=⟨Go.Xg.ak,Go.Xg.ak⟩
instance:mq Tryz.prog 148 152 1:=⟨Go.Xg.ak,Go.Xg.ak⟩
instance:nT Tryz.prog 148 152 1 8:=⟨Go.Xg.ak⟩
instance:pb Tryz.prog 148 152 1 [(.pointer none)]:=⟨Go.Xg.ak,Go.Xg.ak,Go.Xg.ak,rfl,by decide,fun _=>rfl⟩
instance:Ty Tryz.prog 152 false 1:=⟨Go.Xg.ak,Go.Xg.ak⟩
instance:Ty Tryz.prog 155 false 1:=⟨Go.Xg.ak,Go.Xg.ak⟩
instance:Ty Tryz.prog 156 false 1:=⟨Go.Xg.ak,Go.Xg.ak⟩
instance:Ty Tryz.prog 157 false 1:=⟨Go.Xg.ak,Go.Xg.ak⟩
instance:mq Tryz.prog 157 203 4:=⟨Go.Xg.ak,Go.Xg.ak⟩
instance:nT Tryz.prog 157 203 4 40:=⟨Go.Xg.ak⟩
instance:pb Tryz.prog 157 203 4 [(.int .i64 (0)),(.int .i64 (0)),(.string ⟨#[]⟩),(.int .i64 (0))]:=⟨Go.Xg.ak,Go.Xg.ak,Go.Xg.ak,rfl,by decide,fun h=>by cases h⟩
instance:de Tryz.prog 184 0 0 1 false:=⟨Go.Xg.ak⟩
instance:de Tryz.prog 184 1 1 1 false:=⟨Go.Xg.ak⟩
instance:de Tryz.prog 184 2 2 1 false:=⟨Go.Xg.ak⟩
instance:de Tryz.prog 184 3 3 1 false:=⟨Go.Xg.ak⟩
instance:de Tryz.prog 184 4 4 1 false:=⟨Go.Xg.ak⟩
instance:tK Tryz.prog 184 [(0,1),(1,1),(2,1),(3,1),(4,1)] [(.slice none 0 0),(.int .i64 (0)),(.int .i64 (0)),(.int .i64 (0)),(.int .i64 (0))]:=⟨Go.Xg.ak,Go.Xg.ak⟩
instance:de Tryz.prog 190 0 0 5 true:=⟨Go.Xg.ak⟩
instance:de Tryz.prog 190 1 5 1 false:=⟨Go.Xg.ak⟩
instance:tK Tryz.prog 190 [(0,5),(5,1)] [(.int .i64 (0)),(.int .i64 (0)),(.int .i64 (0)),(.string ⟨#[]⟩),(.slice none 0 0),(.slice none 0 0)]:=⟨Go.Xg.ak,Go.Xg.ak⟩
instance:Ty Tryz.prog 192 true 2:=⟨Go.Xg.ak,Go.Xg.ak⟩
instance:pV Tryz.prog 192 (.agg #[.nilFunc,.nilFunc]):=⟨Go.Xg.ak⟩
instance:de Tryz.prog 192 0 0 1 false:=⟨Go.Xg.ak⟩
instance:de Tryz.prog 192 1 1 1 false:=⟨Go.Xg.ak⟩
instance:tK Tryz.prog 192 [(0,1),(1,1)] [.nilFunc,.nilFunc]:=⟨Go.Xg.ak,Go.Xg.ak⟩
instance:Ty Tryz.prog 203 true 4:=⟨Go.Xg.ak,Go.Xg.ak⟩
instance:pV Tryz.prog 203 (.agg #[(.int .i64 (0)),(.int .i64 (0)),(.string ⟨#[]⟩),(.int .i64 (0))]):=⟨Go.Xg.ak⟩
instance:de Tryz.prog 203 0 0 1 false:=⟨Go.Xg.ak⟩
instance:de Tryz.prog 203 1 1 1 false:=⟨Go.Xg.ak⟩
instance:de Tryz.prog 203 2 2 1 false:=⟨Go.Xg.ak⟩
instance:de Tryz.prog 203 3 3 1 false:=⟨Go.Xg.ak⟩
instance:tK Tryz.prog 203 [(0,1),(1,1),(2,1),(3,1)] [(.int .i64 (0)),(.int .i64 (0)),(.string ⟨#[]⟩),(.int .i64 (0))]:=⟨Go.Xg.ak,Go.Xg.ak⟩
instance:de Tryz.prog 208 0 0 1 false:=⟨Go.Xg.ak⟩
instance:de Tryz.prog 208 1 1 1 false:=⟨Go.Xg.ak⟩
instance:de Tryz.prog 208 2 2 1 false:=⟨Go.Xg.ak⟩
instance:de Tryz.prog 208 3 3 1 false:=⟨Go.Xg.ak⟩
instance:de Tryz.prog 208 4 4 1 false:=⟨Go.Xg.ak⟩
instance:de Tryz.prog 208 5 5 1 false:=⟨Go.Xg.ak⟩
instance:de Tryz.prog 208 6 6 4 true:=⟨Go.Xg.ak⟩
instance:tK Tryz.prog 208 [(0,1),(1,1),(2,1),(3,1),(4,1),(5,1),(6,4)] [(.slice none 0 0),(.int .i64 (0)),(.int .i64 (0)),(.int .i64 (0)),(.int .i64 (0)),(.slice none 0 0),(.slice none 0 0),(.slice none 0 0),(.slice none 0 0),(.slice none 0 0)]:=⟨Go.Xg.ak,Go.Xg.ak⟩
instance:Ty Tryz.prog 225 false 1:=⟨Go.Xg.ak,Go.Xg.ak⟩
instance:pV Tryz.prog 227 (.agg #[(.pointer none),(.slice none 0 0)]):=⟨Go.Xg.ak⟩
instance:de Tryz.prog 227 0 0 1 false:=⟨Go.Xg.ak⟩
instance:de Tryz.prog 227 1 1 1 false:=⟨Go.Xg.ak⟩
instance:mq Tryz.prog 234 22 1:=⟨Go.Xg.ak,Go.Xg.ak⟩
instance:pb Tryz.prog 234 22 1 [(.slice none 0 0)]:=⟨Go.Xg.ak,Go.Xg.ak,Go.Xg.ak,rfl,by decide,fun _=>rfl⟩
end Go.Xw
set_option maxHeartbeats 1000000
namespace Go.Xg
open Go.RowKit Go.Xw Go.Proofs
open Go.Xp (Tok Nd T bb one levels)
open Go.Sp
attribute [local irreducible] GW GL GO YG GC GA aS aW
def cU (t:Tok):List GV:=[.v (ii t.kind),.v (ii t.n),.v (sv t.s),.v (ii t.at_)]
theorem Oz (t:Tok):GF Tryz.prog 258 [.agg (cU t)] [] (.v (sv (bb t))) []:=by
 refine ai Tryz.func258 Tryz.ntmps258 ?_;refine GW.cond rfl (fun h=>?_) (fun h=>?_)
 ·refine ab ?_;refine bG ?_
  have h:t.kind≠3:=by simpa using h
  rw [bb,if_neg h];exact ⟨rfl,rfl⟩
 ·refine ab ?_;refine bG ?_
  have h:t.kind=3:=by simpa using h
  rw [bb,if_pos h];exact ⟨rfl,rfl⟩
abbrev ic (l:List Tok):GV:=.sl 4 (l.map cU)
abbrev bS (p:RS):Ob:=.box 184 [ic p.l,.v (ii p.i),.v (ii p.e),.v (ii p.code),.v (ii p.at_)]
theorem jT {l:List Tok} {i:Nat} {t:Tok} (h:l[i]?=some t):(l.map cU)[i]?=some (cU t):=by rw [getElem?_map,h];rfl
theorem kl (p:RS) (hp:p.ok):GF Tryz.prog 223 [.loc 0 0] [bS p] (.v (ii p.place)) [bS p]:=by
 obtain ⟨ji,dA⟩:=hp
 cases ht:p.l[p.i]? with
 | some t =>
  have hr:=jT ht;have aq:p.i < p.l.length:=(List.getElem?_eq_some_iff.1 ht).1
  have hd:decide ((p.i:Int) < ((p.l.map cU).length:Int))=true:=by simpa using aq
  refine ai Tryz.func223 Tryz.ntmps223 ?_;refine GW.draw (.q 0 (.q 1 (.q 2 (.q 3 (.q 4 (.q 5 (.q 6 (.q 7 (.q 8 (.q 9 .nil)))))))))) (by kernel_rfl) (by kernel_rfl) ?_;refine aj ?_;refine ab ?_;refine GW.draw (.q 0 (.q 1 (.q 2 (.q 3 (.q 4 (.q 5 (.q 6 (.q 7 (.q 8 (.q 9 (.q 10 (.q 11 .nil)))))))))))) (by kernel_rfl) (by kernel_rfl) ?_;refine aj ?_;refine ab ?_;refine bG ?_;rw [RS.place,ht];exact ⟨rfl,rfl⟩
 | none =>
  have aq:p.l.length<=p.i:=List.getElem?_eq_none_iff.1 ht
  have hd:decide ((p.i:Int) < ((p.l.map cU).length:Int))=false:=by simpa using aq
  refine ai Tryz.func223 Tryz.ntmps223 ?_;refine GW.draw (.q 0 (.q 1 (.q 2 (.q 3 (.q 4 (.q 5 (.q 6 (.q 7 (.q 8 (.q 9 .nil)))))))))) (by kernel_rfl) (by kernel_rfl) ?_;refine aj ?_;refine ab ?_;refine bG ?_;rw [RS.place,ht];exact ⟨rfl,rfl⟩
end Go.Xg
namespace Go.Xg
open Go.RowKit Go.Xw Go.Proofs
open Go.Xp (Tok Nd T bb one levels)
open Go.Sp
attribute [local irreducible] GW GL GO YG GC GA aS aW
theorem cR (p:RS) (k:Nat) (hp:p.ok) (hk:k<=1):GF Tryz.prog 225 [.loc 0 0,.v (ii k)] [bS p] (.v (sv (p.sign k))) [bS p]:=by
 obtain ⟨ji,dA⟩:=hp
 by_cases hc:p.code=0
 ·have df:(p.code != 0)=false:=by simpa using hc
  cases ht:p.l[p.i+k]? with
  | some t =>
   have hr:=jT ht;have aq:p.i+k < p.l.length:=(List.getElem?_eq_some_iff.1 ht).1
   have hd:decide (((p.l.map cU).length:Int)<=((p.i+k:Nat):Int))=false:=by simp;omega
   refine ai Tryz.func225 Tryz.ntmps225 ?_;refine GW.draw (.q 0 (.q 1 (.q 2 (.q 3 (.q 4 (.q 5 (.q 6 (.q 7 (.q 8 (.q 9 (.q 10 (.q 11 (.q 12 (.q 13 (.q 14 (.q 15 (.q 16 (.q 17 (.q 18 .nil))))))))))))))))))) (by kernel_rfl) (by kernel_rfl) ?_;refine aj ?_;refine ab ?_;refine GW.draw (.q 0 (.q 1 (.q 2 (.q 3 (.q 4 (.q 5 (.q 6 (.q 7 (.q 8 (.q 9 (.q 10 (.q 11 (.a 12 (.q 13 .nil)))))))))))))) (by kernel_rfl) (by kernel_rfl) ?_;refine aj ?_;refine az [] (Oz t) ?_;refine ab ?_;refine bG ?_;rw [RS.sign,if_pos hc,ht];exact ⟨rfl,rfl⟩
  | none =>
   have aq:p.l.length<=p.i+k:=List.getElem?_eq_none_iff.1 ht
   have hd:decide (((p.l.map cU).length:Int)<=((p.i+k:Nat):Int))=true:=by simp;omega
   refine ai Tryz.func225 Tryz.ntmps225 ?_;refine GW.draw (.q 0 (.q 1 (.q 2 (.q 3 (.q 4 (.q 5 (.q 6 (.q 7 (.q 8 (.q 9 (.q 10 (.q 11 (.q 12 (.q 13 (.q 14 (.q 15 (.q 16 (.q 17 (.q 18 .nil))))))))))))))))))) (by kernel_rfl) (by kernel_rfl) ?_;refine aj ?_;refine ab ?_;refine bG ?_;rw [RS.sign,if_pos hc,ht];exact ⟨rfl,rfl⟩
 ·have df:(p.code != 0)=true:=by simpa using hc
  refine ai Tryz.func225 Tryz.ntmps225 ?_;refine GW.draw (.q 0 (.q 1 (.q 2 (.q 3 (.q 4 (.q 5 (.q 6 (.q 7 (.q 8 (.q 9 (.q 10 (.q 11 (.q 12 (.q 13 (.q 14 (.q 15 (.q 16 (.q 17 (.q 18 .nil))))))))))))))))))) (by kernel_rfl) (by kernel_rfl) ?_;refine aj ?_;refine ab ?_;refine bG ?_;rw [RS.sign,if_neg hc];exact ⟨rfl,rfl⟩
theorem lC (p:RS) (c a:Int):GF Tryz.prog 257 [.loc 0 0,.v (ii c),.v (ii a)] [bS p] (.tup []) [bS (p.fail c a)]:=by
 refine ai Tryz.func257 Tryz.ntmps257 ?_;refine GW.cond rfl (fun h=>?_) (fun h=>?_)
 ·refine ab ?_;refine cK ?_
  have h:p.code=0:=by simpa using h
  rw [RS.fail,if_pos h];exact ⟨rfl,rfl⟩
 ·refine ab ?_;refine cK ?_
  have h:¬ p.code=0:=by simpa using h
  rw [RS.fail,if_neg h];exact ⟨rfl,rfl⟩
theorem cQ (p:RS) (s:ah) (hp:p.ok) (hs:s≠[]):GF Tryz.prog 224 [.loc 0 0,.v (sv s)] [bS p] (.tup []) [bS (p.aE s)]:=by
 refine ai Tryz.func224 Tryz.ntmps224 ?_;refine gB [0] (cR p 0 hp (by decide)) ?_
 by_cases h:p.sign 0=s
 ·have h':(!(p.sign 0==s))=false:=by simp [h]
  have hl:=(fj h hs).1;obtain ⟨ji,dA⟩:=hp;refine ab ?_;refine cK ?_;rw [RS.aE,if_pos h];exact ⟨rfl,rfl⟩
 ·have h':(!(p.sign 0==s))=true:=by simpa using h
  refine ab ?_;refine U [0] (kl p hp) ?_;refine U [0] (lC p 7 p.place) ?_;refine cK ?_;rw [RS.aE,if_neg h];exact ⟨rfl,rfl⟩
end Go.Xg
namespace Go.Xg
open Go.RowKit Go.Xw Go.Proofs
open Go.Xp (Tok Nd T bb one levels)
open Go.Sp
attribute [local irreducible] GW GL GO YG GC GA aS aW
theorem ub (p:RS) (d:Nat) (hp:p.ok):GF Tryz.prog 221 [.loc 0 0,.v (ii d)] [bS p] (.tup []) [bS (p.deep d)]:=by
 by_cases h:d > 60
 ·have h':decide ((60:Int) < (d:Int))=true:=by simp;omega
  refine ai Tryz.func221 Tryz.ntmps221 ?_;refine U [0] (kl p hp) ?_;refine U [0] (lC p 9 p.place) ?_;refine cK ?_;rw [RS.deep,if_pos h];exact ⟨rfl,rfl⟩
 ·have h':decide ((60:Int) < (d:Int))=false:=by simp;omega
  refine ai Tryz.func221 Tryz.ntmps221 ?_;refine cK ?_;rw [RS.deep,if_neg h];exact ⟨rfl,rfl⟩
theorem x6 (p:RS) (hp:p.ok):GF Tryz.prog 259 [.loc 0 0] [bS p] (.v (sv p.name.1)) [bS p.name.2]:=by
 obtain ⟨ji,dA⟩:=id hp
 by_cases hc:p.code=0
 ·have df:(p.code != 0)=false:=by simpa using hc
  cases ht:p.l[p.i]? with
  | some t =>
   have hr:=jT ht;have aq:p.i < p.l.length:=(List.getElem?_eq_some_iff.1 ht).1
   have hd:decide (((p.l.map cU).length:Int)<=(p.i:Int))=false:=by simp;omega
   by_cases hk:t.kind=2
   ·have kY:(t.kind != 2)=false:=by simpa using hk
    by_cases hs:t.s.length > 12
    ·have nI:decide ((12:Int) < (t.s.length:Int))=true:=by simp;omega
     refine ai Tryz.func259 Tryz.ntmps259 ?_;refine GW.draw (.q 0 (.q 1 (.q 2 (.q 3 (.q 4 (.q 5 (.q 6 (.q 7 (.q 8 (.q 9 (.q 10 (.q 11 (.q 12 (.q 13 (.q 14 (.q 15 (.q 16 (.q 17 (.q 18 (.q 19 (.q 20 (.q 21 (.q 22 (.q 23 .nil)))))))))))))))))))))))) (by kernel_rfl) (by kernel_rfl) ?_;refine aj ?_;refine ab ?_;refine GW.draw (.q 0 (.q 1 (.q 2 (.q 3 (.q 4 (.q 5 (.q 6 (.q 7 (.q 8 (.q 9 (.a 10 (.a 11 .nil)))))))))))) (by kernel_rfl) (by kernel_rfl) ?_;refine aj ?_;refine ab ?_;refine U [0] (lC p 8 t.at_) ?_;refine bG ?_;rw [RS.name,if_pos hc,ht];simp only [if_pos hk,if_pos hs];exact ⟨rfl,rfl⟩
    ·have nI:decide ((12:Int) < (t.s.length:Int))=false:=by simp;omega
     refine ai Tryz.func259 Tryz.ntmps259 ?_;refine GW.draw (.q 0 (.q 1 (.q 2 (.q 3 (.q 4 (.q 5 (.q 6 (.q 7 (.q 8 (.q 9 (.q 10 (.q 11 (.q 12 (.q 13 (.q 14 (.q 15 (.q 16 (.q 17 (.q 18 (.q 19 (.q 20 (.q 21 (.q 22 (.q 23 .nil)))))))))))))))))))))))) (by kernel_rfl) (by kernel_rfl) ?_;refine aj ?_;refine ab ?_;refine GW.draw (.q 0 (.q 1 (.q 2 (.q 3 (.q 4 (.q 5 (.q 6 (.q 7 (.q 8 (.q 9 (.a 10 (.a 11 .nil)))))))))))) (by kernel_rfl) (by kernel_rfl) ?_;refine aj ?_;refine ab ?_;refine bG ?_;rw [RS.name,if_pos hc,ht];simp only [if_pos hk,if_neg hs];exact ⟨rfl,rfl⟩
   ·have kY:(t.kind != 2)=true:=by simpa using hk
    refine ai Tryz.func259 Tryz.ntmps259 ?_;refine GW.draw (.q 0 (.q 1 (.q 2 (.q 3 (.q 4 (.q 5 (.q 6 (.q 7 (.q 8 (.q 9 (.q 10 (.q 11 (.q 12 (.q 13 (.q 14 (.q 15 (.q 16 (.q 17 (.q 18 (.q 19 (.q 20 (.q 21 (.q 22 (.q 23 .nil)))))))))))))))))))))))) (by kernel_rfl) (by kernel_rfl) ?_;refine aj ?_;refine ab ?_;refine U [0] (kl p hp) ?_;refine U [0] (lC p 7 p.place) ?_;refine bG ?_;rw [RS.name,if_pos hc,ht];simp only [if_neg hk];exact ⟨rfl,rfl⟩
  | none =>
   have aq:p.l.length<=p.i:=List.getElem?_eq_none_iff.1 ht
   have hd:decide (((p.l.map cU).length:Int)<=(p.i:Int))=true:=by simp;omega
   refine ai Tryz.func259 Tryz.ntmps259 ?_;refine GW.draw (.q 0 (.q 1 (.q 2 (.q 3 (.q 4 (.q 5 (.q 6 (.q 7 (.q 8 (.q 9 (.q 10 (.q 11 (.q 12 (.q 13 (.q 14 (.q 15 (.q 16 (.q 17 (.q 18 (.q 19 (.q 20 (.q 21 (.q 22 (.q 23 .nil)))))))))))))))))))))))) (by kernel_rfl) (by kernel_rfl) ?_;refine aj ?_;refine ab ?_;refine U [0] (kl p hp) ?_;refine U [0] (lC p 7 p.place) ?_;refine bG ?_;rw [RS.name,if_pos hc,ht];exact ⟨rfl,rfl⟩
 ·have df:(p.code != 0)=true:=by simpa using hc
  refine ai Tryz.func259 Tryz.ntmps259 ?_;refine bG ?_;rw [RS.name,if_neg hc];exact ⟨rfl,rfl⟩
abbrev ints (l:List Int):GV:=.sl 1 (l.map fun i=>[.v (ii i)])
abbrev strs (l:List ah):GV:=.sl 1 (l.map fun s=>[.v (sv s)])
mutual
def Th:T->List GV
 | .mk n k=>[.v (ii n.kind),.v (ii n.at_),.v (ii n.n),.v (sv n.s),ints n.kids,.sl 6 (aL k)]
def aL:List T->List (List GV)
 | []=>[]
 | t::r=>Th t::aL r
end
abbrev cT (t:T):List GV:=[.v (ii t.n.kind),.v (ii t.n.at_),.v (ii t.n.n),.v (sv t.n.s),ints t.n.kids,.sl 6 (aL t.kids)]
theorem uX (t:T):Th t=cT t:=by
 cases t;rfl
theorem fK (k a:Int) (s:ah) (l:List T) (rows:List (List GV)) (h:aL l=rows):GF Tryz.prog 222 [.v (ii k),.v (ii a),.v (sv s),.sl 6 rows] [] (.agg (cT (one k a s l))) []:=by
 subst h;refine ai Tryz.func222 Tryz.ntmps222 ?_;refine qH ?_;exact ⟨_,iL,rfl,rfl⟩
theorem jk:GF Tryz.prog 276 [] [] (.sl 1 (levels.map fun l=>[strs l])) []:=by
 refine ai Tryz.func276 Tryz.ntmps276 ?_
 iterate 10 (refine bC ?_)
 exact av
theorem D9 {xs:List ah} {k:Nat} {s x:ah} (h:xs[k]?=some x):(xs.take (k+1)).contains s=((xs.take k).contains s || (x==s)):=by
 rw [take_add_one,h,List.contains_append];show (_ || [x].contains s)=_
 congr 1
 rw [List.contains_cons,List.contains_nil,Bool.or_false];exact Bool.beq_comm
theorem iO (xs:List ah) (s:ah) (hl:xs.length<=1099511627776):GF Tryz.prog 74 [strs xs,.v (sv s)] [] (.v (.bool (xs.contains s))) []:=by
 refine ai Tryz.func74 Tryz.ntmps74 ?_;refine GW.range (xs.map fun s=>[GV.v (sv s)]).length (fun k fr Γ=>fr=[strs xs,.v (sv s),.aaF,.aaF,.aaF,.aaF,.aaF,strs xs,.v (ii ((xs.map fun s=>[GV.v (sv s)]).length:Int)),.v (ii k),.aaF,.aaF,.aaF,.aaF,.aaF,.aaF,.aaF]/\Γ=[]/\(xs.take k).contains s=false) ?_ (by simpa using hl) ?_ ?_ ?_
 ·exact ⟨_,_,Wk.aw al,rfl,rfl,rfl⟩
 ·rintro k _ _ ⟨rfl,rfl,_⟩;exact ⟨rfl,rfl,rfl⟩
 ·rintro k _ _ aq ⟨rfl,rfl,hc⟩
  have aq:k < xs.length:=by simpa using aq
  have hx:xs[k]?=some xs[k]:=by simp [aq]
  have hr:(xs.map fun s=>[GV.v (sv s)])[k]?=some [.v (sv xs[k])]:=by simp [aq]
  have eV:=D9 (s:=s) hx;refine ab ?_;refine GW.cond rfl (fun h2=>?_) (fun h2=>?_)
  ·refine ab ?_;refine bG ?_
   have h3:xs[k]=s:=by simpa using h2
   have:s∈xs:=by rw [<-h3];exact getElem_mem _
   refine ⟨?_,rfl⟩;show GV.v (.bool true)=_;rw [List.contains_iff_mem.2 this]
  ·refine ab ?_;exact ⟨rfl,rfl,_,_,Wk.aw al,rfl,rfl,by rw [eV,hc,h2];rfl⟩
 ·rintro _ _ ⟨rfl,rfl,hc⟩;refine ab ?_;refine bG ?_
  have hc:xs.contains s=false:=by simpa using hc
  refine ⟨?_,rfl⟩;show GV.v (.bool false)=_;rw [hc]
end Go.Xg
namespace Go.Xg
open Go.RowKit Go.Xw
section
variable {P:Program} {m:Nat} {Q:dP} {fr:List GV} {Γ:List Ob}
theorem GW.Q6 {c y:Code} {B:Nat} (K:List GV->List Ob->Prop) (h1:GW P m c (aW B (aS (zh m K) Q)) fr Γ) (h2:∀ fr Γ,K fr Γ->GW P m y Q fr Γ):GW P m c (aW B (aS (GW P m y Q) Q)) fr Γ:=by
 refine h1.mono fun e fr Γ hq=>?_
 have key:∀ fr Γ,zh m K fr Γ->GW P m y Q fr Γ:=fun fr Γ ⟨bU,aH,hw,hk⟩=>GW.wk hw (h2 _ _ hk)
 cases e with
 | normal=>exact key _ _ hq
 | exit n =>
  simp only [aW] at hq |-;split
  ·rename_i hn;rw [if_pos hn] at hq;exact key _ _ hq
  ·rename_i hn;rw [if_neg hn] at hq;exact hq
 | _=>exact hq
end
section
variable {P:Program} {fn:Func} {m:Nat} {R:GV->List Ob->Prop} {fr:List GV} {Γ:List Ob} {e:Exit}
theorem VO {n:Nat} {t u:Tmp} {T:TypeId} {k:Nat} [hT:Ty P T true k] {i:Nat} {E:TypeId} {cs:List GV} {g:GV} (hr:fn.results=#[.cell t T,.tmp u]) (he:e=.normal\/e=.ret) (hg:cq fr t=.loc i 0) (br:Γ[i]?=some (.box E cs)) (hk:cs.length=k) (fR:cq fr u=g)
  (hm:m<=n) (hl:zM n (Γ.take n)=true) (ju:(GV.tup [.agg cs,g]).lt n=true) (h:R (.tup [.agg cs,g]) (Γ.take n)):sG P fn m R e fr Γ :=
 ⟨he,fun B K β w l hB hI hF=>by
  obtain ⟨b,vs,h1,h2,h3,h4⟩:=hI.ob i _ br
  have hp:nth l t=.pointer (some ⟨b,0,none⟩):=by
   have:=hF.nth t;rw [hg] at this;generalize nth l t=v at this
   cases this with
   | loc _ _ b' bg=>rw [h1] at bg;cases bg;rfl
  have kO:l.toArray.getD t undef=.pointer (some ⟨b,0,none⟩):=by rw [jz,hp]
  have FB:=mW (P:=P) (w:=w) (t:=T) (b:=b) (o:=0) (vs:=vs) (k:=k) (by rw [h3.1,hk]) (fun j v hj=>by
   rw [Nat.zero_add,cell_of_row w b j _ E (0,0) h2];simpa using hj)
  have AL:l[t]?.getD undef=.pointer (some ⟨b,0,none⟩):=by simpa using kO
  refine ⟨.tuple #[.agg vs.toArray,nth l u],K,eX (below n) β,.tup [.agg cs,g],Γ.take n,?_,hI.cut ae hl,?_,h⟩
  ·rw [<-jz l u];simp [results,hr,AL,asAddr,FB]
  ·refine Rel.res ?_ ju;subst fR;have hc:aV K β [.agg vs.toArray,nth l u] [.agg cs,cq fr u]:=.cons (.agg vs cs h3.1 h3.2) (.cons (hF.nth u) .nil)
   exact .tup _ _ hc.1 hc.2⟩
theorem Mr {n:Nat} {t u s:Tmp} {T:TypeId} {k:Nat} [hT:Ty P T true k] {i:Nat} {E:TypeId} {cs:List GV} {g g':GV} (hr:fn.results=#[.cell t T,.tmp u,.tmp s]) (he:e=.normal\/e=.ret) (hg:cq fr t=.loc i 0) (br:Γ[i]?=some (.box E cs)) (hk:cs.length=k) (fR:cq fr u=g) (Zt:cq fr s=g')
  (hm:m<=n) (hl:zM n (Γ.take n)=true) (ju:(GV.tup [.agg cs,g,g']).lt n=true) (h:R (.tup [.agg cs,g,g']) (Γ.take n)):sG P fn m R e fr Γ :=
 ⟨he,fun B K β w l hB hI hF=>by
  obtain ⟨b,vs,h1,h2,h3,h4⟩:=hI.ob i _ br
  have hp:nth l t=.pointer (some ⟨b,0,none⟩):=by
   have:=hF.nth t;rw [hg] at this;generalize nth l t=v at this
   cases this with
   | loc _ _ b' bg=>rw [h1] at bg;cases bg;rfl
  have kO:l.toArray.getD t undef=.pointer (some ⟨b,0,none⟩):=by rw [jz,hp]
  have FB:=mW (P:=P) (w:=w) (t:=T) (b:=b) (o:=0) (vs:=vs) (k:=k) (by rw [h3.1,hk]) (fun j v hj=>by
   rw [Nat.zero_add,cell_of_row w b j _ E (0,0) h2];simpa using hj)
  have AL:l[t]?.getD undef=.pointer (some ⟨b,0,none⟩):=by simpa using kO
  refine ⟨.tuple #[.agg vs.toArray,nth l u,nth l s],K,eX (below n) β,.tup [.agg cs,g,g'],Γ.take n,?_,hI.cut ae hl,?_,h⟩
  ·rw [<-jz l u,<-jz l s];simp [results,hr,AL,asAddr,FB]
  ·refine Rel.res ?_ ju;subst fR Zt;have hc:aV K β [.agg vs.toArray,nth l u,nth l s] [.agg cs,cq fr u,cq fr s]:=.cons (.agg vs cs h3.1 h3.2) (.cons (hF.nth u) (.cons (hF.nth s) .nil))
   exact .tup _ _ hc.1 hc.2⟩
end
end Go.Xg
namespace Go.Xg
open Go.RowKit Go.Xw Go.Proofs
open Go.Xp (Tok Nd T bb one levels)
open Go.Sp
attribute [local irreducible] GW GL GO YG GC GA aS aW
abbrev Df (c:UInt8):GV:=.v (.int .u8 (c.toNat:Int))
theorem wo (c:UInt8):GF Tryz.prog 144 [Df c] [] (.v (.bool (small c))) []:=by
 unfold small;refine db Tryz.func144 Tryz.ntmps144 ?_
 cases h:decide ((97:Int)<=(c.toNat:Int))
 all_goals
  exact av
theorem wm (c:UInt8):GF Tryz.prog 185 [Df c] [] (.v (.bool (dM c))) []:=by
 unfold dM;refine db Tryz.func185 Tryz.ntmps185 ?_
 cases h:decide ((48:Int)<=(c.toNat:Int))
 all_goals
  exact av
theorem DI (c:UInt8):GF Tryz.prog 143 [Df c] [] (.v (.bool (dH c))) []:=by
 unfold dH;have hs:=wo c;have hd:=wm c;generalize small c=b1 at *;generalize dM c=b2 at *;refine ai Tryz.func143 Tryz.ntmps143 ?_;refine gB [] (hs) ?_
 cases b1 with
 | true =>
  exact av
 | false =>
  cases h1:decide ((65:Int)<=(c.toNat:Int)) with
  | true =>
   cases h2:decide ((c.toNat:Int)<=90) with
   | true =>
    exact av
   | false =>
    refine ab ?_;refine gB [] (hd) ?_
    cases b2 with
    | true =>
     exact av
    | false =>
     exact av
  | false =>
   refine ab ?_;refine gB [] (hd) ?_
   cases b2 with
   | true =>
    exact av
   | false =>
    exact av
theorem oe (s t:ah) (a:Nat) (hs:s.length<=1152921504606846976) (ht:t.length<=1152921504606846976) (ha:a<=1152921504606846976) :
  GF Tryz.prog 254 [.v (sv s),.v (ii (a:Nat)),.v (sv t)] [] (.v (.bool (bo s a t))) []:=by
 by_cases h:a+t.length<=s.length
 ·have h':decide (((a+t.length:Nat):Int)<=(s.length:Int))=true:=by simpa using by omega
  refine ai Tryz.func254 Tryz.ntmps254 ?_;refine bG ?_;unfold bo;rw [decide_eq_true h];exact ⟨rfl,rfl⟩
 ·have h':decide (((a+t.length:Nat):Int)<=(s.length:Int))=false:=by simpa using by omega
  refine ai Tryz.func254 Tryz.ntmps254 ?_;refine bG ?_;unfold bo;rw [decide_eq_false h];exact ⟨rfl,rfl⟩
theorem NP (s:ah) (a:Nat) (hs:s.length<=1099511627776) (ha:a<=s.length) :
  GF Tryz.prog 219 [.v (sv s),.v (ii (a:Nat))] [] (.tup [.v (ii ((skip s (s.length+1) a).1:Nat)),.v (ii (skip s (s.length+1) a).2)]) []:=by
 generalize hR:skip s (s.length+1) a=R;refine ai Tryz.func219 Tryz.ntmps219 ?_;refine GW.loop (fun x:Nat × Nat=>x.1) (fun x fr Γ=>fr=[.v (sv s),.v (ii (x.2:Nat)),.aaF,.aaF,.aaF,.aaF,.aaF,.aaF,.aaF,.aaF,.aaF,.aaF,.aaF,.aaF,.aaF,.aaF,.aaF,.aaF,.aaF,.aaF,.aaF,.aaF,.aaF,.aaF,.aaF,.aaF,.aaF,.aaF,.aaF,.aaF,.aaF,.aaF,.aaF,.aaF,.aaF,.aaF,.aaF,.aaF,.aaF,.aaF,.aaF,.aaF,.aaF,.aaF,.aaF,.aaF,.aaF,.aaF,.aaF,.aaF,.aaF,.aaF,.aaF,.aaF,.aaF,.aaF,.aaF,.aaF,.aaF,.aaF,.aaF,.aaF,.aaF]/\Γ=[]/\x.2<=s.length/\s.length < x.1+x.2/\skip s x.1 x.2=R) (s.length+1,a) ?_ ?_
 ·exact ⟨_,_,Wk.aw al,rfl,rfl,ha,by simp;omega,hR⟩
 ·rintro ⟨f,a⟩ _ _ ⟨rfl,rfl,ha,hf,h⟩;simp only at ha hf h
  cases f with
  | zero=>omega
  | succ f =>
  rw [skip] at h
  cases hc:s[a]? with
  | none =>
   rw [hc] at h;simp only at h;subst h;have kX:s.length<=a:=List.getElem?_eq_none_iff.1 hc
   have hd:decide ((a:Int) < (s.length:Int))=false:=by simpa using kX
   refine ab ?_;refine aU ?_;exact qF
  | some c =>
   rw [hc] at h;simp only at h;have aq:a < s.length:=(List.getElem?_eq_some_iff.1 hc).1
   have hd:decide ((a:Int) < (s.length:Int))=true:=by simpa using aq
   have hb:dw c=(((c.toNat:Int)==32) || ((c.toNat:Int)==9) || ((c.toNat:Int)==10) || ((c.toNat:Int)==13)):=rfl
   by_cases mu:dw c=true
   ·rw [if_pos mu] at h;rw [hb] at mu;have FU:((c.toNat:Int)==32)=true\/(((c.toNat:Int)==32)=false/\((c.toNat:Int)==9)=true)\/(((c.toNat:Int)==32)=false/\((c.toNat:Int)==9)=false/\((c.toNat:Int)==10)=true) \/
      (((c.toNat:Int)==32)=false/\((c.toNat:Int)==9)=false/\((c.toNat:Int)==10)=false/\((c.toNat:Int)==13)=true):=by
     generalize ((c.toNat:Int)==32)=b1 at *;generalize ((c.toNat:Int)==9)=b2 at *;generalize ((c.toNat:Int)==10)=b3 at *;generalize ((c.toNat:Int)==13)=b4 at *;clear hb
     revert mu;cases b1 <;> cases b2 <;> cases b3 <;> cases b4 <;> simp
    clear hb mu
    rcases FU with k1 | ⟨k1,k2⟩ | ⟨k1,k2,k3⟩ | ⟨k1,k2,k3,k4⟩
    all_goals
     refine ab ?_;refine aU ?_;exact ⟨(f,a+1),⟨_,_,Wk.aw al,rfl,rfl,by simp only;omega,by simp only;omega,h⟩,by simp⟩
   ·rw [if_neg mu] at h;rw [hb] at mu
    have FU:((c.toNat:Int)==32)=false/\((c.toNat:Int)==9)=false/\((c.toNat:Int)==10)=false/\((c.toNat:Int)==13)=false:=by
     generalize ((c.toNat:Int)==32)=b1 at *;generalize ((c.toNat:Int)==9)=b2 at *;generalize ((c.toNat:Int)==10)=b3 at *;generalize ((c.toNat:Int)==13)=b4 at *;clear hb
     revert mu;cases b1 <;> cases b2 <;> cases b3 <;> cases b4 <;> simp
    clear hb mu;obtain ⟨k1,k2,k3,k4⟩:=FU
    by_cases mP:bo s a [47,42]=true
    ·rw [if_pos mP] at h;have mu:=iZ mP;have mu:a+2<=s.length:=mu
     have xG:(!bo s a [47,42])=false:=by rw [mP];rfl
     try simp only at h
     generalize he:eG s s.length (a+2)=e at h;refine ab ?_;refine U [] (oe s [47,42] a ae (by decide) ae) ?_;have MF:=qM s s.length (a+2) ae ae;have vc:=rN s s.length (a+2) ae;rw [he] at MF vc;refine GW.Q6 (fun fr Γ=>fr=[.v (sv s),.v (ii (a:Nat)),.aaF,.aaF,.aaF,.aaF,.v (ii (e:Nat)),.aaF,.aaF,.aaF,.aaF,.aaF,.aaF,.aaF,.aaF,.aaF,.aaF,.aaF,.aaF,.aaF,.aaF,.aaF,.aaF,.aaF,.aaF,.aaF,.aaF,.aaF,.aaF,.aaF,.aaF,.aaF,.aaF,.aaF,.aaF,.aaF,.aaF,.aaF,.aaF,.aaF,.aaF,.aaF,.aaF,.aaF,.aaF,.aaF,.aaF,.aaF,.aaF,.aaF,.aaF,.aaF,.aaF,.aaF,.aaF,.aaF,.aaF,.aaF,.aaF,.aaF,.aaF,.aaF,.aaF]/\Γ=[]) ?_ ?_
     ·refine GW.loop (fun x:Nat × Nat=>x.1) (fun x fr Γ=>fr=[.v (sv s),.v (ii (a:Nat)),.aaF,.aaF,.aaF,.aaF,.v (ii (x.2:Nat)),.aaF,.aaF,.aaF,.aaF,.aaF,.aaF,.aaF,.aaF,.aaF,.aaF,.aaF,.aaF,.aaF,.aaF,.aaF,.aaF,.aaF,.aaF,.aaF,.aaF,.aaF,.aaF,.aaF,.aaF,.aaF,.aaF,.aaF,.aaF,.aaF,.aaF,.aaF,.aaF,.aaF,.aaF,.aaF,.aaF,.aaF,.aaF,.aaF,.aaF,.aaF,.aaF,.aaF,.aaF,.aaF,.aaF,.aaF,.aaF,.aaF,.aaF,.aaF,.aaF,.aaF,.aaF,.aaF,.aaF]/\Γ=[]/\x.2<=s.length/\eG s x.1 x.2=e) (s.length,a+2) ?_ ?_
      ·exact ⟨_,_,Wk.aw al,rfl,rfl,by simp only;omega,he⟩
      ·rintro ⟨g,e'⟩ _ _ ⟨rfl,rfl,hle,sK⟩;simp only at hle sK
       by_cases hstop:e' < s.length
       ·have dc:decide ((e':Int) < (s.length:Int))=true:=by simpa using hstop
        cases oO:bo s e' [42,47] with
        | true =>
         have XM:(!bo s e' [42,47])=false:=by rw [oO];rfl
         have wX:e'=e:=by
          cases g with
          | zero=>exact sK
          | succ g=>rw [eG,if_neg (by rw [oO];simp)] at sK;exact sK
         subst wX;refine ab ?_;refine U [] (oe s [42,47] e' ae (by decide) ae) ?_;refine aU ?_;exact ⟨_,_,Wk.aw al,rfl,rfl⟩
        | false =>
         have XM:(!bo s e' [42,47])=true:=by rw [oO];rfl
         cases g with
         | zero=>exact absurd ⟨by rw [<-sK];exact hstop,by rw [<-sK];exact oO⟩ MF
         | succ g =>
          rw [eG,if_pos ⟨hstop,oO⟩] at sK;refine ab ?_;refine U [] (oe s [42,47] e' ae (by decide) ae) ?_;exact ⟨(g,e'+1),⟨_,_,Wk.aw al,rfl,rfl,hstop,sK⟩,by simp⟩
       ·have dc:decide ((e':Int) < (s.length:Int))=false:=by simp;omega
        have wX:e'=e:=by
         cases g with
         | zero=>exact sK
         | succ g=>rw [eG,if_neg (fun hh=>hstop hh.1)] at sK;exact sK
        subst wX;refine ab ?_;refine aU ?_;exact ⟨_,_,Wk.aw al,rfl,rfl⟩
     ·rintro _ _ ⟨rfl,rfl⟩
      by_cases hle:s.length<=e
      ·rw [if_pos hle] at h
       have X2:decide ((s.length:Int)<=(e:Int))=true:=by simpa using hle
       subst h;exact qF
      ·rw [if_neg hle] at h
       have X2:decide ((s.length:Int)<=(e:Int))=false:=by simp;omega
       have oO:bo s e [42,47]=true:=by
        cases oO:bo s e [42,47] with
        | true=>rfl
        | false=>exact absurd ⟨by omega,oO⟩ MF
       have oO:=iZ oO;have oO:e+2<=s.length:=oO;refine ab ?_;refine aU ?_;exact ⟨(f,e+2),⟨_,_,Wk.aw al,rfl,rfl,oO,by simp only;omega,h⟩,by simp⟩
    ·rw [if_neg mP] at h
     have xG:(!bo s a [47,42])=true:=by simpa using mP
     subst h;refine ab ?_;refine U [] (oe s [47,42] a ae (by decide) ae) ?_;exact lR
end Go.Xg
namespace Go.Xg
open Go.RowKit Go.Xw Go.Proofs
open Go.Xp (Tok Nd T bb one levels)
open Go.Sp
attribute [local irreducible] GW GL GO YG GC GA aS aW
theorem wq:GF Tryz.prog 115 [] [] (strs words) []:=by
 refine ai Tryz.func115 Tryz.ntmps115 ?_;refine bC ?_;exact av
theorem Ki:GF Tryz.prog 256 [] [] (strs bB) []:=by
 refine ai Tryz.func256 Tryz.ntmps256 ?_;refine bC ?_;exact av
theorem M8 (s:ah) (hs:s.length<=1099511627776):GF Tryz.prog 114 [.v (sv s)] [] (.v (.bool (word s))) []:=by
 refine ai Tryz.func114 Tryz.ntmps114 ?_;refine GW.loop (fun a:Nat=>s.length - a) (fun a fr Γ=>fr=[.v (sv s),.aaF,.aaF,.v (ii (a:Nat)),.aaF,.aaF,.aaF,.aaF,.aaF,.aaF,.aaF,.aaF,.aaF,.aaF,.aaF,.aaF,.aaF,.aaF,.aaF,.aaF,.aaF,.aaF]/\Γ=[]/\a<=s.length/\(s.take a).all dH=true) 0 ?_ ?_
 ·exact ⟨_,_,Wk.aw al,rfl,rfl,Nat.zero_le _,rfl⟩
 ·rintro a _ _ ⟨rfl,rfl,ha,aO⟩
  cases hc:s[a]? with
  | some c =>
   have aq:a < s.length:=(List.getElem?_eq_some_iff.1 hc).1
   have hd:decide ((a:Int) < (s.length:Int))=true:=by simpa using aq
   have bq:(s.take (a+1)).all dH=((s.take a).all dH&&dH c):=by
    rw [take_add_one,hc,List.all_append];simp
   have hp:=DI c
   cases hn:dH c with
   | true =>
    rw [hn] at hp;refine ab ?_;refine U [] (hp) ?_;exact ⟨a+1,⟨_,_,Wk.aw al,rfl,rfl,aq,by rw [bq,aO,hn];rfl⟩,by omega⟩
   | false =>
    rw [hn] at hp;refine ab ?_;refine U [] (hp) ?_;refine bG ?_;refine ⟨?_,rfl⟩
    have hw:word s=false:=by
     have:s.all dH=false:=by
      rw [List.all_eq_false];exact ⟨c,mem_of_getElem? hc,by rw [hn];decide⟩
     unfold word;rw [this];rfl
    rw [hw];rfl
  | none =>
   have kX:s.length<=a:=List.getElem?_eq_none_iff.1 hc
   have hd:decide ((a:Int) < (s.length:Int))=false:=by simpa using kX
   have aO:s.all dH=true:=by rw [take_of_length_le kX] at aO;exact aO
   cases s with
   | nil =>
    refine ab ?_;refine aU ?_;exact av
   | cons c r =>
    have hr:(c::r)[0]?=some c:=rfl;refine ab ?_;refine aU ?_;refine ab ?_;refine U [] (wo c) ?_;refine bG ?_;refine ⟨?_,rfl⟩;unfold word;rw [aO];rfl
theorem dT (s:ah) (hs:s.length<=1099511627776):GF Tryz.prog 71 [.v (sv s)] [] (.v (.bool (bf s))) []:=by
 have hw:=M8 s hs;unfold bf;generalize word s=b at *;refine ai Tryz.func71 Tryz.ntmps71 ?_;refine gB [] (hw) ?_
 cases b with
 | false =>
  exact av
 | true =>
  by_cases nF:s.length<=12
  ·have XG:decide ((s.length:Int)<=12)=true:=by simpa using by omega
   refine ab ?_;refine U [] (wq) ?_;refine U [] (iO words s (by decide)) ?_;refine bG ?_;rw [decide_eq_true nF];exact ⟨rfl,rfl⟩
  ·have XG:decide ((s.length:Int)<=12)=false:=by simpa using by omega
   refine ab ?_;refine bG ?_;rw [decide_eq_false nF];exact ⟨rfl,rfl⟩
end Go.Xg
namespace Go.Xg
open Go.RowKit Go.Xw Go.Proofs
open Go.Xp (Tok Nd T bb one levels)
open Go.Sp
attribute [local irreducible] GW GL GO YG GC GA aS aW
theorem Hu (s:ah) (a:Nat) (hs:s.length<=1099511627776) (ha:a<=s.length) :
  GF Tryz.prog 255 [.v (sv s),.v (ii (a:Nat))] [] (.tup [.agg (cU ⟨1,(number s (s.length+1) 0 a).1,[],a⟩),.v (ii ((number s (s.length+1) 0 a).2:Nat))]) []:=by
 generalize hR:number s (s.length+1) 0 a=R;generalize ha0:a=a0 at *;refine ai Tryz.func255 Tryz.ntmps255 ?_;refine GW.loop (fun x:Nat × Int × Nat=>x.1) (fun x fr Γ=>fr=[.v (sv s),.v (ii (x.2.2:Nat)),.aaF,.aaF,.loc 0 0,.aaF,.loc 1 0,.aaF,.aaF,.aaF,.aaF,.aaF,.aaF,.aaF,.aaF,.aaF,.aaF,.aaF,.aaF,.aaF,.aaF,.aaF,.aaF,.aaF,.aaF,.aaF,.aaF,.aaF,.aaF,.aaF,.aaF,.aaF,.aaF,.aaF,.aaF,.aaF]/\Γ=[.box 203 [.v (ii 0),.v (ii 0),.v (sv []),.v (ii 0)],.box 203 (cU ⟨1,x.2.1,[],a0⟩)]/\x.2.2<=s.length/\s.length < x.1+x.2.2/\number s x.1 x.2.1 x.2.2=R/\0<=x.2.1/\x.2.1<=21474836479) (s.length+1,0,a0) ?_ ?_
 ·exact ⟨_,_,Wk.aw al,rfl,rfl,by simp only;omega,by simp only;omega,by rw [<-hR],by simp,by simp⟩
 ·rintro ⟨f,n,a⟩ _ _ ⟨rfl,rfl,ha,hf,h,Dx,FE⟩;simp only at ha hf h Dx FE
  cases f with
  | zero=>omega
  | succ f =>
  rw [number] at h
  cases hc:s[a]? with
  | none =>
   rw [hc] at h;simp only at h;subst h;have kX:s.length<=a:=List.getElem?_eq_none_iff.1 hc
   have hd:decide ((a:Int) < (s.length:Int))=false:=by simpa using kX
   refine ab ?_;refine aU ?_;refine ab ?_;refine oI ?_;exact ⟨rfl,rfl⟩
  | some c =>
   rw [hc] at h;simp only at h;have aq:a < s.length:=(List.getElem?_eq_some_iff.1 hc).1
   have hd:decide ((a:Int) < (s.length:Int))=true:=by simpa using aq
   have lW:=wm c
   cases hdc:dM c with
   | false =>
    rw [hdc] at lW;rw [if_neg (by rw [hdc];simp)] at h;subst h;refine ab ?_;refine U [] (lW) ?_;refine aU ?_;refine ab ?_;refine oI ?_;exact ⟨rfl,rfl⟩
   | true =>
    rw [hdc] at lW;rw [if_pos hdc] at h
    have xT:(48:Int)<=(c.toNat:Int)/\(c.toNat:Int)<=57:=by
     simp only [dM,Bool.and_eq_true,decide_eq_true_eq] at hdc;exact hdc
    by_cases hn:n<=2147483647
    ·rw [if_pos hn] at h
     have BB:decide (n<=2147483647)=true:=by simpa using hn
     refine ab ?_;refine U [] (lW) ?_;refine GW.draw (.q 0 (.q 1 (.q 2 (.q 3 (.q 4 (.q 5 (.q 6 (.q 7 (.q 8 (.q 9 (.a 10 .nil))))))))))) (by kernel_rfl) (by kernel_rfl) ?_;refine aj ?_;refine ab ?_;exact ⟨(f,n * 10+((c.toNat:Int) - 48),a+1),⟨_,_,Wk.aw al,rfl,rfl,aq,by simp only;omega,h,by simp only;omega,by simp only;omega⟩,by simp⟩
    ·rw [if_neg hn] at h
     have BB:decide (n<=2147483647)=false:=by simpa using hn
     refine ab ?_;refine U [] (lW) ?_;exact ⟨(f,n,a+1),⟨_,_,Wk.aw al,rfl,rfl,aq,by simp only;omega,h,Dx,FE⟩,by simp⟩
end Go.Xg
namespace Go.Xg
open Go.RowKit Go.Xw Go.Proofs
open Go.Xp (Tok Nd T bb one levels)
open Go.Sp
attribute [local irreducible] GW GL GO YG GC GA aS aW
theorem Ma {xs:List ah} {p:ah->Bool} {k:Nat} {x:ah} (h:(xs.take k).find? p=none) (hx:xs[k]?=some x) (hp:p x=true):xs.find? p=some x:=by
 have aq:=(List.getElem?_eq_some_iff.1 hx).1
 have:xs=xs.take k++x::xs.drop (k+1):=by
  have h1:=List.take_append_drop k xs;rw [List.drop_eq_getElem_cons aq] at h1;rw [(List.getElem?_eq_some_iff.1 hx).2] at h1;exact h1.symm
 rw [this,List.find?_append,h];simp [List.find?_cons,hp]
theorem L9 {xs:List ah} {p:ah->Bool} {k:Nat} {x:ah} (h:(xs.take k).find? p=none) (hx:xs[k]?=some x) (hp:p x=false):(xs.take (k+1)).find? p=none:=by
 rw [take_add_one,hx,List.find?_append,h];simp [List.find?_cons,hp]
theorem HM:∀ x∈bB,x.length<=1152921504606846976:=by decide
theorem Pn (s:ah) (a:Nat) (c:UInt8) (hs:s.length<=1099511627776) (hc:s[a]?=some c) :
  GF Tryz.prog 220 [.v (sv s),.v (ii (a:Nat))] [] (.tup [.agg (cU (iq s a c).1),.v (ii ((iq s a c).2:Nat))]) []:=by
 have aq:a < s.length:=(List.getElem?_eq_some_iff.1 hc).1;have lW:=wm c;have iC:=wo c;unfold iq
 cases hdc:dM c with
 | true =>
  rw [hdc] at lW;rw [if_pos rfl];refine ai Tryz.func220 Tryz.ntmps220 ?_;refine U [] (lW) ?_;refine U [] (Hu s a hs ae) ?_;refine oI ?_;exact ⟨rfl,rfl⟩
 | false =>
  rw [hdc] at lW;rw [if_neg (by decide)]
  cases hsc:small c with
  | true =>
   rw [hsc] at iC;rw [if_pos rfl];have W6:=o0 s dH (s.length+1) a ae ae;have Xb:(s.take (en s a)).drop a=eR s a:=rfl;have TQ:run s dH (s.length+1) a=en s a:=rfl;rw [TQ] at W6;generalize he:en s a=e at *;generalize hw:eR s a=w at *;have hw:=Xb;have he:=TQ;refine ai Tryz.func220 Tryz.ntmps220 ?_;refine U [] (lW) ?_;refine U [] (iC) ?_;refine GW.Q6 (fun fr Γ=>fr=[.v (sv s),.v (ii (a:Nat)),.aaF,.aaF,.loc 0 0,.aaF,.v (ii (e:Nat)),.aaF,.aaF,.aaF,.aaF,.aaF,.aaF,.aaF,.aaF,.aaF,.aaF,.aaF,.aaF,.aaF,.aaF,.aaF,.aaF,.aaF,.aaF,.aaF,.aaF,.aaF,.aaF,.aaF,.aaF,.aaF,.aaF,.aaF,.aaF,.aaF,.aaF,.aaF,.aaF,.aaF,.aaF,.aaF,.aaF,.aaF,.aaF,.aaF,.aaF,.aaF,.aaF,.aaF,.aaF,.aaF,.aaF,.aaF,.aaF,.aaF,.aaF,.aaF,.aaF,.aaF,.aaF,.aaF,.aaF,.aaF,.aaF,.aaF,.aaF,.aaF,.aaF]/\Γ=[.box 203 [.v (ii 0),.v (ii 0),.v (sv []),.v (ii 0)]]) ?_ ?_
   ·refine GW.loop (fun x:Nat × Nat=>x.1) (fun x fr Γ=>fr=[.v (sv s),.v (ii (a:Nat)),.aaF,.aaF,.loc 0 0,.aaF,.v (ii (x.2:Nat)),.aaF,.aaF,.aaF,.aaF,.aaF,.aaF,.aaF,.aaF,.aaF,.aaF,.aaF,.aaF,.aaF,.aaF,.aaF,.aaF,.aaF,.aaF,.aaF,.aaF,.aaF,.aaF,.aaF,.aaF,.aaF,.aaF,.aaF,.aaF,.aaF,.aaF,.aaF,.aaF,.aaF,.aaF,.aaF,.aaF,.aaF,.aaF,.aaF,.aaF,.aaF,.aaF,.aaF,.aaF,.aaF,.aaF,.aaF,.aaF,.aaF,.aaF,.aaF,.aaF,.aaF,.aaF,.aaF,.aaF,.aaF,.aaF,.aaF,.aaF,.aaF,.aaF]/\Γ=[.box 203 [.v (ii 0),.v (ii 0),.v (sv []),.v (ii 0)]]/\x.2<=s.length/\s.length < x.1+x.2/\run s dH x.1 x.2=e) (s.length+1,a) ?_ ?_
    ·exact ⟨_,_,Wk.aw al,rfl,rfl,by simp only;omega,by simp only;omega,he⟩
    ·rintro ⟨f,b⟩ _ _ ⟨rfl,rfl,hb,hf,h⟩;simp only at hb hf h
     cases f with
     | zero=>omega
     | succ f =>
     rw [run] at h
     cases zw:s[b]? with
     | none =>
      rw [zw] at h;simp only at h;subst h;have kX:s.length<=b:=List.getElem?_eq_none_iff.1 zw
      have hd:decide ((b:Int) < (s.length:Int))=false:=by simpa using kX
      refine ab ?_;refine aU ?_;exact ⟨_,_,Wk.aw al,rfl,rfl⟩
     | some cb =>
      rw [zw] at h;simp only at h;have pC:b < s.length:=(List.getElem?_eq_some_iff.1 zw).1
      have hd:decide ((b:Int) < (s.length:Int))=true:=by simpa using pC
      have hp:=DI cb
      cases hn:dH cb with
      | true =>
       rw [hn] at hp;rw [if_pos hn] at h;refine ab ?_;refine U [] (hp) ?_;exact ⟨(f,b+1),⟨_,_,Wk.aw al,rfl,rfl,pC,by simp only;omega,h⟩,by simp⟩
      | false =>
       rw [hn] at hp;rw [if_neg (by rw [hn];decide)] at h;subst h;refine ab ?_;refine U [] (hp) ?_;refine aU ?_;exact ⟨_,_,Wk.aw al,rfl,rfl⟩
   ·rintro _ _ ⟨rfl,rfl⟩;obtain ⟨_,h1,h2⟩:=W6;refine ab ?_;rw [hw];have J5:=iO words w (by decide)
    cases hcw:words.contains w with
    | true =>
     rw [hcw] at J5;refine GW.draw (.q 1 (.q 2 (.a 0 (.a 3 .nil)))) (by kernel_rfl) (by kernel_rfl) ?_;refine aj ?_;refine az [] (wq) ?_;refine az [] (J5) ?_;refine ab ?_;refine oI ?_;rw [if_pos rfl];exact ⟨rfl,rfl⟩
    | false =>
     rw [hcw] at J5;refine GW.draw (.q 1 (.q 2 (.a 0 (.a 3 .nil)))) (by kernel_rfl) (by kernel_rfl) ?_;refine aj ?_;refine az [] (wq) ?_;refine az [] (J5) ?_;refine ab ?_;refine oI ?_;rw [if_neg (by decide)];exact ⟨rfl,rfl⟩
  | false =>
   rw [hsc] at iC;rw [if_neg (by decide)];refine ai Tryz.func220 Tryz.ntmps220 ?_;refine U [] (lW) ?_;refine U [] (iC) ?_;refine U [] (Ki) ?_;refine GW.range (bB.map fun s=>[GV.v (sv s)]).length (fun k fr Γ=>fr=[.v (sv s),.v (ii (a:Nat)),.aaF,.aaF,.loc 0 0,.aaF,.aaF,.aaF,.aaF,.aaF,.aaF,.aaF,.aaF,.aaF,.aaF,.aaF,.aaF,.aaF,.aaF,.aaF,.aaF,.aaF,.aaF,.aaF,.aaF,.aaF,.aaF,.aaF,.aaF,.aaF,.aaF,.aaF,.aaF,.aaF,.aaF,.aaF,.aaF,.aaF,.aaF,.aaF,.aaF,.aaF,.aaF,.aaF,.aaF,.aaF,.aaF,.aaF,.aaF,strs bB,.v (ii ((bB.map fun s=>[GV.v (sv s)]).length:Int)),.v (ii (k:Nat)),.aaF,.aaF,.aaF,.aaF,.aaF,.aaF,.aaF,.aaF,.aaF,.aaF,.aaF,.aaF,.aaF,.aaF,.aaF,.aaF,.aaF]/\Γ=[.box 203 [.v (ii 0),.v (ii 0),.v (sv []),.v (ii 0)]]/\(bB.take k).find? (bo s a)=none) ?_ (by decide) ?_ ?_ ?_
   ·exact ⟨_,_,Wk.aw al,rfl,rfl,rfl⟩
   ·rintro k _ _ ⟨rfl,rfl,_⟩;exact ⟨rfl,rfl,rfl⟩
   ·rintro k _ _ hk ⟨rfl,rfl,hf⟩
    have hk:k < bB.length:=by simpa using hk
    have hx:bB[k]?=some bB[k]:=by simp [hk]
    have hr:(bB.map fun s=>[GV.v (sv s)])[k]?=some [.v (sv bB[k])]:=by simp [hk]
    have zF:=HM _ (getElem_mem hk);generalize bB[k]=x at *;have mP:=oe s x a ae zF ae
    cases hb:bo s a x with
    | true =>
     rw [hb] at mP;have TS:=Ma hf hx hb;refine ab ?_;refine U [] (mP) ?_;refine oI ?_;rw [TS];exact ⟨rfl,rfl⟩
    | false =>
     rw [hb] at mP;refine ab ?_;refine U [] (mP) ?_;exact ⟨rfl,rfl,_,_,Wk.aw al,rfl,rfl,L9 hf hx hb⟩
   ·rintro _ _ ⟨rfl,rfl,hf⟩
    have hf:bB.find? (bo s a)=none:=by
     rw [take_of_length_le (by simp)] at hf;exact hf
    refine ab ?_;refine oI ?_;rw [hf];exact ⟨rfl,rfl⟩
theorem Qb {s:ah} {a:Nat} {c:UInt8} (hc:s[a]?=some c):a<=(iq s a c).2/\(iq s a c).2<=s.length:=by
 have aq:a < s.length:=(List.getElem?_eq_some_iff.1 hc).1;unfold iq;split
 ·exact (wC s (s.length+1) 0 a ae ae).2
 ·split
  ·exact (o0 s dH (s.length+1) a ae ae).2
  ·split
   ·rename_i x hx;have:=iZ (List.find?_some hx);exact ⟨Nat.le_add_right _ _,this⟩
   ·exact ⟨Nat.le_refl _,by omega⟩
theorem Na (s:ah) (l:List Tok) (hs:s.length<=1000000000000) (h:Go.Sp.ic s=some l) :
  GF Tryz.prog 191 [.v (sv s)] [] (Go.Xg.ic l) []:=by
 rw [Go.Sp.ic] at h;have ZT:=NP s 0 ae (Nat.zero_le _);have qb:=yY s (s.length+1) 0 (Nat.zero_le _);generalize hS:skip s (s.length+1) 0=R at *;refine ai Tryz.func191 Tryz.ntmps191 ?_;refine ma ?_;refine ab ?_;refine U [] (ZT) ?_;refine GW.loop (fun x:Nat × Nat × List Tok=>x.1) (fun x fr Γ=>∃ n rows,fr=[.v (sv s),.aaF,.aaF,.vec 0 n,.v (ii (x.2.1:Nat)),.aaF,.aaF,.aaF,.aaF,.aaF,.aaF,.aaF,.aaF,.aaF,.aaF,.aaF,.aaF,.aaF,.aaF,.aaF,.aaF,.aaF,.aaF,.aaF,.aaF,.aaF,.aaF,.aaF,.aaF,.aaF,.aaF,.aaF,.aaF,.aaF,.aaF]/\Γ=[.vec 203 4 0 rows]/\rows.length=n/\rows=x.2.2.map cU/\n+x.1<=s.length+2/\x.2.1<=s.length/\pS s x.1 x.2.1 x.2.2=some l) (s.length+2,R.1,[]) ?_ ?_
 ·exact ⟨_,_,Wk.aw al,0,[],rfl,rfl,rfl,rfl,by simp,qb.2,h⟩
 ·rintro ⟨f,a,acc⟩ _ _ ⟨n,rows,rfl,rfl,hn,bp,rh,ha,h⟩;simp only at bp rh ha h
  cases f with
  | zero=>simp [pS] at h
  | succ f =>
  rw [pS] at h
  cases hc:s[a]? with
  | none =>
   rw [hc] at h;simp only at h;cases h;have kX:s.length<=a:=List.getElem?_eq_none_iff.1 hc
   have hd:decide ((a:Int) < (s.length:Int))=false:=by simpa using kX
   subst bp;refine ab ?_;refine aU ?_;refine ab ?_;refine GW.wk (Wk.iv (t:=2) rfl rfl rfl hn) ?_;exact ao
  | some c =>
   rw [hc] at h;simp only at h;have aq:a < s.length:=(List.getElem?_eq_some_iff.1 hc).1
   have hd:decide ((a:Int) < (s.length:Int))=true:=by simpa using aq
   have oR:=Qb hc;have gM:=Pn s a c ae hc;generalize iq s a c=tk at *;have Yf:=NP s tk.2 ae oR.2;have aaC:=yY s (s.length+1) tk.2 oR.2;generalize skip s (s.length+1) tk.2=R2 at *;refine ab ?_;refine U [] (gM) ?_;refine ea ?_;refine ab ?_;refine U [] (Yf) ?_;exact ⟨(f,R2.1,acc++[tk.1]),⟨_,_,(Wk.cut (n:=1) (Nat.le_of_ble_eq_true rfl) rfl).trans (Wk.aw al),_,_,rfl,rfl,by simp [hn],by rw [List.map_append,bp];rfl,by simp only;omega,by simp only;omega,h⟩,by simp⟩
end Go.Xg
namespace Go.Xg
open Go.RowKit Go.Xw Go.Proofs
open Go.Xp (Tok Nd T bb one levels)
open Go.Sp
attribute [local irreducible] GW GL GO YG GC GA aS aW
structure EB (f:Nat):Prop where
 expr:∀ d p t q,p.ok->d+f<=4611686018427387904->mE f (.expr d) p=some (t,q)->GF Tryz.prog 260 [.loc 0 0,.v (ii (d:Nat))] [bS p] (.agg (cT t)) [bS q]
 level:∀ k d p t q,p.ok->k<=9->d+f<=4611686018427387904->mE f (.level k d) p=some (t,q)->GF Tryz.prog 280 [.loc 0 0,.v (ii (k:Nat)),.v (ii (d:Nat))] [bS p] (.agg (cT t)) [bS q]
 operand:∀ d p t q,p.ok->d+f<=4611686018427387904->mE f (.operand d) p=some (t,q)->GF Tryz.prog 294 [.loc 0 0,.v (ii (d:Nat))] [bS p] (.agg (cT t)) [bS q]
 named:∀ a s d p t q,p.ok->d+f<=4611686018427387904->mE f (.named a s d) p=some (t,q)->GF Tryz.prog 301 [.loc 0 0,.v (ii a),.v (sv s),.v (ii (d:Nat))] [bS p] (.agg (cT t)) [bS q]
 list:∀ d p l q,p.ok->d+f<=4611686018427387904->mL f d p=some (l,q)->GF Tryz.prog 305 [.loc 0 0,.v (ii (d:Nat))] [bS p] (.sl 6 (aL l)) [bS q]
theorem Tk {f:Nat} (C:EB f) (d:Nat) (p:RS) (t:T) (q:RS) (hp:p.ok) (hd:d+(f+1)<=4611686018427387904) (h:mE (f+1) (.expr d) p=some (t,q)) :
  GF Tryz.prog 260 [.loc 0 0,.v (ii (d:Nat))] [bS p] (.agg (cT t)) [bS q]:=by
 rw [mE] at h;refine ai Tryz.func260 Tryz.ntmps260 ?_;refine U [0] (ub p d hp) ?_;refine U [0] (C.level 0 d _ t q ((nD hp d).ok hp) ae ae h) ?_;exact dd
theorem IZ {k:Nat} (hk:k < 9):(levels.map fun l=>[strs l])[k]?=some [strs (levels.getD k [])]:=by
 have:k < levels.length:=hk;rw [getElem?_map,getElem?_eq_getElem this,List.getD_eq_getElem?_getD,getElem?_eq_getElem this];rfl
theorem CH:∀ k,k < 9->(levels.getD k []).length<=1099511627776:=by decide
abbrev zT:List GV:=[.v (ii 0),.v (ii 0),.v (ii 0),.v (sv []),.v (.slice none 0 0),.v (.slice none 0 0)]
theorem Se {f:Nat} (C:∀ f',f'<=f->EB f') (k d:Nat) (p:RS) (t:T) (q:RS) (hp:p.ok) (hk:k<=9) (hd:d+(f+1)<=4611686018427387904) (h:mE (f+1) (.level k d) p=some (t,q)) :
  GF Tryz.prog 280 [.loc 0 0,.v (ii (k:Nat)),.v (ii (d:Nat))] [bS p] (.agg (cT t)) [bS q]:=by
 rw [mE] at h
 by_cases Bz:k=9
 ·subst Bz;rw [if_pos rfl] at h;refine ai Tryz.func280 Tryz.ntmps280 ?_;refine U [] (jk) ?_;refine U [0] ((C f (Nat.le_refl _)).operand (d+1) p t q hp ae h) ?_;exact dd
 ·rw [if_neg Bz] at h
  have XZ:((k:Int)==9)=false:=by simp;omega
  cases he:mE f (.level (k+1) d) p with
  | none=>rw [he] at h;cases h
  | some r =>
   obtain ⟨out,p1⟩:=r;rw [he] at h;simp only at h;have ji:=((ue f).1 _ _ _ _ hp he).ok hp;refine ai Tryz.func280 Tryz.ntmps280 ?_;refine U [] (jk) ?_;refine U [0] ((C f (Nat.le_refl _)).level (k+1) d p out p1 hp ae ae he) ?_;refine GW.loop (fun x:Nat × T × RS=>x.1) (fun x fr Γ=>fr=[.loc 0 0,.v (ii (k:Nat)),.v (ii (d:Nat)),.aaF,.aaF,.aaF,.loc 1 0,.loc 2 0,.aaF,.aaF,.aaF,.aaF,.aaF,.aaF,.aaF,.aaF,.aaF,.aaF,.aaF,.aaF,.aaF,.aaF,.aaF,.aaF,.aaF,.aaF,.aaF,.aaF,.aaF,.aaF,.aaF,.aaF,.aaF,.aaF,.aaF,.aaF,.aaF,.aaF,.aaF,.aaF,.aaF,.aaF,.aaF,.aaF,.aaF,.aaF,.aaF,.aaF,.aaF,.aaF,.aaF,.aaF,.aaF,.aaF,.aaF,.aaF,.aaF,.aaF,.aaF,.aaF,.aaF,.aaF,.aaF,.aaF,.aaF,.aaF]/\Γ=[bS x.2.2,.box 94 zT,.box 94 (cT x.2.1)]/\x.2.2.ok/\x.1<=f/\mE x.1 (.loop k d x.2.1) x.2.2=some (t,q)) (f,out,p1) ?_ ?_
   ·exact ⟨_,_,Wk.aw al,rfl,rfl,ji,Nat.le_refl _,h⟩
   ·rintro ⟨g,out,p⟩ _ _ ⟨rfl,rfl,hp,MJ,h⟩;simp only at hp MJ h
    cases g with
    | zero=>simp [mE] at h
    | succ g =>
    rw [mE] at h
    have hk:k < 9:=by omega
    by_cases hc:p.code=0
    ·have df:(p.code==0)=true:=by simpa using hc
     have QR:=IZ hk
     by_cases hit:(levels.getD k []).contains (p.sign 0)=true
     ·rw [if_pos ⟨hc,hit⟩] at h
      cases ht:p.l[p.i]? with
      | none=>rw [ht] at h;cases h
      | some tk =>
       rw [ht] at h;simp only at h;have aq:=(List.getElem?_eq_some_iff.1 ht).1;have hr:=jT ht;have cB:=hp.2
       cases hb:mE g (.level (k+1) d) p.next with
       | none=>rw [hb] at h;cases h
       | some r =>
        obtain ⟨b,p2⟩:=r;rw [hb] at h;simp only at h;have cZ:=(dj aq).ok hp;have dA:=((ue g).1 _ _ _ _ cZ hb).ok cZ;refine ab ?_;refine GW.draw (.q 0 (.q 1 (.q 2 (.q 3 (.q 4 (.q 5 (.q 7 (.q 10 (.a 6 (.q 8 (.q 9 (.a 11 (.a 12 (.q 13 .nil)))))))))))))) (by kernel_rfl) (by kernel_rfl) ?_;refine aj ?_;refine bu [] (jk) ?_;refine bu [0] (cR p 0 hp (by decide)) ?_;refine bu [] (iO (levels.getD k []) (p.sign 0) (CH k hk)) ?_;refine ab ?_;refine GW.draw (.q 0 (.q 1 (.q 2 (.q 3 (.q 4 (.q 5 (.q 6 (.q 7 (.q 8 (.q 9 (.a 10 (.a 11 .nil)))))))))))) (by kernel_rfl) (by kernel_rfl) ?_;refine aj ?_;refine ab ?_;refine GW.draw (.q 0 (.q 1 (.q 2 (.q 3 (.q 4 (.q 5 (.q 6 (.q 7 (.q 8 (.a 9 (.a 10 (.a 11 (.a 12 .nil))))))))))))) (by kernel_rfl) (by kernel_rfl) ?_;refine aj ?_;refine az [0] ((C g ae).level (k+1) d p.next b p2 cZ ae ae hb) ?_;refine eC ?_;refine aj ?_;refine tF [] (fK 6 tk.at_ tk.s [out,b] _ nE) ?_;refine G2 ?_;refine aj ?_;refine ab ?_;exact ⟨(g,one 6 tk.at_ tk.s [out,b],p2),⟨_,_,(Wk.cut (n:=3) (Nat.le_of_ble_eq_true rfl) rfl).trans (Wk.aw al),rfl,rfl,dA,by omega,h⟩,by simp⟩
     ·have hit:(levels.getD k []).contains (p.sign 0)=false:=by simpa using hit
      rw [if_neg (by rw [hit];simp)] at h
      obtain ⟨rfl,rfl⟩:out=t/\p=q:=by simpa using h
      refine ab ?_;refine GW.draw (.q 0 (.q 1 (.q 2 (.q 3 (.q 4 (.q 5 (.q 7 (.q 10 (.a 6 (.q 8 (.q 9 (.a 11 (.a 12 (.q 13 .nil)))))))))))))) (by kernel_rfl) (by kernel_rfl) ?_;refine aj ?_;refine bu [] (jk) ?_;refine bu [0] (cR p 0 hp (by decide)) ?_;refine bu [] (iO (levels.getD k []) (p.sign 0) (CH k hk)) ?_;refine ab ?_;refine aU ?_;exact oH
    ·have df:(p.code==0)=false:=by simpa using hc
     rw [if_neg (fun hh=>hc hh.1)] at h
     obtain ⟨rfl,rfl⟩:out=t/\p=q:=by simpa using h
     refine ab ?_;refine GW.draw (.q 0 (.q 1 (.q 2 (.q 3 (.q 4 (.q 5 (.q 7 (.q 10 (.a 6 (.q 8 (.q 9 (.a 11 (.a 12 (.q 13 .nil)))))))))))))) (by kernel_rfl) (by kernel_rfl) ?_;refine aj ?_;refine ab ?_;refine aU ?_;exact oH
end Go.Xg
namespace Go.Xg
open Go.RowKit Go.Xw Go.Proofs
open Go.Xp (Tok Nd T bb one levels)
open Go.Sp
attribute [local irreducible] GW GL GO YG GC GA aS aW
theorem Sj {f:Nat} (C:EB f) (a:Int) (s:ah) (d:Nat) (p:RS) (t:T) (q:RS) (hp:p.ok) (hd:d+(f+1)<=4611686018427387904) (h:mE (f+1) (.named a s d) p=some (t,q)) :
  GF Tryz.prog 301 [.loc 0 0,.v (ii a),.v (sv s),.v (ii (d:Nat))] [bS p] (.agg (cT t)) [bS q]:=by
 rw [mE] at h
 by_cases h1:p.sign 0=[91]
 ·rw [if_pos h1] at h
  have cv:(p.sign 0==[91])=true:=by simp [h1]
  have aq:=(fj h1 (by decide)).1;have cB:=hp.2;have cZ:=(iK h1 (by decide)).ok hp
  cases he:mE f (.expr (d+1)) p.next with
  | none=>rw [he] at h;cases h
  | some r =>
   obtain ⟨b,p1⟩:=r;rw [he] at h;cases h;have ji:=((ue f).1 _ _ _ _ cZ he).ok cZ;refine ai Tryz.func301 Tryz.ntmps301 ?_;refine U [0] (cR p 0 hp (by decide)) ?_;refine U [0] (C.expr (d+1) p.next b p1 cZ ae he) ?_;refine U [0] (cQ p1 [93] ji (by decide)) ?_;refine bC ?_;refine ab ?_;refine U [] (fK 3 a s [b] _ nE) ?_;exact dd
 ·rw [if_neg h1] at h
  have cv:(p.sign 0==[91])=false:=by simpa using h1
  by_cases h2:p.sign 0=[40]
  ·rw [if_pos h2] at h
   have p7:(p.sign 0==[40])=true:=by simp [h2]
   have aq:=(fj h2 (by decide)).1;have cB:=hp.2;have cZ:=(iK h2 (by decide)).ok hp
   cases he:mL f (d+1) p.next with
   | none=>rw [he] at h;cases h
   | some r =>
    obtain ⟨l,p1⟩:=r;rw [he] at h;cases h;refine ai Tryz.func301 Tryz.ntmps301 ?_;refine U [0] (cR p 0 hp (by decide)) ?_;refine U [0] (C.list (d+1) p.next l q cZ ae he) ?_;refine U [] (fK 4 a s l _ rfl) ?_;exact dd
  ·rw [if_neg h2] at h
   have p7:(p.sign 0==[40])=false:=by simpa using h2
   cases h;refine ai Tryz.func301 Tryz.ntmps301 ?_;refine U [0] (cR p 0 hp (by decide)) ?_;refine U [] (fK 2 a s [] [] rfl) ?_;exact dd
theorem aM (l:List T):(aL l).length=l.length:=by
 induction l with
 | nil=>rfl
 | cons a l ih=>simp [aL,ih]
theorem xr (l:List T) (a:T):aL (l++[a])=aL l++[cT a]:=by
 induction l with
 | nil=>simp [aL,uX]
 | cons b l ih=>simp [aL,ih]
theorem UI {f:Nat} (C:∀ f',f'<=f->EB f') (d:Nat) (p:RS) (l:List T) (q:RS) (hp:p.ok) (hd:d+(f+1)<=4611686018427387904) (h:mL (f+1) d p=some (l,q)) :
  GF Tryz.prog 305 [.loc 0 0,.v (ii (d:Nat))] [bS p] (.sl 6 (aL l)) [bS q]:=by
 rw [mL] at h
 by_cases h1:p.sign 0=[41]
 ·rw [if_pos h1] at h
  have cv:(!(p.sign 0==[41]))=false:=by simp [h1]
  cases h;refine ai Tryz.func305 Tryz.ntmps305 ?_;refine ma ?_;refine ab ?_;refine U [0] (cR p 0 hp (by decide)) ?_;refine U [0] (cQ p [41] hp (by decide)) ?_;refine GW.wk (Wk.iv (t:=4) rfl rfl rfl rfl) ?_;exact ao
 ·rw [if_neg h1] at h
  have cv:(!(p.sign 0==[41]))=true:=by simpa using h1
  cases he:mE f (.expr d) p with
  | none=>rw [he] at h;cases h
  | some r =>
   obtain ⟨a,p1⟩:=r;rw [he] at h;simp only at h;have ji:=((ue f).1 _ _ _ _ hp he).ok hp;refine ai Tryz.func305 Tryz.ntmps305 ?_;refine ma ?_;refine ab ?_;refine U [0] (cR p 0 hp (by decide)) ?_;refine U [0] ((C f (Nat.le_refl _)).expr d p a p1 hp ae he) ?_;refine ea ?_;refine ab ?_;refine GW.loop (fun x:Nat × List T × RS=>x.1) (fun x fr Γ=>∃ n rows,fr=[.loc 0 0,.v (ii (d:Nat)),.aaF,.aaF,.aaF,.vec 1 n,.aaF,.aaF,.aaF,.aaF,.aaF,.aaF,.aaF,.aaF,.aaF,.aaF,.aaF,.aaF,.aaF,.aaF,.aaF,.aaF,.aaF,.aaF,.aaF,.aaF,.aaF,.aaF,.aaF,.aaF,.aaF,.aaF,.aaF,.aaF,.aaF]/\Γ=[bS x.2.2,.vec 94 6 0 rows]/\rows.length=n/\rows=aL x.2.1/\n<=x.2.2.i+1/\x.2.2.ok/\x.1<=f/\s9 x.1 d x.2.1 x.2.2=some (l,q)) (f,[a],p1) ?_ ?_
   ·exact ⟨_,_,Wk.aw al,_,_,rfl,rfl,rfl,(by simp only [aL,uX];rfl),(by show 1<=p1.i+1;omega),ji,Nat.le_refl _,h⟩
   ·rintro ⟨g,acc,p⟩ _ _ ⟨n,rows,rfl,rfl,hn,bp,TY,hp,MJ,h⟩;simp only at bp TY hp MJ h
    cases g with
    | zero=>simp [s9] at h
    | succ g =>
    rw [s9] at h;have cB:=hp.2;have Dz:=hp.1
    by_cases h2:p.sign 0=[44]
    ·rw [if_pos h2] at h
     have p7:(p.sign 0==[44])=true:=by simp [h2]
     have aq:=(fj h2 (by decide)).1;have cZ:=(iK h2 (by decide)).ok hp
     cases hb:mE g (.expr d) p.next with
     | none=>rw [hb] at h;cases h
     | some r =>
      obtain ⟨b,p2⟩:=r;rw [hb] at h;simp only at h;have QY:=(ue g).1 _ _ _ _ cZ hb;have dA:=QY.ok cZ;have rI:p.i+1<=p2.i:=QY.2.2.2;refine ab ?_;refine U [0] (cR p 0 hp (by decide)) ?_;refine U [0] ((C g ae).expr d p.next b p2 cZ ae hb) ?_;refine ea ?_;refine ab ?_;exact ⟨(g,acc++[b],p2),⟨_,_,Wk.aw al,_,_,rfl,rfl,by simp [hn],by rw [xr,bp],by simp only;omega,dA,by simp only;omega,h⟩,by simp⟩
    ·rw [if_neg h2] at h
     have p7:(p.sign 0==[44])=false:=by simpa using h2
     obtain ⟨rfl,rfl⟩:acc=l/\p.aE [41]=q:=by simpa using h
     subst bp;refine ab ?_;refine U [0] (cR p 0 hp (by decide)) ?_;refine aU ?_;refine ab ?_;refine U [0] (cQ p [41] hp (by decide)) ?_;refine GW.wk (Wk.iv (t:=4) rfl rfl rfl hn) ?_;exact ao
theorem NA {f:Nat} (C:EB f) (d:Nat) (p:RS) (t:T) (q:RS) (hp:p.ok) (hd:d+(f+1)<=4611686018427387904) (h:mE (f+1) (.operand d) p=some (t,q)) :
  GF Tryz.prog 294 [.loc 0 0,.v (ii (d:Nat))] [bS p] (.agg (cT t)) [bS q]:=by
 rw [mE] at h;have ke:=(nD hp d).ok hp;have wb:=ub p d hp;generalize p.deep d=p1 at *
 try simp only at h
 obtain ⟨Dz,cB⟩:=id ke
 by_cases hc:p1.code=0
 ·rw [if_pos hc] at h
  have df:(p1.code != 0)=false:=by simpa using hc
  cases ht:p1.l[p1.i]? with
  | none =>
   rw [ht] at h;cases h;have kX:p1.l.length<=p1.i:=List.getElem?_eq_none_iff.1 ht
   have XV:decide (((p1.l.map cU).length:Int)<=(p1.i:Int))=true:=by simp;omega
   refine ai Tryz.func294 Tryz.ntmps294 ?_;refine U [0] (wb) ?_;refine GW.draw (.q 0 (.q 1 (.q 2 (.q 3 (.q 4 (.q 5 (.q 6 (.q 7 (.q 8 (.q 9 (.q 10 (.q 11 (.q 12 (.q 13 (.q 14 (.q 15 (.q 16 .nil))))))))))))))))) (by kernel_rfl) (by kernel_rfl) ?_;refine aj ?_;refine ab ?_;refine U [0] (kl p1 ke) ?_;refine U [0] (lC p1 7 p1.place) ?_;refine qH ?_;exact ⟨_,iL,rfl,rfl⟩
  | some tk =>
   rw [ht] at h;simp only at h;have aq:p1.i < p1.l.length:=(List.getElem?_eq_some_iff.1 ht).1
   have XV:decide (((p1.l.map cU).length:Int)<=(p1.i:Int))=false:=by simp;omega
   have hr:=jT ht;have cZ:=(dj aq).ok ke;refine ai Tryz.func294 Tryz.ntmps294 ?_;refine U [0] (wb) ?_;refine GW.draw (.q 0 (.q 1 (.q 2 (.q 3 (.q 4 (.q 5 (.q 6 (.q 7 (.q 8 (.q 9 (.q 10 (.q 11 (.q 12 (.q 13 (.q 14 (.q 15 (.q 16 .nil))))))))))))))))) (by kernel_rfl) (by kernel_rfl) ?_;refine aj ?_;refine ab ?_;refine GW.draw (.q 0 (.q 1 (.q 2 (.q 3 (.q 4 (.q 5 (.q 6 (.q 7 (.q 8 (.q 9 (.a 10 (.a 11 .nil)))))))))))) (by kernel_rfl) (by kernel_rfl) ?_;refine aj ?_;refine ab ?_
   by_cases k1:tk.kind=1
   ·rw [if_pos k1] at h;cases h
    have k1':(tk.kind==1)=true:=by simpa using k1
    refine ab ?_;refine qH ?_;exact ⟨_,iL,rfl,rfl⟩
   ·rw [if_neg k1] at h
    have k1':(tk.kind==1)=false:=by simpa using k1
    by_cases k2:tk.kind=2
    ·rw [if_pos k2] at h
     have k2':(tk.kind==2)=true:=by simpa using k2
     refine ab ?_;refine U [0] (x6 p1 ke) ?_;refine U [0] (C.named tk.at_ p1.name.1 d p1.name.2 t q ((qE ke).ok ke) ae h) ?_;exact dd
    ·rw [if_neg k2] at h
     have k2':(tk.kind==2)=false:=by simpa using k2
     by_cases s3:tk.s=[45]\/tk.s=[33]\/tk.s=[126]
     ·rw [if_pos s3] at h
      cases he:mE f (.operand (d+1)) p1.next with
      | none=>rw [he] at h;cases h
      | some r =>
       obtain ⟨a,p2⟩:=r;rw [he] at h;cases h
       have s3':(tk.s==[45])=true\/((tk.s==[45])=false/\(tk.s==[33])=true)\/((tk.s==[45])=false/\(tk.s==[33])=false/\(tk.s==[126])=true):=by
        rcases s3 with s3 | s3 | s3
        ·exact .inl (by simp [s3])
        ·exact .inr (.inl (by simp [s3]))
        ·exact .inr (.inr (by simp [s3]))
       refine ab ?_
       rcases s3' with e1 | ⟨e1,e2⟩ | ⟨e1,e2,e3⟩
       all_goals
        refine ab ?_;refine GW.draw (.q 0 (.q 1 (.q 2 (.q 3 (.q 4 (.q 5 (.q 6 (.a 7 (.a 8 (.a 9 (.a 10 .nil))))))))))) (by kernel_rfl) (by kernel_rfl) ?_;refine aj ?_;refine az [0] (C.operand (d+1) p1.next a q cZ ae he) ?_;refine eC ?_;refine aj ?_;refine tF [] (fK 5 tk.at_ tk.s [a] _ nE) ?_;refine G2 ?_;refine aj ?_;exact oH
     ·rw [if_neg s3] at h
      have e1:(tk.s==[45])=false:=by simp at s3;simpa using s3.1
      have e2:(tk.s==[33])=false:=by simp at s3;simpa using s3.2.1
      have e3:(tk.s==[126])=false:=by simp at s3;simpa using s3.2.2
      by_cases s4:tk.s=[40]
      ·rw [if_pos s4] at h
       have s4':(tk.s==[40])=true:=by simp [s4]
       cases he:mE f (.expr (d+1)) p1.next with
       | none=>rw [he] at h;cases h
       | some r =>
        obtain ⟨a,p2⟩:=r;rw [he] at h;cases h;have dA:=((ue f).1 _ _ _ _ cZ he).ok cZ;refine ab ?_;refine U [0] (C.expr (d+1) p1.next t p2 cZ ae he) ?_;refine U [0] (cQ p2 [41] dA (by decide)) ?_;exact dd
      ·rw [if_neg s4] at h
       have s4':(tk.s==[40])=false:=by simpa using s4
       cases h;refine ab ?_;refine U [0] (lC p1 7 tk.at_) ?_;refine qH ?_;exact ⟨_,iL,rfl,rfl⟩
 ·rw [if_neg hc] at h
  have df:(p1.code != 0)=true:=by simpa using hc
  cases h;refine ai Tryz.func294 Tryz.ntmps294 ?_;refine U [0] (wb) ?_;refine GW.draw (.q 0 (.q 1 (.q 2 (.q 3 (.q 4 (.q 5 (.q 6 (.q 7 (.q 8 (.q 9 (.q 10 (.q 11 (.q 12 (.q 13 (.q 14 (.q 15 (.q 16 .nil))))))))))))))))) (by kernel_rfl) (by kernel_rfl) ?_;refine aj ?_;refine ab ?_;refine U [0] (kl p1 ke) ?_;refine U [0] (lC p1 7 p1.place) ?_;refine qH ?_;exact ⟨_,iL,rfl,rfl⟩
theorem rds (f:Nat):EB f:=by
  induction f using Nat.strongRecOn with
  | _ f ih =>
   cases f with
   | zero=>exact ⟨fun d p t q _ _ h=>by simp [mE] at h,fun k d p t q _ _ _ h=>by simp [mE] at h,fun d p t q _ _ h=>by simp [mE] at h,fun a s d p t q _ _ h=>by simp [mE] at h,fun d p l q _ _ h=>by simp [mL] at h⟩
   | succ f =>
    have C:=ih f (Nat.lt_succ_self f)
    have Cs:∀ f',f'<=f->EB f':=fun f' h=>ih f' (Nat.lt_succ_of_le h)
    exact ⟨fun d p t q hp hd h=>Tk C d p t q hp hd h,fun k d p t q hp hk hd h=>Se Cs k d p t q hp hk hd h,fun d p t q hp hd h=>NA C d p t q hp hd h,fun a s d p t q hp hd h=>Sj C a s d p t q hp hd h,fun d p l q hp hd h=>UI Cs d p l q hp hd h⟩
end Go.Xg
namespace Go.Xg
open Go.RowKit Go.Xw Go.Proofs
open Go.Xp (Tok Nd T bb one levels fY dF dY dh cY)
open Go.Sp
attribute [local irreducible] GW GL GO YG GC GA aS aW
structure Ls (f:Nat):Prop where
 block:∀ d p t q,p.ok->d+f<=1099511627776->mS f (.block d) p=some (t,q)->GF Tryz.prog 192 [.loc 0 0,.v (ii (d:Nat))] [bS p] (.agg (cT t)) [bS q]
 stmt:∀ d p t q,p.ok->d+f<=1099511627776->mS f (.stmt d) p=some (t,q)->GF Tryz.prog 226 [.loc 0 0,.v (ii (d:Nat))] [bS p] (.agg (cT t)) [bS q]
 cond:∀ a d p t q,p.ok->p.i < p.l.length->d+f<=1099511627776->mS f (.cond a d) p=some (t,q)->GF Tryz.prog 261 [.loc 0 0,.v (ii a),.v (ii (d:Nat))] [bS p] (.agg (cT t)) [bS q]
theorem yb (d:Nat) (p:RS) (t:T) (q:RS) (hp:p.ok) (hd:d<=1099511627777) (h:mX d p=some (t,q)):GF Tryz.prog 260 [.loc 0 0,.v (ii (d:Nat))] [bS p] (.agg (cT t)) [bS q] :=
 (rds (fe p)).expr d p t q hp (by have:=hp.2;unfold fe;omega) h
theorem Kj (k a:Int) (s:ah):GF Tryz.prog 222 [.v (ii k),.v (ii a),.v (sv s),.v (.slice none 0 0)] [] (.agg [.v (ii k),.v (ii a),.v (ii 0),.v (sv s),ints [],.v (.slice none 0 0)]) []:=by
 refine ai Tryz.func222 Tryz.ntmps222 ?_;refine qH ?_;exact ⟨_,iL,rfl,rfl⟩
theorem RD {f:Nat} (C:∀ f',f'<=f->Ls f') (d:Nat) (p:RS) (t:T) (q:RS) (hp:p.ok) (hd:d+(f+1)<=1099511627776) (h:mS (f+1) (.block d) p=some (t,q)) :
  GF Tryz.prog 192 [.loc 0 0,.v (ii (d:Nat))] [bS p] (.agg (cT t)) [bS q]:=by
 rw [mS] at h;have ke:=(nD hp d).ok hp;have wb:=ub p d hp;generalize p.deep d=p1 at *
 try simp only at h
 have xS:=(eW ke (s:=[123]) (by decide)).ok ke
 cases he:mB f (d+1) [] (p1.aE [123]) with
 | none=>rw [he] at h;cases h
 | some r =>
  obtain ⟨l,q1⟩:=r;rw [he] at h;cases h;generalize cB:p1.place=pl;refine ai Tryz.func192 Tryz.ntmps192 ?_;refine U [0] (wb) ?_;refine U [0] (kl p1 ke) ?_;refine U [] (Kj 14 p1.place []) ?_;refine U [0] (cQ p1 [123] ke (by decide)) ?_;rw [cB];refine GW.wk (Wk.KB (i:=2) (o:=5) 94 6 rfl rfl) ?_;refine GW.loop (fun x:Nat × List T × RS=>x.1) (fun x fr Γ=>∃ n rows,fr=[.loc 0 0,.v (ii (d:Nat)),.aaF,.aaF,.loc 1 0,.loc 2 0,.aaF,.aaF,.aaF,.aaF,.aaF,.aaF,.aaF,.aaF,.aaF,.aaF,.aaF,.aaF,.aaF,.aaF,.aaF,.aaF,.aaF,.aaF,.aaF,.aaF,.aaF,.aaF,.aaF,.aaF,.aaF,.aaF,.aaF,.aaF,.aaF,.aaF]/\Γ=[bS x.2.2,.box 94 zT,.box 94 [.v (ii 14),.v (ii pl),.v (ii 0),.v (sv []),ints [],.vec 3 n],.vec 94 6 0 rows]/\rows.length=n/\rows=aL x.2.1/\n+x.1<=f/\x.2.2.ok/\mB x.1 (d+1) x.2.1 x.2.2=some (l,q1)) (f,[],p1.aE [123]) ?_ ?_
  ·exact ⟨_,_,Wk.aw al,0,[],rfl,rfl,rfl,rfl,by simp,xS,he⟩
  ·rintro ⟨g,acc,p⟩ _ _ ⟨n,rows,rfl,rfl,hn,bp,zC,hp,h⟩;simp only at bp zC hp h
   cases g with
   | zero=>simp [mB] at h
   | succ g =>
   rw [mB] at h
   by_cases hc:p.code=0
   ·have df:(p.code==0)=true:=by simpa using hc
    by_cases hs:p.sign 0=[125]
    ·rw [if_neg (fun hh=>hh.2 hs)] at h
     obtain ⟨rfl,rfl⟩:acc=l/\p=q1:=by simpa using h
     have nI:(!(p.sign 0==[125]))=false:=by simp [hs]
     subst bp;refine ab ?_;refine U [0] (cR p 0 hp (by decide)) ?_;refine aU ?_;refine ab ?_;refine GL.wk (Wk.yZ (i:=2) (o:=5) rfl rfl rfl rfl hn) ?_;refine bI ?_;refine U [0] (cQ p [125] hp (by decide)) ?_;exact dd
    ·rw [if_pos ⟨hc,hs⟩] at h
     have nI:(!(p.sign 0==[125]))=true:=by simpa using hs
     cases hb:mS g (.stmt (d+1)) p with
     | none=>rw [hb] at h;cases h
     | some r =>
      obtain ⟨a,p2⟩:=r;rw [hb] at h;simp only at h;have dA:=((Ku g).1 _ _ _ _ hp (fun a d' h=>by cases h) hb).ok hp;refine ab ?_;refine U [0] (cR p 0 hp (by decide)) ?_;refine GW.draw (.q 0 (.q 1 (.q 2 (.q 3 (.q 4 (.a 5 (.a 6 (.a 7 (.q 8 (.a 9 .nil)))))))))) (by kernel_rfl) (by kernel_rfl) ?_;refine aj ?_;refine az [0] ((C g ae).stmt (d+1) p a p2 hp ae hb) ?_;refine eC ?_;refine aj ?_;refine C1 ?_;refine aj ?_;refine ab ?_;exact ⟨(g,acc++[a],p2),⟨_,_,Wk.aw al,_,_,rfl,rfl,by simp [hn],by rw [xr,bp];rfl,by show n+1+g<=f;omega,dA,h⟩,by simp⟩
   ·have df:(p.code==0)=false:=by simpa using hc
    rw [if_neg (fun hh=>hc hh.1)] at h
    obtain ⟨rfl,rfl⟩:acc=l/\p=q1:=by simpa using h
    subst bp;refine ab ?_;refine aU ?_;refine ab ?_;refine GL.wk (Wk.yZ (i:=2) (o:=5) rfl rfl rfl rfl hn) ?_;refine bI ?_;refine U [0] (cQ p [125] hp (by decide)) ?_;exact dd
theorem Tc {f:Nat} (C:Ls f) (a:Int) (d:Nat) (p:RS) (t:T) (q:RS) (hp:p.ok) (aq:p.i < p.l.length) (hd:d+(f+1)<=1099511627776) (h:mS (f+1) (.cond a d) p=some (t,q)) :
  GF Tryz.prog 261 [.loc 0 0,.v (ii a),.v (ii (d:Nat))] [bS p] (.agg (cT t)) [bS q]:=by
 rw [mS] at h
 try simp only at h
 have cZ:=(dj aq).ok hp;have cB:=hp.2;have xS:=(eW cZ (s:=[40]) (by decide)).ok cZ
 cases he:mX (d+1) (p.next.aE [40]) with
 | none=>rw [he] at h;cases h
 | some r =>
 obtain ⟨e,p1⟩:=r;rw [he] at h;simp only at h;have ji:=(ow xS he).ok xS;have FK:=(eW ji (s:=[41]) (by decide)).ok ji
 cases hb:mS f (.block (d+1)) (p1.aE [41]) with
 | none=>rw [hb] at h;cases h
 | some r =>
 obtain ⟨b,p2⟩:=r;rw [hb] at h;simp only at h;have dA:=((Ku f).1 _ _ _ _ FK (fun a d' h=>by cases h) hb).ok FK;have Ub:=dA.2
 have key:∀ k:Int,(if k=9/\p2.sign 0=dY then match mS f (.block (d+1)) p2.next with
     | none=>none
     | some (b2,q)=>some (one k a [] [e,b,b2],q)
    else some (one k a [] [e,b],p2))=some (t,q)->p.ck=k->(k=9\/k=10)->((p.sign 0==[105,102])=true/\k=9)\/((p.sign 0==[105,102])=false/\k=10):=by
  intro k _ hk _;unfold RS.ck at hk;split at hk
  ·rename_i hs;exact .inl ⟨by rw [hs];rfl,hk.symm⟩
  ·rename_i hs;refine .inr ⟨?_,hk.symm⟩
   cases hq:(p.sign 0==[105,102]) with
   | false=>rfl
   | true=>exact absurd (eq_of_beq hq) hs
 have sL:p.ck=9\/p.ck=10:=by unfold RS.ck;split <;> simp
 have key:=key p.ck h rfl sL;generalize p.ck=k at h key;clear sL
 rcases key with ⟨hs,rfl⟩ | ⟨hs,rfl⟩
 ·by_cases eP:p2.sign 0=dY
  ·rw [if_pos ⟨rfl,eP⟩] at h
   have XT:(p2.sign 0==[101,108,115,101])=true:=by rw [eP];rfl
   have mi:=(fj eP (by decide)).1;have Yb:=(iK eP (by decide)).ok dA
   cases eB:mS f (.block (d+1)) p2.next with
   | none=>rw [eB] at h;cases h
   | some r =>
   obtain ⟨b2,p3⟩:=r;rw [eB] at h;cases h;refine ai Tryz.func261 Tryz.ntmps261 ?_;refine U [0] (cR p 0 hp (by decide)) ?_;refine U [0] (cQ p.next [40] cZ (by decide)) ?_;refine U [0] (yb (d+1) _ e p1 xS ae he) ?_;refine U [0] (cQ p1 [41] ji (by decide)) ?_;refine GW.draw (.q 0 (.q 1 (.q 2 (.q 3 (.a 4 (.a 5 (.q 6 .nil))))))) (by kernel_rfl) (by kernel_rfl) ?_;refine aj ?_;refine az [0] (C.block (d+1) _ b p2 FK ae hb) ?_;refine C3 ?_;refine aj ?_;refine ab ?_;refine U [0] (cR p2 0 dA (by decide)) ?_;refine gB [0] (C.block (d+1) _ b2 q Yb ae eB) ?_;refine ea ?_;refine ab ?_;refine GL.wk (Wk.iv (t:=57) rfl rfl rfl rfl) ?_;refine bI ?_;refine U [] (fK 9 a [] [e,b,b2] _ nE) ?_;exact dd
  ·rw [if_neg (fun hh=>eP hh.2)] at h
   have XT:(p2.sign 0==[101,108,115,101])=false:=by
    cases hq:(p2.sign 0==[101,108,115,101]) with
    | false=>rfl
    | true=>exact absurd (eq_of_beq hq) eP
   cases h;refine ai Tryz.func261 Tryz.ntmps261 ?_;refine U [0] (cR p 0 hp (by decide)) ?_;refine U [0] (cQ p.next [40] cZ (by decide)) ?_;refine U [0] (yb (d+1) _ e p1 xS ae he) ?_;refine U [0] (cQ p1 [41] ji (by decide)) ?_;refine GW.draw (.q 0 (.q 1 (.q 2 (.q 3 (.a 4 (.a 5 (.q 6 .nil))))))) (by kernel_rfl) (by kernel_rfl) ?_;refine aj ?_;refine az [0] (C.block (d+1) _ b q FK ae hb) ?_;refine C3 ?_;refine aj ?_;refine ab ?_;refine U [0] (cR q 0 dA (by decide)) ?_;refine GL.wk (Wk.iv (t:=57) rfl rfl rfl rfl) ?_;refine bI ?_;refine U [] (fK 9 a [] [e,b] _ nE) ?_;exact dd
 ·rw [if_neg (fun hh=>by cases hh.1)] at h;cases h;refine ai Tryz.func261 Tryz.ntmps261 ?_;refine U [0] (cR p 0 hp (by decide)) ?_;refine U [0] (cQ p.next [40] cZ (by decide)) ?_;refine U [0] (yb (d+1) _ e p1 xS ae he) ?_;refine U [0] (cQ p1 [41] ji (by decide)) ?_;refine GW.draw (.q 0 (.q 1 (.q 2 (.q 3 (.a 4 (.a 5 (.q 6 .nil))))))) (by kernel_rfl) (by kernel_rfl) ?_;refine aj ?_;refine az [0] (C.block (d+1) _ b q FK ae hb) ?_;refine C3 ?_;refine aj ?_;refine ab ?_;refine GL.wk (Wk.iv (t:=57) rfl rfl rfl rfl) ?_;refine bI ?_;refine U [] (fK 10 a [] [e,b] _ nE) ?_;exact dd
end Go.Xg
namespace Go.Xg
open Go.RowKit Go.Xw Go.Proofs
open Go.Xp (Tok Nd T bb one levels fY dF dY dh cY)
open Go.Sp
attribute [local irreducible] GW GL GO YG GC GA aS aW
theorem uP {s t:ah} (h:¬ s=t):(s==t)=false:=by
 cases hq:(s==t) with
 | false=>rfl
 | true=>exact absurd (eq_of_beq hq) h
theorem Vb {f:Nat} (C:Ls f) (d:Nat) (p:RS) (t:T) (q:RS) (hp:p.ok) (hd:d+(f+1)<=1099511627776) (h:mS (f+1) (.stmt d) p=some (t,q)) :
  GF Tryz.prog 226 [.loc 0 0,.v (ii (d:Nat))] [bS p] (.agg (cT t)) [bS q]:=by
 rw [mS] at h;have ke:=(nD hp d).ok hp;have wb:=ub p d hp;generalize p.deep d=p1 at *
 try simp only at h
 obtain ⟨Dz,cB⟩:=id ke;generalize wV:p1.place=at_ at h;refine ai Tryz.func226 Tryz.ntmps226 ?_;refine U [0] (wb) ?_;refine U [0] (kl p1 ke) ?_;refine gB [0] (cR p1 0 ke (by decide)) ?_;rw [wV]
 by_cases h1:p1.sign 0=fY
 ·rw [if_pos h1] at h
  have e1:(p1.sign 0==[118,97,114])=true:=by rw [h1];rfl
  have aq:=(fj h1 (by decide)).1;have hn:=(iK h1 (by decide)).ok ke;have dX:=(qE hn).ok hn;have jv:=(eW dX (s:=[61]) (by decide)).ok dX
  cases he:mX (d+1) (p1.next.name.2.aE [61]) with
  | none=>rw [he] at h;cases h
  | some r =>
  obtain ⟨e,p2⟩:=r;rw [he] at h;cases h;have dA:=(ow jv he).ok jv;refine ab ?_;refine U [0] (x6 p1.next hn) ?_;refine U [0] (cQ _ [61] dX (by decide)) ?_;refine U [0] (yb (d+1) _ e p2 jv ae he) ?_;refine U [0] (cQ p2 [59] dA (by decide)) ?_;refine bC ?_;refine ab ?_;refine U [] (fK 13 at_ p1.next.name.1 [e] _ nE) ?_;exact dd
 rw [if_neg h1] at h;have e1:(p1.sign 0==[118,97,114])=false:=uP h1
 by_cases h2:p1.sign 0=dF\/p1.sign 0=dh
 ·rw [if_pos h2] at h
  have e2:(p1.sign 0==[105,102])=true\/((p1.sign 0==[105,102])=false/\(p1.sign 0==[119,104,105,108,101])=true):=by
   rcases h2 with h2 | h2
   ·exact .inl (by rw [h2];rfl)
   ·exact .inr ⟨by rw [h2];rfl,by rw [h2];rfl⟩
  have aq:p1.i < p1.l.length:=by
   rcases h2 with h2 | h2
   ·exact (fj h2 (by decide)).1
   ·exact (fj h2 (by decide)).1
  rcases e2 with e2 | ⟨e2,e3⟩
  all_goals
   refine ab ?_;refine U [0] (C.cond at_ d p1 t q ke aq ae h) ?_;exact dd
 rw [if_neg h2] at h
 have e2:(p1.sign 0==[105,102])=false:=uP fun hh=>h2 (.inl hh)
 have e3:(p1.sign 0==[119,104,105,108,101])=false:=uP fun hh=>h2 (.inr hh)
 by_cases h4:p1.sign 0=cY
 ·rw [if_pos h4] at h
  have e4:(p1.sign 0==[114,101,116,117,114,110])=true:=by rw [h4];rfl
  have aq:=(fj h4 (by decide)).1;have hn:=(iK h4 (by decide)).ok ke
  cases he:mX (d+1) p1.next with
  | none=>rw [he] at h;cases h
  | some r =>
  obtain ⟨e,p2⟩:=r;rw [he] at h;cases h;have dA:=(ow hn he).ok hn;refine ab ?_;refine U [0] (yb (d+1) _ e p2 hn ae he) ?_;refine U [0] (cQ p2 [59] dA (by decide)) ?_;refine bC ?_;refine ab ?_;refine U [] (fK 11 at_ [] [e] _ nE) ?_;exact dd
 rw [if_neg h4] at h;have e4:(p1.sign 0==[114,101,116,117,114,110])=false:=uP h4
 by_cases h5:p1.code=0/\p1.mR=true/\p1.sign 1=[61]
 ·rw [if_pos h5] at h;obtain ⟨hc,FH,ff⟩:=h5
  have df:(p1.code==0)=true:=by simpa using hc
  have aaA:(p1.sign 1==[61])=true:=by rw [ff];rfl
  unfold RS.mR at FH
  cases ht:p1.l[p1.i]? with
  | none=>rw [ht] at FH;cases FH
  | some tk =>
  rw [ht] at FH
  have hk:(tk.kind==2)=true:=by simpa using FH
  have aq:=(List.getElem?_eq_some_iff.1 ht).1
  have O7:decide ((p1.i:Int) < ((p1.l.map cU).length:Int))=true:=by simpa using aq
  have hr:=jT ht;have dX:=(qE ke).ok ke;have jv:=(eW dX (s:=[61]) (by decide)).ok dX
  cases he:mX (d+1) (p1.name.2.aE [61]) with
  | none=>rw [he] at h;cases h
  | some r =>
  obtain ⟨e,p2⟩:=r;rw [he] at h;cases h;have dA:=(ow jv he).ok jv;refine ab ?_;refine GW.draw (.q 0 (.q 1 (.q 2 (.q 3 (.q 4 (.q 5 (.q 6 (.q 7 (.q 8 (.q 9 (.q 10 (.q 11 (.q 12 (.q 13 (.q 14 (.q 15 (.q 16 (.q 17 (.q 18 (.q 19 (.q 20 (.q 21 (.q 22 (.q 23 (.q 24 (.q 25 (.q 26 (.q 27 (.q 28 (.q 29 (.q 30 (.q 31 (.q 32 (.a 33 (.q 34 (.q 35 .nil)))))))))))))))))))))))))))))))))))) (by kernel_rfl) (by kernel_rfl) ?_;refine aj ?_;refine bu [0] (cR p1 1 ke (by decide)) ?_;refine ab ?_;refine U [0] (x6 p1 ke) ?_;refine U [0] (cQ _ [61] dX (by decide)) ?_;refine U [0] (yb (d+1) _ e p2 jv ae he) ?_;refine U [0] (cQ p2 [59] dA (by decide)) ?_;refine bC ?_;refine ab ?_;refine U [] (fK 7 at_ p1.name.1 [e] _ nE) ?_;exact dd
 rw [if_neg h5] at h
 cases he:mX (d+1) p1 with
 | none=>rw [he] at h;cases h
 | some r =>
 obtain ⟨e,p2⟩:=r;rw [he] at h;simp only at h;have dA:=(ow ke he).ok ke;have Ub:=dA.2
 have FU:(p1.code==0)=false\/((p1.code==0)=true/\p1.l.length<=p1.i)\/((p1.code==0)=true/\∃ tk,p1.l[p1.i]?=some tk/\((tk.kind==2)=false\/((tk.kind==2)=true/\(p1.sign 1==[61])=false))):=by
  by_cases hc:p1.code=0
  ·refine .inr ?_
   have df:(p1.code==0)=true:=by simpa using hc
   cases ht:p1.l[p1.i]? with
   | none=>exact .inl ⟨df,List.getElem?_eq_none_iff.1 ht⟩
   | some tk =>
    refine .inr ⟨df,tk,rfl,?_⟩
    by_cases hk:tk.kind=2
    ·refine .inr ⟨by simpa using hk,uP fun Y7=>h5 ⟨hc,?_,Y7⟩⟩;unfold RS.mR;rw [ht];simpa using hk
    ·exact .inl (by simpa using hk)
  ·exact .inl (by simpa using hc)
 refine ab ?_;refine GW.join (fun fr Γ=>fr=[.loc 0 0,.v (ii (d:Nat)),.aaF,.aaF,.loc 1 0,.v (ii at_),.aaF,.aaF,.aaF,.aaF,.aaF,.aaF,.aaF,.aaF,.aaF,.aaF,.aaF,.aaF,.aaF,.aaF,.aaF,.aaF,.aaF,.aaF,.aaF,.aaF,.aaF,.aaF,.aaF,.aaF,.aaF,.aaF,.aaF,.aaF,.aaF,.aaF,.aaF,.aaF,.aaF,.aaF,.aaF,.aaF,.aaF,.aaF,.aaF,.aaF,.aaF,.aaF,.aaF,.aaF,.aaF,.aaF,.aaF,.aaF,.aaF,.aaF,.aaF,.aaF,.aaF,.aaF,.aaF,.aaF,.aaF,.aaF,.aaF,.aaF,.aaF,.aaF,.aaF,.aaF,.aaF,.aaF,.aaF,.aaF,.aaF,.aaF,.aaF,.aaF,.aaF,.aaF,.aaF,.aaF,.aaF,.aaF,.aaF,.aaF,.aaF,.aaF,.aaF,.aaF,.aaF,.aaF,.aaF,.aaF,.aaF,.aaF,.aaF,.aaF,.aaF,.aaF,.aaF,.aaF,.aaF,.aaF,.aaF,.v (.bool false),.aaF,.aaF,.aaF,.aaF,.aaF,.aaF,.aaF,.aaF,.aaF,.aaF,.aaF,.aaF,.aaF,.aaF,.aaF,.aaF,.aaF,.aaF,.aaF,.aaF,.aaF,.aaF,.aaF,.aaF,.aaF,.aaF,.aaF,.aaF,.aaF,.aaF,.aaF,.aaF,.aaF,.aaF,.aaF,.aaF,.aaF,.aaF,.aaF,.aaF,.aaF,.aaF,.aaF,.aaF,.aaF,.aaF,.aaF,.aaF,.aaF,.aaF,.aaF,.aaF,.aaF,.aaF,.aaF,.aaF,.aaF,.aaF,.aaF,.aaF,.aaF,.aaF,.aaF,.aaF,.aaF]/\Γ=[bS p1,.box 94 zT]) ?_ ?_
 ·rcases FU with df | ⟨df,kX⟩ | ⟨df,tk,ht,hk | ⟨hk,ff⟩⟩
  ·refine GW.draw (.q 0 (.q 1 (.q 2 (.q 3 (.q 4 (.q 5 (.q 6 (.q 7 (.q 8 (.q 9 (.q 10 (.q 11 (.q 12 (.q 13 (.q 14 (.q 15 (.q 16 (.q 17 (.q 18 (.q 19 (.q 20 (.q 21 (.q 22 (.q 23 (.q 24 (.q 25 (.q 26 (.q 27 (.q 28 (.q 29 (.q 30 (.q 31 (.q 32 (.a 33 (.q 34 (.q 35 .nil)))))))))))))))))))))))))))))))))))) (by kernel_rfl) (by kernel_rfl) ?_;refine aj ?_;exact aD ⟨_,_,Wk.aw al,rfl,rfl⟩
  ·have O7:decide ((p1.i:Int) < ((p1.l.map cU).length:Int))=false:=by simpa using kX
   refine GW.draw (.q 0 (.q 1 (.q 2 (.q 3 (.q 4 (.q 5 (.q 6 (.q 7 (.q 8 (.q 9 (.q 10 (.q 11 (.q 12 (.q 13 (.q 14 (.q 15 (.q 16 (.q 17 (.q 18 (.q 19 (.q 20 (.q 21 (.q 22 (.q 23 (.q 24 (.q 25 (.q 26 (.q 27 (.q 28 (.q 29 (.q 30 (.q 31 (.q 32 (.a 33 (.q 34 (.q 35 .nil)))))))))))))))))))))))))))))))))))) (by kernel_rfl) (by kernel_rfl) ?_;refine aj ?_;exact aD ⟨_,_,Wk.aw al,rfl,rfl⟩
  ·have aq:=(List.getElem?_eq_some_iff.1 ht).1
   have O7:decide ((p1.i:Int) < ((p1.l.map cU).length:Int))=true:=by simpa using aq
   have hr:=jT ht;refine GW.draw (.q 0 (.q 1 (.q 2 (.q 3 (.q 4 (.q 5 (.q 6 (.q 7 (.q 8 (.q 9 (.q 10 (.q 11 (.q 12 (.q 13 (.q 14 (.q 15 (.q 16 (.q 17 (.q 18 (.q 19 (.q 20 (.q 21 (.q 22 (.q 23 (.q 24 (.q 25 (.q 26 (.q 27 (.q 28 (.q 29 (.q 30 (.q 31 (.q 32 (.a 33 (.q 34 (.q 35 .nil)))))))))))))))))))))))))))))))))))) (by kernel_rfl) (by kernel_rfl) ?_;refine aj ?_;exact aD ⟨_,_,Wk.aw al,rfl,rfl⟩
  ·have aq:=(List.getElem?_eq_some_iff.1 ht).1
   have O7:decide ((p1.i:Int) < ((p1.l.map cU).length:Int))=true:=by simpa using aq
   have hr:=jT ht;refine GW.draw (.q 0 (.q 1 (.q 2 (.q 3 (.q 4 (.q 5 (.q 6 (.q 7 (.q 8 (.q 9 (.q 10 (.q 11 (.q 12 (.q 13 (.q 14 (.q 15 (.q 16 (.q 17 (.q 18 (.q 19 (.q 20 (.q 21 (.q 22 (.q 23 (.q 24 (.q 25 (.q 26 (.q 27 (.q 28 (.q 29 (.q 30 (.q 31 (.q 32 (.a 33 (.q 34 (.q 35 .nil)))))))))))))))))))))))))))))))))))) (by kernel_rfl) (by kernel_rfl) ?_;refine aj ?_;refine bu [0] (cR p1 1 ke (by decide)) ?_;exact aD ⟨_,_,Wk.aw (by repeat (first | exact sq.nil | refine sq.aaF ?_ | refine sq.eq rfl ?_ | refine sq.eq (by rw [ff]) ?_)),rfl,rfl⟩
 ·rintro _ _ ⟨rfl,rfl⟩;refine ab ?_;refine U [0] (yb (d+1) _ e p2 ke ae he) ?_
  by_cases k3:e.n.kind=3
  ·have k3':(e.n.kind==3)=true:=by simpa using k3
   by_cases ka:e.n.at_=at_
   ·have ka':(e.n.at_==at_)=true:=by simpa using ka
    by_cases ks:p2.sign 0=[61]
    ·have M7:(p2.sign 0==[61])=true:=by rw [ks];rfl
     rw [if_pos ⟨k3,ka,ks⟩] at h;have aq:=(fj ks (by decide)).1;have hn:=(iK ks (by decide)).ok dA
     cases hk:e.kids with
     | nil=>rw [hk] at h;cases h
     | cons a rest =>
     cases hv:mX (d+1) p2.next with
     | none=>rw [hk,hv] at h;cases h
     | some r =>
     obtain ⟨v,p3⟩:=r;rw [hk,hv] at h;cases h;have zE:=(ow hn hv).ok hn
     have hr:(aL (a::rest))[0]?=some (cT a):=by simp [aL,uX]
     refine ab ?_;refine U [0] (cR p2 0 dA (by decide)) ?_;refine U [0] (yb (d+1) _ v p3 hn ae hv) ?_;refine U [0] (cQ p3 [59] zE (by decide)) ?_;refine GW.draw (.q 0 (.q 1 (.q 2 (.q 3 (.q 4 (.q 5 (.q 6 (.q 7 (.q 8 (.a 9 (.a 10 (.a 11 .nil)))))))))))) (by kernel_rfl) (by kernel_rfl) ?_;refine aj ?_;refine eC ?_;refine aj ?_;refine tF [] (fK 8 at_ e.n.s [a,v] _ nE) ?_;refine G2 ?_;refine aj ?_;exact oH
    ·have M7:(p2.sign 0==[61])=false:=uP ks;rw [if_neg (fun hh=>ks hh.2.2)] at h;cases h;refine ab ?_;refine U [0] (cR p2 0 dA (by decide)) ?_;refine U [0] (cQ p2 [59] dA (by decide)) ?_;refine bC ?_;refine ab ?_;refine U [] (fK 12 at_ [] [e] _ nE) ?_;exact dd
   ·have ka':(e.n.at_==at_)=false:=by simpa using ka
    rw [if_neg (fun hh=>ka hh.2.1)] at h;cases h;refine ab ?_;refine U [0] (cQ p2 [59] dA (by decide)) ?_;refine bC ?_;refine ab ?_;refine U [] (fK 12 at_ [] [e] _ nE) ?_;exact dd
  ·have k3':(e.n.kind==3)=false:=by simpa using k3
   rw [if_neg (fun hh=>k3 hh.1)] at h;cases h;refine ab ?_;refine U [0] (cQ p2 [59] dA (by decide)) ?_;refine bC ?_;refine ab ?_;refine U [] (fK 12 at_ [] [e] _ nE) ?_;exact dd
theorem sds (f:Nat):Ls f:=by
 induction f using Nat.strongRecOn with
 | _ f ih =>
  cases f with
  | zero=>exact ⟨fun d p t q _ _ h=>by simp [mS] at h,fun d p t q _ _ h=>by simp [mS] at h,fun a d p t q _ _ _ h=>by simp [mS] at h⟩
  | succ f =>
   have C:=ih f (Nat.lt_succ_self f)
   have Cs:∀ f',f'<=f->Ls f':=fun f' h=>ih f' (Nat.lt_succ_of_le h)
   exact ⟨fun d p t q hp hd h=>RD Cs d p t q hp hd h,fun d p t q hp hd h=>Vb C d p t q hp hd h,fun a d p t q hp hl hd h=>Tc C a d p t q hp hl hd h⟩
end Go.Xg
namespace Go.Xg
open Go.RowKit Go.Xw Go.Proofs
open Go.Xp (Tok Nd T bb one levels Ar)
open Go.Sp
attribute [local irreducible] GW GL GO YG GC GA aS aW
def ax (n:Nd):List GV:=[.v (ii n.kind),.v (ii n.at_),.v (ii n.n),.v (sv n.s),ints n.kids]
def au (f:Go.Sp.Fn):List GV:=[.v (sv f.name),strs f.params,.v (ii f.body)]
def aB (a:Ar):List GV:=[.v (sv a.name),.v (ii a.size)]
abbrev ar (p:Src):List GV:=[strs p.globals,.sl 2 (p.arrays.map aB),.sl 3 (p.fns.map au),.sl 5 (p.nodes.map ax)]
theorem Hv (k:Int):GF Tryz.prog 275 [.v (ii k)] [] (.v (.bool (lZ k))) []:=by
 unfold lZ;refine db Tryz.func275 Tryz.ntmps275 ?_
 cases h:decide ((1:Int)<=k)
 all_goals
  exact av
theorem Hw (k:Int):GF Tryz.prog 251 [.v (ii k)] [] (.v (.bool (fT k))) []:=by
 unfold fT;refine db Tryz.func251 Tryz.ntmps251 ?_
 cases h:decide ((7:Int)<=k)
 all_goals
  exact av
theorem sU (s:ah):GF Tryz.prog 250 [.v (sv s)] [] (.v (.bool (ek s))) []:=by
 refine ai Tryz.func250 Tryz.ntmps250 ?_;refine U [] (jk) ?_;refine GW.range (levels.map fun l=>[strs l]).length (fun k fr Γ=>fr=[.v (sv s),.aaF,.aaF,.aaF,.aaF,.sl 1 (levels.map fun l=>[strs l]),.v (ii ((levels.map fun l=>[strs l]).length:Int)),.v (ii (k:Nat)),.aaF,.aaF,.aaF,.aaF,.aaF,.aaF,.aaF]/\Γ=[]/\((levels.take k).any fun l=>l.contains s)=false) ?_ (by decide) ?_ ?_ ?_
 ·exact ⟨_,_,Wk.aw al,rfl,rfl,rfl⟩
 ·rintro k _ _ ⟨rfl,rfl,_⟩;exact ⟨rfl,rfl,rfl⟩
 ·rintro k _ _ hk ⟨rfl,rfl,hf⟩
  have hk:k < levels.length:=by simpa using hk
  have hx:levels[k]?=some levels[k]:=by simp [hk]
  have hr:(levels.map fun l=>[strs l])[k]?=some [strs levels[k]]:=by simp [hk]
  have zF:levels[k].length<=1099511627776:=by
   have:∀ l∈levels,l.length<=1099511627776:=by decide
   exact this _ (getElem_mem hk)
  generalize levels[k]=x at *;have hh:=iO x s zF
  cases hb:x.contains s with
  | true =>
   rw [hb] at hh
   have ha:ek s=true:=by
    unfold ek;rw [List.any_eq_true];exact ⟨x,mem_of_getElem? hx,hb⟩
   refine ab ?_;refine U [] (hh) ?_;refine bG ?_;rw [ha];exact ⟨rfl,rfl⟩
  | false =>
   rw [hb] at hh;refine ab ?_;refine U [] (hh) ?_;exact ⟨rfl,rfl,_,_,Wk.aw al,rfl,rfl,by rw [take_add_one,hx,List.any_append,hf];simp only [Option.toList,List.any_cons,List.any_nil,hb];rfl⟩
 ·rintro _ _ ⟨rfl,rfl,hf⟩
  have hf:ek s=false:=by
   rw [take_of_length_le (by simp)] at hf;exact hf
  refine ab ?_;refine bG ?_;rw [hf];exact ⟨rfl,rfl⟩
theorem cJ {l:List T} {i:Nat} {t:T} (h:l[i]?=some t):(aL l)[i]?=some (cT t):=by
 induction l generalizing i with
 | nil=>simp at h
 | cons a l ih =>
  cases i with
  | zero=>cases h;simp [aL,uX]
  | succ i=>simpa [aL] using ih (by simpa using h)
theorem eQ (t:T) (m:Nat) (hl:t.kids.length<=1099511627776):GF Tryz.prog 249 [.agg (cT t),.v (ii (m:Nat))] [] (.v (.bool (bc m 0 t.kids))) []:=by
 refine ai Tryz.func249 Tryz.ntmps249 ?_;refine GW.range (aL t.kids).length (fun k fr Γ=>fr=[.aaF,.v (ii (m:Nat)),.aaF,.aaF,.aaF,.aaF,.aaF,.aaF,.sl 6 (aL t.kids),.v (ii ((aL t.kids).length:Int)),.v (ii (k:Nat)),.aaF,.aaF,.aaF,.aaF,.aaF,.aaF,.aaF,.aaF,.aaF,.aaF,.aaF,.aaF,.aaF,.aaF,.aaF,.aaF,.aaF,.aaF,.aaF,.aaF,.aaF,.aaF,.aaF,.aaF,.aaF,.aaF]/\Γ=[]/\bc m k (t.kids.drop k)=bc m 0 t.kids) ?_ (by rw [aM];exact hl) ?_ ?_ ?_
 ·exact ⟨_,_,(Wk.cut (n:=0) (Nat.le_refl _) rfl).trans (Wk.aw al),rfl,rfl,rfl⟩
 ·rintro k _ _ ⟨rfl,rfl,_⟩;exact ⟨rfl,rfl,rfl⟩
 ·rintro k _ _ hk ⟨rfl,rfl,hf⟩
  have hk:k < t.kids.length:=by rw [aM] at hk;exact hk
  have hx:t.kids[k]?=some t.kids[k]:=by simp [hk]
  have hr:=cJ hx;rw [List.drop_eq_getElem_cons hk,bc] at hf;generalize t.kids[k]=x at *;have he:=Hv x.n.kind
  by_cases hm:k < m
  ·have ZE:decide ((k:Int) < (m:Int))=true:=by simpa using hm
   have FC:decide ((m:Int)<=(k:Int))=false:=by simpa using hm
   rw [if_pos hm] at hf
   cases hb:lZ x.n.kind with
   | true =>
    rw [hb] at he hf;refine ab ?_;refine U [] (he) ?_;exact ⟨rfl,rfl,_,_,(Wk.cut (n:=0) (Nat.le_refl _) rfl).trans (Wk.aw al),rfl,rfl,by simpa using hf⟩
   | false =>
    rw [hb] at he hf;refine ab ?_;refine U [] (he) ?_;refine bG ?_;rw [<-hf];exact ⟨rfl,rfl⟩
  ·have ZE:decide ((k:Int) < (m:Int))=false:=by simp;omega
   have FC:decide ((m:Int)<=(k:Int))=true:=by simp;omega
   rw [if_neg hm] at hf
   cases hb:(x.n.kind==14) with
   | true =>
    rw [hb] at hf
    have bg:(x.n.kind != 14)=false:=by simp only [bne,hb];rfl
    refine ab ?_;exact ⟨rfl,rfl,_,_,(Wk.cut (n:=0) (Nat.le_refl _) rfl).trans (Wk.aw al),rfl,rfl,by simpa using hf⟩
   | false =>
    rw [hb] at hf
    have bg:(x.n.kind != 14)=true:=by simp only [bne,hb];rfl
    refine ab ?_;refine bG ?_;rw [<-hf];exact ⟨rfl,rfl⟩
 ·rintro _ _ ⟨rfl,rfl,hf⟩;rw [aM,List.drop_length,bc] at hf;refine ab ?_;refine bG ?_;rw [<-hf];exact ⟨rfl,rfl⟩
theorem jC {l:List Nd} {i:Nat} {n:Nd} (h:l[i]?=some n):(l.map ax)[i]?=some (ax n):=by rw [getElem?_map,h];rfl
theorem oY {l:List Int} {i:Nat} {n:Int} (h:l[i]?=some n):(l.map fun i=>[GV.v (ii i)])[i]?=some [.v (ii n)]:=by rw [getElem?_map,h];rfl
theorem Ep (p:Src) (hk:∀ n∈p.nodes,n.kids.length<=1000000000000):∀ (f a:Nat) (t:T),sub p.nodes f a=some t->GF Tryz.prog 99 [.agg (ar p),.v (ii (a:Nat))] [] (.agg (cT t)) []:=by
 intro f
 induction f using Nat.strongRecOn with
 | _ f ih =>
 intro a t h
 cases f with
 | zero=>simp [sub] at h
 | succ f =>
 rw [sub] at h
 cases hn:p.nodes[a]? with
 | none=>rw [hn] at h;cases h
 | some n =>
 rw [hn] at h;simp only at h
 cases hs:nS p.nodes f n.kids [] with
 | none=>rw [hs] at h;cases h
 | some l =>
 rw [hs] at h;cases h;have hr:=jC hn;have eH:=hk n (mem_of_getElem? hn);refine ai Tryz.func99 Tryz.ntmps99 ?_;refine GW.wk (Wk.KB (i:=2) (o:=5) 94 6 rfl rfl) ?_
 refine GW.range (n.kids.map fun i=>[GV.v (ii i)]).length (fun k fr Γ=>∃ rows acc g,fr=[.aaF,.v (ii (a:Nat)),.loc 0 0,.aaF,.loc 1 0,.loc 2 0,.aaF,.aaF,.aaF,.aaF,.aaF,.aaF,.aaF,.aaF,.aaF,.aaF,.aaF,.aaF,.aaF,ints n.kids,.v (ii ((n.kids.map fun i=>[GV.v (ii i)]).length:Int)),.v (ii (k:Nat)),.aaF,.aaF,.aaF,.aaF,.aaF,.aaF,.aaF,.aaF,.aaF,.aaF,.aaF,.aaF,.aaF] /\
   Γ=[.box 34 (ar p),.box 94 zT,.box 94 [.v (ii n.kind),.v (ii n.at_),.v (ii n.n),.v (sv n.s),ints n.kids,.vec 3 k],.vec 94 6 0 rows] /\
   rows.length=k/\rows=aL acc/\g<=f/\nS p.nodes g (n.kids.drop k) acc=some l) ?_ (by simp;omega) ?_ ?_ ?_
 ·exact ⟨_,_,Wk.aw al,[],[],f,rfl,rfl,rfl,rfl,Nat.le_refl _,hs⟩
 ·rintro k _ _ ⟨_,_,_,rfl,rfl,_⟩;exact ⟨rfl,rfl,rfl⟩
 ·rintro k _ _ aq ⟨rows,acc,g,rfl,rfl,vg,bp,hg,h⟩
  have aq:k < n.kids.length:=by simpa using aq
  have hx:n.kids[k]?=some n.kids[k]:=by simp [aq]
  rw [List.drop_eq_getElem_cons aq] at h;generalize n.kids[k]=x at *
  cases g with
  | zero=>simp [nS] at h
  | succ g =>
  rw [nS] at h
  by_cases oS:x < 0
  ·rw [if_pos oS] at h;cases h
  rw [if_neg oS] at h
  cases bY:sub p.nodes g x.toNat with
  | none=>rw [bY] at h;cases h
  | some t =>
  rw [bY] at h;simp only at h;have yO:=ih g ae x.toNat t bY;rw [Int.toNat_of_nonneg ae] at yO;have w5:=oY hx;refine ab ?_;refine GW.draw (.q 0 (.q 1 (.q 2 (.q 3 (.a 4 (.a 5 (.a 6 (.q 7 (.a 8 .nil))))))))) (by kernel_rfl) (by kernel_rfl) ?_;refine aj ?_;refine az [] (yO) ?_;refine eC ?_;refine aj ?_;refine C1 ?_;refine aj ?_;refine ab ?_;exact ⟨rfl,rfl,_,_,Wk.aw al,_,acc++[t],g,rfl,rfl,by rw [length_append,vg];rfl,by rw [xr,bp];rfl,by omega,h⟩
 ·rintro _ _ ⟨rows,acc,g,rfl,rfl,vg,bp,hg,h⟩;rw [length_map,List.drop_length] at h
  have kE:acc=l:=by cases g <;> (rw [nS] at h;cases h;rfl)
  subst kE;subst bp;refine aD (GW.wk (Wk.yZ (i:=2) (o:=5) rfl rfl rfl rfl vg) ?_);exact oH
end Go.Xg
namespace Go.Xg
open Go.RowKit Go.Xw Go.Proofs
open Go.WideShapes Go.Deep
open Go.Xp (Nd Ar)
open Go.Sp (Src)
open Go.Im (Small kU)
def flat (v:Value):Prop:=∀ a n c,v≠.slice a n c
def vO (W:World) (v:Value) (xs:List Value):Prop:=∃ a c,v=.slice a xs.length c/\(xs=[]\/∃ b o,a=some ⟨b,o,none⟩/\xs.length<=c/\∀ i x,xs[i]?=some x->fy W.heap b (o+i)=some x/\flat x)
theorem vO.uniq {W:World} {v:Value} {xs ys:List Value} (h:vO W v xs) (k:vO W v ys):xs=ys:=by
 obtain ⟨a,c,h1,h2⟩:=h;obtain ⟨a',c',k1,k2⟩:=k;rw [h1] at k1
 injection k1 with e1 e2 e3
 subst e1 e3
 rcases h2 with rfl | ⟨b,o,h3,h4,h5⟩
 ·exact (eq_nil_of_length_eq_zero (by simpa using e2.symm)).symm
 ·rcases k2 with rfl | ⟨b',o',k3,k4,k5⟩
  ·exact eq_nil_of_length_eq_zero (by simpa using e2)
  ·rw [h3] at k3;cases k3;apply ext_getElem e2;intro i hi hj;have a1:=(h5 i _ (getElem?_eq_getElem hi)).1;have a2:=(k5 i _ (getElem?_eq_getElem hj)).1;rw [a1] at a2;exact Option.some.inj a2
open Classical in
noncomputable def KW (W:World):Fz:=fun b o=>match fy W.heap b o with
 | none=>none
 | some v=>if ∃ a n c,v=.slice a n c then (if h:∃ xs,vO W v xs then some (.sl 1 (h.choose.map fun x=>[.v x])) else none) else some (.v v)
theorem kT {W:World} {b o:Nat} {v:Value} (h:fy W.heap b o=some v) (hf:flat v):KW W b o=some (.v v):=by
 unfold KW;rw [h];simp only;rw [if_neg (by rintro ⟨a,n,c,e⟩;exact hf a n c e)]
theorem Qq {W:World} {b o:Nat} {v:Value} {xs:List Value} (h:fy W.heap b o=some v) (hx:vO W v xs):KW W b o=some (.sl 1 (xs.map fun x=>[.v x])):=by
 have hs:∃ a n c,v=.slice a n c:=by obtain ⟨a,c,e,_⟩:=hx;exact ⟨_,_,_,e⟩
 have hex:∃ xs,vO W v xs:=⟨xs,hx⟩;unfold KW;rw [h];simp only;rw [if_pos hs,dif_pos hex,hex.choose_spec.uniq hx]
theorem NI {W:World} {v:Value} {xs:List Value} (hx:vO W v xs) (β:Bt):Rel (KW W) β v (.sl 1 (xs.map fun x=>[GV.v x])):=by
 obtain ⟨a,c,rfl,h⟩:=hx
 rcases h with rfl | ⟨b,o,rfl,hc,kP⟩
 ·exact .sl0 a c 1
 ·have:=Rel.sl (K:=KW W) (β:=β) b o c 1 (xs.map fun x=>[GV.v x]) (fun i r hr=>by
   rw [getElem?_map] at hr
   cases hi:xs[i]? with
   | none=>rw [hi] at hr;cases hr
   | some x =>
    rw [hi] at hr;cases hr;obtain ⟨h1,h2⟩:=kP i x hi;refine ⟨rfl,fun j g hg=>?_⟩
    cases j with
    | zero=>cases hg;rw [Nat.mul_one,Nat.add_zero];exact kT h1 h2
    | succ j=>simp at hg) (by rw [length_map];exact hc)
  rw [length_map] at this;exact this
theorem Vw (W:World):iN (KW W) W:=fun b o g h=>by
 unfold KW at h
 cases hc:fy W.heap b o with
 | none=>rw [hc] at h;cases h
 | some v =>
  rw [hc] at h;simp only at h;split at h
  ·split at h
   ·rename_i hex;cases h;exact ⟨rfl,v,rfl,NI hex.choose_spec _⟩
   ·cases h
  ·cases h;exact ⟨rfl,v,rfl,.v v⟩
theorem PL {W:World} {v:Value} {k:Nat} {rows:List (List GV)} {a:Option Addr} {n c:Nat} (β:Bt) (hv:v=.slice a n c) (hn:rows.length=n)
  (h:n=0\/∃ b o,a=some ⟨b,o,none⟩/\n<=c/\∀ i r,rows[i]?=some r->r.length=k/\∀ j g,r[j]?=some g->KW W b (o+i * k+j)=some g):Rel (KW W) β v (.sl k rows):=by
 subst hv hn
 rcases h with h | ⟨b,o,rfl,hc,hr⟩
 ·have:=eq_nil_of_length_eq_zero h;subst this;exact .sl0 a c k
 ·exact .sl b o c k rows hr hc
theorem z8 {W:World} {a:Addr} {n:Nat} {v:Value} (h:W.cell? (a.add n)=some v):fy W.heap a.block (a.off+n)=some v:=by
 unfold Addr.add at h;split at h
 ·rename_i h0;subst h0;obtain ⟨b,o,s⟩:=a;have hs:=World.cell?_spot h;simp only at hs;subst hs;rw [eT] at h;exact h
 ·obtain ⟨b,o,s⟩:=a;simp only at h;rw [eT] at h;exact h
theorem zZ {W:World} {a:Addr} {v:Value} (h:W.cell? (a.add 0)=some v):a.spot=none:=by
 have:=World.cell?_spot h;unfold Addr.add at this;rw [if_pos rfl] at this;exact this
theorem qN {α:Type} {Q:Nat->α->Prop}:∀ {n:Nat},(∀ i,i < n->∃ x,Q i x)->∃ l:List α,l.length=n/\∀ i x,l[i]?=some x->Q i x
 | 0,_=>⟨[],rfl,fun i x h=>by simp at h⟩
 | n+1,h=>by
  obtain ⟨l,h1,h2⟩:=qN (n:=n) fun i hi=>h i ae
  obtain ⟨x,hx⟩:=h n ae;refine ⟨l++[x],by simp [h1],fun i y hi=>?_⟩
  by_cases wY:i < n
  ·rw [getElem?_append_left ae] at hi;exact h2 i y hi
  ·have aq:=(List.getElem?_eq_some_iff.1 hi).1;rw [length_append,length_cons,length_nil] at aq
   have:i=n:=by omega
   subst this;rw [List.getElem?_append_right ae,h1,Nat.sub_self] at hi
   cases hi;exact hx
theorem max_le {n:Nat} (h:n<=maxLen):n<=9223372036854775807:=by unfold maxLen at h;omega
section
variable {H:Type} {enc:TypeId × Value->H} {P:Program} {W:World}
theorem Gh {t e:TypeId} {n:Nat} {v:Value} {y:DataW H × List MemPlace} (ht:P.underlying t=some (.slice e)) (he:P.underlying e=some .string) (hc:P.cellsOf e=1) (h:DataW.trod enc P W 0 (fun _=>true) true n t [v]=some y) :
  ∃ l:List ah,vO W v (l.map sv)/\l.length<=9223372036854775807/\∀ s∈l,s.length<=9223372036854775807:=by
 rcases open_slice1 ht hc h with ⟨eV,_⟩ | ⟨a,len,cap,m,n',V,D,Pl,eV,_,hl,hm,re,_,hx⟩
 ·injection eV with hv;subst hv
  exact ⟨[],⟨none,0,rfl,.inl rfl⟩,Nat.zero_le _,fun s h=>by cases h⟩
 ·injection eV with hv _;subst hv
  simp only [if_true] at re
  obtain ⟨l,h1,h2⟩:=qN (n:=len) (Q:=fun i (s:ah)=>W.cell? (a.add i)=some (sv s)/\s.length<=9223372036854775807) (fun i hi=>by
   obtain ⟨c1,c2⟩:=hx i ae;obtain ⟨s,hs,_,hz⟩:=DataW.trod_string he c2
   injection hs with hs _
   rw [hs] at c1
   exact ⟨s.data.toList,by rw [<-Et];exact c1,max_le hz⟩)
  refine ⟨l,⟨some a,cap,by rw [length_map,h1],?_⟩,by rw [h1];exact max_le (Nat.le_trans hl hm),fun s hs=>?_⟩
  ·by_cases h0:len=0
   ·have:l=[]:=eq_nil_of_length_eq_zero ae;subst this;exact .inl rfl
   ·refine .inr ⟨a.block,a.off,?_,by rw [length_map,h1];exact hl,fun i x hi=>?_⟩
    ·have ve:l[0]?=some (l[0]'ae):=getElem?_eq_getElem _;have:=zZ (h2 0 _ ve).1;obtain ⟨b,o,s⟩:=a;simp only at this;rw [this]
    ·rw [getElem?_map] at hi
     cases sN:l[i]? with
     | none=>rw [sN] at hi;cases hi
     | some s =>
      rw [sN] at hi;cases hi;exact ⟨z8 (h2 i s sN).1,fun a n c e=>by cases e⟩
  ·obtain ⟨i,hi⟩:=List.getElem?_of_mem hs;exact (h2 i s hi).2
theorem PG {t e:TypeId} {n:Nat} {v:Value} {y:DataW H × List MemPlace} (ht:P.underlying t=some (.slice e)) (he:P.underlying e=some (.int .i64)) (hc:P.cellsOf e=1) (h:DataW.trod enc P W 0 (fun _=>true) true n t [v]=some y) :
  ∃ l:List Int,vO W v (l.map ii)/\l.length<=9223372036854775807:=by
 rcases open_slice1 ht hc h with ⟨eV,_⟩ | ⟨a,len,cap,m,n',V,D,Pl,eV,_,hl,hm,re,_,hx⟩
 ·injection eV with hv;subst hv
  exact ⟨[],⟨none,0,rfl,.inl rfl⟩,Nat.zero_le _⟩
 ·injection eV with hv _;subst hv
  simp only [if_true] at re
  obtain ⟨l,h1,h2⟩:=qN (n:=len) (Q:=fun i (z:Int)=>W.cell? (a.add i)=some (ii z)) (fun i hi=>by
   obtain ⟨c1,c2⟩:=hx i ae;obtain ⟨z,hs,_,hz⟩:=DataW.trod_int he c2
   injection hs with hs _
   rw [hs] at c1
   exact ⟨z,c1⟩)
  refine ⟨l,⟨some a,cap,by rw [length_map,h1],?_⟩,by rw [h1];exact max_le (Nat.le_trans hl hm)⟩
  by_cases h0:len=0
  ·have:l=[]:=eq_nil_of_length_eq_zero ae;subst this;exact .inl rfl
  ·refine .inr ⟨a.block,a.off,?_,by rw [length_map,h1];exact hl,fun i x hi=>?_⟩
   ·have ve:l[0]?=some (l[0]'ae):=getElem?_eq_getElem _;have:=zZ (h2 0 _ ve);obtain ⟨b,o,s⟩:=a;simp only at this;rw [this]
   ·rw [getElem?_map] at hi
    cases sN:l[i]? with
    | none=>rw [sN] at hi;cases hi
    | some s =>
     rw [sN] at hi;cases hi;exact ⟨z8 (h2 i s sN),fun a n c e=>by cases e⟩
theorem AZ {α:Type} {t e:TypeId} {fs:Array Field} {k n:Nat} {v:Value} {y:DataW H × List MemPlace} (f:α->List GV) (Q:α->Prop) (β:Bt) (ht:P.underlying t=some (.slice e)) (he:P.underlying e=some (.struct fs)) (gM:oneCellFields P fs=true) (hC:P.cellsOf e=k) (hk:fs.size=k) (zB:0 < k)
  (each:∀ b o,(∀ (j:Nat) (fl:Field),fs[j]?=some fl->∃ v y n,fy W.heap b (o+j)=some v/\DataW.trod enc P W 0 (fun _=>true) true n fl.type [v]=some y)->∃ x,Q x/\(f x).length=k/\∀ j g,(f x)[j]?=some g->KW W b (o+j)=some g)
  (h:DataW.trod enc P W 0 (fun _=>true) true n t [v]=some y):∃ l:List α,Rel (KW W) β v (.sl k (l.map f))/\l.length<=9223372036854775807/\∀ x∈l,Q x:=by
 rcases open_slice ht h with ⟨eV,_⟩ | ⟨a,len,cap,m,n',D,Pl,eV,_,hl,hm,re,_,hx⟩
 ·injection eV with hv;subst hv
  exact ⟨[],.sl0 none 0 k,Nat.zero_le _,fun s h=>by cases h⟩
 ·injection eV with hv _;subst hv
  simp only [if_true] at re
  have kP:∀ i,i < len->∀ (j:Nat) (fl:Field),fs[j]?=some fl->∃ v y n,W.cell? (a.add (i * k+j))=some v/\DataW.trod enc P W 0 (fun _=>true) true n fl.type [v]=some y:=by
   intro i hi j fl hj;obtain ⟨zm,hc,xU⟩:=hx i ae;rw [hC] at hc;obtain ⟨ys,n',BB,hy,hlen,FW,hf⟩:=DataW.trod_struct he xU;obtain ⟨_,vc,wV⟩:=World.cells?_some hc;obtain ⟨ho,tW⟩:=hone_of gM j fl hj;have sM:j < fs.size:=(Array.getElem?_eq_some_iff.1 hj).1;have kP:=wV j ae;have hv:zm[j]?=some (zm[j]'ae):=getElem?_eq_getElem ae;have h1:=hf j fl hj;rw [ho,tW] at h1
   have VX:(zm.drop j).take 1=[zm[j]'ae]:=by
    rw [List.drop_eq_getElem_cons ae];rfl
   rw [VX] at h1;have Q1:ys[j]?=some (ys[j]'ae):=getElem?_eq_getElem ae;refine ⟨_,_,_,?_,h1.trans Q1⟩;rw [<-Go.Deep.add_add,kP,hv]
  obtain ⟨l,h1,h2⟩:=qN (n:=len) (Q:=fun i x=>Q x/\(f x).length=k/\∀ j g,(f x)[j]?=some g->KW W a.block (a.off+i * k+j)=some g) (fun i hi =>
   each a.block (a.off+i * k) fun j fl hj=>by
    obtain ⟨v,y,n,c1,c2⟩:=kP i hi j fl hj
    exact ⟨v,y,n,by rw [Nat.add_assoc];exact z8 c1,c2⟩)
  refine ⟨l,PL (n:=len) (c:=cap) β rfl (by rw [length_map,h1]) ?_,by rw [h1];exact max_le (Nat.le_trans hl hm),fun x hx=>?_⟩
  ·by_cases h0:len=0
   ·exact .inl h0
   ·refine .inr ⟨a.block,a.off,?_,hl,fun i r hr=>?_⟩
    ·obtain ⟨v,y,n,c1,c2⟩:=kP 0 ae 0 (fs[0]'ae) (Array.getElem?_eq_getElem ae);rw [Nat.zero_mul,Nat.add_zero] at c1;have:=zZ c1;obtain ⟨b,o,s⟩:=a;simp only at this;rw [this]
    ·rw [getElem?_map] at hr
     cases sN:l[i]? with
     | none=>rw [sN] at hr;cases hr
     | some x =>
      rw [sN] at hr;cases hr;exact (h2 i x sN).2
  ·obtain ⟨i,hi⟩:=List.getElem?_of_mem hx;exact (h2 i x hi).1
end
theorem GJ (l:List ah):GV.sl 1 ((l.map sv).map fun x=>[GV.v x])=strs l:=by rw [map_map];rfl
theorem Pg (l:List Int):GV.sl 1 ((l.map ii).map fun x=>[GV.v x])=ints l:=by rw [map_map];rfl
theorem wf_i64 {z:Int} (h:(Lit.int .i64 z).wf=true) : -9223372036854775808<=z/\z<=9223372036854775807:=by
 simp only [Lit.wf,Bool.and_eq_true,decide_eq_true_eq] at h
 have h1:IntKind.min .i64 = -9223372036854775808:=by decide
 have h2:IntKind.max .i64=9223372036854775807:=by decide
 rw [h1,h2] at h;exact h
theorem u6 (z:Int):flat (ii z):=fun a n c e=>by cases e
section
variable {H:Type} {enc:TypeId × Value->H} {W:World}
theorem wF (β:Bt) {v:Value} {d:DataW H} {ps:List MemPlace} {r:Reach} {b0:Nat} (hv:Value.okWide Tryz.prog W r b0 27 v) (h:DataW.Trod enc Tryz.prog W 0 (fun _=>true) true 27 v d ps) :
  ∃ p:Src,Rel (KW W) β v (.agg (ar p))/\Small p 9223372036854775807/\kU p:=by
 obtain ⟨v0,v1,v2,v3,y0,y1,y2,y3,n,rfl,_,_,h0,h1,h2,h3⟩:=Go.Joins.open_agg4 Tryz.underlying27 (by kernel_rfl) (by kernel_rfl) hv h
 have c9:Tryz.prog.cellsOf 9=1:=by kernel_rfl
 have c3:Tryz.prog.cellsOf 3=1:=by kernel_rfl
 obtain ⟨gs,g1,g2,g3⟩:=Gh Tryz.underlying22 Tryz.underlying9 c9 h0
 obtain ⟨WI,a1,a2,a3⟩:=AZ aB (fun x=>x.name.length<=9223372036854775807 /\ -9223372036854775808<=x.size/\x.size<=9223372036854775807) β Tryz.underlying23 Tryz.underlying103 (by kernel_rfl) (k:=2) (by kernel_rfl) rfl ae (fun b o hf=>by
  obtain ⟨u0,z0,n0,x0,w0⟩:=hf 0 _ rfl;obtain ⟨u1,z1,n1,x1,w1⟩:=hf 1 _ rfl;obtain ⟨s,hs,_,hz⟩:=DataW.trod_string Tryz.underlying9 w0;obtain ⟨z,ff,_,Xe⟩:=DataW.trod_int Tryz.underlying3 w1
  injection hs with hs _
  injection ff with ff _
  subst hs ff;refine ⟨⟨s.data.toList,z⟩,⟨max_le hz,wf_i64 Xe⟩,rfl,fun j g hg=>?_⟩
  match j,hg with
  | 0,hg=>cases hg;rw [<-Et];exact kT x0 fun a n c e=>by cases e
  | 1,hg=>cases hg;exact kT x1 (u6 z)
  | j+2,hg=>simp [aB] at hg) h1
 obtain ⟨fs,f1,f2,f3⟩:=AZ au (fun x=>x.name.length<=9223372036854775807/\x.params.length<=9223372036854775807/\∀ s∈x.params,s.length<=9223372036854775807) β Tryz.underlying24 Tryz.underlying105 (by kernel_rfl) (k:=3) (by kernel_rfl) rfl ae (fun b o hf=>by
  obtain ⟨u0,z0,n0,x0,w0⟩:=hf 0 _ rfl;obtain ⟨u1,z1,n1,x1,w1⟩:=hf 1 _ rfl;obtain ⟨u2,z2,n2,x2,w2⟩:=hf 2 _ rfl;obtain ⟨s,hs,_,hz⟩:=DataW.trod_string Tryz.underlying9 w0;obtain ⟨l,eI,jh,TU⟩:=Gh Tryz.underlying22 Tryz.underlying9 c9 w1;obtain ⟨z,ff,_,Xe⟩:=DataW.trod_int Tryz.underlying3 w2
  injection hs with hs _
  injection ff with ff _
  subst hs ff;refine ⟨⟨s.data.toList,l,z⟩,⟨max_le hz,jh,TU⟩,rfl,fun j g hg=>?_⟩
  match j,hg with
  | 0,hg=>cases hg;rw [<-Et];exact kT x0 fun a n c e=>by cases e
  | 1,hg=>cases hg;rw [Qq x1 eI,GJ]
  | 2,hg=>cases hg;exact kT x2 (u6 z)
  | j+3,hg=>simp [au] at hg) h2
 obtain ⟨ns,k1,k2,k3⟩:=AZ ax (fun x=>(x.s.length<=9223372036854775807/\x.kids.length<=9223372036854775807) /\ -9223372036854775808<=x.n/\x.n<=9223372036854775807) β Tryz.underlying25 Tryz.underlying107 (by kernel_rfl) (k:=5) (by kernel_rfl) rfl ae (fun b o hf=>by
  obtain ⟨u0,z0,n0,x0,w0⟩:=hf 0 _ rfl;obtain ⟨u1,z1,n1,x1,w1⟩:=hf 1 _ rfl;obtain ⟨u2,z2,n2,x2,w2⟩:=hf 2 _ rfl;obtain ⟨u3,z3,n3,x3,w3⟩:=hf 3 _ rfl;obtain ⟨u4,z4,n4,x4,w4⟩:=hf 4 _ rfl;obtain ⟨i0,e0,_,_⟩:=DataW.trod_int Tryz.underlying3 w0;obtain ⟨i1,e1,_,_⟩:=DataW.trod_int Tryz.underlying3 w1;obtain ⟨i2,e2,_,q2⟩:=DataW.trod_int Tryz.underlying3 w2;obtain ⟨s,hs,_,hz⟩:=DataW.trod_string Tryz.underlying9 w3;obtain ⟨l,eI,jh⟩:=PG Tryz.underlying40 Tryz.underlying3 c3 w4
  injection e0 with e0 _
  injection e1 with e1 _
  injection e2 with e2 _
  injection hs with hs _
  subst hs e0 e1 e2;refine ⟨⟨i0,i1,i2,s.data.toList,l⟩,⟨⟨max_le hz,jh⟩,wf_i64 q2⟩,rfl,fun j g hg=>?_⟩
  match j,hg with
  | 0,hg=>cases hg;exact kT x0 (u6 _)
  | 1,hg=>cases hg;exact kT x1 (u6 _)
  | 2,hg=>cases hg;exact kT x2 (u6 _)
  | 3,hg=>cases hg;rw [<-Et];exact kT x3 fun a n c e=>by cases e
  | 4,hg=>cases hg;rw [Qq x4 eI,Pg]
  | j+5,hg=>simp [ax] at hg) h3
 have r0:=NI g1 β;rw [GJ] at r0;refine ⟨⟨gs,WI,fs,ns⟩,?_,⟨⟨g2,g3⟩,⟨a2,fun x hx=>(a3 x hx).1⟩,⟨f2,f3⟩,⟨k2,fun x hx=>(k3 x hx).1⟩⟩,⟨fun x hx=>(a3 x hx).2,fun x hx=>(k3 x hx).2⟩⟩;have hc:aV (KW W) β [v0,v1,v2,v3] (ar ⟨gs,WI,fs,ns⟩):=.cons r0 (.cons a1 (.cons f1 (.cons k1 .nil)));exact .agg [v0,v1,v2,v3] _ hc.1 hc.2
end
end Go.Xg
namespace Go.Xg
open Go.RowKit Go.Xw Go.Proofs
open Go.Lib
theorem NW {P:Program} {W:World} {name:String} {k:IntKind} {zs:List Int} {g:Nat} {t e:TypeId} {n:Nat}
  (hg:P.globalNamed name=some g) (ZX:(P.globals[g]?).map (·.type)=some t) (ht:P.underlying t=some (.array n e)) (he:P.underlying e=some (.int k)) (MF:P.cellsOf e=1) (Zn:P.cellsOf t=n)
  (h:VarReads P W name (tabData k zs)):TabIs P W name k zs:=by
 obtain ⟨g',t',cs,fuel,p,kW,xU,Yk,hd⟩:=h;obtain rfl:=Option.some.inj (hg.symm.trans kW);obtain rfl:=Option.some.inj (ZX.symm.trans xU);unfold TabIs;rw [Yk,<-cells_of_tab ht he MF Zn hd]
theorem Jp {P:Program} {W:World} {name:String} {k:IntKind} {zs:List Int} {g n:Nat} (hg:P.globalNamed name=some g) (hn:zs.length=n) (h:TabIs P W name k zs):so W g n:=by
 unfold TabIs World.var? at h;rw [hg] at h;simp only [Option.bind_some] at h
 cases hb:W.heap[g]? with
 | none=>rw [hb] at h;cases h
 | some o =>
  rw [hb] at h
  cases o with
  | cells cs E z =>
   simp only [Option.some.injEq] at h;exact ⟨cs,E,z,hb,by rw [h];simpa using hn⟩
  | _=>cases h
theorem Lq {P:Program} {W:World} {name:String} {k:IntKind} {zs:List Int} {g:Nat} (hg:P.globalNamed name=some g) (h:TabIs P W name k zs) {o:Nat} {z:Int} (ho:zs[o]?=some z):KW W g o=some (.v (.int k z)):=by
 have aq:=(List.getElem?_eq_some_iff.1 ho).1;have hc:=h.cell hg o aq;rw [List.getD_eq_getElem?_getD,ho,eT] at hc
 exact kT hc fun a n c e=>by cases e
theorem y5 {W:World} (hp:VarReads Tryz.prog W "internal/strconv.uint64pow10" (tabData .u64 vA)) (hs:VarReads Tryz.prog W "strings.asciiSpace" (tabData .u8 vF)) (hW:W.ShapedOpen Tryz.prog):eY (KW W) (fun _=>.no) W:=by
 have gp:Tryz.prog.globalNamed "internal/strconv.uint64pow10" = some 3:=by kernel_rfl
 have gs:Tryz.prog.globalNamed "strings.asciiSpace" = some 0:=by kernel_rfl
 have tp:=NW gp (t:=287) (by kernel_rfl) Tryz.underlying287 (k:=.u64) (by kernel_rfl) (by kernel_rfl) (by kernel_rfl) hp;have ts:=NW gs (t:=244) (by kernel_rfl) Tryz.underlying244 (k:=.u8) (by kernel_rfl) (by kernel_rfl) (by kernel_rfl) hs;obtain ⟨m,hm⟩:=cell_of_shapedOpen_int (g:=1) (zero:=#[.int .i64 0]) (t:=3) hW (of_decide_eq_true (by kernel_rfl)) (by kernel_rfl) rfl (by kernel_rfl) (by kernel_rfl) Tryz.underlying3;rw [eT] at hm;refine ⟨⟨m,fun b o g h=>?_⟩,Jp gp (by decide) tp,Jp gs (by decide) ts,fun i b h=>by cases h⟩;unfold xg at h;split at h
 ·rename_i hb;subst hb;split at h
  ·cases h;exact kT hm fun a n c e=>by cases e
  ·cases h
 ·split at h
  ·rename_i hb;subst hb
   cases ho:vA[o]? with
   | none=>rw [ho] at h;cases h
   | some z=>rw [ho] at h;cases h;exact Lq gp tp ho
  ·split at h
   ·rename_i hb;subst hb
    cases ho:vF[o]? with
    | none=>rw [ho] at h;cases h
    | some z=>rw [ho] at h;cases h;exact Lq gs ts ho
   ·cases h
theorem GF.calls {P:Program} {f:FuncId} {gs:List GV} {g:GV} (h:GF P f gs [] g []) {W:World} {vs:List Value} (hv:aV (KW W) (fun _=>.no) vs gs) (hT:eY (KW W) (fun _=>.no) W) :
  lT P f vs W fun v w'=>Below W.heap.size W w'/\∃ K β,Rel K β v g:=by
 have hI:Inv ⟨W,gP,KW W,fun _=>.no,0⟩ (KW W) (fun _=>.no) [] W :=
  ⟨Ext.refl W,ca.refl _,cX.refl _,fun _ _=>rfl,Vw W,fun i x h=>by simp at h,fun _ _=>rfl,fun i j b h=>(by cases h),fun i b h=>(by cases h),fun b o g h=>.inl h,hT⟩
 refine (h ⟨W,gP,KW W,fun _=>.no,0⟩ (KW W) (fun _=>.no) W vs rfl hI hv).mono ?_;rintro v w' ⟨K',bL,x,aH,h1,h2,rfl,rfl⟩;exact ⟨h1.ext.below,K',bL,h2⟩
end Go.Xg
namespace Go.Xg
open Go.RowKit Go.Xw Go.Proofs
open Go.Xp (Tok Nd T)
open Go.Sp
attribute [local irreducible] GW GL GO YG GC GA aS aW
theorem su {α:Type} {l:List α} {q:α->Bool} {k:Nat} {x:α} (hx:l[k]?=some x) (hf:(l.take k).all q=true) (hb:q x=true):(l.take (k+1)).all q=true:=by
 rw [take_add_one,hx,List.all_append,hf];simp [hb]
def idxOf (xs:List ah) (s:ah):Int:=match xs.findIdx? (fun x=>s==x) with | some i=>(i:Int) | none => -1
theorem Rz (xs:List ah) (s:ah) (hl:xs.length<=1099511627776):GF Tryz.prog 121 [strs xs,.v (sv s)] [] (.v (ii (idxOf xs s))) []:=by
 refine ai Tryz.func121 Tryz.ntmps121 ?_;refine GW.range (xs.map fun s=>[GV.v (sv s)]).length (fun k fr Γ=>fr=[strs xs,.v (sv s),.aaF,.aaF,.aaF,.aaF,strs xs,.v (ii ((xs.map fun s=>[GV.v (sv s)]).length:Int)),.v (ii (k:Nat)),.aaF,.aaF,.aaF,.aaF,.aaF,.aaF,.aaF,.aaF,.aaF,.aaF]/\Γ=[]/\((xs.take k).all fun x=>!(s==x))=true) ?_ (by simpa using hl) ?_ ?_ ?_
 ·exact ⟨_,_,Wk.aw al,rfl,rfl,rfl⟩
 ·rintro k _ _ ⟨rfl,rfl,_⟩;exact ⟨rfl,rfl,rfl⟩
 ·rintro k _ _ aq ⟨rfl,rfl,hc⟩
  have aq:k < xs.length:=by simpa using aq
  have hx:xs[k]?=some xs[k]:=by simp [aq]
  have hr:(xs.map fun s=>[GV.v (sv s)])[k]?=some [.v (sv xs[k])]:=by simp [aq]
  cases hb:(s==xs[k]) with
  | true =>
   have hi:xs.findIdx? (fun x=>s==x)=some k:=by
    rw [List.findIdx?_eq_some_iff_getElem];refine ⟨aq,hb,fun j hj=>?_⟩;rw [List.all_eq_true] at hc;have:=hc xs[j] (by rw [List.mem_take_iff_getElem];exact ⟨j,by omega,rfl⟩);simpa using this
   unfold idxOf;rw [hi];generalize xs[k]=x at *;exact av
  | false =>
   have qO:=su (q:=fun x=>!(s==x)) hx hc (by rw [hb];rfl);generalize xs[k]=x at *;refine ab ?_;exact ⟨rfl,rfl,_,_,Wk.aw al,rfl,rfl,qO⟩
 ·rintro _ _ ⟨rfl,rfl,hc⟩;rw [take_of_length_le (by simp)] at hc
  have hi:xs.findIdx? (fun x=>s==x)=none:=by
   rw [List.findIdx?_eq_none_iff];intro x hx;rw [List.all_eq_true] at hc;have:=hc x hx;simpa using this
  unfold idxOf;rw [hi];exact av
theorem Pd (xs:List ah) (s:ah):decide (0<=idxOf xs s)=xs.contains s:=by
 unfold idxOf
 cases h:xs.findIdx? (fun x=>s==x) with
 | some i =>
  rw [List.findIdx?_eq_some_iff_getElem] at h;obtain ⟨h1,h2,_⟩:=h
  have h3:s=xs[i]:=by simpa using h2
  have:xs.contains s=true:=by rw [List.contains_iff_mem,h3];exact getElem_mem _
  rw [this];simp
 | none =>
  rw [List.findIdx?_eq_none_iff] at h
  have:xs.contains s=false:=by
   cases hc:xs.contains s with
   | false=>rfl
   | true=>have:=h s (List.contains_iff_mem.1 hc);simp at this
  rw [this];rfl
theorem jW (xs:List ah) (s:ah) (hl:xs.length<=1099511627776):GF Tryz.prog 83 [strs xs,.v (sv s)] [] (.v (.bool (xs.contains s))) []:=by
 have hi:=Rz xs s hl;rw [<-Pd];generalize idxOf xs s=i at *;refine ai Tryz.func83 Tryz.ntmps83 ?_;refine U [] (hi) ?_;exact ao
end Go.Xg
set_option maxHeartbeats 2000000
namespace Go.Xg
open Go.RowKit Go.Xw Go.Proofs
open Go.Xp (Nd T Ar)
open Go.Sp (Src)
open Go.Im
attribute [local irreducible] GW GL GO YG GC GA aS aW
theorem M5 (s:ah):GF Tryz.prog 81 [.v (sv s)] [] (.v (.bool (lJ s))) []:=by
 unfold lJ ov pG iu
 cases h1:(s==[103,101,116])
 all_goals cases h2:(s==[112,117,116])
 all_goals
  refine ai Tryz.func81 Tryz.ntmps81 ?_;exact ao
theorem Ez {oN:FuncId} [aC Tryz.prog oN] (pr:Go.Sp.Fn->Bool) (l:List (Go.Sp.Fn)) (hn:l.length<=1099511627776) (hc:∀ x∈l,GF Tryz.prog oN [.agg (au x)] [] (.v (.bool (pr x))) []) :
  GF Tryz.prog 125 [.sl 3 (l.map au),.v (.func (.func oN) #[] #[])] [] (.v (ii (cH pr l))) []:=by
 have dO:(l.map au).length=l.length:=by simp
 refine ai Tryz.func125 Tryz.ntmps125 ?_;refine GW.range (l.map au).length (fun k fr Γ=>fr=[.sl 3 (l.map au),.v (.func (.func oN) #[] #[]),.aaF,.aaF,.aaF,.aaF,.aaF,.v (ii ((l.map au).length:Int)),.v (ii (k:Nat)),.aaF,.aaF,.aaF,.aaF,.aaF,.aaF,.aaF,.aaF,.aaF,.aaF]/\Γ=[]/\(l.take k).all (fun y=>!pr y)=true) ?_ ae ?_ ?_ ?_
 ·exact ⟨_,_,Wk.aw al,rfl,rfl,rfl⟩
 ·rintro k _ _ ⟨rfl,rfl,_⟩;exact ⟨rfl,rfl,rfl⟩
 ·rintro k _ _ aq ⟨rfl,rfl,aO⟩;rw [dO] at aq;obtain ⟨x,cP⟩:∃ x,l[k]?=some x:=⟨l[k],by simp [aq]⟩
  have hr:(l.map au)[k]?=some (au x):=by rw [getElem?_map,cP];rfl
  have h:=hc x (mem_of_getElem? cP);have bq:=mH (f:=pr) cP
  have hit:=fun h0=>nr (f:=pr) cP h0 aO
  unfold au at hr h
  cases hb:pr x with
  | true =>
   rw [hb] at h;rw [hit hb];refine ab ?_;refine ig [] (h) ?_;exact av
  | false =>
   rw [hb] at h bq;refine ab ?_;refine ig [] (h) ?_;refine ab ?_;exact ⟨rfl,rfl,_,_,Wk.aw al,rfl,rfl,by rw [bq,aO];rfl⟩
 ·rintro _ _ ⟨rfl,rfl,aO⟩;rw [dO,take_length] at aO;rw [kD aO];exact av
theorem tI {oN:FuncId} [aC Tryz.prog oN] (pr:Go.Sp.Fn->Bool) (l:List (Go.Sp.Fn)) (hn:l.length<=1099511627776) (hc:∀ x∈l,GF Tryz.prog oN [.agg (au x)] [] (.v (.bool (pr x))) []) :
  GF Tryz.prog 138 [.sl 3 (l.map au),.v (.func (.func oN) #[] #[])] [] (.v (.bool (l.any pr))) []:=by
 have h:=Ez pr l hn hc;rw [<-Dn];generalize cH pr l=z at *;refine ai Tryz.func138 Tryz.ntmps138 ?_;refine U [] (h) ?_;exact ao
theorem D8 {oN:FuncId} [aC Tryz.prog oN] (pr:Go.Sp.Fn->Bool) (s:ah) (l:List (Go.Sp.Fn)) (hn:l.length<=1099511627776) (hc:∀ x∈l,GF Tryz.prog oN [.agg (au x),.box [.v (sv s)] 0] [] (.v (.bool (pr x))) []) :
  GF Tryz.prog 125 [.sl 3 (l.map au),.fn (.func oN) [] [.box [.v (sv s)] 0]] [] (.v (ii (cH pr l))) []:=by
 have dO:(l.map au).length=l.length:=by simp
 refine ai Tryz.func125 Tryz.ntmps125 ?_;refine GW.range (l.map au).length (fun k fr Γ=>fr=[.sl 3 (l.map au),.fn (.func oN) [] [.box [.v (sv s)] 0],.aaF,.aaF,.aaF,.aaF,.aaF,.v (ii ((l.map au).length:Int)),.v (ii (k:Nat)),.aaF,.aaF,.aaF,.aaF,.aaF,.aaF,.aaF,.aaF,.aaF,.aaF]/\Γ=[]/\(l.take k).all (fun y=>!pr y)=true) ?_ ae ?_ ?_ ?_
 ·exact ⟨_,_,Wk.aw al,rfl,rfl,rfl⟩
 ·rintro k _ _ ⟨rfl,rfl,_⟩;exact ⟨rfl,rfl,rfl⟩
 ·rintro k _ _ aq ⟨rfl,rfl,aO⟩;rw [dO] at aq;obtain ⟨x,cP⟩:∃ x,l[k]?=some x:=⟨l[k],by simp [aq]⟩
  have hr:(l.map au)[k]?=some (au x):=by rw [getElem?_map,cP];rfl
  have h:=hc x (mem_of_getElem? cP);have bq:=mH (f:=pr) cP
  have hit:=fun h0=>nr (f:=pr) cP h0 aO
  unfold au at hr h
  cases hb:pr x with
  | true =>
   rw [hb] at h;rw [hit hb];refine ab ?_;refine ng [] (h) ?_;exact av
  | false =>
   rw [hb] at h bq;refine ab ?_;refine ng [] (h) ?_;refine ab ?_;exact ⟨rfl,rfl,_,_,Wk.aw al,rfl,rfl,by rw [bq,aO];rfl⟩
 ·rintro _ _ ⟨rfl,rfl,aO⟩;rw [dO,take_length] at aO;rw [kD aO];exact av
theorem D7 {oN:FuncId} [aC Tryz.prog oN] (pr:Ar->Bool) (s:ah) (l:List (Ar)) (hn:l.length<=1099511627776) (hc:∀ x∈l,GF Tryz.prog oN [.agg (aB x),.box [.v (sv s)] 0] [] (.v (.bool (pr x))) []) :
  GF Tryz.prog 123 [.sl 2 (l.map aB),.fn (.func oN) [] [.box [.v (sv s)] 0]] [] (.v (ii (cH pr l))) []:=by
 have dO:(l.map aB).length=l.length:=by simp
 refine ai Tryz.func123 Tryz.ntmps123 ?_;refine GW.range (l.map aB).length (fun k fr Γ=>fr=[.sl 2 (l.map aB),.fn (.func oN) [] [.box [.v (sv s)] 0],.aaF,.aaF,.aaF,.aaF,.aaF,.v (ii ((l.map aB).length:Int)),.v (ii (k:Nat)),.aaF,.aaF,.aaF,.aaF,.aaF,.aaF,.aaF,.aaF,.aaF,.aaF]/\Γ=[]/\(l.take k).all (fun y=>!pr y)=true) ?_ ae ?_ ?_ ?_
 ·exact ⟨_,_,Wk.aw al,rfl,rfl,rfl⟩
 ·rintro k _ _ ⟨rfl,rfl,_⟩;exact ⟨rfl,rfl,rfl⟩
 ·rintro k _ _ aq ⟨rfl,rfl,aO⟩;rw [dO] at aq;obtain ⟨x,cP⟩:∃ x,l[k]?=some x:=⟨l[k],by simp [aq]⟩
  have hr:(l.map aB)[k]?=some (aB x):=by rw [getElem?_map,cP];rfl
  have h:=hc x (mem_of_getElem? cP);have bq:=mH (f:=pr) cP
  have hit:=fun h0=>nr (f:=pr) cP h0 aO
  unfold aB at hr h
  cases hb:pr x with
  | true =>
   rw [hb] at h;rw [hit hb];refine ab ?_;refine ng [] (h) ?_;exact av
  | false =>
   rw [hb] at h bq;refine ab ?_;refine ng [] (h) ?_;refine ab ?_;exact ⟨rfl,rfl,_,_,Wk.aw al,rfl,rfl,by rw [bq,aO];rfl⟩
 ·rintro _ _ ⟨rfl,rfl,aO⟩;rw [dO,take_length] at aO;rw [kD aO];exact av
theorem RY (x:Go.Sp.Fn) (s:ah):GF Tryz.prog 126 [.agg (au x),.box [.v (sv s)] 0] [] (.v (.bool (x.name==s))) []:=by
 unfold au;refine ai Tryz.func126 Tryz.ntmps126 ?_;exact ao
theorem Me (p:Src) (s:ah) (hn:p.fns.length<=1099511627776):GF Tryz.prog 87 [.agg (ar p),.v (sv s)] [] (.v (ii (cH (fun x:Go.Sp.Fn=>x.name==s) p.fns))) []:=by
 have h:=D8 (fun x:Go.Sp.Fn=>x.name==s) s p.fns hn (fun x _=>RY x s);generalize cH (fun x:Go.Sp.Fn=>x.name==s) p.fns=z at *;refine db Tryz.func87 Tryz.ntmps87 ?_;refine iM ?_;refine GL.wk (Wk.freeze (i:=1) rfl rfl rfl (Nat.zero_le _)) ?_;refine GN (by simp only [nP,mM];rfl) ?_;refine ab ?_;refine U [] (h) ?_;exact ao
theorem JJ (x:Ar) (s:ah):GF Tryz.prog 124 [.agg (aB x),.box [.v (sv s)] 0] [] (.v (.bool (x.name==s))) []:=by
 unfold aB;refine ai Tryz.func124 Tryz.ntmps124 ?_;exact ao
theorem De (p:Src) (s:ah) (hn:p.arrays.length<=1099511627776):GF Tryz.prog 86 [.agg (ar p),.v (sv s)] [] (.v (ii (cH (fun x:Ar=>x.name==s) p.arrays))) []:=by
 have h:=D7 (fun x:Ar=>x.name==s) s p.arrays hn (fun x _=>JJ x s);generalize cH (fun x:Ar=>x.name==s) p.arrays=z at *;refine db Tryz.func86 Tryz.ntmps86 ?_;refine iM ?_;refine GL.wk (Wk.freeze (i:=1) rfl rfl rfl (Nat.zero_le _)) ?_;refine GN (by simp only [nP,mM];rfl) ?_;refine ab ?_;refine U [] (h) ?_;exact ao
theorem K9 (x:Go.Sp.Fn):GF Tryz.prog 170 [.agg (au x)] [] (.v (.bool (decide (x.params.length > 40)))) []:=by
 have h:decide ((40:Int) < ((x.params.map fun s=>[GV.v (sv s)]).length:Int))=decide (x.params.length > 40):=by
  rw [length_map];exact decide_eq_decide.2 ae
 rw [<-h];unfold au strs;refine ai Tryz.func170 Tryz.ntmps170 ?_;exact ao
theorem Oo (x:Go.Sp.Fn):GF Tryz.prog 139 [.agg (au x)] [] (.v (.bool (l0 x))) []:=by
 have h:(((x.params.map fun s=>[GV.v (sv s)]).length:Int)==0)=(x.params.length==0):=by
  rw [length_map];exact Bool.eq_iff_iff.2 (by simp)
 unfold l0 vk;rw [<-h];unfold au strs
 cases h1:(x.name==[109,97,105,110])
 all_goals
  refine ai Tryz.func139 Tryz.ntmps139 ?_;exact ao
end Go.Xg
namespace Go.Xg
open Go.RowKit Go.Xw
theorem ny (n:Int):bits .and .i64 n 4294967295=n % 4294967296:=by
 have h:(BitVec.ofInt 64 4294967295).toNat=2 ^ 32 - 1:=by decide
 have key:(BitVec.ofInt 64 n &&& BitVec.ofInt 64 4294967295).toNat=(n % ((2 ^ 64:Nat):Int)).toNat % 2 ^ 32:=by
  rw [BitVec.toNat_and,BitVec.toNat_ofInt,h,Nat.and_two_pow_sub_one_eq_mod]
 show IntKind.i64.wrap ((BitVec.ofInt 64 n &&& BitVec.ofInt 64 4294967295).toNat:Nat)=n % 4294967296;rw [key,IntKind.wrap_i64];omega
section
variable {P:Program} {fr:List GV} {Γ:List Ob}
theorem YG.ny {x y:Operand} {t t':TypeId} {a:Int} (hx:aP fr x=.v (ii a)) (hy:aP fr y=.v (ii 4294967295)):YG P (.binOp .and t x y t') fr Γ (.v (ii (a % 4294967296))) :=
 YG.v2 hx hy fun l w h k d ty pos af=>by
  simp [execOp,eqGuard,h,k,binOp,intBits_and,Go.Xg.ny]
end
end Go.Xg
namespace Go.Xw
open Go.RowKit
class C9 (P:Program) (t:TypeId) (e:outParam TypeId):Prop where
 is:P.underlying t=some (.slice e)/\∃ i,P.info? e=some i/\i.zero=some (.int .u8 0)/\i.size=1/\i.bytes=1
def Qu (P:Program) (t e:TypeId):Bool :=
 (match P.underlying t with | some (.slice e')=>e'==e | _=>false)&&(match P.info? e with | some i=>(match i.zero with | some (.int .u8 0)=>true | _=>false)&&i.size==1&&i.bytes==1 | none=>false)
theorem C9.mk' {P:Program} {t e:TypeId} (h:Qu P t e=true):C9 P t e:=by
 unfold Qu at h;rw [Bool.and_eq_true] at h;obtain ⟨h1,h2⟩:=h;refine ⟨?_,?_⟩
 ·split at h1
  ·rename_i e' hu;rw [hu];simp at h1;rw [h1]
  ·cases h1
 ·split at h2
  ·rename_i i hi;simp only [Bool.and_eq_true,beq_iff_eq] at h2;obtain ⟨⟨h4,h5⟩,h6⟩:=h2;split at h4
   ·rename_i hz;exact ⟨i,hi,hz,h5,h6⟩
   ·cases h4
  ·cases h2
section
variable {P:Program} {Q:kV} {l:List Value} {w:World} {ops:Array Oper} {rest:List Oper} {d:Option Tmp} {ty:TypeId} {pos:String} {af:Array Edge}
def jX (s:ah):List Value:=s.map fun c=>.int .u8 (c.toNat:Int)
theorem WL.Cj {s x:Operand} {t u e:Nat} [hT:C9 P t e] [hU:pd P u] {base n:Nat} {xs:List Value} {v:Value} {str:ah} (hs:ev l s=v) (eS:gk w base e 1 v n xs) (hx:ev l x=sv str)
  (xI:n+str.length<=140737488355328) (Bu:base<=w.heap.size)
  (h:∀ v' w',gk w' base e 1 v' (n+str.length) (xs++jX str)->Ext (fun b=>v.ownBlock=some b) w w'->(∀ b,v'.ownBlock=some b->v.ownBlock=some b\/w.heap.size<=b)->(Ext gP w w'\/v'.ownBlock=v.ownBlock)->WL P ops Q rest (put l d v') w') :
  WL P ops Q (⟨d,.call ⟨.builtin .append,#[s,x],#[t,u]⟩,ty,pos,af,none⟩::rest) l w:=by
 obtain ⟨hu,i,hi,hz,cI,xH⟩:=hT.is;have fo:=hU.und
 have qc:(⟨str.toArray⟩:ByteArray).size=str.length:=by simp [ByteArray.size]
 have eV:Lib.strCells ⟨str.toArray⟩=jX str:=by simp [Lib.strCells,jX]
 obtain ⟨v',w',hr,h2,h3,h4⟩:=Lib.run_append_own_string (P:=P) w base t u ty e i hu fo hi hz cI xH v n xs eS ⟨str.toArray⟩ (by rw [qc];simp only [maxLen];omega) (by rw [qc];omega) Bu;rw [qc,eV] at h2;rw [qc] at h4;have gq:Ext (fun b=>v.ownBlock=some b) w w':=⟨h3.os,h3.tape,h3.output,h3.size,fun j hj hn=>h3.block j hj fun he=>hn he.symm⟩;have mj:(Builtin.append_ #[t,u] ty #[v,sv str]).run P w=.ok v' w':=hr;refine WL.val (v:=v') (w':=w') (by simp [execOp,resolve,invoke,builtin,hs,hx,mj]) (h v' w' h2 gq ?_ ?_)
 ·intro b' bg
  rcases eS.2 with ⟨rfl,rfl⟩ | ⟨g,cap,cur,rfl,mP,hg,n9,wW,eV,BE⟩
  ·by_cases hm:str.length=0
   ·have:=h4.2 ⟨rfl,hm⟩;subst this;cases bg
   ·have c6:=run_append_nil_string (P:=P) w t u ty e i (.int .u8 0) hu fo hi hz ⟨str.toArray⟩ (by omega) (by rw [qc];omega) (by rw [xH,qc];omega);rw [hr] at c6;cases c6;simp only [Value.ownBlock,Option.some.injEq] at bg;exact .inr (by omega)
  ·by_cases hroom:n+str.length<=cap
   ·have TN:cur.size=cap:=by simpa using eV
    have c6:=Lib.run_append_room_string (P:=P) w t u ty e i hu fo hi cI g n cap cur hg ⟨str.toArray⟩ (by rw [qc];exact hroom) (by rw [qc];omega);rw [hr] at c6;cases c6;exact .inl bg
   ·have holds:∀ j u,xs[j]?=some u->w.cell? ((⟨g,0,none⟩:Addr).add j)=some u:=World.ownsRow.cells (g:=g) eS rfl;have c6:=Lib.run_append_grow_string (P:=P) w t u ty e i (.int .u8 0) hu fo hi hz ⟨g,0,none⟩ n cap xs (by rw [cI];exact eS.1) holds ⟨str.toArray⟩ (by rw [qc];omega) (by rw [qc];omega) (by rw [xH,qc];exact growslice_fits (by omega) (by omega));rw [hr] at c6;cases c6;simp only [Value.ownBlock,Option.some.injEq] at bg;exact .inr (by omega)
 ·rcases eS.2 with ⟨rfl,rfl⟩ | ⟨g,cap,cur,rfl,mP,hg,n9,wW,eV,BE⟩
  ·exact .inl (gq.mono fun k _ hk=>by cases hk)
  ·by_cases hroom:n+str.length<=cap
   ·have TN:cur.size=cap:=by simpa using eV
    have c6:=Lib.run_append_room_string (P:=P) w t u ty e i hu fo hi cI g n cap cur hg ⟨str.toArray⟩ (by rw [qc];exact hroom) (by rw [qc];omega);rw [hr] at c6;cases c6;exact .inr rfl
   ·have holds:∀ j u,xs[j]?=some u->w.cell? ((⟨g,0,none⟩:Addr).add j)=some u:=World.ownsRow.cells (g:=g) eS rfl;have c6:=Lib.run_append_grow_string (P:=P) w t u ty e i (.int .u8 0) hu fo hi hz ⟨g,0,none⟩ n cap xs (by rw [cI];exact eS.1) holds ⟨str.toArray⟩ (by rw [qc];omega) (by rw [qc];omega) (by rw [xH,qc];exact growslice_fits (by omega) (by omega));rw [hr] at c6;cases c6;exact .inl ⟨rfl,rfl,rfl,by simp,fun k hk _=>Below.heap_alloc _ _ _ (by simpa using hk)⟩
theorem R.qm {x:Operand} {s:TypeId} {i off:Nat} [hT:de P s i off 1 false] {vs:List Value} {v:Value} (hx:ev l x=.agg vs.toArray) (hv:vs[off]?=some v):eg P l w (.field s x i) v:=fun d ty pos af=>by
 obtain ⟨hT⟩:=hT;unfold JW at hT;split at hT
 ·rename_i fs hu;split at hT
  ·rename_i f hf;simp only [Bool.and_eq_true,beq_iff_eq,bne_iff_ne,ne_eq] at hT;obtain ⟨⟨⟨h1,h2⟩,h3⟩,h4⟩:=hT
   have Zk:(isAgg f.type).run P w=.ok false w:=by
    cases hd:P.underlying f.type with
    | none=>simp [hd] at h4
    | some d =>
     rw [hd] at h4;unfold isAgg;rw [Sem.run_bind,run_underlying hd w]
     cases d <;> simp_all [yx]
   have BH:vs.toArray[f.offset]?=some v:=by rw [h1];simpa using hv
   have ZZ:vs[f.offset]?=some v:=by rw [h1];exact hv
   simp [execOp,Instr.field,hx,run_underlying hu,hf,part,asAgg,Zk,BH,ZZ]
  ·cases hT
 ·cases hT
end
end Go.Xw
namespace Go.Xg
open Go.RowKit Go.Xw
section
variable {P:Program} {m:Nat} {Q:dP} {fr:List GV} {Γ:List Ob} {ops:Array Oper} {rest:List Oper} {d:Option Tmp} {op:Op} {ty:TypeId} {pos:String} {af:Array Edge}
theorem YG.qm {x:Operand} {s:TypeId} {i off:Nat} [hT:de P s i off 1 false] {cs:List GV} {g:GV} (hx:aP fr x=.agg cs) (hg:cs[off]?=some g):YG P (.field s x i) fr Γ g:=fun B K β w l hI hF=>by
 have h:=hF.ev x;rw [hx] at h;generalize hv:ev l x=v at h
 cases h with
 | agg vs _ hl h =>
  have hi:off < vs.length:=by rw [hl];exact (List.getElem?_eq_some_iff.1 hg).1
  exact ⟨vs[off],R.qm hv (by simp [hi]),h off _ g (by simp [hi]) hg⟩
abbrev bZ (s:ah):List (List GV):=s.map fun c=>[.v (.int .u8 (c.toNat:Int))]
theorem GL.Cj {s x:Operand} {t u e:Nat} [hT:C9 P t e] [hU:pd P u] {i n fz:Nat} {rows:List (List GV)} {str:ah} (hx:aP fr x=.v (sv str)) (hs:aP fr s=.vec i n) (br:Γ[i]?=some (.vec e 1 fz rows)) (hn:rows.length=n) (bK:str.isEmpty=false)
  (hb:n+str.length<=140737488355328)
  (h:GL P m ops Q rest (bh fr d (.vec i (n+str.length))) (oset Γ i (.vec e 1 fz (rows++bZ str)))) :
  GL P m ops Q (⟨d,.call ⟨.builtin .append,#[s,x],#[t,u]⟩,ty,pos,af,none⟩::rest) fr Γ:=fun B K β w l hm hI hF=>by
 subst hn
 have bK:str≠[]:=by intro h0;rw [h0] at bK;cases bK
 obtain ⟨h0,xs,o1,o2,o3,o4,o5,o6⟩:=hI.ob i _ br;have sQ:=hF.ev s;rw [hs] at sQ
 have qd:ev l s=h0:=by
  generalize hv:ev l s=v at sQ
  cases sQ with
  | vec _ _ a c hh =>
   obtain ⟨h',m',e1,e2,e3⟩:=hh;rw [o1] at e1;cases e1;exact e3 rfl
 have iU:(bZ str).flatten=str.map fun c=>GV.v (.int .u8 (c.toNat:Int)):=by
  unfold bZ;clear hx bK hb h;generalize str=s
  induction s with
  | nil=>rfl
  | cons c r ih=>simp only [List.map_cons,flatten_cons,ih];rfl
 have hlen:(bZ str).length=str.length:=by simp [bZ]
 refine WL.Cj (base:=0) (v:=h0) (n:=rows.length) (xs:=xs) (str:=str) qd o2 (hF.gE hx) hb (Nat.zero_le _) ?_;intro v' w' how gq tV vf
 obtain ⟨K',hK,qe,bd⟩:=hI.grow br o1 ⟨o2,o3⟩ (news:=bZ str) (ns:=jX str) (by rw [hlen];exact how) gq tV (by rw [iU];exact (by
   have:(str.map fun c=>GV.v (.int .u8 (c.toNat:Int)))=jM (jX str):=by simp [jM,jX]
   rw [this];exact aV.self)) (fun r hr=>by
   simp only [bZ,mem_map] at hr;obtain ⟨c,_,rfl⟩:=hr
   exact ⟨rfl,fun g hg=>by rw [List.mem_singleton] at hg;subst hg;rfl⟩) (by intro h0;exact bK (List.map_eq_nil_iff.1 h0)) (fun b bg o v ho hv=>by
  rcases vf with h7 | h7
  ·exact h7.c hv (fun h=>h)
  ·have gS:o < xs.length:=by rw [o2.1];exact Nat.lt_of_lt_of_le ho (Nat.mul_le_mul_right 1 o6)
   obtain ⟨b2,c2,oP,_,_,jt⟩:=o2.cells.2 (by intro h0;rw [h0] at gS;simp at gS)
   have eB:b2=b:=by rw [oP] at bg;cases bg;rfl
   subst eB;have DD:=jt o xs[o] (by simp [gS]);rw [eT,hv] at DD;cases DD;obtain ⟨b3,c3,MI,_,_,ME⟩:=how.cells.2 (by intro h0;have:xs=[]:=(List.append_eq_nil_iff.1 h0).1;rw [this] at gS;simp at gS)
   have xE:b3=b2:=by rw [MI,bg] at h7;cases h7;rfl
   subst xE
   rw [<-eT];exact ME o _ (by rw [getElem?_append_left gS];simp [gS]))
 rw [<-aY] at bd;refine h B K' _ w' _ hm bd ((hF.mono hK qe).put d ?_);obtain ⟨a,c,rfl⟩:=how.shape;exact .vec i _ a c ⟨_,_,ba,by simp [hlen],fun _=>by simp [hlen]⟩
end
theorem GF.UH {P:Program} {f:FuncId} {vs:List Value} {v:Value} (h:∀ K β w,eY K β w->iN K w->lT P f vs w fun x w'=>x=v/\Ext gP w w'):GF P f (vs.map GV.v) [] (.v v) []:=fun B K β w us hm hI hF=>by
 have hv:us=vs:=by
  obtain ⟨h1,h2⟩:=hF;apply ext_getElem
  ·simpa using h1
  ·intro i h3 h4;have:=h2 i us[i] (.v vs[i]) (by simp [h3]) (by simp [h4]);exact Rel.dR this
 subst hv
 exact (h K β w hI.tab hI.fz).mono fun x w' ⟨h1,h2⟩=>⟨K,β,.v v,[],hI.same h2,by rw [h1];exact .v _,rfl,rfl⟩
theorem eY.cell {K:Fz} {β:Bt} {w:World} (h:eY K β w) (hf:iN K w) {b o:Nat} {x:Value} (hk:∀ m,xg m b o=some (.v x)):fy w.heap b o=some x:=by
 obtain ⟨m,h⟩:=h.le;obtain ⟨_,v,hv,hr⟩:=hf b o _ (h b o _ (hk m));rw [hv,Rel.dR hr]
theorem eY.maxLen {K:Fz} {β:Bt} {w:World} (h:eY K β w) (hf:iN K w):∃ m,w.cell? ⟨1,0,none⟩=some (.int .i64 m):=by
 obtain ⟨m,h⟩:=h.le
 have hk:xg m 1 0=some (.v (.int .i64 m)):=by simp [xg]
 obtain ⟨_,v,hv,hr⟩:=hf _ _ _ (h _ _ _ hk);exact ⟨m,by rw [eT,hv,Rel.dR hr]⟩
theorem so.all {K:Fz} {β:Bt} {w:World} (h:eY K β w) (hf:iN K w) {b n:Nat} {zs:List Value} (hb:so w b n) (hn:zs.length=n) (hk:∀ m o x,zs[o]?=some x->xg m b o=some (.v x)):∃ E z,w.heap[b]?=some (.cells zs.toArray E z):=by
 obtain ⟨cs,E,z,h1,h2⟩:=hb;refine ⟨E,z,?_⟩
 have:cs=zs.toArray:=by
  apply Array.ext
  ·simp [h2,hn]
  ·intro i hi n7
   have hx:zs[i]?=some zs.toArray[i]:=by simp
   have h3:=h.cell hf (b:=b) (o:=i) (fun m=>hk m i _ hx)
   have h4:fy w.heap b i=cs[i]?:=by rw [<-eT,cell_of_row w b i cs E z h1]
   rw [h4] at h3;simpa [hi] using h3
 rw [h1,this]
theorem GF.Yq {P:Program} {f:FuncId} {vs us:List Value} {E:TypeId} (h:∀ K β w,eY K β w->iN K w->lT P f vs w fun x w'=>x=.slice (some ⟨w.heap.size,0,none⟩) us.length us.length/\w'=w.alloc (.cells us.toArray E)):GF P f (vs.map GV.v) [] (.sl 1 (us.map fun u=>[.v u])) []:=fun B K β w ws hm hI hF=>by
 have hv:ws=vs:=by
  obtain ⟨h1,h2⟩:=hF;apply ext_getElem
  ·simpa using h1
  ·intro i h3 h4;have:=h2 i ws[i] (.v vs[i]) (by simp [h3]) (by simp [h4]);exact Rel.dR this
 subst hv
 refine (h K β w hI.tab hI.fz).mono fun x w' ⟨h1,h2⟩=>?_
 subst h1;subst h2;have hn:=uK.of w (.cells us.toArray E);obtain ⟨hle,bd⟩:=hI.tR hn (cs:=us.map .v) aV.self (fun g hg=>by obtain ⟨u,_,rfl⟩:=List.mem_map.1 hg;rfl);refine ⟨_,β,.sl 1 (us.map fun u=>[.v u]),[],bd,?_,rfl,rfl⟩;have:=Rel.sl (K:=kv K w.heap.size (us.map .v)) (β:=β) w.heap.size 0 us.length 1 (us.map fun u=>[.v u]) (fun i r hr=>?_) (by simp)
 ·rw [length_map] at this;exact this
 ·rw [getElem?_map] at hr
  cases hu:us[i]? with
  | none=>rw [hu] at hr;cases hr
  | some u =>
   rw [hu] at hr;cases hr;refine ⟨rfl,fun j g hg=>?_⟩
   cases j with
   | zero=>cases hg;rw [Nat.zero_add,Nat.mul_one,Nat.add_zero];exact uM (by rw [getElem?_map,hu];rfl)
   | succ j=>simp at hg
end Go.Xg
