/- Part 5 of proofs that are told in their last texts. -/
import Derived.Test.YtcoplmnahnipiaaGreatDoorO4
import Derived.IntWalk
import Derived.Laws.IdiomStrings
import Derived.Test.YtcoplmnahnipiaaGreatDoorProg
import Derived.KernelRfl
import Derived.Test.YtcoplmnahnipiaaGreatDoorO1
import Derived.Test.YtcoplmnahnipiaaGreatDoorO2
import Derived.Deep.Slices
import Derived.Deep.Fields
import Derived.ChangeSame
import Derived.Lib.SmallJoins
import Derived.SliceStrings
import Derived.ChangeSlices
import Derived.Lib.LaidU8
import Derived.Shelf.Vars
import Derived.Test.YtcoplmnahnipiaaGreatDoorO3
import Derived.Laws.Bits128
import Derived.Lib.AppendStr
import Derived.Laws.OwnMore
open List (cons_append eq_nil_of_length_eq_zero ext_getElem flatten_cons getElem?_append_left getElem?_append_right getElem?_eq_getElem getElem?_map getElem?_set getElem_mem length_append length_cons length_map length_nil map_map mem_cons_of_mem mem_cons_self mem_map mem_of_getElem? sum_cons take_add_one take_length take_of_length_le toList_toArray)
set_option linter.unusedVariables false
set_option linter.unusedSimpArgs false
set_option maxRecDepth 100000
namespace Go.Xg
open Go.RowKit Go.Xw
section
variable {P:Program} {m:Nat} {Q:dP} {fr:List GV} {Γ:List Ob} {ops:Array Oper} {rest:List Oper} {d:Option Tmp} {op:Op} {ty:TypeId} {pos:String} {af:Array Edge}
theorem GW.join {c y:Code} (K:List GV->List Ob->Prop) (h1:GW P m c (aY (yU m K) Q) fr Γ) (h2:∀ fr Γ,K fr Γ->GW P m y Q fr Γ):GW P m c (aY (GW P m y Q) Q) fr Γ:=by
 refine h1.mono fun e fr Γ hq=>?_
 cases e with
 | normal=>obtain ⟨cj,aL,hw,hk⟩:=hq;exact GW.wk hw (h2 _ _ hk)
 | _=>exact hq
theorem YG.my {x y:Operand} {t e:TypeId} {k:Nat} [hT:mj P t e k] {rows:List (List GV)} {kk:IntKind} {n:Int} {i:Nat} {r:List GV} (hx:aV fr x=.sl k rows) (hy:aV fr y=.v (.int kk n)) (hr:rows[i]?=some r) (hi:n=(i:Int)):YG P (.indexAddr t x y) fr Γ (.box r 0):=by
 subst hi;exact YG.v7 hx hy hr
def l9:List (List GV)->Bool
 | []=>true
 | r::rs=>l8 r&&l9 rs
theorem Bm {rows:List (List GV)} (h:l9 rows=true):l8 rows.flatten=true:=by
 induction rows with
 | nil=>rfl
 | cons r rs ih =>
  simp only [l9,Bool.and_eq_true] at h
  have YT:∀ (a b:List GV),l8 a=true->l8 b=true->l8 (a++b)=true:=by
   intro a
   induction a with
   | nil=>intro b _ hb;exact hb
   | cons x a xP =>
    intro b ha hb;simp only [l8,Bool.and_eq_true] at ha;simp only [cons_append,l8,Bool.and_eq_true];exact ⟨ha.1,xP b ha.2 hb⟩
  rw [flatten_cons];exact YT _ _ h.1 (ih h.2)
theorem GL.app {s x:Operand} {t e k gS:Nat} [hT:nZ P t e k gS] {i n fz:Nat} {rows news:List (List GV)} (hx:aV fr x=.sl k news) (hs:aV fr s=.vec i n) (bB:Γ[i]?=some (.vec e k fz rows)) (hn:rows.length=n) (h1:l9 news=true) (bJ:news.isEmpty=false)
  (hb:n+news.length<=9223372036854775807/\(n+news.length) * gS<=140737488355328)
  (h:GL P m ops Q rest (bu fr d (.vec i (n+news.length))) (oset Γ i (.vec e k fz (rows++news)))) :
  GL P m ops Q (⟨d,.call ⟨.builtin .append,#[s,x],#[t,t]⟩,ty,pos,af,none⟩::rest) fr Γ:=fun B K β w l hm hI hF=>by
 subst hn
 have bJ:news≠[]:=by intro h0;rw [h0] at bJ;cases bJ
 obtain ⟨h0,xs,o1,o2,o3,o4,o5,o6⟩:=hI.ob i _ bB;have sW:=hF.ev s;rw [hs] at sW
 have qm:ev l s=h0:=by
  generalize hv:ev l s=v at sW
  cases sW with
  | vec _ _ a c hh =>
   obtain ⟨h',m',e1,e2,e3⟩:=hh;rw [o1] at e1;cases e1;exact e3 rfl
 have pj:=hF.ev x;rw [hx] at pj;generalize rn:ev l x=v at pj
 cases pj with
 | sl0 a c k=>exact absurd rfl bJ
 | sl b o c _ _ hr _ =>
  have ke:fy k news:=fun r MS=>by
   obtain ⟨j,hj⟩:=List.mem_iff_getElem?.1 MS;refine ⟨(hr j r hj).1,fun g hg=>?_⟩;obtain ⟨q,hq⟩:=List.mem_iff_getElem?.1 hg;exact (hI.fz _ _ _ ((hr j r hj).2 q g hq)).1
  have yB:∀ (rows:List (List GV)) (o:Nat),(∀ (j:Nat) r,rows[j]?=some r->r.length=k/\∀ (q:Nat) g,r[q]?=some g->K b (o+j * k+q)=some g)->∀ (q:Nat) g,rows.flatten[q]?=some g->K b (o+q)=some g:=by
   intro rows
   induction rows with
   | nil=>intro o _ q g hg;simp at hg
   | cons r rows ih =>
    intro o h q g hg;rw [flatten_cons] at hg;have hl:=(h 0 r rfl).1
    by_cases hq:q < r.length
    ·rw [getElem?_append_left hq] at hg;have:=(h 0 r rfl).2 q g hg;simpa using this
    ·rw [getElem?_append_right (by omega),hl] at hg
     have:=ih (o+k) (fun j r' hj=>by
      have:=h (j+1) r' (by simpa using hj);refine ⟨this.1,fun q g hg=>?_⟩;have:=this.2 q g hg
      rw [show o+(j+1) * k+q=o+k+j * k+q by rw [Nat.succ_mul];omega] at this;exact this) (q - k) g hg
     rw [show o+k+(q - k)=o+q by omega] at this;exact this
  obtain ⟨us,kj,kK⟩:=vQ (K:=K) (β:=β) (H:=w.heap) (b:=b) news.flatten o (fun j g hj=>by
   obtain ⟨hp,u,hu,eT⟩:=hI.fz _ _ _ (yB news o (fun j r hj=>hr j r hj) j g hj)
   exact ⟨u,hu,eT.pc hp⟩)
  have De:us.length=news.length * k:=by
   rw [kj.1,List.length_flatten]
   have:∀ (rows:List (List GV)),fy k rows->(rows.map List.length).sum=rows.length * k:=by
    intro rows
    induction rows with
    | nil=>intro _;simp
    | cons r rows ih =>
     intro hk;rw [List.map_cons,sum_cons,ih (fun r hr=>hk r (mem_cons_of_mem _ hr)),(hk r (mem_cons_self)).1,length_cons,Nat.succ_mul];omega
   exact this news ke
  refine WL.app (base:=0) (v:=h0) (n:=rows.length) (m:=news.length) (xs:=xs) (news:=us) qm o2 rn De (fun j u hj=>by rw [fb];exact kK j u hj) (kj.lD (Bm h1)) hb.1 hb.2 (Nat.zero_le _) ?_;intro v' w' how gI oD va
  obtain ⟨K',hK,qn,bj⟩:=hI.grow bB o1 ⟨o2,o3⟩ (news:=news) (ns:=us) how gI oD kj ke bJ (fun b bt o v ho hv=>by
   rcases va with h7 | h7
   ·exact h7.c hv (fun h=>h)
   ·have ik:o < xs.length:=by rw [o2.1];exact Nat.lt_of_lt_of_le ho (Nat.mul_le_mul_right k o6)
    obtain ⟨b2,c2,pg,_,_,jP⟩:=o2.cells.2 (by intro h0;rw [h0] at ik;simp at ik)
    have eL:b2=b:=by rw [pg] at bt;cases bt;rfl
    subst eL;have Dh:=jP o xs[o] (by simp [ik]);rw [fb,hv] at Dh;cases Dh;obtain ⟨b3,c3,MI,_,_,ME⟩:=how.cells.2 (by intro h0;have:xs=[]:=(List.append_eq_nil_iff.1 h0).1;rw [this] at ik;simp at ik)
    have xy:b3=b2:=by rw [MI,bt] at h7;cases h7;rfl
    subst xy
    rw [<-fb];exact ME o _ (by rw [getElem?_append_left ik];simp [ik]))
  rw [<-bc] at bj;refine h B K' _ w' _ hm bj ((hF.mono hK qn).put d ?_);obtain ⟨a,c,rfl⟩:=how.shape;exact .vec i _ a c ⟨_,_,bm,by simp,fun _=>by simp⟩
theorem Wk.Kp {i o:Nat} {T:TypeId} {cs:List GV} (E k:Nat) (hi:Γ[i]?=some (.box T cs)) (ho:cs[o]?=some (.v (.slice none 0 0))):Wk m fr Γ fr (oset Γ i (.box T (bx cs o (.vec Γ.length 0)))++[.vec E k 0 []]):=fun B K β w l hm hI hF=>by
 have bN:β Γ.length=.no:=hI.out _ (Nat.le_refl _);have ao:i < Γ.length:=(List.getElem?_eq_some_iff.1 hi).1;have bj:=hI.BJ (w':=w) (E:=E) (k:=k) (x:=.slice none 0 0) (xs:=[]) (rows:=[]) (Ext.refl w) (gC.nil w 0 E k) (fun b hb=>by cases hb) bb.nil (fun r hr=>by cases hr);have hle:cZ β (eC β Γ.length (.gr (.slice none 0 0) ([]:List (List GV)).length)):=fV (by rw [bN];trivial);refine ⟨K,_,⟨bj.ext,bj.kle,bj.ble,bj.loc,bj.fz,fun j x hj=>?_,fun j hj=>bj.out j (by simp [bc] at hj |-;exact hj),bj.dis,bj.own,bj.kn,bj.tab⟩,hF.mono (cq.refl K) hle⟩
 by_cases oa:j=i
 ·subst oa;rw [getElem?_append_left (by simp [bc];exact ao),bc,getElem?_set] at hj;simp [ao] at hj;subst hj;obtain ⟨b,vs,h1,h2,h3,h4⟩:=bj.ob j (.box T cs) (by rw [getElem?_append_left ao];exact hi);refine ⟨b,vs,h1,h2,?_,h4⟩
  have gen:∀ (vs:List Value) (cs:List GV) (o:Nat),bb K (eC β Γ.length (.gr (.slice none 0 0) ([]:List (List GV)).length)) vs cs->cs[o]?=some (.v (.slice none 0 0))->bb K (eC β Γ.length (.gr (.slice none 0 0) ([]:List (List GV)).length)) vs (bx cs o (.vec Γ.length 0)):=by
   intro vs
   induction vs with
   | nil=>intro cs o h ho;have:cs=[]:=eq_nil_of_length_eq_zero h.1.symm;subst this;simp at ho
   | cons v vs ih =>
    intro cs o h ho
    cases cs with
    | nil=>simp at ho
    | cons c cs =>
     obtain ⟨a1,a2⟩:=h.nL
     cases o with
     | zero =>
      cases ho;have hv:=Rel.eD a1;subst hv;exact .cons (.vec _ 0 none 0 ⟨_,_,bm,Nat.le_refl _,fun _=>rfl⟩) a2
     | succ o=>exact .cons a1 (ih cs o a2 (by simpa using ho))
  exact gen vs cs o h3 ho
 ·refine bj.ob j x ?_
  by_cases oF:j < Γ.length
  ·rw [getElem?_append_left (by simp [bc];exact oF),bc,getElem?_set,if_neg (fun e=>oa e.symm)] at hj;rw [getElem?_append_left oF];exact hj
  ·rw [getElem?_append_right (by simp [bc];omega)] at hj;rw [getElem?_append_right (by omega)];simpa [bc] using hj
theorem Wk.yL {i o j n E k fz:Nat} {T:TypeId} {cs:List GV} {rows:List (List GV)} (hi:Γ[i]?=some (.box T cs)) (ho:cs[o]?=some (.vec j n)) (fq:Nat.beq i j=false) (hj:Γ[j]?=some (.vec E k fz rows)) (hn:rows.length=n):Wk m fr Γ fr (oset (oset Γ j (.vec E k n rows)) i (.box T (bx cs o (.sl k rows)))):=fun B K β w l hm hI hF=>by
 subst hn
 have bJ:i≠j:=by intro e;subst e;simp at fq
 obtain ⟨h0,xs,o1,o2,o3,o4,o5,o6⟩:=hI.ob j _ hj;obtain ⟨K',hK,C6,bj⟩:=hI.jy hj;rw [<-bc] at bj;refine ⟨K',β,⟨bj.ext,bj.kle,bj.ble,bj.loc,bj.fz,fun q x hq=>?_,fun q hq=>bj.out q (by simpa [bc] using hq),bj.dis,bj.own,bj.kn,bj.tab⟩,hF.mono hK (cZ.refl β)⟩
 by_cases hqi:q=i
 ·subst hqi;have ao:q < Γ.length:=(List.getElem?_eq_some_iff.1 hi).1;rw [bc,getElem?_set] at hq;simp [bc,ao] at hq;subst hq;obtain ⟨b,vs,h1,h2,h3,h4⟩:=bj.ob q (.box T cs) (by rw [bc,getElem?_set,if_neg (fun e=>bJ e.symm)];exact hi);refine ⟨b,vs,h1,h2,?_,h4⟩
  have gen:∀ (vs:List Value) (cs:List GV) (o:Nat),bb K' β vs cs->cs[o]?=some (.vec j rows.length)->bb K' β vs (bx cs o (.sl k rows)):=by
   intro vs
   induction vs with
   | nil=>intro cs o h ho;have:cs=[]:=eq_nil_of_length_eq_zero h.1.symm;subst this;simp at ho
   | cons v vs ih =>
    intro cs o h ho
    cases cs with
    | nil=>simp at ho
    | cons c cs =>
     obtain ⟨a1,a2⟩:=h.nL
     cases o with
     | zero =>
      cases ho;refine .cons ?_ a2
      cases a1 with
      | vec _ _ a c hh =>
       obtain ⟨h',m',e1,e2,e3⟩:=hh;rw [o1] at e1;cases e1;have e4:=e3 rfl
       rcases o2.2 with ⟨e5,e6⟩ | ⟨g,cap,cu,e5,_,_,oH,_⟩
       ·have:rows=[]:=eq_nil_of_length_eq_zero e6;subst this;exact .sl0 _ _ _
       ·rw [e5] at e4;cases e4;refine .sl g 0 _ k rows (fun j r hr=>⟨(o4 r (mem_of_getElem? hr)).1,fun q g' jQ=>?_⟩) oH;rw [Nat.zero_add];exact C6 _ g o1 (by rw [e5];rfl) _ g' (tt o4 hr jQ)
     | succ o=>exact .cons a1 (ih cs o a2 (by simpa using ho))
  exact gen vs cs o h3 ho
 ·rw [bc,getElem?_set,if_neg (fun e=>hqi e.symm)] at hq;exact bj.ob q x hq
end
class Jq (P:Program) (t:TypeId) (k:outParam IntKind):Prop where
 und:P.underlying t=some (.int k)
class K9 (P:Program) (t:TypeId):Prop where
 und:∃ e,P.underlying t=some (.slice e)/\P.underlying e=some (.int .u8)
theorem K9.mk' {P:Program} {t e:TypeId} (h:P.underlying t=some (.slice e)) (k:P.underlying e=some (.int .u8)):K9 P t:=⟨e,h,k⟩
section
variable {P:Program} {m:Nat} {Q:dP} {fr:List GV} {Γ:List Ob} {ops:Array Oper} {rest:List Oper} {d:Option Tmp} {op:Op} {ty:TypeId} {pos:String} {af:Array Edge}
theorem YG.Gj {x y:Operand} {t t':TypeId} {a b:Int} (hx:aV fr x=.v (.int .u8 a)) (hy:aV fr y=.v (.int .u8 b)) (hb:0<=a - b/\a - b<=255):YG P (.binOp .sub t x y t') fr Γ (.v (.int .u8 (a - b))) :=
 YG.v2 hx hy fun l w h k d ty pos af=>by simp [execOp,eqGuard,h,k,binOp,Op.intArith,IntWalk.u8_in _ hb]
theorem YG.quo {x y:Operand} {t t':TypeId} {a b:Int} (hx:aV fr x=.v (ii a)) (hy:aV fr y=.v (ii b)) (hb:0<=a/\a<=9223372036854775807/\1<=b):YG P (.binOp .quo t x y t') fr Γ (.v (ii (a / b))) :=
 YG.v2 hx hy fun l w h k d ty pos af=>by
  have bJ:b≠0:=by omega
  simp [execOp,eqGuard,h,k,binOp,Op.intDiv,bJ,IntWalk.i64_quo a b hb]
theorem YG.rem {x y:Operand} {t t':TypeId} {a b:Int} (hx:aV fr x=.v (ii a)) (hy:aV fr y=.v (ii b)) (hb:0<=a/\1<=b):YG P (.binOp .rem t x y t') fr Γ (.v (ii (a % b))) :=
 YG.v2 hx hy fun l w h k d ty pos af=>by
  have bJ:b≠0:=by omega
  simp [execOp,eqGuard,h,k,binOp,Op.intDiv,bJ,IntWalk.rem_in a b hb.1]
theorem YG.Az {x:Operand} {s t:TypeId} {k k':IntKind} {a:Int} [hS:Jq P s k'] [hT:Jq P t k] (hx:aV fr x=.v (.int k' a)) (hw:k.wrap a=a):YG P (.convert s t x) fr Γ (.v (.int k a)) :=
 YG.v1 hx fun l w h d ty pos af=>by simp [execOp,h,convert,run_underlying hS.und,run_underlying hT.und,Conv.intToInt,hw]
theorem YG.str {x:Operand} {s t:TypeId} {l:ai} {rows:List (List GV)} [hS:K9 P s] [hT:pB P t] (hx:aV fr x=.sl 1 rows) (hr:rows=l.map fun c=>[.v (.int .u8 (c.toNat:Int))]):YG P (.convert s t x) fr Γ (.v (sv l)):=fun B K β w fl hI hF=>by
 subst hr;obtain ⟨e,h1,h2⟩:=hS.und;have h:=hF.ev x;rw [hx] at h;generalize hv:ev fl x=v at h;refine ⟨_,fun d ty pos af=>?_,.v _⟩
 have key:(convert s t v).run P w=.ok (sv l) w:=by
  generalize ke:(l.map fun c=>[GV.v (.int .u8 (c.toNat:Int))])=rows at h
  cases h with
  | sl0 a c =>
   have:l=[]:=by cases l with | nil=>rfl | cons x l=>simp at ke
   subst this
   cases a with
   | none=>rw [run_convert_bytes_string w s t e none 0 c h1 h2 hT.und];simp [Conv.bytesToString];rfl
   | some a=>exact run_convert_bytes_back w s t e a c [] h1 h2 hT.und (fun j hj=>by simp at hj)
  | sl b o c _ _ hc _ =>
   have hl:rows.length=l.length:=by rw [<-ke];simp
   rw [hl];refine run_convert_bytes_back w s t e ⟨b,o,none⟩ c l h1 h2 hT.und (fun j hj=>?_)
   have bz:rows[j]?=some [GV.v (.int .u8 (l[j].toNat:Int))]:=by rw [<-ke];simp [hj]
   obtain ⟨_,u,hu,eT⟩:=hI.fz _ _ _ ((hc j _ bz).2 0 _ rfl);rw [pC,fb];have:=Rel.eD eT;subst this;simpa using hu
 simp [execOp,hv,key]
end
structure Hid (B:Prop):Prop where
 h:B
structure sw (aQ:List Nat) (C:Prop):Prop where
 h:C
section
variable {P:Program} {m:Nat} {ops:Array Oper} {Q:dP} {rest:List Oper} {fr:List GV} {Γ:List Ob} {d:Option Tmp} {ty:TypeId} {pos:String} {af:Array Edge}
theorem GL.uQ {f:FuncId} [hf:aI P f] {aQ:List Nat} {args:List Operand} {mG:Array TypeId} {gs:List GV} {gO qM:List Ob} {g:GV} (hc:sw aQ (GF P f gs gO g qM)) (ha:kR (args.map (aV fr)) (lG (bW aQ Γ.length) gs)) (eH:ig aQ Γ.length=true)
  (bB:seen (bW aQ Γ.length) Γ aQ gO) (hl:Nat.ble aQ.length qM.length=true) (h:GL P m ops Q rest (bu fr d (dz (bW aQ Γ.length) g)) (dS Γ aQ (qM.map (Ob.dz (bW aQ Γ.length))))) :
  GL P m ops Q (⟨d,.call ⟨.value (.func f),args.toArray,mG⟩,ty,pos,af,none⟩::rest) fr Γ:=GL.Wb aQ hc.h ha eH bB hl h
theorem GL.TD {f:FuncId} [hf:aI P f] {aQ:List Nat} {args:List Operand} {mG:Array TypeId} {gs:List GV} {gO:List Ob} {R:GV->List Ob->Prop} (hc:sw aQ (GC P f gs gO R)) (ha:kR (args.map (aV fr)) (lG (bW aQ Γ.length) gs)) (eH:ig aQ Γ.length=true)
  (bB:seen (bW aQ Γ.length) Γ aQ gO) (h:∀ g aL,R g aL->aQ.length<=aL.length/\GL P m ops Q rest (bu fr d (dz (bW aQ Γ.length) g)) (dS Γ aQ (aL.map (Ob.dz (bW aQ Γ.length))))) :
  GL P m ops Q (⟨d,.call ⟨.value (.func f),args.toArray,mG⟩,ty,pos,af,none⟩::rest) fr Γ:=GL.Ay aQ hc.h ha eH bB h
theorem GL.LG {f:FuncId} [hf:aI P f] {aQ:List Nat} {x:Operand} {first cap:List GV} {args:List Operand} {mG:Array TypeId} {gs:List GV} {gO:List Ob} {R:GV->List Ob->Prop} (hc:sw aQ (GC P f gs gO R)) (hx:aV fr x=.fn (.func f) first cap) (ha:first++args.map (aV fr)++cap=lG (bW aQ Γ.length) gs) (eH:ig aQ Γ.length=true)
  (bB:seen (bW aQ Γ.length) Γ aQ gO) (h:∀ g aL,R g aL->aQ.length<=aL.length/\GL P m ops Q rest (bu fr d (dz (bW aQ Γ.length) g)) (dS Γ aQ (aL.map (Ob.dz (bW aQ Γ.length))))) :
  GL P m ops Q (⟨d,.call ⟨.value x,args.toArray,mG⟩,ty,pos,af,none⟩::rest) fr Γ:=GL.vO aQ hc.h hx ha eH bB h
theorem GL.LD {f:FuncId} [hf:aI P f] {aQ:List Nat} {x:Operand} {args:List Operand} {mG:Array TypeId} {gs:List GV} {gO:List Ob} {R:GV->List Ob->Prop} (hc:sw aQ (GC P f gs gO R)) (hx:aV fr x=.v (.func (.func f) #[] #[])) (ha:args.map (aV fr)=lG (bW aQ Γ.length) gs) (eH:ig aQ Γ.length=true)
  (bB:seen (bW aQ Γ.length) Γ aQ gO) (h:∀ g aL,R g aL->aQ.length<=aL.length/\GL P m ops Q rest (bu fr d (dz (bW aQ Γ.length) g)) (dS Γ aQ (aL.map (Ob.dz (bW aQ Γ.length))))) :
  GL P m ops Q (⟨d,.call ⟨.value x,args.toArray,mG⟩,ty,pos,af,none⟩::rest) fr Γ:=GL.Wc aQ hc.h hx ha eH bB h
end
theorem cQ {A : Prop} (s : A := by first | omega | assumption | (simp only [List.length_append,List.length_cons,List.length_nil];omega)) : A := s
theorem bd {A : Prop} (s : A := by first | rfl | assumption) : A := s
theorem r7 {A : Prop} (s : A := by apply K.len;first | exact YG.WK rfl | exact YG.PL rfl | exact YG.ZA rfl | exact YG.ZB rfl | exact YG.lenA rfl) : A := s
theorem cy {A : Prop} (s : A := by first | exact .inr rfl | exact .inl rfl) : A := s
theorem vF {A : Prop} (s : A := by apply K.ld;first | exact YG.X7 rfl rfl bd | exact YG.Vf rfl rfl rfl rfl | exact YG.ldV rfl rfl bd bd bd | exact YG.X6 rfl rfl bd bd bd) : A := s
theorem Og {A : Prop} (s : A := by apply K.ld;first | exact YG.X7 rfl rfl bd | exact YG.X5 rfl bd | exact YG.Vf rfl rfl rfl rfl | exact YG.Ve rfl rfl rfl | exact YG.ldV rfl rfl bd bd bd | exact YG.X6 rfl rfl bd bd bd) : A := s
theorem qd {A : Prop} (s : A := by apply K.nck;first | exact YG.ZF rfl | exact YG.ZE rfl) : A := s
theorem rA {A : Prop} (s : A := by apply K.pick;first | exact YG.RC rfl bd | exact YG.RB rfl bd) : A := s
theorem cB {A : Prop} (s : A := by assumption) : A := s
theorem ek {A : Prop} (s : A := by omega) : A := s
theorem BB {A : Prop} (s : A := by apply K.bin;first | exact YG.go rfl | exact YG.xf rfl rfl ek | exact YG.AB rfl rfl | exact YG.Bh rfl rfl | exact YG.EB rfl rfl | exact YG.FN rfl rfl | exact YG.cat rfl rfl ek | exact YG.cat rfl rfl (by simp only [List.length_append,List.length_cons,List.length_nil];omega) | exact YG.dx rfl rfl ek | exact YG.add rfl rfl ek | exact YG.sub rfl rfl ek | exact YG.mul rfl rfl ek | exact YG.Gj rfl rfl ek | exact YG.quo rfl rfl ek | exact YG.rem rfl rfl ek | exact YG.wj rfl rfl) : A := s
theorem BC {A : Prop} (s : A := by apply K.NV;first | exact YG.Gi rfl rfl rfl ek | exact YG.Gh rfl rfl ek | exact YG.Gg rfl rfl ek | exact YG.ya 1 rfl rfl rfl bd) : A := s
theorem RM {A : Prop} (s : A := by apply K.idx;first | exact YG.idxV rfl rfl rfl bd ek | exact YG.dU 0 rfl rfl rfl cQ | exact YG.dU 1 rfl rfl rfl cQ | exact YG.dU 2 rfl rfl rfl cQ | exact YG.dU 3 rfl rfl rfl cQ | exact YG.dU 4 rfl rfl rfl cQ | exact YG.dU 5 rfl rfl rfl cQ | exact YG.dU 6 rfl rfl rfl cQ) : A := s
theorem RN {A : Prop} (s : A := by apply K.idx;first | exact YG.v7 rfl rfl cB | exact YG.my rfl rfl cB rfl | exact YG.my rfl rfl cB ek | exact YG.xO rfl rfl ek | exact YG.idxV rfl rfl rfl bd ek | exact YG.dU 0 rfl rfl rfl cQ | exact YG.dU 1 rfl rfl rfl cQ | exact YG.dU 2 rfl rfl rfl cQ | exact YG.dU 3 rfl rfl rfl cQ | exact YG.dU 4 rfl rfl rfl cQ | exact YG.dU 5 rfl rfl rfl cQ | exact YG.dU 6 rfl rfl rfl cQ) : A := s
theorem yg {A : Prop} (s : A := by first | rfl | exact IntWalk.i64_in _ ek | exact IntWalk.u8_in _ ek | assumption) : A := s
theorem Gw {A : Prop} (s : A := by apply K.idx;first | exact YG.v7 rfl rfl cB | exact YG.my rfl rfl cB rfl | exact YG.my rfl rfl cB ek | exact YG.xO rfl rfl ek) : A := s
theorem rB {A : Prop} (s : A := by apply K.Ce;first | exact YG.mkfn0 | exact YG.Ce) : A := s
theorem tE {A : Prop} (s : A := by apply K.ld;first | exact YG.X5 rfl bd | exact YG.Ve rfl rfl rfl) : A := s
theorem Oi {A : Prop} (s : A := by apply K.TQ;first | exact YG.TT rfl | exact YG.TR rfl | exact YG.fldV rfl rfl bd | exact YG.TS rfl rfl bd) : A := s
theorem KY {A : Prop} (s : A := by first | exact YG.mv | exact YG.wL | exact BB | exact Oi | exact Og | exact r7 | exact qd | exact rA | exact RN | exact YG.ext rfl rfl | exact YG.go rfl | exact BC | exact YG.sZ rfl rfl cB | exact YG.idxSC rfl rfl cB rfl | exact rB | exact YG.build rfl | exact YG.neg rfl ek | exact YG.sK rfl rfl | exact YG.Az rfl yg | exact YG.str rfl bd) : A := s
theorem tF {A : Prop} (s : A := by apply K.TQ;first | exact YG.TT rfl | exact YG.TR rfl) : A := s
theorem vG {A : Prop} (s : A := by apply K.TQ;first | exact YG.fldV rfl rfl bd | exact YG.TS rfl rfl bd) : A := s
theorem RL {A : Prop} (s : A := by first | exact vF | exact RM | exact vG | exact YG.vw 1 rfl rfl bd bd | exact YG.mv | exact YG.wL | exact BB | exact tF | exact tE | exact r7 | exact qd | exact rA | exact Gw | exact YG.ext rfl rfl | exact YG.go rfl | exact BC | exact YG.sZ rfl rfl cB | exact YG.idxSC rfl rfl cB rfl | exact rB | exact YG.build rfl | exact YG.neg rfl ek | exact YG.sK rfl rfl | exact YG.Az rfl yg | exact YG.str rfl bd) : A := s
theorem Oh {A : Prop} (s : A := by first | exact vF | exact RM | exact vG | exact YG.vw 1 rfl rfl bd bd) : A := s
theorem iP {A:Prop} (s:A:=by repeat (first | exact iR.n | (apply iR.w;(· decide +kernel)) | (apply iR.y;(· first | (apply YQ.t;(· exact rfl);(· exact rfl);(· exact RL)) | (apply YQ.t;(· exact rfl);(· apply B3;(· exact rfl);(· first | exact rfl | assumption));(· exact RL)) | (apply YQ.f;(· exact rfl);(· apply EN;(· exact rfl);(· first | exact rfl | assumption))))))):A:=s
theorem dk {A:Prop} (s:A:=by (try simp only [bu,bx,aV,cH,List.length_cons,List.length_nil,Nat.reduceAdd,dz,lG,bW]);rfl):A:=s
theorem eE {A:Prop} (s:A:=by (try simp only [List.cons_append,List.nil_append,oset,nS,bx,cH,aV,dS,List.map_cons,List.map_nil,Ob.dz,dz,lG,bW]);rfl):A:=s
theorem wI {A:Prop} (s:A:=by simp only [bu,bx,aV,cH];rfl):A:=s
theorem me {A:Prop} (s:A:=by first | exact kR.refl | (repeat (first | exact kR.nil | exact mh.refl | exact mh.nil | exact mh.U | exact mh.fn0 | refine kR.cons ?_ ?_ | refine mh.agg ?_))):A:=s
theorem nM {A:Prop} (s:A:=by first | exact trivial | exact ⟨rfl,trivial⟩ | exact ⟨rfl,rfl,trivial⟩ | exact ⟨rfl,rfl,rfl,trivial⟩ | exact ⟨rfl,rfl,rfl,rfl,rfl,trivial⟩):A:=s
theorem ae {A B:Prop} (h:B) (s:Hid B->A:=by intro hQ;(repeat (first | ((first | (apply GL.q;(· exact KY)) | refine GL.nil ?_ | refine be ?_ | refine GW.seq ?_ | refine GW.region ?_ | refine GW.skip ?_ | refine gE ?_ | refine GW.block ?_ | (apply GL.gt;(· exact rfl);(· first | exact rfl | assumption)) | (apply GL.gf;(· exact rfl);(· first | exact rfl | assumption)) | (apply GL.gu;(· exact rfl)) | (apply Ll;(· exact rfl);(· first | exact rfl | assumption)) | (apply Lk;(· exact rfl);(· first | exact rfl | assumption)));try refine GN wI ?_) | ((first | (apply GL.alloc;(· simp only [ll,Value.cells,List.map_cons,List.map_nil];rfl)) | (apply GL.box;(· exact rfl)) | (apply GL.st;(· exact rfl);(· exact rfl);(· exact rfl);(· exact rfl);(· exact rfl);(· exact rfl)));refine rK dk eE ?_)));exact hQ.1):A:=s ⟨h⟩
theorem au {A B:Prop} (h:B) (s:Hid B->A:=by intro hQ;(repeat ((first | (apply ZX;(· exact rfl)) | (apply ZW;(· exact rfl)) | (apply OP;(· exact rfl);(· intro Γ;(first | exact BB | exact tF | exact tE | exact r7 | exact qd | exact Gw | exact YG.ext rfl rfl | exact YG.go rfl | exact BC | exact YG.sZ rfl rfl cB | exact YG.idxSC rfl rfl cB rfl | exact rB | exact YG.build rfl | exact YG.neg rfl ek | exact YG.sK rfl rfl | exact YG.Az rfl yg | exact YG.str rfl bd))) | (apply Yg;(· exact rfl);(· exact rfl);(· first | exact rfl | assumption)) | (apply Yf;(· exact rfl);(· exact rfl);(· first | exact rfl | assumption)) | (apply Yh;(· exact rfl);(· exact rfl);(· first | exact rfl | assumption)) | (apply OQ;(· exact rfl);(· exact Oh)) | (apply Xl;(· exact rfl);(· exact rfl);(· first | exact rfl | assumption);(· intro Γ;(first | exact YG.mv | exact YG.wL | exact BB | exact tF | exact tE | exact r7 | exact qd | exact rA | exact Gw | exact YG.ext rfl rfl | exact YG.go rfl | exact BC | exact YG.sZ rfl rfl cB | exact YG.idxSC rfl rfl cB rfl | exact rB | exact YG.build rfl | exact YG.neg rfl ek | exact YG.sK rfl rfl | exact YG.Az rfl yg | exact YG.str rfl bd))) | (apply ZY;(· exact rfl);(· exact rfl);(· first | exact rfl | assumption);(· exact Oh)) | (apply ZU;(· exact rfl);(· exact rfl);(· first | exact rfl | assumption)) | (apply ZV;(· exact rfl);(· exact rfl)) | (apply ZS;(· exact rfl);(· exact rfl);(· first | exact rfl | assumption);(· exact iP)) | (apply ZT;(· exact rfl);(· exact rfl);(· exact iP)) | refine GO.nil ?_ | (apply OA;(· exact rfl);(· exact rfl);apply GL.alloc;(· simp only [ll,Value.cells,List.map_cons,List.map_nil];rfl);refine GL.nil (be (eJ.mk iP ?_));refine oe dk eE ?_) | (apply OA;(· exact rfl);(· exact rfl);apply GL.st;(· exact rfl);(· exact rfl);(· exact rfl);(· exact rfl);(· exact rfl);(· exact rfl);refine GL.nil (be (eJ.mk iP ?_));refine oe dk eE ?_) | (apply OA;(· exact rfl);(· exact rfl);apply GL.box;(· exact rfl);refine GL.nil (be (eJ.mk iP ?_));refine oe dk eE ?_));try refine Xk wI ?_));exact hQ.1):A:=s ⟨h⟩
theorem jh {A B:Prop} (h:B) (s:Hid B->A:=by intro hQ;(repeat (first | ((first | (apply GL.q;(· (first | exact YG.mv | exact YG.wL | exact BB | exact Oi | exact Og | exact r7 | exact qd | exact rA | exact RN | exact YG.ext rfl rfl | exact YG.go rfl | exact BC | exact YG.sZ rfl rfl cB | exact YG.idxSC rfl rfl cB rfl | fail | exact YG.build rfl | exact YG.neg rfl ek | exact YG.sK rfl rfl | exact YG.Az rfl yg | exact YG.str rfl bd))) | refine GL.nil ?_ | refine be ?_ | refine GW.seq ?_ | refine GW.region ?_ | refine GW.skip ?_ | refine gE ?_ | refine GW.block ?_ | (apply GL.gt;(· exact rfl);(· first | exact rfl | assumption)) | (apply GL.gf;(· exact rfl);(· first | exact rfl | assumption)) | (apply GL.gu;(· exact rfl)) | (apply Ll;(· exact rfl);(· first | exact rfl | assumption)) | (apply Lk;(· exact rfl);(· first | exact rfl | assumption)));try refine GN wI ?_) | ((first | (apply GL.alloc;(· simp only [ll,Value.cells,List.map_cons,List.map_nil];rfl)) | (apply GL.box;(· exact rfl)) | (apply GL.st;(· exact rfl);(· exact rfl);(· exact rfl);(· exact rfl);(· exact rfl);(· exact rfl)));refine rK dk eE ?_)));exact hQ.1):A:=s ⟨h⟩
theorem Jh {A B:Prop} (h:B) (s:Hid B->A:=by intro hQ;(repeat (first | ((first | (apply GL.q;(· exact KY)) | refine GL.nil ?_ | refine be ?_ | refine GW.seq ?_ | refine GW.region ?_ | refine GW.skip ?_ | refine gE ?_ | (apply GL.gt;(· exact rfl);(· first | exact rfl | assumption)) | (apply GL.gf;(· exact rfl);(· first | exact rfl | assumption)) | (apply GL.gu;(· exact rfl)) | (apply Ll;(· exact rfl);(· first | exact rfl | assumption)) | (apply Lk;(· exact rfl);(· first | exact rfl | assumption)));try refine GN wI ?_) | ((first | (apply GL.alloc;(· simp only [ll,Value.cells,List.map_cons,List.map_nil];rfl)) | (apply GL.box;(· exact rfl)) | (apply GL.st;(· exact rfl);(· exact rfl);(· exact rfl);(· exact rfl);(· exact rfl);(· exact rfl)));refine rK dk eE ?_)));exact hQ.1):A:=s ⟨h⟩
theorem b8 {A B:Prop} (h:B) (s:Hid B->A:=by intro hQ;(try refine GN wI ?_);exact hQ.1):A:=s ⟨h⟩
theorem RJ {A B:Prop} (h:B) (s:Hid B->A:=by intro hQ;(try refine Xk wI ?_);exact hQ.1):A:=s ⟨h⟩
theorem bT {A B:Prop} (h:B) (s:Hid B->A:=by intro hQ;(refine rK dk eE ?_);exact hQ.1):A:=s ⟨h⟩
theorem Of {A B:Prop} (h:B) (s:Hid B->A:=by intro hQ;(refine oe dk eE ?_);exact hQ.1):A:=s ⟨h⟩
theorem jd {A B:Prop} (h:B) (s:Hid B->A:=by intro hQ;((repeat (first | refine GW.exit ?_ | refine ER ?_ | refine H5 ?_ | refine Ss rfl ?_ | refine gE ?_ | refine be ?_)));exact hQ.1):A:=s ⟨h⟩
theorem bU {A B:Prop} (h:B) (s:Hid B->A:=by intro hQ;((repeat (first | refine GW.ret ?_ | refine mr ?_ | refine mq ?_ | refine be ?_ | refine gE ?_));refine rG rfl cy rfl (Nat.le_refl _) rfl rfl ?_);exact hQ.1):A:=s ⟨h⟩
theorem cU {A B:Prop} (h:B) (s:Hid B->A:=by intro hQ;((repeat (first | refine GW.ret ?_ | refine mr ?_ | refine mq ?_ | refine be ?_ | refine gE ?_));refine TY rfl cy (Nat.le_refl _) rfl ?_);exact hQ.1):A:=s ⟨h⟩
theorem yN {A B:Prop} (h:B) (s:Hid B->A:=by intro hQ;((repeat (first | refine GW.ret ?_ | refine mr ?_ | refine mq ?_ | refine be ?_ | refine gE ?_));refine TZ rfl cy rfl rfl (Nat.le_refl _) rfl rfl ?_);exact hQ.1):A:=s ⟨h⟩
theorem Je {A B:Prop} (h:B) (s:Hid B->A:=by intro hQ;((repeat (first | refine GW.ret ?_ | refine mr ?_ | refine mq ?_ | refine be ?_ | refine gE ?_));refine T0 rfl cy rfl rfl rfl (Nat.le_refl _) rfl rfl ?_);exact hQ.1):A:=s ⟨h⟩
theorem qK {A B:Prop} (h:B) (s:Hid B->A:=by intro hQ;((repeat (first | refine GW.ret ?_ | refine mr ?_ | refine mq ?_ | refine be ?_ | refine gE ?_));refine AE ?_;refine T0 rfl cy rfl rfl rfl (Nat.le_refl _) rfl rfl ?_);exact hQ.1):A:=s ⟨h⟩
theorem Gv {A B:Prop} (h:B) (s:Hid B->A:=by intro hQ;((repeat (first | refine GW.ret ?_ | refine mr ?_ | refine mq ?_ | refine be ?_ | refine gE ?_));refine AE ?_;refine TZ rfl cy rfl rfl (Nat.le_refl _) rfl rfl ?_);exact hQ.1):A:=s ⟨h⟩
theorem qL {A B:Prop} (h:B) (s:Hid B->A:=by intro hQ;((repeat (first | refine GW.ret ?_ | refine mr ?_ | refine mq ?_ | refine be ?_ | refine gE ?_));refine AE ?_;refine T8 rfl cy rfl rfl rfl (Nat.le_refl _) rfl rfl ?_);exact hQ.1):A:=s ⟨h⟩
theorem o8 {A B:Prop} (h:B) (s:Hid B->A:=by intro hQ;((repeat (first | refine GW.ret ?_ | refine mr ?_ | refine mq ?_ | refine be ?_ | refine gE ?_));refine Wp rfl cy rfl rfl rfl rfl (Nat.le_refl _) rfl rfl ?_);exact hQ.1):A:=s ⟨h⟩
theorem lV {A B:Prop} (h:B) (s:Hid B->A:=by intro hQ;((repeat (first | refine GW.ret ?_ | refine mr ?_ | refine mq ?_ | refine be ?_ | refine gE ?_));refine Mr rfl cy rfl rfl rfl rfl rfl (Nat.le_refl _) rfl rfl ?_);exact hQ.1):A:=s ⟨h⟩
theorem BA {A B:Prop} (h:B) (s:Hid B->A:=by intro hQ;((repeat (first | refine GW.ret ?_ | refine mr ?_ | refine mq ?_ | refine be ?_ | refine gE ?_));refine AE ?_;refine Mr rfl cy rfl rfl rfl rfl rfl (Nat.le_refl _) rfl rfl ?_);exact hQ.1):A:=s ⟨h⟩
theorem Jf {A B:Prop} (h:B) (s:Hid B->A:=by intro hQ;((repeat (first | refine GW.ret ?_ | refine mr ?_ | refine mq ?_ | refine be ?_ | refine gE ?_));refine T8 rfl cy rfl rfl rfl (Nat.le_refl _) rfl rfl ?_);exact hQ.1):A:=s ⟨h⟩
theorem bS {A B:Prop} (h:B) (s:Hid B->A:=by intro hQ;(refine GL.X9 rfl rfl rfl rfl ?_;refine rK dk eE ?_);exact hQ.1):A:=s ⟨h⟩
theorem mI {A B:Prop} (h:B) (s:Hid B->A:=by intro hQ;(refine GL.Ru rfl rfl rfl rfl ?_;refine rK dk eE ?_);exact hQ.1):A:=s ⟨h⟩
theorem eR {A B:Prop} (h:B) (s:Hid B->A:=by intro hQ;(refine GL.push rfl rfl rfl rfl rfl rfl rfl rfl bd ⟨⟨by omega,by omega⟩,by decide⟩ ?_;refine rK dk eE ?_);exact hQ.1):A:=s ⟨h⟩
theorem CB {A B:Prop} (h:B) (s:Hid B->A:=by intro hQ;(refine OA rfl rfl (GL.Ru rfl rfl rfl rfl (GL.nil (be (eJ.mk iP ?_))));refine oe dk eE ?_);exact hQ.1):A:=s ⟨h⟩
theorem CA {A B:Prop} (h:B) (s:Hid B->A:=by intro hQ;(refine OA rfl rfl (GL.app rfl rfl rfl bd rfl rfl (by refine ⟨?_,?_⟩;(· show _+1<=_;omega);(· show (_+1) * _<=_;omega)) (GL.nil (be (eJ.mk iP ?_))));refine oe dk eE ?_);exact hQ.1):A:=s ⟨h⟩
theorem ey {A B:Prop} (h:B) (s:Hid B->A:=by intro hQ;(refine OA rfl rfl (GL.X9 rfl rfl rfl rfl (GL.nil (be (eJ.mk iP ?_))));refine oe dk eE ?_);exact hQ.1):A:=s ⟨h⟩
theorem Gu {A B:Prop} (h:B) (s:Hid B->A:=by intro hQ;(refine OA rfl rfl (GL.st rfl rfl rfl rfl rfl rfl (GL.nil (be (eJ.mk iP ?_))));refine oe dk eE ?_);exact hQ.1):A:=s ⟨h⟩
theorem KX {A B:Prop} (h:B) (s:Hid B->A:=by intro hQ;(refine OA rfl rfl (GL.Oc 1 (by kernel_rfl) (by kernel_rfl) rfl rfl rfl rfl cB ek (GL.nil (be (eJ.mk iP ?_))));refine oe dk eE ?_);exact hQ.1):A:=s ⟨h⟩
theorem oO {A B:Prop} (h:B) (s:Hid B->A:=by intro hQ;(refine GL.Yb rfl rfl rfl bd rfl rfl rfl rfl ?_;refine rK dk eE ?_);exact hQ.1):A:=s ⟨h⟩
theorem jK {A B:Prop} (h:B) (s:Hid B->A:=by intro hQ;(refine GL.ZJ rfl rfl (by first | rfl | assumption | omega) ek rfl rfl rfl rfl ?_;refine rK dk eE ?_);exact hQ.1):A:=s ⟨h⟩
theorem c8 {A B:Prop} (h:B) (s:Hid B->A:=by intro hQ;(refine ⟨by simp,?_⟩;refine rK dk eE ?_);exact hQ.1):A:=s ⟨h⟩
theorem dj {A B:Prop} (h:B) (s:Hid B->A:=by intro hQ;(refine GL.nil (be (eJ.mk iP ?_));refine oe dk eE ?_);exact hQ.1):A:=s ⟨h⟩
theorem nY {A:Prop} (s:A:=by simp only [aS,uS];rfl):A:=s
theorem jg {A:Prop} (s:A:=by first | exact kR.refl | exact mh.refl | (repeat (first | exact kR.nil | exact mh.refl | exact mh.nil | exact mh.U | exact mh.fn0 | refine kR.cons ?_ ?_ | refine mh.agg ?_ | refine mh.tup ?_))):A:=s
theorem ar {A:Prop} (s:A:=by repeat (first | exact sB.nil | refine sB.U ?_ | refine sB.eq rfl ?_)):A:=s
theorem gQ {A B C:Prop} (aQ:List Nat) (c:C) (h:B) (s:sw aQ C->Hid B->A:=by intro hC hQ;(refine GL.uQ hC me rfl nM rfl ?_;refine rK dk eE ?_);exact hQ.1):A:=s ⟨c⟩ ⟨h⟩
theorem ab {A B C:Prop} (aQ:List Nat) (c:C) (h:B) (s:sw aQ C->Hid B->A:=by intro hC hQ;(refine GL.uQ hC me rfl nM rfl ?_;refine rK dk eE ?_);refine ae ?_;exact hQ.1):A:=s ⟨c⟩ ⟨h⟩
theorem wJ {A B C:Prop} (aQ:List Nat) (c:C) (h:B) (s:sw aQ C->Hid B->A:=by intro hC hQ;(refine OA rfl rfl (GL.uQ hC me rfl nM rfl (GL.nil (be (eJ.mk iP ?_))));refine oe dk eE ?_);exact hQ.1):A:=s ⟨c⟩ ⟨h⟩
theorem aE {A B C:Prop} (aQ:List Nat) (c:C) (h:B) (s:sw aQ C->Hid B->A:=by intro hC hQ;(refine OA rfl rfl (GL.uQ hC me rfl nM rfl (GL.nil (be (eJ.mk iP ?_))));refine oe dk eE ?_);refine au ?_;exact hQ.1):A:=s ⟨c⟩ ⟨h⟩
theorem Yd {A B C:Prop} (aQ:List Nat) (c:C) (h:B) (s:sw aQ C->Hid B->A:=by intro hC hQ;(refine Lp rfl rfl rfl (by first | exact rfl | assumption) (GL.uQ hC me rfl nM rfl (GL.nil (be (eJ.mk iP ?_))));refine oe dk eE ?_);exact hQ.1):A:=s ⟨c⟩ ⟨h⟩
theorem bC {A B C:Prop} (aQ:List Nat) (c:C) (h:B) (s:sw aQ C->Hid B->A:=by intro hC hQ;(refine Lp rfl rfl rfl (by first | exact rfl | assumption) (GL.uQ hC me rfl nM rfl (GL.nil (be (eJ.mk iP ?_))));refine oe dk eE ?_);refine au ?_;exact hQ.1):A:=s ⟨c⟩ ⟨h⟩
theorem iD {A B C:Prop} (aQ:List Nat) (c:C) (h:B) (s:sw aQ C->Hid B->A:=by intro hC hQ;(refine GL.LD hC rfl rfl rfl nM ?_;rintro _ _ ⟨rfl,rfl⟩;refine ⟨by simp,?_⟩;refine rK dk eE ?_);exact hQ.1):A:=s ⟨c⟩ ⟨h⟩
theorem gM {A B C:Prop} (aQ:List Nat) (c:C) (h:B) (s:sw aQ C->Hid B->A:=by intro hC hQ;(refine GL.LG hC rfl rfl rfl nM ?_;rintro _ _ ⟨rfl,rfl⟩;refine ⟨by simp,?_⟩;refine rK dk eE ?_);exact hQ.1):A:=s ⟨c⟩ ⟨h⟩
theorem yf {A B C:Prop} (aQ:List Nat) (c:C) (h:B) (s:sw aQ C->Hid B->A:=by intro hC hQ;(refine OA rfl rfl (GL.LD hC rfl rfl rfl nM ?_);rintro _ _ ⟨rfl,rfl⟩;refine ⟨by simp,(GL.nil (be (eJ.mk iP ?_)))⟩;refine oe dk eE ?_);exact hQ.1):A:=s ⟨c⟩ ⟨h⟩
theorem iO {A B C:Prop} (aQ:List Nat) (c:C) (h:B) (s:sw aQ C->Hid B->A:=by intro hC hQ;(refine OA rfl rfl (GL.LG hC rfl rfl rfl nM ?_);rintro _ _ ⟨rfl,rfl⟩;refine ⟨by simp,(GL.nil (be (eJ.mk iP ?_)))⟩;refine oe dk eE ?_);exact hQ.1):A:=s ⟨c⟩ ⟨h⟩
theorem cv {A B C:Prop} (aQ:List Nat) (c:C) (h:B) (s:sw aQ C->Hid B->A:=by intro hC hQ;(refine GL.TD hC me rfl nM ?_);exact hQ.1):A:=s ⟨c⟩ ⟨h⟩
theorem df {A B C D : Prop} (f : C) (n : D) (h : B) (s : C -> D -> Hid B -> A := by intro hC hD hQ;refine GC.enter hC hD rfl (by simp only [xt,EP,Nat.reduceSub];rfl) ?_;exact hQ.1) : A := s f n ⟨h⟩
theorem aj {A B C D : Prop} (f : C) (n : D) (h : B) (s : C -> D -> Hid B -> A := by intro hC hD hQ;refine GC.enter hC hD rfl (by simp only [xt,EP,Nat.reduceSub];rfl) ?_;refine ae ?_;exact hQ.1) : A := s f n ⟨h⟩
theorem al {A : Prop} (s : A := by refine bU ?_;exact ⟨rfl,rfl⟩) : A := s
theorem aw {A : Prop} (s : A := by refine ae ?_;refine bU ?_;exact ⟨rfl,rfl⟩) : A := s
theorem fX {A : Prop} (s : A := by refine cU ?_;exact ⟨rfl,rfl⟩) : A := s
theorem mf {A : Prop} (s : A := by refine ae ?_;refine cU ?_;exact ⟨rfl,rfl⟩) : A := s
theorem mg {A : Prop} (s : A := by refine yN ?_;exact ⟨rfl,rfl⟩) : A := s
theorem qJ {A : Prop} (s : A := by refine ae ?_;refine yN ?_;exact ⟨rfl,rfl⟩) : A := s
theorem dm {A : Prop} (s : A := by refine Jf ?_;exact ⟨rfl,rfl⟩) : A := s
theorem o7 {A : Prop} (s : A := by refine ae ?_;refine Jf ?_;exact ⟨rfl,rfl⟩) : A := s
theorem ak {A : Prop} (s : A := by kernel_rfl) : A := s
theorem ah {A : Prop} (s : A := by omega) : A := s
theorem jo {A B : Prop} (h : B) (s : Hid B -> A := by intro hQ;(repeat (first | refine GW.ret ?_ | refine mr ?_ | refine mq ?_ | refine be ?_ | refine gE ?_));exact hQ.1) : A := s ⟨h⟩
theorem aaF {A : Prop} (s : A := by first | rfl | assumption) : A := s
theorem fE {A : Prop} (s : A := by rintro k _ _ ⟨rfl,rfl,_⟩;exact ⟨rfl,rfl,rfl⟩) : A := s
theorem jq {A : Prop} (s : A := by exact ⟨_,_,Wk.aD ar,rfl,rfl⟩) : A := s
theorem iF {A : Prop} (s : A := by exact ⟨_,_,Wk.aD ar,rfl,rfl,rfl⟩) : A := s
theorem ij {A : Prop} (s : A := by refine ae ?_;exact ⟨_,_,Wk.aD ar,rfl,rfl⟩) : A := s
theorem dO {A : Prop} (s : A := by exact ⟨rfl,rfl,rfl⟩) : A := s
theorem bg {A B : Prop} (h : B) (s : Hid B -> A := by intro hQ;refine au ?_;refine ae ?_;exact hQ.1) : A := s ⟨h⟩
theorem bH {A B : Prop} (h : B) (s : Hid B -> A := by intro hQ;refine ae ?_;refine jd ?_;exact hQ.1) : A := s ⟨h⟩
theorem mc {A : Prop} (s : A := by exact ⟨⟨by omega,by omega⟩,by decide⟩) : A := s
theorem aK {A : Prop} (s : A := by decide) : A := s
def aC:Nat->Nat->Ot->Ot
 | _,0,r=>r
 | s,n+1,r=>.q s (aC (s+1) n r)
def ZL:List Nat->Ot->Ot
 | [],r=>r
 | i::l,r=>.q i (ZL l r)
theorem aJ {P:Program} {m id:Nat} {ol:List Oper} {Q:dP} {fr:List GV} {Γ:List Ob} (ord:Ot) (h:GO P ol.toArray (Q .normal) ord [] fr Γ) (hm:P.follows .mixedOrders=true:=by kernel_rfl) (eH:(Region.noSelect ol.toArray&&(ord.len==ol.length)&&tl ol.toArray ord (Array.replicate ol.toArray.size false))=true:=by kernel_rfl):GW P m (.region id ol.toArray true) Q fr Γ:=GW.draw ord hm eH h
end Go.Xg
namespace Go.Xw
open Go.Proofs
open Go.Xg (ak)
instance:aI Tryz.prog 10:=⟨ak⟩
instance:aI Tryz.prog 12:=⟨ak⟩
instance:aI Tryz.prog 14:=⟨ak⟩
instance:aI Tryz.prog 19:=⟨ak⟩
instance:aI Tryz.prog 20:=⟨ak⟩
instance:aI Tryz.prog 21:=⟨ak⟩
instance:aI Tryz.prog 22:=⟨ak⟩
instance:aI Tryz.prog 30:=⟨ak⟩
instance:aI Tryz.prog 31:=⟨ak⟩
instance:aI Tryz.prog 35:=⟨ak⟩
instance:aI Tryz.prog 36:=⟨ak⟩
instance:aI Tryz.prog 37:=⟨ak⟩
instance:aI Tryz.prog 38:=⟨ak⟩
instance:aI Tryz.prog 39:=⟨ak⟩
instance:aI Tryz.prog 40:=⟨ak⟩
instance:aI Tryz.prog 41:=⟨ak⟩
instance:aI Tryz.prog 42:=⟨ak⟩
instance:aI Tryz.prog 43:=⟨ak⟩
instance:aI Tryz.prog 44:=⟨ak⟩
instance:aI Tryz.prog 45:=⟨ak⟩
instance:aI Tryz.prog 46:=⟨ak⟩
instance:aI Tryz.prog 47:=⟨ak⟩
instance:aI Tryz.prog 48:=⟨ak⟩
instance:aI Tryz.prog 49:=⟨ak⟩
instance:aI Tryz.prog 50:=⟨ak⟩
instance:aI Tryz.prog 51:=⟨ak⟩
instance:aI Tryz.prog 52:=⟨ak⟩
instance:aI Tryz.prog 54:=⟨ak⟩
instance:aI Tryz.prog 56:=⟨ak⟩
instance:aI Tryz.prog 57:=⟨ak⟩
instance:aI Tryz.prog 58:=⟨ak⟩
instance:aI Tryz.prog 59:=⟨ak⟩
instance:aI Tryz.prog 60:=⟨ak⟩
instance:aI Tryz.prog 61:=⟨ak⟩
instance:aI Tryz.prog 62:=⟨ak⟩
instance:aI Tryz.prog 64:=⟨ak⟩
instance:aI Tryz.prog 65:=⟨ak⟩
instance:aI Tryz.prog 66:=⟨ak⟩
instance:aI Tryz.prog 67:=⟨ak⟩
instance:aI Tryz.prog 68:=⟨ak⟩
instance:aI Tryz.prog 69:=⟨ak⟩
instance:aI Tryz.prog 70:=⟨ak⟩
instance:aI Tryz.prog 71:=⟨ak⟩
instance:aI Tryz.prog 72:=⟨ak⟩
instance:aI Tryz.prog 74:=⟨ak⟩
instance:aI Tryz.prog 81:=⟨ak⟩
instance:aI Tryz.prog 82:=⟨ak⟩
instance:aI Tryz.prog 83:=⟨ak⟩
instance:aI Tryz.prog 86:=⟨ak⟩
instance:aI Tryz.prog 87:=⟨ak⟩
instance:aI Tryz.prog 88:=⟨ak⟩
instance:aI Tryz.prog 94:=⟨ak⟩
instance:aI Tryz.prog 95:=⟨ak⟩
instance:aI Tryz.prog 96:=⟨ak⟩
instance:aI Tryz.prog 97:=⟨ak⟩
instance:aI Tryz.prog 98:=⟨ak⟩
instance:aI Tryz.prog 99:=⟨ak⟩
instance:aI Tryz.prog 100:=⟨ak⟩
instance:aI Tryz.prog 101:=⟨ak⟩
instance:aI Tryz.prog 102:=⟨ak⟩
instance:aI Tryz.prog 103:=⟨ak⟩
instance:aI Tryz.prog 104:=⟨ak⟩
instance:aI Tryz.prog 105:=⟨ak⟩
instance:aI Tryz.prog 106:=⟨ak⟩
instance:aI Tryz.prog 107:=⟨ak⟩
instance:aI Tryz.prog 108:=⟨ak⟩
instance:aI Tryz.prog 109:=⟨ak⟩
instance:aI Tryz.prog 110:=⟨ak⟩
instance:aI Tryz.prog 111:=⟨ak⟩
instance:aI Tryz.prog 112:=⟨ak⟩
instance:aI Tryz.prog 113:=⟨ak⟩
instance:aI Tryz.prog 114:=⟨ak⟩
instance:aI Tryz.prog 115:=⟨ak⟩
instance:aI Tryz.prog 116:=⟨ak⟩
instance:aI Tryz.prog 117:=⟨ak⟩
instance:aI Tryz.prog 121:=⟨ak⟩
instance:aI Tryz.prog 123:=⟨ak⟩
instance:aI Tryz.prog 124:=⟨ak⟩
instance:aI Tryz.prog 125:=⟨ak⟩
instance:aI Tryz.prog 126:=⟨ak⟩
instance:aI Tryz.prog 127:=⟨ak⟩
instance:aI Tryz.prog 128:=⟨ak⟩
instance:aI Tryz.prog 129:=⟨ak⟩
instance:aI Tryz.prog 130:=⟨ak⟩
instance:aI Tryz.prog 131:=⟨ak⟩
instance:aI Tryz.prog 132:=⟨ak⟩
instance:aI Tryz.prog 133:=⟨ak⟩
instance:aI Tryz.prog 134:=⟨ak⟩
instance:aI Tryz.prog 135:=⟨ak⟩
instance:aI Tryz.prog 136:=⟨ak⟩
instance:aI Tryz.prog 137:=⟨ak⟩
instance:aI Tryz.prog 138:=⟨ak⟩
instance:aI Tryz.prog 139:=⟨ak⟩
instance:aI Tryz.prog 140:=⟨ak⟩
instance:aI Tryz.prog 143:=⟨ak⟩
instance:aI Tryz.prog 144:=⟨ak⟩
instance:aI Tryz.prog 146:=⟨ak⟩
instance:aI Tryz.prog 147:=⟨ak⟩
instance:aI Tryz.prog 148:=⟨ak⟩
instance:aI Tryz.prog 149:=⟨ak⟩
instance:aI Tryz.prog 151:=⟨ak⟩
instance:aI Tryz.prog 152:=⟨ak⟩
instance:aI Tryz.prog 153:=⟨ak⟩
instance:aI Tryz.prog 154:=⟨ak⟩
instance:aI Tryz.prog 155:=⟨ak⟩
instance:aI Tryz.prog 156:=⟨ak⟩
instance:aI Tryz.prog 157:=⟨ak⟩
instance:aI Tryz.prog 158:=⟨ak⟩
instance:aI Tryz.prog 159:=⟨ak⟩
instance:aI Tryz.prog 160:=⟨ak⟩
instance:aI Tryz.prog 161:=⟨ak⟩
instance:aI Tryz.prog 162:=⟨ak⟩
instance:aI Tryz.prog 163:=⟨ak⟩
instance:aI Tryz.prog 164:=⟨ak⟩
instance:aI Tryz.prog 165:=⟨ak⟩
instance:aI Tryz.prog 166:=⟨ak⟩
instance:aI Tryz.prog 167:=⟨ak⟩
instance:aI Tryz.prog 168:=⟨ak⟩
instance:aI Tryz.prog 169:=⟨ak⟩
instance:aI Tryz.prog 170:=⟨ak⟩
instance:aI Tryz.prog 171:=⟨ak⟩
instance:aI Tryz.prog 172:=⟨ak⟩
instance:aI Tryz.prog 173:=⟨ak⟩
instance:aI Tryz.prog 185:=⟨ak⟩
instance:aI Tryz.prog 186:=⟨ak⟩
instance:aI Tryz.prog 187:=⟨ak⟩
instance:aI Tryz.prog 188:=⟨ak⟩
instance:aI Tryz.prog 189:=⟨ak⟩
instance:aI Tryz.prog 190:=⟨ak⟩
instance:aI Tryz.prog 191:=⟨ak⟩
instance:aI Tryz.prog 192:=⟨ak⟩
instance:aI Tryz.prog 193:=⟨ak⟩
instance:aI Tryz.prog 194:=⟨ak⟩
instance:aI Tryz.prog 195:=⟨ak⟩
instance:aI Tryz.prog 196:=⟨ak⟩
instance:aI Tryz.prog 197:=⟨ak⟩
instance:aI Tryz.prog 198:=⟨ak⟩
instance:aI Tryz.prog 199:=⟨ak⟩
instance:aI Tryz.prog 200:=⟨ak⟩
instance:aI Tryz.prog 201:=⟨ak⟩
instance:aI Tryz.prog 202:=⟨ak⟩
instance:aI Tryz.prog 203:=⟨ak⟩
instance:aI Tryz.prog 204:=⟨ak⟩
instance:aI Tryz.prog 205:=⟨ak⟩
instance:aI Tryz.prog 206:=⟨ak⟩
instance:aI Tryz.prog 207:=⟨ak⟩
instance:aI Tryz.prog 208:=⟨ak⟩
instance:aI Tryz.prog 209:=⟨ak⟩
instance:aI Tryz.prog 216:=⟨ak⟩
instance:aI Tryz.prog 217:=⟨ak⟩
instance:aI Tryz.prog 218:=⟨ak⟩
instance:aI Tryz.prog 219:=⟨ak⟩
instance:aI Tryz.prog 220:=⟨ak⟩
instance:aI Tryz.prog 221:=⟨ak⟩
instance:aI Tryz.prog 222:=⟨ak⟩
instance:aI Tryz.prog 223:=⟨ak⟩
instance:aI Tryz.prog 224:=⟨ak⟩
instance:aI Tryz.prog 225:=⟨ak⟩
instance:aI Tryz.prog 226:=⟨ak⟩
instance:aI Tryz.prog 228:=⟨ak⟩
instance:aI Tryz.prog 229:=⟨ak⟩
instance:aI Tryz.prog 230:=⟨ak⟩
instance:aI Tryz.prog 231:=⟨ak⟩
instance:aI Tryz.prog 232:=⟨ak⟩
instance:aI Tryz.prog 233:=⟨ak⟩
instance:aI Tryz.prog 234:=⟨ak⟩
instance:aI Tryz.prog 236:=⟨ak⟩
instance:aI Tryz.prog 238:=⟨ak⟩
instance:aI Tryz.prog 239:=⟨ak⟩
instance:aI Tryz.prog 240:=⟨ak⟩
instance:aI Tryz.prog 241:=⟨ak⟩
instance:aI Tryz.prog 242:=⟨ak⟩
instance:aI Tryz.prog 243:=⟨ak⟩
instance:aI Tryz.prog 244:=⟨ak⟩
instance:aI Tryz.prog 245:=⟨ak⟩
instance:aI Tryz.prog 249:=⟨ak⟩
instance:aI Tryz.prog 250:=⟨ak⟩
instance:aI Tryz.prog 251:=⟨ak⟩
instance:aI Tryz.prog 252:=⟨ak⟩
instance:aI Tryz.prog 253:=⟨ak⟩
instance:aI Tryz.prog 254:=⟨ak⟩
instance:aI Tryz.prog 255:=⟨ak⟩
instance:aI Tryz.prog 256:=⟨ak⟩
instance:aI Tryz.prog 257:=⟨ak⟩
instance:aI Tryz.prog 258:=⟨ak⟩
instance:aI Tryz.prog 259:=⟨ak⟩
instance:aI Tryz.prog 260:=⟨ak⟩
instance:aI Tryz.prog 261:=⟨ak⟩
instance:aI Tryz.prog 263:=⟨ak⟩
instance:aI Tryz.prog 265:=⟨ak⟩
instance:aI Tryz.prog 270:=⟨ak⟩
instance:aI Tryz.prog 271:=⟨ak⟩
instance:aI Tryz.prog 272:=⟨ak⟩
instance:aI Tryz.prog 273:=⟨ak⟩
instance:aI Tryz.prog 275:=⟨ak⟩
instance:aI Tryz.prog 276:=⟨ak⟩
instance:aI Tryz.prog 277:=⟨ak⟩
instance:aI Tryz.prog 278:=⟨ak⟩
instance:aI Tryz.prog 279:=⟨ak⟩
instance:aI Tryz.prog 280:=⟨ak⟩
instance:aI Tryz.prog 288:=⟨ak⟩
instance:aI Tryz.prog 289:=⟨ak⟩
instance:aI Tryz.prog 292:=⟨ak⟩
instance:aI Tryz.prog 293:=⟨ak⟩
instance:aI Tryz.prog 294:=⟨ak⟩
instance:aI Tryz.prog 299:=⟨ak⟩
instance:aI Tryz.prog 300:=⟨ak⟩
instance:aI Tryz.prog 301:=⟨ak⟩
instance:aI Tryz.prog 304:=⟨ak⟩
instance:aI Tryz.prog 305:=⟨ak⟩
instance:aI Tryz.prog 306:=⟨ak⟩
instance:Ty Tryz.prog 3 false 1:=⟨ak,ak⟩
instance:pb Tryz.prog 3 (.int .i64 (0)):=⟨ak⟩
instance:Go.Xg.Jq Tryz.prog 3 .i64:=⟨ak⟩
instance:Go.Xg.Jq Tryz.prog 5 .u8:=⟨ak⟩
instance:Ty Tryz.prog 9 false 1:=⟨ak,ak⟩
instance:pB Tryz.prog 9:=⟨ak⟩
instance:Ty Tryz.prog 22 false 1:=⟨ak,ak⟩
instance:pb Tryz.prog 22 (.slice none 0 0):=⟨ak⟩
instance:mj Tryz.prog 22 9 1:=⟨ak,ak⟩
instance:nZ Tryz.prog 22 9 1 16:=⟨ak⟩
instance:o9 Tryz.prog 22 9 1 [(.string ⟨#[]⟩)]:=⟨ak,ak,ak,rfl,by decide,fun _=>rfl⟩
instance:Ty Tryz.prog 23 false 1:=⟨ak,ak⟩
instance:mj Tryz.prog 23 103 2:=⟨ak,ak⟩
instance:Ty Tryz.prog 24 false 1:=⟨ak,ak⟩
instance:mj Tryz.prog 24 105 3:=⟨ak,ak⟩
instance:Ty Tryz.prog 25 false 1:=⟨ak,ak⟩
instance:mj Tryz.prog 25 107 5:=⟨ak,ak⟩
instance:Ty Tryz.prog 27 true 4:=⟨ak,ak⟩
instance:dp Tryz.prog 27 0 0 1 false:=⟨ak⟩
instance:dp Tryz.prog 27 1 1 1 false:=⟨ak⟩
instance:dp Tryz.prog 27 2 2 1 false:=⟨ak⟩
instance:dp Tryz.prog 27 3 3 1 false:=⟨ak⟩
instance:Ty Tryz.prog 30 false 1:=⟨ak,ak⟩
instance:mj Tryz.prog 30 88 2:=⟨ak,ak⟩
instance:nZ Tryz.prog 30 88 2 24:=⟨ak⟩
instance:o9 Tryz.prog 30 88 2 [(.string ⟨#[]⟩),(.int .i64 (0))]:=⟨ak,ak,ak,rfl,by decide,fun h=>by cases h⟩
instance:Ty Tryz.prog 31 false 1:=⟨ak,ak⟩
instance:mj Tryz.prog 31 60 3:=⟨ak,ak⟩
instance:nZ Tryz.prog 31 60 3 48:=⟨ak⟩
instance:o9 Tryz.prog 31 60 3 [(.string ⟨#[]⟩),(.slice none 0 0),(.int .i64 (0))]:=⟨ak,ak,ak,rfl,by decide,fun h=>by cases h⟩
instance:Ty Tryz.prog 32 false 1:=⟨ak,ak⟩
instance:mj Tryz.prog 32 91 5:=⟨ak,ak⟩
instance:nZ Tryz.prog 32 91 5 64:=⟨ak⟩
instance:o9 Tryz.prog 32 91 5 [(.int .i64 (0)),(.int .i64 (0)),(.int .i64 (0)),(.string ⟨#[]⟩),(.slice none 0 0)]:=⟨ak,ak,ak,rfl,by decide,fun h=>by cases h⟩
instance:Ty Tryz.prog 34 true 4:=⟨ak,ak⟩
instance:pb Tryz.prog 34 (.agg #[(.slice none 0 0),(.slice none 0 0),(.slice none 0 0),(.slice none 0 0)]):=⟨ak⟩
instance:dp Tryz.prog 34 0 0 1 false:=⟨ak⟩
instance:dp Tryz.prog 34 1 1 1 false:=⟨ak⟩
instance:dp Tryz.prog 34 2 2 1 false:=⟨ak⟩
instance:dp Tryz.prog 34 3 3 1 false:=⟨ak⟩
instance:tK Tryz.prog 34 [(0,1),(1,1),(2,1),(3,1)] [(.slice none 0 0),(.slice none 0 0),(.slice none 0 0),(.slice none 0 0)]:=⟨ak,ak⟩
instance:Ty Tryz.prog 40 false 1:=⟨ak,ak⟩
instance:pb Tryz.prog 40 (.slice none 0 0):=⟨ak⟩
instance:mj Tryz.prog 40 3 1:=⟨ak,ak⟩
instance:nZ Tryz.prog 40 3 1 8:=⟨ak⟩
instance:o9 Tryz.prog 40 3 1 [(.int .i64 (0))]:=⟨ak,ak,ak,rfl,by decide,fun _=>rfl⟩
instance:Ty Tryz.prog 46 false 1:=⟨ak,ak⟩
instance:pb Tryz.prog 46 (.slice none 0 0):=⟨ak⟩
instance:mj Tryz.prog 46 40 1:=⟨ak,ak⟩
instance:nZ Tryz.prog 46 40 1 24:=⟨ak⟩
instance:o9 Tryz.prog 46 40 1 [(.slice none 0 0)]:=⟨ak,ak,ak,rfl,by decide,fun _=>rfl⟩
instance:Ty Tryz.prog 60 true 3:=⟨ak,ak⟩
instance:pb Tryz.prog 60 (.agg #[(.string ⟨#[]⟩),(.slice none 0 0),(.int .i64 (0))]):=⟨ak⟩
instance:dp Tryz.prog 60 0 0 1 false:=⟨ak⟩
instance:dp Tryz.prog 60 1 1 1 false:=⟨ak⟩
instance:dp Tryz.prog 60 2 2 1 false:=⟨ak⟩
instance:tK Tryz.prog 60 [(0,1),(1,1),(2,1)] [(.string ⟨#[]⟩),(.slice none 0 0),(.int .i64 (0))]:=⟨ak,ak⟩
instance:Ty Tryz.prog 78 false 1:=⟨ak,ak⟩
instance:pb Tryz.prog 78 .nilFunc:=⟨ak⟩
instance:Ty Tryz.prog 88 true 2:=⟨ak,ak⟩
instance:pb Tryz.prog 88 (.agg #[(.string ⟨#[]⟩),(.int .i64 (0))]):=⟨ak⟩
instance:dp Tryz.prog 88 0 0 1 false:=⟨ak⟩
instance:dp Tryz.prog 88 1 1 1 false:=⟨ak⟩
instance:tK Tryz.prog 88 [(0,1),(1,1)] [(.string ⟨#[]⟩),(.int .i64 (0))]:=⟨ak,ak⟩
instance:Ty Tryz.prog 91 true 5:=⟨ak,ak⟩
instance:pb Tryz.prog 91 (.agg #[(.int .i64 (0)),(.int .i64 (0)),(.int .i64 (0)),(.string ⟨#[]⟩),(.slice none 0 0)]):=⟨ak⟩
instance:dp Tryz.prog 91 0 0 1 false:=⟨ak⟩
instance:dp Tryz.prog 91 1 1 1 false:=⟨ak⟩
instance:dp Tryz.prog 91 2 2 1 false:=⟨ak⟩
instance:dp Tryz.prog 91 3 3 1 false:=⟨ak⟩
instance:dp Tryz.prog 91 4 4 1 false:=⟨ak⟩
instance:tK Tryz.prog 91 [(0,1),(1,1),(2,1),(3,1),(4,1)] [(.int .i64 (0)),(.int .i64 (0)),(.int .i64 (0)),(.string ⟨#[]⟩),(.slice none 0 0)]:=⟨ak,ak⟩
instance:Ty Tryz.prog 92 false 1:=⟨ak,ak⟩
instance:mj Tryz.prog 92 94 6:=⟨ak,ak⟩
instance:nZ Tryz.prog 92 94 6 88:=⟨ak⟩
instance:o9 Tryz.prog 92 94 6 [(.int .i64 (0)),(.int .i64 (0)),(.int .i64 (0)),(.string ⟨#[]⟩),(.slice none 0 0),(.slice none 0 0)]:=⟨ak,ak,ak,rfl,by decide,fun h=>by cases h⟩
instance:Ty Tryz.prog 94 true 6:=⟨ak,ak⟩
instance:pb Tryz.prog 94 (.agg #[(.int .i64 (0)),(.int .i64 (0)),(.int .i64 (0)),(.string ⟨#[]⟩),(.slice none 0 0),(.slice none 0 0)]):=⟨ak⟩
instance:dp Tryz.prog 94 0 0 5 true:=⟨ak⟩
instance:dp Tryz.prog 94 1 5 1 false:=⟨ak⟩
instance:tK Tryz.prog 94 [(0,5),(5,1)] [(.int .i64 (0)),(.int .i64 (0)),(.int .i64 (0)),(.string ⟨#[]⟩),(.slice none 0 0),(.slice none 0 0)]:=⟨ak,ak⟩
instance:Ty Tryz.prog 101 false 1:=⟨ak,ak⟩
instance:Ty Tryz.prog 103 true 2:=⟨ak,ak⟩
instance:dp Tryz.prog 103 0 0 1 false:=⟨ak⟩
instance:dp Tryz.prog 103 1 1 1 false:=⟨ak⟩
instance:Ty Tryz.prog 105 true 3:=⟨ak,ak⟩
instance:dp Tryz.prog 105 0 0 1 false:=⟨ak⟩
instance:dp Tryz.prog 105 1 1 1 false:=⟨ak⟩
instance:dp Tryz.prog 105 2 2 1 false:=⟨ak⟩
instance:Ty Tryz.prog 107 true 5:=⟨ak,ak⟩
instance:dp Tryz.prog 107 0 0 1 false:=⟨ak⟩
instance:dp Tryz.prog 107 1 1 1 false:=⟨ak⟩
instance:dp Tryz.prog 107 2 2 1 false:=⟨ak⟩
instance:dp Tryz.prog 107 3 3 1 false:=⟨ak⟩
instance:dp Tryz.prog 107 4 4 1 false:=⟨ak⟩
instance:Ty Tryz.prog 130 false 1:=⟨ak,ak⟩
instance:pb Tryz.prog 130 .nilFunc:=⟨ak⟩
instance:dp Tryz.prog 133 0 0 4 true:=⟨ak⟩
instance:dp Tryz.prog 133 1 4 1 false:=⟨ak⟩
instance:dp Tryz.prog 133 2 5 1 false:=⟨ak⟩
instance:dp Tryz.prog 133 3 6 1 false:=⟨ak⟩
instance:tK Tryz.prog 133 [(0,4),(4,1),(5,1),(6,1)] [(.slice none 0 0),(.slice none 0 0),(.slice none 0 0),(.slice none 0 0),(.slice none 0 0),(.int .i64 (0)),(.int .i64 (0))]:=⟨ak,ak⟩
instance:Ty Tryz.prog 143 false 1:=⟨ak,ak⟩
instance:Go.Xg.K9 Tryz.prog 143:=Go.Xg.K9.mk' (e:=5) (ak) (ak)
instance:mj Tryz.prog 143 5 1:=⟨ak,ak⟩
instance:o9 Tryz.prog 143 5 1 [(.int .u8 (0))]:=⟨ak,ak,ak,rfl,by decide,fun _=>rfl⟩
instance:Ty Tryz.prog 148 false 1:=⟨ak,ak⟩
instance:mj Tryz.prog 148 152 1:=⟨ak,ak⟩
instance:nZ Tryz.prog 148 152 1 8:=⟨ak⟩
instance:o9 Tryz.prog 148 152 1 [(.pointer none)]:=⟨ak,ak,ak,rfl,by decide,fun _=>rfl⟩
instance:Ty Tryz.prog 152 false 1:=⟨ak,ak⟩
instance:Ty Tryz.prog 155 false 1:=⟨ak,ak⟩
instance:Ty Tryz.prog 156 false 1:=⟨ak,ak⟩
instance:Ty Tryz.prog 157 false 1:=⟨ak,ak⟩
instance:mj Tryz.prog 157 203 4:=⟨ak,ak⟩
instance:nZ Tryz.prog 157 203 4 40:=⟨ak⟩
instance:o9 Tryz.prog 157 203 4 [(.int .i64 (0)),(.int .i64 (0)),(.string ⟨#[]⟩),(.int .i64 (0))]:=⟨ak,ak,ak,rfl,by decide,fun h=>by cases h⟩
instance:dp Tryz.prog 184 0 0 1 false:=⟨ak⟩
instance:dp Tryz.prog 184 1 1 1 false:=⟨ak⟩
instance:dp Tryz.prog 184 2 2 1 false:=⟨ak⟩
instance:dp Tryz.prog 184 3 3 1 false:=⟨ak⟩
instance:dp Tryz.prog 184 4 4 1 false:=⟨ak⟩
instance:tK Tryz.prog 184 [(0,1),(1,1),(2,1),(3,1),(4,1)] [(.slice none 0 0),(.int .i64 (0)),(.int .i64 (0)),(.int .i64 (0)),(.int .i64 (0))]:=⟨ak,ak⟩
instance:dp Tryz.prog 190 0 0 5 true:=⟨ak⟩
instance:dp Tryz.prog 190 1 5 1 false:=⟨ak⟩
instance:tK Tryz.prog 190 [(0,5),(5,1)] [(.int .i64 (0)),(.int .i64 (0)),(.int .i64 (0)),(.string ⟨#[]⟩),(.slice none 0 0),(.slice none 0 0)]:=⟨ak,ak⟩
instance:Ty Tryz.prog 192 true 2:=⟨ak,ak⟩
instance:pb Tryz.prog 192 (.agg #[.nilFunc,.nilFunc]):=⟨ak⟩
instance:dp Tryz.prog 192 0 0 1 false:=⟨ak⟩
instance:dp Tryz.prog 192 1 1 1 false:=⟨ak⟩
instance:tK Tryz.prog 192 [(0,1),(1,1)] [.nilFunc,.nilFunc]:=⟨ak,ak⟩
instance:Ty Tryz.prog 203 true 4:=⟨ak,ak⟩
instance:pb Tryz.prog 203 (.agg #[(.int .i64 (0)),(.int .i64 (0)),(.string ⟨#[]⟩),(.int .i64 (0))]):=⟨ak⟩
instance:dp Tryz.prog 203 0 0 1 false:=⟨ak⟩
instance:dp Tryz.prog 203 1 1 1 false:=⟨ak⟩
instance:dp Tryz.prog 203 2 2 1 false:=⟨ak⟩
instance:dp Tryz.prog 203 3 3 1 false:=⟨ak⟩
instance:tK Tryz.prog 203 [(0,1),(1,1),(2,1),(3,1)] [(.int .i64 (0)),(.int .i64 (0)),(.string ⟨#[]⟩),(.int .i64 (0))]:=⟨ak,ak⟩
instance:dp Tryz.prog 208 0 0 1 false:=⟨ak⟩
instance:dp Tryz.prog 208 1 1 1 false:=⟨ak⟩
instance:dp Tryz.prog 208 2 2 1 false:=⟨ak⟩
instance:dp Tryz.prog 208 3 3 1 false:=⟨ak⟩
instance:dp Tryz.prog 208 4 4 1 false:=⟨ak⟩
instance:dp Tryz.prog 208 5 5 1 false:=⟨ak⟩
instance:dp Tryz.prog 208 6 6 4 true:=⟨ak⟩
instance:tK Tryz.prog 208 [(0,1),(1,1),(2,1),(3,1),(4,1),(5,1),(6,4)] [(.slice none 0 0),(.int .i64 (0)),(.int .i64 (0)),(.int .i64 (0)),(.int .i64 (0)),(.slice none 0 0),(.slice none 0 0),(.slice none 0 0),(.slice none 0 0),(.slice none 0 0)]:=⟨ak,ak⟩
instance:Ty Tryz.prog 225 false 1:=⟨ak,ak⟩
instance:pb Tryz.prog 227 (.agg #[(.pointer none),(.slice none 0 0)]):=⟨ak⟩
instance:dp Tryz.prog 227 0 0 1 false:=⟨ak⟩
instance:dp Tryz.prog 227 1 1 1 false:=⟨ak⟩
instance:mj Tryz.prog 234 22 1:=⟨ak,ak⟩
instance:o9 Tryz.prog 234 22 1 [(.slice none 0 0)]:=⟨ak,ak,ak,rfl,by decide,fun _=>rfl⟩
end Go.Xw
set_option maxHeartbeats 1000000
namespace Go.Xg
open Go.RowKit Go.Xw Go.Proofs
open Go.Xp (Tok Nd T bo one levels)
open Go.Sp
attribute [local irreducible] GW GL GO YG GC GA aY ba
def c7 (t:Tok):List GV:=[.v (ii t.kind),.v (ii t.n),.v (sv t.s),.v (ii t.at_)]
theorem OI (t:Tok):GF Tryz.prog 258 [.agg (c7 t)] [] (.v (sv (bo t))) []:=by
 refine aj Tryz.func258 Tryz.ntmps258 ?_;refine GW.cond rfl (fun h=>?_) (fun h=>?_)
 ·refine ae ?_;refine bU ?_
  have h:t.kind≠3:=by simpa using h
  rw [bo,if_neg h];exact ⟨rfl,rfl⟩
 ·refine ae ?_;refine bU ?_
  have h:t.kind=3:=by simpa using h
  rw [bo,if_pos h];exact ⟨rfl,rfl⟩
abbrev iz (l:List Tok):GV:=.sl 4 (l.map c7)
abbrev ca (p:RS):Ob:=.box 184 [iz p.l,.v (ii p.i),.v (ii p.e),.v (ii p.code),.v (ii p.at_)]
theorem ku {l:List Tok} {i:Nat} {t:Tok} (h:l[i]?=some t):(l.map c7)[i]?=some (c7 t):=by rw [getElem?_map,h];rfl
theorem kL (p:RS) (hp:p.ok):GF Tryz.prog 223 [.loc 0 0] [ca p] (.v (ii p.place)) [ca p]:=by
 obtain ⟨lC,dH⟩:=hp
 cases ht:p.l[p.i]? with
 | some t =>
  have hr:=ku ht;have ao:p.i < p.l.length:=(List.getElem?_eq_some_iff.1 ht).1
  have hd:decide ((p.i:Int) < ((p.l.map c7).length:Int))=true:=by simpa using ao
  refine aj Tryz.func223 Tryz.ntmps223 ?_;refine aJ (aC 0 10 .nil) ?_;refine bg ?_;refine aJ (aC 0 12 .nil) ?_;refine bg ?_;refine bU ?_;rw [RS.place,ht];exact ⟨rfl,rfl⟩
 | none =>
  have ao:p.l.length<=p.i:=List.getElem?_eq_none_iff.1 ht
  have hd:decide ((p.i:Int) < ((p.l.map c7).length:Int))=false:=by simpa using ao
  refine aj Tryz.func223 Tryz.ntmps223 ?_;refine aJ (aC 0 10 .nil) ?_;refine bg ?_;refine bU ?_;rw [RS.place,ht];exact ⟨rfl,rfl⟩
theorem cY (p:RS) (k:Nat) (hp:p.ok) (hk:k<=1):GF Tryz.prog 225 [.loc 0 0,.v (ii k)] [ca p] (.v (sv (p.sign k))) [ca p]:=by
 obtain ⟨lC,dH⟩:=hp
 by_cases hc:p.code=0
 ·have dq:(p.code != 0)=false:=by simpa using hc
  cases ht:p.l[p.i+k]? with
  | some t =>
   have hr:=ku ht;have ao:p.i+k < p.l.length:=(List.getElem?_eq_some_iff.1 ht).1
   have hd:decide (((p.l.map c7).length:Int)<=((p.i+k:Nat):Int))=false:=by simp;omega
   refine aj Tryz.func225 Tryz.ntmps225 ?_;refine aJ (aC 0 19 .nil) ?_;refine bg ?_;refine aJ (aC 0 12 (.a 12 (.q 13 .nil))) ?_;refine au ?_;refine aE [] (OI t) ?_;refine ae ?_;refine bU ?_;rw [RS.sign,if_pos hc,ht];exact ⟨rfl,rfl⟩
  | none =>
   have ao:p.l.length<=p.i+k:=List.getElem?_eq_none_iff.1 ht
   have hd:decide (((p.l.map c7).length:Int)<=((p.i+k:Nat):Int))=true:=by simp;omega
   refine aj Tryz.func225 Tryz.ntmps225 ?_;refine aJ (aC 0 19 .nil) ?_;refine bg ?_;refine bU ?_;rw [RS.sign,if_pos hc,ht];exact ⟨rfl,rfl⟩
 ·have dq:(p.code != 0)=true:=by simpa using hc
  refine aj Tryz.func225 Tryz.ntmps225 ?_;refine aJ (aC 0 19 .nil) ?_;refine bg ?_;refine bU ?_;rw [RS.sign,if_neg hc];exact ⟨rfl,rfl⟩
theorem lT (p:RS) (c a:Int):GF Tryz.prog 257 [.loc 0 0,.v (ii c),.v (ii a)] [ca p] (.tup []) [ca (p.fail c a)]:=by
 refine aj Tryz.func257 Tryz.ntmps257 ?_;refine GW.cond rfl (fun h=>?_) (fun h=>?_)
 ·refine ae ?_;refine cU ?_
  have h:p.code=0:=by simpa using h
  rw [RS.fail,if_pos h];exact ⟨rfl,rfl⟩
 ·refine ae ?_;refine cU ?_
  have h:¬ p.code=0:=by simpa using h
  rw [RS.fail,if_neg h];exact ⟨rfl,rfl⟩
theorem cX (p:RS) (s:ai) (hp:p.ok) (hs:s≠[]):GF Tryz.prog 224 [.loc 0 0,.v (sv s)] [ca p] (.tup []) [ca (p.aO s)]:=by
 refine aj Tryz.func224 Tryz.ntmps224 ?_;refine gQ [0] (cY p 0 hp aK) ?_
 by_cases h:p.sign 0=s
 ·have h':(!(p.sign 0==s))=false:=by simp [h]
  have hl:=(fv h hs).1;obtain ⟨lC,dH⟩:=hp;refine ae ?_;refine cU ?_;rw [RS.aO,if_pos h];exact ⟨rfl,rfl⟩
 ·have h':(!(p.sign 0==s))=true:=by simpa using h
  refine ae ?_;refine ab [0] (kL p hp) ?_;refine ab [0] (lT p 7 p.place) ?_;refine cU ?_;rw [RS.aO,if_neg h];exact ⟨rfl,rfl⟩
theorem ub (p:RS) (d:Nat) (hp:p.ok):GF Tryz.prog 221 [.loc 0 0,.v (ii d)] [ca p] (.tup []) [ca (p.deep d)]:=by
 by_cases h:d > 60
 ·have h':decide ((60:Int) < (d:Int))=true:=by simp;omega
  refine aj Tryz.func221 Tryz.ntmps221 ?_;refine ab [0] (kL p hp) ?_;refine ab [0] (lT p 9 p.place) ?_;refine cU ?_;rw [RS.deep,if_pos h];exact ⟨rfl,rfl⟩
 ·have h':decide ((60:Int) < (d:Int))=false:=by simp;omega
  refine aj Tryz.func221 Tryz.ntmps221 ?_;refine cU ?_;rw [RS.deep,if_neg h];exact ⟨rfl,rfl⟩
theorem xU (p:RS) (hp:p.ok):GF Tryz.prog 259 [.loc 0 0] [ca p] (.v (sv p.name.1)) [ca p.name.2]:=by
 obtain ⟨lC,dH⟩:=id hp
 by_cases hc:p.code=0
 ·have dq:(p.code != 0)=false:=by simpa using hc
  cases ht:p.l[p.i]? with
  | some t =>
   have hr:=ku ht;have ao:p.i < p.l.length:=(List.getElem?_eq_some_iff.1 ht).1
   have hd:decide (((p.l.map c7).length:Int)<=(p.i:Int))=false:=by simp;omega
   by_cases hk:t.kind=2
   ·have lz:(t.kind != 2)=false:=by simpa using hk
    by_cases hs:t.s.length > 12
    ·have oc:decide ((12:Int) < (t.s.length:Int))=true:=by simp;omega
     refine aj Tryz.func259 Tryz.ntmps259 ?_;refine aJ (aC 0 24 .nil) ?_;refine bg ?_;refine aJ (aC 0 10 (.a 10 (.a 11 .nil))) ?_;refine bg ?_;refine ab [0] (lT p 8 t.at_) ?_;refine bU ?_;rw [RS.name,if_pos hc,ht];simp only [if_pos hk,if_pos hs];exact ⟨rfl,rfl⟩
    ·have oc:decide ((12:Int) < (t.s.length:Int))=false:=by simp;omega
     refine aj Tryz.func259 Tryz.ntmps259 ?_;refine aJ (aC 0 24 .nil) ?_;refine bg ?_;refine aJ (aC 0 10 (.a 10 (.a 11 .nil))) ?_;refine bg ?_;refine bU ?_;rw [RS.name,if_pos hc,ht];simp only [if_pos hk,if_neg hs];exact ⟨rfl,rfl⟩
   ·have lz:(t.kind != 2)=true:=by simpa using hk
    refine aj Tryz.func259 Tryz.ntmps259 ?_;refine aJ (aC 0 24 .nil) ?_;refine bg ?_;refine ab [0] (kL p hp) ?_;refine ab [0] (lT p 7 p.place) ?_;refine bU ?_;rw [RS.name,if_pos hc,ht];simp only [if_neg hk];exact ⟨rfl,rfl⟩
  | none =>
   have ao:p.l.length<=p.i:=List.getElem?_eq_none_iff.1 ht
   have hd:decide (((p.l.map c7).length:Int)<=(p.i:Int))=true:=by simp;omega
   refine aj Tryz.func259 Tryz.ntmps259 ?_;refine aJ (aC 0 24 .nil) ?_;refine bg ?_;refine ab [0] (kL p hp) ?_;refine ab [0] (lT p 7 p.place) ?_;refine bU ?_;rw [RS.name,if_pos hc,ht];exact ⟨rfl,rfl⟩
 ·have dq:(p.code != 0)=true:=by simpa using hc
  refine aj Tryz.func259 Tryz.ntmps259 ?_;refine bU ?_;rw [RS.name,if_neg hc];exact ⟨rfl,rfl⟩
abbrev ints (l:List Int):GV:=.sl 1 (l.map fun i=>[.v (ii i)])
abbrev strs (l:List ai):GV:=.sl 1 (l.map fun s=>[.v (sv s)])
mutual
def TK:T->List GV
 | .mk n k=>[.v (ii n.kind),.v (ii n.at_),.v (ii n.n),.v (sv n.s),ints n.kids,.sl 6 (aS k)]
def aS:List T->List (List GV)
 | []=>[]
 | t::r=>TK t::aS r
end
abbrev cT (t:T):List GV:=[.v (ii t.n.kind),.v (ii t.n.at_),.v (ii t.n.n),.v (sv t.n.s),ints t.n.kids,.sl 6 (aS t.kids)]
theorem uS (t:T):TK t=cT t:=by
 cases t;rfl
theorem fT (k a:Int) (s:ai) (l:List T) (rows:List (List GV)) (h:aS l=rows):GF Tryz.prog 222 [.v (ii k),.v (ii a),.v (sv s),.sl 6 rows] [] (.agg (cT (one k a s l))) []:=by
 subst h;refine aj Tryz.func222 Tryz.ntmps222 ?_;refine qL ?_;exact ⟨_,jg,rfl,rfl⟩
theorem jF:GF Tryz.prog 276 [] [] (.sl 1 (levels.map fun l=>[strs l])) []:=by
 refine aj Tryz.func276 Tryz.ntmps276 ?_
 iterate 10 (refine bS ?_)
 exact aw
theorem DP {xs:List ai} {k:Nat} {s x:ai} (h:xs[k]?=some x):(xs.take (k+1)).contains s=((xs.take k).contains s || (x==s)):=by
 rw [take_add_one,h,List.contains_append];show (_ || [x].contains s)=_
 congr 1
 rw [List.contains_cons,List.contains_nil,Bool.or_false];exact Bool.beq_comm
theorem jk (xs:List ai) (s:ai) (hl:xs.length<=1099511627776):GF Tryz.prog 74 [strs xs,.v (sv s)] [] (.v (.bool (xs.contains s))) []:=by
 refine aj Tryz.func74 Tryz.ntmps74 ?_;refine GW.range (xs.map fun s=>[GV.v (sv s)]).length (fun k fr Γ=>fr=[strs xs,.v (sv s),.U,.U,.U,.U,.U,strs xs,.v (ii ((xs.map fun s=>[GV.v (sv s)]).length:Int)),.v (ii k),.U,.U,.U,.U,.U,.U,.U]/\Γ=[]/\(xs.take k).contains s=false) ?_ (by simpa using hl) ?_ ?_ ?_
 ·exact iF
 ·exact fE
 ·rintro k _ _ ao ⟨rfl,rfl,hc⟩
  have ao:k < xs.length:=by simpa using ao
  have hx:xs[k]?=some xs[k]:=by simp [ao]
  have hr:(xs.map fun s=>[GV.v (sv s)])[k]?=some [.v (sv xs[k])]:=by simp [ao]
  have eM:=DP (s:=s) hx;refine ae ?_;refine GW.cond rfl (fun h2=>?_) (fun h2=>?_)
  ·refine ae ?_;refine bU ?_
   have h3:xs[k]=s:=by simpa using h2
   have:s∈xs:=by rw [<-h3];exact getElem_mem _
   refine ⟨?_,rfl⟩;show GV.v (.bool true)=_;rw [List.contains_iff_mem.2 this]
  ·refine ae ?_;exact ⟨rfl,rfl,_,_,Wk.aD ar,rfl,rfl,by rw [eM,hc,h2];rfl⟩
 ·rintro _ _ ⟨rfl,rfl,hc⟩;refine ae ?_;refine bU ?_
  have hc:xs.contains s=false:=by simpa using hc
  refine ⟨?_,rfl⟩;show GV.v (.bool false)=_;rw [hc]
end Go.Xg
namespace Go.Xg
open Go.RowKit Go.Xw
section
variable {P:Program} {m:Nat} {Q:dP} {fr:List GV} {Γ:List Ob}
theorem GW.Rp {c y:Code} {B:Nat} (K:List GV->List Ob->Prop) (h1:GW P m c (ba B (aY (yU m K) Q)) fr Γ) (h2:∀ fr Γ,K fr Γ->GW P m y Q fr Γ):GW P m c (ba B (aY (GW P m y Q) Q)) fr Γ:=by
 refine h1.mono fun e fr Γ hq=>?_
 have key:∀ fr Γ,yU m K fr Γ->GW P m y Q fr Γ:=fun fr Γ ⟨cj,aL,hw,hk⟩=>GW.wk hw (h2 _ _ hk)
 cases e with
 | normal=>exact key _ _ hq
 | exit n =>
  simp only [ba] at hq |-;split
  ·rename_i hn;rw [if_pos hn] at hq;exact key _ _ hq
  ·rename_i hn;rw [if_neg hn] at hq;exact hq
 | _=>exact hq
end
section
variable {P:Program} {fn:Func} {m:Nat} {R:GV->List Ob->Prop} {fr:List GV} {Γ:List Ob} {e:Exit}
theorem Wp {n:Nat} {t u:Tmp} {T:TypeId} {k:Nat} [hT:Ty P T true k] {i:Nat} {E:TypeId} {cs:List GV} {g:GV} (hr:fn.results=#[.cell t T,.tmp u]) (he:e=.normal\/e=.ret) (hg:cH fr t=.loc i 0) (bB:Γ[i]?=some (.box E cs)) (hk:cs.length=k) (fZ:cH fr u=g)
  (hm:m<=n) (hl:zt n (Γ.take n)=true) (jR:(GV.tup [.agg cs,g]).lt n=true) (h:R (.tup [.agg cs,g]) (Γ.take n)):sL P fn m R e fr Γ :=
 ⟨he,fun B K β w l hB hI hF=>by
  obtain ⟨b,vs,h1,h2,h3,h4⟩:=hI.ob i _ bB
  have hp:nth l t=.pointer (some ⟨b,0,none⟩):=by
   have:=hF.nth t;rw [hg] at this;generalize nth l t=v at this
   cases this with
   | loc _ _ b' bt=>rw [h1] at bt;cases bt;rfl
  have iT:l.toArray.getD t undef=.pointer (some ⟨b,0,none⟩):=by rw [jW,hp]
  have Fa:=nG (P:=P) (w:=w) (t:=T) (b:=b) (o:=0) (vs:=vs) (k:=k) (by rw [h3.1,hk]) (fun j v hj=>by
   rw [Nat.zero_add,cell_of_row w b j _ E (0,0) h2];simpa using hj)
  have zR:l[t]?.getD undef=.pointer (some ⟨b,0,none⟩):=by simpa using iT
  refine ⟨.tuple #[.agg vs.toArray,nth l u],K,fj (below n) β,.tup [.agg cs,g],Γ.take n,?_,hI.cut ah hl,?_,h⟩
  ·rw [<-jW l u];simp [results,hr,zR,asAddr,Fa]
  ·refine Rel.res ?_ jR;subst fZ;have hc:bb K β [.agg vs.toArray,nth l u] [.agg cs,cH fr u]:=.cons (.agg vs cs h3.1 h3.2) (.cons (hF.nth u) .nil)
   exact .tup _ _ hc.1 hc.2⟩
theorem Mr {n:Nat} {t u s:Tmp} {T:TypeId} {k:Nat} [hT:Ty P T true k] {i:Nat} {E:TypeId} {cs:List GV} {g g':GV} (hr:fn.results=#[.cell t T,.tmp u,.tmp s]) (he:e=.normal\/e=.ret) (hg:cH fr t=.loc i 0) (bB:Γ[i]?=some (.box E cs)) (hk:cs.length=k) (fZ:cH fr u=g) (hg3:cH fr s=g')
  (hm:m<=n) (hl:zt n (Γ.take n)=true) (jR:(GV.tup [.agg cs,g,g']).lt n=true) (h:R (.tup [.agg cs,g,g']) (Γ.take n)):sL P fn m R e fr Γ :=
 ⟨he,fun B K β w l hB hI hF=>by
  obtain ⟨b,vs,h1,h2,h3,h4⟩:=hI.ob i _ bB
  have hp:nth l t=.pointer (some ⟨b,0,none⟩):=by
   have:=hF.nth t;rw [hg] at this;generalize nth l t=v at this
   cases this with
   | loc _ _ b' bt=>rw [h1] at bt;cases bt;rfl
  have iT:l.toArray.getD t undef=.pointer (some ⟨b,0,none⟩):=by rw [jW,hp]
  have Fa:=nG (P:=P) (w:=w) (t:=T) (b:=b) (o:=0) (vs:=vs) (k:=k) (by rw [h3.1,hk]) (fun j v hj=>by
   rw [Nat.zero_add,cell_of_row w b j _ E (0,0) h2];simpa using hj)
  have zR:l[t]?.getD undef=.pointer (some ⟨b,0,none⟩):=by simpa using iT
  refine ⟨.tuple #[.agg vs.toArray,nth l u,nth l s],K,fj (below n) β,.tup [.agg cs,g,g'],Γ.take n,?_,hI.cut ah hl,?_,h⟩
  ·rw [<-jW l u,<-jW l s];simp [results,hr,zR,asAddr,Fa]
  ·refine Rel.res ?_ jR;subst fZ hg3;have hc:bb K β [.agg vs.toArray,nth l u,nth l s] [.agg cs,cH fr u,cH fr s]:=.cons (.agg vs cs h3.1 h3.2) (.cons (hF.nth u) (.cons (hF.nth s) .nil))
   exact .tup _ _ hc.1 hc.2⟩
end
end Go.Xg
namespace Go.Xg
open Go.RowKit Go.Xw Go.Proofs
open Go.Xp (Tok Nd T bo one levels)
open Go.Sp
attribute [local irreducible] GW GL GO YG GC GA aY ba
abbrev CO (c:UInt8):GV:=.v (.int .u8 (c.toNat:Int))
theorem we (c:UInt8):GF Tryz.prog 144 [CO c] [] (.v (.bool (small c))) []:=by
 unfold small;refine df Tryz.func144 Tryz.ntmps144 ?_
 cases h:decide ((97:Int)<=(c.toNat:Int))
 all_goals
  exact aw
theorem wc (c:UInt8):GF Tryz.prog 185 [CO c] [] (.v (.bool (dW c))) []:=by
 unfold dW;refine df Tryz.func185 Tryz.ntmps185 ?_
 cases h:decide ((48:Int)<=(c.toNat:Int))
 all_goals
  exact aw
theorem Dn (c:UInt8):GF Tryz.prog 143 [CO c] [] (.v (.bool (dN c))) []:=by
 unfold dN;have hs:=we c;have hd:=wc c;generalize small c=b1 at *;generalize dW c=b2 at *;refine aj Tryz.func143 Tryz.ntmps143 ?_;refine gQ [] hs ?_
 cases b1 with
 | true =>
  exact aw
 | false =>
  cases h1:decide ((65:Int)<=(c.toNat:Int)) with
  | true =>
   cases h2:decide ((c.toNat:Int)<=90) with
   | true =>
    exact aw
   | false =>
    refine ae ?_;refine gQ [] hd ?_
    cases b2 with
    | true =>
     exact aw
    | false =>
     exact aw
  | false =>
   refine ae ?_;refine gQ [] hd ?_
   cases b2 with
   | true =>
    exact aw
   | false =>
    exact aw
theorem oL (s t:ai) (a:Nat) (hs:s.length<=1152921504606846976) (ht:t.length<=1152921504606846976) (ha:a<=1152921504606846976) :
  GF Tryz.prog 254 [.v (sv s),.v (ii (a:Nat)),.v (sv t)] [] (.v (.bool (bA s a t))) []:=by
 by_cases h:a+t.length<=s.length
 ·have h':decide (((a+t.length:Nat):Int)<=(s.length:Int))=true:=by simpa using by omega
  refine aj Tryz.func254 Tryz.ntmps254 ?_;refine bU ?_;unfold bA;rw [decide_eq_true h];exact ⟨rfl,rfl⟩
 ·have h':decide (((a+t.length:Nat):Int)<=(s.length:Int))=false:=by simpa using by omega
  refine aj Tryz.func254 Tryz.ntmps254 ?_;refine bU ?_;unfold bA;rw [decide_eq_false h];exact ⟨rfl,rfl⟩
theorem NU (s:ai) (a:Nat) (hs:s.length<=1099511627776) (ha:a<=s.length) :
  GF Tryz.prog 219 [.v (sv s),.v (ii (a:Nat))] [] (.tup [.v (ii ((skip s (s.length+1) a).1:Nat)),.v (ii (skip s (s.length+1) a).2)]) []:=by
 generalize hR:skip s (s.length+1) a=R;refine aj Tryz.func219 Tryz.ntmps219 ?_;refine GW.loop (fun x:Nat × Nat=>x.1) (fun x fr Γ=>fr=[.v (sv s),.v (ii (x.2:Nat)),.U,.U,.U,.U,.U,.U,.U,.U,.U,.U,.U,.U,.U,.U,.U,.U,.U,.U,.U,.U,.U,.U,.U,.U,.U,.U,.U,.U,.U,.U,.U,.U,.U,.U,.U,.U,.U,.U,.U,.U,.U,.U,.U,.U,.U,.U,.U,.U,.U,.U,.U,.U,.U,.U,.U,.U,.U,.U,.U,.U,.U]/\Γ=[]/\x.2<=s.length/\s.length < x.1+x.2/\skip s x.1 x.2=R) (s.length+1,a) ?_ ?_
 ·exact ⟨_,_,Wk.aD ar,rfl,rfl,ha,by simp;omega,hR⟩
 ·rintro ⟨f,a⟩ _ _ ⟨rfl,rfl,ha,hf,h⟩;simp only at ha hf h
  cases f with
  | zero=>omega
  | succ f =>
  rw [skip] at h
  cases hc:s[a]? with
  | none =>
   rw [hc] at h;simp only at h;subst h;have ly:s.length<=a:=List.getElem?_eq_none_iff.1 hc
   have hd:decide ((a:Int) < (s.length:Int))=false:=by simpa using ly
   refine bH ?_;exact qJ
  | some c =>
   rw [hc] at h;simp only at h;have ao:a < s.length:=(List.getElem?_eq_some_iff.1 hc).1
   have hd:decide ((a:Int) < (s.length:Int))=true:=by simpa using ao
   have hb:dD c=(((c.toNat:Int)==32) || ((c.toNat:Int)==9) || ((c.toNat:Int)==10) || ((c.toNat:Int)==13)):=rfl
   by_cases nc:dD c=true
   ·rw [if_pos nc] at h;rw [hb] at nc;have Fs:((c.toNat:Int)==32)=true\/(((c.toNat:Int)==32)=false/\((c.toNat:Int)==9)=true)\/(((c.toNat:Int)==32)=false/\((c.toNat:Int)==9)=false/\((c.toNat:Int)==10)=true) \/
      (((c.toNat:Int)==32)=false/\((c.toNat:Int)==9)=false/\((c.toNat:Int)==10)=false/\((c.toNat:Int)==13)=true):=by
     generalize ((c.toNat:Int)==32)=b1 at *;generalize ((c.toNat:Int)==9)=b2 at *;generalize ((c.toNat:Int)==10)=b3 at *;generalize ((c.toNat:Int)==13)=b4 at *;clear hb
     revert nc;cases b1 <;> cases b2 <;> cases b3 <;> cases b4 <;> simp
    clear hb nc
    rcases Fs with k1 | ⟨k1,k2⟩ | ⟨k1,k2,k3⟩ | ⟨k1,k2,k3,k4⟩
    all_goals
     refine bH ?_;exact ⟨(f,a+1),⟨_,_,Wk.aD ar,rfl,rfl,by simp only;omega,by simp only;omega,h⟩,by simp⟩
   ·rw [if_neg nc] at h;rw [hb] at nc
    have Fs:((c.toNat:Int)==32)=false/\((c.toNat:Int)==9)=false/\((c.toNat:Int)==10)=false/\((c.toNat:Int)==13)=false:=by
     generalize ((c.toNat:Int)==32)=b1 at *;generalize ((c.toNat:Int)==9)=b2 at *;generalize ((c.toNat:Int)==10)=b3 at *;generalize ((c.toNat:Int)==13)=b4 at *;clear hb
     revert nc;cases b1 <;> cases b2 <;> cases b3 <;> cases b4 <;> simp
    clear hb nc;obtain ⟨k1,k2,k3,k4⟩:=Fs
    by_cases nA:bA s a [47,42]=true
    ·rw [if_pos nA] at h;have nc:=jt nA;have nc:a+2<=s.length:=nc
     have xA:(!bA s a [47,42])=false:=by rw [nA];rfl
     try simp only at h
     generalize he:eQ s s.length (a+2)=e at h;refine ae ?_;refine ab [] (oL s [47,42] a ah aK ah) ?_;have MF:=qP s s.length (a+2) ah ah;have u6:=rV s s.length (a+2) ah;rw [he] at MF u6;refine GW.Rp (fun fr Γ=>fr=[.v (sv s),.v (ii (a:Nat)),.U,.U,.U,.U,.v (ii (e:Nat)),.U,.U,.U,.U,.U,.U,.U,.U,.U,.U,.U,.U,.U,.U,.U,.U,.U,.U,.U,.U,.U,.U,.U,.U,.U,.U,.U,.U,.U,.U,.U,.U,.U,.U,.U,.U,.U,.U,.U,.U,.U,.U,.U,.U,.U,.U,.U,.U,.U,.U,.U,.U,.U,.U,.U,.U]/\Γ=[]) ?_ ?_
     ·refine GW.loop (fun x:Nat × Nat=>x.1) (fun x fr Γ=>fr=[.v (sv s),.v (ii (a:Nat)),.U,.U,.U,.U,.v (ii (x.2:Nat)),.U,.U,.U,.U,.U,.U,.U,.U,.U,.U,.U,.U,.U,.U,.U,.U,.U,.U,.U,.U,.U,.U,.U,.U,.U,.U,.U,.U,.U,.U,.U,.U,.U,.U,.U,.U,.U,.U,.U,.U,.U,.U,.U,.U,.U,.U,.U,.U,.U,.U,.U,.U,.U,.U,.U,.U]/\Γ=[]/\x.2<=s.length/\eQ s x.1 x.2=e) (s.length,a+2) ?_ ?_
      ·exact ⟨_,_,Wk.aD ar,rfl,rfl,by simp only;omega,he⟩
      ·rintro ⟨g,e'⟩ _ _ ⟨rfl,rfl,hle,sO⟩;simp only at hle sO
       by_cases hstop:e' < s.length
       ·have dr:decide ((e':Int) < (s.length:Int))=true:=by simpa using hstop
        cases n8:bA s e' [42,47] with
        | true =>
         have YU:(!bA s e' [42,47])=false:=by rw [n8];rfl
         have wV:e'=e:=by
          cases g with
          | zero=>exact sO
          | succ g=>rw [eQ,if_neg (by rw [n8];simp)] at sO;exact sO
         subst wV;refine ae ?_;refine ab [] (oL s [42,47] e' ah aK ah) ?_;refine jd ?_;exact jq
        | false =>
         have YU:(!bA s e' [42,47])=true:=by rw [n8];rfl
         cases g with
         | zero=>exact absurd ⟨by rw [<-sO];exact hstop,by rw [<-sO];exact n8⟩ MF
         | succ g =>
          rw [eQ,if_pos ⟨hstop,n8⟩] at sO;refine ae ?_;refine ab [] (oL s [42,47] e' ah aK ah) ?_;exact ⟨(g,e'+1),⟨_,_,Wk.aD ar,rfl,rfl,hstop,sO⟩,by simp⟩
       ·have dr:decide ((e':Int) < (s.length:Int))=false:=by simp;omega
        have wV:e'=e:=by
         cases g with
         | zero=>exact sO
         | succ g=>rw [eQ,if_neg (fun hh=>hstop hh.1)] at sO;exact sO
        subst wV;refine bH ?_;exact jq
     ·rintro _ _ ⟨rfl,rfl⟩
      by_cases hle:s.length<=e
      ·rw [if_pos hle] at h
       have Za:decide ((s.length:Int)<=(e:Int))=true:=by simpa using hle
       subst h;exact qJ
      ·rw [if_neg hle] at h
       have Za:decide ((s.length:Int)<=(e:Int))=false:=by simp;omega
       have n8:bA s e [42,47]=true:=by
        cases n8:bA s e [42,47] with
        | true=>rfl
        | false=>exact absurd ⟨by omega,n8⟩ MF
       have n8:=jt n8;have n8:e+2<=s.length:=n8;refine bH ?_;exact ⟨(f,e+2),⟨_,_,Wk.aD ar,rfl,rfl,n8,by simp only;omega,h⟩,by simp⟩
    ·rw [if_neg nA] at h
     have xA:(!bA s a [47,42])=true:=by simpa using nA
     subst h;refine ae ?_;refine ab [] (oL s [47,42] a ah aK ah) ?_;exact mg
theorem wg:GF Tryz.prog 115 [] [] (strs words) []:=by
 refine aj Tryz.func115 Tryz.ntmps115 ?_;refine bS ?_;exact aw
theorem J6:GF Tryz.prog 256 [] [] (strs bI) []:=by
 refine aj Tryz.func256 Tryz.ntmps256 ?_;refine bS ?_;exact aw
theorem Na (s:ai) (hs:s.length<=1099511627776):GF Tryz.prog 114 [.v (sv s)] [] (.v (.bool (word s))) []:=by
 refine aj Tryz.func114 Tryz.ntmps114 ?_;refine GW.loop (fun a:Nat=>s.length - a) (fun a fr Γ=>fr=[.v (sv s),.U,.U,.v (ii (a:Nat)),.U,.U,.U,.U,.U,.U,.U,.U,.U,.U,.U,.U,.U,.U,.U,.U,.U,.U]/\Γ=[]/\a<=s.length/\(s.take a).all dN=true) 0 ?_ ?_
 ·exact ⟨_,_,Wk.aD ar,rfl,rfl,Nat.zero_le _,rfl⟩
 ·rintro a _ _ ⟨rfl,rfl,ha,aM⟩
  cases hc:s[a]? with
  | some c =>
   have ao:a < s.length:=(List.getElem?_eq_some_iff.1 hc).1
   have hd:decide ((a:Int) < (s.length:Int))=true:=by simpa using ao
   have bh:(s.take (a+1)).all dN=((s.take a).all dN&&dN c):=by
    rw [take_add_one,hc,List.all_append];simp
   have hp:=Dn c
   cases hn:dN c with
   | true =>
    rw [hn] at hp;refine ae ?_;refine ab [] hp ?_;exact ⟨a+1,⟨_,_,Wk.aD ar,rfl,rfl,ao,by rw [bh,aM,hn];rfl⟩,by omega⟩
   | false =>
    rw [hn] at hp;refine ae ?_;refine ab [] hp ?_;refine bU ?_;refine ⟨?_,rfl⟩
    have hw:word s=false:=by
     have:s.all dN=false:=by
      rw [List.all_eq_false];exact ⟨c,mem_of_getElem? hc,by rw [hn];decide⟩
     unfold word;rw [this];rfl
    rw [hw];rfl
  | none =>
   have ly:s.length<=a:=List.getElem?_eq_none_iff.1 hc
   have hd:decide ((a:Int) < (s.length:Int))=false:=by simpa using ly
   have aM:s.all dN=true:=by rw [take_of_length_le ly] at aM;exact aM
   cases s with
   | nil =>
    refine bH ?_;exact aw
   | cons c r =>
    have hr:(c::r)[0]?=some c:=rfl;refine bH ?_;refine ae ?_;refine ab [] (we c) ?_;refine bU ?_;refine ⟨?_,rfl⟩;unfold word;rw [aM];rfl
theorem ea (s:ai) (hs:s.length<=1099511627776):GF Tryz.prog 71 [.v (sv s)] [] (.v (.bool (bs s))) []:=by
 have hw:=Na s hs;unfold bs;generalize word s=b at *;refine aj Tryz.func71 Tryz.ntmps71 ?_;refine gQ [] hw ?_
 cases b with
 | false =>
  exact aw
 | true =>
  by_cases n5:s.length<=12
  ·have YN:decide ((s.length:Int)<=12)=true:=by simpa using by omega
   refine ae ?_;refine ab [] wg ?_;refine ab [] (jk words s aK) ?_;refine bU ?_;rw [decide_eq_true n5];exact ⟨rfl,rfl⟩
  ·have YN:decide ((s.length:Int)<=12)=false:=by simpa using by omega
   refine ae ?_;refine bU ?_;rw [decide_eq_false n5];exact ⟨rfl,rfl⟩
theorem G8 (s:ai) (a:Nat) (hs:s.length<=1099511627776) (ha:a<=s.length) :
  GF Tryz.prog 255 [.v (sv s),.v (ii (a:Nat))] [] (.tup [.agg (c7 ⟨1,(number s (s.length+1) 0 a).1,[],a⟩),.v (ii ((number s (s.length+1) 0 a).2:Nat))]) []:=by
 generalize hR:number s (s.length+1) 0 a=R;generalize ha0:a=a0 at *;refine aj Tryz.func255 Tryz.ntmps255 ?_;refine GW.loop (fun x:Nat × Int × Nat=>x.1) (fun x fr Γ=>fr=[.v (sv s),.v (ii (x.2.2:Nat)),.U,.U,.loc 0 0,.U,.loc 1 0,.U,.U,.U,.U,.U,.U,.U,.U,.U,.U,.U,.U,.U,.U,.U,.U,.U,.U,.U,.U,.U,.U,.U,.U,.U,.U,.U,.U,.U]/\Γ=[.box 203 [.v (ii 0),.v (ii 0),.v (sv []),.v (ii 0)],.box 203 (c7 ⟨1,x.2.1,[],a0⟩)]/\x.2.2<=s.length/\s.length < x.1+x.2.2/\number s x.1 x.2.1 x.2.2=R/\0<=x.2.1/\x.2.1<=21474836479) (s.length+1,0,a0) ?_ ?_
 ·exact ⟨_,_,Wk.aD ar,rfl,rfl,by simp only;omega,by simp only;omega,by rw [<-hR],by simp,by simp⟩
 ·rintro ⟨f,n,a⟩ _ _ ⟨rfl,rfl,ha,hf,h,Da,Fe⟩;simp only at ha hf h Da Fe
  cases f with
  | zero=>omega
  | succ f =>
  rw [number] at h
  cases hc:s[a]? with
  | none =>
   rw [hc] at h;simp only at h;subst h;have ly:s.length<=a:=List.getElem?_eq_none_iff.1 hc
   have hd:decide ((a:Int) < (s.length:Int))=false:=by simpa using ly
   refine bH ?_;refine ae ?_;refine o8 ?_;exact ⟨rfl,rfl⟩
  | some c =>
   rw [hc] at h;simp only at h;have ao:a < s.length:=(List.getElem?_eq_some_iff.1 hc).1
   have hd:decide ((a:Int) < (s.length:Int))=true:=by simpa using ao
   have mu:=wc c
   cases hdc:dW c with
   | false =>
    rw [hdc] at mu;rw [if_neg (by rw [hdc];simp)] at h;subst h;refine ae ?_;refine ab [] mu ?_;refine jd ?_;refine ae ?_;refine o8 ?_;exact ⟨rfl,rfl⟩
   | true =>
    rw [hdc] at mu;rw [if_pos hdc] at h
    have xM:(48:Int)<=(c.toNat:Int)/\(c.toNat:Int)<=57:=by
     simp only [dW,Bool.and_eq_true,decide_eq_true_eq] at hdc;exact hdc
    by_cases hn:n<=2147483647
    ·rw [if_pos hn] at h
     have A1:decide (n<=2147483647)=true:=by simpa using hn
     refine ae ?_;refine ab [] mu ?_;refine aJ (aC 0 10 (.a 10 .nil)) ?_;refine bg ?_;exact ⟨(f,n * 10+((c.toNat:Int) - 48),a+1),⟨_,_,Wk.aD ar,rfl,rfl,ao,by simp only;omega,h,by simp only;omega,by simp only;omega⟩,by simp⟩
    ·rw [if_neg hn] at h
     have A1:decide (n<=2147483647)=false:=by simpa using hn
     refine ae ?_;refine ab [] mu ?_;exact ⟨(f,n,a+1),⟨_,_,Wk.aD ar,rfl,rfl,ao,by simp only;omega,h,Da,Fe⟩,by simp⟩
theorem Ma {xs:List ai} {p:ai->Bool} {k:Nat} {x:ai} (h:(xs.take k).find? p=none) (hx:xs[k]?=some x) (hp:p x=true):xs.find? p=some x:=by
 have ao:=(List.getElem?_eq_some_iff.1 hx).1
 have:xs=xs.take k++x::xs.drop (k+1):=by
  have h1:=List.take_append_drop k xs;rw [List.drop_eq_getElem_cons ao] at h1;rw [(List.getElem?_eq_some_iff.1 hx).2] at h1;exact h1.symm
 rw [this,List.find?_append,h];simp [List.find?_cons,hp]
theorem L9 {xs:List ai} {p:ai->Bool} {k:Nat} {x:ai} (h:(xs.take k).find? p=none) (hx:xs[k]?=some x) (hp:p x=false):(xs.take (k+1)).find? p=none:=by
 rw [take_add_one,hx,List.find?_append,h];simp [List.find?_cons,hp]
theorem Hq:∀ x∈bI,x.length<=1152921504606846976:=by decide
theorem Pz (s:ai) (a:Nat) (c:UInt8) (hs:s.length<=1099511627776) (hc:s[a]?=some c) :
  GF Tryz.prog 220 [.v (sv s),.v (ii (a:Nat))] [] (.tup [.agg (c7 (iK s a c).1),.v (ii ((iK s a c).2:Nat))]) []:=by
 have ao:a < s.length:=(List.getElem?_eq_some_iff.1 hc).1;have mu:=wc c;have iU:=we c;unfold iK
 cases hdc:dW c with
 | true =>
  rw [hdc] at mu;rw [if_pos rfl];refine aj Tryz.func220 Tryz.ntmps220 ?_;refine ab [] mu ?_;refine ab [] (G8 s a hs ah) ?_;refine o8 ?_;exact ⟨rfl,rfl⟩
 | false =>
  rw [hdc] at mu;rw [if_neg aK]
  cases hsc:small c with
  | true =>
   rw [hsc] at iU;rw [if_pos rfl];have XQ:=py s dN (s.length+1) a ah ah;have XV:(s.take (eB s a)).drop a=eZ s a:=rfl;have Uw:run s dN (s.length+1) a=eB s a:=rfl;rw [Uw] at XQ;generalize he:eB s a=e at *;generalize hw:eZ s a=w at *;have hw:=XV;have he:=Uw;refine aj Tryz.func220 Tryz.ntmps220 ?_;refine ab [] mu ?_;refine ab [] iU ?_;refine GW.Rp (fun fr Γ=>fr=[.v (sv s),.v (ii (a:Nat)),.U,.U,.loc 0 0,.U,.v (ii (e:Nat)),.U,.U,.U,.U,.U,.U,.U,.U,.U,.U,.U,.U,.U,.U,.U,.U,.U,.U,.U,.U,.U,.U,.U,.U,.U,.U,.U,.U,.U,.U,.U,.U,.U,.U,.U,.U,.U,.U,.U,.U,.U,.U,.U,.U,.U,.U,.U,.U,.U,.U,.U,.U,.U,.U,.U,.U,.U,.U,.U,.U,.U,.U]/\Γ=[.box 203 [.v (ii 0),.v (ii 0),.v (sv []),.v (ii 0)]]) ?_ ?_
   ·refine GW.loop (fun x:Nat × Nat=>x.1) (fun x fr Γ=>fr=[.v (sv s),.v (ii (a:Nat)),.U,.U,.loc 0 0,.U,.v (ii (x.2:Nat)),.U,.U,.U,.U,.U,.U,.U,.U,.U,.U,.U,.U,.U,.U,.U,.U,.U,.U,.U,.U,.U,.U,.U,.U,.U,.U,.U,.U,.U,.U,.U,.U,.U,.U,.U,.U,.U,.U,.U,.U,.U,.U,.U,.U,.U,.U,.U,.U,.U,.U,.U,.U,.U,.U,.U,.U,.U,.U,.U,.U,.U,.U]/\Γ=[.box 203 [.v (ii 0),.v (ii 0),.v (sv []),.v (ii 0)]]/\x.2<=s.length/\s.length < x.1+x.2/\run s dN x.1 x.2=e) (s.length+1,a) ?_ ?_
    ·exact ⟨_,_,Wk.aD ar,rfl,rfl,by simp only;omega,by simp only;omega,he⟩
    ·rintro ⟨f,b⟩ _ _ ⟨rfl,rfl,hb,hf,h⟩;simp only at hb hf h
     cases f with
     | zero=>omega
     | succ f =>
     rw [run] at h
     cases zd:s[b]? with
     | none =>
      rw [zd] at h;simp only at h;subst h;have ly:s.length<=b:=List.getElem?_eq_none_iff.1 zd
      have hd:decide ((b:Int) < (s.length:Int))=false:=by simpa using ly
      refine bH ?_;exact jq
     | some cb =>
      rw [zd] at h;simp only at h;have pM:b < s.length:=(List.getElem?_eq_some_iff.1 zd).1
      have hd:decide ((b:Int) < (s.length:Int))=true:=by simpa using pM
      have hp:=Dn cb
      cases hn:dN cb with
      | true =>
       rw [hn] at hp;rw [if_pos hn] at h;refine ae ?_;refine ab [] hp ?_;exact ⟨(f,b+1),⟨_,_,Wk.aD ar,rfl,rfl,pM,by simp only;omega,h⟩,by simp⟩
      | false =>
       rw [hn] at hp;rw [if_neg (by rw [hn];decide)] at h;subst h;refine ae ?_;refine ab [] hp ?_;refine jd ?_;exact jq
   ·rintro _ _ ⟨rfl,rfl⟩;obtain ⟨_,h1,h2⟩:=XQ;refine ae ?_;rw [hw];have JT:=jk words w aK
    cases hcw:words.contains w with
    | true =>
     rw [hcw] at JT;refine aJ (.q 1 (.q 2 (.a 0 (.a 3 .nil)))) ?_;refine au ?_;refine aE [] wg ?_;refine aE [] JT ?_;refine ae ?_;refine o8 ?_;rw [if_pos rfl];exact ⟨rfl,rfl⟩
    | false =>
     rw [hcw] at JT;refine aJ (.q 1 (.q 2 (.a 0 (.a 3 .nil)))) ?_;refine au ?_;refine aE [] wg ?_;refine aE [] JT ?_;refine ae ?_;refine o8 ?_;rw [if_neg aK];exact ⟨rfl,rfl⟩
  | false =>
   rw [hsc] at iU;rw [if_neg aK];refine aj Tryz.func220 Tryz.ntmps220 ?_;refine ab [] mu ?_;refine ab [] iU ?_;refine ab [] J6 ?_;refine GW.range (bI.map fun s=>[GV.v (sv s)]).length (fun k fr Γ=>fr=[.v (sv s),.v (ii (a:Nat)),.U,.U,.loc 0 0,.U,.U,.U,.U,.U,.U,.U,.U,.U,.U,.U,.U,.U,.U,.U,.U,.U,.U,.U,.U,.U,.U,.U,.U,.U,.U,.U,.U,.U,.U,.U,.U,.U,.U,.U,.U,.U,.U,.U,.U,.U,.U,.U,.U,strs bI,.v (ii ((bI.map fun s=>[GV.v (sv s)]).length:Int)),.v (ii (k:Nat)),.U,.U,.U,.U,.U,.U,.U,.U,.U,.U,.U,.U,.U,.U,.U,.U,.U]/\Γ=[.box 203 [.v (ii 0),.v (ii 0),.v (sv []),.v (ii 0)]]/\(bI.take k).find? (bA s a)=none) ?_ aK ?_ ?_ ?_
   ·exact iF
   ·exact fE
   ·rintro k _ _ hk ⟨rfl,rfl,hf⟩
    have hk:k < bI.length:=by simpa using hk
    have hx:bI[k]?=some bI[k]:=by simp [hk]
    have hr:(bI.map fun s=>[GV.v (sv s)])[k]?=some [.v (sv bI[k])]:=by simp [hk]
    have wY:=Hq _ (getElem_mem hk);generalize bI[k]=x at *;have nA:=oL s x a ah wY ah
    cases hb:bA s a x with
    | true =>
     rw [hb] at nA;have MJ:=Ma hf hx hb;refine ae ?_;refine ab [] nA ?_;refine o8 ?_;rw [MJ];exact ⟨rfl,rfl⟩
    | false =>
     rw [hb] at nA;refine ae ?_;refine ab [] nA ?_;exact ⟨rfl,rfl,_,_,Wk.aD ar,rfl,rfl,L9 hf hx hb⟩
   ·rintro _ _ ⟨rfl,rfl,hf⟩
    have hf:bI.find? (bA s a)=none:=by
     rw [take_of_length_le (by simp)] at hf;exact hf
    refine ae ?_;refine o8 ?_;rw [hf];exact ⟨rfl,rfl⟩
theorem Qr {s:ai} {a:Nat} {c:UInt8} (hc:s[a]?=some c):a<=(iK s a c).2/\(iK s a c).2<=s.length:=by
 have ao:a < s.length:=(List.getElem?_eq_some_iff.1 hc).1;unfold iK;split
 ·exact (wy s (s.length+1) 0 a ah ah).2
 ·split
  ·exact (py s dN (s.length+1) a ah ah).2
  ·split
   ·rename_i x hx;have:=jt (List.find?_some hx);exact ⟨Nat.le_add_right _ _,this⟩
   ·exact ⟨Nat.le_refl _,by omega⟩
theorem Nc (s:ai) (l:List Tok) (hs:s.length<=1000000000000) (h:Go.Sp.iz s=some l) :
  GF Tryz.prog 191 [.v (sv s)] [] (Go.Xg.iz l) []:=by
 rw [Go.Sp.iz] at h;have hsk:=NU s 0 ah (Nat.zero_le _);have tX:=yK s (s.length+1) 0 (Nat.zero_le _);generalize hS:skip s (s.length+1) 0=R at *;refine aj Tryz.func191 Tryz.ntmps191 ?_;refine mI ?_;refine ae ?_;refine ab [] hsk ?_;refine GW.loop (fun x:Nat × Nat × List Tok=>x.1) (fun x fr Γ=>∃ n rows,fr=[.v (sv s),.U,.U,.vec 0 n,.v (ii (x.2.1:Nat)),.U,.U,.U,.U,.U,.U,.U,.U,.U,.U,.U,.U,.U,.U,.U,.U,.U,.U,.U,.U,.U,.U,.U,.U,.U,.U,.U,.U,.U,.U]/\Γ=[.vec 203 4 0 rows]/\rows.length=n/\rows=x.2.2.map c7/\n+x.1<=s.length+2/\x.2.1<=s.length/\qb s x.1 x.2.1 x.2.2=some l) (s.length+2,R.1,[]) ?_ ?_
 ·exact ⟨_,_,Wk.aD ar,0,[],rfl,rfl,rfl,rfl,by simp,tX.2,h⟩
 ·rintro ⟨f,a,acc⟩ _ _ ⟨n,rows,rfl,rfl,hn,bz,rj,ha,h⟩;simp only at bz rj ha h
  cases f with
  | zero=>simp [qb] at h
  | succ f =>
  rw [qb] at h
  cases hc:s[a]? with
  | none =>
   rw [hc] at h;simp only at h;cases h;have ly:s.length<=a:=List.getElem?_eq_none_iff.1 hc
   have hd:decide ((a:Int) < (s.length:Int))=false:=by simpa using ly
   subst bz;refine bH ?_;refine ae ?_;refine GW.wk (Wk.jy (t:=2) rfl rfl rfl hn) ?_;exact al
  | some c =>
   rw [hc] at h;simp only at h;have ao:a < s.length:=(List.getElem?_eq_some_iff.1 hc).1
   have hd:decide ((a:Int) < (s.length:Int))=true:=by simpa using ao
   have oI:=Qr hc;have hY:=Pz s a c ah hc;generalize iK s a c=tk at *;have Zn:=NU s tk.2 ah oI.2;have aaC:=yK s (s.length+1) tk.2 oI.2;generalize skip s (s.length+1) tk.2=R2 at *;refine ae ?_;refine ab [] hY ?_;refine eR ?_;refine ae ?_;refine ab [] Zn ?_;exact ⟨(f,R2.1,acc++[tk.1]),⟨_,_,(Wk.cut (n:=1) (Nat.le_of_ble_eq_true rfl) rfl).trans (Wk.aD ar),_,_,rfl,rfl,by simp [hn],by rw [List.map_append,bz];rfl,by simp only;omega,by simp only;omega,h⟩,by simp⟩
structure Eh (f:Nat):Prop where
 expr:∀ d p t q,p.ok->d+f<=4611686018427387904->mE f (.expr d) p=some (t,q)->GF Tryz.prog 260 [.loc 0 0,.v (ii (d:Nat))] [ca p] (.agg (cT t)) [ca q]
 level:∀ k d p t q,p.ok->k<=9->d+f<=4611686018427387904->mE f (.level k d) p=some (t,q)->GF Tryz.prog 280 [.loc 0 0,.v (ii (k:Nat)),.v (ii (d:Nat))] [ca p] (.agg (cT t)) [ca q]
 operand:∀ d p t q,p.ok->d+f<=4611686018427387904->mE f (.operand d) p=some (t,q)->GF Tryz.prog 294 [.loc 0 0,.v (ii (d:Nat))] [ca p] (.agg (cT t)) [ca q]
 named:∀ a s d p t q,p.ok->d+f<=4611686018427387904->mE f (.named a s d) p=some (t,q)->GF Tryz.prog 301 [.loc 0 0,.v (ii a),.v (sv s),.v (ii (d:Nat))] [ca p] (.agg (cT t)) [ca q]
 list:∀ d p l q,p.ok->d+f<=4611686018427387904->mL f d p=some (l,q)->GF Tryz.prog 305 [.loc 0 0,.v (ii (d:Nat))] [ca p] (.sl 6 (aS l)) [ca q]
theorem TN {f:Nat} (C:Eh f) (d:Nat) (p:RS) (t:T) (q:RS) (hp:p.ok) (hd:d+(f+1)<=4611686018427387904) (h:mE (f+1) (.expr d) p=some (t,q)) :
  GF Tryz.prog 260 [.loc 0 0,.v (ii (d:Nat))] [ca p] (.agg (cT t)) [ca q]:=by
 rw [mE] at h;refine aj Tryz.func260 Tryz.ntmps260 ?_;refine ab [0] (ub p d hp) ?_;refine ab [0] (C.level 0 d _ t q ((nX hp d).ok hp) ah ah h) ?_;exact dm
theorem IC {k:Nat} (hk:k < 9):(levels.map fun l=>[strs l])[k]?=some [strs (levels.getD k [])]:=by
 have:k < levels.length:=hk;rw [getElem?_map,getElem?_eq_getElem this,List.getD_eq_getElem?_getD,getElem?_eq_getElem this];rfl
theorem B9:∀ k,k < 9->(levels.getD k []).length<=1099511627776:=by decide
abbrev zT:List GV:=[.v (ii 0),.v (ii 0),.v (ii 0),.v (sv []),.v (.slice none 0 0),.v (.slice none 0 0)]
theorem SI {f:Nat} (C:∀ f',f'<=f->Eh f') (k d:Nat) (p:RS) (t:T) (q:RS) (hp:p.ok) (hk:k<=9) (hd:d+(f+1)<=4611686018427387904) (h:mE (f+1) (.level k d) p=some (t,q)) :
  GF Tryz.prog 280 [.loc 0 0,.v (ii (k:Nat)),.v (ii (d:Nat))] [ca p] (.agg (cT t)) [ca q]:=by
 rw [mE] at h
 by_cases AZ:k=9
 ·subst AZ;rw [if_pos rfl] at h;refine aj Tryz.func280 Tryz.ntmps280 ?_;refine ab [] jF ?_;refine ab [0] ((C f (Nat.le_refl _)).operand (d+1) p t q hp ah h) ?_;exact dm
 ·rw [if_neg AZ] at h
  have Y7:((k:Int)==9)=false:=by simp;omega
  cases he:mE f (.level (k+1) d) p with
  | none=>rw [he] at h;cases h
  | some r =>
   obtain ⟨out,p1⟩:=r;rw [he] at h;simp only at h;have lC:=((ue f).1 _ _ _ _ hp he).ok hp;refine aj Tryz.func280 Tryz.ntmps280 ?_;refine ab [] jF ?_;refine ab [0] ((C f (Nat.le_refl _)).level (k+1) d p out p1 hp ah ah he) ?_;refine GW.loop (fun x:Nat × T × RS=>x.1) (fun x fr Γ=>fr=[.loc 0 0,.v (ii (k:Nat)),.v (ii (d:Nat)),.U,.U,.U,.loc 1 0,.loc 2 0,.U,.U,.U,.U,.U,.U,.U,.U,.U,.U,.U,.U,.U,.U,.U,.U,.U,.U,.U,.U,.U,.U,.U,.U,.U,.U,.U,.U,.U,.U,.U,.U,.U,.U,.U,.U,.U,.U,.U,.U,.U,.U,.U,.U,.U,.U,.U,.U,.U,.U,.U,.U,.U,.U,.U,.U,.U,.U]/\Γ=[ca x.2.2,.box 94 zT,.box 94 (cT x.2.1)]/\x.2.2.ok/\x.1<=f/\mE x.1 (.loop k d x.2.1) x.2.2=some (t,q)) (f,out,p1) ?_ ?_
   ·exact ⟨_,_,Wk.aD ar,rfl,rfl,lC,Nat.le_refl _,h⟩
   ·rintro ⟨g,out,p⟩ _ _ ⟨rfl,rfl,hp,MK,h⟩;simp only at hp MK h
    cases g with
    | zero=>simp [mE] at h
    | succ g =>
    rw [mE] at h
    have hk:k < 9:=by omega
    by_cases hc:p.code=0
    ·have dq:(p.code==0)=true:=by simpa using hc
     have Q7:=IC hk
     by_cases hit:(levels.getD k []).contains (p.sign 0)=true
     ·rw [if_pos ⟨hc,hit⟩] at h
      cases ht:p.l[p.i]? with
      | none=>rw [ht] at h;cases h
      | some tk =>
       rw [ht] at h;simp only at h;have ao:=(List.getElem?_eq_some_iff.1 ht).1;have hr:=ku ht;have cW:=hp.2
       cases hb:mE g (.level (k+1) d) p.next with
       | none=>rw [hb] at h;cases h
       | some r =>
        obtain ⟨b,p2⟩:=r;rw [hb] at h;simp only at h;have dc:=(dw ao).ok hp;have dH:=((ue g).1 _ _ _ _ dc hb).ok dc;refine ae ?_;refine aJ (aC 0 6 (.q 7 (.q 10 (.a 6 (.q 8 (.q 9 (.a 11 (.a 12 (.q 13 .nil))))))))) ?_;refine au ?_;refine bC [] jF ?_;refine bC [0] (cY p 0 hp aK) ?_;refine bC [] (jk (levels.getD k []) (p.sign 0) (B9 k hk)) ?_;refine ae ?_;refine aJ (aC 0 10 (.a 10 (.a 11 .nil))) ?_;refine bg ?_;refine aJ (aC 0 9 (.a 9 (.a 10 (.a 11 (.a 12 .nil))))) ?_;refine au ?_;refine aE [0] ((C g ah).level (k+1) d p.next b p2 dc ah ah hb) ?_;refine ey ?_;refine au ?_;refine wJ [] (fT 6 tk.at_ tk.s [out,b] _ nY) ?_;refine Gu ?_;refine bg ?_;exact ⟨(g,one 6 tk.at_ tk.s [out,b],p2),⟨_,_,(Wk.cut (n:=3) (Nat.le_of_ble_eq_true rfl) rfl).trans (Wk.aD ar),rfl,rfl,dH,by omega,h⟩,by simp⟩
     ·have hit:(levels.getD k []).contains (p.sign 0)=false:=by simpa using hit
      rw [if_neg (by rw [hit];simp)] at h
      obtain ⟨rfl,rfl⟩:out=t/\p=q:=by simpa using h
      refine ae ?_;refine aJ (aC 0 6 (.q 7 (.q 10 (.a 6 (.q 8 (.q 9 (.a 11 (.a 12 (.q 13 .nil))))))))) ?_;refine au ?_;refine bC [] jF ?_;refine bC [0] (cY p 0 hp aK) ?_;refine bC [] (jk (levels.getD k []) (p.sign 0) (B9 k hk)) ?_;refine bH ?_;exact o7
    ·have dq:(p.code==0)=false:=by simpa using hc
     rw [if_neg (fun hh=>hc hh.1)] at h
     obtain ⟨rfl,rfl⟩:out=t/\p=q:=by simpa using h
     refine ae ?_;refine aJ (aC 0 6 (.q 7 (.q 10 (.a 6 (.q 8 (.q 9 (.a 11 (.a 12 (.q 13 .nil))))))))) ?_;refine bg ?_;refine jd ?_;exact o7
theorem SM {f:Nat} (C:Eh f) (a:Int) (s:ai) (d:Nat) (p:RS) (t:T) (q:RS) (hp:p.ok) (hd:d+(f+1)<=4611686018427387904) (h:mE (f+1) (.named a s d) p=some (t,q)) :
  GF Tryz.prog 301 [.loc 0 0,.v (ii a),.v (sv s),.v (ii (d:Nat))] [ca p] (.agg (cT t)) [ca q]:=by
 rw [mE] at h
 by_cases h1:p.sign 0=[91]
 ·rw [if_pos h1] at h
  have cI:(p.sign 0==[91])=true:=by simp [h1]
  have ao:=(fv h1 aK).1;have cW:=hp.2;have dc:=(jc h1 aK).ok hp
  cases he:mE f (.expr (d+1)) p.next with
  | none=>rw [he] at h;cases h
  | some r =>
   obtain ⟨b,p1⟩:=r;rw [he] at h;cases h;have lC:=((ue f).1 _ _ _ _ dc he).ok dc;refine aj Tryz.func301 Tryz.ntmps301 ?_;refine ab [0] (cY p 0 hp aK) ?_;refine ab [0] (C.expr (d+1) p.next b p1 dc ah he) ?_;refine ab [0] (cX p1 [93] lC aK) ?_;refine bS ?_;refine ae ?_;refine ab [] (fT 3 a s [b] _ nY) ?_;exact dm
 ·rw [if_neg h1] at h
  have cI:(p.sign 0==[91])=false:=by simpa using h1
  by_cases h2:p.sign 0=[40]
  ·rw [if_pos h2] at h
   have qh:(p.sign 0==[40])=true:=by simp [h2]
   have ao:=(fv h2 aK).1;have cW:=hp.2;have dc:=(jc h2 aK).ok hp
   cases he:mL f (d+1) p.next with
   | none=>rw [he] at h;cases h
   | some r =>
    obtain ⟨l,p1⟩:=r;rw [he] at h;cases h;refine aj Tryz.func301 Tryz.ntmps301 ?_;refine ab [0] (cY p 0 hp aK) ?_;refine ab [0] (C.list (d+1) p.next l q dc ah he) ?_;refine ab [] (fT 4 a s l _ rfl) ?_;exact dm
  ·rw [if_neg h2] at h
   have qh:(p.sign 0==[40])=false:=by simpa using h2
   cases h;refine aj Tryz.func301 Tryz.ntmps301 ?_;refine ab [0] (cY p 0 hp aK) ?_;refine ab [] (fT 2 a s [] [] rfl) ?_;exact dm
theorem aU (l:List T):(aS l).length=l.length:=by
 induction l with
 | nil=>rfl
 | cons a l ih=>simp [aS,ih]
theorem xl (l:List T) (a:T):aS (l++[a])=aS l++[cT a]:=by
 induction l with
 | nil=>simp [aS,uS]
 | cons b l ih=>simp [aS,ih]
theorem Vj {f:Nat} (C:∀ f',f'<=f->Eh f') (d:Nat) (p:RS) (l:List T) (q:RS) (hp:p.ok) (hd:d+(f+1)<=4611686018427387904) (h:mL (f+1) d p=some (l,q)) :
  GF Tryz.prog 305 [.loc 0 0,.v (ii (d:Nat))] [ca p] (.sl 6 (aS l)) [ca q]:=by
 rw [mL] at h
 by_cases h1:p.sign 0=[41]
 ·rw [if_pos h1] at h
  have cI:(!(p.sign 0==[41]))=false:=by simp [h1]
  cases h;refine aj Tryz.func305 Tryz.ntmps305 ?_;refine mI ?_;refine ae ?_;refine ab [0] (cY p 0 hp aK) ?_;refine ab [0] (cX p [41] hp aK) ?_;refine GW.wk (Wk.jy (t:=4) rfl rfl rfl rfl) ?_;exact al
 ·rw [if_neg h1] at h
  have cI:(!(p.sign 0==[41]))=true:=by simpa using h1
  cases he:mE f (.expr d) p with
  | none=>rw [he] at h;cases h
  | some r =>
   obtain ⟨a,p1⟩:=r;rw [he] at h;simp only at h;have lC:=((ue f).1 _ _ _ _ hp he).ok hp;refine aj Tryz.func305 Tryz.ntmps305 ?_;refine mI ?_;refine ae ?_;refine ab [0] (cY p 0 hp aK) ?_;refine ab [0] ((C f (Nat.le_refl _)).expr d p a p1 hp ah he) ?_;refine eR ?_;refine ae ?_;refine GW.loop (fun x:Nat × List T × RS=>x.1) (fun x fr Γ=>∃ n rows,fr=[.loc 0 0,.v (ii (d:Nat)),.U,.U,.U,.vec 1 n,.U,.U,.U,.U,.U,.U,.U,.U,.U,.U,.U,.U,.U,.U,.U,.U,.U,.U,.U,.U,.U,.U,.U,.U,.U,.U,.U,.U,.U]/\Γ=[ca x.2.2,.vec 94 6 0 rows]/\rows.length=n/\rows=aS x.2.1/\n<=x.2.2.i+1/\x.2.2.ok/\x.1<=f/\th x.1 d x.2.1 x.2.2=some (l,q)) (f,[a],p1) ?_ ?_
   ·exact ⟨_,_,Wk.aD ar,_,_,rfl,rfl,rfl,(by simp only [aS,uS];rfl),(by show 1<=p1.i+1;omega),lC,Nat.le_refl _,h⟩
   ·rintro ⟨g,acc,p⟩ _ _ ⟨n,rows,rfl,rfl,hn,bz,UF,hp,MK,h⟩;simp only at bz UF hp MK h
    cases g with
    | zero=>simp [th] at h
    | succ g =>
    rw [th] at h;have cW:=hp.2;have Dc:=hp.1
    by_cases h2:p.sign 0=[44]
    ·rw [if_pos h2] at h
     have qh:(p.sign 0==[44])=true:=by simp [h2]
     have ao:=(fv h2 aK).1;have dc:=(jc h2 aK).ok hp
     cases hb:mE g (.expr d) p.next with
     | none=>rw [hb] at h;cases h
     | some r =>
      obtain ⟨b,p2⟩:=r;rw [hb] at h;simp only at h;have Rf:=(ue g).1 _ _ _ _ dc hb;have dH:=Rf.ok dc;have rM:p.i+1<=p2.i:=Rf.2.2.2;refine ae ?_;refine ab [0] (cY p 0 hp aK) ?_;refine ab [0] ((C g ah).expr d p.next b p2 dc ah hb) ?_;refine eR ?_;refine ae ?_;exact ⟨(g,acc++[b],p2),⟨_,_,Wk.aD ar,_,_,rfl,rfl,by simp [hn],by rw [xl,bz],by simp only;omega,dH,by simp only;omega,h⟩,by simp⟩
    ·rw [if_neg h2] at h
     have qh:(p.sign 0==[44])=false:=by simpa using h2
     obtain ⟨rfl,rfl⟩:acc=l/\p.aO [41]=q:=by simpa using h
     subst bz;refine ae ?_;refine ab [0] (cY p 0 hp aK) ?_;refine jd ?_;refine ae ?_;refine ab [0] (cX p [41] hp aK) ?_;refine GW.wk (Wk.jy (t:=4) rfl rfl rfl hn) ?_;exact al
theorem NF {f:Nat} (C:Eh f) (d:Nat) (p:RS) (t:T) (q:RS) (hp:p.ok) (hd:d+(f+1)<=4611686018427387904) (h:mE (f+1) (.operand d) p=some (t,q)) :
  GF Tryz.prog 294 [.loc 0 0,.v (ii (d:Nat))] [ca p] (.agg (cT t)) [ca q]:=by
 rw [mE] at h;have kF:=(nX hp d).ok hp;have vX:=ub p d hp;generalize p.deep d=p1 at *
 try simp only at h
 obtain ⟨Dc,cW⟩:=id kF
 by_cases hc:p1.code=0
 ·rw [if_pos hc] at h
  have dq:(p1.code != 0)=false:=by simpa using hc
  cases ht:p1.l[p1.i]? with
  | none =>
   rw [ht] at h;cases h;have ly:p1.l.length<=p1.i:=List.getElem?_eq_none_iff.1 ht
   have Y3:decide (((p1.l.map c7).length:Int)<=(p1.i:Int))=true:=by simp;omega
   refine aj Tryz.func294 Tryz.ntmps294 ?_;refine ab [0] vX ?_;refine aJ (aC 0 17 .nil) ?_;refine bg ?_;refine ab [0] (kL p1 kF) ?_;refine ab [0] (lT p1 7 p1.place) ?_;refine qL ?_;exact ⟨_,jg,rfl,rfl⟩
  | some tk =>
   rw [ht] at h;simp only at h;have ao:p1.i < p1.l.length:=(List.getElem?_eq_some_iff.1 ht).1
   have Y3:decide (((p1.l.map c7).length:Int)<=(p1.i:Int))=false:=by simp;omega
   have hr:=ku ht;have dc:=(dw ao).ok kF;refine aj Tryz.func294 Tryz.ntmps294 ?_;refine ab [0] vX ?_;refine aJ (aC 0 17 .nil) ?_;refine bg ?_;refine aJ (aC 0 10 (.a 10 (.a 11 .nil))) ?_;refine bg ?_
   by_cases k1:tk.kind=1
   ·rw [if_pos k1] at h;cases h
    have k1':(tk.kind==1)=true:=by simpa using k1
    refine ae ?_;refine qL ?_;exact ⟨_,jg,rfl,rfl⟩
   ·rw [if_neg k1] at h
    have k1':(tk.kind==1)=false:=by simpa using k1
    by_cases k2:tk.kind=2
    ·rw [if_pos k2] at h
     have k2':(tk.kind==2)=true:=by simpa using k2
     refine ae ?_;refine ab [0] (xU p1 kF) ?_;refine ab [0] (C.named tk.at_ p1.name.1 d p1.name.2 t q ((qI kF).ok kF) ah h) ?_;exact dm
    ·rw [if_neg k2] at h
     have k2':(tk.kind==2)=false:=by simpa using k2
     by_cases s3:tk.s=[45]\/tk.s=[33]\/tk.s=[126]
     ·rw [if_pos s3] at h
      cases he:mE f (.operand (d+1)) p1.next with
      | none=>rw [he] at h;cases h
      | some r =>
       obtain ⟨a,p2⟩:=r;rw [he] at h;cases h
       have s3':(tk.s==[45])=true\/((tk.s==[45])=false/\(tk.s==[33])=true)\/((tk.s==[45])=false/\(tk.s==[33])=false/\(tk.s==[126])=true):=by
        rcases s3 with s3 | s3 | s3
        ·exact .inl (by simp [s3])
        ·exact .inr (.inl (by simp [s3]))
        ·exact .inr (.inr (by simp [s3]))
       refine ae ?_
       rcases s3' with e1 | ⟨e1,e2⟩ | ⟨e1,e2,e3⟩
       all_goals
        refine ae ?_;refine aJ (aC 0 7 (.a 7 (.a 8 (.a 9 (.a 10 .nil))))) ?_;refine au ?_;refine aE [0] (C.operand (d+1) p1.next a q dc ah he) ?_;refine ey ?_;refine au ?_;refine wJ [] (fT 5 tk.at_ tk.s [a] _ nY) ?_;refine Gu ?_;refine au ?_;exact o7
     ·rw [if_neg s3] at h
      have e1:(tk.s==[45])=false:=by simp at s3;simpa using s3.1
      have e2:(tk.s==[33])=false:=by simp at s3;simpa using s3.2.1
      have e3:(tk.s==[126])=false:=by simp at s3;simpa using s3.2.2
      by_cases s4:tk.s=[40]
      ·rw [if_pos s4] at h
       have s4':(tk.s==[40])=true:=by simp [s4]
       cases he:mE f (.expr (d+1)) p1.next with
       | none=>rw [he] at h;cases h
       | some r =>
        obtain ⟨a,p2⟩:=r;rw [he] at h;cases h;have dH:=((ue f).1 _ _ _ _ dc he).ok dc;refine ae ?_;refine ab [0] (C.expr (d+1) p1.next t p2 dc ah he) ?_;refine ab [0] (cX p2 [41] dH aK) ?_;exact dm
      ·rw [if_neg s4] at h
       have s4':(tk.s==[40])=false:=by simpa using s4
       cases h;refine ae ?_;refine ab [0] (lT p1 7 tk.at_) ?_;refine qL ?_;exact ⟨_,jg,rfl,rfl⟩
 ·rw [if_neg hc] at h
  have dq:(p1.code != 0)=true:=by simpa using hc
  cases h;refine aj Tryz.func294 Tryz.ntmps294 ?_;refine ab [0] vX ?_;refine aJ (aC 0 17 .nil) ?_;refine bg ?_;refine ab [0] (kL p1 kF) ?_;refine ab [0] (lT p1 7 p1.place) ?_;refine qL ?_;exact ⟨_,jg,rfl,rfl⟩
theorem rds (f:Nat):Eh f:=by
  induction f using Nat.strongRecOn with
  | _ f ih =>
   cases f with
   | zero=>exact ⟨fun d p t q _ _ h=>by simp [mE] at h,fun k d p t q _ _ _ h=>by simp [mE] at h,fun d p t q _ _ h=>by simp [mE] at h,fun a s d p t q _ _ h=>by simp [mE] at h,fun d p l q _ _ h=>by simp [mL] at h⟩
   | succ f =>
    have C:=ih f (Nat.lt_succ_self f)
    have Cs:∀ f',f'<=f->Eh f':=fun f' h=>ih f' (Nat.lt_succ_of_le h)
    exact ⟨fun d p t q hp hd h=>TN C d p t q hp hd h,fun k d p t q hp hk hd h=>SI Cs k d p t q hp hk hd h,fun d p t q hp hd h=>NF C d p t q hp hd h,fun a s d p t q hp hd h=>SM C a s d p t q hp hd h,fun d p l q hp hd h=>Vj Cs d p l q hp hd h⟩
end Go.Xg
namespace Go.Xg
open Go.RowKit Go.Xw Go.Proofs
open Go.Xp (Tok Nd T bo one levels gw dL ei du db)
open Go.Sp
attribute [local irreducible] GW GL GO YG GC GA aY ba
structure Lr (f:Nat):Prop where
 block:∀ d p t q,p.ok->d+f<=1099511627776->mS f (.block d) p=some (t,q)->GF Tryz.prog 192 [.loc 0 0,.v (ii (d:Nat))] [ca p] (.agg (cT t)) [ca q]
 stmt:∀ d p t q,p.ok->d+f<=1099511627776->mS f (.stmt d) p=some (t,q)->GF Tryz.prog 226 [.loc 0 0,.v (ii (d:Nat))] [ca p] (.agg (cT t)) [ca q]
 cond:∀ a d p t q,p.ok->p.i < p.l.length->d+f<=1099511627776->mS f (.cond a d) p=some (t,q)->GF Tryz.prog 261 [.loc 0 0,.v (ii a),.v (ii (d:Nat))] [ca p] (.agg (cT t)) [ca q]
theorem xX (d:Nat) (p:RS) (t:T) (q:RS) (hp:p.ok) (hd:d<=1099511627777) (h:mX d p=some (t,q)):GF Tryz.prog 260 [.loc 0 0,.v (ii (d:Nat))] [ca p] (.agg (cT t)) [ca q] :=
 (rds (fe p)).expr d p t q hp (by have:=hp.2;unfold fe;omega) h
theorem J7 (k a:Int) (s:ai):GF Tryz.prog 222 [.v (ii k),.v (ii a),.v (sv s),.v (.slice none 0 0)] [] (.agg [.v (ii k),.v (ii a),.v (ii 0),.v (sv s),ints [],.v (.slice none 0 0)]) []:=by
 refine aj Tryz.func222 Tryz.ntmps222 ?_;refine qL ?_;exact ⟨_,jg,rfl,rfl⟩
theorem RZ {f:Nat} (C:∀ f',f'<=f->Lr f') (d:Nat) (p:RS) (t:T) (q:RS) (hp:p.ok) (hd:d+(f+1)<=1099511627776) (h:mS (f+1) (.block d) p=some (t,q)) :
  GF Tryz.prog 192 [.loc 0 0,.v (ii (d:Nat))] [ca p] (.agg (cT t)) [ca q]:=by
 rw [mS] at h;have kF:=(nX hp d).ok hp;have vX:=ub p d hp;generalize p.deep d=p1 at *
 try simp only at h
 have xL:=(fi kF (s:=[123]) aK).ok kF
 cases he:mB f (d+1) [] (p1.aO [123]) with
 | none=>rw [he] at h;cases h
 | some r =>
  obtain ⟨l,q1⟩:=r;rw [he] at h;cases h;generalize cW:p1.place=pl;refine aj Tryz.func192 Tryz.ntmps192 ?_;refine ab [0] vX ?_;refine ab [0] (kL p1 kF) ?_;refine ab [] (J7 14 p1.place []) ?_;refine ab [0] (cX p1 [123] kF aK) ?_;rw [cW];refine GW.wk (Wk.Kp (i:=2) (o:=5) 94 6 rfl rfl) ?_;refine GW.loop (fun x:Nat × List T × RS=>x.1) (fun x fr Γ=>∃ n rows,fr=[.loc 0 0,.v (ii (d:Nat)),.U,.U,.loc 1 0,.loc 2 0,.U,.U,.U,.U,.U,.U,.U,.U,.U,.U,.U,.U,.U,.U,.U,.U,.U,.U,.U,.U,.U,.U,.U,.U,.U,.U,.U,.U,.U,.U]/\Γ=[ca x.2.2,.box 94 zT,.box 94 [.v (ii 14),.v (ii pl),.v (ii 0),.v (sv []),ints [],.vec 3 n],.vec 94 6 0 rows]/\rows.length=n/\rows=aS x.2.1/\n+x.1<=f/\x.2.2.ok/\mB x.1 (d+1) x.2.1 x.2.2=some (l,q1)) (f,[],p1.aO [123]) ?_ ?_
  ·exact ⟨_,_,Wk.aD ar,0,[],rfl,rfl,rfl,rfl,by simp,xL,he⟩
  ·rintro ⟨g,acc,p⟩ _ _ ⟨n,rows,rfl,rfl,hn,bz,zi,hp,h⟩;simp only at bz zi hp h
   cases g with
   | zero=>simp [mB] at h
   | succ g =>
   rw [mB] at h
   by_cases hc:p.code=0
   ·have dq:(p.code==0)=true:=by simpa using hc
    by_cases hs:p.sign 0=[125]
    ·rw [if_neg (fun hh=>hh.2 hs)] at h
     obtain ⟨rfl,rfl⟩:acc=l/\p=q1:=by simpa using h
     have oc:(!(p.sign 0==[125]))=false:=by simp [hs]
     subst bz;refine ae ?_;refine ab [0] (cY p 0 hp aK) ?_;refine jd ?_;refine ae ?_;refine GL.wk (Wk.yL (i:=2) (o:=5) rfl rfl rfl rfl hn) ?_;refine bT ?_;refine ab [0] (cX p [125] hp aK) ?_;exact dm
    ·rw [if_pos ⟨hc,hs⟩] at h
     have oc:(!(p.sign 0==[125]))=true:=by simpa using hs
     cases hb:mS g (.stmt (d+1)) p with
     | none=>rw [hb] at h;cases h
     | some r =>
      obtain ⟨a,p2⟩:=r;rw [hb] at h;simp only at h;have dH:=((Kh g).1 _ _ _ _ hp (fun a d' h=>by cases h) hb).ok hp;refine ae ?_;refine ab [0] (cY p 0 hp aK) ?_;refine aJ (aC 0 5 (.a 5 (.a 6 (.a 7 (.q 8 (.a 9 .nil)))))) ?_;refine au ?_;refine aE [0] ((C g ah).stmt (d+1) p a p2 hp ah hb) ?_;refine ey ?_;refine au ?_;refine CA ?_;refine bg ?_;exact ⟨(g,acc++[a],p2),⟨_,_,Wk.aD ar,_,_,rfl,rfl,by simp [hn],by rw [xl,bz];rfl,by show n+1+g<=f;omega,dH,h⟩,by simp⟩
   ·have dq:(p.code==0)=false:=by simpa using hc
    rw [if_neg (fun hh=>hc hh.1)] at h
    obtain ⟨rfl,rfl⟩:acc=l/\p=q1:=by simpa using h
    subst bz;refine bH ?_;refine ae ?_;refine GL.wk (Wk.yL (i:=2) (o:=5) rfl rfl rfl rfl hn) ?_;refine bT ?_;refine ab [0] (cX p [125] hp aK) ?_;exact dm
theorem TG {f:Nat} (C:Lr f) (a:Int) (d:Nat) (p:RS) (t:T) (q:RS) (hp:p.ok) (ao:p.i < p.l.length) (hd:d+(f+1)<=1099511627776) (h:mS (f+1) (.cond a d) p=some (t,q)) :
  GF Tryz.prog 261 [.loc 0 0,.v (ii a),.v (ii (d:Nat))] [ca p] (.agg (cT t)) [ca q]:=by
 rw [mS] at h
 try simp only at h
 have dc:=(dw ao).ok hp;have cW:=hp.2;have xL:=(fi dc (s:=[40]) aK).ok dc
 cases he:mX (d+1) (p.next.aO [40]) with
 | none=>rw [he] at h;cases h
 | some r =>
 obtain ⟨e,p1⟩:=r;rw [he] at h;simp only at h;have lC:=(oT xL he).ok xL;have Fi:=(fi lC (s:=[41]) aK).ok lC
 cases hb:mS f (.block (d+1)) (p1.aO [41]) with
 | none=>rw [hb] at h;cases h
 | some r =>
 obtain ⟨b,p2⟩:=r;rw [hb] at h;simp only at h;have dH:=((Kh f).1 _ _ _ _ Fi (fun a d' h=>by cases h) hb).ok Fi;have UL:=dH.2
 have key:∀ k:Int,(if k=9/\p2.sign 0=ei then match mS f (.block (d+1)) p2.next with
     | none=>none
     | some (b2,q)=>some (one k a [] [e,b,b2],q)
    else some (one k a [] [e,b],p2))=some (t,q)->p.ck=k->(k=9\/k=10)->((p.sign 0==[105,102])=true/\k=9)\/((p.sign 0==[105,102])=false/\k=10):=by
  intro k _ hk _;unfold RS.ck at hk;split at hk
  ·rename_i hs;exact .inl ⟨by rw [hs];rfl,hk.symm⟩
  ·rename_i hs;refine .inr ⟨?_,hk.symm⟩
   cases hq:(p.sign 0==[105,102]) with
   | false=>rfl
   | true=>exact absurd (eq_of_beq hq) hs
 have sP:p.ck=9\/p.ck=10:=by unfold RS.ck;split <;> simp
 have key:=key p.ck h rfl sP;generalize p.ck=k at h key;clear sP
 rcases key with ⟨hs,rfl⟩ | ⟨hs,rfl⟩
 ·by_cases eW:p2.sign 0=ei
  ·rw [if_pos ⟨rfl,eW⟩] at h
   have Y1:(p2.sign 0==[101,108,115,101])=true:=by rw [eW];rfl
   have mR:=(fv eW aK).1;have Zj:=(jc eW aK).ok dH
   cases eL:mS f (.block (d+1)) p2.next with
   | none=>rw [eL] at h;cases h
   | some r =>
   obtain ⟨b2,p3⟩:=r;rw [eL] at h;cases h;refine aj Tryz.func261 Tryz.ntmps261 ?_;refine ab [0] (cY p 0 hp aK) ?_;refine ab [0] (cX p.next [40] dc aK) ?_;refine ab [0] (xX (d+1) _ e p1 xL ah he) ?_;refine ab [0] (cX p1 [41] lC aK) ?_;refine aJ (aC 0 4 (.a 4 (.a 5 (.q 6 .nil)))) ?_;refine au ?_;refine aE [0] (C.block (d+1) _ b p2 Fi ah hb) ?_;refine CB ?_;refine bg ?_;refine ab [0] (cY p2 0 dH aK) ?_;refine gQ [0] (C.block (d+1) _ b2 q Zj ah eL) ?_;refine eR ?_;refine ae ?_;refine GL.wk (Wk.jy (t:=57) rfl rfl rfl rfl) ?_;refine bT ?_;refine ab [] (fT 9 a [] [e,b,b2] _ nY) ?_;exact dm
  ·rw [if_neg (fun hh=>eW hh.2)] at h
   have Y1:(p2.sign 0==[101,108,115,101])=false:=by
    cases hq:(p2.sign 0==[101,108,115,101]) with
    | false=>rfl
    | true=>exact absurd (eq_of_beq hq) eW
   cases h;refine aj Tryz.func261 Tryz.ntmps261 ?_;refine ab [0] (cY p 0 hp aK) ?_;refine ab [0] (cX p.next [40] dc aK) ?_;refine ab [0] (xX (d+1) _ e p1 xL ah he) ?_;refine ab [0] (cX p1 [41] lC aK) ?_;refine aJ (aC 0 4 (.a 4 (.a 5 (.q 6 .nil)))) ?_;refine au ?_;refine aE [0] (C.block (d+1) _ b q Fi ah hb) ?_;refine CB ?_;refine bg ?_;refine ab [0] (cY q 0 dH aK) ?_;refine GL.wk (Wk.jy (t:=57) rfl rfl rfl rfl) ?_;refine bT ?_;refine ab [] (fT 9 a [] [e,b] _ nY) ?_;exact dm
 ·rw [if_neg (fun hh=>by cases hh.1)] at h;cases h;refine aj Tryz.func261 Tryz.ntmps261 ?_;refine ab [0] (cY p 0 hp aK) ?_;refine ab [0] (cX p.next [40] dc aK) ?_;refine ab [0] (xX (d+1) _ e p1 xL ah he) ?_;refine ab [0] (cX p1 [41] lC aK) ?_;refine aJ (aC 0 4 (.a 4 (.a 5 (.q 6 .nil)))) ?_;refine au ?_;refine aE [0] (C.block (d+1) _ b q Fi ah hb) ?_;refine CB ?_;refine bg ?_;refine GL.wk (Wk.jy (t:=57) rfl rfl rfl rfl) ?_;refine bT ?_;refine ab [] (fT 10 a [] [e,b] _ nY) ?_;exact dm
theorem uN {s t:ai} (h:¬ s=t):(s==t)=false:=by
 cases hq:(s==t) with
 | false=>rfl
 | true=>exact absurd (eq_of_beq hq) h
theorem VL {f:Nat} (C:Lr f) (d:Nat) (p:RS) (t:T) (q:RS) (hp:p.ok) (hd:d+(f+1)<=1099511627776) (h:mS (f+1) (.stmt d) p=some (t,q)) :
  GF Tryz.prog 226 [.loc 0 0,.v (ii (d:Nat))] [ca p] (.agg (cT t)) [ca q]:=by
 rw [mS] at h;have kF:=(nX hp d).ok hp;have vX:=ub p d hp;generalize p.deep d=p1 at *
 try simp only at h
 obtain ⟨Dc,cW⟩:=id kF;generalize wT:p1.place=at_ at h;refine aj Tryz.func226 Tryz.ntmps226 ?_;refine ab [0] vX ?_;refine ab [0] (kL p1 kF) ?_;refine gQ [0] (cY p1 0 kF aK) ?_;rw [wT]
 by_cases h1:p1.sign 0=gw
 ·rw [if_pos h1] at h
  have e1:(p1.sign 0==[118,97,114])=true:=by rw [h1];rfl
  have ao:=(fv h1 aK).1;have hn:=(jc h1 aK).ok kF;have eN:=(qI hn).ok hn;have jS:=(fi eN (s:=[61]) aK).ok eN
  cases he:mX (d+1) (p1.next.name.2.aO [61]) with
  | none=>rw [he] at h;cases h
  | some r =>
  obtain ⟨e,p2⟩:=r;rw [he] at h;cases h;have dH:=(oT jS he).ok jS;refine ae ?_;refine ab [0] (xU p1.next hn) ?_;refine ab [0] (cX _ [61] eN aK) ?_;refine ab [0] (xX (d+1) _ e p2 jS ah he) ?_;refine ab [0] (cX p2 [59] dH aK) ?_;refine bS ?_;refine ae ?_;refine ab [] (fT 13 at_ p1.next.name.1 [e] _ nY) ?_;exact dm
 rw [if_neg h1] at h;have e1:(p1.sign 0==[118,97,114])=false:=uN h1
 by_cases h2:p1.sign 0=dL\/p1.sign 0=du
 ·rw [if_pos h2] at h
  have e2:(p1.sign 0==[105,102])=true\/((p1.sign 0==[105,102])=false/\(p1.sign 0==[119,104,105,108,101])=true):=by
   rcases h2 with h2 | h2
   ·exact .inl (by rw [h2];rfl)
   ·exact .inr ⟨by rw [h2];rfl,by rw [h2];rfl⟩
  have ao:p1.i < p1.l.length:=by
   rcases h2 with h2 | h2
   ·exact (fv h2 aK).1
   ·exact (fv h2 aK).1
  rcases e2 with e2 | ⟨e2,e3⟩
  all_goals
   refine ae ?_;refine ab [0] (C.cond at_ d p1 t q kF ao ah h) ?_;exact dm
 rw [if_neg h2] at h
 have e2:(p1.sign 0==[105,102])=false:=uN fun hh=>h2 (.inl hh)
 have e3:(p1.sign 0==[119,104,105,108,101])=false:=uN fun hh=>h2 (.inr hh)
 by_cases h4:p1.sign 0=db
 ·rw [if_pos h4] at h
  have e4:(p1.sign 0==[114,101,116,117,114,110])=true:=by rw [h4];rfl
  have ao:=(fv h4 aK).1;have hn:=(jc h4 aK).ok kF
  cases he:mX (d+1) p1.next with
  | none=>rw [he] at h;cases h
  | some r =>
  obtain ⟨e,p2⟩:=r;rw [he] at h;cases h;have dH:=(oT hn he).ok hn;refine ae ?_;refine ab [0] (xX (d+1) _ e p2 hn ah he) ?_;refine ab [0] (cX p2 [59] dH aK) ?_;refine bS ?_;refine ae ?_;refine ab [] (fT 11 at_ [] [e] _ nY) ?_;exact dm
 rw [if_neg h4] at h;have e4:(p1.sign 0==[114,101,116,117,114,110])=false:=uN h4
 by_cases h5:p1.code=0/\p1.nD=true/\p1.sign 1=[61]
 ·rw [if_pos h5] at h;obtain ⟨hc,Fh,gz⟩:=h5
  have dq:(p1.code==0)=true:=by simpa using hc
  have aaA:(p1.sign 1==[61])=true:=by rw [gz];rfl
  unfold RS.nD at Fh
  cases ht:p1.l[p1.i]? with
  | none=>rw [ht] at Fh;cases Fh
  | some tk =>
  rw [ht] at Fh
  have hk:(tk.kind==2)=true:=by simpa using Fh
  have ao:=(List.getElem?_eq_some_iff.1 ht).1
  have Pj:decide ((p1.i:Int) < ((p1.l.map c7).length:Int))=true:=by simpa using ao
  have hr:=ku ht;have eN:=(qI kF).ok kF;have jS:=(fi eN (s:=[61]) aK).ok eN
  cases he:mX (d+1) (p1.name.2.aO [61]) with
  | none=>rw [he] at h;cases h
  | some r =>
  obtain ⟨e,p2⟩:=r;rw [he] at h;cases h;have dH:=(oT jS he).ok jS;refine ae ?_;refine aJ (aC 0 33 (.a 33 (.q 34 (.q 35 .nil)))) ?_;refine au ?_;refine bC [0] (cY p1 1 kF aK) ?_;refine ae ?_;refine ab [0] (xU p1 kF) ?_;refine ab [0] (cX _ [61] eN aK) ?_;refine ab [0] (xX (d+1) _ e p2 jS ah he) ?_;refine ab [0] (cX p2 [59] dH aK) ?_;refine bS ?_;refine ae ?_;refine ab [] (fT 7 at_ p1.name.1 [e] _ nY) ?_;exact dm
 rw [if_neg h5] at h
 cases he:mX (d+1) p1 with
 | none=>rw [he] at h;cases h
 | some r =>
 obtain ⟨e,p2⟩:=r;rw [he] at h;simp only at h;have dH:=(oT kF he).ok kF;have UL:=dH.2
 have Fs:(p1.code==0)=false\/((p1.code==0)=true/\p1.l.length<=p1.i)\/((p1.code==0)=true/\∃ tk,p1.l[p1.i]?=some tk/\((tk.kind==2)=false\/((tk.kind==2)=true/\(p1.sign 1==[61])=false))):=by
  by_cases hc:p1.code=0
  ·refine .inr ?_
   have dq:(p1.code==0)=true:=by simpa using hc
   cases ht:p1.l[p1.i]? with
   | none=>exact .inl ⟨dq,List.getElem?_eq_none_iff.1 ht⟩
   | some tk =>
    refine .inr ⟨dq,tk,rfl,?_⟩
    by_cases hk:tk.kind=2
    ·refine .inr ⟨by simpa using hk,uN fun h61=>h5 ⟨hc,?_,h61⟩⟩;unfold RS.nD;rw [ht];simpa using hk
    ·exact .inl (by simpa using hk)
  ·exact .inl (by simpa using hc)
 refine ae ?_;refine GW.join (fun fr Γ=>fr=[.loc 0 0,.v (ii (d:Nat)),.U,.U,.loc 1 0,.v (ii at_),.U,.U,.U,.U,.U,.U,.U,.U,.U,.U,.U,.U,.U,.U,.U,.U,.U,.U,.U,.U,.U,.U,.U,.U,.U,.U,.U,.U,.U,.U,.U,.U,.U,.U,.U,.U,.U,.U,.U,.U,.U,.U,.U,.U,.U,.U,.U,.U,.U,.U,.U,.U,.U,.U,.U,.U,.U,.U,.U,.U,.U,.U,.U,.U,.U,.U,.U,.U,.U,.U,.U,.U,.U,.U,.U,.U,.U,.U,.U,.U,.U,.U,.U,.U,.U,.U,.U,.U,.U,.U,.U,.U,.U,.U,.U,.U,.U,.U,.U,.v (.bool false),.U,.U,.U,.U,.U,.U,.U,.U,.U,.U,.U,.U,.U,.U,.U,.U,.U,.U,.U,.U,.U,.U,.U,.U,.U,.U,.U,.U,.U,.U,.U,.U,.U,.U,.U,.U,.U,.U,.U,.U,.U,.U,.U,.U,.U,.U,.U,.U,.U,.U,.U,.U,.U,.U,.U,.U,.U,.U,.U,.U,.U,.U,.U,.U,.U]/\Γ=[ca p1,.box 94 zT]) ?_ ?_
 ·rcases Fs with dq | ⟨dq,ly⟩ | ⟨dq,tk,ht,hk | ⟨hk,gz⟩⟩
  ·refine aJ (aC 0 33 (.a 33 (.q 34 (.q 35 .nil)))) ?_;refine au ?_;exact be ⟨_,_,Wk.aD ar,rfl,rfl⟩
  ·have Pj:decide ((p1.i:Int) < ((p1.l.map c7).length:Int))=false:=by simpa using ly
   refine aJ (aC 0 33 (.a 33 (.q 34 (.q 35 .nil)))) ?_;refine au ?_;exact be ⟨_,_,Wk.aD ar,rfl,rfl⟩
  ·have ao:=(List.getElem?_eq_some_iff.1 ht).1
   have Pj:decide ((p1.i:Int) < ((p1.l.map c7).length:Int))=true:=by simpa using ao
   have hr:=ku ht;refine aJ (aC 0 33 (.a 33 (.q 34 (.q 35 .nil)))) ?_;refine au ?_;exact be ⟨_,_,Wk.aD ar,rfl,rfl⟩
  ·have ao:=(List.getElem?_eq_some_iff.1 ht).1
   have Pj:decide ((p1.i:Int) < ((p1.l.map c7).length:Int))=true:=by simpa using ao
   have hr:=ku ht;refine aJ (aC 0 33 (.a 33 (.q 34 (.q 35 .nil)))) ?_;refine au ?_;refine bC [0] (cY p1 1 kF aK) ?_;exact be ⟨_,_,Wk.aD (by repeat (first | exact sB.nil | refine sB.U ?_ | refine sB.eq rfl ?_ | refine sB.eq (by rw [gz]) ?_)),rfl,rfl⟩
 ·rintro _ _ ⟨rfl,rfl⟩;refine ae ?_;refine ab [0] (xX (d+1) _ e p2 kF ah he) ?_
  by_cases k3:e.n.kind=3
  ·have k3':(e.n.kind==3)=true:=by simpa using k3
   by_cases ka:e.n.at_=at_
   ·have ka':(e.n.at_==at_)=true:=by simpa using ka
    by_cases ks:p2.sign 0=[61]
    ·have ks':(p2.sign 0==[61])=true:=by rw [ks];rfl
     rw [if_pos ⟨k3,ka,ks⟩] at h;have ao:=(fv ks aK).1;have hn:=(jc ks aK).ok dH
     cases hk:e.kids with
     | nil=>rw [hk] at h;cases h
     | cons a rest =>
     cases hv:mX (d+1) p2.next with
     | none=>rw [hk,hv] at h;cases h
     | some r =>
     obtain ⟨v,p3⟩:=r;rw [hk,hv] at h;cases h;have zk:=(oT hn hv).ok hn
     have hr:(aS (a::rest))[0]?=some (cT a):=by simp [aS,uS]
     refine ae ?_;refine ab [0] (cY p2 0 dH aK) ?_;refine ab [0] (xX (d+1) _ v p3 hn ah hv) ?_;refine ab [0] (cX p3 [59] zk aK) ?_;refine aJ (aC 0 9 (.a 9 (.a 10 (.a 11 .nil)))) ?_;refine au ?_;refine ey ?_;refine au ?_;refine wJ [] (fT 8 at_ e.n.s [a,v] _ nY) ?_;refine Gu ?_;refine au ?_;exact o7
    ·have ks':(p2.sign 0==[61])=false:=uN ks;rw [if_neg (fun hh=>ks hh.2.2)] at h;cases h;refine ae ?_;refine ab [0] (cY p2 0 dH aK) ?_;refine ab [0] (cX p2 [59] dH aK) ?_;refine bS ?_;refine ae ?_;refine ab [] (fT 12 at_ [] [e] _ nY) ?_;exact dm
   ·have ka':(e.n.at_==at_)=false:=by simpa using ka
    rw [if_neg (fun hh=>ka hh.2.1)] at h;cases h;refine ae ?_;refine ab [0] (cX p2 [59] dH aK) ?_;refine bS ?_;refine ae ?_;refine ab [] (fT 12 at_ [] [e] _ nY) ?_;exact dm
  ·have k3':(e.n.kind==3)=false:=by simpa using k3
   rw [if_neg (fun hh=>k3 hh.1)] at h;cases h;refine ae ?_;refine ab [0] (cX p2 [59] dH aK) ?_;refine bS ?_;refine ae ?_;refine ab [] (fT 12 at_ [] [e] _ nY) ?_;exact dm
theorem sds (f:Nat):Lr f:=by
 induction f using Nat.strongRecOn with
 | _ f ih =>
  cases f with
  | zero=>exact ⟨fun d p t q _ _ h=>by simp [mS] at h,fun d p t q _ _ h=>by simp [mS] at h,fun a d p t q _ _ _ h=>by simp [mS] at h⟩
  | succ f =>
   have C:=ih f (Nat.lt_succ_self f)
   have Cs:∀ f',f'<=f->Lr f':=fun f' h=>ih f' (Nat.lt_succ_of_le h)
   exact ⟨fun d p t q hp hd h=>RZ Cs d p t q hp hd h,fun d p t q hp hd h=>VL C d p t q hp hd h,fun a d p t q hp hl hd h=>TG C a d p t q hp hl hd h⟩
end Go.Xg
namespace Go.Xg
open Go.RowKit Go.Xw Go.Proofs
open Go.Xp (Tok Nd T bo one levels Ar)
open Go.Sp
attribute [local irreducible] GW GL GO YG GC GA aY ba
def az (n:Nd):List GV:=[.v (ii n.kind),.v (ii n.at_),.v (ii n.n),.v (sv n.s),ints n.kids]
def ax (f:Go.Sp.Fn):List GV:=[.v (sv f.name),strs f.params,.v (ii f.body)]
def aH (a:Ar):List GV:=[.v (sv a.name),.v (ii a.size)]
abbrev ay (p:Src):List GV:=[strs p.globals,.sl 2 (p.arrays.map aH),.sl 3 (p.fns.map ax),.sl 5 (p.nodes.map az)]
theorem G9 (k:Int):GF Tryz.prog 275 [.v (ii k)] [] (.v (.bool (mA k))) []:=by
 unfold mA;refine df Tryz.func275 Tryz.ntmps275 ?_
 cases h:decide ((1:Int)<=k)
 all_goals
  exact aw
theorem Ha (k:Int):GF Tryz.prog 251 [.v (ii k)] [] (.v (.bool (gi k))) []:=by
 unfold gi;refine df Tryz.func251 Tryz.ntmps251 ?_
 cases h:decide ((7:Int)<=k)
 all_goals
  exact aw
theorem td (s:ai):GF Tryz.prog 250 [.v (sv s)] [] (.v (.bool (eA s))) []:=by
 refine aj Tryz.func250 Tryz.ntmps250 ?_;refine ab [] jF ?_;refine GW.range (levels.map fun l=>[strs l]).length (fun k fr Γ=>fr=[.v (sv s),.U,.U,.U,.U,.sl 1 (levels.map fun l=>[strs l]),.v (ii ((levels.map fun l=>[strs l]).length:Int)),.v (ii (k:Nat)),.U,.U,.U,.U,.U,.U,.U]/\Γ=[]/\((levels.take k).any fun l=>l.contains s)=false) ?_ aK ?_ ?_ ?_
 ·exact iF
 ·exact fE
 ·rintro k _ _ hk ⟨rfl,rfl,hf⟩
  have hk:k < levels.length:=by simpa using hk
  have hx:levels[k]?=some levels[k]:=by simp [hk]
  have hr:(levels.map fun l=>[strs l])[k]?=some [strs levels[k]]:=by simp [hk]
  have wY:levels[k].length<=1099511627776:=by
   have:∀ l∈levels,l.length<=1099511627776:=by decide
   exact this _ (getElem_mem hk)
  generalize levels[k]=x at *;have hh:=jk x s wY
  cases hb:x.contains s with
  | true =>
   rw [hb] at hh
   have ha:eA s=true:=by
    unfold eA;rw [List.any_eq_true];exact ⟨x,mem_of_getElem? hx,hb⟩
   refine ae ?_;refine ab [] hh ?_;refine bU ?_;rw [ha];exact ⟨rfl,rfl⟩
  | false =>
   rw [hb] at hh;refine ae ?_;refine ab [] hh ?_;exact ⟨rfl,rfl,_,_,Wk.aD ar,rfl,rfl,by rw [take_add_one,hx,List.any_append,hf];simp only [Option.toList,List.any_cons,List.any_nil,hb];rfl⟩
 ·rintro _ _ ⟨rfl,rfl,hf⟩
  have hf:eA s=false:=by
   rw [take_of_length_le (by simp)] at hf;exact hf
  refine ae ?_;refine bU ?_;rw [hf];exact ⟨rfl,rfl⟩
theorem cS {l:List T} {i:Nat} {t:T} (h:l[i]?=some t):(aS l)[i]?=some (cT t):=by
 induction l generalizing i with
 | nil=>simp at h
 | cons a l ih =>
  cases i with
  | zero=>cases h;simp [aS,uS]
  | succ i=>simpa [aS] using ih (by simpa using h)
theorem eY (t:T) (m:Nat) (hl:t.kids.length<=1099511627776):GF Tryz.prog 249 [.agg (cT t),.v (ii (m:Nat))] [] (.v (.bool (bp m 0 t.kids))) []:=by
 refine aj Tryz.func249 Tryz.ntmps249 ?_;refine GW.range (aS t.kids).length (fun k fr Γ=>fr=[.U,.v (ii (m:Nat)),.U,.U,.U,.U,.U,.U,.sl 6 (aS t.kids),.v (ii ((aS t.kids).length:Int)),.v (ii (k:Nat)),.U,.U,.U,.U,.U,.U,.U,.U,.U,.U,.U,.U,.U,.U,.U,.U,.U,.U,.U,.U,.U,.U,.U,.U,.U,.U]/\Γ=[]/\bp m k (t.kids.drop k)=bp m 0 t.kids) ?_ (by rw [aU];exact hl) ?_ ?_ ?_
 ·exact ⟨_,_,(Wk.cut (n:=0) (Nat.le_refl _) rfl).trans (Wk.aD ar),rfl,rfl,rfl⟩
 ·exact fE
 ·rintro k _ _ hk ⟨rfl,rfl,hf⟩
  have hk:k < t.kids.length:=by rw [aU] at hk;exact hk
  have hx:t.kids[k]?=some t.kids[k]:=by simp [hk]
  have hr:=cS hx;rw [List.drop_eq_getElem_cons hk,bp] at hf;generalize t.kids[k]=x at *;have he:=G9 x.n.kind
  by_cases hm:k < m
  ·have hm1:decide ((k:Int) < (m:Int))=true:=by simpa using hm
   have Fb:decide ((m:Int)<=(k:Int))=false:=by simpa using hm
   rw [if_pos hm] at hf
   cases hb:mA x.n.kind with
   | true =>
    rw [hb] at he hf;refine ae ?_;refine ab [] he ?_;exact ⟨rfl,rfl,_,_,(Wk.cut (n:=0) (Nat.le_refl _) rfl).trans (Wk.aD ar),rfl,rfl,by simpa using hf⟩
   | false =>
    rw [hb] at he hf;refine ae ?_;refine ab [] he ?_;refine bU ?_;rw [<-hf];exact ⟨rfl,rfl⟩
  ·have hm1:decide ((k:Int) < (m:Int))=false:=by simp;omega
   have Fb:decide ((m:Int)<=(k:Int))=true:=by simp;omega
   rw [if_neg hm] at hf
   cases hb:(x.n.kind==14) with
   | true =>
    rw [hb] at hf
    have bt:(x.n.kind != 14)=false:=by simp only [bne,hb];rfl
    refine ae ?_;exact ⟨rfl,rfl,_,_,(Wk.cut (n:=0) (Nat.le_refl _) rfl).trans (Wk.aD ar),rfl,rfl,by simpa using hf⟩
   | false =>
    rw [hb] at hf
    have bt:(x.n.kind != 14)=true:=by simp only [bne,hb];rfl
    refine ae ?_;refine bU ?_;rw [<-hf];exact ⟨rfl,rfl⟩
 ·rintro _ _ ⟨rfl,rfl,hf⟩;rw [aU,List.drop_length,bp] at hf;refine ae ?_;refine bU ?_;rw [<-hf];exact ⟨rfl,rfl⟩
theorem jZ {l:List Nd} {i:Nat} {n:Nd} (h:l[i]?=some n):(l.map az)[i]?=some (az n):=by rw [getElem?_map,h];rfl
theorem nV {l:List Int} {i:Nat} {n:Int} (h:l[i]?=some n):(l.map fun i=>[GV.v (ii i)])[i]?=some [.v (ii n)]:=by rw [getElem?_map,h];rfl
theorem D4 (p:Src) (hk:∀ n∈p.nodes,n.kids.length<=1000000000000):∀ (f a:Nat) (t:T),sub p.nodes f a=some t->GF Tryz.prog 99 [.agg (ay p),.v (ii (a:Nat))] [] (.agg (cT t)) []:=by
 intro f
 induction f using Nat.strongRecOn with
 | _ f ih =>
 intro a t h
 cases f with
 | zero=>simp [sub] at h
 | succ f =>
 rw [sub] at h
 cases hn:p.nodes[a]? with
 | none=>rw [hn] at h;cases h
 | some n =>
 rw [hn] at h;simp only at h
 cases hs:ou p.nodes f n.kids [] with
 | none=>rw [hs] at h;cases h
 | some l =>
 rw [hs] at h;cases h;have hr:=jZ hn;have eX:=hk n (mem_of_getElem? hn);refine aj Tryz.func99 Tryz.ntmps99 ?_;refine GW.wk (Wk.Kp (i:=2) (o:=5) 94 6 rfl rfl) ?_
 refine GW.range (n.kids.map fun i=>[GV.v (ii i)]).length (fun k fr Γ=>∃ rows acc g,fr=[.U,.v (ii (a:Nat)),.loc 0 0,.U,.loc 1 0,.loc 2 0,.U,.U,.U,.U,.U,.U,.U,.U,.U,.U,.U,.U,.U,ints n.kids,.v (ii ((n.kids.map fun i=>[GV.v (ii i)]).length:Int)),.v (ii (k:Nat)),.U,.U,.U,.U,.U,.U,.U,.U,.U,.U,.U,.U,.U] /\
   Γ=[.box 34 (ay p),.box 94 zT,.box 94 [.v (ii n.kind),.v (ii n.at_),.v (ii n.n),.v (sv n.s),ints n.kids,.vec 3 k],.vec 94 6 0 rows] /\
   rows.length=k/\rows=aS acc/\g<=f/\ou p.nodes g (n.kids.drop k) acc=some l) ?_ (by simp;omega) ?_ ?_ ?_
 ·exact ⟨_,_,Wk.aD ar,[],[],f,rfl,rfl,rfl,rfl,Nat.le_refl _,hs⟩
 ·rintro k _ _ ⟨_,_,_,rfl,rfl,_⟩;exact dO
 ·rintro k _ _ ao ⟨rows,acc,g,rfl,rfl,vb,bz,hg,h⟩
  have ao:k < n.kids.length:=by simpa using ao
  have hx:n.kids[k]?=some n.kids[k]:=by simp [ao]
  rw [List.drop_eq_getElem_cons ao] at h;generalize n.kids[k]=x at *
  cases g with
  | zero=>simp [ou] at h
  | succ g =>
  rw [ou] at h
  by_cases ph:x < 0
  ·rw [if_pos ph] at h;cases h
  rw [if_neg ph] at h
  cases b7:sub p.nodes g x.toNat with
  | none=>rw [b7] at h;cases h
  | some t =>
  rw [b7] at h;simp only at h;have yA:=ih g ah x.toNat t b7;rw [Int.toNat_of_nonneg ah] at yA;have tW:=nV hx;refine ae ?_;refine aJ (aC 0 4 (.a 4 (.a 5 (.a 6 (.q 7 (.a 8 .nil)))))) ?_;refine au ?_;refine aE [] yA ?_;refine ey ?_;refine au ?_;refine CA ?_;refine bg ?_;exact ⟨rfl,rfl,_,_,Wk.aD ar,_,acc++[t],g,rfl,rfl,by rw [length_append,vb];rfl,by rw [xl,bz];rfl,by omega,h⟩
 ·rintro _ _ ⟨rows,acc,g,rfl,rfl,vb,bz,hg,h⟩;rw [length_map,List.drop_length] at h
  have la:acc=l:=by cases g <;> (rw [ou] at h;cases h;rfl)
  subst la;subst bz;refine be (GW.wk (Wk.yL (i:=2) (o:=5) rfl rfl rfl rfl vb) ?_);exact o7
end Go.Xg
namespace Go.Xg
open Go.RowKit Go.Xw Go.Proofs
open Go.WideShapes Go.Deep
open Go.Xp (Nd Ar)
open Go.Sp (Src)
open Go.Im (Small xe)
def flat (v:Value):Prop:=∀ a n c,v≠.slice a n c
def vJ (W:World) (v:Value) (xs:List Value):Prop:=∃ a c,v=.slice a xs.length c/\(xs=[]\/∃ b o,a=some ⟨b,o,none⟩/\xs.length<=c/\∀ i x,xs[i]?=some x->fG W.heap b (o+i)=some x/\flat x)
theorem vJ.uniq {W:World} {v:Value} {xs ys:List Value} (h:vJ W v xs) (k:vJ W v ys):xs=ys:=by
 obtain ⟨a,c,h1,h2⟩:=h;obtain ⟨a',c',k1,k2⟩:=k;rw [h1] at k1
 injection k1 with e1 e2 e3
 subst e1 e3
 rcases h2 with rfl | ⟨b,o,h3,h4,h5⟩
 ·exact (eq_nil_of_length_eq_zero (by simpa using e2.symm)).symm
 ·rcases k2 with rfl | ⟨b',o',k3,k4,k5⟩
  ·exact eq_nil_of_length_eq_zero (by simpa using e2)
  ·rw [h3] at k3;cases k3;apply ext_getElem e2;intro i hi hj;have a1:=(h5 i _ (getElem?_eq_getElem hi)).1;have a2:=(k5 i _ (getElem?_eq_getElem hj)).1;rw [a1] at a2;exact Option.some.inj a2
open Classical in
noncomputable def KW (W:World):Fz:=fun b o=>match fG W.heap b o with
 | none=>none
 | some v=>if ∃ a n c,v=.slice a n c then (if h:∃ xs,vJ W v xs then some (.sl 1 (h.choose.map fun x=>[.v x])) else none) else some (.v v)
theorem lu {W:World} {b o:Nat} {v:Value} (h:fG W.heap b o=some v) (hf:flat v):KW W b o=some (.v v):=by
 unfold KW;rw [h];simp only;rw [if_neg (by rintro ⟨a,n,c,e⟩;exact hf a n c e)]
theorem QE {W:World} {b o:Nat} {v:Value} {xs:List Value} (h:fG W.heap b o=some v) (hx:vJ W v xs):KW W b o=some (.sl 1 (xs.map fun x=>[.v x])):=by
 have hs:∃ a n c,v=.slice a n c:=by obtain ⟨a,c,e,_⟩:=hx;exact ⟨_,_,_,e⟩
 have hex:∃ xs,vJ W v xs:=⟨xs,hx⟩;unfold KW;rw [h];simp only;rw [if_pos hs,dif_pos hex,hex.choose_spec.uniq hx]
theorem NN {W:World} {v:Value} {xs:List Value} (hx:vJ W v xs) (β:Bt):Rel (KW W) β v (.sl 1 (xs.map fun x=>[GV.v x])):=by
 obtain ⟨a,c,rfl,h⟩:=hx
 rcases h with rfl | ⟨b,o,rfl,hc,ln⟩
 ·exact .sl0 a c 1
 ·have:=Rel.sl (K:=KW W) (β:=β) b o c 1 (xs.map fun x=>[GV.v x]) (fun i r hr=>by
   rw [getElem?_map] at hr
   cases hi:xs[i]? with
   | none=>rw [hi] at hr;cases hr
   | some x =>
    rw [hi] at hr;cases hr;obtain ⟨h1,h2⟩:=ln i x hi;refine ⟨rfl,fun j g hg=>?_⟩
    cases j with
    | zero=>cases hg;rw [Nat.mul_one,Nat.add_zero];exact lu h1 h2
    | succ j=>simp at hg) (by rw [length_map];exact hc)
  rw [length_map] at this;exact this
theorem V5 (W:World):ir (KW W) W:=fun b o g h=>by
 unfold KW at h
 cases hc:fG W.heap b o with
 | none=>rw [hc] at h;cases h
 | some v =>
  rw [hc] at h;simp only at h;split at h
  ·split at h
   ·rename_i hex;cases h;exact ⟨rfl,v,rfl,NN hex.choose_spec _⟩
   ·cases h
  ·cases h;exact ⟨rfl,v,rfl,.v v⟩
theorem P4 {W:World} {v:Value} {k:Nat} {rows:List (List GV)} {a:Option Addr} {n c:Nat} (β:Bt) (hv:v=.slice a n c) (hn:rows.length=n)
  (h:n=0\/∃ b o,a=some ⟨b,o,none⟩/\n<=c/\∀ i r,rows[i]?=some r->r.length=k/\∀ j g,r[j]?=some g->KW W b (o+i * k+j)=some g):Rel (KW W) β v (.sl k rows):=by
 subst hv hn
 rcases h with h | ⟨b,o,rfl,hc,hr⟩
 ·have:=eq_nil_of_length_eq_zero h;subst this;exact .sl0 a c k
 ·exact .sl b o c k rows hr hc
theorem zD {W:World} {a:Addr} {n:Nat} {v:Value} (h:W.cell? (a.add n)=some v):fG W.heap a.block (a.off+n)=some v:=by
 unfold Addr.add at h;split at h
 ·rename_i h0;subst h0;obtain ⟨b,o,s⟩:=a;have hs:=World.cell?_spot h;simp only at hs;subst hs;rw [fb] at h;exact h
 ·obtain ⟨b,o,s⟩:=a;simp only at h;rw [fb] at h;exact h
theorem zC {W:World} {a:Addr} {v:Value} (h:W.cell? (a.add 0)=some v):a.spot=none:=by
 have:=World.cell?_spot h;unfold Addr.add at this;rw [if_pos rfl] at this;exact this
theorem qQ {α:Type} {Q:Nat->α->Prop}:∀ {n:Nat},(∀ i,i < n->∃ x,Q i x)->∃ l:List α,l.length=n/\∀ i x,l[i]?=some x->Q i x
 | 0,_=>⟨[],rfl,fun i x h=>by simp at h⟩
 | n+1,h=>by
  obtain ⟨l,h1,h2⟩:=qQ (n:=n) fun i hi=>h i ah
  obtain ⟨x,hx⟩:=h n ah;refine ⟨l++[x],by simp [h1],fun i y hi=>?_⟩
  by_cases u9:i < n
  ·rw [getElem?_append_left ah] at hi;exact h2 i y hi
  ·have ao:=(List.getElem?_eq_some_iff.1 hi).1;rw [length_append,length_cons,length_nil] at ao
   have:i=n:=by omega
   subst this;rw [getElem?_append_right ah,h1,Nat.sub_self] at hi
   cases hi;exact hx
theorem max_le {n:Nat} (h:n<=maxLen):n<=9223372036854775807:=by unfold maxLen at h;omega
section
variable {H:Type} {enc:TypeId × Value->H} {P:Program} {W:World}
theorem FT {t e:TypeId} {n:Nat} {v:Value} {y:DataW H × List MemPlace} (ht:P.underlying t=some (.slice e)) (he:P.underlying e=some .string) (hc:P.cellsOf e=1) (h:DataW.trod enc P W 0 (fun _=>true) true n t [v]=some y) :
  ∃ l:List ai,vJ W v (l.map sv)/\l.length<=9223372036854775807/\∀ s∈l,s.length<=9223372036854775807:=by
 rcases open_slice1 ht hc h with ⟨eM,_⟩ | ⟨a,len,cap,m,n',V,D,Pl,eM,_,hl,hm,rh,_,hx⟩
 ·injection eM with hv;subst hv
  exact ⟨[],⟨none,0,rfl,.inl rfl⟩,Nat.zero_le _,fun s h=>by cases h⟩
 ·injection eM with hv _;subst hv
  simp only [if_true] at rh
  obtain ⟨l,h1,h2⟩:=qQ (n:=len) (Q:=fun i (s:ai)=>W.cell? (a.add i)=some (sv s)/\s.length<=9223372036854775807) (fun i hi=>by
   obtain ⟨c1,c2⟩:=hx i ah;obtain ⟨s,hs,_,hz⟩:=DataW.trod_string he c2
   injection hs with hs _
   rw [hs] at c1
   exact ⟨s.data.toList,by rw [<-D5];exact c1,max_le hz⟩)
  refine ⟨l,⟨some a,cap,by rw [length_map,h1],?_⟩,by rw [h1];exact max_le (Nat.le_trans hl hm),fun s hs=>?_⟩
  ·by_cases h0:len=0
   ·have:l=[]:=eq_nil_of_length_eq_zero ah;subst this;exact .inl rfl
   ·refine .inr ⟨a.block,a.off,?_,by rw [length_map,h1];exact hl,fun i x hi=>?_⟩
    ·have sS:l[0]?=some (l[0]'ah):=getElem?_eq_getElem _;have:=zC (h2 0 _ sS).1;obtain ⟨b,o,s⟩:=a;simp only at this;rw [this]
    ·rw [getElem?_map] at hi
     cases rP:l[i]? with
     | none=>rw [rP] at hi;cases hi
     | some s =>
      rw [rP] at hi;cases hi;exact ⟨zD (h2 i s rP).1,fun a n c e=>by cases e⟩
  ·obtain ⟨i,hi⟩:=List.getElem?_of_mem hs;exact (h2 i s hi).2
theorem PY {t e:TypeId} {n:Nat} {v:Value} {y:DataW H × List MemPlace} (ht:P.underlying t=some (.slice e)) (he:P.underlying e=some (.int .i64)) (hc:P.cellsOf e=1) (h:DataW.trod enc P W 0 (fun _=>true) true n t [v]=some y) :
  ∃ l:List Int,vJ W v (l.map ii)/\l.length<=9223372036854775807:=by
 rcases open_slice1 ht hc h with ⟨eM,_⟩ | ⟨a,len,cap,m,n',V,D,Pl,eM,_,hl,hm,rh,_,hx⟩
 ·injection eM with hv;subst hv
  exact ⟨[],⟨none,0,rfl,.inl rfl⟩,Nat.zero_le _⟩
 ·injection eM with hv _;subst hv
  simp only [if_true] at rh
  obtain ⟨l,h1,h2⟩:=qQ (n:=len) (Q:=fun i (z:Int)=>W.cell? (a.add i)=some (ii z)) (fun i hi=>by
   obtain ⟨c1,c2⟩:=hx i ah;obtain ⟨z,hs,_,hz⟩:=DataW.trod_int he c2
   injection hs with hs _
   rw [hs] at c1
   exact ⟨z,c1⟩)
  refine ⟨l,⟨some a,cap,by rw [length_map,h1],?_⟩,by rw [h1];exact max_le (Nat.le_trans hl hm)⟩
  by_cases h0:len=0
  ·have:l=[]:=eq_nil_of_length_eq_zero ah;subst this;exact .inl rfl
  ·refine .inr ⟨a.block,a.off,?_,by rw [length_map,h1];exact hl,fun i x hi=>?_⟩
   ·have sS:l[0]?=some (l[0]'ah):=getElem?_eq_getElem _;have:=zC (h2 0 _ sS);obtain ⟨b,o,s⟩:=a;simp only at this;rw [this]
   ·rw [getElem?_map] at hi
    cases rP:l[i]? with
    | none=>rw [rP] at hi;cases hi
    | some s =>
     rw [rP] at hi;cases hi;exact ⟨zD (h2 i s rP),fun a n c e=>by cases e⟩
theorem Ad {α:Type} {t e:TypeId} {fs:Array Field} {k n:Nat} {v:Value} {y:DataW H × List MemPlace} (f:α->List GV) (Q:α->Prop) (β:Bt) (ht:P.underlying t=some (.slice e)) (he:P.underlying e=some (.struct fs)) (hY:oneCellFields P fs=true) (hC:P.cellsOf e=k) (hk:fs.size=k) (zh:0 < k)
  (each:∀ b o,(∀ (j:Nat) (fl:Field),fs[j]?=some fl->∃ v y n,fG W.heap b (o+j)=some v/\DataW.trod enc P W 0 (fun _=>true) true n fl.type [v]=some y)->∃ x,Q x/\(f x).length=k/\∀ j g,(f x)[j]?=some g->KW W b (o+j)=some g)
  (h:DataW.trod enc P W 0 (fun _=>true) true n t [v]=some y):∃ l:List α,Rel (KW W) β v (.sl k (l.map f))/\l.length<=9223372036854775807/\∀ x∈l,Q x:=by
 rcases open_slice ht h with ⟨eM,_⟩ | ⟨a,len,cap,m,n',D,Pl,eM,_,hl,hm,rh,_,hx⟩
 ·injection eM with hv;subst hv
  exact ⟨[],.sl0 none 0 k,Nat.zero_le _,fun s h=>by cases h⟩
 ·injection eM with hv _;subst hv
  simp only [if_true] at rh
  have ln:∀ i,i < len->∀ (j:Nat) (fl:Field),fs[j]?=some fl->∃ v y n,W.cell? (a.add (i * k+j))=some v/\DataW.trod enc P W 0 (fun _=>true) true n fl.type [v]=some y:=by
   intro i hi j fl hj;obtain ⟨y5,hc,A5⟩:=hx i ah;rw [hC] at hc;obtain ⟨ys,n',A1,hy,hlen,Fu,hf⟩:=DataW.trod_struct he A5;obtain ⟨_,u6,wT⟩:=World.cells?_some hc;obtain ⟨ho,rN⟩:=hone_of hY j fl hj;have oF:j < fs.size:=(Array.getElem?_eq_some_iff.1 hj).1;have ln:=wT j ah;have hv:y5[j]?=some (y5[j]'ah):=getElem?_eq_getElem ah;have h1:=hf j fl hj;rw [ho,rN] at h1
   have Wz:(y5.drop j).take 1=[y5[j]'ah]:=by
    rw [List.drop_eq_getElem_cons ah];rfl
   rw [Wz] at h1;have Rj:ys[j]?=some (ys[j]'ah):=getElem?_eq_getElem ah;refine ⟨_,_,_,?_,h1.trans Rj⟩;rw [<-Go.Deep.add_add,ln,hv]
  obtain ⟨l,h1,h2⟩:=qQ (n:=len) (Q:=fun i x=>Q x/\(f x).length=k/\∀ j g,(f x)[j]?=some g->KW W a.block (a.off+i * k+j)=some g) (fun i hi =>
   each a.block (a.off+i * k) fun j fl hj=>by
    obtain ⟨v,y,n,c1,c2⟩:=ln i hi j fl hj
    exact ⟨v,y,n,by rw [Nat.add_assoc];exact zD c1,c2⟩)
  refine ⟨l,P4 (n:=len) (c:=cap) β rfl (by rw [length_map,h1]) ?_,by rw [h1];exact max_le (Nat.le_trans hl hm),fun x hx=>?_⟩
  ·by_cases h0:len=0
   ·exact .inl h0
   ·refine .inr ⟨a.block,a.off,?_,hl,fun i r hr=>?_⟩
    ·obtain ⟨v,y,n,c1,c2⟩:=ln 0 ah 0 (fs[0]'ah) (Array.getElem?_eq_getElem ah);rw [Nat.zero_mul,Nat.add_zero] at c1;have:=zC c1;obtain ⟨b,o,s⟩:=a;simp only at this;rw [this]
    ·rw [getElem?_map] at hr
     cases rP:l[i]? with
     | none=>rw [rP] at hr;cases hr
     | some x =>
      rw [rP] at hr;cases hr;exact (h2 i x rP).2
  ·obtain ⟨i,hi⟩:=List.getElem?_of_mem hx;exact (h2 i x hi).1
end
theorem Gf (l:List ai):GV.sl 1 ((l.map sv).map fun x=>[GV.v x])=strs l:=by rw [map_map];rfl
theorem Pu (l:List Int):GV.sl 1 ((l.map ii).map fun x=>[GV.v x])=ints l:=by rw [map_map];rfl
theorem wf_i64 {z:Int} (h:(Lit.int .i64 z).wf=true) : -9223372036854775808<=z/\z<=9223372036854775807:=by
 simp only [Lit.wf,Bool.and_eq_true,decide_eq_true_eq] at h
 have h1:IntKind.min .i64 = -9223372036854775808:=by decide
 have h2:IntKind.max .i64=9223372036854775807:=by decide
 rw [h1,h2] at h;exact h
theorem uW (z:Int):flat (ii z):=fun a n c e=>by cases e
section
variable {H:Type} {enc:TypeId × Value->H} {W:World}
theorem PZ (β:Bt) {v:Value} {d:DataW H} {ps:List MemPlace} {r:Reach} {b0:Nat} (hv:Value.okWide Tryz.prog W r b0 27 v) (h:DataW.Trod enc Tryz.prog W 0 (fun _=>true) true 27 v d ps) :
  ∃ p:Src,Rel (KW W) β v (.agg (ay p))/\Small p 9223372036854775807/\xe p:=by
 obtain ⟨v0,v1,v2,v3,y0,y1,y2,y3,n,rfl,_,_,h0,h1,h2,h3⟩:=Go.Joins.open_agg4 Tryz.underlying27 (by kernel_rfl) (by kernel_rfl) hv h
 have c9:Tryz.prog.cellsOf 9=1:=by kernel_rfl
 have c3:Tryz.prog.cellsOf 3=1:=by kernel_rfl
 obtain ⟨gs,g1,g2,g3⟩:=FT Tryz.underlying22 Tryz.underlying9 c9 h0
 obtain ⟨Xm,a1,a2,a3⟩:=Ad aH (fun x=>x.name.length<=9223372036854775807 /\ -9223372036854775808<=x.size/\x.size<=9223372036854775807) β Tryz.underlying23 Tryz.underlying103 (by kernel_rfl) (k:=2) (by kernel_rfl) rfl ah (fun b o hf=>by
  obtain ⟨u0,z0,n0,x0,w0⟩:=hf 0 _ rfl;obtain ⟨u1,z1,n1,x1,w1⟩:=hf 1 _ rfl;obtain ⟨s,hs,_,hz⟩:=DataW.trod_string Tryz.underlying9 w0;obtain ⟨z,gz,_,XZ⟩:=DataW.trod_int Tryz.underlying3 w1
  injection hs with hs _
  injection gz with gz _
  subst hs gz;refine ⟨⟨s.data.toList,z⟩,⟨max_le hz,wf_i64 XZ⟩,rfl,fun j g hg=>?_⟩
  match j,hg with
  | 0,hg=>cases hg;rw [<-D5];exact lu x0 fun a n c e=>by cases e
  | 1,hg=>cases hg;exact lu x1 (uW z)
  | j+2,hg=>simp [aH] at hg) h1
 obtain ⟨fs,f1,f2,f3⟩:=Ad ax (fun x=>x.name.length<=9223372036854775807/\x.params.length<=9223372036854775807/\∀ s∈x.params,s.length<=9223372036854775807) β Tryz.underlying24 Tryz.underlying105 (by kernel_rfl) (k:=3) (by kernel_rfl) rfl ah (fun b o hf=>by
  obtain ⟨u0,z0,n0,x0,w0⟩:=hf 0 _ rfl;obtain ⟨u1,z1,n1,x1,w1⟩:=hf 1 _ rfl;obtain ⟨u2,z2,n2,x2,w2⟩:=hf 2 _ rfl;obtain ⟨s,hs,_,hz⟩:=DataW.trod_string Tryz.underlying9 w0;obtain ⟨l,ff,jC,Uz⟩:=FT Tryz.underlying22 Tryz.underlying9 c9 w1;obtain ⟨z,gz,_,XZ⟩:=DataW.trod_int Tryz.underlying3 w2
  injection hs with hs _
  injection gz with gz _
  subst hs gz;refine ⟨⟨s.data.toList,l,z⟩,⟨max_le hz,jC,Uz⟩,rfl,fun j g hg=>?_⟩
  match j,hg with
  | 0,hg=>cases hg;rw [<-D5];exact lu x0 fun a n c e=>by cases e
  | 1,hg=>cases hg;rw [QE x1 ff,Gf]
  | 2,hg=>cases hg;exact lu x2 (uW z)
  | j+3,hg=>simp [ax] at hg) h2
 obtain ⟨ns,k1,k2,k3⟩:=Ad az (fun x=>(x.s.length<=9223372036854775807/\x.kids.length<=9223372036854775807) /\ -9223372036854775808<=x.n/\x.n<=9223372036854775807) β Tryz.underlying25 Tryz.underlying107 (by kernel_rfl) (k:=5) (by kernel_rfl) rfl ah (fun b o hf=>by
  obtain ⟨u0,z0,n0,x0,w0⟩:=hf 0 _ rfl;obtain ⟨u1,z1,n1,x1,w1⟩:=hf 1 _ rfl;obtain ⟨u2,z2,n2,x2,w2⟩:=hf 2 _ rfl;obtain ⟨u3,z3,n3,x3,w3⟩:=hf 3 _ rfl;obtain ⟨u4,z4,n4,x4,w4⟩:=hf 4 _ rfl;obtain ⟨i0,e0,_,_⟩:=DataW.trod_int Tryz.underlying3 w0;obtain ⟨i1,e1,_,_⟩:=DataW.trod_int Tryz.underlying3 w1;obtain ⟨i2,e2,_,q2⟩:=DataW.trod_int Tryz.underlying3 w2;obtain ⟨s,hs,_,hz⟩:=DataW.trod_string Tryz.underlying9 w3;obtain ⟨l,ff,jC⟩:=PY Tryz.underlying40 Tryz.underlying3 c3 w4
  injection e0 with e0 _
  injection e1 with e1 _
  injection e2 with e2 _
  injection hs with hs _
  subst hs e0 e1 e2;refine ⟨⟨i0,i1,i2,s.data.toList,l⟩,⟨⟨max_le hz,jC⟩,wf_i64 q2⟩,rfl,fun j g hg=>?_⟩
  match j,hg with
  | 0,hg=>cases hg;exact lu x0 (uW _)
  | 1,hg=>cases hg;exact lu x1 (uW _)
  | 2,hg=>cases hg;exact lu x2 (uW _)
  | 3,hg=>cases hg;rw [<-D5];exact lu x3 fun a n c e=>by cases e
  | 4,hg=>cases hg;rw [QE x4 ff,Pu]
  | j+5,hg=>simp [az] at hg) h3
 have r0:=NN g1 β;rw [Gf] at r0;refine ⟨⟨gs,Xm,fs,ns⟩,?_,⟨⟨g2,g3⟩,⟨a2,fun x hx=>(a3 x hx).1⟩,⟨f2,f3⟩,⟨k2,fun x hx=>(k3 x hx).1⟩⟩,⟨fun x hx=>(a3 x hx).2,fun x hx=>(k3 x hx).2⟩⟩;have hc:bb (KW W) β [v0,v1,v2,v3] (ay ⟨gs,Xm,fs,ns⟩):=.cons r0 (.cons a1 (.cons f1 (.cons k1 .nil)));exact .agg [v0,v1,v2,v3] _ hc.1 hc.2
end
end Go.Xg
namespace Go.Xg
open Go.RowKit Go.Xw Go.Proofs
open Go.Lib
theorem N2 {P:Program} {W:World} {name:String} {k:IntKind} {zs:List Int} {g:Nat} {t e:TypeId} {n:Nat}
  (hg:P.globalNamed name=some g) (hty:(P.globals[g]?).map (·.type)=some t) (ht:P.underlying t=some (.array n e)) (he:P.underlying e=some (.int k)) (MF:P.cellsOf e=1) (Q0:P.cellsOf t=n)
  (h:VarReads P W name (tabData k zs)):TabIs P W name k zs:=by
 obtain ⟨g',t',cs,fuel,p,jQ,A5,Zs,hd⟩:=h;obtain rfl:=Option.some.inj (hg.symm.trans jQ);obtain rfl:=Option.some.inj (hty.symm.trans A5);unfold TabIs;rw [Zs,<-cells_of_tab ht he MF Q0 hd]
theorem I9 {P:Program} {W:World} {name:String} {k:IntKind} {zs:List Int} {g n:Nat} (hg:P.globalNamed name=some g) (hn:zs.length=n) (h:TabIs P W name k zs):sA W g n:=by
 unfold TabIs World.var? at h;rw [hg] at h;simp only [Option.bind_some] at h
 cases hb:W.heap[g]? with
 | none=>rw [hb] at h;cases h
 | some o =>
  rw [hb] at h
  cases o with
  | cells cs E z =>
   simp only [Option.some.injEq] at h;exact ⟨cs,E,z,hb,by rw [h];simpa using hn⟩
  | _=>cases h
theorem Lo {P:Program} {W:World} {name:String} {k:IntKind} {zs:List Int} {g:Nat} (hg:P.globalNamed name=some g) (h:TabIs P W name k zs) {o:Nat} {z:Int} (ho:zs[o]?=some z):KW W g o=some (.v (.int k z)):=by
 have ao:=(List.getElem?_eq_some_iff.1 ho).1;have hc:=h.cell hg o ao;rw [List.getD_eq_getElem?_getD,ho,fb] at hc
 exact lu hc fun a n c e=>by cases e
theorem Th {W:World} (hp:VarReads Tryz.prog W "internal/strconv.uint64pow10" (tabData .u64 vo)) (hs:VarReads Tryz.prog W "strings.asciiSpace" (tabData .u8 vy)) (hW:W.ShapedOpen Tryz.prog):fQ (KW W) (fun _=>.no) W:=by
 have gp:Tryz.prog.globalNamed "internal/strconv.uint64pow10" = some 3:=by kernel_rfl
 have gs:Tryz.prog.globalNamed "strings.asciiSpace" = some 0:=by kernel_rfl
 have tp:=N2 gp (t:=287) (by kernel_rfl) Tryz.underlying287 (k:=.u64) (by kernel_rfl) (by kernel_rfl) (by kernel_rfl) hp;have ts:=N2 gs (t:=244) (by kernel_rfl) Tryz.underlying244 (k:=.u8) (by kernel_rfl) (by kernel_rfl) (by kernel_rfl) hs;obtain ⟨m,hm⟩:=cell_of_shapedOpen_int (g:=1) (zero:=#[.int .i64 0]) (t:=3) hW (of_decide_eq_true (by kernel_rfl)) (by kernel_rfl) rfl (by kernel_rfl) (by kernel_rfl) Tryz.underlying3;rw [fb] at hm;refine ⟨⟨m,fun b o g h=>?_⟩,I9 gp aK tp,I9 gs aK ts,fun i b h=>by cases h⟩;unfold xd at h;split at h
 ·rename_i hb;subst hb;split at h
  ·cases h;exact lu hm fun a n c e=>by cases e
  ·cases h
 ·split at h
  ·rename_i hb;subst hb
   cases ho:vo[o]? with
   | none=>rw [ho] at h;cases h
   | some z=>rw [ho] at h;cases h;exact Lo gp tp ho
  ·split at h
   ·rename_i hb;subst hb
    cases ho:vy[o]? with
    | none=>rw [ho] at h;cases h
    | some z=>rw [ho] at h;cases h;exact Lo gs ts ho
   ·cases h
theorem GF.calls {P:Program} {f:FuncId} {gs:List GV} {g:GV} (h:GF P f gs [] g []) {W:World} {vs:List Value} (hv:bb (KW W) (fun _=>.no) vs gs) (hT:fQ (KW W) (fun _=>.no) W) :
  mi P f vs W fun v w'=>Below W.heap.size W w'/\∃ K β,Rel K β v g:=by
 have hI:Inv ⟨W,ic,KW W,fun _=>.no,0⟩ (KW W) (fun _=>.no) [] W :=
  ⟨Ext.refl W,cq.refl _,cZ.refl _,fun _ _=>rfl,V5 W,fun i x h=>by simp at h,fun _ _=>rfl,fun i j b h=>(by cases h),fun i b h=>(by cases h),fun b o g h=>.inl h,hT⟩
 refine (h ⟨W,ic,KW W,fun _=>.no,0⟩ (KW W) (fun _=>.no) W vs rfl hI hv).mono ?_;rintro v w' ⟨K',bV,x,aL,h1,h2,rfl,rfl⟩;exact ⟨h1.ext.below,K',bV,h2⟩
end Go.Xg
namespace Go.Xg
open Go.RowKit Go.Xw Go.Proofs
open Go.Xp (Tok Nd T)
open Go.Sp
attribute [local irreducible] GW GL GO YG GC GA aY ba
theorem sD {α:Type} {l:List α} {q:α->Bool} {k:Nat} {x:α} (hx:l[k]?=some x) (hf:(l.take k).all q=true) (hb:q x=true):(l.take (k+1)).all q=true:=by
 rw [take_add_one,hx,List.all_append,hf];simp [hb]
def idxOf (xs:List ai) (s:ai):Int:=match xs.findIdx? (fun x=>s==x) with | some i=>(i:Int) | none => -1
theorem RV (xs:List ai) (s:ai) (hl:xs.length<=1099511627776):GF Tryz.prog 121 [strs xs,.v (sv s)] [] (.v (ii (idxOf xs s))) []:=by
 refine aj Tryz.func121 Tryz.ntmps121 ?_;refine GW.range (xs.map fun s=>[GV.v (sv s)]).length (fun k fr Γ=>fr=[strs xs,.v (sv s),.U,.U,.U,.U,strs xs,.v (ii ((xs.map fun s=>[GV.v (sv s)]).length:Int)),.v (ii (k:Nat)),.U,.U,.U,.U,.U,.U,.U,.U,.U,.U]/\Γ=[]/\((xs.take k).all fun x=>!(s==x))=true) ?_ (by simpa using hl) ?_ ?_ ?_
 ·exact iF
 ·exact fE
 ·rintro k _ _ ao ⟨rfl,rfl,hc⟩
  have ao:k < xs.length:=by simpa using ao
  have hx:xs[k]?=some xs[k]:=by simp [ao]
  have hr:(xs.map fun s=>[GV.v (sv s)])[k]?=some [.v (sv xs[k])]:=by simp [ao]
  cases hb:(s==xs[k]) with
  | true =>
   have hi:xs.findIdx? (fun x=>s==x)=some k:=by
    rw [List.findIdx?_eq_some_iff_getElem];refine ⟨ao,hb,fun j hj=>?_⟩;rw [List.all_eq_true] at hc;have:=hc xs[j] (by rw [List.mem_take_iff_getElem];exact ⟨j,by omega,rfl⟩);simpa using this
   unfold idxOf;rw [hi];generalize xs[k]=x at *;exact aw
  | false =>
   have qS:=sD (q:=fun x=>!(s==x)) hx hc (by rw [hb];rfl);generalize xs[k]=x at *;refine ae ?_;exact ⟨rfl,rfl,_,_,Wk.aD ar,rfl,rfl,qS⟩
 ·rintro _ _ ⟨rfl,rfl,hc⟩;rw [take_of_length_le (by simp)] at hc
  have hi:xs.findIdx? (fun x=>s==x)=none:=by
   rw [List.findIdx?_eq_none_iff];intro x hx;rw [List.all_eq_true] at hc;have:=hc x hx;simpa using this
  unfold idxOf;rw [hi];exact aw
theorem Pq (xs:List ai) (s:ai):decide (0<=idxOf xs s)=xs.contains s:=by
 unfold idxOf
 cases h:xs.findIdx? (fun x=>s==x) with
 | some i =>
  rw [List.findIdx?_eq_some_iff_getElem] at h;obtain ⟨h1,h2,_⟩:=h
  have h3:s=xs[i]:=by simpa using h2
  have:xs.contains s=true:=by rw [List.contains_iff_mem,h3];exact getElem_mem _
  rw [this];simp
 | none =>
  rw [List.findIdx?_eq_none_iff] at h
  have:xs.contains s=false:=by
   cases hc:xs.contains s with
   | false=>rfl
   | true=>have:=h s (List.contains_iff_mem.1 hc);simp at this
  rw [this];rfl
theorem ky (xs:List ai) (s:ai) (hl:xs.length<=1099511627776):GF Tryz.prog 83 [strs xs,.v (sv s)] [] (.v (.bool (xs.contains s))) []:=by
 have hi:=RV xs s hl;rw [<-Pq];generalize idxOf xs s=i at *;refine aj Tryz.func83 Tryz.ntmps83 ?_;refine ab [] hi ?_;exact al
end Go.Xg
set_option maxHeartbeats 2000000
namespace Go.Xg
open Go.RowKit Go.Xw Go.Proofs
open Go.Xp (Nd T Ar)
open Go.Sp (Src)
open Go.Im
attribute [local irreducible] GW GL GO YG GC GA aY ba
theorem M6 (s:ai):GF Tryz.prog 81 [.v (sv s)] [] (.v (.bool (lZ s))) []:=by
 unfold lZ oS pQ iN
 cases h1:(s==[103,101,116])
 all_goals cases h2:(s==[112,117,116])
 all_goals
  refine aj Tryz.func81 Tryz.ntmps81 ?_;exact al
theorem Ec {jN:FuncId} [aI Tryz.prog jN] (pr:Go.Sp.Fn->Bool) (l:List (Go.Sp.Fn)) (hn:l.length<=1099511627776) (hc:∀ x∈l,GF Tryz.prog jN [.agg (ax x)] [] (.v (.bool (pr x))) []) :
  GF Tryz.prog 125 [.sl 3 (l.map ax),.v (.func (.func jN) #[] #[])] [] (.v (ii (bM pr l))) []:=by
 have dh:(l.map ax).length=l.length:=by simp
 refine aj Tryz.func125 Tryz.ntmps125 ?_;refine GW.range (l.map ax).length (fun k fr Γ=>fr=[.sl 3 (l.map ax),.v (.func (.func jN) #[] #[]),.U,.U,.U,.U,.U,.v (ii ((l.map ax).length:Int)),.v (ii (k:Nat)),.U,.U,.U,.U,.U,.U,.U,.U,.U,.U]/\Γ=[]/\(l.take k).all (fun y=>!pr y)=true) ?_ ah ?_ ?_ ?_
 ·exact iF
 ·exact fE
 ·rintro k _ _ ao ⟨rfl,rfl,aM⟩;rw [dh] at ao;obtain ⟨x,b6⟩:∃ x,l[k]?=some x:=⟨l[k],by simp [ao]⟩
  have hr:(l.map ax)[k]?=some (ax x):=by rw [getElem?_map,b6];rfl
  have h:=hc x (mem_of_getElem? b6);have bh:=jL (f:=pr) b6
  have hit:=fun h0=>ju (f:=pr) b6 h0 aM
  unfold ax at hr h
  cases hb:pr x with
  | true =>
   rw [hb] at h;rw [hit hb];refine ae ?_;refine iD [] h ?_;exact aw
  | false =>
   rw [hb] at h bh;refine ae ?_;refine iD [] h ?_;refine ae ?_;exact ⟨rfl,rfl,_,_,Wk.aD ar,rfl,rfl,by rw [bh,aM];rfl⟩
 ·rintro _ _ ⟨rfl,rfl,aM⟩;rw [dh,take_length] at aM;rw [gB aM];exact aw
theorem tJ {jN:FuncId} [aI Tryz.prog jN] (pr:Go.Sp.Fn->Bool) (l:List (Go.Sp.Fn)) (hn:l.length<=1099511627776) (hc:∀ x∈l,GF Tryz.prog jN [.agg (ax x)] [] (.v (.bool (pr x))) []) :
  GF Tryz.prog 138 [.sl 3 (l.map ax),.v (.func (.func jN) #[] #[])] [] (.v (.bool (l.any pr))) []:=by
 have h:=Ec pr l hn hc;rw [<-xq];generalize bM pr l=z at *;refine aj Tryz.func138 Tryz.ntmps138 ?_;refine ab [] h ?_;exact al
theorem DO {jN:FuncId} [aI Tryz.prog jN] (pr:Go.Sp.Fn->Bool) (s:ai) (l:List (Go.Sp.Fn)) (hn:l.length<=1099511627776) (hc:∀ x∈l,GF Tryz.prog jN [.agg (ax x),.box [.v (sv s)] 0] [] (.v (.bool (pr x))) []) :
  GF Tryz.prog 125 [.sl 3 (l.map ax),.fn (.func jN) [] [.box [.v (sv s)] 0]] [] (.v (ii (bM pr l))) []:=by
 have dh:(l.map ax).length=l.length:=by simp
 refine aj Tryz.func125 Tryz.ntmps125 ?_;refine GW.range (l.map ax).length (fun k fr Γ=>fr=[.sl 3 (l.map ax),.fn (.func jN) [] [.box [.v (sv s)] 0],.U,.U,.U,.U,.U,.v (ii ((l.map ax).length:Int)),.v (ii (k:Nat)),.U,.U,.U,.U,.U,.U,.U,.U,.U,.U]/\Γ=[]/\(l.take k).all (fun y=>!pr y)=true) ?_ ah ?_ ?_ ?_
 ·exact iF
 ·exact fE
 ·rintro k _ _ ao ⟨rfl,rfl,aM⟩;rw [dh] at ao;obtain ⟨x,b6⟩:∃ x,l[k]?=some x:=⟨l[k],by simp [ao]⟩
  have hr:(l.map ax)[k]?=some (ax x):=by rw [getElem?_map,b6];rfl
  have h:=hc x (mem_of_getElem? b6);have bh:=jL (f:=pr) b6
  have hit:=fun h0=>ju (f:=pr) b6 h0 aM
  unfold ax at hr h
  cases hb:pr x with
  | true =>
   rw [hb] at h;rw [hit hb];refine ae ?_;refine gM [] h ?_;exact aw
  | false =>
   rw [hb] at h bh;refine ae ?_;refine gM [] h ?_;refine ae ?_;exact ⟨rfl,rfl,_,_,Wk.aD ar,rfl,rfl,by rw [bh,aM];rfl⟩
 ·rintro _ _ ⟨rfl,rfl,aM⟩;rw [dh,take_length] at aM;rw [gB aM];exact aw
theorem DN {jN:FuncId} [aI Tryz.prog jN] (pr:Ar->Bool) (s:ai) (l:List (Ar)) (hn:l.length<=1099511627776) (hc:∀ x∈l,GF Tryz.prog jN [.agg (aH x),.box [.v (sv s)] 0] [] (.v (.bool (pr x))) []) :
  GF Tryz.prog 123 [.sl 2 (l.map aH),.fn (.func jN) [] [.box [.v (sv s)] 0]] [] (.v (ii (bM pr l))) []:=by
 have dh:(l.map aH).length=l.length:=by simp
 refine aj Tryz.func123 Tryz.ntmps123 ?_;refine GW.range (l.map aH).length (fun k fr Γ=>fr=[.sl 2 (l.map aH),.fn (.func jN) [] [.box [.v (sv s)] 0],.U,.U,.U,.U,.U,.v (ii ((l.map aH).length:Int)),.v (ii (k:Nat)),.U,.U,.U,.U,.U,.U,.U,.U,.U,.U]/\Γ=[]/\(l.take k).all (fun y=>!pr y)=true) ?_ ah ?_ ?_ ?_
 ·exact iF
 ·exact fE
 ·rintro k _ _ ao ⟨rfl,rfl,aM⟩;rw [dh] at ao;obtain ⟨x,b6⟩:∃ x,l[k]?=some x:=⟨l[k],by simp [ao]⟩
  have hr:(l.map aH)[k]?=some (aH x):=by rw [getElem?_map,b6];rfl
  have h:=hc x (mem_of_getElem? b6);have bh:=jL (f:=pr) b6
  have hit:=fun h0=>ju (f:=pr) b6 h0 aM
  unfold aH at hr h
  cases hb:pr x with
  | true =>
   rw [hb] at h;rw [hit hb];refine ae ?_;refine gM [] h ?_;exact aw
  | false =>
   rw [hb] at h bh;refine ae ?_;refine gM [] h ?_;refine ae ?_;exact ⟨rfl,rfl,_,_,Wk.aD ar,rfl,rfl,by rw [bh,aM];rfl⟩
 ·rintro _ _ ⟨rfl,rfl,aM⟩;rw [dh,take_length] at aM;rw [gB aM];exact aw
theorem Sn (x:Go.Sp.Fn) (s:ai):GF Tryz.prog 126 [.agg (ax x),.box [.v (sv s)] 0] [] (.v (.bool (x.name==s))) []:=by
 unfold ax;refine aj Tryz.func126 Tryz.ntmps126 ?_;exact al
theorem Mf (p:Src) (s:ai) (hn:p.fns.length<=1099511627776):GF Tryz.prog 87 [.agg (ay p),.v (sv s)] [] (.v (ii (bM (fun x:Go.Sp.Fn=>x.name==s) p.fns))) []:=by
 have h:=DO (fun x:Go.Sp.Fn=>x.name==s) s p.fns hn (fun x _=>Sn x s);generalize bM (fun x:Go.Sp.Fn=>x.name==s) p.fns=z at *;refine df Tryz.func87 Tryz.ntmps87 ?_;refine jh ?_;refine GL.wk (Wk.freeze (i:=1) rfl rfl rfl (Nat.zero_le _)) ?_;refine GN (by simp only [om,nw];rfl) ?_;refine ae ?_;refine ab [] h ?_;exact al
theorem Jt (x:Ar) (s:ai):GF Tryz.prog 124 [.agg (aH x),.box [.v (sv s)] 0] [] (.v (.bool (x.name==s))) []:=by
 unfold aH;refine aj Tryz.func124 Tryz.ntmps124 ?_;exact al
theorem CM (p:Src) (s:ai) (hn:p.arrays.length<=1099511627776):GF Tryz.prog 86 [.agg (ay p),.v (sv s)] [] (.v (ii (bM (fun x:Ar=>x.name==s) p.arrays))) []:=by
 have h:=DN (fun x:Ar=>x.name==s) s p.arrays hn (fun x _=>Jt x s);generalize bM (fun x:Ar=>x.name==s) p.arrays=z at *;refine df Tryz.func86 Tryz.ntmps86 ?_;refine jh ?_;refine GL.wk (Wk.freeze (i:=1) rfl rfl rfl (Nat.zero_le _)) ?_;refine GN (by simp only [om,nw];rfl) ?_;refine ae ?_;refine ab [] h ?_;exact al
theorem KV (x:Go.Sp.Fn):GF Tryz.prog 170 [.agg (ax x)] [] (.v (.bool (decide (x.params.length > 40)))) []:=by
 have h:decide ((40:Int) < ((x.params.map fun s=>[GV.v (sv s)]).length:Int))=decide (x.params.length > 40):=by
  rw [length_map];exact decide_eq_decide.2 ah
 rw [<-h];unfold ax strs;refine aj Tryz.func170 Tryz.ntmps170 ?_;exact al
theorem OC (x:Go.Sp.Fn):GF Tryz.prog 139 [.agg (ax x)] [] (.v (.bool (mC x))) []:=by
 have h:(((x.params.map fun s=>[GV.v (sv s)]).length:Int)==0)=(x.params.length==0):=by
  rw [length_map];exact Bool.eq_iff_iff.2 (by simp)
 unfold mC vf;rw [<-h];unfold ax strs
 cases h1:(x.name==[109,97,105,110])
 all_goals
  refine aj Tryz.func139 Tryz.ntmps139 ?_;exact al
end Go.Xg
namespace Go.Xg
open Go.RowKit Go.Xw
theorem wj (n:Int):bits .and .i64 n 4294967295=n % 4294967296:=by
 have h:(BitVec.ofInt 64 4294967295).toNat=2 ^ 32 - 1:=by decide
 have key:(BitVec.ofInt 64 n &&& BitVec.ofInt 64 4294967295).toNat=(n % ((2 ^ 64:Nat):Int)).toNat % 2 ^ 32:=by
  rw [BitVec.toNat_and,BitVec.toNat_ofInt,h,Nat.and_two_pow_sub_one_eq_mod]
 show IntKind.i64.wrap ((BitVec.ofInt 64 n &&& BitVec.ofInt 64 4294967295).toNat:Nat)=n % 4294967296;rw [key,IntKind.wrap_i64];omega
section
variable {P:Program} {fr:List GV} {Γ:List Ob}
theorem YG.wj {x y:Operand} {t t':TypeId} {a:Int} (hx:aV fr x=.v (ii a)) (hy:aV fr y=.v (ii 4294967295)):YG P (.binOp .and t x y t') fr Γ (.v (ii (a % 4294967296))) :=
 YG.v2 hx hy fun l w h k d ty pos af=>by
  simp [execOp,eqGuard,h,k,binOp,intBits_and,Go.Xg.wj]
end
end Go.Xg
namespace Go.Xw
open Go.RowKit
class CH (P:Program) (t:TypeId) (e:outParam TypeId):Prop where
 is:P.underlying t=some (.slice e)/\∃ i,P.info? e=some i/\i.zero=some (.int .u8 0)/\i.size=1/\i.bytes=1
def QH (P:Program) (t e:TypeId):Bool :=
 (match P.underlying t with | some (.slice e')=>e'==e | _=>false)&&(match P.info? e with | some i=>(match i.zero with | some (.int .u8 0)=>true | _=>false)&&i.size==1&&i.bytes==1 | none=>false)
theorem CH.mk' {P:Program} {t e:TypeId} (h:QH P t e=true):CH P t e:=by
 unfold QH at h;rw [Bool.and_eq_true] at h;obtain ⟨h1,h2⟩:=h;refine ⟨?_,?_⟩
 ·split at h1
  ·rename_i e' hu;rw [hu];simp at h1;rw [h1]
  ·cases h1
 ·split at h2
  ·rename_i i hi;simp only [Bool.and_eq_true,beq_iff_eq] at h2;obtain ⟨⟨h4,h5⟩,h6⟩:=h2;split at h4
   ·rename_i hz;exact ⟨i,hi,hz,h5,h6⟩
   ·cases h4
  ·cases h2
section
variable {P:Program} {Q:lx} {l:List Value} {w:World} {ops:Array Oper} {rest:List Oper} {d:Option Tmp} {ty:TypeId} {pos:String} {af:Array Edge}
def kz (s:ai):List Value:=s.map fun c=>.int .u8 (c.toNat:Int)
theorem WL.BK {s x:Operand} {t u e:Nat} [hT:CH P t e] [hU:pB P u] {base n:Nat} {xs:List Value} {v:Value} {str:ai} (hs:ev l s=v) (fa:gC w base e 1 v n xs) (hx:ev l x=sv str)
  (xC:n+str.length<=140737488355328) (AU:base<=w.heap.size)
  (h:∀ v' w',gC w' base e 1 v' (n+str.length) (xs++kz str)->Ext (fun b=>v.ownBlock=some b) w w'->(∀ b,v'.ownBlock=some b->v.ownBlock=some b\/w.heap.size<=b)->(Ext ic w w'\/v'.ownBlock=v.ownBlock)->WL P ops Q rest (put l d v') w') :
  WL P ops Q (⟨d,.call ⟨.builtin .append,#[s,x],#[t,u]⟩,ty,pos,af,none⟩::rest) l w:=by
 obtain ⟨hu,i,hi,hz,cR,xB⟩:=hT.is;have fx:=hU.und
 have ql:(⟨str.toArray⟩:ByteArray).size=str.length:=by simp [ByteArray.size]
 have eM:Lib.strCells ⟨str.toArray⟩=kz str:=by simp [Lib.strCells,kz]
 obtain ⟨v',w',hr,h2,h3,h4⟩:=Lib.run_append_own_string (P:=P) w base t u ty e i hu fx hi hz cR xB v n xs fa ⟨str.toArray⟩ (by rw [ql];simp only [maxLen];omega) (by rw [ql];omega) AU;rw [ql,eM] at h2;rw [ql] at h4;have gI:Ext (fun b=>v.ownBlock=some b) w w':=⟨h3.os,h3.tape,h3.output,h3.size,fun j hj hn=>h3.block j hj fun he=>hn he.symm⟩;have mT:(Builtin.append_ #[t,u] ty #[v,sv str]).run P w=.ok v' w':=hr;refine WL.val (v:=v') (w':=w') (by simp [execOp,resolve,invoke,builtin,hs,hx,mT]) (h v' w' h2 gI ?_ ?_)
 ·intro b' bt
  rcases fa.2 with ⟨rfl,rfl⟩ | ⟨g,cap,cur,rfl,nA,hg,oH,wU,eM,A6⟩
  ·by_cases hm:str.length=0
   ·have:=h4.2 ⟨rfl,hm⟩;subst this;cases bt
   ·have dd:=run_append_nil_string (P:=P) w t u ty e i (.int .u8 0) hu fx hi hz ⟨str.toArray⟩ (by omega) (by rw [ql];omega) (by rw [xB,ql];omega);rw [hr] at dd;cases dd;simp only [Value.ownBlock,Option.some.injEq] at bt;exact .inr (by omega)
  ·by_cases hroom:n+str.length<=cap
   ·have Ut:cur.size=cap:=by simpa using eM
    have dd:=Lib.run_append_room_string (P:=P) w t u ty e i hu fx hi cR g n cap cur hg ⟨str.toArray⟩ (by rw [ql];exact hroom) (by rw [ql];omega);rw [hr] at dd;cases dd;exact .inl bt
   ·have holds:∀ j u,xs[j]?=some u->w.cell? ((⟨g,0,none⟩:Addr).add j)=some u:=World.ownsRow.cells (g:=g) fa rfl;have dd:=Lib.run_append_grow_string (P:=P) w t u ty e i (.int .u8 0) hu fx hi hz ⟨g,0,none⟩ n cap xs (by rw [cR];exact fa.1) holds ⟨str.toArray⟩ (by rw [ql];omega) (by rw [ql];omega) (by rw [xB,ql];exact growslice_fits (by omega) (by omega));rw [hr] at dd;cases dd;simp only [Value.ownBlock,Option.some.injEq] at bt;exact .inr (by omega)
 ·rcases fa.2 with ⟨rfl,rfl⟩ | ⟨g,cap,cur,rfl,nA,hg,oH,wU,eM,A6⟩
  ·exact .inl (gI.mono fun k _ hk=>by cases hk)
  ·by_cases hroom:n+str.length<=cap
   ·have Ut:cur.size=cap:=by simpa using eM
    have dd:=Lib.run_append_room_string (P:=P) w t u ty e i hu fx hi cR g n cap cur hg ⟨str.toArray⟩ (by rw [ql];exact hroom) (by rw [ql];omega);rw [hr] at dd;cases dd;exact .inr rfl
   ·have holds:∀ j u,xs[j]?=some u->w.cell? ((⟨g,0,none⟩:Addr).add j)=some u:=World.ownsRow.cells (g:=g) fa rfl;have dd:=Lib.run_append_grow_string (P:=P) w t u ty e i (.int .u8 0) hu fx hi hz ⟨g,0,none⟩ n cap xs (by rw [cR];exact fa.1) holds ⟨str.toArray⟩ (by rw [ql];omega) (by rw [ql];omega) (by rw [xB,ql];exact growslice_fits (by omega) (by omega));rw [hr] at dd;cases dd;exact .inl ⟨rfl,rfl,rfl,by simp,fun k hk _=>Below.heap_alloc _ _ _ (by simpa using hk)⟩
theorem R.sK {x:Operand} {s:TypeId} {i off:Nat} [hT:dp P s i off 1 false] {vs:List Value} {v:Value} (hx:ev l x=.agg vs.toArray) (hv:vs[off]?=some v):ep P l w (.field s x i) v:=fun d ty pos af=>by
 obtain ⟨hT⟩:=hT;unfold JH at hT;split at hT
 ·rename_i fs hu;split at hT
  ·rename_i f hf;simp only [Bool.and_eq_true,beq_iff_eq,bne_iff_ne,ne_eq] at hT;obtain ⟨⟨⟨h1,h2⟩,h3⟩,h4⟩:=hT
   have hag:(isAgg f.type).run P w=.ok false w:=by
    cases hd:P.underlying f.type with
    | none=>simp [hd] at h4
    | some d =>
     rw [hd] at h4;unfold isAgg;rw [Sem.run_bind,run_underlying hd w]
     cases d <;> simp_all [yi]
   have A8:vs.toArray[f.offset]?=some v:=by rw [h1];simpa using hv
   have hv2:vs[f.offset]?=some v:=by rw [h1];exact hv
   simp [execOp,Instr.field,hx,run_underlying hu,hf,part,asAgg,hag,A8,hv2]
  ·cases hT
 ·cases hT
end
end Go.Xw
namespace Go.Xg
open Go.RowKit Go.Xw
section
variable {P:Program} {m:Nat} {Q:dP} {fr:List GV} {Γ:List Ob} {ops:Array Oper} {rest:List Oper} {d:Option Tmp} {op:Op} {ty:TypeId} {pos:String} {af:Array Edge}
theorem YG.sK {x:Operand} {s:TypeId} {i off:Nat} [hT:dp P s i off 1 false] {cs:List GV} {g:GV} (hx:aV fr x=.agg cs) (hg:cs[off]?=some g):YG P (.field s x i) fr Γ g:=fun B K β w l hI hF=>by
 have h:=hF.ev x;rw [hx] at h;generalize hv:ev l x=v at h
 cases h with
 | agg vs _ hl h =>
  have hi:off < vs.length:=by rw [hl];exact (List.getElem?_eq_some_iff.1 hg).1
  exact ⟨vs[off],R.sK hv (by simp [hi]),h off _ g (by simp [hi]) hg⟩
abbrev cr (s:ai):List (List GV):=s.map fun c=>[.v (.int .u8 (c.toNat:Int))]
theorem GL.BK {s x:Operand} {t u e:Nat} [hT:CH P t e] [hU:pB P u] {i n fz:Nat} {rows:List (List GV)} {str:ai} (hx:aV fr x=.v (sv str)) (hs:aV fr s=.vec i n) (bB:Γ[i]?=some (.vec e 1 fz rows)) (hn:rows.length=n) (bJ:str.isEmpty=false)
  (hb:n+str.length<=140737488355328)
  (h:GL P m ops Q rest (bu fr d (.vec i (n+str.length))) (oset Γ i (.vec e 1 fz (rows++cr str)))) :
  GL P m ops Q (⟨d,.call ⟨.builtin .append,#[s,x],#[t,u]⟩,ty,pos,af,none⟩::rest) fr Γ:=fun B K β w l hm hI hF=>by
 subst hn
 have bJ:str≠[]:=by intro h0;rw [h0] at bJ;cases bJ
 obtain ⟨h0,xs,o1,o2,o3,o4,o5,o6⟩:=hI.ob i _ bB;have sW:=hF.ev s;rw [hs] at sW
 have qm:ev l s=h0:=by
  generalize hv:ev l s=v at sW
  cases sW with
  | vec _ _ a c hh =>
   obtain ⟨h',m',e1,e2,e3⟩:=hh;rw [o1] at e1;cases e1;exact e3 rfl
 have jB:(cr str).flatten=str.map fun c=>GV.v (.int .u8 (c.toNat:Int)):=by
  unfold cr;clear hx bJ hb h;generalize str=s
  induction s with
  | nil=>rfl
  | cons c r ih=>simp only [List.map_cons,flatten_cons,ih];rfl
 have hlen:(cr str).length=str.length:=by simp [cr]
 refine WL.BK (base:=0) (v:=h0) (n:=rows.length) (xs:=xs) (str:=str) qm o2 (hF.gy hx) hb (Nat.zero_le _) ?_;intro v' w' how gI oD va
 obtain ⟨K',hK,qn,bj⟩:=hI.grow bB o1 ⟨o2,o3⟩ (news:=cr str) (ns:=kz str) (by rw [hlen];exact how) gI oD (by rw [jB];exact (by
   have:(str.map fun c=>GV.v (.int .u8 (c.toNat:Int)))=ll (kz str):=by simp [ll,kz]
   rw [this];exact bb.self)) (fun r hr=>by
   simp only [cr,mem_map] at hr;obtain ⟨c,_,rfl⟩:=hr
   exact ⟨rfl,fun g hg=>by rw [List.mem_singleton] at hg;subst hg;rfl⟩) (by intro h0;exact bJ (List.map_eq_nil_iff.1 h0)) (fun b bt o v ho hv=>by
  rcases va with h7 | h7
  ·exact h7.c hv (fun h=>h)
  ·have ik:o < xs.length:=by rw [o2.1];exact Nat.lt_of_lt_of_le ho (Nat.mul_le_mul_right 1 o6)
   obtain ⟨b2,c2,pg,_,_,jP⟩:=o2.cells.2 (by intro h0;rw [h0] at ik;simp at ik)
   have eL:b2=b:=by rw [pg] at bt;cases bt;rfl
   subst eL;have Dh:=jP o xs[o] (by simp [ik]);rw [fb,hv] at Dh;cases Dh;obtain ⟨b3,c3,MI,_,_,ME⟩:=how.cells.2 (by intro h0;have:xs=[]:=(List.append_eq_nil_iff.1 h0).1;rw [this] at ik;simp at ik)
   have xy:b3=b2:=by rw [MI,bt] at h7;cases h7;rfl
   subst xy
   rw [<-fb];exact ME o _ (by rw [getElem?_append_left ik];simp [ik]))
 rw [<-bc] at bj;refine h B K' _ w' _ hm bj ((hF.mono hK qn).put d ?_);obtain ⟨a,c,rfl⟩:=how.shape;exact .vec i _ a c ⟨_,_,bm,by simp [hlen],fun _=>by simp [hlen]⟩
end
theorem GF.Vi {P:Program} {f:FuncId} {vs:List Value} {v:Value} (h:∀ K β w,fQ K β w->ir K w->mi P f vs w fun x w'=>x=v/\Ext ic w w'):GF P f (vs.map GV.v) [] (.v v) []:=fun B K β w us hm hI hF=>by
 have hv:us=vs:=by
  obtain ⟨h1,h2⟩:=hF;apply ext_getElem
  ·simpa using h1
  ·intro i h3 h4;have:=h2 i us[i] (.v vs[i]) (by simp [h3]) (by simp [h4]);exact Rel.eD this
 subst hv
 exact (h K β w hI.tab hI.fz).mono fun x w' ⟨h1,h2⟩=>⟨K,β,.v v,[],hI.same h2,by rw [h1];exact .v _,rfl,rfl⟩
theorem fQ.cell {K:Fz} {β:Bt} {w:World} (h:fQ K β w) (hf:ir K w) {b o:Nat} {x:Value} (hk:∀ m,xd m b o=some (.v x)):fG w.heap b o=some x:=by
 obtain ⟨m,h⟩:=h.le;obtain ⟨_,v,hv,hr⟩:=hf b o _ (h b o _ (hk m));rw [hv,Rel.eD hr]
theorem fQ.maxLen {K:Fz} {β:Bt} {w:World} (h:fQ K β w) (hf:ir K w):∃ m,w.cell? ⟨1,0,none⟩=some (.int .i64 m):=by
 obtain ⟨m,h⟩:=h.le
 have hk:xd m 1 0=some (.v (.int .i64 m)):=by simp [xd]
 obtain ⟨_,v,hv,hr⟩:=hf _ _ _ (h _ _ _ hk);exact ⟨m,by rw [fb,hv,Rel.eD hr]⟩
theorem sA.all {K:Fz} {β:Bt} {w:World} (h:fQ K β w) (hf:ir K w) {b n:Nat} {zs:List Value} (hb:sA w b n) (hn:zs.length=n) (hk:∀ m o x,zs[o]?=some x->xd m b o=some (.v x)):∃ E z,w.heap[b]?=some (.cells zs.toArray E z):=by
 obtain ⟨cs,E,z,h1,h2⟩:=hb;refine ⟨E,z,?_⟩
 have:cs=zs.toArray:=by
  apply Array.ext
  ·simp [h2,hn]
  ·intro i hi oE
   have hx:zs[i]?=some zs.toArray[i]:=by simp
   have h3:=h.cell hf (b:=b) (o:=i) (fun m=>hk m i _ hx)
   have h4:fG w.heap b i=cs[i]?:=by rw [<-fb,cell_of_row w b i cs E z h1]
   rw [h4] at h3;simpa [hi] using h3
 rw [h1,this]
theorem GF.ZC {P:Program} {f:FuncId} {vs us:List Value} {E:TypeId} (h:∀ K β w,fQ K β w->ir K w->mi P f vs w fun x w'=>x=.slice (some ⟨w.heap.size,0,none⟩) us.length us.length/\w'=w.alloc (.cells us.toArray E)):GF P f (vs.map GV.v) [] (.sl 1 (us.map fun u=>[.v u])) []:=fun B K β w ws hm hI hF=>by
 have hv:ws=vs:=by
  obtain ⟨h1,h2⟩:=hF;apply ext_getElem
  ·simpa using h1
  ·intro i h3 h4;have:=h2 i ws[i] (.v vs[i]) (by simp [h3]) (by simp [h4]);exact Rel.eD this
 subst hv
 refine (h K β w hI.tab hI.fz).mono fun x w' ⟨h1,h2⟩=>?_
 subst h1;subst h2;have hn:=uI.of w (.cells us.toArray E);obtain ⟨hle,bj⟩:=hI.tR hn (cs:=us.map .v) bb.self (fun g hg=>by obtain ⟨u,_,rfl⟩:=List.mem_map.1 hg;rfl);refine ⟨_,β,.sl 1 (us.map fun u=>[.v u]),[],bj,?_,rfl,rfl⟩;have:=Rel.sl (K:=kU K w.heap.size (us.map .v)) (β:=β) w.heap.size 0 us.length 1 (us.map fun u=>[.v u]) (fun i r hr=>?_) (by simp)
 ·rw [length_map] at this;exact this
 ·rw [getElem?_map] at hr
  cases hu:us[i]? with
  | none=>rw [hu] at hr;cases hr
  | some u =>
   rw [hu] at hr;cases hr;refine ⟨rfl,fun j g hg=>?_⟩
   cases j with
   | zero=>cases hg;rw [Nat.zero_add,Nat.mul_one,Nat.add_zero];exact uK (by rw [getElem?_map,hu];rfl)
   | succ j=>simp at hg
section
variable {B:Bs} {K:Fz} {β:Bt} {Γ:List Ob} {w:World}
theorem Inv.swap {i:Nat} {y:Ob} (h:Inv B K β Γ w) (ho:km K β w i y):Inv B K β (oset Γ i y) w:=by
 refine ⟨h.ext,h.kle,h.ble,h.loc,h.fz,fun j x hj=>?_,fun j hj=>h.out j (by simpa [bc] using hj),h.dis,h.own,h.kn,h.tab⟩;rw [bc,getElem?_set] at hj;split at hj
 ·rename_i fq;split at hj
  ·cases hj;subst fq;exact ho
  ·cases hj
 ·exact h.ob j x hj
theorem Inv.yd {i E k:Nat} {rows:List (List GV)} {x:Value} (h:Inv B K β Γ w) (hi:Γ[i]?=some (.vech E k rows x)):Inv B K β (oset Γ i (.vec E k 0 rows)) w:=by
 obtain ⟨xs,h1,h2,h3,h4,h5⟩:=h.ob i _ hi;exact h.swap ⟨x,xs,h1,h2,h3,h4,fun b hb=>⟨fun o _=>h5 b hb o,fun o g ho=>by omega⟩,Nat.zero_le _⟩
theorem Inv.sQ {i E k:Nat} {rows:List (List GV)} (h:Inv B K β Γ w) (hi:Γ[i]?=some (.vec E k 0 rows)):∃ a c,β i=.gr (.slice a rows.length c) rows.length/\Inv B K β (oset Γ i (.vech E k rows (.slice a rows.length c))) w:=by
 obtain ⟨x,xs,h1,h2,h3,h4,h5,h6⟩:=h.ob i _ hi;obtain ⟨a,c,rfl⟩:=h2.shape;exact ⟨a,c,h1,h.swap ⟨xs,h1,h2,h3,h4,fun b hb o=>(h5 b hb).1 o ah⟩⟩
theorem oZ {i:Nat} {x y:Ob} (h:Γ[i]?=some x):(oset Γ i y)[i]?=some y:=by
 have:=(List.getElem?_eq_some_iff.1 h).1;rw [bc,getElem?_set];simp [this]
theorem nF {i:Nat} {x y:Ob}:oset (oset Γ i x) i y=oset Γ i y:=by rw [bc,bc,bc,List.set_set]
theorem Inv.gr {i E k:Nat} {rows:List (List GV)} {x:Value} (h:Inv B K β Γ w) (hi:Γ[i]?=some (.vech E k rows x)):β i=.gr x rows.length:=by
 obtain ⟨xs,h1,_⟩:=h.ob i _ hi;exact h1
theorem Inv.pZ {i E k:Nat} {rows:List (List GV)} {x:Value} (h:Inv B K β Γ w) (hi:Γ[i]?=some (.vech E k rows x)):∃ K',cq K K'/\Rel K' β x (.sl k rows)/\Inv B K' β (oset Γ i (.vec E k rows.length rows)) w:=by
 obtain ⟨xs,h1,h2,h3,h4,h5⟩:=h.ob i _ hi;obtain ⟨K',hK,C6,bj⟩:=(h.yd hi).jy (oZ hi);rw [<-bc,nF] at bj;refine ⟨K',hK,?_,bj⟩
 rcases h2.2 with ⟨e5,e6⟩ | ⟨g,cap,cu,e5,_,_,oH,_⟩
 ·have:rows=[]:=eq_nil_of_length_eq_zero e6;subst this;subst e5;exact .sl0 _ _ _
 ·subst e5;refine .sl g 0 cap k rows (fun j r hr=>⟨(h4 r (mem_of_getElem? hr)).1,fun q g' jQ=>?_⟩) oH;rw [Nat.zero_add];exact C6 _ g h1 rfl _ g' (tt h4 hr jQ)
end
section
variable {P:Program} {m:Nat} {Q:dP} {fr:List GV} {Γ:List Ob} {ops:Array Oper} {rest:List Oper} {d:Option Tmp} {op:Op} {ty:TypeId} {pos:String} {af:Array Edge}
theorem Wk.oq (E k:Nat):Wk m fr Γ fr (Γ++[.vech E k [] (.slice none 0 0)]):=fun B K β w l hm hI hF=>by
 have bN:β Γ.length=.no:=hI.out _ (Nat.le_refl _);have bj:=hI.BJ (w':=w) (E:=E) (k:=k) (x:=.slice none 0 0) (xs:=[]) (rows:=[]) (Ext.refl w) (gC.nil w 0 E k) (fun b hb=>by cases hb) bb.nil (fun r hr=>by cases hr);have hle:cZ β (eC β Γ.length (.gr (.slice none 0 0) ([]:List (List GV)).length)):=fV (by rw [bN];trivial);refine ⟨K,_,?_,hF.mono (cq.refl K) hle⟩;have hb:eC β Γ.length (.gr (.slice none 0 0) ([]:List (List GV)).length) Γ.length=.gr (.slice none 0 0) ([]:List (List GV)).length:=bm;have:=bj.swap (i:=Γ.length) (y:=.vech E k [] (.slice none 0 0)) ⟨[],hb,gC.nil w 0 E k,bb.nil,(fun r hr=>by cases hr),(fun b hb=>by cases hb)⟩;rw [bc] at this;simpa using this
theorem Wk.pY {t i E k:Nat} {rows:List (List GV)} {x:Value} (ht:cH fr t=.v x) (gV:jE fr t=true) (bB:Γ[i]?=some (.vech E k rows x)):Wk m fr Γ (bx fr t (.sl k rows)) (oset Γ i (.vec E k rows.length rows)):=fun B K β w l hm hI hF=>by
 obtain ⟨K',hK,hr,bj⟩:=hI.pZ bB;refine ⟨K',β,bj,?_⟩;have hv:nth l t=x:=Rel.eD (by rw [<-ht];exact hF.nth t);have:=(hF.mono hK (cZ.refl β)).eS t hr;rw [<-hv,An (mz hF gV)] at this;exact this
theorem bb.bx {K:Fz} {β:Bt} {x:Value} {g:GV} (hr:Rel K β x g):∀ {vs:List Value} {cs:List GV} {o:Nat},bb K β vs cs->cs[o]?=some (.v x)->bb K β vs (bx cs o g):=by
 intro vs
 induction vs with
 | nil=>intro cs o h ho;have:cs=[]:=eq_nil_of_length_eq_zero h.1.symm;subst this;simp at ho
 | cons v vs ih =>
  intro cs o h ho
  cases cs with
  | nil=>simp at ho
  | cons c cs =>
   obtain ⟨a1,a2⟩:=h.nL
   cases o with
   | zero=>cases ho;have hv:=Rel.eD a1;subst hv;exact .cons hr a2
   | succ o=>exact .cons a1 (ih a2 (by simpa using ho))
theorem Wk.yJ {i o j E k:Nat} {T:TypeId} {cs:List GV} {rows:List (List GV)} {x:Value} (hi:Γ[i]?=some (.box T cs)) (ho:cs[o]?=some (.v x)) (fq:Nat.beq i j=false) (hj:Γ[j]?=some (.vech E k rows x)):Wk m fr Γ fr (oset (oset Γ j (.vec E k rows.length rows)) i (.box T (bx cs o (.sl k rows)))):=fun B K β w l hm hI hF=>by
 have bJ:i≠j:=by intro e;subst e;simp at fq
 obtain ⟨K',hK,hr,bj⟩:=hI.pZ hj;obtain ⟨b,vs,h1,h2,h3,h4⟩:=bj.ob i (.box T cs) (by rw [bc,getElem?_set,if_neg (fun e=>bJ e.symm)];exact hi);exact ⟨K',β,bj.swap ⟨b,vs,h1,h2,bb.bx hr h3 ho,h4⟩,hF.mono hK (cZ.refl β)⟩
def di:List (List GV)->Nat->Nat->GV->List (List GV)
 | [],_,_,_=>[]
 | r::rs,0,o,g=>bx r o g::rs
 | r::rs,n+1,o,g=>r::di rs n o g
theorem zO:∀ (l:List GV) (o:Nat) (g:GV),(bx l o g).length=l.length
 | [],_,_=>rfl
 | _::l,0,_=>rfl
 | _::l,o+1,g=>by simp [bx,zO l o g]
theorem zN:∀ (a b:List GV) (o:Nat) (g:GV),bx (a++b) (a.length+o) g=a++bx b o g
 | [],b,o,g=>by simp
 | x::a,b,o,g=>by
  rw [cons_append,length_cons,show a.length+1+o=(a.length+o)+1 by omega,bx,zN a b o g];rfl
theorem C1:∀ (a b:List GV) (o:Nat) (g:GV),o < a.length->bx (a++b) o g=bx a o g++b
 | [],b,o,g,h=>by simp at h
 | x::a,b,0,g,h=>rfl
 | x::a,b,o+1,g,h=>by simp [bx,C1 a b o g (by simpa using h)]
theorem Pc {l:List GV} {o:Nat} {g x:GV} (h:x∈bx l o g):x∈l\/x=g:=by
 induction l generalizing o with
 | nil=>cases h
 | cons y l ih =>
  cases o with
  | zero =>
   simp only [bx,List.mem_cons] at h;rcases h with h | h
   ·exact .inr h
   ·exact .inl (mem_cons_of_mem _ h)
  | succ o =>
   simp only [bx,List.mem_cons] at h;rcases h with h | h
   ·exact .inl (by rw [h];exact mem_cons_self)
   ·exact (ih h).imp (mem_cons_of_mem _) id
theorem fB:∀ (rows:List (List GV)) (i o:Nat) (g:GV),(di rows i o g).length=rows.length
 | [],_,_,_=>rfl
 | r::rs,0,_,_=>rfl
 | r::rs,n+1,o,g=>by simp [di,fB rs n o g]
theorem ui {k:Nat} {o:Nat} {g:GV} (ho:o < k):∀ {rows:List (List GV)} {i:Nat},fy k rows->i < rows.length->(di rows i o g).flatten=bx rows.flatten (i * k+o) g
 | [],_,_,h=>by simp at h
 | r::rs,0,hk,_=>by
  have:=(hk r (mem_cons_self)).1;rw [di,flatten_cons,flatten_cons,Nat.zero_mul,Nat.zero_add,C1 _ _ _ _ ah]
 | r::rs,n+1,hk,h=>by
  have:=(hk r (mem_cons_self)).1;rw [di,flatten_cons,flatten_cons,ui ho (fun r hr=>hk r (mem_cons_of_mem _ hr)) (by simpa using h),show (n+1) * k+o=r.length+(n * k+o) by rw [Nat.succ_mul];omega,zN]
theorem yI {k:Nat} {o:Nat} {g:GV} (hg:g.pc=true):∀ {rows:List (List GV)} {i:Nat},fy k rows->fy k (di rows i o g)
 | [],_,_=>fun r hr=>by cases hr
 | r::rs,0,hk=>fun r' hr=>by
  simp only [di,List.mem_cons] at hr
  rcases hr with rfl | hr
  ·exact ⟨by rw [zO];exact (hk r mem_cons_self).1,fun x hx=>by
    rcases Pc hx with h | h
    ·exact (hk r mem_cons_self).2 x h
    ·rw [h];exact hg⟩
  ·exact hk r' (mem_cons_of_mem _ hr)
 | r::rs,n+1,hk=>fun r' hr=>by
  simp only [di,List.mem_cons] at hr
  rcases hr with rfl | hr
  ·exact hk _ mem_cons_self
  ·exact yI hg (fun r hr=>hk r (mem_cons_of_mem _ hr)) r' hr
theorem F3 {a b:List (List GV)} {r:List GV} {o:Nat} {g:GV}:di (a++r::b) a.length o g=a++bx r o g::b:=by
 induction a with
 | nil=>rfl
 | cons x a ih=>rw [cons_append,length_cons,di,ih];rfl
theorem Wk.KJ {i idx o j E k T k':Nat} {rows ks:List (List GV)} {x h:Value} {r:List GV} (hi:Γ[i]?=some (.vech T k rows h)) (hr:rows[idx]?=some r) (ho:r[o]?=some (.v x)) (fq:Nat.beq i j=false) (hj:Γ[j]?=some (.vech E k' ks x)) :
  Wk m fr Γ fr (oset (oset Γ j (.vec E k' ks.length ks)) i (.vech T k (di rows idx o (.sl k' ks)) h)):=fun B K β w l hm hI hF=>by
 have bJ:i≠j:=by intro e;subst e;simp at fq
 obtain ⟨K',hK,eT,bj⟩:=hI.pZ hj;obtain ⟨xs,h1,h2,h3,h4,h5⟩:=bj.ob i (.vech T k rows h) (by rw [bc,getElem?_set,if_neg (fun e=>bJ e.symm)];exact hi);have ao:=(List.getElem?_eq_some_iff.1 hr).1
 have MR:o < k:=by rw [<-(h4 r (mem_of_getElem? hr)).1];exact (List.getElem?_eq_some_iff.1 ho).1
 exact ⟨K',β,bj.swap ⟨xs,by rw [fB];exact h1,by rw [fB];exact h2,by rw [ui MR h4 ao];exact bb.bx eT h3 (tt h4 hr ho),yI rfl h4,h5⟩,hF.mono hK (cZ.refl β)⟩
theorem YG.dU {x y:Operand} {t e:TypeId} {k:Nat} [hT:mj P t e k] (i:Nat) {v:Value} {kk:IntKind} {j E:Nat} {rows:List (List GV)} (hx:aV fr x=.v v) (hy:aV fr y=.v (.int kk j)) (bB:Γ[i]?=some (.vech E k rows v)) (hj:j < rows.length):YG P (.indexAddr t x y) fr Γ (.vp i rows.length k j 0):=fun B K β w l hI hF=>by
 have hv:=hF.gy hx;obtain ⟨xs,h1,h2,h3,h4,h5⟩:=hI.ob i _ bB
 rcases h2.2 with ⟨h8,h9⟩ | ⟨g,cap,cur,h8,_,hg,_⟩
 ·omega
 ·subst h8;exact ⟨_,R.xO hv (hF.gy hy) hj,.vp i _ k j 0 _ ⟨_,_,h1,Nat.le_refl _,fun _=>⟨g,rfl,by simp⟩⟩⟩
theorem YG.TS {x:Operand} {s:TypeId} {f off k:Nat} {agg:Bool} [hT:dp P s f off k agg] {i n k' idx o E:Nat} {rows:List (List GV)} {v:Value} (hx:aV fr x=.vp i n k' idx o) (bB:Γ[i]?=some (.vech E k' rows v)) (hn:rows.length=n):YG P (.fieldAddr s x f) fr Γ (.vp i n k' idx (o+off)):=fun B K β w l hI hF=>by
 have h:=hF.ev x;rw [hx] at h;generalize hv:ev l x=u at h
 cases h with
 | vp _ _ _ _ _ _ h =>
  obtain ⟨h0,m,h1,h2,h3⟩:=h;rw [hI.gr bB] at h1;cases h1;obtain ⟨b,hb,rfl⟩:=h3 hn;exact ⟨_,R.O1 hv,.vp i n k' idx _ _ ⟨_,_,hI.gr bB,h2,fun _=>⟨b,hb,by rw [Nat.add_assoc]⟩⟩⟩
theorem YG.X6 {x:Operand} {t:TypeId} [hT:Ty P t false 1] {i n k idx o E:Nat} {rows:List (List GV)} {v:Value} {r:List GV} {g:GV} (hx:aV fr x=.vp i n k idx o) (bB:Γ[i]?=some (.vech E k rows v)) (hn:rows.length=n) (hr:rows[idx]?=some r) (hg:r[o]?=some g):YG P (.load t x) fr Γ g:=fun B K β w l hI hF=>by
 have h:=hF.ev x;rw [hx] at h;generalize hv:ev l x=u at h
 cases h with
 | vp _ _ _ _ _ _ h =>
  obtain ⟨h0,m,h1,h2,h3⟩:=h;obtain ⟨xs,h4,h5,h6,h7,_⟩:=hI.ob i _ bB;rw [h1] at h4;cases h4;obtain ⟨b,hb,rfl⟩:=h3 hn;obtain ⟨u,hu,eT⟩:=h6.at (tt h7 hr hg);obtain ⟨b2,c,he,_,_,hc⟩:=h5.cells.2 (by intro h0;rw [h0] at hu;simp at hu);subst he;cases hb;exact ⟨u,R.ld hv (by rw [<-fb];exact hc _ _ hu),eT⟩
theorem Ao {v:Value}:∀ (l:List Value) (n o:Nat),o < n->(eS l o v).take n=eS (l.take n) o v
 | [],n,o,h=>by simp [eS]
 | x::l,0,o,h=>by omega
 | x::l,n+1,0,h=>by simp [eS]
 | x::l,n+1,o+1,h=>by simp [eS,Ao l n o ah]
theorem wG {v:Value}:∀ (l:List Value) (o:Nat),(eS l o v).length=l.length
 | [],o=>rfl
 | x::l,0=>rfl
 | x::l,o+1=>by simp [eS,wG l o]
theorem GL.Yb {x y:Operand} {t:TypeId} [hT:Ty P t false 1] {i n k idx o E:Nat} {rows:List (List GV)} {v:Value} {r:List GV} {g:GV} (hx:aV fr x=.vp i n k idx o) (bB:Γ[i]?=some (.vech E k rows v)) (hn:rows.length=n) (hr:rows[idx]?=some r) (MR:Nat.blt o r.length=true)
  (hy:mo (aV fr y)=some [g]) (h1:g.one=true) (hp:g.pc=true) (h:GL P m ops Q rest (bu fr d (.v undef)) (oset Γ i (.vech E k (di rows idx o g) v))):GL P m ops Q (⟨d,.store t x y,ty,pos,af,none⟩::rest) fr Γ:=fun B K β w l hm hI hF=>by
 have Fo:=hF.ev x;rw [hx] at Fo;generalize hv:ev l x=u at Fo
 cases Fo with
 | vp _ _ _ _ _ _ hh =>
  obtain ⟨h0,mm,e1,e2,e3⟩:=hh;obtain ⟨xs,h4,h5,h6,h7,h8⟩:=hI.ob i _ bB;rw [e1] at h4;cases h4;obtain ⟨b,hb,rfl⟩:=e3 hn;have ao:=(List.getElem?_eq_some_iff.1 hr).1
  have Zi:o < k:=by rw [<-(h7 r (mem_of_getElem? hr)).1];simpa using MR
  obtain ⟨us,kj,kK⟩:=(hF.ev y).cells hy
  obtain ⟨u1,rfl⟩:∃ u1,us=[u1]:=by
   have:=kK.1
   match us,this with
   | [u1],_=>exact ⟨u1,rfl⟩
  have XT:Rel K β u1 g:=kK.2 0 u1 g rfl rfl
  have hq:idx * k+o < rows.length * k:=by
   have:(idx+1) * k<=rows.length * k:=Nat.mul_le_mul_right k ao;rw [Nat.succ_mul] at this;omega
  rcases h5.2 with ⟨e5,e6⟩ | ⟨g0,cap,cur,e5,JC,hg,oH,wU,cR,ki⟩
  ·omega
  ·subst e5;simp only [Value.ownBlock,Option.some.injEq] at hb;subst hb;have Pe:rows.length * k<=cap * k:=Nat.mul_le_mul_right k oH
   refine WL.st (t:=t) (k:=1) hv rfl hg (by rw [kj];rfl) ah (by rw [kj];have:=(wz (XT.one h1)).2;simpa [Xw.lD] using this) fun w' hs=>?_
   rw [kj] at hs
   have eM:uE cur (idx * k+o) ([u1]:List Value)=(eS cur.toList (idx * k+o) u1).toArray:=by
    simp only [uE];rw [<-ye]
   simp only [toList_toArray,eM] at hs
   have yB:rows.flatten.length=rows.length * k:=by rw [<-h6.1];exact h5.1
   have how:gC w' 0 E k (.slice (some ⟨g0,0,none⟩) rows.length cap) rows.length (eS xs (idx * k+o) u1) :=
    ⟨by rw [wG];exact h5.1,.inr ⟨g0,cap,_,rfl,JC,hs.blk,oH,wU,by simp [wG,cR],by rw [toList_toArray,Ao _ _ _ hq,ki]⟩⟩
   have eT:bb K β (eS xs (idx * k+o) u1) (bx rows.flatten (idx * k+o) g):=by
    have gen:∀ (vs:List Value) (cs:List GV) (q:Nat),bb K β vs cs->bb K β (eS vs q u1) (bx cs q g):=by
     intro vs
     induction vs with
     | nil=>intro cs q h;have:cs=[]:=eq_nil_of_length_eq_zero h.1.symm;subst this;exact h
     | cons v vs ih =>
      intro cs q h
      cases cs with
      | nil=>have:=h.1;simp at this
      | cons c cs =>
       obtain ⟨a1,a2⟩:=h.nL
       cases q with
       | zero=>exact .cons XT a2
       | succ q=>exact .cons a1 (ih cs q a2)
    exact gen _ _ _ h6
   have eo:(β i).blk=some g0:=by rw [e1];rfl
   have bj:Inv B K β (oset Γ i (.vech E k (di rows idx o g) (.slice (some ⟨g0,0,none⟩) rows.length cap))) w':=by
    refine ⟨hI.ext.step hs.ext (fun j hj=>?_),hI.kle,hI.ble,hI.loc,hI.fz.ext hs.ext (fun b' o' g' jQ he=>?_),fun j y hj=>?_,fun j hj=>hI.out j (by simpa [bc] using hj),hI.dis,hI.own,hI.kn,hI.tab.step hs.ext (fun j hj=>⟨i,by subst hj;exact eo⟩) (cq.refl K) (fun i b2 h=>.inl ⟨i,h⟩)⟩
    ·subst hj;exact (hI.own i _ eo).symm
    ·subst he;rw [h8 _ rfl] at jQ;cases jQ
    ·rw [bc,getElem?_set] at hj;split at hj
     ·rename_i fq;split at hj
      ·cases hj;subst fq
       exact ⟨_,by rw [fB];exact e1,by rw [fB];exact how,by rw [ui Zi h7 ao];exact eT,yI hp h7,h8⟩
      ·cases hj
     ·rename_i fq;refine (hI.ob j y hj).ext hs.ext (fun b' bt he=>?_) (cq.refl K) (cZ.refl β) rfl (fun _ _ _ h=>h);subst he;exact fq (hI.dis i j _ eo bt)
   exact h B K β w' _ hm bj (hF.put d (.v _))
theorem GL.jx {x:Operand} {ts:Tmp} {t e k gS:Nat} {z:List Value} [hT:nZ P t e k gS] [hZ:o9 P t e k z] {d1 dt:Tmp} {Oa:TypeId} {FW:String} {Lt:Array Edge} (i:Nat) {n:Nat} {rows:List (List GV)} {gs:List GV} {v:Value}
  (hx:mo (aV fr x)=some gs) (hk:Nat.beq gs.length k=true) (h1:l8 gs=true) (hp:rv gs=true) (hs:cH fr ts=.v v) (US:Nat.beq ts d1=false) (hd:jE fr d1=true) (bB:Γ[i]?=some (.vech e k rows v)) (hn:rows.length=n)
  (hb:(n+1<=9223372036854775807/\(n+1) * gS<=140737488355328)/\k<=16777216)
  (h:∀ a c,GL P m ops Q rest (bu (bu fr (some d1) .U) (some dt) (.v (.slice a (n+1) c))) (oset Γ i (.vech e k (rows++[gs]) (.slice a (n+1) c)))) :
  GL P m ops Q (⟨some d1,.buildSlice t 1 #[(0,x)],Oa,FW,Lt,none⟩::⟨some dt,.call ⟨.builtin .append,#[.tmp ts,.tmp d1],#[t,t]⟩,ty,pos,af,none⟩::rest) fr Γ:=fun B K β w l hm hI hF=>by
 subst hn;obtain ⟨us,kj,kK⟩:=(hF.ev x).cells hx;obtain ⟨xs,o1,o2,o3,o4,o5⟩:=hI.ob i _ bB;have qm:nth l ts=v:=Rel.eD (by rw [<-hs];exact hF.nth ts);have MG:=mz hF hd
 have Zd:ts≠d1:=by intro e;subst e;simp at US
 have lz:gs.length=k:=by simpa using hk
 refine WL.push (base:=0) (v:=v) (vs:=us) (val:=ev l x) (xs:=xs) (n:=rows.length) rfl (fun u=>by rw [show ev (put l (some d1) u) (.tmp ts)=nth (eS l d1 u) ts from rfl,nU Zd];exact qm) (fun u=>sj MG u) kj (by rw [kK.1,lz]) (kK.lD h1) o2 hb.1.1 hb.1.2 hb.2 (Nat.zero_le _) ?_;intro u v' w' how gI oD va;obtain ⟨K',hK,qn,bj⟩:=(hI.yd bB).grow (fz:=0) (oZ bB) o1 ⟨o2,o3⟩ (news:=[gs]) (ns:=us) how gI oD (by simpa using kK) (fun r hr=>by simp at hr;subst hr;exact ⟨lz,mN hp⟩) (by simp) (fun b bt o v ho hv=>by omega);rw [<-bc,nF] at bj;obtain ⟨a,c,pI,n7⟩:=bj.sQ (oZ bB);rw [nF] at n7;obtain ⟨a',c',rfl⟩:=how.shape;rw [bm] at pI;simp only [length_append,length_cons,length_nil] at pI n7 qn;cases pI;exact h _ _ B K' _ w' _ hm n7 (((hF.mono hK qn).put (some d1) (.U u)).put (some dt) (.v _))
theorem GL.pD {s x:Operand} {t e k gS:Nat} [hT:nZ P t e k gS] (i:Nat) {n:Nat} {dt:Tmp} {v:Value} {rows news:List (List GV)} (hx:aV fr x=.sl k news) (hs:aV fr s=.v v) (bB:Γ[i]?=some (.vech e k rows v)) (hn:rows.length=n) (h1:l9 news=true) (bJ:news.isEmpty=false)
  (hb:n+news.length<=9223372036854775807/\(n+news.length) * gS<=140737488355328)
  (h:∀ a c,GL P m ops Q rest (bu fr (some dt) (.v (.slice a (n+news.length) c))) (oset Γ i (.vech e k (rows++news) (.slice a (n+news.length) c)))) :
  GL P m ops Q (⟨some dt,.call ⟨.builtin .append,#[s,x],#[t,t]⟩,ty,pos,af,none⟩::rest) fr Γ:=fun B K β w l hm hI hF=>by
 subst hn
 have bJ:news≠[]:=by intro h0;rw [h0] at bJ;cases bJ
 obtain ⟨xs,o1,o2,o3,o4,o5⟩:=hI.ob i _ bB;have qm:ev l s=v:=hF.gy hs;have pj:=hF.ev x;rw [hx] at pj;generalize rn:ev l x=vx at pj
 cases pj with
 | sl0 a c k=>exact absurd rfl bJ
 | sl b o c _ _ hr _ =>
  have ke:fy k news:=fun r MS=>by
   obtain ⟨j,hj⟩:=List.mem_iff_getElem?.1 MS;refine ⟨(hr j r hj).1,fun g hg=>?_⟩;obtain ⟨q,hq⟩:=List.mem_iff_getElem?.1 hg;exact (hI.fz _ _ _ ((hr j r hj).2 q g hq)).1
  have yB:∀ (rows:List (List GV)) (o:Nat),(∀ (j:Nat) r,rows[j]?=some r->r.length=k/\∀ (q:Nat) g,r[q]?=some g->K b (o+j * k+q)=some g)->∀ (q:Nat) g,rows.flatten[q]?=some g->K b (o+q)=some g:=by
   intro rows
   induction rows with
   | nil=>intro o _ q g hg;simp at hg
   | cons r rows ih =>
    intro o h q g hg;rw [flatten_cons] at hg;have hl:=(h 0 r rfl).1
    by_cases hq:q < r.length
    ·rw [getElem?_append_left hq] at hg;have:=(h 0 r rfl).2 q g hg;simpa using this
    ·rw [getElem?_append_right ah,hl] at hg
     have:=ih (o+k) (fun j r' hj=>by
      have:=h (j+1) r' (by simpa using hj);refine ⟨this.1,fun q g hg=>?_⟩;have:=this.2 q g hg
      rw [show o+(j+1) * k+q=o+k+j * k+q by rw [Nat.succ_mul];omega] at this;exact this) (q - k) g hg
     rw [show o+k+(q - k)=o+q by omega] at this;exact this
  obtain ⟨us,kj,kK⟩:=vQ (K:=K) (β:=β) (H:=w.heap) (b:=b) news.flatten o (fun j g hj=>by
   obtain ⟨hp,u,hu,eT⟩:=hI.fz _ _ _ (yB news o (fun j r hj=>hr j r hj) j g hj)
   exact ⟨u,hu,eT.pc hp⟩)
  have De:us.length=news.length * k:=by
   rw [kj.1,List.length_flatten]
   have:∀ (rows:List (List GV)),fy k rows->(rows.map List.length).sum=rows.length * k:=by
    intro rows
    induction rows with
    | nil=>intro _;simp
    | cons r rows ih =>
     intro hk;rw [List.map_cons,sum_cons,ih (fun r hr=>hk r (mem_cons_of_mem _ hr)),(hk r (mem_cons_self)).1,length_cons,Nat.succ_mul];omega
   exact this news ke
  refine WL.app (base:=0) (v:=v) (n:=rows.length) (m:=news.length) (xs:=xs) (news:=us) qm o2 rn De (fun j u hj=>by rw [fb];exact kK j u hj) (kj.lD (Bm h1)) hb.1 hb.2 (Nat.zero_le _) ?_;intro v' w' how gI oD va;obtain ⟨K',hK,qn,bj⟩:=(hI.yd bB).grow (fz:=0) (oZ bB) o1 ⟨o2,o3⟩ (news:=news) (ns:=us) how gI oD kj ke bJ (fun b bt o v ho hv=>by omega);rw [<-bc,nF] at bj;obtain ⟨a,c,pI,n7⟩:=bj.sQ (oZ bB);rw [nF] at n7;obtain ⟨a',c',rfl⟩:=how.shape;rw [bm] at pI;simp only [length_append] at pI n7 qn;cases pI;exact h _ _ B K' _ w' _ hm n7 ((hF.mono hK qn).put (some dt) (.v _))
end
theorem DG:∀ (us vs:List Value) (o n:Nat),o+us.length<=n->(gK vs o us).take n=gK (vs.take n) o us
 | [],vs,o,n,_=>rfl
 | u::us,vs,o,n,h=>by
  rw [length_cons] at h;rw [gK,gK,DG us _ _ _ ah,Ao _ _ _ ah]
theorem xu (a:List GV):∀ (gs b:List GV) (o:Nat),nS (a++b) (a.length+o) gs=a++nS b o gs
 | [],b,o=>rfl
 | g::gs,b,o=>by rw [nS,nS,zN,Nat.add_assoc,xu a gs]
theorem AM:∀ (gs a b:List GV),a.length=gs.length->nS (a++b) 0 gs=gs++b
 | [],[],b,_=>rfl
 | [],x::a,b,h=>by simp at h
 | g::gs,[],b,h=>by simp at h
 | g::gs,x::a,b,h=>by
  rw [nS,cons_append,bx];have:=xu [g] gs (a++b) 0;simp only [length_cons,length_nil,cons_append,List.nil_append,Nat.zero_add,Nat.add_zero] at this |-;rw [this,AM gs a b (by simpa using h)]
theorem F1 {k:Nat} {gs:List GV} (hg:gs.length=k):∀ {rows:List (List GV)} {i:Nat},fy k rows->i < rows.length->nS rows.flatten (i * k) gs=(rows.set i gs).flatten
 | [],_,_,h=>by simp at h
 | r::rs,0,hk,_=>by
  rw [flatten_cons,List.set_cons_zero,flatten_cons,Nat.zero_mul,AM gs r _ (by rw [hg];exact (hk r mem_cons_self).1)]
 | r::rs,n+1,hk,h=>by
  have hr:=(hk r mem_cons_self).1;rw [flatten_cons,List.set_cons_succ,flatten_cons,<-F1 hg (fun r hr=>hk r (mem_cons_of_mem _ hr)) (by simpa using h),show (n+1) * k=r.length+n * k by rw [Nat.succ_mul];omega,xu]
theorem KD {k:Nat} {gs:List GV} (hg:gs.length=k) (hp:rv gs=true) {rows:List (List GV)} {i:Nat} (h:fy k rows):fy k (rows.set i gs):=fun r hr=>by
 rcases List.mem_or_eq_of_mem_set hr with hr | rfl
 ·exact h r hr
 ·exact ⟨hg,mN hp⟩
section
variable {P:Program} {m:Nat} {ops:Array Oper} {Q:dP} {rest:List Oper} {fr:List GV} {Γ:List Ob} {d:Option Tmp} {ty:TypeId} {pos:String} {af:Array Edge}
theorem GL.ZJ {x y:Operand} {t:TypeId} {agg:Bool} {k:Nat} [hT:Ty P t agg k] {i n idx E:Nat} {rows:List (List GV)} {v:Value} {gs:List GV} (hx:aV fr x=.vp i n k idx 0) (bB:Γ[i]?=some (.vech E k rows v)) (hn:rows.length=n) (ao:idx < rows.length)
  (hy:mo (aV fr y)=some gs) (hk:Nat.beq gs.length k=true) (h1:l8 gs=true) (hp:rv gs=true) (h:GL P m ops Q rest (bu fr d (.v undef)) (oset Γ i (.vech E k (rows.set idx gs) v))):GL P m ops Q (⟨d,.store t x y,ty,pos,af,none⟩::rest) fr Γ:=fun B K β w l hm hI hF=>by
 have hk:gs.length=k:=by simpa using hk
 have Fo:=hF.ev x;rw [hx] at Fo;generalize hv:ev l x=u at Fo
 cases Fo with
 | vp _ _ _ _ _ _ hh =>
  obtain ⟨h0,mm,e1,e2,e3⟩:=hh;obtain ⟨xs,h4,h5,h6,h7,h8⟩:=hI.ob i _ bB;rw [e1] at h4;cases h4;obtain ⟨b,hb,rfl⟩:=e3 hn;obtain ⟨us,kj,kK⟩:=(hF.ev y).cells hy
  have De:us.length=k:=by rw [kK.1,hk]
  have hq:idx * k+k<=rows.length * k:=by
   have:(idx+1) * k<=rows.length * k:=Nat.mul_le_mul_right k ao;rw [Nat.succ_mul] at this;omega
  rcases h5.2 with ⟨e5,e6⟩ | ⟨g0,cap,cur,e5,JC,hg,oH,wU,cR,ki⟩
  ·omega
  ·subst e5;simp only [Value.ownBlock,Option.some.injEq] at hb;subst hb;have Pe:rows.length * k<=cap * k:=Nat.mul_le_mul_right k oH
   refine WL.st (t:=t) (k:=k) hv rfl hg (by rw [kj];simpa using De) (by rw [Nat.add_zero];omega) (by rw [kj];simpa using kK.lD h1) fun w' hs=>?_
   rw [kj,toList_toArray,Nat.add_zero] at hs;obtain ⟨cur⟩:=cur;rw [uj] at hs;simp only [List.size_toArray,toList_toArray] at cR ki
   have how:gC w' 0 E k (.slice (some ⟨g0,0,none⟩) rows.length cap) rows.length (gK xs (idx * k) us) :=
    ⟨by rw [Ai];exact h5.1,.inr ⟨g0,cap,_,rfl,JC,hs.blk,oH,wU,by simp [Ai,cR],by rw [toList_toArray,DG _ _ _ _ ah,ki]⟩⟩
   have eT:bb K β (gK xs (idx * k) us) (nS rows.flatten (idx * k) gs):=kK.gK _ h6;rw [F1 hk h7 ao] at eT
   have eo:(β i).blk=some g0:=by rw [e1];rfl
   have bj:Inv B K β (oset Γ i (.vech E k (rows.set idx gs) (.slice (some ⟨g0,0,none⟩) rows.length cap))) w':=by
    refine ⟨hI.ext.step hs.ext (fun j hj=>?_),hI.kle,hI.ble,hI.loc,hI.fz.ext hs.ext (fun b' o' g' jQ he=>?_),fun j y hj=>?_,fun j hj=>hI.out j (by simpa [bc] using hj),hI.dis,hI.own,hI.kn,hI.tab.step hs.ext (fun j hj=>⟨i,by subst hj;exact eo⟩) (cq.refl K) (fun i b2 h=>.inl ⟨i,h⟩)⟩
    ·subst hj;exact (hI.own i _ eo).symm
    ·subst he;rw [h8 _ rfl] at jQ;cases jQ
    ·rw [bc,getElem?_set] at hj;split at hj
     ·rename_i fq;split at hj
      ·cases hj;subst fq
       exact ⟨_,by rw [List.length_set];exact e1,by rw [List.length_set];exact how,eT,KD hk hp h7,h8⟩
      ·cases hj
     ·rename_i fq;refine (hI.ob j y hj).ext hs.ext (fun b' bt he=>?_) (cq.refl K) (cZ.refl β) rfl (fun _ _ _ h=>h);subst he;exact fq (hI.dis i j _ eo bt)
   exact h B K β w' _ hm bj (hF.put d (.v _))
theorem Ts (n:Nat) (z:List Value):(List.replicate n (ll z)).flatten=zs n z:=by
 induction n with
 | zero=>rfl
 | succ n ih=>rw [List.replicate_succ,flatten_cons,ih,zs]
theorem GL.zo {x:Operand} {t e k gS:Nat} {z:List Value} [hT:nZ P t e k gS] [hZ:o9 P t e k z] {dt:Tmp} {n:Nat} (hx:aV fr x=.v (ii (n:Nat))) (hb:n<=1099511627776/\gS * n<=281474976710656)
  (h:∀ a c,GL P m ops Q rest (bu fr (some dt) (.v (.slice a n c))) (Γ++[.vech e k (List.replicate n (ll z)) (.slice a n c)])) :
  GL P m ops Q (⟨some dt,.makeSlice t x x,ty,pos,af,none⟩::rest) fr Γ:=fun B K β w l hm hI hF=>by
 obtain ⟨hu,⟨i,z0,hi,hz,MX,cR,xB⟩,hk⟩:=hT.parts;have rn:ev l x=ii (n:Nat):=hF.gy hx;obtain ⟨w',hr,h2,h3⟩:=run_make_full (P:=P) (w:=w) 0 t e i z0 k hu hi hz cR .i64 .i64 n (by rw [xB];exact hb.2) (by simp only [maxLen];omega) (Nat.zero_le _)
 have Fv:z0.cells.toList=z:=by
  have h4:=hZ.zero;rw [hi] at h4;simp only [Option.bind_some,hz,Option.some.injEq] at h4;have hl:=hZ.zl
  by_cases h1:k=1
  ·rw [if_pos h1] at h4;rw [h4,hZ.one h1];subst h1
   match z,hl with
   | [a],_=>rfl
  ·rw [if_neg h1] at h4;rw [h4];rfl
 have EY:(madeCells z0.cells (n * k)).toList=(List.range (n * k)).map fun j=>z.getD (j % k) undef:=by
  unfold madeCells;rw [Array.toList_map,Array.toList_range];apply List.map_congr_left;intro j _
  have ao:j % k < z0.cells.size:=by rw [MX];exact Nat.mod_lt _ hk
  rw [MX,getElem!_pos z0.cells (j % k) ao,<-Fv,List.getD_eq_getElem?_getD,Array.getElem?_toList,Array.getElem?_eq_getElem ao];rfl
 rw [EY] at h2;have eT:=GG (K:=K) (β:=β) (n:=n) hZ.zl hZ.pos;rw [<-Ts] at eT
 have eH:fy k (List.replicate n (ll z)):=fun r hr=>by
  have:=List.eq_of_mem_replicate hr;subst this;refine ⟨by rw [<-hZ.zl];simp [ll],fun g hg=>?_⟩;unfold ll at hg;obtain ⟨v,_,rfl⟩:=List.mem_map.1 hg;rfl
 have gI:Ext ic w w':=⟨h3.os,h3.tape,h3.output,h3.size,fun j hj _=>h3.block j hj (by simp)⟩;have bj:=hI.BJ (x:=.slice (some ⟨w.heap.size,0,none⟩) n n) (rows:=List.replicate n (ll z)) gI (by rw [List.length_replicate];exact h2) (fun b hb=>by cases hb;exact Nat.le_refl _) eT eH
 have E0:(Γ++[Ob.vec e k 0 (List.replicate n (ll z))])[Γ.length]?=some (Ob.vec e k 0 (List.replicate n (ll z))):=by simp
 obtain ⟨a,c,pI,n7⟩:=bj.sQ E0;rw [bm] at pI
 injection pI with zc eL
 injection zc with xy hb4 hb5
 subst xy hb5
 have hos:oset (Γ++[.vec e k 0 (List.replicate n (ll z))]) Γ.length (.vech e k (List.replicate n (ll z)) (.slice (some ⟨w.heap.size,0,none⟩) (List.replicate n (ll z)).length n))=Γ++[.vech e k (List.replicate n (ll z)) (.slice (some ⟨w.heap.size,0,none⟩) (List.replicate n (ll z)).length n)]:=by
  rw [bc];simp
 rw [hos,List.length_replicate] at n7;refine WL.val (v:=.slice (some ⟨w.heap.size,0,none⟩) n n) (w':=w') (by simp [execOp,rn,hr]) ?_;exact h _ _ B K _ w' _ hm n7 ((hF.mono (cq.refl K) (fV (by rw [hI.out _ (Nat.le_refl _)];trivial))).put (some dt) (.v _))
end
end Go.Xg
