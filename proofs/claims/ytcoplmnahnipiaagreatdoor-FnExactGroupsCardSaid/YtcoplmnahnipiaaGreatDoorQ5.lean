/- Part 5 of proofs that are told in their last texts. -/
import Derived.Test.YtcoplmnahnipiaaGreatDoorQ4
import Derived.IntWalk
import Derived.Laws.IdiomStrings
import Derived.Test.YtcoplmnahnipiaaGreatDoorProg
import Derived.KernelRfl
import Derived.Test.YtcoplmnahnipiaaGreatDoorQ1
import Derived.Test.YtcoplmnahnipiaaGreatDoorQ2
import Derived.Deep.Slices
import Derived.Deep.Fields
import Derived.ChangeSame
import Derived.Lib.SmallJoins
import Derived.SliceStrings
import Derived.ChangeSlices
import Derived.Lib.LaidU8
import Derived.Shelf.Vars
import Derived.Test.YtcoplmnahnipiaaGreatDoorQ3
import Derived.Laws.Bits128
import Derived.Lib.AppendStr
import Derived.Laws.OwnMore
open List (cons_append eq_nil_of_length_eq_zero ext_getElem flatten_cons getElem?_append_left getElem?_append_right getElem?_eq_getElem getElem?_map getElem?_set getElem_mem length_append length_cons length_map length_nil map_map mem_cons_of_mem mem_cons_self mem_map mem_of_getElem? sum_cons take_add_one take_length take_of_length_le toList_toArray)
set_option linter.unusedVariables false
set_option linter.unusedSimpArgs false
set_option maxRecDepth 100000
namespace Go.Xg
open Go.RowKit Go.Xw
section
variable {P:Program} {m:Nat} {Q:dB} {fr:List GV} {Γ:List Ob} {ops:Array Oper} {rest:List Oper} {d:Option Tmp} {op:Op} {ty:TypeId} {pos:String} {af:Array Edge}
theorem GW.join {c y:Code} (K:List GV->List Ob->Prop) (h1:GW P m c (aU (yZ m K) Q) fr Γ) (h2:∀ fr Γ,K fr Γ->GW P m y Q fr Γ):GW P m c (aU (GW P m y Q) Q) fr Γ:=by
 refine h1.mono fun e fr Γ hq=>?_
 cases e with
 | normal=>obtain ⟨b7,aK,hw,hk⟩:=hq;exact GW.wk hw (h2 _ _ hk)
 | _=>exact hq
theorem YG.jr {x y:Operand} {t e:TypeId} {k:Nat} [hT:mi P t e k] {rows:List (List GV)} {kk:IntKind} {n:Int} {i:Nat} {r:List GV} (hx:aX fr x=.sl k rows) (hy:aX fr y=.v (.int kk n)) (hr:rows[i]?=some r) (hi:n=(i:Int)):YG P (.indexAddr t x y) fr Γ (.box r 0):=by
 subst hi;exact YG.so hx hy hr
def ma:List (List GV)->Bool
 | []=>true
 | r::rs=>l9 r&&ma rs
theorem Bm {rows:List (List GV)} (h:ma rows=true):l9 rows.flatten=true:=by
 induction rows with
 | nil=>rfl
 | cons r rs ih =>
  simp only [ma,Bool.and_eq_true] at h
  have YZ:∀ (a b:List GV),l9 a=true->l9 b=true->l9 (a++b)=true:=by
   intro a
   induction a with
   | nil=>intro b _ hb;exact hb
   | cons x a xS =>
    intro b ha hb;simp only [l9,Bool.and_eq_true] at ha;simp only [cons_append,l9,Bool.and_eq_true];exact ⟨ha.1,xS b ha.2 hb⟩
  rw [flatten_cons];exact YZ _ _ h.1 (ih h.2)
theorem GL.app {s x:Operand} {t e k gT:Nat} [hT:n7 P t e k gT] {i n fz:Nat} {rows news:List (List GV)} (hx:aX fr x=.sl k news) (hs:aX fr s=.vec i n) (bz:Γ[i]?=some (.vec e k fz rows)) (hn:rows.length=n) (h1:ma news=true) (bP:news.isEmpty=false)
  (hb:n+news.length<=9223372036854775807/\(n+news.length) * gT<=140737488355328)
  (h:GL P m ops Q rest (br fr d (.vec i (n+news.length))) (oset Γ i (.vec e k fz (rows++news)))) :
  GL P m ops Q (⟨d,.call ⟨.builtin .append,#[s,x],#[t,t]⟩,ty,pos,af,none⟩::rest) fr Γ:=fun B K β w l hm hI hF=>by
 subst hn
 have bP:news≠[]:=by intro h0;rw [h0] at bP;cases bP
 obtain ⟨h0,xs,o1,o2,o3,o4,o5,o6⟩:=hI.ob i _ bz;have th:=hF.ev s;rw [hs] at th
 have qy:ev l s=h0:=by
  generalize hv:ev l s=v at th
  cases th with
  | vec _ _ a c hh =>
   obtain ⟨h',m',e1,e2,e3⟩:=hh;rw [o1] at e1;cases e1;exact e3 rfl
 have rG:=hF.ev x;rw [hx] at rG;generalize rH:ev l x=v at rG
 cases rG with
 | sl0 a c k=>exact absurd rfl bP
 | sl b o c _ _ hr _ =>
  have lh:fy k news:=fun r M0=>by
   obtain ⟨j,hj⟩:=List.mem_iff_getElem?.1 M0;refine ⟨(hr j r hj).1,fun g hg=>?_⟩;obtain ⟨q,hq⟩:=List.mem_iff_getElem?.1 hg;exact (hI.fz _ _ _ ((hr j r hj).2 q g hq)).1
  have yD:∀ (rows:List (List GV)) (o:Nat),(∀ (j:Nat) r,rows[j]?=some r->r.length=k/\∀ (q:Nat) g,r[q]?=some g->K b (o+j * k+q)=some g)->∀ (q:Nat) g,rows.flatten[q]?=some g->K b (o+q)=some g:=by
   intro rows
   induction rows with
   | nil=>intro o _ q g hg;simp at hg
   | cons r rows ih =>
    intro o h q g hg;rw [flatten_cons] at hg;have hl:=(h 0 r rfl).1
    by_cases hq:q < r.length
    ·rw [getElem?_append_left hq] at hg;have:=(h 0 r rfl).2 q g hg;simpa using this
    ·rw [getElem?_append_right (by omega),hl] at hg
     have:=ih (o+k) (fun j r' hj=>by
      have:=h (j+1) r' (by simpa using hj);refine ⟨this.1,fun q g hg=>?_⟩;have:=this.2 q g hg
      rw [show o+(j+1) * k+q=o+k+j * k+q by rw [Nat.succ_mul];omega] at this;exact this) (q - k) g hg
     rw [show o+k+(q - k)=o+q by omega] at this;exact this
  obtain ⟨us,j0,kC⟩:=vU (K:=K) (β:=β) (H:=w.heap) (b:=b) news.flatten o (fun j g hj=>by
   obtain ⟨hp,u,hu,eU⟩:=hI.fz _ _ _ (yD news o (fun j r hj=>hr j r hj) j g hj)
   exact ⟨u,hu,eU.pc hp⟩)
  have Dd:us.length=news.length * k:=by
   rw [j0.1,List.length_flatten]
   have:∀ (rows:List (List GV)),fy k rows->(rows.map List.length).sum=rows.length * k:=by
    intro rows
    induction rows with
    | nil=>intro _;simp
    | cons r rows ih =>
     intro hk;rw [List.map_cons,sum_cons,ih (fun r hr=>hk r (mem_cons_of_mem _ hr)),(hk r (mem_cons_self)).1,length_cons,Nat.succ_mul];omega
   exact this news lh
  refine WL.app (base:=0) (v:=h0) (n:=rows.length) (m:=news.length) (xs:=xs) (news:=us) qy o2 rH Dd (fun j u hj=>by rw [fc];exact kC j u hj) (j0.lC (Bm h1)) hb.1 hb.2 (Nat.zero_le _) ?_;intro v' w' how gI tY vh
  obtain ⟨K',hK,qz,bg⟩:=hI.grow bz o1 ⟨o2,o3⟩ (news:=news) (ns:=us) how gI tY j0 lh bP (fun b bq o v ho hv=>by
   rcases vh with h7 | h7
   ·exact h7.c hv (fun h=>h)
   ·have fV:o < xs.length:=by rw [o2.1];exact Nat.lt_of_lt_of_le ho (Nat.mul_le_mul_right k o6)
    obtain ⟨b2,c2,pk,_,_,jJ⟩:=o2.cells.2 (by intro h0;rw [h0] at fV;simp at fV)
    have eI:b2=b:=by rw [pk] at bq;cases bq;rfl
    subst eI;have Df:=jJ o xs[o] (by simp [fV]);rw [fc,hv] at Df;cases Df;obtain ⟨b3,c3,MO,_,_,MK⟩:=how.cells.2 (by intro h0;have:xs=[]:=(List.append_eq_nil_iff.1 h0).1;rw [this] at fV;simp at fV)
    have xC:b3=b2:=by rw [MO,bq] at h7;cases h7;rfl
    subst xC
    rw [<-fc];exact MK o _ (by rw [getElem?_append_left fV];simp [fV]))
  rw [<-bd] at bg;refine h B K' _ w' _ hm bg ((hF.mono hK qz).put d ?_);obtain ⟨a,c,rfl⟩:=how.shape;exact .vec i _ a c ⟨_,_,bo,by simp,fun _=>by simp⟩
theorem Wk.Kw {i o:Nat} {T:TypeId} {cs:List GV} (E k:Nat) (hi:Γ[i]?=some (.box T cs)) (ho:cs[o]?=some (.v (.slice none 0 0))):Wk m fr Γ fr (oset Γ i (.box T (bs cs o (.vec Γ.length 0)))++[.vec E k 0 []]):=fun B K β w l hm hI hF=>by
 have b8:β Γ.length=.no:=hI.out _ (Nat.le_refl _);have ak:i < Γ.length:=(List.getElem?_eq_some_iff.1 hi).1;have bg:=hI.El (w':=w) (E:=E) (k:=k) (x:=.slice none 0 0) (xs:=[]) (rows:=[]) (Ext.refl w) (gA.nil w 0 E k) (fun b hb=>by cases hb) ba.nil (fun r hr=>by cases hr);have hle:cY β (eZ β Γ.length (.gr (.slice none 0 0) ([]:List (List GV)).length)):=gM (by rw [b8];trivial);refine ⟨K,_,⟨bg.ext,bg.kle,bg.ble,bg.loc,bg.fz,fun j x hj=>?_,fun j hj=>bg.out j (by simp [bd] at hj |-;exact hj),bg.dis,bg.own,bg.kn,bg.tab⟩,hF.mono (cl.refl K) hle⟩
 by_cases oe:j=i
 ·subst oe;rw [getElem?_append_left (by simp [bd];exact ak),bd,getElem?_set] at hj;simp [ak] at hj;subst hj;obtain ⟨b,vs,h1,h2,h3,h4⟩:=bg.ob j (.box T cs) (by rw [getElem?_append_left ak];exact hi);refine ⟨b,vs,h1,h2,?_,h4⟩
  have gen:∀ (vs:List Value) (cs:List GV) (o:Nat),ba K (eZ β Γ.length (.gr (.slice none 0 0) ([]:List (List GV)).length)) vs cs->cs[o]?=some (.v (.slice none 0 0))->ba K (eZ β Γ.length (.gr (.slice none 0 0) ([]:List (List GV)).length)) vs (bs cs o (.vec Γ.length 0)):=by
   intro vs
   induction vs with
   | nil=>intro cs o h ho;have:cs=[]:=eq_nil_of_length_eq_zero h.1.symm;subst this;simp at ho
   | cons v vs ih =>
    intro cs o h ho
    cases cs with
    | nil=>simp at ho
    | cons c cs =>
     obtain ⟨a1,a2⟩:=h.nM
     cases o with
     | zero =>
      cases ho;have hv:=Rel.eC a1;subst hv;exact .cons (.vec _ 0 none 0 ⟨_,_,bo,Nat.le_refl _,fun _=>rfl⟩) a2
     | succ o=>exact .cons a1 (ih cs o a2 (by simpa using ho))
  exact gen vs cs o h3 ho
 ·refine bg.ob j x ?_
  by_cases oE:j < Γ.length
  ·rw [getElem?_append_left (by simp [bd];exact oE),bd,getElem?_set,if_neg (fun e=>oe e.symm)] at hj;rw [getElem?_append_left oE];exact hj
  ·rw [getElem?_append_right (by simp [bd];omega)] at hj;rw [getElem?_append_right (by omega)];simpa [bd] using hj
theorem Wk.yO {i o j n E k fz:Nat} {T:TypeId} {cs:List GV} {rows:List (List GV)} (hi:Γ[i]?=some (.box T cs)) (ho:cs[o]?=some (.vec j n)) (eQ:Nat.beq i j=false) (hj:Γ[j]?=some (.vec E k fz rows)) (hn:rows.length=n):Wk m fr Γ fr (oset (oset Γ j (.vec E k n rows)) i (.box T (bs cs o (.sl k rows)))):=fun B K β w l hm hI hF=>by
 subst hn
 have bP:i≠j:=by intro e;subst e;simp at eQ
 obtain ⟨h0,xs,o1,o2,o3,o4,o5,o6⟩:=hI.ob j _ hj;obtain ⟨K',hK,C7,bg⟩:=hI.jw hj;rw [<-bd] at bg;refine ⟨K',β,⟨bg.ext,bg.kle,bg.ble,bg.loc,bg.fz,fun q x hq=>?_,fun q hq=>bg.out q (by simpa [bd] using hq),bg.dis,bg.own,bg.kn,bg.tab⟩,hF.mono hK (cY.refl β)⟩
 by_cases hqi:q=i
 ·subst hqi;have ak:q < Γ.length:=(List.getElem?_eq_some_iff.1 hi).1;rw [bd,getElem?_set] at hq;simp [bd,ak] at hq;subst hq;obtain ⟨b,vs,h1,h2,h3,h4⟩:=bg.ob q (.box T cs) (by rw [bd,getElem?_set,if_neg (fun e=>bP e.symm)];exact hi);refine ⟨b,vs,h1,h2,?_,h4⟩
  have gen:∀ (vs:List Value) (cs:List GV) (o:Nat),ba K' β vs cs->cs[o]?=some (.vec j rows.length)->ba K' β vs (bs cs o (.sl k rows)):=by
   intro vs
   induction vs with
   | nil=>intro cs o h ho;have:cs=[]:=eq_nil_of_length_eq_zero h.1.symm;subst this;simp at ho
   | cons v vs ih =>
    intro cs o h ho
    cases cs with
    | nil=>simp at ho
    | cons c cs =>
     obtain ⟨a1,a2⟩:=h.nM
     cases o with
     | zero =>
      cases ho;refine .cons ?_ a2
      cases a1 with
      | vec _ _ a c hh =>
       obtain ⟨h',m',e1,e2,e3⟩:=hh;rw [o1] at e1;cases e1;have e4:=e3 rfl
       rcases o2.2 with ⟨e5,e6⟩ | ⟨g,cap,cu,e5,_,_,oG,_⟩
       ·have:rows=[]:=eq_nil_of_length_eq_zero e6;subst this;exact .sl0 _ _ _
       ·rw [e5] at e4;cases e4;refine .sl g 0 _ k rows (fun j r hr=>⟨(o4 r (mem_of_getElem? hr)).1,fun q g' lr=>?_⟩) oG;rw [Nat.zero_add];exact C7 _ g o1 (by rw [e5];rfl) _ g' (tC o4 hr lr)
     | succ o=>exact .cons a1 (ih cs o a2 (by simpa using ho))
  exact gen vs cs o h3 ho
 ·rw [bd,getElem?_set,if_neg (fun e=>hqi e.symm)] at hq;exact bg.ob q x hq
end
class Jv (P:Program) (t:TypeId) (k:outParam IntKind):Prop where
 und:P.underlying t=some (.int k)
class Lg (P:Program) (t:TypeId):Prop where
 und:∃ e,P.underlying t=some (.slice e)/\P.underlying e=some (.int .u8)
theorem Lg.mk' {P:Program} {t e:TypeId} (h:P.underlying t=some (.slice e)) (k:P.underlying e=some (.int .u8)):Lg P t:=⟨e,h,k⟩
section
variable {P:Program} {m:Nat} {Q:dB} {fr:List GV} {Γ:List Ob} {ops:Array Oper} {rest:List Oper} {d:Option Tmp} {op:Op} {ty:TypeId} {pos:String} {af:Array Edge}
theorem YG.Aq {x y:Operand} {t t':TypeId} {a b:Int} (hx:aX fr x=.v (.int .u8 a)) (hy:aX fr y=.v (.int .u8 b)) (hb:0<=a - b/\a - b<=255):YG P (.binOp .sub t x y t') fr Γ (.v (.int .u8 (a - b))) :=
 YG.v2 hx hy fun l w h k d ty pos af=>by simp [execOp,eqGuard,h,k,binOp,Op.intArith,IntWalk.u8_in _ hb]
theorem YG.quo {x y:Operand} {t t':TypeId} {a b:Int} (hx:aX fr x=.v (ii a)) (hy:aX fr y=.v (ii b)) (hb:0<=a/\a<=9223372036854775807/\1<=b):YG P (.binOp .quo t x y t') fr Γ (.v (ii (a / b))) :=
 YG.v2 hx hy fun l w h k d ty pos af=>by
  have bP:b≠0:=by omega
  simp [execOp,eqGuard,h,k,binOp,Op.intDiv,bP,IntWalk.i64_quo a b hb]
theorem YG.rem {x y:Operand} {t t':TypeId} {a b:Int} (hx:aX fr x=.v (ii a)) (hy:aX fr y=.v (ii b)) (hb:0<=a/\1<=b):YG P (.binOp .rem t x y t') fr Γ (.v (ii (a % b))) :=
 YG.v2 hx hy fun l w h k d ty pos af=>by
  have bP:b≠0:=by omega
  simp [execOp,eqGuard,h,k,binOp,Op.intDiv,bP,IntWalk.rem_in a b hb.1]
theorem YG.xn {x:Operand} {s t:TypeId} {k k':IntKind} {a:Int} [hS:Jv P s k'] [hT:Jv P t k] (hx:aX fr x=.v (.int k' a)) (hw:k.wrap a=a):YG P (.convert s t x) fr Γ (.v (.int k a)) :=
 YG.v1 hx fun l w h d ty pos af=>by simp [execOp,h,convert,run_underlying hS.und,run_underlying hT.und,Conv.intToInt,hw]
theorem YG.str {x:Operand} {s t:TypeId} {l:ah} {rows:List (List GV)} [hS:Lg P s] [hT:pH P t] (hx:aX fr x=.sl 1 rows) (hr:rows=l.map fun c=>[.v (.int .u8 (c.toNat:Int))]):YG P (.convert s t x) fr Γ (.v (sv l)):=fun B K β w fl hI hF=>by
 subst hr;obtain ⟨e,h1,h2⟩:=hS.und;have h:=hF.ev x;rw [hx] at h;generalize hv:ev fl x=v at h;refine ⟨_,fun d ty pos af=>?_,.v _⟩
 have key:(convert s t v).run P w=.ok (sv l) w:=by
  generalize lh:(l.map fun c=>[GV.v (.int .u8 (c.toNat:Int))])=rows at h
  cases h with
  | sl0 a c =>
   have:l=[]:=by cases l with | nil=>rfl | cons x l=>simp at lh
   subst this
   cases a with
   | none=>rw [run_convert_bytes_string w s t e none 0 c h1 h2 hT.und];simp [Conv.bytesToString];rfl
   | some a=>exact run_convert_bytes_back w s t e a c [] h1 h2 hT.und (fun j hj=>by simp at hj)
  | sl b o c _ _ hc _ =>
   have hl:rows.length=l.length:=by rw [<-lh];simp
   rw [hl];refine run_convert_bytes_back w s t e ⟨b,o,none⟩ c l h1 h2 hT.und (fun j hj=>?_)
   have bt:rows[j]?=some [GV.v (.int .u8 (l[j].toNat:Int))]:=by rw [<-lh];simp [hj]
   obtain ⟨_,u,hu,eU⟩:=hI.fz _ _ _ ((hc j _ bt).2 0 _ rfl);rw [pI,fc];have:=Rel.eC eU;subst this;simpa using hu
 simp [execOp,hv,key]
end
structure Hid (B:Prop):Prop where
 h:B
structure sJ (aO:List Nat) (C:Prop):Prop where
 h:C
section
variable {P:Program} {m:Nat} {ops:Array Oper} {Q:dB} {rest:List Oper} {fr:List GV} {Γ:List Ob} {d:Option Tmp} {ty:TypeId} {pos:String} {af:Array Edge}
theorem GL.uX {f:FuncId} [hf:aH P f] {aO:List Nat} {args:List Operand} {mH:Array TypeId} {gs:List GV} {gP rb:List Ob} {g:GV} (hc:sJ aO (GF P f gs gP g rb)) (ha:kK (args.map (aX fr)) (lF (bV aO Γ.length) gs)) (eF:gK aO Γ.length=true)
  (bz:seen (bV aO Γ.length) Γ aO gP) (hl:Nat.ble aO.length rb.length=true) (h:GL P m ops Q rest (br fr d (dx (bV aO Γ.length) g)) (dP Γ aO (rb.map (Ob.dx (bV aO Γ.length))))) :
  GL P m ops Q (⟨d,.call ⟨.value (.func f),args.toArray,mH⟩,ty,pos,af,none⟩::rest) fr Γ:=GL.JB aO hc.h ha eF bz hl h
theorem GL.TJ {f:FuncId} [hf:aH P f] {aO:List Nat} {args:List Operand} {mH:Array TypeId} {gs:List GV} {gP:List Ob} {R:GV->List Ob->Prop} (hc:sJ aO (GC P f gs gP R)) (ha:kK (args.map (aX fr)) (lF (bV aO Γ.length) gs)) (eF:gK aO Γ.length=true)
  (bz:seen (bV aO Γ.length) Γ aO gP) (h:∀ g aK,R g aK->aO.length<=aK.length/\GL P m ops Q rest (br fr d (dx (bV aO Γ.length) g)) (dP Γ aO (aK.map (Ob.dx (bV aO Γ.length))))) :
  GL P m ops Q (⟨d,.call ⟨.value (.func f),args.toArray,mH⟩,ty,pos,af,none⟩::rest) fr Γ:=GL.AF aO hc.h ha eF bz h
theorem GL.LL {f:FuncId} [hf:aH P f] {aO:List Nat} {x:Operand} {first cap:List GV} {args:List Operand} {mH:Array TypeId} {gs:List GV} {gP:List Ob} {R:GV->List Ob->Prop} (hc:sJ aO (GC P f gs gP R)) (hx:aX fr x=.fn (.func f) first cap) (ha:first++args.map (aX fr)++cap=lF (bV aO Γ.length) gs) (eF:gK aO Γ.length=true)
  (bz:seen (bV aO Γ.length) Γ aO gP) (h:∀ g aK,R g aK->aO.length<=aK.length/\GL P m ops Q rest (br fr d (dx (bV aO Γ.length) g)) (dP Γ aO (aK.map (Ob.dx (bV aO Γ.length))))) :
  GL P m ops Q (⟨d,.call ⟨.value x,args.toArray,mH⟩,ty,pos,af,none⟩::rest) fr Γ:=GL.vS aO hc.h hx ha eF bz h
theorem GL.LK {f:FuncId} [hf:aH P f] {aO:List Nat} {x:Operand} {args:List Operand} {mH:Array TypeId} {gs:List GV} {gP:List Ob} {R:GV->List Ob->Prop} (hc:sJ aO (GC P f gs gP R)) (hx:aX fr x=.v (.func (.func f) #[] #[])) (ha:args.map (aX fr)=lF (bV aO Γ.length) gs) (eF:gK aO Γ.length=true)
  (bz:seen (bV aO Γ.length) Γ aO gP) (h:∀ g aK,R g aK->aO.length<=aK.length/\GL P m ops Q rest (br fr d (dx (bV aO Γ.length) g)) (dP Γ aO (aK.map (Ob.dx (bV aO Γ.length))))) :
  GL P m ops Q (⟨d,.call ⟨.value x,args.toArray,mH⟩,ty,pos,af,none⟩::rest) fr Γ:=GL.Wj aO hc.h hx ha eF bz h
end
theorem bQ {A : Prop} (s : A := by first | omega | assumption | (simp only [List.length_append,List.length_cons,List.length_nil];omega)) : A := s
theorem aY {A : Prop} (s : A := by first | rfl | assumption) : A := s
theorem qk {A : Prop} (s : A := by apply K.len;first | exact YG.WT rfl | exact YG.PO rfl | exact YG.ZE rfl | exact YG.ZF rfl | exact YG.lenA rfl) : A := s
theorem cj {A : Prop} (s : A := by first | exact .inr rfl | exact .inl rfl) : A := s
theorem rR {A : Prop} (s : A := by apply K.ld;first | exact YG.Ye rfl rfl aY | exact YG.Vl rfl rfl rfl rfl | exact YG.ldV rfl rfl aY aY aY | exact YG.Nt rfl rfl aY aY aY) : A := s
theorem Ol {A : Prop} (s : A := by apply K.ld;first | exact YG.Ye rfl rfl aY | exact YG.Yd rfl aY | exact YG.Vl rfl rfl rfl rfl | exact YG.Vk rfl rfl rfl | exact YG.ldV rfl rfl aY aY aY | exact YG.Nt rfl rfl aY aY aY) : A := s
theorem nO {A : Prop} (s : A := by apply K.nck;first | exact YG.ZJ rfl | exact YG.ZI rfl) : A := s
theorem oO {A : Prop} (s : A := by apply K.pick;first | exact YG.RI rfl aY | exact YG.RH rfl aY) : A := s
theorem bJ {A : Prop} (s : A := by assumption) : A := s
theorem ei {A : Prop} (s : A := by omega) : A := s
theorem BB {A : Prop} (s : A := by apply K.bin;first | exact YG.go rfl | exact YG.uz rfl rfl ei | exact YG.vX rfl rfl | exact YG.wB rfl rfl | exact YG.AH rfl rfl | exact YG.Bh rfl rfl | exact YG.cat rfl rfl ei | exact YG.cat rfl rfl (by simp only [List.length_append,List.length_cons,List.length_nil];omega) | exact YG.dK rfl rfl ei | exact YG.add rfl rfl ei | exact YG.sub rfl rfl ei | exact YG.mul rfl rfl ei | exact YG.Aq rfl rfl ei | exact YG.quo rfl rfl ei | exact YG.rem rfl rfl ei | exact YG.sq rfl rfl) : A := s
theorem BC {A : Prop} (s : A := by apply K.Gg;first | exact YG.Ap rfl rfl rfl ei | exact YG.Ao rfl rfl ei | exact YG.An rfl rfl ei | exact YG.tG 1 rfl rfl rfl aY) : A := s
theorem RR {A : Prop} (s : A := by apply K.idx;first | exact YG.idxV rfl rfl rfl aY ei | exact YG.ct 0 rfl rfl rfl bQ | exact YG.ct 1 rfl rfl rfl bQ | exact YG.ct 2 rfl rfl rfl bQ | exact YG.ct 3 rfl rfl rfl bQ | exact YG.ct 4 rfl rfl rfl bQ | exact YG.ct 5 rfl rfl rfl bQ | exact YG.ct 6 rfl rfl rfl bQ) : A := s
theorem RT {A : Prop} (s : A := by apply K.idx;first | exact YG.so rfl rfl bJ | exact YG.jr rfl rfl bJ rfl | exact YG.jr rfl rfl bJ ei | exact YG.uG rfl rfl ei | exact YG.idxV rfl rfl rfl aY ei | exact YG.ct 0 rfl rfl rfl bQ | exact YG.ct 1 rfl rfl rfl bQ | exact YG.ct 2 rfl rfl rfl bQ | exact YG.ct 3 rfl rfl rfl bQ | exact YG.ct 4 rfl rfl rfl bQ | exact YG.ct 5 rfl rfl rfl bQ | exact YG.ct 6 rfl rfl rfl bQ) : A := s
theorem yg {A : Prop} (s : A := by first | rfl | exact IntWalk.i64_in _ ei | exact IntWalk.u8_in _ ei | assumption) : A := s
theorem GG {A : Prop} (s : A := by apply K.idx;first | exact YG.so rfl rfl bJ | exact YG.jr rfl rfl bJ rfl | exact YG.jr rfl rfl bJ ei | exact YG.uG rfl rfl ei) : A := s
theorem oP {A : Prop} (s : A := by apply K.Cg;first | exact YG.mkfn0 | exact YG.Cg) : A := s
theorem qi {A : Prop} (s : A := by apply K.ld;first | exact YG.Yd rfl aY | exact YG.Vk rfl rfl rfl) : A := s
theorem Oo {A : Prop} (s : A := by apply K.TX;first | exact YG.T0 rfl | exact YG.TY rfl | exact YG.fldV rfl rfl aY | exact YG.TZ rfl rfl aY) : A := s
theorem Ld {A : Prop} (s : A := by first | exact YG.mv | exact YG.tQ | exact BB | exact Oo | exact Ol | exact qk | exact nO | exact oO | exact RT | exact YG.ext rfl rfl | exact YG.go rfl | exact BC | exact YG.qL rfl rfl bJ | exact YG.idxSC rfl rfl bJ rfl | exact oP | exact YG.build rfl | exact YG.neg rfl ei | exact YG.qG rfl rfl | exact YG.xn rfl yg | exact YG.str rfl aY) : A := s
theorem qj {A : Prop} (s : A := by apply K.TX;first | exact YG.T0 rfl | exact YG.TY rfl) : A := s
theorem rS {A : Prop} (s : A := by apply K.TX;first | exact YG.fldV rfl rfl aY | exact YG.TZ rfl rfl aY) : A := s
theorem RQ {A : Prop} (s : A := by first | exact rR | exact RR | exact rS | exact YG.rO 1 rfl rfl aY aY | exact YG.mv | exact YG.tQ | exact BB | exact qj | exact qi | exact qk | exact nO | exact oO | exact GG | exact YG.ext rfl rfl | exact YG.go rfl | exact BC | exact YG.qL rfl rfl bJ | exact YG.idxSC rfl rfl bJ rfl | exact oP | exact YG.build rfl | exact YG.neg rfl ei | exact YG.qG rfl rfl | exact YG.xn rfl yg | exact YG.str rfl aY) : A := s
theorem Om {A : Prop} (s : A := by first | exact rR | exact RR | exact rS | exact YG.rO 1 rfl rfl aY aY) : A := s
theorem iO {A:Prop} (s:A:=by repeat (first | exact gC.n | (apply gC.w;(· decide +kernel)) | (apply gC.y;(· first | (apply YQ.t;(· exact rfl);(· exact rfl);(· exact RQ)) | (apply YQ.t;(· exact rfl);(· apply zP;(· exact rfl);(· first | exact rfl | assumption));(· exact RQ)) | (apply YQ.f;(· exact rfl);(· apply B0;(· exact rfl);(· first | exact rfl | assumption))))))):A:=s
theorem dh {A:Prop} (s:A:=by (try simp only [br,bs,aX,cE,List.length_cons,List.length_nil,Nat.reduceAdd,dx,lF,bV]);rfl):A:=s
theorem en {A:Prop} (s:A:=by (try simp only [List.cons_append,List.nil_append,oset,nV,bs,cE,aX,dP,List.map_cons,List.map_nil,Ob.dx,dx,lF,bV]);rfl):A:=s
theorem wP {A:Prop} (s:A:=by simp only [br,bs,aX,cE];rfl):A:=s
theorem kH {A:Prop} (s:A:=by first | exact kK.refl | (repeat (first | exact kK.nil | exact mg.refl | exact mg.nil | exact mg.U | exact mg.fn0 | refine kK.cons ?_ ?_ | refine mg.agg ?_))):A:=s
theorem mJ {A:Prop} (s:A:=by first | exact trivial | exact ⟨rfl,trivial⟩ | exact ⟨rfl,rfl,trivial⟩ | exact ⟨rfl,rfl,rfl,trivial⟩ | exact ⟨rfl,rfl,rfl,rfl,rfl,trivial⟩):A:=s
theorem ae {A B:Prop} (h:B) (s:Hid B->A:=by intro hQ;(repeat (first | ((first | (apply GL.q;(· exact Ld)) | refine GL.nil ?_ | refine bb ?_ | refine GW.seq ?_ | refine GW.region ?_ | refine GW.skip ?_ | refine gE ?_ | refine GW.block ?_ | (apply GL.gt;(· exact rfl);(· first | exact rfl | assumption)) | (apply GL.gf;(· exact rfl);(· first | exact rfl | assumption)) | (apply GL.gu;(· exact rfl)) | (apply Lq;(· exact rfl);(· first | exact rfl | assumption)) | (apply Lp;(· exact rfl);(· first | exact rfl | assumption)));try refine GN wP ?_) | ((first | (apply GL.alloc;(· simp only [lf,Value.cells,List.map_cons,List.map_nil];rfl)) | (apply GL.box;(· exact rfl)) | (apply GL.st;(· exact rfl);(· exact rfl);(· exact rfl);(· exact rfl);(· exact rfl);(· exact rfl)));refine rq dh en ?_)));exact hQ.1):A:=s ⟨h⟩
theorem ar {A B:Prop} (h:B) (s:Hid B->A:=by intro hQ;(repeat ((first | (apply Z2;(· exact rfl)) | (apply Z1;(· exact rfl)) | (apply OP;(· exact rfl);(· intro Γ;(first | exact BB | exact qj | exact qi | exact qk | exact nO | exact GG | exact YG.ext rfl rfl | exact YG.go rfl | exact BC | exact YG.qL rfl rfl bJ | exact YG.idxSC rfl rfl bJ rfl | exact oP | exact YG.build rfl | exact YG.neg rfl ei | exact YG.qG rfl rfl | exact YG.xn rfl yg | exact YG.str rfl aY))) | (apply Ym;(· exact rfl);(· exact rfl);(· first | exact rfl | assumption)) | (apply Yl;(· exact rfl);(· exact rfl);(· first | exact rfl | assumption)) | (apply Yn;(· exact rfl);(· exact rfl);(· first | exact rfl | assumption)) | (apply OQ;(· exact rfl);(· exact Om)) | (apply Xt;(· exact rfl);(· exact rfl);(· first | exact rfl | assumption);(· intro Γ;(first | exact YG.mv | exact YG.tQ | exact BB | exact qj | exact qi | exact qk | exact nO | exact oO | exact GG | exact YG.ext rfl rfl | exact YG.go rfl | exact BC | exact YG.qL rfl rfl bJ | exact YG.idxSC rfl rfl bJ rfl | exact oP | exact YG.build rfl | exact YG.neg rfl ei | exact YG.qG rfl rfl | exact YG.xn rfl yg | exact YG.str rfl aY))) | (apply TC;(· exact rfl);(· exact rfl);(· first | exact rfl | assumption);(· exact Om)) | (apply ZZ;(· exact rfl);(· exact rfl);(· first | exact rfl | assumption)) | (apply Z0;(· exact rfl);(· exact rfl)) | (apply ZX;(· exact rfl);(· exact rfl);(· first | exact rfl | assumption);(· exact iO)) | (apply ZY;(· exact rfl);(· exact rfl);(· exact iO)) | refine GO.nil ?_ | (apply OA;(· exact rfl);(· exact rfl);apply GL.alloc;(· simp only [lf,Value.cells,List.map_cons,List.map_nil];rfl);refine GL.nil (bb (ep.mk iO ?_));refine np dh en ?_) | (apply OA;(· exact rfl);(· exact rfl);apply GL.st;(· exact rfl);(· exact rfl);(· exact rfl);(· exact rfl);(· exact rfl);(· exact rfl);refine GL.nil (bb (ep.mk iO ?_));refine np dh en ?_) | (apply OA;(· exact rfl);(· exact rfl);apply GL.box;(· exact rfl);refine GL.nil (bb (ep.mk iO ?_));refine np dh en ?_));try refine Xs wP ?_));exact hQ.1):A:=s ⟨h⟩
theorem jg {A B:Prop} (h:B) (s:Hid B->A:=by intro hQ;(repeat (first | ((first | (apply GL.q;(· (first | exact YG.mv | exact YG.tQ | exact BB | exact Oo | exact Ol | exact qk | exact nO | exact oO | exact RT | exact YG.ext rfl rfl | exact YG.go rfl | exact BC | exact YG.qL rfl rfl bJ | exact YG.idxSC rfl rfl bJ rfl | fail | exact YG.build rfl | exact YG.neg rfl ei | exact YG.qG rfl rfl | exact YG.xn rfl yg | exact YG.str rfl aY))) | refine GL.nil ?_ | refine bb ?_ | refine GW.seq ?_ | refine GW.region ?_ | refine GW.skip ?_ | refine gE ?_ | refine GW.block ?_ | (apply GL.gt;(· exact rfl);(· first | exact rfl | assumption)) | (apply GL.gf;(· exact rfl);(· first | exact rfl | assumption)) | (apply GL.gu;(· exact rfl)) | (apply Lq;(· exact rfl);(· first | exact rfl | assumption)) | (apply Lp;(· exact rfl);(· first | exact rfl | assumption)));try refine GN wP ?_) | ((first | (apply GL.alloc;(· simp only [lf,Value.cells,List.map_cons,List.map_nil];rfl)) | (apply GL.box;(· exact rfl)) | (apply GL.st;(· exact rfl);(· exact rfl);(· exact rfl);(· exact rfl);(· exact rfl);(· exact rfl)));refine rq dh en ?_)));exact hQ.1):A:=s ⟨h⟩
theorem Jm {A B:Prop} (h:B) (s:Hid B->A:=by intro hQ;(repeat (first | ((first | (apply GL.q;(· exact Ld)) | refine GL.nil ?_ | refine bb ?_ | refine GW.seq ?_ | refine GW.region ?_ | refine GW.skip ?_ | refine gE ?_ | (apply GL.gt;(· exact rfl);(· first | exact rfl | assumption)) | (apply GL.gf;(· exact rfl);(· first | exact rfl | assumption)) | (apply GL.gu;(· exact rfl)) | (apply Lq;(· exact rfl);(· first | exact rfl | assumption)) | (apply Lp;(· exact rfl);(· first | exact rfl | assumption)));try refine GN wP ?_) | ((first | (apply GL.alloc;(· simp only [lf,Value.cells,List.map_cons,List.map_nil];rfl)) | (apply GL.box;(· exact rfl)) | (apply GL.st;(· exact rfl);(· exact rfl);(· exact rfl);(· exact rfl);(· exact rfl);(· exact rfl)));refine rq dh en ?_)));exact hQ.1):A:=s ⟨h⟩
theorem cr {A B:Prop} (h:B) (s:Hid B->A:=by intro hQ;(try refine GN wP ?_);exact hQ.1):A:=s ⟨h⟩
theorem Ec {A B:Prop} (h:B) (s:Hid B->A:=by intro hQ;(try refine Xs wP ?_);exact hQ.1):A:=s ⟨h⟩
theorem bI {A B:Prop} (h:B) (s:Hid B->A:=by intro hQ;(refine rq dh en ?_);exact hQ.1):A:=s ⟨h⟩
theorem Oj {A B:Prop} (h:B) (s:Hid B->A:=by intro hQ;(refine np dh en ?_);exact hQ.1):A:=s ⟨h⟩
theorem jc {A B:Prop} (h:B) (s:Hid B->A:=by intro hQ;((repeat (first | refine GW.exit ?_ | refine ES ?_ | refine Ih ?_ | refine ginb_xn rfl ?_ | refine gE ?_ | refine bb ?_)));exact hQ.1):A:=s ⟨h⟩
theorem bR {A B:Prop} (h:B) (s:Hid B->A:=by intro hQ;((repeat (first | refine GW.ret ?_ | refine mu ?_ | refine mr ?_ | refine bb ?_ | refine gE ?_));refine rY rfl cj rfl (Nat.le_refl _) rfl rfl ?_);exact hQ.1):A:=s ⟨h⟩
theorem cV {A B:Prop} (h:B) (s:Hid B->A:=by intro hQ;((repeat (first | refine GW.ret ?_ | refine mu ?_ | refine mr ?_ | refine bb ?_ | refine gE ?_));refine Uc rfl cj (Nat.le_refl _) rfl ?_);exact hQ.1):A:=s ⟨h⟩
theorem yQ {A B:Prop} (h:B) (s:Hid B->A:=by intro hQ;((repeat (first | refine GW.ret ?_ | refine mu ?_ | refine mr ?_ | refine bb ?_ | refine gE ?_));refine Ud rfl cj rfl rfl (Nat.le_refl _) rfl rfl ?_);exact hQ.1):A:=s ⟨h⟩
theorem Jk {A B:Prop} (h:B) (s:Hid B->A:=by intro hQ;((repeat (first | refine GW.ret ?_ | refine mu ?_ | refine mr ?_ | refine bb ?_ | refine gE ?_));refine Ue rfl cj rfl rfl rfl (Nat.le_refl _) rfl rfl ?_);exact hQ.1):A:=s ⟨h⟩
theorem q9 {A B:Prop} (h:B) (s:Hid B->A:=by intro hQ;((repeat (first | refine GW.ret ?_ | refine mu ?_ | refine mr ?_ | refine bb ?_ | refine gE ?_));refine AK ?_;refine Ue rfl cj rfl rfl rfl (Nat.le_refl _) rfl rfl ?_);exact hQ.1):A:=s ⟨h⟩
theorem GD {A B:Prop} (h:B) (s:Hid B->A:=by intro hQ;((repeat (first | refine GW.ret ?_ | refine mu ?_ | refine mr ?_ | refine bb ?_ | refine gE ?_));refine AK ?_;refine Ud rfl cj rfl rfl (Nat.le_refl _) rfl rfl ?_);exact hQ.1):A:=s ⟨h⟩
theorem ra {A B:Prop} (h:B) (s:Hid B->A:=by intro hQ;((repeat (first | refine GW.ret ?_ | refine mu ?_ | refine mr ?_ | refine bb ?_ | refine gE ?_));refine AK ?_;refine Uf rfl cj rfl rfl rfl (Nat.le_refl _) rfl rfl ?_);exact hQ.1):A:=s ⟨h⟩
theorem pb {A B:Prop} (h:B) (s:Hid B->A:=by intro hQ;((repeat (first | refine GW.ret ?_ | refine mu ?_ | refine mr ?_ | refine bb ?_ | refine gE ?_));refine Wx rfl cj rfl rfl rfl rfl (Nat.le_refl _) rfl rfl ?_);exact hQ.1):A:=s ⟨h⟩
theorem lU {A B:Prop} (h:B) (s:Hid B->A:=by intro hQ;((repeat (first | refine GW.ret ?_ | refine mu ?_ | refine mr ?_ | refine bb ?_ | refine gE ?_));refine My rfl cj rfl rfl rfl rfl rfl (Nat.le_refl _) rfl rfl ?_);exact hQ.1):A:=s ⟨h⟩
theorem BA {A B:Prop} (h:B) (s:Hid B->A:=by intro hQ;((repeat (first | refine GW.ret ?_ | refine mu ?_ | refine mr ?_ | refine bb ?_ | refine gE ?_));refine AK ?_;refine My rfl cj rfl rfl rfl rfl rfl (Nat.le_refl _) rfl rfl ?_);exact hQ.1):A:=s ⟨h⟩
theorem Jl {A B:Prop} (h:B) (s:Hid B->A:=by intro hQ;((repeat (first | refine GW.ret ?_ | refine mu ?_ | refine mr ?_ | refine bb ?_ | refine gE ?_));refine Uf rfl cj rfl rfl rfl (Nat.le_refl _) rfl rfl ?_);exact hQ.1):A:=s ⟨h⟩
theorem bS {A B:Prop} (h:B) (s:Hid B->A:=by intro hQ;(refine GL.Yg rfl rfl rfl rfl ?_;refine rq dh en ?_);exact hQ.1):A:=s ⟨h⟩
theorem kJ {A B:Prop} (h:B) (s:Hid B->A:=by intro hQ;(refine GL.RB rfl rfl rfl rfl ?_;refine rq dh en ?_);exact hQ.1):A:=s ⟨h⟩
theorem eP {A B:Prop} (h:B) (s:Hid B->A:=by intro hQ;(refine GL.push rfl rfl rfl rfl rfl rfl rfl rfl aY ⟨⟨by omega,by omega⟩,by decide⟩ ?_;refine rq dh en ?_);exact hQ.1):A:=s ⟨h⟩
theorem CB {A B:Prop} (h:B) (s:Hid B->A:=by intro hQ;(refine OA rfl rfl (GL.RB rfl rfl rfl rfl (GL.nil (bb (ep.mk iO ?_))));refine np dh en ?_);exact hQ.1):A:=s ⟨h⟩
theorem CA {A B:Prop} (h:B) (s:Hid B->A:=by intro hQ;(refine OA rfl rfl (GL.app rfl rfl rfl aY rfl rfl (by refine ⟨?_,?_⟩;(· show _+1<=_;omega);(· show (_+1) * _<=_;omega)) (GL.nil (bb (ep.mk iO ?_))));refine np dh en ?_);exact hQ.1):A:=s ⟨h⟩
theorem ey {A B:Prop} (h:B) (s:Hid B->A:=by intro hQ;(refine OA rfl rfl (GL.Yg rfl rfl rfl rfl (GL.nil (bb (ep.mk iO ?_))));refine np dh en ?_);exact hQ.1):A:=s ⟨h⟩
theorem GB {A B:Prop} (h:B) (s:Hid B->A:=by intro hQ;(refine OA rfl rfl (GL.st rfl rfl rfl rfl rfl rfl (GL.nil (bb (ep.mk iO ?_))));refine np dh en ?_);exact hQ.1):A:=s ⟨h⟩
theorem Lc {A B:Prop} (h:B) (s:Hid B->A:=by intro hQ;(refine OA rfl rfl (GL.Og 1 (by kernel_rfl) (by kernel_rfl) rfl rfl rfl rfl bJ ei (GL.nil (bb (ep.mk iO ?_))));refine np dh en ?_);exact hQ.1):A:=s ⟨h⟩
theorem oN {A B:Prop} (h:B) (s:Hid B->A:=by intro hQ;(refine GL.VP rfl rfl rfl aY rfl rfl rfl rfl ?_;refine rq dh en ?_);exact hQ.1):A:=s ⟨h⟩
theorem jH {A B:Prop} (h:B) (s:Hid B->A:=by intro hQ;(refine GL.ZN rfl rfl (by first | rfl | assumption | omega) ei rfl rfl rfl rfl ?_;refine rq dh en ?_);exact hQ.1):A:=s ⟨h⟩
theorem cW {A B:Prop} (h:B) (s:Hid B->A:=by intro hQ;(refine ⟨by simp,?_⟩;refine rq dh en ?_);exact hQ.1):A:=s ⟨h⟩
theorem dy {A B:Prop} (h:B) (s:Hid B->A:=by intro hQ;(refine GL.nil (bb (ep.mk iO ?_));refine np dh en ?_);exact hQ.1):A:=s ⟨h⟩
theorem n5 {A:Prop} (s:A:=by simp only [aR,uZ];rfl):A:=s
theorem jd {A:Prop} (s:A:=by first | exact kK.refl | exact mg.refl | (repeat (first | exact kK.nil | exact mg.refl | exact mg.nil | exact mg.U | exact mg.fn0 | refine kK.cons ?_ ?_ | refine mg.agg ?_ | refine mg.tup ?_))):A:=s
theorem aq {A:Prop} (s:A:=by repeat (first | exact sN.nil | refine sN.U ?_ | refine sN.eq rfl ?_)):A:=s
theorem iz {A B C:Prop} (aO:List Nat) (c:C) (h:B) (s:sJ aO C->Hid B->A:=by intro hC hQ;(refine GL.uX hC kH rfl mJ rfl ?_;refine rq dh en ?_);exact hQ.1):A:=s ⟨c⟩ ⟨h⟩
theorem ab {A B C:Prop} (aO:List Nat) (c:C) (h:B) (s:sJ aO C->Hid B->A:=by intro hC hQ;(refine GL.uX hC kH rfl mJ rfl ?_;refine rq dh en ?_);refine ae ?_;exact hQ.1):A:=s ⟨c⟩ ⟨h⟩
theorem wQ {A B C:Prop} (aO:List Nat) (c:C) (h:B) (s:sJ aO C->Hid B->A:=by intro hC hQ;(refine OA rfl rfl (GL.uX hC kH rfl mJ rfl (GL.nil (bb (ep.mk iO ?_))));refine np dh en ?_);exact hQ.1):A:=s ⟨c⟩ ⟨h⟩
theorem aE {A B C:Prop} (aO:List Nat) (c:C) (h:B) (s:sJ aO C->Hid B->A:=by intro hC hQ;(refine OA rfl rfl (GL.uX hC kH rfl mJ rfl (GL.nil (bb (ep.mk iO ?_))));refine np dh en ?_);refine ar ?_;exact hQ.1):A:=s ⟨c⟩ ⟨h⟩
theorem Yj {A B C:Prop} (aO:List Nat) (c:C) (h:B) (s:sJ aO C->Hid B->A:=by intro hC hQ;(refine Lu rfl rfl rfl (by first | exact rfl | assumption) (GL.uX hC kH rfl mJ rfl (GL.nil (bb (ep.mk iO ?_))));refine np dh en ?_);exact hQ.1):A:=s ⟨c⟩ ⟨h⟩
theorem bB {A B C:Prop} (aO:List Nat) (c:C) (h:B) (s:sJ aO C->Hid B->A:=by intro hC hQ;(refine Lu rfl rfl rfl (by first | exact rfl | assumption) (GL.uX hC kH rfl mJ rfl (GL.nil (bb (ep.mk iO ?_))));refine np dh en ?_);refine ar ?_;exact hQ.1):A:=s ⟨c⟩ ⟨h⟩
theorem iC {A B C:Prop} (aO:List Nat) (c:C) (h:B) (s:sJ aO C->Hid B->A:=by intro hC hQ;(refine GL.LK hC rfl rfl rfl mJ ?_;rintro _ _ ⟨rfl,rfl⟩;refine ⟨by simp,?_⟩;refine rq dh en ?_);exact hQ.1):A:=s ⟨c⟩ ⟨h⟩
theorem kY {A B C:Prop} (aO:List Nat) (c:C) (h:B) (s:sJ aO C->Hid B->A:=by intro hC hQ;(refine GL.LL hC rfl rfl rfl mJ ?_;rintro _ _ ⟨rfl,rfl⟩;refine ⟨by simp,?_⟩;refine rq dh en ?_);exact hQ.1):A:=s ⟨c⟩ ⟨h⟩
theorem yf {A B C:Prop} (aO:List Nat) (c:C) (h:B) (s:sJ aO C->Hid B->A:=by intro hC hQ;(refine OA rfl rfl (GL.LK hC rfl rfl rfl mJ ?_);rintro _ _ ⟨rfl,rfl⟩;refine ⟨by simp,(GL.nil (bb (ep.mk iO ?_)))⟩;refine np dh en ?_);exact hQ.1):A:=s ⟨c⟩ ⟨h⟩
theorem nN {A B C:Prop} (aO:List Nat) (c:C) (h:B) (s:sJ aO C->Hid B->A:=by intro hC hQ;(refine OA rfl rfl (GL.LL hC rfl rfl rfl mJ ?_);rintro _ _ ⟨rfl,rfl⟩;refine ⟨by simp,(GL.nil (bb (ep.mk iO ?_)))⟩;refine np dh en ?_);exact hQ.1):A:=s ⟨c⟩ ⟨h⟩
theorem cm {A B C:Prop} (aO:List Nat) (c:C) (h:B) (s:sJ aO C->Hid B->A:=by intro hC hQ;(refine GL.TJ hC kH rfl mJ ?_);exact hQ.1):A:=s ⟨c⟩ ⟨h⟩
theorem da {A B C D : Prop} (f : C) (n : D) (h : B) (s : C -> D -> Hid B -> A := by intro hC hD hQ;refine GC.enter hC hD rfl (by simp only [xw,ER,Nat.reduceSub];rfl) ?_;exact hQ.1) : A := s f n ⟨h⟩
theorem ai {A B C D : Prop} (f : C) (n : D) (h : B) (s : C -> D -> Hid B -> A := by intro hC hD hQ;refine GC.enter hC hD rfl (by simp only [xw,ER,Nat.reduceSub];rfl) ?_;refine ae ?_;exact hQ.1) : A := s f n ⟨h⟩
theorem al {A : Prop} (s : A := by refine bR ?_;exact ⟨rfl,rfl⟩) : A := s
theorem av {A : Prop} (s : A := by refine ae ?_;refine bR ?_;exact ⟨rfl,rfl⟩) : A := s
theorem fT {A : Prop} (s : A := by refine cV ?_;exact ⟨rfl,rfl⟩) : A := s
theorem me {A : Prop} (s : A := by refine ae ?_;refine cV ?_;exact ⟨rfl,rfl⟩) : A := s
theorem mf {A : Prop} (s : A := by refine yQ ?_;exact ⟨rfl,rfl⟩) : A := s
theorem qZ {A : Prop} (s : A := by refine ae ?_;refine yQ ?_;exact ⟨rfl,rfl⟩) : A := s
theorem dm {A : Prop} (s : A := by refine Jl ?_;exact ⟨rfl,rfl⟩) : A := s
theorem o9 {A : Prop} (s : A := by refine ae ?_;refine Jl ?_;exact ⟨rfl,rfl⟩) : A := s
theorem aj {A : Prop} (s : A := by kernel_rfl) : A := s
theorem ag {A : Prop} (s : A := by omega) : A := s
theorem ic {A B : Prop} (h : B) (s : Hid B -> A := by intro hQ;(repeat (first | refine GW.ret ?_ | refine mu ?_ | refine mr ?_ | refine bb ?_ | refine gE ?_));exact hQ.1) : A := s ⟨h⟩
theorem aaG {A : Prop} (s : A := by first | rfl | assumption) : A := s
theorem gx {A : Prop} (s : A := by rintro k _ _ ⟨rfl,rfl,_⟩;exact ⟨rfl,rfl,rfl⟩) : A := s
theorem jn {A : Prop} (s : A := by exact ⟨_,_,Wk.aC aq,rfl,rfl⟩) : A := s
theorem jy {A : Prop} (s : A := by exact ⟨_,_,Wk.aC aq,rfl,rfl,rfl⟩) : A := s
theorem ij {A : Prop} (s : A := by refine ae ?_;exact ⟨_,_,Wk.aC aq,rfl,rfl⟩) : A := s
theorem dS {A : Prop} (s : A := by exact ⟨rfl,rfl,rfl⟩) : A := s
theorem bf {A B : Prop} (h : B) (s : Hid B -> A := by intro hQ;refine ar ?_;refine ae ?_;exact hQ.1) : A := s ⟨h⟩
theorem bH {A B : Prop} (h : B) (s : Hid B -> A := by intro hQ;refine ae ?_;refine jc ?_;exact hQ.1) : A := s ⟨h⟩
theorem mc {A : Prop} (s : A := by exact ⟨⟨by omega,by omega⟩,by decide⟩) : A := s
theorem aJ {A : Prop} (s : A := by decide) : A := s
def aB:Nat->Nat->Ot->Ot
 | _,0,r=>r
 | s,n+1,r=>.q s (aB (s+1) n r)
def ZP:List Nat->Ot->Ot
 | [],r=>r
 | i::l,r=>.q i (ZP l r)
theorem aI {P:Program} {m id:Nat} {ol:List Oper} {Q:dB} {fr:List GV} {Γ:List Ob} (ord:Ot) (h:GO P ol.toArray (Q .normal) ord [] fr Γ) (hm:P.follows .mixedOrders=true:=by kernel_rfl) (eF:(Region.noSelect ol.toArray&&(ord.len==ol.length)&&tA ol.toArray ord (Array.replicate ol.toArray.size false))=true:=by kernel_rfl):GW P m (.region id ol.toArray true) Q fr Γ:=GW.draw ord hm eF h
end Go.Xg
namespace Go.Xw
open Go.Proofs
open Go.Xg (aj)
instance:aH Tryz.prog 10:=⟨aj⟩
instance:aH Tryz.prog 12:=⟨aj⟩
instance:aH Tryz.prog 14:=⟨aj⟩
instance:aH Tryz.prog 19:=⟨aj⟩
instance:aH Tryz.prog 20:=⟨aj⟩
instance:aH Tryz.prog 21:=⟨aj⟩
instance:aH Tryz.prog 22:=⟨aj⟩
instance:aH Tryz.prog 23:=⟨aj⟩
instance:aH Tryz.prog 24:=⟨aj⟩
instance:aH Tryz.prog 25:=⟨aj⟩
instance:aH Tryz.prog 26:=⟨aj⟩
instance:aH Tryz.prog 27:=⟨aj⟩
instance:aH Tryz.prog 35:=⟨aj⟩
instance:aH Tryz.prog 36:=⟨aj⟩
instance:aH Tryz.prog 37:=⟨aj⟩
instance:aH Tryz.prog 38:=⟨aj⟩
instance:aH Tryz.prog 39:=⟨aj⟩
instance:aH Tryz.prog 40:=⟨aj⟩
instance:aH Tryz.prog 41:=⟨aj⟩
instance:aH Tryz.prog 42:=⟨aj⟩
instance:aH Tryz.prog 43:=⟨aj⟩
instance:aH Tryz.prog 44:=⟨aj⟩
instance:aH Tryz.prog 45:=⟨aj⟩
instance:aH Tryz.prog 46:=⟨aj⟩
instance:aH Tryz.prog 47:=⟨aj⟩
instance:aH Tryz.prog 48:=⟨aj⟩
instance:aH Tryz.prog 49:=⟨aj⟩
instance:aH Tryz.prog 50:=⟨aj⟩
instance:aH Tryz.prog 51:=⟨aj⟩
instance:aH Tryz.prog 52:=⟨aj⟩
instance:aH Tryz.prog 54:=⟨aj⟩
instance:aH Tryz.prog 56:=⟨aj⟩
instance:aH Tryz.prog 57:=⟨aj⟩
instance:aH Tryz.prog 58:=⟨aj⟩
instance:aH Tryz.prog 59:=⟨aj⟩
instance:aH Tryz.prog 60:=⟨aj⟩
instance:aH Tryz.prog 61:=⟨aj⟩
instance:aH Tryz.prog 62:=⟨aj⟩
instance:aH Tryz.prog 66:=⟨aj⟩
instance:aH Tryz.prog 69:=⟨aj⟩
instance:aH Tryz.prog 71:=⟨aj⟩
instance:aH Tryz.prog 72:=⟨aj⟩
instance:aH Tryz.prog 74:=⟨aj⟩
instance:aH Tryz.prog 81:=⟨aj⟩
instance:aH Tryz.prog 82:=⟨aj⟩
instance:aH Tryz.prog 83:=⟨aj⟩
instance:aH Tryz.prog 86:=⟨aj⟩
instance:aH Tryz.prog 87:=⟨aj⟩
instance:aH Tryz.prog 88:=⟨aj⟩
instance:aH Tryz.prog 94:=⟨aj⟩
instance:aH Tryz.prog 95:=⟨aj⟩
instance:aH Tryz.prog 96:=⟨aj⟩
instance:aH Tryz.prog 97:=⟨aj⟩
instance:aH Tryz.prog 98:=⟨aj⟩
instance:aH Tryz.prog 99:=⟨aj⟩
instance:aH Tryz.prog 100:=⟨aj⟩
instance:aH Tryz.prog 101:=⟨aj⟩
instance:aH Tryz.prog 102:=⟨aj⟩
instance:aH Tryz.prog 103:=⟨aj⟩
instance:aH Tryz.prog 104:=⟨aj⟩
instance:aH Tryz.prog 105:=⟨aj⟩
instance:aH Tryz.prog 106:=⟨aj⟩
instance:aH Tryz.prog 107:=⟨aj⟩
instance:aH Tryz.prog 108:=⟨aj⟩
instance:aH Tryz.prog 109:=⟨aj⟩
instance:aH Tryz.prog 110:=⟨aj⟩
instance:aH Tryz.prog 111:=⟨aj⟩
instance:aH Tryz.prog 112:=⟨aj⟩
instance:aH Tryz.prog 114:=⟨aj⟩
instance:aH Tryz.prog 115:=⟨aj⟩
instance:aH Tryz.prog 116:=⟨aj⟩
instance:aH Tryz.prog 117:=⟨aj⟩
instance:aH Tryz.prog 121:=⟨aj⟩
instance:aH Tryz.prog 123:=⟨aj⟩
instance:aH Tryz.prog 124:=⟨aj⟩
instance:aH Tryz.prog 125:=⟨aj⟩
instance:aH Tryz.prog 126:=⟨aj⟩
instance:aH Tryz.prog 127:=⟨aj⟩
instance:aH Tryz.prog 128:=⟨aj⟩
instance:aH Tryz.prog 129:=⟨aj⟩
instance:aH Tryz.prog 130:=⟨aj⟩
instance:aH Tryz.prog 131:=⟨aj⟩
instance:aH Tryz.prog 132:=⟨aj⟩
instance:aH Tryz.prog 133:=⟨aj⟩
instance:aH Tryz.prog 134:=⟨aj⟩
instance:aH Tryz.prog 135:=⟨aj⟩
instance:aH Tryz.prog 136:=⟨aj⟩
instance:aH Tryz.prog 137:=⟨aj⟩
instance:aH Tryz.prog 138:=⟨aj⟩
instance:aH Tryz.prog 139:=⟨aj⟩
instance:aH Tryz.prog 140:=⟨aj⟩
instance:aH Tryz.prog 143:=⟨aj⟩
instance:aH Tryz.prog 144:=⟨aj⟩
instance:aH Tryz.prog 146:=⟨aj⟩
instance:aH Tryz.prog 147:=⟨aj⟩
instance:aH Tryz.prog 148:=⟨aj⟩
instance:aH Tryz.prog 149:=⟨aj⟩
instance:aH Tryz.prog 151:=⟨aj⟩
instance:aH Tryz.prog 152:=⟨aj⟩
instance:aH Tryz.prog 153:=⟨aj⟩
instance:aH Tryz.prog 154:=⟨aj⟩
instance:aH Tryz.prog 155:=⟨aj⟩
instance:aH Tryz.prog 156:=⟨aj⟩
instance:aH Tryz.prog 157:=⟨aj⟩
instance:aH Tryz.prog 158:=⟨aj⟩
instance:aH Tryz.prog 159:=⟨aj⟩
instance:aH Tryz.prog 160:=⟨aj⟩
instance:aH Tryz.prog 161:=⟨aj⟩
instance:aH Tryz.prog 162:=⟨aj⟩
instance:aH Tryz.prog 163:=⟨aj⟩
instance:aH Tryz.prog 164:=⟨aj⟩
instance:aH Tryz.prog 165:=⟨aj⟩
instance:aH Tryz.prog 166:=⟨aj⟩
instance:aH Tryz.prog 167:=⟨aj⟩
instance:aH Tryz.prog 168:=⟨aj⟩
instance:aH Tryz.prog 169:=⟨aj⟩
instance:aH Tryz.prog 170:=⟨aj⟩
instance:aH Tryz.prog 171:=⟨aj⟩
instance:aH Tryz.prog 172:=⟨aj⟩
instance:aH Tryz.prog 173:=⟨aj⟩
instance:aH Tryz.prog 185:=⟨aj⟩
instance:aH Tryz.prog 186:=⟨aj⟩
instance:aH Tryz.prog 187:=⟨aj⟩
instance:aH Tryz.prog 188:=⟨aj⟩
instance:aH Tryz.prog 189:=⟨aj⟩
instance:aH Tryz.prog 190:=⟨aj⟩
instance:aH Tryz.prog 191:=⟨aj⟩
instance:aH Tryz.prog 192:=⟨aj⟩
instance:aH Tryz.prog 193:=⟨aj⟩
instance:aH Tryz.prog 194:=⟨aj⟩
instance:aH Tryz.prog 195:=⟨aj⟩
instance:aH Tryz.prog 196:=⟨aj⟩
instance:aH Tryz.prog 197:=⟨aj⟩
instance:aH Tryz.prog 198:=⟨aj⟩
instance:aH Tryz.prog 199:=⟨aj⟩
instance:aH Tryz.prog 200:=⟨aj⟩
instance:aH Tryz.prog 201:=⟨aj⟩
instance:aH Tryz.prog 202:=⟨aj⟩
instance:aH Tryz.prog 203:=⟨aj⟩
instance:aH Tryz.prog 204:=⟨aj⟩
instance:aH Tryz.prog 205:=⟨aj⟩
instance:aH Tryz.prog 206:=⟨aj⟩
instance:aH Tryz.prog 207:=⟨aj⟩
instance:aH Tryz.prog 208:=⟨aj⟩
instance:aH Tryz.prog 209:=⟨aj⟩
instance:aH Tryz.prog 216:=⟨aj⟩
instance:aH Tryz.prog 217:=⟨aj⟩
instance:aH Tryz.prog 218:=⟨aj⟩
instance:aH Tryz.prog 219:=⟨aj⟩
instance:aH Tryz.prog 220:=⟨aj⟩
instance:aH Tryz.prog 221:=⟨aj⟩
instance:aH Tryz.prog 222:=⟨aj⟩
instance:aH Tryz.prog 223:=⟨aj⟩
instance:aH Tryz.prog 224:=⟨aj⟩
instance:aH Tryz.prog 225:=⟨aj⟩
instance:aH Tryz.prog 226:=⟨aj⟩
instance:aH Tryz.prog 228:=⟨aj⟩
instance:aH Tryz.prog 229:=⟨aj⟩
instance:aH Tryz.prog 230:=⟨aj⟩
instance:aH Tryz.prog 231:=⟨aj⟩
instance:aH Tryz.prog 232:=⟨aj⟩
instance:aH Tryz.prog 233:=⟨aj⟩
instance:aH Tryz.prog 234:=⟨aj⟩
instance:aH Tryz.prog 236:=⟨aj⟩
instance:aH Tryz.prog 238:=⟨aj⟩
instance:aH Tryz.prog 239:=⟨aj⟩
instance:aH Tryz.prog 240:=⟨aj⟩
instance:aH Tryz.prog 241:=⟨aj⟩
instance:aH Tryz.prog 242:=⟨aj⟩
instance:aH Tryz.prog 243:=⟨aj⟩
instance:aH Tryz.prog 244:=⟨aj⟩
instance:aH Tryz.prog 245:=⟨aj⟩
instance:aH Tryz.prog 249:=⟨aj⟩
instance:aH Tryz.prog 250:=⟨aj⟩
instance:aH Tryz.prog 251:=⟨aj⟩
instance:aH Tryz.prog 252:=⟨aj⟩
instance:aH Tryz.prog 253:=⟨aj⟩
instance:aH Tryz.prog 254:=⟨aj⟩
instance:aH Tryz.prog 255:=⟨aj⟩
instance:aH Tryz.prog 256:=⟨aj⟩
instance:aH Tryz.prog 257:=⟨aj⟩
instance:aH Tryz.prog 258:=⟨aj⟩
instance:aH Tryz.prog 259:=⟨aj⟩
instance:aH Tryz.prog 260:=⟨aj⟩
instance:aH Tryz.prog 261:=⟨aj⟩
instance:aH Tryz.prog 263:=⟨aj⟩
instance:aH Tryz.prog 265:=⟨aj⟩
instance:aH Tryz.prog 270:=⟨aj⟩
instance:aH Tryz.prog 271:=⟨aj⟩
instance:aH Tryz.prog 272:=⟨aj⟩
instance:aH Tryz.prog 273:=⟨aj⟩
instance:aH Tryz.prog 275:=⟨aj⟩
instance:aH Tryz.prog 276:=⟨aj⟩
instance:aH Tryz.prog 277:=⟨aj⟩
instance:aH Tryz.prog 278:=⟨aj⟩
instance:aH Tryz.prog 279:=⟨aj⟩
instance:aH Tryz.prog 280:=⟨aj⟩
instance:aH Tryz.prog 288:=⟨aj⟩
instance:aH Tryz.prog 289:=⟨aj⟩
instance:aH Tryz.prog 292:=⟨aj⟩
instance:aH Tryz.prog 293:=⟨aj⟩
instance:aH Tryz.prog 294:=⟨aj⟩
instance:aH Tryz.prog 299:=⟨aj⟩
instance:aH Tryz.prog 300:=⟨aj⟩
instance:aH Tryz.prog 301:=⟨aj⟩
instance:aH Tryz.prog 304:=⟨aj⟩
instance:aH Tryz.prog 305:=⟨aj⟩
instance:aH Tryz.prog 306:=⟨aj⟩
instance:Ty Tryz.prog 3 false 1:=⟨aj,aj⟩
instance:ql Tryz.prog 3 (.int .i64 (0)):=⟨aj⟩
instance:Go.Xg.Jv Tryz.prog 3 .i64:=⟨aj⟩
instance:Go.Xg.Jv Tryz.prog 5 .u8:=⟨aj⟩
instance:Ty Tryz.prog 9 false 1:=⟨aj,aj⟩
instance:pH Tryz.prog 9:=⟨aj⟩
instance:Ty Tryz.prog 22 false 1:=⟨aj,aj⟩
instance:ql Tryz.prog 22 (.slice none 0 0):=⟨aj⟩
instance:mi Tryz.prog 22 9 1:=⟨aj,aj⟩
instance:n7 Tryz.prog 22 9 1 16:=⟨aj⟩
instance:pd Tryz.prog 22 9 1 [(.string ⟨#[]⟩)]:=⟨aj,aj,aj,rfl,by decide,fun _=>rfl⟩
instance:Ty Tryz.prog 23 false 1:=⟨aj,aj⟩
instance:mi Tryz.prog 23 103 2:=⟨aj,aj⟩
instance:Ty Tryz.prog 24 false 1:=⟨aj,aj⟩
instance:mi Tryz.prog 24 105 3:=⟨aj,aj⟩
instance:Ty Tryz.prog 25 false 1:=⟨aj,aj⟩
instance:mi Tryz.prog 25 107 5:=⟨aj,aj⟩
instance:Ty Tryz.prog 27 true 4:=⟨aj,aj⟩
instance:dp Tryz.prog 27 0 0 1 false:=⟨aj⟩
instance:dp Tryz.prog 27 1 1 1 false:=⟨aj⟩
instance:dp Tryz.prog 27 2 2 1 false:=⟨aj⟩
instance:dp Tryz.prog 27 3 3 1 false:=⟨aj⟩
instance:Ty Tryz.prog 30 false 1:=⟨aj,aj⟩
instance:mi Tryz.prog 30 88 2:=⟨aj,aj⟩
instance:n7 Tryz.prog 30 88 2 24:=⟨aj⟩
instance:pd Tryz.prog 30 88 2 [(.string ⟨#[]⟩),(.int .i64 (0))]:=⟨aj,aj,aj,rfl,by decide,fun h=>by cases h⟩
instance:Ty Tryz.prog 31 false 1:=⟨aj,aj⟩
instance:mi Tryz.prog 31 60 3:=⟨aj,aj⟩
instance:n7 Tryz.prog 31 60 3 48:=⟨aj⟩
instance:pd Tryz.prog 31 60 3 [(.string ⟨#[]⟩),(.slice none 0 0),(.int .i64 (0))]:=⟨aj,aj,aj,rfl,by decide,fun h=>by cases h⟩
instance:Ty Tryz.prog 32 false 1:=⟨aj,aj⟩
instance:mi Tryz.prog 32 91 5:=⟨aj,aj⟩
instance:n7 Tryz.prog 32 91 5 64:=⟨aj⟩
instance:pd Tryz.prog 32 91 5 [(.int .i64 (0)),(.int .i64 (0)),(.int .i64 (0)),(.string ⟨#[]⟩),(.slice none 0 0)]:=⟨aj,aj,aj,rfl,by decide,fun h=>by cases h⟩
instance:Ty Tryz.prog 34 true 4:=⟨aj,aj⟩
instance:ql Tryz.prog 34 (.agg #[(.slice none 0 0),(.slice none 0 0),(.slice none 0 0),(.slice none 0 0)]):=⟨aj⟩
instance:dp Tryz.prog 34 0 0 1 false:=⟨aj⟩
instance:dp Tryz.prog 34 1 1 1 false:=⟨aj⟩
instance:dp Tryz.prog 34 2 2 1 false:=⟨aj⟩
instance:dp Tryz.prog 34 3 3 1 false:=⟨aj⟩
instance:tN Tryz.prog 34 [(0,1),(1,1),(2,1),(3,1)] [(.slice none 0 0),(.slice none 0 0),(.slice none 0 0),(.slice none 0 0)]:=⟨aj,aj⟩
instance:Ty Tryz.prog 40 false 1:=⟨aj,aj⟩
instance:ql Tryz.prog 40 (.slice none 0 0):=⟨aj⟩
instance:mi Tryz.prog 40 3 1:=⟨aj,aj⟩
instance:n7 Tryz.prog 40 3 1 8:=⟨aj⟩
instance:pd Tryz.prog 40 3 1 [(.int .i64 (0))]:=⟨aj,aj,aj,rfl,by decide,fun _=>rfl⟩
instance:mi Tryz.prog 46 40 1:=⟨aj,aj⟩
instance:n7 Tryz.prog 46 40 1 24:=⟨aj⟩
instance:pd Tryz.prog 46 40 1 [(.slice none 0 0)]:=⟨aj,aj,aj,rfl,by decide,fun _=>rfl⟩
instance:Ty Tryz.prog 60 true 3:=⟨aj,aj⟩
instance:ql Tryz.prog 60 (.agg #[(.string ⟨#[]⟩),(.slice none 0 0),(.int .i64 (0))]):=⟨aj⟩
instance:dp Tryz.prog 60 0 0 1 false:=⟨aj⟩
instance:dp Tryz.prog 60 1 1 1 false:=⟨aj⟩
instance:dp Tryz.prog 60 2 2 1 false:=⟨aj⟩
instance:tN Tryz.prog 60 [(0,1),(1,1),(2,1)] [(.string ⟨#[]⟩),(.slice none 0 0),(.int .i64 (0))]:=⟨aj,aj⟩
instance:Ty Tryz.prog 88 true 2:=⟨aj,aj⟩
instance:ql Tryz.prog 88 (.agg #[(.string ⟨#[]⟩),(.int .i64 (0))]):=⟨aj⟩
instance:dp Tryz.prog 88 0 0 1 false:=⟨aj⟩
instance:dp Tryz.prog 88 1 1 1 false:=⟨aj⟩
instance:tN Tryz.prog 88 [(0,1),(1,1)] [(.string ⟨#[]⟩),(.int .i64 (0))]:=⟨aj,aj⟩
instance:Ty Tryz.prog 91 true 5:=⟨aj,aj⟩
instance:ql Tryz.prog 91 (.agg #[(.int .i64 (0)),(.int .i64 (0)),(.int .i64 (0)),(.string ⟨#[]⟩),(.slice none 0 0)]):=⟨aj⟩
instance:dp Tryz.prog 91 0 0 1 false:=⟨aj⟩
instance:dp Tryz.prog 91 1 1 1 false:=⟨aj⟩
instance:dp Tryz.prog 91 2 2 1 false:=⟨aj⟩
instance:dp Tryz.prog 91 3 3 1 false:=⟨aj⟩
instance:dp Tryz.prog 91 4 4 1 false:=⟨aj⟩
instance:tN Tryz.prog 91 [(0,1),(1,1),(2,1),(3,1),(4,1)] [(.int .i64 (0)),(.int .i64 (0)),(.int .i64 (0)),(.string ⟨#[]⟩),(.slice none 0 0)]:=⟨aj,aj⟩
instance:Ty Tryz.prog 92 false 1:=⟨aj,aj⟩
instance:mi Tryz.prog 92 94 6:=⟨aj,aj⟩
instance:n7 Tryz.prog 92 94 6 88:=⟨aj⟩
instance:pd Tryz.prog 92 94 6 [(.int .i64 (0)),(.int .i64 (0)),(.int .i64 (0)),(.string ⟨#[]⟩),(.slice none 0 0),(.slice none 0 0)]:=⟨aj,aj,aj,rfl,by decide,fun h=>by cases h⟩
instance:Ty Tryz.prog 94 true 6:=⟨aj,aj⟩
instance:ql Tryz.prog 94 (.agg #[(.int .i64 (0)),(.int .i64 (0)),(.int .i64 (0)),(.string ⟨#[]⟩),(.slice none 0 0),(.slice none 0 0)]):=⟨aj⟩
instance:dp Tryz.prog 94 0 0 5 true:=⟨aj⟩
instance:dp Tryz.prog 94 1 5 1 false:=⟨aj⟩
instance:tN Tryz.prog 94 [(0,5),(5,1)] [(.int .i64 (0)),(.int .i64 (0)),(.int .i64 (0)),(.string ⟨#[]⟩),(.slice none 0 0),(.slice none 0 0)]:=⟨aj,aj⟩
instance:Ty Tryz.prog 101 false 1:=⟨aj,aj⟩
instance:Ty Tryz.prog 103 true 2:=⟨aj,aj⟩
instance:dp Tryz.prog 103 0 0 1 false:=⟨aj⟩
instance:dp Tryz.prog 103 1 1 1 false:=⟨aj⟩
instance:Ty Tryz.prog 105 true 3:=⟨aj,aj⟩
instance:dp Tryz.prog 105 0 0 1 false:=⟨aj⟩
instance:dp Tryz.prog 105 1 1 1 false:=⟨aj⟩
instance:dp Tryz.prog 105 2 2 1 false:=⟨aj⟩
instance:Ty Tryz.prog 107 true 5:=⟨aj,aj⟩
instance:dp Tryz.prog 107 0 0 1 false:=⟨aj⟩
instance:dp Tryz.prog 107 1 1 1 false:=⟨aj⟩
instance:dp Tryz.prog 107 2 2 1 false:=⟨aj⟩
instance:dp Tryz.prog 107 3 3 1 false:=⟨aj⟩
instance:dp Tryz.prog 107 4 4 1 false:=⟨aj⟩
instance:Ty Tryz.prog 130 false 1:=⟨aj,aj⟩
instance:ql Tryz.prog 130 .nilFunc:=⟨aj⟩
instance:dp Tryz.prog 133 0 0 4 true:=⟨aj⟩
instance:dp Tryz.prog 133 1 4 1 false:=⟨aj⟩
instance:dp Tryz.prog 133 2 5 1 false:=⟨aj⟩
instance:dp Tryz.prog 133 3 6 1 false:=⟨aj⟩
instance:tN Tryz.prog 133 [(0,4),(4,1),(5,1),(6,1)] [(.slice none 0 0),(.slice none 0 0),(.slice none 0 0),(.slice none 0 0),(.slice none 0 0),(.int .i64 (0)),(.int .i64 (0))]:=⟨aj,aj⟩
instance:Ty Tryz.prog 143 false 1:=⟨aj,aj⟩
instance:Go.Xg.Lg Tryz.prog 143:=Go.Xg.Lg.mk' (e:=5) (aj) (aj)
instance:mi Tryz.prog 143 5 1:=⟨aj,aj⟩
instance:pd Tryz.prog 143 5 1 [(.int .u8 (0))]:=⟨aj,aj,aj,rfl,by decide,fun _=>rfl⟩
instance:Ty Tryz.prog 148 false 1:=⟨aj,aj⟩
instance:mi Tryz.prog 148 152 1:=⟨aj,aj⟩
instance:n7 Tryz.prog 148 152 1 8:=⟨aj⟩
instance:pd Tryz.prog 148 152 1 [(.pointer none)]:=⟨aj,aj,aj,rfl,by decide,fun _=>rfl⟩
instance:Ty Tryz.prog 152 false 1:=⟨aj,aj⟩
instance:Ty Tryz.prog 155 false 1:=⟨aj,aj⟩
instance:Ty Tryz.prog 156 false 1:=⟨aj,aj⟩
instance:Ty Tryz.prog 157 false 1:=⟨aj,aj⟩
instance:mi Tryz.prog 157 203 4:=⟨aj,aj⟩
instance:n7 Tryz.prog 157 203 4 40:=⟨aj⟩
instance:pd Tryz.prog 157 203 4 [(.int .i64 (0)),(.int .i64 (0)),(.string ⟨#[]⟩),(.int .i64 (0))]:=⟨aj,aj,aj,rfl,by decide,fun h=>by cases h⟩
instance:dp Tryz.prog 184 0 0 1 false:=⟨aj⟩
instance:dp Tryz.prog 184 1 1 1 false:=⟨aj⟩
instance:dp Tryz.prog 184 2 2 1 false:=⟨aj⟩
instance:dp Tryz.prog 184 3 3 1 false:=⟨aj⟩
instance:dp Tryz.prog 184 4 4 1 false:=⟨aj⟩
instance:tN Tryz.prog 184 [(0,1),(1,1),(2,1),(3,1),(4,1)] [(.slice none 0 0),(.int .i64 (0)),(.int .i64 (0)),(.int .i64 (0)),(.int .i64 (0))]:=⟨aj,aj⟩
instance:dp Tryz.prog 190 0 0 5 true:=⟨aj⟩
instance:dp Tryz.prog 190 1 5 1 false:=⟨aj⟩
instance:tN Tryz.prog 190 [(0,5),(5,1)] [(.int .i64 (0)),(.int .i64 (0)),(.int .i64 (0)),(.string ⟨#[]⟩),(.slice none 0 0),(.slice none 0 0)]:=⟨aj,aj⟩
instance:Ty Tryz.prog 192 true 2:=⟨aj,aj⟩
instance:ql Tryz.prog 192 (.agg #[.nilFunc,.nilFunc]):=⟨aj⟩
instance:dp Tryz.prog 192 0 0 1 false:=⟨aj⟩
instance:dp Tryz.prog 192 1 1 1 false:=⟨aj⟩
instance:tN Tryz.prog 192 [(0,1),(1,1)] [.nilFunc,.nilFunc]:=⟨aj,aj⟩
instance:Ty Tryz.prog 203 true 4:=⟨aj,aj⟩
instance:ql Tryz.prog 203 (.agg #[(.int .i64 (0)),(.int .i64 (0)),(.string ⟨#[]⟩),(.int .i64 (0))]):=⟨aj⟩
instance:dp Tryz.prog 203 0 0 1 false:=⟨aj⟩
instance:dp Tryz.prog 203 1 1 1 false:=⟨aj⟩
instance:dp Tryz.prog 203 2 2 1 false:=⟨aj⟩
instance:dp Tryz.prog 203 3 3 1 false:=⟨aj⟩
instance:tN Tryz.prog 203 [(0,1),(1,1),(2,1),(3,1)] [(.int .i64 (0)),(.int .i64 (0)),(.string ⟨#[]⟩),(.int .i64 (0))]:=⟨aj,aj⟩
instance:dp Tryz.prog 208 0 0 1 false:=⟨aj⟩
instance:dp Tryz.prog 208 1 1 1 false:=⟨aj⟩
instance:dp Tryz.prog 208 2 2 1 false:=⟨aj⟩
instance:dp Tryz.prog 208 3 3 1 false:=⟨aj⟩
instance:dp Tryz.prog 208 4 4 1 false:=⟨aj⟩
instance:dp Tryz.prog 208 5 5 1 false:=⟨aj⟩
instance:dp Tryz.prog 208 6 6 4 true:=⟨aj⟩
instance:tN Tryz.prog 208 [(0,1),(1,1),(2,1),(3,1),(4,1),(5,1),(6,4)] [(.slice none 0 0),(.int .i64 (0)),(.int .i64 (0)),(.int .i64 (0)),(.int .i64 (0)),(.slice none 0 0),(.slice none 0 0),(.slice none 0 0),(.slice none 0 0),(.slice none 0 0)]:=⟨aj,aj⟩
instance:Ty Tryz.prog 225 false 1:=⟨aj,aj⟩
instance:ql Tryz.prog 227 (.agg #[(.pointer none),(.slice none 0 0)]):=⟨aj⟩
instance:dp Tryz.prog 227 0 0 1 false:=⟨aj⟩
instance:dp Tryz.prog 227 1 1 1 false:=⟨aj⟩
instance:mi Tryz.prog 234 22 1:=⟨aj,aj⟩
instance:pd Tryz.prog 234 22 1 [(.slice none 0 0)]:=⟨aj,aj,aj,rfl,by decide,fun _=>rfl⟩
end Go.Xw
set_option maxHeartbeats 1000000
namespace Go.Xg
open Go.RowKit Go.Xw Go.Proofs
open Go.Xp (Tok Nd T bh one levels)
open Go.Sp
attribute [local irreducible] GW GL GO YG GC GA aU aZ
def c8 (t:Tok):List GV:=[.v (ii t.kind),.v (ii t.n),.v (sv t.s),.v (ii t.at_)]
theorem OR (t:Tok):GF Tryz.prog 258 [.agg (c8 t)] [] (.v (sv (bh t))) []:=by
 refine ai Tryz.func258 Tryz.ntmps258 ?_;refine GW.cond rfl (fun h=>?_) (fun h=>?_)
 ·refine ae ?_;refine bR ?_
  have h:t.kind≠3:=by simpa using h
  rw [bh,if_neg h];exact ⟨rfl,rfl⟩
 ·refine ae ?_;refine bR ?_
  have h:t.kind=3:=by simpa using h
  rw [bh,if_pos h];exact ⟨rfl,rfl⟩
abbrev iw (l:List Tok):GV:=.sl 4 (l.map c8)
abbrev bZ (p:RS):Ob:=.box 184 [iw p.l,.v (ii p.i),.v (ii p.e),.v (ii p.code),.v (ii p.at_)]
theorem kl {l:List Tok} {i:Nat} {t:Tok} (h:l[i]?=some t):(l.map c8)[i]?=some (c8 t):=by rw [getElem?_map,h];rfl
theorem kD (p:RS) (hp:p.ok):GF Tryz.prog 223 [.loc 0 0] [bZ p] (.v (ii p.place)) [bZ p]:=by
 obtain ⟨lA,dF⟩:=hp
 cases ht:p.l[p.i]? with
 | some t =>
  have hr:=kl ht;have ak:p.i < p.l.length:=(List.getElem?_eq_some_iff.1 ht).1
  have hd:decide ((p.i:Int) < ((p.l.map c8).length:Int))=true:=by simpa using ak
  refine ai Tryz.func223 Tryz.ntmps223 ?_;refine aI (aB 0 10 .nil) ?_;refine bf ?_;refine aI (aB 0 12 .nil) ?_;refine bf ?_;refine bR ?_;rw [RS.place,ht];exact ⟨rfl,rfl⟩
 | none =>
  have ak:p.l.length<=p.i:=List.getElem?_eq_none_iff.1 ht
  have hd:decide ((p.i:Int) < ((p.l.map c8).length:Int))=false:=by simpa using ak
  refine ai Tryz.func223 Tryz.ntmps223 ?_;refine aI (aB 0 10 .nil) ?_;refine bf ?_;refine bR ?_;rw [RS.place,ht];exact ⟨rfl,rfl⟩
theorem c6 (p:RS) (k:Nat) (hp:p.ok) (hk:k<=1):GF Tryz.prog 225 [.loc 0 0,.v (ii k)] [bZ p] (.v (sv (p.sign k))) [bZ p]:=by
 obtain ⟨lA,dF⟩:=hp
 by_cases hc:p.code=0
 ·have dq:(p.code != 0)=false:=by simpa using hc
  cases ht:p.l[p.i+k]? with
  | some t =>
   have hr:=kl ht;have ak:p.i+k < p.l.length:=(List.getElem?_eq_some_iff.1 ht).1
   have hd:decide (((p.l.map c8).length:Int)<=((p.i+k:Nat):Int))=false:=by simp;omega
   refine ai Tryz.func225 Tryz.ntmps225 ?_;refine aI (aB 0 19 .nil) ?_;refine bf ?_;refine aI (aB 0 12 (.a 12 (.q 13 .nil))) ?_;refine ar ?_;refine aE [] (OR t) ?_;refine ae ?_;refine bR ?_;rw [RS.sign,if_pos hc,ht];exact ⟨rfl,rfl⟩
  | none =>
   have ak:p.l.length<=p.i+k:=List.getElem?_eq_none_iff.1 ht
   have hd:decide (((p.l.map c8).length:Int)<=((p.i+k:Nat):Int))=true:=by simp;omega
   refine ai Tryz.func225 Tryz.ntmps225 ?_;refine aI (aB 0 19 .nil) ?_;refine bf ?_;refine bR ?_;rw [RS.sign,if_pos hc,ht];exact ⟨rfl,rfl⟩
 ·have dq:(p.code != 0)=true:=by simpa using hc
  refine ai Tryz.func225 Tryz.ntmps225 ?_;refine aI (aB 0 19 .nil) ?_;refine bf ?_;refine bR ?_;rw [RS.sign,if_neg hc];exact ⟨rfl,rfl⟩
theorem lS (p:RS) (c a:Int):GF Tryz.prog 257 [.loc 0 0,.v (ii c),.v (ii a)] [bZ p] (.tup []) [bZ (p.fail c a)]:=by
 refine ai Tryz.func257 Tryz.ntmps257 ?_;refine GW.cond rfl (fun h=>?_) (fun h=>?_)
 ·refine ae ?_;refine cV ?_
  have h:p.code=0:=by simpa using h
  rw [RS.fail,if_pos h];exact ⟨rfl,rfl⟩
 ·refine ae ?_;refine cV ?_
  have h:¬ p.code=0:=by simpa using h
  rw [RS.fail,if_neg h];exact ⟨rfl,rfl⟩
theorem cZ (p:RS) (s:ah) (hp:p.ok) (hs:s≠[]):GF Tryz.prog 224 [.loc 0 0,.v (sv s)] [bZ p] (.tup []) [bZ (p.aL s)]:=by
 refine ai Tryz.func224 Tryz.ntmps224 ?_;refine iz [0] (c6 p 0 hp aJ) ?_
 by_cases h:p.sign 0=s
 ·have h':(!(p.sign 0==s))=false:=by simp [h]
  have hl:=(fv h hs).1;obtain ⟨lA,dF⟩:=hp;refine ae ?_;refine cV ?_;rw [RS.aL,if_pos h];exact ⟨rfl,rfl⟩
 ·have h':(!(p.sign 0==s))=true:=by simpa using h
  refine ae ?_;refine ab [0] (kD p hp) ?_;refine ab [0] (lS p 7 p.place) ?_;refine cV ?_;rw [RS.aL,if_neg h];exact ⟨rfl,rfl⟩
theorem uf (p:RS) (d:Nat) (hp:p.ok):GF Tryz.prog 221 [.loc 0 0,.v (ii d)] [bZ p] (.tup []) [bZ (p.deep d)]:=by
 by_cases h:d > 60
 ·have h':decide ((60:Int) < (d:Int))=true:=by simp;omega
  refine ai Tryz.func221 Tryz.ntmps221 ?_;refine ab [0] (kD p hp) ?_;refine ab [0] (lS p 9 p.place) ?_;refine cV ?_;rw [RS.deep,if_pos h];exact ⟨rfl,rfl⟩
 ·have h':decide ((60:Int) < (d:Int))=false:=by simp;omega
  refine ai Tryz.func221 Tryz.ntmps221 ?_;refine cV ?_;rw [RS.deep,if_neg h];exact ⟨rfl,rfl⟩
theorem xW (p:RS) (hp:p.ok):GF Tryz.prog 259 [.loc 0 0] [bZ p] (.v (sv p.name.1)) [bZ p.name.2]:=by
 obtain ⟨lA,dF⟩:=id hp
 by_cases hc:p.code=0
 ·have dq:(p.code != 0)=false:=by simpa using hc
  cases ht:p.l[p.i]? with
  | some t =>
   have hr:=kl ht;have ak:p.i < p.l.length:=(List.getElem?_eq_some_iff.1 ht).1
   have hd:decide (((p.l.map c8).length:Int)<=(p.i:Int))=false:=by simp;omega
   by_cases hk:t.kind=2
   ·have ly:(t.kind != 2)=false:=by simpa using hk
    by_cases hs:t.s.length > 12
    ·have oh:decide ((12:Int) < (t.s.length:Int))=true:=by simp;omega
     refine ai Tryz.func259 Tryz.ntmps259 ?_;refine aI (aB 0 24 .nil) ?_;refine bf ?_;refine aI (aB 0 10 (.a 10 (.a 11 .nil))) ?_;refine bf ?_;refine ab [0] (lS p 8 t.at_) ?_;refine bR ?_;rw [RS.name,if_pos hc,ht];simp only [if_pos hk,if_pos hs];exact ⟨rfl,rfl⟩
    ·have oh:decide ((12:Int) < (t.s.length:Int))=false:=by simp;omega
     refine ai Tryz.func259 Tryz.ntmps259 ?_;refine aI (aB 0 24 .nil) ?_;refine bf ?_;refine aI (aB 0 10 (.a 10 (.a 11 .nil))) ?_;refine bf ?_;refine bR ?_;rw [RS.name,if_pos hc,ht];simp only [if_pos hk,if_neg hs];exact ⟨rfl,rfl⟩
   ·have ly:(t.kind != 2)=true:=by simpa using hk
    refine ai Tryz.func259 Tryz.ntmps259 ?_;refine aI (aB 0 24 .nil) ?_;refine bf ?_;refine ab [0] (kD p hp) ?_;refine ab [0] (lS p 7 p.place) ?_;refine bR ?_;rw [RS.name,if_pos hc,ht];simp only [if_neg hk];exact ⟨rfl,rfl⟩
  | none =>
   have ak:p.l.length<=p.i:=List.getElem?_eq_none_iff.1 ht
   have hd:decide (((p.l.map c8).length:Int)<=(p.i:Int))=true:=by simp;omega
   refine ai Tryz.func259 Tryz.ntmps259 ?_;refine aI (aB 0 24 .nil) ?_;refine bf ?_;refine ab [0] (kD p hp) ?_;refine ab [0] (lS p 7 p.place) ?_;refine bR ?_;rw [RS.name,if_pos hc,ht];exact ⟨rfl,rfl⟩
 ·have dq:(p.code != 0)=true:=by simpa using hc
  refine ai Tryz.func259 Tryz.ntmps259 ?_;refine bR ?_;rw [RS.name,if_neg hc];exact ⟨rfl,rfl⟩
abbrev ints (l:List Int):GV:=.sl 1 (l.map fun i=>[.v (ii i)])
abbrev strs (l:List ah):GV:=.sl 1 (l.map fun s=>[.v (sv s)])
mutual
def TR:T->List GV
 | .mk n k=>[.v (ii n.kind),.v (ii n.at_),.v (ii n.n),.v (sv n.s),ints n.kids,.sl 6 (aR k)]
def aR:List T->List (List GV)
 | []=>[]
 | t::r=>TR t::aR r
end
abbrev cT (t:T):List GV:=[.v (ii t.n.kind),.v (ii t.n.at_),.v (ii t.n.n),.v (sv t.n.s),ints t.n.kids,.sl 6 (aR t.kids)]
theorem uZ (t:T):TR t=cT t:=by
 cases t;rfl
theorem fR (k a:Int) (s:ah) (l:List T) (rows:List (List GV)) (h:aR l=rows):GF Tryz.prog 222 [.v (ii k),.v (ii a),.v (sv s),.sl 6 rows] [] (.agg (cT (one k a s l))) []:=by
 subst h;refine ai Tryz.func222 Tryz.ntmps222 ?_;refine ra ?_;exact ⟨_,jd,rfl,rfl⟩
theorem jC:GF Tryz.prog 276 [] [] (.sl 1 (levels.map fun l=>[strs l])) []:=by
 refine ai Tryz.func276 Tryz.ntmps276 ?_
 iterate 10 (refine bS ?_)
 exact av
theorem DR {xs:List ah} {k:Nat} {s x:ah} (h:xs[k]?=some x):(xs.take (k+1)).contains s=((xs.take k).contains s || (x==s)):=by
 rw [take_add_one,h,List.contains_append];show (_ || [x].contains s)=_
 congr 1
 rw [List.contains_cons,List.contains_nil,Bool.or_false];exact Bool.beq_comm
theorem jj (xs:List ah) (s:ah) (hl:xs.length<=1099511627776):GF Tryz.prog 74 [strs xs,.v (sv s)] [] (.v (.bool (xs.contains s))) []:=by
 refine ai Tryz.func74 Tryz.ntmps74 ?_;refine GW.range (xs.map fun s=>[GV.v (sv s)]).length (fun k fr Γ=>fr=[strs xs,.v (sv s),.U,.U,.U,.U,.U,strs xs,.v (ii ((xs.map fun s=>[GV.v (sv s)]).length:Int)),.v (ii k),.U,.U,.U,.U,.U,.U,.U]/\Γ=[]/\(xs.take k).contains s=false) ?_ (by simpa using hl) ?_ ?_ ?_
 ·exact jy
 ·exact gx
 ·rintro k _ _ ak ⟨rfl,rfl,hc⟩
  have ak:k < xs.length:=by simpa using ak
  have hx:xs[k]?=some xs[k]:=by simp [ak]
  have hr:(xs.map fun s=>[GV.v (sv s)])[k]?=some [.v (sv xs[k])]:=by simp [ak]
  have eJ:=DR (s:=s) hx;refine ae ?_;refine GW.cond rfl (fun h2=>?_) (fun h2=>?_)
  ·refine ae ?_;refine bR ?_
   have h3:xs[k]=s:=by simpa using h2
   have:s∈xs:=by rw [<-h3];exact getElem_mem _
   refine ⟨?_,rfl⟩;show GV.v (.bool true)=_;rw [List.contains_iff_mem.2 this]
  ·refine ae ?_;exact ⟨rfl,rfl,_,_,Wk.aC aq,rfl,rfl,by rw [eJ,hc,h2];rfl⟩
 ·rintro _ _ ⟨rfl,rfl,hc⟩;refine ae ?_;refine bR ?_
  have hc:xs.contains s=false:=by simpa using hc
  refine ⟨?_,rfl⟩;show GV.v (.bool false)=_;rw [hc]
end Go.Xg
namespace Go.Xg
open Go.RowKit Go.Xw
section
variable {P:Program} {m:Nat} {Q:dB} {fr:List GV} {Γ:List Ob}
theorem GW.Rv {c y:Code} {B:Nat} (K:List GV->List Ob->Prop) (h1:GW P m c (aZ B (aU (yZ m K) Q)) fr Γ) (h2:∀ fr Γ,K fr Γ->GW P m y Q fr Γ):GW P m c (aZ B (aU (GW P m y Q) Q)) fr Γ:=by
 refine h1.mono fun e fr Γ hq=>?_
 have key:∀ fr Γ,yZ m K fr Γ->GW P m y Q fr Γ:=fun fr Γ ⟨b7,aK,hw,hk⟩=>GW.wk hw (h2 _ _ hk)
 cases e with
 | normal=>exact key _ _ hq
 | exit n =>
  simp only [aZ] at hq |-;split
  ·rename_i hn;rw [if_pos hn] at hq;exact key _ _ hq
  ·rename_i hn;rw [if_neg hn] at hq;exact hq
 | _=>exact hq
end
section
variable {P:Program} {fn:Func} {m:Nat} {R:GV->List Ob->Prop} {fr:List GV} {Γ:List Ob} {e:Exit}
theorem Wx {n:Nat} {t u:Tmp} {T:TypeId} {k:Nat} [hT:Ty P T true k] {i:Nat} {E:TypeId} {cs:List GV} {g:GV} (hr:fn.results=#[.cell t T,.tmp u]) (he:e=.normal\/e=.ret) (hg:cE fr t=.loc i 0) (bz:Γ[i]?=some (.box E cs)) (hk:cs.length=k) (fL:cE fr u=g)
  (hm:m<=n) (hl:zy n (Γ.take n)=true) (jq:(GV.tup [.agg cs,g]).lt n=true) (h:R (.tup [.agg cs,g]) (Γ.take n)):sW P fn m R e fr Γ :=
 ⟨he,fun B K β w l hB hI hF=>by
  obtain ⟨b,vs,h1,h2,h3,h4⟩:=hI.ob i _ bz
  have hp:nth l t=.pointer (some ⟨b,0,none⟩):=by
   have:=hF.nth t;rw [hg] at this;generalize nth l t=v at this
   cases this with
   | loc _ _ b' bq=>rw [h1] at bq;cases bq;rfl
  have la:l.toArray.getD t undef=.pointer (some ⟨b,0,none⟩):=by rw [jQ,hp]
  have Fc:=nG (P:=P) (w:=w) (t:=T) (b:=b) (o:=0) (vs:=vs) (k:=k) (by rw [h3.1,hk]) (fun j v hj=>by
   rw [Nat.zero_add,cell_of_row w b j _ E (0,0) h2];simpa using hj)
  have zW:l[t]?.getD undef=.pointer (some ⟨b,0,none⟩):=by simpa using la
  refine ⟨.tuple #[.agg vs.toArray,nth l u],K,fi (below n) β,.tup [.agg cs,g],Γ.take n,?_,hI.cut ag hl,?_,h⟩
  ·rw [<-jQ l u];simp [results,hr,zW,asAddr,Fc]
  ·refine Rel.res ?_ jq;subst fL;have hc:ba K β [.agg vs.toArray,nth l u] [.agg cs,cE fr u]:=.cons (.agg vs cs h3.1 h3.2) (.cons (hF.nth u) .nil)
   exact .tup _ _ hc.1 hc.2⟩
theorem My {n:Nat} {t u s:Tmp} {T:TypeId} {k:Nat} [hT:Ty P T true k] {i:Nat} {E:TypeId} {cs:List GV} {g g':GV} (hr:fn.results=#[.cell t T,.tmp u,.tmp s]) (he:e=.normal\/e=.ret) (hg:cE fr t=.loc i 0) (bz:Γ[i]?=some (.box E cs)) (hk:cs.length=k) (fL:cE fr u=g) (XO:cE fr s=g')
  (hm:m<=n) (hl:zy n (Γ.take n)=true) (jq:(GV.tup [.agg cs,g,g']).lt n=true) (h:R (.tup [.agg cs,g,g']) (Γ.take n)):sW P fn m R e fr Γ :=
 ⟨he,fun B K β w l hB hI hF=>by
  obtain ⟨b,vs,h1,h2,h3,h4⟩:=hI.ob i _ bz
  have hp:nth l t=.pointer (some ⟨b,0,none⟩):=by
   have:=hF.nth t;rw [hg] at this;generalize nth l t=v at this
   cases this with
   | loc _ _ b' bq=>rw [h1] at bq;cases bq;rfl
  have la:l.toArray.getD t undef=.pointer (some ⟨b,0,none⟩):=by rw [jQ,hp]
  have Fc:=nG (P:=P) (w:=w) (t:=T) (b:=b) (o:=0) (vs:=vs) (k:=k) (by rw [h3.1,hk]) (fun j v hj=>by
   rw [Nat.zero_add,cell_of_row w b j _ E (0,0) h2];simpa using hj)
  have zW:l[t]?.getD undef=.pointer (some ⟨b,0,none⟩):=by simpa using la
  refine ⟨.tuple #[.agg vs.toArray,nth l u,nth l s],K,fi (below n) β,.tup [.agg cs,g,g'],Γ.take n,?_,hI.cut ag hl,?_,h⟩
  ·rw [<-jQ l u,<-jQ l s];simp [results,hr,zW,asAddr,Fc]
  ·refine Rel.res ?_ jq;subst fL XO;have hc:ba K β [.agg vs.toArray,nth l u,nth l s] [.agg cs,cE fr u,cE fr s]:=.cons (.agg vs cs h3.1 h3.2) (.cons (hF.nth u) (.cons (hF.nth s) .nil))
   exact .tup _ _ hc.1 hc.2⟩
end
end Go.Xg
namespace Go.Xg
open Go.RowKit Go.Xw Go.Proofs
open Go.Xp (Tok Nd T bh one levels)
open Go.Sp
attribute [local irreducible] GW GL GO YG GC GA aU aZ
abbrev CP (c:UInt8):GV:=.v (.int .u8 (c.toNat:Int))
theorem wu (c:UInt8):GF Tryz.prog 144 [CP c] [] (.v (.bool (small c))) []:=by
 unfold small;refine da Tryz.func144 Tryz.ntmps144 ?_
 cases h:decide ((97:Int)<=(c.toNat:Int))
 all_goals
  exact av
theorem wq (c:UInt8):GF Tryz.prog 185 [CP c] [] (.v (.bool (dT c))) []:=by
 unfold dT;refine da Tryz.func185 Tryz.ntmps185 ?_
 cases h:decide ((48:Int)<=(c.toNat:Int))
 all_goals
  exact av
theorem Dk (c:UInt8):GF Tryz.prog 143 [CP c] [] (.v (.bool (dN c))) []:=by
 unfold dN;have hs:=wu c;have hd:=wq c;generalize small c=b1 at *;generalize dT c=b2 at *;refine ai Tryz.func143 Tryz.ntmps143 ?_;refine iz [] hs ?_
 cases b1 with
 | true =>
  exact av
 | false =>
  cases h1:decide ((65:Int)<=(c.toNat:Int)) with
  | true =>
   cases h2:decide ((c.toNat:Int)<=90) with
   | true =>
    exact av
   | false =>
    refine ae ?_;refine iz [] hd ?_
    cases b2 with
    | true =>
     exact av
    | false =>
     exact av
  | false =>
   refine ae ?_;refine iz [] hd ?_
   cases b2 with
   | true =>
    exact av
   | false =>
    exact av
theorem oK (s t:ah) (a:Nat) (hs:s.length<=1152921504606846976) (ht:t.length<=1152921504606846976) (ha:a<=1152921504606846976) :
  GF Tryz.prog 254 [.v (sv s),.v (ii (a:Nat)),.v (sv t)] [] (.v (.bool (bx s a t))) []:=by
 by_cases h:a+t.length<=s.length
 ·have h':decide (((a+t.length:Nat):Int)<=(s.length:Int))=true:=by simpa using by omega
  refine ai Tryz.func254 Tryz.ntmps254 ?_;refine bR ?_;unfold bx;rw [decide_eq_true h];exact ⟨rfl,rfl⟩
 ·have h':decide (((a+t.length:Nat):Int)<=(s.length:Int))=false:=by simpa using by omega
  refine ai Tryz.func254 Tryz.ntmps254 ?_;refine bR ?_;unfold bx;rw [decide_eq_false h];exact ⟨rfl,rfl⟩
theorem NZ (s:ah) (a:Nat) (hs:s.length<=1099511627776) (ha:a<=s.length) :
  GF Tryz.prog 219 [.v (sv s),.v (ii (a:Nat))] [] (.tup [.v (ii ((skip s (s.length+1) a).1:Nat)),.v (ii (skip s (s.length+1) a).2)]) []:=by
 generalize hR:skip s (s.length+1) a=R;refine ai Tryz.func219 Tryz.ntmps219 ?_;refine GW.loop (fun x:Nat × Nat=>x.1) (fun x fr Γ=>fr=[.v (sv s),.v (ii (x.2:Nat)),.U,.U,.U,.U,.U,.U,.U,.U,.U,.U,.U,.U,.U,.U,.U,.U,.U,.U,.U,.U,.U,.U,.U,.U,.U,.U,.U,.U,.U,.U,.U,.U,.U,.U,.U,.U,.U,.U,.U,.U,.U,.U,.U,.U,.U,.U,.U,.U,.U,.U,.U,.U,.U,.U,.U,.U,.U,.U,.U,.U,.U]/\Γ=[]/\x.2<=s.length/\s.length < x.1+x.2/\skip s x.1 x.2=R) (s.length+1,a) ?_ ?_
 ·exact ⟨_,_,Wk.aC aq,rfl,rfl,ha,by simp;omega,hR⟩
 ·rintro ⟨f,a⟩ _ _ ⟨rfl,rfl,ha,hf,h⟩;simp only at ha hf h
  cases f with
  | zero=>omega
  | succ f =>
  rw [skip] at h
  cases hc:s[a]? with
  | none =>
   rw [hc] at h;simp only at h;subst h;have lx:s.length<=a:=List.getElem?_eq_none_iff.1 hc
   have hd:decide ((a:Int) < (s.length:Int))=false:=by simpa using lx
   refine bH ?_;exact qZ
  | some c =>
   rw [hc] at h;simp only at h;have ak:a < s.length:=(List.getElem?_eq_some_iff.1 hc).1
   have hd:decide ((a:Int) < (s.length:Int))=true:=by simpa using ak
   have hb:dA c=(((c.toNat:Int)==32) || ((c.toNat:Int)==9) || ((c.toNat:Int)==10) || ((c.toNat:Int)==13)):=rfl
   by_cases nc:dA c=true
   ·rw [if_pos nc] at h;rw [hb] at nc;have Fu:((c.toNat:Int)==32)=true\/(((c.toNat:Int)==32)=false/\((c.toNat:Int)==9)=true)\/(((c.toNat:Int)==32)=false/\((c.toNat:Int)==9)=false/\((c.toNat:Int)==10)=true) \/
      (((c.toNat:Int)==32)=false/\((c.toNat:Int)==9)=false/\((c.toNat:Int)==10)=false/\((c.toNat:Int)==13)=true):=by
     generalize ((c.toNat:Int)==32)=b1 at *;generalize ((c.toNat:Int)==9)=b2 at *;generalize ((c.toNat:Int)==10)=b3 at *;generalize ((c.toNat:Int)==13)=b4 at *;clear hb
     revert nc;cases b1 <;> cases b2 <;> cases b3 <;> cases b4 <;> simp
    clear hb nc
    rcases Fu with k1 | ⟨k1,k2⟩ | ⟨k1,k2,k3⟩ | ⟨k1,k2,k3,k4⟩
    all_goals
     refine bH ?_;exact ⟨(f,a+1),⟨_,_,Wk.aC aq,rfl,rfl,by simp only;omega,by simp only;omega,h⟩,by simp⟩
   ·rw [if_neg nc] at h;rw [hb] at nc
    have Fu:((c.toNat:Int)==32)=false/\((c.toNat:Int)==9)=false/\((c.toNat:Int)==10)=false/\((c.toNat:Int)==13)=false:=by
     generalize ((c.toNat:Int)==32)=b1 at *;generalize ((c.toNat:Int)==9)=b2 at *;generalize ((c.toNat:Int)==10)=b3 at *;generalize ((c.toNat:Int)==13)=b4 at *;clear hb
     revert nc;cases b1 <;> cases b2 <;> cases b3 <;> cases b4 <;> simp
    clear hb nc;obtain ⟨k1,k2,k3,k4⟩:=Fu
    by_cases nB:bx s a [47,42]=true
    ·rw [if_pos nB] at h;have nc:=jt nB;have nc:a+2<=s.length:=nc
     have xE:(!bx s a [47,42])=false:=by rw [nB];rfl
     try simp only at h
     generalize he:eN s s.length (a+2)=e at h;refine ae ?_;refine ab [] (oK s [47,42] a ag aJ ag) ?_;have ML:=rh s s.length (a+2) ag ag;have zg:=sk s s.length (a+2) ag;rw [he] at ML zg;refine GW.Rv (fun fr Γ=>fr=[.v (sv s),.v (ii (a:Nat)),.U,.U,.U,.U,.v (ii (e:Nat)),.U,.U,.U,.U,.U,.U,.U,.U,.U,.U,.U,.U,.U,.U,.U,.U,.U,.U,.U,.U,.U,.U,.U,.U,.U,.U,.U,.U,.U,.U,.U,.U,.U,.U,.U,.U,.U,.U,.U,.U,.U,.U,.U,.U,.U,.U,.U,.U,.U,.U,.U,.U,.U,.U,.U,.U]/\Γ=[]) ?_ ?_
     ·refine GW.loop (fun x:Nat × Nat=>x.1) (fun x fr Γ=>fr=[.v (sv s),.v (ii (a:Nat)),.U,.U,.U,.U,.v (ii (x.2:Nat)),.U,.U,.U,.U,.U,.U,.U,.U,.U,.U,.U,.U,.U,.U,.U,.U,.U,.U,.U,.U,.U,.U,.U,.U,.U,.U,.U,.U,.U,.U,.U,.U,.U,.U,.U,.U,.U,.U,.U,.U,.U,.U,.U,.U,.U,.U,.U,.U,.U,.U,.U,.U,.U,.U,.U,.U]/\Γ=[]/\x.2<=s.length/\eN s x.1 x.2=e) (s.length,a+2) ?_ ?_
      ·exact ⟨_,_,Wk.aC aq,rfl,rfl,by simp only;omega,he⟩
      ·rintro ⟨g,e'⟩ _ _ ⟨rfl,rfl,hle,sZ⟩;simp only at hle sZ
       by_cases hstop:e' < s.length
       ·have dd:decide ((e':Int) < (s.length:Int))=true:=by simpa using hstop
        cases oa:bx s e' [42,47] with
        | true =>
         have Y0:(!bx s e' [42,47])=false:=by rw [oa];rfl
         have w5:e'=e:=by
          cases g with
          | zero=>exact sZ
          | succ g=>rw [eN,if_neg (by rw [oa];simp)] at sZ;exact sZ
         subst w5;refine ae ?_;refine ab [] (oK s [42,47] e' ag aJ ag) ?_;refine jc ?_;exact jn
        | false =>
         have Y0:(!bx s e' [42,47])=true:=by rw [oa];rfl
         cases g with
         | zero=>exact absurd ⟨by rw [<-sZ];exact hstop,by rw [<-sZ];exact oa⟩ ML
         | succ g =>
          rw [eN,if_pos ⟨hstop,oa⟩] at sZ;refine ae ?_;refine ab [] (oK s [42,47] e' ag aJ ag) ?_;exact ⟨(g,e'+1),⟨_,_,Wk.aC aq,rfl,rfl,hstop,sZ⟩,by simp⟩
       ·have dd:decide ((e':Int) < (s.length:Int))=false:=by simp;omega
        have w5:e'=e:=by
         cases g with
         | zero=>exact sZ
         | succ g=>rw [eN,if_neg (fun hh=>hstop hh.1)] at sZ;exact sZ
        subst w5;refine bH ?_;exact jn
     ·rintro _ _ ⟨rfl,rfl⟩
      by_cases hle:s.length<=e
      ·rw [if_pos hle] at h
       have Zf:decide ((s.length:Int)<=(e:Int))=true:=by simpa using hle
       subst h;exact qZ
      ·rw [if_neg hle] at h
       have Zf:decide ((s.length:Int)<=(e:Int))=false:=by simp;omega
       have oa:bx s e [42,47]=true:=by
        cases oa:bx s e [42,47] with
        | true=>rfl
        | false=>exact absurd ⟨by omega,oa⟩ ML
       have oa:=jt oa;have oa:e+2<=s.length:=oa;refine bH ?_;exact ⟨(f,e+2),⟨_,_,Wk.aC aq,rfl,rfl,oa,by simp only;omega,h⟩,by simp⟩
    ·rw [if_neg nB] at h
     have xE:(!bx s a [47,42])=true:=by simpa using nB
     subst h;refine ae ?_;refine ab [] (oK s [47,42] a ag aJ ag) ?_;exact mf
theorem wv:GF Tryz.prog 115 [] [] (strs words) []:=by
 refine ai Tryz.func115 Tryz.ntmps115 ?_;refine bS ?_;exact av
theorem Kb:GF Tryz.prog 256 [] [] (strs bG) []:=by
 refine ai Tryz.func256 Tryz.ntmps256 ?_;refine bS ?_;exact av
theorem Nj (s:ah) (hs:s.length<=1099511627776):GF Tryz.prog 114 [.v (sv s)] [] (.v (.bool (word s))) []:=by
 refine ai Tryz.func114 Tryz.ntmps114 ?_;refine GW.loop (fun a:Nat=>s.length - a) (fun a fr Γ=>fr=[.v (sv s),.U,.U,.v (ii (a:Nat)),.U,.U,.U,.U,.U,.U,.U,.U,.U,.U,.U,.U,.U,.U,.U,.U,.U,.U]/\Γ=[]/\a<=s.length/\(s.take a).all dN=true) 0 ?_ ?_
 ·exact ⟨_,_,Wk.aC aq,rfl,rfl,Nat.zero_le _,rfl⟩
 ·rintro a _ _ ⟨rfl,rfl,ha,aQ⟩
  cases hc:s[a]? with
  | some c =>
   have ak:a < s.length:=(List.getElem?_eq_some_iff.1 hc).1
   have hd:decide ((a:Int) < (s.length:Int))=true:=by simpa using ak
   have bu:(s.take (a+1)).all dN=((s.take a).all dN&&dN c):=by
    rw [take_add_one,hc,List.all_append];simp
   have hp:=Dk c
   cases hn:dN c with
   | true =>
    rw [hn] at hp;refine ae ?_;refine ab [] hp ?_;exact ⟨a+1,⟨_,_,Wk.aC aq,rfl,rfl,ak,by rw [bu,aQ,hn];rfl⟩,by omega⟩
   | false =>
    rw [hn] at hp;refine ae ?_;refine ab [] hp ?_;refine bR ?_;refine ⟨?_,rfl⟩
    have hw:word s=false:=by
     have:s.all dN=false:=by
      rw [List.all_eq_false];exact ⟨c,mem_of_getElem? hc,by rw [hn];decide⟩
     unfold word;rw [this];rfl
    rw [hw];rfl
  | none =>
   have lx:s.length<=a:=List.getElem?_eq_none_iff.1 hc
   have hd:decide ((a:Int) < (s.length:Int))=false:=by simpa using lx
   have aQ:s.all dN=true:=by rw [take_of_length_le lx] at aQ;exact aQ
   cases s with
   | nil =>
    refine bH ?_;exact av
   | cons c r =>
    have hr:(c::r)[0]?=some c:=rfl;refine bH ?_;refine ae ?_;refine ab [] (wu c) ?_;refine bR ?_;refine ⟨?_,rfl⟩;unfold word;rw [aQ];rfl
theorem dX (s:ah) (hs:s.length<=1099511627776):GF Tryz.prog 71 [.v (sv s)] [] (.v (.bool (bp s))) []:=by
 have hw:=Nj s hs;unfold bp;generalize word s=b at *;refine ai Tryz.func71 Tryz.ntmps71 ?_;refine iz [] hw ?_
 cases b with
 | false =>
  exact av
 | true =>
  by_cases n9:s.length<=12
  ·have YU:decide ((s.length:Int)<=12)=true:=by simpa using by omega
   refine ae ?_;refine ab [] wv ?_;refine ab [] (jj words s aJ) ?_;refine bR ?_;rw [decide_eq_true n9];exact ⟨rfl,rfl⟩
  ·have YU:decide ((s.length:Int)<=12)=false:=by simpa using by omega
   refine ae ?_;refine bR ?_;rw [decide_eq_false n9];exact ⟨rfl,rfl⟩
theorem He (s:ah) (a:Nat) (hs:s.length<=1099511627776) (ha:a<=s.length) :
  GF Tryz.prog 255 [.v (sv s),.v (ii (a:Nat))] [] (.tup [.agg (c8 ⟨1,(number s (s.length+1) 0 a).1,[],a⟩),.v (ii ((number s (s.length+1) 0 a).2:Nat))]) []:=by
 generalize hR:number s (s.length+1) 0 a=R;generalize ha0:a=a0 at *;refine ai Tryz.func255 Tryz.ntmps255 ?_;refine GW.loop (fun x:Nat × Int × Nat=>x.1) (fun x fr Γ=>fr=[.v (sv s),.v (ii (x.2.2:Nat)),.U,.U,.loc 0 0,.U,.loc 1 0,.U,.U,.U,.U,.U,.U,.U,.U,.U,.U,.U,.U,.U,.U,.U,.U,.U,.U,.U,.U,.U,.U,.U,.U,.U,.U,.U,.U,.U]/\Γ=[.box 203 [.v (ii 0),.v (ii 0),.v (sv []),.v (ii 0)],.box 203 (c8 ⟨1,x.2.1,[],a0⟩)]/\x.2.2<=s.length/\s.length < x.1+x.2.2/\number s x.1 x.2.1 x.2.2=R/\0<=x.2.1/\x.2.1<=21474836479) (s.length+1,0,a0) ?_ ?_
 ·exact ⟨_,_,Wk.aC aq,rfl,rfl,by simp only;omega,by simp only;omega,by rw [<-hR],by simp,by simp⟩
 ·rintro ⟨f,n,a⟩ _ _ ⟨rfl,rfl,ha,hf,h,C9,Fg⟩;simp only at ha hf h C9 Fg
  cases f with
  | zero=>omega
  | succ f =>
  rw [number] at h
  cases hc:s[a]? with
  | none =>
   rw [hc] at h;simp only at h;subst h;have lx:s.length<=a:=List.getElem?_eq_none_iff.1 hc
   have hd:decide ((a:Int) < (s.length:Int))=false:=by simpa using lx
   refine bH ?_;refine ae ?_;refine pb ?_;exact ⟨rfl,rfl⟩
  | some c =>
   rw [hc] at h;simp only at h;have ak:a < s.length:=(List.getElem?_eq_some_iff.1 hc).1
   have hd:decide ((a:Int) < (s.length:Int))=true:=by simpa using ak
   have mx:=wq c
   cases hdc:dT c with
   | false =>
    rw [hdc] at mx;rw [if_neg (by rw [hdc];simp)] at h;subst h;refine ae ?_;refine ab [] mx ?_;refine jc ?_;refine ae ?_;refine pb ?_;exact ⟨rfl,rfl⟩
   | true =>
    rw [hdc] at mx;rw [if_pos hdc] at h
    have xQ:(48:Int)<=(c.toNat:Int)/\(c.toNat:Int)<=57:=by
     simp only [dT,Bool.and_eq_true,decide_eq_true_eq] at hdc;exact hdc
    by_cases hn:n<=2147483647
    ·rw [if_pos hn] at h
     have A1:decide (n<=2147483647)=true:=by simpa using hn
     refine ae ?_;refine ab [] mx ?_;refine aI (aB 0 10 (.a 10 .nil)) ?_;refine bf ?_;exact ⟨(f,n * 10+((c.toNat:Int) - 48),a+1),⟨_,_,Wk.aC aq,rfl,rfl,ak,by simp only;omega,h,by simp only;omega,by simp only;omega⟩,by simp⟩
    ·rw [if_neg hn] at h
     have A1:decide (n<=2147483647)=false:=by simpa using hn
     refine ae ?_;refine ab [] mx ?_;exact ⟨(f,n,a+1),⟨_,_,Wk.aC aq,rfl,rfl,ak,by simp only;omega,h,C9,Fg⟩,by simp⟩
theorem Mg {xs:List ah} {p:ah->Bool} {k:Nat} {x:ah} (h:(xs.take k).find? p=none) (hx:xs[k]?=some x) (hp:p x=true):xs.find? p=some x:=by
 have ak:=(List.getElem?_eq_some_iff.1 hx).1
 have:xs=xs.take k++x::xs.drop (k+1):=by
  have h1:=List.take_append_drop k xs;rw [List.drop_eq_getElem_cons ak] at h1;rw [(List.getElem?_eq_some_iff.1 hx).2] at h1;exact h1.symm
 rw [this,List.find?_append,h];simp [List.find?_cons,hp]
theorem Mf {xs:List ah} {p:ah->Bool} {k:Nat} {x:ah} (h:(xs.take k).find? p=none) (hx:xs[k]?=some x) (hp:p x=false):(xs.take (k+1)).find? p=none:=by
 rw [take_add_one,hx,List.find?_append,h];simp [List.find?_cons,hp]
theorem Hw:∀ x∈bG,x.length<=1152921504606846976:=by decide
theorem PD (s:ah) (a:Nat) (c:UInt8) (hs:s.length<=1099511627776) (hc:s[a]?=some c) :
  GF Tryz.prog 220 [.v (sv s),.v (ii (a:Nat))] [] (.tup [.agg (c8 (iJ s a c).1),.v (ii ((iJ s a c).2:Nat))]) []:=by
 have ak:a < s.length:=(List.getElem?_eq_some_iff.1 hc).1;have mx:=wq c;have iT:=wu c;unfold iJ
 cases hdc:dT c with
 | true =>
  rw [hdc] at mx;rw [if_pos rfl];refine ai Tryz.func220 Tryz.ntmps220 ?_;refine ab [] mx ?_;refine ab [] (He s a hs ag) ?_;refine pb ?_;exact ⟨rfl,rfl⟩
 | false =>
  rw [hdc] at mx;rw [if_neg aJ]
  cases hsc:small c with
  | true =>
   rw [hsc] at iT;rw [if_pos rfl];have XZ:=pE s dN (s.length+1) a ag ag;have X4:(s.take (eB s a)).drop a=fa s a:=rfl;have UB:run s dN (s.length+1) a=eB s a:=rfl;rw [UB] at XZ;generalize he:eB s a=e at *;generalize hw:fa s a=w at *;have hw:=X4;have he:=UB;refine ai Tryz.func220 Tryz.ntmps220 ?_;refine ab [] mx ?_;refine ab [] iT ?_;refine GW.Rv (fun fr Γ=>fr=[.v (sv s),.v (ii (a:Nat)),.U,.U,.loc 0 0,.U,.v (ii (e:Nat)),.U,.U,.U,.U,.U,.U,.U,.U,.U,.U,.U,.U,.U,.U,.U,.U,.U,.U,.U,.U,.U,.U,.U,.U,.U,.U,.U,.U,.U,.U,.U,.U,.U,.U,.U,.U,.U,.U,.U,.U,.U,.U,.U,.U,.U,.U,.U,.U,.U,.U,.U,.U,.U,.U,.U,.U,.U,.U,.U,.U,.U,.U]/\Γ=[.box 203 [.v (ii 0),.v (ii 0),.v (sv []),.v (ii 0)]]) ?_ ?_
   ·refine GW.loop (fun x:Nat × Nat=>x.1) (fun x fr Γ=>fr=[.v (sv s),.v (ii (a:Nat)),.U,.U,.loc 0 0,.U,.v (ii (x.2:Nat)),.U,.U,.U,.U,.U,.U,.U,.U,.U,.U,.U,.U,.U,.U,.U,.U,.U,.U,.U,.U,.U,.U,.U,.U,.U,.U,.U,.U,.U,.U,.U,.U,.U,.U,.U,.U,.U,.U,.U,.U,.U,.U,.U,.U,.U,.U,.U,.U,.U,.U,.U,.U,.U,.U,.U,.U,.U,.U,.U,.U,.U,.U]/\Γ=[.box 203 [.v (ii 0),.v (ii 0),.v (sv []),.v (ii 0)]]/\x.2<=s.length/\s.length < x.1+x.2/\run s dN x.1 x.2=e) (s.length+1,a) ?_ ?_
    ·exact ⟨_,_,Wk.aC aq,rfl,rfl,by simp only;omega,by simp only;omega,he⟩
    ·rintro ⟨f,b⟩ _ _ ⟨rfl,rfl,hb,hf,h⟩;simp only at hb hf h
     cases f with
     | zero=>omega
     | succ f =>
     rw [run] at h
     cases zf:s[b]? with
     | none =>
      rw [zf] at h;simp only at h;subst h;have lx:s.length<=b:=List.getElem?_eq_none_iff.1 zf
      have hd:decide ((b:Int) < (s.length:Int))=false:=by simpa using lx
      refine bH ?_;exact jn
     | some cb =>
      rw [zf] at h;simp only at h;have pR:b < s.length:=(List.getElem?_eq_some_iff.1 zf).1
      have hd:decide ((b:Int) < (s.length:Int))=true:=by simpa using pR
      have hp:=Dk cb
      cases hn:dN cb with
      | true =>
       rw [hn] at hp;rw [if_pos hn] at h;refine ae ?_;refine ab [] hp ?_;exact ⟨(f,b+1),⟨_,_,Wk.aC aq,rfl,rfl,pR,by simp only;omega,h⟩,by simp⟩
      | false =>
       rw [hn] at hp;rw [if_neg (by rw [hn];decide)] at h;subst h;refine ae ?_;refine ab [] hp ?_;refine jc ?_;exact jn
   ·rintro _ _ ⟨rfl,rfl⟩;obtain ⟨_,h1,h2⟩:=XZ;refine ae ?_;rw [hw];have JY:=jj words w aJ
    cases hcw:words.contains w with
    | true =>
     rw [hcw] at JY;refine aI (.q 1 (.q 2 (.a 0 (.a 3 .nil)))) ?_;refine ar ?_;refine aE [] wv ?_;refine aE [] JY ?_;refine ae ?_;refine pb ?_;rw [if_pos rfl];exact ⟨rfl,rfl⟩
    | false =>
     rw [hcw] at JY;refine aI (.q 1 (.q 2 (.a 0 (.a 3 .nil)))) ?_;refine ar ?_;refine aE [] wv ?_;refine aE [] JY ?_;refine ae ?_;refine pb ?_;rw [if_neg aJ];exact ⟨rfl,rfl⟩
  | false =>
   rw [hsc] at iT;rw [if_neg aJ];refine ai Tryz.func220 Tryz.ntmps220 ?_;refine ab [] mx ?_;refine ab [] iT ?_;refine ab [] Kb ?_;refine GW.range (bG.map fun s=>[GV.v (sv s)]).length (fun k fr Γ=>fr=[.v (sv s),.v (ii (a:Nat)),.U,.U,.loc 0 0,.U,.U,.U,.U,.U,.U,.U,.U,.U,.U,.U,.U,.U,.U,.U,.U,.U,.U,.U,.U,.U,.U,.U,.U,.U,.U,.U,.U,.U,.U,.U,.U,.U,.U,.U,.U,.U,.U,.U,.U,.U,.U,.U,.U,strs bG,.v (ii ((bG.map fun s=>[GV.v (sv s)]).length:Int)),.v (ii (k:Nat)),.U,.U,.U,.U,.U,.U,.U,.U,.U,.U,.U,.U,.U,.U,.U,.U,.U]/\Γ=[.box 203 [.v (ii 0),.v (ii 0),.v (sv []),.v (ii 0)]]/\(bG.take k).find? (bx s a)=none) ?_ aJ ?_ ?_ ?_
   ·exact jy
   ·exact gx
   ·rintro k _ _ hk ⟨rfl,rfl,hf⟩
    have hk:k < bG.length:=by simpa using hk
    have hx:bG[k]?=some bG[k]:=by simp [hk]
    have hr:(bG.map fun s=>[GV.v (sv s)])[k]?=some [.v (sv bG[k])]:=by simp [hk]
    have zp:=Hw _ (getElem_mem hk);generalize bG[k]=x at *;have nB:=oK s x a ag zp ag
    cases hb:bx s a x with
    | true =>
     rw [hb] at nB;have UD:=Mg hf hx hb;refine ae ?_;refine ab [] nB ?_;refine pb ?_;rw [UD];exact ⟨rfl,rfl⟩
    | false =>
     rw [hb] at nB;refine ae ?_;refine ab [] nB ?_;exact ⟨rfl,rfl,_,_,Wk.aC aq,rfl,rfl,Mf hf hx hb⟩
   ·rintro _ _ ⟨rfl,rfl,hf⟩
    have hf:bG.find? (bx s a)=none:=by
     rw [take_of_length_le (by simp)] at hf;exact hf
    refine ae ?_;refine pb ?_;rw [hf];exact ⟨rfl,rfl⟩
theorem Qx {s:ah} {a:Nat} {c:UInt8} (hc:s[a]?=some c):a<=(iJ s a c).2/\(iJ s a c).2<=s.length:=by
 have ak:a < s.length:=(List.getElem?_eq_some_iff.1 hc).1;unfold iJ;split
 ·exact (wE s (s.length+1) 0 a ag ag).2
 ·split
  ·exact (pE s dN (s.length+1) a ag ag).2
  ·split
   ·rename_i x hx;have:=jt (List.find?_some hx);exact ⟨Nat.le_add_right _ _,this⟩
   ·exact ⟨Nat.le_refl _,by omega⟩
theorem Nl (s:ah) (l:List Tok) (hs:s.length<=1000000000000) (h:Go.Sp.iw s=some l) :
  GF Tryz.prog 191 [.v (sv s)] [] (Go.Xg.iw l) []:=by
 rw [Go.Sp.iw] at h;have hsk:=NZ s 0 ag (Nat.zero_le _);have ua:=yN s (s.length+1) 0 (Nat.zero_le _);generalize hS:skip s (s.length+1) 0=R at *;refine ai Tryz.func191 Tryz.ntmps191 ?_;refine kJ ?_;refine ae ?_;refine ab [] hsk ?_;refine GW.loop (fun x:Nat × Nat × List Tok=>x.1) (fun x fr Γ=>∃ n rows,fr=[.v (sv s),.U,.U,.vec 0 n,.v (ii (x.2.1:Nat)),.U,.U,.U,.U,.U,.U,.U,.U,.U,.U,.U,.U,.U,.U,.U,.U,.U,.U,.U,.U,.U,.U,.U,.U,.U,.U,.U,.U,.U,.U]/\Γ=[.vec 203 4 0 rows]/\rows.length=n/\rows=x.2.2.map c8/\n+x.1<=s.length+2/\x.2.1<=s.length/\qg s x.1 x.2.1 x.2.2=some l) (s.length+2,R.1,[]) ?_ ?_
 ·exact ⟨_,_,Wk.aC aq,0,[],rfl,rfl,rfl,rfl,by simp,ua.2,h⟩
 ·rintro ⟨f,a,acc⟩ _ _ ⟨n,rows,rfl,rfl,hn,bt,rC,ha,h⟩;simp only at bt rC ha h
  cases f with
  | zero=>simp [qg] at h
  | succ f =>
  rw [qg] at h
  cases hc:s[a]? with
  | none =>
   rw [hc] at h;simp only at h;cases h;have lx:s.length<=a:=List.getElem?_eq_none_iff.1 hc
   have hd:decide ((a:Int) < (s.length:Int))=false:=by simpa using lx
   subst bt;refine bH ?_;refine ae ?_;refine GW.wk (Wk.jw (t:=2) rfl rfl rfl hn) ?_;exact al
  | some c =>
   rw [hc] at h;simp only at h;have ak:a < s.length:=(List.getElem?_eq_some_iff.1 hc).1
   have hd:decide ((a:Int) < (s.length:Int))=true:=by simpa using ak
   have pn:=Qx hc;have gZ:=PD s a c ag hc;generalize iJ s a c=tk at *;have Zr:=NZ s tk.2 ag pn.2;have aaD:=yN s (s.length+1) tk.2 pn.2;generalize skip s (s.length+1) tk.2=R2 at *;refine ae ?_;refine ab [] gZ ?_;refine eP ?_;refine ae ?_;refine ab [] Zr ?_;exact ⟨(f,R2.1,acc++[tk.1]),⟨_,_,(Wk.cut (n:=1) (Nat.le_of_ble_eq_true rfl) rfl).trans (Wk.aC aq),_,_,rfl,rfl,by simp [hn],by rw [List.map_append,bt];rfl,by simp only;omega,by simp only;omega,h⟩,by simp⟩
structure Ek (f:Nat):Prop where
 expr:∀ d p t q,p.ok->d+f<=4611686018427387904->mE f (.expr d) p=some (t,q)->GF Tryz.prog 260 [.loc 0 0,.v (ii (d:Nat))] [bZ p] (.agg (cT t)) [bZ q]
 level:∀ k d p t q,p.ok->k<=9->d+f<=4611686018427387904->mE f (.level k d) p=some (t,q)->GF Tryz.prog 280 [.loc 0 0,.v (ii (k:Nat)),.v (ii (d:Nat))] [bZ p] (.agg (cT t)) [bZ q]
 operand:∀ d p t q,p.ok->d+f<=4611686018427387904->mE f (.operand d) p=some (t,q)->GF Tryz.prog 294 [.loc 0 0,.v (ii (d:Nat))] [bZ p] (.agg (cT t)) [bZ q]
 named:∀ a s d p t q,p.ok->d+f<=4611686018427387904->mE f (.named a s d) p=some (t,q)->GF Tryz.prog 301 [.loc 0 0,.v (ii a),.v (sv s),.v (ii (d:Nat))] [bZ p] (.agg (cT t)) [bZ q]
 list:∀ d p l q,p.ok->d+f<=4611686018427387904->mL f d p=some (l,q)->GF Tryz.prog 305 [.loc 0 0,.v (ii (d:Nat))] [bZ p] (.sl 6 (aR l)) [bZ q]
theorem TU {f:Nat} (C:Ek f) (d:Nat) (p:RS) (t:T) (q:RS) (hp:p.ok) (hd:d+(f+1)<=4611686018427387904) (h:mE (f+1) (.expr d) p=some (t,q)) :
  GF Tryz.prog 260 [.loc 0 0,.v (ii (d:Nat))] [bZ p] (.agg (cT t)) [bZ q]:=by
 rw [mE] at h;refine ai Tryz.func260 Tryz.ntmps260 ?_;refine ab [0] (uf p d hp) ?_;refine ab [0] (C.level 0 d _ t q ((nZ hp d).ok hp) ag ag h) ?_;exact dm
theorem IJ {k:Nat} (hk:k < 9):(levels.map fun l=>[strs l])[k]?=some [strs (levels.getD k [])]:=by
 have:k < levels.length:=hk;rw [getElem?_map,getElem?_eq_getElem this,List.getD_eq_getElem?_getD,getElem?_eq_getElem this];rfl
theorem Cc:∀ k,k < 9->(levels.getD k []).length<=1099511627776:=by decide
abbrev zT:List GV:=[.v (ii 0),.v (ii 0),.v (ii 0),.v (sv []),.v (.slice none 0 0),.v (.slice none 0 0)]
theorem SK {f:Nat} (C:∀ f',f'<=f->Ek f') (k d:Nat) (p:RS) (t:T) (q:RS) (hp:p.ok) (hk:k<=9) (hd:d+(f+1)<=4611686018427387904) (h:mE (f+1) (.level k d) p=some (t,q)) :
  GF Tryz.prog 280 [.loc 0 0,.v (ii (k:Nat)),.v (ii (d:Nat))] [bZ p] (.agg (cT t)) [bZ q]:=by
 rw [mE] at h
 by_cases AZ:k=9
 ·subst AZ;rw [if_pos rfl] at h;refine ai Tryz.func280 Tryz.ntmps280 ?_;refine ab [] jC ?_;refine ab [0] ((C f (Nat.le_refl _)).operand (d+1) p t q hp ag h) ?_;exact dm
 ·rw [if_neg AZ] at h
  have Zc:((k:Int)==9)=false:=by simp;omega
  cases he:mE f (.level (k+1) d) p with
  | none=>rw [he] at h;cases h
  | some r =>
   obtain ⟨out,p1⟩:=r;rw [he] at h;simp only at h;have lA:=((ui f).1 _ _ _ _ hp he).ok hp;refine ai Tryz.func280 Tryz.ntmps280 ?_;refine ab [] jC ?_;refine ab [0] ((C f (Nat.le_refl _)).level (k+1) d p out p1 hp ag ag he) ?_;refine GW.loop (fun x:Nat × T × RS=>x.1) (fun x fr Γ=>fr=[.loc 0 0,.v (ii (k:Nat)),.v (ii (d:Nat)),.U,.U,.U,.loc 1 0,.loc 2 0,.U,.U,.U,.U,.U,.U,.U,.U,.U,.U,.U,.U,.U,.U,.U,.U,.U,.U,.U,.U,.U,.U,.U,.U,.U,.U,.U,.U,.U,.U,.U,.U,.U,.U,.U,.U,.U,.U,.U,.U,.U,.U,.U,.U,.U,.U,.U,.U,.U,.U,.U,.U,.U,.U,.U,.U,.U,.U]/\Γ=[bZ x.2.2,.box 94 zT,.box 94 (cT x.2.1)]/\x.2.2.ok/\x.1<=f/\mE x.1 (.loop k d x.2.1) x.2.2=some (t,q)) (f,out,p1) ?_ ?_
   ·exact ⟨_,_,Wk.aC aq,rfl,rfl,lA,Nat.le_refl _,h⟩
   ·rintro ⟨g,out,p⟩ _ _ ⟨rfl,rfl,hp,MP,h⟩;simp only at hp MP h
    cases g with
    | zero=>simp [mE] at h
    | succ g =>
    rw [mE] at h
    have hk:k < 9:=by omega
    by_cases hc:p.code=0
    ·have dq:(p.code==0)=true:=by simpa using hc
     have Rb:=IJ hk
     by_cases hit:(levels.getD k []).contains (p.sign 0)=true
     ·rw [if_pos ⟨hc,hit⟩] at h
      cases ht:p.l[p.i]? with
      | none=>rw [ht] at h;cases h
      | some tk =>
       rw [ht] at h;simp only at h;have ak:=(List.getElem?_eq_some_iff.1 ht).1;have hr:=kl ht;have cQ:=hp.2
       cases hb:mE g (.level (k+1) d) p.next with
       | none=>rw [hb] at h;cases h
       | some r =>
        obtain ⟨b,p2⟩:=r;rw [hb] at h;simp only at h;have de:=(dv ak).ok hp;have dF:=((ui g).1 _ _ _ _ de hb).ok de;refine ae ?_;refine aI (aB 0 6 (.q 7 (.q 10 (.a 6 (.q 8 (.q 9 (.a 11 (.a 12 (.q 13 .nil))))))))) ?_;refine ar ?_;refine bB [] jC ?_;refine bB [0] (c6 p 0 hp aJ) ?_;refine bB [] (jj (levels.getD k []) (p.sign 0) (Cc k hk)) ?_;refine ae ?_;refine aI (aB 0 10 (.a 10 (.a 11 .nil))) ?_;refine bf ?_;refine aI (aB 0 9 (.a 9 (.a 10 (.a 11 (.a 12 .nil))))) ?_;refine ar ?_;refine aE [0] ((C g ag).level (k+1) d p.next b p2 de ag ag hb) ?_;refine ey ?_;refine ar ?_;refine wQ [] (fR 6 tk.at_ tk.s [out,b] _ n5) ?_;refine GB ?_;refine bf ?_;exact ⟨(g,one 6 tk.at_ tk.s [out,b],p2),⟨_,_,(Wk.cut (n:=3) (Nat.le_of_ble_eq_true rfl) rfl).trans (Wk.aC aq),rfl,rfl,dF,by omega,h⟩,by simp⟩
     ·have hit:(levels.getD k []).contains (p.sign 0)=false:=by simpa using hit
      rw [if_neg (by rw [hit];simp)] at h
      obtain ⟨rfl,rfl⟩:out=t/\p=q:=by simpa using h
      refine ae ?_;refine aI (aB 0 6 (.q 7 (.q 10 (.a 6 (.q 8 (.q 9 (.a 11 (.a 12 (.q 13 .nil))))))))) ?_;refine ar ?_;refine bB [] jC ?_;refine bB [0] (c6 p 0 hp aJ) ?_;refine bB [] (jj (levels.getD k []) (p.sign 0) (Cc k hk)) ?_;refine bH ?_;exact o9
    ·have dq:(p.code==0)=false:=by simpa using hc
     rw [if_neg (fun hh=>hc hh.1)] at h
     obtain ⟨rfl,rfl⟩:out=t/\p=q:=by simpa using h
     refine ae ?_;refine aI (aB 0 6 (.q 7 (.q 10 (.a 6 (.q 8 (.q 9 (.a 11 (.a 12 (.q 13 .nil))))))))) ?_;refine bf ?_;refine jc ?_;exact o9
theorem SP {f:Nat} (C:Ek f) (a:Int) (s:ah) (d:Nat) (p:RS) (t:T) (q:RS) (hp:p.ok) (hd:d+(f+1)<=4611686018427387904) (h:mE (f+1) (.named a s d) p=some (t,q)) :
  GF Tryz.prog 301 [.loc 0 0,.v (ii a),.v (sv s),.v (ii (d:Nat))] [bZ p] (.agg (cT t)) [bZ q]:=by
 rw [mE] at h
 by_cases h1:p.sign 0=[91]
 ·rw [if_pos h1] at h
  have cH:(p.sign 0==[91])=true:=by simp [h1]
  have ak:=(fv h1 aJ).1;have cQ:=hp.2;have de:=(jb h1 aJ).ok hp
  cases he:mE f (.expr (d+1)) p.next with
  | none=>rw [he] at h;cases h
  | some r =>
   obtain ⟨b,p1⟩:=r;rw [he] at h;cases h;have lA:=((ui f).1 _ _ _ _ de he).ok de;refine ai Tryz.func301 Tryz.ntmps301 ?_;refine ab [0] (c6 p 0 hp aJ) ?_;refine ab [0] (C.expr (d+1) p.next b p1 de ag he) ?_;refine ab [0] (cZ p1 [93] lA aJ) ?_;refine bS ?_;refine ae ?_;refine ab [] (fR 3 a s [b] _ n5) ?_;exact dm
 ·rw [if_neg h1] at h
  have cH:(p.sign 0==[91])=false:=by simpa using h1
  by_cases h2:p.sign 0=[40]
  ·rw [if_pos h2] at h
   have qp:(p.sign 0==[40])=true:=by simp [h2]
   have ak:=(fv h2 aJ).1;have cQ:=hp.2;have de:=(jb h2 aJ).ok hp
   cases he:mL f (d+1) p.next with
   | none=>rw [he] at h;cases h
   | some r =>
    obtain ⟨l,p1⟩:=r;rw [he] at h;cases h;refine ai Tryz.func301 Tryz.ntmps301 ?_;refine ab [0] (c6 p 0 hp aJ) ?_;refine ab [0] (C.list (d+1) p.next l q de ag he) ?_;refine ab [] (fR 4 a s l _ rfl) ?_;exact dm
  ·rw [if_neg h2] at h
   have qp:(p.sign 0==[40])=false:=by simpa using h2
   cases h;refine ai Tryz.func301 Tryz.ntmps301 ?_;refine ab [0] (c6 p 0 hp aJ) ?_;refine ab [] (fR 2 a s [] [] rfl) ?_;exact dm
theorem aS (l:List T):(aR l).length=l.length:=by
 induction l with
 | nil=>rfl
 | cons a l ih=>simp [aR,ih]
theorem xp (l:List T) (a:T):aR (l++[a])=aR l++[cT a]:=by
 induction l with
 | nil=>simp [aR,uZ]
 | cons b l ih=>simp [aR,ih]
theorem Vp {f:Nat} (C:∀ f',f'<=f->Ek f') (d:Nat) (p:RS) (l:List T) (q:RS) (hp:p.ok) (hd:d+(f+1)<=4611686018427387904) (h:mL (f+1) d p=some (l,q)) :
  GF Tryz.prog 305 [.loc 0 0,.v (ii (d:Nat))] [bZ p] (.sl 6 (aR l)) [bZ q]:=by
 rw [mL] at h
 by_cases h1:p.sign 0=[41]
 ·rw [if_pos h1] at h
  have cH:(!(p.sign 0==[41]))=false:=by simp [h1]
  cases h;refine ai Tryz.func305 Tryz.ntmps305 ?_;refine kJ ?_;refine ae ?_;refine ab [0] (c6 p 0 hp aJ) ?_;refine ab [0] (cZ p [41] hp aJ) ?_;refine GW.wk (Wk.jw (t:=4) rfl rfl rfl rfl) ?_;exact al
 ·rw [if_neg h1] at h
  have cH:(!(p.sign 0==[41]))=true:=by simpa using h1
  cases he:mE f (.expr d) p with
  | none=>rw [he] at h;cases h
  | some r =>
   obtain ⟨a,p1⟩:=r;rw [he] at h;simp only at h;have lA:=((ui f).1 _ _ _ _ hp he).ok hp;refine ai Tryz.func305 Tryz.ntmps305 ?_;refine kJ ?_;refine ae ?_;refine ab [0] (c6 p 0 hp aJ) ?_;refine ab [0] ((C f (Nat.le_refl _)).expr d p a p1 hp ag he) ?_;refine eP ?_;refine ae ?_;refine GW.loop (fun x:Nat × List T × RS=>x.1) (fun x fr Γ=>∃ n rows,fr=[.loc 0 0,.v (ii (d:Nat)),.U,.U,.U,.vec 1 n,.U,.U,.U,.U,.U,.U,.U,.U,.U,.U,.U,.U,.U,.U,.U,.U,.U,.U,.U,.U,.U,.U,.U,.U,.U,.U,.U,.U,.U]/\Γ=[bZ x.2.2,.vec 94 6 0 rows]/\rows.length=n/\rows=aR x.2.1/\n<=x.2.2.i+1/\x.2.2.ok/\x.1<=f/\tw x.1 d x.2.1 x.2.2=some (l,q)) (f,[a],p1) ?_ ?_
   ·exact ⟨_,_,Wk.aC aq,_,_,rfl,rfl,rfl,(by simp only [aR,uZ];rfl),(by show 1<=p1.i+1;omega),lA,Nat.le_refl _,h⟩
   ·rintro ⟨g,acc,p⟩ _ _ ⟨n,rows,rfl,rfl,hn,bt,UK,hp,MP,h⟩;simp only at bt UK hp MP h
    cases g with
    | zero=>simp [tw] at h
    | succ g =>
    rw [tw] at h;have cQ:=hp.2;have Db:=hp.1
    by_cases h2:p.sign 0=[44]
    ·rw [if_pos h2] at h
     have qp:(p.sign 0==[44])=true:=by simp [h2]
     have ak:=(fv h2 aJ).1;have de:=(jb h2 aJ).ok hp
     cases hb:mE g (.expr d) p.next with
     | none=>rw [hb] at h;cases h
     | some r =>
      obtain ⟨b,p2⟩:=r;rw [hb] at h;simp only at h;have Rl:=(ui g).1 _ _ _ _ de hb;have dF:=Rl.ok de;have r9:p.i+1<=p2.i:=Rl.2.2.2;refine ae ?_;refine ab [0] (c6 p 0 hp aJ) ?_;refine ab [0] ((C g ag).expr d p.next b p2 de ag hb) ?_;refine eP ?_;refine ae ?_;exact ⟨(g,acc++[b],p2),⟨_,_,Wk.aC aq,_,_,rfl,rfl,by simp [hn],by rw [xp,bt],by simp only;omega,dF,by simp only;omega,h⟩,by simp⟩
    ·rw [if_neg h2] at h
     have qp:(p.sign 0==[44])=false:=by simpa using h2
     obtain ⟨rfl,rfl⟩:acc=l/\p.aL [41]=q:=by simpa using h
     subst bt;refine ae ?_;refine ab [0] (c6 p 0 hp aJ) ?_;refine jc ?_;refine ae ?_;refine ab [0] (cZ p [41] hp aJ) ?_;refine GW.wk (Wk.jw (t:=4) rfl rfl rfl hn) ?_;exact al
theorem NL {f:Nat} (C:Ek f) (d:Nat) (p:RS) (t:T) (q:RS) (hp:p.ok) (hd:d+(f+1)<=4611686018427387904) (h:mE (f+1) (.operand d) p=some (t,q)) :
  GF Tryz.prog 294 [.loc 0 0,.v (ii (d:Nat))] [bZ p] (.agg (cT t)) [bZ q]:=by
 rw [mE] at h;have jY:=(nZ hp d).ok hp;have wc:=uf p d hp;generalize p.deep d=p1 at *
 try simp only at h
 obtain ⟨Db,cQ⟩:=id jY
 by_cases hc:p1.code=0
 ·rw [if_pos hc] at h
  have dq:(p1.code != 0)=false:=by simpa using hc
  cases ht:p1.l[p1.i]? with
  | none =>
   rw [ht] at h;cases h;have lx:p1.l.length<=p1.i:=List.getElem?_eq_none_iff.1 ht
   have Y9:decide (((p1.l.map c8).length:Int)<=(p1.i:Int))=true:=by simp;omega
   refine ai Tryz.func294 Tryz.ntmps294 ?_;refine ab [0] wc ?_;refine aI (aB 0 17 .nil) ?_;refine bf ?_;refine ab [0] (kD p1 jY) ?_;refine ab [0] (lS p1 7 p1.place) ?_;refine ra ?_;exact ⟨_,jd,rfl,rfl⟩
  | some tk =>
   rw [ht] at h;simp only at h;have ak:p1.i < p1.l.length:=(List.getElem?_eq_some_iff.1 ht).1
   have Y9:decide (((p1.l.map c8).length:Int)<=(p1.i:Int))=false:=by simp;omega
   have hr:=kl ht;have de:=(dv ak).ok jY;refine ai Tryz.func294 Tryz.ntmps294 ?_;refine ab [0] wc ?_;refine aI (aB 0 17 .nil) ?_;refine bf ?_;refine aI (aB 0 10 (.a 10 (.a 11 .nil))) ?_;refine bf ?_
   by_cases k1:tk.kind=1
   ·rw [if_pos k1] at h;cases h
    have k1':(tk.kind==1)=true:=by simpa using k1
    refine ae ?_;refine ra ?_;exact ⟨_,jd,rfl,rfl⟩
   ·rw [if_neg k1] at h
    have k1':(tk.kind==1)=false:=by simpa using k1
    by_cases k2:tk.kind=2
    ·rw [if_pos k2] at h
     have k2':(tk.kind==2)=true:=by simpa using k2
     refine ae ?_;refine ab [0] (xW p1 jY) ?_;refine ab [0] (C.named tk.at_ p1.name.1 d p1.name.2 t q ((qY jY).ok jY) ag h) ?_;exact dm
    ·rw [if_neg k2] at h
     have k2':(tk.kind==2)=false:=by simpa using k2
     by_cases s3:tk.s=[45]\/tk.s=[33]\/tk.s=[126]
     ·rw [if_pos s3] at h
      cases he:mE f (.operand (d+1)) p1.next with
      | none=>rw [he] at h;cases h
      | some r =>
       obtain ⟨a,p2⟩:=r;rw [he] at h;cases h
       have s3':(tk.s==[45])=true\/((tk.s==[45])=false/\(tk.s==[33])=true)\/((tk.s==[45])=false/\(tk.s==[33])=false/\(tk.s==[126])=true):=by
        rcases s3 with s3 | s3 | s3
        ·exact .inl (by simp [s3])
        ·exact .inr (.inl (by simp [s3]))
        ·exact .inr (.inr (by simp [s3]))
       refine ae ?_
       rcases s3' with e1 | ⟨e1,e2⟩ | ⟨e1,e2,e3⟩
       all_goals
        refine ae ?_;refine aI (aB 0 7 (.a 7 (.a 8 (.a 9 (.a 10 .nil))))) ?_;refine ar ?_;refine aE [0] (C.operand (d+1) p1.next a q de ag he) ?_;refine ey ?_;refine ar ?_;refine wQ [] (fR 5 tk.at_ tk.s [a] _ n5) ?_;refine GB ?_;refine ar ?_;exact o9
     ·rw [if_neg s3] at h
      have e1:(tk.s==[45])=false:=by simp at s3;simpa using s3.1
      have e2:(tk.s==[33])=false:=by simp at s3;simpa using s3.2.1
      have e3:(tk.s==[126])=false:=by simp at s3;simpa using s3.2.2
      by_cases s4:tk.s=[40]
      ·rw [if_pos s4] at h
       have s4':(tk.s==[40])=true:=by simp [s4]
       cases he:mE f (.expr (d+1)) p1.next with
       | none=>rw [he] at h;cases h
       | some r =>
        obtain ⟨a,p2⟩:=r;rw [he] at h;cases h;have dF:=((ui f).1 _ _ _ _ de he).ok de;refine ae ?_;refine ab [0] (C.expr (d+1) p1.next t p2 de ag he) ?_;refine ab [0] (cZ p2 [41] dF aJ) ?_;exact dm
      ·rw [if_neg s4] at h
       have s4':(tk.s==[40])=false:=by simpa using s4
       cases h;refine ae ?_;refine ab [0] (lS p1 7 tk.at_) ?_;refine ra ?_;exact ⟨_,jd,rfl,rfl⟩
 ·rw [if_neg hc] at h
  have dq:(p1.code != 0)=true:=by simpa using hc
  cases h;refine ai Tryz.func294 Tryz.ntmps294 ?_;refine ab [0] wc ?_;refine aI (aB 0 17 .nil) ?_;refine bf ?_;refine ab [0] (kD p1 jY) ?_;refine ab [0] (lS p1 7 p1.place) ?_;refine ra ?_;exact ⟨_,jd,rfl,rfl⟩
theorem rds (f:Nat):Ek f:=by
  induction f using Nat.strongRecOn with
  | _ f ih =>
   cases f with
   | zero=>exact ⟨fun d p t q _ _ h=>by simp [mE] at h,fun k d p t q _ _ _ h=>by simp [mE] at h,fun d p t q _ _ h=>by simp [mE] at h,fun a s d p t q _ _ h=>by simp [mE] at h,fun d p l q _ _ h=>by simp [mL] at h⟩
   | succ f =>
    have C:=ih f (Nat.lt_succ_self f)
    have Cs:∀ f',f'<=f->Ek f':=fun f' h=>ih f' (Nat.lt_succ_of_le h)
    exact ⟨fun d p t q hp hd h=>TU C d p t q hp hd h,fun k d p t q hp hk hd h=>SK Cs k d p t q hp hk hd h,fun d p t q hp hd h=>NL C d p t q hp hd h,fun a s d p t q hp hd h=>SP C a s d p t q hp hd h,fun d p l q hp hd h=>Vp Cs d p l q hp hd h⟩
end Go.Xg
namespace Go.Xg
open Go.RowKit Go.Xw Go.Proofs
open Go.Xp (Tok Nd T bh one levels gm dL ed dr dc)
open Go.Sp
attribute [local irreducible] GW GL GO YG GC GA aU aZ
structure Lw (f:Nat):Prop where
 block:∀ d p t q,p.ok->d+f<=1099511627776->mS f (.block d) p=some (t,q)->GF Tryz.prog 192 [.loc 0 0,.v (ii (d:Nat))] [bZ p] (.agg (cT t)) [bZ q]
 stmt:∀ d p t q,p.ok->d+f<=1099511627776->mS f (.stmt d) p=some (t,q)->GF Tryz.prog 226 [.loc 0 0,.v (ii (d:Nat))] [bZ p] (.agg (cT t)) [bZ q]
 cond:∀ a d p t q,p.ok->p.i < p.l.length->d+f<=1099511627776->mS f (.cond a d) p=some (t,q)->GF Tryz.prog 261 [.loc 0 0,.v (ii a),.v (ii (d:Nat))] [bZ p] (.agg (cT t)) [bZ q]
theorem xY (d:Nat) (p:RS) (t:T) (q:RS) (hp:p.ok) (hd:d<=1099511627777) (h:mX d p=some (t,q)):GF Tryz.prog 260 [.loc 0 0,.v (ii (d:Nat))] [bZ p] (.agg (cT t)) [bZ q] :=
 (rds (fe p)).expr d p t q hp (by have:=hp.2;unfold fe;omega) h
theorem Kc (k a:Int) (s:ah):GF Tryz.prog 222 [.v (ii k),.v (ii a),.v (sv s),.v (.slice none 0 0)] [] (.agg [.v (ii k),.v (ii a),.v (ii 0),.v (sv s),ints [],.v (.slice none 0 0)]) []:=by
 refine ai Tryz.func222 Tryz.ntmps222 ?_;refine ra ?_;exact ⟨_,jd,rfl,rfl⟩
theorem R7 {f:Nat} (C:∀ f',f'<=f->Lw f') (d:Nat) (p:RS) (t:T) (q:RS) (hp:p.ok) (hd:d+(f+1)<=1099511627776) (h:mS (f+1) (.block d) p=some (t,q)) :
  GF Tryz.prog 192 [.loc 0 0,.v (ii (d:Nat))] [bZ p] (.agg (cT t)) [bZ q]:=by
 rw [mS] at h;have jY:=(nZ hp d).ok hp;have wc:=uf p d hp;generalize p.deep d=p1 at *
 try simp only at h
 have xP:=(fg jY (s:=[123]) aJ).ok jY
 cases he:mB f (d+1) [] (p1.aL [123]) with
 | none=>rw [he] at h;cases h
 | some r =>
  obtain ⟨l,q1⟩:=r;rw [he] at h;cases h;generalize cQ:p1.place=pl;refine ai Tryz.func192 Tryz.ntmps192 ?_;refine ab [0] wc ?_;refine ab [0] (kD p1 jY) ?_;refine ab [] (Kc 14 p1.place []) ?_;refine ab [0] (cZ p1 [123] jY aJ) ?_;rw [cQ];refine GW.wk (Wk.Kw (i:=2) (o:=5) 94 6 rfl rfl) ?_;refine GW.loop (fun x:Nat × List T × RS=>x.1) (fun x fr Γ=>∃ n rows,fr=[.loc 0 0,.v (ii (d:Nat)),.U,.U,.loc 1 0,.loc 2 0,.U,.U,.U,.U,.U,.U,.U,.U,.U,.U,.U,.U,.U,.U,.U,.U,.U,.U,.U,.U,.U,.U,.U,.U,.U,.U,.U,.U,.U,.U]/\Γ=[bZ x.2.2,.box 94 zT,.box 94 [.v (ii 14),.v (ii pl),.v (ii 0),.v (sv []),ints [],.vec 3 n],.vec 94 6 0 rows]/\rows.length=n/\rows=aR x.2.1/\n+x.1<=f/\x.2.2.ok/\mB x.1 (d+1) x.2.1 x.2.2=some (l,q1)) (f,[],p1.aL [123]) ?_ ?_
  ·exact ⟨_,_,Wk.aC aq,0,[],rfl,rfl,rfl,rfl,by simp,xP,he⟩
  ·rintro ⟨g,acc,p⟩ _ _ ⟨n,rows,rfl,rfl,hn,bt,zk,hp,h⟩;simp only at bt zk hp h
   cases g with
   | zero=>simp [mB] at h
   | succ g =>
   rw [mB] at h
   by_cases hc:p.code=0
   ·have dq:(p.code==0)=true:=by simpa using hc
    by_cases hs:p.sign 0=[125]
    ·rw [if_neg (fun hh=>hh.2 hs)] at h
     obtain ⟨rfl,rfl⟩:acc=l/\p=q1:=by simpa using h
     have oh:(!(p.sign 0==[125]))=false:=by simp [hs]
     subst bt;refine ae ?_;refine ab [0] (c6 p 0 hp aJ) ?_;refine jc ?_;refine ae ?_;refine GL.wk (Wk.yO (i:=2) (o:=5) rfl rfl rfl rfl hn) ?_;refine bI ?_;refine ab [0] (cZ p [125] hp aJ) ?_;exact dm
    ·rw [if_pos ⟨hc,hs⟩] at h
     have oh:(!(p.sign 0==[125]))=true:=by simpa using hs
     cases hb:mS g (.stmt (d+1)) p with
     | none=>rw [hb] at h;cases h
     | some r =>
      obtain ⟨a,p2⟩:=r;rw [hb] at h;simp only at h;have dF:=((Km g).1 _ _ _ _ hp (fun a d' h=>by cases h) hb).ok hp;refine ae ?_;refine ab [0] (c6 p 0 hp aJ) ?_;refine aI (aB 0 5 (.a 5 (.a 6 (.a 7 (.q 8 (.a 9 .nil)))))) ?_;refine ar ?_;refine aE [0] ((C g ag).stmt (d+1) p a p2 hp ag hb) ?_;refine ey ?_;refine ar ?_;refine CA ?_;refine bf ?_;exact ⟨(g,acc++[a],p2),⟨_,_,Wk.aC aq,_,_,rfl,rfl,by simp [hn],by rw [xp,bt];rfl,by show n+1+g<=f;omega,dF,h⟩,by simp⟩
   ·have dq:(p.code==0)=false:=by simpa using hc
    rw [if_neg (fun hh=>hc hh.1)] at h
    obtain ⟨rfl,rfl⟩:acc=l/\p=q1:=by simpa using h
    subst bt;refine bH ?_;refine ae ?_;refine GL.wk (Wk.yO (i:=2) (o:=5) rfl rfl rfl rfl hn) ?_;refine bI ?_;refine ab [0] (cZ p [125] hp aJ) ?_;exact dm
theorem TM {f:Nat} (C:Lw f) (a:Int) (d:Nat) (p:RS) (t:T) (q:RS) (hp:p.ok) (ak:p.i < p.l.length) (hd:d+(f+1)<=1099511627776) (h:mS (f+1) (.cond a d) p=some (t,q)) :
  GF Tryz.prog 261 [.loc 0 0,.v (ii a),.v (ii (d:Nat))] [bZ p] (.agg (cT t)) [bZ q]:=by
 rw [mS] at h
 try simp only at h
 have de:=(dv ak).ok hp;have cQ:=hp.2;have xP:=(fg de (s:=[40]) aJ).ok de
 cases he:mX (d+1) (p.next.aL [40]) with
 | none=>rw [he] at h;cases h
 | some r =>
 obtain ⟨e,p1⟩:=r;rw [he] at h;simp only at h;have lA:=(oU xP he).ok xP;have Fk:=(fg lA (s:=[41]) aJ).ok lA
 cases hb:mS f (.block (d+1)) (p1.aL [41]) with
 | none=>rw [hb] at h;cases h
 | some r =>
 obtain ⟨b,p2⟩:=r;rw [hb] at h;simp only at h;have dF:=((Km f).1 _ _ _ _ Fk (fun a d' h=>by cases h) hb).ok Fk;have UQ:=dF.2
 have key:∀ k:Int,(if k=9/\p2.sign 0=ed then match mS f (.block (d+1)) p2.next with
     | none=>none
     | some (b2,q)=>some (one k a [] [e,b,b2],q)
    else some (one k a [] [e,b],p2))=some (t,q)->p.ck=k->(k=9\/k=10)->((p.sign 0==[105,102])=true/\k=9)\/((p.sign 0==[105,102])=false/\k=10):=by
  intro k _ hk _;unfold RS.ck at hk;split at hk
  ·rename_i hs;exact .inl ⟨by rw [hs];rfl,hk.symm⟩
  ·rename_i hs;refine .inr ⟨?_,hk.symm⟩
   cases hq:(p.sign 0==[105,102]) with
   | false=>rfl
   | true=>exact absurd (eq_of_beq hq) hs
 have s9:p.ck=9\/p.ck=10:=by unfold RS.ck;split <;> simp
 have key:=key p.ck h rfl s9;generalize p.ck=k at h key;clear s9
 rcases key with ⟨hs,rfl⟩ | ⟨hs,rfl⟩
 ·by_cases eX:p2.sign 0=ed
  ·rw [if_pos ⟨rfl,eX⟩] at h
   have Y7:(p2.sign 0==[101,108,115,101])=true:=by rw [eX];rfl
   have mT:=(fv eX aJ).1;have Zn:=(jb eX aJ).ok dF
   cases eI:mS f (.block (d+1)) p2.next with
   | none=>rw [eI] at h;cases h
   | some r =>
   obtain ⟨b2,p3⟩:=r;rw [eI] at h;cases h;refine ai Tryz.func261 Tryz.ntmps261 ?_;refine ab [0] (c6 p 0 hp aJ) ?_;refine ab [0] (cZ p.next [40] de aJ) ?_;refine ab [0] (xY (d+1) _ e p1 xP ag he) ?_;refine ab [0] (cZ p1 [41] lA aJ) ?_;refine aI (aB 0 4 (.a 4 (.a 5 (.q 6 .nil)))) ?_;refine ar ?_;refine aE [0] (C.block (d+1) _ b p2 Fk ag hb) ?_;refine CB ?_;refine bf ?_;refine ab [0] (c6 p2 0 dF aJ) ?_;refine iz [0] (C.block (d+1) _ b2 q Zn ag eI) ?_;refine eP ?_;refine ae ?_;refine GL.wk (Wk.jw (t:=57) rfl rfl rfl rfl) ?_;refine bI ?_;refine ab [] (fR 9 a [] [e,b,b2] _ n5) ?_;exact dm
  ·rw [if_neg (fun hh=>eX hh.2)] at h
   have Y7:(p2.sign 0==[101,108,115,101])=false:=by
    cases hq:(p2.sign 0==[101,108,115,101]) with
    | false=>rfl
    | true=>exact absurd (eq_of_beq hq) eX
   cases h;refine ai Tryz.func261 Tryz.ntmps261 ?_;refine ab [0] (c6 p 0 hp aJ) ?_;refine ab [0] (cZ p.next [40] de aJ) ?_;refine ab [0] (xY (d+1) _ e p1 xP ag he) ?_;refine ab [0] (cZ p1 [41] lA aJ) ?_;refine aI (aB 0 4 (.a 4 (.a 5 (.q 6 .nil)))) ?_;refine ar ?_;refine aE [0] (C.block (d+1) _ b q Fk ag hb) ?_;refine CB ?_;refine bf ?_;refine ab [0] (c6 q 0 dF aJ) ?_;refine GL.wk (Wk.jw (t:=57) rfl rfl rfl rfl) ?_;refine bI ?_;refine ab [] (fR 9 a [] [e,b] _ n5) ?_;exact dm
 ·rw [if_neg (fun hh=>by cases hh.1)] at h;cases h;refine ai Tryz.func261 Tryz.ntmps261 ?_;refine ab [0] (c6 p 0 hp aJ) ?_;refine ab [0] (cZ p.next [40] de aJ) ?_;refine ab [0] (xY (d+1) _ e p1 xP ag he) ?_;refine ab [0] (cZ p1 [41] lA aJ) ?_;refine aI (aB 0 4 (.a 4 (.a 5 (.q 6 .nil)))) ?_;refine ar ?_;refine aE [0] (C.block (d+1) _ b q Fk ag hb) ?_;refine CB ?_;refine bf ?_;refine GL.wk (Wk.jw (t:=57) rfl rfl rfl rfl) ?_;refine bI ?_;refine ab [] (fR 10 a [] [e,b] _ n5) ?_;exact dm
theorem uU {s t:ah} (h:¬ s=t):(s==t)=false:=by
 cases hq:(s==t) with
 | false=>rfl
 | true=>exact absurd (eq_of_beq hq) h
theorem VT {f:Nat} (C:Lw f) (d:Nat) (p:RS) (t:T) (q:RS) (hp:p.ok) (hd:d+(f+1)<=1099511627776) (h:mS (f+1) (.stmt d) p=some (t,q)) :
  GF Tryz.prog 226 [.loc 0 0,.v (ii (d:Nat))] [bZ p] (.agg (cT t)) [bZ q]:=by
 rw [mS] at h;have jY:=(nZ hp d).ok hp;have wc:=uf p d hp;generalize p.deep d=p1 at *
 try simp only at h
 obtain ⟨Db,cQ⟩:=id jY;generalize wY:p1.place=at_ at h;refine ai Tryz.func226 Tryz.ntmps226 ?_;refine ab [0] wc ?_;refine ab [0] (kD p1 jY) ?_;refine iz [0] (c6 p1 0 jY aJ) ?_;rw [wY]
 by_cases h1:p1.sign 0=gm
 ·rw [if_pos h1] at h
  have e1:(p1.sign 0==[118,97,114])=true:=by rw [h1];rfl
  have ak:=(fv h1 aJ).1;have hn:=(jb h1 aJ).ok jY;have eK:=(qY hn).ok hn;have jL:=(fg eK (s:=[61]) aJ).ok eK
  cases he:mX (d+1) (p1.next.name.2.aL [61]) with
  | none=>rw [he] at h;cases h
  | some r =>
  obtain ⟨e,p2⟩:=r;rw [he] at h;cases h;have dF:=(oU jL he).ok jL;refine ae ?_;refine ab [0] (xW p1.next hn) ?_;refine ab [0] (cZ _ [61] eK aJ) ?_;refine ab [0] (xY (d+1) _ e p2 jL ag he) ?_;refine ab [0] (cZ p2 [59] dF aJ) ?_;refine bS ?_;refine ae ?_;refine ab [] (fR 13 at_ p1.next.name.1 [e] _ n5) ?_;exact dm
 rw [if_neg h1] at h;have e1:(p1.sign 0==[118,97,114])=false:=uU h1
 by_cases h2:p1.sign 0=dL\/p1.sign 0=dr
 ·rw [if_pos h2] at h
  have e2:(p1.sign 0==[105,102])=true\/((p1.sign 0==[105,102])=false/\(p1.sign 0==[119,104,105,108,101])=true):=by
   rcases h2 with h2 | h2
   ·exact .inl (by rw [h2];rfl)
   ·exact .inr ⟨by rw [h2];rfl,by rw [h2];rfl⟩
  have ak:p1.i < p1.l.length:=by
   rcases h2 with h2 | h2
   ·exact (fv h2 aJ).1
   ·exact (fv h2 aJ).1
  rcases e2 with e2 | ⟨e2,e3⟩
  all_goals
   refine ae ?_;refine ab [0] (C.cond at_ d p1 t q jY ak ag h) ?_;exact dm
 rw [if_neg h2] at h
 have e2:(p1.sign 0==[105,102])=false:=uU fun hh=>h2 (.inl hh)
 have e3:(p1.sign 0==[119,104,105,108,101])=false:=uU fun hh=>h2 (.inr hh)
 by_cases h4:p1.sign 0=dc
 ·rw [if_pos h4] at h
  have e4:(p1.sign 0==[114,101,116,117,114,110])=true:=by rw [h4];rfl
  have ak:=(fv h4 aJ).1;have hn:=(jb h4 aJ).ok jY
  cases he:mX (d+1) p1.next with
  | none=>rw [he] at h;cases h
  | some r =>
  obtain ⟨e,p2⟩:=r;rw [he] at h;cases h;have dF:=(oU hn he).ok hn;refine ae ?_;refine ab [0] (xY (d+1) _ e p2 hn ag he) ?_;refine ab [0] (cZ p2 [59] dF aJ) ?_;refine bS ?_;refine ae ?_;refine ab [] (fR 11 at_ [] [e] _ n5) ?_;exact dm
 rw [if_neg h4] at h;have e4:(p1.sign 0==[114,101,116,117,114,110])=false:=uU h4
 by_cases h5:p1.code=0/\p1.nD=true/\p1.sign 1=[61]
 ·rw [if_pos h5] at h;obtain ⟨hc,Fj,gy⟩:=h5
  have dq:(p1.code==0)=true:=by simpa using hc
  have aaB:(p1.sign 1==[61])=true:=by rw [gy];rfl
  unfold RS.nD at Fj
  cases ht:p1.l[p1.i]? with
  | none=>rw [ht] at Fj;cases Fj
  | some tk =>
  rw [ht] at Fj
  have hk:(tk.kind==2)=true:=by simpa using Fj
  have ak:=(List.getElem?_eq_some_iff.1 ht).1
  have Pp:decide ((p1.i:Int) < ((p1.l.map c8).length:Int))=true:=by simpa using ak
  have hr:=kl ht;have eK:=(qY jY).ok jY;have jL:=(fg eK (s:=[61]) aJ).ok eK
  cases he:mX (d+1) (p1.name.2.aL [61]) with
  | none=>rw [he] at h;cases h
  | some r =>
  obtain ⟨e,p2⟩:=r;rw [he] at h;cases h;have dF:=(oU jL he).ok jL;refine ae ?_;refine aI (aB 0 33 (.a 33 (.q 34 (.q 35 .nil)))) ?_;refine ar ?_;refine bB [0] (c6 p1 1 jY aJ) ?_;refine ae ?_;refine ab [0] (xW p1 jY) ?_;refine ab [0] (cZ _ [61] eK aJ) ?_;refine ab [0] (xY (d+1) _ e p2 jL ag he) ?_;refine ab [0] (cZ p2 [59] dF aJ) ?_;refine bS ?_;refine ae ?_;refine ab [] (fR 7 at_ p1.name.1 [e] _ n5) ?_;exact dm
 rw [if_neg h5] at h
 cases he:mX (d+1) p1 with
 | none=>rw [he] at h;cases h
 | some r =>
 obtain ⟨e,p2⟩:=r;rw [he] at h;simp only at h;have dF:=(oU jY he).ok jY;have UQ:=dF.2
 have Fu:(p1.code==0)=false\/((p1.code==0)=true/\p1.l.length<=p1.i)\/((p1.code==0)=true/\∃ tk,p1.l[p1.i]?=some tk/\((tk.kind==2)=false\/((tk.kind==2)=true/\(p1.sign 1==[61])=false))):=by
  by_cases hc:p1.code=0
  ·refine .inr ?_
   have dq:(p1.code==0)=true:=by simpa using hc
   cases ht:p1.l[p1.i]? with
   | none=>exact .inl ⟨dq,List.getElem?_eq_none_iff.1 ht⟩
   | some tk =>
    refine .inr ⟨dq,tk,rfl,?_⟩
    by_cases hk:tk.kind=2
    ·refine .inr ⟨by simpa using hk,uU fun h61=>h5 ⟨hc,?_,h61⟩⟩;unfold RS.nD;rw [ht];simpa using hk
    ·exact .inl (by simpa using hk)
  ·exact .inl (by simpa using hc)
 refine ae ?_;refine GW.join (fun fr Γ=>fr=[.loc 0 0,.v (ii (d:Nat)),.U,.U,.loc 1 0,.v (ii at_),.U,.U,.U,.U,.U,.U,.U,.U,.U,.U,.U,.U,.U,.U,.U,.U,.U,.U,.U,.U,.U,.U,.U,.U,.U,.U,.U,.U,.U,.U,.U,.U,.U,.U,.U,.U,.U,.U,.U,.U,.U,.U,.U,.U,.U,.U,.U,.U,.U,.U,.U,.U,.U,.U,.U,.U,.U,.U,.U,.U,.U,.U,.U,.U,.U,.U,.U,.U,.U,.U,.U,.U,.U,.U,.U,.U,.U,.U,.U,.U,.U,.U,.U,.U,.U,.U,.U,.U,.U,.U,.U,.U,.U,.U,.U,.U,.U,.U,.U,.v (.bool false),.U,.U,.U,.U,.U,.U,.U,.U,.U,.U,.U,.U,.U,.U,.U,.U,.U,.U,.U,.U,.U,.U,.U,.U,.U,.U,.U,.U,.U,.U,.U,.U,.U,.U,.U,.U,.U,.U,.U,.U,.U,.U,.U,.U,.U,.U,.U,.U,.U,.U,.U,.U,.U,.U,.U,.U,.U,.U,.U,.U,.U,.U,.U,.U,.U]/\Γ=[bZ p1,.box 94 zT]) ?_ ?_
 ·rcases Fu with dq | ⟨dq,lx⟩ | ⟨dq,tk,ht,hk | ⟨hk,gy⟩⟩
  ·refine aI (aB 0 33 (.a 33 (.q 34 (.q 35 .nil)))) ?_;refine ar ?_;exact bb ⟨_,_,Wk.aC aq,rfl,rfl⟩
  ·have Pp:decide ((p1.i:Int) < ((p1.l.map c8).length:Int))=false:=by simpa using lx
   refine aI (aB 0 33 (.a 33 (.q 34 (.q 35 .nil)))) ?_;refine ar ?_;exact bb ⟨_,_,Wk.aC aq,rfl,rfl⟩
  ·have ak:=(List.getElem?_eq_some_iff.1 ht).1
   have Pp:decide ((p1.i:Int) < ((p1.l.map c8).length:Int))=true:=by simpa using ak
   have hr:=kl ht;refine aI (aB 0 33 (.a 33 (.q 34 (.q 35 .nil)))) ?_;refine ar ?_;exact bb ⟨_,_,Wk.aC aq,rfl,rfl⟩
  ·have ak:=(List.getElem?_eq_some_iff.1 ht).1
   have Pp:decide ((p1.i:Int) < ((p1.l.map c8).length:Int))=true:=by simpa using ak
   have hr:=kl ht;refine aI (aB 0 33 (.a 33 (.q 34 (.q 35 .nil)))) ?_;refine ar ?_;refine bB [0] (c6 p1 1 jY aJ) ?_;exact bb ⟨_,_,Wk.aC (by repeat (first | exact sN.nil | refine sN.U ?_ | refine sN.eq rfl ?_ | refine sN.eq (by rw [gy]) ?_)),rfl,rfl⟩
 ·rintro _ _ ⟨rfl,rfl⟩;refine ae ?_;refine ab [0] (xY (d+1) _ e p2 jY ag he) ?_
  by_cases k3:e.n.kind=3
  ·have k3':(e.n.kind==3)=true:=by simpa using k3
   by_cases ka:e.n.at_=at_
   ·have ka':(e.n.at_==at_)=true:=by simpa using ka
    by_cases ks:p2.sign 0=[61]
    ·have ks':(p2.sign 0==[61])=true:=by rw [ks];rfl
     rw [if_pos ⟨k3,ka,ks⟩] at h;have ak:=(fv ks aJ).1;have hn:=(jb ks aJ).ok dF
     cases hk:e.kids with
     | nil=>rw [hk] at h;cases h
     | cons a rest =>
     cases hv:mX (d+1) p2.next with
     | none=>rw [hk,hv] at h;cases h
     | some r =>
     obtain ⟨v,p3⟩:=r;rw [hk,hv] at h;cases h;have zn:=(oU hn hv).ok hn
     have hr:(aR (a::rest))[0]?=some (cT a):=by simp [aR,uZ]
     refine ae ?_;refine ab [0] (c6 p2 0 dF aJ) ?_;refine ab [0] (xY (d+1) _ v p3 hn ag hv) ?_;refine ab [0] (cZ p3 [59] zn aJ) ?_;refine aI (aB 0 9 (.a 9 (.a 10 (.a 11 .nil)))) ?_;refine ar ?_;refine ey ?_;refine ar ?_;refine wQ [] (fR 8 at_ e.n.s [a,v] _ n5) ?_;refine GB ?_;refine ar ?_;exact o9
    ·have ks':(p2.sign 0==[61])=false:=uU ks;rw [if_neg (fun hh=>ks hh.2.2)] at h;cases h;refine ae ?_;refine ab [0] (c6 p2 0 dF aJ) ?_;refine ab [0] (cZ p2 [59] dF aJ) ?_;refine bS ?_;refine ae ?_;refine ab [] (fR 12 at_ [] [e] _ n5) ?_;exact dm
   ·have ka':(e.n.at_==at_)=false:=by simpa using ka
    rw [if_neg (fun hh=>ka hh.2.1)] at h;cases h;refine ae ?_;refine ab [0] (cZ p2 [59] dF aJ) ?_;refine bS ?_;refine ae ?_;refine ab [] (fR 12 at_ [] [e] _ n5) ?_;exact dm
  ·have k3':(e.n.kind==3)=false:=by simpa using k3
   rw [if_neg (fun hh=>k3 hh.1)] at h;cases h;refine ae ?_;refine ab [0] (cZ p2 [59] dF aJ) ?_;refine bS ?_;refine ae ?_;refine ab [] (fR 12 at_ [] [e] _ n5) ?_;exact dm
theorem sds (f:Nat):Lw f:=by
 induction f using Nat.strongRecOn with
 | _ f ih =>
  cases f with
  | zero=>exact ⟨fun d p t q _ _ h=>by simp [mS] at h,fun d p t q _ _ h=>by simp [mS] at h,fun a d p t q _ _ _ h=>by simp [mS] at h⟩
  | succ f =>
   have C:=ih f (Nat.lt_succ_self f)
   have Cs:∀ f',f'<=f->Lw f':=fun f' h=>ih f' (Nat.lt_succ_of_le h)
   exact ⟨fun d p t q hp hd h=>R7 Cs d p t q hp hd h,fun d p t q hp hd h=>VT C d p t q hp hd h,fun a d p t q hp hl hd h=>TM C a d p t q hp hl hd h⟩
end Go.Xg
namespace Go.Xg
open Go.RowKit Go.Xw Go.Proofs
open Go.Xp (Tok Nd T bh one levels Ar)
open Go.Sp
attribute [local irreducible] GW GL GO YG GC GA aU aZ
def ay (n:Nd):List GV:=[.v (ii n.kind),.v (ii n.at_),.v (ii n.n),.v (sv n.s),ints n.kids]
def aw (f:Go.Sp.Fn):List GV:=[.v (sv f.name),strs f.params,.v (ii f.body)]
def aD (a:Ar):List GV:=[.v (sv a.name),.v (ii a.size)]
abbrev ax (p:Src):List GV:=[strs p.globals,.sl 2 (p.arrays.map aD),.sl 3 (p.fns.map aw),.sl 5 (p.nodes.map ay)]
theorem Hf (k:Int):GF Tryz.prog 275 [.v (ii k)] [] (.v (.bool (mA k))) []:=by
 unfold mA;refine da Tryz.func275 Tryz.ntmps275 ?_
 cases h:decide ((1:Int)<=k)
 all_goals
  exact av
theorem Hg (k:Int):GF Tryz.prog 251 [.v (ii k)] [] (.v (.bool (fY k))) []:=by
 unfold fY;refine da Tryz.func251 Tryz.ntmps251 ?_
 cases h:decide ((7:Int)<=k)
 all_goals
  exact av
theorem tt (s:ah):GF Tryz.prog 250 [.v (sv s)] [] (.v (.bool (eA s))) []:=by
 refine ai Tryz.func250 Tryz.ntmps250 ?_;refine ab [] jC ?_;refine GW.range (levels.map fun l=>[strs l]).length (fun k fr Γ=>fr=[.v (sv s),.U,.U,.U,.U,.sl 1 (levels.map fun l=>[strs l]),.v (ii ((levels.map fun l=>[strs l]).length:Int)),.v (ii (k:Nat)),.U,.U,.U,.U,.U,.U,.U]/\Γ=[]/\((levels.take k).any fun l=>l.contains s)=false) ?_ aJ ?_ ?_ ?_
 ·exact jy
 ·exact gx
 ·rintro k _ _ hk ⟨rfl,rfl,hf⟩
  have hk:k < levels.length:=by simpa using hk
  have hx:levels[k]?=some levels[k]:=by simp [hk]
  have hr:(levels.map fun l=>[strs l])[k]?=some [strs levels[k]]:=by simp [hk]
  have zp:levels[k].length<=1099511627776:=by
   have:∀ l∈levels,l.length<=1099511627776:=by decide
   exact this _ (getElem_mem hk)
  generalize levels[k]=x at *;have hh:=jj x s zp
  cases hb:x.contains s with
  | true =>
   rw [hb] at hh
   have ha:eA s=true:=by
    unfold eA;rw [List.any_eq_true];exact ⟨x,mem_of_getElem? hx,hb⟩
   refine ae ?_;refine ab [] hh ?_;refine bR ?_;rw [ha];exact ⟨rfl,rfl⟩
  | false =>
   rw [hb] at hh;refine ae ?_;refine ab [] hh ?_;exact ⟨rfl,rfl,_,_,Wk.aC aq,rfl,rfl,by rw [take_add_one,hx,List.any_append,hf];simp only [Option.toList,List.any_cons,List.any_nil,hb];rfl⟩
 ·rintro _ _ ⟨rfl,rfl,hf⟩
  have hf:eA s=false:=by
   rw [take_of_length_le (by simp)] at hf;exact hf
  refine ae ?_;refine bR ?_;rw [hf];exact ⟨rfl,rfl⟩
theorem cU {l:List T} {i:Nat} {t:T} (h:l[i]?=some t):(aR l)[i]?=some (cT t):=by
 induction l generalizing i with
 | nil=>simp at h
 | cons a l ih =>
  cases i with
  | zero=>cases h;simp [aR,uZ]
  | succ i=>simpa [aR] using ih (by simpa using h)
theorem eY (t:T) (m:Nat) (hl:t.kids.length<=1099511627776):GF Tryz.prog 249 [.agg (cT t),.v (ii (m:Nat))] [] (.v (.bool (bj m 0 t.kids))) []:=by
 refine ai Tryz.func249 Tryz.ntmps249 ?_;refine GW.range (aR t.kids).length (fun k fr Γ=>fr=[.U,.v (ii (m:Nat)),.U,.U,.U,.U,.U,.U,.sl 6 (aR t.kids),.v (ii ((aR t.kids).length:Int)),.v (ii (k:Nat)),.U,.U,.U,.U,.U,.U,.U,.U,.U,.U,.U,.U,.U,.U,.U,.U,.U,.U,.U,.U,.U,.U,.U,.U,.U,.U]/\Γ=[]/\bj m k (t.kids.drop k)=bj m 0 t.kids) ?_ (by rw [aS];exact hl) ?_ ?_ ?_
 ·exact ⟨_,_,(Wk.cut (n:=0) (Nat.le_refl _) rfl).trans (Wk.aC aq),rfl,rfl,rfl⟩
 ·exact gx
 ·rintro k _ _ hk ⟨rfl,rfl,hf⟩
  have hk:k < t.kids.length:=by rw [aS] at hk;exact hk
  have hx:t.kids[k]?=some t.kids[k]:=by simp [hk]
  have hr:=cU hx;rw [List.drop_eq_getElem_cons hk,bj] at hf;generalize t.kids[k]=x at *;have he:=Hf x.n.kind
  by_cases hm:k < m
  ·have hm1:decide ((k:Int) < (m:Int))=true:=by simpa using hm
   have Fe:decide ((m:Int)<=(k:Int))=false:=by simpa using hm
   rw [if_pos hm] at hf
   cases hb:mA x.n.kind with
   | true =>
    rw [hb] at he hf;refine ae ?_;refine ab [] he ?_;exact ⟨rfl,rfl,_,_,(Wk.cut (n:=0) (Nat.le_refl _) rfl).trans (Wk.aC aq),rfl,rfl,by simpa using hf⟩
   | false =>
    rw [hb] at he hf;refine ae ?_;refine ab [] he ?_;refine bR ?_;rw [<-hf];exact ⟨rfl,rfl⟩
  ·have hm1:decide ((k:Int) < (m:Int))=false:=by simp;omega
   have Fe:decide ((m:Int)<=(k:Int))=true:=by simp;omega
   rw [if_neg hm] at hf
   cases hb:(x.n.kind==14) with
   | true =>
    rw [hb] at hf
    have bq:(x.n.kind != 14)=false:=by simp only [bne,hb];rfl
    refine ae ?_;exact ⟨rfl,rfl,_,_,(Wk.cut (n:=0) (Nat.le_refl _) rfl).trans (Wk.aC aq),rfl,rfl,by simpa using hf⟩
   | false =>
    rw [hb] at hf
    have bq:(x.n.kind != 14)=true:=by simp only [bne,hb];rfl
    refine ae ?_;refine bR ?_;rw [<-hf];exact ⟨rfl,rfl⟩
 ·rintro _ _ ⟨rfl,rfl,hf⟩;rw [aS,List.drop_length,bj] at hf;refine ae ?_;refine bR ?_;rw [<-hf];exact ⟨rfl,rfl⟩
theorem jT {l:List Nd} {i:Nat} {n:Nd} (h:l[i]?=some n):(l.map ay)[i]?=some (ay n):=by rw [getElem?_map,h];rfl
theorem pC {l:List Int} {i:Nat} {n:Int} (h:l[i]?=some n):(l.map fun i=>[GV.v (ii i)])[i]?=some [.v (ii n)]:=by rw [getElem?_map,h];rfl
theorem D8 (p:Src) (hk:∀ n∈p.nodes,n.kids.length<=1000000000000):∀ (f a:Nat) (t:T),sub p.nodes f a=some t->GF Tryz.prog 99 [.agg (ax p),.v (ii (a:Nat))] [] (.agg (cT t)) []:=by
 intro f
 induction f using Nat.strongRecOn with
 | _ f ih =>
 intro a t h
 cases f with
 | zero=>simp [sub] at h
 | succ f =>
 rw [sub] at h
 cases hn:p.nodes[a]? with
 | none=>rw [hn] at h;cases h
 | some n =>
 rw [hn] at h;simp only at h
 cases hs:ow p.nodes f n.kids [] with
 | none=>rw [hs] at h;cases h
 | some l =>
 rw [hs] at h;cases h;have hr:=jT hn;have eR:=hk n (mem_of_getElem? hn);refine ai Tryz.func99 Tryz.ntmps99 ?_;refine GW.wk (Wk.Kw (i:=2) (o:=5) 94 6 rfl rfl) ?_
 refine GW.range (n.kids.map fun i=>[GV.v (ii i)]).length (fun k fr Γ=>∃ rows acc g,fr=[.U,.v (ii (a:Nat)),.loc 0 0,.U,.loc 1 0,.loc 2 0,.U,.U,.U,.U,.U,.U,.U,.U,.U,.U,.U,.U,.U,ints n.kids,.v (ii ((n.kids.map fun i=>[GV.v (ii i)]).length:Int)),.v (ii (k:Nat)),.U,.U,.U,.U,.U,.U,.U,.U,.U,.U,.U,.U,.U] /\
   Γ=[.box 34 (ax p),.box 94 zT,.box 94 [.v (ii n.kind),.v (ii n.at_),.v (ii n.n),.v (sv n.s),ints n.kids,.vec 3 k],.vec 94 6 0 rows] /\
   rows.length=k/\rows=aR acc/\g<=f/\ow p.nodes g (n.kids.drop k) acc=some l) ?_ (by simp;omega) ?_ ?_ ?_
 ·exact ⟨_,_,Wk.aC aq,[],[],f,rfl,rfl,rfl,rfl,Nat.le_refl _,hs⟩
 ·rintro k _ _ ⟨_,_,_,rfl,rfl,_⟩;exact dS
 ·rintro k _ _ ak ⟨rows,acc,g,rfl,rfl,vi,bt,hg,h⟩
  have ak:k < n.kids.length:=by simpa using ak
  have hx:n.kids[k]?=some n.kids[k]:=by simp [ak]
  rw [List.drop_eq_getElem_cons ak] at h;generalize n.kids[k]=x at *
  cases g with
  | zero=>simp [ow] at h
  | succ g =>
  rw [ow] at h
  by_cases po:x < 0
  ·rw [if_pos po] at h;cases h
  rw [if_neg po] at h
  cases cn:sub p.nodes g x.toNat with
  | none=>rw [cn] at h;cases h
  | some t =>
  rw [cn] at h;simp only at h;have yC:=ih g ag x.toNat t cn;rw [Int.toNat_of_nonneg ag] at yC;have rE:=pC hx;refine ae ?_;refine aI (aB 0 4 (.a 4 (.a 5 (.a 6 (.q 7 (.a 8 .nil)))))) ?_;refine ar ?_;refine aE [] yC ?_;refine ey ?_;refine ar ?_;refine CA ?_;refine bf ?_;exact ⟨rfl,rfl,_,_,Wk.aC aq,_,acc++[t],g,rfl,rfl,by rw [length_append,vi];rfl,by rw [xp,bt];rfl,by omega,h⟩
 ·rintro _ _ ⟨rows,acc,g,rfl,rfl,vi,bt,hg,h⟩;rw [length_map,List.drop_length] at h
  have kU:acc=l:=by cases g <;> (rw [ow] at h;cases h;rfl)
  subst kU;subst bt;refine bb (GW.wk (Wk.yO (i:=2) (o:=5) rfl rfl rfl rfl vi) ?_);exact o9
end Go.Xg
namespace Go.Xg
open Go.RowKit Go.Xw Go.Proofs
open Go.WideShapes Go.Deep
open Go.Xp (Nd Ar)
open Go.Sp (Src)
open Go.Im (Small xh)
def flat (v:Value):Prop:=∀ a n c,v≠.slice a n c
def vM (W:World) (v:Value) (xs:List Value):Prop:=∃ a c,v=.slice a xs.length c/\(xs=[]\/∃ b o,a=some ⟨b,o,none⟩/\xs.length<=c/\∀ i x,xs[i]?=some x->fE W.heap b (o+i)=some x/\flat x)
theorem vM.uniq {W:World} {v:Value} {xs ys:List Value} (h:vM W v xs) (k:vM W v ys):xs=ys:=by
 obtain ⟨a,c,h1,h2⟩:=h;obtain ⟨a',c',k1,k2⟩:=k;rw [h1] at k1
 injection k1 with e1 e2 e3
 subst e1 e3
 rcases h2 with rfl | ⟨b,o,h3,h4,h5⟩
 ·exact (eq_nil_of_length_eq_zero (by simpa using e2.symm)).symm
 ·rcases k2 with rfl | ⟨b',o',k3,k4,k5⟩
  ·exact eq_nil_of_length_eq_zero (by simpa using e2)
  ·rw [h3] at k3;cases k3;apply ext_getElem e2;intro i hi hj;have a1:=(h5 i _ (getElem?_eq_getElem hi)).1;have a2:=(k5 i _ (getElem?_eq_getElem hj)).1;rw [a1] at a2;exact Option.some.inj a2
open Classical in
noncomputable def KW (W:World):Fz:=fun b o=>match fE W.heap b o with
 | none=>none
 | some v=>if ∃ a n c,v=.slice a n c then (if h:∃ xs,vM W v xs then some (.sl 1 (h.choose.map fun x=>[.v x])) else none) else some (.v v)
theorem ln {W:World} {b o:Nat} {v:Value} (h:fE W.heap b o=some v) (hf:flat v):KW W b o=some (.v v):=by
 unfold KW;rw [h];simp only;rw [if_neg (by rintro ⟨a,n,c,e⟩;exact hf a n c e)]
theorem QK {W:World} {b o:Nat} {v:Value} {xs:List Value} (h:fE W.heap b o=some v) (hx:vM W v xs):KW W b o=some (.sl 1 (xs.map fun x=>[.v x])):=by
 have hs:∃ a n c,v=.slice a n c:=by obtain ⟨a,c,e,_⟩:=hx;exact ⟨_,_,_,e⟩
 have hex:∃ xs,vM W v xs:=⟨xs,hx⟩;unfold KW;rw [h];simp only;rw [if_pos hs,dif_pos hex,hex.choose_spec.uniq hx]
theorem NS {W:World} {v:Value} {xs:List Value} (hx:vM W v xs) (β:Bt):Rel (KW W) β v (.sl 1 (xs.map fun x=>[GV.v x])):=by
 obtain ⟨a,c,rfl,h⟩:=hx
 rcases h with rfl | ⟨b,o,rfl,hc,lg⟩
 ·exact .sl0 a c 1
 ·have:=Rel.sl (K:=KW W) (β:=β) b o c 1 (xs.map fun x=>[GV.v x]) (fun i r hr=>by
   rw [getElem?_map] at hr
   cases hi:xs[i]? with
   | none=>rw [hi] at hr;cases hr
   | some x =>
    rw [hi] at hr;cases hr;obtain ⟨h1,h2⟩:=lg i x hi;refine ⟨rfl,fun j g hg=>?_⟩
    cases j with
    | zero=>cases hg;rw [Nat.mul_one,Nat.add_zero];exact ln h1 h2
    | succ j=>simp at hg) (by rw [length_map];exact hc)
  rw [length_map] at this;exact this
theorem Wd (W:World):jh (KW W) W:=fun b o g h=>by
 unfold KW at h
 cases hc:fE W.heap b o with
 | none=>rw [hc] at h;cases h
 | some v =>
  rw [hc] at h;simp only at h;split at h
  ·split at h
   ·rename_i hex;cases h;exact ⟨rfl,v,rfl,NS hex.choose_spec _⟩
   ·cases h
  ·cases h;exact ⟨rfl,v,rfl,.v v⟩
theorem Qa {W:World} {v:Value} {k:Nat} {rows:List (List GV)} {a:Option Addr} {n c:Nat} (β:Bt) (hv:v=.slice a n c) (hn:rows.length=n)
  (h:n=0\/∃ b o,a=some ⟨b,o,none⟩/\n<=c/\∀ i r,rows[i]?=some r->r.length=k/\∀ j g,r[j]?=some g->KW W b (o+i * k+j)=some g):Rel (KW W) β v (.sl k rows):=by
 subst hv hn
 rcases h with h | ⟨b,o,rfl,hc,hr⟩
 ·have:=eq_nil_of_length_eq_zero h;subst this;exact .sl0 a c k
 ·exact .sl b o c k rows hr hc
theorem zI {W:World} {a:Addr} {n:Nat} {v:Value} (h:W.cell? (a.add n)=some v):fE W.heap a.block (a.off+n)=some v:=by
 unfold Addr.add at h;split at h
 ·rename_i h0;subst h0;obtain ⟨b,o,s⟩:=a;have hs:=World.cell?_spot h;simp only at hs;subst hs;rw [fc] at h;exact h
 ·obtain ⟨b,o,s⟩:=a;simp only at h;rw [fc] at h;exact h
theorem zH {W:World} {a:Addr} {v:Value} (h:W.cell? (a.add 0)=some v):a.spot=none:=by
 have:=World.cell?_spot h;unfold Addr.add at this;rw [if_pos rfl] at this;exact this
theorem ri {α:Type} {Q:Nat->α->Prop}:∀ {n:Nat},(∀ i,i < n->∃ x,Q i x)->∃ l:List α,l.length=n/\∀ i x,l[i]?=some x->Q i x
 | 0,_=>⟨[],rfl,fun i x h=>by simp at h⟩
 | n+1,h=>by
  obtain ⟨l,h1,h2⟩:=ri (n:=n) fun i hi=>h i ag
  obtain ⟨x,hx⟩:=h n ag;refine ⟨l++[x],by simp [h1],fun i y hi=>?_⟩
  by_cases sc:i < n
  ·rw [getElem?_append_left ag] at hi;exact h2 i y hi
  ·have ak:=(List.getElem?_eq_some_iff.1 hi).1;rw [length_append,length_cons,length_nil] at ak
   have:i=n:=by omega
   subst this;rw [getElem?_append_right ag,h1,Nat.sub_self] at hi
   cases hi;exact hx
theorem max_le {n:Nat} (h:n<=maxLen):n<=9223372036854775807:=by unfold maxLen at h;omega
section
variable {H:Type} {enc:TypeId × Value->H} {P:Program} {W:World}
theorem F0 {t e:TypeId} {n:Nat} {v:Value} {y:DataW H × List MemPlace} (ht:P.underlying t=some (.slice e)) (he:P.underlying e=some .string) (hc:P.cellsOf e=1) (h:DataW.trod enc P W 0 (fun _=>true) true n t [v]=some y) :
  ∃ l:List ah,vM W v (l.map sv)/\l.length<=9223372036854775807/\∀ s∈l,s.length<=9223372036854775807:=by
 rcases open_slice1 ht hc h with ⟨eJ,_⟩ | ⟨a,len,cap,m,n',V,D,Pl,eJ,_,hl,hm,rB,_,hx⟩
 ·injection eJ with hv;subst hv
  exact ⟨[],⟨none,0,rfl,.inl rfl⟩,Nat.zero_le _,fun s h=>by cases h⟩
 ·injection eJ with hv _;subst hv
  simp only [if_true] at rB
  obtain ⟨l,h1,h2⟩:=ri (n:=len) (Q:=fun i (s:ah)=>W.cell? (a.add i)=some (sv s)/\s.length<=9223372036854775807) (fun i hi=>by
   obtain ⟨c1,c2⟩:=hx i ag;obtain ⟨s,hs,_,hz⟩:=DataW.trod_string he c2
   injection hs with hs _
   rw [hs] at c1
   exact ⟨s.data.toList,by rw [<-D9];exact c1,max_le hz⟩)
  refine ⟨l,⟨some a,cap,by rw [length_map,h1],?_⟩,by rw [h1];exact max_le (Nat.le_trans hl hm),fun s hs=>?_⟩
  ·by_cases h0:len=0
   ·have:l=[]:=eq_nil_of_length_eq_zero ag;subst this;exact .inl rfl
   ·refine .inr ⟨a.block,a.off,?_,by rw [length_map,h1];exact hl,fun i x hi=>?_⟩
    ·have tZ:l[0]?=some (l[0]'ag):=getElem?_eq_getElem _;have:=zH (h2 0 _ tZ).1;obtain ⟨b,o,s⟩:=a;simp only at this;rw [this]
    ·rw [getElem?_map] at hi
     cases qt:l[i]? with
     | none=>rw [qt] at hi;cases hi
     | some s =>
      rw [qt] at hi;cases hi;exact ⟨zI (h2 i s qt).1,fun a n c e=>by cases e⟩
  ·obtain ⟨i,hi⟩:=List.getElem?_of_mem hs;exact (h2 i s hi).2
theorem P4 {t e:TypeId} {n:Nat} {v:Value} {y:DataW H × List MemPlace} (ht:P.underlying t=some (.slice e)) (he:P.underlying e=some (.int .i64)) (hc:P.cellsOf e=1) (h:DataW.trod enc P W 0 (fun _=>true) true n t [v]=some y) :
  ∃ l:List Int,vM W v (l.map ii)/\l.length<=9223372036854775807:=by
 rcases open_slice1 ht hc h with ⟨eJ,_⟩ | ⟨a,len,cap,m,n',V,D,Pl,eJ,_,hl,hm,rB,_,hx⟩
 ·injection eJ with hv;subst hv
  exact ⟨[],⟨none,0,rfl,.inl rfl⟩,Nat.zero_le _⟩
 ·injection eJ with hv _;subst hv
  simp only [if_true] at rB
  obtain ⟨l,h1,h2⟩:=ri (n:=len) (Q:=fun i (z:Int)=>W.cell? (a.add i)=some (ii z)) (fun i hi=>by
   obtain ⟨c1,c2⟩:=hx i ag;obtain ⟨z,hs,_,hz⟩:=DataW.trod_int he c2
   injection hs with hs _
   rw [hs] at c1
   exact ⟨z,c1⟩)
  refine ⟨l,⟨some a,cap,by rw [length_map,h1],?_⟩,by rw [h1];exact max_le (Nat.le_trans hl hm)⟩
  by_cases h0:len=0
  ·have:l=[]:=eq_nil_of_length_eq_zero ag;subst this;exact .inl rfl
  ·refine .inr ⟨a.block,a.off,?_,by rw [length_map,h1];exact hl,fun i x hi=>?_⟩
   ·have tZ:l[0]?=some (l[0]'ag):=getElem?_eq_getElem _;have:=zH (h2 0 _ tZ);obtain ⟨b,o,s⟩:=a;simp only at this;rw [this]
   ·rw [getElem?_map] at hi
    cases qt:l[i]? with
    | none=>rw [qt] at hi;cases hi
    | some s =>
     rw [qt] at hi;cases hi;exact ⟨zI (h2 i s qt),fun a n c e=>by cases e⟩
theorem Af {α:Type} {t e:TypeId} {fs:Array Field} {k n:Nat} {v:Value} {y:DataW H × List MemPlace} (f:α->List GV) (Q:α->Prop) (β:Bt) (ht:P.underlying t=some (.slice e)) (he:P.underlying e=some (.struct fs)) (gZ:oneCellFields P fs=true) (hC:P.cellsOf e=k) (hk:fs.size=k) (zj:0 < k)
  (each:∀ b o,(∀ (j:Nat) (fl:Field),fs[j]?=some fl->∃ v y n,fE W.heap b (o+j)=some v/\DataW.trod enc P W 0 (fun _=>true) true n fl.type [v]=some y)->∃ x,Q x/\(f x).length=k/\∀ j g,(f x)[j]?=some g->KW W b (o+j)=some g)
  (h:DataW.trod enc P W 0 (fun _=>true) true n t [v]=some y):∃ l:List α,Rel (KW W) β v (.sl k (l.map f))/\l.length<=9223372036854775807/\∀ x∈l,Q x:=by
 rcases open_slice ht h with ⟨eJ,_⟩ | ⟨a,len,cap,m,n',D,Pl,eJ,_,hl,hm,rB,_,hx⟩
 ·injection eJ with hv;subst hv
  exact ⟨[],.sl0 none 0 k,Nat.zero_le _,fun s h=>by cases h⟩
 ·injection eJ with hv _;subst hv
  simp only [if_true] at rB
  have lg:∀ i,i < len->∀ (j:Nat) (fl:Field),fs[j]?=some fl->∃ v y n,W.cell? (a.add (i * k+j))=some v/\DataW.trod enc P W 0 (fun _=>true) true n fl.type [v]=some y:=by
   intro i hi j fl hj;obtain ⟨y8,hc,A5⟩:=hx i ag;rw [hC] at hc;obtain ⟨ys,n',A1,hy,hlen,Fw,hf⟩:=DataW.trod_struct he A5;obtain ⟨_,zg,wY⟩:=World.cells?_some hc;obtain ⟨ho,sd⟩:=hone_of gZ j fl hj;have oE:j < fs.size:=(Array.getElem?_eq_some_iff.1 hj).1;have lg:=wY j ag;have hv:y8[j]?=some (y8[j]'ag):=getElem?_eq_getElem ag;have h1:=hf j fl hj;rw [ho,sd] at h1
   have WH:(y8.drop j).take 1=[y8[j]'ag]:=by
    rw [List.drop_eq_getElem_cons ag];rfl
   rw [WH] at h1;have Rp:ys[j]?=some (ys[j]'ag):=getElem?_eq_getElem ag;refine ⟨_,_,_,?_,h1.trans Rp⟩;rw [<-Go.Deep.add_add,lg,hv]
  obtain ⟨l,h1,h2⟩:=ri (n:=len) (Q:=fun i x=>Q x/\(f x).length=k/\∀ j g,(f x)[j]?=some g->KW W a.block (a.off+i * k+j)=some g) (fun i hi =>
   each a.block (a.off+i * k) fun j fl hj=>by
    obtain ⟨v,y,n,c1,c2⟩:=lg i hi j fl hj
    exact ⟨v,y,n,by rw [Nat.add_assoc];exact zI c1,c2⟩)
  refine ⟨l,Qa (n:=len) (c:=cap) β rfl (by rw [length_map,h1]) ?_,by rw [h1];exact max_le (Nat.le_trans hl hm),fun x hx=>?_⟩
  ·by_cases h0:len=0
   ·exact .inl h0
   ·refine .inr ⟨a.block,a.off,?_,hl,fun i r hr=>?_⟩
    ·obtain ⟨v,y,n,c1,c2⟩:=lg 0 ag 0 (fs[0]'ag) (Array.getElem?_eq_getElem ag);rw [Nat.zero_mul,Nat.add_zero] at c1;have:=zH c1;obtain ⟨b,o,s⟩:=a;simp only at this;rw [this]
    ·rw [getElem?_map] at hr
     cases qt:l[i]? with
     | none=>rw [qt] at hr;cases hr
     | some x =>
      rw [qt] at hr;cases hr;exact (h2 i x qt).2
  ·obtain ⟨i,hi⟩:=List.getElem?_of_mem hx;exact (h2 i x hi).1
end
theorem Gn (l:List ah):GV.sl 1 ((l.map sv).map fun x=>[GV.v x])=strs l:=by rw [map_map];rfl
theorem Py (l:List Int):GV.sl 1 ((l.map ii).map fun x=>[GV.v x])=ints l:=by rw [map_map];rfl
theorem wf_i64 {z:Int} (h:(Lit.int .i64 z).wf=true) : -9223372036854775808<=z/\z<=9223372036854775807:=by
 simp only [Lit.wf,Bool.and_eq_true,decide_eq_true_eq] at h
 have h1:IntKind.min .i64 = -9223372036854775808:=by decide
 have h2:IntKind.max .i64=9223372036854775807:=by decide
 rw [h1,h2] at h;exact h
theorem u7 (z:Int):flat (ii z):=fun a n c e=>by cases e
section
variable {H:Type} {enc:TypeId × Value->H} {W:World}
theorem P5 (β:Bt) {v:Value} {d:DataW H} {ps:List MemPlace} {r:Reach} {b0:Nat} (hv:Value.okWide Tryz.prog W r b0 27 v) (h:DataW.Trod enc Tryz.prog W 0 (fun _=>true) true 27 v d ps) :
  ∃ p:Src,Rel (KW W) β v (.agg (ax p))/\Small p 9223372036854775807/\xh p:=by
 obtain ⟨v0,v1,v2,v3,y0,y1,y2,y3,n,rfl,_,_,h0,h1,h2,h3⟩:=Go.Joins.open_agg4 Tryz.underlying27 (by kernel_rfl) (by kernel_rfl) hv h
 have c9:Tryz.prog.cellsOf 9=1:=by kernel_rfl
 have c3:Tryz.prog.cellsOf 3=1:=by kernel_rfl
 obtain ⟨gs,g1,g2,g3⟩:=F0 Tryz.underlying22 Tryz.underlying9 c9 h0
 obtain ⟨Xv,a1,a2,a3⟩:=Af aD (fun x=>x.name.length<=9223372036854775807 /\ -9223372036854775808<=x.size/\x.size<=9223372036854775807) β Tryz.underlying23 Tryz.underlying103 (by kernel_rfl) (k:=2) (by kernel_rfl) rfl ag (fun b o hf=>by
  obtain ⟨u0,z0,n0,x0,w0⟩:=hf 0 _ rfl;obtain ⟨u1,z1,n1,x1,w1⟩:=hf 1 _ rfl;obtain ⟨s,hs,_,hz⟩:=DataW.trod_string Tryz.underlying9 w0;obtain ⟨z,gy,_,X7⟩:=DataW.trod_int Tryz.underlying3 w1
  injection hs with hs _
  injection gy with gy _
  subst hs gy;refine ⟨⟨s.data.toList,z⟩,⟨max_le hz,wf_i64 X7⟩,rfl,fun j g hg=>?_⟩
  match j,hg with
  | 0,hg=>cases hg;rw [<-D9];exact ln x0 fun a n c e=>by cases e
  | 1,hg=>cases hg;exact ln x1 (u7 z)
  | j+2,hg=>simp [aD] at hg) h1
 obtain ⟨fs,f1,f2,f3⟩:=Af aw (fun x=>x.name.length<=9223372036854775807/\x.params.length<=9223372036854775807/\∀ s∈x.params,s.length<=9223372036854775807) β Tryz.underlying24 Tryz.underlying105 (by kernel_rfl) (k:=3) (by kernel_rfl) rfl ag (fun b o hf=>by
  obtain ⟨u0,z0,n0,x0,w0⟩:=hf 0 _ rfl;obtain ⟨u1,z1,n1,x1,w1⟩:=hf 1 _ rfl;obtain ⟨u2,z2,n2,x2,w2⟩:=hf 2 _ rfl;obtain ⟨s,hs,_,hz⟩:=DataW.trod_string Tryz.underlying9 w0;obtain ⟨l,eS,jA,UH⟩:=F0 Tryz.underlying22 Tryz.underlying9 c9 w1;obtain ⟨z,gy,_,X7⟩:=DataW.trod_int Tryz.underlying3 w2
  injection hs with hs _
  injection gy with gy _
  subst hs gy;refine ⟨⟨s.data.toList,l,z⟩,⟨max_le hz,jA,UH⟩,rfl,fun j g hg=>?_⟩
  match j,hg with
  | 0,hg=>cases hg;rw [<-D9];exact ln x0 fun a n c e=>by cases e
  | 1,hg=>cases hg;rw [QK x1 eS,Gn]
  | 2,hg=>cases hg;exact ln x2 (u7 z)
  | j+3,hg=>simp [aw] at hg) h2
 obtain ⟨ns,k1,k2,k3⟩:=Af ay (fun x=>(x.s.length<=9223372036854775807/\x.kids.length<=9223372036854775807) /\ -9223372036854775808<=x.n/\x.n<=9223372036854775807) β Tryz.underlying25 Tryz.underlying107 (by kernel_rfl) (k:=5) (by kernel_rfl) rfl ag (fun b o hf=>by
  obtain ⟨u0,z0,n0,x0,w0⟩:=hf 0 _ rfl;obtain ⟨u1,z1,n1,x1,w1⟩:=hf 1 _ rfl;obtain ⟨u2,z2,n2,x2,w2⟩:=hf 2 _ rfl;obtain ⟨u3,z3,n3,x3,w3⟩:=hf 3 _ rfl;obtain ⟨u4,z4,n4,x4,w4⟩:=hf 4 _ rfl;obtain ⟨i0,e0,_,_⟩:=DataW.trod_int Tryz.underlying3 w0;obtain ⟨i1,e1,_,_⟩:=DataW.trod_int Tryz.underlying3 w1;obtain ⟨i2,e2,_,q2⟩:=DataW.trod_int Tryz.underlying3 w2;obtain ⟨s,hs,_,hz⟩:=DataW.trod_string Tryz.underlying9 w3;obtain ⟨l,eS,jA⟩:=P4 Tryz.underlying40 Tryz.underlying3 c3 w4
  injection e0 with e0 _
  injection e1 with e1 _
  injection e2 with e2 _
  injection hs with hs _
  subst hs e0 e1 e2;refine ⟨⟨i0,i1,i2,s.data.toList,l⟩,⟨⟨max_le hz,jA⟩,wf_i64 q2⟩,rfl,fun j g hg=>?_⟩
  match j,hg with
  | 0,hg=>cases hg;exact ln x0 (u7 _)
  | 1,hg=>cases hg;exact ln x1 (u7 _)
  | 2,hg=>cases hg;exact ln x2 (u7 _)
  | 3,hg=>cases hg;rw [<-D9];exact ln x3 fun a n c e=>by cases e
  | 4,hg=>cases hg;rw [QK x4 eS,Py]
  | j+5,hg=>simp [ay] at hg) h3
 have r0:=NS g1 β;rw [Gn] at r0;refine ⟨⟨gs,Xv,fs,ns⟩,?_,⟨⟨g2,g3⟩,⟨a2,fun x hx=>(a3 x hx).1⟩,⟨f2,f3⟩,⟨k2,fun x hx=>(k3 x hx).1⟩⟩,⟨fun x hx=>(a3 x hx).2,fun x hx=>(k3 x hx).2⟩⟩;have hc:ba (KW W) β [v0,v1,v2,v3] (ax ⟨gs,Xv,fs,ns⟩):=.cons r0 (.cons a1 (.cons f1 (.cons k1 .nil)));exact .agg [v0,v1,v2,v3] _ hc.1 hc.2
end
end Go.Xg
namespace Go.Xg
open Go.RowKit Go.Xw Go.Proofs
open Go.Lib
theorem N6 {P:Program} {W:World} {name:String} {k:IntKind} {zs:List Int} {g:Nat} {t e:TypeId} {n:Nat}
  (hg:P.globalNamed name=some g) (hty:(P.globals[g]?).map (·.type)=some t) (ht:P.underlying t=some (.array n e)) (he:P.underlying e=some (.int k)) (ML:P.cellsOf e=1) (hct:P.cellsOf t=n)
  (h:VarReads P W name (tabData k zs)):TabIs P W name k zs:=by
 obtain ⟨g',t',cs,fuel,p,lr,A5,Zw,hd⟩:=h;obtain rfl:=Option.some.inj (hg.symm.trans lr);obtain rfl:=Option.some.inj (hty.symm.trans A5);unfold TabIs;rw [Zw,<-cells_of_tab ht he ML hct hd]
theorem Je {P:Program} {W:World} {name:String} {k:IntKind} {zs:List Int} {g n:Nat} (hg:P.globalNamed name=some g) (hn:zs.length=n) (h:TabIs P W name k zs):sM W g n:=by
 unfold TabIs World.var? at h;rw [hg] at h;simp only [Option.bind_some] at h
 cases hb:W.heap[g]? with
 | none=>rw [hb] at h;cases h
 | some o =>
  rw [hb] at h
  cases o with
  | cells cs E z =>
   simp only [Option.some.injEq] at h;exact ⟨cs,E,z,hb,by rw [h];simpa using hn⟩
  | _=>cases h
theorem Lt {P:Program} {W:World} {name:String} {k:IntKind} {zs:List Int} {g:Nat} (hg:P.globalNamed name=some g) (h:TabIs P W name k zs) {o:Nat} {z:Int} (ho:zs[o]?=some z):KW W g o=some (.v (.int k z)):=by
 have ak:=(List.getElem?_eq_some_iff.1 ho).1;have hc:=h.cell hg o ak;rw [List.getD_eq_getElem?_getD,ho,fc] at hc
 exact ln hc fun a n c e=>by cases e
theorem Tl {W:World} (hp:VarReads Tryz.prog W "internal/strconv.uint64pow10" (tabData .u64 vz)) (hs:VarReads Tryz.prog W "strings.asciiSpace" (tabData .u8 vE)) (hW:W.ShapedOpen Tryz.prog):gD (KW W) (fun _=>.no) W:=by
 have gp:Tryz.prog.globalNamed "internal/strconv.uint64pow10" = some 3:=by kernel_rfl
 have gs:Tryz.prog.globalNamed "strings.asciiSpace" = some 0:=by kernel_rfl
 have tp:=N6 gp (t:=287) (by kernel_rfl) Tryz.underlying287 (k:=.u64) (by kernel_rfl) (by kernel_rfl) (by kernel_rfl) hp;have ts:=N6 gs (t:=244) (by kernel_rfl) Tryz.underlying244 (k:=.u8) (by kernel_rfl) (by kernel_rfl) (by kernel_rfl) hs;obtain ⟨m,hm⟩:=cell_of_shapedOpen_int (g:=1) (zero:=#[.int .i64 0]) (t:=3) hW (of_decide_eq_true (by kernel_rfl)) (by kernel_rfl) rfl (by kernel_rfl) (by kernel_rfl) Tryz.underlying3;rw [fc] at hm;refine ⟨⟨m,fun b o g h=>?_⟩,Je gp aJ tp,Je gs aJ ts,fun i b h=>by cases h⟩;unfold xg at h;split at h
 ·rename_i hb;subst hb;split at h
  ·cases h;exact ln hm fun a n c e=>by cases e
  ·cases h
 ·split at h
  ·rename_i hb;subst hb
   cases ho:vz[o]? with
   | none=>rw [ho] at h;cases h
   | some z=>rw [ho] at h;cases h;exact Lt gp tp ho
  ·split at h
   ·rename_i hb;subst hb
    cases ho:vE[o]? with
    | none=>rw [ho] at h;cases h
    | some z=>rw [ho] at h;cases h;exact Lt gs ts ho
   ·cases h
theorem GF.calls {P:Program} {f:FuncId} {gs:List GV} {g:GV} (h:GF P f gs [] g []) {W:World} {vs:List Value} (hv:ba (KW W) (fun _=>.no) vs gs) (hT:gD (KW W) (fun _=>.no) W) :
  mh P f vs W fun v w'=>Below W.heap.size W w'/\∃ K β,Rel K β v g:=by
 have hI:Inv ⟨W,gn,KW W,fun _=>.no,0⟩ (KW W) (fun _=>.no) [] W :=
  ⟨Ext.refl W,cl.refl _,cY.refl _,fun _ _=>rfl,Wd W,fun i x h=>by simp at h,fun _ _=>rfl,fun i j b h=>(by cases h),fun i b h=>(by cases h),fun b o g h=>.inl h,hT⟩
 refine (h ⟨W,gn,KW W,fun _=>.no,0⟩ (KW W) (fun _=>.no) W vs rfl hI hv).mono ?_;rintro v w' ⟨K',bA,x,aK,h1,h2,rfl,rfl⟩;exact ⟨h1.ext.below,K',bA,h2⟩
end Go.Xg
namespace Go.Xg
open Go.RowKit Go.Xw Go.Proofs
open Go.Xp (Tok Nd T)
open Go.Sp
attribute [local irreducible] GW GL GO YG GC GA aU aZ
theorem sP {α:Type} {l:List α} {q:α->Bool} {k:Nat} {x:α} (hx:l[k]?=some x) (hf:(l.take k).all q=true) (hb:q x=true):(l.take (k+1)).all q=true:=by
 rw [take_add_one,hx,List.all_append,hf];simp [hb]
def idxOf (xs:List ah) (s:ah):Int:=match xs.findIdx? (fun x=>s==x) with | some i=>(i:Int) | none => -1
theorem R0 (xs:List ah) (s:ah) (hl:xs.length<=1099511627776):GF Tryz.prog 121 [strs xs,.v (sv s)] [] (.v (ii (idxOf xs s))) []:=by
 refine ai Tryz.func121 Tryz.ntmps121 ?_;refine GW.range (xs.map fun s=>[GV.v (sv s)]).length (fun k fr Γ=>fr=[strs xs,.v (sv s),.U,.U,.U,.U,strs xs,.v (ii ((xs.map fun s=>[GV.v (sv s)]).length:Int)),.v (ii (k:Nat)),.U,.U,.U,.U,.U,.U,.U,.U,.U,.U]/\Γ=[]/\((xs.take k).all fun x=>!(s==x))=true) ?_ (by simpa using hl) ?_ ?_ ?_
 ·exact jy
 ·exact gx
 ·rintro k _ _ ak ⟨rfl,rfl,hc⟩
  have ak:k < xs.length:=by simpa using ak
  have hx:xs[k]?=some xs[k]:=by simp [ak]
  have hr:(xs.map fun s=>[GV.v (sv s)])[k]?=some [.v (sv xs[k])]:=by simp [ak]
  cases hb:(s==xs[k]) with
  | true =>
   have hi:xs.findIdx? (fun x=>s==x)=some k:=by
    rw [List.findIdx?_eq_some_iff_getElem];refine ⟨ak,hb,fun j hj=>?_⟩;rw [List.all_eq_true] at hc;have:=hc xs[j] (by rw [List.mem_take_iff_getElem];exact ⟨j,by omega,rfl⟩);simpa using this
   unfold idxOf;rw [hi];generalize xs[k]=x at *;exact av
  | false =>
   have rj:=sP (q:=fun x=>!(s==x)) hx hc (by rw [hb];rfl);generalize xs[k]=x at *;refine ae ?_;exact ⟨rfl,rfl,_,_,Wk.aC aq,rfl,rfl,rj⟩
 ·rintro _ _ ⟨rfl,rfl,hc⟩;rw [take_of_length_le (by simp)] at hc
  have hi:xs.findIdx? (fun x=>s==x)=none:=by
   rw [List.findIdx?_eq_none_iff];intro x hx;rw [List.all_eq_true] at hc;have:=hc x hx;simpa using this
  unfold idxOf;rw [hi];exact av
theorem Pu (xs:List ah) (s:ah):decide (0<=idxOf xs s)=xs.contains s:=by
 unfold idxOf
 cases h:xs.findIdx? (fun x=>s==x) with
 | some i =>
  rw [List.findIdx?_eq_some_iff_getElem] at h;obtain ⟨h1,h2,_⟩:=h
  have h3:s=xs[i]:=by simpa using h2
  have:xs.contains s=true:=by rw [List.contains_iff_mem,h3];exact getElem_mem _
  rw [this];simp
 | none =>
  rw [List.findIdx?_eq_none_iff] at h
  have:xs.contains s=false:=by
   cases hc:xs.contains s with
   | false=>rfl
   | true=>have:=h s (List.contains_iff_mem.1 hc);simp at this
  rw [this];rfl
theorem kp (xs:List ah) (s:ah) (hl:xs.length<=1099511627776):GF Tryz.prog 83 [strs xs,.v (sv s)] [] (.v (.bool (xs.contains s))) []:=by
 have hi:=R0 xs s hl;rw [<-Pu];generalize idxOf xs s=i at *;refine ai Tryz.func83 Tryz.ntmps83 ?_;refine ab [] hi ?_;exact al
end Go.Xg
set_option maxHeartbeats 2000000
namespace Go.Xg
open Go.RowKit Go.Xw Go.Proofs
open Go.Xp (Nd T Ar)
open Go.Sp (Src)
open Go.Im
attribute [local irreducible] GW GL GO YG GC GA aU aZ
theorem Ng (s:ah):GF Tryz.prog 81 [.v (sv s)] [] (.v (.bool (l6 s))) []:=by
 unfold l6 oT pX iN
 cases h1:(s==[103,101,116])
 all_goals cases h2:(s==[112,117,116])
 all_goals
  refine ai Tryz.func81 Tryz.ntmps81 ?_;exact al
theorem Eh {mn:FuncId} [aH Tryz.prog mn] (pr:Go.Sp.Fn->Bool) (l:List (Go.Sp.Fn)) (hn:l.length<=1099511627776) (hc:∀ x∈l,GF Tryz.prog mn [.agg (aw x)] [] (.v (.bool (pr x))) []) :
  GF Tryz.prog 125 [.sl 3 (l.map aw),.v (.func (.func mn) #[] #[])] [] (.v (ii (cD pr l))) []:=by
 have dI:(l.map aw).length=l.length:=by simp
 refine ai Tryz.func125 Tryz.ntmps125 ?_;refine GW.range (l.map aw).length (fun k fr Γ=>fr=[.sl 3 (l.map aw),.v (.func (.func mn) #[] #[]),.U,.U,.U,.U,.U,.v (ii ((l.map aw).length:Int)),.v (ii (k:Nat)),.U,.U,.U,.U,.U,.U,.U,.U,.U,.U]/\Γ=[]/\(l.take k).all (fun y=>!pr y)=true) ?_ ag ?_ ?_ ?_
 ·exact jy
 ·exact gx
 ·rintro k _ _ ak ⟨rfl,rfl,aQ⟩;rw [dI] at ak;obtain ⟨x,cI⟩:∃ x,l[k]?=some x:=⟨l[k],by simp [ak]⟩
  have hr:(l.map aw)[k]?=some (aw x):=by rw [getElem?_map,cI];rfl
  have h:=hc x (mem_of_getElem? cI);have bu:=lW (f:=pr) cI
  have hit:=fun h0=>lZ (f:=pr) cI h0 aQ
  unfold aw at hr h
  cases hb:pr x with
  | true =>
   rw [hb] at h;rw [hit hb];refine ae ?_;refine iC [] h ?_;exact av
  | false =>
   rw [hb] at h bu;refine ae ?_;refine iC [] h ?_;refine ae ?_;exact ⟨rfl,rfl,_,_,Wk.aC aq,rfl,rfl,by rw [bu,aQ];rfl⟩
 ·rintro _ _ ⟨rfl,rfl,aQ⟩;rw [dI,take_length] at aQ;rw [jz aQ];exact av
theorem tM {mn:FuncId} [aH Tryz.prog mn] (pr:Go.Sp.Fn->Bool) (l:List (Go.Sp.Fn)) (hn:l.length<=1099511627776) (hc:∀ x∈l,GF Tryz.prog mn [.agg (aw x)] [] (.v (.bool (pr x))) []) :
  GF Tryz.prog 138 [.sl 3 (l.map aw),.v (.func (.func mn) #[] #[])] [] (.v (.bool (l.any pr))) []:=by
 have h:=Eh pr l hn hc;rw [<-CX];generalize cD pr l=z at *;refine ai Tryz.func138 Tryz.ntmps138 ?_;refine ab [] h ?_;exact al
theorem DQ {mn:FuncId} [aH Tryz.prog mn] (pr:Go.Sp.Fn->Bool) (s:ah) (l:List (Go.Sp.Fn)) (hn:l.length<=1099511627776) (hc:∀ x∈l,GF Tryz.prog mn [.agg (aw x),.box [.v (sv s)] 0] [] (.v (.bool (pr x))) []) :
  GF Tryz.prog 125 [.sl 3 (l.map aw),.fn (.func mn) [] [.box [.v (sv s)] 0]] [] (.v (ii (cD pr l))) []:=by
 have dI:(l.map aw).length=l.length:=by simp
 refine ai Tryz.func125 Tryz.ntmps125 ?_;refine GW.range (l.map aw).length (fun k fr Γ=>fr=[.sl 3 (l.map aw),.fn (.func mn) [] [.box [.v (sv s)] 0],.U,.U,.U,.U,.U,.v (ii ((l.map aw).length:Int)),.v (ii (k:Nat)),.U,.U,.U,.U,.U,.U,.U,.U,.U,.U]/\Γ=[]/\(l.take k).all (fun y=>!pr y)=true) ?_ ag ?_ ?_ ?_
 ·exact jy
 ·exact gx
 ·rintro k _ _ ak ⟨rfl,rfl,aQ⟩;rw [dI] at ak;obtain ⟨x,cI⟩:∃ x,l[k]?=some x:=⟨l[k],by simp [ak]⟩
  have hr:(l.map aw)[k]?=some (aw x):=by rw [getElem?_map,cI];rfl
  have h:=hc x (mem_of_getElem? cI);have bu:=lW (f:=pr) cI
  have hit:=fun h0=>lZ (f:=pr) cI h0 aQ
  unfold aw at hr h
  cases hb:pr x with
  | true =>
   rw [hb] at h;rw [hit hb];refine ae ?_;refine kY [] h ?_;exact av
  | false =>
   rw [hb] at h bu;refine ae ?_;refine kY [] h ?_;refine ae ?_;exact ⟨rfl,rfl,_,_,Wk.aC aq,rfl,rfl,by rw [bu,aQ];rfl⟩
 ·rintro _ _ ⟨rfl,rfl,aQ⟩;rw [dI,take_length] at aQ;rw [jz aQ];exact av
theorem DP {mn:FuncId} [aH Tryz.prog mn] (pr:Ar->Bool) (s:ah) (l:List (Ar)) (hn:l.length<=1099511627776) (hc:∀ x∈l,GF Tryz.prog mn [.agg (aD x),.box [.v (sv s)] 0] [] (.v (.bool (pr x))) []) :
  GF Tryz.prog 123 [.sl 2 (l.map aD),.fn (.func mn) [] [.box [.v (sv s)] 0]] [] (.v (ii (cD pr l))) []:=by
 have dI:(l.map aD).length=l.length:=by simp
 refine ai Tryz.func123 Tryz.ntmps123 ?_;refine GW.range (l.map aD).length (fun k fr Γ=>fr=[.sl 2 (l.map aD),.fn (.func mn) [] [.box [.v (sv s)] 0],.U,.U,.U,.U,.U,.v (ii ((l.map aD).length:Int)),.v (ii (k:Nat)),.U,.U,.U,.U,.U,.U,.U,.U,.U,.U]/\Γ=[]/\(l.take k).all (fun y=>!pr y)=true) ?_ ag ?_ ?_ ?_
 ·exact jy
 ·exact gx
 ·rintro k _ _ ak ⟨rfl,rfl,aQ⟩;rw [dI] at ak;obtain ⟨x,cI⟩:∃ x,l[k]?=some x:=⟨l[k],by simp [ak]⟩
  have hr:(l.map aD)[k]?=some (aD x):=by rw [getElem?_map,cI];rfl
  have h:=hc x (mem_of_getElem? cI);have bu:=lW (f:=pr) cI
  have hit:=fun h0=>lZ (f:=pr) cI h0 aQ
  unfold aD at hr h
  cases hb:pr x with
  | true =>
   rw [hb] at h;rw [hit hb];refine ae ?_;refine kY [] h ?_;exact av
  | false =>
   rw [hb] at h bu;refine ae ?_;refine kY [] h ?_;refine ae ?_;exact ⟨rfl,rfl,_,_,Wk.aC aq,rfl,rfl,by rw [bu,aQ];rfl⟩
 ·rintro _ _ ⟨rfl,rfl,aQ⟩;rw [dI,take_length] at aQ;rw [jz aQ];exact av
theorem Su (x:Go.Sp.Fn) (s:ah):GF Tryz.prog 126 [.agg (aw x),.box [.v (sv s)] 0] [] (.v (.bool (x.name==s))) []:=by
 unfold aw;refine ai Tryz.func126 Tryz.ntmps126 ?_;exact al
theorem Mk (p:Src) (s:ah) (hn:p.fns.length<=1099511627776):GF Tryz.prog 87 [.agg (ax p),.v (sv s)] [] (.v (ii (cD (fun x:Go.Sp.Fn=>x.name==s) p.fns))) []:=by
 have h:=DQ (fun x:Go.Sp.Fn=>x.name==s) s p.fns hn (fun x _=>Su x s);generalize cD (fun x:Go.Sp.Fn=>x.name==s) p.fns=z at *;refine da Tryz.func87 Tryz.ntmps87 ?_;refine jg ?_;refine GL.wk (Wk.freeze (i:=1) rfl rfl rfl (Nat.zero_le _)) ?_;refine GN (by simp only [ot,ny];rfl) ?_;refine ae ?_;refine ab [] h ?_;exact al
theorem Jy (x:Ar) (s:ah):GF Tryz.prog 124 [.agg (aD x),.box [.v (sv s)] 0] [] (.v (.bool (x.name==s))) []:=by
 unfold aD;refine ai Tryz.func124 Tryz.ntmps124 ?_;exact al
theorem CM (p:Src) (s:ah) (hn:p.arrays.length<=1099511627776):GF Tryz.prog 86 [.agg (ax p),.v (sv s)] [] (.v (ii (cD (fun x:Ar=>x.name==s) p.arrays))) []:=by
 have h:=DP (fun x:Ar=>x.name==s) s p.arrays hn (fun x _=>Jy x s);generalize cD (fun x:Ar=>x.name==s) p.arrays=z at *;refine da Tryz.func86 Tryz.ntmps86 ?_;refine jg ?_;refine GL.wk (Wk.freeze (i:=1) rfl rfl rfl (Nat.zero_le _)) ?_;refine GN (by simp only [ot,ny];rfl) ?_;refine ae ?_;refine ab [] h ?_;exact al
theorem K9 (x:Go.Sp.Fn):GF Tryz.prog 170 [.agg (aw x)] [] (.v (.bool (decide (x.params.length > 40)))) []:=by
 have h:decide ((40:Int) < ((x.params.map fun s=>[GV.v (sv s)]).length:Int))=decide (x.params.length > 40):=by
  rw [length_map];exact decide_eq_decide.2 ag
 rw [<-h];unfold aw strs;refine ai Tryz.func170 Tryz.ntmps170 ?_;exact al
theorem OH (x:Go.Sp.Fn):GF Tryz.prog 139 [.agg (aw x)] [] (.v (.bool (mC x))) []:=by
 have h:(((x.params.map fun s=>[GV.v (sv s)]).length:Int)==0)=(x.params.length==0):=by
  rw [length_map];exact Bool.eq_iff_iff.2 (by simp)
 unfold mC vm;rw [<-h];unfold aw strs
 cases h1:(x.name==[109,97,105,110])
 all_goals
  refine ai Tryz.func139 Tryz.ntmps139 ?_;exact al
end Go.Xg
namespace Go.Xg
open Go.RowKit Go.Xw
theorem sq (n:Int):bits .and .i64 n 4294967295=n % 4294967296:=by
 have h:(BitVec.ofInt 64 4294967295).toNat=2 ^ 32 - 1:=by decide
 have key:(BitVec.ofInt 64 n &&& BitVec.ofInt 64 4294967295).toNat=(n % ((2 ^ 64:Nat):Int)).toNat % 2 ^ 32:=by
  rw [BitVec.toNat_and,BitVec.toNat_ofInt,h,Nat.and_two_pow_sub_one_eq_mod]
 show IntKind.i64.wrap ((BitVec.ofInt 64 n &&& BitVec.ofInt 64 4294967295).toNat:Nat)=n % 4294967296;rw [key,IntKind.wrap_i64];omega
section
variable {P:Program} {fr:List GV} {Γ:List Ob}
theorem YG.sq {x y:Operand} {t t':TypeId} {a:Int} (hx:aX fr x=.v (ii a)) (hy:aX fr y=.v (ii 4294967295)):YG P (.binOp .and t x y t') fr Γ (.v (ii (a % 4294967296))) :=
 YG.v2 hx hy fun l w h k d ty pos af=>by
  simp [execOp,eqGuard,h,k,binOp,intBits_and,Go.Xg.sq]
end
end Go.Xg
namespace Go.Xw
open Go.RowKit
class CH (P:Program) (t:TypeId) (e:outParam TypeId):Prop where
 is:P.underlying t=some (.slice e)/\∃ i,P.info? e=some i/\i.zero=some (.int .u8 0)/\i.size=1/\i.bytes=1
def QN (P:Program) (t e:TypeId):Bool :=
 (match P.underlying t with | some (.slice e')=>e'==e | _=>false)&&(match P.info? e with | some i=>(match i.zero with | some (.int .u8 0)=>true | _=>false)&&i.size==1&&i.bytes==1 | none=>false)
theorem CH.mk' {P:Program} {t e:TypeId} (h:QN P t e=true):CH P t e:=by
 unfold QN at h;rw [Bool.and_eq_true] at h;obtain ⟨h1,h2⟩:=h;refine ⟨?_,?_⟩
 ·split at h1
  ·rename_i e' hu;rw [hu];simp at h1;rw [h1]
  ·cases h1
 ·split at h2
  ·rename_i i hi;simp only [Bool.and_eq_true,beq_iff_eq] at h2;obtain ⟨⟨h4,h5⟩,h6⟩:=h2;split at h4
   ·rename_i hz;exact ⟨i,hi,hz,h5,h6⟩
   ·cases h4
  ·cases h2
section
variable {P:Program} {Q:lp} {l:List Value} {w:World} {ops:Array Oper} {rest:List Oper} {d:Option Tmp} {ty:TypeId} {pos:String} {af:Array Edge}
def kq (s:ah):List Value:=s.map fun c=>.int .u8 (c.toNat:Int)
theorem WL.BJ {s x:Operand} {t u e:Nat} [hT:CH P t e] [hU:pH P u] {base n:Nat} {xs:List Value} {v:Value} {str:ah} (hs:ev l s=v) (fb:gA w base e 1 v n xs) (hx:ev l x=sv str)
  (xG:n+str.length<=140737488355328) (AV:base<=w.heap.size)
  (h:∀ v' w',gA w' base e 1 v' (n+str.length) (xs++kq str)->Ext (fun b=>v.ownBlock=some b) w w'->(∀ b,v'.ownBlock=some b->v.ownBlock=some b\/w.heap.size<=b)->(Ext gn w w'\/v'.ownBlock=v.ownBlock)->WL P ops Q rest (put l d v') w') :
  WL P ops Q (⟨d,.call ⟨.builtin .append,#[s,x],#[t,u]⟩,ty,pos,af,none⟩::rest) l w:=by
 obtain ⟨hu,i,hi,hz,cS,xF⟩:=hT.is;have fx:=hU.und
 have qx:(⟨str.toArray⟩:ByteArray).size=str.length:=by simp [ByteArray.size]
 have eJ:Lib.strCells ⟨str.toArray⟩=kq str:=by simp [Lib.strCells,kq]
 obtain ⟨v',w',hr,h2,h3,h4⟩:=Lib.run_append_own_string (P:=P) w base t u ty e i hu fx hi hz cS xF v n xs fb ⟨str.toArray⟩ (by rw [qx];simp only [maxLen];omega) (by rw [qx];omega) AV;rw [qx,eJ] at h2;rw [qx] at h4;have gI:Ext (fun b=>v.ownBlock=some b) w w':=⟨h3.os,h3.tape,h3.output,h3.size,fun j hj hn=>h3.block j hj fun he=>hn he.symm⟩;have mU:(Builtin.append_ #[t,u] ty #[v,sv str]).run P w=.ok v' w':=hr;refine WL.val (v:=v') (w':=w') (by simp [execOp,resolve,invoke,builtin,hs,hx,mU]) (h v' w' h2 gI ?_ ?_)
 ·intro b' bq
  rcases fb.2 with ⟨rfl,rfl⟩ | ⟨g,cap,cur,rfl,nB,hg,oG,wZ,eJ,A6⟩
  ·by_cases hm:str.length=0
   ·have:=h4.2 ⟨rfl,hm⟩;subst this;cases bq
   ·have df:=run_append_nil_string (P:=P) w t u ty e i (.int .u8 0) hu fx hi hz ⟨str.toArray⟩ (by omega) (by rw [qx];omega) (by rw [xF,qx];omega);rw [hr] at df;cases df;simp only [Value.ownBlock,Option.some.injEq] at bq;exact .inr (by omega)
  ·by_cases hroom:n+str.length<=cap
   ·have Uy:cur.size=cap:=by simpa using eJ
    have df:=Lib.run_append_room_string (P:=P) w t u ty e i hu fx hi cS g n cap cur hg ⟨str.toArray⟩ (by rw [qx];exact hroom) (by rw [qx];omega);rw [hr] at df;cases df;exact .inl bq
   ·have holds:∀ j u,xs[j]?=some u->w.cell? ((⟨g,0,none⟩:Addr).add j)=some u:=World.ownsRow.cells (g:=g) fb rfl;have df:=Lib.run_append_grow_string (P:=P) w t u ty e i (.int .u8 0) hu fx hi hz ⟨g,0,none⟩ n cap xs (by rw [cS];exact fb.1) holds ⟨str.toArray⟩ (by rw [qx];omega) (by rw [qx];omega) (by rw [xF,qx];exact growslice_fits (by omega) (by omega));rw [hr] at df;cases df;simp only [Value.ownBlock,Option.some.injEq] at bq;exact .inr (by omega)
 ·rcases fb.2 with ⟨rfl,rfl⟩ | ⟨g,cap,cur,rfl,nB,hg,oG,wZ,eJ,A6⟩
  ·exact .inl (gI.mono fun k _ hk=>by cases hk)
  ·by_cases hroom:n+str.length<=cap
   ·have Uy:cur.size=cap:=by simpa using eJ
    have df:=Lib.run_append_room_string (P:=P) w t u ty e i hu fx hi cS g n cap cur hg ⟨str.toArray⟩ (by rw [qx];exact hroom) (by rw [qx];omega);rw [hr] at df;cases df;exact .inr rfl
   ·have holds:∀ j u,xs[j]?=some u->w.cell? ((⟨g,0,none⟩:Addr).add j)=some u:=World.ownsRow.cells (g:=g) fb rfl;have df:=Lib.run_append_grow_string (P:=P) w t u ty e i (.int .u8 0) hu fx hi hz ⟨g,0,none⟩ n cap xs (by rw [cS];exact fb.1) holds ⟨str.toArray⟩ (by rw [qx];omega) (by rw [qx];omega) (by rw [xF,qx];exact growslice_fits (by omega) (by omega));rw [hr] at df;cases df;exact .inl ⟨rfl,rfl,rfl,by simp,fun k hk _=>Below.heap_alloc _ _ _ (by simpa using hk)⟩
theorem R.qG {x:Operand} {s:TypeId} {i off:Nat} [hT:dp P s i off 1 false] {vs:List Value} {v:Value} (hx:ev l x=.agg vs.toArray) (hv:vs[off]?=some v):eo P l w (.field s x i) v:=fun d ty pos af=>by
 obtain ⟨hT⟩:=hT;unfold JM at hT;split at hT
 ·rename_i fs hu;split at hT
  ·rename_i f hf;simp only [Bool.and_eq_true,beq_iff_eq,bne_iff_ne,ne_eq] at hT;obtain ⟨⟨⟨h1,h2⟩,h3⟩,h4⟩:=hT
   have hag:(isAgg f.type).run P w=.ok false w:=by
    cases hd:P.underlying f.type with
    | none=>simp [hd] at h4
    | some d =>
     rw [hd] at h4;unfold isAgg;rw [Sem.run_bind,run_underlying hd w]
     cases d <;> simp_all [yi]
   have A8:vs.toArray[f.offset]?=some v:=by rw [h1];simpa using hv
   have hv2:vs[f.offset]?=some v:=by rw [h1];exact hv
   simp [execOp,Instr.field,hx,run_underlying hu,hf,part,asAgg,hag,A8,hv2]
  ·cases hT
 ·cases hT
end
end Go.Xw
namespace Go.Xg
open Go.RowKit Go.Xw
section
variable {P:Program} {m:Nat} {Q:dB} {fr:List GV} {Γ:List Ob} {ops:Array Oper} {rest:List Oper} {d:Option Tmp} {op:Op} {ty:TypeId} {pos:String} {af:Array Edge}
theorem YG.qG {x:Operand} {s:TypeId} {i off:Nat} [hT:dp P s i off 1 false] {cs:List GV} {g:GV} (hx:aX fr x=.agg cs) (hg:cs[off]?=some g):YG P (.field s x i) fr Γ g:=fun B K β w l hI hF=>by
 have h:=hF.ev x;rw [hx] at h;generalize hv:ev l x=v at h
 cases h with
 | agg vs _ hl h =>
  have hi:off < vs.length:=by rw [hl];exact (List.getElem?_eq_some_iff.1 hg).1
  exact ⟨vs[off],R.qG hv (by simp [hi]),h off _ g (by simp [hi]) hg⟩
abbrev cq (s:ah):List (List GV):=s.map fun c=>[.v (.int .u8 (c.toNat:Int))]
theorem GL.BJ {s x:Operand} {t u e:Nat} [hT:CH P t e] [hU:pH P u] {i n fz:Nat} {rows:List (List GV)} {str:ah} (hx:aX fr x=.v (sv str)) (hs:aX fr s=.vec i n) (bz:Γ[i]?=some (.vec e 1 fz rows)) (hn:rows.length=n) (bP:str.isEmpty=false)
  (hb:n+str.length<=140737488355328)
  (h:GL P m ops Q rest (br fr d (.vec i (n+str.length))) (oset Γ i (.vec e 1 fz (rows++cq str)))) :
  GL P m ops Q (⟨d,.call ⟨.builtin .append,#[s,x],#[t,u]⟩,ty,pos,af,none⟩::rest) fr Γ:=fun B K β w l hm hI hF=>by
 subst hn
 have bP:str≠[]:=by intro h0;rw [h0] at bP;cases bP
 obtain ⟨h0,xs,o1,o2,o3,o4,o5,o6⟩:=hI.ob i _ bz;have th:=hF.ev s;rw [hs] at th
 have qy:ev l s=h0:=by
  generalize hv:ev l s=v at th
  cases th with
  | vec _ _ a c hh =>
   obtain ⟨h',m',e1,e2,e3⟩:=hh;rw [o1] at e1;cases e1;exact e3 rfl
 have jK:(cq str).flatten=str.map fun c=>GV.v (.int .u8 (c.toNat:Int)):=by
  unfold cq;clear hx bP hb h;generalize str=s
  induction s with
  | nil=>rfl
  | cons c r ih=>simp only [List.map_cons,flatten_cons,ih];rfl
 have hlen:(cq str).length=str.length:=by simp [cq]
 refine WL.BJ (base:=0) (v:=h0) (n:=rows.length) (xs:=xs) (str:=str) qy o2 (hF.gU hx) hb (Nat.zero_le _) ?_;intro v' w' how gI tY vh
 obtain ⟨K',hK,qz,bg⟩:=hI.grow bz o1 ⟨o2,o3⟩ (news:=cq str) (ns:=kq str) (by rw [hlen];exact how) gI tY (by rw [jK];exact (by
   have:(str.map fun c=>GV.v (.int .u8 (c.toNat:Int)))=lf (kq str):=by simp [lf,kq]
   rw [this];exact ba.self)) (fun r hr=>by
   simp only [cq,mem_map] at hr;obtain ⟨c,_,rfl⟩:=hr
   exact ⟨rfl,fun g hg=>by rw [List.mem_singleton] at hg;subst hg;rfl⟩) (by intro h0;exact bP (List.map_eq_nil_iff.1 h0)) (fun b bq o v ho hv=>by
  rcases vh with h7 | h7
  ·exact h7.c hv (fun h=>h)
  ·have fV:o < xs.length:=by rw [o2.1];exact Nat.lt_of_lt_of_le ho (Nat.mul_le_mul_right 1 o6)
   obtain ⟨b2,c2,pk,_,_,jJ⟩:=o2.cells.2 (by intro h0;rw [h0] at fV;simp at fV)
   have eI:b2=b:=by rw [pk] at bq;cases bq;rfl
   subst eI;have Df:=jJ o xs[o] (by simp [fV]);rw [fc,hv] at Df;cases Df;obtain ⟨b3,c3,MO,_,_,MK⟩:=how.cells.2 (by intro h0;have:xs=[]:=(List.append_eq_nil_iff.1 h0).1;rw [this] at fV;simp at fV)
   have xC:b3=b2:=by rw [MO,bq] at h7;cases h7;rfl
   subst xC
   rw [<-fc];exact MK o _ (by rw [getElem?_append_left fV];simp [fV]))
 rw [<-bd] at bg;refine h B K' _ w' _ hm bg ((hF.mono hK qz).put d ?_);obtain ⟨a,c,rfl⟩:=how.shape;exact .vec i _ a c ⟨_,_,bo,by simp [hlen],fun _=>by simp [hlen]⟩
end
theorem GF.Vo {P:Program} {f:FuncId} {vs:List Value} {v:Value} (h:∀ K β w,gD K β w->jh K w->mh P f vs w fun x w'=>x=v/\Ext gn w w'):GF P f (vs.map GV.v) [] (.v v) []:=fun B K β w us hm hI hF=>by
 have hv:us=vs:=by
  obtain ⟨h1,h2⟩:=hF;apply ext_getElem
  ·simpa using h1
  ·intro i h3 h4;have:=h2 i us[i] (.v vs[i]) (by simp [h3]) (by simp [h4]);exact Rel.eC this
 subst hv
 exact (h K β w hI.tab hI.fz).mono fun x w' ⟨h1,h2⟩=>⟨K,β,.v v,[],hI.same h2,by rw [h1];exact .v _,rfl,rfl⟩
theorem gD.cell {K:Fz} {β:Bt} {w:World} (h:gD K β w) (hf:jh K w) {b o:Nat} {x:Value} (hk:∀ m,xg m b o=some (.v x)):fE w.heap b o=some x:=by
 obtain ⟨m,h⟩:=h.le;obtain ⟨_,v,hv,hr⟩:=hf b o _ (h b o _ (hk m));rw [hv,Rel.eC hr]
theorem gD.maxLen {K:Fz} {β:Bt} {w:World} (h:gD K β w) (hf:jh K w):∃ m,w.cell? ⟨1,0,none⟩=some (.int .i64 m):=by
 obtain ⟨m,h⟩:=h.le
 have hk:xg m 1 0=some (.v (.int .i64 m)):=by simp [xg]
 obtain ⟨_,v,hv,hr⟩:=hf _ _ _ (h _ _ _ hk);exact ⟨m,by rw [fc,hv,Rel.eC hr]⟩
theorem sM.all {K:Fz} {β:Bt} {w:World} (h:gD K β w) (hf:jh K w) {b n:Nat} {zs:List Value} (hb:sM w b n) (hn:zs.length=n) (hk:∀ m o x,zs[o]?=some x->xg m b o=some (.v x)):∃ E z,w.heap[b]?=some (.cells zs.toArray E z):=by
 obtain ⟨cs,E,z,h1,h2⟩:=hb;refine ⟨E,z,?_⟩
 have:cs=zs.toArray:=by
  apply Array.ext
  ·simp [h2,hn]
  ·intro i hi oD
   have hx:zs[i]?=some zs.toArray[i]:=by simp
   have h3:=h.cell hf (b:=b) (o:=i) (fun m=>hk m i _ hx)
   have h4:fE w.heap b i=cs[i]?:=by rw [<-fc,cell_of_row w b i cs E z h1]
   rw [h4] at h3;simpa [hi] using h3
 rw [h1,this]
theorem GF.ZG {P:Program} {f:FuncId} {vs us:List Value} {E:TypeId} (h:∀ K β w,gD K β w->jh K w->mh P f vs w fun x w'=>x=.slice (some ⟨w.heap.size,0,none⟩) us.length us.length/\w'=w.alloc (.cells us.toArray E)):GF P f (vs.map GV.v) [] (.sl 1 (us.map fun u=>[.v u])) []:=fun B K β w ws hm hI hF=>by
 have hv:ws=vs:=by
  obtain ⟨h1,h2⟩:=hF;apply ext_getElem
  ·simpa using h1
  ·intro i h3 h4;have:=h2 i ws[i] (.v vs[i]) (by simp [h3]) (by simp [h4]);exact Rel.eC this
 subst hv
 refine (h K β w hI.tab hI.fz).mono fun x w' ⟨h1,h2⟩=>?_
 subst h1;subst h2;have hn:=uO.of w (.cells us.toArray E);obtain ⟨hle,bg⟩:=hI.tW hn (cs:=us.map .v) ba.self (fun g hg=>by obtain ⟨u,_,rfl⟩:=List.mem_map.1 hg;rfl);refine ⟨_,β,.sl 1 (us.map fun u=>[.v u]),[],bg,?_,rfl,rfl⟩;have:=Rel.sl (K:=kM K w.heap.size (us.map .v)) (β:=β) w.heap.size 0 us.length 1 (us.map fun u=>[.v u]) (fun i r hr=>?_) (by simp)
 ·rw [length_map] at this;exact this
 ·rw [getElem?_map] at hr
  cases hu:us[i]? with
  | none=>rw [hu] at hr;cases hr
  | some u =>
   rw [hu] at hr;cases hr;refine ⟨rfl,fun j g hg=>?_⟩
   cases j with
   | zero=>cases hg;rw [Nat.zero_add,Nat.mul_one,Nat.add_zero];exact uQ (by rw [getElem?_map,hu];rfl)
   | succ j=>simp at hg
section
variable {B:Bs} {K:Fz} {β:Bt} {Γ:List Ob} {w:World}
theorem Inv.swap {i:Nat} {y:Ob} (h:Inv B K β Γ w) (ho:ke K β w i y):Inv B K β (oset Γ i y) w:=by
 refine ⟨h.ext,h.kle,h.ble,h.loc,h.fz,fun j x hj=>?_,fun j hj=>h.out j (by simpa [bd] using hj),h.dis,h.own,h.kn,h.tab⟩;rw [bd,getElem?_set] at hj;split at hj
 ·rename_i eQ;split at hj
  ·cases hj;subst eQ;exact ho
  ·cases hj
 ·exact h.ob j x hj
theorem Inv.yd {i E k:Nat} {rows:List (List GV)} {x:Value} (h:Inv B K β Γ w) (hi:Γ[i]?=some (.vech E k rows x)):Inv B K β (oset Γ i (.vec E k 0 rows)) w:=by
 obtain ⟨xs,h1,h2,h3,h4,h5⟩:=h.ob i _ hi;exact h.swap ⟨x,xs,h1,h2,h3,h4,fun b hb=>⟨fun o _=>h5 b hb o,fun o g ho=>by omega⟩,Nat.zero_le _⟩
theorem Inv.qJ {i E k:Nat} {rows:List (List GV)} (h:Inv B K β Γ w) (hi:Γ[i]?=some (.vec E k 0 rows)):∃ a c,β i=.gr (.slice a rows.length c) rows.length/\Inv B K β (oset Γ i (.vech E k rows (.slice a rows.length c))) w:=by
 obtain ⟨x,xs,h1,h2,h3,h4,h5,h6⟩:=h.ob i _ hi;obtain ⟨a,c,rfl⟩:=h2.shape;exact ⟨a,c,h1,h.swap ⟨xs,h1,h2,h3,h4,fun b hb o=>(h5 b hb).1 o ag⟩⟩
theorem o7 {i:Nat} {x y:Ob} (h:Γ[i]?=some x):(oset Γ i y)[i]?=some y:=by
 have:=(List.getElem?_eq_some_iff.1 h).1;rw [bd,getElem?_set];simp [this]
theorem nF {i:Nat} {x y:Ob}:oset (oset Γ i x) i y=oset Γ i y:=by rw [bd,bd,bd,List.set_set]
theorem Inv.gr {i E k:Nat} {rows:List (List GV)} {x:Value} (h:Inv B K β Γ w) (hi:Γ[i]?=some (.vech E k rows x)):β i=.gr x rows.length:=by
 obtain ⟨xs,h1,_⟩:=h.ob i _ hi;exact h1
theorem Inv.qb {i E k:Nat} {rows:List (List GV)} {x:Value} (h:Inv B K β Γ w) (hi:Γ[i]?=some (.vech E k rows x)):∃ K',cl K K'/\Rel K' β x (.sl k rows)/\Inv B K' β (oset Γ i (.vec E k rows.length rows)) w:=by
 obtain ⟨xs,h1,h2,h3,h4,h5⟩:=h.ob i _ hi;obtain ⟨K',hK,C7,bg⟩:=(h.yd hi).jw (o7 hi);rw [<-bd,nF] at bg;refine ⟨K',hK,?_,bg⟩
 rcases h2.2 with ⟨e5,e6⟩ | ⟨g,cap,cu,e5,_,_,oG,_⟩
 ·have:rows=[]:=eq_nil_of_length_eq_zero e6;subst this;subst e5;exact .sl0 _ _ _
 ·subst e5;refine .sl g 0 cap k rows (fun j r hr=>⟨(h4 r (mem_of_getElem? hr)).1,fun q g' lr=>?_⟩) oG;rw [Nat.zero_add];exact C7 _ g h1 rfl _ g' (tC h4 hr lr)
end
section
variable {P:Program} {m:Nat} {Q:dB} {fr:List GV} {Γ:List Ob} {ops:Array Oper} {rest:List Oper} {d:Option Tmp} {op:Op} {ty:TypeId} {pos:String} {af:Array Edge}
theorem Wk.oY (E k:Nat):Wk m fr Γ fr (Γ++[.vech E k [] (.slice none 0 0)]):=fun B K β w l hm hI hF=>by
 have b8:β Γ.length=.no:=hI.out _ (Nat.le_refl _);have bg:=hI.El (w':=w) (E:=E) (k:=k) (x:=.slice none 0 0) (xs:=[]) (rows:=[]) (Ext.refl w) (gA.nil w 0 E k) (fun b hb=>by cases hb) ba.nil (fun r hr=>by cases hr);have hle:cY β (eZ β Γ.length (.gr (.slice none 0 0) ([]:List (List GV)).length)):=gM (by rw [b8];trivial);refine ⟨K,_,?_,hF.mono (cl.refl K) hle⟩;have hb:eZ β Γ.length (.gr (.slice none 0 0) ([]:List (List GV)).length) Γ.length=.gr (.slice none 0 0) ([]:List (List GV)).length:=bo;have:=bg.swap (i:=Γ.length) (y:=.vech E k [] (.slice none 0 0)) ⟨[],hb,gA.nil w 0 E k,ba.nil,(fun r hr=>by cases hr),(fun b hb=>by cases hb)⟩;rw [bd] at this;simpa using this
theorem Wk.rm {t i E k:Nat} {rows:List (List GV)} {x:Value} (ht:cE fr t=.v x) (fO:jB fr t=true) (bz:Γ[i]?=some (.vech E k rows x)):Wk m fr Γ (bs fr t (.sl k rows)) (oset Γ i (.vec E k rows.length rows)):=fun B K β w l hm hI hF=>by
 obtain ⟨K',hK,hr,bg⟩:=hI.qb bz;refine ⟨K',β,bg,?_⟩;have hv:nth l t=x:=Rel.eC (by rw [<-ht];exact hF.nth t);have:=(hF.mono hK (cY.refl β)).eT t hr;rw [<-hv,Aw (mz hF fO)] at this;exact this
theorem ba.bs {K:Fz} {β:Bt} {x:Value} {g:GV} (hr:Rel K β x g):∀ {vs:List Value} {cs:List GV} {o:Nat},ba K β vs cs->cs[o]?=some (.v x)->ba K β vs (bs cs o g):=by
 intro vs
 induction vs with
 | nil=>intro cs o h ho;have:cs=[]:=eq_nil_of_length_eq_zero h.1.symm;subst this;simp at ho
 | cons v vs ih =>
  intro cs o h ho
  cases cs with
  | nil=>simp at ho
  | cons c cs =>
   obtain ⟨a1,a2⟩:=h.nM
   cases o with
   | zero=>cases ho;have hv:=Rel.eC a1;subst hv;exact .cons hr a2
   | succ o=>exact .cons a1 (ih a2 (by simpa using ho))
theorem Wk.yM {i o j E k:Nat} {T:TypeId} {cs:List GV} {rows:List (List GV)} {x:Value} (hi:Γ[i]?=some (.box T cs)) (ho:cs[o]?=some (.v x)) (eQ:Nat.beq i j=false) (hj:Γ[j]?=some (.vech E k rows x)):Wk m fr Γ fr (oset (oset Γ j (.vec E k rows.length rows)) i (.box T (bs cs o (.sl k rows)))):=fun B K β w l hm hI hF=>by
 have bP:i≠j:=by intro e;subst e;simp at eQ
 obtain ⟨K',hK,hr,bg⟩:=hI.qb hj;obtain ⟨b,vs,h1,h2,h3,h4⟩:=bg.ob i (.box T cs) (by rw [bd,getElem?_set,if_neg (fun e=>bP e.symm)];exact hi);exact ⟨K',β,bg.swap ⟨b,vs,h1,h2,ba.bs hr h3 ho,h4⟩,hF.mono hK (cY.refl β)⟩
def dk:List (List GV)->Nat->Nat->GV->List (List GV)
 | [],_,_,_=>[]
 | r::rs,0,o,g=>bs r o g::rs
 | r::rs,n+1,o,g=>r::dk rs n o g
theorem zS:∀ (l:List GV) (o:Nat) (g:GV),(bs l o g).length=l.length
 | [],_,_=>rfl
 | _::l,0,_=>rfl
 | _::l,o+1,g=>by simp [bs,zS l o g]
theorem zR:∀ (a b:List GV) (o:Nat) (g:GV),bs (a++b) (a.length+o) g=a++bs b o g
 | [],b,o,g=>by simp
 | x::a,b,o,g=>by
  rw [cons_append,length_cons,show a.length+1+o=(a.length+o)+1 by omega,bs,zR a b o g];rfl
theorem C3:∀ (a b:List GV) (o:Nat) (g:GV),o < a.length->bs (a++b) o g=bs a o g++b
 | [],b,o,g,h=>by simp at h
 | x::a,b,0,g,h=>rfl
 | x::a,b,o+1,g,h=>by simp [bs,C3 a b o g (by simpa using h)]
theorem Pg {l:List GV} {o:Nat} {g x:GV} (h:x∈bs l o g):x∈l\/x=g:=by
 induction l generalizing o with
 | nil=>cases h
 | cons y l ih =>
  cases o with
  | zero =>
   simp only [bs,List.mem_cons] at h;rcases h with h | h
   ·exact .inr h
   ·exact .inl (mem_cons_of_mem _ h)
  | succ o =>
   simp only [bs,List.mem_cons] at h;rcases h with h | h
   ·exact .inl (by rw [h];exact mem_cons_self)
   ·exact (ih h).imp (mem_cons_of_mem _) id
theorem fB:∀ (rows:List (List GV)) (i o:Nat) (g:GV),(dk rows i o g).length=rows.length
 | [],_,_,_=>rfl
 | r::rs,0,_,_=>rfl
 | r::rs,n+1,o,g=>by simp [dk,fB rs n o g]
theorem uo {k:Nat} {o:Nat} {g:GV} (ho:o < k):∀ {rows:List (List GV)} {i:Nat},fy k rows->i < rows.length->(dk rows i o g).flatten=bs rows.flatten (i * k+o) g
 | [],_,_,h=>by simp at h
 | r::rs,0,hk,_=>by
  have:=(hk r (mem_cons_self)).1;rw [dk,flatten_cons,flatten_cons,Nat.zero_mul,Nat.zero_add,C3 _ _ _ _ ag]
 | r::rs,n+1,hk,h=>by
  have:=(hk r (mem_cons_self)).1;rw [dk,flatten_cons,flatten_cons,uo ho (fun r hr=>hk r (mem_cons_of_mem _ hr)) (by simpa using h),show (n+1) * k+o=r.length+(n * k+o) by rw [Nat.succ_mul];omega,zR]
theorem yL {k:Nat} {o:Nat} {g:GV} (hg:g.pc=true):∀ {rows:List (List GV)} {i:Nat},fy k rows->fy k (dk rows i o g)
 | [],_,_=>fun r hr=>by cases hr
 | r::rs,0,hk=>fun r' hr=>by
  simp only [dk,List.mem_cons] at hr
  rcases hr with rfl | hr
  ·exact ⟨by rw [zS];exact (hk r mem_cons_self).1,fun x hx=>by
    rcases Pg hx with h | h
    ·exact (hk r mem_cons_self).2 x h
    ·rw [h];exact hg⟩
  ·exact hk r' (mem_cons_of_mem _ hr)
 | r::rs,n+1,hk=>fun r' hr=>by
  simp only [dk,List.mem_cons] at hr
  rcases hr with rfl | hr
  ·exact hk _ mem_cons_self
  ·exact yL hg (fun r hr=>hk r (mem_cons_of_mem _ hr)) r' hr
theorem Ga {a b:List (List GV)} {r:List GV} {o:Nat} {g:GV}:dk (a++r::b) a.length o g=a++bs r o g::b:=by
 induction a with
 | nil=>rfl
 | cons x a ih=>rw [cons_append,length_cons,dk,ih];rfl
theorem Wk.KP {i idx o j E k T k':Nat} {rows ks:List (List GV)} {x h:Value} {r:List GV} (hi:Γ[i]?=some (.vech T k rows h)) (hr:rows[idx]?=some r) (ho:r[o]?=some (.v x)) (eQ:Nat.beq i j=false) (hj:Γ[j]?=some (.vech E k' ks x)) :
  Wk m fr Γ fr (oset (oset Γ j (.vec E k' ks.length ks)) i (.vech T k (dk rows idx o (.sl k' ks)) h)):=fun B K β w l hm hI hF=>by
 have bP:i≠j:=by intro e;subst e;simp at eQ
 obtain ⟨K',hK,eU,bg⟩:=hI.qb hj;obtain ⟨xs,h1,h2,h3,h4,h5⟩:=bg.ob i (.vech T k rows h) (by rw [bd,getElem?_set,if_neg (fun e=>bP e.symm)];exact hi);have ak:=(List.getElem?_eq_some_iff.1 hr).1
 have MZ:o < k:=by rw [<-(h4 r (mem_of_getElem? hr)).1];exact (List.getElem?_eq_some_iff.1 ho).1
 exact ⟨K',β,bg.swap ⟨xs,by rw [fB];exact h1,by rw [fB];exact h2,by rw [uo MZ h4 ak];exact ba.bs eU h3 (tC h4 hr ho),yL rfl h4,h5⟩,hF.mono hK (cY.refl β)⟩
theorem YG.ct {x y:Operand} {t e:TypeId} {k:Nat} [hT:mi P t e k] (i:Nat) {v:Value} {kk:IntKind} {j E:Nat} {rows:List (List GV)} (hx:aX fr x=.v v) (hy:aX fr y=.v (.int kk j)) (bz:Γ[i]?=some (.vech E k rows v)) (hj:j < rows.length):YG P (.indexAddr t x y) fr Γ (.vp i rows.length k j 0):=fun B K β w l hI hF=>by
 have hv:=hF.gU hx;obtain ⟨xs,h1,h2,h3,h4,h5⟩:=hI.ob i _ bz
 rcases h2.2 with ⟨h8,h9⟩ | ⟨g,cap,cur,h8,_,hg,_⟩
 ·omega
 ·subst h8;exact ⟨_,R.uG hv (hF.gU hy) hj,.vp i _ k j 0 _ ⟨_,_,h1,Nat.le_refl _,fun _=>⟨g,rfl,by simp⟩⟩⟩
theorem YG.TZ {x:Operand} {s:TypeId} {f off k:Nat} {agg:Bool} [hT:dp P s f off k agg] {i n k' idx o E:Nat} {rows:List (List GV)} {v:Value} (hx:aX fr x=.vp i n k' idx o) (bz:Γ[i]?=some (.vech E k' rows v)) (hn:rows.length=n):YG P (.fieldAddr s x f) fr Γ (.vp i n k' idx (o+off)):=fun B K β w l hI hF=>by
 have h:=hF.ev x;rw [hx] at h;generalize hv:ev l x=u at h
 cases h with
 | vp _ _ _ _ _ _ h =>
  obtain ⟨h0,m,h1,h2,h3⟩:=h;rw [hI.gr bz] at h1;cases h1;obtain ⟨b,hb,rfl⟩:=h3 hn;exact ⟨_,R.O7 hv,.vp i n k' idx _ _ ⟨_,_,hI.gr bz,h2,fun _=>⟨b,hb,by rw [Nat.add_assoc]⟩⟩⟩
theorem YG.Nt {x:Operand} {t:TypeId} [hT:Ty P t false 1] {i n k idx o E:Nat} {rows:List (List GV)} {v:Value} {r:List GV} {g:GV} (hx:aX fr x=.vp i n k idx o) (bz:Γ[i]?=some (.vech E k rows v)) (hn:rows.length=n) (hr:rows[idx]?=some r) (hg:r[o]?=some g):YG P (.load t x) fr Γ g:=fun B K β w l hI hF=>by
 have h:=hF.ev x;rw [hx] at h;generalize hv:ev l x=u at h
 cases h with
 | vp _ _ _ _ _ _ h =>
  obtain ⟨h0,m,h1,h2,h3⟩:=h;obtain ⟨xs,h4,h5,h6,h7,_⟩:=hI.ob i _ bz;rw [h1] at h4;cases h4;obtain ⟨b,hb,rfl⟩:=h3 hn;obtain ⟨u,hu,eU⟩:=h6.at (tC h7 hr hg);obtain ⟨b2,c,he,_,_,hc⟩:=h5.cells.2 (by intro h0;rw [h0] at hu;simp at hu);subst he;cases hb;exact ⟨u,R.ld hv (by rw [<-fc];exact hc _ _ hu),eU⟩
theorem Ax {v:Value}:∀ (l:List Value) (n o:Nat),o < n->(eT l o v).take n=eT (l.take n) o v
 | [],n,o,h=>by simp [eT]
 | x::l,0,o,h=>by omega
 | x::l,n+1,0,h=>by simp [eT]
 | x::l,n+1,o+1,h=>by simp [eT,Ax l n o ag]
theorem wN {v:Value}:∀ (l:List Value) (o:Nat),(eT l o v).length=l.length
 | [],o=>rfl
 | x::l,0=>rfl
 | x::l,o+1=>by simp [eT,wN l o]
theorem GL.VP {x y:Operand} {t:TypeId} [hT:Ty P t false 1] {i n k idx o E:Nat} {rows:List (List GV)} {v:Value} {r:List GV} {g:GV} (hx:aX fr x=.vp i n k idx o) (bz:Γ[i]?=some (.vech E k rows v)) (hn:rows.length=n) (hr:rows[idx]?=some r) (MZ:Nat.blt o r.length=true)
  (hy:mq (aX fr y)=some [g]) (h1:g.one=true) (hp:g.pc=true) (h:GL P m ops Q rest (br fr d (.v undef)) (oset Γ i (.vech E k (dk rows idx o g) v))):GL P m ops Q (⟨d,.store t x y,ty,pos,af,none⟩::rest) fr Γ:=fun B K β w l hm hI hF=>by
 have Fq:=hF.ev x;rw [hx] at Fq;generalize hv:ev l x=u at Fq
 cases Fq with
 | vp _ _ _ _ _ _ hh =>
  obtain ⟨h0,mm,e1,e2,e3⟩:=hh;obtain ⟨xs,h4,h5,h6,h7,h8⟩:=hI.ob i _ bz;rw [e1] at h4;cases h4;obtain ⟨b,hb,rfl⟩:=e3 hn;have ak:=(List.getElem?_eq_some_iff.1 hr).1
  have Zm:o < k:=by rw [<-(h7 r (mem_of_getElem? hr)).1];simpa using MZ
  obtain ⟨us,j0,kC⟩:=(hF.ev y).cells hy
  obtain ⟨u1,rfl⟩:∃ u1,us=[u1]:=by
   have:=kC.1
   match us,this with
   | [u1],_=>exact ⟨u1,rfl⟩
  have X2:Rel K β u1 g:=kC.2 0 u1 g rfl rfl
  have hq:idx * k+o < rows.length * k:=by
   have:(idx+1) * k<=rows.length * k:=Nat.mul_le_mul_right k ak;rw [Nat.succ_mul] at this;omega
  rcases h5.2 with ⟨e5,e6⟩ | ⟨g0,cap,cur,e5,JI,hg,oG,wZ,cS,jZ⟩
  ·omega
  ·subst e5;simp only [Value.ownBlock,Option.some.injEq] at hb;subst hb;have Pj:rows.length * k<=cap * k:=Nat.mul_le_mul_right k oG
   refine WL.st (t:=t) (k:=1) hv rfl hg (by rw [j0];rfl) ag (by rw [j0];have:=(wF (X2.one h1)).2;simpa [Xw.lC] using this) fun w' hs=>?_
   rw [j0] at hs
   have eJ:uJ cur (idx * k+o) ([u1]:List Value)=(eT cur.toList (idx * k+o) u1).toArray:=by
    simp only [uJ];rw [<-ye]
   simp only [toList_toArray,eJ] at hs
   have yD:rows.flatten.length=rows.length * k:=by rw [<-h6.1];exact h5.1
   have how:gA w' 0 E k (.slice (some ⟨g0,0,none⟩) rows.length cap) rows.length (eT xs (idx * k+o) u1) :=
    ⟨by rw [wN];exact h5.1,.inr ⟨g0,cap,_,rfl,JI,hs.blk,oG,wZ,by simp [wN,cS],by rw [toList_toArray,Ax _ _ _ hq,jZ]⟩⟩
   have eU:ba K β (eT xs (idx * k+o) u1) (bs rows.flatten (idx * k+o) g):=by
    have gen:∀ (vs:List Value) (cs:List GV) (q:Nat),ba K β vs cs->ba K β (eT vs q u1) (bs cs q g):=by
     intro vs
     induction vs with
     | nil=>intro cs q h;have:cs=[]:=eq_nil_of_length_eq_zero h.1.symm;subst this;exact h
     | cons v vs ih =>
      intro cs q h
      cases cs with
      | nil=>have:=h.1;simp at this
      | cons c cs =>
       obtain ⟨a1,a2⟩:=h.nM
       cases q with
       | zero=>exact .cons X2 a2
       | succ q=>exact .cons a1 (ih cs q a2)
    exact gen _ _ _ h6
   have ek:(β i).blk=some g0:=by rw [e1];rfl
   have bg:Inv B K β (oset Γ i (.vech E k (dk rows idx o g) (.slice (some ⟨g0,0,none⟩) rows.length cap))) w':=by
    refine ⟨hI.ext.step hs.ext (fun j hj=>?_),hI.kle,hI.ble,hI.loc,hI.fz.ext hs.ext (fun b' o' g' lr he=>?_),fun j y hj=>?_,fun j hj=>hI.out j (by simpa [bd] using hj),hI.dis,hI.own,hI.kn,hI.tab.step hs.ext (fun j hj=>⟨i,by subst hj;exact ek⟩) (cl.refl K) (fun i b2 h=>.inl ⟨i,h⟩)⟩
    ·subst hj;exact (hI.own i _ ek).symm
    ·subst he;rw [h8 _ rfl] at lr;cases lr
    ·rw [bd,getElem?_set] at hj;split at hj
     ·rename_i eQ;split at hj
      ·cases hj;subst eQ
       exact ⟨_,by rw [fB];exact e1,by rw [fB];exact how,by rw [uo Zm h7 ak];exact eU,yL hp h7,h8⟩
      ·cases hj
     ·rename_i eQ;refine (hI.ob j y hj).ext hs.ext (fun b' bq he=>?_) (cl.refl K) (cY.refl β) rfl (fun _ _ _ h=>h);subst he;exact eQ (hI.dis i j _ ek bq)
   exact h B K β w' _ hm bg (hF.put d (.v _))
theorem GL.jv {x:Operand} {ts:Tmp} {t e k gT:Nat} {z:List Value} [hT:n7 P t e k gT] [hZ:pd P t e k z] {d1 dt:Tmp} {Of:TypeId} {F3:String} {Ly:Array Edge} (i:Nat) {n:Nat} {rows:List (List GV)} {gs:List GV} {v:Value}
  (hx:mq (aX fr x)=some gs) (hk:Nat.beq gs.length k=true) (h1:l9 gs=true) (hp:rN gs=true) (hs:cE fr ts=.v v) (UW:Nat.beq ts d1=false) (hd:jB fr d1=true) (bz:Γ[i]?=some (.vech e k rows v)) (hn:rows.length=n)
  (hb:(n+1<=9223372036854775807/\(n+1) * gT<=140737488355328)/\k<=16777216)
  (h:∀ a c,GL P m ops Q rest (br (br fr (some d1) .U) (some dt) (.v (.slice a (n+1) c))) (oset Γ i (.vech e k (rows++[gs]) (.slice a (n+1) c)))) :
  GL P m ops Q (⟨some d1,.buildSlice t 1 #[(0,x)],Of,F3,Ly,none⟩::⟨some dt,.call ⟨.builtin .append,#[.tmp ts,.tmp d1],#[t,t]⟩,ty,pos,af,none⟩::rest) fr Γ:=fun B K β w l hm hI hF=>by
 subst hn;obtain ⟨us,j0,kC⟩:=(hF.ev x).cells hx;obtain ⟨xs,o1,o2,o3,o4,o5⟩:=hI.ob i _ bz;have qy:nth l ts=v:=Rel.eC (by rw [<-hs];exact hF.nth ts);have MM:=mz hF hd
 have Zi:ts≠d1:=by intro e;subst e;simp at UW
 have ly:gs.length=k:=by simpa using hk
 refine WL.push (base:=0) (v:=v) (vs:=us) (val:=ev l x) (xs:=xs) (n:=rows.length) rfl (fun u=>by rw [show ev (put l (some d1) u) (.tmp ts)=nth (eT l d1 u) ts from rfl,nX Zi];exact qy) (fun u=>sD MM u) j0 (by rw [kC.1,ly]) (kC.lC h1) o2 hb.1.1 hb.1.2 hb.2 (Nat.zero_le _) ?_;intro u v' w' how gI tY vh;obtain ⟨K',hK,qz,bg⟩:=(hI.yd bz).grow (fz:=0) (o7 bz) o1 ⟨o2,o3⟩ (news:=[gs]) (ns:=us) how gI tY (by simpa using kC) (fun r hr=>by simp at hr;subst hr;exact ⟨ly,mO hp⟩) (by simp) (fun b bq o v ho hv=>by omega);rw [<-bd,nF] at bg;obtain ⟨a,c,pO,pj⟩:=bg.qJ (o7 bz);rw [nF] at pj;obtain ⟨a',c',rfl⟩:=how.shape;rw [bo] at pO;simp only [length_append,length_cons,length_nil] at pO pj qz;cases pO;exact h _ _ B K' _ w' _ hm pj (((hF.mono hK qz).put (some d1) (.U u)).put (some dt) (.v _))
theorem GL.pJ {s x:Operand} {t e k gT:Nat} [hT:n7 P t e k gT] (i:Nat) {n:Nat} {dt:Tmp} {v:Value} {rows news:List (List GV)} (hx:aX fr x=.sl k news) (hs:aX fr s=.v v) (bz:Γ[i]?=some (.vech e k rows v)) (hn:rows.length=n) (h1:ma news=true) (bP:news.isEmpty=false)
  (hb:n+news.length<=9223372036854775807/\(n+news.length) * gT<=140737488355328)
  (h:∀ a c,GL P m ops Q rest (br fr (some dt) (.v (.slice a (n+news.length) c))) (oset Γ i (.vech e k (rows++news) (.slice a (n+news.length) c)))) :
  GL P m ops Q (⟨some dt,.call ⟨.builtin .append,#[s,x],#[t,t]⟩,ty,pos,af,none⟩::rest) fr Γ:=fun B K β w l hm hI hF=>by
 subst hn
 have bP:news≠[]:=by intro h0;rw [h0] at bP;cases bP
 obtain ⟨xs,o1,o2,o3,o4,o5⟩:=hI.ob i _ bz;have qy:ev l s=v:=hF.gU hs;have rG:=hF.ev x;rw [hx] at rG;generalize rH:ev l x=vx at rG
 cases rG with
 | sl0 a c k=>exact absurd rfl bP
 | sl b o c _ _ hr _ =>
  have lh:fy k news:=fun r M0=>by
   obtain ⟨j,hj⟩:=List.mem_iff_getElem?.1 M0;refine ⟨(hr j r hj).1,fun g hg=>?_⟩;obtain ⟨q,hq⟩:=List.mem_iff_getElem?.1 hg;exact (hI.fz _ _ _ ((hr j r hj).2 q g hq)).1
  have yD:∀ (rows:List (List GV)) (o:Nat),(∀ (j:Nat) r,rows[j]?=some r->r.length=k/\∀ (q:Nat) g,r[q]?=some g->K b (o+j * k+q)=some g)->∀ (q:Nat) g,rows.flatten[q]?=some g->K b (o+q)=some g:=by
   intro rows
   induction rows with
   | nil=>intro o _ q g hg;simp at hg
   | cons r rows ih =>
    intro o h q g hg;rw [flatten_cons] at hg;have hl:=(h 0 r rfl).1
    by_cases hq:q < r.length
    ·rw [getElem?_append_left hq] at hg;have:=(h 0 r rfl).2 q g hg;simpa using this
    ·rw [getElem?_append_right ag,hl] at hg
     have:=ih (o+k) (fun j r' hj=>by
      have:=h (j+1) r' (by simpa using hj);refine ⟨this.1,fun q g hg=>?_⟩;have:=this.2 q g hg
      rw [show o+(j+1) * k+q=o+k+j * k+q by rw [Nat.succ_mul];omega] at this;exact this) (q - k) g hg
     rw [show o+k+(q - k)=o+q by omega] at this;exact this
  obtain ⟨us,j0,kC⟩:=vU (K:=K) (β:=β) (H:=w.heap) (b:=b) news.flatten o (fun j g hj=>by
   obtain ⟨hp,u,hu,eU⟩:=hI.fz _ _ _ (yD news o (fun j r hj=>hr j r hj) j g hj)
   exact ⟨u,hu,eU.pc hp⟩)
  have Dd:us.length=news.length * k:=by
   rw [j0.1,List.length_flatten]
   have:∀ (rows:List (List GV)),fy k rows->(rows.map List.length).sum=rows.length * k:=by
    intro rows
    induction rows with
    | nil=>intro _;simp
    | cons r rows ih =>
     intro hk;rw [List.map_cons,sum_cons,ih (fun r hr=>hk r (mem_cons_of_mem _ hr)),(hk r (mem_cons_self)).1,length_cons,Nat.succ_mul];omega
   exact this news lh
  refine WL.app (base:=0) (v:=v) (n:=rows.length) (m:=news.length) (xs:=xs) (news:=us) qy o2 rH Dd (fun j u hj=>by rw [fc];exact kC j u hj) (j0.lC (Bm h1)) hb.1 hb.2 (Nat.zero_le _) ?_;intro v' w' how gI tY vh;obtain ⟨K',hK,qz,bg⟩:=(hI.yd bz).grow (fz:=0) (o7 bz) o1 ⟨o2,o3⟩ (news:=news) (ns:=us) how gI tY j0 lh bP (fun b bq o v ho hv=>by omega);rw [<-bd,nF] at bg;obtain ⟨a,c,pO,pj⟩:=bg.qJ (o7 bz);rw [nF] at pj;obtain ⟨a',c',rfl⟩:=how.shape;rw [bo] at pO;simp only [length_append] at pO pj qz;cases pO;exact h _ _ B K' _ w' _ hm pj ((hF.mono hK qz).put (some dt) (.v _))
end
theorem DG:∀ (us vs:List Value) (o n:Nat),o+us.length<=n->(gL vs o us).take n=gL (vs.take n) o us
 | [],vs,o,n,_=>rfl
 | u::us,vs,o,n,h=>by
  rw [length_cons] at h;rw [gL,gL,DG us _ _ _ ag,Ax _ _ _ ag]
theorem xy (a:List GV):∀ (gs b:List GV) (o:Nat),nV (a++b) (a.length+o) gs=a++nV b o gs
 | [],b,o=>rfl
 | g::gs,b,o=>by rw [nV,nV,zR,Nat.add_assoc,xy a gs]
theorem AN:∀ (gs a b:List GV),a.length=gs.length->nV (a++b) 0 gs=gs++b
 | [],[],b,_=>rfl
 | [],x::a,b,h=>by simp at h
 | g::gs,[],b,h=>by simp at h
 | g::gs,x::a,b,h=>by
  rw [nV,cons_append,bs];have:=xy [g] gs (a++b) 0;simp only [length_cons,length_nil,cons_append,List.nil_append,Nat.zero_add,Nat.add_zero] at this |-;rw [this,AN gs a b (by simpa using h)]
theorem F8 {k:Nat} {gs:List GV} (hg:gs.length=k):∀ {rows:List (List GV)} {i:Nat},fy k rows->i < rows.length->nV rows.flatten (i * k) gs=(rows.set i gs).flatten
 | [],_,_,h=>by simp at h
 | r::rs,0,hk,_=>by
  rw [flatten_cons,List.set_cons_zero,flatten_cons,Nat.zero_mul,AN gs r _ (by rw [hg];exact (hk r mem_cons_self).1)]
 | r::rs,n+1,hk,h=>by
  have hr:=(hk r mem_cons_self).1;rw [flatten_cons,List.set_cons_succ,flatten_cons,<-F8 hg (fun r hr=>hk r (mem_cons_of_mem _ hr)) (by simpa using h),show (n+1) * k=r.length+n * k by rw [Nat.succ_mul];omega,xy]
theorem KK {k:Nat} {gs:List GV} (hg:gs.length=k) (hp:rN gs=true) {rows:List (List GV)} {i:Nat} (h:fy k rows):fy k (rows.set i gs):=fun r hr=>by
 rcases List.mem_or_eq_of_mem_set hr with hr | rfl
 ·exact h r hr
 ·exact ⟨hg,mO hp⟩
section
variable {P:Program} {m:Nat} {ops:Array Oper} {Q:dB} {rest:List Oper} {fr:List GV} {Γ:List Ob} {d:Option Tmp} {ty:TypeId} {pos:String} {af:Array Edge}
theorem GL.ZN {x y:Operand} {t:TypeId} {agg:Bool} {k:Nat} [hT:Ty P t agg k] {i n idx E:Nat} {rows:List (List GV)} {v:Value} {gs:List GV} (hx:aX fr x=.vp i n k idx 0) (bz:Γ[i]?=some (.vech E k rows v)) (hn:rows.length=n) (ak:idx < rows.length)
  (hy:mq (aX fr y)=some gs) (hk:Nat.beq gs.length k=true) (h1:l9 gs=true) (hp:rN gs=true) (h:GL P m ops Q rest (br fr d (.v undef)) (oset Γ i (.vech E k (rows.set idx gs) v))):GL P m ops Q (⟨d,.store t x y,ty,pos,af,none⟩::rest) fr Γ:=fun B K β w l hm hI hF=>by
 have hk:gs.length=k:=by simpa using hk
 have Fq:=hF.ev x;rw [hx] at Fq;generalize hv:ev l x=u at Fq
 cases Fq with
 | vp _ _ _ _ _ _ hh =>
  obtain ⟨h0,mm,e1,e2,e3⟩:=hh;obtain ⟨xs,h4,h5,h6,h7,h8⟩:=hI.ob i _ bz;rw [e1] at h4;cases h4;obtain ⟨b,hb,rfl⟩:=e3 hn;obtain ⟨us,j0,kC⟩:=(hF.ev y).cells hy
  have Dd:us.length=k:=by rw [kC.1,hk]
  have hq:idx * k+k<=rows.length * k:=by
   have:(idx+1) * k<=rows.length * k:=Nat.mul_le_mul_right k ak;rw [Nat.succ_mul] at this;omega
  rcases h5.2 with ⟨e5,e6⟩ | ⟨g0,cap,cur,e5,JI,hg,oG,wZ,cS,jZ⟩
  ·omega
  ·subst e5;simp only [Value.ownBlock,Option.some.injEq] at hb;subst hb;have Pj:rows.length * k<=cap * k:=Nat.mul_le_mul_right k oG
   refine WL.st (t:=t) (k:=k) hv rfl hg (by rw [j0];simpa using Dd) (by rw [Nat.add_zero];omega) (by rw [j0];simpa using kC.lC h1) fun w' hs=>?_
   rw [j0,toList_toArray,Nat.add_zero] at hs;obtain ⟨cur⟩:=cur;rw [ur] at hs;simp only [List.size_toArray,toList_toArray] at cS jZ
   have how:gA w' 0 E k (.slice (some ⟨g0,0,none⟩) rows.length cap) rows.length (gL xs (idx * k) us) :=
    ⟨by rw [Ak];exact h5.1,.inr ⟨g0,cap,_,rfl,JI,hs.blk,oG,wZ,by simp [Ak,cS],by rw [toList_toArray,DG _ _ _ _ ag,jZ]⟩⟩
   have eU:ba K β (gL xs (idx * k) us) (nV rows.flatten (idx * k) gs):=kC.gL _ h6;rw [F8 hk h7 ak] at eU
   have ek:(β i).blk=some g0:=by rw [e1];rfl
   have bg:Inv B K β (oset Γ i (.vech E k (rows.set idx gs) (.slice (some ⟨g0,0,none⟩) rows.length cap))) w':=by
    refine ⟨hI.ext.step hs.ext (fun j hj=>?_),hI.kle,hI.ble,hI.loc,hI.fz.ext hs.ext (fun b' o' g' lr he=>?_),fun j y hj=>?_,fun j hj=>hI.out j (by simpa [bd] using hj),hI.dis,hI.own,hI.kn,hI.tab.step hs.ext (fun j hj=>⟨i,by subst hj;exact ek⟩) (cl.refl K) (fun i b2 h=>.inl ⟨i,h⟩)⟩
    ·subst hj;exact (hI.own i _ ek).symm
    ·subst he;rw [h8 _ rfl] at lr;cases lr
    ·rw [bd,getElem?_set] at hj;split at hj
     ·rename_i eQ;split at hj
      ·cases hj;subst eQ
       exact ⟨_,by rw [List.length_set];exact e1,by rw [List.length_set];exact how,eU,KK hk hp h7,h8⟩
      ·cases hj
     ·rename_i eQ;refine (hI.ob j y hj).ext hs.ext (fun b' bq he=>?_) (cl.refl K) (cY.refl β) rfl (fun _ _ _ h=>h);subst he;exact eQ (hI.dis i j _ ek bq)
   exact h B K β w' _ hm bg (hF.put d (.v _))
theorem Tw (n:Nat) (z:List Value):(List.replicate n (lf z)).flatten=zs n z:=by
 induction n with
 | zero=>rfl
 | succ n ih=>rw [List.replicate_succ,flatten_cons,ih,zs]
theorem GL.zt {x:Operand} {t e k gT:Nat} {z:List Value} [hT:n7 P t e k gT] [hZ:pd P t e k z] {dt:Tmp} {n:Nat} (hx:aX fr x=.v (ii (n:Nat))) (hb:n<=1099511627776/\gT * n<=281474976710656)
  (h:∀ a c,GL P m ops Q rest (br fr (some dt) (.v (.slice a n c))) (Γ++[.vech e k (List.replicate n (lf z)) (.slice a n c)])) :
  GL P m ops Q (⟨some dt,.makeSlice t x x,ty,pos,af,none⟩::rest) fr Γ:=fun B K β w l hm hI hF=>by
 obtain ⟨hu,⟨i,z0,hi,hz,M5,cS,xF⟩,hk⟩:=hT.parts;have rH:ev l x=ii (n:Nat):=hF.gU hx;obtain ⟨w',hr,h2,h3⟩:=run_make_full (P:=P) (w:=w) 0 t e i z0 k hu hi hz cS .i64 .i64 n (by rw [xF];exact hb.2) (by simp only [maxLen];omega) (Nat.zero_le _)
 have Fx:z0.cells.toList=z:=by
  have h4:=hZ.zero;rw [hi] at h4;simp only [Option.bind_some,hz,Option.some.injEq] at h4;have hl:=hZ.zl
  by_cases h1:k=1
  ·rw [if_pos h1] at h4;rw [h4,hZ.one h1];subst h1
   match z,hl with
   | [a],_=>rfl
  ·rw [if_neg h1] at h4;rw [h4];rfl
 have EZ:(madeCells z0.cells (n * k)).toList=(List.range (n * k)).map fun j=>z.getD (j % k) undef:=by
  unfold madeCells;rw [Array.toList_map,Array.toList_range];apply List.map_congr_left;intro j _
  have ak:j % k < z0.cells.size:=by rw [M5];exact Nat.mod_lt _ hk
  rw [M5,getElem!_pos z0.cells (j % k) ak,<-Fx,List.getD_eq_getElem?_getD,Array.getElem?_toList,Array.getElem?_eq_getElem ak];rfl
 rw [EZ] at h2;have eU:=GQ (K:=K) (β:=β) (n:=n) hZ.zl hZ.pos;rw [<-Tw] at eU
 have eF:fy k (List.replicate n (lf z)):=fun r hr=>by
  have:=List.eq_of_mem_replicate hr;subst this;refine ⟨by rw [<-hZ.zl];simp [lf],fun g hg=>?_⟩;unfold lf at hg;obtain ⟨v,_,rfl⟩:=List.mem_map.1 hg;rfl
 have gI:Ext gn w w':=⟨h3.os,h3.tape,h3.output,h3.size,fun j hj _=>h3.block j hj (by simp)⟩;have bg:=hI.El (x:=.slice (some ⟨w.heap.size,0,none⟩) n n) (rows:=List.replicate n (lf z)) gI (by rw [List.length_replicate];exact h2) (fun b hb=>by cases hb;exact Nat.le_refl _) eU eF
 have E7:(Γ++[Ob.vec e k 0 (List.replicate n (lf z))])[Γ.length]?=some (Ob.vec e k 0 (List.replicate n (lf z))):=by simp
 obtain ⟨a,c,pO,pj⟩:=bg.qJ E7;rw [bo] at pO
 injection pO with ze eI
 injection ze with xC hb4 hb5
 subst xC hb5
 have hos:oset (Γ++[.vec e k 0 (List.replicate n (lf z))]) Γ.length (.vech e k (List.replicate n (lf z)) (.slice (some ⟨w.heap.size,0,none⟩) (List.replicate n (lf z)).length n))=Γ++[.vech e k (List.replicate n (lf z)) (.slice (some ⟨w.heap.size,0,none⟩) (List.replicate n (lf z)).length n)]:=by
  rw [bd];simp
 rw [hos,List.length_replicate] at pj;refine WL.val (v:=.slice (some ⟨w.heap.size,0,none⟩) n n) (w':=w') (by simp [execOp,rH,hr]) ?_;exact h _ _ B K _ w' _ hm pj ((hF.mono (cl.refl K) (gM (by rw [hI.out _ (Nat.le_refl _)];trivial))).put (some dt) (.v _))
end
end Go.Xg
