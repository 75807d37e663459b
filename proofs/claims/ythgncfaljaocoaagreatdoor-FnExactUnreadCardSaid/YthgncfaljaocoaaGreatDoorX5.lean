/- Part 5 of proofs that are told in their last texts. -/
import Derived.Test.YthgncfaljaocoaaGreatDoorX4
import Derived.IntWalk
import Derived.Laws.IdiomStrings
import Derived.Test.YthgncfaljaocoaaGreatDoorProg
import Derived.KernelRfl
import Derived.Test.YthgncfaljaocoaaGreatDoorX1
import Derived.Test.YthgncfaljaocoaaGreatDoorX2
import Derived.Deep.Slices
import Derived.Deep.Fields
import Derived.ChangeSame
import Derived.Lib.SmallJoins
import Derived.SliceStrings
import Derived.ChangeSlices
import Derived.Lib.LaidU8
import Derived.Shelf.Vars
import Derived.Test.YthgncfaljaocoaaGreatDoorX3
import Derived.Laws.Bits128
import Derived.Lib.AppendStr
open List (eq_nil_of_length_eq_zero ext_getElem flatten_cons getElem?_append_left getElem?_eq_getElem getElem?_map getElem?_set getElem_mem length_append length_cons length_map length_nil map_map mem_map mem_of_getElem? take_add_one take_length take_of_length_le)
set_option linter.unusedVariables false
set_option linter.unusedSimpArgs false
set_option maxRecDepth 100000
namespace Go.Xg
open Go.RowKit Go.Xw
section
variable {P:Program} {m:Nat} {Q:dQ} {fr:List GV} {Γ:List Ob} {ops:Array Oper} {rest:List Oper} {d:Option Tmp} {op:Op} {ty:TypeId} {pos:String} {af:Array Edge}
theorem GW.join {c y:Code} (K:List GV->List Ob->Prop) (h1:GW P m c (aS (xO m K) Q) fr Γ) (h2:∀ fr Γ,K fr Γ->GW P m y Q fr Γ):GW P m c (aS (GW P m y Q) Q) fr Γ:=by
 refine h1.mono fun e fr Γ hq=>?_
 cases e with
 | normal=>obtain ⟨bQ,aH,hw,hk⟩:=hq;exact GW.wk hw (h2 _ _ hk)
 | _=>exact hq
theorem YG.fi {x y:Operand} {t e:TypeId} {k:Nat} [hT:ma P t e k] {rows:List (List GV)} {kk:IntKind} {n:Int} {i:Nat} {r:List GV} (hx:aP fr x=.sl k rows) (hy:aP fr y=.v (.int kk n)) (hr:rows[i]?=some r) (hi:n=(i:Int)):YG P (.indexAddr t x y) fr Γ (.box r 0):=by
 subst hi;exact YG.nX hx hy hr
def ml:List (List GV)->Bool
 | []=>true
 | r::rs=>lE r&&ml rs
theorem z8 {rows:List (List GV)} (h:ml rows=true):lE rows.flatten=true:=by
 induction rows with
 | nil=>rfl
 | cons r rs ih =>
  simp only [ml,Bool.and_eq_true] at h
  have VF:∀ (a b:List GV),lE a=true->lE b=true->lE (a++b)=true:=by
   intro a
   induction a with
   | nil=>intro b _ hb;exact hb
   | cons x a wL =>
    intro b ha hb;simp only [lE,Bool.and_eq_true] at ha;simp only [List.cons_append,lE,Bool.and_eq_true];exact ⟨ha.1,wL b ha.2 hb⟩
  rw [flatten_cons];exact VF _ _ h.1 (ih h.2)
theorem GL.app {s x:Operand} {t e k gx:Nat} [hT:nC P t e k gx] {i n fz:Nat} {rows news:List (List GV)} (hx:aP fr x=.sl k news) (hs:aP fr s=.vec i n) (br:Γ[i]?=some (.vec e k fz rows)) (hn:rows.length=n) (h1:ml news=true) (bO:news.isEmpty=false)
  (hb:n+news.length<=9223372036854775807/\(n+news.length) * gx<=140737488355328)
  (h:GL P m ops Q rest (bh fr d (.vec i (n+news.length))) (oset Γ i (.vec e k fz (rows++news)))) :
  GL P m ops Q (⟨d,.call ⟨.builtin .append,#[s,x],#[t,t]⟩,ty,pos,af,none⟩::rest) fr Γ:=fun B K β w l hm hI hF=>by
 subst hn
 have bO:news≠[]:=by intro h0;rw [h0] at bO;cases bO
 obtain ⟨h0,xs,o1,o2,o3,o4,o5,o6⟩:=hI.ob i _ br;have r7:=hF.ev s;rw [hs] at r7
 have pC:ev l s=h0:=by
  generalize hv:ev l s=v at r7
  cases r7 with
  | vec _ _ a c hh =>
   obtain ⟨h',m',e1,e2,e3⟩:=hh;rw [o1] at e1;cases e1;exact e3 rfl
 have sc:=hF.ev x;rw [hx] at sc;generalize qC:ev l x=v at sc
 cases sc with
 | sl0 a c k=>exact absurd rfl bO
 | sl b o c _ _ hr _ =>
  have jv:fM k news:=fun r Kx=>by
   obtain ⟨j,hj⟩:=List.mem_iff_getElem?.1 Kx;refine ⟨(hr j r hj).1,fun g hg=>?_⟩;obtain ⟨q,hq⟩:=List.mem_iff_getElem?.1 hg;exact (hI.fz _ _ _ ((hr j r hj).2 q g hq)).1
  have xt:∀ (rows:List (List GV)) (o:Nat),(∀ (j:Nat) r,rows[j]?=some r->r.length=k/\∀ (q:Nat) g,r[q]?=some g->K b (o+j * k+q)=some g)->∀ (q:Nat) g,rows.flatten[q]?=some g->K b (o+q)=some g:=by
   intro rows
   induction rows with
   | nil=>intro o _ q g hg;simp at hg
   | cons r rows ih =>
    intro o h q g hg;rw [flatten_cons] at hg;have hl:=(h 0 r rfl).1
    by_cases hq:q < r.length
    ·rw [getElem?_append_left hq] at hg;have:=(h 0 r rfl).2 q g hg;simpa using this
    ·rw [List.getElem?_append_right (by omega),hl] at hg
     have:=ih (o+k) (fun j r' hj=>by
      have:=h (j+1) r' (by simpa using hj);refine ⟨this.1,fun q g hg=>?_⟩;have:=this.2 q g hg
      rw [show o+(j+1) * k+q=o+k+j * k+q by rw [Nat.succ_mul];omega] at this;exact this) (q - k) g hg
     rw [show o+k+(q - k)=o+q by omega] at this;exact this
  obtain ⟨us,jA,jY⟩:=vb (K:=K) (β:=β) (H:=w.heap) (b:=b) news.flatten o (fun j g hj=>by
   obtain ⟨hp,u,hu,eG⟩:=hI.fz _ _ _ (xt news o (fun j r hj=>hr j r hj) j g hj)
   exact ⟨u,hu,eG.pc hp⟩)
  have BU:us.length=news.length * k:=by
   rw [jA.1,List.length_flatten]
   have:∀ (rows:List (List GV)),fM k rows->(rows.map List.length).sum=rows.length * k:=by
    intro rows
    induction rows with
    | nil=>intro _;simp
    | cons r rows ih =>
     intro hk;rw [List.map_cons,List.sum_cons,ih (fun r hr=>hk r (List.mem_cons_of_mem _ hr)),(hk r (List.mem_cons_self)).1,length_cons,Nat.succ_mul];omega
   exact this news jv
  refine WL.app (base:=0) (v:=h0) (n:=rows.length) (m:=news.length) (xs:=xs) (news:=us) pC o2 qC BU (fun j u hj=>by rw [eN];exact jY j u hj) (jA.kR (z8 h1)) hb.1 hb.2 (Nat.zero_le _) ?_;intro v' w' how fZ sW uv
  obtain ⟨K',hK,pE,be⟩:=hI.grow br o1 ⟨o2,o3⟩ (news:=news) (ns:=us) how fZ sW jA jv bO (fun b ba o v ho hv=>by
   rcases uv with h7 | h7
   ·exact h7.c hv (fun h=>h)
   ·have gH:o < xs.length:=by rw [o2.1];exact Nat.lt_of_lt_of_le ho (Nat.mul_le_mul_right k o6)
    obtain ⟨b2,c2,ot,_,_,jh⟩:=o2.cells.2 (by intro h0;rw [h0] at gH;simp at gH)
    have ey:b2=b:=by rw [ot] at ba;cases ba;rfl
    subst ey;have BW:=jh o xs[o] (by simp [gH]);rw [eN,hv] at BW;cases BW;obtain ⟨b3,c3,Ko,_,_,Kk⟩:=how.cells.2 (by intro h0;have:xs=[]:=(List.append_eq_nil_iff.1 h0).1;rw [this] at gH;simp at gH)
    have wu:b3=b2:=by rw [Ko,ba] at h7;cases h7;rfl
    subst wu
    rw [<-eN];exact Kk o _ (by rw [getElem?_append_left gH];simp [gH]))
  rw [<-aX] at be;refine h B K' _ w' _ hm be ((hF.mono hK pE).put d ?_);obtain ⟨a,c,rfl⟩:=how.shape;exact .vec i _ a c ⟨_,_,bm,by simp,fun _=>by simp⟩
theorem Wk.D3 {i o:Nat} {T:TypeId} {cs:List GV} (E k:Nat) (hi:Γ[i]?=some (.box T cs)) (ho:cs[o]?=some (.v (.slice none 0 0))):Wk m fr Γ fr (oset Γ i (.box T (bj cs o (.vec Γ.length 0)))++[.vec E k 0 []]):=fun B K β w l hm hI hF=>by
 have bV:β Γ.length=.no:=hI.out _ (Nat.le_refl _);have aq:i < Γ.length:=(List.getElem?_eq_some_iff.1 hi).1;have be:=hI.Aq (w':=w) (E:=E) (k:=k) (x:=.slice none 0 0) (xs:=[]) (rows:=[]) (Ext.refl w) (gw.nil w 0 E k) (fun b hb=>by cases hb) aV.nil (fun r hr=>by cases hr);have hle:dc β (eK β Γ.length (.gr (.slice none 0 0) ([]:List (List GV)).length)):=gk (by rw [bV];trivial);refine ⟨K,_,⟨be.ext,be.kle,be.ble,be.loc,be.fz,fun j x hj=>?_,fun j hj=>be.out j (by simp [aX] at hj |-;exact hj),be.dis,be.own,be.kn,be.tab⟩,hF.mono (cm.refl K) hle⟩
 by_cases hji:j=i
 ·subst hji;rw [getElem?_append_left (by simp [aX];exact aq),aX,getElem?_set] at hj;simp [aq] at hj;subst hj;obtain ⟨b,vs,h1,h2,h3,h4⟩:=be.ob j (.box T cs) (by rw [getElem?_append_left aq];exact hi);refine ⟨b,vs,h1,h2,?_,h4⟩
  have gen:∀ (vs:List Value) (cs:List GV) (o:Nat),aV K (eK β Γ.length (.gr (.slice none 0 0) ([]:List (List GV)).length)) vs cs->cs[o]?=some (.v (.slice none 0 0))->aV K (eK β Γ.length (.gr (.slice none 0 0) ([]:List (List GV)).length)) vs (bj cs o (.vec Γ.length 0)):=by
   intro vs
   induction vs with
   | nil=>intro cs o h ho;have:cs=[]:=eq_nil_of_length_eq_zero h.1.symm;subst this;simp at ho
   | cons v vs ih =>
    intro cs o h ho
    cases cs with
    | nil=>simp at ho
    | cons c cs =>
     obtain ⟨a1,a2⟩:=h.nR
     cases o with
     | zero =>
      cases ho;have hv:=Rel.eT a1;subst hv;exact .cons (.vec _ 0 none 0 ⟨_,_,bm,Nat.le_refl _,fun _=>rfl⟩) a2
     | succ o=>exact .cons a1 (ih cs o a2 (by simpa using ho))
  exact gen vs cs o h3 ho
 ·refine be.ob j x ?_
  by_cases wC:j < Γ.length
  ·rw [getElem?_append_left (by simp [aX];exact wC),aX,getElem?_set,if_neg (fun e=>hji e.symm)] at hj;rw [getElem?_append_left wC];exact hj
  ·rw [List.getElem?_append_right (by simp [aX];omega)] at hj;rw [List.getElem?_append_right (by omega)];simpa [aX] using hj
theorem Wk.vG {i o j n E k fz:Nat} {T:TypeId} {cs:List GV} {rows:List (List GV)} (hi:Γ[i]?=some (.box T cs)) (ho:cs[o]?=some (.vec j n)) (fU:Nat.beq i j=false) (hj:Γ[j]?=some (.vec E k fz rows)) (hn:rows.length=n):Wk m fr Γ fr (oset (oset Γ j (.vec E k n rows)) i (.box T (bj cs o (.sl k rows)))):=fun B K β w l hm hI hF=>by
 subst hn
 have bO:i≠j:=by intro e;subst e;simp at fU
 obtain ⟨h0,xs,o1,o2,o3,o4,o5,o6⟩:=hI.ob j _ hj;obtain ⟨K',hK,BN,be⟩:=hI.gD hj;rw [<-aX] at be;refine ⟨K',β,⟨be.ext,be.kle,be.ble,be.loc,be.fz,fun q x hq=>?_,fun q hq=>be.out q (by simpa [aX] using hq),be.dis,be.own,be.kn,be.tab⟩,hF.mono hK (dc.refl β)⟩
 by_cases hqi:q=i
 ·subst hqi;have aq:q < Γ.length:=(List.getElem?_eq_some_iff.1 hi).1;rw [aX,getElem?_set] at hq;simp [aX,aq] at hq;subst hq;obtain ⟨b,vs,h1,h2,h3,h4⟩:=be.ob q (.box T cs) (by rw [aX,getElem?_set,if_neg (fun e=>bO e.symm)];exact hi);refine ⟨b,vs,h1,h2,?_,h4⟩
  have gen:∀ (vs:List Value) (cs:List GV) (o:Nat),aV K' β vs cs->cs[o]?=some (.vec j rows.length)->aV K' β vs (bj cs o (.sl k rows)):=by
   intro vs
   induction vs with
   | nil=>intro cs o h ho;have:cs=[]:=eq_nil_of_length_eq_zero h.1.symm;subst this;simp at ho
   | cons v vs ih =>
    intro cs o h ho
    cases cs with
    | nil=>simp at ho
    | cons c cs =>
     obtain ⟨a1,a2⟩:=h.nR
     cases o with
     | zero =>
      cases ho;refine .cons ?_ a2
      cases a1 with
      | vec _ _ a c hh =>
       obtain ⟨h',m',e1,e2,e3⟩:=hh;rw [o1] at e1;cases e1;have e4:=e3 rfl
       rcases o2.2 with ⟨e5,e6⟩ | ⟨g,cap,cu,e5,_,_,px,_⟩
       ·have:rows=[]:=eq_nil_of_length_eq_zero e6;subst this;exact .sl0 _ _ _
       ·rw [e5] at e4;cases e4;refine .sl g 0 _ k rows (fun j r hr=>⟨(o4 r (mem_of_getElem? hr)).1,fun q g' kM=>?_⟩) px;rw [Nat.zero_add];exact BN _ g o1 (by rw [e5];rfl) _ g' (sw o4 hr kM)
     | succ o=>exact .cons a1 (ih cs o a2 (by simpa using ho))
  exact gen vs cs o h3 ho
 ·rw [aX,getElem?_set,if_neg (fun e=>hqi e.symm)] at hq;exact be.ob q x hq
end
end Go.Xg
namespace Go.Xg
open Go.RowKit Go.Xw
class HB (P:Program) (t:TypeId) (k:outParam IntKind):Prop where
 und:P.underlying t=some (.int k)
class I8 (P:Program) (t:TypeId):Prop where
 und:∃ e,P.underlying t=some (.slice e)/\P.underlying e=some (.int .u8)
theorem I8.mk' {P:Program} {t e:TypeId} (h:P.underlying t=some (.slice e)) (k:P.underlying e=some (.int .u8)):I8 P t:=⟨e,h,k⟩
section
variable {P:Program} {m:Nat} {Q:dQ} {fr:List GV} {Γ:List Ob} {ops:Array Oper} {rest:List Oper} {d:Option Tmp} {op:Op} {ty:TypeId} {pos:String} {af:Array Edge}
theorem YG.sE {x y:Operand} {t t':TypeId} {a b:Int} (hx:aP fr x=.v (.int .u8 a)) (hy:aP fr y=.v (.int .u8 b)) (hb:0<=a - b/\a - b<=255):YG P (.binOp .sub t x y t') fr Γ (.v (.int .u8 (a - b))) :=
 YG.v2 hx hy fun l w h k d ty pos af=>by simp [execOp,eqGuard,h,k,binOp,Op.intArith,IntWalk.u8_in _ hb]
theorem YG.quo {x y:Operand} {t t':TypeId} {a b:Int} (hx:aP fr x=.v (ii a)) (hy:aP fr y=.v (ii b)) (hb:0<=a/\a<=9223372036854775807/\1<=b):YG P (.binOp .quo t x y t') fr Γ (.v (ii (a / b))) :=
 YG.v2 hx hy fun l w h k d ty pos af=>by
  have bO:b≠0:=by omega
  simp [execOp,eqGuard,h,k,binOp,Op.intDiv,bO,IntWalk.i64_quo a b hb]
theorem YG.rem {x y:Operand} {t t':TypeId} {a b:Int} (hx:aP fr x=.v (ii a)) (hy:aP fr y=.v (ii b)) (hb:0<=a/\1<=b):YG P (.binOp .rem t x y t') fr Γ (.v (ii (a % b))) :=
 YG.v2 hx hy fun l w h k d ty pos af=>by
  have bO:b≠0:=by omega
  simp [execOp,eqGuard,h,k,binOp,Op.intDiv,bO,IntWalk.rem_in a b hb.1]
theorem YG.v8 {x:Operand} {s t:TypeId} {k k':IntKind} {a:Int} [hS:HB P s k'] [hT:HB P t k] (hx:aP fr x=.v (.int k' a)) (hw:k.wrap a=a):YG P (.convert s t x) fr Γ (.v (.int k a)) :=
 YG.v1 hx fun l w h d ty pos af=>by simp [execOp,h,convert,run_underlying hS.und,run_underlying hT.und,Conv.intToInt,hw]
theorem YG.str {x:Operand} {s t:TypeId} {l:ae} {rows:List (List GV)} [hS:I8 P s] [hT:oF P t] (hx:aP fr x=.sl 1 rows) (hr:rows=l.map fun c=>[.v (.int .u8 (c.toNat:Int))]):YG P (.convert s t x) fr Γ (.v (sv l)):=fun B K β w fl hI hF=>by
 subst hr;obtain ⟨e,h1,h2⟩:=hS.und;have h:=hF.ev x;rw [hx] at h;generalize hv:ev fl x=v at h;refine ⟨_,fun d ty pos af=>?_,.v _⟩
 have key:(convert s t v).run P w=.ok (sv l) w:=by
  generalize jv:(l.map fun c=>[GV.v (.int .u8 (c.toNat:Int))])=rows at h
  cases h with
  | sl0 a c =>
   have:l=[]:=by cases l with | nil=>rfl | cons x l=>simp at jv
   subst this
   cases a with
   | none=>rw [run_convert_bytes_string w s t e none 0 c h1 h2 hT.und];simp [Conv.bytesToString];rfl
   | some a=>exact run_convert_bytes_back w s t e a c [] h1 h2 hT.und (fun j hj=>by simp at hj)
  | sl b o c _ _ hc _ =>
   have hl:rows.length=l.length:=by rw [<-jv];simp
   rw [hl];refine run_convert_bytes_back w s t e ⟨b,o,none⟩ c l h1 h2 hT.und (fun j hj=>?_)
   have bo:rows[j]?=some [GV.v (.int .u8 (l[j].toNat:Int))]:=by rw [<-jv];simp [hj]
   obtain ⟨_,u,hu,eG⟩:=hI.fz _ _ _ ((hc j _ bo).2 0 _ rfl);rw [oH,eN];have:=Rel.eT eG;subst this;simpa using hu
 simp [execOp,hv,key]
end
end Go.Xg
namespace Go.Xg
open Go.RowKit Go.Xw
structure Hid (B:Prop):Prop where
 h:B
structure rD (aK:List Nat) (C:Prop):Prop where
 h:C
section
variable {P:Program} {m:Nat} {ops:Array Oper} {Q:dQ} {rest:List Oper} {fr:List GV} {Γ:List Ob} {d:Option Tmp} {ty:TypeId} {pos:String} {af:Array Edge}
theorem GL.ud {f:FuncId} [hf:aB P f] {aK:List Nat} {args:List Operand} {lR:Array TypeId} {gs:List GV} {gn qe:List Ob} {g:GV} (hc:rD aK (GF P f gs gn g qe)) (ha:ki (args.map (aP fr)) (kU (bL aK Γ.length) gs)) (eQ:gE aK Γ.length=true)
  (br:seen (bL aK Γ.length) Γ aK gn) (hl:Nat.ble aK.length qe.length=true) (h:GL P m ops Q rest (bh fr d (dr (bL aK Γ.length) g)) (dL Γ aK (qe.map (Ob.dr (bL aK Γ.length))))) :
  GL P m ops Q (⟨d,.call ⟨.value (.func f),args.toArray,lR⟩,ty,pos,af,none⟩::rest) fr Γ:=GL.Tk aK hc.h ha eQ br hl h
theorem GL.QP {f:FuncId} [hf:aB P f] {aK:List Nat} {args:List Operand} {lR:Array TypeId} {gs:List GV} {gn:List Ob} {R:GV->List Ob->Prop} (hc:rD aK (GC P f gs gn R)) (ha:ki (args.map (aP fr)) (kU (bL aK Γ.length) gs)) (eQ:gE aK Γ.length=true)
  (br:seen (bL aK Γ.length) Γ aK gn) (h:∀ g aH,R g aH->aK.length<=aH.length/\GL P m ops Q rest (bh fr d (dr (bL aK Γ.length) g)) (dL Γ aK (aH.map (Ob.dr (bL aK Γ.length))))) :
  GL P m ops Q (⟨d,.call ⟨.value (.func f),args.toArray,lR⟩,ty,pos,af,none⟩::rest) fr Γ:=GL.zk aK hc.h ha eQ br h
theorem GL.Jx {f:FuncId} [hf:aB P f] {aK:List Nat} {x:Operand} {first cap:List GV} {args:List Operand} {lR:Array TypeId} {gs:List GV} {gn:List Ob} {R:GV->List Ob->Prop} (hc:rD aK (GC P f gs gn R)) (hx:aP fr x=.fn (.func f) first cap) (ha:first++args.map (aP fr)++cap=kU (bL aK Γ.length) gs) (eQ:gE aK Γ.length=true)
  (br:seen (bL aK Γ.length) Γ aK gn) (h:∀ g aH,R g aH->aK.length<=aH.length/\GL P m ops Q rest (bh fr d (dr (bL aK Γ.length) g)) (dL Γ aK (aH.map (Ob.dr (bL aK Γ.length))))) :
  GL P m ops Q (⟨d,.call ⟨.value x,args.toArray,lR⟩,ty,pos,af,none⟩::rest) fr Γ:=GL.qh aK hc.h hx ha eQ br h
theorem GL.Jw {f:FuncId} [hf:aB P f] {aK:List Nat} {x:Operand} {args:List Operand} {lR:Array TypeId} {gs:List GV} {gn:List Ob} {R:GV->List Ob->Prop} (hc:rD aK (GC P f gs gn R)) (hx:aP fr x=.v (.func (.func f) #[] #[])) (ha:args.map (aP fr)=kU (bL aK Γ.length) gs) (eQ:gE aK Γ.length=true)
  (br:seen (bL aK Γ.length) Γ aK gn) (h:∀ g aH,R g aH->aK.length<=aH.length/\GL P m ops Q rest (bh fr d (dr (bL aK Γ.length) g)) (dL Γ aK (aH.map (Ob.dr (bL aK Γ.length))))) :
  GL P m ops Q (⟨d,.call ⟨.value x,args.toArray,lR⟩,ty,pos,af,none⟩::rest) fr Γ:=GL.Tl aK hc.h hx ha eQ br h
end
theorem ia {A:Prop} (s:A:=by repeat (first | exact ig.n | (apply ig.w;(· decide +kernel)) | (apply ig.y;(· first | (apply YQ.t;(· exact rfl);(· exact rfl);(· (first | (apply K.ld;first | exact YG.wT rfl rfl (by first | rfl | assumption) | exact YG.si rfl rfl rfl rfl | exact YG.ldV rfl rfl (by first | rfl | assumption) (by first | rfl | assumption) (by first | rfl | assumption) | exact YG.wR rfl rfl (by first | rfl | assumption) (by first | rfl | assumption) (by first | rfl | assumption)) | (apply K.idx;first | exact YG.idxV rfl rfl rfl (by first | rfl | assumption) (by omega) | exact YG.bs 0 rfl rfl rfl (by first | omega | assumption | (simp only [List.length_append,List.length_cons,List.length_nil];omega)) | exact YG.bs 1 rfl rfl rfl (by first | omega | assumption | (simp only [List.length_append,List.length_cons,List.length_nil];omega)) | exact YG.bs 2 rfl rfl rfl (by first | omega | assumption | (simp only [List.length_append,List.length_cons,List.length_nil];omega)) | exact YG.bs 3 rfl rfl rfl (by first | omega | assumption | (simp only [List.length_append,List.length_cons,List.length_nil];omega)) | exact YG.bs 4 rfl rfl rfl (by first | omega | assumption | (simp only [List.length_append,List.length_cons,List.length_nil];omega)) | exact YG.bs 5 rfl rfl rfl (by first | omega | assumption | (simp only [List.length_append,List.length_cons,List.length_nil];omega)) | exact YG.bs 6 rfl rfl rfl (by first | omega | assumption | (simp only [List.length_append,List.length_cons,List.length_nil];omega))) | (apply K.oM;first | exact YG.fldV rfl rfl (by first | rfl | assumption) | exact YG.rP rfl rfl (by first | rfl | assumption)) | exact YG.qI 1 rfl rfl (by first | rfl | assumption) (by first | rfl | assumption) | exact YG.mv | exact YG.sO | (apply K.bin;first | exact YG.go rfl | exact YG.oG rfl rfl (by omega) | exact YG.oJ rfl rfl | exact YG.oY rfl rfl | exact YG.uf rfl rfl | exact YG.uG rfl rfl | exact YG.cat rfl rfl (by omega) | exact YG.cat rfl rfl (by simp only [List.length_append,List.length_cons,List.length_nil];omega) | exact YG.pI rfl rfl (by omega) | exact YG.add rfl rfl (by omega) | exact YG.sub rfl rfl (by omega) | exact YG.mul rfl rfl (by omega) | exact YG.sE rfl rfl (by omega) | exact YG.quo rfl rfl (by omega) | exact YG.rem rfl rfl (by omega) | exact YG.nc rfl rfl) | (apply K.oM;first | exact YG.rQ rfl | exact YG.rO rfl) | (apply K.ld;first | exact YG.wQ rfl (by first | rfl | assumption) | exact YG.sf rfl rfl rfl) | (apply K.len;first | exact YG.oW rfl | exact YG.pR rfl | exact YG.sj rfl | exact YG.sk rfl | exact YG.lenA rfl) | (apply K.wX;first | exact YG.su rfl | exact YG.sr rfl) | (apply K.pick;first | exact YG.uM rfl (by first | rfl | assumption) | exact YG.uL rfl (by first | rfl | assumption)) | (apply K.idx;first | exact YG.nX rfl rfl (by assumption) | exact YG.fi rfl rfl (by assumption) rfl | exact YG.fi rfl rfl (by assumption) (by omega) | exact YG.pP rfl rfl (by omega)) | exact YG.ext rfl rfl | exact YG.go rfl | (apply K.w8;first | exact YG.sD rfl rfl rfl (by omega) | exact YG.sC rfl rfl (by omega) | exact YG.sB rfl rfl (by omega) | exact YG.mK 1 rfl rfl rfl (by first | rfl | assumption)) | exact YG.pQ rfl rfl (by assumption) | exact YG.idxSC rfl rfl (by assumption) rfl | (apply K.iL;first | exact YG.mkfn0 | exact YG.iL) | exact YG.build rfl | exact YG.neg rfl (by omega) | exact YG.pL rfl rfl | exact YG.v8 rfl (by first | rfl | exact IntWalk.i64_in _ (by omega) | exact IntWalk.u8_in _ (by omega) | assumption) | exact YG.str rfl (by first | rfl | assumption)))) | (apply YQ.t;(· exact rfl);(· apply AO;(· exact rfl);(· first | exact rfl | assumption));(· (first | (apply K.ld;first | exact YG.wT rfl rfl (by first | rfl | assumption) | exact YG.si rfl rfl rfl rfl | exact YG.ldV rfl rfl (by first | rfl | assumption) (by first | rfl | assumption) (by first | rfl | assumption) | exact YG.wR rfl rfl (by first | rfl | assumption) (by first | rfl | assumption) (by first | rfl | assumption)) | (apply K.idx;first | exact YG.idxV rfl rfl rfl (by first | rfl | assumption) (by omega) | exact YG.bs 0 rfl rfl rfl (by first | omega | assumption | (simp only [List.length_append,List.length_cons,List.length_nil];omega)) | exact YG.bs 1 rfl rfl rfl (by first | omega | assumption | (simp only [List.length_append,List.length_cons,List.length_nil];omega)) | exact YG.bs 2 rfl rfl rfl (by first | omega | assumption | (simp only [List.length_append,List.length_cons,List.length_nil];omega)) | exact YG.bs 3 rfl rfl rfl (by first | omega | assumption | (simp only [List.length_append,List.length_cons,List.length_nil];omega)) | exact YG.bs 4 rfl rfl rfl (by first | omega | assumption | (simp only [List.length_append,List.length_cons,List.length_nil];omega)) | exact YG.bs 5 rfl rfl rfl (by first | omega | assumption | (simp only [List.length_append,List.length_cons,List.length_nil];omega)) | exact YG.bs 6 rfl rfl rfl (by first | omega | assumption | (simp only [List.length_append,List.length_cons,List.length_nil];omega))) | (apply K.oM;first | exact YG.fldV rfl rfl (by first | rfl | assumption) | exact YG.rP rfl rfl (by first | rfl | assumption)) | exact YG.qI 1 rfl rfl (by first | rfl | assumption) (by first | rfl | assumption) | exact YG.mv | exact YG.sO | (apply K.bin;first | exact YG.go rfl | exact YG.oG rfl rfl (by omega) | exact YG.oJ rfl rfl | exact YG.oY rfl rfl | exact YG.uf rfl rfl | exact YG.uG rfl rfl | exact YG.cat rfl rfl (by omega) | exact YG.cat rfl rfl (by simp only [List.length_append,List.length_cons,List.length_nil];omega) | exact YG.pI rfl rfl (by omega) | exact YG.add rfl rfl (by omega) | exact YG.sub rfl rfl (by omega) | exact YG.mul rfl rfl (by omega) | exact YG.sE rfl rfl (by omega) | exact YG.quo rfl rfl (by omega) | exact YG.rem rfl rfl (by omega) | exact YG.nc rfl rfl) | (apply K.oM;first | exact YG.rQ rfl | exact YG.rO rfl) | (apply K.ld;first | exact YG.wQ rfl (by first | rfl | assumption) | exact YG.sf rfl rfl rfl) | (apply K.len;first | exact YG.oW rfl | exact YG.pR rfl | exact YG.sj rfl | exact YG.sk rfl | exact YG.lenA rfl) | (apply K.wX;first | exact YG.su rfl | exact YG.sr rfl) | (apply K.pick;first | exact YG.uM rfl (by first | rfl | assumption) | exact YG.uL rfl (by first | rfl | assumption)) | (apply K.idx;first | exact YG.nX rfl rfl (by assumption) | exact YG.fi rfl rfl (by assumption) rfl | exact YG.fi rfl rfl (by assumption) (by omega) | exact YG.pP rfl rfl (by omega)) | exact YG.ext rfl rfl | exact YG.go rfl | (apply K.w8;first | exact YG.sD rfl rfl rfl (by omega) | exact YG.sC rfl rfl (by omega) | exact YG.sB rfl rfl (by omega) | exact YG.mK 1 rfl rfl rfl (by first | rfl | assumption)) | exact YG.pQ rfl rfl (by assumption) | exact YG.idxSC rfl rfl (by assumption) rfl | (apply K.iL;first | exact YG.mkfn0 | exact YG.iL) | exact YG.build rfl | exact YG.neg rfl (by omega) | exact YG.pL rfl rfl | exact YG.v8 rfl (by first | rfl | exact IntWalk.i64_in _ (by omega) | exact IntWalk.u8_in _ (by omega) | assumption) | exact YG.str rfl (by first | rfl | assumption)))) | (apply YQ.f;(· exact rfl);(· apply De;(· exact rfl);(· first | exact rfl | assumption))))))):A:=s
theorem du {A:Prop} (s:A:=by (try simp only [bh,bj,aP,cj,List.length_cons,List.length_nil,Nat.reduceAdd,dr,kU,bL]);rfl):A:=s
theorem eB {A:Prop} (s:A:=by (try simp only [List.cons_append,List.nil_append,oset,na,bj,cj,aP,dL,List.map_cons,List.map_nil,Ob.dr,dr,kU,bL]);rfl):A:=s
theorem xF {A:Prop} (s:A:=by simp only [bh,bj,aP,cj];rfl):A:=s
theorem lG {A:Prop} (s:A:=by first | exact ki.refl | (repeat (first | exact ki.nil | exact lI.refl | exact lI.nil | exact lI.Zy | exact lI.fn0 | refine ki.cons ?_ ?_ | refine lI.agg ?_))):A:=s
theorem kh {A:Prop} (s:A:=by first | exact trivial | exact ⟨rfl,trivial⟩ | exact ⟨rfl,rfl,trivial⟩ | exact ⟨rfl,rfl,rfl,trivial⟩ | exact ⟨rfl,rfl,rfl,rfl,rfl,trivial⟩):A:=s
theorem ab {A B:Prop} (h:B) (s:Hid B->A:=by intro hQ;(repeat (first | ((first | (apply GL.q;(· (first | exact YG.mv | exact YG.sO | (apply K.bin;first | exact YG.go rfl | exact YG.oG rfl rfl (by omega) | exact YG.oJ rfl rfl | exact YG.oY rfl rfl | exact YG.uf rfl rfl | exact YG.uG rfl rfl | exact YG.cat rfl rfl (by omega) | exact YG.cat rfl rfl (by simp only [List.length_append,List.length_cons,List.length_nil];omega) | exact YG.pI rfl rfl (by omega) | exact YG.add rfl rfl (by omega) | exact YG.sub rfl rfl (by omega) | exact YG.mul rfl rfl (by omega) | exact YG.sE rfl rfl (by omega) | exact YG.quo rfl rfl (by omega) | exact YG.rem rfl rfl (by omega) | exact YG.nc rfl rfl) | (apply K.oM;first | exact YG.rQ rfl | exact YG.rO rfl | exact YG.fldV rfl rfl (by first | rfl | assumption) | exact YG.rP rfl rfl (by first | rfl | assumption)) | (apply K.ld;first | exact YG.wT rfl rfl (by first | rfl | assumption) | exact YG.wQ rfl (by first | rfl | assumption) | exact YG.si rfl rfl rfl rfl | exact YG.sf rfl rfl rfl | exact YG.ldV rfl rfl (by first | rfl | assumption) (by first | rfl | assumption) (by first | rfl | assumption) | exact YG.wR rfl rfl (by first | rfl | assumption) (by first | rfl | assumption) (by first | rfl | assumption)) | (apply K.len;first | exact YG.oW rfl | exact YG.pR rfl | exact YG.sj rfl | exact YG.sk rfl | exact YG.lenA rfl) | (apply K.wX;first | exact YG.su rfl | exact YG.sr rfl) | (apply K.pick;first | exact YG.uM rfl (by first | rfl | assumption) | exact YG.uL rfl (by first | rfl | assumption)) | (apply K.idx;first | exact YG.nX rfl rfl (by assumption) | exact YG.fi rfl rfl (by assumption) rfl | exact YG.fi rfl rfl (by assumption) (by omega) | exact YG.pP rfl rfl (by omega) | exact YG.idxV rfl rfl rfl (by first | rfl | assumption) (by omega) | exact YG.bs 0 rfl rfl rfl (by first | omega | assumption | (simp only [List.length_append,List.length_cons,List.length_nil];omega)) | exact YG.bs 1 rfl rfl rfl (by first | omega | assumption | (simp only [List.length_append,List.length_cons,List.length_nil];omega)) | exact YG.bs 2 rfl rfl rfl (by first | omega | assumption | (simp only [List.length_append,List.length_cons,List.length_nil];omega)) | exact YG.bs 3 rfl rfl rfl (by first | omega | assumption | (simp only [List.length_append,List.length_cons,List.length_nil];omega)) | exact YG.bs 4 rfl rfl rfl (by first | omega | assumption | (simp only [List.length_append,List.length_cons,List.length_nil];omega)) | exact YG.bs 5 rfl rfl rfl (by first | omega | assumption | (simp only [List.length_append,List.length_cons,List.length_nil];omega)) | exact YG.bs 6 rfl rfl rfl (by first | omega | assumption | (simp only [List.length_append,List.length_cons,List.length_nil];omega))) | exact YG.ext rfl rfl | exact YG.go rfl | (apply K.w8;first | exact YG.sD rfl rfl rfl (by omega) | exact YG.sC rfl rfl (by omega) | exact YG.sB rfl rfl (by omega) | exact YG.mK 1 rfl rfl rfl (by first | rfl | assumption)) | exact YG.pQ rfl rfl (by assumption) | exact YG.idxSC rfl rfl (by assumption) rfl | (apply K.iL;first | exact YG.mkfn0 | exact YG.iL) | exact YG.build rfl | exact YG.neg rfl (by omega) | exact YG.pL rfl rfl | exact YG.v8 rfl (by first | rfl | exact IntWalk.i64_in _ (by omega) | exact IntWalk.u8_in _ (by omega) | assumption) | exact YG.str rfl (by first | rfl | assumption)))) | refine GL.nil ?_ | refine aL ?_ | refine GW.seq ?_ | refine GW.region ?_ | refine GW.skip ?_ | refine bX ?_ | refine GW.block ?_ | (apply GL.gt;(· exact rfl);(· first | exact rfl | assumption)) | (apply GL.gf;(· exact rfl);(· first | exact rfl | assumption)) | (apply GL.gu;(· exact rfl)) | (apply Oc;(· exact rfl);(· first | exact rfl | assumption)) | (apply Oa;(· exact rfl);(· first | exact rfl | assumption)));try refine GN xF ?_) | ((first | (apply GL.alloc;(· simp only [kg,Value.cells,List.map_cons,List.map_nil];rfl)) | (apply GL.box;(· exact rfl)) | (apply GL.st;(· exact rfl);(· exact rfl);(· exact rfl);(· exact rfl);(· exact rfl);(· exact rfl)));refine sK du eB ?_)));exact hQ.1):A:=s ⟨h⟩
theorem aj {A B:Prop} (h:B) (s:Hid B->A:=by intro hQ;(repeat ((first | (apply WI;(· exact rfl)) | (apply WH;(· exact rfl)) | (apply OP;(· exact rfl);(· intro Γ;(first | (apply K.bin;first | exact YG.go rfl | exact YG.oG rfl rfl (by omega) | exact YG.oJ rfl rfl | exact YG.oY rfl rfl | exact YG.uf rfl rfl | exact YG.uG rfl rfl | exact YG.cat rfl rfl (by omega) | exact YG.cat rfl rfl (by simp only [List.length_append,List.length_cons,List.length_nil];omega) | exact YG.pI rfl rfl (by omega) | exact YG.add rfl rfl (by omega) | exact YG.sub rfl rfl (by omega) | exact YG.mul rfl rfl (by omega) | exact YG.sE rfl rfl (by omega) | exact YG.quo rfl rfl (by omega) | exact YG.rem rfl rfl (by omega) | exact YG.nc rfl rfl) | (apply K.oM;first | exact YG.rQ rfl | exact YG.rO rfl) | (apply K.ld;first | exact YG.wQ rfl (by first | rfl | assumption) | exact YG.sf rfl rfl rfl) | (apply K.len;first | exact YG.oW rfl | exact YG.pR rfl | exact YG.sj rfl | exact YG.sk rfl | exact YG.lenA rfl) | (apply K.wX;first | exact YG.su rfl | exact YG.sr rfl) | (apply K.idx;first | exact YG.nX rfl rfl (by assumption) | exact YG.fi rfl rfl (by assumption) rfl | exact YG.fi rfl rfl (by assumption) (by omega) | exact YG.pP rfl rfl (by omega)) | exact YG.ext rfl rfl | exact YG.go rfl | (apply K.w8;first | exact YG.sD rfl rfl rfl (by omega) | exact YG.sC rfl rfl (by omega) | exact YG.sB rfl rfl (by omega) | exact YG.mK 1 rfl rfl rfl (by first | rfl | assumption)) | exact YG.pQ rfl rfl (by assumption) | exact YG.idxSC rfl rfl (by assumption) rfl | (apply K.iL;first | exact YG.mkfn0 | exact YG.iL) | exact YG.build rfl | exact YG.neg rfl (by omega) | exact YG.pL rfl rfl | exact YG.v8 rfl (by first | rfl | exact IntWalk.i64_in _ (by omega) | exact IntWalk.u8_in _ (by omega) | assumption) | exact YG.str rfl (by first | rfl | assumption)))) | (apply Vn;(· exact rfl);(· exact rfl);(· first | exact rfl | assumption)) | (apply Vm;(· exact rfl);(· exact rfl);(· first | exact rfl | assumption)) | (apply Vo;(· exact rfl);(· exact rfl);(· first | exact rfl | assumption)) | (apply OQ;(· exact rfl);(· (first | (apply K.ld;first | exact YG.wT rfl rfl (by first | rfl | assumption) | exact YG.si rfl rfl rfl rfl | exact YG.ldV rfl rfl (by first | rfl | assumption) (by first | rfl | assumption) (by first | rfl | assumption) | exact YG.wR rfl rfl (by first | rfl | assumption) (by first | rfl | assumption) (by first | rfl | assumption)) | (apply K.idx;first | exact YG.idxV rfl rfl rfl (by first | rfl | assumption) (by omega) | exact YG.bs 0 rfl rfl rfl (by first | omega | assumption | (simp only [List.length_append,List.length_cons,List.length_nil];omega)) | exact YG.bs 1 rfl rfl rfl (by first | omega | assumption | (simp only [List.length_append,List.length_cons,List.length_nil];omega)) | exact YG.bs 2 rfl rfl rfl (by first | omega | assumption | (simp only [List.length_append,List.length_cons,List.length_nil];omega)) | exact YG.bs 3 rfl rfl rfl (by first | omega | assumption | (simp only [List.length_append,List.length_cons,List.length_nil];omega)) | exact YG.bs 4 rfl rfl rfl (by first | omega | assumption | (simp only [List.length_append,List.length_cons,List.length_nil];omega)) | exact YG.bs 5 rfl rfl rfl (by first | omega | assumption | (simp only [List.length_append,List.length_cons,List.length_nil];omega)) | exact YG.bs 6 rfl rfl rfl (by first | omega | assumption | (simp only [List.length_append,List.length_cons,List.length_nil];omega))) | (apply K.oM;first | exact YG.fldV rfl rfl (by first | rfl | assumption) | exact YG.rP rfl rfl (by first | rfl | assumption)) | exact YG.qI 1 rfl rfl (by first | rfl | assumption) (by first | rfl | assumption)))) | (apply Ux;(· exact rfl);(· exact rfl);(· first | exact rfl | assumption);(· intro Γ;(first | exact YG.mv | exact YG.sO | (apply K.bin;first | exact YG.go rfl | exact YG.oG rfl rfl (by omega) | exact YG.oJ rfl rfl | exact YG.oY rfl rfl | exact YG.uf rfl rfl | exact YG.uG rfl rfl | exact YG.cat rfl rfl (by omega) | exact YG.cat rfl rfl (by simp only [List.length_append,List.length_cons,List.length_nil];omega) | exact YG.pI rfl rfl (by omega) | exact YG.add rfl rfl (by omega) | exact YG.sub rfl rfl (by omega) | exact YG.mul rfl rfl (by omega) | exact YG.sE rfl rfl (by omega) | exact YG.quo rfl rfl (by omega) | exact YG.rem rfl rfl (by omega) | exact YG.nc rfl rfl) | (apply K.oM;first | exact YG.rQ rfl | exact YG.rO rfl) | (apply K.ld;first | exact YG.wQ rfl (by first | rfl | assumption) | exact YG.sf rfl rfl rfl) | (apply K.len;first | exact YG.oW rfl | exact YG.pR rfl | exact YG.sj rfl | exact YG.sk rfl | exact YG.lenA rfl) | (apply K.wX;first | exact YG.su rfl | exact YG.sr rfl) | (apply K.pick;first | exact YG.uM rfl (by first | rfl | assumption) | exact YG.uL rfl (by first | rfl | assumption)) | (apply K.idx;first | exact YG.nX rfl rfl (by assumption) | exact YG.fi rfl rfl (by assumption) rfl | exact YG.fi rfl rfl (by assumption) (by omega) | exact YG.pP rfl rfl (by omega)) | exact YG.ext rfl rfl | exact YG.go rfl | (apply K.w8;first | exact YG.sD rfl rfl rfl (by omega) | exact YG.sC rfl rfl (by omega) | exact YG.sB rfl rfl (by omega) | exact YG.mK 1 rfl rfl rfl (by first | rfl | assumption)) | exact YG.pQ rfl rfl (by assumption) | exact YG.idxSC rfl rfl (by assumption) rfl | (apply K.iL;first | exact YG.mkfn0 | exact YG.iL) | exact YG.build rfl | exact YG.neg rfl (by omega) | exact YG.pL rfl rfl | exact YG.v8 rfl (by first | rfl | exact IntWalk.i64_in _ (by omega) | exact IntWalk.u8_in _ (by omega) | assumption) | exact YG.str rfl (by first | rfl | assumption)))) | (apply WJ;(· exact rfl);(· exact rfl);(· first | exact rfl | assumption);(· (first | (apply K.ld;first | exact YG.wT rfl rfl (by first | rfl | assumption) | exact YG.si rfl rfl rfl rfl | exact YG.ldV rfl rfl (by first | rfl | assumption) (by first | rfl | assumption) (by first | rfl | assumption) | exact YG.wR rfl rfl (by first | rfl | assumption) (by first | rfl | assumption) (by first | rfl | assumption)) | (apply K.idx;first | exact YG.idxV rfl rfl rfl (by first | rfl | assumption) (by omega) | exact YG.bs 0 rfl rfl rfl (by first | omega | assumption | (simp only [List.length_append,List.length_cons,List.length_nil];omega)) | exact YG.bs 1 rfl rfl rfl (by first | omega | assumption | (simp only [List.length_append,List.length_cons,List.length_nil];omega)) | exact YG.bs 2 rfl rfl rfl (by first | omega | assumption | (simp only [List.length_append,List.length_cons,List.length_nil];omega)) | exact YG.bs 3 rfl rfl rfl (by first | omega | assumption | (simp only [List.length_append,List.length_cons,List.length_nil];omega)) | exact YG.bs 4 rfl rfl rfl (by first | omega | assumption | (simp only [List.length_append,List.length_cons,List.length_nil];omega)) | exact YG.bs 5 rfl rfl rfl (by first | omega | assumption | (simp only [List.length_append,List.length_cons,List.length_nil];omega)) | exact YG.bs 6 rfl rfl rfl (by first | omega | assumption | (simp only [List.length_append,List.length_cons,List.length_nil];omega))) | (apply K.oM;first | exact YG.fldV rfl rfl (by first | rfl | assumption) | exact YG.rP rfl rfl (by first | rfl | assumption)) | exact YG.qI 1 rfl rfl (by first | rfl | assumption) (by first | rfl | assumption)))) | (apply WE;(· exact rfl);(· exact rfl);(· first | exact rfl | assumption)) | (apply WG;(· exact rfl);(· exact rfl)) | (apply WC;(· exact rfl);(· exact rfl);(· first | exact rfl | assumption);(· exact ia)) | (apply WD;(· exact rfl);(· exact rfl);(· exact ia)) | refine GO.nil ?_ | (apply OA;(· exact rfl);(· exact rfl);apply GL.alloc;(· simp only [kg,Value.cells,List.map_cons,List.map_nil];rfl);refine GL.nil (aL (et.mk ia ?_));refine nu du eB ?_) | (apply OA;(· exact rfl);(· exact rfl);apply GL.st;(· exact rfl);(· exact rfl);(· exact rfl);(· exact rfl);(· exact rfl);(· exact rfl);refine GL.nil (aL (et.mk ia ?_));refine nu du eB ?_) | (apply OA;(· exact rfl);(· exact rfl);apply GL.box;(· exact rfl);refine GL.nil (aL (et.mk ia ?_));refine nu du eB ?_));try refine Uw xF ?_));exact hQ.1):A:=s ⟨h⟩
theorem gT {A B:Prop} (h:B) (s:Hid B->A:=by intro hQ;(repeat (first | ((first | (apply GL.q;(· (first | exact YG.mv | exact YG.sO | (apply K.bin;first | exact YG.go rfl | exact YG.oG rfl rfl (by omega) | exact YG.oJ rfl rfl | exact YG.oY rfl rfl | exact YG.uf rfl rfl | exact YG.uG rfl rfl | exact YG.cat rfl rfl (by omega) | exact YG.cat rfl rfl (by simp only [List.length_append,List.length_cons,List.length_nil];omega) | exact YG.pI rfl rfl (by omega) | exact YG.add rfl rfl (by omega) | exact YG.sub rfl rfl (by omega) | exact YG.mul rfl rfl (by omega) | exact YG.sE rfl rfl (by omega) | exact YG.quo rfl rfl (by omega) | exact YG.rem rfl rfl (by omega) | exact YG.nc rfl rfl) | (apply K.oM;first | exact YG.rQ rfl | exact YG.rO rfl | exact YG.fldV rfl rfl (by first | rfl | assumption) | exact YG.rP rfl rfl (by first | rfl | assumption)) | (apply K.ld;first | exact YG.wT rfl rfl (by first | rfl | assumption) | exact YG.wQ rfl (by first | rfl | assumption) | exact YG.si rfl rfl rfl rfl | exact YG.sf rfl rfl rfl | exact YG.ldV rfl rfl (by first | rfl | assumption) (by first | rfl | assumption) (by first | rfl | assumption) | exact YG.wR rfl rfl (by first | rfl | assumption) (by first | rfl | assumption) (by first | rfl | assumption)) | (apply K.len;first | exact YG.oW rfl | exact YG.pR rfl | exact YG.sj rfl | exact YG.sk rfl | exact YG.lenA rfl) | (apply K.wX;first | exact YG.su rfl | exact YG.sr rfl) | (apply K.pick;first | exact YG.uM rfl (by first | rfl | assumption) | exact YG.uL rfl (by first | rfl | assumption)) | (apply K.idx;first | exact YG.nX rfl rfl (by assumption) | exact YG.fi rfl rfl (by assumption) rfl | exact YG.fi rfl rfl (by assumption) (by omega) | exact YG.pP rfl rfl (by omega) | exact YG.idxV rfl rfl rfl (by first | rfl | assumption) (by omega) | exact YG.bs 0 rfl rfl rfl (by first | omega | assumption | (simp only [List.length_append,List.length_cons,List.length_nil];omega)) | exact YG.bs 1 rfl rfl rfl (by first | omega | assumption | (simp only [List.length_append,List.length_cons,List.length_nil];omega)) | exact YG.bs 2 rfl rfl rfl (by first | omega | assumption | (simp only [List.length_append,List.length_cons,List.length_nil];omega)) | exact YG.bs 3 rfl rfl rfl (by first | omega | assumption | (simp only [List.length_append,List.length_cons,List.length_nil];omega)) | exact YG.bs 4 rfl rfl rfl (by first | omega | assumption | (simp only [List.length_append,List.length_cons,List.length_nil];omega)) | exact YG.bs 5 rfl rfl rfl (by first | omega | assumption | (simp only [List.length_append,List.length_cons,List.length_nil];omega)) | exact YG.bs 6 rfl rfl rfl (by first | omega | assumption | (simp only [List.length_append,List.length_cons,List.length_nil];omega))) | exact YG.ext rfl rfl | exact YG.go rfl | (apply K.w8;first | exact YG.sD rfl rfl rfl (by omega) | exact YG.sC rfl rfl (by omega) | exact YG.sB rfl rfl (by omega) | exact YG.mK 1 rfl rfl rfl (by first | rfl | assumption)) | exact YG.pQ rfl rfl (by assumption) | exact YG.idxSC rfl rfl (by assumption) rfl | fail | exact YG.build rfl | exact YG.neg rfl (by omega) | exact YG.pL rfl rfl | exact YG.v8 rfl (by first | rfl | exact IntWalk.i64_in _ (by omega) | exact IntWalk.u8_in _ (by omega) | assumption) | exact YG.str rfl (by first | rfl | assumption)))) | refine GL.nil ?_ | refine aL ?_ | refine GW.seq ?_ | refine GW.region ?_ | refine GW.skip ?_ | refine bX ?_ | refine GW.block ?_ | (apply GL.gt;(· exact rfl);(· first | exact rfl | assumption)) | (apply GL.gf;(· exact rfl);(· first | exact rfl | assumption)) | (apply GL.gu;(· exact rfl)) | (apply Oc;(· exact rfl);(· first | exact rfl | assumption)) | (apply Oa;(· exact rfl);(· first | exact rfl | assumption)));try refine GN xF ?_) | ((first | (apply GL.alloc;(· simp only [kg,Value.cells,List.map_cons,List.map_nil];rfl)) | (apply GL.box;(· exact rfl)) | (apply GL.st;(· exact rfl);(· exact rfl);(· exact rfl);(· exact rfl);(· exact rfl);(· exact rfl)));refine sK du eB ?_)));exact hQ.1):A:=s ⟨h⟩
theorem Hs {A B:Prop} (h:B) (s:Hid B->A:=by intro hQ;(repeat (first | ((first | (apply GL.q;(· (first | exact YG.mv | exact YG.sO | (apply K.bin;first | exact YG.go rfl | exact YG.oG rfl rfl (by omega) | exact YG.oJ rfl rfl | exact YG.oY rfl rfl | exact YG.uf rfl rfl | exact YG.uG rfl rfl | exact YG.cat rfl rfl (by omega) | exact YG.cat rfl rfl (by simp only [List.length_append,List.length_cons,List.length_nil];omega) | exact YG.pI rfl rfl (by omega) | exact YG.add rfl rfl (by omega) | exact YG.sub rfl rfl (by omega) | exact YG.mul rfl rfl (by omega) | exact YG.sE rfl rfl (by omega) | exact YG.quo rfl rfl (by omega) | exact YG.rem rfl rfl (by omega) | exact YG.nc rfl rfl) | (apply K.oM;first | exact YG.rQ rfl | exact YG.rO rfl | exact YG.fldV rfl rfl (by first | rfl | assumption) | exact YG.rP rfl rfl (by first | rfl | assumption)) | (apply K.ld;first | exact YG.wT rfl rfl (by first | rfl | assumption) | exact YG.wQ rfl (by first | rfl | assumption) | exact YG.si rfl rfl rfl rfl | exact YG.sf rfl rfl rfl | exact YG.ldV rfl rfl (by first | rfl | assumption) (by first | rfl | assumption) (by first | rfl | assumption) | exact YG.wR rfl rfl (by first | rfl | assumption) (by first | rfl | assumption) (by first | rfl | assumption)) | (apply K.len;first | exact YG.oW rfl | exact YG.pR rfl | exact YG.sj rfl | exact YG.sk rfl | exact YG.lenA rfl) | (apply K.wX;first | exact YG.su rfl | exact YG.sr rfl) | (apply K.pick;first | exact YG.uM rfl (by first | rfl | assumption) | exact YG.uL rfl (by first | rfl | assumption)) | (apply K.idx;first | exact YG.nX rfl rfl (by assumption) | exact YG.fi rfl rfl (by assumption) rfl | exact YG.fi rfl rfl (by assumption) (by omega) | exact YG.pP rfl rfl (by omega) | exact YG.idxV rfl rfl rfl (by first | rfl | assumption) (by omega) | exact YG.bs 0 rfl rfl rfl (by first | omega | assumption | (simp only [List.length_append,List.length_cons,List.length_nil];omega)) | exact YG.bs 1 rfl rfl rfl (by first | omega | assumption | (simp only [List.length_append,List.length_cons,List.length_nil];omega)) | exact YG.bs 2 rfl rfl rfl (by first | omega | assumption | (simp only [List.length_append,List.length_cons,List.length_nil];omega)) | exact YG.bs 3 rfl rfl rfl (by first | omega | assumption | (simp only [List.length_append,List.length_cons,List.length_nil];omega)) | exact YG.bs 4 rfl rfl rfl (by first | omega | assumption | (simp only [List.length_append,List.length_cons,List.length_nil];omega)) | exact YG.bs 5 rfl rfl rfl (by first | omega | assumption | (simp only [List.length_append,List.length_cons,List.length_nil];omega)) | exact YG.bs 6 rfl rfl rfl (by first | omega | assumption | (simp only [List.length_append,List.length_cons,List.length_nil];omega))) | exact YG.ext rfl rfl | exact YG.go rfl | (apply K.w8;first | exact YG.sD rfl rfl rfl (by omega) | exact YG.sC rfl rfl (by omega) | exact YG.sB rfl rfl (by omega) | exact YG.mK 1 rfl rfl rfl (by first | rfl | assumption)) | exact YG.pQ rfl rfl (by assumption) | exact YG.idxSC rfl rfl (by assumption) rfl | (apply K.iL;first | exact YG.mkfn0 | exact YG.iL) | exact YG.build rfl | exact YG.neg rfl (by omega) | exact YG.pL rfl rfl | exact YG.v8 rfl (by first | rfl | exact IntWalk.i64_in _ (by omega) | exact IntWalk.u8_in _ (by omega) | assumption) | exact YG.str rfl (by first | rfl | assumption)))) | refine GL.nil ?_ | refine aL ?_ | refine GW.seq ?_ | refine GW.region ?_ | refine GW.skip ?_ | refine bX ?_ | (apply GL.gt;(· exact rfl);(· first | exact rfl | assumption)) | (apply GL.gf;(· exact rfl);(· first | exact rfl | assumption)) | (apply GL.gu;(· exact rfl)) | (apply Oc;(· exact rfl);(· first | exact rfl | assumption)) | (apply Oa;(· exact rfl);(· first | exact rfl | assumption)));try refine GN xF ?_) | ((first | (apply GL.alloc;(· simp only [kg,Value.cells,List.map_cons,List.map_nil];rfl)) | (apply GL.box;(· exact rfl)) | (apply GL.st;(· exact rfl);(· exact rfl);(· exact rfl);(· exact rfl);(· exact rfl);(· exact rfl)));refine sK du eB ?_)));exact hQ.1):A:=s ⟨h⟩
theorem cy {A B:Prop} (h:B) (s:Hid B->A:=by intro hQ;(try refine GN xF ?_);exact hQ.1):A:=s ⟨h⟩
theorem Pa {A B:Prop} (h:B) (s:Hid B->A:=by intro hQ;(try refine Uw xF ?_);exact hQ.1):A:=s ⟨h⟩
theorem cL {A B:Prop} (h:B) (s:Hid B->A:=by intro hQ;(refine sK du eB ?_);exact hQ.1):A:=s ⟨h⟩
theorem LY {A B:Prop} (h:B) (s:Hid B->A:=by intro hQ;(refine nu du eB ?_);exact hQ.1):A:=s ⟨h⟩
theorem aU {A B:Prop} (h:B) (s:Hid B->A:=by intro hQ;((repeat (first | refine GW.exit ?_ | refine Dh ?_ | refine Gg ?_ | refine ginb_xn rfl ?_ | refine bX ?_ | refine aL ?_)));exact hQ.1):A:=s ⟨h⟩
theorem bK {A B:Prop} (h:B) (s:Hid B->A:=by intro hQ;((repeat (first | refine GW.ret ?_ | refine cI ?_ | refine cH ?_ | refine aL ?_ | refine bX ?_));refine pM rfl (by first | exact .inr rfl | exact .inl rfl) rfl (Nat.le_refl _) rfl rfl ?_);exact hQ.1):A:=s ⟨h⟩
theorem cE {A B:Prop} (h:B) (s:Hid B->A:=by intro hQ;((repeat (first | refine GW.ret ?_ | refine cI ?_ | refine cH ?_ | refine aL ?_ | refine bX ?_));refine Q5 rfl (by first | exact .inr rfl | exact .inl rfl) (Nat.le_refl _) rfl ?_);exact hQ.1):A:=s ⟨h⟩
theorem xG {A B:Prop} (h:B) (s:Hid B->A:=by intro hQ;((repeat (first | refine GW.ret ?_ | refine cI ?_ | refine cH ?_ | refine aL ?_ | refine bX ?_));refine Q6 rfl (by first | exact .inr rfl | exact .inl rfl) rfl rfl (Nat.le_refl _) rfl rfl ?_);exact hQ.1):A:=s ⟨h⟩
theorem Hq {A B:Prop} (h:B) (s:Hid B->A:=by intro hQ;((repeat (first | refine GW.ret ?_ | refine cI ?_ | refine cH ?_ | refine aL ?_ | refine bX ?_));refine Q7 rfl (by first | exact .inr rfl | exact .inl rfl) rfl rfl rfl (Nat.le_refl _) rfl rfl ?_);exact hQ.1):A:=s ⟨h⟩
theorem qc {A B:Prop} (h:B) (s:Hid B->A:=by intro hQ;((repeat (first | refine GW.ret ?_ | refine cI ?_ | refine cH ?_ | refine aL ?_ | refine bX ?_));refine zp ?_;refine Q7 rfl (by first | exact .inr rfl | exact .inl rfl) rfl rfl rfl (Nat.le_refl _) rfl rfl ?_);exact hQ.1):A:=s ⟨h⟩
theorem EO {A B:Prop} (h:B) (s:Hid B->A:=by intro hQ;((repeat (first | refine GW.ret ?_ | refine cI ?_ | refine cH ?_ | refine aL ?_ | refine bX ?_));refine zp ?_;refine Q6 rfl (by first | exact .inr rfl | exact .inl rfl) rfl rfl (Nat.le_refl _) rfl rfl ?_);exact hQ.1):A:=s ⟨h⟩
theorem qd {A B:Prop} (h:B) (s:Hid B->A:=by intro hQ;((repeat (first | refine GW.ret ?_ | refine cI ?_ | refine cH ?_ | refine aL ?_ | refine bX ?_));refine zp ?_;refine Q8 rfl (by first | exact .inr rfl | exact .inl rfl) rfl rfl rfl (Nat.le_refl _) rfl rfl ?_);exact hQ.1):A:=s ⟨h⟩
theorem jt {A B:Prop} (h:B) (s:Hid B->A:=by intro hQ;((repeat (first | refine GW.ret ?_ | refine cI ?_ | refine cH ?_ | refine aL ?_ | refine bX ?_));refine Tw rfl (by first | exact .inr rfl | exact .inl rfl) rfl rfl rfl rfl (Nat.le_refl _) rfl rfl ?_);exact hQ.1):A:=s ⟨h⟩
theorem lq {A B:Prop} (h:B) (s:Hid B->A:=by intro hQ;((repeat (first | refine GW.ret ?_ | refine cI ?_ | refine cH ?_ | refine aL ?_ | refine bX ?_));refine J9 rfl (by first | exact .inr rfl | exact .inl rfl) rfl rfl rfl rfl rfl (Nat.le_refl _) rfl rfl ?_);exact hQ.1):A:=s ⟨h⟩
theorem Ak {A B:Prop} (h:B) (s:Hid B->A:=by intro hQ;((repeat (first | refine GW.ret ?_ | refine cI ?_ | refine cH ?_ | refine aL ?_ | refine bX ?_));refine zp ?_;refine J9 rfl (by first | exact .inr rfl | exact .inl rfl) rfl rfl rfl rfl rfl (Nat.le_refl _) rfl rfl ?_);exact hQ.1):A:=s ⟨h⟩
theorem Hr {A B:Prop} (h:B) (s:Hid B->A:=by intro hQ;((repeat (first | refine GW.ret ?_ | refine cI ?_ | refine cH ?_ | refine aL ?_ | refine bX ?_));refine Q8 rfl (by first | exact .inr rfl | exact .inl rfl) rfl rfl rfl (Nat.le_refl _) rfl rfl ?_);exact hQ.1):A:=s ⟨h⟩
theorem bJ {A B:Prop} (h:B) (s:Hid B->A:=by intro hQ;(refine GL.Vg rfl rfl rfl rfl ?_;refine sK du eB ?_);exact hQ.1):A:=s ⟨h⟩
theorem nT {A B:Prop} (h:B) (s:Hid B->A:=by intro hQ;(refine GL.Vh rfl rfl rfl rfl ?_;refine sK du eB ?_);exact hQ.1):A:=s ⟨h⟩
theorem dX {A B:Prop} (h:B) (s:Hid B->A:=by intro hQ;(refine GL.push rfl rfl rfl rfl rfl rfl rfl rfl (by first | rfl | assumption) ⟨⟨by omega,by omega⟩,by decide⟩ ?_;refine sK du eB ?_);exact hQ.1):A:=s ⟨h⟩
theorem rA {A B:Prop} (h:B) (s:Hid B->A:=by intro hQ;(refine OA rfl rfl (GL.Vh rfl rfl rfl rfl (GL.nil (aL (et.mk ia ?_))));refine nu du eB ?_);exact hQ.1):A:=s ⟨h⟩
theorem rz {A B:Prop} (h:B) (s:Hid B->A:=by intro hQ;(refine OA rfl rfl (GL.app rfl rfl rfl (by first | rfl | assumption) rfl rfl (by refine ⟨?_,?_⟩;(· show _+1<=_;omega);(· show (_+1) * _<=_;omega)) (GL.nil (aL (et.mk ia ?_))));refine nu du eB ?_);exact hQ.1):A:=s ⟨h⟩
theorem dv {A B:Prop} (h:B) (s:Hid B->A:=by intro hQ;(refine OA rfl rfl (GL.Vg rfl rfl rfl rfl (GL.nil (aL (et.mk ia ?_))));refine nu du eB ?_);exact hQ.1):A:=s ⟨h⟩
theorem EN {A B:Prop} (h:B) (s:Hid B->A:=by intro hQ;(refine OA rfl rfl (GL.st rfl rfl rfl rfl rfl rfl (GL.nil (aL (et.mk ia ?_))));refine nu du eB ?_);exact hQ.1):A:=s ⟨h⟩
theorem I5 {A B:Prop} (h:B) (s:Hid B->A:=by intro hQ;(refine OA rfl rfl (GL.LV 1 (by kernel_rfl) (by kernel_rfl) rfl rfl rfl rfl (by assumption) (by omega) (GL.nil (aL (et.mk ia ?_))));refine nu du eB ?_);exact hQ.1):A:=s ⟨h⟩
theorem nU {A B:Prop} (h:B) (s:Hid B->A:=by intro hQ;(refine GL.Ys rfl rfl rfl (by first | rfl | assumption) rfl rfl rfl rfl ?_;refine sK du eB ?_);exact hQ.1):A:=s ⟨h⟩
theorem jK {A B:Prop} (h:B) (s:Hid B->A:=by intro hQ;(refine GL.Wv rfl rfl (by first | rfl | assumption | omega) (by omega) rfl rfl rfl rfl ?_;refine sK du eB ?_);exact hQ.1):A:=s ⟨h⟩
theorem da {A B:Prop} (h:B) (s:Hid B->A:=by intro hQ;(refine ⟨by simp,?_⟩;refine sK du eB ?_);exact hQ.1):A:=s ⟨h⟩
theorem de {A B:Prop} (h:B) (s:Hid B->A:=by intro hQ;(refine GL.nil (aL (et.mk ia ?_));refine nu du eB ?_);exact hQ.1):A:=s ⟨h⟩
theorem nk {A:Prop} (s:A:=by simp only [aJ,rm];rfl):A:=s
theorem iy {A:Prop} (s:A:=by first | exact ki.refl | exact lI.refl | (repeat (first | exact ki.nil | exact lI.refl | exact lI.nil | exact lI.Zy | exact lI.fn0 | refine ki.cons ?_ ?_ | refine lI.agg ?_ | refine lI.tup ?_))):A:=s
theorem al {A:Prop} (s:A:=by repeat (first | exact rH.nil | refine rH.Zy ?_ | refine rH.eq rfl ?_)):A:=s
theorem fQ {A B C:Prop} (aK:List Nat) (c:C) (h:B) (s:rD aK C->Hid B->A:=by intro hC hQ;(refine GL.ud hC lG rfl kh rfl ?_;refine sK du eB ?_);exact hQ.1):A:=s ⟨c⟩ ⟨h⟩
theorem U {A B C:Prop} (aK:List Nat) (c:C) (h:B) (s:rD aK C->Hid B->A:=by intro hC hQ;(refine GL.ud hC lG rfl kh rfl ?_;refine sK du eB ?_);refine ab ?_;exact hQ.1):A:=s ⟨c⟩ ⟨h⟩
theorem vK {A B C:Prop} (aK:List Nat) (c:C) (h:B) (s:rD aK C->Hid B->A:=by intro hC hQ;(refine OA rfl rfl (GL.ud hC lG rfl kh rfl (GL.nil (aL (et.mk ia ?_))));refine nu du eB ?_);exact hQ.1):A:=s ⟨c⟩ ⟨h⟩
theorem aC {A B C:Prop} (aK:List Nat) (c:C) (h:B) (s:rD aK C->Hid B->A:=by intro hC hQ;(refine OA rfl rfl (GL.ud hC lG rfl kh rfl (GL.nil (aL (et.mk ia ?_))));refine nu du eB ?_);refine aj ?_;exact hQ.1):A:=s ⟨c⟩ ⟨h⟩
theorem Vk {A B C:Prop} (aK:List Nat) (c:C) (h:B) (s:rD aK C->Hid B->A:=by intro hC hQ;(refine Of rfl rfl rfl (by first | exact rfl | assumption) (GL.ud hC lG rfl kh rfl (GL.nil (aL (et.mk ia ?_))));refine nu du eB ?_);exact hQ.1):A:=s ⟨c⟩ ⟨h⟩
theorem bz {A B C:Prop} (aK:List Nat) (c:C) (h:B) (s:rD aK C->Hid B->A:=by intro hC hQ;(refine Of rfl rfl rfl (by first | exact rfl | assumption) (GL.ud hC lG rfl kh rfl (GL.nil (aL (et.mk ia ?_))));refine nu du eB ?_);refine aj ?_;exact hQ.1):A:=s ⟨c⟩ ⟨h⟩
theorem gR {A B C:Prop} (aK:List Nat) (c:C) (h:B) (s:rD aK C->Hid B->A:=by intro hC hQ;(refine GL.Jw hC rfl rfl rfl kh ?_;rintro _ _ ⟨rfl,rfl⟩;refine ⟨by simp,?_⟩;refine sK du eB ?_);exact hQ.1):A:=s ⟨c⟩ ⟨h⟩
theorem mR {A B C:Prop} (aK:List Nat) (c:C) (h:B) (s:rD aK C->Hid B->A:=by intro hC hQ;(refine GL.Jx hC rfl rfl rfl kh ?_;rintro _ _ ⟨rfl,rfl⟩;refine ⟨by simp,?_⟩;refine sK du eB ?_);exact hQ.1):A:=s ⟨c⟩ ⟨h⟩
theorem xc {A B C:Prop} (aK:List Nat) (c:C) (h:B) (s:rD aK C->Hid B->A:=by intro hC hQ;(refine OA rfl rfl (GL.Jw hC rfl rfl rfl kh ?_);rintro _ _ ⟨rfl,rfl⟩;refine ⟨by simp,(GL.nil (aL (et.mk ia ?_)))⟩;refine nu du eB ?_);exact hQ.1):A:=s ⟨c⟩ ⟨h⟩
theorem mT {A B C:Prop} (aK:List Nat) (c:C) (h:B) (s:rD aK C->Hid B->A:=by intro hC hQ;(refine OA rfl rfl (GL.Jx hC rfl rfl rfl kh ?_);rintro _ _ ⟨rfl,rfl⟩;refine ⟨by simp,(GL.nil (aL (et.mk ia ?_)))⟩;refine nu du eB ?_);exact hQ.1):A:=s ⟨c⟩ ⟨h⟩
theorem bZ {A B C:Prop} (aK:List Nat) (c:C) (h:B) (s:rD aK C->Hid B->A:=by intro hC hQ;(refine GL.QP hC lG rfl kh ?_);exact hQ.1):A:=s ⟨c⟩ ⟨h⟩
theorem cP {A B C D : Prop} (f : C) (n : D) (h : B) (s : C -> D -> Hid B -> A := by intro hC hD hQ;refine GC.enter hC hD rfl (by simp only [wh,Dg,Nat.reduceSub];rfl) ?_;exact hQ.1) : A := s f n ⟨h⟩
theorem ai {A B C D : Prop} (f : C) (n : D) (h : B) (s : C -> D -> Hid B -> A := by intro hC hD hQ;refine GC.enter hC hD rfl (by simp only [wh,Dg,Nat.reduceSub];rfl) ?_;refine ab ?_;exact hQ.1) : A := s f n ⟨h⟩
theorem ao {A : Prop} (s : A := by refine bK ?_;exact ⟨rfl,rfl⟩) : A := s
theorem av {A : Prop} (s : A := by refine ab ?_;refine bK ?_;exact ⟨rfl,rfl⟩) : A := s
theorem eX {A : Prop} (s : A := by refine cE ?_;exact ⟨rfl,rfl⟩) : A := s
theorem gS {A : Prop} (s : A := by refine ab ?_;refine cE ?_;exact ⟨rfl,rfl⟩) : A := s
theorem lH {A : Prop} (s : A := by refine xG ?_;exact ⟨rfl,rfl⟩) : A := s
theorem qb {A : Prop} (s : A := by refine ab ?_;refine xG ?_;exact ⟨rfl,rfl⟩) : A := s
theorem df {A : Prop} (s : A := by refine Hr ?_;exact ⟨rfl,rfl⟩) : A := s
theorem jr {A : Prop} (s : A := by refine ab ?_;refine Hr ?_;exact ⟨rfl,rfl⟩) : A := s
theorem ak {A : Prop} (s : A := by kernel_rfl) : A := s
theorem ah {A : Prop} (s : A := by omega) : A := s
end Go.Xg
namespace Go.Xw
open Go.Proofs
instance:aB Tryz.prog 8:=⟨Go.Xg.ak⟩
instance:aB Tryz.prog 9:=⟨Go.Xg.ak⟩
instance:aB Tryz.prog 10:=⟨Go.Xg.ak⟩
instance:aB Tryz.prog 11:=⟨Go.Xg.ak⟩
instance:aB Tryz.prog 12:=⟨Go.Xg.ak⟩
instance:aB Tryz.prog 19:=⟨Go.Xg.ak⟩
instance:aB Tryz.prog 20:=⟨Go.Xg.ak⟩
instance:aB Tryz.prog 21:=⟨Go.Xg.ak⟩
instance:aB Tryz.prog 22:=⟨Go.Xg.ak⟩
instance:aB Tryz.prog 23:=⟨Go.Xg.ak⟩
instance:aB Tryz.prog 24:=⟨Go.Xg.ak⟩
instance:aB Tryz.prog 25:=⟨Go.Xg.ak⟩
instance:aB Tryz.prog 26:=⟨Go.Xg.ak⟩
instance:aB Tryz.prog 27:=⟨Go.Xg.ak⟩
instance:aB Tryz.prog 28:=⟨Go.Xg.ak⟩
instance:aB Tryz.prog 29:=⟨Go.Xg.ak⟩
instance:aB Tryz.prog 30:=⟨Go.Xg.ak⟩
instance:aB Tryz.prog 31:=⟨Go.Xg.ak⟩
instance:aB Tryz.prog 32:=⟨Go.Xg.ak⟩
instance:aB Tryz.prog 33:=⟨Go.Xg.ak⟩
instance:aB Tryz.prog 34:=⟨Go.Xg.ak⟩
instance:aB Tryz.prog 35:=⟨Go.Xg.ak⟩
instance:aB Tryz.prog 36:=⟨Go.Xg.ak⟩
instance:aB Tryz.prog 37:=⟨Go.Xg.ak⟩
instance:aB Tryz.prog 38:=⟨Go.Xg.ak⟩
instance:aB Tryz.prog 39:=⟨Go.Xg.ak⟩
instance:aB Tryz.prog 40:=⟨Go.Xg.ak⟩
instance:aB Tryz.prog 41:=⟨Go.Xg.ak⟩
instance:aB Tryz.prog 43:=⟨Go.Xg.ak⟩
instance:aB Tryz.prog 44:=⟨Go.Xg.ak⟩
instance:aB Tryz.prog 46:=⟨Go.Xg.ak⟩
instance:aB Tryz.prog 47:=⟨Go.Xg.ak⟩
instance:aB Tryz.prog 48:=⟨Go.Xg.ak⟩
instance:aB Tryz.prog 49:=⟨Go.Xg.ak⟩
instance:aB Tryz.prog 50:=⟨Go.Xg.ak⟩
instance:aB Tryz.prog 51:=⟨Go.Xg.ak⟩
instance:aB Tryz.prog 52:=⟨Go.Xg.ak⟩
instance:aB Tryz.prog 53:=⟨Go.Xg.ak⟩
instance:aB Tryz.prog 54:=⟨Go.Xg.ak⟩
instance:aB Tryz.prog 55:=⟨Go.Xg.ak⟩
instance:aB Tryz.prog 56:=⟨Go.Xg.ak⟩
instance:aB Tryz.prog 57:=⟨Go.Xg.ak⟩
instance:aB Tryz.prog 58:=⟨Go.Xg.ak⟩
instance:aB Tryz.prog 59:=⟨Go.Xg.ak⟩
instance:aB Tryz.prog 60:=⟨Go.Xg.ak⟩
instance:aB Tryz.prog 61:=⟨Go.Xg.ak⟩
instance:aB Tryz.prog 62:=⟨Go.Xg.ak⟩
instance:aB Tryz.prog 63:=⟨Go.Xg.ak⟩
instance:aB Tryz.prog 64:=⟨Go.Xg.ak⟩
instance:aB Tryz.prog 65:=⟨Go.Xg.ak⟩
instance:aB Tryz.prog 66:=⟨Go.Xg.ak⟩
instance:aB Tryz.prog 67:=⟨Go.Xg.ak⟩
instance:aB Tryz.prog 68:=⟨Go.Xg.ak⟩
instance:aB Tryz.prog 69:=⟨Go.Xg.ak⟩
instance:aB Tryz.prog 70:=⟨Go.Xg.ak⟩
instance:aB Tryz.prog 71:=⟨Go.Xg.ak⟩
instance:aB Tryz.prog 72:=⟨Go.Xg.ak⟩
instance:aB Tryz.prog 73:=⟨Go.Xg.ak⟩
instance:aB Tryz.prog 74:=⟨Go.Xg.ak⟩
instance:aB Tryz.prog 76:=⟨Go.Xg.ak⟩
instance:aB Tryz.prog 77:=⟨Go.Xg.ak⟩
instance:aB Tryz.prog 78:=⟨Go.Xg.ak⟩
instance:aB Tryz.prog 79:=⟨Go.Xg.ak⟩
instance:aB Tryz.prog 80:=⟨Go.Xg.ak⟩
instance:aB Tryz.prog 81:=⟨Go.Xg.ak⟩
instance:aB Tryz.prog 82:=⟨Go.Xg.ak⟩
instance:aB Tryz.prog 83:=⟨Go.Xg.ak⟩
instance:aB Tryz.prog 84:=⟨Go.Xg.ak⟩
instance:aB Tryz.prog 85:=⟨Go.Xg.ak⟩
instance:aB Tryz.prog 86:=⟨Go.Xg.ak⟩
instance:aB Tryz.prog 87:=⟨Go.Xg.ak⟩
instance:aB Tryz.prog 88:=⟨Go.Xg.ak⟩
instance:aB Tryz.prog 89:=⟨Go.Xg.ak⟩
instance:aB Tryz.prog 90:=⟨Go.Xg.ak⟩
instance:aB Tryz.prog 91:=⟨Go.Xg.ak⟩
instance:aB Tryz.prog 92:=⟨Go.Xg.ak⟩
instance:aB Tryz.prog 93:=⟨Go.Xg.ak⟩
instance:aB Tryz.prog 94:=⟨Go.Xg.ak⟩
instance:aB Tryz.prog 95:=⟨Go.Xg.ak⟩
instance:aB Tryz.prog 96:=⟨Go.Xg.ak⟩
instance:aB Tryz.prog 97:=⟨Go.Xg.ak⟩
instance:aB Tryz.prog 98:=⟨Go.Xg.ak⟩
instance:aB Tryz.prog 99:=⟨Go.Xg.ak⟩
instance:aB Tryz.prog 100:=⟨Go.Xg.ak⟩
instance:aB Tryz.prog 101:=⟨Go.Xg.ak⟩
instance:aB Tryz.prog 102:=⟨Go.Xg.ak⟩
instance:aB Tryz.prog 103:=⟨Go.Xg.ak⟩
instance:aB Tryz.prog 104:=⟨Go.Xg.ak⟩
instance:aB Tryz.prog 105:=⟨Go.Xg.ak⟩
instance:aB Tryz.prog 106:=⟨Go.Xg.ak⟩
instance:aB Tryz.prog 107:=⟨Go.Xg.ak⟩
instance:aB Tryz.prog 108:=⟨Go.Xg.ak⟩
instance:aB Tryz.prog 109:=⟨Go.Xg.ak⟩
instance:aB Tryz.prog 110:=⟨Go.Xg.ak⟩
instance:aB Tryz.prog 111:=⟨Go.Xg.ak⟩
instance:aB Tryz.prog 112:=⟨Go.Xg.ak⟩
instance:aB Tryz.prog 113:=⟨Go.Xg.ak⟩
instance:aB Tryz.prog 114:=⟨Go.Xg.ak⟩
instance:aB Tryz.prog 115:=⟨Go.Xg.ak⟩
instance:aB Tryz.prog 116:=⟨Go.Xg.ak⟩
instance:aB Tryz.prog 117:=⟨Go.Xg.ak⟩
instance:aB Tryz.prog 118:=⟨Go.Xg.ak⟩
instance:aB Tryz.prog 119:=⟨Go.Xg.ak⟩
instance:aB Tryz.prog 120:=⟨Go.Xg.ak⟩
instance:aB Tryz.prog 121:=⟨Go.Xg.ak⟩
instance:aB Tryz.prog 122:=⟨Go.Xg.ak⟩
instance:aB Tryz.prog 123:=⟨Go.Xg.ak⟩
instance:aB Tryz.prog 124:=⟨Go.Xg.ak⟩
instance:aB Tryz.prog 125:=⟨Go.Xg.ak⟩
instance:aB Tryz.prog 126:=⟨Go.Xg.ak⟩
instance:aB Tryz.prog 127:=⟨Go.Xg.ak⟩
instance:aB Tryz.prog 128:=⟨Go.Xg.ak⟩
instance:aB Tryz.prog 129:=⟨Go.Xg.ak⟩
instance:aB Tryz.prog 130:=⟨Go.Xg.ak⟩
instance:aB Tryz.prog 131:=⟨Go.Xg.ak⟩
instance:aB Tryz.prog 132:=⟨Go.Xg.ak⟩
instance:aB Tryz.prog 133:=⟨Go.Xg.ak⟩
instance:aB Tryz.prog 134:=⟨Go.Xg.ak⟩
instance:aB Tryz.prog 135:=⟨Go.Xg.ak⟩
instance:aB Tryz.prog 136:=⟨Go.Xg.ak⟩
instance:aB Tryz.prog 137:=⟨Go.Xg.ak⟩
instance:aB Tryz.prog 138:=⟨Go.Xg.ak⟩
instance:aB Tryz.prog 139:=⟨Go.Xg.ak⟩
instance:aB Tryz.prog 140:=⟨Go.Xg.ak⟩
instance:aB Tryz.prog 141:=⟨Go.Xg.ak⟩
instance:aB Tryz.prog 142:=⟨Go.Xg.ak⟩
instance:aB Tryz.prog 143:=⟨Go.Xg.ak⟩
instance:aB Tryz.prog 144:=⟨Go.Xg.ak⟩
instance:aB Tryz.prog 145:=⟨Go.Xg.ak⟩
instance:aB Tryz.prog 146:=⟨Go.Xg.ak⟩
instance:aB Tryz.prog 147:=⟨Go.Xg.ak⟩
instance:aB Tryz.prog 148:=⟨Go.Xg.ak⟩
instance:aB Tryz.prog 149:=⟨Go.Xg.ak⟩
instance:aB Tryz.prog 150:=⟨Go.Xg.ak⟩
instance:aB Tryz.prog 151:=⟨Go.Xg.ak⟩
instance:aB Tryz.prog 152:=⟨Go.Xg.ak⟩
instance:aB Tryz.prog 153:=⟨Go.Xg.ak⟩
instance:aB Tryz.prog 154:=⟨Go.Xg.ak⟩
instance:aB Tryz.prog 155:=⟨Go.Xg.ak⟩
instance:aB Tryz.prog 156:=⟨Go.Xg.ak⟩
instance:aB Tryz.prog 157:=⟨Go.Xg.ak⟩
instance:aB Tryz.prog 158:=⟨Go.Xg.ak⟩
instance:aB Tryz.prog 159:=⟨Go.Xg.ak⟩
instance:aB Tryz.prog 160:=⟨Go.Xg.ak⟩
instance:aB Tryz.prog 162:=⟨Go.Xg.ak⟩
instance:aB Tryz.prog 163:=⟨Go.Xg.ak⟩
instance:aB Tryz.prog 164:=⟨Go.Xg.ak⟩
instance:aB Tryz.prog 165:=⟨Go.Xg.ak⟩
instance:aB Tryz.prog 166:=⟨Go.Xg.ak⟩
instance:aB Tryz.prog 167:=⟨Go.Xg.ak⟩
instance:aB Tryz.prog 168:=⟨Go.Xg.ak⟩
instance:aB Tryz.prog 170:=⟨Go.Xg.ak⟩
instance:aB Tryz.prog 172:=⟨Go.Xg.ak⟩
instance:aB Tryz.prog 173:=⟨Go.Xg.ak⟩
instance:aB Tryz.prog 174:=⟨Go.Xg.ak⟩
instance:aB Tryz.prog 175:=⟨Go.Xg.ak⟩
instance:aB Tryz.prog 176:=⟨Go.Xg.ak⟩
instance:aB Tryz.prog 177:=⟨Go.Xg.ak⟩
instance:aB Tryz.prog 178:=⟨Go.Xg.ak⟩
instance:aB Tryz.prog 179:=⟨Go.Xg.ak⟩
instance:aB Tryz.prog 180:=⟨Go.Xg.ak⟩
instance:aB Tryz.prog 181:=⟨Go.Xg.ak⟩
instance:aB Tryz.prog 182:=⟨Go.Xg.ak⟩
instance:aB Tryz.prog 183:=⟨Go.Xg.ak⟩
instance:aB Tryz.prog 184:=⟨Go.Xg.ak⟩
instance:aB Tryz.prog 185:=⟨Go.Xg.ak⟩
instance:aB Tryz.prog 186:=⟨Go.Xg.ak⟩
instance:aB Tryz.prog 187:=⟨Go.Xg.ak⟩
instance:aB Tryz.prog 188:=⟨Go.Xg.ak⟩
instance:aB Tryz.prog 189:=⟨Go.Xg.ak⟩
instance:aB Tryz.prog 190:=⟨Go.Xg.ak⟩
instance:aB Tryz.prog 191:=⟨Go.Xg.ak⟩
instance:aB Tryz.prog 192:=⟨Go.Xg.ak⟩
instance:aB Tryz.prog 193:=⟨Go.Xg.ak⟩
instance:aB Tryz.prog 194:=⟨Go.Xg.ak⟩
instance:aB Tryz.prog 195:=⟨Go.Xg.ak⟩
instance:aB Tryz.prog 196:=⟨Go.Xg.ak⟩
instance:aB Tryz.prog 197:=⟨Go.Xg.ak⟩
instance:aB Tryz.prog 198:=⟨Go.Xg.ak⟩
instance:aB Tryz.prog 199:=⟨Go.Xg.ak⟩
instance:aB Tryz.prog 200:=⟨Go.Xg.ak⟩
instance:aB Tryz.prog 202:=⟨Go.Xg.ak⟩
instance:aB Tryz.prog 204:=⟨Go.Xg.ak⟩
instance:aB Tryz.prog 209:=⟨Go.Xg.ak⟩
instance:aB Tryz.prog 210:=⟨Go.Xg.ak⟩
instance:aB Tryz.prog 211:=⟨Go.Xg.ak⟩
instance:aB Tryz.prog 212:=⟨Go.Xg.ak⟩
instance:aB Tryz.prog 213:=⟨Go.Xg.ak⟩
instance:aB Tryz.prog 214:=⟨Go.Xg.ak⟩
instance:aB Tryz.prog 215:=⟨Go.Xg.ak⟩
instance:aB Tryz.prog 216:=⟨Go.Xg.ak⟩
instance:aB Tryz.prog 217:=⟨Go.Xg.ak⟩
instance:aB Tryz.prog 218:=⟨Go.Xg.ak⟩
instance:aB Tryz.prog 219:=⟨Go.Xg.ak⟩
instance:aB Tryz.prog 220:=⟨Go.Xg.ak⟩
instance:aB Tryz.prog 228:=⟨Go.Xg.ak⟩
instance:aB Tryz.prog 229:=⟨Go.Xg.ak⟩
instance:aB Tryz.prog 230:=⟨Go.Xg.ak⟩
instance:aB Tryz.prog 231:=⟨Go.Xg.ak⟩
instance:aB Tryz.prog 232:=⟨Go.Xg.ak⟩
instance:aB Tryz.prog 233:=⟨Go.Xg.ak⟩
instance:aB Tryz.prog 234:=⟨Go.Xg.ak⟩
instance:aB Tryz.prog 242:=⟨Go.Xg.ak⟩
instance:aB Tryz.prog 243:=⟨Go.Xg.ak⟩
instance:aB Tryz.prog 244:=⟨Go.Xg.ak⟩
instance:aB Tryz.prog 248:=⟨Go.Xg.ak⟩
instance:aB Tryz.prog 249:=⟨Go.Xg.ak⟩
instance:aB Tryz.prog 252:=⟨Go.Xg.ak⟩
instance:Ty Tryz.prog 3 false 1:=⟨Go.Xg.ak,Go.Xg.ak⟩
instance:qt Tryz.prog 3 (.int .i64 (0)):=⟨Go.Xg.ak⟩
instance:Go.Xg.HB Tryz.prog 3 .i64:=⟨Go.Xg.ak⟩
instance:Go.Xg.HB Tryz.prog 5 .u8:=⟨Go.Xg.ak⟩
instance:Ty Tryz.prog 9 false 1:=⟨Go.Xg.ak,Go.Xg.ak⟩
instance:oF Tryz.prog 9:=⟨Go.Xg.ak⟩
instance:Ty Tryz.prog 22 false 1:=⟨Go.Xg.ak,Go.Xg.ak⟩
instance:qt Tryz.prog 22 (.slice none 0 0):=⟨Go.Xg.ak⟩
instance:ma Tryz.prog 22 9 1:=⟨Go.Xg.ak,Go.Xg.ak⟩
instance:nC Tryz.prog 22 9 1 16:=⟨Go.Xg.ak⟩
instance:oE Tryz.prog 22 9 1 [(.string ⟨#[]⟩)]:=⟨Go.Xg.ak,Go.Xg.ak,Go.Xg.ak,rfl,by decide,fun _=>rfl⟩
instance:Ty Tryz.prog 23 false 1:=⟨Go.Xg.ak,Go.Xg.ak⟩
instance:ma Tryz.prog 23 76 2:=⟨Go.Xg.ak,Go.Xg.ak⟩
instance:Ty Tryz.prog 24 false 1:=⟨Go.Xg.ak,Go.Xg.ak⟩
instance:ma Tryz.prog 24 79 3:=⟨Go.Xg.ak,Go.Xg.ak⟩
instance:Ty Tryz.prog 25 false 1:=⟨Go.Xg.ak,Go.Xg.ak⟩
instance:ma Tryz.prog 25 81 5:=⟨Go.Xg.ak,Go.Xg.ak⟩
instance:Ty Tryz.prog 27 true 4:=⟨Go.Xg.ak,Go.Xg.ak⟩
instance:dh Tryz.prog 27 0 0 1 false:=⟨Go.Xg.ak⟩
instance:dh Tryz.prog 27 1 1 1 false:=⟨Go.Xg.ak⟩
instance:dh Tryz.prog 27 2 2 1 false:=⟨Go.Xg.ak⟩
instance:dh Tryz.prog 27 3 3 1 false:=⟨Go.Xg.ak⟩
instance:Ty Tryz.prog 30 false 1:=⟨Go.Xg.ak,Go.Xg.ak⟩
instance:ma Tryz.prog 30 86 2:=⟨Go.Xg.ak,Go.Xg.ak⟩
instance:nC Tryz.prog 30 86 2 24:=⟨Go.Xg.ak⟩
instance:oE Tryz.prog 30 86 2 [(.string ⟨#[]⟩),(.int .i64 (0))]:=⟨Go.Xg.ak,Go.Xg.ak,Go.Xg.ak,rfl,by decide,fun h=>by cases h⟩
instance:Ty Tryz.prog 31 false 1:=⟨Go.Xg.ak,Go.Xg.ak⟩
instance:ma Tryz.prog 31 85 3:=⟨Go.Xg.ak,Go.Xg.ak⟩
instance:nC Tryz.prog 31 85 3 48:=⟨Go.Xg.ak⟩
instance:oE Tryz.prog 31 85 3 [(.string ⟨#[]⟩),(.slice none 0 0),(.int .i64 (0))]:=⟨Go.Xg.ak,Go.Xg.ak,Go.Xg.ak,rfl,by decide,fun h=>by cases h⟩
instance:Ty Tryz.prog 32 false 1:=⟨Go.Xg.ak,Go.Xg.ak⟩
instance:ma Tryz.prog 32 53 5:=⟨Go.Xg.ak,Go.Xg.ak⟩
instance:nC Tryz.prog 32 53 5 64:=⟨Go.Xg.ak⟩
instance:oE Tryz.prog 32 53 5 [(.int .i64 (0)),(.int .i64 (0)),(.int .i64 (0)),(.string ⟨#[]⟩),(.slice none 0 0)]:=⟨Go.Xg.ak,Go.Xg.ak,Go.Xg.ak,rfl,by decide,fun h=>by cases h⟩
instance:Ty Tryz.prog 34 true 4:=⟨Go.Xg.ak,Go.Xg.ak⟩
instance:qt Tryz.prog 34 (.agg #[(.slice none 0 0),(.slice none 0 0),(.slice none 0 0),(.slice none 0 0)]):=⟨Go.Xg.ak⟩
instance:dh Tryz.prog 34 0 0 1 false:=⟨Go.Xg.ak⟩
instance:dh Tryz.prog 34 1 1 1 false:=⟨Go.Xg.ak⟩
instance:dh Tryz.prog 34 2 2 1 false:=⟨Go.Xg.ak⟩
instance:dh Tryz.prog 34 3 3 1 false:=⟨Go.Xg.ak⟩
instance:sL Tryz.prog 34 [(0,1),(1,1),(2,1),(3,1)] [(.slice none 0 0),(.slice none 0 0),(.slice none 0 0),(.slice none 0 0)]:=⟨Go.Xg.ak,Go.Xg.ak⟩
instance:Ty Tryz.prog 51 false 1:=⟨Go.Xg.ak,Go.Xg.ak⟩
instance:ma Tryz.prog 51 3 1:=⟨Go.Xg.ak,Go.Xg.ak⟩
instance:nC Tryz.prog 51 3 1 8:=⟨Go.Xg.ak⟩
instance:oE Tryz.prog 51 3 1 [(.int .i64 (0))]:=⟨Go.Xg.ak,Go.Xg.ak,Go.Xg.ak,rfl,by decide,fun _=>rfl⟩
instance:Ty Tryz.prog 53 true 5:=⟨Go.Xg.ak,Go.Xg.ak⟩
instance:qt Tryz.prog 53 (.agg #[(.int .i64 (0)),(.int .i64 (0)),(.int .i64 (0)),(.string ⟨#[]⟩),(.slice none 0 0)]):=⟨Go.Xg.ak⟩
instance:dh Tryz.prog 53 0 0 1 false:=⟨Go.Xg.ak⟩
instance:dh Tryz.prog 53 1 1 1 false:=⟨Go.Xg.ak⟩
instance:dh Tryz.prog 53 2 2 1 false:=⟨Go.Xg.ak⟩
instance:dh Tryz.prog 53 3 3 1 false:=⟨Go.Xg.ak⟩
instance:dh Tryz.prog 53 4 4 1 false:=⟨Go.Xg.ak⟩
instance:sL Tryz.prog 53 [(0,1),(1,1),(2,1),(3,1),(4,1)] [(.int .i64 (0)),(.int .i64 (0)),(.int .i64 (0)),(.string ⟨#[]⟩),(.slice none 0 0)]:=⟨Go.Xg.ak,Go.Xg.ak⟩
instance:Ty Tryz.prog 54 false 1:=⟨Go.Xg.ak,Go.Xg.ak⟩
instance:ma Tryz.prog 54 56 6:=⟨Go.Xg.ak,Go.Xg.ak⟩
instance:nC Tryz.prog 54 56 6 88:=⟨Go.Xg.ak⟩
instance:oE Tryz.prog 54 56 6 [(.int .i64 (0)),(.int .i64 (0)),(.int .i64 (0)),(.string ⟨#[]⟩),(.slice none 0 0),(.slice none 0 0)]:=⟨Go.Xg.ak,Go.Xg.ak,Go.Xg.ak,rfl,by decide,fun h=>by cases h⟩
instance:Ty Tryz.prog 56 true 6:=⟨Go.Xg.ak,Go.Xg.ak⟩
instance:qt Tryz.prog 56 (.agg #[(.int .i64 (0)),(.int .i64 (0)),(.int .i64 (0)),(.string ⟨#[]⟩),(.slice none 0 0),(.slice none 0 0)]):=⟨Go.Xg.ak⟩
instance:dh Tryz.prog 56 0 0 5 true:=⟨Go.Xg.ak⟩
instance:dh Tryz.prog 56 1 5 1 false:=⟨Go.Xg.ak⟩
instance:sL Tryz.prog 56 [(0,5),(5,1)] [(.int .i64 (0)),(.int .i64 (0)),(.int .i64 (0)),(.string ⟨#[]⟩),(.slice none 0 0),(.slice none 0 0)]:=⟨Go.Xg.ak,Go.Xg.ak⟩
instance:Ty Tryz.prog 76 true 2:=⟨Go.Xg.ak,Go.Xg.ak⟩
instance:dh Tryz.prog 76 0 0 1 false:=⟨Go.Xg.ak⟩
instance:dh Tryz.prog 76 1 1 1 false:=⟨Go.Xg.ak⟩
instance:Ty Tryz.prog 79 true 3:=⟨Go.Xg.ak,Go.Xg.ak⟩
instance:dh Tryz.prog 79 0 0 1 false:=⟨Go.Xg.ak⟩
instance:dh Tryz.prog 79 1 1 1 false:=⟨Go.Xg.ak⟩
instance:dh Tryz.prog 79 2 2 1 false:=⟨Go.Xg.ak⟩
instance:Ty Tryz.prog 81 true 5:=⟨Go.Xg.ak,Go.Xg.ak⟩
instance:dh Tryz.prog 81 0 0 1 false:=⟨Go.Xg.ak⟩
instance:dh Tryz.prog 81 1 1 1 false:=⟨Go.Xg.ak⟩
instance:dh Tryz.prog 81 2 2 1 false:=⟨Go.Xg.ak⟩
instance:dh Tryz.prog 81 3 3 1 false:=⟨Go.Xg.ak⟩
instance:dh Tryz.prog 81 4 4 1 false:=⟨Go.Xg.ak⟩
instance:Ty Tryz.prog 85 true 3:=⟨Go.Xg.ak,Go.Xg.ak⟩
instance:qt Tryz.prog 85 (.agg #[(.string ⟨#[]⟩),(.slice none 0 0),(.int .i64 (0))]):=⟨Go.Xg.ak⟩
instance:dh Tryz.prog 85 0 0 1 false:=⟨Go.Xg.ak⟩
instance:dh Tryz.prog 85 1 1 1 false:=⟨Go.Xg.ak⟩
instance:dh Tryz.prog 85 2 2 1 false:=⟨Go.Xg.ak⟩
instance:sL Tryz.prog 85 [(0,1),(1,1),(2,1)] [(.string ⟨#[]⟩),(.slice none 0 0),(.int .i64 (0))]:=⟨Go.Xg.ak,Go.Xg.ak⟩
instance:Ty Tryz.prog 86 true 2:=⟨Go.Xg.ak,Go.Xg.ak⟩
instance:qt Tryz.prog 86 (.agg #[(.string ⟨#[]⟩),(.int .i64 (0))]):=⟨Go.Xg.ak⟩
instance:dh Tryz.prog 86 0 0 1 false:=⟨Go.Xg.ak⟩
instance:dh Tryz.prog 86 1 1 1 false:=⟨Go.Xg.ak⟩
instance:sL Tryz.prog 86 [(0,1),(1,1)] [(.string ⟨#[]⟩),(.int .i64 (0))]:=⟨Go.Xg.ak,Go.Xg.ak⟩
instance:Ty Tryz.prog 91 false 1:=⟨Go.Xg.ak,Go.Xg.ak⟩
instance:Ty Tryz.prog 100 false 1:=⟨Go.Xg.ak,Go.Xg.ak⟩
instance:Go.Xg.I8 Tryz.prog 100:=Go.Xg.I8.mk' (e:=5) (Go.Xg.ak) (Go.Xg.ak)
instance:ma Tryz.prog 100 5 1:=⟨Go.Xg.ak,Go.Xg.ak⟩
instance:oE Tryz.prog 100 5 1 [(.int .u8 (0))]:=⟨Go.Xg.ak,Go.Xg.ak,Go.Xg.ak,rfl,by decide,fun _=>rfl⟩
instance:Ty Tryz.prog 104 false 1:=⟨Go.Xg.ak,Go.Xg.ak⟩
instance:qt Tryz.prog 104 .nilFunc:=⟨Go.Xg.ak⟩
instance:dh Tryz.prog 108 0 0 4 true:=⟨Go.Xg.ak⟩
instance:dh Tryz.prog 108 1 4 1 false:=⟨Go.Xg.ak⟩
instance:dh Tryz.prog 108 2 5 1 false:=⟨Go.Xg.ak⟩
instance:dh Tryz.prog 108 3 6 1 false:=⟨Go.Xg.ak⟩
instance:sL Tryz.prog 108 [(0,4),(4,1),(5,1),(6,1)] [(.slice none 0 0),(.slice none 0 0),(.slice none 0 0),(.slice none 0 0),(.slice none 0 0),(.int .i64 (0)),(.int .i64 (0))]:=⟨Go.Xg.ak,Go.Xg.ak⟩
instance:Ty Tryz.prog 119 false 1:=⟨Go.Xg.ak,Go.Xg.ak⟩
instance:ma Tryz.prog 119 123 1:=⟨Go.Xg.ak,Go.Xg.ak⟩
instance:nC Tryz.prog 119 123 1 8:=⟨Go.Xg.ak⟩
instance:oE Tryz.prog 119 123 1 [(.pointer none)]:=⟨Go.Xg.ak,Go.Xg.ak,Go.Xg.ak,rfl,by decide,fun _=>rfl⟩
instance:Ty Tryz.prog 123 false 1:=⟨Go.Xg.ak,Go.Xg.ak⟩
instance:Ty Tryz.prog 126 false 1:=⟨Go.Xg.ak,Go.Xg.ak⟩
instance:Ty Tryz.prog 127 false 1:=⟨Go.Xg.ak,Go.Xg.ak⟩
instance:Ty Tryz.prog 128 false 1:=⟨Go.Xg.ak,Go.Xg.ak⟩
instance:ma Tryz.prog 128 162 4:=⟨Go.Xg.ak,Go.Xg.ak⟩
instance:nC Tryz.prog 128 162 4 40:=⟨Go.Xg.ak⟩
instance:oE Tryz.prog 128 162 4 [(.int .i64 (0)),(.int .i64 (0)),(.string ⟨#[]⟩),(.int .i64 (0))]:=⟨Go.Xg.ak,Go.Xg.ak,Go.Xg.ak,rfl,by decide,fun h=>by cases h⟩
instance:dh Tryz.prog 143 0 0 1 false:=⟨Go.Xg.ak⟩
instance:dh Tryz.prog 143 1 1 1 false:=⟨Go.Xg.ak⟩
instance:dh Tryz.prog 143 2 2 1 false:=⟨Go.Xg.ak⟩
instance:dh Tryz.prog 143 3 3 1 false:=⟨Go.Xg.ak⟩
instance:dh Tryz.prog 143 4 4 1 false:=⟨Go.Xg.ak⟩
instance:sL Tryz.prog 143 [(0,1),(1,1),(2,1),(3,1),(4,1)] [(.slice none 0 0),(.int .i64 (0)),(.int .i64 (0)),(.int .i64 (0)),(.int .i64 (0))]:=⟨Go.Xg.ak,Go.Xg.ak⟩
instance:dh Tryz.prog 149 0 0 5 true:=⟨Go.Xg.ak⟩
instance:dh Tryz.prog 149 1 5 1 false:=⟨Go.Xg.ak⟩
instance:sL Tryz.prog 149 [(0,5),(5,1)] [(.int .i64 (0)),(.int .i64 (0)),(.int .i64 (0)),(.string ⟨#[]⟩),(.slice none 0 0),(.slice none 0 0)]:=⟨Go.Xg.ak,Go.Xg.ak⟩
instance:Ty Tryz.prog 151 true 2:=⟨Go.Xg.ak,Go.Xg.ak⟩
instance:qt Tryz.prog 151 (.agg #[.nilFunc,.nilFunc]):=⟨Go.Xg.ak⟩
instance:dh Tryz.prog 151 0 0 1 false:=⟨Go.Xg.ak⟩
instance:dh Tryz.prog 151 1 1 1 false:=⟨Go.Xg.ak⟩
instance:sL Tryz.prog 151 [(0,1),(1,1)] [.nilFunc,.nilFunc]:=⟨Go.Xg.ak,Go.Xg.ak⟩
instance:Ty Tryz.prog 162 true 4:=⟨Go.Xg.ak,Go.Xg.ak⟩
instance:qt Tryz.prog 162 (.agg #[(.int .i64 (0)),(.int .i64 (0)),(.string ⟨#[]⟩),(.int .i64 (0))]):=⟨Go.Xg.ak⟩
instance:dh Tryz.prog 162 0 0 1 false:=⟨Go.Xg.ak⟩
instance:dh Tryz.prog 162 1 1 1 false:=⟨Go.Xg.ak⟩
instance:dh Tryz.prog 162 2 2 1 false:=⟨Go.Xg.ak⟩
instance:dh Tryz.prog 162 3 3 1 false:=⟨Go.Xg.ak⟩
instance:sL Tryz.prog 162 [(0,1),(1,1),(2,1),(3,1)] [(.int .i64 (0)),(.int .i64 (0)),(.string ⟨#[]⟩),(.int .i64 (0))]:=⟨Go.Xg.ak,Go.Xg.ak⟩
instance:dh Tryz.prog 167 0 0 1 false:=⟨Go.Xg.ak⟩
instance:dh Tryz.prog 167 1 1 1 false:=⟨Go.Xg.ak⟩
instance:dh Tryz.prog 167 2 2 1 false:=⟨Go.Xg.ak⟩
instance:dh Tryz.prog 167 3 3 1 false:=⟨Go.Xg.ak⟩
instance:dh Tryz.prog 167 4 4 1 false:=⟨Go.Xg.ak⟩
instance:dh Tryz.prog 167 5 5 1 false:=⟨Go.Xg.ak⟩
instance:dh Tryz.prog 167 6 6 4 true:=⟨Go.Xg.ak⟩
instance:sL Tryz.prog 167 [(0,1),(1,1),(2,1),(3,1),(4,1),(5,1),(6,4)] [(.slice none 0 0),(.int .i64 (0)),(.int .i64 (0)),(.int .i64 (0)),(.int .i64 (0)),(.slice none 0 0),(.slice none 0 0),(.slice none 0 0),(.slice none 0 0),(.slice none 0 0)]:=⟨Go.Xg.ak,Go.Xg.ak⟩
instance:Ty Tryz.prog 178 false 1:=⟨Go.Xg.ak,Go.Xg.ak⟩
instance:qt Tryz.prog 180 (.agg #[(.pointer none),(.slice none 0 0)]):=⟨Go.Xg.ak⟩
instance:dh Tryz.prog 180 0 0 1 false:=⟨Go.Xg.ak⟩
instance:dh Tryz.prog 180 1 1 1 false:=⟨Go.Xg.ak⟩
instance:ma Tryz.prog 187 22 1:=⟨Go.Xg.ak,Go.Xg.ak⟩
instance:oE Tryz.prog 187 22 1 [(.slice none 0 0)]:=⟨Go.Xg.ak,Go.Xg.ak,Go.Xg.ak,rfl,by decide,fun _=>rfl⟩
end Go.Xw
set_option maxHeartbeats 1000000
namespace Go.Xg
open Go.RowKit Go.Xw Go.Proofs
open Go.Xp (Tok Nd T bc one levels)
open Go.Sp
attribute [local irreducible] GW GL GO YG GC GA aS aW
def cW (t:Tok):List GV:=[.v (ii t.kind),.v (ii t.n),.v (sv t.s),.v (ii t.at_)]
theorem Mk (t:Tok):GF Tryz.prog 197 [.agg (cW t)] [] (.v (sv (bc t))) []:=by
 refine ai Tryz.func197 Tryz.ntmps197 ?_;refine GW.cond rfl (fun h=>?_) (fun h=>?_)
 ·refine ab ?_;refine bK ?_
  have h:t.kind≠3:=by simpa using h
  rw [bc,if_neg h];exact ⟨rfl,rfl⟩
 ·refine ab ?_;refine bK ?_
  have h:t.kind=3:=by simpa using h
  rw [bc,if_pos h];exact ⟨rfl,rfl⟩
abbrev gQ (l:List Tok):GV:=.sl 4 (l.map cW)
abbrev bS (p:RS):Ob:=.box 143 [gQ p.l,.v (ii p.i),.v (ii p.e),.v (ii p.code),.v (ii p.at_)]
theorem jI {l:List Tok} {i:Nat} {t:Tok} (h:l[i]?=some t):(l.map cW)[i]?=some (cW t):=by rw [getElem?_map,h];rfl
theorem jZ (p:RS) (hp:p.ok):GF Tryz.prog 157 [.loc 0 0] [bS p] (.v (ii p.place)) [bS p]:=by
 obtain ⟨jT,dD⟩:=hp
 cases ht:p.l[p.i]? with
 | some t =>
  have hr:=jI ht;have aq:p.i < p.l.length:=(List.getElem?_eq_some_iff.1 ht).1
  have hd:decide ((p.i:Int) < ((p.l.map cW).length:Int))=true:=by simpa using aq
  refine ai Tryz.func157 Tryz.ntmps157 ?_;refine GW.draw (.q 0 (.q 1 (.q 2 (.q 3 (.q 4 (.q 5 (.q 6 (.q 7 (.q 8 (.q 9 .nil)))))))))) (by kernel_rfl) (by kernel_rfl) ?_;refine aj ?_;refine ab ?_;refine GW.draw (.q 0 (.q 1 (.q 2 (.q 3 (.q 4 (.q 5 (.q 6 (.q 7 (.q 8 (.q 9 (.q 10 (.q 11 .nil)))))))))))) (by kernel_rfl) (by kernel_rfl) ?_;refine aj ?_;refine ab ?_;refine bK ?_;rw [RS.place,ht];exact ⟨rfl,rfl⟩
 | none =>
  have aq:p.l.length<=p.i:=List.getElem?_eq_none_iff.1 ht
  have hd:decide ((p.i:Int) < ((p.l.map cW).length:Int))=false:=by simpa using aq
  refine ai Tryz.func157 Tryz.ntmps157 ?_;refine GW.draw (.q 0 (.q 1 (.q 2 (.q 3 (.q 4 (.q 5 (.q 6 (.q 7 (.q 8 (.q 9 .nil)))))))))) (by kernel_rfl) (by kernel_rfl) ?_;refine aj ?_;refine ab ?_;refine bK ?_;rw [RS.place,ht];exact ⟨rfl,rfl⟩
end Go.Xg
namespace Go.Xg
open Go.RowKit Go.Xw Go.Proofs
open Go.Xp (Tok Nd T bc one levels)
open Go.Sp
attribute [local irreducible] GW GL GO YG GC GA aS aW
theorem cU (p:RS) (k:Nat) (hp:p.ok) (hk:k<=1):GF Tryz.prog 159 [.loc 0 0,.v (ii k)] [bS p] (.v (sv (p.sign k))) [bS p]:=by
 obtain ⟨jT,dD⟩:=hp
 by_cases hc:p.code=0
 ·have dj:(p.code != 0)=false:=by simpa using hc
  cases ht:p.l[p.i+k]? with
  | some t =>
   have hr:=jI ht;have aq:p.i+k < p.l.length:=(List.getElem?_eq_some_iff.1 ht).1
   have hd:decide (((p.l.map cW).length:Int)<=((p.i+k:Nat):Int))=false:=by simp;omega
   refine ai Tryz.func159 Tryz.ntmps159 ?_;refine GW.draw (.q 0 (.q 1 (.q 2 (.q 3 (.q 4 (.q 5 (.q 6 (.q 7 (.q 8 (.q 9 (.q 10 (.q 11 (.q 12 (.q 13 (.q 14 (.q 15 (.q 16 (.q 17 (.q 18 .nil))))))))))))))))))) (by kernel_rfl) (by kernel_rfl) ?_;refine aj ?_;refine ab ?_;refine GW.draw (.q 0 (.q 1 (.q 2 (.q 3 (.q 4 (.q 5 (.q 6 (.q 7 (.q 8 (.q 9 (.q 10 (.q 11 (.a 12 (.q 13 .nil)))))))))))))) (by kernel_rfl) (by kernel_rfl) ?_;refine aj ?_;refine aC [] (Mk t) ?_;refine ab ?_;refine bK ?_;rw [RS.sign,if_pos hc,ht];exact ⟨rfl,rfl⟩
  | none =>
   have aq:p.l.length<=p.i+k:=List.getElem?_eq_none_iff.1 ht
   have hd:decide (((p.l.map cW).length:Int)<=((p.i+k:Nat):Int))=true:=by simp;omega
   refine ai Tryz.func159 Tryz.ntmps159 ?_;refine GW.draw (.q 0 (.q 1 (.q 2 (.q 3 (.q 4 (.q 5 (.q 6 (.q 7 (.q 8 (.q 9 (.q 10 (.q 11 (.q 12 (.q 13 (.q 14 (.q 15 (.q 16 (.q 17 (.q 18 .nil))))))))))))))))))) (by kernel_rfl) (by kernel_rfl) ?_;refine aj ?_;refine ab ?_;refine bK ?_;rw [RS.sign,if_pos hc,ht];exact ⟨rfl,rfl⟩
 ·have dj:(p.code != 0)=true:=by simpa using hc
  refine ai Tryz.func159 Tryz.ntmps159 ?_;refine GW.draw (.q 0 (.q 1 (.q 2 (.q 3 (.q 4 (.q 5 (.q 6 (.q 7 (.q 8 (.q 9 (.q 10 (.q 11 (.q 12 (.q 13 (.q 14 (.q 15 (.q 16 (.q 17 (.q 18 .nil))))))))))))))))))) (by kernel_rfl) (by kernel_rfl) ?_;refine aj ?_;refine ab ?_;refine bK ?_;rw [RS.sign,if_neg hc];exact ⟨rfl,rfl⟩
theorem lp (p:RS) (c a:Int):GF Tryz.prog 196 [.loc 0 0,.v (ii c),.v (ii a)] [bS p] (.tup []) [bS (p.fail c a)]:=by
 refine ai Tryz.func196 Tryz.ntmps196 ?_;refine GW.cond rfl (fun h=>?_) (fun h=>?_)
 ·refine ab ?_;refine cE ?_
  have h:p.code=0:=by simpa using h
  rw [RS.fail,if_pos h];exact ⟨rfl,rfl⟩
 ·refine ab ?_;refine cE ?_
  have h:¬ p.code=0:=by simpa using h
  rw [RS.fail,if_neg h];exact ⟨rfl,rfl⟩
theorem cS (p:RS) (s:ae) (hp:p.ok) (hs:s≠[]):GF Tryz.prog 158 [.loc 0 0,.v (sv s)] [bS p] (.tup []) [bS (p.aE s)]:=by
 refine ai Tryz.func158 Tryz.ntmps158 ?_;refine fQ [0] (cU p 0 hp (by decide)) ?_
 by_cases h:p.sign 0=s
 ·have h':(!(p.sign 0==s))=false:=by simp [h]
  have hl:=(fc h hs).1;obtain ⟨jT,dD⟩:=hp;refine ab ?_;refine cE ?_;rw [RS.aE,if_pos h];exact ⟨rfl,rfl⟩
 ·have h':(!(p.sign 0==s))=true:=by simpa using h
  refine ab ?_;refine U [0] (jZ p hp) ?_;refine U [0] (lp p 7 p.place) ?_;refine cE ?_;rw [RS.aE,if_neg h];exact ⟨rfl,rfl⟩
end Go.Xg
namespace Go.Xg
open Go.RowKit Go.Xw Go.Proofs
open Go.Xp (Tok Nd T bc one levels)
open Go.Sp
attribute [local irreducible] GW GL GO YG GC GA aS aW
theorem tg (p:RS) (d:Nat) (hp:p.ok):GF Tryz.prog 155 [.loc 0 0,.v (ii d)] [bS p] (.tup []) [bS (p.deep d)]:=by
 by_cases h:d > 60
 ·have h':decide ((60:Int) < (d:Int))=true:=by simp;omega
  refine ai Tryz.func155 Tryz.ntmps155 ?_;refine U [0] (jZ p hp) ?_;refine U [0] (lp p 9 p.place) ?_;refine cE ?_;rw [RS.deep,if_pos h];exact ⟨rfl,rfl⟩
 ·have h':decide ((60:Int) < (d:Int))=false:=by simp;omega
  refine ai Tryz.func155 Tryz.ntmps155 ?_;refine cE ?_;rw [RS.deep,if_neg h];exact ⟨rfl,rfl⟩
theorem wP (p:RS) (hp:p.ok):GF Tryz.prog 198 [.loc 0 0] [bS p] (.v (sv p.name.1)) [bS p.name.2]:=by
 obtain ⟨jT,dD⟩:=id hp
 by_cases hc:p.code=0
 ·have dj:(p.code != 0)=false:=by simpa using hc
  cases ht:p.l[p.i]? with
  | some t =>
   have hr:=jI ht;have aq:p.i < p.l.length:=(List.getElem?_eq_some_iff.1 ht).1
   have hd:decide (((p.l.map cW).length:Int)<=(p.i:Int))=false:=by simp;omega
   by_cases hk:t.kind=2
   ·have kP:(t.kind != 2)=false:=by simpa using hk
    by_cases hs:t.s.length > 12
    ·have nr:decide ((12:Int) < (t.s.length:Int))=true:=by simp;omega
     refine ai Tryz.func198 Tryz.ntmps198 ?_;refine GW.draw (.q 0 (.q 1 (.q 2 (.q 3 (.q 4 (.q 5 (.q 6 (.q 7 (.q 8 (.q 9 (.q 10 (.q 11 (.q 12 (.q 13 (.q 14 (.q 15 (.q 16 (.q 17 (.q 18 (.q 19 (.q 20 (.q 21 (.q 22 (.q 23 .nil)))))))))))))))))))))))) (by kernel_rfl) (by kernel_rfl) ?_;refine aj ?_;refine ab ?_;refine GW.draw (.q 0 (.q 1 (.q 2 (.q 3 (.q 4 (.q 5 (.q 6 (.q 7 (.q 8 (.q 9 (.a 10 (.a 11 .nil)))))))))))) (by kernel_rfl) (by kernel_rfl) ?_;refine aj ?_;refine ab ?_;refine U [0] (lp p 8 t.at_) ?_;refine bK ?_;rw [RS.name,if_pos hc,ht];simp only [if_pos hk,if_pos hs];exact ⟨rfl,rfl⟩
    ·have nr:decide ((12:Int) < (t.s.length:Int))=false:=by simp;omega
     refine ai Tryz.func198 Tryz.ntmps198 ?_;refine GW.draw (.q 0 (.q 1 (.q 2 (.q 3 (.q 4 (.q 5 (.q 6 (.q 7 (.q 8 (.q 9 (.q 10 (.q 11 (.q 12 (.q 13 (.q 14 (.q 15 (.q 16 (.q 17 (.q 18 (.q 19 (.q 20 (.q 21 (.q 22 (.q 23 .nil)))))))))))))))))))))))) (by kernel_rfl) (by kernel_rfl) ?_;refine aj ?_;refine ab ?_;refine GW.draw (.q 0 (.q 1 (.q 2 (.q 3 (.q 4 (.q 5 (.q 6 (.q 7 (.q 8 (.q 9 (.a 10 (.a 11 .nil)))))))))))) (by kernel_rfl) (by kernel_rfl) ?_;refine aj ?_;refine ab ?_;refine bK ?_;rw [RS.name,if_pos hc,ht];simp only [if_pos hk,if_neg hs];exact ⟨rfl,rfl⟩
   ·have kP:(t.kind != 2)=true:=by simpa using hk
    refine ai Tryz.func198 Tryz.ntmps198 ?_;refine GW.draw (.q 0 (.q 1 (.q 2 (.q 3 (.q 4 (.q 5 (.q 6 (.q 7 (.q 8 (.q 9 (.q 10 (.q 11 (.q 12 (.q 13 (.q 14 (.q 15 (.q 16 (.q 17 (.q 18 (.q 19 (.q 20 (.q 21 (.q 22 (.q 23 .nil)))))))))))))))))))))))) (by kernel_rfl) (by kernel_rfl) ?_;refine aj ?_;refine ab ?_;refine U [0] (jZ p hp) ?_;refine U [0] (lp p 7 p.place) ?_;refine bK ?_;rw [RS.name,if_pos hc,ht];simp only [if_neg hk];exact ⟨rfl,rfl⟩
  | none =>
   have aq:p.l.length<=p.i:=List.getElem?_eq_none_iff.1 ht
   have hd:decide (((p.l.map cW).length:Int)<=(p.i:Int))=true:=by simp;omega
   refine ai Tryz.func198 Tryz.ntmps198 ?_;refine GW.draw (.q 0 (.q 1 (.q 2 (.q 3 (.q 4 (.q 5 (.q 6 (.q 7 (.q 8 (.q 9 (.q 10 (.q 11 (.q 12 (.q 13 (.q 14 (.q 15 (.q 16 (.q 17 (.q 18 (.q 19 (.q 20 (.q 21 (.q 22 (.q 23 .nil)))))))))))))))))))))))) (by kernel_rfl) (by kernel_rfl) ?_;refine aj ?_;refine ab ?_;refine U [0] (jZ p hp) ?_;refine U [0] (lp p 7 p.place) ?_;refine bK ?_;rw [RS.name,if_pos hc,ht];exact ⟨rfl,rfl⟩
 ·have dj:(p.code != 0)=true:=by simpa using hc
  refine ai Tryz.func198 Tryz.ntmps198 ?_;refine bK ?_;rw [RS.name,if_neg hc];exact ⟨rfl,rfl⟩
abbrev ints (l:List Int):GV:=.sl 1 (l.map fun i=>[.v (ii i)])
abbrev strs (l:List ae):GV:=.sl 1 (l.map fun s=>[.v (sv s)])
mutual
def QU:T->List GV
 | .mk n k=>[.v (ii n.kind),.v (ii n.at_),.v (ii n.n),.v (sv n.s),ints n.kids,.sl 6 (aJ k)]
def aJ:List T->List (List GV)
 | []=>[]
 | t::r=>QU t::aJ r
end
abbrev cT (t:T):List GV:=[.v (ii t.n.kind),.v (ii t.n.at_),.v (ii t.n.n),.v (sv t.n.s),ints t.n.kids,.sl 6 (aJ t.kids)]
theorem rm (t:T):QU t=cT t:=by
 cases t;rfl
theorem fC (k a:Int) (s:ae) (l:List T) (rows:List (List GV)) (h:aJ l=rows):GF Tryz.prog 156 [.v (ii k),.v (ii a),.v (sv s),.sl 6 rows] [] (.agg (cT (one k a s l))) []:=by
 subst h;refine ai Tryz.func156 Tryz.ntmps156 ?_;refine qd ?_;exact ⟨_,iy,rfl,rfl⟩
theorem iU:GF Tryz.prog 216 [] [] (.sl 1 (levels.map fun l=>[strs l])) []:=by
 refine ai Tryz.func216 Tryz.ntmps216 ?_
 iterate 10 (refine bJ ?_)
 exact av
theorem Cy {xs:List ae} {k:Nat} {s x:ae} (h:xs[k]?=some x):(xs.take (k+1)).contains s=((xs.take k).contains s || (x==s)):=by
 rw [take_add_one,h,List.contains_append];show (_ || [x].contains s)=_
 congr 1
 rw [List.contains_cons,List.contains_nil,Bool.or_false];exact Bool.beq_comm
theorem gL (xs:List ae) (s:ae) (hl:xs.length<=1099511627776):GF Tryz.prog 46 [strs xs,.v (sv s)] [] (.v (.bool (xs.contains s))) []:=by
 refine ai Tryz.func46 Tryz.ntmps46 ?_;refine GW.range (xs.map fun s=>[GV.v (sv s)]).length (fun k fr Γ=>fr=[strs xs,.v (sv s),.Zy,.Zy,.Zy,.Zy,.Zy,strs xs,.v (ii ((xs.map fun s=>[GV.v (sv s)]).length:Int)),.v (ii k),.Zy,.Zy,.Zy,.Zy,.Zy,.Zy,.Zy]/\Γ=[]/\(xs.take k).contains s=false) ?_ (by simpa using hl) ?_ ?_ ?_
 ·exact ⟨_,_,Wk.ax al,rfl,rfl,rfl⟩
 ·rintro k _ _ ⟨rfl,rfl,_⟩;exact ⟨rfl,rfl,rfl⟩
 ·rintro k _ _ aq ⟨rfl,rfl,hc⟩
  have aq:k < xs.length:=by simpa using aq
  have hx:xs[k]?=some xs[k]:=by simp [aq]
  have hr:(xs.map fun s=>[GV.v (sv s)])[k]?=some [.v (sv xs[k])]:=by simp [aq]
  have fq:=Cy (s:=s) hx;refine ab ?_;refine GW.cond rfl (fun h2=>?_) (fun h2=>?_)
  ·refine ab ?_;refine bK ?_
   have h3:xs[k]=s:=by simpa using h2
   have:s∈xs:=by rw [<-h3];exact getElem_mem _
   refine ⟨?_,rfl⟩;show GV.v (.bool true)=_;rw [List.contains_iff_mem.2 this]
  ·refine ab ?_;exact ⟨rfl,rfl,_,_,Wk.ax al,rfl,rfl,by rw [fq,hc,h2];rfl⟩
 ·rintro _ _ ⟨rfl,rfl,hc⟩;refine ab ?_;refine bK ?_
  have hc:xs.contains s=false:=by simpa using hc
  refine ⟨?_,rfl⟩;show GV.v (.bool false)=_;rw [hc]
end Go.Xg
namespace Go.Xg
open Go.RowKit Go.Xw
section
variable {P:Program} {m:Nat} {Q:dQ} {fr:List GV} {Γ:List Ob}
theorem GW.OT {c y:Code} {B:Nat} (K:List GV->List Ob->Prop) (h1:GW P m c (aW B (aS (xO m K) Q)) fr Γ) (h2:∀ fr Γ,K fr Γ->GW P m y Q fr Γ):GW P m c (aW B (aS (GW P m y Q) Q)) fr Γ:=by
 refine h1.mono fun e fr Γ hq=>?_
 have key:∀ fr Γ,xO m K fr Γ->GW P m y Q fr Γ:=fun fr Γ ⟨bQ,aH,hw,hk⟩=>GW.wk hw (h2 _ _ hk)
 cases e with
 | normal=>exact key _ _ hq
 | exit n =>
  simp only [aW] at hq |-;split
  ·rename_i hn;rw [if_pos hn] at hq;exact key _ _ hq
  ·rename_i hn;rw [if_neg hn] at hq;exact hq
 | _=>exact hq
end
section
variable {P:Program} {fn:Func} {m:Nat} {R:GV->List Ob->Prop} {fr:List GV} {Γ:List Ob} {e:Exit}
theorem Tw {n:Nat} {t u:Tmp} {T:TypeId} {k:Nat} [hT:Ty P T true k] {i:Nat} {E:TypeId} {cs:List GV} {g:GV} (hr:fn.results=#[.cell t T,.tmp u]) (he:e=.normal\/e=.ret) (hg:cj fr t=.loc i 0) (br:Γ[i]?=some (.box E cs)) (hk:cs.length=k) (fG:cj fr u=g)
  (hm:m<=n) (hl:zZ n (Γ.take n)=true) (jQ:(GV.tup [.agg cs,g]).lt n=true) (h:R (.tup [.agg cs,g]) (Γ.take n)):rR P fn m R e fr Γ :=
 ⟨he,fun B K β w l hB hI hF=>by
  obtain ⟨b,vs,h1,h2,h3,h4⟩:=hI.ob i _ br
  have hp:nth l t=.pointer (some ⟨b,0,none⟩):=by
   have:=hF.nth t;rw [hg] at this;generalize nth l t=v at this
   cases this with
   | loc _ _ b' ba=>rw [h1] at ba;cases ba;rfl
  have kB:l.toArray.getD t undef=.pointer (some ⟨b,0,none⟩):=by rw [jm,hp]
  have Dt:=mI (P:=P) (w:=w) (t:=T) (b:=b) (o:=0) (vs:=vs) (k:=k) (by rw [h3.1,hk]) (fun j v hj=>by
   rw [Nat.zero_add,cell_of_row w b j _ E (0,0) h2];simpa using hj)
  have yK:l[t]?.getD undef=.pointer (some ⟨b,0,none⟩):=by simpa using kB
  refine ⟨.tuple #[.agg vs.toArray,nth l u],K,gh (below n) β,.tup [.agg cs,g],Γ.take n,?_,hI.cut ah hl,?_,h⟩
  ·rw [<-jm l u];simp [results,hr,yK,asAddr,Dt]
  ·refine Rel.res ?_ jQ;subst fG;have hc:aV K β [.agg vs.toArray,nth l u] [.agg cs,cj fr u]:=.cons (.agg vs cs h3.1 h3.2) (.cons (hF.nth u) .nil)
   exact .tup _ _ hc.1 hc.2⟩
theorem J9 {n:Nat} {t u s:Tmp} {T:TypeId} {k:Nat} [hT:Ty P T true k] {i:Nat} {E:TypeId} {cs:List GV} {g g':GV} (hr:fn.results=#[.cell t T,.tmp u,.tmp s]) (he:e=.normal\/e=.ret) (hg:cj fr t=.loc i 0) (br:Γ[i]?=some (.box E cs)) (hk:cs.length=k) (fG:cj fr u=g) (Xq:cj fr s=g')
  (hm:m<=n) (hl:zZ n (Γ.take n)=true) (jQ:(GV.tup [.agg cs,g,g']).lt n=true) (h:R (.tup [.agg cs,g,g']) (Γ.take n)):rR P fn m R e fr Γ :=
 ⟨he,fun B K β w l hB hI hF=>by
  obtain ⟨b,vs,h1,h2,h3,h4⟩:=hI.ob i _ br
  have hp:nth l t=.pointer (some ⟨b,0,none⟩):=by
   have:=hF.nth t;rw [hg] at this;generalize nth l t=v at this
   cases this with
   | loc _ _ b' ba=>rw [h1] at ba;cases ba;rfl
  have kB:l.toArray.getD t undef=.pointer (some ⟨b,0,none⟩):=by rw [jm,hp]
  have Dt:=mI (P:=P) (w:=w) (t:=T) (b:=b) (o:=0) (vs:=vs) (k:=k) (by rw [h3.1,hk]) (fun j v hj=>by
   rw [Nat.zero_add,cell_of_row w b j _ E (0,0) h2];simpa using hj)
  have yK:l[t]?.getD undef=.pointer (some ⟨b,0,none⟩):=by simpa using kB
  refine ⟨.tuple #[.agg vs.toArray,nth l u,nth l s],K,gh (below n) β,.tup [.agg cs,g,g'],Γ.take n,?_,hI.cut ah hl,?_,h⟩
  ·rw [<-jm l u,<-jm l s];simp [results,hr,yK,asAddr,Dt]
  ·refine Rel.res ?_ jQ;subst fG Xq;have hc:aV K β [.agg vs.toArray,nth l u,nth l s] [.agg cs,cj fr u,cj fr s]:=.cons (.agg vs cs h3.1 h3.2) (.cons (hF.nth u) (.cons (hF.nth s) .nil))
   exact .tup _ _ hc.1 hc.2⟩
end
end Go.Xg
namespace Go.Xg
open Go.RowKit Go.Xw Go.Proofs
open Go.Xp (Tok Nd T bc one levels)
open Go.Sp
attribute [local irreducible] GW GL GO YG GC GA aS aW
abbrev Bz (c:UInt8):GV:=.v (.int .u8 (c.toNat:Int))
theorem vq (c:UInt8):GF Tryz.prog 186 [Bz c] [] (.v (.bool (small c))) []:=by
 unfold small;refine cP Tryz.func186 Tryz.ntmps186 ?_
 cases h:decide ((97:Int)<=(c.toNat:Int))
 all_goals
  exact av
theorem vo (c:UInt8):GF Tryz.prog 193 [Bz c] [] (.v (.bool (dO c))) []:=by
 unfold dO;refine cP Tryz.func193 Tryz.ntmps193 ?_
 cases h:decide ((48:Int)<=(c.toNat:Int))
 all_goals
  exact av
theorem B1 (c:UInt8):GF Tryz.prog 185 [Bz c] [] (.v (.bool (dK c))) []:=by
 unfold dK;have hs:=vq c;have hd:=vo c;generalize small c=b1 at *;generalize dO c=b2 at *;refine ai Tryz.func185 Tryz.ntmps185 ?_;refine fQ [] (hs) ?_
 cases b1 with
 | true =>
  exact av
 | false =>
  cases h1:decide ((65:Int)<=(c.toNat:Int)) with
  | true =>
   cases h2:decide ((c.toNat:Int)<=90) with
   | true =>
    exact av
   | false =>
    refine ab ?_;refine fQ [] (hd) ?_
    cases b2 with
    | true =>
     exact av
    | false =>
     exact av
  | false =>
   refine ab ?_;refine fQ [] (hd) ?_
   cases b2 with
   | true =>
    exact av
   | false =>
    exact av
theorem nQ (s t:ae) (a:Nat) (hs:s.length<=1152921504606846976) (ht:t.length<=1152921504606846976) (ha:a<=1152921504606846976) :
  GF Tryz.prog 192 [.v (sv s),.v (ii (a:Nat)),.v (sv t)] [] (.v (.bool (bq s a t))) []:=by
 by_cases h:a+t.length<=s.length
 ·have h':decide (((a+t.length:Nat):Int)<=(s.length:Int))=true:=by simpa using by omega
  refine ai Tryz.func192 Tryz.ntmps192 ?_;refine bK ?_;unfold bq;rw [decide_eq_true h];exact ⟨rfl,rfl⟩
 ·have h':decide (((a+t.length:Nat):Int)<=(s.length:Int))=false:=by simpa using by omega
  refine ai Tryz.func192 Tryz.ntmps192 ?_;refine bK ?_;unfold bq;rw [decide_eq_false h];exact ⟨rfl,rfl⟩
theorem LA (s:ae) (a:Nat) (hs:s.length<=1099511627776) (ha:a<=s.length) :
  GF Tryz.prog 153 [.v (sv s),.v (ii (a:Nat))] [] (.tup [.v (ii ((skip s (s.length+1) a).1:Nat)),.v (ii (skip s (s.length+1) a).2)]) []:=by
 generalize hR:skip s (s.length+1) a=R;refine ai Tryz.func153 Tryz.ntmps153 ?_;refine GW.loop (fun x:Nat × Nat=>x.1) (fun x fr Γ=>fr=[.v (sv s),.v (ii (x.2:Nat)),.Zy,.Zy,.Zy,.Zy,.Zy,.Zy,.Zy,.Zy,.Zy,.Zy,.Zy,.Zy,.Zy,.Zy,.Zy,.Zy,.Zy,.Zy,.Zy,.Zy,.Zy,.Zy,.Zy,.Zy,.Zy,.Zy,.Zy,.Zy,.Zy,.Zy,.Zy,.Zy,.Zy,.Zy,.Zy,.Zy,.Zy,.Zy,.Zy,.Zy,.Zy,.Zy,.Zy,.Zy,.Zy,.Zy,.Zy,.Zy,.Zy,.Zy,.Zy,.Zy,.Zy,.Zy,.Zy,.Zy,.Zy,.Zy,.Zy,.Zy,.Zy]/\Γ=[]/\x.2<=s.length/\s.length < x.1+x.2/\skip s x.1 x.2=R) (s.length+1,a) ?_ ?_
 ·exact ⟨_,_,Wk.ax al,rfl,rfl,ha,by simp;omega,hR⟩
 ·rintro ⟨f,a⟩ _ _ ⟨rfl,rfl,ha,hf,h⟩;simp only at ha hf h
  cases f with
  | zero=>omega
  | succ f =>
  rw [skip] at h
  cases hc:s[a]? with
  | none =>
   rw [hc] at h;simp only at h;subst h;have kO:s.length<=a:=List.getElem?_eq_none_iff.1 hc
   have hd:decide ((a:Int) < (s.length:Int))=false:=by simpa using kO
   refine ab ?_;refine aU ?_;exact qb
  | some c =>
   rw [hc] at h;simp only at h;have aq:a < s.length:=(List.getElem?_eq_some_iff.1 hc).1
   have hd:decide ((a:Int) < (s.length:Int))=true:=by simpa using aq
   have hb:dy c=(((c.toNat:Int)==32) || ((c.toNat:Int)==9) || ((c.toNat:Int)==10) || ((c.toNat:Int)==13)):=rfl
   by_cases me:dy c=true
   ·rw [if_pos me] at h;rw [hb] at me;have DI:((c.toNat:Int)==32)=true\/(((c.toNat:Int)==32)=false/\((c.toNat:Int)==9)=true)\/(((c.toNat:Int)==32)=false/\((c.toNat:Int)==9)=false/\((c.toNat:Int)==10)=true) \/
      (((c.toNat:Int)==32)=false/\((c.toNat:Int)==9)=false/\((c.toNat:Int)==10)=false/\((c.toNat:Int)==13)=true):=by
     generalize ((c.toNat:Int)==32)=b1 at *;generalize ((c.toNat:Int)==9)=b2 at *;generalize ((c.toNat:Int)==10)=b3 at *;generalize ((c.toNat:Int)==13)=b4 at *;clear hb
     revert me;cases b1 <;> cases b2 <;> cases b3 <;> cases b4 <;> simp
    clear hb me
    rcases DI with k1 | ⟨k1,k2⟩ | ⟨k1,k2,k3⟩ | ⟨k1,k2,k3,k4⟩
    all_goals
     refine ab ?_;refine aU ?_;exact ⟨(f,a+1),⟨_,_,Wk.ax al,rfl,rfl,by simp only;omega,by simp only;omega,h⟩,by simp⟩
   ·rw [if_neg me] at h;rw [hb] at me
    have DI:((c.toNat:Int)==32)=false/\((c.toNat:Int)==9)=false/\((c.toNat:Int)==10)=false/\((c.toNat:Int)==13)=false:=by
     generalize ((c.toNat:Int)==32)=b1 at *;generalize ((c.toNat:Int)==9)=b2 at *;generalize ((c.toNat:Int)==10)=b3 at *;generalize ((c.toNat:Int)==13)=b4 at *;clear hb
     revert me;cases b1 <;> cases b2 <;> cases b3 <;> cases b4 <;> simp
    clear hb me;obtain ⟨k1,k2,k3,k4⟩:=DI
    by_cases nM:bq s a [47,42]=true
    ·rw [if_pos nM] at h;have me:=iJ nM;have me:a+2<=s.length:=me
     have sV:(!bq s a [47,42])=false:=by rw [nM];rfl
     try simp only at h
     generalize he:eD s s.length (a+2)=e at h;refine ab ?_;refine U [] (nQ s [47,42] a ah (by decide) ah) ?_;have Kl:=qi s s.length (a+2) ah ah;have Gl:=rb s s.length (a+2) ah;rw [he] at Kl Gl;refine GW.OT (fun fr Γ=>fr=[.v (sv s),.v (ii (a:Nat)),.Zy,.Zy,.Zy,.Zy,.v (ii (e:Nat)),.Zy,.Zy,.Zy,.Zy,.Zy,.Zy,.Zy,.Zy,.Zy,.Zy,.Zy,.Zy,.Zy,.Zy,.Zy,.Zy,.Zy,.Zy,.Zy,.Zy,.Zy,.Zy,.Zy,.Zy,.Zy,.Zy,.Zy,.Zy,.Zy,.Zy,.Zy,.Zy,.Zy,.Zy,.Zy,.Zy,.Zy,.Zy,.Zy,.Zy,.Zy,.Zy,.Zy,.Zy,.Zy,.Zy,.Zy,.Zy,.Zy,.Zy,.Zy,.Zy,.Zy,.Zy,.Zy,.Zy]/\Γ=[]) ?_ ?_
     ·refine GW.loop (fun x:Nat × Nat=>x.1) (fun x fr Γ=>fr=[.v (sv s),.v (ii (a:Nat)),.Zy,.Zy,.Zy,.Zy,.v (ii (x.2:Nat)),.Zy,.Zy,.Zy,.Zy,.Zy,.Zy,.Zy,.Zy,.Zy,.Zy,.Zy,.Zy,.Zy,.Zy,.Zy,.Zy,.Zy,.Zy,.Zy,.Zy,.Zy,.Zy,.Zy,.Zy,.Zy,.Zy,.Zy,.Zy,.Zy,.Zy,.Zy,.Zy,.Zy,.Zy,.Zy,.Zy,.Zy,.Zy,.Zy,.Zy,.Zy,.Zy,.Zy,.Zy,.Zy,.Zy,.Zy,.Zy,.Zy,.Zy,.Zy,.Zy,.Zy,.Zy,.Zy,.Zy]/\Γ=[]/\x.2<=s.length/\eD s x.1 x.2=e) (s.length,a+2) ?_ ?_
      ·exact ⟨_,_,Wk.ax al,rfl,rfl,by simp only;omega,he⟩
      ·rintro ⟨g,e'⟩ _ _ ⟨rfl,rfl,hle,rU⟩;simp only at hle rU
       by_cases hstop:e' < s.length
       ·have dk:decide ((e':Int) < (s.length:Int))=true:=by simpa using hstop
        cases oq:bq s e' [42,47] with
        | true =>
         have VG:(!bq s e' [42,47])=false:=by rw [oq];rfl
         have vQ:e'=e:=by
          cases g with
          | zero=>exact rU
          | succ g=>rw [eD,if_neg (by rw [oq];simp)] at rU;exact rU
         subst vQ;refine ab ?_;refine U [] (nQ s [42,47] e' ah (by decide) ah) ?_;refine aU ?_;exact ⟨_,_,Wk.ax al,rfl,rfl⟩
        | false =>
         have VG:(!bq s e' [42,47])=true:=by rw [oq];rfl
         cases g with
         | zero=>exact absurd ⟨by rw [<-rU];exact hstop,by rw [<-rU];exact oq⟩ Kl
         | succ g =>
          rw [eD,if_pos ⟨hstop,oq⟩] at rU;refine ab ?_;refine U [] (nQ s [42,47] e' ah (by decide) ah) ?_;exact ⟨(g,e'+1),⟨_,_,Wk.ax al,rfl,rfl,hstop,rU⟩,by simp⟩
       ·have dk:decide ((e':Int) < (s.length:Int))=false:=by simp;omega
        have vQ:e'=e:=by
         cases g with
         | zero=>exact rU
         | succ g=>rw [eD,if_neg (fun hh=>hstop hh.1)] at rU;exact rU
        subst vQ;refine ab ?_;refine aU ?_;exact ⟨_,_,Wk.ax al,rfl,rfl⟩
     ·rintro _ _ ⟨rfl,rfl⟩
      by_cases hle:s.length<=e
      ·rw [if_pos hle] at h
       have VY:decide ((s.length:Int)<=(e:Int))=true:=by simpa using hle
       subst h;exact qb
      ·rw [if_neg hle] at h
       have VY:decide ((s.length:Int)<=(e:Int))=false:=by simp;omega
       have oq:bq s e [42,47]=true:=by
        cases oq:bq s e [42,47] with
        | true=>rfl
        | false=>exact absurd ⟨by omega,oq⟩ Kl
       have oq:=iJ oq;have oq:e+2<=s.length:=oq;refine ab ?_;refine aU ?_;exact ⟨(f,e+2),⟨_,_,Wk.ax al,rfl,rfl,oq,by simp only;omega,h⟩,by simp⟩
    ·rw [if_neg nM] at h
     have sV:(!bq s a [47,42])=true:=by simpa using nM
     subst h;refine ab ?_;refine U [] (nQ s [47,42] a ah (by decide) ah) ?_;exact lH
end Go.Xg
namespace Go.Xg
open Go.RowKit Go.Xw Go.Proofs
open Go.Xp (Tok Nd T bc one levels)
open Go.Sp
attribute [local irreducible] GW GL GO YG GC GA aS aW
theorem vr:GF Tryz.prog 150 [] [] (strs words) []:=by
 refine ai Tryz.func150 Tryz.ntmps150 ?_;refine bJ ?_;exact av
theorem Ii:GF Tryz.prog 195 [] [] (strs bD) []:=by
 refine ai Tryz.func195 Tryz.ntmps195 ?_;refine bJ ?_;exact av
theorem KQ (s:ae) (hs:s.length<=1099511627776):GF Tryz.prog 149 [.v (sv s)] [] (.v (.bool (word s))) []:=by
 refine ai Tryz.func149 Tryz.ntmps149 ?_;refine GW.loop (fun a:Nat=>s.length - a) (fun a fr Γ=>fr=[.v (sv s),.Zy,.Zy,.v (ii (a:Nat)),.Zy,.Zy,.Zy,.Zy,.Zy,.Zy,.Zy,.Zy,.Zy,.Zy,.Zy,.Zy,.Zy,.Zy,.Zy,.Zy,.Zy,.Zy]/\Γ=[]/\a<=s.length/\(s.take a).all dK=true) 0 ?_ ?_
 ·exact ⟨_,_,Wk.ax al,rfl,rfl,Nat.zero_le _,rfl⟩
 ·rintro a _ _ ⟨rfl,rfl,ha,aM⟩
  cases hc:s[a]? with
  | some c =>
   have aq:a < s.length:=(List.getElem?_eq_some_iff.1 hc).1
   have hd:decide ((a:Int) < (s.length:Int))=true:=by simpa using aq
   have bp:(s.take (a+1)).all dK=((s.take a).all dK&&dK c):=by
    rw [take_add_one,hc,List.all_append];simp
   have hp:=B1 c
   cases hn:dK c with
   | true =>
    rw [hn] at hp;refine ab ?_;refine U [] (hp) ?_;exact ⟨a+1,⟨_,_,Wk.ax al,rfl,rfl,aq,by rw [bp,aM,hn];rfl⟩,by omega⟩
   | false =>
    rw [hn] at hp;refine ab ?_;refine U [] (hp) ?_;refine bK ?_;refine ⟨?_,rfl⟩
    have hw:word s=false:=by
     have:s.all dK=false:=by
      rw [List.all_eq_false];exact ⟨c,mem_of_getElem? hc,by rw [hn];decide⟩
     unfold word;rw [this];rfl
    rw [hw];rfl
  | none =>
   have kO:s.length<=a:=List.getElem?_eq_none_iff.1 hc
   have hd:decide ((a:Int) < (s.length:Int))=false:=by simpa using kO
   have aM:s.all dK=true:=by rw [take_of_length_le kO] at aM;exact aM
   cases s with
   | nil =>
    refine ab ?_;refine aU ?_;exact av
   | cons c r =>
    have hr:(c::r)[0]?=some c:=rfl;refine ab ?_;refine aU ?_;refine ab ?_;refine U [] (vq c) ?_;refine bK ?_;refine ⟨?_,rfl⟩;unfold word;rw [aM];rfl
theorem dS (s:ae) (hs:s.length<=1099511627776):GF Tryz.prog 126 [.v (sv s)] [] (.v (.bool (bg s))) []:=by
 have hw:=KQ s hs;unfold bg;generalize word s=b at *;refine ai Tryz.func126 Tryz.ntmps126 ?_;refine fQ [] (hw) ?_
 cases b with
 | false =>
  exact av
 | true =>
  by_cases nm:s.length<=12
  ·have VA:decide ((s.length:Int)<=12)=true:=by simpa using by omega
   refine ab ?_;refine U [] (vr) ?_;refine U [] (gL words s (by decide)) ?_;refine bK ?_;rw [decide_eq_true nm];exact ⟨rfl,rfl⟩
  ·have VA:decide ((s.length:Int)<=12)=false:=by simpa using by omega
   refine ab ?_;refine bK ?_;rw [decide_eq_false nm];exact ⟨rfl,rfl⟩
end Go.Xg
namespace Go.Xg
open Go.RowKit Go.Xw Go.Proofs
open Go.Xp (Tok Nd T bc one levels)
open Go.Sp
attribute [local irreducible] GW GL GO YG GC GA aS aW
theorem Fl (s:ae) (a:Nat) (hs:s.length<=1099511627776) (ha:a<=s.length) :
  GF Tryz.prog 194 [.v (sv s),.v (ii (a:Nat))] [] (.tup [.agg (cW ⟨1,(number s (s.length+1) 0 a).1,[],a⟩),.v (ii ((number s (s.length+1) 0 a).2:Nat))]) []:=by
 generalize hR:number s (s.length+1) 0 a=R;generalize Zf:a=a0 at *;refine ai Tryz.func194 Tryz.ntmps194 ?_;refine GW.loop (fun x:Nat × Int × Nat=>x.1) (fun x fr Γ=>fr=[.v (sv s),.v (ii (x.2.2:Nat)),.Zy,.Zy,.loc 0 0,.Zy,.loc 1 0,.Zy,.Zy,.Zy,.Zy,.Zy,.Zy,.Zy,.Zy,.Zy,.Zy,.Zy,.Zy,.Zy,.Zy,.Zy,.Zy,.Zy,.Zy,.Zy,.Zy,.Zy,.Zy,.Zy,.Zy,.Zy,.Zy,.Zy,.Zy,.Zy]/\Γ=[.box 162 [.v (ii 0),.v (ii 0),.v (sv []),.v (ii 0)],.box 162 (cW ⟨1,x.2.1,[],a0⟩)]/\x.2.2<=s.length/\s.length < x.1+x.2.2/\number s x.1 x.2.1 x.2.2=R/\0<=x.2.1/\x.2.1<=21474836479) (s.length+1,0,a0) ?_ ?_
 ·exact ⟨_,_,Wk.ax al,rfl,rfl,by simp only;omega,by simp only;omega,by rw [<-hR],by simp,by simp⟩
 ·rintro ⟨f,n,a⟩ _ _ ⟨rfl,rfl,ha,hf,h,BP,Dw⟩;simp only at ha hf h BP Dw
  cases f with
  | zero=>omega
  | succ f =>
  rw [number] at h
  cases hc:s[a]? with
  | none =>
   rw [hc] at h;simp only at h;subst h;have kO:s.length<=a:=List.getElem?_eq_none_iff.1 hc
   have hd:decide ((a:Int) < (s.length:Int))=false:=by simpa using kO
   refine ab ?_;refine aU ?_;refine ab ?_;refine jt ?_;exact ⟨rfl,rfl⟩
  | some c =>
   rw [hc] at h;simp only at h;have aq:a < s.length:=(List.getElem?_eq_some_iff.1 hc).1
   have hd:decide ((a:Int) < (s.length:Int))=true:=by simpa using aq
   have lL:=vo c
   cases hdc:dO c with
   | false =>
    rw [hdc] at lL;rw [if_neg (by rw [hdc];simp)] at h;subst h;refine ab ?_;refine U [] (lL) ?_;refine aU ?_;refine ab ?_;refine jt ?_;exact ⟨rfl,rfl⟩
   | true =>
    rw [hdc] at lL;rw [if_pos hdc] at h
    have wJ:(48:Int)<=(c.toNat:Int)/\(c.toNat:Int)<=57:=by
     simp only [dO,Bool.and_eq_true,decide_eq_true_eq] at hdc;exact hdc
    by_cases hn:n<=2147483647
    ·rw [if_pos hn] at h
     have zG:decide (n<=2147483647)=true:=by simpa using hn
     refine ab ?_;refine U [] (lL) ?_;refine GW.draw (.q 0 (.q 1 (.q 2 (.q 3 (.q 4 (.q 5 (.q 6 (.q 7 (.q 8 (.q 9 (.a 10 .nil))))))))))) (by kernel_rfl) (by kernel_rfl) ?_;refine aj ?_;refine ab ?_;exact ⟨(f,n * 10+((c.toNat:Int) - 48),a+1),⟨_,_,Wk.ax al,rfl,rfl,aq,by simp only;omega,h,by simp only;omega,by simp only;omega⟩,by simp⟩
    ·rw [if_neg hn] at h
     have zG:decide (n<=2147483647)=false:=by simpa using hn
     refine ab ?_;refine U [] (lL) ?_;exact ⟨(f,n,a+1),⟨_,_,Wk.ax al,rfl,rfl,aq,by simp only;omega,h,BP,Dw⟩,by simp⟩
end Go.Xg
namespace Go.Xg
open Go.RowKit Go.Xw Go.Proofs
open Go.Xp (Tok Nd T bc one levels)
open Go.Sp
attribute [local irreducible] GW GL GO YG GC GA aS aW
theorem JU {xs:List ae} {p:ae->Bool} {k:Nat} {x:ae} (h:(xs.take k).find? p=none) (hx:xs[k]?=some x) (hp:p x=true):xs.find? p=some x:=by
 have aq:=(List.getElem?_eq_some_iff.1 hx).1
 have:xs=xs.take k++x::xs.drop (k+1):=by
  have h1:=List.take_append_drop k xs;rw [List.drop_eq_getElem_cons aq] at h1;rw [(List.getElem?_eq_some_iff.1 hx).2] at h1;exact h1.symm
 rw [this,List.find?_append,h];simp [List.find?_cons,hp]
theorem JT {xs:List ae} {p:ae->Bool} {k:Nat} {x:ae} (h:(xs.take k).find? p=none) (hx:xs[k]?=some x) (hp:p x=false):(xs.take (k+1)).find? p=none:=by
 rw [take_add_one,hx,List.find?_append,h];simp [List.find?_cons,hp]
theorem FC:∀ x∈bD,x.length<=1152921504606846976:=by decide
theorem M6 (s:ae) (a:Nat) (c:UInt8) (hs:s.length<=1099511627776) (hc:s[a]?=some c) :
  GF Tryz.prog 154 [.v (sv s),.v (ii (a:Nat))] [] (.tup [.agg (cW (gZ s a c).1),.v (ii ((gZ s a c).2:Nat))]) []:=by
 have aq:a < s.length:=(List.getElem?_eq_some_iff.1 hc).1;have lL:=vo c;have ij:=vq c;unfold gZ
 cases hdc:dO c with
 | true =>
  rw [hdc] at lL;rw [if_pos rfl];refine ai Tryz.func154 Tryz.ntmps154 ?_;refine U [] (lL) ?_;refine U [] (Fl s a hs ah) ?_;refine jt ?_;exact ⟨rfl,rfl⟩
 | false =>
  rw [hdc] at lL;rw [if_neg (by decide)]
  cases hsc:small c with
  | true =>
   rw [hsc] at ij;rw [if_pos rfl];have UX:=oA s dK (s.length+1) a ah ah;have U6:(s.take (ej s a)).drop a=eL s a:=rfl;have Rz:run s dK (s.length+1) a=ej s a:=rfl;rw [Rz] at UX;generalize he:ej s a=e at *;generalize hw:eL s a=w at *;have hw:=U6;have he:=Rz;refine ai Tryz.func154 Tryz.ntmps154 ?_;refine U [] (lL) ?_;refine U [] (ij) ?_;refine GW.OT (fun fr Γ=>fr=[.v (sv s),.v (ii (a:Nat)),.Zy,.Zy,.loc 0 0,.Zy,.v (ii (e:Nat)),.Zy,.Zy,.Zy,.Zy,.Zy,.Zy,.Zy,.Zy,.Zy,.Zy,.Zy,.Zy,.Zy,.Zy,.Zy,.Zy,.Zy,.Zy,.Zy,.Zy,.Zy,.Zy,.Zy,.Zy,.Zy,.Zy,.Zy,.Zy,.Zy,.Zy,.Zy,.Zy,.Zy,.Zy,.Zy,.Zy,.Zy,.Zy,.Zy,.Zy,.Zy,.Zy,.Zy,.Zy,.Zy,.Zy,.Zy,.Zy,.Zy,.Zy,.Zy,.Zy,.Zy,.Zy,.Zy,.Zy,.Zy,.Zy,.Zy,.Zy,.Zy,.Zy]/\Γ=[.box 162 [.v (ii 0),.v (ii 0),.v (sv []),.v (ii 0)]]) ?_ ?_
   ·refine GW.loop (fun x:Nat × Nat=>x.1) (fun x fr Γ=>fr=[.v (sv s),.v (ii (a:Nat)),.Zy,.Zy,.loc 0 0,.Zy,.v (ii (x.2:Nat)),.Zy,.Zy,.Zy,.Zy,.Zy,.Zy,.Zy,.Zy,.Zy,.Zy,.Zy,.Zy,.Zy,.Zy,.Zy,.Zy,.Zy,.Zy,.Zy,.Zy,.Zy,.Zy,.Zy,.Zy,.Zy,.Zy,.Zy,.Zy,.Zy,.Zy,.Zy,.Zy,.Zy,.Zy,.Zy,.Zy,.Zy,.Zy,.Zy,.Zy,.Zy,.Zy,.Zy,.Zy,.Zy,.Zy,.Zy,.Zy,.Zy,.Zy,.Zy,.Zy,.Zy,.Zy,.Zy,.Zy,.Zy,.Zy,.Zy,.Zy,.Zy,.Zy]/\Γ=[.box 162 [.v (ii 0),.v (ii 0),.v (sv []),.v (ii 0)]]/\x.2<=s.length/\s.length < x.1+x.2/\run s dK x.1 x.2=e) (s.length+1,a) ?_ ?_
    ·exact ⟨_,_,Wk.ax al,rfl,rfl,by simp only;omega,by simp only;omega,he⟩
    ·rintro ⟨f,b⟩ _ _ ⟨rfl,rfl,hb,hf,h⟩;simp only at hb hf h
     cases f with
     | zero=>omega
     | succ f =>
     rw [run] at h
     cases xY:s[b]? with
     | none =>
      rw [xY] at h;simp only at h;subst h;have kO:s.length<=b:=List.getElem?_eq_none_iff.1 xY
      have hd:decide ((b:Int) < (s.length:Int))=false:=by simpa using kO
      refine ab ?_;refine aU ?_;exact ⟨_,_,Wk.ax al,rfl,rfl⟩
     | some cb =>
      rw [xY] at h;simp only at h;have oQ:b < s.length:=(List.getElem?_eq_some_iff.1 xY).1
      have hd:decide ((b:Int) < (s.length:Int))=true:=by simpa using oQ
      have hp:=B1 cb
      cases hn:dK cb with
      | true =>
       rw [hn] at hp;rw [if_pos hn] at h;refine ab ?_;refine U [] (hp) ?_;exact ⟨(f,b+1),⟨_,_,Wk.ax al,rfl,rfl,oQ,by simp only;omega,h⟩,by simp⟩
      | false =>
       rw [hn] at hp;rw [if_neg (by rw [hn];decide)] at h;subst h;refine ab ?_;refine U [] (hp) ?_;refine aU ?_;exact ⟨_,_,Wk.ax al,rfl,rfl⟩
   ·rintro _ _ ⟨rfl,rfl⟩;obtain ⟨_,h1,h2⟩:=UX;refine ab ?_;rw [hw];have H4:=gL words w (by decide)
    cases hcw:words.contains w with
    | true =>
     rw [hcw] at H4;refine GW.draw (.q 1 (.q 2 (.a 0 (.a 3 .nil)))) (by kernel_rfl) (by kernel_rfl) ?_;refine aj ?_;refine aC [] (vr) ?_;refine aC [] (H4) ?_;refine ab ?_;refine jt ?_;rw [if_pos rfl];exact ⟨rfl,rfl⟩
    | false =>
     rw [hcw] at H4;refine GW.draw (.q 1 (.q 2 (.a 0 (.a 3 .nil)))) (by kernel_rfl) (by kernel_rfl) ?_;refine aj ?_;refine aC [] (vr) ?_;refine aC [] (H4) ?_;refine ab ?_;refine jt ?_;rw [if_neg (by decide)];exact ⟨rfl,rfl⟩
  | false =>
   rw [hsc] at ij;rw [if_neg (by decide)];refine ai Tryz.func154 Tryz.ntmps154 ?_;refine U [] (lL) ?_;refine U [] (ij) ?_;refine U [] (Ii) ?_;refine GW.range (bD.map fun s=>[GV.v (sv s)]).length (fun k fr Γ=>fr=[.v (sv s),.v (ii (a:Nat)),.Zy,.Zy,.loc 0 0,.Zy,.Zy,.Zy,.Zy,.Zy,.Zy,.Zy,.Zy,.Zy,.Zy,.Zy,.Zy,.Zy,.Zy,.Zy,.Zy,.Zy,.Zy,.Zy,.Zy,.Zy,.Zy,.Zy,.Zy,.Zy,.Zy,.Zy,.Zy,.Zy,.Zy,.Zy,.Zy,.Zy,.Zy,.Zy,.Zy,.Zy,.Zy,.Zy,.Zy,.Zy,.Zy,.Zy,.Zy,strs bD,.v (ii ((bD.map fun s=>[GV.v (sv s)]).length:Int)),.v (ii (k:Nat)),.Zy,.Zy,.Zy,.Zy,.Zy,.Zy,.Zy,.Zy,.Zy,.Zy,.Zy,.Zy,.Zy,.Zy,.Zy,.Zy,.Zy]/\Γ=[.box 162 [.v (ii 0),.v (ii 0),.v (sv []),.v (ii 0)]]/\(bD.take k).find? (bq s a)=none) ?_ (by decide) ?_ ?_ ?_
   ·exact ⟨_,_,Wk.ax al,rfl,rfl,rfl⟩
   ·rintro k _ _ ⟨rfl,rfl,_⟩;exact ⟨rfl,rfl,rfl⟩
   ·rintro k _ _ hk ⟨rfl,rfl,hf⟩
    have hk:k < bD.length:=by simpa using hk
    have hx:bD[k]?=some bD[k]:=by simp [hk]
    have hr:(bD.map fun s=>[GV.v (sv s)])[k]?=some [.v (sv bD[k])]:=by simp [hk]
    have yd:=FC _ (getElem_mem hk);generalize bD[k]=x at *;have nM:=nQ s x a ah yd ah
    cases hb:bq s a x with
    | true =>
     rw [hb] at nM;have RB:=JU hf hx hb;refine ab ?_;refine U [] (nM) ?_;refine jt ?_;rw [RB];exact ⟨rfl,rfl⟩
    | false =>
     rw [hb] at nM;refine ab ?_;refine U [] (nM) ?_;exact ⟨rfl,rfl,_,_,Wk.ax al,rfl,rfl,JT hf hx hb⟩
   ·rintro _ _ ⟨rfl,rfl,hf⟩
    have hf:bD.find? (bq s a)=none:=by
     rw [take_of_length_le (by simp)] at hf;exact hf
    refine ab ?_;refine jt ?_;rw [hf];exact ⟨rfl,rfl⟩
theorem NW {s:ae} {a:Nat} {c:UInt8} (hc:s[a]?=some c):a<=(gZ s a c).2/\(gZ s a c).2<=s.length:=by
 have aq:a < s.length:=(List.getElem?_eq_some_iff.1 hc).1;unfold gZ;split
 ·exact (vB s (s.length+1) 0 a ah ah).2
 ·split
  ·exact (oA s dK (s.length+1) a ah ah).2
  ·split
   ·rename_i x hx;have:=iJ (List.find?_some hx);exact ⟨Nat.le_add_right _ _,this⟩
   ·exact ⟨Nat.le_refl _,by omega⟩
theorem KS (s:ae) (l:List Tok) (hs:s.length<=1000000000000) (h:Go.Sp.gQ s=some l) :
  GF Tryz.prog 130 [.v (sv s)] [] (Go.Xg.gQ l) []:=by
 rw [Go.Sp.gQ] at h;have XT:=LA s 0 ah (Nat.zero_le _);have r6:=xD s (s.length+1) 0 (Nat.zero_le _);generalize hS:skip s (s.length+1) 0=R at *;refine ai Tryz.func130 Tryz.ntmps130 ?_;refine nT ?_;refine ab ?_;refine U [] (XT) ?_;refine GW.loop (fun x:Nat × Nat × List Tok=>x.1) (fun x fr Γ=>∃ n rows,fr=[.v (sv s),.Zy,.Zy,.vec 0 n,.v (ii (x.2.1:Nat)),.Zy,.Zy,.Zy,.Zy,.Zy,.Zy,.Zy,.Zy,.Zy,.Zy,.Zy,.Zy,.Zy,.Zy,.Zy,.Zy,.Zy,.Zy,.Zy,.Zy,.Zy,.Zy,.Zy,.Zy,.Zy,.Zy,.Zy,.Zy,.Zy,.Zy]/\Γ=[.vec 162 4 0 rows]/\rows.length=n/\rows=x.2.2.map cW/\n+x.1<=s.length+2/\x.2.1<=s.length/\pg s x.1 x.2.1 x.2.2=some l) (s.length+2,R.1,[]) ?_ ?_
 ·exact ⟨_,_,Wk.ax al,0,[],rfl,rfl,rfl,rfl,by simp,r6.2,h⟩
 ·rintro ⟨f,a,acc⟩ _ _ ⟨n,rows,rfl,rfl,hn,bo,qA,ha,h⟩;simp only at bo qA ha h
  cases f with
  | zero=>simp [pg] at h
  | succ f =>
  rw [pg] at h
  cases hc:s[a]? with
  | none =>
   rw [hc] at h;simp only at h;cases h;have kO:s.length<=a:=List.getElem?_eq_none_iff.1 hc
   have hd:decide ((a:Int) < (s.length:Int))=false:=by simpa using kO
   subst bo;refine ab ?_;refine aU ?_;refine ab ?_;refine GW.wk (Wk.gD (t:=2) rfl rfl rfl hn) ?_;exact ao
  | some c =>
   rw [hc] at h;simp only at h;have aq:a < s.length:=(List.getElem?_eq_some_iff.1 hc).1
   have hd:decide ((a:Int) < (s.length:Int))=true:=by simpa using aq
   have ow:=NW hc;have eM:=M6 s a c ah hc;generalize gZ s a c=tk at *;have Wb:=LA s tk.2 ah ow.2;have Y4:=xD s (s.length+1) tk.2 ow.2;generalize skip s (s.length+1) tk.2=R2 at *;refine ab ?_;refine U [] (eM) ?_;refine dX ?_;refine ab ?_;refine U [] (Wb) ?_;exact ⟨(f,R2.1,acc++[tk.1]),⟨_,_,(Wk.cut (n:=1) (Nat.le_of_ble_eq_true rfl) rfl).trans (Wk.ax al),_,_,rfl,rfl,by simp [hn],by rw [List.map_append,bo];rfl,by simp only;omega,by simp only;omega,h⟩,by simp⟩
end Go.Xg
namespace Go.Xg
open Go.RowKit Go.Xw Go.Proofs
open Go.Xp (Tok Nd T bc one levels)
open Go.Sp
attribute [local irreducible] GW GL GO YG GC GA aS aW
structure CV (f:Nat):Prop where
 expr:∀ d p t q,p.ok->d+f<=4611686018427387904->mE f (.expr d) p=some (t,q)->GF Tryz.prog 199 [.loc 0 0,.v (ii (d:Nat))] [bS p] (.agg (cT t)) [bS q]
 level:∀ k d p t q,p.ok->k<=9->d+f<=4611686018427387904->mE f (.level k d) p=some (t,q)->GF Tryz.prog 220 [.loc 0 0,.v (ii (k:Nat)),.v (ii (d:Nat))] [bS p] (.agg (cT t)) [bS q]
 operand:∀ d p t q,p.ok->d+f<=4611686018427387904->mE f (.operand d) p=some (t,q)->GF Tryz.prog 234 [.loc 0 0,.v (ii (d:Nat))] [bS p] (.agg (cT t)) [bS q]
 named:∀ a s d p t q,p.ok->d+f<=4611686018427387904->mE f (.named a s d) p=some (t,q)->GF Tryz.prog 244 [.loc 0 0,.v (ii a),.v (sv s),.v (ii (d:Nat))] [bS p] (.agg (cT t)) [bS q]
 list:∀ d p l q,p.ok->d+f<=4611686018427387904->mL f d p=some (l,q)->GF Tryz.prog 249 [.loc 0 0,.v (ii (d:Nat))] [bS p] (.sl 6 (aJ l)) [bS q]
theorem QX {f:Nat} (C:CV f) (d:Nat) (p:RS) (t:T) (q:RS) (hp:p.ok) (hd:d+(f+1)<=4611686018427387904) (h:mE (f+1) (.expr d) p=some (t,q)) :
  GF Tryz.prog 199 [.loc 0 0,.v (ii (d:Nat))] [bS p] (.agg (cT t)) [bS q]:=by
 rw [mE] at h;refine ai Tryz.func199 Tryz.ntmps199 ?_;refine U [0] (tg p d hp) ?_;refine U [0] (C.level 0 d _ t q ((nj hp d).ok hp) ah ah h) ?_;exact df
theorem GQ {k:Nat} (hk:k < 9):(levels.map fun l=>[strs l])[k]?=some [strs (levels.getD k [])]:=by
 have:k < levels.length:=hk;rw [getElem?_map,getElem?_eq_getElem this,List.getD_eq_getElem?_getD,getElem?_eq_getElem this];rfl
theorem A1:∀ k,k < 9->(levels.getD k []).length<=1099511627776:=by decide
abbrev zT:List GV:=[.v (ii 0),.v (ii 0),.v (ii 0),.v (sv []),.v (.slice none 0 0),.v (.slice none 0 0)]
theorem PZ {f:Nat} (C:∀ f',f'<=f->CV f') (k d:Nat) (p:RS) (t:T) (q:RS) (hp:p.ok) (hk:k<=9) (hd:d+(f+1)<=4611686018427387904) (h:mE (f+1) (.level k d) p=some (t,q)) :
  GF Tryz.prog 220 [.loc 0 0,.v (ii (k:Nat)),.v (ii (d:Nat))] [bS p] (.agg (cT t)) [bS q]:=by
 rw [mE] at h
 by_cases zD:k=9
 ·subst zD;rw [if_pos rfl] at h;refine ai Tryz.func220 Tryz.ntmps220 ?_;refine U [] (iU) ?_;refine U [0] ((C f (Nat.le_refl _)).operand (d+1) p t q hp ah h) ?_;exact df
 ·rw [if_neg zD] at h
  have VV:((k:Int)==9)=false:=by simp;omega
  cases he:mE f (.level (k+1) d) p with
  | none=>rw [he] at h;cases h
  | some r =>
   obtain ⟨out,p1⟩:=r;rw [he] at h;simp only at h;have jT:=((tl f).1 _ _ _ _ hp he).ok hp;refine ai Tryz.func220 Tryz.ntmps220 ?_;refine U [] (iU) ?_;refine U [0] ((C f (Nat.le_refl _)).level (k+1) d p out p1 hp ah ah he) ?_;refine GW.loop (fun x:Nat × T × RS=>x.1) (fun x fr Γ=>fr=[.loc 0 0,.v (ii (k:Nat)),.v (ii (d:Nat)),.Zy,.Zy,.Zy,.loc 1 0,.loc 2 0,.Zy,.Zy,.Zy,.Zy,.Zy,.Zy,.Zy,.Zy,.Zy,.Zy,.Zy,.Zy,.Zy,.Zy,.Zy,.Zy,.Zy,.Zy,.Zy,.Zy,.Zy,.Zy,.Zy,.Zy,.Zy,.Zy,.Zy,.Zy,.Zy,.Zy,.Zy,.Zy,.Zy,.Zy,.Zy,.Zy,.Zy,.Zy,.Zy,.Zy,.Zy,.Zy,.Zy,.Zy,.Zy,.Zy,.Zy,.Zy,.Zy,.Zy,.Zy,.Zy,.Zy,.Zy,.Zy,.Zy,.Zy,.Zy]/\Γ=[bS x.2.2,.box 56 zT,.box 56 (cT x.2.1)]/\x.2.2.ok/\x.1<=f/\mE x.1 (.loop k d x.2.1) x.2.2=some (t,q)) (f,out,p1) ?_ ?_
   ·exact ⟨_,_,Wk.ax al,rfl,rfl,jT,Nat.le_refl _,h⟩
   ·rintro ⟨g,out,p⟩ _ _ ⟨rfl,rfl,hp,Kp,h⟩;simp only at hp Kp h
    cases g with
    | zero=>simp [mE] at h
    | succ g =>
    rw [mE] at h
    have hk:k < 9:=by omega
    by_cases hc:p.code=0
    ·have dj:(p.code==0)=true:=by simpa using hc
     have Gn:=GQ hk
     by_cases hit:(levels.getD k []).contains (p.sign 0)=true
     ·rw [if_pos ⟨hc,hit⟩] at h
      cases ht:p.l[p.i]? with
      | none=>rw [ht] at h;cases h
      | some tk =>
       rw [ht] at h;simp only at h;have aq:=(List.getElem?_eq_some_iff.1 ht).1;have hr:=jI ht;have cJ:=hp.2
       cases hb:mE g (.level (k+1) d) p.next with
       | none=>rw [hb] at h;cases h
       | some r =>
        obtain ⟨b,p2⟩:=r;rw [hb] at h;simp only at h;have cR:=(dp aq).ok hp;have dD:=((tl g).1 _ _ _ _ cR hb).ok cR;refine ab ?_;refine GW.draw (.q 0 (.q 1 (.q 2 (.q 3 (.q 4 (.q 5 (.q 7 (.q 10 (.a 6 (.q 8 (.q 9 (.a 11 (.a 12 (.q 13 .nil)))))))))))))) (by kernel_rfl) (by kernel_rfl) ?_;refine aj ?_;refine bz [] (iU) ?_;refine bz [0] (cU p 0 hp (by decide)) ?_;refine bz [] (gL (levels.getD k []) (p.sign 0) (A1 k hk)) ?_;refine ab ?_;refine GW.draw (.q 0 (.q 1 (.q 2 (.q 3 (.q 4 (.q 5 (.q 6 (.q 7 (.q 8 (.q 9 (.a 10 (.a 11 .nil)))))))))))) (by kernel_rfl) (by kernel_rfl) ?_;refine aj ?_;refine ab ?_;refine GW.draw (.q 0 (.q 1 (.q 2 (.q 3 (.q 4 (.q 5 (.q 6 (.q 7 (.q 8 (.a 9 (.a 10 (.a 11 (.a 12 .nil))))))))))))) (by kernel_rfl) (by kernel_rfl) ?_;refine aj ?_;refine aC [0] ((C g ah).level (k+1) d p.next b p2 cR ah ah hb) ?_;refine dv ?_;refine aj ?_;refine vK [] (fC 6 tk.at_ tk.s [out,b] _ nk) ?_;refine EN ?_;refine aj ?_;refine ab ?_;exact ⟨(g,one 6 tk.at_ tk.s [out,b],p2),⟨_,_,(Wk.cut (n:=3) (Nat.le_of_ble_eq_true rfl) rfl).trans (Wk.ax al),rfl,rfl,dD,by omega,h⟩,by simp⟩
     ·have hit:(levels.getD k []).contains (p.sign 0)=false:=by simpa using hit
      rw [if_neg (by rw [hit];simp)] at h
      obtain ⟨rfl,rfl⟩:out=t/\p=q:=by simpa using h
      refine ab ?_;refine GW.draw (.q 0 (.q 1 (.q 2 (.q 3 (.q 4 (.q 5 (.q 7 (.q 10 (.a 6 (.q 8 (.q 9 (.a 11 (.a 12 (.q 13 .nil)))))))))))))) (by kernel_rfl) (by kernel_rfl) ?_;refine aj ?_;refine bz [] (iU) ?_;refine bz [0] (cU p 0 hp (by decide)) ?_;refine bz [] (gL (levels.getD k []) (p.sign 0) (A1 k hk)) ?_;refine ab ?_;refine aU ?_;exact jr
    ·have dj:(p.code==0)=false:=by simpa using hc
     rw [if_neg (fun hh=>hc hh.1)] at h
     obtain ⟨rfl,rfl⟩:out=t/\p=q:=by simpa using h
     refine ab ?_;refine GW.draw (.q 0 (.q 1 (.q 2 (.q 3 (.q 4 (.q 5 (.q 7 (.q 10 (.a 6 (.q 8 (.q 9 (.a 11 (.a 12 (.q 13 .nil)))))))))))))) (by kernel_rfl) (by kernel_rfl) ?_;refine aj ?_;refine ab ?_;refine aU ?_;exact jr
end Go.Xg
namespace Go.Xg
open Go.RowKit Go.Xw Go.Proofs
open Go.Xp (Tok Nd T bc one levels)
open Go.Sp
attribute [local irreducible] GW GL GO YG GC GA aS aW
theorem P3 {f:Nat} (C:CV f) (a:Int) (s:ae) (d:Nat) (p:RS) (t:T) (q:RS) (hp:p.ok) (hd:d+(f+1)<=4611686018427387904) (h:mE (f+1) (.named a s d) p=some (t,q)) :
  GF Tryz.prog 244 [.loc 0 0,.v (ii a),.v (sv s),.v (ii (d:Nat))] [bS p] (.agg (cT t)) [bS q]:=by
 rw [mE] at h
 by_cases h1:p.sign 0=[91]
 ·rw [if_pos h1] at h
  have ct:(p.sign 0==[91])=true:=by simp [h1]
  have aq:=(fc h1 (by decide)).1;have cJ:=hp.2;have cR:=(iw h1 (by decide)).ok hp
  cases he:mE f (.expr (d+1)) p.next with
  | none=>rw [he] at h;cases h
  | some r =>
   obtain ⟨b,p1⟩:=r;rw [he] at h;cases h;have jT:=((tl f).1 _ _ _ _ cR he).ok cR;refine ai Tryz.func244 Tryz.ntmps244 ?_;refine U [0] (cU p 0 hp (by decide)) ?_;refine U [0] (C.expr (d+1) p.next b p1 cR ah he) ?_;refine U [0] (cS p1 [93] jT (by decide)) ?_;refine bJ ?_;refine ab ?_;refine U [] (fC 3 a s [b] _ nk) ?_;exact df
 ·rw [if_neg h1] at h
  have ct:(p.sign 0==[91])=false:=by simpa using h1
  by_cases h2:p.sign 0=[40]
  ·rw [if_pos h2] at h
   have pk:(p.sign 0==[40])=true:=by simp [h2]
   have aq:=(fc h2 (by decide)).1;have cJ:=hp.2;have cR:=(iw h2 (by decide)).ok hp
   cases he:mL f (d+1) p.next with
   | none=>rw [he] at h;cases h
   | some r =>
    obtain ⟨l,p1⟩:=r;rw [he] at h;cases h;refine ai Tryz.func244 Tryz.ntmps244 ?_;refine U [0] (cU p 0 hp (by decide)) ?_;refine U [0] (C.list (d+1) p.next l q cR ah he) ?_;refine U [] (fC 4 a s l _ rfl) ?_;exact df
  ·rw [if_neg h2] at h
   have pk:(p.sign 0==[40])=false:=by simpa using h2
   cases h;refine ai Tryz.func244 Tryz.ntmps244 ?_;refine U [0] (cU p 0 hp (by decide)) ?_;refine U [] (fC 2 a s [] [] rfl) ?_;exact df
theorem aO (l:List T):(aJ l).length=l.length:=by
 induction l with
 | nil=>rfl
 | cons a l ih=>simp [aJ,ih]
theorem sR (l:List T) (a:T):aJ (l++[a])=aJ l++[cT a]:=by
 induction l with
 | nil=>simp [aJ,rm]
 | cons b l ih=>simp [aJ,ih]
theorem Sq {f:Nat} (C:∀ f',f'<=f->CV f') (d:Nat) (p:RS) (l:List T) (q:RS) (hp:p.ok) (hd:d+(f+1)<=4611686018427387904) (h:mL (f+1) d p=some (l,q)) :
  GF Tryz.prog 249 [.loc 0 0,.v (ii (d:Nat))] [bS p] (.sl 6 (aJ l)) [bS q]:=by
 rw [mL] at h
 by_cases h1:p.sign 0=[41]
 ·rw [if_pos h1] at h
  have ct:(!(p.sign 0==[41]))=false:=by simp [h1]
  cases h;refine ai Tryz.func249 Tryz.ntmps249 ?_;refine nT ?_;refine ab ?_;refine U [0] (cU p 0 hp (by decide)) ?_;refine U [0] (cS p [41] hp (by decide)) ?_;refine GW.wk (Wk.gD (t:=4) rfl rfl rfl rfl) ?_;exact ao
 ·rw [if_neg h1] at h
  have ct:(!(p.sign 0==[41]))=true:=by simpa using h1
  cases he:mE f (.expr d) p with
  | none=>rw [he] at h;cases h
  | some r =>
   obtain ⟨a,p1⟩:=r;rw [he] at h;simp only at h;have jT:=((tl f).1 _ _ _ _ hp he).ok hp;refine ai Tryz.func249 Tryz.ntmps249 ?_;refine nT ?_;refine ab ?_;refine U [0] (cU p 0 hp (by decide)) ?_;refine U [0] ((C f (Nat.le_refl _)).expr d p a p1 hp ah he) ?_;refine dX ?_;refine ab ?_;refine GW.loop (fun x:Nat × List T × RS=>x.1) (fun x fr Γ=>∃ n rows,fr=[.loc 0 0,.v (ii (d:Nat)),.Zy,.Zy,.Zy,.vec 1 n,.Zy,.Zy,.Zy,.Zy,.Zy,.Zy,.Zy,.Zy,.Zy,.Zy,.Zy,.Zy,.Zy,.Zy,.Zy,.Zy,.Zy,.Zy,.Zy,.Zy,.Zy,.Zy,.Zy,.Zy,.Zy,.Zy,.Zy,.Zy,.Zy]/\Γ=[bS x.2.2,.vec 56 6 0 rows]/\rows.length=n/\rows=aJ x.2.1/\n<=x.2.2.i+1/\x.2.2.ok/\x.1<=f/\so x.1 d x.2.1 x.2.2=some (l,q)) (f,[a],p1) ?_ ?_
   ·exact ⟨_,_,Wk.ax al,_,_,rfl,rfl,rfl,(by simp only [aJ,rm];rfl),(by show 1<=p1.i+1;omega),jT,Nat.le_refl _,h⟩
   ·rintro ⟨g,acc,p⟩ _ _ ⟨n,rows,rfl,rfl,hn,bo,RI,hp,Kp,h⟩;simp only at bo RI hp Kp h
    cases g with
    | zero=>simp [so] at h
    | succ g =>
    rw [so] at h;have cJ:=hp.2;have BR:=hp.1
    by_cases h2:p.sign 0=[44]
    ·rw [if_pos h2] at h
     have pk:(p.sign 0==[44])=true:=by simp [h2]
     have aq:=(fc h2 (by decide)).1;have cR:=(iw h2 (by decide)).ok hp
     cases hb:mE g (.expr d) p.next with
     | none=>rw [hb] at h;cases h
     | some r =>
      obtain ⟨b,p2⟩:=r;rw [hb] at h;simp only at h;have OK:=(tl g).1 _ _ _ _ cR hb;have dD:=OK.ok cR;have qV:p.i+1<=p2.i:=OK.2.2.2;refine ab ?_;refine U [0] (cU p 0 hp (by decide)) ?_;refine U [0] ((C g ah).expr d p.next b p2 cR ah hb) ?_;refine dX ?_;refine ab ?_;exact ⟨(g,acc++[b],p2),⟨_,_,Wk.ax al,_,_,rfl,rfl,by simp [hn],by rw [sR,bo],by simp only;omega,dD,by simp only;omega,h⟩,by simp⟩
    ·rw [if_neg h2] at h
     have pk:(p.sign 0==[44])=false:=by simpa using h2
     obtain ⟨rfl,rfl⟩:acc=l/\p.aE [41]=q:=by simpa using h
     subst bo;refine ab ?_;refine U [0] (cU p 0 hp (by decide)) ?_;refine aU ?_;refine ab ?_;refine U [0] (cS p [41] hp (by decide)) ?_;refine GW.wk (Wk.gD (t:=4) rfl rfl rfl hn) ?_;exact ao
theorem Lm {f:Nat} (C:CV f) (d:Nat) (p:RS) (t:T) (q:RS) (hp:p.ok) (hd:d+(f+1)<=4611686018427387904) (h:mE (f+1) (.operand d) p=some (t,q)) :
  GF Tryz.prog 234 [.loc 0 0,.v (ii (d:Nat))] [bS p] (.agg (cT t)) [bS q]:=by
 rw [mE] at h;have jU:=(nj hp d).ok hp;have vi:=tg p d hp;generalize p.deep d=p1 at *
 try simp only at h
 obtain ⟨BR,cJ⟩:=id jU
 by_cases hc:p1.code=0
 ·rw [if_pos hc] at h
  have dj:(p1.code != 0)=false:=by simpa using hc
  cases ht:p1.l[p1.i]? with
  | none =>
   rw [ht] at h;cases h;have kO:p1.l.length<=p1.i:=List.getElem?_eq_none_iff.1 ht
   have VR:decide (((p1.l.map cW).length:Int)<=(p1.i:Int))=true:=by simp;omega
   refine ai Tryz.func234 Tryz.ntmps234 ?_;refine U [0] (vi) ?_;refine GW.draw (.q 0 (.q 1 (.q 2 (.q 3 (.q 4 (.q 5 (.q 6 (.q 7 (.q 8 (.q 9 (.q 10 (.q 11 (.q 12 (.q 13 (.q 14 (.q 15 (.q 16 .nil))))))))))))))))) (by kernel_rfl) (by kernel_rfl) ?_;refine aj ?_;refine ab ?_;refine U [0] (jZ p1 jU) ?_;refine U [0] (lp p1 7 p1.place) ?_;refine qd ?_;exact ⟨_,iy,rfl,rfl⟩
  | some tk =>
   rw [ht] at h;simp only at h;have aq:p1.i < p1.l.length:=(List.getElem?_eq_some_iff.1 ht).1
   have VR:decide (((p1.l.map cW).length:Int)<=(p1.i:Int))=false:=by simp;omega
   have hr:=jI ht;have cR:=(dp aq).ok jU;refine ai Tryz.func234 Tryz.ntmps234 ?_;refine U [0] (vi) ?_;refine GW.draw (.q 0 (.q 1 (.q 2 (.q 3 (.q 4 (.q 5 (.q 6 (.q 7 (.q 8 (.q 9 (.q 10 (.q 11 (.q 12 (.q 13 (.q 14 (.q 15 (.q 16 .nil))))))))))))))))) (by kernel_rfl) (by kernel_rfl) ?_;refine aj ?_;refine ab ?_;refine GW.draw (.q 0 (.q 1 (.q 2 (.q 3 (.q 4 (.q 5 (.q 6 (.q 7 (.q 8 (.q 9 (.a 10 (.a 11 .nil)))))))))))) (by kernel_rfl) (by kernel_rfl) ?_;refine aj ?_;refine ab ?_
   by_cases k1:tk.kind=1
   ·rw [if_pos k1] at h;cases h
    have Ya:(tk.kind==1)=true:=by simpa using k1
    refine ab ?_;refine qd ?_;exact ⟨_,iy,rfl,rfl⟩
   ·rw [if_neg k1] at h
    have Ya:(tk.kind==1)=false:=by simpa using k1
    by_cases k2:tk.kind=2
    ·rw [if_pos k2] at h
     have Yc:(tk.kind==2)=true:=by simpa using k2
     refine ab ?_;refine U [0] (wP p1 jU) ?_;refine U [0] (C.named tk.at_ p1.name.1 d p1.name.2 t q ((qa jU).ok jU) ah h) ?_;exact df
    ·rw [if_neg k2] at h
     have Yc:(tk.kind==2)=false:=by simpa using k2
     by_cases s3:tk.s=[45]\/tk.s=[33]\/tk.s=[126]
     ·rw [if_pos s3] at h
      cases he:mE f (.operand (d+1)) p1.next with
      | none=>rw [he] at h;cases h
      | some r =>
       obtain ⟨a,p2⟩:=r;rw [he] at h;cases h
       have Ym:(tk.s==[45])=true\/((tk.s==[45])=false/\(tk.s==[33])=true)\/((tk.s==[45])=false/\(tk.s==[33])=false/\(tk.s==[126])=true):=by
        rcases s3 with s3 | s3 | s3
        ·exact .inl (by simp [s3])
        ·exact .inr (.inl (by simp [s3]))
        ·exact .inr (.inr (by simp [s3]))
       refine ab ?_
       rcases Ym with e1 | ⟨e1,e2⟩ | ⟨e1,e2,e3⟩
       all_goals
        refine ab ?_;refine GW.draw (.q 0 (.q 1 (.q 2 (.q 3 (.q 4 (.q 5 (.q 6 (.a 7 (.a 8 (.a 9 (.a 10 .nil))))))))))) (by kernel_rfl) (by kernel_rfl) ?_;refine aj ?_;refine aC [0] (C.operand (d+1) p1.next a q cR ah he) ?_;refine dv ?_;refine aj ?_;refine vK [] (fC 5 tk.at_ tk.s [a] _ nk) ?_;refine EN ?_;refine aj ?_;exact jr
     ·rw [if_neg s3] at h
      have e1:(tk.s==[45])=false:=by simp at s3;simpa using s3.1
      have e2:(tk.s==[33])=false:=by simp at s3;simpa using s3.2.1
      have e3:(tk.s==[126])=false:=by simp at s3;simpa using s3.2.2
      by_cases s4:tk.s=[40]
      ·rw [if_pos s4] at h
       have Yn:(tk.s==[40])=true:=by simp [s4]
       cases he:mE f (.expr (d+1)) p1.next with
       | none=>rw [he] at h;cases h
       | some r =>
        obtain ⟨a,p2⟩:=r;rw [he] at h;cases h;have dD:=((tl f).1 _ _ _ _ cR he).ok cR;refine ab ?_;refine U [0] (C.expr (d+1) p1.next t p2 cR ah he) ?_;refine U [0] (cS p2 [41] dD (by decide)) ?_;exact df
      ·rw [if_neg s4] at h
       have Yn:(tk.s==[40])=false:=by simpa using s4
       cases h;refine ab ?_;refine U [0] (lp p1 7 tk.at_) ?_;refine qd ?_;exact ⟨_,iy,rfl,rfl⟩
 ·rw [if_neg hc] at h
  have dj:(p1.code != 0)=true:=by simpa using hc
  cases h;refine ai Tryz.func234 Tryz.ntmps234 ?_;refine U [0] (vi) ?_;refine GW.draw (.q 0 (.q 1 (.q 2 (.q 3 (.q 4 (.q 5 (.q 6 (.q 7 (.q 8 (.q 9 (.q 10 (.q 11 (.q 12 (.q 13 (.q 14 (.q 15 (.q 16 .nil))))))))))))))))) (by kernel_rfl) (by kernel_rfl) ?_;refine aj ?_;refine ab ?_;refine U [0] (jZ p1 jU) ?_;refine U [0] (lp p1 7 p1.place) ?_;refine qd ?_;exact ⟨_,iy,rfl,rfl⟩
theorem Yl (f:Nat):CV f:=by
  induction f using Nat.strongRecOn with
  | _ f ih =>
   cases f with
   | zero=>exact ⟨fun d p t q _ _ h=>by simp [mE] at h,fun k d p t q _ _ _ h=>by simp [mE] at h,fun d p t q _ _ h=>by simp [mE] at h,fun a s d p t q _ _ h=>by simp [mE] at h,fun d p l q _ _ h=>by simp [mL] at h⟩
   | succ f =>
    have C:=ih f (Nat.lt_succ_self f)
    have Cs:∀ f',f'<=f->CV f':=fun f' h=>ih f' (Nat.lt_succ_of_le h)
    exact ⟨fun d p t q hp hd h=>QX C d p t q hp hd h,fun k d p t q hp hk hd h=>PZ Cs k d p t q hp hk hd h,fun d p t q hp hd h=>Lm C d p t q hp hd h,fun a s d p t q hp hd h=>P3 C a s d p t q hp hd h,fun d p l q hp hd h=>Sq Cs d p l q hp hd h⟩
end Go.Xg
namespace Go.Xg
open Go.RowKit Go.Xw Go.Proofs
open Go.Xp (Tok Nd T bc one levels fR dI dW dm c7)
open Go.Sp
attribute [local irreducible] GW GL GO YG GC GA aS aW
structure Jl (f:Nat):Prop where
 block:∀ d p t q,p.ok->d+f<=1099511627776->mS f (.block d) p=some (t,q)->GF Tryz.prog 131 [.loc 0 0,.v (ii (d:Nat))] [bS p] (.agg (cT t)) [bS q]
 stmt:∀ d p t q,p.ok->d+f<=1099511627776->mS f (.stmt d) p=some (t,q)->GF Tryz.prog 160 [.loc 0 0,.v (ii (d:Nat))] [bS p] (.agg (cT t)) [bS q]
 cond:∀ a d p t q,p.ok->p.i < p.l.length->d+f<=1099511627776->mS f (.cond a d) p=some (t,q)->GF Tryz.prog 200 [.loc 0 0,.v (ii a),.v (ii (d:Nat))] [bS p] (.agg (cT t)) [bS q]
theorem wV (d:Nat) (p:RS) (t:T) (q:RS) (hp:p.ok) (hd:d<=1099511627777) (h:mX d p=some (t,q)):GF Tryz.prog 199 [.loc 0 0,.v (ii (d:Nat))] [bS p] (.agg (cT t)) [bS q] :=
 (Yl (fe p)).expr d p t q hp (by have:=hp.2;unfold fe;omega) h
theorem Ij (k a:Int) (s:ae):GF Tryz.prog 156 [.v (ii k),.v (ii a),.v (sv s),.v (.slice none 0 0)] [] (.agg [.v (ii k),.v (ii a),.v (ii 0),.v (sv s),ints [],.v (.slice none 0 0)]) []:=by
 refine ai Tryz.func156 Tryz.ntmps156 ?_;refine qd ?_;exact ⟨_,iy,rfl,rfl⟩
theorem Pn {f:Nat} (C:∀ f',f'<=f->Jl f') (d:Nat) (p:RS) (t:T) (q:RS) (hp:p.ok) (hd:d+(f+1)<=1099511627776) (h:mS (f+1) (.block d) p=some (t,q)) :
  GF Tryz.prog 131 [.loc 0 0,.v (ii (d:Nat))] [bS p] (.agg (cT t)) [bS q]:=by
 rw [mS] at h;have jU:=(nj hp d).ok hp;have vi:=tg p d hp;generalize p.deep d=p1 at *
 try simp only at h
 have wI:=(eR jU (s:=[123]) (by decide)).ok jU
 cases he:mB f (d+1) [] (p1.aE [123]) with
 | none=>rw [he] at h;cases h
 | some r =>
  obtain ⟨l,q1⟩:=r;rw [he] at h;cases h;generalize cJ:p1.place=pl;refine ai Tryz.func131 Tryz.ntmps131 ?_;refine U [0] (vi) ?_;refine U [0] (jZ p1 jU) ?_;refine U [] (Ij 14 p1.place []) ?_;refine U [0] (cS p1 [123] jU (by decide)) ?_;rw [cJ];refine GW.wk (Wk.D3 (i:=2) (o:=5) 56 6 rfl rfl) ?_;refine GW.loop (fun x:Nat × List T × RS=>x.1) (fun x fr Γ=>∃ n rows,fr=[.loc 0 0,.v (ii (d:Nat)),.Zy,.Zy,.loc 1 0,.loc 2 0,.Zy,.Zy,.Zy,.Zy,.Zy,.Zy,.Zy,.Zy,.Zy,.Zy,.Zy,.Zy,.Zy,.Zy,.Zy,.Zy,.Zy,.Zy,.Zy,.Zy,.Zy,.Zy,.Zy,.Zy,.Zy,.Zy,.Zy,.Zy,.Zy,.Zy]/\Γ=[bS x.2.2,.box 56 zT,.box 56 [.v (ii 14),.v (ii pl),.v (ii 0),.v (sv []),ints [],.vec 3 n],.vec 56 6 0 rows]/\rows.length=n/\rows=aJ x.2.1/\n+x.1<=f/\x.2.2.ok/\mB x.1 (d+1) x.2.1 x.2.2=some (l,q1)) (f,[],p1.aE [123]) ?_ ?_
  ·exact ⟨_,_,Wk.ax al,0,[],rfl,rfl,rfl,rfl,by simp,wI,he⟩
  ·rintro ⟨g,acc,p⟩ _ _ ⟨n,rows,rfl,rfl,hn,bo,x9,hp,h⟩;simp only at bo x9 hp h
   cases g with
   | zero=>simp [mB] at h
   | succ g =>
   rw [mB] at h
   by_cases hc:p.code=0
   ·have dj:(p.code==0)=true:=by simpa using hc
    by_cases hs:p.sign 0=[125]
    ·rw [if_neg (fun hh=>hh.2 hs)] at h
     obtain ⟨rfl,rfl⟩:acc=l/\p=q1:=by simpa using h
     have nr:(!(p.sign 0==[125]))=false:=by simp [hs]
     subst bo;refine ab ?_;refine U [0] (cU p 0 hp (by decide)) ?_;refine aU ?_;refine ab ?_;refine GL.wk (Wk.vG (i:=2) (o:=5) rfl rfl rfl rfl hn) ?_;refine cL ?_;refine U [0] (cS p [125] hp (by decide)) ?_;exact df
    ·rw [if_pos ⟨hc,hs⟩] at h
     have nr:(!(p.sign 0==[125]))=true:=by simpa using hs
     cases hb:mS g (.stmt (d+1)) p with
     | none=>rw [hb] at h;cases h
     | some r =>
      obtain ⟨a,p2⟩:=r;rw [hb] at h;simp only at h;have dD:=((Iw g).1 _ _ _ _ hp (fun a d' h=>by cases h) hb).ok hp;refine ab ?_;refine U [0] (cU p 0 hp (by decide)) ?_;refine GW.draw (.q 0 (.q 1 (.q 2 (.q 3 (.q 4 (.a 5 (.a 6 (.a 7 (.q 8 (.a 9 .nil)))))))))) (by kernel_rfl) (by kernel_rfl) ?_;refine aj ?_;refine aC [0] ((C g ah).stmt (d+1) p a p2 hp ah hb) ?_;refine dv ?_;refine aj ?_;refine rz ?_;refine aj ?_;refine ab ?_;exact ⟨(g,acc++[a],p2),⟨_,_,Wk.ax al,_,_,rfl,rfl,by simp [hn],by rw [sR,bo];rfl,by show n+1+g<=f;omega,dD,h⟩,by simp⟩
   ·have dj:(p.code==0)=false:=by simpa using hc
    rw [if_neg (fun hh=>hc hh.1)] at h
    obtain ⟨rfl,rfl⟩:acc=l/\p=q1:=by simpa using h
    subst bo;refine ab ?_;refine aU ?_;refine ab ?_;refine GL.wk (Wk.vG (i:=2) (o:=5) rfl rfl rfl rfl hn) ?_;refine cL ?_;refine U [0] (cS p [125] hp (by decide)) ?_;exact df
theorem QS {f:Nat} (C:Jl f) (a:Int) (d:Nat) (p:RS) (t:T) (q:RS) (hp:p.ok) (aq:p.i < p.l.length) (hd:d+(f+1)<=1099511627776) (h:mS (f+1) (.cond a d) p=some (t,q)) :
  GF Tryz.prog 200 [.loc 0 0,.v (ii a),.v (ii (d:Nat))] [bS p] (.agg (cT t)) [bS q]:=by
 rw [mS] at h
 try simp only at h
 have cR:=(dp aq).ok hp;have cJ:=hp.2;have wI:=(eR cR (s:=[40]) (by decide)).ok cR
 cases he:mX (d+1) (p.next.aE [40]) with
 | none=>rw [he] at h;cases h
 | some r =>
 obtain ⟨e,p1⟩:=r;rw [he] at h;simp only at h;have jT:=(nZ wI he).ok wI;have DA:=(eR jT (s:=[41]) (by decide)).ok jT
 cases hb:mS f (.block (d+1)) (p1.aE [41]) with
 | none=>rw [hb] at h;cases h
 | some r =>
 obtain ⟨b,p2⟩:=r;rw [hb] at h;simp only at h;have dD:=((Iw f).1 _ _ _ _ DA (fun a d' h=>by cases h) hb).ok DA;have RQ:=dD.2
 have key:∀ k:Int,(if k=9/\p2.sign 0=dW then match mS f (.block (d+1)) p2.next with
     | none=>none
     | some (b2,q)=>some (one k a [] [e,b,b2],q)
    else some (one k a [] [e,b],p2))=some (t,q)->p.ck=k->(k=9\/k=10)->((p.sign 0==[105,102])=true/\k=9)\/((p.sign 0==[105,102])=false/\k=10):=by
  intro k _ hk _;unfold RS.ck at hk;split at hk
  ·rename_i hs;exact .inl ⟨by rw [hs];rfl,hk.symm⟩
  ·rename_i hs;refine .inr ⟨?_,hk.symm⟩
   cases hq:(p.sign 0==[105,102]) with
   | false=>rfl
   | true=>exact absurd (eq_of_beq hq) hs
 have rV:p.ck=9\/p.ck=10:=by unfold RS.ck;split <;> simp
 have key:=key p.ck h rfl rV;generalize p.ck=k at h key;clear rV
 rcases key with ⟨hs,rfl⟩ | ⟨hs,rfl⟩
 ·by_cases dP:p2.sign 0=dW
  ·rw [if_pos ⟨rfl,dP⟩] at h
   have VP:(p2.sign 0==[101,108,115,101])=true:=by rw [dP];rfl
   have lZ:=(fc dP (by decide)).1;have V7:=(iw dP (by decide)).ok dD
   cases ey:mS f (.block (d+1)) p2.next with
   | none=>rw [ey] at h;cases h
   | some r =>
   obtain ⟨b2,p3⟩:=r;rw [ey] at h;cases h;refine ai Tryz.func200 Tryz.ntmps200 ?_;refine U [0] (cU p 0 hp (by decide)) ?_;refine U [0] (cS p.next [40] cR (by decide)) ?_;refine U [0] (wV (d+1) _ e p1 wI ah he) ?_;refine U [0] (cS p1 [41] jT (by decide)) ?_;refine GW.draw (.q 0 (.q 1 (.q 2 (.q 3 (.a 4 (.a 5 (.q 6 .nil))))))) (by kernel_rfl) (by kernel_rfl) ?_;refine aj ?_;refine aC [0] (C.block (d+1) _ b p2 DA ah hb) ?_;refine rA ?_;refine aj ?_;refine ab ?_;refine U [0] (cU p2 0 dD (by decide)) ?_;refine fQ [0] (C.block (d+1) _ b2 q V7 ah ey) ?_;refine dX ?_;refine ab ?_;refine GL.wk (Wk.gD (t:=57) rfl rfl rfl rfl) ?_;refine cL ?_;refine U [] (fC 9 a [] [e,b,b2] _ nk) ?_;exact df
  ·rw [if_neg (fun hh=>dP hh.2)] at h
   have VP:(p2.sign 0==[101,108,115,101])=false:=by
    cases hq:(p2.sign 0==[101,108,115,101]) with
    | false=>rfl
    | true=>exact absurd (eq_of_beq hq) dP
   cases h;refine ai Tryz.func200 Tryz.ntmps200 ?_;refine U [0] (cU p 0 hp (by decide)) ?_;refine U [0] (cS p.next [40] cR (by decide)) ?_;refine U [0] (wV (d+1) _ e p1 wI ah he) ?_;refine U [0] (cS p1 [41] jT (by decide)) ?_;refine GW.draw (.q 0 (.q 1 (.q 2 (.q 3 (.a 4 (.a 5 (.q 6 .nil))))))) (by kernel_rfl) (by kernel_rfl) ?_;refine aj ?_;refine aC [0] (C.block (d+1) _ b q DA ah hb) ?_;refine rA ?_;refine aj ?_;refine ab ?_;refine U [0] (cU q 0 dD (by decide)) ?_;refine GL.wk (Wk.gD (t:=57) rfl rfl rfl rfl) ?_;refine cL ?_;refine U [] (fC 9 a [] [e,b] _ nk) ?_;exact df
 ·rw [if_neg (fun hh=>by cases hh.1)] at h;cases h;refine ai Tryz.func200 Tryz.ntmps200 ?_;refine U [0] (cU p 0 hp (by decide)) ?_;refine U [0] (cS p.next [40] cR (by decide)) ?_;refine U [0] (wV (d+1) _ e p1 wI ah he) ?_;refine U [0] (cS p1 [41] jT (by decide)) ?_;refine GW.draw (.q 0 (.q 1 (.q 2 (.q 3 (.a 4 (.a 5 (.q 6 .nil))))))) (by kernel_rfl) (by kernel_rfl) ?_;refine aj ?_;refine aC [0] (C.block (d+1) _ b q DA ah hb) ?_;refine rA ?_;refine aj ?_;refine ab ?_;refine GL.wk (Wk.gD (t:=57) rfl rfl rfl rfl) ?_;refine cL ?_;refine U [] (fC 10 a [] [e,b] _ nk) ?_;exact df
end Go.Xg
namespace Go.Xg
open Go.RowKit Go.Xw Go.Proofs
open Go.Xp (Tok Nd T bc one levels fR dI dW dm c7)
open Go.Sp
attribute [local irreducible] GW GL GO YG GC GA aS aW
theorem ua {s t:ae} (h:¬ s=t):(s==t)=false:=by
 cases hq:(s==t) with
 | false=>rfl
 | true=>exact absurd (eq_of_beq hq) h
theorem SV {f:Nat} (C:Jl f) (d:Nat) (p:RS) (t:T) (q:RS) (hp:p.ok) (hd:d+(f+1)<=1099511627776) (h:mS (f+1) (.stmt d) p=some (t,q)) :
  GF Tryz.prog 160 [.loc 0 0,.v (ii (d:Nat))] [bS p] (.agg (cT t)) [bS q]:=by
 rw [mS] at h;have jU:=(nj hp d).ok hp;have vi:=tg p d hp;generalize p.deep d=p1 at *
 try simp only at h
 obtain ⟨BR,cJ⟩:=id jU;generalize vP:p1.place=at_ at h;refine ai Tryz.func160 Tryz.ntmps160 ?_;refine U [0] (vi) ?_;refine U [0] (jZ p1 jU) ?_;refine fQ [0] (cU p1 0 jU (by decide)) ?_;rw [vP]
 by_cases h1:p1.sign 0=fR
 ·rw [if_pos h1] at h
  have e1:(p1.sign 0==[118,97,114])=true:=by rw [h1];rfl
  have aq:=(fc h1 (by decide)).1;have hn:=(iw h1 (by decide)).ok jU;have ef:=(qa hn).ok hn;have ji:=(eR ef (s:=[61]) (by decide)).ok ef
  cases he:mX (d+1) (p1.next.name.2.aE [61]) with
  | none=>rw [he] at h;cases h
  | some r =>
  obtain ⟨e,p2⟩:=r;rw [he] at h;cases h;have dD:=(nZ ji he).ok ji;refine ab ?_;refine U [0] (wP p1.next hn) ?_;refine U [0] (cS _ [61] ef (by decide)) ?_;refine U [0] (wV (d+1) _ e p2 ji ah he) ?_;refine U [0] (cS p2 [59] dD (by decide)) ?_;refine bJ ?_;refine ab ?_;refine U [] (fC 13 at_ p1.next.name.1 [e] _ nk) ?_;exact df
 rw [if_neg h1] at h;have e1:(p1.sign 0==[118,97,114])=false:=ua h1
 by_cases h2:p1.sign 0=dI\/p1.sign 0=dm
 ·rw [if_pos h2] at h
  have e2:(p1.sign 0==[105,102])=true\/((p1.sign 0==[105,102])=false/\(p1.sign 0==[119,104,105,108,101])=true):=by
   rcases h2 with h2 | h2
   ·exact .inl (by rw [h2];rfl)
   ·exact .inr ⟨by rw [h2];rfl,by rw [h2];rfl⟩
  have aq:p1.i < p1.l.length:=by
   rcases h2 with h2 | h2
   ·exact (fc h2 (by decide)).1
   ·exact (fc h2 (by decide)).1
  rcases e2 with e2 | ⟨e2,e3⟩
  all_goals
   refine ab ?_;refine U [0] (C.cond at_ d p1 t q jU aq ah h) ?_;exact df
 rw [if_neg h2] at h
 have e2:(p1.sign 0==[105,102])=false:=ua fun hh=>h2 (.inl hh)
 have e3:(p1.sign 0==[119,104,105,108,101])=false:=ua fun hh=>h2 (.inr hh)
 by_cases h4:p1.sign 0=c7
 ·rw [if_pos h4] at h
  have e4:(p1.sign 0==[114,101,116,117,114,110])=true:=by rw [h4];rfl
  have aq:=(fc h4 (by decide)).1;have hn:=(iw h4 (by decide)).ok jU
  cases he:mX (d+1) p1.next with
  | none=>rw [he] at h;cases h
  | some r =>
  obtain ⟨e,p2⟩:=r;rw [he] at h;cases h;have dD:=(nZ hn he).ok hn;refine ab ?_;refine U [0] (wV (d+1) _ e p2 hn ah he) ?_;refine U [0] (cS p2 [59] dD (by decide)) ?_;refine bJ ?_;refine ab ?_;refine U [] (fC 11 at_ [] [e] _ nk) ?_;exact df
 rw [if_neg h4] at h;have e4:(p1.sign 0==[114,101,116,117,114,110])=false:=ua h4
 by_cases h5:p1.code=0/\p1.mF=true/\p1.sign 1=[61]
 ·rw [if_pos h5] at h;obtain ⟨hc,Dz,fH⟩:=h5
  have dj:(p1.code==0)=true:=by simpa using hc
  have Y2:(p1.sign 1==[61])=true:=by rw [fH];rfl
  unfold RS.mF at Dz
  cases ht:p1.l[p1.i]? with
  | none=>rw [ht] at Dz;cases Dz
  | some tk =>
  rw [ht] at Dz
  have hk:(tk.kind==2)=true:=by simpa using Dz
  have aq:=(List.getElem?_eq_some_iff.1 ht).1
  have MT:decide ((p1.i:Int) < ((p1.l.map cW).length:Int))=true:=by simpa using aq
  have hr:=jI ht;have ef:=(qa jU).ok jU;have ji:=(eR ef (s:=[61]) (by decide)).ok ef
  cases he:mX (d+1) (p1.name.2.aE [61]) with
  | none=>rw [he] at h;cases h
  | some r =>
  obtain ⟨e,p2⟩:=r;rw [he] at h;cases h;have dD:=(nZ ji he).ok ji;refine ab ?_;refine GW.draw (.q 0 (.q 1 (.q 2 (.q 3 (.q 4 (.q 5 (.q 6 (.q 7 (.q 8 (.q 9 (.q 10 (.q 11 (.q 12 (.q 13 (.q 14 (.q 15 (.q 16 (.q 17 (.q 18 (.q 19 (.q 20 (.q 21 (.q 22 (.q 23 (.q 24 (.q 25 (.q 26 (.q 27 (.q 28 (.q 29 (.q 30 (.q 31 (.q 32 (.a 33 (.q 34 (.q 35 .nil)))))))))))))))))))))))))))))))))))) (by kernel_rfl) (by kernel_rfl) ?_;refine aj ?_;refine bz [0] (cU p1 1 jU (by decide)) ?_;refine ab ?_;refine U [0] (wP p1 jU) ?_;refine U [0] (cS _ [61] ef (by decide)) ?_;refine U [0] (wV (d+1) _ e p2 ji ah he) ?_;refine U [0] (cS p2 [59] dD (by decide)) ?_;refine bJ ?_;refine ab ?_;refine U [] (fC 7 at_ p1.name.1 [e] _ nk) ?_;exact df
 rw [if_neg h5] at h
 cases he:mX (d+1) p1 with
 | none=>rw [he] at h;cases h
 | some r =>
 obtain ⟨e,p2⟩:=r;rw [he] at h;simp only at h;have dD:=(nZ jU he).ok jU;have RQ:=dD.2
 have DI:(p1.code==0)=false\/((p1.code==0)=true/\p1.l.length<=p1.i)\/((p1.code==0)=true/\∃ tk,p1.l[p1.i]?=some tk/\((tk.kind==2)=false\/((tk.kind==2)=true/\(p1.sign 1==[61])=false))):=by
  by_cases hc:p1.code=0
  ·refine .inr ?_
   have dj:(p1.code==0)=true:=by simpa using hc
   cases ht:p1.l[p1.i]? with
   | none=>exact .inl ⟨dj,List.getElem?_eq_none_iff.1 ht⟩
   | some tk =>
    refine .inr ⟨dj,tk,rfl,?_⟩
    by_cases hk:tk.kind=2
    ·refine .inr ⟨by simpa using hk,ua fun W7=>h5 ⟨hc,?_,W7⟩⟩;unfold RS.mF;rw [ht];simpa using hk
    ·exact .inl (by simpa using hk)
  ·exact .inl (by simpa using hc)
 refine ab ?_;refine GW.join (fun fr Γ=>fr=[.loc 0 0,.v (ii (d:Nat)),.Zy,.Zy,.loc 1 0,.v (ii at_),.Zy,.Zy,.Zy,.Zy,.Zy,.Zy,.Zy,.Zy,.Zy,.Zy,.Zy,.Zy,.Zy,.Zy,.Zy,.Zy,.Zy,.Zy,.Zy,.Zy,.Zy,.Zy,.Zy,.Zy,.Zy,.Zy,.Zy,.Zy,.Zy,.Zy,.Zy,.Zy,.Zy,.Zy,.Zy,.Zy,.Zy,.Zy,.Zy,.Zy,.Zy,.Zy,.Zy,.Zy,.Zy,.Zy,.Zy,.Zy,.Zy,.Zy,.Zy,.Zy,.Zy,.Zy,.Zy,.Zy,.Zy,.Zy,.Zy,.Zy,.Zy,.Zy,.Zy,.Zy,.Zy,.Zy,.Zy,.Zy,.Zy,.Zy,.Zy,.Zy,.Zy,.Zy,.Zy,.Zy,.Zy,.Zy,.Zy,.Zy,.Zy,.Zy,.Zy,.Zy,.Zy,.Zy,.Zy,.Zy,.Zy,.Zy,.Zy,.Zy,.Zy,.Zy,.Zy,.Zy,.Zy,.Zy,.Zy,.v (.bool false),.Zy,.Zy,.Zy,.Zy,.Zy,.Zy,.Zy,.Zy,.Zy,.Zy,.Zy,.Zy,.Zy,.Zy,.Zy,.Zy,.Zy,.Zy,.Zy,.Zy,.Zy,.Zy,.Zy,.Zy,.Zy,.Zy,.Zy,.Zy,.Zy,.Zy,.Zy,.Zy,.Zy,.Zy,.Zy,.Zy,.Zy,.Zy,.Zy,.Zy,.Zy,.Zy,.Zy,.Zy,.Zy,.Zy,.Zy,.Zy,.Zy,.Zy,.Zy,.Zy,.Zy,.Zy,.Zy,.Zy,.Zy,.Zy,.Zy,.Zy,.Zy,.Zy,.Zy,.Zy,.Zy]/\Γ=[bS p1,.box 56 zT]) ?_ ?_
 ·rcases DI with dj | ⟨dj,kO⟩ | ⟨dj,tk,ht,hk | ⟨hk,fH⟩⟩
  ·refine GW.draw (.q 0 (.q 1 (.q 2 (.q 3 (.q 4 (.q 5 (.q 6 (.q 7 (.q 8 (.q 9 (.q 10 (.q 11 (.q 12 (.q 13 (.q 14 (.q 15 (.q 16 (.q 17 (.q 18 (.q 19 (.q 20 (.q 21 (.q 22 (.q 23 (.q 24 (.q 25 (.q 26 (.q 27 (.q 28 (.q 29 (.q 30 (.q 31 (.q 32 (.a 33 (.q 34 (.q 35 .nil)))))))))))))))))))))))))))))))))))) (by kernel_rfl) (by kernel_rfl) ?_;refine aj ?_;exact aL ⟨_,_,Wk.ax al,rfl,rfl⟩
  ·have MT:decide ((p1.i:Int) < ((p1.l.map cW).length:Int))=false:=by simpa using kO
   refine GW.draw (.q 0 (.q 1 (.q 2 (.q 3 (.q 4 (.q 5 (.q 6 (.q 7 (.q 8 (.q 9 (.q 10 (.q 11 (.q 12 (.q 13 (.q 14 (.q 15 (.q 16 (.q 17 (.q 18 (.q 19 (.q 20 (.q 21 (.q 22 (.q 23 (.q 24 (.q 25 (.q 26 (.q 27 (.q 28 (.q 29 (.q 30 (.q 31 (.q 32 (.a 33 (.q 34 (.q 35 .nil)))))))))))))))))))))))))))))))))))) (by kernel_rfl) (by kernel_rfl) ?_;refine aj ?_;exact aL ⟨_,_,Wk.ax al,rfl,rfl⟩
  ·have aq:=(List.getElem?_eq_some_iff.1 ht).1
   have MT:decide ((p1.i:Int) < ((p1.l.map cW).length:Int))=true:=by simpa using aq
   have hr:=jI ht;refine GW.draw (.q 0 (.q 1 (.q 2 (.q 3 (.q 4 (.q 5 (.q 6 (.q 7 (.q 8 (.q 9 (.q 10 (.q 11 (.q 12 (.q 13 (.q 14 (.q 15 (.q 16 (.q 17 (.q 18 (.q 19 (.q 20 (.q 21 (.q 22 (.q 23 (.q 24 (.q 25 (.q 26 (.q 27 (.q 28 (.q 29 (.q 30 (.q 31 (.q 32 (.a 33 (.q 34 (.q 35 .nil)))))))))))))))))))))))))))))))))))) (by kernel_rfl) (by kernel_rfl) ?_;refine aj ?_;exact aL ⟨_,_,Wk.ax al,rfl,rfl⟩
  ·have aq:=(List.getElem?_eq_some_iff.1 ht).1
   have MT:decide ((p1.i:Int) < ((p1.l.map cW).length:Int))=true:=by simpa using aq
   have hr:=jI ht;refine GW.draw (.q 0 (.q 1 (.q 2 (.q 3 (.q 4 (.q 5 (.q 6 (.q 7 (.q 8 (.q 9 (.q 10 (.q 11 (.q 12 (.q 13 (.q 14 (.q 15 (.q 16 (.q 17 (.q 18 (.q 19 (.q 20 (.q 21 (.q 22 (.q 23 (.q 24 (.q 25 (.q 26 (.q 27 (.q 28 (.q 29 (.q 30 (.q 31 (.q 32 (.a 33 (.q 34 (.q 35 .nil)))))))))))))))))))))))))))))))))))) (by kernel_rfl) (by kernel_rfl) ?_;refine aj ?_;refine bz [0] (cU p1 1 jU (by decide)) ?_;exact aL ⟨_,_,Wk.ax (by repeat (first | exact rH.nil | refine rH.Zy ?_ | refine rH.eq rfl ?_ | refine rH.eq (by rw [fH]) ?_)),rfl,rfl⟩
 ·rintro _ _ ⟨rfl,rfl⟩;refine ab ?_;refine U [0] (wV (d+1) _ e p2 jU ah he) ?_
  by_cases k3:e.n.kind=3
  ·have Yd:(e.n.kind==3)=true:=by simpa using k3
   by_cases ka:e.n.at_=at_
   ·have Ye:(e.n.at_==at_)=true:=by simpa using ka
    by_cases ks:p2.sign 0=[61]
    ·have Yf:(p2.sign 0==[61])=true:=by rw [ks];rfl
     rw [if_pos ⟨k3,ka,ks⟩] at h;have aq:=(fc ks (by decide)).1;have hn:=(iw ks (by decide)).ok dD
     cases hk:e.kids with
     | nil=>rw [hk] at h;cases h
     | cons a rest =>
     cases hv:mX (d+1) p2.next with
     | none=>rw [hk,hv] at h;cases h
     | some r =>
     obtain ⟨v,p3⟩:=r;rw [hk,hv] at h;cases h;have yb:=(nZ hn hv).ok hn
     have hr:(aJ (a::rest))[0]?=some (cT a):=by simp [aJ,rm]
     refine ab ?_;refine U [0] (cU p2 0 dD (by decide)) ?_;refine U [0] (wV (d+1) _ v p3 hn ah hv) ?_;refine U [0] (cS p3 [59] yb (by decide)) ?_;refine GW.draw (.q 0 (.q 1 (.q 2 (.q 3 (.q 4 (.q 5 (.q 6 (.q 7 (.q 8 (.a 9 (.a 10 (.a 11 .nil)))))))))))) (by kernel_rfl) (by kernel_rfl) ?_;refine aj ?_;refine dv ?_;refine aj ?_;refine vK [] (fC 8 at_ e.n.s [a,v] _ nk) ?_;refine EN ?_;refine aj ?_;exact jr
    ·have Yf:(p2.sign 0==[61])=false:=ua ks;rw [if_neg (fun hh=>ks hh.2.2)] at h;cases h;refine ab ?_;refine U [0] (cU p2 0 dD (by decide)) ?_;refine U [0] (cS p2 [59] dD (by decide)) ?_;refine bJ ?_;refine ab ?_;refine U [] (fC 12 at_ [] [e] _ nk) ?_;exact df
   ·have Ye:(e.n.at_==at_)=false:=by simpa using ka
    rw [if_neg (fun hh=>ka hh.2.1)] at h;cases h;refine ab ?_;refine U [0] (cS p2 [59] dD (by decide)) ?_;refine bJ ?_;refine ab ?_;refine U [] (fC 12 at_ [] [e] _ nk) ?_;exact df
  ·have Yd:(e.n.kind==3)=false:=by simpa using k3
   rw [if_neg (fun hh=>k3 hh.1)] at h;cases h;refine ab ?_;refine U [0] (cS p2 [59] dD (by decide)) ?_;refine bJ ?_;refine ab ?_;refine U [] (fC 12 at_ [] [e] _ nk) ?_;exact df
theorem Yo (f:Nat):Jl f:=by
 induction f using Nat.strongRecOn with
 | _ f ih =>
  cases f with
  | zero=>exact ⟨fun d p t q _ _ h=>by simp [mS] at h,fun d p t q _ _ h=>by simp [mS] at h,fun a d p t q _ _ _ h=>by simp [mS] at h⟩
  | succ f =>
   have C:=ih f (Nat.lt_succ_self f)
   have Cs:∀ f',f'<=f->Jl f':=fun f' h=>ih f' (Nat.lt_succ_of_le h)
   exact ⟨fun d p t q hp hd h=>Pn Cs d p t q hp hd h,fun d p t q hp hd h=>SV C d p t q hp hd h,fun a d p t q hp hl hd h=>QS C a d p t q hp hl hd h⟩
end Go.Xg
namespace Go.Xg
open Go.RowKit Go.Xw Go.Proofs
open Go.Xp (Tok Nd T bc one levels Ar)
open Go.Sp
attribute [local irreducible] GW GL GO YG GC GA aS aW
def aw (n:Nd):List GV:=[.v (ii n.kind),.v (ii n.at_),.v (ii n.n),.v (sv n.s),ints n.kids]
def au (f:Go.Sp.Fn):List GV:=[.v (sv f.name),strs f.params,.v (ii f.body)]
def az (a:Ar):List GV:=[.v (sv a.name),.v (ii a.size)]
abbrev ar (p:Src):List GV:=[strs p.globals,.sl 2 (p.arrays.map az),.sl 3 (p.fns.map au),.sl 5 (p.nodes.map aw)]
theorem Fm (k:Int):GF Tryz.prog 215 [.v (ii k)] [] (.v (.bool (lN k))) []:=by
 unfold lN;refine cP Tryz.func215 Tryz.ntmps215 ?_
 cases h:decide ((1:Int)<=k)
 all_goals
  exact av
theorem Fo (k:Int):GF Tryz.prog 189 [.v (ii k)] [] (.v (.bool (fJ k))) []:=by
 unfold fJ;refine cP Tryz.func189 Tryz.ntmps189 ?_
 cases h:decide ((7:Int)<=k)
 all_goals
  exact av
theorem se (s:ae):GF Tryz.prog 188 [.v (sv s)] [] (.v (.bool (ei s))) []:=by
 refine ai Tryz.func188 Tryz.ntmps188 ?_;refine U [] (iU) ?_;refine GW.range (levels.map fun l=>[strs l]).length (fun k fr Γ=>fr=[.v (sv s),.Zy,.Zy,.Zy,.Zy,.sl 1 (levels.map fun l=>[strs l]),.v (ii ((levels.map fun l=>[strs l]).length:Int)),.v (ii (k:Nat)),.Zy,.Zy,.Zy,.Zy,.Zy,.Zy,.Zy]/\Γ=[]/\((levels.take k).any fun l=>l.contains s)=false) ?_ (by decide) ?_ ?_ ?_
 ·exact ⟨_,_,Wk.ax al,rfl,rfl,rfl⟩
 ·rintro k _ _ ⟨rfl,rfl,_⟩;exact ⟨rfl,rfl,rfl⟩
 ·rintro k _ _ hk ⟨rfl,rfl,hf⟩
  have hk:k < levels.length:=by simpa using hk
  have hx:levels[k]?=some levels[k]:=by simp [hk]
  have hr:(levels.map fun l=>[strs l])[k]?=some [strs levels[k]]:=by simp [hk]
  have yd:levels[k].length<=1099511627776:=by
   have:∀ l∈levels,l.length<=1099511627776:=by decide
   exact this _ (getElem_mem hk)
  generalize levels[k]=x at *;have hh:=gL x s yd
  cases hb:x.contains s with
  | true =>
   rw [hb] at hh
   have ha:ei s=true:=by
    unfold ei;rw [List.any_eq_true];exact ⟨x,mem_of_getElem? hx,hb⟩
   refine ab ?_;refine U [] (hh) ?_;refine bK ?_;rw [ha];exact ⟨rfl,rfl⟩
  | false =>
   rw [hb] at hh;refine ab ?_;refine U [] (hh) ?_;exact ⟨rfl,rfl,_,_,Wk.ax al,rfl,rfl,by rw [take_add_one,hx,List.any_append,hf];simp only [Option.toList,List.any_cons,List.any_nil,hb];rfl⟩
 ·rintro _ _ ⟨rfl,rfl,hf⟩
  have hf:ei s=false:=by
   rw [take_of_length_le (by simp)] at hf;exact hf
  refine ab ?_;refine bK ?_;rw [hf];exact ⟨rfl,rfl⟩
theorem cr {l:List T} {i:Nat} {t:T} (h:l[i]?=some t):(aJ l)[i]?=some (cT t):=by
 induction l generalizing i with
 | nil=>simp at h
 | cons a l ih =>
  cases i with
  | zero=>cases h;simp [aJ,rm]
  | succ i=>simpa [aJ] using ih (by simpa using h)
theorem eJ (t:T) (m:Nat) (hl:t.kids.length<=1099511627776):GF Tryz.prog 187 [.agg (cT t),.v (ii (m:Nat))] [] (.v (.bool (bd m 0 t.kids))) []:=by
 refine ai Tryz.func187 Tryz.ntmps187 ?_;refine GW.range (aJ t.kids).length (fun k fr Γ=>fr=[.Zy,.v (ii (m:Nat)),.Zy,.Zy,.Zy,.Zy,.Zy,.Zy,.sl 6 (aJ t.kids),.v (ii ((aJ t.kids).length:Int)),.v (ii (k:Nat)),.Zy,.Zy,.Zy,.Zy,.Zy,.Zy,.Zy,.Zy,.Zy,.Zy,.Zy,.Zy,.Zy,.Zy,.Zy,.Zy,.Zy,.Zy,.Zy,.Zy,.Zy,.Zy,.Zy,.Zy,.Zy,.Zy]/\Γ=[]/\bd m k (t.kids.drop k)=bd m 0 t.kids) ?_ (by rw [aO];exact hl) ?_ ?_ ?_
 ·exact ⟨_,_,(Wk.cut (n:=0) (Nat.le_refl _) rfl).trans (Wk.ax al),rfl,rfl,rfl⟩
 ·rintro k _ _ ⟨rfl,rfl,_⟩;exact ⟨rfl,rfl,rfl⟩
 ·rintro k _ _ hk ⟨rfl,rfl,hf⟩
  have hk:k < t.kids.length:=by rw [aO] at hk;exact hk
  have hx:t.kids[k]?=some t.kids[k]:=by simp [hk]
  have hr:=cr hx;rw [List.drop_eq_getElem_cons hk,bd] at hf;generalize t.kids[k]=x at *;have he:=Fm x.n.kind
  by_cases hm:k < m
  ·have XD:decide ((k:Int) < (m:Int))=true:=by simpa using hm
   have Du:decide ((m:Int)<=(k:Int))=false:=by simpa using hm
   rw [if_pos hm] at hf
   cases hb:lN x.n.kind with
   | true =>
    rw [hb] at he hf;refine ab ?_;refine U [] (he) ?_;exact ⟨rfl,rfl,_,_,(Wk.cut (n:=0) (Nat.le_refl _) rfl).trans (Wk.ax al),rfl,rfl,by simpa using hf⟩
   | false =>
    rw [hb] at he hf;refine ab ?_;refine U [] (he) ?_;refine bK ?_;rw [<-hf];exact ⟨rfl,rfl⟩
  ·have XD:decide ((k:Int) < (m:Int))=false:=by simp;omega
   have Du:decide ((m:Int)<=(k:Int))=true:=by simp;omega
   rw [if_neg hm] at hf
   cases hb:(x.n.kind==14) with
   | true =>
    rw [hb] at hf
    have ba:(x.n.kind != 14)=false:=by simp only [bne,hb];rfl
    refine ab ?_;exact ⟨rfl,rfl,_,_,(Wk.cut (n:=0) (Nat.le_refl _) rfl).trans (Wk.ax al),rfl,rfl,by simpa using hf⟩
   | false =>
    rw [hb] at hf
    have ba:(x.n.kind != 14)=true:=by simp only [bne,hb];rfl
    refine ab ?_;refine bK ?_;rw [<-hf];exact ⟨rfl,rfl⟩
 ·rintro _ _ ⟨rfl,rfl,hf⟩;rw [aO,List.drop_length,bd] at hf;refine ab ?_;refine bK ?_;rw [<-hf];exact ⟨rfl,rfl⟩
theorem gM {l:List Nd} {i:Nat} {n:Nd} (h:l[i]?=some n):(l.map aw)[i]?=some (aw n):=by rw [getElem?_map,h];rfl
theorem ng {l:List Int} {i:Nat} {n:Int} (h:l[i]?=some n):(l.map fun i=>[GV.v (ii i)])[i]?=some [.v (ii n)]:=by rw [getElem?_map,h];rfl
theorem CM (p:Src) (hk:∀ n∈p.nodes,n.kids.length<=1000000000000):∀ (f a:Nat) (t:T),sub p.nodes f a=some t->GF Tryz.prog 60 [.agg (ar p),.v (ii (a:Nat))] [] (.agg (cT t)) []:=by
 intro f
 induction f using Nat.strongRecOn with
 | _ f ih =>
 intro a t h
 cases f with
 | zero=>simp [sub] at h
 | succ f =>
 rw [sub] at h
 cases hn:p.nodes[a]? with
 | none=>rw [hn] at h;cases h
 | some n =>
 rw [hn] at h;simp only at h
 cases hs:nB p.nodes f n.kids [] with
 | none=>rw [hs] at h;cases h
 | some l =>
 rw [hs] at h;cases h;have hr:=gM hn;have eE:=hk n (mem_of_getElem? hn);refine ai Tryz.func60 Tryz.ntmps60 ?_;refine GW.wk (Wk.D3 (i:=2) (o:=5) 56 6 rfl rfl) ?_
 refine GW.range (n.kids.map fun i=>[GV.v (ii i)]).length (fun k fr Γ=>∃ rows acc g,fr=[.Zy,.v (ii (a:Nat)),.loc 0 0,.Zy,.loc 1 0,.loc 2 0,.Zy,.Zy,.Zy,.Zy,.Zy,.Zy,.Zy,.Zy,.Zy,.Zy,.Zy,.Zy,.Zy,ints n.kids,.v (ii ((n.kids.map fun i=>[GV.v (ii i)]).length:Int)),.v (ii (k:Nat)),.Zy,.Zy,.Zy,.Zy,.Zy,.Zy,.Zy,.Zy,.Zy,.Zy,.Zy,.Zy,.Zy] /\
   Γ=[.box 34 (ar p),.box 56 zT,.box 56 [.v (ii n.kind),.v (ii n.at_),.v (ii n.n),.v (sv n.s),ints n.kids,.vec 3 k],.vec 56 6 0 rows] /\
   rows.length=k/\rows=aJ acc/\g<=f/\nB p.nodes g (n.kids.drop k) acc=some l) ?_ (by simp;omega) ?_ ?_ ?_
 ·exact ⟨_,_,Wk.ax al,[],[],f,rfl,rfl,rfl,rfl,Nat.le_refl _,hs⟩
 ·rintro k _ _ ⟨_,_,_,rfl,rfl,_⟩;exact ⟨rfl,rfl,rfl⟩
 ·rintro k _ _ aq ⟨rows,acc,g,rfl,rfl,rZ,bo,hg,h⟩
  have aq:k < n.kids.length:=by simpa using aq
  have hx:n.kids[k]?=some n.kids[k]:=by simp [aq]
  rw [List.drop_eq_getElem_cons aq] at h;generalize n.kids[k]=x at *
  cases g with
  | zero=>simp [nB] at h
  | succ g =>
  rw [nB] at h
  by_cases pD:x < 0
  ·rw [if_pos pD] at h;cases h
  rw [if_neg pD] at h
  cases bE:sub p.nodes g x.toNat with
  | none=>rw [bE] at h;cases h
  | some t =>
  rw [bE] at h;simp only at h;have xr:=ih g ah x.toNat t bE;rw [Int.toNat_of_nonneg ah] at xr;have uw:=ng hx;refine ab ?_;refine GW.draw (.q 0 (.q 1 (.q 2 (.q 3 (.a 4 (.a 5 (.a 6 (.q 7 (.a 8 .nil))))))))) (by kernel_rfl) (by kernel_rfl) ?_;refine aj ?_;refine aC [] (xr) ?_;refine dv ?_;refine aj ?_;refine rz ?_;refine aj ?_;refine ab ?_;exact ⟨rfl,rfl,_,_,Wk.ax al,_,acc++[t],g,rfl,rfl,by rw [length_append,rZ];rfl,by rw [sR,bo];rfl,by omega,h⟩
 ·rintro _ _ ⟨rows,acc,g,rfl,rfl,rZ,bo,hg,h⟩;rw [length_map,List.drop_length] at h
  have ku:acc=l:=by cases g <;> (rw [nB] at h;cases h;rfl)
  subst ku;subst bo;refine aL (GW.wk (Wk.vG (i:=2) (o:=5) rfl rfl rfl rfl rZ) ?_);exact jr
end Go.Xg
namespace Go.Xg
open Go.RowKit Go.Xw Go.Proofs
open Go.WideShapes Go.Deep
open Go.Xp (Nd Ar)
open Go.Sp (Src)
open Go.Im (Small rE)
def flat (v:Value):Prop:=∀ a n c,v≠.slice a n c
def u5 (W:World) (v:Value) (xs:List Value):Prop:=∃ a c,v=.slice a xs.length c/\(xs=[]\/∃ b o,a=some ⟨b,o,none⟩/\xs.length<=c/\∀ i x,xs[i]?=some x->fp W.heap b (o+i)=some x/\flat x)
theorem u5.uniq {W:World} {v:Value} {xs ys:List Value} (h:u5 W v xs) (k:u5 W v ys):xs=ys:=by
 obtain ⟨a,c,h1,h2⟩:=h;obtain ⟨a',c',k1,k2⟩:=k;rw [h1] at k1
 injection k1 with e1 e2 e3
 subst e1 e3
 rcases h2 with rfl | ⟨b,o,h3,h4,h5⟩
 ·exact (eq_nil_of_length_eq_zero (by simpa using e2.symm)).symm
 ·rcases k2 with rfl | ⟨b',o',k3,k4,k5⟩
  ·exact eq_nil_of_length_eq_zero (by simpa using e2)
  ·rw [h3] at k3;cases k3;apply ext_getElem e2;intro i hi hj;have a1:=(h5 i _ (getElem?_eq_getElem hi)).1;have a2:=(k5 i _ (getElem?_eq_getElem hj)).1;rw [a1] at a2;exact Option.some.inj a2
open Classical in
noncomputable def KW (W:World):Fz:=fun b o=>match fp W.heap b o with
 | none=>none
 | some v=>if ∃ a n c,v=.slice a n c then (if h:∃ xs,u5 W v xs then some (.sl 1 (h.choose.map fun x=>[.v x])) else none) else some (.v v)
theorem kJ {W:World} {b o:Nat} {v:Value} (h:fp W.heap b o=some v) (hf:flat v):KW W b o=some (.v v):=by
 unfold KW;rw [h];simp only;rw [if_neg (by rintro ⟨a,n,c,e⟩;exact hf a n c e)]
theorem Oe {W:World} {b o:Nat} {v:Value} {xs:List Value} (h:fp W.heap b o=some v) (hx:u5 W v xs):KW W b o=some (.sl 1 (xs.map fun x=>[.v x])):=by
 have hs:∃ a n c,v=.slice a n c:=by obtain ⟨a,c,e,_⟩:=hx;exact ⟨_,_,_,e⟩
 have hex:∃ xs,u5 W v xs:=⟨xs,hx⟩;unfold KW;rw [h];simp only;rw [if_pos hs,dif_pos hex,hex.choose_spec.uniq hx]
theorem Lt {W:World} {v:Value} {xs:List Value} (hx:u5 W v xs) (β:Bt):Rel (KW W) β v (.sl 1 (xs.map fun x=>[GV.v x])):=by
 obtain ⟨a,c,rfl,h⟩:=hx
 rcases h with rfl | ⟨b,o,rfl,hc,kE⟩
 ·exact .sl0 a c 1
 ·have:=Rel.sl (K:=KW W) (β:=β) b o c 1 (xs.map fun x=>[GV.v x]) (fun i r hr=>by
   rw [getElem?_map] at hr
   cases hi:xs[i]? with
   | none=>rw [hi] at hr;cases hr
   | some x =>
    rw [hi] at hr;cases hr;obtain ⟨h1,h2⟩:=kE i x hi;refine ⟨rfl,fun j g hg=>?_⟩
    cases j with
    | zero=>cases hg;rw [Nat.mul_one,Nat.add_zero];exact kJ h1 h2
    | succ j=>simp at hg) (by rw [length_map];exact hc)
  rw [length_map] at this;exact this
theorem Tf (W:World):iI (KW W) W:=fun b o g h=>by
 unfold KW at h
 cases hc:fp W.heap b o with
 | none=>rw [hc] at h;cases h
 | some v =>
  rw [hc] at h;simp only at h;split at h
  ·split at h
   ·rename_i hex;cases h;exact ⟨rfl,v,rfl,Lt hex.choose_spec _⟩
   ·cases h
  ·cases h;exact ⟨rfl,v,rfl,.v v⟩
theorem Nz {W:World} {v:Value} {k:Nat} {rows:List (List GV)} {a:Option Addr} {n c:Nat} (β:Bt) (hv:v=.slice a n c) (hn:rows.length=n)
  (h:n=0\/∃ b o,a=some ⟨b,o,none⟩/\n<=c/\∀ i r,rows[i]?=some r->r.length=k/\∀ j g,r[j]?=some g->KW W b (o+i * k+j)=some g):Rel (KW W) β v (.sl k rows):=by
 subst hv hn
 rcases h with h | ⟨b,o,rfl,hc,hr⟩
 ·have:=eq_nil_of_length_eq_zero h;subst this;exact .sl0 a c k
 ·exact .sl b o c k rows hr hc
theorem yx {W:World} {a:Addr} {n:Nat} {v:Value} (h:W.cell? (a.add n)=some v):fp W.heap a.block (a.off+n)=some v:=by
 unfold Addr.add at h;split at h
 ·rename_i h0;subst h0;obtain ⟨b,o,s⟩:=a;have hs:=World.cell?_spot h;simp only at hs;subst hs;rw [eN] at h;exact h
 ·obtain ⟨b,o,s⟩:=a;simp only at h;rw [eN] at h;exact h
theorem yw {W:World} {a:Addr} {v:Value} (h:W.cell? (a.add 0)=some v):a.spot=none:=by
 have:=World.cell?_spot h;unfold Addr.add at this;rw [if_pos rfl] at this;exact this
theorem qj {α:Type} {Q:Nat->α->Prop}:∀ {n:Nat},(∀ i,i < n->∃ x,Q i x)->∃ l:List α,l.length=n/\∀ i x,l[i]?=some x->Q i x
 | 0,_=>⟨[],rfl,fun i x h=>by simp at h⟩
 | n+1,h=>by
  obtain ⟨l,h1,h2⟩:=qj (n:=n) fun i hi=>h i ah
  obtain ⟨x,hx⟩:=h n ah;refine ⟨l++[x],by simp [h1],fun i y hi=>?_⟩
  by_cases wA:i < n
  ·rw [getElem?_append_left ah] at hi;exact h2 i y hi
  ·have aq:=(List.getElem?_eq_some_iff.1 hi).1;rw [length_append,length_cons,length_nil] at aq
   have:i=n:=by omega
   subst this;rw [List.getElem?_append_right ah,h1,Nat.sub_self] at hi
   cases hi;exact hx
theorem max_le {n:Nat} (h:n<=maxLen):n<=9223372036854775807:=by unfold maxLen at h;omega
section
variable {H:Type} {enc:TypeId × Value->H} {P:Program} {W:World}
theorem D7 {t e:TypeId} {n:Nat} {v:Value} {y:DataW H × List MemPlace} (ht:P.underlying t=some (.slice e)) (he:P.underlying e=some .string) (hc:P.cellsOf e=1) (h:DataW.trod enc P W 0 (fun _=>true) true n t [v]=some y) :
  ∃ l:List ae,u5 W v (l.map sv)/\l.length<=9223372036854775807/\∀ s∈l,s.length<=9223372036854775807:=by
 rcases open_slice1 ht hc h with ⟨fq,_⟩ | ⟨a,len,cap,m,n',V,D,Pl,fq,_,hl,hm,qz,_,hx⟩
 ·injection fq with hv;subst hv
  exact ⟨[],⟨none,0,rfl,.inl rfl⟩,Nat.zero_le _,fun s h=>by cases h⟩
 ·injection fq with hv _;subst hv
  simp only [if_true] at qz
  obtain ⟨l,h1,h2⟩:=qj (n:=len) (Q:=fun i (s:ae)=>W.cell? (a.add i)=some (sv s)/\s.length<=9223372036854775807) (fun i hi=>by
   obtain ⟨c1,c2⟩:=hx i ah;obtain ⟨s,hs,_,hz⟩:=DataW.trod_string he c2
   injection hs with hs _
   rw [hs] at c1
   exact ⟨s.data.toList,by rw [<-CN];exact c1,max_le hz⟩)
  refine ⟨l,⟨some a,cap,by rw [length_map,h1],?_⟩,by rw [h1];exact max_le (Nat.le_trans hl hm),fun s hs=>?_⟩
  ·by_cases h0:len=0
   ·have:l=[]:=eq_nil_of_length_eq_zero ah;subst this;exact .inl rfl
   ·refine .inr ⟨a.block,a.off,?_,by rw [length_map,h1];exact hl,fun i x hi=>?_⟩
    ·have wD:l[0]?=some (l[0]'ah):=getElem?_eq_getElem _;have:=yw (h2 0 _ wD).1;obtain ⟨b,o,s⟩:=a;simp only at this;rw [this]
    ·rw [getElem?_map] at hi
     cases hli:l[i]? with
     | none=>rw [hli] at hi;cases hi
     | some s =>
      rw [hli] at hi;cases hi;exact ⟨yx (h2 i s hli).1,fun a n c e=>by cases e⟩
  ·obtain ⟨i,hi⟩:=List.getElem?_of_mem hs;exact (h2 i s hi).2
theorem Nv {t e:TypeId} {n:Nat} {v:Value} {y:DataW H × List MemPlace} (ht:P.underlying t=some (.slice e)) (he:P.underlying e=some (.int .i64)) (hc:P.cellsOf e=1) (h:DataW.trod enc P W 0 (fun _=>true) true n t [v]=some y) :
  ∃ l:List Int,u5 W v (l.map ii)/\l.length<=9223372036854775807:=by
 rcases open_slice1 ht hc h with ⟨fq,_⟩ | ⟨a,len,cap,m,n',V,D,Pl,fq,_,hl,hm,qz,_,hx⟩
 ·injection fq with hv;subst hv
  exact ⟨[],⟨none,0,rfl,.inl rfl⟩,Nat.zero_le _⟩
 ·injection fq with hv _;subst hv
  simp only [if_true] at qz
  obtain ⟨l,h1,h2⟩:=qj (n:=len) (Q:=fun i (z:Int)=>W.cell? (a.add i)=some (ii z)) (fun i hi=>by
   obtain ⟨c1,c2⟩:=hx i ah;obtain ⟨z,hs,_,hz⟩:=DataW.trod_int he c2
   injection hs with hs _
   rw [hs] at c1
   exact ⟨z,c1⟩)
  refine ⟨l,⟨some a,cap,by rw [length_map,h1],?_⟩,by rw [h1];exact max_le (Nat.le_trans hl hm)⟩
  by_cases h0:len=0
  ·have:l=[]:=eq_nil_of_length_eq_zero ah;subst this;exact .inl rfl
  ·refine .inr ⟨a.block,a.off,?_,by rw [length_map,h1];exact hl,fun i x hi=>?_⟩
   ·have wD:l[0]?=some (l[0]'ah):=getElem?_eq_getElem _;have:=yw (h2 0 _ wD);obtain ⟨b,o,s⟩:=a;simp only at this;rw [this]
   ·rw [getElem?_map] at hi
    cases hli:l[i]? with
    | none=>rw [hli] at hi;cases hi
    | some s =>
     rw [hli] at hi;cases hi;exact ⟨yx (h2 i s hli),fun a n c e=>by cases e⟩
theorem yW {α:Type} {t e:TypeId} {fs:Array Field} {k n:Nat} {v:Value} {y:DataW H × List MemPlace} (f:α->List GV) (Q:α->Prop) (β:Bt) (ht:P.underlying t=some (.slice e)) (he:P.underlying e=some (.struct fs)) (eM:oneCellFields P fs=true) (hC:P.cellsOf e=k) (hk:fs.size=k) (x8:0 < k)
  (each:∀ b o,(∀ (j:Nat) (fl:Field),fs[j]?=some fl->∃ v y n,fp W.heap b (o+j)=some v/\DataW.trod enc P W 0 (fun _=>true) true n fl.type [v]=some y)->∃ x,Q x/\(f x).length=k/\∀ j g,(f x)[j]?=some g->KW W b (o+j)=some g)
  (h:DataW.trod enc P W 0 (fun _=>true) true n t [v]=some y):∃ l:List α,Rel (KW W) β v (.sl k (l.map f))/\l.length<=9223372036854775807/\∀ x∈l,Q x:=by
 rcases open_slice ht h with ⟨fq,_⟩ | ⟨a,len,cap,m,n',D,Pl,fq,_,hl,hm,qz,_,hx⟩
 ·injection fq with hv;subst hv
  exact ⟨[],.sl0 none 0 k,Nat.zero_le _,fun s h=>by cases h⟩
 ·injection fq with hv _;subst hv
  simp only [if_true] at qz
  have kE:∀ i,i < len->∀ (j:Nat) (fl:Field),fs[j]?=some fl->∃ v y n,W.cell? (a.add (i * k+j))=some v/\DataW.trod enc P W 0 (fun _=>true) true n fl.type [v]=some y:=by
   intro i hi j fl hj;obtain ⟨xS,hc,DG⟩:=hx i ah;rw [hC] at hc;obtain ⟨ys,n',zG,hy,hlen,U8,hf⟩:=DataW.trod_struct he DG;obtain ⟨_,Gl,vP⟩:=World.cells?_some hc;obtain ⟨ho,sX⟩:=hone_of eM j fl hj;have wC:j < fs.size:=(Array.getElem?_eq_some_iff.1 hj).1;have kE:=vP j ah;have hv:xS[j]?=some (xS[j]'ah):=getElem?_eq_getElem ah;have h1:=hf j fl hj;rw [ho,sX] at h1
   have TH:(xS.drop j).take 1=[xS[j]'ah]:=by
    rw [List.drop_eq_getElem_cons ah];rfl
   rw [TH] at h1;have X2:ys[j]?=some (ys[j]'ah):=getElem?_eq_getElem ah;refine ⟨_,_,_,?_,h1.trans X2⟩;rw [<-Go.Deep.add_add,kE,hv]
  obtain ⟨l,h1,h2⟩:=qj (n:=len) (Q:=fun i x=>Q x/\(f x).length=k/\∀ j g,(f x)[j]?=some g->KW W a.block (a.off+i * k+j)=some g) (fun i hi =>
   each a.block (a.off+i * k) fun j fl hj=>by
    obtain ⟨v,y,n,c1,c2⟩:=kE i hi j fl hj
    exact ⟨v,y,n,by rw [Nat.add_assoc];exact yx c1,c2⟩)
  refine ⟨l,Nz (n:=len) (c:=cap) β rfl (by rw [length_map,h1]) ?_,by rw [h1];exact max_le (Nat.le_trans hl hm),fun x hx=>?_⟩
  ·by_cases h0:len=0
   ·exact .inl h0
   ·refine .inr ⟨a.block,a.off,?_,hl,fun i r hr=>?_⟩
    ·obtain ⟨v,y,n,c1,c2⟩:=kE 0 ah 0 (fs[0]'ah) (Array.getElem?_eq_getElem ah);rw [Nat.zero_mul,Nat.add_zero] at c1;have:=yw c1;obtain ⟨b,o,s⟩:=a;simp only at this;rw [this]
    ·rw [getElem?_map] at hr
     cases hli:l[i]? with
     | none=>rw [hli] at hr;cases hr
     | some x =>
      rw [hli] at hr;cases hr;exact (h2 i x hli).2
  ·obtain ⟨i,hi⟩:=List.getElem?_of_mem hx;exact (h2 i x hi).1
end
theorem Ex (l:List ae):GV.sl 1 ((l.map sv).map fun x=>[GV.v x])=strs l:=by rw [map_map];rfl
theorem M1 (l:List Int):GV.sl 1 ((l.map ii).map fun x=>[GV.v x])=ints l:=by rw [map_map];rfl
theorem wf_i64 {z:Int} (h:(Lit.int .i64 z).wf=true) : -9223372036854775808<=z/\z<=9223372036854775807:=by
 simp only [Lit.wf,Bool.and_eq_true,decide_eq_true_eq] at h
 have h1:IntKind.min .i64 = -9223372036854775808:=by decide
 have h2:IntKind.max .i64=9223372036854775807:=by decide
 rw [h1,h2] at h;exact h
theorem ui (z:Int):flat (ii z):=fun a n c e=>by cases e
section
variable {H:Type} {enc:TypeId × Value->H} {W:World}
theorem Nw (β:Bt) {v:Value} {d:DataW H} {ps:List MemPlace} {r:Reach} {b0:Nat} (hv:Value.okWide Tryz.prog W r b0 27 v) (h:DataW.Trod enc Tryz.prog W 0 (fun _=>true) true 27 v d ps) :
  ∃ p:Src,Rel (KW W) β v (.agg (ar p))/\Small p 9223372036854775807/\rE p:=by
 obtain ⟨v0,v1,v2,v3,y0,y1,y2,y3,n,rfl,_,_,h0,h1,h2,h3⟩:=Go.Joins.open_agg4 Tryz.underlying27 (by kernel_rfl) (by kernel_rfl) hv h
 have c9:Tryz.prog.cellsOf 9=1:=by kernel_rfl
 have c3:Tryz.prog.cellsOf 3=1:=by kernel_rfl
 obtain ⟨gs,g1,g2,g3⟩:=D7 Tryz.underlying22 Tryz.underlying9 c9 h0
 obtain ⟨Uy,a1,a2,a3⟩:=yW az (fun x=>x.name.length<=9223372036854775807 /\ -9223372036854775808<=x.size/\x.size<=9223372036854775807) β Tryz.underlying23 Tryz.underlying76 (by kernel_rfl) (k:=2) (by kernel_rfl) rfl ah (fun b o hf=>by
  obtain ⟨u0,z0,n0,x0,w0⟩:=hf 0 _ rfl;obtain ⟨u1,z1,n1,x1,w1⟩:=hf 1 _ rfl;obtain ⟨s,hs,_,hz⟩:=DataW.trod_string Tryz.underlying9 w0;obtain ⟨z,fH,_,Sb⟩:=DataW.trod_int Tryz.underlying3 w1
  injection hs with hs _
  injection fH with fH _
  subst hs fH;refine ⟨⟨s.data.toList,z⟩,⟨max_le hz,wf_i64 Sb⟩,rfl,fun j g hg=>?_⟩
  match j,hg with
  | 0,hg=>cases hg;rw [<-CN];exact kJ x0 fun a n c e=>by cases e
  | 1,hg=>cases hg;exact kJ x1 (ui z)
  | j+2,hg=>simp [az] at hg) h1
 obtain ⟨fs,f1,f2,f3⟩:=yW au (fun x=>x.name.length<=9223372036854775807/\x.params.length<=9223372036854775807/\∀ s∈x.params,s.length<=9223372036854775807) β Tryz.underlying24 Tryz.underlying79 (by kernel_rfl) (k:=3) (by kernel_rfl) rfl ah (fun b o hf=>by
  obtain ⟨u0,z0,n0,x0,w0⟩:=hf 0 _ rfl;obtain ⟨u1,z1,n1,x1,w1⟩:=hf 1 _ rfl;obtain ⟨u2,z2,n2,x2,w2⟩:=hf 2 _ rfl;obtain ⟨s,hs,_,hz⟩:=DataW.trod_string Tryz.underlying9 w0;obtain ⟨l,eP,jR,RE⟩:=D7 Tryz.underlying22 Tryz.underlying9 c9 w1;obtain ⟨z,fH,_,Sb⟩:=DataW.trod_int Tryz.underlying3 w2
  injection hs with hs _
  injection fH with fH _
  subst hs fH;refine ⟨⟨s.data.toList,l,z⟩,⟨max_le hz,jR,RE⟩,rfl,fun j g hg=>?_⟩
  match j,hg with
  | 0,hg=>cases hg;rw [<-CN];exact kJ x0 fun a n c e=>by cases e
  | 1,hg=>cases hg;rw [Oe x1 eP,Ex]
  | 2,hg=>cases hg;exact kJ x2 (ui z)
  | j+3,hg=>simp [au] at hg) h2
 obtain ⟨ns,k1,k2,k3⟩:=yW aw (fun x=>(x.s.length<=9223372036854775807/\x.kids.length<=9223372036854775807) /\ -9223372036854775808<=x.n/\x.n<=9223372036854775807) β Tryz.underlying25 Tryz.underlying81 (by kernel_rfl) (k:=5) (by kernel_rfl) rfl ah (fun b o hf=>by
  obtain ⟨u0,z0,n0,x0,w0⟩:=hf 0 _ rfl;obtain ⟨u1,z1,n1,x1,w1⟩:=hf 1 _ rfl;obtain ⟨u2,z2,n2,x2,w2⟩:=hf 2 _ rfl;obtain ⟨u3,z3,n3,x3,w3⟩:=hf 3 _ rfl;obtain ⟨u4,z4,n4,x4,w4⟩:=hf 4 _ rfl;obtain ⟨i0,e0,_,_⟩:=DataW.trod_int Tryz.underlying3 w0;obtain ⟨i1,e1,_,_⟩:=DataW.trod_int Tryz.underlying3 w1;obtain ⟨i2,e2,_,q2⟩:=DataW.trod_int Tryz.underlying3 w2;obtain ⟨s,hs,_,hz⟩:=DataW.trod_string Tryz.underlying9 w3;obtain ⟨l,eP,jR⟩:=Nv Tryz.underlying51 Tryz.underlying3 c3 w4
  injection e0 with e0 _
  injection e1 with e1 _
  injection e2 with e2 _
  injection hs with hs _
  subst hs e0 e1 e2;refine ⟨⟨i0,i1,i2,s.data.toList,l⟩,⟨⟨max_le hz,jR⟩,wf_i64 q2⟩,rfl,fun j g hg=>?_⟩
  match j,hg with
  | 0,hg=>cases hg;exact kJ x0 (ui _)
  | 1,hg=>cases hg;exact kJ x1 (ui _)
  | 2,hg=>cases hg;exact kJ x2 (ui _)
  | 3,hg=>cases hg;rw [<-CN];exact kJ x3 fun a n c e=>by cases e
  | 4,hg=>cases hg;rw [Oe x4 eP,M1]
  | j+5,hg=>simp [aw] at hg) h3
 have r0:=Lt g1 β;rw [Ex] at r0;refine ⟨⟨gs,Uy,fs,ns⟩,?_,⟨⟨g2,g3⟩,⟨a2,fun x hx=>(a3 x hx).1⟩,⟨f2,f3⟩,⟨k2,fun x hx=>(k3 x hx).1⟩⟩,⟨fun x hx=>(a3 x hx).2,fun x hx=>(k3 x hx).2⟩⟩;have hc:aV (KW W) β [v0,v1,v2,v3] (ar ⟨gs,Uy,fs,ns⟩):=.cons r0 (.cons a1 (.cons f1 (.cons k1 .nil)));exact .agg [v0,v1,v2,v3] _ hc.1 hc.2
end
end Go.Xg
namespace Go.Xg
open Go.RowKit Go.Xw Go.Proofs
open Go.Lib
theorem LK {P:Program} {W:World} {name:String} {k:IntKind} {zs:List Int} {g:Nat} {t e:TypeId} {n:Nat}
  (hg:P.globalNamed name=some g) (XX:(P.globals[g]?).map (·.type)=some t) (ht:P.underlying t=some (.array n e)) (he:P.underlying e=some (.int k)) (Kl:P.cellsOf e=1) (Xk:P.cellsOf t=n)
  (h:VarReads P W name (tabData k zs)):TabIs P W name k zs:=by
 obtain ⟨g',t',cs,fuel,p,kM,DG,Wg,hd⟩:=h;obtain rfl:=Option.some.inj (hg.symm.trans kM);obtain rfl:=Option.some.inj (XX.symm.trans DG);unfold TabIs;rw [Wg,<-cells_of_tab ht he Kl Xk hd]
theorem Hl {P:Program} {W:World} {name:String} {k:IntKind} {zs:List Int} {g n:Nat} (hg:P.globalNamed name=some g) (hn:zs.length=n) (h:TabIs P W name k zs):rG W g n:=by
 unfold TabIs World.var? at h;rw [hg] at h;simp only [Option.bind_some] at h
 cases hb:W.heap[g]? with
 | none=>rw [hb] at h;cases h
 | some o =>
  rw [hb] at h
  cases o with
  | cells cs E z =>
   simp only [Option.some.injEq] at h;exact ⟨cs,E,z,hb,by rw [h];simpa using hn⟩
  | _=>cases h
theorem Ji {P:Program} {W:World} {name:String} {k:IntKind} {zs:List Int} {g:Nat} (hg:P.globalNamed name=some g) (h:TabIs P W name k zs) {o:Nat} {z:Int} (ho:zs[o]?=some z):KW W g o=some (.v (.int k z)):=by
 have aq:=(List.getElem?_eq_some_iff.1 ho).1;have hc:=h.cell hg o aq;rw [List.getD_eq_getElem?_getD,ho,eN] at hc
 exact kJ hc fun a n c e=>by cases e
theorem Qw {W:World} (hp:VarReads Tryz.prog W "internal/strconv.uint64pow10" (tabData .u64 uN)) (hs:VarReads Tryz.prog W "strings.asciiSpace" (tabData .u8 uS)) (hW:W.ShapedOpen Tryz.prog):gB (KW W) (fun _=>.no) W:=by
 have gp:Tryz.prog.globalNamed "internal/strconv.uint64pow10" = some 1:=by kernel_rfl
 have gs:Tryz.prog.globalNamed "strings.asciiSpace" = some 2:=by kernel_rfl
 have tp:=LK gp (t:=228) (by kernel_rfl) Tryz.underlying228 (k:=.u64) (by kernel_rfl) (by kernel_rfl) (by kernel_rfl) hp;have ts:=LK gs (t:=231) (by kernel_rfl) Tryz.underlying231 (k:=.u8) (by kernel_rfl) (by kernel_rfl) (by kernel_rfl) hs;obtain ⟨m,hm⟩:=cell_of_shapedOpen_int (g:=0) (zero:=#[.int .i64 0]) (t:=3) hW (of_decide_eq_true (by kernel_rfl)) (by kernel_rfl) rfl (by kernel_rfl) (by kernel_rfl) Tryz.underlying3;rw [eN] at hm;refine ⟨⟨m,fun b o g h=>?_⟩,Hl gp (by decide) tp,Hl gs (by decide) ts,fun i b h=>by cases h⟩;unfold vW at h;split at h
 ·rename_i hb;subst hb;split at h
  ·cases h;exact kJ hm fun a n c e=>by cases e
  ·cases h
 ·split at h
  ·rename_i hb;subst hb
   cases ho:uN[o]? with
   | none=>rw [ho] at h;cases h
   | some z=>rw [ho] at h;cases h;exact Ji gp tp ho
  ·split at h
   ·rename_i hb;subst hb
    cases ho:uS[o]? with
    | none=>rw [ho] at h;cases h
    | some z=>rw [ho] at h;cases h;exact Ji gs ts ho
   ·cases h
theorem GF.calls {P:Program} {f:FuncId} {gs:List GV} {g:GV} (h:GF P f gs [] g []) {W:World} {vs:List Value} (hv:aV (KW W) (fun _=>.no) vs gs) (hT:gB (KW W) (fun _=>.no) W) :
  nG P f vs W fun v w'=>Below W.heap.size W w'/\∃ K β,Rel K β v g:=by
 have hI:Inv ⟨W,gX,KW W,fun _=>.no,0⟩ (KW W) (fun _=>.no) [] W :=
  ⟨Ext.refl W,cm.refl _,dc.refl _,fun _ _=>rfl,Tf W,fun i x h=>by simp at h,fun _ _=>rfl,fun i j b h=>(by cases h),fun i b h=>(by cases h),fun b o g h=>.inl h,hT⟩
 refine (h ⟨W,gX,KW W,fun _=>.no,0⟩ (KW W) (fun _=>.no) W vs rfl hI hv).mono ?_;rintro v w' ⟨K',bP,x,aH,h1,h2,rfl,rfl⟩;exact ⟨h1.ext.below,K',bP,h2⟩
end Go.Xg
namespace Go.Xg
open Go.RowKit Go.Xw Go.Proofs
open Go.Xp (Tok Nd T)
open Go.Sp
attribute [local irreducible] GW GL GO YG GC GA aS aW
theorem rI {α:Type} {l:List α} {q:α->Bool} {k:Nat} {x:α} (hx:l[k]?=some x) (hf:(l.take k).all q=true) (hb:q x=true):(l.take (k+1)).all q=true:=by
 rw [take_add_one,hx,List.all_append,hf];simp [hb]
def idxOf (xs:List ae) (s:ae):Int:=match xs.findIdx? (fun x=>s==x) with | some i=>(i:Int) | none => -1
theorem Pg (xs:List ae) (s:ae) (hl:xs.length<=1099511627776):GF Tryz.prog 76 [strs xs,.v (sv s)] [] (.v (ii (idxOf xs s))) []:=by
 refine ai Tryz.func76 Tryz.ntmps76 ?_;refine GW.range (xs.map fun s=>[GV.v (sv s)]).length (fun k fr Γ=>fr=[strs xs,.v (sv s),.Zy,.Zy,.Zy,.Zy,strs xs,.v (ii ((xs.map fun s=>[GV.v (sv s)]).length:Int)),.v (ii (k:Nat)),.Zy,.Zy,.Zy,.Zy,.Zy,.Zy,.Zy,.Zy,.Zy,.Zy]/\Γ=[]/\((xs.take k).all fun x=>!(s==x))=true) ?_ (by simpa using hl) ?_ ?_ ?_
 ·exact ⟨_,_,Wk.ax al,rfl,rfl,rfl⟩
 ·rintro k _ _ ⟨rfl,rfl,_⟩;exact ⟨rfl,rfl,rfl⟩
 ·rintro k _ _ aq ⟨rfl,rfl,hc⟩
  have aq:k < xs.length:=by simpa using aq
  have hx:xs[k]?=some xs[k]:=by simp [aq]
  have hr:(xs.map fun s=>[GV.v (sv s)])[k]?=some [.v (sv xs[k])]:=by simp [aq]
  cases hb:(s==xs[k]) with
  | true =>
   have hi:xs.findIdx? (fun x=>s==x)=some k:=by
    rw [List.findIdx?_eq_some_iff_getElem];refine ⟨aq,hb,fun j hj=>?_⟩;rw [List.all_eq_true] at hc;have:=hc xs[j] (by rw [List.mem_take_iff_getElem];exact ⟨j,by omega,rfl⟩);simpa using this
   unfold idxOf;rw [hi];generalize xs[k]=x at *;exact av
  | false =>
   have qk:=rI (q:=fun x=>!(s==x)) hx hc (by rw [hb];rfl);generalize xs[k]=x at *;refine ab ?_;exact ⟨rfl,rfl,_,_,Wk.ax al,rfl,rfl,qk⟩
 ·rintro _ _ ⟨rfl,rfl,hc⟩;rw [take_of_length_le (by simp)] at hc
  have hi:xs.findIdx? (fun x=>s==x)=none:=by
   rw [List.findIdx?_eq_none_iff];intro x hx;rw [List.all_eq_true] at hc;have:=hc x hx;simpa using this
  unfold idxOf;rw [hi];exact av
theorem MY (xs:List ae) (s:ae):decide (0<=idxOf xs s)=xs.contains s:=by
 unfold idxOf
 cases h:xs.findIdx? (fun x=>s==x) with
 | some i =>
  rw [List.findIdx?_eq_some_iff_getElem] at h;obtain ⟨h1,h2,_⟩:=h
  have h3:s=xs[i]:=by simpa using h2
  have:xs.contains s=true:=by rw [List.contains_iff_mem,h3];exact getElem_mem _
  rw [this];simp
 | none =>
  rw [List.findIdx?_eq_none_iff] at h
  have:xs.contains s=false:=by
   cases hc:xs.contains s with
   | false=>rfl
   | true=>have:=h s (List.contains_iff_mem.1 hc);simp at this
  rw [this];rfl
theorem iH (xs:List ae) (s:ae) (hl:xs.length<=1099511627776):GF Tryz.prog 47 [strs xs,.v (sv s)] [] (.v (.bool (xs.contains s))) []:=by
 have hi:=Pg xs s hl;rw [<-MY];generalize idxOf xs s=i at *;refine ai Tryz.func47 Tryz.ntmps47 ?_;refine U [] (hi) ?_;exact ao
end Go.Xg
set_option maxHeartbeats 2000000
namespace Go.Xg
open Go.RowKit Go.Xw Go.Proofs
open Go.Xp (Nd T Ar)
open Go.Sp (Src)
open Go.Im
attribute [local irreducible] GW GL GO YG GC GA aS aW
theorem KO (s:ae):GF Tryz.prog 94 [.v (sv s)] [] (.v (.bool (lA s))) []:=by
 unfold lA nY oU c8
 cases h1:(s==[103,101,116])
 all_goals cases h2:(s==[112,117,116])
 all_goals
  refine ai Tryz.func94 Tryz.ntmps94 ?_;exact ao
theorem CT {om:FuncId} [aB Tryz.prog om] (pr:Go.Sp.Fn->Bool) (l:List (Go.Sp.Fn)) (hn:l.length<=1099511627776) (hc:∀ x∈l,GF Tryz.prog om [.agg (au x)] [] (.v (.bool (pr x))) []) :
  GF Tryz.prog 122 [.sl 3 (l.map au),.v (.func (.func om) #[] #[])] [] (.v (ii (cX pr l))) []:=by
 have dq:(l.map au).length=l.length:=by simp
 refine ai Tryz.func122 Tryz.ntmps122 ?_;refine GW.range (l.map au).length (fun k fr Γ=>fr=[.sl 3 (l.map au),.v (.func (.func om) #[] #[]),.Zy,.Zy,.Zy,.Zy,.Zy,.v (ii ((l.map au).length:Int)),.v (ii (k:Nat)),.Zy,.Zy,.Zy,.Zy,.Zy,.Zy,.Zy,.Zy,.Zy,.Zy]/\Γ=[]/\(l.take k).all (fun y=>!pr y)=true) ?_ ah ?_ ?_ ?_
 ·exact ⟨_,_,Wk.ax al,rfl,rfl,rfl⟩
 ·rintro k _ _ ⟨rfl,rfl,_⟩;exact ⟨rfl,rfl,rfl⟩
 ·rintro k _ _ aq ⟨rfl,rfl,aM⟩;rw [dq] at aq;obtain ⟨x,cz⟩:∃ x,l[k]?=some x:=⟨l[k],by simp [aq]⟩
  have hr:(l.map au)[k]?=some (au x):=by rw [getElem?_map,cz];rfl
  have h:=hc x (mem_of_getElem? cz);have bp:=lu (f:=pr) cz
  have hit:=fun h0=>lz (f:=pr) cz h0 aM
  unfold au at hr h
  cases hb:pr x with
  | true =>
   rw [hb] at h;rw [hit hb];refine ab ?_;refine gR [] (h) ?_;exact av
  | false =>
   rw [hb] at h bp;refine ab ?_;refine gR [] (h) ?_;refine ab ?_;exact ⟨rfl,rfl,_,_,Wk.ax al,rfl,rfl,by rw [bp,aM];rfl⟩
 ·rintro _ _ ⟨rfl,rfl,aM⟩;rw [dq,take_length] at aM;rw [iO aM];exact av
theorem sJ {om:FuncId} [aB Tryz.prog om] (pr:Go.Sp.Fn->Bool) (l:List (Go.Sp.Fn)) (hn:l.length<=1099511627776) (hc:∀ x∈l,GF Tryz.prog om [.agg (au x)] [] (.v (.bool (pr x))) []) :
  GF Tryz.prog 96 [.sl 3 (l.map au),.v (.func (.func om) #[] #[])] [] (.v (.bool (l.any pr))) []:=by
 have h:=CT pr l hn hc;rw [<-BH];generalize cX pr l=z at *;refine ai Tryz.func96 Tryz.ntmps96 ?_;refine U [] (h) ?_;exact ao
theorem Cx {om:FuncId} [aB Tryz.prog om] (pr:Go.Sp.Fn->Bool) (s:ae) (l:List (Go.Sp.Fn)) (hn:l.length<=1099511627776) (hc:∀ x∈l,GF Tryz.prog om [.agg (au x),.box [.v (sv s)] 0] [] (.v (.bool (pr x))) []) :
  GF Tryz.prog 122 [.sl 3 (l.map au),.fn (.func om) [] [.box [.v (sv s)] 0]] [] (.v (ii (cX pr l))) []:=by
 have dq:(l.map au).length=l.length:=by simp
 refine ai Tryz.func122 Tryz.ntmps122 ?_;refine GW.range (l.map au).length (fun k fr Γ=>fr=[.sl 3 (l.map au),.fn (.func om) [] [.box [.v (sv s)] 0],.Zy,.Zy,.Zy,.Zy,.Zy,.v (ii ((l.map au).length:Int)),.v (ii (k:Nat)),.Zy,.Zy,.Zy,.Zy,.Zy,.Zy,.Zy,.Zy,.Zy,.Zy]/\Γ=[]/\(l.take k).all (fun y=>!pr y)=true) ?_ ah ?_ ?_ ?_
 ·exact ⟨_,_,Wk.ax al,rfl,rfl,rfl⟩
 ·rintro k _ _ ⟨rfl,rfl,_⟩;exact ⟨rfl,rfl,rfl⟩
 ·rintro k _ _ aq ⟨rfl,rfl,aM⟩;rw [dq] at aq;obtain ⟨x,cz⟩:∃ x,l[k]?=some x:=⟨l[k],by simp [aq]⟩
  have hr:(l.map au)[k]?=some (au x):=by rw [getElem?_map,cz];rfl
  have h:=hc x (mem_of_getElem? cz);have bp:=lu (f:=pr) cz
  have hit:=fun h0=>lz (f:=pr) cz h0 aM
  unfold au at hr h
  cases hb:pr x with
  | true =>
   rw [hb] at h;rw [hit hb];refine ab ?_;refine mR [] (h) ?_;exact av
  | false =>
   rw [hb] at h bp;refine ab ?_;refine mR [] (h) ?_;refine ab ?_;exact ⟨rfl,rfl,_,_,Wk.ax al,rfl,rfl,by rw [bp,aM];rfl⟩
 ·rintro _ _ ⟨rfl,rfl,aM⟩;rw [dq,take_length] at aM;rw [iO aM];exact av
theorem Cw {om:FuncId} [aB Tryz.prog om] (pr:Ar->Bool) (s:ae) (l:List (Ar)) (hn:l.length<=1099511627776) (hc:∀ x∈l,GF Tryz.prog om [.agg (az x),.box [.v (sv s)] 0] [] (.v (.bool (pr x))) []) :
  GF Tryz.prog 73 [.sl 2 (l.map az),.fn (.func om) [] [.box [.v (sv s)] 0]] [] (.v (ii (cX pr l))) []:=by
 have dq:(l.map az).length=l.length:=by simp
 refine ai Tryz.func73 Tryz.ntmps73 ?_;refine GW.range (l.map az).length (fun k fr Γ=>fr=[.sl 2 (l.map az),.fn (.func om) [] [.box [.v (sv s)] 0],.Zy,.Zy,.Zy,.Zy,.Zy,.v (ii ((l.map az).length:Int)),.v (ii (k:Nat)),.Zy,.Zy,.Zy,.Zy,.Zy,.Zy,.Zy,.Zy,.Zy,.Zy]/\Γ=[]/\(l.take k).all (fun y=>!pr y)=true) ?_ ah ?_ ?_ ?_
 ·exact ⟨_,_,Wk.ax al,rfl,rfl,rfl⟩
 ·rintro k _ _ ⟨rfl,rfl,_⟩;exact ⟨rfl,rfl,rfl⟩
 ·rintro k _ _ aq ⟨rfl,rfl,aM⟩;rw [dq] at aq;obtain ⟨x,cz⟩:∃ x,l[k]?=some x:=⟨l[k],by simp [aq]⟩
  have hr:(l.map az)[k]?=some (az x):=by rw [getElem?_map,cz];rfl
  have h:=hc x (mem_of_getElem? cz);have bp:=lu (f:=pr) cz
  have hit:=fun h0=>lz (f:=pr) cz h0 aM
  unfold az at hr h
  cases hb:pr x with
  | true =>
   rw [hb] at h;rw [hit hb];refine ab ?_;refine mR [] (h) ?_;exact av
  | false =>
   rw [hb] at h bp;refine ab ?_;refine mR [] (h) ?_;refine ab ?_;exact ⟨rfl,rfl,_,_,Wk.ax al,rfl,rfl,by rw [bp,aM];rfl⟩
 ·rintro _ _ ⟨rfl,rfl,aM⟩;rw [dq,take_length] at aM;rw [iO aM];exact av
theorem PE (x:Go.Sp.Fn) (s:ae):GF Tryz.prog 231 [.agg (au x),.box [.v (sv s)] 0] [] (.v (.bool (x.name==s))) []:=by
 unfold au;refine ai Tryz.func231 Tryz.ntmps231 ?_;exact ao
theorem Q0 (p:Src) (s:ae) (hn:p.fns.length<=1099511627776):GF Tryz.prog 214 [.agg (ar p),.v (sv s)] [] (.v (ii (cX (fun x:Go.Sp.Fn=>x.name==s) p.fns))) []:=by
 have h:=Cx (fun x:Go.Sp.Fn=>x.name==s) s p.fns hn (fun x _=>PE x s);generalize cX (fun x:Go.Sp.Fn=>x.name==s) p.fns=z at *;refine cP Tryz.func214 Tryz.ntmps214 ?_;refine gT ?_;refine GL.wk (Wk.freeze (i:=1) rfl rfl rfl (Nat.zero_le _)) ?_;refine GN (by simp only [my,lY];rfl) ?_;refine ab ?_;refine U [] (h) ?_;exact ao
theorem HH (x:Ar) (s:ae):GF Tryz.prog 74 [.agg (az x),.box [.v (sv s)] 0] [] (.v (.bool (x.name==s))) []:=by
 unfold az;refine ai Tryz.func74 Tryz.ntmps74 ?_;exact ao
theorem Bw (p:Src) (s:ae) (hn:p.arrays.length<=1099511627776):GF Tryz.prog 44 [.agg (ar p),.v (sv s)] [] (.v (ii (cX (fun x:Ar=>x.name==s) p.arrays))) []:=by
 have h:=Cw (fun x:Ar=>x.name==s) s p.arrays hn (fun x _=>HH x s);generalize cX (fun x:Ar=>x.name==s) p.arrays=z at *;refine cP Tryz.func44 Tryz.ntmps44 ?_;refine gT ?_;refine GL.wk (Wk.freeze (i:=1) rfl rfl rfl (Nat.zero_le _)) ?_;refine GN (by simp only [my,lY];rfl) ?_;refine ab ?_;refine U [] (h) ?_;exact ao
theorem I4 (x:Go.Sp.Fn):GF Tryz.prog 121 [.agg (au x)] [] (.v (.bool (decide (x.params.length > 40)))) []:=by
 have h:decide ((40:Int) < ((x.params.map fun s=>[GV.v (sv s)]).length:Int))=decide (x.params.length > 40):=by
  rw [length_map];exact decide_eq_decide.2 ah
 rw [<-h];unfold au strs;refine ai Tryz.func121 Tryz.ntmps121 ?_;exact ao
theorem Md (x:Go.Sp.Fn):GF Tryz.prog 97 [.agg (au x)] [] (.v (.bool (lO x))) []:=by
 have h:(((x.params.map fun s=>[GV.v (sv s)]).length:Int)==0)=(x.params.length==0):=by
  rw [length_map];exact Bool.eq_iff_iff.2 (by simp)
 unfold lO uB;rw [<-h];unfold au strs
 cases h1:(x.name==[109,97,105,110])
 all_goals
  refine ai Tryz.func97 Tryz.ntmps97 ?_;exact ao
end Go.Xg
namespace Go.Xg
open Go.RowKit Go.Xw
theorem nc (n:Int):bits .and .i64 n 4294967295=n % 4294967296:=by
 have h:(BitVec.ofInt 64 4294967295).toNat=2 ^ 32 - 1:=by decide
 have key:(BitVec.ofInt 64 n &&& BitVec.ofInt 64 4294967295).toNat=(n % ((2 ^ 64:Nat):Int)).toNat % 2 ^ 32:=by
  rw [BitVec.toNat_and,BitVec.toNat_ofInt,h,Nat.and_two_pow_sub_one_eq_mod]
 show IntKind.i64.wrap ((BitVec.ofInt 64 n &&& BitVec.ofInt 64 4294967295).toNat:Nat)=n % 4294967296;rw [key,IntKind.wrap_i64];omega
section
variable {P:Program} {fr:List GV} {Γ:List Ob}
theorem YG.nc {x y:Operand} {t t':TypeId} {a:Int} (hx:aP fr x=.v (ii a)) (hy:aP fr y=.v (ii 4294967295)):YG P (.binOp .and t x y t') fr Γ (.v (ii (a % 4294967296))) :=
 YG.v2 hx hy fun l w h k d ty pos af=>by
  simp [execOp,eqGuard,h,k,binOp,intBits_and,Go.Xg.nc]
end
end Go.Xg
namespace Go.Xw
open Go.RowKit
class Bq (P:Program) (t:TypeId) (e:outParam TypeId):Prop where
 is:P.underlying t=some (.slice e)/\∃ i,P.info? e=some i/\i.zero=some (.int .u8 0)/\i.size=1/\i.bytes=1
def Oi (P:Program) (t e:TypeId):Bool :=
 (match P.underlying t with | some (.slice e')=>e'==e | _=>false)&&(match P.info? e with | some i=>(match i.zero with | some (.int .u8 0)=>true | _=>false)&&i.size==1&&i.bytes==1 | none=>false)
theorem Bq.mk' {P:Program} {t e:TypeId} (h:Oi P t e=true):Bq P t e:=by
 unfold Oi at h;rw [Bool.and_eq_true] at h;obtain ⟨h1,h2⟩:=h;refine ⟨?_,?_⟩
 ·split at h1
  ·rename_i e' hu;rw [hu];simp at h1;rw [h1]
  ·cases h1
 ·split at h2
  ·rename_i i hi;simp only [Bool.and_eq_true,beq_iff_eq] at h2;obtain ⟨⟨h4,h5⟩,h6⟩:=h2;split at h4
   ·rename_i hz;exact ⟨i,hi,hz,h5,h6⟩
   ·cases h4
  ·cases h2
section
variable {P:Program} {Q:kK} {l:List Value} {w:World} {ops:Array Oper} {rest:List Oper} {d:Option Tmp} {ty:TypeId} {pos:String} {af:Array Edge}
def jL (s:ae):List Value:=s.map fun c=>.int .u8 (c.toNat:Int)
theorem WL.At {s x:Operand} {t u e:Nat} [hT:Bq P t e] [hU:oF P u] {base n:Nat} {xs:List Value} {v:Value} {str:ae} (hs:ev l s=v) (fT:gw w base e 1 v n xs) (hx:ev l x=sv str)
  (wy:n+str.length<=140737488355328) (zz:base<=w.heap.size)
  (h:∀ v' w',gw w' base e 1 v' (n+str.length) (xs++jL str)->Ext (fun b=>v.ownBlock=some b) w w'->(∀ b,v'.ownBlock=some b->v.ownBlock=some b\/w.heap.size<=b)->(Ext gX w w'\/v'.ownBlock=v.ownBlock)->WL P ops Q rest (put l d v') w') :
  WL P ops Q (⟨d,.call ⟨.builtin .append,#[s,x],#[t,u]⟩,ty,pos,af,none⟩::rest) l w:=by
 obtain ⟨hu,i,hi,hz,b8,wx⟩:=hT.is;have fg:=hU.und
 have pB:(⟨str.toArray⟩:ByteArray).size=str.length:=by simp [ByteArray.size]
 have fq:Lib.strCells ⟨str.toArray⟩=jL str:=by simp [Lib.strCells,jL]
 obtain ⟨v',w',hr,h2,h3,h4⟩:=Lib.run_append_own_string (P:=P) w base t u ty e i hu fg hi hz b8 wx v n xs fT ⟨str.toArray⟩ (by rw [pB];simp only [maxLen];omega) (by rw [pB];omega) zz;rw [pB,fq] at h2;rw [pB] at h4;have fZ:Ext (fun b=>v.ownBlock=some b) w w':=⟨h3.os,h3.tape,h3.output,h3.size,fun j hj hn=>h3.block j hj fun he=>hn he.symm⟩;have l0:(Builtin.append_ #[t,u] ty #[v,sv str]).run P w=.ok v' w':=hr;refine WL.val (v:=v') (w':=w') (by simp [execOp,resolve,invoke,builtin,hs,hx,l0]) (h v' w' h2 fZ ?_ ?_)
 ·intro b' ba
  rcases fT.2 with ⟨rfl,rfl⟩ | ⟨g,cap,cur,rfl,nM,hg,px,xZ,fq,zL⟩
  ·by_cases hm:str.length=0
   ·have:=h4.2 ⟨rfl,hm⟩;subst this;cases ba
   ·have dd:=run_append_nil_string (P:=P) w t u ty e i (.int .u8 0) hu fg hi hz ⟨str.toArray⟩ (by omega) (by rw [pB];omega) (by rw [wx,pB];omega);rw [hr] at dd;cases dd;simp only [Value.ownBlock,Option.some.injEq] at ba;exact .inr (by omega)
  ·by_cases hroom:n+str.length<=cap
   ·have Rv:cur.size=cap:=by simpa using fq
    have dd:=Lib.run_append_room_string (P:=P) w t u ty e i hu fg hi b8 g n cap cur hg ⟨str.toArray⟩ (by rw [pB];exact hroom) (by rw [pB];omega);rw [hr] at dd;cases dd;exact .inl ba
   ·have holds:∀ j u,xs[j]?=some u->w.cell? ((⟨g,0,none⟩:Addr).add j)=some u:=World.ownsRow.cells (g:=g) fT rfl;have dd:=Lib.run_append_grow_string (P:=P) w t u ty e i (.int .u8 0) hu fg hi hz ⟨g,0,none⟩ n cap xs (by rw [b8];exact fT.1) holds ⟨str.toArray⟩ (by rw [pB];omega) (by rw [pB];omega) (by rw [wx,pB];exact growslice_fits (by omega) (by omega));rw [hr] at dd;cases dd;simp only [Value.ownBlock,Option.some.injEq] at ba;exact .inr (by omega)
 ·rcases fT.2 with ⟨rfl,rfl⟩ | ⟨g,cap,cur,rfl,nM,hg,px,xZ,fq,zL⟩
  ·exact .inl (fZ.mono fun k _ hk=>by cases hk)
  ·by_cases hroom:n+str.length<=cap
   ·have Rv:cur.size=cap:=by simpa using fq
    have dd:=Lib.run_append_room_string (P:=P) w t u ty e i hu fg hi b8 g n cap cur hg ⟨str.toArray⟩ (by rw [pB];exact hroom) (by rw [pB];omega);rw [hr] at dd;cases dd;exact .inr rfl
   ·have holds:∀ j u,xs[j]?=some u->w.cell? ((⟨g,0,none⟩:Addr).add j)=some u:=World.ownsRow.cells (g:=g) fT rfl;have dd:=Lib.run_append_grow_string (P:=P) w t u ty e i (.int .u8 0) hu fg hi hz ⟨g,0,none⟩ n cap xs (by rw [b8];exact fT.1) holds ⟨str.toArray⟩ (by rw [pB];omega) (by rw [pB];omega) (by rw [wx,pB];exact growslice_fits (by omega) (by omega));rw [hr] at dd;cases dd;exact .inl ⟨rfl,rfl,rfl,by simp,fun k hk _=>Below.heap_alloc _ _ _ (by simpa using hk)⟩
theorem R.pL {x:Operand} {s:TypeId} {i off:Nat} [hT:dh P s i off 1 false] {vs:List Value} {v:Value} (hx:ev l x=.agg vs.toArray) (hv:vs[off]?=some v):dZ P l w (.field s x i) v:=fun d ty pos af=>by
 obtain ⟨hT⟩:=hT;unfold HT at hT;split at hT
 ·rename_i fs hu;split at hT
  ·rename_i f hf;simp only [Bool.and_eq_true,beq_iff_eq,bne_iff_ne,ne_eq] at hT;obtain ⟨⟨⟨h1,h2⟩,h3⟩,h4⟩:=hT
   have Xi:(isAgg f.type).run P w=.ok false w:=by
    cases hd:P.underlying f.type with
    | none=>simp [hd] at h4
    | some d =>
     rw [hd] at h4;unfold isAgg;rw [Sem.run_bind,run_underlying hd w]
     cases d <;> simp_all [xe]
   have zM:vs.toArray[f.offset]?=some v:=by rw [h1];simpa using hv
   have XZ:vs[f.offset]?=some v:=by rw [h1];exact hv
   simp [execOp,Instr.field,hx,run_underlying hu,hf,part,asAgg,Xi,zM,XZ]
  ·cases hT
 ·cases hT
end
end Go.Xw
namespace Go.Xg
open Go.RowKit Go.Xw
section
variable {P:Program} {m:Nat} {Q:dQ} {fr:List GV} {Γ:List Ob} {ops:Array Oper} {rest:List Oper} {d:Option Tmp} {op:Op} {ty:TypeId} {pos:String} {af:Array Edge}
theorem YG.pL {x:Operand} {s:TypeId} {i off:Nat} [hT:dh P s i off 1 false] {cs:List GV} {g:GV} (hx:aP fr x=.agg cs) (hg:cs[off]?=some g):YG P (.field s x i) fr Γ g:=fun B K β w l hI hF=>by
 have h:=hF.ev x;rw [hx] at h;generalize hv:ev l x=v at h
 cases h with
 | agg vs _ hl h =>
  have hi:off < vs.length:=by rw [hl];exact (List.getElem?_eq_some_iff.1 hg).1
  exact ⟨vs[off],R.pL hv (by simp [hi]),h off _ g (by simp [hi]) hg⟩
abbrev bW (s:ae):List (List GV):=s.map fun c=>[.v (.int .u8 (c.toNat:Int))]
theorem GL.At {s x:Operand} {t u e:Nat} [hT:Bq P t e] [hU:oF P u] {i n fz:Nat} {rows:List (List GV)} {str:ae} (hx:aP fr x=.v (sv str)) (hs:aP fr s=.vec i n) (br:Γ[i]?=some (.vec e 1 fz rows)) (hn:rows.length=n) (bO:str.isEmpty=false)
  (hb:n+str.length<=140737488355328)
  (h:GL P m ops Q rest (bh fr d (.vec i (n+str.length))) (oset Γ i (.vec e 1 fz (rows++bW str)))) :
  GL P m ops Q (⟨d,.call ⟨.builtin .append,#[s,x],#[t,u]⟩,ty,pos,af,none⟩::rest) fr Γ:=fun B K β w l hm hI hF=>by
 subst hn
 have bO:str≠[]:=by intro h0;rw [h0] at bO;cases bO
 obtain ⟨h0,xs,o1,o2,o3,o4,o5,o6⟩:=hI.ob i _ br;have r7:=hF.ev s;rw [hs] at r7
 have pC:ev l s=h0:=by
  generalize hv:ev l s=v at r7
  cases r7 with
  | vec _ _ a c hh =>
   obtain ⟨h',m',e1,e2,e3⟩:=hh;rw [o1] at e1;cases e1;exact e3 rfl
 have iP:(bW str).flatten=str.map fun c=>GV.v (.int .u8 (c.toNat:Int)):=by
  unfold bW;clear hx bO hb h;generalize str=s
  induction s with
  | nil=>rfl
  | cons c r ih=>simp only [List.map_cons,flatten_cons,ih];rfl
 have hlen:(bW str).length=str.length:=by simp [bW]
 refine WL.At (base:=0) (v:=h0) (n:=rows.length) (xs:=xs) (str:=str) pC o2 (hF.gy hx) hb (Nat.zero_le _) ?_;intro v' w' how fZ sW uv
 obtain ⟨K',hK,pE,be⟩:=hI.grow br o1 ⟨o2,o3⟩ (news:=bW str) (ns:=jL str) (by rw [hlen];exact how) fZ sW (by rw [iP];exact (by
   have:(str.map fun c=>GV.v (.int .u8 (c.toNat:Int)))=kg (jL str):=by simp [kg,jL]
   rw [this];exact aV.self)) (fun r hr=>by
   simp only [bW,mem_map] at hr;obtain ⟨c,_,rfl⟩:=hr
   exact ⟨rfl,fun g hg=>by rw [List.mem_singleton] at hg;subst hg;rfl⟩) (by intro h0;exact bO (List.map_eq_nil_iff.1 h0)) (fun b ba o v ho hv=>by
  rcases uv with h7 | h7
  ·exact h7.c hv (fun h=>h)
  ·have gH:o < xs.length:=by rw [o2.1];exact Nat.lt_of_lt_of_le ho (Nat.mul_le_mul_right 1 o6)
   obtain ⟨b2,c2,ot,_,_,jh⟩:=o2.cells.2 (by intro h0;rw [h0] at gH;simp at gH)
   have ey:b2=b:=by rw [ot] at ba;cases ba;rfl
   subst ey;have BW:=jh o xs[o] (by simp [gH]);rw [eN,hv] at BW;cases BW;obtain ⟨b3,c3,Ko,_,_,Kk⟩:=how.cells.2 (by intro h0;have:xs=[]:=(List.append_eq_nil_iff.1 h0).1;rw [this] at gH;simp at gH)
   have wu:b3=b2:=by rw [Ko,ba] at h7;cases h7;rfl
   subst wu
   rw [<-eN];exact Kk o _ (by rw [getElem?_append_left gH];simp [gH]))
 rw [<-aX] at be;refine h B K' _ w' _ hm be ((hF.mono hK pE).put d ?_);obtain ⟨a,c,rfl⟩:=how.shape;exact .vec i _ a c ⟨_,_,bm,by simp [hlen],fun _=>by simp [hlen]⟩
end
theorem GF.So {P:Program} {f:FuncId} {vs:List Value} {v:Value} (h:∀ K β w,gB K β w->iI K w->nG P f vs w fun x w'=>x=v/\Ext gX w w'):GF P f (vs.map GV.v) [] (.v v) []:=fun B K β w us hm hI hF=>by
 have hv:us=vs:=by
  obtain ⟨h1,h2⟩:=hF;apply ext_getElem
  ·simpa using h1
  ·intro i h3 h4;have:=h2 i us[i] (.v vs[i]) (by simp [h3]) (by simp [h4]);exact Rel.eT this
 subst hv
 exact (h K β w hI.tab hI.fz).mono fun x w' ⟨h1,h2⟩=>⟨K,β,.v v,[],hI.same h2,by rw [h1];exact .v _,rfl,rfl⟩
theorem gB.cell {K:Fz} {β:Bt} {w:World} (h:gB K β w) (hf:iI K w) {b o:Nat} {x:Value} (hk:∀ m,vW m b o=some (.v x)):fp w.heap b o=some x:=by
 obtain ⟨m,h⟩:=h.le;obtain ⟨_,v,hv,hr⟩:=hf b o _ (h b o _ (hk m));rw [hv,Rel.eT hr]
theorem gB.maxLen {K:Fz} {β:Bt} {w:World} (h:gB K β w) (hf:iI K w):∃ m,w.cell? ⟨0,0,none⟩=some (.int .i64 m):=by
 obtain ⟨m,h⟩:=h.le
 have hk:vW m 0 0=some (.v (.int .i64 m)):=by simp [vW]
 obtain ⟨_,v,hv,hr⟩:=hf _ _ _ (h _ _ _ hk);exact ⟨m,by rw [eN,hv,Rel.eT hr]⟩
theorem rG.all {K:Fz} {β:Bt} {w:World} (h:gB K β w) (hf:iI K w) {b n:Nat} {zs:List Value} (hb:rG w b n) (hn:zs.length=n) (hk:∀ m o x,zs[o]?=some x->vW m b o=some (.v x)):∃ E z,w.heap[b]?=some (.cells zs.toArray E z):=by
 obtain ⟨cs,E,z,h1,h2⟩:=hb;refine ⟨E,z,?_⟩
 have:cs=zs.toArray:=by
  apply Array.ext
  ·simp [h2,hn]
  ·intro i hi nN
   have hx:zs[i]?=some zs.toArray[i]:=by simp
   have h3:=h.cell hf (b:=b) (o:=i) (fun m=>hk m i _ hx)
   have h4:fp w.heap b i=cs[i]?:=by rw [<-eN,cell_of_row w b i cs E z h1]
   rw [h4] at h3;simpa [hi] using h3
 rw [h1,this]
theorem GF.Wo {P:Program} {f:FuncId} {vs us:List Value} {E:TypeId} (h:∀ K β w,gB K β w->iI K w->nG P f vs w fun x w'=>x=.slice (some ⟨w.heap.size,0,none⟩) us.length us.length/\w'=w.alloc (.cells us.toArray E)):GF P f (vs.map GV.v) [] (.sl 1 (us.map fun u=>[.v u])) []:=fun B K β w ws hm hI hF=>by
 have hv:ws=vs:=by
  obtain ⟨h1,h2⟩:=hF;apply ext_getElem
  ·simpa using h1
  ·intro i h3 h4;have:=h2 i ws[i] (.v vs[i]) (by simp [h3]) (by simp [h4]);exact Rel.eT this
 subst hv
 refine (h K β w hI.tab hI.fz).mono fun x w' ⟨h1,h2⟩=>?_
 subst h1;subst h2;have hn:=tU.of w (.cells us.toArray E);obtain ⟨hle,be⟩:=hI.sS hn (cs:=us.map .v) aV.self (fun g hg=>by obtain ⟨u,_,rfl⟩:=List.mem_map.1 hg;rfl);refine ⟨_,β,.sl 1 (us.map fun u=>[.v u]),[],be,?_,rfl,rfl⟩;have:=Rel.sl (K:=kl K w.heap.size (us.map .v)) (β:=β) w.heap.size 0 us.length 1 (us.map fun u=>[.v u]) (fun i r hr=>?_) (by simp)
 ·rw [length_map] at this;exact this
 ·rw [getElem?_map] at hr
  cases hu:us[i]? with
  | none=>rw [hu] at hr;cases hr
  | some u =>
   rw [hu] at hr;cases hr;refine ⟨rfl,fun j g hg=>?_⟩
   cases j with
   | zero=>cases hg;rw [Nat.zero_add,Nat.mul_one,Nat.add_zero];exact tW (by rw [getElem?_map,hu];rfl)
   | succ j=>simp at hg
end Go.Xg
